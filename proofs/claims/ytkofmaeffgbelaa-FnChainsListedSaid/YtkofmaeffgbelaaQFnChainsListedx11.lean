/- Contracts of the functions, checked by the interpreter. No conditions. -/
import Derived.Test.YtkofmaeffgbelaaQFnChainsListedx0
import Derived.Test.YtkofmaeffgbelaaQFnChainsListedx1
import Derived.Test.YtkofmaeffgbelaaQFnChainsListedx2
import Derived.Test.YtkofmaeffgbelaaQFnChainsListedx3
import Derived.Test.YtkofmaeffgbelaaQFnChainsListedx4
import Derived.Test.YtkofmaeffgbelaaQFnChainsListedx5
import Derived.Test.YtkofmaeffgbelaaQFnChainsListedx6
import Derived.Test.YtkofmaeffgbelaaQFnChainsListedx7
import Derived.Test.YtkofmaeffgbelaaQFnChainsListedx8
import Derived.Test.YtkofmaeffgbelaaQFnChainsListedx9
import Derived.Test.YtkofmaeffgbelaaQFnChainsListedx10
import Derived.Test.YtkofmaeffgbelaaHeapB
import Derived.Laws.StructEq
namespace Go.Proofs.Ytkofmaeffgbelaa.QFnChainsListed
open Go.RowKit Go.Rh Go.Proofs.YtkofmaeffgbelaaW.PrintWords Go.Proofs.YtkofmaeffgbelaaW.PrintLast Go.Proofs.YtkofmaeffgbelaaW.PrintMore
set_option linter.unusedVariables false
set_option linter.unusedSimpArgs false
set_option maxRecDepth 100000
instance : MemFact:=⟨none⟩
theorem len0:((([] : List AV).length:Nat):Int) = 0:=rfl
theorem iI_len {k:IntKind} {xs:List Int}:(((iI k xs).length:Nat):Int) = (xs.length:Int):=by simp [iI]
theorem iL_len {α:Type} {f:List α → List AV} {xs:List (List α)}:(((iL f xs).length:Nat):Int) = (xs.length:Int):=by simp [iL]
theorem iI_rd {k:IntKind} {xs:List Int} {i:Int} (h0:0 ≤ i) (h1:i < (xs.length:Int)):0 ≤ i ∧ (iI k xs)[i.toNat]? = some (.val (.int k (rd xs i))):=get_of (f:=fun z => .val (.int k z)) (d:=0) h0 h1
theorem iI_app {k:IntKind} {b N:Nat} {xs ys:List Int} (hN:N * b ≤ 140737488355328) (h:xs.length + ys.length ≤ N):AppIs 1 b (iI k xs) (iI k ys) (iI k (xs ++ ys)):=app_of (f:=fun z => .val (.int k z)) (fun _ => rfl) hN h
theorem iL_app {α:Type} {f:List α → List AV} {b N:Nat} {xs ys:List (List α)} (hN:N * b ≤ 140737488355328) (h:xs.length + ys.length ≤ N):AppIs 1 b (iL f xs) (iL f ys) (iL f (xs ++ ys)):=app_of (f:=fun z => .sl (f z)) (fun _ => rfl) hN h
theorem iL_rd {α:Type} {f:List α → List AV} {xs:List (List α)} {i:Int} (h0:0 ≤ i) (h1:i < (xs.length:Int)):0 ≤ i ∧ (iL f xs)[i.toNat]? = some (.sl (f (xs.getD i.toNat []))):=get_of (f:=fun z => .sl (f z)) (d:=[]) h0 h1
theorem iBo_rd {xs:List Bool} {i:Int} (h0:0 ≤ i) (h1:i < (xs.length:Int)):0 ≤ i ∧ (iBo xs)[i.toNat]? = some (.val (.bool (rdOf false xs i))):=get_of (f:=fun z => .val (.bool z)) (d:=false) h0 h1
theorem iBo_rdv {xs:List Bool} {i:Int} {v:Bool} (h0:0 ≤ i) (h1:i < (xs.length:Int)) (hv:rdOf false xs i = v):0 ≤ i ∧ (iBo xs)[i.toNat]? = some (.val (.bool v)):=hv ▸ iBo_rd h0 h1
theorem iI_set {k:IntKind} {xs:List Int} {i x:Int} (h0:0 ≤ i) (h1:i < (xs.length:Int)):(iI k xs)[i.toNat]? = some (.val (.int k (rd xs i))) ∧ iI k (xs.set i.toNat x) = (iI k xs).set i.toNat (.val (.int k x)):=set_of (f:=fun z => .val (.int k z)) (d:=0) h0 h1
theorem iI_lt {k:IntKind} {xs:List Int} {i:Int} (h0:0 ≤ i) (h1:i < (xs.length:Int)):0 ≤ i ∧ i.toNat < (iI k xs).length:=lt_of (f:=fun z => .val (.int k z)) h0 h1
theorem iBo_set {xs:List Bool} {i:Int} {x:Bool} (h0:0 ≤ i) (h1:i < (xs.length:Int)):(iBo xs)[i.toNat]? = some (.val (.bool (rdOf false xs i))) ∧ iBo (xs.set i.toNat x) = (iBo xs).set i.toNat (.val (.bool x)):=set_of (f:=fun z => .val (.bool z)) (d:=false) h0 h1
theorem iBo_lt {xs:List Bool} {i:Int} (h0:0 ≤ i) (h1:i < (xs.length:Int)):0 ≤ i ∧ i.toNat < (iBo xs).length:=lt_of (f:=fun z => .val (.bool z)) h0 h1
/-- How a kind's elements lie in cells, as plain values. -/
structure FlatE {α : Type} (d : Kd α) (enc : α → AV) (cells : α → List Value) : Prop where
  k:∀ {w x cs},d.K w x cs → cs = cells x
  mk_:∀ w x,d.K w x (cells x)
  cs:∀ w ok x,Cs w ok (enc x) (cells x)
  un:∀ {w ok x cs},Cs w ok (enc x) cs → cs = cells x
  pos:0 < d.sz
theorem one_un {w:World} {ok:Nat → Nat → Prop} {v:Value} {cs:List Value} (h:Cs w ok (.val v) cs):cs = [v]:=by
  cases h with
  | one _ u _ hr => rw [(rep_val hr).1]
theorem flat_int (k:IntKind):FlatE (Kd.int k) (fun z => .val (.int k z)) (fun z => [.int k z]) :=
  ⟨fun h => h,fun _ _ => rfl,fun _ _ _ => .one _ _ rfl (.val _ rfl),fun h => one_un h,Nat.one_pos⟩
theorem agg_un {w:World} {ok:Nat → Nat → Prop} {l:List AV} {vs cs:List Value} (hv:valsOf l = some vs) (h:Cs w ok (.agg l) cs):cs = vs:=by
  cases h with
  | one _ _ hx _ => cases hx
  | agg _ _ hl ho h =>
    have:=valsOf_eq hv
    subst this
    exact vals_rep (by simpa using hl) h
theorem arg_of {α:Type} {d:Kd α} {enc:α → AV} {cells:α → List Value} (F:FlatE d enc cells) {w:World} {ok:Nat → Nat → Prop} {xs:List α} {v:Value} (h:Rep w ok (.sl (xs.map enc)) v) :
    ∃ A c,v = .slice A xs.length c ∧ xs.length ≤ c ∧ Kd.C d w A xs.length xs:=by
  obtain ⟨A,c,sz,ad,cs,h1,h2,h3,h4,h5,h6⟩:=rep_sl h
  simp only [List.length_map] at h1 h2 h3 h5 h6
  refine ⟨A,c,h1,h2.1,rfl,h2.2,fun hn => ⟨ad,(h3 hn).1,fun j p hj => ?_⟩⟩
  have hlt:=(List.getElem?_eq_some_iff.1 hj).1
  have hc:=F.un (h4 j (enc p) (by rw [List.getElem?_map,hj]; rfl))
  have hk:=F.mk_ w p
  have hl:=d.K_len hk
  have hsz:sz = d.sz:=by rw [← h5 j hlt,hc,hl]
  exact ⟨cells p,hl,hk,fun i u hu => by rw [← hsz,add_eq (h3 hn).2.1]; exact h6 j hlt i u (by rw [hc]; exact hu)⟩
theorem rep_of {α:Type} {d:Kd α} {enc:α → AV} {cells:α → List Value} (F:FlatE d enc cells) {w:World} {ok:Nat → Nat → Prop} {xs:List α} {A:Option Addr} {c:Nat} (h:Kd.C d w A xs.length xs) (hc:xs.length ≤ c) (hp:0 < d.sz)
    (hok:∀ ad,A = some ad → ad.block < w.heap.size → ∀ o,ok ad.block o):Rep w ok (.sl (xs.map enc)) (.slice A xs.length c):=by
  obtain ⟨_,h1,h2⟩:=h
  by_cases hn:0 < xs.length
  · obtain ⟨ad,rfl,h3⟩:=h2 hn
    have hcell:∀ (j:Nat) (p:α),xs[j]? = some p → (cells p).length = d.sz ∧ ∀ i u,(cells p)[i]? = some u → w.cell? (ad.add (j * d.sz + i)) = some u:=by
      intro j p hj
      obtain ⟨cs,g1,g2,g3⟩:=h3 j p hj
      rw [F.k g2] at g1 g3
      exact ⟨g1,g3⟩
    have h0:=hcell 0 xs[0] (List.getElem?_eq_getElem hn)
    have hb:ad.block < w.heap.size ∧ ad.spot = none:=by
      have hl:0 < (cells xs[0]).length:=by rw [h0.1]; exact hp
      have:=h0.2 0 _ (List.getElem?_eq_getElem hl)
      have hadd:ad.add (0 * d.sz + 0) = ad:=by rw [Nat.zero_mul]; rfl
      rw [hadd] at this
      unfold World.cell? at this
      split at this
      · rename_i cs t f hb
        refine ⟨(Array.getElem?_eq_some_iff.1 hb).1,?_⟩
        split at this
        · cases this
        · rename_i hs
          cases hsp:ad.spot with
          | none => rfl
          | some x => rw [hsp] at hs; exact absurd rfl hs
      · cases this
    refine .sl _ _ _ _ d.sz ad (fun i => (xs[i]?.map cells).getD []) (by simp) ⟨hc,h1⟩ (fun _ => ⟨rfl,hb.2,fun k _ => hok ad rfl hb.1 _⟩) (fun i x hx => ?_) (fun i hi => ?_) (fun i hi j u hu => ?_)
    · rw [List.getElem?_map] at hx
      obtain ⟨p,hp2,rfl⟩:=Option.map_eq_some_iff.1 hx
      rw [hp2]
      exact F.cs w ok p
    · rw [List.getElem?_eq_getElem hi]
      exact (hcell i _ (List.getElem?_eq_getElem hi)).1
    · rw [List.getElem?_eq_getElem hi] at hu
      rw [← add_eq hb.2]
      exact (hcell i _ (List.getElem?_eq_getElem hi)).2 j u hu
  · have h0:xs.length = 0:=by omega
    have hl:=List.length_eq_zero_iff.1 h0
    subst hl
    exact .sl [] A 0 c 0 ⟨0,0,none⟩ (fun _ => []) rfl ⟨hc,h1⟩ (fun h => absurd h (Nat.lt_irrefl _)) (fun i x hx => by simp at hx) (fun i hi => absurd hi (Nat.not_lt_zero _)) (fun i hi => absurd hi (Nat.not_lt_zero _))
theorem own_of {α:Type} {P:Program} {d:Kd α} {enc:α → AV} {cells:α → List Value} (F:FlatE d enc cells) {w':World} {base e:Nat} {okp:Nat → Prop} {xs:List α} {v:Value} (hi:(P.info? e).map (·.size) = some d.sz) (h:Kd.R d e w' base okp v xs) :
    ∃ sz inner,w'.ownsRow base e sz v (xs.map enc).length inner ∧ 0 < sz ∧ (P.info? e).map (·.size) = some sz ∧ ∀ (ok':Nat → Nat → Prop) (i:Nat) (x:AV),(xs.map enc)[i]? = some x → Cs w' ok' x ((inner.drop (i * sz)).take sz):=by
  obtain ⟨h0,inner,ho,hr⟩:=h
  refine ⟨d.sz,inner,by rw [List.length_map]; exact ho,F.pos,hi,fun ok' i x hx => ?_⟩
  rw [List.getElem?_map] at hx
  obtain ⟨p,hp,rfl⟩:=Option.map_eq_some_iff.1 hx
  rw [F.k (d.K_of_M (hr.2 i p hp))]
  exact F.cs _ _ _
def iS39 (xs:List S39):List AV:=xs.map fun z => .agg [.val (.int .i64 z.f0),.val (.int .i64 z.f1)]
theorem iS39_len {xs:List S39}:(((iS39 xs).length:Nat):Int) = (xs.length:Int):=by simp [iS39]
theorem iS39_rd {xs:List S39} {i:Int} (h0:0 ≤ i) (h1:i < (xs.length:Int)):0 ≤ i ∧ (iS39 xs)[i.toNat]? = some (.agg [.val (.int .i64 ((rd_T39 xs i).f0)),.val (.int .i64 ((rd_T39 xs i).f1))]):=get_of (f:=fun z:S39 => .agg [.val (.int .i64 z.f0),.val (.int .i64 z.f1)]) (d:=z39) h0 h1
theorem iS39_take {xs:List S39} {b:Int} (h1:0 ≤ b) (h2:b ≤ (xs.length:Int)):SubIs 2 (iS39 xs) 0 b (iS39 (xs.take b.toNat)):=sub_take (f:=fun z:S39 => .agg [.val (.int .i64 z.f0),.val (.int .i64 z.f1)]) (fun _ => rfl) h1 h2
theorem iS39_app {b N:Nat} {xs ys:List S39} (hN:N * b ≤ 140737488355328) (h:xs.length + ys.length ≤ N):AppIs 2 b (iS39 xs) (iS39 ys) (iS39 (xs ++ ys)):=app_of (f:=fun z:S39 => .agg [.val (.int .i64 z.f0),.val (.int .i64 z.f1)]) (fun _ => rfl) hN h
theorem iS39_set {xs:List S39} {i:Int} {x:S39} (h0:0 ≤ i) (h1:i < (xs.length:Int)):(iS39 xs)[i.toNat]? = some (.agg [.val (.int .i64 ((rd_T39 xs i).f0)),.val (.int .i64 ((rd_T39 xs i).f1))]) ∧ iS39 (xs.set i.toNat x) = (iS39 xs).set i.toNat (.agg [.val (.int .i64 x.f0),.val (.int .i64 x.f1)]):=set_of (f:=fun z:S39 => .agg [.val (.int .i64 z.f0),.val (.int .i64 z.f1)]) (d:=z39) h0 h1
theorem iS39_lt {xs:List S39} {i:Int} (h0:0 ≤ i) (h1:i < (xs.length:Int)):0 ≤ i ∧ i.toNat < (iS39 xs).length:=lt_of (f:=fun z:S39 => .agg [.val (.int .i64 z.f0),.val (.int .i64 z.f1)]) h0 h1
theorem flat_39:FlatE k39 (fun z => .agg [.val (.int .i64 z.f0),.val (.int .i64 z.f1)]) (fun z => [.int .i64 z.f0,.int .i64 z.f1]) :=
  ⟨fun h => k39_open h,fun w x => k39_mk w x,fun w ok x => .agg _ _ rfl (by intro x hx; simp at hx; rcases hx with rfl | rfl <;> rfl) (by
    intro i x v hx hv
    match i with
    | 0 => simp only [List.getElem?_cons_succ,List.getElem?_cons_zero,Option.some.injEq] at hx hv; subst hx hv; exact .val _ rfl
    | 1 => simp only [List.getElem?_cons_succ,List.getElem?_cons_zero,Option.some.injEq] at hx hv; subst hx hv; exact .val _ rfl
    | i + 2 => simp at hx),fun h => agg_un rfl h,by decide⟩
theorem agg_39_eql {x y:Operand} {a0 b0:Int} {a1 b1:Int} {v:Bool} (h:((a0 == b0) && (a1 == b1)) = v):BinIs Try.prog .eql 39 x y (.agg [.int .i64 a0,.int .i64 a1].toArray) (.agg [.int .i64 b0,.int .i64 b1].toArray) (.bool v):=by
  intro w
  have hu:=Try.underlying39
  subst h
  by_cases g0:a0 = b0 <;> by_cases g1:a1 = b1 <;> simp_all [go_sem]
theorem build_39_2 {p0:Int} {p1:Int}:BuildIs Try.prog 39 #[(0,.int .i64 p0),(1,.int .i64 p1)] (.agg [.int .i64 p0,.int .i64 p1].toArray):=by
  intro w
  simp [go_sem,Instr.build]
theorem conv_3_43 {a:Int}:ConvIs Try.prog 3 43 (.int .i64 a) (.int .u64 (IntKind.wrap .u64 a)):=by
  rw [← show IntKind.wrap .u64 a = IntKind.wrap .u64 a from rfl]
  exact conv_int (by rw [Try.underlying3]; rfl) Try.underlying43
theorem conv_5_3 {a:Int}:ConvIs Try.prog 5 3 (.int .u8 a) (.int .i64 (wrap64 a)):=by
  rw [← IntWalk.i64_left]
  exact conv_int (by rw [Try.underlying5]; rfl) Try.underlying3
theorem conv_43_3 {a:Int}:ConvIs Try.prog 43 3 (.int .u64 a) (.int .i64 (wrap64 a)):=by
  rw [← IntWalk.i64_left]
  exact conv_int (by rw [Try.underlying43]; rfl) Try.underlying3
theorem max_i64_3_3_ff_3 {a b:Int}:CalIs Try.prog .max #[3,3] 3 #[false,false] #[.int .i64 a,.int .i64 b] (.int .i64 (mx a b)):=by
  intro w
  simp [go_sem,builtin]
  unfold mx
  omega
theorem min_i64_3_3_ff_3 {a b:Int}:CalIs Try.prog .min #[3,3] 3 #[false,false] #[.int .i64 a,.int .i64 b] (.int .i64 (mn a b)):=by
  intro w
  simp [go_sem,builtin]
  unfold mn
  omega
theorem ad_14 {k:Nat} {l0:List (S39)} {r:Bool} (h:impl_IsHand.f k l0 = some r):CallH Try.prog 14 [.sl (iS39 l0)] [] (vb r) [] :=
  callOk_res Try.func14 rfl rfl rfl fun w ok vs hok hv hglob_ => by
    cases hv with
    | cons h1_ t1_ =>
     cases t1_
     obtain ⟨A0,c0,rfl,hc0,hr0⟩:=arg_of flat_39 h1_
     exact (impl_IsHand.calls k A0 c0 l0 r w hr0 hc0 h).mono (by rintro e w' ⟨rfl,hb_⟩; exact ⟨_,rfl,(rep_resV rfl),hb_⟩)

theorem ad_46 {l0:List (Int)} {r:List (Int)} (h:slices_Clone_int_int.f l0 = some r):CallH Try.prog 46 [.sl (iI .i64 l0)] [] (.row 500000) [(500000,.ow true 3 (iI .i64 r))] :=
  callOk_own Try.func46 rfl rfl rfl fun w ok vs hok hv hglob_ => by
    cases hv with
    | cons h1_ t1_ =>
     cases t1_
     obtain ⟨A0,c0,rfl,_hc0,hr0⟩:=arg_of (flat_int .i64) h1_
     exact (slices_Clone_int_int.calls A0 c0 l0 r w hr0 _hc0 h).mono (by rintro e w' ⟨v0_,rfl,hRv0_,hb_⟩; exact ⟨_,rfl,(own_of (flat_int .i64) (by kernel_rfl) hRv0_),hb_⟩)

theorem ad_48 {l0:List (S39)} {r:List (S39)} (h:slices_Clone_impl_Tile_impl_Tile.f l0 = some r):CallH Try.prog 48 [.sl (iS39 l0)] [] (.row 500000) [(500000,.ow true 39 (iS39 r))] :=
  callOk_own Try.func48 rfl rfl rfl fun w ok vs hok hv hglob_ => by
    cases hv with
    | cons h1_ t1_ =>
     cases t1_
     obtain ⟨A0,c0,rfl,_hc0,hr0⟩:=arg_of flat_39 h1_
     exact (slices_Clone_impl_Tile_impl_Tile.calls A0 c0 l0 r w hr0 _hc0 h).mono (by rintro e w' ⟨v0_,rfl,hRv0_,hb_⟩; exact ⟨_,rfl,(own_of flat_39 (by kernel_rfl) hRv0_),hb_⟩)

theorem ad_34 {l0:List Int} {a1:Int} {a2:Int} {r:Bool} (h:impl_areWithin.f l0 a1 a2 = some r):CallH Try.prog 34 [.sl (iI .i64 l0),vi a1,vi a2] [] (vb r) [] :=
  callOk_res Try.func34 rfl rfl rfl fun w ok vs hok hv hglob_ => by
    cases hv with
    | cons h1_ t1_ =>
     cases t1_ with
     | cons h2_ t2_ =>
      cases t2_ with
      | cons h3_ t3_ =>
       cases t3_
       obtain ⟨A0,c0,rfl,_hc0,hr0⟩:=arg_of (flat_int .i64) h1_
       obtain rfl:=toV_rep rfl h2_
       obtain rfl:=toV_rep rfl h3_
       exact (impl_areWithin.calls A0 c0 l0 a1 a2 r w hr0 _hc0 h).mono (by rintro e w' ⟨rfl,hb_⟩; exact ⟨_,rfl,(rep_resV rfl),hb_⟩)

def hn4:Hint:=⟨[],[]⟩
def o4 (r:Bool):List AV:=[vb r]
def p4 (r:Bool):List (Nat × AV):=[]
theorem ad_4 {l0:List Int} {l1:List Int} {r:Bool} (h:laws_big.f l0 l1 = some r):CallH Try.prog 4 [.sl (iI .u8 l0),.sl (iI .u8 l1)] [] (vb r) []:=by
 unfold laws_big.f at h
 refine call_ok (c:=bodyOf Try.f4) (rs:=o4 r) (post:=p4 r) Try.func4 rfl rfl rfl (by kernel_rfl) ?_
 show AtP Try.prog 16 (bodyOf Try.f4) (KR Try.prog Try.f4.results.toList (o4 r) (p4 r)) [] [] (lookA [(0,.sl (iI .u8 l0)),(1,.sl (iI .u8 l1))])
 refine at_ (hn:=hn4) ?_
 refine mid (hn:=hn4) 4 2 [.val (.int .i64 (l0.length:Int))] (iI_len (k:=.u8) (xs:=l0)) (by kernel_rfl) ?_
 rcases ite_ h with ⟨g1,h2⟩ | ⟨g1,h2⟩
 ·obtain rfl:=Option.some.inj h2
  exact leafRet (hn:=hn4) 3 [.val (.bool true)] [] .ret (.inr rfl) (by kernel_rfl) (int_gtr (P:=Try.prog) (t:=3) (k:=.i64) (x:=(.tmp 6)) (y:=(.const (.int .i64 1048576))) (a:=(l0.length:Int)) (b:=1048576) (v:=true) (decide_eq_true g1)) (by kernel_rfl)
 ·obtain rfl:=Option.some.inj h2
  exact leafRet (hn:=hn4) 3 [.val (.bool false),.val (.int .i64 (l1.length:Int)),.val (.int .i64 (l0.length:Int)),.val (.int .i64 (wrap64 (1048576 - (l0.length:Int)))),.val (.bool (decide ((l1.length:Int) > (wrap64 (1048576 - (l0.length:Int))))))] [] .ret (.inr rfl) (by kernel_rfl) (And.intro (int_gtr (P:=Try.prog) (t:=3) (k:=.i64) (x:=(.tmp 6)) (y:=(.const (.int .i64 1048576))) (a:=(l0.length:Int)) (b:=1048576) (v:=false) (decide_eq_false g1)) (And.intro (iI_len (k:=.u8) (xs:=l1)) (And.intro (iI_len (k:=.u8) (xs:=l0)) (And.intro (int_sub (P:=Try.prog) (t:=3) (k:=.i64) (x:=(.const (.int .i64 1048576))) (y:=(.tmp 12)) (a:=1048576) (b:=(l0.length:Int)) (c:=(wrap64 (1048576 - (l0.length:Int)))) (IntWalk.i64_left _)) (int_gtr (P:=Try.prog) (t:=3) (k:=.i64) (x:=(.tmp 10)) (y:=(.tmp 13)) (a:=(l1.length:Int)) (b:=(wrap64 (1048576 - (l0.length:Int)))) (v:=(decide ((l1.length:Int) > (wrap64 (1048576 - (l0.length:Int)))))) rfl))))) (by kernel_rfl)

def hn59:Hint:=⟨[(6,[1000000]),(10,[1000000]),(16,[1000000]),(20,[1000000]),(27,[1000000]),(31,[1000000]),(35,[1000000]),(43,[1000000]),(46,[1000000]),(50,[1000000]),(57,[1000000])],[]⟩
def o59 (r:Int × Int × Int) (s0_0:List Int) (s0_1:Int) (s0_2:Int):List AV:=[vi r.1]
def p59 (r:Int × Int × Int) (s0_0:List Int) (s0_1:Int) (s0_2:Int):List (Nat × AV):=[(1000000,.box (.agg [.sl (iI .u8 s0_0),vi r.2.1,.val (.int .u64 r.2.2)]))]
theorem ad_59 {s0_0:List Int} {s0_1:Int} {s0_2:Int} {r1:Int} {r2:Int} {r3:Int} (h:spec_l1Cur_next.f s0_0 s0_1 s0_2 = some (r1,r2,r3)):CallH Try.prog 59 [.loc 1000000 0] [(1000000,.box (.agg [.sl (iI .u8 s0_0),vi s0_1,.val (.int .u64 s0_2)]))] (vi r1) [(1000000,.box (.agg [.sl (iI .u8 s0_0),vi r2,.val (.int .u64 r3)]))]:=by
 unfold spec_l1Cur_next.f at h
 refine call_ok (c:=bodyOf Try.f59) (rs:=o59 (r1,r2,r3) s0_0 s0_1 s0_2) (post:=p59 (r1,r2,r3) s0_0 s0_1 s0_2) Try.func59 rfl rfl rfl (by kernel_rfl) ?_
 show AtP Try.prog 62 (bodyOf Try.f59) (KR Try.prog Try.f59.results.toList (o59 (r1,r2,r3) s0_0 s0_1 s0_2) (p59 (r1,r2,r3) s0_0 s0_1 s0_2)) [] [] (lookA [(0,.loc 1000000 0),(1000000,.box (.agg [.sl (iI .u8 s0_0),vi s0_1,.val (.int .u64 s0_2)]))])
 refine at_ (hn:=hn59) ?_
 refine mid (hn:=hn59) 8 9 [.val (.int .i64 (s0_0.length:Int))] (iI_len (k:=.u8) (xs:=s0_0)) (by kernel_rfl) ?_
 rcases ite_ h with ⟨g1,h2⟩ | ⟨g1,h2⟩
 ·obtain ⟨g3,h4⟩:=ip_ h2
  refine mid (hn:=hn59) 13 9 [.val (.bool true),.elem (.val (.int .u8 (rd s0_0 s0_1))),.val (.int .i64 (wrap64 (rd s0_0 s0_1))),.val (.int .i64 (wrap64 (s0_1 + 1))),.val (.int .u64 (IntKind.wrap .u64 (s0_2 * 6364136223846793005))),.val (.int .u64 (IntKind.wrap .u64 (wrap64 (rd s0_0 s0_1)))),.val (.int .u64 (IntKind.wrap .u64 ((IntKind.wrap .u64 (s0_2 * 6364136223846793005)) + (IntKind.wrap .u64 (wrap64 (rd s0_0 s0_1)))))),.val (.int .u64 (IntKind.wrap .u64 ((IntKind.wrap .u64 ((IntKind.wrap .u64 (s0_2 * 6364136223846793005)) + (IntKind.wrap .u64 (wrap64 (rd s0_0 s0_1))))) + 1442695040888963407))),.val (.int .i64 (s0_0.length:Int))] (And.intro (int_lss (P:=Try.prog) (t:=3) (k:=.i64) (x:=(.tmp 7)) (y:=(.tmp 12)) (a:=s0_1) (b:=(s0_0.length:Int)) (v:=true) (decide_eq_true g1)) (And.intro (And.intro (iI_rd (k:=.u8) (xs:=s0_0) (i:=s0_1) g3 g1) (conv_5_3 (a:=(rd s0_0 s0_1)))) (And.intro (int_add (P:=Try.prog) (t:=3) (k:=.i64) (x:=(.tmp 28)) (y:=(.const (.int .i64 1))) (a:=s0_1) (b:=1) (c:=(wrap64 (s0_1 + 1))) (IntWalk.i64_left _)) (And.intro (And.intro (int_mul (P:=Try.prog) (t:=43) (k:=.u64) (x:=(.tmp 36)) (y:=(.const (.int .u64 6364136223846793005))) (a:=s0_2) (b:=6364136223846793005) (c:=(IntKind.wrap .u64 (s0_2 * 6364136223846793005))) rfl) (And.intro (conv_3_43 (a:=(wrap64 (rd s0_0 s0_1)))) (And.intro (int_add (P:=Try.prog) (t:=43) (k:=.u64) (x:=(.tmp 37)) (y:=(.tmp 39)) (a:=(IntKind.wrap .u64 (s0_2 * 6364136223846793005))) (b:=(IntKind.wrap .u64 (wrap64 (rd s0_0 s0_1)))) (c:=(IntKind.wrap .u64 ((IntKind.wrap .u64 (s0_2 * 6364136223846793005)) + (IntKind.wrap .u64 (wrap64 (rd s0_0 s0_1)))))) rfl) (int_add (P:=Try.prog) (t:=43) (k:=.u64) (x:=(.tmp 40)) (y:=(.const (.int .u64 1442695040888963407))) (a:=(IntKind.wrap .u64 ((IntKind.wrap .u64 (s0_2 * 6364136223846793005)) + (IntKind.wrap .u64 (wrap64 (rd s0_0 s0_1)))))) (b:=1442695040888963407) (c:=(IntKind.wrap .u64 ((IntKind.wrap .u64 ((IntKind.wrap .u64 (s0_2 * 6364136223846793005)) + (IntKind.wrap .u64 (wrap64 (rd s0_0 s0_1))))) + 1442695040888963407))) rfl)))) (iI_len (k:=.u8) (xs:=s0_0)))))) (by kernel_rfl) ?_
  rcases ite_ h4 with ⟨g5,h6⟩ | ⟨g5,h6⟩
  ·obtain ⟨rfl,rfl,rfl⟩:=pr3_ h6
   exact leafRet (hn:=hn59) 8 [.val (.bool true)] [] .ret (.inr rfl) (by kernel_rfl) (int_leq (P:=Try.prog) (t:=3) (k:=.i64) (x:=(.tmp 47)) (y:=(.tmp 52)) (a:=(wrap64 (s0_1 + 1))) (b:=(s0_0.length:Int)) (v:=true) (decide_eq_true g5)) (by kernel_rfl)
  ·obtain ⟨rfl,rfl,rfl⟩:=pr3_ h6
   exact leafRet (hn:=hn59) 9 [.val (.bool false),.val (.int .u64 ((IntKind.wrap .u64 ((IntKind.wrap .u64 ((IntKind.wrap .u64 (s0_2 * 6364136223846793005)) + (IntKind.wrap .u64 (wrap64 (rd s0_0 s0_1))))) + 1442695040888963407)) / 1099511627776)),.val (.int .u64 (Go.bits .and .u64 ((IntKind.wrap .u64 ((IntKind.wrap .u64 ((IntKind.wrap .u64 (s0_2 * 6364136223846793005)) + (IntKind.wrap .u64 (wrap64 (rd s0_0 s0_1))))) + 1442695040888963407)) / 1099511627776) 255)),.val (.int .i64 (wrap64 (Go.bits .and .u64 ((IntKind.wrap .u64 ((IntKind.wrap .u64 ((IntKind.wrap .u64 (s0_2 * 6364136223846793005)) + (IntKind.wrap .u64 (wrap64 (rd s0_0 s0_1))))) + 1442695040888963407)) / 1099511627776) 255)))] [] .ret (.inr rfl) (by kernel_rfl) (And.intro (int_leq (P:=Try.prog) (t:=3) (k:=.i64) (x:=(.tmp 47)) (y:=(.tmp 52)) (a:=(wrap64 (s0_1 + 1))) (b:=(s0_0.length:Int)) (v:=false) (decide_eq_false g5)) (And.intro (int_shr (P:=Try.prog) (t:=43) (k:=.u64) (x:=(.tmp 58)) (y:=(.const (.int .u64 40))) (a:=(IntKind.wrap .u64 ((IntKind.wrap .u64 ((IntKind.wrap .u64 (s0_2 * 6364136223846793005)) + (IntKind.wrap .u64 (wrap64 (rd s0_0 s0_1))))) + 1442695040888963407))) (b:=40) (c:=((IntKind.wrap .u64 ((IntKind.wrap .u64 ((IntKind.wrap .u64 (s0_2 * 6364136223846793005)) + (IntKind.wrap .u64 (wrap64 (rd s0_0 s0_1))))) + 1442695040888963407)) / 1099511627776)) (k':=.u64) (by decide) rfl) (And.intro (int_and (P:=Try.prog) (t:=43) (k:=.u64) (x:=(.tmp 59)) (y:=(.const (.int .u64 255))) (a:=((IntKind.wrap .u64 ((IntKind.wrap .u64 ((IntKind.wrap .u64 (s0_2 * 6364136223846793005)) + (IntKind.wrap .u64 (wrap64 (rd s0_0 s0_1))))) + 1442695040888963407)) / 1099511627776)) (b:=255) (c:=(Go.bits .and .u64 ((IntKind.wrap .u64 ((IntKind.wrap .u64 ((IntKind.wrap .u64 (s0_2 * 6364136223846793005)) + (IntKind.wrap .u64 (wrap64 (rd s0_0 s0_1))))) + 1442695040888963407)) / 1099511627776) 255)) rfl) (conv_43_3 (a:=(Go.bits .and .u64 ((IntKind.wrap .u64 ((IntKind.wrap .u64 ((IntKind.wrap .u64 (s0_2 * 6364136223846793005)) + (IntKind.wrap .u64 (wrap64 (rd s0_0 s0_1))))) + 1442695040888963407)) / 1099511627776) 255)))))) (by kernel_rfl)
 ·refine mid (hn:=hn59) 13 9 [.val (.bool false),.val (.int .i64 (wrap64 (s0_1 + 1))),.val (.int .u64 (IntKind.wrap .u64 (s0_2 * 6364136223846793005))),.val (.int .u64 (IntKind.wrap .u64 0)),.val (.int .u64 (IntKind.wrap .u64 (IntKind.wrap .u64 (s0_2 * 6364136223846793005)))),.val (.int .u64 (IntKind.wrap .u64 ((IntKind.wrap .u64 (IntKind.wrap .u64 (s0_2 * 6364136223846793005))) + 1442695040888963407))),.val (.int .i64 (s0_0.length:Int))] (And.intro (int_lss (P:=Try.prog) (t:=3) (k:=.i64) (x:=(.tmp 7)) (y:=(.tmp 12)) (a:=s0_1) (b:=(s0_0.length:Int)) (v:=false) (decide_eq_false g1)) (And.intro (int_add (P:=Try.prog) (t:=3) (k:=.i64) (x:=(.tmp 28)) (y:=(.const (.int .i64 1))) (a:=s0_1) (b:=1) (c:=(wrap64 (s0_1 + 1))) (IntWalk.i64_left _)) (And.intro (And.intro (int_mul (P:=Try.prog) (t:=43) (k:=.u64) (x:=(.tmp 36)) (y:=(.const (.int .u64 6364136223846793005))) (a:=s0_2) (b:=6364136223846793005) (c:=(IntKind.wrap .u64 (s0_2 * 6364136223846793005))) rfl) (And.intro (conv_3_43 (a:=0)) (And.intro (int_add (P:=Try.prog) (t:=43) (k:=.u64) (x:=(.tmp 37)) (y:=(.tmp 39)) (a:=(IntKind.wrap .u64 (s0_2 * 6364136223846793005))) (b:=(IntKind.wrap .u64 0)) (c:=(IntKind.wrap .u64 (IntKind.wrap .u64 (s0_2 * 6364136223846793005)))) u64_add0) (int_add (P:=Try.prog) (t:=43) (k:=.u64) (x:=(.tmp 40)) (y:=(.const (.int .u64 1442695040888963407))) (a:=(IntKind.wrap .u64 (IntKind.wrap .u64 (s0_2 * 6364136223846793005)))) (b:=1442695040888963407) (c:=(IntKind.wrap .u64 ((IntKind.wrap .u64 (IntKind.wrap .u64 (s0_2 * 6364136223846793005))) + 1442695040888963407))) rfl)))) (iI_len (k:=.u8) (xs:=s0_0))))) (by kernel_rfl) ?_
  rcases ite_ h2 with ⟨g7,h8⟩ | ⟨g7,h8⟩
  ·obtain ⟨rfl,rfl,rfl⟩:=pr3_ h8
   exact leafRet (hn:=hn59) 8 [.val (.bool true)] [] .ret (.inr rfl) (by kernel_rfl) (int_leq (P:=Try.prog) (t:=3) (k:=.i64) (x:=(.tmp 47)) (y:=(.tmp 52)) (a:=(wrap64 (s0_1 + 1))) (b:=(s0_0.length:Int)) (v:=true) (decide_eq_true g7)) (by kernel_rfl)
  ·obtain ⟨rfl,rfl,rfl⟩:=pr3_ h8
   exact leafRet (hn:=hn59) 9 [.val (.bool false),.val (.int .u64 ((IntKind.wrap .u64 ((IntKind.wrap .u64 (IntKind.wrap .u64 (s0_2 * 6364136223846793005))) + 1442695040888963407)) / 1099511627776)),.val (.int .u64 (Go.bits .and .u64 ((IntKind.wrap .u64 ((IntKind.wrap .u64 (IntKind.wrap .u64 (s0_2 * 6364136223846793005))) + 1442695040888963407)) / 1099511627776) 255)),.val (.int .i64 (wrap64 (Go.bits .and .u64 ((IntKind.wrap .u64 ((IntKind.wrap .u64 (IntKind.wrap .u64 (s0_2 * 6364136223846793005))) + 1442695040888963407)) / 1099511627776) 255)))] [] .ret (.inr rfl) (by kernel_rfl) (And.intro (int_leq (P:=Try.prog) (t:=3) (k:=.i64) (x:=(.tmp 47)) (y:=(.tmp 52)) (a:=(wrap64 (s0_1 + 1))) (b:=(s0_0.length:Int)) (v:=false) (decide_eq_false g7)) (And.intro (int_shr (P:=Try.prog) (t:=43) (k:=.u64) (x:=(.tmp 58)) (y:=(.const (.int .u64 40))) (a:=(IntKind.wrap .u64 ((IntKind.wrap .u64 (IntKind.wrap .u64 (s0_2 * 6364136223846793005))) + 1442695040888963407))) (b:=40) (c:=((IntKind.wrap .u64 ((IntKind.wrap .u64 (IntKind.wrap .u64 (s0_2 * 6364136223846793005))) + 1442695040888963407)) / 1099511627776)) (k':=.u64) (by decide) rfl) (And.intro (int_and (P:=Try.prog) (t:=43) (k:=.u64) (x:=(.tmp 59)) (y:=(.const (.int .u64 255))) (a:=((IntKind.wrap .u64 ((IntKind.wrap .u64 (IntKind.wrap .u64 (s0_2 * 6364136223846793005))) + 1442695040888963407)) / 1099511627776)) (b:=255) (c:=(Go.bits .and .u64 ((IntKind.wrap .u64 ((IntKind.wrap .u64 (IntKind.wrap .u64 (s0_2 * 6364136223846793005))) + 1442695040888963407)) / 1099511627776) 255)) rfl) (conv_43_3 (a:=(Go.bits .and .u64 ((IntKind.wrap .u64 ((IntKind.wrap .u64 (IntKind.wrap .u64 (s0_2 * 6364136223846793005))) + 1442695040888963407)) / 1099511627776) 255)))))) (by kernel_rfl)

def hn37:Hint:=⟨[(8,[1000000]),(14,[1000000])],[]⟩
def o37 (r:Int × Int × Int) (s0_0:List Int) (s0_1:Int) (s0_2:Int):List AV:=[vi r.1]
def p37 (r:Int × Int × Int) (s0_0:List Int) (s0_1:Int) (s0_2:Int):List (Nat × AV):=[(1000000,.box (.agg [.sl (iI .u8 s0_0),vi r.2.1,.val (.int .u64 r.2.2)]))]
theorem ad_37 {s0_0:List Int} {s0_1:Int} {s0_2:Int} {a1:Int} {r1:Int} {r2:Int} {r3:Int} (h:spec_l1Cur_pick.f s0_0 s0_1 s0_2 a1 = some (r1,r2,r3)):CallH Try.prog 37 [.loc 1000000 0,vi a1] [(1000000,.box (.agg [.sl (iI .u8 s0_0),vi s0_1,.val (.int .u64 s0_2)]))] (vi r1) [(1000000,.box (.agg [.sl (iI .u8 s0_0),vi r2,.val (.int .u64 r3)]))]:=by
 unfold spec_l1Cur_pick.f at h
 refine call_ok (c:=bodyOf Try.f37) (rs:=o37 (r1,r2,r3) s0_0 s0_1 s0_2) (post:=p37 (r1,r2,r3) s0_0 s0_1 s0_2) Try.func37 rfl rfl rfl (by kernel_rfl) ?_
 show AtP Try.prog 20 (bodyOf Try.f37) (KR Try.prog Try.f37.results.toList (o37 (r1,r2,r3) s0_0 s0_1 s0_2) (p37 (r1,r2,r3) s0_0 s0_1 s0_2)) [] [] (lookA [(0,.loc 1000000 0),(1,vi a1),(1000000,.box (.agg [.sl (iI .u8 s0_0),vi s0_1,.val (.int .u64 s0_2)]))])
 refine at_ (hn:=hn37) ?_
 rcases ite_ h with ⟨g1,h2⟩ | ⟨g1,h2⟩
 ·obtain ⟨rfl,rfl,rfl⟩:=pr3_ h2
  exact leafRet (hn:=hn37) 13 [.val (.bool true)] [] .ret (.inr rfl) (by kernel_rfl) (int_leq (P:=Try.prog) (t:=3) (k:=.i64) (x:=(.tmp 6)) (y:=(.const (.int .i64 1))) (a:=a1) (b:=1) (v:=true) (decide_eq_true g1)) (by kernel_rfl)
 ·obtain ⟨⟨bt102_1,bt102_2,bt102_3⟩,c3,h4⟩:=bd_ h2
  try dsimp only at h4
  refine mid (hn:=hn37) 15 1 [.val (.bool false),.callH [1000000] (vi bt102_1) [(1000000,.box (.agg [.sl (iI .u8 s0_0),vi bt102_2,.val (.int .u64 bt102_3)]))]] (And.intro (int_leq (P:=Try.prog) (t:=3) (k:=.i64) (x:=(.tmp 6)) (y:=(.const (.int .i64 1))) (a:=a1) (b:=1) (v:=false) (decide_eq_false g1)) (CallH.ren [(1000000,1000000)] rfl rfl (ad_59 c3))) (by kernel_rfl) ?_
  rcases ite_ h4 with ⟨g5,h6⟩ | ⟨g5,h6⟩
  ·obtain ⟨⟨bt105_1,bt105_2,bt105_3⟩,c7,h8⟩:=bd_ h6
   try dsimp only at h8
   obtain ⟨g9,h10⟩:=in_ h8
   obtain ⟨rfl,rfl,rfl⟩:=pr3_ h10
   exact leafRet (hn:=hn37) 9 [.val (.bool true),.val (.int .i64 (wrap64 (bt102_1 * 256))),.callH [1000000] (vi bt105_1) [(1000000,.box (.agg [.sl (iI .u8 s0_0),vi bt105_2,.val (.int .u64 bt105_3)]))],.val (.int .i64 (wrap64 ((wrap64 (bt102_1 * 256)) + bt105_1))),.val (.int .i64 (Int.tmod (wrap64 ((wrap64 (bt102_1 * 256)) + bt105_1)) a1))] [] .ret (.inr rfl) (by kernel_rfl) (And.intro (int_gtr (P:=Try.prog) (t:=3) (k:=.i64) (x:=(.tmp 10)) (y:=(.const (.int .i64 200))) (a:=a1) (b:=200) (v:=true) (decide_eq_true g5)) (And.intro (And.intro (int_mul (P:=Try.prog) (t:=3) (k:=.i64) (x:=(.tmp 12)) (y:=(.const (.int .i64 256))) (a:=bt102_1) (b:=256) (c:=(wrap64 (bt102_1 * 256))) (IntWalk.i64_left _)) (And.intro (CallH.ren [(1000000,1000000)] rfl rfl (ad_59 c7)) (int_add (P:=Try.prog) (t:=3) (k:=.i64) (x:=(.tmp 13)) (y:=(.tmp 15)) (a:=(wrap64 (bt102_1 * 256))) (b:=bt105_1) (c:=(wrap64 ((wrap64 (bt102_1 * 256)) + bt105_1))) (IntWalk.i64_left _)))) (int_rem (P:=Try.prog) (t:=3) (k:=.i64) (x:=(.tmp 17)) (y:=(.tmp 18)) (a:=(wrap64 ((wrap64 (bt102_1 * 256)) + bt105_1))) (b:=a1) (c:=(Int.tmod (wrap64 ((wrap64 (bt102_1 * 256)) + bt105_1)) a1)) g9 rfl))) (by kernel_rfl)
  ·obtain ⟨g11,h12⟩:=in_ h6
   obtain ⟨rfl,rfl,rfl⟩:=pr3_ h12
   exact leafRet (hn:=hn37) 9 [.val (.bool false),.val (.int .i64 (Int.tmod bt102_1 a1))] [] .ret (.inr rfl) (by kernel_rfl) (And.intro (int_gtr (P:=Try.prog) (t:=3) (k:=.i64) (x:=(.tmp 10)) (y:=(.const (.int .i64 200))) (a:=a1) (b:=200) (v:=false) (decide_eq_false g5)) (int_rem (P:=Try.prog) (t:=3) (k:=.i64) (x:=(.tmp 17)) (y:=(.tmp 18)) (a:=bt102_1) (b:=a1) (c:=(Int.tmod bt102_1 a1)) g11 rfl)) (by kernel_rfl)

def hn20:Hint:=⟨[(5,[1000000])],[]⟩
def o20 (r:Bool × Int × Int) (s0_0:List Int) (s0_1:Int) (s0_2:Int):List AV:=[vb r.1]
def p20 (r:Bool × Int × Int) (s0_0:List Int) (s0_1:Int) (s0_2:Int):List (Nat × AV):=[(1000000,.box (.agg [.sl (iI .u8 s0_0),vi r.2.1,.val (.int .u64 r.2.2)]))]
theorem ad_20 {s0_0:List Int} {s0_1:Int} {s0_2:Int} {a1:Int} {r1:Bool} {r2:Int} {r3:Int} (h:spec_l1Cur_one.f s0_0 s0_1 s0_2 a1 = some (r1,r2,r3)):CallH Try.prog 20 [.loc 1000000 0,vi a1] [(1000000,.box (.agg [.sl (iI .u8 s0_0),vi s0_1,.val (.int .u64 s0_2)]))] (vb r1) [(1000000,.box (.agg [.sl (iI .u8 s0_0),vi r2,.val (.int .u64 r3)]))]:=by
 unfold spec_l1Cur_one.f at h
 refine call_ok (c:=bodyOf Try.f20) (rs:=o20 (r1,r2,r3) s0_0 s0_1 s0_2) (post:=p20 (r1,r2,r3) s0_0 s0_1 s0_2) Try.func20 rfl rfl rfl (by kernel_rfl) ?_
 show AtP Try.prog 9 (bodyOf Try.f20) (KR Try.prog Try.f20.results.toList (o20 (r1,r2,r3) s0_0 s0_1 s0_2) (p20 (r1,r2,r3) s0_0 s0_1 s0_2)) [] [] (lookA [(0,.loc 1000000 0),(1,vi a1),(1000000,.box (.agg [.sl (iI .u8 s0_0),vi s0_1,.val (.int .u64 s0_2)]))])
 refine at_ (hn:=hn20) ?_
 obtain ⟨⟨bt108_1,bt108_2,bt108_3⟩,c1,h2⟩:=bd_ h
 try dsimp only at h2
 obtain ⟨rfl,rfl,rfl⟩:=pr3_ h2
 exact leafRet (hn:=hn20) 7 [.callH [1000000] (vi bt108_1) [(1000000,.box (.agg [.sl (iI .u8 s0_0),vi bt108_2,.val (.int .u64 bt108_3)]))],.val (.bool (bt108_1 == 0))] [] .ret (.inr rfl) (by kernel_rfl) (And.intro (CallH.ren [(1000000,1000000)] rfl rfl (ad_37 c1)) (int_eql (P:=Try.prog) (t:=3) (k:=.i64) (x:=(.tmp 7)) (y:=(.const (.int .i64 0))) (a:=bt108_1) (b:=0) (v:=(bt108_1 == 0)) rfl)) (by kernel_rfl)

def hn68:Hint:=⟨[],[]⟩
def o68 (r:Int):List AV:=[vi r]
def p68 (r:Int):List (Nat × AV):=[]
theorem ad_68 {a0:Int} {a1:Int} {r:Int} (h:spec_l1Least.f a0 a1 = some r):CallH Try.prog 68 [vi a0,vi a1] [] (vi r) []:=by
 unfold spec_l1Least.f at h
 refine call_ok (c:=bodyOf Try.f68) (rs:=o68 r) (post:=p68 r) Try.func68 rfl rfl rfl (by kernel_rfl) ?_
 show AtP Try.prog 10 (bodyOf Try.f68) (KR Try.prog Try.f68.results.toList (o68 r) (p68 r)) [] [] (lookA [(0,vi a0),(1,vi a1)])
 refine at_ (hn:=hn68) ?_
 rcases ite_ h with ⟨g1,h2⟩ | ⟨g1,h2⟩
 ·obtain rfl:=Option.some.inj h2
  exact leafRet (hn:=hn68) 13 [.val (.bool true)] [] .ret (.inr rfl) (by kernel_rfl) (int_lss (P:=Try.prog) (t:=3) (k:=.i64) (x:=(.tmp 5)) (y:=(.tmp 6)) (a:=a0) (b:=a1) (v:=true) (decide_eq_true g1)) (by kernel_rfl)
 ·obtain rfl:=Option.some.inj h2
  exact leafRet (hn:=hn68) 14 [.val (.bool false)] [] .ret (.inr rfl) (by kernel_rfl) (int_lss (P:=Try.prog) (t:=3) (k:=.i64) (x:=(.tmp 5)) (y:=(.tmp 6)) (a:=a0) (b:=a1) (v:=false) (decide_eq_false g1)) (by kernel_rfl)

def hn69:Hint:=⟨[],[]⟩
def o69 (r:Int):List AV:=[vi r]
def p69 (r:Int):List (Nat × AV):=[]
theorem ad_69 {a0:Int} {a1:Int} {r:Int} (h:spec_l1Most.f a0 a1 = some r):CallH Try.prog 69 [vi a0,vi a1] [] (vi r) []:=by
 unfold spec_l1Most.f at h
 refine call_ok (c:=bodyOf Try.f69) (rs:=o69 r) (post:=p69 r) Try.func69 rfl rfl rfl (by kernel_rfl) ?_
 show AtP Try.prog 10 (bodyOf Try.f69) (KR Try.prog Try.f69.results.toList (o69 r) (p69 r)) [] [] (lookA [(0,vi a0),(1,vi a1)])
 refine at_ (hn:=hn69) ?_
 rcases ite_ h with ⟨g1,h2⟩ | ⟨g1,h2⟩
 ·obtain rfl:=Option.some.inj h2
  exact leafRet (hn:=hn69) 13 [.val (.bool true)] [] .ret (.inr rfl) (by kernel_rfl) (int_gtr (P:=Try.prog) (t:=3) (k:=.i64) (x:=(.tmp 5)) (y:=(.tmp 6)) (a:=a0) (b:=a1) (v:=true) (decide_eq_true g1)) (by kernel_rfl)
 ·obtain rfl:=Option.some.inj h2
  exact leafRet (hn:=hn69) 14 [.val (.bool false)] [] .ret (.inr rfl) (by kernel_rfl) (int_gtr (P:=Try.prog) (t:=3) (k:=.i64) (x:=(.tmp 5)) (y:=(.tmp 6)) (a:=a0) (b:=a1) (v:=false) (decide_eq_false g1)) (by kernel_rfl)

def hn60:Hint:=⟨[(4,[16])],[]⟩
def o60 (r:Int × Int):List AV:=[.agg [vi r.1,vi r.2]]
def p60 (r:Int × Int):List (Nat × AV):=[]
theorem ad_60 {a0:Int} {a1:Int} {r1:Int} {r2:Int} (h:spec_tiOf.f a0 a1 = some (r1,r2)):CallH Try.prog 60 [vi a0,vi a1] [] (.agg [vi r1,vi r2]) []:=by
 unfold spec_tiOf.f at h
 refine call_ok (c:=bodyOf Try.f60) (rs:=o60 (r1,r2)) (post:=p60 (r1,r2)) Try.func60 rfl rfl rfl (by kernel_rfl) ?_
 show AtP Try.prog 12 (bodyOf Try.f60) (KR Try.prog Try.f60.results.toList (o60 (r1,r2)) (p60 (r1,r2))) [] [] (lookA [(0,vi a0),(1,vi a1)])
 refine at_ (hn:=hn60) ?_
 obtain ⟨t112,c1,h2⟩:=bd_ h
 obtain ⟨t113,c3,h4⟩:=bd_ h2
 obtain ⟨rfl,rfl⟩:=pr2_ h4
 exact leafRet (hn:=hn60) 7 [.call (vi t112),.call (vi t113),.elem (.agg [vi t112,vi t113])] [] .ret (.inr rfl) (by kernel_rfl) (And.intro (ad_68 c1) (And.intro (ad_69 c3) (build_39_2 (p0:=t112) (p1:=t113)))) (by kernel_rfl)

def hn61:Hint:=⟨[(3,[22]),(6,[25])],[]⟩
def o61 (r:Int):List AV:=[vi r]
def p61 (r:Int):List (Nat × AV):=[]
def q61_l0 (r:Int) (k:Nat) (L:List (Nat × AV)):Prop:=∃ (x7:List (S39)) (x8:Int) (x9:Int) (x115000:Int) (x115001:Int),L = [(3,.loc 22 0),(7,.sl (iS39 x7)),(8,vi x8),(9,vi x9),(22,.box (.agg [vi x115000,vi x115001]))] ∧ spec_tiPlace.l0 k x7 x8 x9 x115000 x115001 = some r
theorem q61_l0_mk {r:Int} {k:Nat} {x7:List (S39)} {x8:Int} {x9:Int} {x115000:Int} {x115001:Int} (h:spec_tiPlace.l0 k x7 x8 x9 x115000 x115001 = some r):q61_l0 r k [(3,.loc 22 0),(7,.sl (iS39 x7)),(8,vi x8),(9,vi x9),(22,.box (.agg [vi x115000,vi x115001]))]:=⟨x7,x8,x9,x115000,x115001,rfl,h⟩
theorem at61_l0 {r:Int}:∀ k L,q61_l0 r k L → AtP Try.prog 19 (bodyOf Try.f61) (KR Try.prog Try.f61.results.toList (o61 r) (p61 r)) [true,false,true,false] [] (lookA L) :=
 at_loop (by kernel_rfl) (fun _ => by kernel_rfl) (q61_l0 r) (by
  rintro k _ ⟨x7,x8,x9,x115000,x115001,rfl,h⟩
  cases k with
  | zero => simp [spec_tiPlace.l0] at h
  | succ k =>
   rw [spec_tiPlace.l0] at h
   refine at_ (hn:=hn61) ?_
   rcases ite_ h with ⟨g1,h2⟩ | ⟨g1,h2⟩
   ·obtain ⟨g3,h4⟩:=ip_ h2
    obtain ⟨g5,h6⟩:=ip_ h4
    refine mid (hn:=hn61) 13 2 [.val (.bool true),.elem (.agg [vi ((rd_T39 x7 x9).f0),vi ((rd_T39 x7 x9).f1)])] (And.intro (int_lss (P:=Try.prog) (t:=3) (k:=.i64) (x:=(.tmp 9)) (y:=(.tmp 8)) (a:=x9) (b:=x8) (v:=true) (decide_eq_true g1)) (iS39_rd (xs:=x7) (i:=x9) g3 g5)) (by kernel_rfl) ?_
    rcases ite_ h6 with ⟨g7,h8⟩ | ⟨g7,h8⟩
    ·obtain rfl:=Option.some.inj h8
     exact leafRet (hn:=hn61) 12 [.val (.bool true)] [] .ret (.inr rfl) (by kernel_rfl) (agg_39_eql (x:=(.tmp 14)) (y:=(.tmp 15)) (a0:=((rd_T39 x7 x9).f0)) (b0:=x115000) (a1:=((rd_T39 x7 x9).f1)) (b1:=x115001) (v:=true) g7) (by kernel_rfl)
    ·exact leafBack (hn:=hn61) 7 [.val (.bool false),.val (.int .i64 (wrap64 (x9 + 1)))] [] (q61_l0_mk h8) (Nat.lt_succ_self k) (And.intro (agg_39_eql (x:=(.tmp 14)) (y:=(.tmp 15)) (a0:=((rd_T39 x7 x9).f0)) (b0:=x115000) (a1:=((rd_T39 x7 x9).f1)) (b1:=x115001) (v:=false) (Bool.eq_false_iff.2 g7)) (int_add (P:=Try.prog) (t:=3) (k:=.i64) (x:=(.tmp 9)) (y:=(.const (.int .i64 1))) (a:=x9) (b:=1) (c:=(wrap64 (x9 + 1))) (IntWalk.i64_left _))) (by kernel_rfl)
   ·obtain rfl:=Option.some.inj h2
    exact leafRet (hn:=hn61) 14 [.val (.bool false)] [] .ret (.inr rfl) (by kernel_rfl) (int_lss (P:=Try.prog) (t:=3) (k:=.i64) (x:=(.tmp 9)) (y:=(.tmp 8)) (a:=x9) (b:=x8) (v:=false) (decide_eq_false g1)) (by kernel_rfl))
theorem ad_61 {k:Nat} {l0:List (S39)} {a1_0:Int} {a1_1:Int} {r:Int} (h:spec_tiPlace.f k l0 a1_0 a1_1 = some r):CallH Try.prog 61 [.sl (iS39 l0),.agg [vi a1_0,vi a1_1]] [] (vi r) []:=by
 unfold spec_tiPlace.f at h
 refine call_ok (c:=bodyOf Try.f61) (rs:=o61 r) (post:=p61 r) Try.func61 rfl rfl rfl (by kernel_rfl) ?_
 show AtP Try.prog 19 (bodyOf Try.f61) (KR Try.prog Try.f61.results.toList (o61 r) (p61 r)) [] [] (lookA [(0,.sl (iS39 l0)),(1,.agg [vi a1_0,vi a1_1])])
 refine at_ (hn:=hn61) ?_
 exact leafAt (hn:=hn61) 8 [.val (.int .i64 (l0.length:Int))] [] (at61_l0 _ _ (q61_l0_mk h)) (iS39_len (xs:=l0)) (by kernel_rfl)

def hn38:Hint:=⟨[(9,[45]),(10,[1000000]),(18,[1000000]),(22,[1000000]),(27,[43]),(31,[43]),(33,[69])],[]⟩
def o38 (r:(List (S39)) × Int × Int) (s0_0:List Int) (s0_1:Int) (s0_2:Int):List AV:=[.row 500000]
def p38 (r:(List (S39)) × Int × Int) (s0_0:List Int) (s0_1:Int) (s0_2:Int):List (Nat × AV):=[(1000000,.box (.agg [.sl (iI .u8 s0_0),vi r.2.1,.val (.int .u64 r.2.2)])),(500000,.ow false 39 (iS39 r.1))]
def q38_l0 (r:(List (S39)) × Int × Int) (s0_0:List Int) (s0_1:Int) (s0_2:Int) (k:Nat) (L:List (Nat × AV)):Prop:=∃ (x2:Int) (x7:List (S39)) (x8:Int) (x1001:Int) (x1002:Int),L = [(0,.loc 1000000 0),(2,vi x2),(7,.row 43),(8,vi x8),(43,.ow false 39 (iS39 x7)),(1000000,.box (.agg [.sl (iI .u8 s0_0),vi x1001,.val (.int .u64 x1002)]))] ∧ spec_l1Cur_sureHand.l0 k x2 x7 x8 s0_0 x1001 x1002 = some r
theorem q38_l0_mk {r:(List (S39)) × Int × Int} (s0_0:List Int) (s0_1:Int) (s0_2:Int) {k:Nat} {x2:Int} {x7:List (S39)} {x8:Int} {x1001:Int} {x1002:Int} (h:spec_l1Cur_sureHand.l0 k x2 x7 x8 s0_0 x1001 x1002 = some r):q38_l0 r s0_0 s0_1 s0_2 k [(0,.loc 1000000 0),(2,vi x2),(7,.row 43),(8,vi x8),(43,.ow false 39 (iS39 x7)),(1000000,.box (.agg [.sl (iI .u8 s0_0),vi x1001,.val (.int .u64 x1002)]))]:=⟨x2,x7,x8,x1001,x1002,rfl,h⟩
theorem at38_l0 {r:(List (S39)) × Int × Int} {s0_0:List Int} {s0_1:Int} {s0_2:Int}:∀ k L,q38_l0 r s0_0 s0_1 s0_2 k L → AtP Try.prog 36 (bodyOf Try.f38) (KR Try.prog Try.f38.results.toList (o38 r s0_0 s0_1 s0_2) (p38 r s0_0 s0_1 s0_2)) [true,true,false,true,false] [] (lookA L) :=
 at_loop (by kernel_rfl) (fun _ => by kernel_rfl) (q38_l0 r s0_0 s0_1 s0_2) (by
  rintro k _ ⟨x2,x7,x8,x1001,x1002,rfl,h⟩
  cases k with
  | zero => simp [spec_l1Cur_sureHand.l0] at h
  | succ k =>
   rw [spec_l1Cur_sureHand.l0] at h
   refine at_ (hn:=hn38) ?_
   rcases ite_ h with ⟨g1,h2⟩ | ⟨g1,h2⟩
   ·obtain ⟨⟨bt120_1,bt120_2,bt120_3⟩,c3,h4⟩:=bd_ h2
    obtain ⟨⟨bt123_1,bt123_2,bt123_3⟩,c5,h6⟩:=bd_ h4
    obtain ⟨⟨bt126_1,bt126_2⟩,c7,h8⟩:=bd_ h6
    try dsimp only at h8
    obtain ⟨t129,c9,h10⟩:=bd_ h8
    refine mid (hn:=hn38) 13 3 [.val (.bool true),.val (.int .i64 (wrap64 (x2 + 1))),.callH [1000000] (vi bt120_1) [(1000000,.box (.agg [.sl (iI .u8 s0_0),vi bt120_2,.val (.int .u64 bt120_3)]))],.val (.int .i64 (wrap64 (x2 + 1))),.callH [1000000] (vi bt123_1) [(1000000,.box (.agg [.sl (iI .u8 s0_0),vi bt123_2,.val (.int .u64 bt123_3)]))],.call (.agg [vi bt126_1,vi bt126_2]),.call (vi t129)] (And.intro (int_gtr (P:=Try.prog) (t:=3) (k:=.i64) (x:=(.tmp 14)) (y:=(.const (.int .i64 0))) (a:=x8) (b:=0) (v:=true) (decide_eq_true g1)) (And.intro (And.intro (int_add (P:=Try.prog) (t:=3) (k:=.i64) (x:=(.tmp 19)) (y:=(.const (.int .i64 1))) (a:=x2) (b:=1) (c:=(wrap64 (x2 + 1))) (IntWalk.i64_left _)) (And.intro (CallH.ren [(1000000,1000000)] rfl rfl (ad_37 c3)) (And.intro (int_add (P:=Try.prog) (t:=3) (k:=.i64) (x:=(.tmp 23)) (y:=(.const (.int .i64 1))) (a:=x2) (b:=1) (c:=(wrap64 (x2 + 1))) (IntWalk.i64_left _)) (And.intro (CallH.ren [(1000000,1000000)] rfl rfl (ad_37 c5)) (ad_60 c7))))) (ad_61 c9))) (by kernel_rfl) ?_
    rcases ite_ h10 with ⟨g11,h12⟩ | ⟨g11,h12⟩
    ·obtain ⟨g13,h14⟩:=ip_ h12
     exact leafBack (hn:=hn38) 7 [.val (.bool true),.go,.elem (.ow false 39 (iS39 (x7 ++ ([(⟨bt126_1,bt126_2⟩ : S39)])))),.val (.int .i64 (wrap64 (x8 - 1)))] [(43,70)] (q38_l0_mk s0_0 s0_1 s0_2 h14) (Nat.lt_succ_self k) (And.intro (int_lss (P:=Try.prog) (t:=3) (k:=.i64) (x:=(.tmp 29)) (y:=(.const (.int .i64 0))) (a:=t129) (b:=0) (v:=true) (decide_eq_true g11)) (And.intro (iS39_app (N:=8796093022208) (b:=16) (xs:=x7) (ys:=[(⟨bt126_1,bt126_2⟩ : S39)]) (by decide) (Nat.succ_le_of_lt g13)) (int_sub (P:=Try.prog) (t:=3) (k:=.i64) (x:=(.tmp 16)) (y:=(.const (.int .i64 1))) (a:=x8) (b:=1) (c:=(wrap64 (x8 - 1))) (IntWalk.i64_left _)))) (by kernel_rfl)
    ·exact leafBack (hn:=hn38) 7 [.val (.bool false),.val (.int .i64 (wrap64 (x8 - 1)))] [] (q38_l0_mk s0_0 s0_1 s0_2 h12) (Nat.lt_succ_self k) (And.intro (int_lss (P:=Try.prog) (t:=3) (k:=.i64) (x:=(.tmp 29)) (y:=(.const (.int .i64 0))) (a:=t129) (b:=0) (v:=false) (decide_eq_false g11)) (int_sub (P:=Try.prog) (t:=3) (k:=.i64) (x:=(.tmp 16)) (y:=(.const (.int .i64 1))) (a:=x8) (b:=1) (c:=(wrap64 (x8 - 1))) (IntWalk.i64_left _))) (by kernel_rfl)
   ·obtain rfl:=Option.some.inj h2
    exact leafRet (hn:=hn38) 14 [.val (.bool false)] [(500000,43)] .ret (.inr rfl) (by kernel_rfl) (int_gtr (P:=Try.prog) (t:=3) (k:=.i64) (x:=(.tmp 14)) (y:=(.const (.int .i64 0))) (a:=x8) (b:=0) (v:=false) (decide_eq_false g1)) (by kernel_rfl))
theorem ad_38 {k:Nat} {s0_0:List Int} {s0_1:Int} {s0_2:Int} {a1:Int} {a2:Int} {r1:List (S39)} {r2:Int} {r3:Int} (h:spec_l1Cur_sureHand.f k s0_0 s0_1 s0_2 a1 a2 = some (r1,r2,r3)):CallH Try.prog 38 [.loc 1000000 0,vi a1,vi a2] [(1000000,.box (.agg [.sl (iI .u8 s0_0),vi s0_1,.val (.int .u64 s0_2)]))] (.row 500000) [(1000000,.box (.agg [.sl (iI .u8 s0_0),vi r2,.val (.int .u64 r3)])),(500000,.ow false 39 (iS39 r1))]:=by
 unfold spec_l1Cur_sureHand.f at h
 refine call_ok (c:=bodyOf Try.f38) (rs:=o38 (r1,r2,r3) s0_0 s0_1 s0_2) (post:=p38 (r1,r2,r3) s0_0 s0_1 s0_2) Try.func38 rfl rfl rfl (by kernel_rfl) ?_
 show AtP Try.prog 36 (bodyOf Try.f38) (KR Try.prog Try.f38.results.toList (o38 (r1,r2,r3) s0_0 s0_1 s0_2) (p38 (r1,r2,r3) s0_0 s0_1 s0_2)) [] [] (lookA [(0,.loc 1000000 0),(1,vi a1),(2,vi a2),(1000000,.box (.agg [.sl (iI .u8 s0_0),vi s0_1,.val (.int .u64 s0_2)]))])
 refine at_ (hn:=hn38) ?_
 obtain ⟨⟨bt117_1,bt117_2,bt117_3⟩,c1,h2⟩:=bd_ h
 try dsimp only at h2
 exact leafAt (hn:=hn38) 11 [.nil false 39,.nil false 39,.val (.int .i64 (wrap64 (a1 + 1))),.callH [1000000] (vi bt117_1) [(1000000,.box (.agg [.sl (iI .u8 s0_0),vi bt117_2,.val (.int .u64 bt117_3)]))]] [] (at38_l0 _ _ (q38_l0_mk s0_0 s0_1 s0_2 h2)) (And.intro (int_add (P:=Try.prog) (t:=3) (k:=.i64) (x:=(.tmp 11)) (y:=(.const (.int .i64 1))) (a:=a1) (b:=1) (c:=(wrap64 (a1 + 1))) (IntWalk.i64_left _)) (CallH.ren [(1000000,1000000)] rfl rfl (ad_37 c1))) (by kernel_rfl)

def hn62:Hint:=⟨[(6,[1000000])],[]⟩
def o62 (r:Int × Int × Int) (s0_0:List Int) (s0_1:Int) (s0_2:Int):List AV:=[vi r.1]
def p62 (r:Int × Int × Int) (s0_0:List Int) (s0_1:Int) (s0_2:Int):List (Nat × AV):=[(1000000,.box (.agg [.sl (iI .u8 s0_0),vi r.2.1,.val (.int .u64 r.2.2)]))]
theorem ad_62 {s0_0:List Int} {s0_1:Int} {s0_2:Int} {l1:List Int} {r1:Int} {r2:Int} {r3:Int} (h:spec_l1Cur_among.f s0_0 s0_1 s0_2 l1 = some (r1,r2,r3)):CallH Try.prog 62 [.loc 1000000 0,.sl (iI .i64 l1)] [(1000000,.box (.agg [.sl (iI .u8 s0_0),vi s0_1,.val (.int .u64 s0_2)]))] (vi r1) [(1000000,.box (.agg [.sl (iI .u8 s0_0),vi r2,.val (.int .u64 r3)]))]:=by
 unfold spec_l1Cur_among.f at h
 refine call_ok (c:=bodyOf Try.f62) (rs:=o62 (r1,r2,r3) s0_0 s0_1 s0_2) (post:=p62 (r1,r2,r3) s0_0 s0_1 s0_2) Try.func62 rfl rfl rfl (by kernel_rfl) ?_
 show AtP Try.prog 12 (bodyOf Try.f62) (KR Try.prog Try.f62.results.toList (o62 (r1,r2,r3) s0_0 s0_1 s0_2) (p62 (r1,r2,r3) s0_0 s0_1 s0_2)) [] [] (lookA [(0,.loc 1000000 0),(1,.sl (iI .i64 l1)),(1000000,.box (.agg [.sl (iI .u8 s0_0),vi s0_1,.val (.int .u64 s0_2)]))])
 refine at_ (hn:=hn62) ?_
 obtain ⟨⟨bt133_1,bt133_2,bt133_3⟩,c1,h2⟩:=bd_ h
 try dsimp only at h2
 obtain ⟨g3,h4⟩:=ip_ h2
 obtain ⟨g5,h6⟩:=ip_ h4
 obtain ⟨rfl,rfl,rfl⟩:=pr3_ h6
 exact leafRet (hn:=hn62) 7 [.val (.int .i64 (l1.length:Int)),.callH [1000000] (vi bt133_1) [(1000000,.box (.agg [.sl (iI .u8 s0_0),vi bt133_2,.val (.int .u64 bt133_3)]))],.elem (vi (rd l1 bt133_1))] [] .ret (.inr rfl) (by kernel_rfl) (And.intro (iI_len (k:=.i64) (xs:=l1)) (And.intro (CallH.ren [(1000000,1000000)] rfl rfl (ad_37 c1)) (iI_rd (k:=.i64) (xs:=l1) (i:=bt133_1) g3 g5))) (by kernel_rfl)

def hn39:Hint:=⟨[(2,[19]),(3,[1000000]),(5,[1000000]),(6,[23]),(8,[1000000]),(9,[26]),(12,[1000000]),(14,[1000000])],[]⟩
def o39 (r:Int × Int × Int × Int) (s0_0:List Int) (s0_1:Int) (s0_2:Int):List AV:=[.agg [vi r.1,vi r.2.1]]
def p39 (r:Int × Int × Int × Int) (s0_0:List Int) (s0_1:Int) (s0_2:Int):List (Nat × AV):=[(1000000,.box (.agg [.sl (iI .u8 s0_0),vi r.2.2.1,.val (.int .u64 r.2.2.2)]))]
theorem ad_39 {s0_0:List Int} {s0_1:Int} {s0_2:Int} {r1:Int} {r2:Int} {r3:Int} {r4:Int} (h:spec_l1Cur_tile.f s0_0 s0_1 s0_2 = some (r1,r2,r3,r4)):CallH Try.prog 39 [.loc 1000000 0] [(1000000,.box (.agg [.sl (iI .u8 s0_0),vi s0_1,.val (.int .u64 s0_2)]))] (.agg [vi r1,vi r2]) [(1000000,.box (.agg [.sl (iI .u8 s0_0),vi r3,.val (.int .u64 r4)]))]:=by
 unfold spec_l1Cur_tile.f at h
 refine call_ok (c:=bodyOf Try.f39) (rs:=o39 (r1,r2,r3,r4) s0_0 s0_1 s0_2) (post:=p39 (r1,r2,r3,r4) s0_0 s0_1 s0_2) Try.func39 rfl rfl rfl (by kernel_rfl) ?_
 show AtP Try.prog 17 (bodyOf Try.f39) (KR Try.prog Try.f39.results.toList (o39 (r1,r2,r3,r4) s0_0 s0_1 s0_2) (p39 (r1,r2,r3,r4) s0_0 s0_1 s0_2)) [] [] (lookA [(0,.loc 1000000 0),(1000000,.box (.agg [.sl (iI .u8 s0_0),vi s0_1,.val (.int .u64 s0_2)]))])
 refine at_ (hn:=hn39) ?_
 obtain ⟨⟨bt138_1,bt138_2,bt138_3⟩,c1,h2⟩:=bd_ h
 try dsimp only at h2
 rcases ite_ h2 with ⟨g3,h4⟩ | ⟨g3,h4⟩
 ·subst g3
  obtain ⟨⟨bt144_1,bt144_2,bt144_3⟩,c5,h6⟩:=bd_ h4
  obtain ⟨⟨bt150_1,bt150_2,bt150_3⟩,c7,h8⟩:=bd_ h6
  try dsimp only at h8
  obtain ⟨rfl,rfl,rfl,rfl⟩:=pr4_ h8
  exact leafRet (hn:=hn39) 13 [.callH [1000000] (vb true) [(1000000,.box (.agg [.sl (iI .u8 s0_0),vi bt138_2,.val (.int .u64 bt138_3)]))],.go,.callH [1000000] (vi bt144_1) [(1000000,.box (.agg [.sl (iI .u8 s0_0),vi bt144_2,.val (.int .u64 bt144_3)]))],.go,.callH [1000000] (vi bt150_1) [(1000000,.box (.agg [.sl (iI .u8 s0_0),vi bt150_2,.val (.int .u64 bt150_3)]))],.elem (.agg [vi bt144_1,vi bt150_1])] [] .ret (.inr rfl) (by kernel_rfl) (And.intro (CallH.ren [(1000000,1000000)] rfl rfl (ad_20 c1)) (And.intro (CallH.ren [(1000000,1000000)] rfl rfl (ad_62 c5)) (And.intro (CallH.ren [(1000000,1000000)] rfl rfl (ad_62 c7)) (build_39_2 (p0:=bt144_1) (p1:=bt150_1))))) (by kernel_rfl)
 ·obtain rfl:=Bool.eq_false_iff.2 g3
  obtain ⟨⟨bt153_1,bt153_2,bt153_3⟩,c9,h10⟩:=bd_ h4
  obtain ⟨⟨bt156_1,bt156_2,bt156_3⟩,c11,h12⟩:=bd_ h10
  obtain ⟨⟨bt159_1,bt159_2⟩,c13,h14⟩:=bd_ h12
  try dsimp only at h14
  obtain ⟨rfl,rfl,rfl,rfl⟩:=pr4_ h14
  exact leafRet (hn:=hn39) 14 [.callH [1000000] (vb false) [(1000000,.box (.agg [.sl (iI .u8 s0_0),vi bt138_2,.val (.int .u64 bt138_3)]))],.callH [1000000] (vi bt153_1) [(1000000,.box (.agg [.sl (iI .u8 s0_0),vi bt153_2,.val (.int .u64 bt153_3)]))],.callH [1000000] (vi bt156_1) [(1000000,.box (.agg [.sl (iI .u8 s0_0),vi bt156_2,.val (.int .u64 bt156_3)]))],.call (.agg [vi bt159_1,vi bt159_2])] [] .ret (.inr rfl) (by kernel_rfl) (And.intro (CallH.ren [(1000000,1000000)] rfl rfl (ad_20 c1)) (And.intro (CallH.ren [(1000000,1000000)] rfl rfl (ad_37 c9)) (And.intro (CallH.ren [(1000000,1000000)] rfl rfl (ad_37 c11)) (ad_60 c13)))) (by kernel_rfl)

def hn40:Hint:=⟨[(17,[27]),(21,[45])],[]⟩
def o40 (r:(List (S39))):List AV:=[.row 500000]
def p40 (r:(List (S39))):List (Nat × AV):=[(500000,.ow false 39 (iS39 r))]
def q40_l0 (r:(List (S39))) (k:Nat) (L:List (Nat × AV)):Prop:=∃ (x0:Int) (x3:List (S39)) (x4:Int),L = [(0,vi x0),(3,.row 27),(4,vi x4),(27,.ow false 39 (iS39 x3))] ∧ spec_tiSet.l0 k x0 x3 x4 = some r
theorem q40_l0_mk {r:(List (S39))} {k:Nat} {x0:Int} {x3:List (S39)} {x4:Int} (h:spec_tiSet.l0 k x0 x3 x4 = some r):q40_l0 r k [(0,vi x0),(3,.row 27),(4,vi x4),(27,.ow false 39 (iS39 x3))]:=⟨x0,x3,x4,rfl,h⟩
def q40_l1 (r:(List (S39))) (K0:Nat) (k:Nat) (L:List (Nat × AV)):Prop:=k < K0 ∧ ∃ (x0:Int) (x3:List (S39)) (x4:Int) (x5:Int),L = [(0,vi x0),(3,.row 27),(4,vi x4),(5,vi x5),(27,.ow false 39 (iS39 x3))] ∧ spec_tiSet.l1 k x0 x3 x4 x5 = some r
theorem q40_l1_mk {r:(List (S39))} {K0:Nat} {k:Nat} {x0:Int} {x3:List (S39)} {x4:Int} {x5:Int} (hk0:k < K0) (h:spec_tiSet.l1 k x0 x3 x4 x5 = some r):q40_l1 r K0 k [(0,vi x0),(3,.row 27),(4,vi x4),(5,vi x5),(27,.ow false 39 (iS39 x3))]:=⟨hk0,x0,x3,x4,x5,rfl,h⟩
theorem at40_l1 {r:(List (S39))} {K0:Nat}:∀ k L,q40_l1 r K0 k L → AtP Try.prog 24 (bodyOf Try.f40) (KR Try.prog Try.f40.results.toList (o40 r) (p40 r)) [true,true,false,true,false,false,true,false,false,true,false] [upto (q40_l0 r) K0] (lookA L) :=
 at_loop (by kernel_rfl) (fun _ => by kernel_rfl) (q40_l1 r K0) (by
  rintro k _ ⟨hk0,x0,x3,x4,x5,rfl,h⟩
  cases k with
  | zero => simp [spec_tiSet.l1] at h
  | succ k =>
   rw [spec_tiSet.l1] at h
   have hk0:=Nat.lt_of_succ_lt hk0
   refine at_ (hn:=hn40) ?_
   rcases ite_ h with ⟨g1,h2⟩ | ⟨g1,h2⟩
   ·obtain ⟨g3,h4⟩:=ip_ h2
    exact leafBack (hn:=hn40) 13 [.val (.bool true),.elem (.agg [vi x4,vi x5]),.go,.elem (.ow false 39 (iS39 (x3 ++ ([(⟨x4,x5⟩ : S39)])))),.val (.int .i64 (wrap64 (x5 + 1)))] [(27,46)] (q40_l1_mk hk0 h4) (Nat.lt_succ_self k) (And.intro (int_leq (P:=Try.prog) (t:=3) (k:=.i64) (x:=(.tmp 12)) (y:=(.tmp 13)) (a:=x5) (b:=x0) (v:=true) (decide_eq_true g1)) (And.intro (And.intro (build_39_2 (p0:=x4) (p1:=x5)) (iS39_app (N:=8796093022208) (b:=16) (xs:=x3) (ys:=[(⟨x4,x5⟩ : S39)]) (by decide) (Nat.succ_le_of_lt g3))) (int_add (P:=Try.prog) (t:=3) (k:=.i64) (x:=(.tmp 15)) (y:=(.const (.int .i64 1))) (a:=x5) (b:=1) (c:=(wrap64 (x5 + 1))) (IntWalk.i64_left _)))) (by kernel_rfl)
   ·exact leafBack (hn:=hn40) 12 [.val (.bool false),.val (.int .i64 (wrap64 (x4 + 1)))] [] (q40_l0_mk h2) hk0 (And.intro (int_leq (P:=Try.prog) (t:=3) (k:=.i64) (x:=(.tmp 12)) (y:=(.tmp 13)) (a:=x5) (b:=x0) (v:=false) (decide_eq_false g1)) (int_add (P:=Try.prog) (t:=3) (k:=.i64) (x:=(.tmp 9)) (y:=(.const (.int .i64 1))) (a:=x4) (b:=1) (c:=(wrap64 (x4 + 1))) (IntWalk.i64_left _))) (by kernel_rfl))
theorem at40_l0 {r:(List (S39))}:∀ k L,q40_l0 r k L → AtP Try.prog 24 (bodyOf Try.f40) (KR Try.prog Try.f40.results.toList (o40 r) (p40 r)) [true,true,false,true,false] [] (lookA L) :=
 at_loop (by kernel_rfl) (fun _ => by kernel_rfl) (q40_l0 r) (by
  rintro k _ ⟨x0,x3,x4,rfl,h⟩
  cases k with
  | zero => simp [spec_tiSet.l0] at h
  | succ k =>
   rw [spec_tiSet.l0] at h
   refine at_ (hn:=hn40) ?_
   rcases ite_ h with ⟨g1,h2⟩ | ⟨g1,h2⟩
   ·exact leafAt (hn:=hn40) 13 [.val (.bool true)] [] (at40_l1 _ _ (q40_l1_mk (Nat.lt_succ_self k) h2)) (int_leq (P:=Try.prog) (t:=3) (k:=.i64) (x:=(.tmp 6)) (y:=(.tmp 7)) (a:=x4) (b:=x0) (v:=true) (decide_eq_true g1)) (by kernel_rfl)
   ·obtain rfl:=Option.some.inj h2
    exact leafRet (hn:=hn40) 14 [.val (.bool false)] [(500000,27)] .ret (.inr rfl) (by kernel_rfl) (int_leq (P:=Try.prog) (t:=3) (k:=.i64) (x:=(.tmp 6)) (y:=(.tmp 7)) (a:=x4) (b:=x0) (v:=false) (decide_eq_false g1)) (by kernel_rfl))
theorem ad_40 {k:Nat} {a0:Int} {r:List (S39)} (h:spec_tiSet.f k a0 = some r):CallH Try.prog 40 [vi a0] [] (.row 500000) [(500000,.ow false 39 (iS39 r))]:=by
 unfold spec_tiSet.f at h
 refine call_ok (c:=bodyOf Try.f40) (rs:=o40 r) (post:=p40 r) Try.func40 rfl rfl rfl (by kernel_rfl) ?_
 show AtP Try.prog 24 (bodyOf Try.f40) (KR Try.prog Try.f40.results.toList (o40 r) (p40 r)) [] [] (lookA [(0,vi a0)])
 refine at_ (hn:=hn40) ?_
 exact leafAt (hn:=hn40) 11 [.nil false 39,.nil false 39] [] (at40_l0 _ _ (q40_l0_mk h)) True.intro (by kernel_rfl)

def hn21:Hint:=⟨[(8,[1000000]),(12,[1000000]),(16,[55]),(17,[1000000]),(19,[63]),(23,[55]),(26,[55]),(27,[55]),(30,[74]),(34,[1000000]),(39,[83]),(41,[85])],[]⟩
def o21 (r:(List (S39)) × Int × Int) (s0_0:List Int) (s0_1:Int) (s0_2:Int):List AV:=[.sl (iS39 r.1)]
def p21 (r:(List (S39)) × Int × Int) (s0_0:List Int) (s0_1:Int) (s0_2:Int):List (Nat × AV):=[(1000000,.box (.agg [.sl (iI .u8 s0_0),vi r.2.1,.val (.int .u64 r.2.2)]))]
theorem ad_21 {k:Nat} {s0_0:List Int} {s0_1:Int} {s0_2:Int} {a1:Int} {a2:Int} {r1:List (S39)} {r2:Int} {r3:Int} (h:spec_l1Cur_hand.f k s0_0 s0_1 s0_2 a1 a2 = some (r1,r2,r3)):CallH Try.prog 21 [.loc 1000000 0,vi a1,vi a2] [(1000000,.box (.agg [.sl (iI .u8 s0_0),vi s0_1,.val (.int .u64 s0_2)]))] (.sl (iS39 r1)) [(1000000,.box (.agg [.sl (iI .u8 s0_0),vi r2,.val (.int .u64 r3)]))]:=by
 unfold spec_l1Cur_hand.f at h
 refine call_ok (c:=bodyOf Try.f21) (rs:=o21 (r1,r2,r3) s0_0 s0_1 s0_2) (post:=p21 (r1,r2,r3) s0_0 s0_1 s0_2) Try.func21 rfl rfl rfl (by kernel_rfl) ?_
 show AtP Try.prog 44 (bodyOf Try.f21) (KR Try.prog Try.f21.results.toList (o21 (r1,r2,r3) s0_0 s0_1 s0_2) (p21 (r1,r2,r3) s0_0 s0_1 s0_2)) [] [] (lookA [(0,.loc 1000000 0),(1,vi a1),(2,vi a2),(1000000,.box (.agg [.sl (iI .u8 s0_0),vi s0_1,.val (.int .u64 s0_2)]))])
 refine at_ (hn:=hn21) ?_
 obtain ⟨⟨bt164_1,bt164_2,bt164_3⟩,c1,h2⟩:=bd_ h
 obtain ⟨⟨bt169_1,bt169_2,bt169_3⟩,c3,h4⟩:=bd_ h2
 try dsimp only at h4
 refine mid (hn:=hn21) 8 1 [.goT,.callH [1000000] (.row 55) [(1000000,.box (.agg [.sl (iI .u8 s0_0),vi bt164_2,.val (.int .u64 bt164_3)])),(55,.ow false 39 (iS39 bt164_1))]] (CallH.ren [(500000,55),(1000000,1000000)] rfl rfl (ad_38 c1)) (by kernel_rfl) ?_
 rcases ite_ h4 with ⟨g5,h6⟩ | ⟨g5,h6⟩
 ·obtain ⟨⟨bt172_1,bt172_2,bt172_3,bt172_4⟩,c7,h8⟩:=bd_ h6
  try dsimp only at h8
  obtain ⟨g9,h10⟩:=ip_ h8
  obtain ⟨rfl,rfl,rfl⟩:=pr3_ h10
  exact leafRet (hn:=hn21) 13 [.callH [1000000] (vi bt169_1) [(1000000,.box (.agg [.sl (iI .u8 s0_0),vi bt169_2,.val (.int .u64 bt169_3)]))],.val (.bool true),.callH [1000000] (.agg [vi bt172_1,vi bt172_2]) [(1000000,.box (.agg [.sl (iI .u8 s0_0),vi bt172_3,.val (.int .u64 bt172_4)]))],.go,.elem (.ow false 39 (iS39 (bt164_1 ++ ([(⟨bt172_1,bt172_2⟩ : S39)]))))] [] .ret (.inr rfl) (by kernel_rfl) (And.intro (CallH.ren [(1000000,1000000)] rfl rfl (ad_37 c3)) (And.intro (int_eql (P:=Try.prog) (t:=3) (k:=.i64) (x:=(.tmp 13)) (y:=(.const (.int .i64 0))) (a:=bt169_1) (b:=0) (v:=true) (beq_iff_eq.2 g5)) (And.intro (CallH.ren [(1000000,1000000)] rfl rfl (ad_39 c7)) (iS39_app (N:=8796093022208) (b:=16) (xs:=bt164_1) (ys:=[(⟨bt172_1,bt172_2⟩ : S39)]) (by decide) (Nat.succ_le_of_lt g9))))) (by kernel_rfl)
 ·refine mid (hn:=hn21) 4 1 [.callH [1000000] (vi bt169_1) [(1000000,.box (.agg [.sl (iI .u8 s0_0),vi bt169_2,.val (.int .u64 bt169_3)]))],.val (.bool false)] (And.intro (CallH.ren [(1000000,1000000)] rfl rfl (ad_37 c3)) (int_eql (P:=Try.prog) (t:=3) (k:=.i64) (x:=(.tmp 13)) (y:=(.const (.int .i64 0))) (a:=bt169_1) (b:=0) (v:=false) (beq_false_of_ne g5))) (by kernel_rfl) ?_
  rcases ite_ h6 with ⟨g11,h12⟩ | ⟨g11,h12⟩
  ·refine mid (hn:=hn21) 8 2 [.val (.bool true),.val (.int .i64 (bt164_1.length:Int))] (And.intro (int_eql (P:=Try.prog) (t:=3) (k:=.i64) (x:=(.tmp 13)) (y:=(.const (.int .i64 1))) (a:=bt169_1) (b:=1) (v:=true) (beq_iff_eq.2 g11)) (iS39_len (xs:=bt164_1))) (by kernel_rfl) ?_
   rcases ite_ h12 with ⟨g13,h14⟩ | ⟨g13,h14⟩
   ·obtain ⟨g15,h16⟩:=ip_ h14
    obtain ⟨g17,h18⟩:=ip_ h16
    obtain ⟨rfl,rfl,rfl⟩:=pr3_ h18
    exact leafRet (hn:=hn21) 9 [.val (.bool true),.elem (.agg [vi ((rd_T39 bt164_1 0).f0),vi ((rd_T39 bt164_1 0).f1)]),.go,.elem (.ow false 39 (iS39 (bt164_1 ++ ([(⟨(rd_T39 bt164_1 0).f0,(rd_T39 bt164_1 0).f1⟩ : S39)]))))] [] .ret (.inr rfl) (by kernel_rfl) (And.intro (int_gtr (P:=Try.prog) (t:=3) (k:=.i64) (x:=(.tmp 24)) (y:=(.const (.int .i64 0))) (a:=(bt164_1.length:Int)) (b:=0) (v:=true) (decide_eq_true (by omega))) (And.intro (iS39_rd (xs:=bt164_1) (i:=0) (by decide) g15) (iS39_app (N:=8796093022208) (b:=16) (xs:=bt164_1) (ys:=[(⟨(rd_T39 bt164_1 0).f0,(rd_T39 bt164_1 0).f1⟩ : S39)]) (by decide) (Nat.succ_le_of_lt g17)))) (by kernel_rfl)
   ·obtain ⟨rfl,rfl,rfl⟩:=pr3_ h14
    exact leafRet (hn:=hn21) 10 [.val (.bool false)] [] .ret (.inr rfl) (by kernel_rfl) (int_gtr (P:=Try.prog) (t:=3) (k:=.i64) (x:=(.tmp 24)) (y:=(.const (.int .i64 0))) (a:=(bt164_1.length:Int)) (b:=0) (v:=false) (decide_eq_false g13)) (by kernel_rfl)
  ·refine mid (hn:=hn21) 4 1 [.val (.bool false)] (int_eql (P:=Try.prog) (t:=3) (k:=.i64) (x:=(.tmp 13)) (y:=(.const (.int .i64 1))) (a:=bt169_1) (b:=1) (v:=false) (beq_false_of_ne g11)) (by kernel_rfl) ?_
   rcases ite_ h12 with ⟨g19,h20⟩ | ⟨g19,h20⟩
   ·obtain ⟨⟨bt183_1,bt183_2,bt183_3⟩,c21,h22⟩:=bd_ h20
    try dsimp only at h22
    obtain ⟨t186,c23,h24⟩:=bd_ h22
    obtain ⟨rfl,rfl,rfl⟩:=pr3_ h24
    exact leafRet (hn:=hn21) 13 [.val (.bool true),.callH [1000000] (vi bt183_1) [(1000000,.box (.agg [.sl (iI .u8 s0_0),vi bt183_2,.val (.int .u64 bt183_3)]))],.callH [] (.row 80) [(80,.ow false 39 (iS39 t186))]] [] .ret (.inr rfl) (by kernel_rfl) (And.intro (int_eql (P:=Try.prog) (t:=3) (k:=.i64) (x:=(.tmp 13)) (y:=(.const (.int .i64 2))) (a:=bt169_1) (b:=2) (v:=true) (beq_iff_eq.2 g19)) (And.intro (CallH.ren [(1000000,1000000)] rfl rfl (ad_37 c21)) (CallH.ren [(500000,80)] rfl rfl (ad_40 c23)))) (by kernel_rfl)
   ·refine mid (hn:=hn21) 4 1 [.val (.bool false)] (int_eql (P:=Try.prog) (t:=3) (k:=.i64) (x:=(.tmp 13)) (y:=(.const (.int .i64 2))) (a:=bt169_1) (b:=2) (v:=false) (beq_false_of_ne g19)) (by kernel_rfl) ?_
    rcases ite_ h20 with ⟨g25,h26⟩ | ⟨g25,h26⟩
    ·obtain ⟨t189,c27,h28⟩:=bd_ h26
     obtain ⟨g29,h30⟩:=ip_ h28
     obtain ⟨rfl,rfl,rfl⟩:=pr3_ h30
     exact leafRet (hn:=hn21) 13 [.val (.bool true),.callH [] (.row 83) [(83,.ow false 39 (iS39 t189))],.go,.go,.elem (.ow false 39 (iS39 (t189 ++ ([(⟨0,0⟩ : S39)]))))] [] .ret (.inr rfl) (by kernel_rfl) (And.intro (int_eql (P:=Try.prog) (t:=3) (k:=.i64) (x:=(.tmp 13)) (y:=(.const (.int .i64 3))) (a:=bt169_1) (b:=3) (v:=true) (beq_iff_eq.2 g25)) (And.intro (CallH.ren [(500000,83)] rfl rfl (ad_40 c27)) (iS39_app (N:=8796093022208) (b:=16) (xs:=t189) (ys:=[(⟨0,0⟩ : S39)]) (by decide) (Nat.succ_le_of_lt g29)))) (by kernel_rfl)
    ·obtain ⟨rfl,rfl,rfl⟩:=pr3_ h26
     exact leafRet (hn:=hn21) 14 [.val (.bool false)] [] .ret (.inr rfl) (by kernel_rfl) (int_eql (P:=Try.prog) (t:=3) (k:=.i64) (x:=(.tmp 13)) (y:=(.const (.int .i64 3))) (a:=bt169_1) (b:=3) (v:=false) (beq_false_of_ne g25)) (by kernel_rfl)

def hn41:Hint:=⟨[(11,[28]),(22,[47])],[]⟩
def o41 (r:(List (S39))):List AV:=[.row 500000]
def p41 (r:(List (S39))):List (Nat × AV):=[(500000,.ow true 39 (iS39 r))]
def q41_l0 (r:(List (S39))) (k:Nat) (L:List (Nat × AV)):Prop:=∃ (x0:List Int) (x3:List (S39)) (x4:Int),L = [(0,.sl (iI .i64 x0)),(3,.row 28),(4,vi x4),(28,.ow true 39 (iS39 x3))] ∧ spec_haTiles.l0 k x0 x3 x4 = some r
theorem q41_l0_mk {r:(List (S39))} {k:Nat} {x0:List Int} {x3:List (S39)} {x4:Int} (h:spec_haTiles.l0 k x0 x3 x4 = some r):q41_l0 r k [(0,.sl (iI .i64 x0)),(3,.row 28),(4,vi x4),(28,.ow true 39 (iS39 x3))]:=⟨x0,x3,x4,rfl,h⟩
theorem at41_l0 {r:(List (S39))}:∀ k L,q41_l0 r k L → AtP Try.prog 25 (bodyOf Try.f41) (KR Try.prog Try.f41.results.toList (o41 r) (p41 r)) [true,true,false,true,false] [] (lookA L) :=
 at_loop (by kernel_rfl) (fun _ => by kernel_rfl) (q41_l0 r) (by
  rintro k _ ⟨x0,x3,x4,rfl,h⟩
  cases k with
  | zero => simp [spec_haTiles.l0] at h
  | succ k =>
   rw [spec_haTiles.l0] at h
   refine at_ (hn:=hn41) ?_
   refine mid (hn:=hn41) 2 3 [.val (.int .i64 (x0.length:Int))] (iI_len (k:=.i64) (xs:=x0)) (by kernel_rfl) ?_
   rcases ite_ h with ⟨g1,h2⟩ | ⟨g1,h2⟩
   ·obtain ⟨g3,h4⟩:=ip_ h2
    obtain ⟨g5,h6⟩:=ip_ h4
    obtain ⟨g7,h8⟩:=ip_ h6
    obtain ⟨⟨bt197_1,bt197_2⟩,c9,h10⟩:=bd_ h8
    try dsimp only at h10
    obtain ⟨g11,h12⟩:=ip_ h10
    exact leafBack (hn:=hn41) 11 [.val (.bool true),.val (.int .i64 (wrap64 (x4 - 1))),.elem (vi (rd x0 (wrap64 (x4 - 1)))),.elem (vi (rd x0 x4)),.call (.agg [vi bt197_1,vi bt197_2]),.go,.elem (.ow true 39 (iS39 (x3 ++ ([(⟨bt197_1,bt197_2⟩ : S39)])))),.val (.int .i64 (wrap64 (x4 + 1)))] [(28,48)] (q41_l0_mk h12) (Nat.lt_succ_self k) (And.intro (int_lss (P:=Try.prog) (t:=3) (k:=.i64) (x:=(.tmp 5)) (y:=(.tmp 7)) (a:=x4) (b:=(x0.length:Int)) (v:=true) (decide_eq_true g1)) (And.intro (And.intro (int_sub (P:=Try.prog) (t:=3) (k:=.i64) (x:=(.tmp 13)) (y:=(.const (.int .i64 1))) (a:=x4) (b:=1) (c:=(wrap64 (x4 - 1))) (IntWalk.i64_left _)) (And.intro (iI_rd (k:=.i64) (xs:=x0) (i:=(wrap64 (x4 - 1))) g3 g5) (And.intro (iI_rd (k:=.i64) (xs:=x0) (i:=x4) g7 g1) (And.intro (ad_60 c9) (iS39_app (N:=8796093022208) (b:=16) (xs:=x3) (ys:=[(⟨bt197_1,bt197_2⟩ : S39)]) (by decide) (Nat.succ_le_of_lt g11)))))) (int_add (P:=Try.prog) (t:=3) (k:=.i64) (x:=(.tmp 9)) (y:=(.const (.int .i64 1))) (a:=x4) (b:=1) (c:=(wrap64 (x4 + 1))) (IntWalk.i64_left _)))) (by kernel_rfl)
   ·obtain rfl:=Option.some.inj h2
    exact leafRet (hn:=hn41) 12 [.val (.bool false)] [(500000,28)] .ret (.inr rfl) (by kernel_rfl) (int_lss (P:=Try.prog) (t:=3) (k:=.i64) (x:=(.tmp 5)) (y:=(.tmp 7)) (a:=x4) (b:=(x0.length:Int)) (v:=false) (decide_eq_false g1)) (by kernel_rfl))
theorem ad_41 {k:Nat} {l0:List Int} {r:List (S39)} (h:spec_haTiles.f k l0 = some r):CallH Try.prog 41 [.sl (iI .i64 l0)] [] (.row 500000) [(500000,.ow true 39 (iS39 r))]:=by
 unfold spec_haTiles.f at h
 refine call_ok (c:=bodyOf Try.f41) (rs:=o41 r) (post:=p41 r) Try.func41 rfl rfl rfl (by kernel_rfl) ?_
 show AtP Try.prog 25 (bodyOf Try.f41) (KR Try.prog Try.f41.results.toList (o41 r) (p41 r)) [] [] (lookA [(0,.sl (iI .i64 l0))])
 refine at_ (hn:=hn41) ?_
 exact leafAt (hn:=hn41) 11 [.nil false 39,.nil true 39] [] (at41_l0 _ _ (q41_l0_mk h)) True.intro (by kernel_rfl)

def hn63:Hint:=⟨[(3,[9])],[]⟩
def o63 (r:List Int):List AV:=[.row 500000]
def p63 (r:List Int):List (Nat × AV):=[(500000,.ow false 3 (iI .i64 r))]
theorem ad_63 {l0:List Int} {r:List Int} (h:spec_l1Own.f l0 = some r):CallH Try.prog 63 [.sl (iI .i64 l0)] [] (.row 500000) [(500000,.ow false 3 (iI .i64 r))]:=by
 unfold spec_l1Own.f at h
 refine call_ok (c:=bodyOf Try.f63) (rs:=o63 r) (post:=p63 r) Try.func63 rfl rfl rfl (by kernel_rfl) ?_
 show AtP Try.prog 6 (bodyOf Try.f63) (KR Try.prog Try.f63.results.toList (o63 r) (p63 r)) [] [] (lookA [(0,.sl (iI .i64 l0))])
 refine at_ (hn:=hn63) ?_
 obtain ⟨y202,c1,h2⟩:=bd_ h
 obtain rfl:=Option.some.inj c1
 obtain ⟨g3,h4⟩:=ip_ h2
 obtain rfl:=Option.some.inj h4
 exact leafRet (hn:=hn63) 7 [.nil false 3,.go,.elem (.ow false 3 (iI .i64 (([] : List Int) ++ l0)))] [(500000,11)] .ret (.inr rfl) (by kernel_rfl) (iI_app (k:=.i64) (N:=17592186044416) (b:=8) (xs:=([] : List Int)) (ys:=l0) (by decide) (Nat.le_of_lt g3)) (by kernel_rfl)

def hn70:Hint:=⟨[],[]⟩
def o70 (r:Bool):List AV:=[vb r]
def p70 (r:Bool):List (Nat × AV):=[]
theorem ad_70 {a0:Int} {a1:Int} {a2:Int} {r:Bool} (h:spec_l1In.f a0 a1 a2 = some r):CallH Try.prog 70 [vi a0,vi a1,vi a2] [] (vb r) []:=by
 unfold spec_l1In.f at h
 refine call_ok (c:=bodyOf Try.f70) (rs:=o70 r) (post:=p70 r) Try.func70 rfl rfl rfl (by kernel_rfl) ?_
 show AtP Try.prog 15 (bodyOf Try.f70) (KR Try.prog Try.f70.results.toList (o70 r) (p70 r)) [] [] (lookA [(0,vi a0),(1,vi a1),(2,vi a2)])
 refine at_ (hn:=hn70) ?_
 rcases ite_ h with ⟨g1,h2⟩ | ⟨g1,h2⟩
 ·obtain rfl:=Option.some.inj h2
  exact leafRet (hn:=hn70) 7 [.val (.bool true),.val (.bool (decide (a0 ≤ a2)))] [] .ret (.inr rfl) (by kernel_rfl) (And.intro (int_geq (P:=Try.prog) (t:=3) (k:=.i64) (x:=(.tmp 7)) (y:=(.tmp 8)) (a:=a0) (b:=a1) (v:=true) (decide_eq_true g1)) (int_leq (P:=Try.prog) (t:=3) (k:=.i64) (x:=(.tmp 11)) (y:=(.tmp 12)) (a:=a0) (b:=a2) (v:=(decide (a0 ≤ a2))) rfl)) (by kernel_rfl)
 ·obtain rfl:=Option.some.inj h2
  exact leafRet (hn:=hn70) 7 [.val (.bool false)] [] .ret (.inr rfl) (by kernel_rfl) (int_geq (P:=Try.prog) (t:=3) (k:=.i64) (x:=(.tmp 7)) (y:=(.tmp 8)) (a:=a0) (b:=a1) (v:=false) (decide_eq_false g1)) (by kernel_rfl)

def hn66:Hint:=⟨[(3,[14]),(5,[14]),(9,[14])],[]⟩
def o66 (r:Bool):List AV:=[vb r]
def p66 (r:Bool):List (Nat × AV):=[]
theorem ad_66 {a0_0:Int} {a0_1:Int} {r:Bool} (h:spec_tiGood.f a0_0 a0_1 = some r):CallH Try.prog 66 [.agg [vi a0_0,vi a0_1]] [] (vb r) []:=by
 unfold spec_tiGood.f at h
 refine call_ok (c:=bodyOf Try.f66) (rs:=o66 r) (post:=p66 r) Try.func66 rfl rfl rfl (by kernel_rfl) ?_
 show AtP Try.prog 13 (bodyOf Try.f66) (KR Try.prog Try.f66.results.toList (o66 r) (p66 r)) [] [] (lookA [(0,.agg [vi a0_0,vi a0_1])])
 refine at_ (hn:=hn66) ?_
 obtain ⟨t209,c1,h2⟩:=bd_ h
 refine mid (hn:=hn66) 4 6 [.call (vb t209)] (ad_70 c1) (by kernel_rfl) ?_
 rcases ite_ h2 with ⟨g3,h4⟩ | ⟨g3,h4⟩
 ·subst g3
  obtain rfl:=Option.some.inj h4
  exact leafRet (hn:=hn66) 3 [.val (.bool (decide (a0_1 ≤ 9)))] [] .ret (.inr rfl) (by kernel_rfl) (int_leq (P:=Try.prog) (t:=3) (k:=.i64) (x:=(.tmp 10)) (y:=(.const (.int .i64 9))) (a:=a0_1) (b:=9) (v:=(decide (a0_1 ≤ 9))) rfl) (by kernel_rfl)
 ·obtain rfl:=Bool.eq_false_iff.2 g3
  obtain rfl:=Option.some.inj h4
  exact leafRet (hn:=hn66) 3 [] [] .ret (.inr rfl) (by kernel_rfl) True.intro (by kernel_rfl)

def hn50:Hint:=⟨[(4,[31])],[]⟩
def o50 (r:Bool):List AV:=[vb r]
def p50 (r:Bool):List (Nat × AV):=[]
def q50_l0 (r:Bool) (k:Nat) (L:List (Nat × AV)):Prop:=∃ (x0:List (S39)) (x8:List (S39)) (x9:Int) (x10:Int),L = [(0,.sl (iS39 x0)),(8,.sl (iS39 x8)),(9,vi x9),(10,vi x10)] ∧ spec_tiHand.l0 k x0 x8 x9 x10 = some r
theorem q50_l0_mk {r:Bool} {k:Nat} {x0:List (S39)} {x8:List (S39)} {x9:Int} {x10:Int} (h:spec_tiHand.l0 k x0 x8 x9 x10 = some r):q50_l0 r k [(0,.sl (iS39 x0)),(8,.sl (iS39 x8)),(9,vi x9),(10,vi x10)]:=⟨x0,x8,x9,x10,rfl,h⟩
theorem at50_l0 {r:Bool}:∀ k L,q50_l0 r k L → AtP Try.prog 27 (bodyOf Try.f50) (KR Try.prog Try.f50.results.toList (o50 r) (p50 r)) [true,true,false,true,false] [] (lookA L) :=
 at_loop (by kernel_rfl) (fun _ => by kernel_rfl) (q50_l0 r) (by
  rintro k _ ⟨x0,x8,x9,x10,rfl,h⟩
  cases k with
  | zero => simp [spec_tiHand.l0] at h
  | succ k =>
   rw [spec_tiHand.l0] at h
   refine at_ (hn:=hn50) ?_
   rcases ite_ h with ⟨g1,h2⟩ | ⟨g1,h2⟩
   ·obtain ⟨g3,h4⟩:=ip_ h2
    obtain ⟨g5,h6⟩:=ip_ h4
    obtain ⟨t212,c7,h8⟩:=bd_ h6
    refine mid (hn:=hn50) 13 4 [.val (.bool true),.elem (.agg [vi ((rd_T39 x8 x10).f0),vi ((rd_T39 x8 x10).f1)]),.call (vb t212)] (And.intro (int_lss (P:=Try.prog) (t:=3) (k:=.i64) (x:=(.tmp 10)) (y:=(.tmp 9)) (a:=x10) (b:=x9) (v:=true) (decide_eq_true g1)) (And.intro (iS39_rd (xs:=x8) (i:=x10) g3 g5) (ad_66 c7))) (by kernel_rfl) ?_
    rcases ite_ h8 with ⟨g9,h10⟩ | ⟨g9,h10⟩
    ·subst g9
     obtain ⟨g11,h12⟩:=ip_ h10
     obtain ⟨t217,c13,h14⟩:=bd_ h12
     refine mid (hn:=hn50) 0 5 [.elem (.sl (iS39 (x0.take (x10:Int).toNat))),.call (vi t217)] (And.intro (iS39_take (xs:=x0) (b:=x10) g3 g11) (ad_61 c13)) (by kernel_rfl) ?_
     rcases ite_ h14 with ⟨g15,h16⟩ | ⟨g15,h16⟩
     ·obtain rfl:=Option.some.inj h16
      exact leafRet (hn:=hn50) 12 [.val (.bool true)] [] .ret (.inr rfl) (by kernel_rfl) (int_geq (P:=Try.prog) (t:=3) (k:=.i64) (x:=(.tmp 23)) (y:=(.const (.int .i64 0))) (a:=t217) (b:=0) (v:=true) (decide_eq_true g15)) (by kernel_rfl)
     ·exact leafBack (hn:=hn50) 7 [.val (.bool false),.val (.int .i64 (wrap64 (x10 + 1)))] [] (q50_l0_mk h16) (Nat.lt_succ_self k) (And.intro (int_geq (P:=Try.prog) (t:=3) (k:=.i64) (x:=(.tmp 23)) (y:=(.const (.int .i64 0))) (a:=t217) (b:=0) (v:=false) (decide_eq_false g15)) (int_add (P:=Try.prog) (t:=3) (k:=.i64) (x:=(.tmp 10)) (y:=(.const (.int .i64 1))) (a:=x10) (b:=1) (c:=(wrap64 (x10 + 1))) (IntWalk.i64_left _))) (by kernel_rfl)
    ·obtain rfl:=Bool.eq_false_iff.2 g9
     obtain rfl:=Option.some.inj h10
     exact leafRet (hn:=hn50) 12 [] [] .ret (.inr rfl) (by kernel_rfl) True.intro (by kernel_rfl)
   ·obtain rfl:=Option.some.inj h2
    exact leafRet (hn:=hn50) 14 [.val (.bool false)] [] .ret (.inr rfl) (by kernel_rfl) (int_lss (P:=Try.prog) (t:=3) (k:=.i64) (x:=(.tmp 10)) (y:=(.tmp 9)) (a:=x10) (b:=x9) (v:=false) (decide_eq_false g1)) (by kernel_rfl))
theorem ad_50 {k:Nat} {l0:List (S39)} {r:Bool} (h:spec_tiHand.f k l0 = some r):CallH Try.prog 50 [.sl (iS39 l0)] [] (vb r) []:=by
 unfold spec_tiHand.f at h
 refine call_ok (c:=bodyOf Try.f50) (rs:=o50 r) (post:=p50 r) Try.func50 rfl rfl rfl (by kernel_rfl) ?_
 show AtP Try.prog 27 (bodyOf Try.f50) (KR Try.prog Try.f50.results.toList (o50 r) (p50 r)) [] [] (lookA [(0,.sl (iS39 l0))])
 refine at_ (hn:=hn50) ?_
 refine mid (hn:=hn50) 5 2 [.val (.int .i64 (l0.length:Int))] (iS39_len (xs:=l0)) (by kernel_rfl) ?_
 rcases ite_ h with ⟨g1,h2⟩ | ⟨g1,h2⟩
 ·obtain rfl:=Option.some.inj h2
  exact leafRet (hn:=hn50) 8 [.val (.bool true)] [] .ret (.inr rfl) (by kernel_rfl) (int_gtr (P:=Try.prog) (t:=3) (k:=.i64) (x:=(.tmp 6)) (y:=(.const (.int .i64 55))) (a:=(l0.length:Int)) (b:=55) (v:=true) (decide_eq_true g1)) (by kernel_rfl)
 ·exact leafAt (hn:=hn50) 10 [.val (.bool false),.val (.int .i64 (l0.length:Int))] [] (at50_l0 _ _ (q50_l0_mk h2)) (And.intro (int_gtr (P:=Try.prog) (t:=3) (k:=.i64) (x:=(.tmp 6)) (y:=(.const (.int .i64 55))) (a:=(l0.length:Int)) (b:=55) (v:=false) (decide_eq_false g1)) (iS39_len (xs:=l0))) (by kernel_rfl)

def hn71:Hint:=⟨[],[]⟩
def o71 (r:Bool):List AV:=[vb r]
def p71 (r:Bool):List (Nat × AV):=[]
def q71_l0 (r:Bool) (k:Nat) (L:List (Nat × AV)):Prop:=∃ (x1:Int) (x2:Int) (x9:List Int) (x10:Int) (x11:Int),L = [(1,vi x1),(2,vi x2),(9,.sl (iI .i64 x9)),(10,vi x10),(11,vi x11)] ∧ spec_l1All.l0 k x1 x2 x9 x10 x11 = some r
theorem q71_l0_mk {r:Bool} {k:Nat} {x1:Int} {x2:Int} {x9:List Int} {x10:Int} {x11:Int} (h:spec_l1All.l0 k x1 x2 x9 x10 x11 = some r):q71_l0 r k [(1,vi x1),(2,vi x2),(9,.sl (iI .i64 x9)),(10,vi x10),(11,vi x11)]:=⟨x1,x2,x9,x10,x11,rfl,h⟩
theorem at71_l0 {r:Bool}:∀ k L,q71_l0 r k L → AtP Try.prog 21 (bodyOf Try.f71) (KR Try.prog Try.f71.results.toList (o71 r) (p71 r)) [true,false,true,false] [] (lookA L) :=
 at_loop (by kernel_rfl) (fun _ => by kernel_rfl) (q71_l0 r) (by
  rintro k _ ⟨x1,x2,x9,x10,x11,rfl,h⟩
  cases k with
  | zero => simp [spec_l1All.l0] at h
  | succ k =>
   rw [spec_l1All.l0] at h
   refine at_ (hn:=hn71) ?_
   rcases ite_ h with ⟨g1,h2⟩ | ⟨g1,h2⟩
   ·obtain ⟨g3,h4⟩:=ip_ h2
    obtain ⟨g5,h6⟩:=ip_ h4
    obtain ⟨t219,c7,h8⟩:=bd_ h6
    refine mid (hn:=hn71) 13 4 [.val (.bool true),.elem (vi (rd x9 x11)),.call (vb t219)] (And.intro (int_lss (P:=Try.prog) (t:=3) (k:=.i64) (x:=(.tmp 11)) (y:=(.tmp 10)) (a:=x11) (b:=x10) (v:=true) (decide_eq_true g1)) (And.intro (iI_rd (k:=.i64) (xs:=x9) (i:=x11) g3 g5) (ad_70 c7))) (by kernel_rfl) ?_
    rcases ite_ h8 with ⟨g9,h10⟩ | ⟨g9,h10⟩
    ·subst g9
     exact leafBack (hn:=hn71) 7 [.val (.int .i64 (wrap64 (x11 + 1)))] [] (q71_l0_mk h10) (Nat.lt_succ_self k) (int_add (P:=Try.prog) (t:=3) (k:=.i64) (x:=(.tmp 11)) (y:=(.const (.int .i64 1))) (a:=x11) (b:=1) (c:=(wrap64 (x11 + 1))) (IntWalk.i64_left _)) (by kernel_rfl)
    ·obtain rfl:=Bool.eq_false_iff.2 g9
     obtain rfl:=Option.some.inj h10
     exact leafRet (hn:=hn71) 12 [] [] .ret (.inr rfl) (by kernel_rfl) True.intro (by kernel_rfl)
   ·obtain rfl:=Option.some.inj h2
    exact leafRet (hn:=hn71) 14 [.val (.bool false)] [] .ret (.inr rfl) (by kernel_rfl) (int_lss (P:=Try.prog) (t:=3) (k:=.i64) (x:=(.tmp 11)) (y:=(.tmp 10)) (a:=x11) (b:=x10) (v:=false) (decide_eq_false g1)) (by kernel_rfl))
theorem ad_71 {k:Nat} {l0:List Int} {a1:Int} {a2:Int} {r:Bool} (h:spec_l1All.f k l0 a1 a2 = some r):CallH Try.prog 71 [.sl (iI .i64 l0),vi a1,vi a2] [] (vb r) []:=by
 unfold spec_l1All.f at h
 refine call_ok (c:=bodyOf Try.f71) (rs:=o71 r) (post:=p71 r) Try.func71 rfl rfl rfl (by kernel_rfl) ?_
 show AtP Try.prog 21 (bodyOf Try.f71) (KR Try.prog Try.f71.results.toList (o71 r) (p71 r)) [] [] (lookA [(0,.sl (iI .i64 l0)),(1,vi a1),(2,vi a2)])
 refine at_ (hn:=hn71) ?_
 exact leafAt (hn:=hn71) 8 [.val (.int .i64 (l0.length:Int))] [] (at71_l0 _ _ (q71_l0_mk h)) (iI_len (k:=.i64) (xs:=l0)) (by kernel_rfl)

def hn64:Hint:=⟨[(12,[27])],[]⟩
def o64 (r:Bool):List AV:=[vb r]
def p64 (r:Bool):List (Nat × AV):=[]
theorem ad_64 {k:Nat} {l0:List Int} {r:Bool} (h:spec_haGood.f k l0 = some r):CallH Try.prog 64 [.sl (iI .i64 l0)] [] (vb r) []:=by
 unfold spec_haGood.f at h
 refine call_ok (c:=bodyOf Try.f64) (rs:=o64 r) (post:=p64 r) Try.func64 rfl rfl rfl (by kernel_rfl) ?_
 show AtP Try.prog 15 (bodyOf Try.f64) (KR Try.prog Try.f64.results.toList (o64 r) (p64 r)) [] [] (lookA [(0,.sl (iI .i64 l0))])
 refine at_ (hn:=hn64) ?_
 obtain ⟨t220,c1,h2⟩:=bd_ h
 refine mid (hn:=hn64) 4 4 [.val (.int .i64 (l0.length:Int)),.call (vb t220)] (And.intro (iI_len (k:=.i64) (xs:=l0)) (ad_70 c1)) (by kernel_rfl) ?_
 rcases ite_ h2 with ⟨g3,h4⟩ | ⟨g3,h4⟩
 ·subst g3
  obtain ⟨t221,c5,h6⟩:=bd_ h4
  refine mid (hn:=hn64) 0 4 [.call (vb t221)] (ad_71 c5) (by kernel_rfl) ?_
  rcases ite_ h6 with ⟨g7,h8⟩ | ⟨g7,h8⟩
  ·subst g7
   obtain ⟨t222,c9,h10⟩:=bd_ h8
   obtain ⟨t225,c11,h12⟩:=bd_ h10
   obtain rfl:=Option.some.inj h12
   exact leafRet (hn:=hn64) 3 [.callH [] (.row 27) [(27,.ow false 39 (iS39 t222))],.call (vb t225)] [] .ret (.inr rfl) (by kernel_rfl) (And.intro (CallH.ren [(500000,27)] rfl rfl (CallH.frz 500000 rfl (ad_41 c9))) (ad_50 c11)) (by kernel_rfl)
  ·obtain rfl:=Bool.eq_false_iff.2 g7
   obtain rfl:=Option.some.inj h8
   exact leafRet (hn:=hn64) 3 [] [] .ret (.inr rfl) (by kernel_rfl) True.intro (by kernel_rfl)
 ·obtain rfl:=Bool.eq_false_iff.2 g3
  obtain rfl:=Option.some.inj h4
  exact leafRet (hn:=hn64) 3 [] [] .ret (.inr rfl) (by kernel_rfl) True.intro (by kernel_rfl)

def hn42:Hint:=⟨[(10,[1000000]),(15,[1000000]),(23,[49]),(24,[59]),(25,[1000000]),(29,[64]),(31,[65])],[]⟩
def o42 (r:List Int × Int × Int) (s0_0:List Int) (s0_1:Int) (s0_2:Int):List AV:=[.sl (iI .i64 r.1)]
def p42 (r:List Int × Int × Int) (s0_0:List Int) (s0_1:Int) (s0_2:Int):List (Nat × AV):=[(1000000,.box (.agg [.sl (iI .u8 s0_0),vi r.2.1,.val (.int .u64 r.2.2)]))]
def q42_l0 (r:List Int × Int × Int) (s0_0:List Int) (s0_1:Int) (s0_2:Int) (k:Nat) (L:List (Nat × AV)):Prop:=∃ (x2:Int) (x7:List Int) (x8:Int) (x1001:Int) (x1002:Int),L = [(0,.loc 1000000 0),(2,vi x2),(7,.row 49),(8,vi x8),(49,.ow false 3 (iI .i64 x7)),(1000000,.box (.agg [.sl (iI .u8 s0_0),vi x1001,.val (.int .u64 x1002)]))] ∧ spec_l1Cur_sureChain.l0 k x2 x7 x8 s0_0 x1001 x1002 = some r
theorem q42_l0_mk {r:List Int × Int × Int} (s0_0:List Int) (s0_1:Int) (s0_2:Int) {k:Nat} {x2:Int} {x7:List Int} {x8:Int} {x1001:Int} {x1002:Int} (h:spec_l1Cur_sureChain.l0 k x2 x7 x8 s0_0 x1001 x1002 = some r):q42_l0 r s0_0 s0_1 s0_2 k [(0,.loc 1000000 0),(2,vi x2),(7,.row 49),(8,vi x8),(49,.ow false 3 (iI .i64 x7)),(1000000,.box (.agg [.sl (iI .u8 s0_0),vi x1001,.val (.int .u64 x1002)]))]:=⟨x2,x7,x8,x1001,x1002,rfl,h⟩
theorem at42_l0 {r:List Int × Int × Int} {s0_0:List Int} {s0_1:Int} {s0_2:Int}:∀ k L,q42_l0 r s0_0 s0_1 s0_2 k L → AtP Try.prog 35 (bodyOf Try.f42) (KR Try.prog Try.f42.results.toList (o42 r s0_0 s0_1 s0_2) (p42 r s0_0 s0_1 s0_2)) [true,true,false,true,false] [] (lookA L) :=
 at_loop (by kernel_rfl) (fun _ => by kernel_rfl) (q42_l0 r s0_0 s0_1 s0_2) (by
  rintro k _ ⟨x2,x7,x8,x1001,x1002,rfl,h⟩
  cases k with
  | zero => simp [spec_l1Cur_sureChain.l0] at h
  | succ k =>
   rw [spec_l1Cur_sureChain.l0] at h
   refine at_ (hn:=hn42) ?_
   rcases ite_ h with ⟨g1,h2⟩ | ⟨g1,h2⟩
   ·obtain ⟨t235,c3,h4⟩:=bd_ h2
    obtain ⟨⟨bt238_1,bt238_2,bt238_3⟩,c5,h6⟩:=bd_ h4
    try dsimp only at h6
    obtain ⟨g7,h8⟩:=ip_ h6
    obtain ⟨y241,c9,h10⟩:=bd_ h8
    obtain rfl:=Option.some.inj c9
    obtain ⟨t244,c11,h12⟩:=bd_ h10
    refine mid (hn:=hn42) 13 1 [.val (.bool true),.callH [] (.row 59) [(59,.ow false 3 (iI .i64 t235))],.val (.int .i64 (wrap64 (x2 + 1))),.callH [1000000] (vi bt238_1) [(1000000,.box (.agg [.sl (iI .u8 s0_0),vi bt238_2,.val (.int .u64 bt238_3)]))],.go,.elem (.ow false 3 (iI .i64 (t235 ++ ([bt238_1]))))] (And.intro (int_gtr (P:=Try.prog) (t:=3) (k:=.i64) (x:=(.tmp 19)) (y:=(.const (.int .i64 0))) (a:=x8) (b:=0) (v:=true) (decide_eq_true g1)) (And.intro (CallH.ren [(500000,59)] rfl rfl (ad_63 c3)) (And.intro (int_add (P:=Try.prog) (t:=3) (k:=.i64) (x:=(.tmp 26)) (y:=(.const (.int .i64 1))) (a:=x2) (b:=1) (c:=(wrap64 (x2 + 1))) (IntWalk.i64_left _)) (And.intro (CallH.ren [(1000000,1000000)] rfl rfl (ad_37 c5)) (iI_app (k:=.i64) (N:=17592186044416) (b:=8) (xs:=t235) (ys:=[bt238_1]) (by decide) (Nat.succ_le_of_lt g7)))))) (by kernel_rfl) ?_
    rcases ite_ h12 with ⟨g13,h14⟩ | ⟨g13,h14⟩
    ·subst g13
     exact leafBack (hn:=hn42) 7 [.call (vb true),.val (.int .i64 (wrap64 (x8 - 1)))] [(49,65)] (q42_l0_mk s0_0 s0_1 s0_2 h14) (Nat.lt_succ_self k) (And.intro (ad_64 c11) (int_sub (P:=Try.prog) (t:=3) (k:=.i64) (x:=(.tmp 21)) (y:=(.const (.int .i64 1))) (a:=x8) (b:=1) (c:=(wrap64 (x8 - 1))) (IntWalk.i64_left _))) (by kernel_rfl)
    ·obtain rfl:=Bool.eq_false_iff.2 g13
     exact leafBack (hn:=hn42) 7 [.call (vb false),.val (.int .i64 (wrap64 (x8 - 1)))] [] (q42_l0_mk s0_0 s0_1 s0_2 h14) (Nat.lt_succ_self k) (And.intro (ad_64 c11) (int_sub (P:=Try.prog) (t:=3) (k:=.i64) (x:=(.tmp 21)) (y:=(.const (.int .i64 1))) (a:=x8) (b:=1) (c:=(wrap64 (x8 - 1))) (IntWalk.i64_left _))) (by kernel_rfl)
   ·obtain rfl:=Option.some.inj h2
    exact leafRet (hn:=hn42) 14 [.val (.bool false)] [] .ret (.inr rfl) (by kernel_rfl) (int_gtr (P:=Try.prog) (t:=3) (k:=.i64) (x:=(.tmp 19)) (y:=(.const (.int .i64 0))) (a:=x8) (b:=0) (v:=false) (decide_eq_false g1)) (by kernel_rfl))
theorem ad_42 {k:Nat} {s0_0:List Int} {s0_1:Int} {s0_2:Int} {a1:Int} {a2:Int} {r1:List Int} {r2:Int} {r3:Int} (h:spec_l1Cur_sureChain.f k s0_0 s0_1 s0_2 a1 a2 = some (r1,r2,r3)):CallH Try.prog 42 [.loc 1000000 0,vi a1,vi a2] [(1000000,.box (.agg [.sl (iI .u8 s0_0),vi s0_1,.val (.int .u64 s0_2)]))] (.sl (iI .i64 r1)) [(1000000,.box (.agg [.sl (iI .u8 s0_0),vi r2,.val (.int .u64 r3)]))]:=by
 unfold spec_l1Cur_sureChain.f at h
 refine call_ok (c:=bodyOf Try.f42) (rs:=o42 (r1,r2,r3) s0_0 s0_1 s0_2) (post:=p42 (r1,r2,r3) s0_0 s0_1 s0_2) Try.func42 rfl rfl rfl (by kernel_rfl) ?_
 show AtP Try.prog 35 (bodyOf Try.f42) (KR Try.prog Try.f42.results.toList (o42 (r1,r2,r3) s0_0 s0_1 s0_2) (p42 (r1,r2,r3) s0_0 s0_1 s0_2)) [] [] (lookA [(0,.loc 1000000 0),(1,vi a1),(2,vi a2),(1000000,.box (.agg [.sl (iI .u8 s0_0),vi s0_1,.val (.int .u64 s0_2)]))])
 refine at_ (hn:=hn42) ?_
 obtain ⟨⟨bt226_1,bt226_2,bt226_3⟩,c1,h2⟩:=bd_ h
 obtain ⟨⟨bt232_1,bt232_2,bt232_3⟩,c3,h4⟩:=bd_ h2
 try dsimp only at h4
 exact leafAt (hn:=hn42) 11 [.goT,.val (.int .i64 (wrap64 (a2 + 1))),.callH [1000000] (vi bt226_1) [(1000000,.box (.agg [.sl (iI .u8 s0_0),vi bt226_2,.val (.int .u64 bt226_3)]))],.go,.val (.int .i64 (wrap64 (a1 + 1))),.callH [1000000] (vi bt232_1) [(1000000,.box (.agg [.sl (iI .u8 s0_0),vi bt232_2,.val (.int .u64 bt232_3)]))]] [] (at42_l0 _ _ (q42_l0_mk s0_0 s0_1 s0_2 h4)) (And.intro (And.intro (int_add (P:=Try.prog) (t:=3) (k:=.i64) (x:=(.tmp 11)) (y:=(.const (.int .i64 1))) (a:=a2) (b:=1) (c:=(wrap64 (a2 + 1))) (IntWalk.i64_left _)) (CallH.ren [(1000000,1000000)] rfl rfl (ad_37 c1))) (And.intro (int_add (P:=Try.prog) (t:=3) (k:=.i64) (x:=(.tmp 16)) (y:=(.const (.int .i64 1))) (a:=a1) (b:=1) (c:=(wrap64 (a1 + 1))) (IntWalk.i64_left _)) (CallH.ren [(1000000,1000000)] rfl rfl (ad_37 c3)))) (by kernel_rfl)

def hn22:Hint:=⟨[(10,[56]),(11,[1000000]),(13,[1000000]),(17,[1000000]),(22,[67]),(28,[1000000]),(29,[67]),(32,[67]),(34,[67]),(36,[67]),(38,[67]),(39,[67]),(41,[67]),(42,[67]),(44,[67])],[]⟩
def o22 (r:(List (S39)) × Int × Int) (s0_0:List Int) (s0_1:Int) (s0_2:Int):List AV:=[.sl (iS39 r.1)]
def p22 (r:(List (S39)) × Int × Int) (s0_0:List Int) (s0_1:Int) (s0_2:Int):List (Nat × AV):=[(1000000,.box (.agg [.sl (iI .u8 s0_0),vi r.2.1,.val (.int .u64 r.2.2)]))]
def q22_l0 (r:(List (S39)) × Int × Int) (s0_0:List Int) (s0_1:Int) (s0_2:Int) (k:Nat) (L:List (Nat × AV)):Prop:=∃ (x7:List (S39)) (x8:Int) (x1001:Int) (x1002:Int),L = [(0,.loc 1000000 0),(7,.row 67),(8,vi x8),(67,.ow true 39 (iS39 x7)),(1000000,.box (.agg [.sl (iI .u8 s0_0),vi x1001,.val (.int .u64 x1002)]))] ∧ spec_l1Cur_handOfChain.l0 k x7 x8 s0_0 x1001 x1002 = some r
theorem q22_l0_mk {r:(List (S39)) × Int × Int} (s0_0:List Int) (s0_1:Int) (s0_2:Int) {k:Nat} {x7:List (S39)} {x8:Int} {x1001:Int} {x1002:Int} (h:spec_l1Cur_handOfChain.l0 k x7 x8 s0_0 x1001 x1002 = some r):q22_l0 r s0_0 s0_1 s0_2 k [(0,.loc 1000000 0),(7,.row 67),(8,vi x8),(67,.ow true 39 (iS39 x7)),(1000000,.box (.agg [.sl (iI .u8 s0_0),vi x1001,.val (.int .u64 x1002)]))]:=⟨x7,x8,x1001,x1002,rfl,h⟩
theorem at22_l0 {r:(List (S39)) × Int × Int} {s0_0:List Int} {s0_1:Int} {s0_2:Int}:∀ k L,q22_l0 r s0_0 s0_1 s0_2 k L → AtP Try.prog 46 (bodyOf Try.f22) (KR Try.prog Try.f22.results.toList (o22 r s0_0 s0_1 s0_2) (p22 r s0_0 s0_1 s0_2)) [true,true,true,false,true,false] [] (lookA L) :=
 at_loop (by kernel_rfl) (fun _ => by kernel_rfl) (q22_l0 r s0_0 s0_1 s0_2) (by
  rintro k _ ⟨x7,x8,x1001,x1002,rfl,h⟩
  cases k with
  | zero => simp [spec_l1Cur_handOfChain.l0] at h
  | succ k =>
   rw [spec_l1Cur_handOfChain.l0] at h
   refine at_ (hn:=hn22) ?_
   rcases ite_ h with ⟨g1,h2⟩ | ⟨g1,h2⟩
   ·obtain ⟨⟨bt261_1,bt261_2,bt261_3⟩,c3,h4⟩:=bd_ h2
    try dsimp only at h4
    obtain ⟨g5,h6⟩:=ip_ h4
    obtain ⟨g7,h8⟩:=ip_ h6
    obtain ⟨g9,h10⟩:=ip_ h8
    exact leafBack (hn:=hn22) 22 [.val (.bool true),.val (.int .i64 (x7.length:Int)),.callH [1000000] (vi bt261_1) [(1000000,.box (.agg [.sl (iI .u8 s0_0),vi bt261_2,.val (.int .u64 bt261_3)]))],.go,.elem (.agg [vi ((rd_T39 x7 bt261_1).f0),vi ((rd_T39 x7 bt261_1).f1)]),.go,.elem (.agg [vi ((rd_T39 x7 0).f0),vi ((rd_T39 x7 0).f1)]),.go,.elem (.agg [vi ((rd_T39 x7 bt261_1).f0),vi ((rd_T39 x7 bt261_1).f1)]),.elem (.ow true 39 (iS39 (x7.set ((bt261_1:Int).toNat) (⟨(rd_T39 x7 0).f0,(rd_T39 x7 0).f1⟩ : S39)))),.go,.elem (.agg [vi ((rd_T39 (x7.set ((bt261_1:Int).toNat) (⟨(rd_T39 x7 0).f0,(rd_T39 x7 0).f1⟩ : S39)) 0).f0),vi ((rd_T39 (x7.set ((bt261_1:Int).toNat) (⟨(rd_T39 x7 0).f0,(rd_T39 x7 0).f1⟩ : S39)) 0).f1)]),.elem (.ow true 39 (iS39 ((x7.set ((bt261_1:Int).toNat) (⟨(rd_T39 x7 0).f0,(rd_T39 x7 0).f1⟩ : S39)).set ((0:Int).toNat) (⟨(rd_T39 x7 bt261_1).f0,(rd_T39 x7 bt261_1).f1⟩ : S39)))),.val (.int .i64 (wrap64 (x8 - 1)))] [] (q22_l0_mk s0_0 s0_1 s0_2 h10) (Nat.lt_succ_self k) (And.intro (int_gtr (P:=Try.prog) (t:=3) (k:=.i64) (x:=(.tmp 24)) (y:=(.const (.int .i64 1))) (a:=x8) (b:=1) (v:=true) (decide_eq_true g1)) (And.intro (And.intro (iS39_len (xs:=x7)) (CallH.ren [(1000000,1000000)] rfl rfl (ad_37 c3))) (And.intro (And.intro (iS39_lt (xs:=x7) (i:=bt261_1) g5 g7) (And.right (iS39_rd (xs:=x7) (i:=bt261_1) g5 g7))) (And.intro (And.intro (iS39_lt (xs:=x7) (i:=0) (by decide) g9) (And.intro (And.right (iS39_rd (xs:=x7) (i:=0) (by decide) g9)) (And.intro (iS39_lt (xs:=x7) (i:=bt261_1) g5 g7) (iS39_set (xs:=x7) (i:=bt261_1) (x:=(⟨(rd_T39 x7 0).f0,(rd_T39 x7 0).f1⟩ : S39)) g5 g7)))) (And.intro (And.intro (iS39_lt (xs:=(x7.set ((bt261_1:Int).toNat) (⟨(rd_T39 x7 0).f0,(rd_T39 x7 0).f1⟩ : S39))) (i:=0) (by decide) (by simp only [List.length_set]; omega)) (iS39_set (xs:=(x7.set ((bt261_1:Int).toNat) (⟨(rd_T39 x7 0).f0,(rd_T39 x7 0).f1⟩ : S39))) (i:=0) (x:=(⟨(rd_T39 x7 bt261_1).f0,(rd_T39 x7 bt261_1).f1⟩ : S39)) (by decide) (by simp only [List.length_set]; omega))) (int_sub (P:=Try.prog) (t:=3) (k:=.i64) (x:=(.tmp 26)) (y:=(.const (.int .i64 1))) (a:=x8) (b:=1) (c:=(wrap64 (x8 - 1))) (IntWalk.i64_left _))))))) (by kernel_rfl)
   ·obtain rfl:=Option.some.inj h2
    exact leafRet (hn:=hn22) 14 [.val (.bool false),.fz 67] [] .ret (.inr rfl) (by kernel_rfl) (int_gtr (P:=Try.prog) (t:=3) (k:=.i64) (x:=(.tmp 24)) (y:=(.const (.int .i64 1))) (a:=x8) (b:=1) (v:=false) (decide_eq_false g1)) (by kernel_rfl))
theorem ad_22 {k:Nat} {s0_0:List Int} {s0_1:Int} {s0_2:Int} {a1:Int} {a2:Int} {r1:List (S39)} {r2:Int} {r3:Int} (h:spec_l1Cur_handOfChain.f k s0_0 s0_1 s0_2 a1 a2 = some (r1,r2,r3)):CallH Try.prog 22 [.loc 1000000 0,vi a1,vi a2] [(1000000,.box (.agg [.sl (iI .u8 s0_0),vi s0_1,.val (.int .u64 s0_2)]))] (.sl (iS39 r1)) [(1000000,.box (.agg [.sl (iI .u8 s0_0),vi r2,.val (.int .u64 r3)]))]:=by
 unfold spec_l1Cur_handOfChain.f at h
 refine call_ok (c:=bodyOf Try.f22) (rs:=o22 (r1,r2,r3) s0_0 s0_1 s0_2) (post:=p22 (r1,r2,r3) s0_0 s0_1 s0_2) Try.func22 rfl rfl rfl (by kernel_rfl) ?_
 show AtP Try.prog 46 (bodyOf Try.f22) (KR Try.prog Try.f22.results.toList (o22 (r1,r2,r3) s0_0 s0_1 s0_2) (p22 (r1,r2,r3) s0_0 s0_1 s0_2)) [] [] (lookA [(0,.loc 1000000 0),(1,vi a1),(2,vi a2),(1000000,.box (.agg [.sl (iI .u8 s0_0),vi s0_1,.val (.int .u64 s0_2)]))])
 refine at_ (hn:=hn22) ?_
 obtain ⟨⟨bt245_1,bt245_2,bt245_3⟩,c1,h2⟩:=bd_ h
 try dsimp only at h2
 refine mid (hn:=hn22) 5 1 [.goT] True.intro (by kernel_rfl) ?_
 rcases ite_ h2 with ⟨g3,h4⟩ | ⟨g3,h4⟩
 ·subst g3
  obtain ⟨⟨bt248_1,bt248_2,bt248_3⟩,c5,h6⟩:=bd_ h4
  try dsimp only at h6
  obtain ⟨rfl,rfl,rfl⟩:=pr3_ h6
  exact leafRet (hn:=hn22) 8 [.callH [1000000] (vb true) [(1000000,.box (.agg [.sl (iI .u8 s0_0),vi bt245_2,.val (.int .u64 bt245_3)]))],.callH [1000000] (.sl (iS39 bt248_1)) [(1000000,.box (.agg [.sl (iI .u8 s0_0),vi bt248_2,.val (.int .u64 bt248_3)]))]] [] .ret (.inr rfl) (by kernel_rfl) (And.intro (CallH.ren [(1000000,1000000)] rfl rfl (ad_20 c1)) (CallH.ren [(1000000,1000000)] rfl rfl (ad_21 c5))) (by kernel_rfl)
 ·obtain rfl:=Bool.eq_false_iff.2 g3
  obtain ⟨⟨bt253_1,bt253_2,bt253_3⟩,c7,h8⟩:=bd_ h4
  try dsimp only at h8
  obtain ⟨t258,c9,h10⟩:=bd_ h8
  exact leafAt (hn:=hn22) 13 [.callH [1000000] (vb false) [(1000000,.box (.agg [.sl (iI .u8 s0_0),vi bt245_2,.val (.int .u64 bt245_3)]))],.callH [1000000] (.sl (iI .i64 bt253_1)) [(1000000,.box (.agg [.sl (iI .u8 s0_0),vi bt253_2,.val (.int .u64 bt253_3)]))],.callH [] (.row 67) [(67,.ow true 39 (iS39 t258))],.val (.int .i64 (t258.length:Int))] [] (at22_l0 _ _ (q22_l0_mk s0_0 s0_1 s0_2 h10)) (And.intro (CallH.ren [(1000000,1000000)] rfl rfl (ad_20 c1)) (And.intro (And.intro (CallH.ren [(1000000,1000000)] rfl rfl (ad_42 c7)) (CallH.ren [(500000,67)] rfl rfl (ad_41 c9))) (iS39_len (xs:=t258)))) (by kernel_rfl)

def hn5:Hint:=⟨[(7,[19]),(9,[19]),(11,[19])],[]⟩
def o5 (r:(List (S39))):List AV:=[.sl (iS39 r)]
def p5 (r:(List (S39))):List (Nat × AV):=[]
theorem ad_5 {k:Nat} {l0:List Int} {r:List (S39)} (h:spec_DrawAllChains.f k l0 = some r):CallH Try.prog 5 [.sl (iI .u8 l0)] [] (.sl (iS39 r)) []:=by
 unfold spec_DrawAllChains.f at h
 refine call_ok (c:=bodyOf Try.f5) (rs:=o5 r) (post:=p5 r) Try.func5 rfl rfl rfl (by kernel_rfl) ?_
 show AtP Try.prog 13 (bodyOf Try.f5) (KR Try.prog Try.f5.results.toList (o5 r) (p5 r)) [] [] (lookA [(0,.sl (iI .u8 l0))])
 refine at_ (hn:=hn5) ?_
 obtain ⟨⟨bt270_1,bt270_2,bt270_3⟩,c1,h2⟩:=bd_ h
 try dsimp only at h2
 refine mid (hn:=hn5) 8 1 [.goT,.go] True.intro (by kernel_rfl) ?_
 rcases ite_ h2 with ⟨g3,h4⟩ | ⟨g3,h4⟩
 ·subst g3
  obtain ⟨⟨bt273_1,bt273_2,bt273_3⟩,c5,h6⟩:=bd_ h4
  try dsimp only at h6
  obtain rfl:=Option.some.inj h6
  exact leafRet (hn:=hn5) 8 [.callH [19] (vb true) [(19,.box (.agg [.sl (iI .u8 l0),vi bt270_2,.val (.int .u64 bt270_3)]))],.callH [19] (.sl (iS39 bt273_1)) [(19,.box (.agg [.sl (iI .u8 l0),vi bt273_2,.val (.int .u64 bt273_3)]))]] [] .ret (.inr rfl) (by kernel_rfl) (And.intro (CallH.ren [(1000000,19)] rfl rfl (ad_20 c1)) (CallH.ren [(1000000,19)] rfl rfl (ad_21 c5))) (by kernel_rfl)
 ·obtain rfl:=Bool.eq_false_iff.2 g3
  obtain ⟨⟨bt278_1,bt278_2,bt278_3⟩,c7,h8⟩:=bd_ h4
  try dsimp only at h8
  obtain rfl:=Option.some.inj h8
  exact leafRet (hn:=hn5) 9 [.callH [19] (vb false) [(19,.box (.agg [.sl (iI .u8 l0),vi bt270_2,.val (.int .u64 bt270_3)]))],.callH [19] (.sl (iS39 bt278_1)) [(19,.box (.agg [.sl (iI .u8 l0),vi bt278_2,.val (.int .u64 bt278_3)]))]] [] .ret (.inr rfl) (by kernel_rfl) (And.intro (CallH.ren [(1000000,19)] rfl rfl (ad_20 c1)) (CallH.ren [(1000000,19)] rfl rfl (ad_22 c7))) (by kernel_rfl)

def hn54:Hint:=⟨[],[]⟩
def o54 (r:Bool):List AV:=[vb r]
def p54 (r:Bool):List (Nat × AV):=[]
def hn32:Hint:=⟨[(3,[14]),(5,[14]),(9,[14])],[]⟩
def o32 (r:Bool):List AV:=[vb r]
def p32 (r:Bool):List (Nat × AV):=[]
def hn31:Hint:=⟨[(1,[7])],[]⟩
def o31 (r:Bool):List AV:=[vb r]
def p31 (r:Bool):List (Nat × AV):=[]
def hn44:Hint:=⟨[(3,[22])],[]⟩
def o44 (r:Int):List AV:=[vi r]
def p44 (r:Int):List (Nat × AV):=[]
def q44_l0 (r:Int) (k:Nat) (L:List (Nat × AV)):Prop:=∃ (x0:List (S39)) (x7:Int) (x8:Int) (x288000:Int) (x288001:Int),L = [(0,.sl (iS39 x0)),(3,.loc 22 0),(7,vi x7),(8,vi x8),(22,.box (.agg [vi x288000,vi x288001]))] ∧ slices_Index_impl_Tile_impl_Tile.l0 k x0 x7 x8 x288000 x288001 = some r
theorem q44_l0_mk {r:Int} {k:Nat} {x0:List (S39)} {x7:Int} {x8:Int} {x288000:Int} {x288001:Int} (h:slices_Index_impl_Tile_impl_Tile.l0 k x0 x7 x8 x288000 x288001 = some r):q44_l0 r k [(0,.sl (iS39 x0)),(3,.loc 22 0),(7,vi x7),(8,vi x8),(22,.box (.agg [vi x288000,vi x288001]))]:=⟨x0,x7,x8,x288000,x288001,rfl,h⟩
theorem at44_l0 {r:Int}:∀ k L,q44_l0 r k L → AtP Try.prog 19 (bodyOf Try.f44) (KR Try.prog Try.f44.results.toList (o44 r) (p44 r)) [true,false,true,false] [] (lookA L) :=
 at_loop (by kernel_rfl) (fun _ => by kernel_rfl) (q44_l0 r) (by
  rintro k _ ⟨x0,x7,x8,x288000,x288001,rfl,h⟩
  cases k with
  | zero => simp [slices_Index_impl_Tile_impl_Tile.l0] at h
  | succ k =>
   rw [slices_Index_impl_Tile_impl_Tile.l0] at h
   refine at_ (hn:=hn44) ?_
   rcases ite_ h with ⟨g1,h2⟩ | ⟨g1,h2⟩
   ·obtain ⟨g3,h4⟩:=ip_ h2
    obtain ⟨g5,h6⟩:=ip_ h4
    refine mid (hn:=hn44) 13 5 [.val (.bool true),.elem (.agg [vi ((rd_T39 x0 x8).f0),vi ((rd_T39 x0 x8).f1)])] (And.intro (int_lss (P:=Try.prog) (t:=3) (k:=.i64) (x:=(.tmp 8)) (y:=(.tmp 7)) (a:=x8) (b:=x7) (v:=true) (decide_eq_true g1)) (iS39_rd (xs:=x0) (i:=x8) g3 g5)) (by kernel_rfl) ?_
    rcases ite_ h6 with ⟨g7,h8⟩ | ⟨g7,h8⟩
    ·obtain rfl:=Option.some.inj h8
     exact leafRet (hn:=hn44) 12 [.val (.bool true)] [] .ret (.inr rfl) (by kernel_rfl) (agg_39_eql (x:=(.tmp 11)) (y:=(.tmp 15)) (a0:=x288000) (b0:=((rd_T39 x0 x8).f0)) (a1:=x288001) (b1:=((rd_T39 x0 x8).f1)) (v:=true) g7) (by kernel_rfl)
    ·exact leafBack (hn:=hn44) 7 [.val (.bool false),.val (.int .i64 (wrap64 (x8 + 1)))] [] (q44_l0_mk h8) (Nat.lt_succ_self k) (And.intro (agg_39_eql (x:=(.tmp 11)) (y:=(.tmp 15)) (a0:=x288000) (b0:=((rd_T39 x0 x8).f0)) (a1:=x288001) (b1:=((rd_T39 x0 x8).f1)) (v:=false) (Bool.eq_false_iff.2 g7)) (int_add (P:=Try.prog) (t:=3) (k:=.i64) (x:=(.tmp 8)) (y:=(.const (.int .i64 1))) (a:=x8) (b:=1) (c:=(wrap64 (x8 + 1))) (IntWalk.i64_left _))) (by kernel_rfl)
   ·obtain rfl:=Option.some.inj h2
    exact leafRet (hn:=hn44) 14 [.val (.bool false)] [] .ret (.inr rfl) (by kernel_rfl) (int_lss (P:=Try.prog) (t:=3) (k:=.i64) (x:=(.tmp 8)) (y:=(.tmp 7)) (a:=x8) (b:=x7) (v:=false) (decide_eq_false g1)) (by kernel_rfl))
theorem ad_44 {k:Nat} {l0:List (S39)} {a1_0:Int} {a1_1:Int} {r:Int} (h:slices_Index_impl_Tile_impl_Tile.f k l0 a1_0 a1_1 = some r):CallH Try.prog 44 [.sl (iS39 l0),.agg [vi a1_0,vi a1_1]] [] (vi r) []:=by
 unfold slices_Index_impl_Tile_impl_Tile.f at h
 refine call_ok (c:=bodyOf Try.f44) (rs:=o44 r) (post:=p44 r) Try.func44 rfl rfl rfl (by kernel_rfl) ?_
 show AtP Try.prog 19 (bodyOf Try.f44) (KR Try.prog Try.f44.results.toList (o44 r) (p44 r)) [] [] (lookA [(0,.sl (iS39 l0)),(1,.agg [vi a1_0,vi a1_1])])
 refine at_ (hn:=hn44) ?_
 exact leafAt (hn:=hn44) 8 [.val (.int .i64 (l0.length:Int))] [] (at44_l0 _ _ (q44_l0_mk h)) (iS39_len (xs:=l0)) (by kernel_rfl)

def hn55:Hint:=⟨[(3,[12])],[]⟩
def o55 (r:Bool):List AV:=[vb r]
def p55 (r:Bool):List (Nat × AV):=[]
theorem ad_55 {k:Nat} {l0:List (S39)} {a1_0:Int} {a1_1:Int} {r:Bool} (h:slices_Contains_impl_Tile_impl_Tile.f k l0 a1_0 a1_1 = some r):CallH Try.prog 55 [.sl (iS39 l0),.agg [vi a1_0,vi a1_1]] [] (vb r) []:=by
 unfold slices_Contains_impl_Tile_impl_Tile.f at h
 refine call_ok (c:=bodyOf Try.f55) (rs:=o55 r) (post:=p55 r) Try.func55 rfl rfl rfl (by kernel_rfl) ?_
 show AtP Try.prog 9 (bodyOf Try.f55) (KR Try.prog Try.f55.results.toList (o55 r) (p55 r)) [] [] (lookA [(0,.sl (iS39 l0)),(1,.agg [vi a1_0,vi a1_1])])
 refine at_ (hn:=hn55) ?_
 obtain ⟨t290,c1,h2⟩:=bd_ h
 obtain rfl:=Option.some.inj h2
 exact leafRet (hn:=hn55) 7 [.call (vi t290),.val (.bool (decide (t290 ≥ 0)))] [] .ret (.inr rfl) (by kernel_rfl) (And.intro (ad_44 c1) (int_geq (P:=Try.prog) (t:=3) (k:=.i64) (x:=(.tmp 7)) (y:=(.const (.int .i64 0))) (a:=t290) (b:=0) (v:=(decide (t290 ≥ 0))) rfl)) (by kernel_rfl)

def hn33:Hint:=⟨[(4,[22])],[]⟩
def o33 (r:Bool):List AV:=[vb r]
def p33 (r:Bool):List (Nat × AV):=[]
def q33_l0 (r:Bool) (k:Nat) (L:List (Nat × AV)):Prop:=∃ (x0:List (S39)) (x5:List (S39)) (x6:Int) (x7:Int),L = [(0,.sl (iS39 x0)),(5,.sl (iS39 x5)),(6,vi x6),(7,vi x7)] ∧ impl_areDifferent_impl_Tile.l0 k x0 x5 x6 x7 = some r
theorem q33_l0_mk {r:Bool} {k:Nat} {x0:List (S39)} {x5:List (S39)} {x6:Int} {x7:Int} (h:impl_areDifferent_impl_Tile.l0 k x0 x5 x6 x7 = some r):q33_l0 r k [(0,.sl (iS39 x0)),(5,.sl (iS39 x5)),(6,vi x6),(7,vi x7)]:=⟨x0,x5,x6,x7,rfl,h⟩
theorem at33_l0 {r:Bool}:∀ k L,q33_l0 r k L → AtP Try.prog 18 (bodyOf Try.f33) (KR Try.prog Try.f33.results.toList (o33 r) (p33 r)) [true,false,true,false] [] (lookA L) :=
 at_loop (by kernel_rfl) (fun _ => by kernel_rfl) (q33_l0 r) (by
  rintro k _ ⟨x0,x5,x6,x7,rfl,h⟩
  cases k with
  | zero => simp [impl_areDifferent_impl_Tile.l0] at h
  | succ k =>
   rw [impl_areDifferent_impl_Tile.l0] at h
   refine at_ (hn:=hn33) ?_
   rcases ite_ h with ⟨g1,h2⟩ | ⟨g1,h2⟩
   ·obtain ⟨g3,h4⟩:=ip_ h2
    obtain ⟨g5,h6⟩:=ip_ h4
    obtain ⟨g7,h8⟩:=ip_ h6
    obtain ⟨t297,c9,h10⟩:=bd_ h8
    refine mid (hn:=hn33) 13 4 [.val (.bool true),.elem (.agg [vi ((rd_T39 x5 x7).f0),vi ((rd_T39 x5 x7).f1)]),.elem (.sl (iS39 (x0.take (x7:Int).toNat)))] (And.intro (int_lss (P:=Try.prog) (t:=3) (k:=.i64) (x:=(.tmp 7)) (y:=(.tmp 6)) (a:=x7) (b:=x6) (v:=true) (decide_eq_true g1)) (And.intro (iS39_rd (xs:=x5) (i:=x7) g3 g5) (iS39_take (xs:=x0) (b:=x7) g3 g7))) (by kernel_rfl) ?_
    rcases ite_ h10 with ⟨g11,h12⟩ | ⟨g11,h12⟩
    ·subst g11
     obtain rfl:=Option.some.inj h12
     exact leafRet (hn:=hn33) 12 [.call (vb true)] [] .ret (.inr rfl) (by kernel_rfl) (ad_55 c9) (by kernel_rfl)
    ·obtain rfl:=Bool.eq_false_iff.2 g11
     exact leafBack (hn:=hn33) 7 [.call (vb false),.val (.int .i64 (wrap64 (x7 + 1)))] [] (q33_l0_mk h12) (Nat.lt_succ_self k) (And.intro (ad_55 c9) (int_add (P:=Try.prog) (t:=3) (k:=.i64) (x:=(.tmp 7)) (y:=(.const (.int .i64 1))) (a:=x7) (b:=1) (c:=(wrap64 (x7 + 1))) (IntWalk.i64_left _))) (by kernel_rfl)
   ·obtain rfl:=Option.some.inj h2
    exact leafRet (hn:=hn33) 14 [.val (.bool false)] [] .ret (.inr rfl) (by kernel_rfl) (int_lss (P:=Try.prog) (t:=3) (k:=.i64) (x:=(.tmp 7)) (y:=(.tmp 6)) (a:=x7) (b:=x6) (v:=false) (decide_eq_false g1)) (by kernel_rfl))
theorem ad_33 {k:Nat} {l0:List (S39)} {r:Bool} (h:impl_areDifferent_impl_Tile.f k l0 = some r):CallH Try.prog 33 [.sl (iS39 l0)] [] (vb r) []:=by
 unfold impl_areDifferent_impl_Tile.f at h
 refine call_ok (c:=bodyOf Try.f33) (rs:=o33 r) (post:=p33 r) Try.func33 rfl rfl rfl (by kernel_rfl) ?_
 show AtP Try.prog 18 (bodyOf Try.f33) (KR Try.prog Try.f33.results.toList (o33 r) (p33 r)) [] [] (lookA [(0,.sl (iS39 l0))])
 refine at_ (hn:=hn33) ?_
 exact leafAt (hn:=hn33) 8 [.val (.int .i64 (l0.length:Int))] [] (at33_l0 _ _ (q33_l0_mk h)) (iS39_len (xs:=l0)) (by kernel_rfl)

def hn23:Hint:=⟨[],[]⟩
def o23 (r:Bool):List AV:=[vb r]
def p23 (r:Bool):List (Nat × AV):=[]
theorem ad_23 {k:Nat} {l0:List (S39)} {r:Bool} (h:impl_isChained.f k l0 = some r):CallH Try.prog 23 [.sl (iS39 l0)] [] (vb r) []:=by
 unfold impl_isChained.f at h
 refine call_ok (c:=bodyOf Try.f23) (rs:=o23 r) (post:=p23 r) Try.func23 rfl rfl rfl (by kernel_rfl) ?_
 show AtP Try.prog 10 (bodyOf Try.f23) (KR Try.prog Try.f23.results.toList (o23 r) (p23 r)) [] [] (lookA [(0,.sl (iS39 l0))])
 refine at_ (hn:=hn23) ?_
 obtain ⟨t298,c1,h2⟩:=bd_ h
 refine mid (hn:=hn23) 4 3 [.call (vb t298)] (ad_14 c1) (by kernel_rfl) ?_
 rcases ite_ h2 with ⟨g3,h4⟩ | ⟨g3,h4⟩
 ·subst g3
  obtain rfl:=Option.some.inj h4
  exact leafRet (hn:=hn23) 3 [.val (.int .i64 (l0.length:Int)),.val (.bool (decide ((l0.length:Int) ≤ 8)))] [] .ret (.inr rfl) (by kernel_rfl) (And.intro (iS39_len (xs:=l0)) (int_leq (P:=Try.prog) (t:=3) (k:=.i64) (x:=(.tmp 7)) (y:=(.const (.int .i64 8))) (a:=(l0.length:Int)) (b:=8) (v:=(decide ((l0.length:Int) ≤ 8))) rfl)) (by kernel_rfl)
 ·obtain rfl:=Bool.eq_false_iff.2 g3
  obtain rfl:=Option.some.inj h4
  exact leafRet (hn:=hn23) 3 [] [] .ret (.inr rfl) (by kernel_rfl) True.intro (by kernel_rfl)

def hn45:Hint:=⟨[(4,[16])],[]⟩
def o45 (r:Int × Int):List AV:=[.agg [vi r.1,vi r.2]]
def p45 (r:Int × Int):List (Nat × AV):=[]
theorem ad_45 {a0:Int} {a1:Int} {r1:Int} {r2:Int} (h:impl_tile.f a0 a1 = some (r1,r2)):CallH Try.prog 45 [vi a0,vi a1] [] (.agg [vi r1,vi r2]) []:=by
 unfold impl_tile.f at h
 refine call_ok (c:=bodyOf Try.f45) (rs:=o45 (r1,r2)) (post:=p45 (r1,r2)) Try.func45 rfl rfl rfl (by kernel_rfl) ?_
 show AtP Try.prog 12 (bodyOf Try.f45) (KR Try.prog Try.f45.results.toList (o45 (r1,r2)) (p45 (r1,r2))) [] [] (lookA [(0,vi a0),(1,vi a1)])
 refine at_ (hn:=hn45) ?_
 obtain ⟨rfl,rfl⟩:=pr2_ h
 exact leafRet (hn:=hn45) 7 [.val (.int .i64 (mn a0 a1)),.val (.int .i64 (mx a0 a1)),.elem (.agg [vi (mn a0 a1),vi (mx a0 a1)])] [] .ret (.inr rfl) (by kernel_rfl) (And.intro (min_i64_3_3_ff_3 (a:=a0) (b:=a1)) (And.intro (max_i64_3_3_ff_3 (a:=a0) (b:=a1)) (build_39_2 (p0:=(mn a0 a1)) (p1:=(mx a0 a1))))) (by kernel_rfl)

def hn72:Hint:=⟨[],[]⟩
def o72 (r:Int):List AV:=[vi r]
def p72 (r:Int):List (Nat × AV):=[]
theorem ad_72 {a0:Bool} {r:Int} (h:impl_bit.f a0 = some r):CallH Try.prog 72 [vb a0] [] (vi r) []:=by
 unfold impl_bit.f at h
 refine call_ok (c:=bodyOf Try.f72) (rs:=o72 r) (post:=p72 r) Try.func72 rfl rfl rfl (by kernel_rfl) ?_
 show AtP Try.prog 4 (bodyOf Try.f72) (KR Try.prog Try.f72.results.toList (o72 r) (p72 r)) [] [] (lookA [(0,vb a0)])
 refine at_ (hn:=hn72) ?_
 rcases ite_ h with ⟨g1,h2⟩ | ⟨g1,h2⟩
 ·subst g1
  obtain rfl:=Option.some.inj h2
  exact leafRet (hn:=hn72) 13 [] [] .ret (.inr rfl) (by kernel_rfl) True.intro (by kernel_rfl)
 ·obtain rfl:=Bool.eq_false_iff.2 g1
  obtain rfl:=Option.some.inj h2
  exact leafRet (hn:=hn72) 14 [] [] .ret (.inr rfl) (by kernel_rfl) True.intro (by kernel_rfl)

def hn65:Hint:=⟨[(7,[36]),(15,[36]),(20,[36])],[]⟩
def o65 (r:Int):List AV:=[vi r]
def p65 (r:Int):List (Nat × AV):=[]
def q65_l0 (r:Int) (k:Nat) (L:List (Nat × AV)):Prop:=∃ (x1:Int) (x5:Int) (x8:List (S39)) (x9:Int) (x10:Int),L = [(1,vi x1),(5,vi x5),(8,.sl (iS39 x8)),(9,vi x9),(10,vi x10)] ∧ impl_times.l0 k x1 x5 x8 x9 x10 = some r
theorem q65_l0_mk {r:Int} {k:Nat} {x1:Int} {x5:Int} {x8:List (S39)} {x9:Int} {x10:Int} (h:impl_times.l0 k x1 x5 x8 x9 x10 = some r):q65_l0 r k [(1,vi x1),(5,vi x5),(8,.sl (iS39 x8)),(9,vi x9),(10,vi x10)]:=⟨x1,x5,x8,x9,x10,rfl,h⟩
theorem at65_l0 {r:Int}:∀ k L,q65_l0 r k L → AtP Try.prog 29 (bodyOf Try.f65) (KR Try.prog Try.f65.results.toList (o65 r) (p65 r)) [true,true,false,true,false] [] (lookA L) :=
 at_loop (by kernel_rfl) (fun _ => by kernel_rfl) (q65_l0 r) (by
  rintro k _ ⟨x1,x5,x8,x9,x10,rfl,h⟩
  cases k with
  | zero => simp [impl_times.l0] at h
  | succ k =>
   rw [impl_times.l0] at h
   refine at_ (hn:=hn65) ?_
   rcases ite_ h with ⟨g1,h2⟩ | ⟨g1,h2⟩
   ·obtain ⟨g3,h4⟩:=ip_ h2
    obtain ⟨g5,h6⟩:=ip_ h4
    obtain ⟨t302,c7,h8⟩:=bd_ h6
    obtain ⟨t303,c9,h10⟩:=bd_ h8
    exact leafBack (hn:=hn65) 16 [.val (.bool true),.elem (.agg [vi ((rd_T39 x8 x10).f0),vi ((rd_T39 x8 x10).f1)]),.val (.bool (((rd_T39 x8 x10).f0) == x1)),.call (vi t302),.val (.bool (((rd_T39 x8 x10).f1) == x1)),.call (vi t303),.val (.int .i64 (wrap64 (t302 + t303))),.val (.int .i64 (wrap64 (x5 + (wrap64 (t302 + t303))))),.val (.int .i64 (wrap64 (x10 + 1)))] [] (q65_l0_mk h10) (Nat.lt_succ_self k) (And.intro (int_lss (P:=Try.prog) (t:=3) (k:=.i64) (x:=(.tmp 10)) (y:=(.tmp 9)) (a:=x10) (b:=x9) (v:=true) (decide_eq_true g1)) (And.intro (iS39_rd (xs:=x8) (i:=x10) g3 g5) (And.intro (And.intro (int_eql (P:=Try.prog) (t:=3) (k:=.i64) (x:=(.tmp 16)) (y:=(.tmp 17)) (a:=((rd_T39 x8 x10).f0)) (b:=x1) (v:=(((rd_T39 x8 x10).f0) == x1)) rfl) (And.intro (ad_72 c7) (And.intro (int_eql (P:=Try.prog) (t:=3) (k:=.i64) (x:=(.tmp 21)) (y:=(.tmp 22)) (a:=((rd_T39 x8 x10).f1)) (b:=x1) (v:=(((rd_T39 x8 x10).f1) == x1)) rfl) (And.intro (ad_72 c9) (And.intro (int_add (P:=Try.prog) (t:=3) (k:=.i64) (x:=(.tmp 19)) (y:=(.tmp 24)) (a:=t302) (b:=t303) (c:=(wrap64 (t302 + t303))) (IntWalk.i64_left _)) (int_add (P:=Try.prog) (t:=3) (k:=.i64) (x:=(.tmp 14)) (y:=(.tmp 25)) (a:=x5) (b:=(wrap64 (t302 + t303))) (c:=(wrap64 (x5 + (wrap64 (t302 + t303))))) (IntWalk.i64_left _))))))) (int_add (P:=Try.prog) (t:=3) (k:=.i64) (x:=(.tmp 10)) (y:=(.const (.int .i64 1))) (a:=x10) (b:=1) (c:=(wrap64 (x10 + 1))) (IntWalk.i64_left _))))) (by kernel_rfl)
   ·obtain rfl:=Option.some.inj h2
    exact leafRet (hn:=hn65) 14 [.val (.bool false)] [] .ret (.inr rfl) (by kernel_rfl) (int_lss (P:=Try.prog) (t:=3) (k:=.i64) (x:=(.tmp 10)) (y:=(.tmp 9)) (a:=x10) (b:=x9) (v:=false) (decide_eq_false g1)) (by kernel_rfl))
theorem ad_65 {k:Nat} {l0:List (S39)} {a1:Int} {r:Int} (h:impl_times.f k l0 a1 = some r):CallH Try.prog 65 [.sl (iS39 l0),vi a1] [] (vi r) []:=by
 unfold impl_times.f at h
 refine call_ok (c:=bodyOf Try.f65) (rs:=o65 r) (post:=p65 r) Try.func65 rfl rfl rfl (by kernel_rfl) ?_
 show AtP Try.prog 29 (bodyOf Try.f65) (KR Try.prog Try.f65.results.toList (o65 r) (p65 r)) [] [] (lookA [(0,.sl (iS39 l0)),(1,vi a1)])
 refine at_ (hn:=hn65) ?_
 exact leafAt (hn:=hn65) 11 [.val (.int .i64 (l0.length:Int))] [] (at65_l0 _ _ (q65_l0_mk h)) (iS39_len (xs:=l0)) (by kernel_rfl)

def hn49:Hint:=⟨[(13,[24]),(15,[34])],[]⟩
def o49 (r:List Int):List AV:=[.sl (iI .i64 r)]
def p49 (r:List Int):List (Nat × AV):=[]
def q49_l0 (r:List Int) (k:Nat) (L:List (Nat × AV)):Prop:=∃ (x0:List (S39)) (x3:List Int) (x6:Int),L = [(0,.sl (iS39 x0)),(3,.row 24),(6,vi x6),(24,.ow false 3 (iI .i64 x3))] ∧ impl_numbers.l0 k x0 x3 x6 = some r
theorem q49_l0_mk {r:List Int} {k:Nat} {x0:List (S39)} {x3:List Int} {x6:Int} (h:impl_numbers.l0 k x0 x3 x6 = some r):q49_l0 r k [(0,.sl (iS39 x0)),(3,.row 24),(6,vi x6),(24,.ow false 3 (iI .i64 x3))]:=⟨x0,x3,x6,rfl,h⟩
theorem at49_l0 {r:List Int}:∀ k L,q49_l0 r k L → AtP Try.prog 19 (bodyOf Try.f49) (KR Try.prog Try.f49.results.toList (o49 r) (p49 r)) [true,true,false,true,false] [] (lookA L) :=
 at_loop (by kernel_rfl) (fun _ => by kernel_rfl) (q49_l0 r) (by
  rintro k _ ⟨x0,x3,x6,rfl,h⟩
  cases k with
  | zero => simp [impl_numbers.l0] at h
  | succ k =>
   rw [impl_numbers.l0] at h
   refine at_ (hn:=hn49) ?_
   rcases ite_ h with ⟨g1,h2⟩ | ⟨g1,h2⟩
   ·obtain ⟨t307,c3,h4⟩:=bd_ h2
    refine mid (hn:=hn49) 13 3 [.val (.bool true),.call (vi t307)] (And.intro (int_lss (P:=Try.prog) (t:=3) (k:=.i64) (x:=(.tmp 6)) (y:=(.const (.int .i64 10))) (a:=x6) (b:=10) (v:=true) (decide_eq_true g1)) (ad_65 c3)) (by kernel_rfl) ?_
    rcases ite_ h4 with ⟨g5,h6⟩ | ⟨g5,h6⟩
    ·obtain ⟨g7,h8⟩:=ip_ h6
     exact leafBack (hn:=hn49) 7 [.val (.bool true),.go,.elem (.ow false 3 (iI .i64 (x3 ++ ([x6])))),.val (.int .i64 (wrap64 (x6 + 1)))] [(24,35)] (q49_l0_mk h8) (Nat.lt_succ_self k) (And.intro (int_gtr (P:=Try.prog) (t:=3) (k:=.i64) (x:=(.tmp 11)) (y:=(.const (.int .i64 0))) (a:=t307) (b:=0) (v:=true) (decide_eq_true g5)) (And.intro (iI_app (k:=.i64) (N:=17592186044416) (b:=8) (xs:=x3) (ys:=[x6]) (by decide) (Nat.succ_le_of_lt g7)) (int_add (P:=Try.prog) (t:=3) (k:=.i64) (x:=(.tmp 6)) (y:=(.const (.int .i64 1))) (a:=x6) (b:=1) (c:=(wrap64 (x6 + 1))) (IntWalk.i64_left _)))) (by kernel_rfl)
    ·exact leafBack (hn:=hn49) 7 [.val (.bool false),.val (.int .i64 (wrap64 (x6 + 1)))] [] (q49_l0_mk h6) (Nat.lt_succ_self k) (And.intro (int_gtr (P:=Try.prog) (t:=3) (k:=.i64) (x:=(.tmp 11)) (y:=(.const (.int .i64 0))) (a:=t307) (b:=0) (v:=false) (decide_eq_false g5)) (int_add (P:=Try.prog) (t:=3) (k:=.i64) (x:=(.tmp 6)) (y:=(.const (.int .i64 1))) (a:=x6) (b:=1) (c:=(wrap64 (x6 + 1))) (IntWalk.i64_left _))) (by kernel_rfl)
   ·obtain rfl:=Option.some.inj h2
    exact leafRet (hn:=hn49) 14 [.val (.bool false)] [] .ret (.inr rfl) (by kernel_rfl) (int_lss (P:=Try.prog) (t:=3) (k:=.i64) (x:=(.tmp 6)) (y:=(.const (.int .i64 10))) (a:=x6) (b:=10) (v:=false) (decide_eq_false g1)) (by kernel_rfl))
theorem ad_49 {k:Nat} {l0:List (S39)} {r:List Int} (h:impl_numbers.f k l0 = some r):CallH Try.prog 49 [.sl (iS39 l0)] [] (.sl (iI .i64 r)) []:=by
 unfold impl_numbers.f at h
 refine call_ok (c:=bodyOf Try.f49) (rs:=o49 r) (post:=p49 r) Try.func49 rfl rfl rfl (by kernel_rfl) ?_
 show AtP Try.prog 19 (bodyOf Try.f49) (KR Try.prog Try.f49.results.toList (o49 r) (p49 r)) [] [] (lookA [(0,.sl (iS39 l0))])
 refine at_ (hn:=hn49) ?_
 exact leafAt (hn:=hn49) 11 [.goT,.go] [] (at49_l0 _ _ (q49_l0_mk h)) True.intro (by kernel_rfl)

def hn26:Hint:=⟨[],[]⟩
def o26 (r:Bool):List AV:=[vb r]
def p26 (r:Bool):List (Nat × AV):=[]
theorem ad_26 {k:Nat} {l0:List (S39)} {r:Bool} (h:spec_haSmall.f k l0 = some r):CallH Try.prog 26 [.sl (iS39 l0)] [] (vb r) []:=by
 unfold spec_haSmall.f at h
 refine call_ok (c:=bodyOf Try.f26) (rs:=o26 r) (post:=p26 r) Try.func26 rfl rfl rfl (by kernel_rfl) ?_
 show AtP Try.prog 10 (bodyOf Try.f26) (KR Try.prog Try.f26.results.toList (o26 r) (p26 r)) [] [] (lookA [(0,.sl (iS39 l0))])
 refine at_ (hn:=hn26) ?_
 obtain ⟨t311,c1,h2⟩:=bd_ h
 refine mid (hn:=hn26) 4 3 [.call (vb t311)] (ad_50 c1) (by kernel_rfl) ?_
 rcases ite_ h2 with ⟨g3,h4⟩ | ⟨g3,h4⟩
 ·subst g3
  obtain rfl:=Option.some.inj h4
  exact leafRet (hn:=hn26) 3 [.val (.int .i64 (l0.length:Int)),.val (.bool (decide ((l0.length:Int) ≤ 8)))] [] .ret (.inr rfl) (by kernel_rfl) (And.intro (iS39_len (xs:=l0)) (int_leq (P:=Try.prog) (t:=3) (k:=.i64) (x:=(.tmp 7)) (y:=(.const (.int .i64 8))) (a:=(l0.length:Int)) (b:=8) (v:=(decide ((l0.length:Int) ≤ 8))) rfl)) (by kernel_rfl)
 ·obtain rfl:=Bool.eq_false_iff.2 g3
  obtain rfl:=Option.some.inj h4
  exact leafRet (hn:=hn26) 3 [] [] .ret (.inr rfl) (by kernel_rfl) True.intro (by kernel_rfl)

def hn51:Hint:=⟨[(7,[35]),(14,[35]),(20,[35])],[]⟩
def o51 (r:Int):List AV:=[vi r]
def p51 (r:Int):List (Nat × AV):=[]
def q51_l0 (r:Int) (k:Nat) (L:List (Nat × AV)):Prop:=∃ (x1:Int) (x5:Int) (x8:List (S39)) (x9:Int) (x10:Int),L = [(1,vi x1),(5,vi x5),(8,.sl (iS39 x8)),(9,vi x9),(10,vi x10)] ∧ spec_tiTimes.l0 k x1 x5 x8 x9 x10 = some r
theorem q51_l0_mk {r:Int} {k:Nat} {x1:Int} {x5:Int} {x8:List (S39)} {x9:Int} {x10:Int} (h:spec_tiTimes.l0 k x1 x5 x8 x9 x10 = some r):q51_l0 r k [(1,vi x1),(5,vi x5),(8,.sl (iS39 x8)),(9,vi x9),(10,vi x10)]:=⟨x1,x5,x8,x9,x10,rfl,h⟩
theorem at51_l0 {r:Int}:∀ k L,q51_l0 r k L → AtP Try.prog 28 (bodyOf Try.f51) (KR Try.prog Try.f51.results.toList (o51 r) (p51 r)) [true,true,false,true,false] [] (lookA L) :=
 at_loop (by kernel_rfl) (fun _ => by kernel_rfl) (q51_l0 r) (by
  rintro k _ ⟨x1,x5,x8,x9,x10,rfl,h⟩
  cases k with
  | zero => simp [spec_tiTimes.l0] at h
  | succ k =>
   rw [spec_tiTimes.l0] at h
   refine at_ (hn:=hn51) ?_
   rcases ite_ h with ⟨g1,h2⟩ | ⟨g1,h2⟩
   ·obtain ⟨g3,h4⟩:=ip_ h2
    obtain ⟨g5,h6⟩:=ip_ h4
    refine mid (hn:=hn51) 14 3 [.val (.bool true),.elem (.agg [vi ((rd_T39 x8 x10).f0),vi ((rd_T39 x8 x10).f1)])] (And.intro (int_lss (P:=Try.prog) (t:=3) (k:=.i64) (x:=(.tmp 10)) (y:=(.tmp 9)) (a:=x10) (b:=x9) (v:=true) (decide_eq_true g1)) (iS39_rd (xs:=x8) (i:=x10) g3 g5)) (by kernel_rfl) ?_
    rcases ite_ h6 with ⟨g7,h8⟩ | ⟨g7,h8⟩
    ·refine mid (hn:=hn51) 6 3 [.val (.bool true),.val (.int .i64 (wrap64 (x5 + 1)))] (And.intro (int_eql (P:=Try.prog) (t:=3) (k:=.i64) (x:=(.tmp 15)) (y:=(.tmp 16)) (a:=((rd_T39 x8 x10).f0)) (b:=x1) (v:=true) (beq_iff_eq.2 g7)) (int_add (P:=Try.prog) (t:=3) (k:=.i64) (x:=(.tmp 18)) (y:=(.const (.int .i64 1))) (a:=x5) (b:=1) (c:=(wrap64 (x5 + 1))) (IntWalk.i64_left _))) (by kernel_rfl) ?_
     rcases ite_ h8 with ⟨g9,h10⟩ | ⟨g9,h10⟩
     ·exact leafBack (hn:=hn51) 7 [.val (.bool true),.val (.int .i64 (wrap64 ((wrap64 (x5 + 1)) + 1))),.val (.int .i64 (wrap64 (x10 + 1)))] [] (q51_l0_mk h10) (Nat.lt_succ_self k) (And.intro (int_eql (P:=Try.prog) (t:=3) (k:=.i64) (x:=(.tmp 21)) (y:=(.tmp 22)) (a:=((rd_T39 x8 x10).f1)) (b:=x1) (v:=true) (beq_iff_eq.2 g9)) (And.intro (int_add (P:=Try.prog) (t:=3) (k:=.i64) (x:=(.tmp 24)) (y:=(.const (.int .i64 1))) (a:=(wrap64 (x5 + 1))) (b:=1) (c:=(wrap64 ((wrap64 (x5 + 1)) + 1))) (IntWalk.i64_left _)) (int_add (P:=Try.prog) (t:=3) (k:=.i64) (x:=(.tmp 10)) (y:=(.const (.int .i64 1))) (a:=x10) (b:=1) (c:=(wrap64 (x10 + 1))) (IntWalk.i64_left _)))) (by kernel_rfl)
     ·exact leafBack (hn:=hn51) 7 [.val (.bool false),.val (.int .i64 (wrap64 (x10 + 1)))] [] (q51_l0_mk h10) (Nat.lt_succ_self k) (And.intro (int_eql (P:=Try.prog) (t:=3) (k:=.i64) (x:=(.tmp 21)) (y:=(.tmp 22)) (a:=((rd_T39 x8 x10).f1)) (b:=x1) (v:=false) (beq_false_of_ne g9)) (int_add (P:=Try.prog) (t:=3) (k:=.i64) (x:=(.tmp 10)) (y:=(.const (.int .i64 1))) (a:=x10) (b:=1) (c:=(wrap64 (x10 + 1))) (IntWalk.i64_left _))) (by kernel_rfl)
    ·refine mid (hn:=hn51) 6 3 [.val (.bool false)] (int_eql (P:=Try.prog) (t:=3) (k:=.i64) (x:=(.tmp 15)) (y:=(.tmp 16)) (a:=((rd_T39 x8 x10).f0)) (b:=x1) (v:=false) (beq_false_of_ne g7)) (by kernel_rfl) ?_
     rcases ite_ h8 with ⟨g11,h12⟩ | ⟨g11,h12⟩
     ·exact leafBack (hn:=hn51) 7 [.val (.bool true),.val (.int .i64 (wrap64 (x5 + 1))),.val (.int .i64 (wrap64 (x10 + 1)))] [] (q51_l0_mk h12) (Nat.lt_succ_self k) (And.intro (int_eql (P:=Try.prog) (t:=3) (k:=.i64) (x:=(.tmp 21)) (y:=(.tmp 22)) (a:=((rd_T39 x8 x10).f1)) (b:=x1) (v:=true) (beq_iff_eq.2 g11)) (And.intro (int_add (P:=Try.prog) (t:=3) (k:=.i64) (x:=(.tmp 24)) (y:=(.const (.int .i64 1))) (a:=x5) (b:=1) (c:=(wrap64 (x5 + 1))) (IntWalk.i64_left _)) (int_add (P:=Try.prog) (t:=3) (k:=.i64) (x:=(.tmp 10)) (y:=(.const (.int .i64 1))) (a:=x10) (b:=1) (c:=(wrap64 (x10 + 1))) (IntWalk.i64_left _)))) (by kernel_rfl)
     ·exact leafBack (hn:=hn51) 7 [.val (.bool false),.val (.int .i64 (wrap64 (x10 + 1)))] [] (q51_l0_mk h12) (Nat.lt_succ_self k) (And.intro (int_eql (P:=Try.prog) (t:=3) (k:=.i64) (x:=(.tmp 21)) (y:=(.tmp 22)) (a:=((rd_T39 x8 x10).f1)) (b:=x1) (v:=false) (beq_false_of_ne g11)) (int_add (P:=Try.prog) (t:=3) (k:=.i64) (x:=(.tmp 10)) (y:=(.const (.int .i64 1))) (a:=x10) (b:=1) (c:=(wrap64 (x10 + 1))) (IntWalk.i64_left _))) (by kernel_rfl)
   ·obtain rfl:=Option.some.inj h2
    exact leafRet (hn:=hn51) 14 [.val (.bool false)] [] .ret (.inr rfl) (by kernel_rfl) (int_lss (P:=Try.prog) (t:=3) (k:=.i64) (x:=(.tmp 10)) (y:=(.tmp 9)) (a:=x10) (b:=x9) (v:=false) (decide_eq_false g1)) (by kernel_rfl))
theorem ad_51 {k:Nat} {l0:List (S39)} {a1:Int} {r:Int} (h:spec_tiTimes.f k l0 a1 = some r):CallH Try.prog 51 [.sl (iS39 l0),vi a1] [] (vi r) []:=by
 unfold spec_tiTimes.f at h
 refine call_ok (c:=bodyOf Try.f51) (rs:=o51 r) (post:=p51 r) Try.func51 rfl rfl rfl (by kernel_rfl) ?_
 show AtP Try.prog 28 (bodyOf Try.f51) (KR Try.prog Try.f51.results.toList (o51 r) (p51 r)) [] [] (lookA [(0,.sl (iS39 l0)),(1,vi a1)])
 refine at_ (hn:=hn51) ?_
 exact leafAt (hn:=hn51) 11 [.val (.int .i64 (l0.length:Int))] [] (at51_l0 _ _ (q51_l0_mk h)) (iS39_len (xs:=l0)) (by kernel_rfl)

def hn13:Hint:=⟨[],[]⟩
def o13 (r:Bool):List AV:=[vb r]
def p13 (r:Bool):List (Nat × AV):=[]
def q13_l0 (r:Bool) (k:Nat) (L:List (Nat × AV)):Prop:=∃ (x0:List Int) (x1:List Int) (x12:Int) (x13:Int),L = [(0,.sl (iI .i64 x0)),(1,.sl (iI .i64 x1)),(12,vi x12),(13,vi x13)] ∧ laws_iSame.l0 k x0 x1 x12 x13 = some r
theorem q13_l0_mk {r:Bool} {k:Nat} {x0:List Int} {x1:List Int} {x12:Int} {x13:Int} (h:laws_iSame.l0 k x0 x1 x12 x13 = some r):q13_l0 r k [(0,.sl (iI .i64 x0)),(1,.sl (iI .i64 x1)),(12,vi x12),(13,vi x13)]:=⟨x0,x1,x12,x13,rfl,h⟩
theorem at13_l0 {r:Bool}:∀ k L,q13_l0 r k L → AtP Try.prog 26 (bodyOf Try.f13) (KR Try.prog Try.f13.results.toList (o13 r) (p13 r)) [true,true,false,true,false] [] (lookA L) :=
 at_loop (by kernel_rfl) (fun _ => by kernel_rfl) (q13_l0 r) (by
  rintro k _ ⟨x0,x1,x12,x13,rfl,h⟩
  cases k with
  | zero => simp [laws_iSame.l0] at h
  | succ k =>
   rw [laws_iSame.l0] at h
   refine at_ (hn:=hn13) ?_
   rcases ite_ h with ⟨g1,h2⟩ | ⟨g1,h2⟩
   ·obtain ⟨g3,h4⟩:=ip_ h2
    obtain ⟨g5,h6⟩:=ip_ h4
    obtain ⟨g7,h8⟩:=ip_ h6
    refine mid (hn:=hn13) 13 8 [.val (.bool true),.elem (vi (rd x0 x13)),.elem (vi (rd x1 x13))] (And.intro (int_lss (P:=Try.prog) (t:=3) (k:=.i64) (x:=(.tmp 13)) (y:=(.tmp 12)) (a:=x13) (b:=x12) (v:=true) (decide_eq_true g1)) (And.intro (iI_rd (k:=.i64) (xs:=x0) (i:=x13) g3 g5) (iI_rd (k:=.i64) (xs:=x1) (i:=x13) g3 g7))) (by kernel_rfl) ?_
    rcases ite_ h8 with ⟨g9,h10⟩ | ⟨g9,h10⟩
    ·exact leafBack (hn:=hn13) 7 [.val (.bool false),.val (.int .i64 (wrap64 (x13 + 1)))] [] (q13_l0_mk h10) (Nat.lt_succ_self k) (And.intro (int_neq (P:=Try.prog) (t:=3) (k:=.i64) (x:=(.tmp 19)) (y:=(.tmp 23)) (a:=(rd x0 x13)) (b:=(rd x1 x13)) (v:=false) (nbeq_f g9)) (int_add (P:=Try.prog) (t:=3) (k:=.i64) (x:=(.tmp 13)) (y:=(.const (.int .i64 1))) (a:=x13) (b:=1) (c:=(wrap64 (x13 + 1))) (IntWalk.i64_left _))) (by kernel_rfl)
    ·obtain rfl:=Option.some.inj h10
     exact leafRet (hn:=hn13) 12 [.val (.bool true)] [] .ret (.inr rfl) (by kernel_rfl) (int_neq (P:=Try.prog) (t:=3) (k:=.i64) (x:=(.tmp 19)) (y:=(.tmp 23)) (a:=(rd x0 x13)) (b:=(rd x1 x13)) (v:=true) (nbeq_t g9)) (by kernel_rfl)
   ·obtain rfl:=Option.some.inj h2
    exact leafRet (hn:=hn13) 14 [.val (.bool false)] [] .ret (.inr rfl) (by kernel_rfl) (int_lss (P:=Try.prog) (t:=3) (k:=.i64) (x:=(.tmp 13)) (y:=(.tmp 12)) (a:=x13) (b:=x12) (v:=false) (decide_eq_false g1)) (by kernel_rfl))
theorem ad_13 {k:Nat} {l0:List Int} {l1:List Int} {r:Bool} (h:laws_iSame.f k l0 l1 = some r):CallH Try.prog 13 [.sl (iI .i64 l0),.sl (iI .i64 l1)] [] (vb r) []:=by
 unfold laws_iSame.f at h
 refine call_ok (c:=bodyOf Try.f13) (rs:=o13 r) (post:=p13 r) Try.func13 rfl rfl rfl (by kernel_rfl) ?_
 show AtP Try.prog 26 (bodyOf Try.f13) (KR Try.prog Try.f13.results.toList (o13 r) (p13 r)) [] [] (lookA [(0,.sl (iI .i64 l0)),(1,.sl (iI .i64 l1))])
 refine at_ (hn:=hn13) ?_
 refine mid (hn:=hn13) 5 4 [.val (.int .i64 (l0.length:Int)),.val (.int .i64 (l1.length:Int))] (And.intro (iI_len (k:=.i64) (xs:=l0)) (iI_len (k:=.i64) (xs:=l1))) (by kernel_rfl) ?_
 rcases ite_ h with ⟨g1,h2⟩ | ⟨g1,h2⟩
 ·exact leafAt (hn:=hn13) 10 [.val (.bool false),.val (.int .i64 (l0.length:Int))] [] (at13_l0 _ _ (q13_l0_mk h2)) (And.intro (int_neq (P:=Try.prog) (t:=3) (k:=.i64) (x:=(.tmp 7)) (y:=(.tmp 9)) (a:=(l0.length:Int)) (b:=(l1.length:Int)) (v:=false) (nbeq_f g1)) (iI_len (k:=.i64) (xs:=l0))) (by kernel_rfl)
 ·obtain rfl:=Option.some.inj h2
  exact leafRet (hn:=hn13) 8 [.val (.bool true)] [] .ret (.inr rfl) (by kernel_rfl) (int_neq (P:=Try.prog) (t:=3) (k:=.i64) (x:=(.tmp 7)) (y:=(.tmp 9)) (a:=(l0.length:Int)) (b:=(l1.length:Int)) (v:=true) (nbeq_t g1)) (by kernel_rfl)

def hn12:Hint:=⟨[],[]⟩
def o12 (r:Bool):List AV:=[vb r]
def p12 (r:Bool):List (Nat × AV):=[]
def q12_l0 (r:Bool) (k:Nat) (L:List (Nat × AV)):Prop:=∃ (x0:List (List Int)) (x1:List (List Int)) (x12:Int) (x13:Int),L = [(0,.sl (iL (iI .i64) x0)),(1,.sl (iL (iI .i64) x1)),(12,vi x12),(13,vi x13)] ∧ laws_iRows.l0 k x0 x1 x12 x13 = some r
theorem q12_l0_mk {r:Bool} {k:Nat} {x0:List (List Int)} {x1:List (List Int)} {x12:Int} {x13:Int} (h:laws_iRows.l0 k x0 x1 x12 x13 = some r):q12_l0 r k [(0,.sl (iL (iI .i64) x0)),(1,.sl (iL (iI .i64) x1)),(12,vi x12),(13,vi x13)]:=⟨x0,x1,x12,x13,rfl,h⟩
theorem at12_l0 {r:Bool}:∀ k L,q12_l0 r k L → AtP Try.prog 27 (bodyOf Try.f12) (KR Try.prog Try.f12.results.toList (o12 r) (p12 r)) [true,true,false,true,false] [] (lookA L) :=
 at_loop (by kernel_rfl) (fun _ => by kernel_rfl) (q12_l0 r) (by
  rintro k _ ⟨x0,x1,x12,x13,rfl,h⟩
  cases k with
  | zero => simp [laws_iRows.l0] at h
  | succ k =>
   rw [laws_iRows.l0] at h
   refine at_ (hn:=hn12) ?_
   rcases ite_ h with ⟨g1,h2⟩ | ⟨g1,h2⟩
   ·obtain ⟨g3,h4⟩:=ip_ h2
    obtain ⟨g5,h6⟩:=ip_ h4
    obtain ⟨g7,h8⟩:=ip_ h6
    obtain ⟨t329,c9,h10⟩:=bd_ h8
    refine mid (hn:=hn12) 13 9 [.val (.bool true),.elem (.sl (iI .i64 (rd_L4 x0 x13))),.elem (.sl (iI .i64 (rd_L4 x1 x13))),.call (vb t329)] (And.intro (int_lss (P:=Try.prog) (t:=3) (k:=.i64) (x:=(.tmp 13)) (y:=(.tmp 12)) (a:=x13) (b:=x12) (v:=true) (decide_eq_true g1)) (And.intro (iL_rd (f:=(iI .i64)) (xs:=x0) (i:=x13) g3 g5) (And.intro (iL_rd (f:=(iI .i64)) (xs:=x1) (i:=x13) g3 g7) (ad_13 c9)))) (by kernel_rfl) ?_
    rcases ite_ h10 with ⟨g11,h12⟩ | ⟨g11,h12⟩
    ·subst g11
     exact leafBack (hn:=hn12) 7 [.val (.int .i64 (wrap64 (x13 + 1)))] [] (q12_l0_mk h12) (Nat.lt_succ_self k) (int_add (P:=Try.prog) (t:=3) (k:=.i64) (x:=(.tmp 13)) (y:=(.const (.int .i64 1))) (a:=x13) (b:=1) (c:=(wrap64 (x13 + 1))) (IntWalk.i64_left _)) (by kernel_rfl)
    ·obtain rfl:=Bool.eq_false_iff.2 g11
     obtain rfl:=Option.some.inj h12
     exact leafRet (hn:=hn12) 12 [] [] .ret (.inr rfl) (by kernel_rfl) True.intro (by kernel_rfl)
   ·obtain rfl:=Option.some.inj h2
    exact leafRet (hn:=hn12) 14 [.val (.bool false)] [] .ret (.inr rfl) (by kernel_rfl) (int_lss (P:=Try.prog) (t:=3) (k:=.i64) (x:=(.tmp 13)) (y:=(.tmp 12)) (a:=x13) (b:=x12) (v:=false) (decide_eq_false g1)) (by kernel_rfl))
theorem ad_12 {k:Nat} {l0:List (List Int)} {l1:List (List Int)} {r:Bool} (h:laws_iRows.f k l0 l1 = some r):CallH Try.prog 12 [.sl (iL (iI .i64) l0),.sl (iL (iI .i64) l1)] [] (vb r) []:=by
 unfold laws_iRows.f at h
 refine call_ok (c:=bodyOf Try.f12) (rs:=o12 r) (post:=p12 r) Try.func12 rfl rfl rfl (by kernel_rfl) ?_
 show AtP Try.prog 27 (bodyOf Try.f12) (KR Try.prog Try.f12.results.toList (o12 r) (p12 r)) [] [] (lookA [(0,.sl (iL (iI .i64) l0)),(1,.sl (iL (iI .i64) l1))])
 refine at_ (hn:=hn12) ?_
 refine mid (hn:=hn12) 5 4 [.val (.int .i64 (l0.length:Int)),.val (.int .i64 (l1.length:Int))] (And.intro (iL_len (f:=(iI .i64)) (xs:=l0)) (iL_len (f:=(iI .i64)) (xs:=l1))) (by kernel_rfl) ?_
 rcases ite_ h with ⟨g1,h2⟩ | ⟨g1,h2⟩
 ·exact leafAt (hn:=hn12) 10 [.val (.bool false),.val (.int .i64 (l0.length:Int))] [] (at12_l0 _ _ (q12_l0_mk h2)) (And.intro (int_neq (P:=Try.prog) (t:=3) (k:=.i64) (x:=(.tmp 7)) (y:=(.tmp 9)) (a:=(l0.length:Int)) (b:=(l1.length:Int)) (v:=false) (nbeq_f g1)) (iL_len (f:=(iI .i64)) (xs:=l0))) (by kernel_rfl)
 ·obtain rfl:=Option.some.inj h2
  exact leafRet (hn:=hn12) 8 [.val (.bool true)] [] .ret (.inr rfl) (by kernel_rfl) (int_neq (P:=Try.prog) (t:=3) (k:=.i64) (x:=(.tmp 7)) (y:=(.tmp 9)) (a:=(l0.length:Int)) (b:=(l1.length:Int)) (v:=true) (nbeq_t g1)) (by kernel_rfl)

def hn35:Hint:=⟨[(12,[31]),(23,[49])],[]⟩
def o35 (r:(List (S39))):List AV:=[.sl (iS39 r)]
def p35 (r:(List (S39))):List (Nat × AV):=[]
def q35_l0 (r:(List (S39))) (k:Nat) (L:List (Nat × AV)):Prop:=∃ (x0:List Int) (x3:List (S39)) (x4:Int),L = [(0,.sl (iI .i64 x0)),(3,.row 31),(4,vi x4),(31,.ow false 39 (iS39 x3))] ∧ impl_tilesOf.l0 k x0 x3 x4 = some r
theorem q35_l0_mk {r:(List (S39))} {k:Nat} {x0:List Int} {x3:List (S39)} {x4:Int} (h:impl_tilesOf.l0 k x0 x3 x4 = some r):q35_l0 r k [(0,.sl (iI .i64 x0)),(3,.row 31),(4,vi x4),(31,.ow false 39 (iS39 x3))]:=⟨x0,x3,x4,rfl,h⟩
theorem at35_l0 {r:(List (S39))}:∀ k L,q35_l0 r k L → AtP Try.prog 26 (bodyOf Try.f35) (KR Try.prog Try.f35.results.toList (o35 r) (p35 r)) [true,true,false,true,false] [] (lookA L) :=
 at_loop (by kernel_rfl) (fun _ => by kernel_rfl) (q35_l0 r) (by
  rintro k _ ⟨x0,x3,x4,rfl,h⟩
  cases k with
  | zero => simp [impl_tilesOf.l0] at h
  | succ k =>
   rw [impl_tilesOf.l0] at h
   refine at_ (hn:=hn35) ?_
   refine mid (hn:=hn35) 2 3 [.val (.int .i64 (x0.length:Int))] (iI_len (k:=.i64) (xs:=x0)) (by kernel_rfl) ?_
   rcases ite_ h with ⟨g1,h2⟩ | ⟨g1,h2⟩
   ·obtain ⟨g3,h4⟩:=ip_ h2
    obtain ⟨g5,h6⟩:=ip_ h4
    obtain ⟨g7,h8⟩:=ip_ h6
    obtain ⟨⟨bt335_1,bt335_2⟩,c9,h10⟩:=bd_ h8
    try dsimp only at h10
    obtain ⟨g11,h12⟩:=ip_ h10
    exact leafBack (hn:=hn35) 11 [.val (.bool true),.val (.int .i64 (wrap64 (x4 - 1))),.elem (vi (rd x0 (wrap64 (x4 - 1)))),.elem (vi (rd x0 x4)),.call (.agg [vi bt335_1,vi bt335_2]),.go,.elem (.ow false 39 (iS39 (x3 ++ ([(⟨bt335_1,bt335_2⟩ : S39)])))),.val (.int .i64 (wrap64 (x4 + 1)))] [(31,50)] (q35_l0_mk h12) (Nat.lt_succ_self k) (And.intro (int_lss (P:=Try.prog) (t:=3) (k:=.i64) (x:=(.tmp 6)) (y:=(.tmp 8)) (a:=x4) (b:=(x0.length:Int)) (v:=true) (decide_eq_true g1)) (And.intro (And.intro (int_sub (P:=Try.prog) (t:=3) (k:=.i64) (x:=(.tmp 14)) (y:=(.const (.int .i64 1))) (a:=x4) (b:=1) (c:=(wrap64 (x4 - 1))) (IntWalk.i64_left _)) (And.intro (iI_rd (k:=.i64) (xs:=x0) (i:=(wrap64 (x4 - 1))) g3 g5) (And.intro (iI_rd (k:=.i64) (xs:=x0) (i:=x4) g7 g1) (And.intro (ad_45 c9) (iS39_app (N:=8796093022208) (b:=16) (xs:=x3) (ys:=[(⟨bt335_1,bt335_2⟩ : S39)]) (by decide) (Nat.succ_le_of_lt g11)))))) (int_add (P:=Try.prog) (t:=3) (k:=.i64) (x:=(.tmp 10)) (y:=(.const (.int .i64 1))) (a:=x4) (b:=1) (c:=(wrap64 (x4 + 1))) (IntWalk.i64_left _)))) (by kernel_rfl)
   ·obtain rfl:=Option.some.inj h2
    exact leafRet (hn:=hn35) 12 [.val (.bool false)] [] .ret (.inr rfl) (by kernel_rfl) (int_lss (P:=Try.prog) (t:=3) (k:=.i64) (x:=(.tmp 6)) (y:=(.tmp 8)) (a:=x4) (b:=(x0.length:Int)) (v:=false) (decide_eq_false g1)) (by kernel_rfl))
theorem ad_35 {k:Nat} {l0:List Int} {r:List (S39)} (h:impl_tilesOf.f k l0 = some r):CallH Try.prog 35 [.sl (iI .i64 l0)] [] (.sl (iS39 r)) []:=by
 unfold impl_tilesOf.f at h
 refine call_ok (c:=bodyOf Try.f35) (rs:=o35 r) (post:=p35 r) Try.func35 rfl rfl rfl (by kernel_rfl) ?_
 show AtP Try.prog 26 (bodyOf Try.f35) (KR Try.prog Try.f35.results.toList (o35 r) (p35 r)) [] [] (lookA [(0,.sl (iI .i64 l0))])
 refine at_ (hn:=hn35) ?_
 exact leafAt (hn:=hn35) 11 [.goT,.go] [] (at35_l0 _ _ (q35_l0_mk h)) True.intro (by kernel_rfl)

def hn15:Hint:=⟨[],[]⟩
def o15 (r:Bool):List AV:=[vb r]
def p15 (r:Bool):List (Nat × AV):=[]
theorem ad_15 {k:Nat} {l0:List Int} {r:Bool} (h:impl_IsChain.f k l0 = some r):CallH Try.prog 15 [.sl (iI .i64 l0)] [] (vb r) []:=by
 unfold impl_IsChain.f at h
 refine call_ok (c:=bodyOf Try.f15) (rs:=o15 r) (post:=p15 r) Try.func15 rfl rfl rfl (by kernel_rfl) ?_
 show AtP Try.prog 15 (bodyOf Try.f15) (KR Try.prog Try.f15.results.toList (o15 r) (p15 r)) [] [] (lookA [(0,.sl (iI .i64 l0))])
 refine at_ (hn:=hn15) ?_
 refine mid (hn:=hn15) 4 2 [.val (.int .i64 (l0.length:Int))] (iI_len (k:=.i64) (xs:=l0)) (by kernel_rfl) ?_
 rcases ite_ h with ⟨g1,h2⟩ | ⟨g1,h2⟩
 ·obtain ⟨t340,c3,h4⟩:=bd_ h2
  refine mid (hn:=hn15) 0 6 [.val (.bool true),.call (vb t340)] (And.intro (int_gtr (P:=Try.prog) (t:=3) (k:=.i64) (x:=(.tmp 4)) (y:=(.const (.int .i64 0))) (a:=(l0.length:Int)) (b:=0) (v:=true) (decide_eq_true g1)) (ad_34 c3)) (by kernel_rfl) ?_
  rcases ite_ h4 with ⟨g5,h6⟩ | ⟨g5,h6⟩
  ·subst g5
   obtain ⟨t341,c7,h8⟩:=bd_ h6
   obtain ⟨t344,c9,h10⟩:=bd_ h8
   obtain rfl:=Option.some.inj h10
   exact leafRet (hn:=hn15) 3 [.call (.sl (iS39 t341)),.call (vb t344)] [] .ret (.inr rfl) (by kernel_rfl) (And.intro (ad_35 c7) (ad_33 c9)) (by kernel_rfl)
  ·obtain rfl:=Bool.eq_false_iff.2 g5
   obtain rfl:=Option.some.inj h6
   exact leafRet (hn:=hn15) 3 [] [] .ret (.inr rfl) (by kernel_rfl) True.intro (by kernel_rfl)
 ·obtain rfl:=Option.some.inj h2
  exact leafRet (hn:=hn15) 3 [.val (.bool false)] [] .ret (.inr rfl) (by kernel_rfl) (int_gtr (P:=Try.prog) (t:=3) (k:=.i64) (x:=(.tmp 4)) (y:=(.const (.int .i64 0))) (a:=(l0.length:Int)) (b:=0) (v:=false) (decide_eq_false g1)) (by kernel_rfl)

def hn16:Hint:=⟨[],[]⟩
def o16 (r:(List (S39)) × Bool):List AV:=[.sl (iS39 r.1),vb r.2]
def p16 (r:(List (S39)) × Bool):List (Nat × AV):=[]
theorem ad_16 {k:Nat} {l0:List Int} {r1:List (S39)} {r2:Bool} (h:impl_TilesOfChain.f k l0 = some (r1,r2)):CallH Try.prog 16 [.sl (iI .i64 l0)] [] (.tup [.sl (iS39 r1),vb r2]) []:=by
 unfold impl_TilesOfChain.f at h
 refine call_ok (c:=bodyOf Try.f16) (rs:=o16 (r1,r2)) (post:=p16 (r1,r2)) Try.func16 rfl rfl rfl (by kernel_rfl) ?_
 show AtP Try.prog 9 (bodyOf Try.f16) (KR Try.prog Try.f16.results.toList (o16 (r1,r2)) (p16 (r1,r2))) [] [] (lookA [(0,.sl (iI .i64 l0))])
 refine at_ (hn:=hn16) ?_
 obtain ⟨t345,c1,h2⟩:=bd_ h
 refine mid (hn:=hn16) 5 2 [.goT,.call (vb t345)] (ad_15 c1) (by kernel_rfl) ?_
 rcases ite_ h2 with ⟨g3,h4⟩ | ⟨g3,h4⟩
 ·subst g3
  obtain ⟨t346,c5,h6⟩:=bd_ h4
  obtain ⟨rfl,rfl⟩:=pr2_ h6
  exact leafRet (hn:=hn16) 9 [.call (.sl (iS39 t346))] [] .ret (.inr rfl) (by kernel_rfl) (ad_35 c5) (by kernel_rfl)
 ·obtain rfl:=Bool.eq_false_iff.2 g3
  obtain ⟨rfl,rfl⟩:=pr2_ h4
  exact leafRet (hn:=hn16) 8 [.goT] [] .ret (.inr rfl) (by kernel_rfl) True.intro (by kernel_rfl)

def hn17:Hint:=⟨[(3,[20]),(6,[23])],[]⟩
def o17 (r:Bool):List AV:=[vb r]
def p17 (r:Bool):List (Nat × AV):=[]
def q17_l0 (r:Bool) (k:Nat) (L:List (Nat × AV)):Prop:=∃ (x7:List (S39)) (x8:Int) (x9:Int) (x350000:Int) (x350001:Int),L = [(3,.loc 20 0),(7,.sl (iS39 x7)),(8,vi x8),(9,vi x9),(20,.box (.agg [vi x350000,vi x350001]))] ∧ laws_iIn.l0 k x7 x8 x9 x350000 x350001 = some r
theorem q17_l0_mk {r:Bool} {k:Nat} {x7:List (S39)} {x8:Int} {x9:Int} {x350000:Int} {x350001:Int} (h:laws_iIn.l0 k x7 x8 x9 x350000 x350001 = some r):q17_l0 r k [(3,.loc 20 0),(7,.sl (iS39 x7)),(8,vi x8),(9,vi x9),(20,.box (.agg [vi x350000,vi x350001]))]:=⟨x7,x8,x9,x350000,x350001,rfl,h⟩
theorem at17_l0 {r:Bool}:∀ k L,q17_l0 r k L → AtP Try.prog 17 (bodyOf Try.f17) (KR Try.prog Try.f17.results.toList (o17 r) (p17 r)) [true,false,true,false] [] (lookA L) :=
 at_loop (by kernel_rfl) (fun _ => by kernel_rfl) (q17_l0 r) (by
  rintro k _ ⟨x7,x8,x9,x350000,x350001,rfl,h⟩
  cases k with
  | zero => simp [laws_iIn.l0] at h
  | succ k =>
   rw [laws_iIn.l0] at h
   refine at_ (hn:=hn17) ?_
   rcases ite_ h with ⟨g1,h2⟩ | ⟨g1,h2⟩
   ·obtain ⟨g3,h4⟩:=ip_ h2
    obtain ⟨g5,h6⟩:=ip_ h4
    refine mid (hn:=hn17) 13 2 [.val (.bool true),.elem (.agg [vi ((rd_T39 x7 x9).f0),vi ((rd_T39 x7 x9).f1)])] (And.intro (int_lss (P:=Try.prog) (t:=3) (k:=.i64) (x:=(.tmp 9)) (y:=(.tmp 8)) (a:=x9) (b:=x8) (v:=true) (decide_eq_true g1)) (iS39_rd (xs:=x7) (i:=x9) g3 g5)) (by kernel_rfl) ?_
    rcases ite_ h6 with ⟨g7,h8⟩ | ⟨g7,h8⟩
    ·obtain rfl:=Option.some.inj h8
     exact leafRet (hn:=hn17) 12 [.val (.bool true)] [] .ret (.inr rfl) (by kernel_rfl) (agg_39_eql (x:=(.tmp 13)) (y:=(.tmp 14)) (a0:=((rd_T39 x7 x9).f0)) (b0:=x350000) (a1:=((rd_T39 x7 x9).f1)) (b1:=x350001) (v:=true) g7) (by kernel_rfl)
    ·exact leafBack (hn:=hn17) 7 [.val (.bool false),.val (.int .i64 (wrap64 (x9 + 1)))] [] (q17_l0_mk h8) (Nat.lt_succ_self k) (And.intro (agg_39_eql (x:=(.tmp 13)) (y:=(.tmp 14)) (a0:=((rd_T39 x7 x9).f0)) (b0:=x350000) (a1:=((rd_T39 x7 x9).f1)) (b1:=x350001) (v:=false) (Bool.eq_false_iff.2 g7)) (int_add (P:=Try.prog) (t:=3) (k:=.i64) (x:=(.tmp 9)) (y:=(.const (.int .i64 1))) (a:=x9) (b:=1) (c:=(wrap64 (x9 + 1))) (IntWalk.i64_left _))) (by kernel_rfl)
   ·obtain rfl:=Option.some.inj h2
    exact leafRet (hn:=hn17) 14 [.val (.bool false)] [] .ret (.inr rfl) (by kernel_rfl) (int_lss (P:=Try.prog) (t:=3) (k:=.i64) (x:=(.tmp 9)) (y:=(.tmp 8)) (a:=x9) (b:=x8) (v:=false) (decide_eq_false g1)) (by kernel_rfl))
theorem ad_17 {k:Nat} {l0:List (S39)} {a1_0:Int} {a1_1:Int} {r:Bool} (h:laws_iIn.f k l0 a1_0 a1_1 = some r):CallH Try.prog 17 [.sl (iS39 l0),.agg [vi a1_0,vi a1_1]] [] (vb r) []:=by
 unfold laws_iIn.f at h
 refine call_ok (c:=bodyOf Try.f17) (rs:=o17 r) (post:=p17 r) Try.func17 rfl rfl rfl (by kernel_rfl) ?_
 show AtP Try.prog 17 (bodyOf Try.f17) (KR Try.prog Try.f17.results.toList (o17 r) (p17 r)) [] [] (lookA [(0,.sl (iS39 l0)),(1,.agg [vi a1_0,vi a1_1])])
 refine at_ (hn:=hn17) ?_
 exact leafAt (hn:=hn17) 8 [.val (.int .i64 (l0.length:Int))] [] (at17_l0 _ _ (q17_l0_mk h)) (iS39_len (xs:=l0)) (by kernel_rfl)

def hn18:Hint:=⟨[],[]⟩
def o18 (r:Bool):List AV:=[vb r]
def p18 (r:Bool):List (Nat × AV):=[]
def q18_l0 (r:Bool) (k:Nat) (L:List (Nat × AV)):Prop:=∃ (x0:List Int) (x1:List Int) (x5:Int),L = [(0,.sl (iI .i64 x0)),(1,.sl (iI .i64 x1)),(5,vi x5)] ∧ laws_iLess.l0 k x0 x1 x5 = some r
theorem q18_l0_mk {r:Bool} {k:Nat} {x0:List Int} {x1:List Int} {x5:Int} (h:laws_iLess.l0 k x0 x1 x5 = some r):q18_l0 r k [(0,.sl (iI .i64 x0)),(1,.sl (iI .i64 x1)),(5,vi x5)]:=⟨x0,x1,x5,rfl,h⟩
theorem at18_j1 {r:Bool} {K0:Nat} {k:Nat} {x0:List Int} {x1:List Int} {x5:Int} {x15:Bool} (hk0:k < K0) (h:laws_iLess.j1 k x0 x1 x5 x15 = some r):AtP Try.prog 41 (bodyOf Try.f18) (KR Try.prog Try.f18.results.toList (o18 r) (p18 r)) [true,false,true,false,false,false,true] [upto (q18_l0 r) K0] (lookA [(0,.sl (iI .i64 x0)),(1,.sl (iI .i64 x1)),(5,vi x5),(15,vb x15)]):=by
 cases k with
 | zero => simp [laws_iLess.j1] at h
 | succ k =>
  rw [laws_iLess.j1] at h
  have hk0:=Nat.lt_of_succ_lt hk0
  refine at_ (hn:=hn18) ?_
  rcases ite_ h with ⟨g1,h2⟩ | ⟨g1,h2⟩
  ·subst g1
   obtain ⟨g3,h4⟩:=ip_ h2
   obtain ⟨g5,h6⟩:=ip_ h4
   obtain ⟨g7,h8⟩:=ip_ h6
   refine mid (hn:=hn18) 6 8 [.elem (vi (rd x0 x5)),.elem (vi (rd x1 x5))] (And.intro (iI_rd (k:=.i64) (xs:=x0) (i:=x5) g3 g5) (iI_rd (k:=.i64) (xs:=x1) (i:=x5) g3 g7)) (by kernel_rfl) ?_
   rcases ite_ h8 with ⟨g9,h10⟩ | ⟨g9,h10⟩
   ·exact leafBack (hn:=hn18) 7 [.val (.bool false),.val (.int .i64 (wrap64 (x5 + 1)))] [] (q18_l0_mk h10) hk0 (And.intro (int_neq (P:=Try.prog) (t:=3) (k:=.i64) (x:=(.tmp 21)) (y:=(.tmp 25)) (a:=(rd x0 x5)) (b:=(rd x1 x5)) (v:=false) (nbeq_f g9)) (int_add (P:=Try.prog) (t:=3) (k:=.i64) (x:=(.tmp 16)) (y:=(.const (.int .i64 1))) (a:=x5) (b:=1) (c:=(wrap64 (x5 + 1))) (IntWalk.i64_left _))) (by kernel_rfl)
   ·obtain rfl:=Option.some.inj h10
    exact leafRet (hn:=hn18) 12 [.val (.bool true),.elem (vi (rd x0 x5)),.elem (vi (rd x1 x5)),.val (.bool (decide ((rd x0 x5) < (rd x1 x5))))] [] .ret (.inr rfl) (by kernel_rfl) (And.intro (int_neq (P:=Try.prog) (t:=3) (k:=.i64) (x:=(.tmp 21)) (y:=(.tmp 25)) (a:=(rd x0 x5)) (b:=(rd x1 x5)) (v:=true) (nbeq_t g9)) (And.intro (iI_rd (k:=.i64) (xs:=x0) (i:=x5) g3 g5) (And.intro (iI_rd (k:=.i64) (xs:=x1) (i:=x5) g3 g7) (int_lss (P:=Try.prog) (t:=3) (k:=.i64) (x:=(.tmp 30)) (y:=(.tmp 34)) (a:=(rd x0 x5)) (b:=(rd x1 x5)) (v:=(decide ((rd x0 x5) < (rd x1 x5)))) rfl)))) (by kernel_rfl)
  ·obtain rfl:=Bool.eq_false_iff.2 g1
   obtain rfl:=Option.some.inj h2
   exact leafRet (hn:=hn18) 10 [.val (.int .i64 (x0.length:Int)),.val (.int .i64 (x1.length:Int)),.val (.bool (decide ((x0.length:Int) < (x1.length:Int))))] [] .ret (.inr rfl) (by kernel_rfl) (And.intro (iI_len (k:=.i64) (xs:=x0)) (And.intro (iI_len (k:=.i64) (xs:=x1)) (int_lss (P:=Try.prog) (t:=3) (k:=.i64) (x:=(.tmp 37)) (y:=(.tmp 39)) (a:=(x0.length:Int)) (b:=(x1.length:Int)) (v:=(decide ((x0.length:Int) < (x1.length:Int)))) rfl))) (by kernel_rfl)
theorem at18_l0 {r:Bool}:∀ k L,q18_l0 r k L → AtP Try.prog 41 (bodyOf Try.f18) (KR Try.prog Try.f18.results.toList (o18 r) (p18 r)) [true,false,true,false] [] (lookA L) :=
 at_loop (by kernel_rfl) (fun _ => by kernel_rfl) (q18_l0 r) (by
  rintro k _ ⟨x0,x1,x5,rfl,h⟩
  cases k with
  | zero => simp [laws_iLess.l0] at h
  | succ k =>
   rw [laws_iLess.l0] at h
   refine at_ (hn:=hn18) ?_
   refine mid (hn:=hn18) 2 3 [.val (.int .i64 (x0.length:Int))] (iI_len (k:=.i64) (xs:=x0)) (by kernel_rfl) ?_
   rcases ite_ h with ⟨g1,h2⟩ | ⟨g1,h2⟩
   ·exact leafAt (hn:=hn18) 2 [.val (.bool true),.val (.int .i64 (x1.length:Int)),.val (.bool (decide (x5 < (x1.length:Int))))] [] (at18_j1 (Nat.lt_succ_self k) h2) (And.intro (int_lss (P:=Try.prog) (t:=3) (k:=.i64) (x:=(.tmp 6)) (y:=(.tmp 8)) (a:=x5) (b:=(x0.length:Int)) (v:=true) (decide_eq_true g1)) (And.intro (iI_len (k:=.i64) (xs:=x1)) (int_lss (P:=Try.prog) (t:=3) (k:=.i64) (x:=(.tmp 11)) (y:=(.tmp 13)) (a:=x5) (b:=(x1.length:Int)) (v:=(decide (x5 < (x1.length:Int)))) rfl))) (by kernel_rfl)
   ·exact leafAt (hn:=hn18) 2 [.val (.bool false)] [] (at18_j1 (Nat.lt_succ_self k) h2) (int_lss (P:=Try.prog) (t:=3) (k:=.i64) (x:=(.tmp 6)) (y:=(.tmp 8)) (a:=x5) (b:=(x0.length:Int)) (v:=false) (decide_eq_false g1)) (by kernel_rfl))
theorem ad_18 {k:Nat} {l0:List Int} {l1:List Int} {r:Bool} (h:laws_iLess.f k l0 l1 = some r):CallH Try.prog 18 [.sl (iI .i64 l0),.sl (iI .i64 l1)] [] (vb r) []:=by
 unfold laws_iLess.f at h
 refine call_ok (c:=bodyOf Try.f18) (rs:=o18 r) (post:=p18 r) Try.func18 rfl rfl rfl (by kernel_rfl) ?_
 show AtP Try.prog 41 (bodyOf Try.f18) (KR Try.prog Try.f18.results.toList (o18 r) (p18 r)) [] [] (lookA [(0,.sl (iI .i64 l0)),(1,.sl (iI .i64 l1))])
 refine at_ (hn:=hn18) ?_
 exact leafAt (hn:=hn18) 8 [] [] (at18_l0 _ _ (q18_l0_mk h)) True.intro (by kernel_rfl)

def hn58:Hint:=⟨[(4,[1000000]),(14,[1000000]),(16,[1000000]),(18,[1000000]),(20,[1000000]),(22,[1000000]),(24,[1000000]),(26,[1000000]),(27,[1000000])],[]⟩
def o58 (r:List Int):List AV:=[]
def p58 (r:List Int):List (Nat × AV):=[(1000000,.ow true 3 (iI .i64 r))]
def q58_l0 (r:List Int) (k:Nat) (L:List (Nat × AV)):Prop:=∃ (x0:List Int) (x2:Int) (x3:Int),L = [(0,.row 1000000),(2,vi x2),(3,vi x3),(1000000,.ow true 3 (iI .i64 x0))] ∧ slices_Reverse_int_int.l0 k x0 x2 x3 = some r
theorem q58_l0_mk {r:List Int} {k:Nat} {x0:List Int} {x2:Int} {x3:Int} (h:slices_Reverse_int_int.l0 k x0 x2 x3 = some r):q58_l0 r k [(0,.row 1000000),(2,vi x2),(3,vi x3),(1000000,.ow true 3 (iI .i64 x0))]:=⟨x0,x2,x3,rfl,h⟩
theorem at58_l0 {r:List Int}:∀ k L,q58_l0 r k L → AtP Try.prog 28 (bodyOf Try.f58) (KR Try.prog Try.f58.results.toList (o58 r) (p58 r)) [true,false] [] (lookA L) :=
 at_loop (by kernel_rfl) (fun _ => by kernel_rfl) (q58_l0 r) (by
  rintro k _ ⟨x0,x2,x3,rfl,h⟩
  cases k with
  | zero => simp [slices_Reverse_int_int.l0] at h
  | succ k =>
   rw [slices_Reverse_int_int.l0] at h
   refine at_ (hn:=hn58) ?_
   rcases ite_ h with ⟨g1,h2⟩ | ⟨g1,h2⟩
   ·obtain ⟨g3,h4⟩:=ip_ h2
    obtain ⟨g5,h6⟩:=ip_ h4
    obtain ⟨g7,h8⟩:=ip_ h6
    obtain ⟨g9,h10⟩:=ip_ h8
    exact leafBack (hn:=hn58) 13 [.val (.bool true),.go,.elem (vi (rd x0 x3)),.go,.elem (vi (rd x0 x2)),.go,.elem (vi (rd x0 x2)),.elem (.ow true 3 (iI .i64 (x0.set ((x2:Int).toNat) (rd x0 x3)))),.go,.elem (vi (rd (x0.set ((x2:Int).toNat) (rd x0 x3)) x3)),.elem (.ow true 3 (iI .i64 ((x0.set ((x2:Int).toNat) (rd x0 x3)).set ((x3:Int).toNat) (rd x0 x2)))),.val (.int .i64 (wrap64 (x2 + 1))),.val (.int .i64 (wrap64 (x3 - 1)))] [] (q58_l0_mk h10) (Nat.lt_succ_self k) (And.intro (int_lss (P:=Try.prog) (t:=3) (k:=.i64) (x:=(.tmp 7)) (y:=(.tmp 8)) (a:=x2) (b:=x3) (v:=true) (decide_eq_true g1)) (And.intro (And.intro (iI_lt (k:=.i64) (xs:=x0) (i:=x3) g3 g5) (And.intro (And.right (iI_rd (k:=.i64) (xs:=x0) (i:=x3) g3 g5)) (And.intro (iI_lt (k:=.i64) (xs:=x0) (i:=x2) g7 g9) (And.intro (And.right (iI_rd (k:=.i64) (xs:=x0) (i:=x2) g7 g9)) (And.intro (iI_lt (k:=.i64) (xs:=x0) (i:=x2) g7 g9) (And.intro (iI_set (k:=.i64) (xs:=x0) (i:=x2) (x:=(rd x0 x3)) g7 g9) (And.intro (iI_lt (k:=.i64) (xs:=(x0.set ((x2:Int).toNat) (rd x0 x3))) (i:=x3) g3 (by simp only [List.length_set]; omega)) (iI_set (k:=.i64) (xs:=(x0.set ((x2:Int).toNat) (rd x0 x3))) (i:=x3) (x:=(rd x0 x2)) g3 (by simp only [List.length_set]; omega))))))))) (And.intro (int_add (P:=Try.prog) (t:=3) (k:=.i64) (x:=(.tmp 10)) (y:=(.const (.int .i64 1))) (a:=x2) (b:=1) (c:=(wrap64 (x2 + 1))) (IntWalk.i64_left _)) (int_sub (P:=Try.prog) (t:=3) (k:=.i64) (x:=(.tmp 12)) (y:=(.const (.int .i64 1))) (a:=x3) (b:=1) (c:=(wrap64 (x3 - 1))) (IntWalk.i64_left _))))) (by kernel_rfl)
   ·obtain rfl:=Option.some.inj h2
    exact leafRet (hn:=hn58) 9 [.val (.bool false)] [] .normal (.inl rfl) (by kernel_rfl) (int_lss (P:=Try.prog) (t:=3) (k:=.i64) (x:=(.tmp 7)) (y:=(.tmp 8)) (a:=x2) (b:=x3) (v:=false) (decide_eq_false g1)) (by kernel_rfl))
theorem ad_58 {k:Nat} {l0:List Int} {r:List Int} (h:slices_Reverse_int_int.f k l0 = some r):CallH Try.prog 58 [.row 1000000] [(1000000,.ow true 3 (iI .i64 l0))] (.tup []) [(1000000,.ow true 3 (iI .i64 r))]:=by
 unfold slices_Reverse_int_int.f at h
 refine call_ok (c:=bodyOf Try.f58) (rs:=o58 r) (post:=p58 r) Try.func58 rfl rfl rfl (by kernel_rfl) ?_
 show AtP Try.prog 28 (bodyOf Try.f58) (KR Try.prog Try.f58.results.toList (o58 r) (p58 r)) [] [] (lookA [(0,.row 1000000),(1000000,.ow true 3 (iI .i64 l0))])
 refine at_ (hn:=hn58) ?_
 exact leafAt (hn:=hn58) 4 [.val (.int .i64 (l0.length:Int)),.val (.int .i64 (wrap64 ((l0.length:Int) - 1)))] [] (at58_l0 _ _ (q58_l0_mk h)) (And.intro (iI_len (k:=.i64) (xs:=l0)) (int_sub (P:=Try.prog) (t:=3) (k:=.i64) (x:=(.tmp 5)) (y:=(.const (.int .i64 1))) (a:=(l0.length:Int)) (b:=1) (c:=(wrap64 ((l0.length:Int) - 1))) (IntWalk.i64_left _))) (by kernel_rfl)

def hn36:Hint:=⟨[(6,[14])],[]⟩
def o36 (r:List Int):List AV:=[.sl (iI .i64 r)]
def p36 (r:List Int):List (Nat × AV):=[]
theorem ad_36 {k:Nat} {l0:List Int} {r:List Int} (h:impl_turned.f k l0 = some r):CallH Try.prog 36 [.sl (iI .i64 l0)] [] (.sl (iI .i64 r)) []:=by
 unfold impl_turned.f at h
 refine call_ok (c:=bodyOf Try.f36) (rs:=o36 r) (post:=p36 r) Try.func36 rfl rfl rfl (by kernel_rfl) ?_
 show AtP Try.prog 9 (bodyOf Try.f36) (KR Try.prog Try.f36.results.toList (o36 r) (p36 r)) [] [] (lookA [(0,.sl (iI .i64 l0))])
 refine at_ (hn:=hn36) ?_
 obtain ⟨t360,c1,h2⟩:=bd_ h
 obtain ⟨t363,c3,h4⟩:=bd_ h2
 obtain rfl:=Option.some.inj h4
 exact leafRet (hn:=hn36) 13 [.goT,.callH [] (.row 14) [(14,.ow true 3 (iI .i64 t360))],.callH [14] (.tup []) [(14,.ow true 3 (iI .i64 t363))],.fz 14] [] .ret (.inr rfl) (by kernel_rfl) (And.intro (CallH.ren [(500000,14)] rfl rfl (ad_46 c1)) (CallH.ren [(1000000,14)] rfl rfl (ad_58 c3))) (by kernel_rfl)

def hn19:Hint:=⟨[],[]⟩
def o19 (r:List Int × Bool):List AV:=[.sl (iI .i64 r.1),vb r.2]
def p19 (r:List Int × Bool):List (Nat × AV):=[]
theorem ad_19 {k:Nat} {l0:List Int} {r1:List Int} {r2:Bool} (h:impl_TurnChain.f k l0 = some (r1,r2)):CallH Try.prog 19 [.sl (iI .i64 l0)] [] (.tup [.sl (iI .i64 r1),vb r2]) []:=by
 unfold impl_TurnChain.f at h
 refine call_ok (c:=bodyOf Try.f19) (rs:=o19 (r1,r2)) (post:=p19 (r1,r2)) Try.func19 rfl rfl rfl (by kernel_rfl) ?_
 show AtP Try.prog 9 (bodyOf Try.f19) (KR Try.prog Try.f19.results.toList (o19 (r1,r2)) (p19 (r1,r2))) [] [] (lookA [(0,.sl (iI .i64 l0))])
 refine at_ (hn:=hn19) ?_
 obtain ⟨t364,c1,h2⟩:=bd_ h
 refine mid (hn:=hn19) 5 2 [.goT,.call (vb t364)] (ad_15 c1) (by kernel_rfl) ?_
 rcases ite_ h2 with ⟨g3,h4⟩ | ⟨g3,h4⟩
 ·subst g3
  obtain ⟨t365,c5,h6⟩:=bd_ h4
  obtain ⟨rfl,rfl⟩:=pr2_ h6
  exact leafRet (hn:=hn19) 9 [.call (.sl (iI .i64 t365))] [] .ret (.inr rfl) (by kernel_rfl) (ad_36 c5) (by kernel_rfl)
 ·obtain rfl:=Bool.eq_false_iff.2 g3
  obtain ⟨rfl,rfl⟩:=pr2_ h4
  exact leafRet (hn:=hn19) 8 [.goT] [] .ret (.inr rfl) (by kernel_rfl) True.intro (by kernel_rfl)

def g25_impl_AllChains_1.f (k:Nat) (l0:List Int) (l1:List (S39)) (l2:List (List Int)):Option (Bool × List (List Int)):=if (l0.length:Int) = (wrap64 ((l1.length:Int) + 1)) then (if l2.length < 5864062014805 then (some ((decide (((l2 ++ ([l0])).length:Int) ≤ 300)),(l2 ++ ([l0])))) else (none)) else (some ((decide ((l2.length:Int) ≤ 300)),l2))

def hn25:Hint:=⟨[(1,[1000000]),(2,[32,1000001,1000002]),(11,[1000002]),(13,[31]),(14,[32]),(15,[32,1000002])],[]⟩
def o25 (r:Bool × List (List Int)) (l1:List (S39)):List AV:=[vb r.1]
def p25 (r:Bool × List (List Int)) (l1:List (S39)):List (Nat × AV):=[(1000000,.box (.sl (iS39 l1))),(500101,.ow false 29 (iL (iI .i64) r.2)),(1000001,.box (.row 500101))]
theorem ad_25 {k:Nat} {l0:List Int} {l1:List (S39)} {l2:List (List Int)} {r1:Bool} {r2:List (List Int)} (h:g25_impl_AllChains_1.f k l0 l1 l2 = some (r1,r2)):CallH Try.prog 25 [.sl (iI .i64 l0),.loc 1000000 0,.loc 1000001 0] [(1000000,.box (.sl (iS39 l1))),(1000001,.box (.row 1000002)),(1000002,.ow false 29 (iL (iI .i64) l2))] (vb r1) [(1000000,.box (.sl (iS39 l1))),(500101,.ow false 29 (iL (iI .i64) r2)),(1000001,.box (.row 500101))]:=by
 unfold g25_impl_AllChains_1.f at h
 refine call_ok (c:=bodyOf Try.f25) (rs:=o25 (r1,r2) l1) (post:=p25 (r1,r2) l1) Try.func25 rfl rfl rfl (by kernel_rfl) ?_
 show AtP Try.prog 18 (bodyOf Try.f25) (KR Try.prog Try.f25.results.toList (o25 (r1,r2) l1) (p25 (r1,r2) l1)) [] [] (lookA [(0,.sl (iI .i64 l0)),(1,.loc 1000000 0),(2,.loc 1000001 0),(1000000,.box (.sl (iS39 l1))),(1000001,.box (.row 1000002)),(1000002,.ow false 29 (iL (iI .i64) l2))])
 refine at_ (hn:=hn25) ?_
 refine mid (hn:=hn25) 5 5 [.val (.int .i64 (l0.length:Int)),.val (.int .i64 (l1.length:Int)),.val (.int .i64 (wrap64 ((l1.length:Int) + 1)))] (And.intro (iI_len (k:=.i64) (xs:=l0)) (And.intro (iS39_len (xs:=l1)) (int_add (P:=Try.prog) (t:=3) (k:=.i64) (x:=(.tmp 8)) (y:=(.const (.int .i64 1))) (a:=(l1.length:Int)) (b:=1) (c:=(wrap64 ((l1.length:Int) + 1))) (IntWalk.i64_left _)))) (by kernel_rfl) ?_
 rcases ite_ h with ⟨g1,h2⟩ | ⟨g1,h2⟩
 ·obtain ⟨g3,h4⟩:=ip_ h2
  obtain ⟨rfl,rfl⟩:=pr2_ h4
  exact leafRet (hn:=hn25) 9 [.val (.bool true),.go,.elem (.ow false 29 (iL (iI .i64) (l2 ++ ([l0])))),.val (.int .i64 ((l2 ++ ([l0])).length:Int)),.val (.bool (decide (((l2 ++ ([l0])).length:Int) ≤ 300)))] [(500101,32)] .ret (.inr rfl) (by kernel_rfl) (And.intro (int_eql (P:=Try.prog) (t:=3) (k:=.i64) (x:=(.tmp 6)) (y:=(.tmp 9)) (a:=(l0.length:Int)) (b:=(wrap64 ((l1.length:Int) + 1))) (v:=true) (beq_iff_eq.2 g1)) (And.intro (iL_app (f:=(iI .i64)) (N:=5864062014805) (b:=24) (xs:=l2) (ys:=[l0]) (by decide) (Nat.succ_le_of_lt g3)) (And.intro (iL_len (f:=(iI .i64)) (xs:=(l2 ++ ([l0])))) (int_leq (P:=Try.prog) (t:=3) (k:=.i64) (x:=(.tmp 16)) (y:=(.const (.int .i64 300))) (a:=((l2 ++ ([l0])).length:Int)) (b:=300) (v:=(decide (((l2 ++ ([l0])).length:Int) ≤ 300))) rfl)))) (by kernel_rfl)
 ·obtain ⟨rfl,rfl⟩:=pr2_ h2
  exact leafRet (hn:=hn25) 9 [.val (.bool false),.val (.int .i64 (l2.length:Int)),.val (.bool (decide ((l2.length:Int) ≤ 300)))] [(500101,1000002)] .ret (.inr rfl) (by kernel_rfl) (And.intro (int_eql (P:=Try.prog) (t:=3) (k:=.i64) (x:=(.tmp 6)) (y:=(.tmp 9)) (a:=(l0.length:Int)) (b:=(wrap64 ((l1.length:Int) + 1))) (v:=false) (beq_false_of_ne g1)) (And.intro (iL_len (f:=(iI .i64)) (xs:=l2)) (int_leq (P:=Try.prog) (t:=3) (k:=.i64) (x:=(.tmp 16)) (y:=(.const (.int .i64 300))) (a:=(l2.length:Int)) (b:=300) (v:=(decide ((l2.length:Int) ≤ 300))) rfl))) (by kernel_rfl)


/-! ### slices.Delete of one element, at a row of the call's own -/
def slices_Delete_impl_Tile.f (l:List S39) (a1 a2:Int):Option (List S39):=if 0 ≤ a1 ∧ a1 < l.length ∧ a2 = a1 + 1 then some (l.eraseIdx a1.toNat) else none
theorem ad_47 {l:List S39} {a1 a2:Int} {r:List S39} (h:slices_Delete_impl_Tile.f l a1 a2 = some r):CallH Try.prog 47 [.row 1000000,.val (.int .i64 a1),.val (.int .i64 a2)] [(1000000,.ow true 39 (iS39 l))] (.row 500000) [(500000,.ow true 39 (iS39 r))]:=by
  unfold slices_Delete_impl_Tile.f at h
  split at h
  · rename_i hc
    obtain ⟨h0,h1,rfl⟩:=hc
    obtain rfl:=Option.some.inj h
    obtain ⟨k,rfl⟩ : ∃ k:Nat,a1 = (k:Int):=⟨a1.toNat,by omega⟩
    obtain ⟨m,hm⟩ : ∃ m,l.length = m + 1:=⟨l.length - 1,by omega⟩
    refine ⟨callFunc_ok Try.func47 rfl rfl,fun c O vs hG hO hX hl hv hH hM => ?_⟩
    obtain ⟨sz,xs,hown,hsz,hinf,hcs,hO'⟩ : OwRep Try.prog c.w c.G O true 39 (iS39 l) (c.V 1000000):=hH.rep 1000000 (.ow true 39 (iS39 l)) (List.mem_singleton.2 rfl)
    match vs,hl with
    | [v0,v1,v2],_ =>
    obtain ⟨e0,_⟩:=row_inv (hv 0 _ v0 rfl rfl)
    obtain ⟨e1,_⟩:=rep_val (val_inv (hv 1 _ v1 rfl rfl))
    obtain ⟨e2,_⟩:=rep_val (val_inv (hv 2 _ v2 rfl rfl))
    have hln:(iS39 l).length = m + 1:=by rw [← hm]; simp [iS39]
    have hsz2:sz = k39.sz:=by
      have:=delT_info
      rw [hinf] at this
      exact Option.some.inj this
    rw [hln] at hown
    obtain ⟨hxl,hw | ⟨g,cap,cur,hw,hb,hg,hle,hmx,hs3,htk⟩⟩:=hown
    · omega
    · have hOg:O g = some 0:=hO' g (by rw [hw]; rfl)
      have hR:Kd.R k39 39 c.w 0 (fun _ => True) (.slice (some ⟨g,0,none⟩) (m + 1) cap) l:=by
        rw [hsz2] at hxl hs3 htk hcs
        refine ⟨fun _ _ => trivial,xs,⟨by rw [hm]; exact hxl,.inr ⟨g,cap,cur,by rw [hm],Nat.zero_le _,hg,by omega,hmx,hs3,by rw [hm]; exact htk⟩⟩,by rw [hm]; exact hxl,fun j p hj => ?_⟩
        have hc:=hcs j _ (by unfold iS39; rw [List.getElem?_map,hj]; rfl)
        have hu:=flat_39.un hc
        rw [hu]
        exact k39_mkM _ _ _ p
      rw [show v0 = .slice (some ⟨g,0,none⟩) (m + 1) cap from e0.trans hw,e1,e2]
      refine (delT c.w 0 g cap k m (fun _ => True) l (Nat.zero_le _) hm (by omega) hR).mono ?_
      rintro e w' ⟨rfl,hR',_,hg'⟩
      obtain ⟨sz',inner,ho',hp',hi',hc'⟩:=own_of flat_39 (P:=Try.prog) delT_info hR'
      have hgb:∀ b,b < c.w.heap.size → b ≠ g → w'.heap[b]? = c.w.heap[b]?:=fun b hb hne => hg'.block b hb (fun h => hne (Option.some.inj h))
      have hgX:=(hO g 0 hOg)
      refine ⟨_,Val c.V 500000 (.slice (some ⟨g,0,none⟩) m cap),O,rfl,⟨hg'.os,hg'.tape,hg'.output,hg'.size,fun b ho => hgb b ho.1 (fun h => ho.2 (h ▸ hgX.1))⟩,fun b r hr => ⟨fun ho => ho.2 (hO b r hr).1,Nat.lt_of_lt_of_le (hO b r hr).2 hg'.size⟩,fun b off hk => ?_,fun q x hx => ?_,.row 500000 _ _ _ (Val.same _ _ _),⟨fun q x hx => ?_,fun q q' x x' g1 g2 hne => ?_⟩⟩
      · have h9:=hG b off hk
        have hne:b ≠ g:=fun h => by
          subst h
          exact Nat.not_lt_zero _ (h9.2.1 0 hOg)
        exact ⟨cell_same (hgb b h9.1 hne),Nat.lt_of_lt_of_le h9.1 hg'.size,h9.2.1,fun _ => hk⟩
      · simp only [List.mem_singleton,Prod.mk.injEq] at hx
        obtain ⟨rfl,rfl⟩:=hx
        exact Val.ne _ _ (by decide)
      · simp only [List.mem_singleton,Prod.mk.injEq] at hx
        obtain ⟨rfl,rfl⟩:=hx
        rw [Val.same]
        exact ⟨sz',inner,ho',hp',hi',fun i x hx => hc' _ i x hx,fun b hb => by
          have:g = b:=by simpa [Value.ownBlock] using hb
          subst this
          exact hOg⟩
      · simp only [List.mem_singleton,Prod.mk.injEq] at g1 g2
        exact absurd (g1.1.trans g2.1.symm) hne
  · cases h

mutual
def g43_impl_chains_1.l0:Nat → List Int → List (S39) → List (S39) → List (List Int) → Int → Option (Bool × List (List Int))
  | 0,_,_,_,_,_ => none
  | k + 1,x0,x1,l2,y0,x18 => if x18 < 10 then (if 0 ≤ (wrap64 ((x0.length:Int) - 1)) then (if (wrap64 ((x0.length:Int) - 1)) < (x0.length:Int) then ((impl_tile.f (rd x0 (wrap64 ((x0.length:Int) - 1))) x18).bind fun b2 => ((slices_Index_impl_Tile_impl_Tile.f k x1 b2.1 b2.2).bind fun b3 => (if b3 ≥ 0 then ((slices_Clone_int_int.f x0).bind fun b4 => (if b4.length < 17592186044416 then ((slices_Clone_impl_Tile_impl_Tile.f x1).bind fun b5 => ((slices_Delete_impl_Tile.f b5 b3 (wrap64 (b3 + 1))).bind fun b6 => ((g43_impl_chains_1.f k (b4 ++ ([x18])) b6 l2 y0).bind fun b7 => (if b7.1 = true then (g43_impl_chains_1.l0 k x0 x1 l2 b7.2 (wrap64 (x18 + 1))) else (some (false,b7.2)))))) else (none))) else (g43_impl_chains_1.l0 k x0 x1 l2 y0 (wrap64 (x18 + 1)))))) else (none)) else (none)) else (some (true,y0))
def g43_impl_chains_1.f:Nat → List Int → List (S39) → List (S39) → List (List Int) → Option (Bool × List (List Int))
  | 0,_,_,_,_ => none
  | k + 1,l0,l1,l2,l3 => if (l0.length:Int) > 1 then ((g25_impl_AllChains_1.f k l0 l2 l3).bind fun b1 => (if b1.1 = true then (g43_impl_chains_1.l0 k l0 l1 l2 b1.2 0) else (some (false,b1.2)))) else (g43_impl_chains_1.l0 k l0 l1 l2 l3 0)
end
def grp43 (j:Nat):Prop:=(∀ {l0:List Int} {l1:List (S39)} {l2:List (S39)} {l3:List (List Int)} {r1:Bool} {r2:List (List Int)},g43_impl_chains_1.f j l0 l1 l2 l3 = some (r1,r2) → CallH Try.prog 43 [.sl (iI .i64 l0),.sl (iS39 l1),.loc 1000000 0,.loc 1000004 0] [(1000000,.box (.fn 25 [.loc 1000001 0,.loc 1000002 0])),(1000001,.box (.sl (iS39 l2))),(1000002,.box (.row 1000003)),(1000003,.ow false 29 (iL (iI .i64) l3)),(1000004,.box (.fn 43 [.loc 1000000 0,.loc 1000004 0]))] (vb r1) [(1000000,.box (.fn 25 [.loc 1000001 0,.loc 1000002 0])),(1000001,.box (.sl (iS39 l2))),(500102,.ow false 29 (iL (iI .i64) r2)),(1000002,.box (.row 500102)),(1000004,.box (.fn 43 [.loc 1000000 0,.loc 1000004 0]))])
theorem use_43 {j:Nat} (H:grp43 j) {l0:List Int} {l1:List (S39)} {l2:List (S39)} {l3:List (List Int)} {r1:Bool} {r2:List (List Int)} (h:g43_impl_chains_1.f j l0 l1 l2 l3 = some (r1,r2)):CallH Try.prog 43 [.sl (iI .i64 l0),.sl (iS39 l1),.loc 1000000 0,.loc 1000004 0] [(1000000,.box (.fn 25 [.loc 1000001 0,.loc 1000002 0])),(1000001,.box (.sl (iS39 l2))),(1000002,.box (.row 1000003)),(1000003,.ow false 29 (iL (iI .i64) l3)),(1000004,.box (.fn 43 [.loc 1000000 0,.loc 1000004 0]))] (vb r1) [(1000000,.box (.fn 25 [.loc 1000001 0,.loc 1000002 0])),(1000001,.box (.sl (iS39 l2))),(500102,.ow false 29 (iL (iI .i64) r2)),(1000002,.box (.row 500102)),(1000004,.box (.fn 43 [.loc 1000000 0,.loc 1000004 0]))]:=H h
def hn43:Hint:=⟨[(2,[1000000,1000001,1000002,1000003]),(3,[65,1000000,1000001,1000002,1000004]),(13,[1000001,1000002,1000003]),(34,[65,1000000,1000001,1000002,1000004]),(36,[86]),(38,[88]),(39,[89]),(41,[91]),(45,[95])],[]⟩
def o43 (r:Bool × List (List Int)) (KN:Nat) (l2:List (S39)):List AV:=[vb r.1]
def p43 (r:Bool × List (List Int)) (KN:Nat) (l2:List (S39)):List (Nat × AV):=[(1000000,.box (.fn 25 [.loc 1000001 0,.loc 1000002 0])),(1000001,.box (.sl (iS39 l2))),(500102,.ow false 29 (iL (iI .i64) r.2)),(1000002,.box (.row 500102)),(1000004,.box (.fn 43 [.loc 1000000 0,.loc 1000004 0]))]
def q43_l0 (r:Bool × List (List Int)) (KN:Nat) (l2:List (S39)) (k:Nat) (L:List (Nat × AV)):Prop:=k < KN ∧ ∃ (x0:List Int) (x1:List (S39)) (y0:List (List Int)) (x18:Int),L = [(0,.sl (iI .i64 x0)),(1,.sl (iS39 x1)),(3,.loc 1000004 0),(18,vi x18),(65,.ow false 29 (iL (iI .i64) y0)),(1000000,.box (.fn 25 [.loc 1000001 0,.loc 1000002 0])),(1000001,.box (.sl (iS39 l2))),(1000002,.box (.row 65)),(1000004,.box (.fn 43 [.loc 1000000 0,.loc 1000004 0]))] ∧ g43_impl_chains_1.l0 k x0 x1 l2 y0 x18 = some r
theorem q43_l0_mk {r:Bool × List (List Int)} (KN:Nat) (l2:List (S39)) {k:Nat} {x0:List Int} {x1:List (S39)} {y0:List (List Int)} {x18:Int} (hkR:k < KN) (h:g43_impl_chains_1.l0 k x0 x1 l2 y0 x18 = some r):q43_l0 r KN l2 k [(0,.sl (iI .i64 x0)),(1,.sl (iS39 x1)),(3,.loc 1000004 0),(18,vi x18),(65,.ow false 29 (iL (iI .i64) y0)),(1000000,.box (.fn 25 [.loc 1000001 0,.loc 1000002 0])),(1000001,.box (.sl (iS39 l2))),(1000002,.box (.row 65)),(1000004,.box (.fn 43 [.loc 1000000 0,.loc 1000004 0]))]:=⟨hkR,x0,x1,y0,x18,rfl,h⟩
theorem at43_l0 {r:Bool × List (List Int)} {KN:Nat} {l2:List (S39)} (IH:∀ j,j < KN → grp43 j):∀ k L,q43_l0 r KN l2 k L → AtP Try.prog 50 (bodyOf Try.f43) (KR Try.prog Try.f43.results.toList (o43 r KN l2) (p43 r KN l2)) [true,true,false,true,false] [] (lookA L) :=
 at_loop (by kernel_rfl) (fun _ => by kernel_rfl) (q43_l0 r KN l2) (by
  rintro k _ ⟨hkR,x0,x1,y0,x18,rfl,h⟩
  cases k with
  | zero => simp [g43_impl_chains_1.l0] at h
  | succ k =>
   rw [g43_impl_chains_1.l0] at h
   have hkR:=Nat.lt_of_succ_lt hkR
   refine at_ (hn:=hn43) ?_
   rcases ite_ h with ⟨g1,h2⟩ | ⟨g1,h2⟩
   ·obtain ⟨g3,h4⟩:=ip_ h2
    obtain ⟨g5,h6⟩:=ip_ h4
    obtain ⟨⟨b2_1,b2_2⟩,c7,h8⟩:=bd_ h6
    try dsimp only at h8
    obtain ⟨b3,c9,h10⟩:=bd_ h8
    refine mid (hn:=hn43) 16 1 [.val (.bool true),.val (.int .i64 (x0.length:Int)),.val (.int .i64 (wrap64 ((x0.length:Int) - 1))),.elem (vi (rd x0 (wrap64 ((x0.length:Int) - 1)))),.call (.agg [vi b2_1,vi b2_2]),.call (vi b3)] (And.intro (int_lss (P:=Try.prog) (t:=3) (k:=.i64) (x:=(.tmp 18)) (y:=(.const (.int .i64 10))) (a:=x18) (b:=10) (v:=true) (decide_eq_true g1)) (And.intro (iI_len (k:=.i64) (xs:=x0)) (And.intro (int_sub (P:=Try.prog) (t:=3) (k:=.i64) (x:=(.tmp 24)) (y:=(.const (.int .i64 1))) (a:=(x0.length:Int)) (b:=1) (c:=(wrap64 ((x0.length:Int) - 1))) (IntWalk.i64_left _)) (And.intro (iI_rd (k:=.i64) (xs:=x0) (i:=(wrap64 ((x0.length:Int) - 1))) g3 g5) (And.intro (ad_45 c7) (ad_44 c9)))))) (by kernel_rfl) ?_
    rcases ite_ h10 with ⟨g11,h12⟩ | ⟨g11,h12⟩
    ·obtain ⟨b4,c13,h14⟩:=bd_ h12
     obtain ⟨g15,h16⟩:=ip_ h14
     obtain ⟨b5,c17,h18⟩:=bd_ h16
     obtain ⟨b6,c19,h20⟩:=bd_ h18
     obtain ⟨⟨b7_1,b7_2⟩,c21,h22⟩:=bd_ h20
     try dsimp only at h22
     refine mid (hn:=hn43) 0 16 [.val (.bool true),.callH [] (.row 86) [(86,.ow false 3 (iI .i64 b4))],.go,.elem (.ow false 3 (iI .i64 (b4 ++ ([x18])))),.callH [] (.row 91) [(91,.ow true 39 (iS39 b5))],.val (.int .i64 (wrap64 (b3 + 1))),.callH [91] (.row 95) [(95,.ow false 39 (iS39 b6))],.callH [1000000,1000001,1000002,65,1000004] (vb b7_1) [(1000000,.box (.fn 25 [.loc 1000001 0,.loc 1000002 0])),(1000001,.box (.sl (iS39 l2))),(96,.ow false 29 (iL (iI .i64) b7_2)),(1000002,.box (.row 96)),(1000004,.box (.fn 43 [.loc 1000000 0,.loc 1000004 0]))]] (And.intro (int_geq (P:=Try.prog) (t:=3) (k:=.i64) (x:=(.tmp 31)) (y:=(.const (.int .i64 0))) (a:=b3) (b:=0) (v:=true) (decide_eq_true g11)) (And.intro (CallH.ren [(500000,86)] rfl rfl (CallH.frz 500000 rfl (ad_46 c13))) (And.intro (iI_app (k:=.i64) (N:=17592186044416) (b:=8) (xs:=b4) (ys:=[x18]) (by decide) (Nat.succ_le_of_lt g15)) (And.intro (CallH.ren [(500000,91)] rfl rfl (ad_48 c17)) (And.intro (int_add (P:=Try.prog) (t:=3) (k:=.i64) (x:=(.tmp 43)) (y:=(.const (.int .i64 1))) (a:=b3) (b:=1) (c:=(wrap64 (b3 + 1))) (IntWalk.i64_left _)) (And.intro (CallH.ren [(500000,95),(1000000,91)] rfl rfl (CallH.frz 500000 rfl (ad_47 c19))) (CallH.ren [(500102,96),(1000000,1000000),(1000001,1000001),(1000002,1000002),(1000003,65),(1000004,1000004)] rfl rfl (use_43 (IH _ hkR) c21)))))))) (by kernel_rfl) ?_
     rcases ite_ h22 with ⟨g23,h24⟩ | ⟨g23,h24⟩
     ·subst g23
      exact leafBack (hn:=hn43) 7 [.val (.int .i64 (wrap64 (x18 + 1)))] [(65,96)] (q43_l0_mk KN l2 hkR h24) (Nat.lt_succ_self k) (int_add (P:=Try.prog) (t:=3) (k:=.i64) (x:=(.tmp 18)) (y:=(.const (.int .i64 1))) (a:=x18) (b:=1) (c:=(wrap64 (x18 + 1))) (IntWalk.i64_left _)) (by kernel_rfl)
     ·obtain rfl:=Bool.eq_false_iff.2 g23
      obtain rfl:=Option.some.inj h24
      exact leafRet (hn:=hn43) 12 [] [(500102,96)] .ret (.inr rfl) (by kernel_rfl) True.intro (by kernel_rfl)
    ·exact leafBack (hn:=hn43) 7 [.val (.bool false),.val (.int .i64 (wrap64 (x18 + 1)))] [] (q43_l0_mk KN l2 hkR h12) (Nat.lt_succ_self k) (And.intro (int_geq (P:=Try.prog) (t:=3) (k:=.i64) (x:=(.tmp 31)) (y:=(.const (.int .i64 0))) (a:=b3) (b:=0) (v:=false) (decide_eq_false g11)) (int_add (P:=Try.prog) (t:=3) (k:=.i64) (x:=(.tmp 18)) (y:=(.const (.int .i64 1))) (a:=x18) (b:=1) (c:=(wrap64 (x18 + 1))) (IntWalk.i64_left _))) (by kernel_rfl)
   ·obtain rfl:=Option.some.inj h2
    exact leafRet (hn:=hn43) 14 [.val (.bool false)] [(500102,65)] .ret (.inr rfl) (by kernel_rfl) (int_lss (P:=Try.prog) (t:=3) (k:=.i64) (x:=(.tmp 18)) (y:=(.const (.int .i64 10))) (a:=x18) (b:=10) (v:=false) (decide_eq_false g1)) (by kernel_rfl))
theorem adR_43 {KN:Nat} (IH:∀ j,j < KN → grp43 j) {l0:List Int} {l1:List (S39)} {l2:List (S39)} {l3:List (List Int)} {r1:Bool} {r2:List (List Int)} (h:g43_impl_chains_1.f KN l0 l1 l2 l3 = some (r1,r2)):CallH Try.prog 43 [.sl (iI .i64 l0),.sl (iS39 l1),.loc 1000000 0,.loc 1000004 0] [(1000000,.box (.fn 25 [.loc 1000001 0,.loc 1000002 0])),(1000001,.box (.sl (iS39 l2))),(1000002,.box (.row 1000003)),(1000003,.ow false 29 (iL (iI .i64) l3)),(1000004,.box (.fn 43 [.loc 1000000 0,.loc 1000004 0]))] (vb r1) [(1000000,.box (.fn 25 [.loc 1000001 0,.loc 1000002 0])),(1000001,.box (.sl (iS39 l2))),(500102,.ow false 29 (iL (iI .i64) r2)),(1000002,.box (.row 500102)),(1000004,.box (.fn 43 [.loc 1000000 0,.loc 1000004 0]))]:=by
 obtain ⟨k,hK⟩ : ∃ k,KN = k + 1:=by
  cases KN with
  | zero => simp [g43_impl_chains_1.f] at h
  | succ k => exact ⟨k,rfl⟩
 rw [hK,g43_impl_chains_1.f] at h
 have hkR:k < KN:=by omega
 refine call_ok (c:=bodyOf Try.f43) (rs:=o43 (r1,r2) KN l2) (post:=p43 (r1,r2) KN l2) Try.func43 rfl rfl rfl (by kernel_rfl) ?_
 show AtP Try.prog 50 (bodyOf Try.f43) (KR Try.prog Try.f43.results.toList (o43 (r1,r2) KN l2) (p43 (r1,r2) KN l2)) [] [] (lookA [(0,.sl (iI .i64 l0)),(1,.sl (iS39 l1)),(2,.loc 1000000 0),(3,.loc 1000004 0),(1000000,.box (.fn 25 [.loc 1000001 0,.loc 1000002 0])),(1000001,.box (.sl (iS39 l2))),(1000002,.box (.row 1000003)),(1000003,.ow false 29 (iL (iI .i64) l3)),(1000004,.box (.fn 43 [.loc 1000000 0,.loc 1000004 0]))])
 refine at_ (hn:=hn43) ?_
 refine mid (hn:=hn43) 5 2 [.val (.int .i64 (l0.length:Int))] (iI_len (k:=.i64) (xs:=l0)) (by kernel_rfl) ?_
 rcases ite_ h with ⟨g1,h2⟩ | ⟨g1,h2⟩
 ·obtain ⟨⟨b1_1,b1_2⟩,c3,h4⟩:=bd_ h2
  try dsimp only at h4
  refine mid (hn:=hn43) 0 6 [.val (.bool true),.callH [1000001,1000002,1000003] (vb b1_1) [(1000001,.box (.sl (iS39 l2))),(65,.ow false 29 (iL (iI .i64) b1_2)),(1000002,.box (.row 65))]] (And.intro (int_gtr (P:=Try.prog) (t:=3) (k:=.i64) (x:=(.tmp 10)) (y:=(.const (.int .i64 1))) (a:=(l0.length:Int)) (b:=1) (v:=true) (decide_eq_true g1)) (CallH.ren [(500101,65),(1000000,1000001),(1000001,1000002),(1000002,1000003)] rfl rfl (ad_25 c3))) (by kernel_rfl) ?_
  rcases ite_ h4 with ⟨g5,h6⟩ | ⟨g5,h6⟩
  ·subst g5
   exact leafAt (hn:=hn43) 10 [] [] (at43_l0 IH _ _ (q43_l0_mk KN l2 hkR h6)) True.intro (by kernel_rfl)
  ·obtain rfl:=Bool.eq_false_iff.2 g5
   obtain ⟨rfl,rfl⟩:=pr2_ h6
   exact leafRet (hn:=hn43) 8 [] [(500102,65)] .ret (.inr rfl) (by kernel_rfl) True.intro (by kernel_rfl)
 ·exact leafAt (hn:=hn43) 10 [.val (.bool false)] [(65,1000003)] (at43_l0 IH _ _ (q43_l0_mk KN l2 hkR h2)) (int_gtr (P:=Try.prog) (t:=3) (k:=.i64) (x:=(.tmp 10)) (y:=(.const (.int .i64 1))) (a:=(l0.length:Int)) (b:=1) (v:=false) (decide_eq_false g1)) (by kernel_rfl)
theorem all43 (k:Nat):grp43 k:=Nat.strongRecOn (motive:=grp43) k fun KN IH => (show grp43 KN from fun h => adR_43 IH h)
theorem ad_43 {k:Nat} {l0:List Int} {l1:List (S39)} {l2:List (S39)} {l3:List (List Int)} {r1:Bool} {r2:List (List Int)} (h:g43_impl_chains_1.f k l0 l1 l2 l3 = some (r1,r2)):CallH Try.prog 43 [.sl (iI .i64 l0),.sl (iS39 l1),.loc 1000000 0,.loc 1000004 0] [(1000000,.box (.fn 25 [.loc 1000001 0,.loc 1000002 0])),(1000001,.box (.sl (iS39 l2))),(1000002,.box (.row 1000003)),(1000003,.ow false 29 (iL (iI .i64) l3)),(1000004,.box (.fn 43 [.loc 1000000 0,.loc 1000004 0]))] (vb r1) [(1000000,.box (.fn 25 [.loc 1000001 0,.loc 1000002 0])),(1000001,.box (.sl (iS39 l2))),(500102,.ow false 29 (iL (iI .i64) r2)),(1000002,.box (.row 500102)),(1000004,.box (.fn 43 [.loc 1000000 0,.loc 1000004 0]))]:=use_43 (all43 k) h

mutual
def g24_impl_chains.l0:Nat → List (S39) → List (S39) → List (List Int) → List Int → Int → Int → Option (Bool × List (List Int))
  | 0,_,_,_,_,_,_ => none
  | k + 1,x0,l1,y0,x10,x11,x12 => if x12 < x11 then (if 0 ≤ x12 then (if x12 < (x10.length:Int) then ((g43_impl_chains_1.f k ([(rd x10 x12)]) x0 l1 y0).bind fun b2 => (if b2.1 = true then (g24_impl_chains.l0 k x0 l1 b2.2 x10 x11 (wrap64 (x12 + 1))) else (some (false,b2.2)))) else (none)) else (none)) else (some (true,y0))
end
def g24_impl_chains.f (k:Nat) (l0:List (S39)) (l1:List (S39)) (l2:List (List Int)):Option (Bool × List (List Int)):=(impl_numbers.f k l0).bind fun b1 => (g24_impl_chains.l0 k l0 l1 l2 b1 (b1.length:Int) 0)

def hn24:Hint:=⟨[(5,[26,28,700010,1000000,1000001,1000002]),(8,[26,28,1000000,1000001,1000002]),(16,[26,28,700010,1000000,1000001,1000002]),(18,[41])],[]⟩
def o24 (r:Bool × List (List Int)) (l1:List (S39)):List AV:=[vb r.1]
def p24 (r:Bool × List (List Int)) (l1:List (S39)):List (Nat × AV):=[(1000000,.box (.sl (iS39 l1))),(500101,.ow false 29 (iL (iI .i64) r.2)),(1000001,.box (.row 500101))]
def q24_l0 (r:Bool × List (List Int)) (l1:List (S39)) (k:Nat) (L:List (Nat × AV)):Prop:=∃ (x0:List (S39)) (y0:List (List Int)) (x10:List Int) (x11:Int) (x12:Int),L = [(0,.sl (iS39 x0)),(5,.loc 28 0),(10,.sl (iI .i64 x10)),(11,vi x11),(12,vi x12),(26,.box (.fn 25 [.loc 1000000 0,.loc 1000001 0])),(28,.box (.fn 43 [.loc 26 0,.loc 28 0])),(700010,.ow false 29 (iL (iI .i64) y0)),(1000000,.box (.sl (iS39 l1))),(1000001,.box (.row 700010))] ∧ g24_impl_chains.l0 k x0 l1 y0 x10 x11 x12 = some r
theorem q24_l0_mk {r:Bool × List (List Int)} (l1:List (S39)) {k:Nat} {x0:List (S39)} {y0:List (List Int)} {x10:List Int} {x11:Int} {x12:Int} (h:g24_impl_chains.l0 k x0 l1 y0 x10 x11 x12 = some r):q24_l0 r l1 k [(0,.sl (iS39 x0)),(5,.loc 28 0),(10,.sl (iI .i64 x10)),(11,vi x11),(12,vi x12),(26,.box (.fn 25 [.loc 1000000 0,.loc 1000001 0])),(28,.box (.fn 43 [.loc 26 0,.loc 28 0])),(700010,.ow false 29 (iL (iI .i64) y0)),(1000000,.box (.sl (iS39 l1))),(1000001,.box (.row 700010))]:=⟨x0,y0,x10,x11,x12,rfl,h⟩
theorem at24_l0 {r:Bool × List (List Int)} {l1:List (S39)}:∀ k L,q24_l0 r l1 k L → AtP Try.prog 23 (bodyOf Try.f24) (KR Try.prog Try.f24.results.toList (o24 r l1) (p24 r l1)) [true,true,true,false,true,false] [] (lookA L) :=
 at_loop (by kernel_rfl) (fun _ => by kernel_rfl) (q24_l0 r l1) (by
  rintro k _ ⟨x0,y0,x10,x11,x12,rfl,h⟩
  cases k with
  | zero => simp [g24_impl_chains.l0] at h
  | succ k =>
   rw [g24_impl_chains.l0] at h
   refine at_ (hn:=hn24) ?_
   rcases ite_ h with ⟨g1,h2⟩ | ⟨g1,h2⟩
   ·obtain ⟨g3,h4⟩:=ip_ h2
    obtain ⟨g5,h6⟩:=ip_ h4
    obtain ⟨⟨b2_1,b2_2⟩,c7,h8⟩:=bd_ h6
    try dsimp only at h8
    refine mid (hn:=hn24) 13 5 [.val (.bool true),.elem (vi (rd x10 x12)),.go,.callH [26,1000000,1000001,700010,28] (vb b2_1) [(26,.box (.fn 25 [.loc 1000000 0,.loc 1000001 0])),(1000000,.box (.sl (iS39 l1))),(43,.ow false 29 (iL (iI .i64) b2_2)),(1000001,.box (.row 43)),(28,.box (.fn 43 [.loc 26 0,.loc 28 0]))]] (And.intro (int_lss (P:=Try.prog) (t:=3) (k:=.i64) (x:=(.tmp 12)) (y:=(.tmp 11)) (a:=x12) (b:=x11) (v:=true) (decide_eq_true g1)) (And.intro (iI_rd (k:=.i64) (xs:=x10) (i:=x12) g3 g5) (CallH.ren [(500102,43),(1000000,26),(1000001,1000000),(1000002,1000001),(1000003,700010),(1000004,28)] rfl rfl (ad_43 c7)))) (by kernel_rfl) ?_
    rcases ite_ h8 with ⟨g9,h10⟩ | ⟨g9,h10⟩
    ·subst g9
     exact leafBack (hn:=hn24) 7 [.val (.int .i64 (wrap64 (x12 + 1)))] [(700010,43)] (q24_l0_mk l1 h10) (Nat.lt_succ_self k) (int_add (P:=Try.prog) (t:=3) (k:=.i64) (x:=(.tmp 12)) (y:=(.const (.int .i64 1))) (a:=x12) (b:=1) (c:=(wrap64 (x12 + 1))) (IntWalk.i64_left _)) (by kernel_rfl)
    ·obtain rfl:=Bool.eq_false_iff.2 g9
     obtain rfl:=Option.some.inj h10
     exact leafRet (hn:=hn24) 12 [] [(500101,43)] .ret (.inr rfl) (by kernel_rfl) True.intro (by kernel_rfl)
   ·obtain rfl:=Option.some.inj h2
    exact leafRet (hn:=hn24) 14 [.val (.bool false)] [(500101,700010)] .ret (.inr rfl) (by kernel_rfl) (int_lss (P:=Try.prog) (t:=3) (k:=.i64) (x:=(.tmp 12)) (y:=(.tmp 11)) (a:=x12) (b:=x11) (v:=false) (decide_eq_false g1)) (by kernel_rfl))
theorem ad_24 {k:Nat} {l0:List (S39)} {l1:List (S39)} {l2:List (List Int)} {r1:Bool} {r2:List (List Int)} (h:g24_impl_chains.f k l0 l1 l2 = some (r1,r2)):CallH Try.prog 24 [.sl (iS39 l0),.fn 25 [.loc 1000000 0,.loc 1000001 0]] [(1000000,.box (.sl (iS39 l1))),(1000001,.box (.row 1000002)),(1000002,.ow false 29 (iL (iI .i64) l2))] (vb r1) [(1000000,.box (.sl (iS39 l1))),(500101,.ow false 29 (iL (iI .i64) r2)),(1000001,.box (.row 500101))]:=by
 unfold g24_impl_chains.f at h
 refine call_ok (c:=bodyOf Try.f24) (rs:=o24 (r1,r2) l1) (post:=p24 (r1,r2) l1) Try.func24 rfl rfl rfl (by kernel_rfl) ?_
 show AtP Try.prog 23 (bodyOf Try.f24) (KR Try.prog Try.f24.results.toList (o24 (r1,r2) l1) (p24 (r1,r2) l1)) [] [] (lookA [(0,.sl (iS39 l0)),(1,.fn 25 [.loc 1000000 0,.loc 1000001 0]),(1000000,.box (.sl (iS39 l1))),(1000001,.box (.row 1000002)),(1000002,.ow false 29 (iL (iI .i64) l2))])
 refine at_ (hn:=hn24) ?_
 obtain ⟨b1,c1,h2⟩:=bd_ h
 exact leafAt (hn:=hn24) 14 [.call (.sl (iI .i64 b1)),.val (.int .i64 (b1.length:Int))] [(700010,1000002)] (at24_l0 _ _ (q24_l0_mk l1 h2)) (And.intro (ad_49 c1) (iI_len (k:=.i64) (xs:=b1))) (by kernel_rfl)

def g6_impl_AllChains.f (k:Nat) (l0:List (S39)):Option (List (List Int) × Bool):=(impl_isChained.f k l0).bind fun b1 => (if b1 = true then ((g24_impl_chains.f k l0 l0 ([])).bind fun b2 => (if b2.1 = true then (some (b2.2,true)) else (some (([] : List (List Int)),false)))) else (some (([] : List (List Int)),false)))

def hn6:Hint:=⟨[(1,[17]),(4,[20,28]),(9,[25]),(11,[17,20,25])],[]⟩
def o6 (r:List (List Int) × Bool):List AV:=[.sl (iL (iI .i64) r.1),vb r.2]
def p6 (r:List (List Int) × Bool):List (Nat × AV):=[]
theorem ad_6 {k:Nat} {l0:List (S39)} {r1:List (List Int)} {r2:Bool} (h:g6_impl_AllChains.f k l0 = some (r1,r2)):CallH Try.prog 6 [.sl (iS39 l0)] [] (.tup [.sl (iL (iI .i64) r1),vb r2]) []:=by
 unfold g6_impl_AllChains.f at h
 refine call_ok (c:=bodyOf Try.f6) (rs:=o6 (r1,r2)) (post:=p6 (r1,r2)) Try.func6 rfl rfl rfl (by kernel_rfl) ?_
 show AtP Try.prog 16 (bodyOf Try.f6) (KR Try.prog Try.f6.results.toList (o6 (r1,r2)) (p6 (r1,r2))) [] [] (lookA [(0,.sl (iS39 l0))])
 refine at_ (hn:=hn6) ?_
 obtain ⟨b1,c1,h2⟩:=bd_ h
 refine mid (hn:=hn6) 5 2 [.goT,.call (vb b1)] (ad_23 c1) (by kernel_rfl) ?_
 rcases ite_ h2 with ⟨g3,h4⟩ | ⟨g3,h4⟩
 ·subst g3
  obtain ⟨⟨b2_1,b2_2⟩,c5,h6⟩:=bd_ h4
  try dsimp only at h6
  refine mid (hn:=hn6) 13 1 [.go,.callH [17,20,25] (vb b2_1) [(17,.box (.sl (iS39 l0))),(28,.ow false 29 (iL (iI .i64) b2_2)),(20,.box (.row 28))]] (CallH.ren [(500101,28),(1000000,17),(1000001,20),(1000002,25)] rfl rfl (ad_24 c5)) (by kernel_rfl) ?_
  rcases ite_ h6 with ⟨g7,h8⟩ | ⟨g7,h8⟩
  ·subst g7
   obtain ⟨rfl,rfl⟩:=pr2_ h8
   exact leafRet (hn:=hn6) 9 [] [] .ret (.inr rfl) (by kernel_rfl) True.intro (by kernel_rfl)
  ·obtain rfl:=Bool.eq_false_iff.2 g7
   obtain ⟨rfl,rfl⟩:=pr2_ h8
   exact leafRet (hn:=hn6) 8 [.goT] [] .ret (.inr rfl) (by kernel_rfl) True.intro (by kernel_rfl)
 ·obtain rfl:=Bool.eq_false_iff.2 g3
  obtain ⟨rfl,rfl⟩:=pr2_ h4
  exact leafRet (hn:=hn6) 8 [.goT] [] .ret (.inr rfl) (by kernel_rfl) True.intro (by kernel_rfl)

mutual
def g52_spec_haLook_look.j0:Nat → List (S39) → Int → Int → List Int → List (List Int) → List Int → List Int → List Bool → Option (Int × List Int × List (List Int) × List Int × List Bool)
  | 0,_,_,_,_,_,_,_,_ => none
  | k + 1,l0,a1,y0,y1,y2,y3,x1,x2 => if (x1.length:Int) = (wrap64 ((l0.length:Int) + 1)) then (if (y2.length:Int) ≤ a1 then ((spec_l1Own.f x1).bind fun b2 => (if y2.length < 5864062014805 then (some ((wrap64 (y0 + 1)),y1,(y2 ++ ([b2])),y3,x2)) else (none))) else (some ((wrap64 (y0 + 1)),y1,y2,y3,x2))) else (g52_spec_haLook_look.l0 k l0 a1 y0 y1 y2 y3 x1 x2 0)
def g52_spec_haLook_look.l0:Nat → List (S39) → Int → Int → List Int → List (List Int) → List Int → List Int → List Bool → Int → Option (Int × List Int × List (List Int) × List Int × List Bool)
  | 0,_,_,_,_,_,_,_,_,_ => none
  | k + 1,l0,a1,y0,y1,y2,y3,x1,x2,x6 => if x6 ≤ 9 then (if 0 ≤ (wrap64 ((x1.length:Int) - 1)) then (if (wrap64 ((x1.length:Int) - 1)) < (x1.length:Int) then ((spec_tiOf.f (rd x1 (wrap64 ((x1.length:Int) - 1))) x6).bind fun b3 => ((spec_tiPlace.f k l0 b3.1 b3.2).bind fun b4 => (if b4 < 0 then (g52_spec_haLook_look.l0 k l0 a1 y0 y1 y2 y3 x1 x2 (wrap64 (x6 + 1))) else (if b4 < (x2.length:Int) then (if (rdOf false x2 b4) = true then (g52_spec_haLook_look.l0 k l0 a1 y0 y1 y2 y3 x1 x2 (wrap64 (x6 + 1))) else ((spec_l1Own.f x1).bind fun b5 => (if b5.length < 17592186044416 then ((g52_spec_haLook_look.f k l0 a1 y0 y1 y2 y3 (b5 ++ ([x6])) (x2.set ((b4:Int).toNat) true)).bind fun b6 => (if b4 < (b6.2.2.2.2.length:Int) then (g52_spec_haLook_look.l0 k l0 a1 b6.1 b6.2.1 b6.2.2.1 b6.2.2.2.1 x1 (b6.2.2.2.2.set ((b4:Int).toNat) false) (wrap64 (x6 + 1))) else (none))) else (none)))) else (none))))) else (none)) else (none)) else (some (y0,y1,y2,y3,x2))
def g52_spec_haLook_look.f:Nat → List (S39) → Int → Int → List Int → List (List Int) → List Int → List Int → List Bool → Option (Int × List Int × List (List Int) × List Int × List Bool)
  | 0,_,_,_,_,_,_,_,_ => none
  | k + 1,l0,a1,a2,l3,l4,l5,l6,l7 => if (l6.length:Int) > (l5.length:Int) then ((spec_l1Own.f l6).bind fun b1 => (if (l6.length:Int) > 1 then (if 0 ≤ (wrap64 ((l6.length:Int) - 2)) then (if (wrap64 ((l6.length:Int) - 2)) < (l3.length:Int) then (g52_spec_haLook_look.j0 k l0 a1 a2 (l3.set (((wrap64 ((l6.length:Int) - 2)):Int).toNat) (wrap64 ((rd l3 (wrap64 ((l6.length:Int) - 2))) + 1))) l4 b1 l6 l7) else (none)) else (none)) else (g52_spec_haLook_look.j0 k l0 a1 a2 l3 l4 b1 l6 l7))) else (if (l6.length:Int) > 1 then (if 0 ≤ (wrap64 ((l6.length:Int) - 2)) then (if (wrap64 ((l6.length:Int) - 2)) < (l3.length:Int) then (g52_spec_haLook_look.j0 k l0 a1 a2 (l3.set (((wrap64 ((l6.length:Int) - 2)):Int).toNat) (wrap64 ((rd l3 (wrap64 ((l6.length:Int) - 2))) + 1))) l4 l5 l6 l7) else (none)) else (none)) else (g52_spec_haLook_look.j0 k l0 a1 a2 l3 l4 l5 l6 l7))
end
def grp52 (j:Nat):Prop:=(∀ {l0:List (S39)} {a1:Int} {a2:Int} {l3:List Int} {l4:List (List Int)} {l5:List Int} {l6:List Int} {l7:List Bool} {r1:Int} {r2:List Int} {r3:List (List Int)} {r4:List Int} {r5:List Bool},g52_spec_haLook_look.f j l0 a1 a2 l3 l4 l5 l6 l7 = some (r1,r2,r3,r4,r5) → CallH Try.prog 52 [.loc 1000000 0,.sl (iI .i64 l6),.row 1000003] [(1000000,.box (.agg [.sl (iS39 l0),vi a1,vi a2,.row 1000001,.row 1000002,.sl (iI .i64 l5)])),(1000001,.ow true 3 (iI .i64 l3)),(1000002,.ow false 29 (iL (iI .i64) l4)),(1000003,.ow true 4 (iBo l7))] (.tup []) [(500100,.ow true 3 (iI .i64 r2)),(500101,.ow false 29 (iL (iI .i64) r3)),(1000000,.box (.agg [.sl (iS39 l0),vi a1,vi r1,.row 500100,.row 500101,.sl (iI .i64 r4)])),(1000003,.ow true 4 (iBo r5))])
theorem use_52 {j:Nat} (H:grp52 j) {l0:List (S39)} {a1:Int} {a2:Int} {l3:List Int} {l4:List (List Int)} {l5:List Int} {l6:List Int} {l7:List Bool} {r1:Int} {r2:List Int} {r3:List (List Int)} {r4:List Int} {r5:List Bool} (h:g52_spec_haLook_look.f j l0 a1 a2 l3 l4 l5 l6 l7 = some (r1,r2,r3,r4,r5)):CallH Try.prog 52 [.loc 1000000 0,.sl (iI .i64 l6),.row 1000003] [(1000000,.box (.agg [.sl (iS39 l0),vi a1,vi a2,.row 1000001,.row 1000002,.sl (iI .i64 l5)])),(1000001,.ow true 3 (iI .i64 l3)),(1000002,.ow false 29 (iL (iI .i64) l4)),(1000003,.ow true 4 (iBo l7))] (.tup []) [(500100,.ow true 3 (iI .i64 r2)),(500101,.ow false 29 (iL (iI .i64) r3)),(1000000,.box (.agg [.sl (iS39 l0),vi a1,vi r1,.row 500100,.row 500101,.sl (iI .i64 r4)])),(1000003,.ow true 4 (iBo r5))]:=H h
def hn52:Hint:=⟨[(12,[1000000,1000001,1000002]),(18,[129]),(20,[1000000,1000001,1000002]),(26,[129,1000000,1000001,1000002]),(27,[1000001]),(31,[1000001]),(34,[1000001]),(39,[129,700003,700004,1000000,1000001,1000002]),(46,[129,700003,700004,1000000,1000001,1000002]),(50,[129,700003,700004,1000000,1000001,1000002]),(53,[129,700003,700004,1000000,1000001,1000002]),(54,[700004,1000002]),(58,[129,700003,700004,1000000,1000001,1000002]),(64,[129,700003,700004,1000000,1000001,1000002]),(65,[700004,1000002]),(67,[178]),(68,[179]),(69,[180]),(71,[129,700003,700004,1000000,1000001,1000002]),(78,[129,700003,700004,1000000]),(92,[1000003]),(94,[1000003]),(97,[1000003]),(99,[1000003]),(100,[129,700003,700004,1000000]),(102,[213]),(104,[215]),(105,[216]),(106,[1000003]),(108,[1000003]),(110,[1000003])],[]⟩
def o52 (r:Int × List Int × List (List Int) × List Int × List Bool) (KN:Nat) (l0:List (S39)) (a1:Int):List AV:=[]
def p52 (r:Int × List Int × List (List Int) × List Int × List Bool) (KN:Nat) (l0:List (S39)) (a1:Int):List (Nat × AV):=[(500100,.ow true 3 (iI .i64 r.2.1)),(500101,.ow false 29 (iL (iI .i64) r.2.2.1)),(1000000,.box (.agg [.sl (iS39 l0),vi a1,vi r.1,.row 500100,.row 500101,.sl (iI .i64 r.2.2.2.1)])),(1000003,.ow true 4 (iBo r.2.2.2.2))]
def q52_l0 (r:Int × List Int × List (List Int) × List Int × List Bool) (KN:Nat) (l0:List (S39)) (a1:Int) (k:Nat) (L:List (Nat × AV)):Prop:=k < KN ∧ ∃ (y0:Int) (y1:List Int) (y2:List (List Int)) (y3:List Int) (x1:List Int) (x2:List Bool) (x6:Int),L = [(0,.loc 1000000 0),(1,.sl (iI .i64 x1)),(2,.row 1000003),(6,vi x6),(700003,.ow true 3 (iI .i64 y1)),(700004,.ow false 29 (iL (iI .i64) y2)),(1000000,.box (.agg [.sl (iS39 l0),vi a1,vi y0,.row 700003,.row 700004,.sl (iI .i64 y3)])),(1000003,.ow true 4 (iBo x2))] ∧ g52_spec_haLook_look.l0 k l0 a1 y0 y1 y2 y3 x1 x2 x6 = some r
theorem q52_l0_mk {r:Int × List Int × List (List Int) × List Int × List Bool} (KN:Nat) (l0:List (S39)) (a1:Int) {k:Nat} {y0:Int} {y1:List Int} {y2:List (List Int)} {y3:List Int} {x1:List Int} {x2:List Bool} {x6:Int} (hkR:k < KN) (h:g52_spec_haLook_look.l0 k l0 a1 y0 y1 y2 y3 x1 x2 x6 = some r):q52_l0 r KN l0 a1 k [(0,.loc 1000000 0),(1,.sl (iI .i64 x1)),(2,.row 1000003),(6,vi x6),(700003,.ow true 3 (iI .i64 y1)),(700004,.ow false 29 (iL (iI .i64) y2)),(1000000,.box (.agg [.sl (iS39 l0),vi a1,vi y0,.row 700003,.row 700004,.sl (iI .i64 y3)])),(1000003,.ow true 4 (iBo x2))]:=⟨hkR,y0,y1,y2,y3,x1,x2,x6,rfl,h⟩
theorem at52_l0 {r:Int × List Int × List (List Int) × List Int × List Bool} {KN:Nat} {l0:List (S39)} {a1:Int} (IH:∀ j,j < KN → grp52 j):∀ k L,q52_l0 r KN l0 a1 k L → AtP Try.prog 111 (bodyOf Try.f52) (KR Try.prog Try.f52.results.toList (o52 r KN l0 a1) (p52 r KN l0 a1)) [true,true,true,true,false] [] (lookA L) :=
 at_loop (by kernel_rfl) (fun _ => by kernel_rfl) (q52_l0 r KN l0 a1) (by
  rintro k _ ⟨hkR,y0,y1,y2,y3,x1,x2,x6,rfl,h⟩
  cases k with
  | zero => simp [g52_spec_haLook_look.l0] at h
  | succ k =>
   rw [g52_spec_haLook_look.l0] at h
   have hkR:=Nat.lt_of_succ_lt hkR
   refine at_ (hn:=hn52) ?_
   rcases ite_ h with ⟨g1,h2⟩ | ⟨g1,h2⟩
   ·obtain ⟨g3,h4⟩:=ip_ h2
    obtain ⟨g5,h6⟩:=ip_ h4
    obtain ⟨⟨b3_1,b3_2⟩,c7,h8⟩:=bd_ h6
    try dsimp only at h8
    obtain ⟨b4,c9,h10⟩:=bd_ h8
    refine mid (hn:=hn52) 14 1 [.val (.bool true),.val (.int .i64 (x1.length:Int)),.val (.int .i64 (wrap64 ((x1.length:Int) - 1))),.elem (vi (rd x1 (wrap64 ((x1.length:Int) - 1)))),.call (.agg [vi b3_1,vi b3_2]),.call (vi b4)] (And.intro (int_leq (P:=Try.prog) (t:=3) (k:=.i64) (x:=(.tmp 72)) (y:=(.const (.int .i64 9))) (a:=x6) (b:=9) (v:=true) (decide_eq_true g1)) (And.intro (iI_len (k:=.i64) (xs:=x1)) (And.intro (int_sub (P:=Try.prog) (t:=3) (k:=.i64) (x:=(.tmp 82)) (y:=(.const (.int .i64 1))) (a:=(x1.length:Int)) (b:=1) (c:=(wrap64 ((x1.length:Int) - 1))) (IntWalk.i64_left _)) (And.intro (iI_rd (k:=.i64) (xs:=x1) (i:=(wrap64 ((x1.length:Int) - 1))) g3 g5) (And.intro (ad_60 c7) (ad_61 c9)))))) (by kernel_rfl) ?_
    rcases ite_ h10 with ⟨g11,h12⟩ | ⟨g11,h12⟩
    ·exact leafBack (hn:=hn52) 8 [.val (.bool true),.val (.int .i64 (wrap64 (x6 + 1)))] [] (q52_l0_mk KN l0 a1 hkR h12) (Nat.lt_succ_self k) (And.intro (int_lss (P:=Try.prog) (t:=3) (k:=.i64) (x:=(.tmp 89)) (y:=(.const (.int .i64 0))) (a:=b4) (b:=0) (v:=true) (decide_eq_true g11)) (int_add (P:=Try.prog) (t:=3) (k:=.i64) (x:=(.tmp 74)) (y:=(.const (.int .i64 1))) (a:=x6) (b:=1) (c:=(wrap64 (x6 + 1))) (IntWalk.i64_left _))) (by kernel_rfl)
    ·obtain ⟨g13,h14⟩:=ip_ h12
     refine mid (hn:=hn52) 0 5 [.val (.bool false),.go] (And.intro (int_lss (P:=Try.prog) (t:=3) (k:=.i64) (x:=(.tmp 89)) (y:=(.const (.int .i64 0))) (a:=b4) (b:=0) (v:=false) (decide_eq_false g11)) (iBo_lt (xs:=x2) (i:=b4) (by omega) g13)) (by kernel_rfl) ?_
     rcases ite_ h14 with ⟨g15,h16⟩ | ⟨g15,h16⟩
     ·exact leafBack (hn:=hn52) 8 [.elem (vb true),.val (.int .i64 (wrap64 (x6 + 1)))] [] (q52_l0_mk KN l0 a1 hkR h16) (Nat.lt_succ_self k) (And.intro (And.right (iBo_rdv (xs:=x2) (i:=b4) (by omega) g13 g15)) (int_add (P:=Try.prog) (t:=3) (k:=.i64) (x:=(.tmp 74)) (y:=(.const (.int .i64 1))) (a:=x6) (b:=1) (c:=(wrap64 (x6 + 1))) (IntWalk.i64_left _))) (by kernel_rfl)
     ·obtain ⟨b5,c17,h18⟩:=bd_ h16
      obtain ⟨g19,h20⟩:=ip_ h18
      obtain ⟨⟨b6_1,b6_2,b6_3,b6_4,b6_5⟩,c21,h22⟩:=bd_ h20
      try dsimp only at h22
      obtain ⟨g23,h24⟩:=ip_ h22
      exact leafBack (hn:=hn52) 15 [.elem (vb false),.go,.elem (vb (rdOf false x2 b4)),.elem (.ow true 4 (iBo (x2.set ((b4:Int).toNat) true))),.callH [] (.row 213) [(213,.ow false 3 (iI .i64 b5))],.go,.elem (.ow false 3 (iI .i64 (b5 ++ ([x6])))),.callH [1000000,700003,700004,1000003] (.tup []) [(218,.ow true 3 (iI .i64 b6_2)),(329,.ow false 29 (iL (iI .i64) b6_3)),(1000000,.box (.agg [.sl (iS39 l0),vi a1,vi b6_1,.row 218,.row 329,.sl (iI .i64 b6_4)])),(1000003,.ow true 4 (iBo b6_5))],.go,.elem (vb (rdOf false b6_5 b4)),.elem (.ow true 4 (iBo (b6_5.set ((b4:Int).toNat) false))),.val (.int .i64 (wrap64 (x6 + 1)))] [(700003,218),(700004,329)] (q52_l0_mk KN l0 a1 hkR h24) (Nat.lt_succ_self k) (And.intro (And.right (iBo_rdv (xs:=x2) (i:=b4) (by omega) g13 (Bool.eq_false_iff.2 g15))) (And.intro (And.intro (iBo_lt (xs:=x2) (i:=b4) (by omega) g13) (iBo_set (xs:=x2) (i:=b4) (x:=true) (by omega) g13)) (And.intro (And.intro (CallH.ren [(500000,213)] rfl rfl (ad_63 c17)) (And.intro (iI_app (k:=.i64) (N:=17592186044416) (b:=8) (xs:=b5) (ys:=[x6]) (by decide) (Nat.succ_le_of_lt g19)) (CallH.ren [(500100,218),(500101,329),(1000000,1000000),(1000001,700003),(1000002,700004),(1000003,1000003)] rfl rfl (use_52 (IH _ hkR) c21)))) (And.intro (And.intro (iBo_lt (xs:=b6_5) (i:=b4) (by omega) g23) (iBo_set (xs:=b6_5) (i:=b4) (x:=false) (by omega) g23)) (int_add (P:=Try.prog) (t:=3) (k:=.i64) (x:=(.tmp 74)) (y:=(.const (.int .i64 1))) (a:=x6) (b:=1) (c:=(wrap64 (x6 + 1))) (IntWalk.i64_left _)))))) (by kernel_rfl)
   ·obtain rfl:=Option.some.inj h2
    exact leafRet (hn:=hn52) 9 [.val (.bool false)] [(500100,700003),(500101,700004)] .normal (.inl rfl) (by kernel_rfl) (int_leq (P:=Try.prog) (t:=3) (k:=.i64) (x:=(.tmp 72)) (y:=(.const (.int .i64 9))) (a:=x6) (b:=9) (v:=false) (decide_eq_false g1)) (by kernel_rfl))
theorem at52_j0 {r:Int × List Int × List (List Int) × List Int × List Bool} {KN:Nat} {l0:List (S39)} {a1:Int} (IH:∀ j,j < KN → grp52 j) {k:Nat} {y0:Int} {y1:List Int} {y2:List (List Int)} {y3:List Int} {x1:List Int} {x2:List Bool} (hkR:k < KN) (h:g52_spec_haLook_look.j0 k l0 a1 y0 y1 y2 y3 x1 x2 = some r):AtP Try.prog 111 (bodyOf Try.f52) (KR Try.prog Try.f52.results.toList (o52 r KN l0 a1) (p52 r KN l0 a1)) [true,true] [] (lookA [(0,.loc 1000000 0),(1,.sl (iI .i64 x1)),(2,.row 1000003),(700003,.ow true 3 (iI .i64 y1)),(700004,.ow false 29 (iL (iI .i64) y2)),(1000000,.box (.agg [.sl (iS39 l0),vi a1,vi y0,.row 700003,.row 700004,.sl (iI .i64 y3)])),(1000003,.ow true 4 (iBo x2))]):=by
 cases k with
 | zero => simp [g52_spec_haLook_look.j0] at h
 | succ k =>
  rw [g52_spec_haLook_look.j0] at h
  have hkR:=Nat.lt_of_succ_lt hkR
  refine at_ (hn:=hn52) ?_
  refine mid (hn:=hn52) 2 8 [.val (.int .i64 (x1.length:Int)),.val (.int .i64 (l0.length:Int)),.val (.int .i64 (wrap64 ((l0.length:Int) + 1)))] (And.intro (iI_len (k:=.i64) (xs:=x1)) (And.intro (iS39_len (xs:=l0)) (int_add (P:=Try.prog) (t:=3) (k:=.i64) (x:=(.tmp 41)) (y:=(.const (.int .i64 1))) (a:=(l0.length:Int)) (b:=1) (c:=(wrap64 ((l0.length:Int) + 1))) (IntWalk.i64_left _)))) (by kernel_rfl) ?_
  rcases ite_ h with ⟨g1,h2⟩ | ⟨g1,h2⟩
  ·refine mid (hn:=hn52) 8 9 [.val (.bool true),.val (.int .i64 (wrap64 (y0 + 1))),.val (.int .i64 (y2.length:Int))] (And.intro (int_eql (P:=Try.prog) (t:=3) (k:=.i64) (x:=(.tmp 36)) (y:=(.tmp 42)) (a:=(x1.length:Int)) (b:=(wrap64 ((l0.length:Int) + 1))) (v:=true) (beq_iff_eq.2 g1)) (And.intro (int_add (P:=Try.prog) (t:=3) (k:=.i64) (x:=(.tmp 47)) (y:=(.const (.int .i64 1))) (a:=y0) (b:=1) (c:=(wrap64 (y0 + 1))) (IntWalk.i64_left _)) (iL_len (f:=(iI .i64)) (xs:=y2)))) (by kernel_rfl) ?_
   rcases ite_ h2 with ⟨g3,h4⟩ | ⟨g3,h4⟩
   ·obtain ⟨b2,c5,h6⟩:=bd_ h4
    obtain ⟨g7,h8⟩:=ip_ h6
    obtain rfl:=Option.some.inj h8
    exact leafRet (hn:=hn52) 7 [.val (.bool true),.callH [] (.row 178) [(178,.ow false 3 (iI .i64 b2))],.go,.elem (.ow false 29 (iL (iI .i64) (y2 ++ ([b2]))))] [(500100,700003),(500101,180)] .ret (.inr rfl) (by kernel_rfl) (And.intro (int_leq (P:=Try.prog) (t:=3) (k:=.i64) (x:=(.tmp 55)) (y:=(.tmp 59)) (a:=(y2.length:Int)) (b:=a1) (v:=true) (decide_eq_true g3)) (And.intro (CallH.ren [(500000,178)] rfl rfl (ad_63 c5)) (iL_app (f:=(iI .i64)) (N:=5864062014805) (b:=24) (xs:=y2) (ys:=[b2]) (by decide) (Nat.succ_le_of_lt g7)))) (by kernel_rfl)
   ·obtain rfl:=Option.some.inj h4
    exact leafRet (hn:=hn52) 7 [.val (.bool false)] [(500100,700003),(500101,700004)] .ret (.inr rfl) (by kernel_rfl) (int_leq (P:=Try.prog) (t:=3) (k:=.i64) (x:=(.tmp 55)) (y:=(.tmp 59)) (a:=(y2.length:Int)) (b:=a1) (v:=false) (decide_eq_false g3)) (by kernel_rfl)
  ·exact leafAt (hn:=hn52) 9 [.val (.bool false)] [] (at52_l0 IH _ _ (q52_l0_mk KN l0 a1 hkR h2)) (int_eql (P:=Try.prog) (t:=3) (k:=.i64) (x:=(.tmp 36)) (y:=(.tmp 42)) (a:=(x1.length:Int)) (b:=(wrap64 ((l0.length:Int) + 1))) (v:=false) (beq_false_of_ne g1)) (by kernel_rfl)
theorem adR_52 {KN:Nat} (IH:∀ j,j < KN → grp52 j) {l0:List (S39)} {a1:Int} {a2:Int} {l3:List Int} {l4:List (List Int)} {l5:List Int} {l6:List Int} {l7:List Bool} {r1:Int} {r2:List Int} {r3:List (List Int)} {r4:List Int} {r5:List Bool} (h:g52_spec_haLook_look.f KN l0 a1 a2 l3 l4 l5 l6 l7 = some (r1,r2,r3,r4,r5)):CallH Try.prog 52 [.loc 1000000 0,.sl (iI .i64 l6),.row 1000003] [(1000000,.box (.agg [.sl (iS39 l0),vi a1,vi a2,.row 1000001,.row 1000002,.sl (iI .i64 l5)])),(1000001,.ow true 3 (iI .i64 l3)),(1000002,.ow false 29 (iL (iI .i64) l4)),(1000003,.ow true 4 (iBo l7))] (.tup []) [(500100,.ow true 3 (iI .i64 r2)),(500101,.ow false 29 (iL (iI .i64) r3)),(1000000,.box (.agg [.sl (iS39 l0),vi a1,vi r1,.row 500100,.row 500101,.sl (iI .i64 r4)])),(1000003,.ow true 4 (iBo r5))]:=by
 obtain ⟨k,hK⟩ : ∃ k,KN = k + 1:=by
  cases KN with
  | zero => simp [g52_spec_haLook_look.f] at h
  | succ k => exact ⟨k,rfl⟩
 rw [hK,g52_spec_haLook_look.f] at h
 have hkR:k < KN:=by omega
 refine call_ok (c:=bodyOf Try.f52) (rs:=o52 (r1,r2,r3,r4,r5) KN l0 a1) (post:=p52 (r1,r2,r3,r4,r5) KN l0 a1) Try.func52 rfl rfl rfl (by kernel_rfl) ?_
 show AtP Try.prog 111 (bodyOf Try.f52) (KR Try.prog Try.f52.results.toList (o52 (r1,r2,r3,r4,r5) KN l0 a1) (p52 (r1,r2,r3,r4,r5) KN l0 a1)) [] [] (lookA [(0,.loc 1000000 0),(1,.sl (iI .i64 l6)),(2,.row 1000003),(1000000,.box (.agg [.sl (iS39 l0),vi a1,vi a2,.row 1000001,.row 1000002,.sl (iI .i64 l5)])),(1000001,.ow true 3 (iI .i64 l3)),(1000002,.ow false 29 (iL (iI .i64) l4)),(1000003,.ow true 4 (iBo l7))])
 refine at_ (hn:=hn52) ?_
 refine mid (hn:=hn52) 2 7 [.val (.int .i64 (l6.length:Int)),.val (.int .i64 (l5.length:Int))] (And.intro (iI_len (k:=.i64) (xs:=l6)) (iI_len (k:=.i64) (xs:=l5))) (by kernel_rfl) ?_
 rcases ite_ h with ⟨g1,h2⟩ | ⟨g1,h2⟩
 ·obtain ⟨b1,c3,h4⟩:=bd_ h2
  refine mid (hn:=hn52) 7 2 [.val (.bool true),.callH [] (.row 129) [(129,.ow false 3 (iI .i64 b1))],.val (.int .i64 (l6.length:Int))] (And.intro (int_gtr (P:=Try.prog) (t:=3) (k:=.i64) (x:=(.tmp 9)) (y:=(.tmp 14)) (a:=(l6.length:Int)) (b:=(l5.length:Int)) (v:=true) (decide_eq_true g1)) (And.intro (CallH.ren [(500000,129)] rfl rfl (ad_63 c3)) (iI_len (k:=.i64) (xs:=l6)))) (by kernel_rfl) ?_
  rcases ite_ h4 with ⟨g5,h6⟩ | ⟨g5,h6⟩
  ·obtain ⟨g7,h8⟩:=ip_ h6
   obtain ⟨g9,h10⟩:=ip_ h8
   exact leafAt (hn:=hn52) 5 [.val (.bool true),.val (.int .i64 (l6.length:Int)),.val (.int .i64 (wrap64 ((l6.length:Int) - 2))),.go,.elem (vi (rd l3 (wrap64 ((l6.length:Int) - 2)))),.val (.int .i64 (wrap64 ((rd l3 (wrap64 ((l6.length:Int) - 2))) + 1))),.go,.elem (vi (rd l3 (wrap64 ((l6.length:Int) - 2)))),.elem (.ow true 3 (iI .i64 (l3.set (((wrap64 ((l6.length:Int) - 2)):Int).toNat) (wrap64 ((rd l3 (wrap64 ((l6.length:Int) - 2))) + 1))))),.vc 1000000 5] [(700003,1000001),(700004,1000002)] (at52_j0 IH hkR h10) (And.intro (int_gtr (P:=Try.prog) (t:=3) (k:=.i64) (x:=(.tmp 22)) (y:=(.const (.int .i64 1))) (a:=(l6.length:Int)) (b:=1) (v:=true) (decide_eq_true g5)) (And.intro (iI_len (k:=.i64) (xs:=l6)) (And.intro (int_sub (P:=Try.prog) (t:=3) (k:=.i64) (x:=(.tmp 29)) (y:=(.const (.int .i64 2))) (a:=(l6.length:Int)) (b:=2) (c:=(wrap64 ((l6.length:Int) - 2))) (IntWalk.i64_left _)) (And.intro (iI_lt (k:=.i64) (xs:=l3) (i:=(wrap64 ((l6.length:Int) - 2))) g7 g9) (And.intro (And.right (iI_rd (k:=.i64) (xs:=l3) (i:=(wrap64 ((l6.length:Int) - 2))) g7 g9)) (And.intro (int_add (P:=Try.prog) (t:=3) (k:=.i64) (x:=(.tmp 32)) (y:=(.const (.int .i64 1))) (a:=(rd l3 (wrap64 ((l6.length:Int) - 2)))) (b:=1) (c:=(wrap64 ((rd l3 (wrap64 ((l6.length:Int) - 2))) + 1))) (IntWalk.i64_left _)) (And.intro (iI_lt (k:=.i64) (xs:=l3) (i:=(wrap64 ((l6.length:Int) - 2))) g7 g9) (iI_set (k:=.i64) (xs:=l3) (i:=(wrap64 ((l6.length:Int) - 2))) (x:=(wrap64 ((rd l3 (wrap64 ((l6.length:Int) - 2))) + 1))) g7 g9)))))))) (by kernel_rfl)
  ·exact leafAt (hn:=hn52) 5 [.val (.bool false),.vc 1000000 5] [(700003,1000001),(700004,1000002)] (at52_j0 IH hkR h6) (int_gtr (P:=Try.prog) (t:=3) (k:=.i64) (x:=(.tmp 22)) (y:=(.const (.int .i64 1))) (a:=(l6.length:Int)) (b:=1) (v:=false) (decide_eq_false g5)) (by kernel_rfl)
 ·refine mid (hn:=hn52) 7 2 [.val (.bool false),.val (.int .i64 (l6.length:Int))] (And.intro (int_gtr (P:=Try.prog) (t:=3) (k:=.i64) (x:=(.tmp 9)) (y:=(.tmp 14)) (a:=(l6.length:Int)) (b:=(l5.length:Int)) (v:=false) (decide_eq_false g1)) (iI_len (k:=.i64) (xs:=l6))) (by kernel_rfl) ?_
  rcases ite_ h2 with ⟨g11,h12⟩ | ⟨g11,h12⟩
  ·obtain ⟨g13,h14⟩:=ip_ h12
   obtain ⟨g15,h16⟩:=ip_ h14
   exact leafAt (hn:=hn52) 5 [.val (.bool true),.val (.int .i64 (l6.length:Int)),.val (.int .i64 (wrap64 ((l6.length:Int) - 2))),.go,.elem (vi (rd l3 (wrap64 ((l6.length:Int) - 2)))),.val (.int .i64 (wrap64 ((rd l3 (wrap64 ((l6.length:Int) - 2))) + 1))),.go,.elem (vi (rd l3 (wrap64 ((l6.length:Int) - 2)))),.elem (.ow true 3 (iI .i64 (l3.set (((wrap64 ((l6.length:Int) - 2)):Int).toNat) (wrap64 ((rd l3 (wrap64 ((l6.length:Int) - 2))) + 1)))))] [(700003,1000001),(700004,1000002)] (at52_j0 IH hkR h16) (And.intro (int_gtr (P:=Try.prog) (t:=3) (k:=.i64) (x:=(.tmp 22)) (y:=(.const (.int .i64 1))) (a:=(l6.length:Int)) (b:=1) (v:=true) (decide_eq_true g11)) (And.intro (iI_len (k:=.i64) (xs:=l6)) (And.intro (int_sub (P:=Try.prog) (t:=3) (k:=.i64) (x:=(.tmp 29)) (y:=(.const (.int .i64 2))) (a:=(l6.length:Int)) (b:=2) (c:=(wrap64 ((l6.length:Int) - 2))) (IntWalk.i64_left _)) (And.intro (iI_lt (k:=.i64) (xs:=l3) (i:=(wrap64 ((l6.length:Int) - 2))) g13 g15) (And.intro (And.right (iI_rd (k:=.i64) (xs:=l3) (i:=(wrap64 ((l6.length:Int) - 2))) g13 g15)) (And.intro (int_add (P:=Try.prog) (t:=3) (k:=.i64) (x:=(.tmp 32)) (y:=(.const (.int .i64 1))) (a:=(rd l3 (wrap64 ((l6.length:Int) - 2)))) (b:=1) (c:=(wrap64 ((rd l3 (wrap64 ((l6.length:Int) - 2))) + 1))) (IntWalk.i64_left _)) (And.intro (iI_lt (k:=.i64) (xs:=l3) (i:=(wrap64 ((l6.length:Int) - 2))) g13 g15) (iI_set (k:=.i64) (xs:=l3) (i:=(wrap64 ((l6.length:Int) - 2))) (x:=(wrap64 ((rd l3 (wrap64 ((l6.length:Int) - 2))) + 1))) g13 g15)))))))) (by kernel_rfl)
  ·exact leafAt (hn:=hn52) 5 [.val (.bool false)] [(700003,1000001),(700004,1000002)] (at52_j0 IH hkR h12) (int_gtr (P:=Try.prog) (t:=3) (k:=.i64) (x:=(.tmp 22)) (y:=(.const (.int .i64 1))) (a:=(l6.length:Int)) (b:=1) (v:=false) (decide_eq_false g11)) (by kernel_rfl)
theorem all52 (k:Nat):grp52 k:=Nat.strongRecOn (motive:=grp52) k fun KN IH => (show grp52 KN from fun h => adR_52 IH h)
theorem ad_52 {k:Nat} {l0:List (S39)} {a1:Int} {a2:Int} {l3:List Int} {l4:List (List Int)} {l5:List Int} {l6:List Int} {l7:List Bool} {r1:Int} {r2:List Int} {r3:List (List Int)} {r4:List Int} {r5:List Bool} (h:g52_spec_haLook_look.f k l0 a1 a2 l3 l4 l5 l6 l7 = some (r1,r2,r3,r4,r5)):CallH Try.prog 52 [.loc 1000000 0,.sl (iI .i64 l6),.row 1000003] [(1000000,.box (.agg [.sl (iS39 l0),vi a1,vi a2,.row 1000001,.row 1000002,.sl (iI .i64 l5)])),(1000001,.ow true 3 (iI .i64 l3)),(1000002,.ow false 29 (iL (iI .i64) l4)),(1000003,.ow true 4 (iBo l7))] (.tup []) [(500100,.ow true 3 (iI .i64 r2)),(500101,.ow false 29 (iL (iI .i64) r3)),(1000000,.box (.agg [.sl (iS39 l0),vi a1,vi r1,.row 500100,.row 500101,.sl (iI .i64 r4)])),(1000003,.ow true 4 (iBo r5))]:=use_52 (all52 k) h

mutual
def g27_spec_haAll.l0:Nat → List (S39) → List (S39) → Int → Int → List Int → List (List Int) → List Int → Int → Option (List (S39) × Int × Int × List Int × List (List Int) × List Int)
  | 0,_,_,_,_,_,_,_,_ => none
  | k + 1,x0,y0,y1,y2,y3,y4,y5,x6 => if x6 ≤ 9 then (if (x0.length:Int) > 0 then ((spec_tiTimes.f k x0 x6).bind fun b1 => (if b1 > 0 then (if (x0.length:Int) ≤ 140737488355328 then ((g52_spec_haLook_look.f k y0 y1 y2 y3 y4 y5 ([x6]) (List.replicate ((x0.length:Int):Int).toNat false)).bind fun b2 => (g27_spec_haAll.l0 k x0 y0 y1 b2.1 b2.2.1 b2.2.2.1 b2.2.2.2.1 (wrap64 (x6 + 1)))) else (none)) else (g27_spec_haAll.l0 k x0 y0 y1 y2 y3 y4 y5 (wrap64 (x6 + 1))))) else (g27_spec_haAll.l0 k x0 y0 y1 y2 y3 y4 y5 (wrap64 (x6 + 1)))) else (some (y0,y1,y2,y3,y4,y5))
end
def g27_spec_haAll.f (k:Nat) (l0:List (S39)) (a1:Int):Option (List (S39) × Int × Int × List Int × List (List Int) × List Int):=if (l0.length:Int) ≤ 17592186044416 then (g27_spec_haAll.l0 k l0 l0 a1 0 (List.replicate ((l0.length:Int):Int).toNat 0) ([] : List (List Int)) ([] : List Int) 0) else (none)

def hn27:Hint:=⟨[(27,[46,48,804804,804805]),(29,[64]),(32,[67])],[]⟩
def o27 (r:List (S39) × Int × Int × List Int × List (List Int) × List Int):List AV:=[.ptr (.agg [.sl (iS39 r.1),vi r.2.1,vi r.2.2.1,.sl (iI .i64 r.2.2.2.1),.sl (iL (iI .i64) r.2.2.2.2.1),.sl (iI .i64 r.2.2.2.2.2)])]
def p27 (r:List (S39) × Int × Int × List Int × List (List Int) × List Int):List (Nat × AV):=[]
def q27_l0 (r:List (S39) × Int × Int × List Int × List (List Int) × List Int) (k:Nat) (L:List (Nat × AV)):Prop:=∃ (x0:List (S39)) (y0:List (S39)) (y1:Int) (y2:Int) (y3:List Int) (y4:List (List Int)) (y5:List Int) (x6:Int),L = [(0,.sl (iS39 x0)),(5,.loc 48 0),(6,vi x6),(46,.ow true 3 (iI .i64 y3)),(48,.box (.agg [.sl (iS39 y0),vi y1,vi y2,.row 46,.row 804804,.sl (iI .i64 y5)])),(804804,.ow false 29 (iL (iI .i64) y4))] ∧ g27_spec_haAll.l0 k x0 y0 y1 y2 y3 y4 y5 x6 = some r
theorem q27_l0_mk {r:List (S39) × Int × Int × List Int × List (List Int) × List Int} {k:Nat} {x0:List (S39)} {y0:List (S39)} {y1:Int} {y2:Int} {y3:List Int} {y4:List (List Int)} {y5:List Int} {x6:Int} (h:g27_spec_haAll.l0 k x0 y0 y1 y2 y3 y4 y5 x6 = some r):q27_l0 r k [(0,.sl (iS39 x0)),(5,.loc 48 0),(6,vi x6),(46,.ow true 3 (iI .i64 y3)),(48,.box (.agg [.sl (iS39 y0),vi y1,vi y2,.row 46,.row 804804,.sl (iI .i64 y5)])),(804804,.ow false 29 (iL (iI .i64) y4))]:=⟨x0,y0,y1,y2,y3,y4,y5,x6,rfl,h⟩
theorem at27_l0 {r:List (S39) × Int × Int × List Int × List (List Int) × List Int}:∀ k L,q27_l0 r k L → AtP Try.prog 35 (bodyOf Try.f27) (KR Try.prog Try.f27.results.toList (o27 r) (p27 r)) [true,true,false,true,false] [] (lookA L) :=
 at_loop (by kernel_rfl) (fun _ => by kernel_rfl) (q27_l0 r) (by
  rintro k _ ⟨x0,y0,y1,y2,y3,y4,y5,x6,rfl,h⟩
  cases k with
  | zero => simp [g27_spec_haAll.l0] at h
  | succ k =>
   rw [g27_spec_haAll.l0] at h
   refine at_ (hn:=hn27) ?_
   rcases ite_ h with ⟨g1,h2⟩ | ⟨g1,h2⟩
   ·refine mid (hn:=hn27) 10 2 [.val (.bool true),.val (.int .i64 (x0.length:Int))] (And.intro (int_leq (P:=Try.prog) (t:=3) (k:=.i64) (x:=(.tmp 14)) (y:=(.const (.int .i64 9))) (a:=x6) (b:=9) (v:=true) (decide_eq_true g1)) (iS39_len (xs:=x0))) (by kernel_rfl) ?_
    rcases ite_ h2 with ⟨g3,h4⟩ | ⟨g3,h4⟩
    ·obtain ⟨b1,c5,h6⟩:=bd_ h4
     refine mid (hn:=hn27) 0 5 [.val (.bool true),.call (vi b1)] (And.intro (int_gtr (P:=Try.prog) (t:=3) (k:=.i64) (x:=(.tmp 19)) (y:=(.const (.int .i64 0))) (a:=(x0.length:Int)) (b:=0) (v:=true) (decide_eq_true g3)) (ad_51 c5)) (by kernel_rfl) ?_
     rcases ite_ h6 with ⟨g7,h8⟩ | ⟨g7,h8⟩
     ·obtain ⟨g9,h10⟩:=ip_ h8
      obtain ⟨⟨b2_1,b2_2,b2_3,b2_4,b2_5⟩,c11,h12⟩:=bd_ h10
      try dsimp only at h12
      exact leafBack (hn:=hn27) 7 [.val (.bool true),.go,.val (.int .i64 (x0.length:Int)),.elem (.ow true 4 (iBo (List.replicate ((x0.length:Int):Int).toNat false))),.callH [48,46,804804,67] (.tup []) [(68,.ow true 3 (iI .i64 b2_2)),(103,.ow false 29 (iL (iI .i64) b2_3)),(48,.box (.agg [.sl (iS39 y0),vi y1,vi b2_1,.row 68,.row 103,.sl (iI .i64 b2_4)])),(67,.ow true 4 (iBo b2_5))],.val (.int .i64 (wrap64 (x6 + 1)))] [(46,68),(804804,103)] (q27_l0_mk h12) (Nat.lt_succ_self k) (And.intro (int_gtr (P:=Try.prog) (t:=3) (k:=.i64) (x:=(.tmp 24)) (y:=(.const (.int .i64 0))) (a:=b1) (b:=0) (v:=true) (decide_eq_true g7)) (And.intro (And.intro (iS39_len (xs:=x0)) (And.intro (And.intro (show 0 ≤ (x0.length:Int) from Int.natCast_nonneg _) (And.intro (rfl:(x0.length:Int) = (x0.length:Int)) (And.intro (show (x0.length:Int) * 1 ≤ 140737488355328 by have h_:=g9; omega) (show (iBo (List.replicate ((x0.length:Int):Int).toNat false)) = List.replicate ((x0.length:Int):Int).toNat (vb false) from List.map_replicate)))) (CallH.ren [(500100,68),(500101,103),(1000000,48),(1000001,46),(1000002,804804),(1000003,67)] rfl rfl (ad_52 c11)))) (int_add (P:=Try.prog) (t:=3) (k:=.i64) (x:=(.tmp 16)) (y:=(.const (.int .i64 1))) (a:=x6) (b:=1) (c:=(wrap64 (x6 + 1))) (IntWalk.i64_left _)))) (by kernel_rfl)
     ·exact leafBack (hn:=hn27) 7 [.val (.bool false),.val (.int .i64 (wrap64 (x6 + 1)))] [] (q27_l0_mk h8) (Nat.lt_succ_self k) (And.intro (int_gtr (P:=Try.prog) (t:=3) (k:=.i64) (x:=(.tmp 24)) (y:=(.const (.int .i64 0))) (a:=b1) (b:=0) (v:=false) (decide_eq_false g7)) (int_add (P:=Try.prog) (t:=3) (k:=.i64) (x:=(.tmp 16)) (y:=(.const (.int .i64 1))) (a:=x6) (b:=1) (c:=(wrap64 (x6 + 1))) (IntWalk.i64_left _))) (by kernel_rfl)
    ·exact leafBack (hn:=hn27) 7 [.val (.bool false),.val (.int .i64 (wrap64 (x6 + 1)))] [] (q27_l0_mk h4) (Nat.lt_succ_self k) (And.intro (int_gtr (P:=Try.prog) (t:=3) (k:=.i64) (x:=(.tmp 19)) (y:=(.const (.int .i64 0))) (a:=(x0.length:Int)) (b:=0) (v:=false) (decide_eq_false g3)) (int_add (P:=Try.prog) (t:=3) (k:=.i64) (x:=(.tmp 16)) (y:=(.const (.int .i64 1))) (a:=x6) (b:=1) (c:=(wrap64 (x6 + 1))) (IntWalk.i64_left _))) (by kernel_rfl)
   ·obtain rfl:=Option.some.inj h2
    exact leafRet (hn:=hn27) 14 [.val (.bool false),.fz 46,.vc 48 3,.vc 48 4,.fz 48] [] .ret (.inr rfl) (by kernel_rfl) (int_leq (P:=Try.prog) (t:=3) (k:=.i64) (x:=(.tmp 14)) (y:=(.const (.int .i64 9))) (a:=x6) (b:=9) (v:=false) (decide_eq_false g1)) (by kernel_rfl))
theorem ad_27 {k:Nat} {l0:List (S39)} {a1:Int} {r1:List (S39)} {r2:Int} {r3:Int} {r4:List Int} {r5:List (List Int)} {r6:List Int} (h:g27_spec_haAll.f k l0 a1 = some (r1,r2,r3,r4,r5,r6)):CallH Try.prog 27 [.sl (iS39 l0),vi a1] [] (.ptr (.agg [.sl (iS39 r1),vi r2,vi r3,.sl (iI .i64 r4),.sl (iL (iI .i64) r5),.sl (iI .i64 r6)])) []:=by
 unfold g27_spec_haAll.f at h
 refine call_ok (c:=bodyOf Try.f27) (rs:=o27 (r1,r2,r3,r4,r5,r6)) (post:=p27 (r1,r2,r3,r4,r5,r6)) Try.func27 rfl rfl rfl (by kernel_rfl) ?_
 show AtP Try.prog 35 (bodyOf Try.f27) (KR Try.prog Try.f27.results.toList (o27 (r1,r2,r3,r4,r5,r6)) (p27 (r1,r2,r3,r4,r5,r6))) [] [] (lookA [(0,.sl (iS39 l0)),(1,vi a1)])
 refine at_ (hn:=hn27) ?_
 obtain ⟨g1,h2⟩:=ip_ h
 exact leafAt (hn:=hn27) 11 [.val (.int .i64 (l0.length:Int)),.elem (.ow true 3 (iI .i64 (List.replicate ((l0.length:Int):Int).toNat 0))),.go,.nl 48 4 false 29 804804,.vc 48 5] [] (at27_l0 _ _ (q27_l0_mk h2)) (And.intro (iS39_len (xs:=l0)) (And.intro (show 0 ≤ (l0.length:Int) from Int.natCast_nonneg _) (And.intro (rfl:(l0.length:Int) = (l0.length:Int)) (And.intro (show (l0.length:Int) * 8 ≤ 140737488355328 by have h_:=g1; omega) (show (iI .i64 (List.replicate ((l0.length:Int):Int).toNat 0)) = List.replicate ((l0.length:Int):Int).toNat (vi 0) from List.map_replicate))))) (by kernel_rfl)

def g7_spec_AllChains.f (k:Nat) (l0:List (S39)):Option (List (List Int) × Bool):=(spec_haSmall.f k l0).bind fun b1 => (if b1 = true then ((g27_spec_haAll.f k l0 300).bind fun b2 => (if b2.2.2.1 > 300 then (some ([],false)) else (some (b2.2.2.2.2.1,true)))) else (some (([] : List (List Int)),false)))

def hn7:Hint:=⟨[],[]⟩
def o7 (r:List (List Int) × Bool):List AV:=[.sl (iL (iI .i64) r.1),vb r.2]
def p7 (r:List (List Int) × Bool):List (Nat × AV):=[]
theorem ad_7 {k:Nat} {l0:List (S39)} {r1:List (List Int)} {r2:Bool} (h:g7_spec_AllChains.f k l0 = some (r1,r2)):CallH Try.prog 7 [.sl (iS39 l0)] [] (.tup [.sl (iL (iI .i64) r1),vb r2]) []:=by
 unfold g7_spec_AllChains.f at h
 refine call_ok (c:=bodyOf Try.f7) (rs:=o7 (r1,r2)) (post:=p7 (r1,r2)) Try.func7 rfl rfl rfl (by kernel_rfl) ?_
 show AtP Try.prog 19 (bodyOf Try.f7) (KR Try.prog Try.f7.results.toList (o7 (r1,r2)) (p7 (r1,r2))) [] [] (lookA [(0,.sl (iS39 l0))])
 refine at_ (hn:=hn7) ?_
 obtain ⟨b1,c1,h2⟩:=bd_ h
 refine mid (hn:=hn7) 5 2 [.goT,.call (vb b1)] (ad_26 c1) (by kernel_rfl) ?_
 rcases ite_ h2 with ⟨g3,h4⟩ | ⟨g3,h4⟩
 ·subst g3
  obtain ⟨⟨b2_1,b2_2,b2_3,b2_4,b2_5,b2_6⟩,c5,h6⟩:=bd_ h4
  try dsimp only at h6
  refine mid (hn:=hn7) 10 4 [.call (.ptr (.agg [.sl (iS39 b2_1),vi b2_2,vi b2_3,.sl (iI .i64 b2_4),.sl (iL (iI .i64) b2_5),.sl (iI .i64 b2_6)]))] (ad_27 c5) (by kernel_rfl) ?_
  rcases ite_ h6 with ⟨g7,h8⟩ | ⟨g7,h8⟩
  ·obtain ⟨rfl,rfl⟩:=pr2_ h8
   exact leafRet (hn:=hn7) 8 [.val (.bool true),.goT] [] .ret (.inr rfl) (by kernel_rfl) (int_gtr (P:=Try.prog) (t:=3) (k:=.i64) (x:=(.tmp 13)) (y:=(.const (.int .i64 300))) (a:=b2_3) (b:=300) (v:=true) (decide_eq_true g7)) (by kernel_rfl)
  ·obtain ⟨rfl,rfl⟩:=pr2_ h8
   exact leafRet (hn:=hn7) 9 [.val (.bool false)] [] .ret (.inr rfl) (by kernel_rfl) (int_gtr (P:=Try.prog) (t:=3) (k:=.i64) (x:=(.tmp 13)) (y:=(.const (.int .i64 300))) (a:=b2_3) (b:=300) (v:=false) (decide_eq_false g7)) (by kernel_rfl)
 ·obtain rfl:=Bool.eq_false_iff.2 g3
  obtain ⟨rfl,rfl⟩:=pr2_ h4
  exact leafRet (hn:=hn7) 8 [.goT] [] .ret (.inr rfl) (by kernel_rfl) True.intro (by kernel_rfl)

def g28_impl_CountByTiles_1.f (k:Nat) (l0:List Int) (l1:List Int):Option (Bool × List Int):=if 0 ≤ (wrap64 ((l0.length:Int) - 2)) then (if (wrap64 ((l0.length:Int) - 2)) < (l1.length:Int) then (some (true,(l1.set (((wrap64 ((l0.length:Int) - 2)):Int).toNat) (wrap64 ((rd l1 (wrap64 ((l0.length:Int) - 2))) + 1))))) else (none)) else (none)

def hn28:Hint:=⟨[(1,[1000000,1000001]),(4,[1000001]),(8,[1000001]),(11,[1000001])],[]⟩
def o28 (r:Bool × List Int):List AV:=[vb r.1]
def p28 (r:Bool × List Int):List (Nat × AV):=[(500100,.ow true 3 (iI .i64 r.2)),(1000000,.box (.row 500100))]
theorem ad_28 {k:Nat} {l0:List Int} {l1:List Int} {r1:Bool} {r2:List Int} (h:g28_impl_CountByTiles_1.f k l0 l1 = some (r1,r2)):CallH Try.prog 28 [.sl (iI .i64 l0),.loc 1000000 0] [(1000000,.box (.row 1000001)),(1000001,.ow true 3 (iI .i64 l1))] (vb r1) [(500100,.ow true 3 (iI .i64 r2)),(1000000,.box (.row 500100))]:=by
 unfold g28_impl_CountByTiles_1.f at h
 refine call_ok (c:=bodyOf Try.f28) (rs:=o28 (r1,r2)) (post:=p28 (r1,r2)) Try.func28 rfl rfl rfl (by kernel_rfl) ?_
 show AtP Try.prog 12 (bodyOf Try.f28) (KR Try.prog Try.f28.results.toList (o28 (r1,r2)) (p28 (r1,r2))) [] [] (lookA [(0,.sl (iI .i64 l0)),(1,.loc 1000000 0),(1000000,.box (.row 1000001)),(1000001,.ow true 3 (iI .i64 l1))])
 refine at_ (hn:=hn28) ?_
 obtain ⟨g1,h2⟩:=ip_ h
 obtain ⟨g3,h4⟩:=ip_ h2
 obtain ⟨rfl,rfl⟩:=pr2_ h4
 exact leafRet (hn:=hn28) 10 [.val (.int .i64 (l0.length:Int)),.val (.int .i64 (wrap64 ((l0.length:Int) - 2))),.go,.elem (vi (rd l1 (wrap64 ((l0.length:Int) - 2)))),.val (.int .i64 (wrap64 ((rd l1 (wrap64 ((l0.length:Int) - 2))) + 1))),.go,.elem (vi (rd l1 (wrap64 ((l0.length:Int) - 2)))),.elem (.ow true 3 (iI .i64 (l1.set (((wrap64 ((l0.length:Int) - 2)):Int).toNat) (wrap64 ((rd l1 (wrap64 ((l0.length:Int) - 2))) + 1)))))] [(500100,1000001)] .ret (.inr rfl) (by kernel_rfl) (And.intro (iI_len (k:=.i64) (xs:=l0)) (And.intro (int_sub (P:=Try.prog) (t:=3) (k:=.i64) (x:=(.tmp 6)) (y:=(.const (.int .i64 2))) (a:=(l0.length:Int)) (b:=2) (c:=(wrap64 ((l0.length:Int) - 2))) (IntWalk.i64_left _)) (And.intro (iI_lt (k:=.i64) (xs:=l1) (i:=(wrap64 ((l0.length:Int) - 2))) g1 g3) (And.intro (And.right (iI_rd (k:=.i64) (xs:=l1) (i:=(wrap64 ((l0.length:Int) - 2))) g1 g3)) (And.intro (int_add (P:=Try.prog) (t:=3) (k:=.i64) (x:=(.tmp 9)) (y:=(.const (.int .i64 1))) (a:=(rd l1 (wrap64 ((l0.length:Int) - 2)))) (b:=1) (c:=(wrap64 ((rd l1 (wrap64 ((l0.length:Int) - 2))) + 1))) (IntWalk.i64_left _)) (And.intro (iI_lt (k:=.i64) (xs:=l1) (i:=(wrap64 ((l0.length:Int) - 2))) g1 g3) (iI_set (k:=.i64) (xs:=l1) (i:=(wrap64 ((l0.length:Int) - 2))) (x:=(wrap64 ((rd l1 (wrap64 ((l0.length:Int) - 2))) + 1))) g1 g3))))))) (by kernel_rfl)

mutual
def g100043_impl_chains_1_v1.l0:Nat → List Int → List (S39) → List Int → Int → Option (Bool × List Int)
  | 0,_,_,_,_ => none
  | k + 1,x0,x1,y0,x18 => if x18 < 10 then (if 0 ≤ (wrap64 ((x0.length:Int) - 1)) then (if (wrap64 ((x0.length:Int) - 1)) < (x0.length:Int) then ((impl_tile.f (rd x0 (wrap64 ((x0.length:Int) - 1))) x18).bind fun b2 => ((slices_Index_impl_Tile_impl_Tile.f k x1 b2.1 b2.2).bind fun b3 => (if b3 ≥ 0 then ((slices_Clone_int_int.f x0).bind fun b4 => (if b4.length < 17592186044416 then ((slices_Clone_impl_Tile_impl_Tile.f x1).bind fun b5 => ((slices_Delete_impl_Tile.f b5 b3 (wrap64 (b3 + 1))).bind fun b6 => ((g100043_impl_chains_1_v1.f k (b4 ++ ([x18])) b6 y0).bind fun b7 => (if b7.1 = true then (g100043_impl_chains_1_v1.l0 k x0 x1 b7.2 (wrap64 (x18 + 1))) else (some (false,b7.2)))))) else (none))) else (g100043_impl_chains_1_v1.l0 k x0 x1 y0 (wrap64 (x18 + 1)))))) else (none)) else (none)) else (some (true,y0))
def g100043_impl_chains_1_v1.f:Nat → List Int → List (S39) → List Int → Option (Bool × List Int)
  | 0,_,_,_ => none
  | k + 1,l0,l1,l2 => if (l0.length:Int) > 1 then ((g28_impl_CountByTiles_1.f k l0 l2).bind fun b1 => (if b1.1 = true then (g100043_impl_chains_1_v1.l0 k l0 l1 b1.2 0) else (some (false,b1.2)))) else (g100043_impl_chains_1_v1.l0 k l0 l1 l2 0)
end
def grp100043 (j:Nat):Prop:=(∀ {l0:List Int} {l1:List (S39)} {l2:List Int} {r1:Bool} {r2:List Int},g100043_impl_chains_1_v1.f j l0 l1 l2 = some (r1,r2) → CallH Try.prog 43 [.sl (iI .i64 l0),.sl (iS39 l1),.loc 1000000 0,.loc 1000003 0] [(1000000,.box (.fn 28 [.loc 1000001 0])),(1000001,.box (.row 1000002)),(1000002,.ow true 3 (iI .i64 l2)),(1000003,.box (.fn 43 [.loc 1000000 0,.loc 1000003 0]))] (vb r1) [(1000000,.box (.fn 28 [.loc 1000001 0])),(500101,.ow true 3 (iI .i64 r2)),(1000001,.box (.row 500101)),(1000003,.box (.fn 43 [.loc 1000000 0,.loc 1000003 0]))])
theorem use_100043 {j:Nat} (H:grp100043 j) {l0:List Int} {l1:List (S39)} {l2:List Int} {r1:Bool} {r2:List Int} (h:g100043_impl_chains_1_v1.f j l0 l1 l2 = some (r1,r2)):CallH Try.prog 43 [.sl (iI .i64 l0),.sl (iS39 l1),.loc 1000000 0,.loc 1000003 0] [(1000000,.box (.fn 28 [.loc 1000001 0])),(1000001,.box (.row 1000002)),(1000002,.ow true 3 (iI .i64 l2)),(1000003,.box (.fn 43 [.loc 1000000 0,.loc 1000003 0]))] (vb r1) [(1000000,.box (.fn 28 [.loc 1000001 0])),(500101,.ow true 3 (iI .i64 r2)),(1000001,.box (.row 500101)),(1000003,.box (.fn 43 [.loc 1000000 0,.loc 1000003 0]))]:=H h
def hn100043:Hint:=⟨[(2,[1000000,1000001,1000002]),(3,[65,1000000,1000001,1000003]),(13,[1000001,1000002]),(34,[65,1000000,1000001,1000003]),(36,[86]),(38,[88]),(39,[89]),(41,[91]),(45,[95])],[]⟩
def o100043 (r:Bool × List Int) (KN:Nat):List AV:=[vb r.1]
def p100043 (r:Bool × List Int) (KN:Nat):List (Nat × AV):=[(1000000,.box (.fn 28 [.loc 1000001 0])),(500101,.ow true 3 (iI .i64 r.2)),(1000001,.box (.row 500101)),(1000003,.box (.fn 43 [.loc 1000000 0,.loc 1000003 0]))]
def q100043_l0 (r:Bool × List Int) (KN:Nat) (k:Nat) (L:List (Nat × AV)):Prop:=k < KN ∧ ∃ (x0:List Int) (x1:List (S39)) (y0:List Int) (x18:Int),L = [(0,.sl (iI .i64 x0)),(1,.sl (iS39 x1)),(3,.loc 1000003 0),(18,vi x18),(65,.ow true 3 (iI .i64 y0)),(1000000,.box (.fn 28 [.loc 1000001 0])),(1000001,.box (.row 65)),(1000003,.box (.fn 43 [.loc 1000000 0,.loc 1000003 0]))] ∧ g100043_impl_chains_1_v1.l0 k x0 x1 y0 x18 = some r
theorem q100043_l0_mk {r:Bool × List Int} (KN:Nat) {k:Nat} {x0:List Int} {x1:List (S39)} {y0:List Int} {x18:Int} (hkR:k < KN) (h:g100043_impl_chains_1_v1.l0 k x0 x1 y0 x18 = some r):q100043_l0 r KN k [(0,.sl (iI .i64 x0)),(1,.sl (iS39 x1)),(3,.loc 1000003 0),(18,vi x18),(65,.ow true 3 (iI .i64 y0)),(1000000,.box (.fn 28 [.loc 1000001 0])),(1000001,.box (.row 65)),(1000003,.box (.fn 43 [.loc 1000000 0,.loc 1000003 0]))]:=⟨hkR,x0,x1,y0,x18,rfl,h⟩
theorem at100043_l0 {r:Bool × List Int} {KN:Nat} (IH:∀ j,j < KN → grp100043 j):∀ k L,q100043_l0 r KN k L → AtP Try.prog 50 (bodyOf Try.f43) (KR Try.prog Try.f43.results.toList (o100043 r KN) (p100043 r KN)) [true,true,false,true,false] [] (lookA L) :=
 at_loop (by kernel_rfl) (fun _ => by kernel_rfl) (q100043_l0 r KN) (by
  rintro k _ ⟨hkR,x0,x1,y0,x18,rfl,h⟩
  cases k with
  | zero => simp [g100043_impl_chains_1_v1.l0] at h
  | succ k =>
   rw [g100043_impl_chains_1_v1.l0] at h
   have hkR:=Nat.lt_of_succ_lt hkR
   refine at_ (hn:=hn100043) ?_
   rcases ite_ h with ⟨g1,h2⟩ | ⟨g1,h2⟩
   ·obtain ⟨g3,h4⟩:=ip_ h2
    obtain ⟨g5,h6⟩:=ip_ h4
    obtain ⟨⟨b2_1,b2_2⟩,c7,h8⟩:=bd_ h6
    try dsimp only at h8
    obtain ⟨b3,c9,h10⟩:=bd_ h8
    refine mid (hn:=hn100043) 16 1 [.val (.bool true),.val (.int .i64 (x0.length:Int)),.val (.int .i64 (wrap64 ((x0.length:Int) - 1))),.elem (vi (rd x0 (wrap64 ((x0.length:Int) - 1)))),.call (.agg [vi b2_1,vi b2_2]),.call (vi b3)] (And.intro (int_lss (P:=Try.prog) (t:=3) (k:=.i64) (x:=(.tmp 18)) (y:=(.const (.int .i64 10))) (a:=x18) (b:=10) (v:=true) (decide_eq_true g1)) (And.intro (iI_len (k:=.i64) (xs:=x0)) (And.intro (int_sub (P:=Try.prog) (t:=3) (k:=.i64) (x:=(.tmp 24)) (y:=(.const (.int .i64 1))) (a:=(x0.length:Int)) (b:=1) (c:=(wrap64 ((x0.length:Int) - 1))) (IntWalk.i64_left _)) (And.intro (iI_rd (k:=.i64) (xs:=x0) (i:=(wrap64 ((x0.length:Int) - 1))) g3 g5) (And.intro (ad_45 c7) (ad_44 c9)))))) (by kernel_rfl) ?_
    rcases ite_ h10 with ⟨g11,h12⟩ | ⟨g11,h12⟩
    ·obtain ⟨b4,c13,h14⟩:=bd_ h12
     obtain ⟨g15,h16⟩:=ip_ h14
     obtain ⟨b5,c17,h18⟩:=bd_ h16
     obtain ⟨b6,c19,h20⟩:=bd_ h18
     obtain ⟨⟨b7_1,b7_2⟩,c21,h22⟩:=bd_ h20
     try dsimp only at h22
     refine mid (hn:=hn100043) 0 16 [.val (.bool true),.callH [] (.row 86) [(86,.ow false 3 (iI .i64 b4))],.go,.elem (.ow false 3 (iI .i64 (b4 ++ ([x18])))),.callH [] (.row 91) [(91,.ow true 39 (iS39 b5))],.val (.int .i64 (wrap64 (b3 + 1))),.callH [91] (.row 95) [(95,.ow false 39 (iS39 b6))],.callH [1000000,1000001,65,1000003] (vb b7_1) [(1000000,.box (.fn 28 [.loc 1000001 0])),(96,.ow true 3 (iI .i64 b7_2)),(1000001,.box (.row 96)),(1000003,.box (.fn 43 [.loc 1000000 0,.loc 1000003 0]))]] (And.intro (int_geq (P:=Try.prog) (t:=3) (k:=.i64) (x:=(.tmp 31)) (y:=(.const (.int .i64 0))) (a:=b3) (b:=0) (v:=true) (decide_eq_true g11)) (And.intro (CallH.ren [(500000,86)] rfl rfl (CallH.frz 500000 rfl (ad_46 c13))) (And.intro (iI_app (k:=.i64) (N:=17592186044416) (b:=8) (xs:=b4) (ys:=[x18]) (by decide) (Nat.succ_le_of_lt g15)) (And.intro (CallH.ren [(500000,91)] rfl rfl (ad_48 c17)) (And.intro (int_add (P:=Try.prog) (t:=3) (k:=.i64) (x:=(.tmp 43)) (y:=(.const (.int .i64 1))) (a:=b3) (b:=1) (c:=(wrap64 (b3 + 1))) (IntWalk.i64_left _)) (And.intro (CallH.ren [(500000,95),(1000000,91)] rfl rfl (CallH.frz 500000 rfl (ad_47 c19))) (CallH.ren [(500101,96),(1000000,1000000),(1000001,1000001),(1000002,65),(1000003,1000003)] rfl rfl (use_100043 (IH _ hkR) c21)))))))) (by kernel_rfl) ?_
     rcases ite_ h22 with ⟨g23,h24⟩ | ⟨g23,h24⟩
     ·subst g23
      exact leafBack (hn:=hn100043) 7 [.val (.int .i64 (wrap64 (x18 + 1)))] [(65,96)] (q100043_l0_mk KN hkR h24) (Nat.lt_succ_self k) (int_add (P:=Try.prog) (t:=3) (k:=.i64) (x:=(.tmp 18)) (y:=(.const (.int .i64 1))) (a:=x18) (b:=1) (c:=(wrap64 (x18 + 1))) (IntWalk.i64_left _)) (by kernel_rfl)
     ·obtain rfl:=Bool.eq_false_iff.2 g23
      obtain rfl:=Option.some.inj h24
      exact leafRet (hn:=hn100043) 12 [] [(500101,96)] .ret (.inr rfl) (by kernel_rfl) True.intro (by kernel_rfl)
    ·exact leafBack (hn:=hn100043) 7 [.val (.bool false),.val (.int .i64 (wrap64 (x18 + 1)))] [] (q100043_l0_mk KN hkR h12) (Nat.lt_succ_self k) (And.intro (int_geq (P:=Try.prog) (t:=3) (k:=.i64) (x:=(.tmp 31)) (y:=(.const (.int .i64 0))) (a:=b3) (b:=0) (v:=false) (decide_eq_false g11)) (int_add (P:=Try.prog) (t:=3) (k:=.i64) (x:=(.tmp 18)) (y:=(.const (.int .i64 1))) (a:=x18) (b:=1) (c:=(wrap64 (x18 + 1))) (IntWalk.i64_left _))) (by kernel_rfl)
   ·obtain rfl:=Option.some.inj h2
    exact leafRet (hn:=hn100043) 14 [.val (.bool false)] [(500101,65)] .ret (.inr rfl) (by kernel_rfl) (int_lss (P:=Try.prog) (t:=3) (k:=.i64) (x:=(.tmp 18)) (y:=(.const (.int .i64 10))) (a:=x18) (b:=10) (v:=false) (decide_eq_false g1)) (by kernel_rfl))
theorem adR_100043 {KN:Nat} (IH:∀ j,j < KN → grp100043 j) {l0:List Int} {l1:List (S39)} {l2:List Int} {r1:Bool} {r2:List Int} (h:g100043_impl_chains_1_v1.f KN l0 l1 l2 = some (r1,r2)):CallH Try.prog 43 [.sl (iI .i64 l0),.sl (iS39 l1),.loc 1000000 0,.loc 1000003 0] [(1000000,.box (.fn 28 [.loc 1000001 0])),(1000001,.box (.row 1000002)),(1000002,.ow true 3 (iI .i64 l2)),(1000003,.box (.fn 43 [.loc 1000000 0,.loc 1000003 0]))] (vb r1) [(1000000,.box (.fn 28 [.loc 1000001 0])),(500101,.ow true 3 (iI .i64 r2)),(1000001,.box (.row 500101)),(1000003,.box (.fn 43 [.loc 1000000 0,.loc 1000003 0]))]:=by
 obtain ⟨k,hK⟩ : ∃ k,KN = k + 1:=by
  cases KN with
  | zero => simp [g100043_impl_chains_1_v1.f] at h
  | succ k => exact ⟨k,rfl⟩
 rw [hK,g100043_impl_chains_1_v1.f] at h
 have hkR:k < KN:=by omega
 refine call_ok (c:=bodyOf Try.f43) (rs:=o100043 (r1,r2) KN) (post:=p100043 (r1,r2) KN) Try.func43 rfl rfl rfl (by kernel_rfl) ?_
 show AtP Try.prog 50 (bodyOf Try.f43) (KR Try.prog Try.f43.results.toList (o100043 (r1,r2) KN) (p100043 (r1,r2) KN)) [] [] (lookA [(0,.sl (iI .i64 l0)),(1,.sl (iS39 l1)),(2,.loc 1000000 0),(3,.loc 1000003 0),(1000000,.box (.fn 28 [.loc 1000001 0])),(1000001,.box (.row 1000002)),(1000002,.ow true 3 (iI .i64 l2)),(1000003,.box (.fn 43 [.loc 1000000 0,.loc 1000003 0]))])
 refine at_ (hn:=hn100043) ?_
 refine mid (hn:=hn100043) 5 2 [.val (.int .i64 (l0.length:Int))] (iI_len (k:=.i64) (xs:=l0)) (by kernel_rfl) ?_
 rcases ite_ h with ⟨g1,h2⟩ | ⟨g1,h2⟩
 ·obtain ⟨⟨b1_1,b1_2⟩,c3,h4⟩:=bd_ h2
  try dsimp only at h4
  refine mid (hn:=hn100043) 0 6 [.val (.bool true),.callH [1000001,1000002] (vb b1_1) [(65,.ow true 3 (iI .i64 b1_2)),(1000001,.box (.row 65))]] (And.intro (int_gtr (P:=Try.prog) (t:=3) (k:=.i64) (x:=(.tmp 10)) (y:=(.const (.int .i64 1))) (a:=(l0.length:Int)) (b:=1) (v:=true) (decide_eq_true g1)) (CallH.ren [(500100,65),(1000000,1000001),(1000001,1000002)] rfl rfl (ad_28 c3))) (by kernel_rfl) ?_
  rcases ite_ h4 with ⟨g5,h6⟩ | ⟨g5,h6⟩
  ·subst g5
   exact leafAt (hn:=hn100043) 10 [] [] (at100043_l0 IH _ _ (q100043_l0_mk KN hkR h6)) True.intro (by kernel_rfl)
  ·obtain rfl:=Bool.eq_false_iff.2 g5
   obtain ⟨rfl,rfl⟩:=pr2_ h6
   exact leafRet (hn:=hn100043) 8 [] [(500101,65)] .ret (.inr rfl) (by kernel_rfl) True.intro (by kernel_rfl)
 ·exact leafAt (hn:=hn100043) 10 [.val (.bool false)] [(65,1000002)] (at100043_l0 IH _ _ (q100043_l0_mk KN hkR h2)) (int_gtr (P:=Try.prog) (t:=3) (k:=.i64) (x:=(.tmp 10)) (y:=(.const (.int .i64 1))) (a:=(l0.length:Int)) (b:=1) (v:=false) (decide_eq_false g1)) (by kernel_rfl)
theorem all100043 (k:Nat):grp100043 k:=Nat.strongRecOn (motive:=grp100043) k fun KN IH => (show grp100043 KN from fun h => adR_100043 IH h)
theorem ad_100043 {k:Nat} {l0:List Int} {l1:List (S39)} {l2:List Int} {r1:Bool} {r2:List Int} (h:g100043_impl_chains_1_v1.f k l0 l1 l2 = some (r1,r2)):CallH Try.prog 43 [.sl (iI .i64 l0),.sl (iS39 l1),.loc 1000000 0,.loc 1000003 0] [(1000000,.box (.fn 28 [.loc 1000001 0])),(1000001,.box (.row 1000002)),(1000002,.ow true 3 (iI .i64 l2)),(1000003,.box (.fn 43 [.loc 1000000 0,.loc 1000003 0]))] (vb r1) [(1000000,.box (.fn 28 [.loc 1000001 0])),(500101,.ow true 3 (iI .i64 r2)),(1000001,.box (.row 500101)),(1000003,.box (.fn 43 [.loc 1000000 0,.loc 1000003 0]))]:=use_100043 (all100043 k) h

mutual
def g100024_impl_chains_v1.l0:Nat → List (S39) → List Int → List Int → Int → Int → Option (Bool × List Int)
  | 0,_,_,_,_,_ => none
  | k + 1,x0,y0,x10,x11,x12 => if x12 < x11 then (if 0 ≤ x12 then (if x12 < (x10.length:Int) then ((g100043_impl_chains_1_v1.f k ([(rd x10 x12)]) x0 y0).bind fun b2 => (if b2.1 = true then (g100024_impl_chains_v1.l0 k x0 b2.2 x10 x11 (wrap64 (x12 + 1))) else (some (false,b2.2)))) else (none)) else (none)) else (some (true,y0))
end
def g100024_impl_chains_v1.f (k:Nat) (l0:List (S39)) (l1:List Int):Option (Bool × List Int):=(impl_numbers.f k l0).bind fun b1 => (g100024_impl_chains_v1.l0 k l0 l1 b1 (b1.length:Int) 0)

def hn100024:Hint:=⟨[(5,[26,28,700000,1000000,1000001]),(8,[26,28,1000000,1000001]),(16,[26,28,700000,1000000,1000001]),(18,[41])],[]⟩
def o100024 (r:Bool × List Int):List AV:=[vb r.1]
def p100024 (r:Bool × List Int):List (Nat × AV):=[(500100,.ow true 3 (iI .i64 r.2)),(1000000,.box (.row 500100))]
def q100024_l0 (r:Bool × List Int) (k:Nat) (L:List (Nat × AV)):Prop:=∃ (x0:List (S39)) (y0:List Int) (x10:List Int) (x11:Int) (x12:Int),L = [(0,.sl (iS39 x0)),(5,.loc 28 0),(10,.sl (iI .i64 x10)),(11,vi x11),(12,vi x12),(26,.box (.fn 28 [.loc 1000000 0])),(28,.box (.fn 43 [.loc 26 0,.loc 28 0])),(700000,.ow true 3 (iI .i64 y0)),(1000000,.box (.row 700000))] ∧ g100024_impl_chains_v1.l0 k x0 y0 x10 x11 x12 = some r
theorem q100024_l0_mk {r:Bool × List Int} {k:Nat} {x0:List (S39)} {y0:List Int} {x10:List Int} {x11:Int} {x12:Int} (h:g100024_impl_chains_v1.l0 k x0 y0 x10 x11 x12 = some r):q100024_l0 r k [(0,.sl (iS39 x0)),(5,.loc 28 0),(10,.sl (iI .i64 x10)),(11,vi x11),(12,vi x12),(26,.box (.fn 28 [.loc 1000000 0])),(28,.box (.fn 43 [.loc 26 0,.loc 28 0])),(700000,.ow true 3 (iI .i64 y0)),(1000000,.box (.row 700000))]:=⟨x0,y0,x10,x11,x12,rfl,h⟩
theorem at100024_l0 {r:Bool × List Int}:∀ k L,q100024_l0 r k L → AtP Try.prog 23 (bodyOf Try.f24) (KR Try.prog Try.f24.results.toList (o100024 r) (p100024 r)) [true,true,true,false,true,false] [] (lookA L) :=
 at_loop (by kernel_rfl) (fun _ => by kernel_rfl) (q100024_l0 r) (by
  rintro k _ ⟨x0,y0,x10,x11,x12,rfl,h⟩
  cases k with
  | zero => simp [g100024_impl_chains_v1.l0] at h
  | succ k =>
   rw [g100024_impl_chains_v1.l0] at h
   refine at_ (hn:=hn100024) ?_
   rcases ite_ h with ⟨g1,h2⟩ | ⟨g1,h2⟩
   ·obtain ⟨g3,h4⟩:=ip_ h2
    obtain ⟨g5,h6⟩:=ip_ h4
    obtain ⟨⟨b2_1,b2_2⟩,c7,h8⟩:=bd_ h6
    try dsimp only at h8
    refine mid (hn:=hn100024) 13 5 [.val (.bool true),.elem (vi (rd x10 x12)),.go,.callH [26,1000000,700000,28] (vb b2_1) [(26,.box (.fn 28 [.loc 1000000 0])),(43,.ow true 3 (iI .i64 b2_2)),(1000000,.box (.row 43)),(28,.box (.fn 43 [.loc 26 0,.loc 28 0]))]] (And.intro (int_lss (P:=Try.prog) (t:=3) (k:=.i64) (x:=(.tmp 12)) (y:=(.tmp 11)) (a:=x12) (b:=x11) (v:=true) (decide_eq_true g1)) (And.intro (iI_rd (k:=.i64) (xs:=x10) (i:=x12) g3 g5) (CallH.ren [(500101,43),(1000000,26),(1000001,1000000),(1000002,700000),(1000003,28)] rfl rfl (ad_100043 c7)))) (by kernel_rfl) ?_
    rcases ite_ h8 with ⟨g9,h10⟩ | ⟨g9,h10⟩
    ·subst g9
     exact leafBack (hn:=hn100024) 7 [.val (.int .i64 (wrap64 (x12 + 1)))] [(700000,43)] (q100024_l0_mk h10) (Nat.lt_succ_self k) (int_add (P:=Try.prog) (t:=3) (k:=.i64) (x:=(.tmp 12)) (y:=(.const (.int .i64 1))) (a:=x12) (b:=1) (c:=(wrap64 (x12 + 1))) (IntWalk.i64_left _)) (by kernel_rfl)
    ·obtain rfl:=Bool.eq_false_iff.2 g9
     obtain rfl:=Option.some.inj h10
     exact leafRet (hn:=hn100024) 12 [] [(500100,43)] .ret (.inr rfl) (by kernel_rfl) True.intro (by kernel_rfl)
   ·obtain rfl:=Option.some.inj h2
    exact leafRet (hn:=hn100024) 14 [.val (.bool false)] [(500100,700000)] .ret (.inr rfl) (by kernel_rfl) (int_lss (P:=Try.prog) (t:=3) (k:=.i64) (x:=(.tmp 12)) (y:=(.tmp 11)) (a:=x12) (b:=x11) (v:=false) (decide_eq_false g1)) (by kernel_rfl))
theorem ad_100024 {k:Nat} {l0:List (S39)} {l1:List Int} {r1:Bool} {r2:List Int} (h:g100024_impl_chains_v1.f k l0 l1 = some (r1,r2)):CallH Try.prog 24 [.sl (iS39 l0),.fn 28 [.loc 1000000 0]] [(1000000,.box (.row 1000001)),(1000001,.ow true 3 (iI .i64 l1))] (vb r1) [(500100,.ow true 3 (iI .i64 r2)),(1000000,.box (.row 500100))]:=by
 unfold g100024_impl_chains_v1.f at h
 refine call_ok (c:=bodyOf Try.f24) (rs:=o100024 (r1,r2)) (post:=p100024 (r1,r2)) Try.func24 rfl rfl rfl (by kernel_rfl) ?_
 show AtP Try.prog 23 (bodyOf Try.f24) (KR Try.prog Try.f24.results.toList (o100024 (r1,r2)) (p100024 (r1,r2))) [] [] (lookA [(0,.sl (iS39 l0)),(1,.fn 28 [.loc 1000000 0]),(1000000,.box (.row 1000001)),(1000001,.ow true 3 (iI .i64 l1))])
 refine at_ (hn:=hn100024) ?_
 obtain ⟨b1,c1,h2⟩:=bd_ h
 exact leafAt (hn:=hn100024) 14 [.call (.sl (iI .i64 b1)),.val (.int .i64 (b1.length:Int))] [(700000,1000001)] (at100024_l0 _ _ (q100024_l0_mk h2)) (And.intro (ad_49 c1) (iI_len (k:=.i64) (xs:=b1))) (by kernel_rfl)

def g8_impl_CountByTiles.f (k:Nat) (l0:List (S39)):Option (List Int × Bool):=(impl_isChained.f k l0).bind fun b1 => (if b1 = true then (if (l0.length:Int) ≤ 17592186044416 then ((g100024_impl_chains_v1.f k l0 (List.replicate ((l0.length:Int):Int).toNat 0)).bind fun b2 => (some (b2.2,true))) else (none)) else (some (([] : List Int),false)))

def hn8:Hint:=⟨[(4,[19,28]),(10,[25]),(12,[19,25])],[]⟩
def o8 (r:List Int × Bool):List AV:=[.sl (iI .i64 r.1),vb r.2]
def p8 (r:List Int × Bool):List (Nat × AV):=[]
theorem ad_8 {k:Nat} {l0:List (S39)} {r1:List Int} {r2:Bool} (h:g8_impl_CountByTiles.f k l0 = some (r1,r2)):CallH Try.prog 8 [.sl (iS39 l0)] [] (.tup [.sl (iI .i64 r1),vb r2]) []:=by
 unfold g8_impl_CountByTiles.f at h
 refine call_ok (c:=bodyOf Try.f8) (rs:=o8 (r1,r2)) (post:=p8 (r1,r2)) Try.func8 rfl rfl rfl (by kernel_rfl) ?_
 show AtP Try.prog 15 (bodyOf Try.f8) (KR Try.prog Try.f8.results.toList (o8 (r1,r2)) (p8 (r1,r2))) [] [] (lookA [(0,.sl (iS39 l0))])
 refine at_ (hn:=hn8) ?_
 obtain ⟨b1,c1,h2⟩:=bd_ h
 refine mid (hn:=hn8) 5 2 [.goT,.call (vb b1)] (ad_23 c1) (by kernel_rfl) ?_
 rcases ite_ h2 with ⟨g3,h4⟩ | ⟨g3,h4⟩
 ·subst g3
  obtain ⟨g5,h6⟩:=ip_ h4
  obtain ⟨⟨b2_1,b2_2⟩,c7,h8⟩:=bd_ h6
  try dsimp only at h8
  obtain ⟨rfl,rfl⟩:=pr2_ h8
  exact leafRet (hn:=hn8) 15 [.val (.int .i64 (l0.length:Int)),.elem (.ow true 3 (iI .i64 (List.replicate ((l0.length:Int):Int).toNat 0))),.callH [19,25] (vb b2_1) [(28,.ow true 3 (iI .i64 b2_2)),(19,.box (.row 28))],.fz 28] [] .ret (.inr rfl) (by kernel_rfl) (And.intro (And.intro (iS39_len (xs:=l0)) (And.intro (show 0 ≤ (l0.length:Int) from Int.natCast_nonneg _) (And.intro (rfl:(l0.length:Int) = (l0.length:Int)) (And.intro (show (l0.length:Int) * 8 ≤ 140737488355328 by have h_:=g5; omega) (show (iI .i64 (List.replicate ((l0.length:Int):Int).toNat 0)) = List.replicate ((l0.length:Int):Int).toNat (vi 0) from List.map_replicate))))) (CallH.ren [(500100,28),(1000000,19),(1000001,25)] rfl rfl (ad_100024 c7))) (by kernel_rfl)
 ·obtain rfl:=Bool.eq_false_iff.2 g3
  obtain ⟨rfl,rfl⟩:=pr2_ h4
  exact leafRet (hn:=hn8) 8 [.goT] [] .ret (.inr rfl) (by kernel_rfl) True.intro (by kernel_rfl)

def g9_spec_CountByTiles.f (k:Nat) (l0:List (S39)):Option (List Int × Bool):=(spec_haSmall.f k l0).bind fun b1 => (if b1 = true then ((g27_spec_haAll.f k l0 0).bind fun b2 => (some (b2.2.2.2.1,true))) else (some (([] : List Int),false)))

def hn9:Hint:=⟨[],[]⟩
def o9 (r:List Int × Bool):List AV:=[.sl (iI .i64 r.1),vb r.2]
def p9 (r:List Int × Bool):List (Nat × AV):=[]
theorem ad_9 {k:Nat} {l0:List (S39)} {r1:List Int} {r2:Bool} (h:g9_spec_CountByTiles.f k l0 = some (r1,r2)):CallH Try.prog 9 [.sl (iS39 l0)] [] (.tup [.sl (iI .i64 r1),vb r2]) []:=by
 unfold g9_spec_CountByTiles.f at h
 refine call_ok (c:=bodyOf Try.f9) (rs:=o9 (r1,r2)) (post:=p9 (r1,r2)) Try.func9 rfl rfl rfl (by kernel_rfl) ?_
 show AtP Try.prog 12 (bodyOf Try.f9) (KR Try.prog Try.f9.results.toList (o9 (r1,r2)) (p9 (r1,r2))) [] [] (lookA [(0,.sl (iS39 l0))])
 refine at_ (hn:=hn9) ?_
 obtain ⟨b1,c1,h2⟩:=bd_ h
 refine mid (hn:=hn9) 5 2 [.goT,.call (vb b1)] (ad_26 c1) (by kernel_rfl) ?_
 rcases ite_ h2 with ⟨g3,h4⟩ | ⟨g3,h4⟩
 ·subst g3
  obtain ⟨⟨b2_1,b2_2,b2_3,b2_4,b2_5,b2_6⟩,c5,h6⟩:=bd_ h4
  try dsimp only at h6
  obtain ⟨rfl,rfl⟩:=pr2_ h6
  exact leafRet (hn:=hn9) 9 [.call (.ptr (.agg [.sl (iS39 b2_1),vi b2_2,vi b2_3,.sl (iI .i64 b2_4),.sl (iL (iI .i64) b2_5),.sl (iI .i64 b2_6)]))] [] .ret (.inr rfl) (by kernel_rfl) (ad_27 c5) (by kernel_rfl)
 ·obtain rfl:=Bool.eq_false_iff.2 g3
  obtain ⟨rfl,rfl⟩:=pr2_ h4
  exact leafRet (hn:=hn9) 8 [.goT] [] .ret (.inr rfl) (by kernel_rfl) True.intro (by kernel_rfl)

def g29_impl_LongestChain_1.f (k:Nat) (l0:List Int) (l1:List Int):Option (Bool × List Int):=if (l0.length:Int) > (l1.length:Int) then (some (true,l0)) else (some (true,l1))

def hn29:Hint:=⟨[(1,[1000000])],[]⟩
def o29 (r:Bool × List Int):List AV:=[vb r.1]
def p29 (r:Bool × List Int):List (Nat × AV):=[(1000000,.box (.sl (iI .i64 r.2)))]
theorem ad_29 {k:Nat} {l0:List Int} {l1:List Int} {r1:Bool} {r2:List Int} (h:g29_impl_LongestChain_1.f k l0 l1 = some (r1,r2)):CallH Try.prog 29 [.sl (iI .i64 l0),.loc 1000000 0] [(1000000,.box (.sl (iI .i64 l1)))] (vb r1) [(1000000,.box (.sl (iI .i64 r2)))]:=by
 unfold g29_impl_LongestChain_1.f at h
 refine call_ok (c:=bodyOf Try.f29) (rs:=o29 (r1,r2)) (post:=p29 (r1,r2)) Try.func29 rfl rfl rfl (by kernel_rfl) ?_
 show AtP Try.prog 10 (bodyOf Try.f29) (KR Try.prog Try.f29.results.toList (o29 (r1,r2)) (p29 (r1,r2))) [] [] (lookA [(0,.sl (iI .i64 l0)),(1,.loc 1000000 0),(1000000,.box (.sl (iI .i64 l1)))])
 refine at_ (hn:=hn29) ?_
 refine mid (hn:=hn29) 5 4 [.val (.int .i64 (l0.length:Int)),.val (.int .i64 (l1.length:Int))] (And.intro (iI_len (k:=.i64) (xs:=l0)) (iI_len (k:=.i64) (xs:=l1))) (by kernel_rfl) ?_
 rcases ite_ h with ⟨g1,h2⟩ | ⟨g1,h2⟩
 ·obtain ⟨rfl,rfl⟩:=pr2_ h2
  exact leafRet (hn:=hn29) 9 [.val (.bool true)] [] .ret (.inr rfl) (by kernel_rfl) (int_gtr (P:=Try.prog) (t:=3) (k:=.i64) (x:=(.tmp 5)) (y:=(.tmp 7)) (a:=(l0.length:Int)) (b:=(l1.length:Int)) (v:=true) (decide_eq_true g1)) (by kernel_rfl)
 ·obtain ⟨rfl,rfl⟩:=pr2_ h2
  exact leafRet (hn:=hn29) 9 [.val (.bool false)] [] .ret (.inr rfl) (by kernel_rfl) (int_gtr (P:=Try.prog) (t:=3) (k:=.i64) (x:=(.tmp 5)) (y:=(.tmp 7)) (a:=(l0.length:Int)) (b:=(l1.length:Int)) (v:=false) (decide_eq_false g1)) (by kernel_rfl)

mutual
def g200043_impl_chains_1_v2.l0:Nat → List Int → List (S39) → List Int → Int → Option (Bool × List Int)
  | 0,_,_,_,_ => none
  | k + 1,x0,x1,y0,x18 => if x18 < 10 then (if 0 ≤ (wrap64 ((x0.length:Int) - 1)) then (if (wrap64 ((x0.length:Int) - 1)) < (x0.length:Int) then ((impl_tile.f (rd x0 (wrap64 ((x0.length:Int) - 1))) x18).bind fun b2 => ((slices_Index_impl_Tile_impl_Tile.f k x1 b2.1 b2.2).bind fun b3 => (if b3 ≥ 0 then ((slices_Clone_int_int.f x0).bind fun b4 => (if b4.length < 17592186044416 then ((slices_Clone_impl_Tile_impl_Tile.f x1).bind fun b5 => ((slices_Delete_impl_Tile.f b5 b3 (wrap64 (b3 + 1))).bind fun b6 => ((g200043_impl_chains_1_v2.f k (b4 ++ ([x18])) b6 y0).bind fun b7 => (if b7.1 = true then (g200043_impl_chains_1_v2.l0 k x0 x1 b7.2 (wrap64 (x18 + 1))) else (some (false,b7.2)))))) else (none))) else (g200043_impl_chains_1_v2.l0 k x0 x1 y0 (wrap64 (x18 + 1)))))) else (none)) else (none)) else (some (true,y0))
def g200043_impl_chains_1_v2.f:Nat → List Int → List (S39) → List Int → Option (Bool × List Int)
  | 0,_,_,_ => none
  | k + 1,l0,l1,l2 => if (l0.length:Int) > 1 then ((g29_impl_LongestChain_1.f k l0 l2).bind fun b1 => (if b1.1 = true then (g200043_impl_chains_1_v2.l0 k l0 l1 b1.2 0) else (some (false,b1.2)))) else (g200043_impl_chains_1_v2.l0 k l0 l1 l2 0)
end
def grp200043 (j:Nat):Prop:=(∀ {l0:List Int} {l1:List (S39)} {l2:List Int} {r1:Bool} {r2:List Int},g200043_impl_chains_1_v2.f j l0 l1 l2 = some (r1,r2) → CallH Try.prog 43 [.sl (iI .i64 l0),.sl (iS39 l1),.loc 1000000 0,.loc 1000002 0] [(1000000,.box (.fn 29 [.loc 1000001 0])),(1000001,.box (.sl (iI .i64 l2))),(1000002,.box (.fn 43 [.loc 1000000 0,.loc 1000002 0]))] (vb r1) [(1000000,.box (.fn 29 [.loc 1000001 0])),(1000001,.box (.sl (iI .i64 r2))),(1000002,.box (.fn 43 [.loc 1000000 0,.loc 1000002 0]))])
theorem use_200043 {j:Nat} (H:grp200043 j) {l0:List Int} {l1:List (S39)} {l2:List Int} {r1:Bool} {r2:List Int} (h:g200043_impl_chains_1_v2.f j l0 l1 l2 = some (r1,r2)):CallH Try.prog 43 [.sl (iI .i64 l0),.sl (iS39 l1),.loc 1000000 0,.loc 1000002 0] [(1000000,.box (.fn 29 [.loc 1000001 0])),(1000001,.box (.sl (iI .i64 l2))),(1000002,.box (.fn 43 [.loc 1000000 0,.loc 1000002 0]))] (vb r1) [(1000000,.box (.fn 29 [.loc 1000001 0])),(1000001,.box (.sl (iI .i64 r2))),(1000002,.box (.fn 43 [.loc 1000000 0,.loc 1000002 0]))]:=H h
def hn200043:Hint:=⟨[(2,[1000000,1000001]),(3,[1000000,1000001,1000002]),(13,[1000001]),(34,[1000000,1000001,1000002]),(36,[86]),(38,[88]),(39,[89]),(41,[91]),(45,[95])],[]⟩
def o200043 (r:Bool × List Int) (KN:Nat):List AV:=[vb r.1]
def p200043 (r:Bool × List Int) (KN:Nat):List (Nat × AV):=[(1000000,.box (.fn 29 [.loc 1000001 0])),(1000001,.box (.sl (iI .i64 r.2))),(1000002,.box (.fn 43 [.loc 1000000 0,.loc 1000002 0]))]
def q200043_l0 (r:Bool × List Int) (KN:Nat) (k:Nat) (L:List (Nat × AV)):Prop:=k < KN ∧ ∃ (x0:List Int) (x1:List (S39)) (y0:List Int) (x18:Int),L = [(0,.sl (iI .i64 x0)),(1,.sl (iS39 x1)),(3,.loc 1000002 0),(18,vi x18),(1000000,.box (.fn 29 [.loc 1000001 0])),(1000001,.box (.sl (iI .i64 y0))),(1000002,.box (.fn 43 [.loc 1000000 0,.loc 1000002 0]))] ∧ g200043_impl_chains_1_v2.l0 k x0 x1 y0 x18 = some r
theorem q200043_l0_mk {r:Bool × List Int} (KN:Nat) {k:Nat} {x0:List Int} {x1:List (S39)} {y0:List Int} {x18:Int} (hkR:k < KN) (h:g200043_impl_chains_1_v2.l0 k x0 x1 y0 x18 = some r):q200043_l0 r KN k [(0,.sl (iI .i64 x0)),(1,.sl (iS39 x1)),(3,.loc 1000002 0),(18,vi x18),(1000000,.box (.fn 29 [.loc 1000001 0])),(1000001,.box (.sl (iI .i64 y0))),(1000002,.box (.fn 43 [.loc 1000000 0,.loc 1000002 0]))]:=⟨hkR,x0,x1,y0,x18,rfl,h⟩
theorem at200043_l0 {r:Bool × List Int} {KN:Nat} (IH:∀ j,j < KN → grp200043 j):∀ k L,q200043_l0 r KN k L → AtP Try.prog 50 (bodyOf Try.f43) (KR Try.prog Try.f43.results.toList (o200043 r KN) (p200043 r KN)) [true,true,false,true,false] [] (lookA L) :=
 at_loop (by kernel_rfl) (fun _ => by kernel_rfl) (q200043_l0 r KN) (by
  rintro k _ ⟨hkR,x0,x1,y0,x18,rfl,h⟩
  cases k with
  | zero => simp [g200043_impl_chains_1_v2.l0] at h
  | succ k =>
   rw [g200043_impl_chains_1_v2.l0] at h
   have hkR:=Nat.lt_of_succ_lt hkR
   refine at_ (hn:=hn200043) ?_
   rcases ite_ h with ⟨g1,h2⟩ | ⟨g1,h2⟩
   ·obtain ⟨g3,h4⟩:=ip_ h2
    obtain ⟨g5,h6⟩:=ip_ h4
    obtain ⟨⟨b2_1,b2_2⟩,c7,h8⟩:=bd_ h6
    try dsimp only at h8
    obtain ⟨b3,c9,h10⟩:=bd_ h8
    refine mid (hn:=hn200043) 16 1 [.val (.bool true),.val (.int .i64 (x0.length:Int)),.val (.int .i64 (wrap64 ((x0.length:Int) - 1))),.elem (vi (rd x0 (wrap64 ((x0.length:Int) - 1)))),.call (.agg [vi b2_1,vi b2_2]),.call (vi b3)] (And.intro (int_lss (P:=Try.prog) (t:=3) (k:=.i64) (x:=(.tmp 18)) (y:=(.const (.int .i64 10))) (a:=x18) (b:=10) (v:=true) (decide_eq_true g1)) (And.intro (iI_len (k:=.i64) (xs:=x0)) (And.intro (int_sub (P:=Try.prog) (t:=3) (k:=.i64) (x:=(.tmp 24)) (y:=(.const (.int .i64 1))) (a:=(x0.length:Int)) (b:=1) (c:=(wrap64 ((x0.length:Int) - 1))) (IntWalk.i64_left _)) (And.intro (iI_rd (k:=.i64) (xs:=x0) (i:=(wrap64 ((x0.length:Int) - 1))) g3 g5) (And.intro (ad_45 c7) (ad_44 c9)))))) (by kernel_rfl) ?_
    rcases ite_ h10 with ⟨g11,h12⟩ | ⟨g11,h12⟩
    ·obtain ⟨b4,c13,h14⟩:=bd_ h12
     obtain ⟨g15,h16⟩:=ip_ h14
     obtain ⟨b5,c17,h18⟩:=bd_ h16
     obtain ⟨b6,c19,h20⟩:=bd_ h18
     obtain ⟨⟨b7_1,b7_2⟩,c21,h22⟩:=bd_ h20
     try dsimp only at h22
     refine mid (hn:=hn200043) 0 16 [.val (.bool true),.callH [] (.row 86) [(86,.ow false 3 (iI .i64 b4))],.go,.elem (.ow false 3 (iI .i64 (b4 ++ ([x18])))),.callH [] (.row 91) [(91,.ow true 39 (iS39 b5))],.val (.int .i64 (wrap64 (b3 + 1))),.callH [91] (.row 95) [(95,.ow false 39 (iS39 b6))],.callH [1000000,1000001,1000002] (vb b7_1) [(1000000,.box (.fn 29 [.loc 1000001 0])),(1000001,.box (.sl (iI .i64 b7_2))),(1000002,.box (.fn 43 [.loc 1000000 0,.loc 1000002 0]))]] (And.intro (int_geq (P:=Try.prog) (t:=3) (k:=.i64) (x:=(.tmp 31)) (y:=(.const (.int .i64 0))) (a:=b3) (b:=0) (v:=true) (decide_eq_true g11)) (And.intro (CallH.ren [(500000,86)] rfl rfl (CallH.frz 500000 rfl (ad_46 c13))) (And.intro (iI_app (k:=.i64) (N:=17592186044416) (b:=8) (xs:=b4) (ys:=[x18]) (by decide) (Nat.succ_le_of_lt g15)) (And.intro (CallH.ren [(500000,91)] rfl rfl (ad_48 c17)) (And.intro (int_add (P:=Try.prog) (t:=3) (k:=.i64) (x:=(.tmp 43)) (y:=(.const (.int .i64 1))) (a:=b3) (b:=1) (c:=(wrap64 (b3 + 1))) (IntWalk.i64_left _)) (And.intro (CallH.ren [(500000,95),(1000000,91)] rfl rfl (CallH.frz 500000 rfl (ad_47 c19))) (CallH.ren [(1000000,1000000),(1000001,1000001),(1000002,1000002)] rfl rfl (use_200043 (IH _ hkR) c21)))))))) (by kernel_rfl) ?_
     rcases ite_ h22 with ⟨g23,h24⟩ | ⟨g23,h24⟩
     ·subst g23
      exact leafBack (hn:=hn200043) 7 [.val (.int .i64 (wrap64 (x18 + 1)))] [] (q200043_l0_mk KN hkR h24) (Nat.lt_succ_self k) (int_add (P:=Try.prog) (t:=3) (k:=.i64) (x:=(.tmp 18)) (y:=(.const (.int .i64 1))) (a:=x18) (b:=1) (c:=(wrap64 (x18 + 1))) (IntWalk.i64_left _)) (by kernel_rfl)
     ·obtain rfl:=Bool.eq_false_iff.2 g23
      obtain rfl:=Option.some.inj h24
      exact leafRet (hn:=hn200043) 12 [] [] .ret (.inr rfl) (by kernel_rfl) True.intro (by kernel_rfl)
    ·exact leafBack (hn:=hn200043) 7 [.val (.bool false),.val (.int .i64 (wrap64 (x18 + 1)))] [] (q200043_l0_mk KN hkR h12) (Nat.lt_succ_self k) (And.intro (int_geq (P:=Try.prog) (t:=3) (k:=.i64) (x:=(.tmp 31)) (y:=(.const (.int .i64 0))) (a:=b3) (b:=0) (v:=false) (decide_eq_false g11)) (int_add (P:=Try.prog) (t:=3) (k:=.i64) (x:=(.tmp 18)) (y:=(.const (.int .i64 1))) (a:=x18) (b:=1) (c:=(wrap64 (x18 + 1))) (IntWalk.i64_left _))) (by kernel_rfl)
   ·obtain rfl:=Option.some.inj h2
    exact leafRet (hn:=hn200043) 14 [.val (.bool false)] [] .ret (.inr rfl) (by kernel_rfl) (int_lss (P:=Try.prog) (t:=3) (k:=.i64) (x:=(.tmp 18)) (y:=(.const (.int .i64 10))) (a:=x18) (b:=10) (v:=false) (decide_eq_false g1)) (by kernel_rfl))
theorem adR_200043 {KN:Nat} (IH:∀ j,j < KN → grp200043 j) {l0:List Int} {l1:List (S39)} {l2:List Int} {r1:Bool} {r2:List Int} (h:g200043_impl_chains_1_v2.f KN l0 l1 l2 = some (r1,r2)):CallH Try.prog 43 [.sl (iI .i64 l0),.sl (iS39 l1),.loc 1000000 0,.loc 1000002 0] [(1000000,.box (.fn 29 [.loc 1000001 0])),(1000001,.box (.sl (iI .i64 l2))),(1000002,.box (.fn 43 [.loc 1000000 0,.loc 1000002 0]))] (vb r1) [(1000000,.box (.fn 29 [.loc 1000001 0])),(1000001,.box (.sl (iI .i64 r2))),(1000002,.box (.fn 43 [.loc 1000000 0,.loc 1000002 0]))]:=by
 obtain ⟨k,hK⟩ : ∃ k,KN = k + 1:=by
  cases KN with
  | zero => simp [g200043_impl_chains_1_v2.f] at h
  | succ k => exact ⟨k,rfl⟩
 rw [hK,g200043_impl_chains_1_v2.f] at h
 have hkR:k < KN:=by omega
 refine call_ok (c:=bodyOf Try.f43) (rs:=o200043 (r1,r2) KN) (post:=p200043 (r1,r2) KN) Try.func43 rfl rfl rfl (by kernel_rfl) ?_
 show AtP Try.prog 50 (bodyOf Try.f43) (KR Try.prog Try.f43.results.toList (o200043 (r1,r2) KN) (p200043 (r1,r2) KN)) [] [] (lookA [(0,.sl (iI .i64 l0)),(1,.sl (iS39 l1)),(2,.loc 1000000 0),(3,.loc 1000002 0),(1000000,.box (.fn 29 [.loc 1000001 0])),(1000001,.box (.sl (iI .i64 l2))),(1000002,.box (.fn 43 [.loc 1000000 0,.loc 1000002 0]))])
 refine at_ (hn:=hn200043) ?_
 refine mid (hn:=hn200043) 5 2 [.val (.int .i64 (l0.length:Int))] (iI_len (k:=.i64) (xs:=l0)) (by kernel_rfl) ?_
 rcases ite_ h with ⟨g1,h2⟩ | ⟨g1,h2⟩
 ·obtain ⟨⟨b1_1,b1_2⟩,c3,h4⟩:=bd_ h2
  try dsimp only at h4
  refine mid (hn:=hn200043) 0 6 [.val (.bool true),.callH [1000001] (vb b1_1) [(1000001,.box (.sl (iI .i64 b1_2)))]] (And.intro (int_gtr (P:=Try.prog) (t:=3) (k:=.i64) (x:=(.tmp 10)) (y:=(.const (.int .i64 1))) (a:=(l0.length:Int)) (b:=1) (v:=true) (decide_eq_true g1)) (CallH.ren [(1000000,1000001)] rfl rfl (ad_29 c3))) (by kernel_rfl) ?_
  rcases ite_ h4 with ⟨g5,h6⟩ | ⟨g5,h6⟩
  ·subst g5
   exact leafAt (hn:=hn200043) 10 [] [] (at200043_l0 IH _ _ (q200043_l0_mk KN hkR h6)) True.intro (by kernel_rfl)
  ·obtain rfl:=Bool.eq_false_iff.2 g5
   obtain ⟨rfl,rfl⟩:=pr2_ h6
   exact leafRet (hn:=hn200043) 8 [] [] .ret (.inr rfl) (by kernel_rfl) True.intro (by kernel_rfl)
 ·exact leafAt (hn:=hn200043) 10 [.val (.bool false)] [] (at200043_l0 IH _ _ (q200043_l0_mk KN hkR h2)) (int_gtr (P:=Try.prog) (t:=3) (k:=.i64) (x:=(.tmp 10)) (y:=(.const (.int .i64 1))) (a:=(l0.length:Int)) (b:=1) (v:=false) (decide_eq_false g1)) (by kernel_rfl)
theorem all200043 (k:Nat):grp200043 k:=Nat.strongRecOn (motive:=grp200043) k fun KN IH => (show grp200043 KN from fun h => adR_200043 IH h)
theorem ad_200043 {k:Nat} {l0:List Int} {l1:List (S39)} {l2:List Int} {r1:Bool} {r2:List Int} (h:g200043_impl_chains_1_v2.f k l0 l1 l2 = some (r1,r2)):CallH Try.prog 43 [.sl (iI .i64 l0),.sl (iS39 l1),.loc 1000000 0,.loc 1000002 0] [(1000000,.box (.fn 29 [.loc 1000001 0])),(1000001,.box (.sl (iI .i64 l2))),(1000002,.box (.fn 43 [.loc 1000000 0,.loc 1000002 0]))] (vb r1) [(1000000,.box (.fn 29 [.loc 1000001 0])),(1000001,.box (.sl (iI .i64 r2))),(1000002,.box (.fn 43 [.loc 1000000 0,.loc 1000002 0]))]:=use_200043 (all200043 k) h

mutual
def g200024_impl_chains_v2.l0:Nat → List (S39) → List Int → List Int → Int → Int → Option (Bool × List Int)
  | 0,_,_,_,_,_ => none
  | k + 1,x0,y0,x10,x11,x12 => if x12 < x11 then (if 0 ≤ x12 then (if x12 < (x10.length:Int) then ((g200043_impl_chains_1_v2.f k ([(rd x10 x12)]) x0 y0).bind fun b2 => (if b2.1 = true then (g200024_impl_chains_v2.l0 k x0 b2.2 x10 x11 (wrap64 (x12 + 1))) else (some (false,b2.2)))) else (none)) else (none)) else (some (true,y0))
end
def g200024_impl_chains_v2.f (k:Nat) (l0:List (S39)) (l1:List Int):Option (Bool × List Int):=(impl_numbers.f k l0).bind fun b1 => (g200024_impl_chains_v2.l0 k l0 l1 b1 (b1.length:Int) 0)
end Go.Proofs.Ytkofmaeffgbelaa.QFnChainsListed
