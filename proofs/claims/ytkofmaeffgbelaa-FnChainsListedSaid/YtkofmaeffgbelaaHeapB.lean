/- An interpreter over plain values, with a heap of keys, for the functions of this model, proved sound for every order that a region's edges allow. No conditions. -/
import Derived.Test.YtkofmaeffgbelaaHeapA
import Derived.Lib.ConvBytes
import Derived.Tactics
import Derived.Laws.Entries
import Derived.IntWalk
import Derived.Laws.Strings
import Derived.Laws.Slices
import Derived.Laws.DeepStrings4
set_option linter.unusedVariables false
set_option linter.unusedSimpArgs false
set_option linter.unusedSectionVars false
namespace Go.Rh
open Go.RowKit
variable [MemFact]

section
variable {P:Program} {w0:Cx} {ν:Nat → Value} {w:World} {O:Own} {h:Hint} {n:Nat} {e:Env} {a:Act}
theorem isNil_eq {x:Operand} (h:isNil x = true):x = .const (.slice none 0 0):=by
 unfold isNil at h
 split at h
 ·rfl
 ·cases h
theorem fresh_eq {k:Nat} (h:fresh e k = true):e k = none:=Option.isNone_iff_eq_none.1 h
theorem move_sound {Q:Exit → Act → World → Prop} {K:Act → World → Prop} {o:Oper} {x:Operand} {s s':List Ans} {ws:List (Nat × Option AV)} {p:Option Prop} (I:Inv P w0 ν O n e a w) (ho:o.op = .move x ∨ o.op = .assign x) (h1:moveOp P n e s o.dst x = some (ws,p,s'))
  (hd:∀ t,o.dst = some t → t < n) (k:Next P w0 n (e.puts ws) K):o.wp P a w K Q:=by
 have plainCase:∀ {s:List Ans},((opd e x).map fun y => (w1 o.dst y,(none:Option Prop),s)) = some (ws,p,s') → o.wp P a w K Q:=by
  intro s h
  obtain ⟨y,hy,h3⟩:=Option.map_eq_some_iff.1 h
  simp only [Prod.mk.injEq] at h3
  obtain ⟨rfl,_,_⟩:=h3
  obtain ⟨hr,hp⟩:=opd_rep I hy
  exact op_put I (ex_move _ o x ho w) hr hp hd k
 unfold moveOp at h1
 cases hnil:isNil x
 ·rw [hnil] at h1
  exact plainCase h1
 ·rw [hnil] at h1
  have hx:=isNil_eq hnil
  simp only [cond_true] at h1
  split at h1
  ·rename_i m T s2
   split at h1
   ·rename_i d hdst
    obtain ⟨hc,h1⟩:=plain_of h1
    obtain ⟨q,hq,h3⟩:=Option.map_eq_some_iff.1 h1
    simp only [Prod.mk.injEq] at h3
    obtain ⟨rfl,_,_⟩:=h3
    obtain ⟨kk,bb⟩:=q
    have I1:=I.addKey (k:=n + d) (x:=.ow m T []) (v:=.slice none 0 0) (I.keyLt (hd d hdst)) (fresh_eq hc) (nil_own (ok:=okO w0 w O) (O:=O) m hq) (fun b hb => by simp [hold,Value.ownBlock] at hb) (fun q hq => by cases hq)
    refine op_value (ex_move _ o x ho w) ?_
    rw [hdst,hx]
    exact k _ O _ _ (I1.put (.row (n + d) none 0 0 (Val.same _ _ _)) (fun q hq => by
     simp only [AV.keys,List.mem_singleton] at hq
     subst hq
     rw [Env.put_same]
     nofun) (hd d hdst))
   ·cases h1
  ·simp only [Option.some.injEq,Prod.mk.injEq] at h1
   obtain ⟨rfl,_,_⟩:=h1
   exact op_imm I (ex_move _ o x ho w) (by rw [hx]; exact nil_sl _) rfl hd k
  ·simp only [Option.some.injEq,Prod.mk.injEq] at h1
   obtain ⟨rfl,_,_⟩:=h1
   exact op_imm I (ex_move _ o x ho w) (by rw [hx]; exact .val _ rfl) rfl hd k
  ·cases h1
theorem box_sound {Q:Exit → Act → World → Prop} {K:Act → World → Prop} {o:Oper} {y:AV} {v:Value} {d T:Nat} (I:Inv P w0 ν O n e a w) (hf:y.parts.all AV.one = true) (hr:RepK w (okO w0 w O) ν y v) (hk:∀ k ∈ y.keys,e k ≠ none) (hdst:o.dst = some d) (hfr:fresh e (n + d) = true)
  (hrun:(execOp a.eval o).run P w = .ok (.value (.pointer (some ⟨w.heap.size,0,none⟩))) (w.alloc (.cells v.cells T))) (hd:∀ t,o.dst = some t → t < n) (k:Next P w0 n (e.puts [(n + d,some (.box y)),(d,some (.loc (n + d) 0))]) K):o.wp P a w K Q:=by
 obtain ⟨cs,c1,c2,c3,c4,c5⟩:=rep_cells hf hr
 refine op_value hrun ?_
 rw [hdst,c1]
 exact k _ _ _ _ (I.newBox (I.keyLt (hd d hdst)) (fresh_eq hfr) c5 hk (hd d hdst))
theorem conv_sound {Q:Exit → Act → World → Prop} {K:Act → World → Prop} {o:Oper} {t u:TypeId} {x:Operand} {s s':List Ans} {ws:List (Nat × Option AV)} {p:Option Prop} (I:Inv P w0 ν O n e a w) (ho:o.op = .convert t u x) (h1:convOp P h e s o t u x = some (ws,p,s')) (hp:holds p)
  (hd:∀ t,o.dst = some t → t < n) (k:Next P w0 n (e.puts ws) K):o.wp P a w K Q:=by
 unfold convOp at h1
 split at h1
 ·rename_i l' s2
  split at h1
  ·rename_i b hx
   simp only [Option.some.injEq,Prod.mk.injEq] at h1
   obtain ⟨rfl,rfl,_⟩:=h1
   obtain ⟨⟨d,el,ht,hu,he⟩,hb,rfl⟩:=hp
   have hxv:=(rep_val (val_inv (opd_rep I hx).1)).1
   have hrun:(execOp a.eval o).run P w = .ok (.value (.slice (some ⟨w.heap.size,0,none⟩) b.size (grownCap w b.size 0 el))) (Lib.bytesWorld w el b):=by
    have:=Lib.run_convert_string_bytes (P:=P) w t u el b ht hu he
    unfold execOp
    rw [ho]
    simp only [hxv,Sem.run_bind,this,Result.andThen_ok]
    rfl
   have hsz:=Lib.bytesWorld_size w el b
   have hbel:Below w.heap.size w (Lib.bytesWorld w el b):=⟨rfl,rfl,rfl,by rw [hsz]; omega,fun j hj => Lib.bytesWorld_at_old w el b j hj⟩
   have hst:∀ c off,okO w0 w O c off → (Lib.bytesWorld w el b).cell? ⟨c,off,none⟩ = w.cell? ⟨c,off,none⟩ ∧ okO w0 (Lib.bytesWorld w el b) O c off:=fun c off hk => ⟨cell_same (Lib.bytesWorld_at_old w el b c hk.1),by rw [hsz]; exact Nat.lt_succ_of_lt hk.1,hk.2⟩
   have I2:Inv P w0 ν O n e a (Lib.bytesWorld w el b):=I.world (I.bel.trans hbel) (fun c m hm => ⟨(I.own c m hm).1,by rw [hsz]; exact Nat.lt_succ_of_lt (I.own c m hm).2⟩) hst (fun q y hy c hc => ⟨Lib.bytesWorld_at_old w el b c (I.holdlt hy hc).2,rfl⟩)
   have hlen:b.data.toList.length = b.size:=by rw [Array.length_toList]; rfl
   have hget:∀ i,i < b.size → (b.data.toList.map fun c => AV.val (.int .u8 c.toNat))[i]? = some (.val (.int .u8 (b.data.toList.getD i 0).toNat)):=by
    intro i hi
    rw [List.getElem?_map,List.getElem?_eq_getElem (by omega),List.getD_eq_getElem?_getD,List.getElem?_eq_getElem (by omega)]
    rfl
   refine op_value hrun ?_
   refine k ν O _ _ (I2.put1 o.dst (.imm ?_) (fun q hq => by cases hq) hd)
   refine .sl _ _ _ _ 1 ⟨w.heap.size,0,none⟩ (fun i => [.int .u8 (b.data.toList.getD i 0).toNat]) (by rw [List.length_map,hlen]) ⟨grownCap_ge w _ _ _,hb⟩ (fun _ => ⟨rfl,rfl,fun q _ => ⟨by rw [hsz]; exact Nat.lt_succ_self _,fun m hm => ?_,fun ho => ?_⟩⟩) (fun i y hy => ?_) (fun i hi => rfl) (fun i hi j v hv => ?_)
   ·have hf:O w.heap.size = none:=I.fresh
    rw [hf] at hm
    cases hm
   ·exact absurd ho.1 (Nat.not_lt_of_le I.bel.size)
   ·have hi:i < b.size:=by
     have:=(List.getElem?_eq_some_iff.1 hy).1
     simpa [hlen] using this
    rw [hget i hi] at hy
    obtain rfl:=Option.some.inj hy
    exact .one _ _ rfl (.val _ rfl)
   ·cases j with
    | zero =>
     simp only [List.getElem?_cons_zero,Option.some.injEq] at hv
     subst hv
     have:=Lib.bytesWorld_cell w el b i hi
     simp only [cellAt,Nat.mul_one,Nat.add_zero,Nat.zero_add]
     exact this
    | succ j => simp at hv
  ·cases h1
 ·rename_i v s2
  split at h1
  ·rename_i l hl
   obtain ⟨hfl,h1⟩:=plain_of h1
   simp only [Option.some.injEq,Prod.mk.injEq] at h1
   obtain ⟨rfl,rfl,_⟩:=h1
   obtain ⟨⟨el,ht,he,hu⟩,xs,rfl,rfl⟩:=hp
   obtain ⟨A,c,sz,ad,cs,e1,e2,e3,e4,e5,e6⟩:=rep_sl (vwT_rep I hl).1
   rw [List.length_map] at e1 e2 e3 e5 e6
   have hone:∀ i (hi:i < xs.length),cs i = [.int .u8 xs[i]]:=by
    intro i hi
    have:=e4 i (.val (.int .u8 xs[i])) (by rw [List.getElem?_map,List.getElem?_eq_getElem hi]; rfl)
    obtain ⟨c0,hc0⟩ : ∃ c0,c0 = cs i:=⟨_,rfl⟩
    rw [← hc0] at this ⊢
    cases this with
    | one _ y _ hr =>
     obtain rfl:=(rep_val hr).1
     rfl
   have hload:(convert t u (a.eval x)).run P w = .ok (.string (strOfNums xs)) w:=by
    rw [e1]
    by_cases hn:0 < xs.length
    ·obtain ⟨rfl,hs,_⟩:=e3 hn
     have hs1:sz = 1:=by
      have:=e5 0 hn
      rw [hone 0 hn] at this
      exact this.symm
     subst hs1
     have hl2:(loadCells ad xs.length).run P w = .ok (xs.map (Value.int .u8)).toArray w:=by
      have:=run_loadCells_list (P:=P) w ad (xs.map (Value.int .u8)) (fun j y hj => by
       have hjl:j < xs.length:=by
        have:=(List.getElem?_eq_some_iff.1 hj).1
        simpa using this
       rw [List.getElem?_map,List.getElem?_eq_getElem hjl] at hj
       simp only [Option.map_some,Option.some.injEq] at hj
       subst hj
       have:=e6 j hjl 0 (.int .u8 xs[j]) (by rw [hone j hjl]; rfl)
       rw [add_eq hs]
       simpa [cellAt] using this)
      simpa using this
     rw [run_convert_bytes_string w t u el _ _ _ ht he hu,run_bytesToString w ad _ _ xs hl2,foldl_push_bytes]
     simp [strOfNums,ByteArray.empty,ByteArray.emptyWithCapacity]
     rfl
    ·have h0:xs = []:=List.length_eq_zero_iff.1 (by omega)
     subst h0
     cases A with
     | none => exact run_convert_bytes_nil w t el ht he _ _ u hu
     | some ad2 =>
      have hl2:(loadCells ad2 0).run P w = .ok (([] : List Int).map (Value.int .u8)).toArray w:=by
       have:=run_loadCells_list (P:=P) w ad2 [] (fun j y hj => by simp at hj)
       simpa using this
      rw [show ([] : List Int).length = 0 from rfl,run_convert_bytes_string w t u el _ _ _ ht he hu,run_bytesToString w ad2 _ _ [] hl2]
      rfl
   refine op_imm I ?_ (.val _ rfl) rfl hd k
   unfold execOp
   rw [ho]
   simp only [Sem.run_bind,hload,Result.andThen_ok]
   rfl
  ·cases h1
 ·exact op_ask I (by rw [ho]; intro cs b; nofun) h1 hp hd k
theorem clear_sound {Q:Exit → Act → World → Prop} {K:Act → World → Prop} {o:Oper} {c:Call} {s s':List Ans} {ws:List (Nat × Option AV)} {p:Option Prop} (I:Inv P w0 ν O n e a w) (ho:o.op = .call c) (hcal:c.callee = .builtin .clear) (h1:clearOp P h e s o c = some (ws,p,s')) (hp:holds p)
  (hd:∀ t,o.dst = some t → t < n) (k:Next P w0 n (e.puts ws) K):o.wp P a w K Q:=by
 unfold clearOp at h1
 split at h1
 ·rename_i x t ha1 ha2
  split at h1
  ·rename_i q i sz T m' T' l' s9 hx hu
   split at h1
   ·rename_i T2 l hcq
    obtain ⟨⟨kk,by_⟩,hk,h1⟩:=Option.bind_eq_some_iff.1 h1
    obtain ⟨z,hz,h1⟩:=Option.bind_eq_some_iff.1 h1
    obtain ⟨hc,h1⟩:=plain_of h1
    simp only [Option.some.injEq,Prod.mk.injEq] at h1
    obtain ⟨rfl,rfl,_⟩:=h1
    simp only [Bool.and_eq_true] at hc
    obtain ⟨hs,hT,hfz⟩:=hc
    obtain rfl:kk = sz:=Nat.eq_of_beq_eq_true hs
    obtain rfl:=Nat.eq_of_beq_eq_true hT
    obtain ⟨p1,rfl⟩:=hp
    have hq:=cont_some hcq
    obtain ⟨inf,zv,hi,hzv,hsize,hby,hk0,hby0,hzs⟩:=kindOf_some hk
    unfold zeroAV at hz
    obtain ⟨zv',hz1,hz2⟩:=Option.bind_eq_some_iff.1 hz
    rw [hi,Option.bind_some,hzv] at hz1
    obtain rfl:=Option.some.inj hz1
    obtain ⟨hr,hkf⟩:=ofV_rep (w:=w) (okO w0 w O) hz2
    obtain ⟨hf1,hf2⟩:=fitsK_some hfz
    obtain ⟨cs,c1,c2,c3,c4,c5⟩:=rep_cells (ν:=ν) (fits_parts hf1) (.imm hr)
    have c6:=c5.cs hkf
    have hinf:(P.info? T).map (·.size) = some kk:=by rw [hi,Option.map_some,hsize]
    have hcs:cs.length = kk:=by
     have:zv.cells.size = cs.length:=by rw [c1]; simp
     omega
    obtain ⟨g,m0,c0,hν,hxv⟩:=tl_inv (opd_rep I hx).1
    obtain ⟨N,hN⟩ : ∃ N,N = l.length - i:=⟨_,rfl⟩
    obtain ⟨old,o1,o2,o3,o4⟩:=I.setTl (z:=z) (zs:=cs) (ds:=(madeCells cs.toArray (N * kk)).toList) (i:=i) hq hν hinf p1 c6 (by rw [Array.length_toList,size_madeCells,hN]) (fun q hq => madeCells_get hcs hk0 (by omega))
    subst o3
    have hst:=run_storeCells_at (P:=P) g T (madeCells cs.toArray (N * kk)).toList (i * kk + 0) old.toArray w o1 (by simpa using o2) (fun u hu => by
     rw [Array.mem_toList_iff] at hu
     unfold madeCells at hu
     obtain ⟨r,hr,rfl⟩:=Array.mem_map.1 hu
     have hlt:r % cs.toArray.size < cs.length:=by
      simp only [List.size_toArray]
      exact Nat.mod_lt _ (by omega)
     rw [getElem!_pos cs.toArray _ (by simpa using hlt)]
     exact c4 _ (by simp only [List.getElem_toArray]; exact List.getElem_mem _))
    have hzero:∀ w,(zeroValue T).run P w = .ok zv w:=fun w => by
     simp only [zeroValue,typeInfo,Sem.run_bind]
     show Result.andThen (Result.andThen (Sem.run P program w) _) _ = _
     rw [show Sem.run P program w = .ok P w from rfl]
     simp only [Result.andThen_ok,hi]
     simp only [Sem.run_pure,Result.andThen_ok,hzv]
    have hzc:(Builtin.zeroCells zv.cells N).toList = (madeCells cs.toArray (N * kk)).toList:=by
     rw [c1]
     unfold Builtin.zeroCells madeCells
     simp only [List.size_toArray,hcs]
    have hrun:(execOp a.eval o).run P w = .ok (.value (.tuple #[])) (w.setRow g (setM old (i * kk) (madeCells cs.toArray (N * kk)).toList).toArray):=by
     have hargs:c.args = #[x]:=by
      apply Array.toList_inj.1
      exact ha1
     have hat:c.argTypes = #[t]:=by
      apply Array.toList_inj.1
      exact ha2
     rw [← hN] at hxv
     obtain ⟨M,rfl⟩ : ∃ M,N = M + 1:=⟨N - 1,by omega⟩
     unfold execOp
     rw [ho]
     simp only [resolve,hcal,hargs,hat,Sem.run_bind,invoke,builtin]
     simp only [Sem.run_pure,Result.andThen_ok,List.map_toArray,List.map_cons,List.map_nil,hxv]
     rw [← storeCells_shift] at hst
     simp only [Nat.add_zero] at hst
     simp [Builtin.clear_,run_underlying hu,hzero,hzc,hst]
    refine op_value hrun ?_
    cases hdst:o.dst with
    | none =>
     exact k ν O _ _ (by rw [hdst]; exact o4)
    | some d =>
     have I5:=o4.put (y:=.tup []) (v:=.tuple #[]) (d:=d) (.tup [] [] rfl (fun i x v hx hv => by simp at hx)) (fun r hr => by simp [AV.keys,keysL] at hr) (hd d hdst)
     exact k ν O _ _ (by rw [hdst]; exact I5)
   ·cases h1
  ·cases h1
 ·cases h1
theorem op_sound {Q:Exit → Act → World → Prop} {K:Act → World → Prop} {o:Oper} {s s':List Ans} {ws:List (Nat × Option AV)} {p:Option Prop} (I:Inv P w0 ν O n e a w) (h1:evalOp P h n e s o = some (ws,p,s')) (hp:holds p)
  (hd:∀ t,o.dst = some t → t < n) (k:Next P w0 n (e.puts ws) K):o.wp P a w K Q:=by
 unfold evalOp at h1
 split at h1
 ·rename_i x ho
  exact move_sound I (.inl ho) h1 hd k
 ·rename_i x ho
  exact move_sound I (.inr ho) h1 hd k
 ·-- pick
  rename_i c y z ho
  split at h1
  ·rename_i t hc
   obtain ⟨r,h2,h3⟩:=Option.map_eq_some_iff.1 h1
   simp only [Prod.mk.injEq] at h3
   obtain ⟨rfl,_,_⟩:=h3
   have hcv:=(rep_val (val_inv (opd_rep I hc).1)).1
   obtain ⟨hr,hk⟩:=opd_rep I h2
   refine op_put I (ex_pick _ o c y z t ho hcv w) ?_ hk hd k
   cases t <;> exact hr
  ·cases h1
 ·-- alloc
  rename_i t ho
  obtain ⟨y,hz,h2⟩:=Option.bind_eq_some_iff.1 h1
  obtain ⟨hf,h3⟩:=plain_of h2
  obtain ⟨d,hdst,h4⟩:=Option.bind_eq_some_iff.1 h3
  obtain ⟨hfr,h5⟩:=plain_of h4
  simp only [Option.some.injEq,Prod.mk.injEq] at h5
  obtain ⟨rfl,_,_⟩:=h5
  unfold zeroAV at hz
  obtain ⟨z,hz1,hz2⟩:=Option.bind_eq_some_iff.1 hz
  obtain ⟨inf,hi,hz3⟩:=Option.bind_eq_some_iff.1 hz1
  obtain ⟨hr,hkf⟩:=ofV_rep (w:=w) (okO w0 w O) hz2
  exact box_sound I (fits_parts hf) (.imm hr) (fun q hq => by rw [kf_keys hkf] at hq; cases hq) hdst hfr (ex_alloc _ o t inf z ho hi hz3) hd k
 ·-- load
  rename_i t y ho
  exact load_sound I ho h1 hp hd k
 ·-- box
  rename_i t x ho
  obtain ⟨y,hy,h2⟩:=Option.bind_eq_some_iff.1 h1
  obtain ⟨hf,h3⟩:=plain_of h2
  obtain ⟨d,hdst,h4⟩:=Option.bind_eq_some_iff.1 h3
  obtain ⟨hfr,h5⟩:=plain_of h4
  simp only [Option.some.injEq,Prod.mk.injEq] at h5
  obtain ⟨rfl,_,_⟩:=h5
  obtain ⟨hr,hk⟩:=opd_rep I hy
  exact box_sound I (fits_parts hf) hr hk hdst hfr (ex_box _ o t x _ ho rfl) hd k
 ·-- nilCheck
  rename_i x ho
  have ptrCase:∀ {ad:Addr} {y:AV},a.eval x = .pointer (some ad) → opd e x = some y → Next P w0 n (e.puts (w1 o.dst y)) K → o.wp P a w K Q:=by
   intro ad y hv hy k
   obtain ⟨hr,hk⟩:=opd_rep I hy
   refine op_put I (v:=a.eval x) ?_ hr hk hd k
   unfold execOp
   rw [ho]
   simp only [hv]
   rfl
  split at h1
  ·rename_i y hy
   simp only [Option.some.injEq,Prod.mk.injEq] at h1
   obtain ⟨rfl,_,_⟩:=h1
   obtain ⟨ad,cs,hv,_⟩:=rep_ptr (ptr_inv (opd_rep I hy).1)
   exact ptrCase hv hy k
  ·rename_i f c hy
   simp only [Option.some.injEq,Prod.mk.injEq] at h1
   obtain ⟨rfl,_,_⟩:=h1
   obtain ⟨hr,hk⟩:=opd_rep I hy
   obtain ⟨vs,hv,_⟩:=fn_inv hr
   refine op_put I (v:=a.eval x) ?_ hr hk hd k
   unfold execOp
   rw [ho]
   simp only [hv]
   rfl
  ·rename_i q i hy
   simp only [Option.some.injEq,Prod.mk.injEq] at h1
   obtain ⟨rfl,_,_⟩:=h1
   obtain ⟨b,_,hv⟩:=loc_inv (opd_rep I hy).1
   exact ptrCase hv hy k
  ·rename_i q i sz j hy
   simp only [Option.some.injEq,Prod.mk.injEq] at h1
   obtain ⟨rfl,_,_⟩:=h1
   obtain ⟨g,m0,c0,_,hv⟩:=el_inv (opd_rep I hy).1
   exact ptrCase hv hy k
  ·cases h1
 ·-- store
  rename_i t x v ho
  exact store_sound I ho h1 hp k
 ·-- indexAddr
  rename_i t x i ho
  split at h1
  ·rename_i s2
   split at h1
   ·rename_i q kk m hx hm
    split at h1
    ·rename_i u T l T' hc hu
     obtain ⟨hT,h2⟩:=plain_of h1
     obtain ⟨⟨sz,by_⟩,hk,h3⟩:=Option.bind_eq_some_iff.1 h2
     simp only [Option.some.injEq,Prod.mk.injEq] at h3
     obtain ⟨rfl,rfl,_⟩:=h3
     obtain ⟨h0,hlt⟩ : 0 ≤ m ∧ m.toNat < l.length:=hp
     obtain rfl:=Nat.eq_of_beq_eq_true hT
     obtain ⟨hxv,A,nn,cc,hν⟩:=row_inv (opd_rep I hx).1
     have hiv:=(rep_val (val_inv (opd_rep I hm).1)).1
     obtain ⟨sz',xs,r1,r2,r3,r4,r5⟩:=I.key q _ (cont_some hc) rfl
     obtain ⟨ii,z,hi,hz,hsize,hby,hk0,hby0,hzs⟩:=kindOf_some hk
     rcases r1.2 with ⟨_,hn⟩ | ⟨g,cap,cur,hv,_⟩
     ·omega
     ·refine op_put I (ex_index _ o t T x i ⟨g,0,none⟩ kk m l.length cap sz ho hu (by rw [hi,Option.map_some,hsize]) (hxv.trans hv) hiv h0 (by omega)) ?_ (fun r hr => ?_) hd k
      ·rw [base_add]
       exact .el q m.toNat sz 0 g _ _ hv
      ·simp only [AV.keys,List.mem_singleton] at hr
       subst hr
       rw [cont_some hc]
       nofun
    ·cases h1
   ·rename_i q i0 sz0 kk m hx hm
    split at h1
    ·rename_i u T l T' hc hu
     obtain ⟨hT,h2⟩:=plain_of h1
     obtain ⟨⟨sz,by_⟩,hk,h3⟩:=Option.bind_eq_some_iff.1 h2
     obtain ⟨hsq,h3⟩:=plain_of h3
     simp only [Option.some.injEq,Prod.mk.injEq] at h3
     obtain ⟨rfl,rfl,_⟩:=h3
     obtain ⟨h0,hlt⟩ : 0 ≤ m ∧ i0 + m.toNat < l.length:=hp
     obtain rfl:=Nat.eq_of_beq_eq_true hT
     obtain rfl:sz = sz0:=Nat.eq_of_beq_eq_true hsq
     obtain ⟨g,m0,c0,hν,hxv⟩:=tl_inv (opd_rep I hx).1
     have hiv:=(rep_val (val_inv (opd_rep I hm).1)).1
     obtain ⟨sz',xs,r1,r2,r3,r4,r5⟩:=I.key q _ (cont_some hc) rfl
     obtain ⟨ii,z,hi,hz,hsize,hby,hk0,hby0,hzs⟩:=kindOf_some hk
     rcases r1.2 with ⟨_,hn⟩ | ⟨g',cap,cur,hv,_⟩
     ·omega
     ·rw [hν] at hv
      injection hv with e1 e2 e3
      subst e2
      refine op_put I (ex_index _ o t T x i ⟨g,i0 * sz,none⟩ kk m (l.length - i0) (c0 - i0) sz ho hu (by rw [hi,Option.map_some,hsize]) hxv hiv h0 (by omega)) ?_ (fun r hr => ?_) hd k
      ·rw [off_add,← Nat.add_mul]
       exact .el q (i0 + m.toNat) sz 0 g _ _ hν
      ·simp only [AV.keys,List.mem_singleton] at hr
       subst hr
       rw [cont_some hc]
       nofun
    ·cases h1
   ·cases h1
  ·rename_i z s2
   split at h1
   ·rename_i l kk m hl hm
    obtain ⟨hf,h3⟩:=plain_of h1
    simp only [Option.some.injEq,Prod.mk.injEq] at h3
    obtain ⟨rfl,rfl,_⟩:=h3
    obtain ⟨h0,hg⟩ : 0 ≤ m ∧ l[m.toNat]? = some z:=hp
    obtain ⟨A,c,sz,ad,cs,e1,e2,e3,e4,e5,e6⟩:=rep_sl (vw_rep I hl).1
    have hiv:=(rep_val (val_inv (opd_rep I hm).1)).1
    have hlt:m.toNat < l.length:=(List.getElem?_eq_some_iff.1 hg).1
    obtain ⟨rfl,hs,hb⟩:=e3 (by omega)
    unfold fitsE at hf
    split at hf
    ·rename_i el hu
     simp only [Bool.and_eq_true,beq_iff_eq] at hf
     have hcln:=Cs.len (e4 m.toNat z hg)
     have hsz:sz = z.cnt:=by rw [← hcln]; exact (e5 m.toNat hlt).symm
     rw [← hsz] at hf
     refine op_imm I (ex_index _ o t el x i ad kk m l.length c sz ho hu hf.2 e1 hiv h0 (by omega)) ?_ rfl hd k
     rw [add_eq hs]
     have hmul:(m.toNat + 1) * sz ≤ l.length * sz:=Nat.mul_le_mul_right sz hlt
     rw [Nat.add_mul,Nat.one_mul] at hmul
     refine .ptr z _ (cs m.toNat) rfl (e4 m.toNat z hg) (fun q hq => ?_) (fun j u hu => by rw [cellAt_cellAt]; exact e6 m.toNat hlt j u hu)
     rw [e5 m.toNat hlt] at hq
     have:=hb (m.toNat * sz + q) (by omega)
     simp only [cellAt]
     rw [Nat.add_assoc]
     exact this
    ·cases hf
   ·cases h1
  ·cases h1
 ·-- slice
  rename_i t y lo hi mx ho
  split at h1
  ·split at h1
   ·rename_i l' s2
    split at h1
    ·rename_i l hl
     obtain ⟨k1,e1,h1⟩:=Option.bind_eq_some_iff.1 h1
     obtain ⟨i,e2,h1⟩:=Option.bind_eq_some_iff.1 h1
     obtain ⟨j,e3,h1⟩:=Option.bind_eq_some_iff.1 h1
     simp only [Option.some.injEq,Prod.mk.injEq] at h1
     obtain ⟨rfl,rfl,_⟩:=h1
     obtain ⟨p0,p1,p2,rfl,p4⟩:=hp
     unfold elemK at e1
     split at e1
     ·rename_i el hu
      obtain ⟨A,c,sz,ad,cs,h1,h2,h3,h4,h5,h6⟩:=rep_sl (vw_rep I hl).1
      refine op_imm I (ex_slice o t el y lo hi A l.length c k1 i j ho hu e1 h1 (bnd_eval I e2) (bnd_eval I e3) p0 p1 (by omega) h2.1) ?_ rfl hd k
      have hlen:((l.take j.toNat).drop i.toNat).length = j.toNat - i.toNat:=by
       rw [List.length_drop,List.length_take]
       omega
      have hget:∀ (q:Nat) (x:AV),((l.take j.toNat).drop i.toNat)[q]? = some x → l[i.toNat + q]? = some x ∧ i.toNat + q < j.toNat:=by
       intro q x hq
       rw [List.getElem?_drop,List.getElem?_take] at hq
       split at hq
       ·exact ⟨hq,by assumption⟩
       ·cases hq
      refine .sl _ _ _ _ sz (cellAt ad (i.toNat * sz)) (fun q => cs (i.toNat + q)) hlen ⟨by omega,by omega⟩ (fun hn => ?_) (fun q x hq => h4 _ x (hget q x hq).1) (fun q hq => h5 _ (by omega)) (fun q hq r u hu2 => ?_)
      ·obtain ⟨rfl,g1,g2⟩:=h3 (by omega)
       have hszk:sz = k1:=by
        have hlt:0 < l.length:=by omega
        have:=Cs.len (h4 0 l[0] (List.getElem?_eq_getElem hlt))
        rw [h5 0 hlt,p4 _ (List.getElem_mem hlt)] at this
        exact this
       rw [if_neg (by omega),← hszk]
       refine ⟨by rw [Option.map_some,add_eq g1],rfl,fun q hq => ?_⟩
       have hq2:i.toNat * sz + q < l.length * sz:=by
        have e4:i.toNat * sz + (j.toNat - i.toNat) * sz = j.toNat * sz:=by
         rw [← Nat.add_mul]
         congr 1
         omega
        have e5:j.toNat * sz ≤ l.length * sz:=Nat.mul_le_mul_right sz (by omega)
        omega
       have:=g2 _ hq2
       simp only [cellAt]
       rw [Nat.add_assoc]
       exact this
      ·rw [cellAt_cellAt,← Nat.add_assoc,← Nat.add_mul]
       exact h6 _ (by omega) r u hu2
     ·cases e1
    ·cases h1
   ·unfold tailOp at h1
    split at h1
    ·rename_i kk hx
     split at h1
     ·rename_i T l hcq
      split at h1
      ·obtain ⟨sz,e1,h1⟩:=Option.bind_eq_some_iff.1 h1
       obtain ⟨i,e2,h1⟩:=Option.bind_eq_some_iff.1 h1
       simp only [Option.some.injEq,Prod.mk.injEq] at h1
       obtain ⟨rfl,rfl,_⟩:=h1
       obtain ⟨p0,p1⟩:=hp
       unfold elemK at e1
       split at e1
       ·rename_i el hu
        have hq:=cont_some hcq
        obtain ⟨hxv,A,nn,cc,hν⟩:=row_inv (opd_rep I hx).1
        obtain ⟨sz2,xs,hown,hsz,hinf,hcs,hO⟩ : OwRep P w (okO w0 w O) O true T l (ν kk):=I.key kk _ hq rfl
        obtain ⟨hxl,hv | ⟨g,cap,cur,hv,hb,hg,hle,hm,hsz3,htk⟩⟩:=hown
        ·omega
        ·rw [hv] at hν hxv
         refine op_put I (y:=.tl kk i.toNat sz) (ex_slice o t el y lo _ (some ⟨g,0,none⟩) l.length cap sz i l.length ho hu e1 hxv (bnd_eval I e2) (.inl ⟨rfl,rfl⟩) p0 (by omega) (by omega) hle) ?_ (fun r hr => ?_) hd k
         ·rw [if_neg (by omega),Option.map_some,add_eq rfl]
          have:=RepK.tl (w:=w) (ok:=okO w0 w O) (ν:=ν) kk i.toNat sz g l.length cap hv
          simpa [cellAt] using this
         ·simp only [AV.keys,List.mem_singleton] at hr
          subst hr
          rw [hq]
          nofun
       ·cases e1
      ·rename_i hi9
       split at h1
       ·rename_i m' T' l' s9
        obtain ⟨sz,e1,h1⟩:=Option.bind_eq_some_iff.1 h1
        obtain ⟨j,e2,h1⟩:=Option.bind_eq_some_iff.1 h1
        obtain ⟨d,hdst,h1⟩:=Option.bind_eq_some_iff.1 h1
        obtain ⟨hcf,h1⟩:=plain_of h1
        simp only [Bool.and_eq_true] at hcf
        simp only [Option.some.injEq,Prod.mk.injEq] at h1
        obtain ⟨rfl,rfl,_⟩:=h1
        obtain ⟨p0,p1,rfl⟩:=hp
        unfold elemK at e1
        split at e1
        ·rename_i el hu
         have hq:=cont_some hcq
         have hfr:=fresh_eq hcf.2
         obtain ⟨hxv,A,nn,cc,hν⟩:=row_inv (opd_rep I hx).1
         obtain ⟨sz2,xs,hown,hsz,hinf,hcs,hO⟩ : OwRep P w (okO w0 w O) O true T l (ν kk):=I.key kk _ hq rfl
         have hcap:∃ A cap,ν kk = .slice A l.length cap ∧ l.length ≤ cap:=by
          rcases hown.2 with ⟨hv,h0⟩ | ⟨g,cap,cur,hv,hb,hg,hle,_⟩
          ·exact ⟨none,0,by rw [hv,h0],by omega⟩
          ·exact ⟨_,cap,hv,hle⟩
         obtain ⟨A',cap,hv,hle⟩:=hcap
         rw [hv] at hxv
         have hrun:(execOp a.eval o).run P w = .ok (.value (.slice A' j.toNat cap)) w:=by
          have:=ex_slice (w:=w) o t el y none (some hi9) A' l.length cap sz 0 j ho hu e1 hxv (.inl ⟨rfl,rfl⟩) (bnd_eval I e2) (Int.le_refl _) p0 (by omega) hle
          rw [this]
          congr 2
          cases A' with
          | none => simp
          | some ad =>
           simp only [Option.map_some,Int.toNat_zero,Nat.zero_mul,Nat.sub_zero]
           rw [show ad.add 0 = ad from by simp [Addr.add]]
           simp
         have hne:n + d ≠ kk:=fun h => by
          rw [h,hq] at hfr
          cases hfr
         have hown2:OwRep P w (okO w0 w O) O true T (l.take j.toNat) (.slice A' j.toNat cap):=by
          have hlen:(l.take j.toNat).length = j.toNat:=by
           rw [List.length_take]
           omega
          have hmul:=Nat.mul_le_mul_right sz2 p1
          refine ⟨sz2,xs.take (j.toNat * sz2),⟨by rw [hlen,List.length_take,hown.1]; omega,?_⟩,hsz,hinf,fun q x hq9 => ?_,fun b hb => ?_⟩
          ·rcases hown.2 with ⟨hv9,h0⟩ | ⟨g,cap9,cur,hv9,hb,hg,hle,hm,hsz3,htk⟩
           ·rw [hv] at hv9
            injection hv9 with e1 e2 e3
            subst e1 e3
            left
            rw [hlen]
            exact ⟨by rw [show j.toNat = 0 by omega],by omega⟩
           ·rw [hv] at hv9
            injection hv9 with e1 e2 e3
            subst e1 e3
            right
            rw [hlen]
            refine ⟨g,cap,cur,rfl,hb,hg,by omega,hm,hsz3,?_⟩
            rw [← htk,List.take_take]
            congr 1
            omega
          ·rw [List.getElem?_take] at hq9
           split at hq9
           ·rename_i hlt
            have:=hcs q x hq9
            rw [List.drop_take,List.take_take]
            have hm2:=Nat.mul_le_mul_right sz2 hlt
            rw [Nat.succ_mul] at hm2
            rw [show min sz2 (j.toNat * sz2 - q * sz2) = sz2 by omega]
            exact this
           ·cases hq9
          ·have:=hO b (by
            rw [hv]
            cases A' with
            | none => simp [Value.ownBlock] at hb
            | some ad => exact hb)
           simpa using this
         have I2:Inv P w0 ν O n (e.put kk (some .dead)) a w:=I.tell hq rfl trivial (fun b hb => by simp [hold] at hb) (fun r hr => by cases hr)
         have I3:=I2.addKey (k:=n + d) (x:=.ow true T (l.take j.toNat)) (v:=.slice A' j.toNat cap) (I.keyLt (hd d hdst)) (by rw [Env.put_ne _ _ hne]; exact hfr) hown2 (fun b hb r z hz hh => by
          rcases put_cases hz with ⟨rfl,rfl⟩ | ⟨hrq,hz⟩
          ·simp [hold] at hh
          ·refine I.far r kk z _ hrq hz hq b hh ?_
           rw [hv]
           simp only [hold] at hb ⊢
           cases A' with
           | none => simp [Value.ownBlock] at hb
           | some ad => exact hb) (fun q hq => by cases hq)
         refine op_value hrun ?_
         rw [hdst]
         exact k _ O _ _ (I3.put (.row (n + d) A' j.toNat cap (Val.same _ _ _)) (fun q hq => by
          simp only [AV.keys,List.mem_singleton] at hq
          subst hq
          rw [Env.put_same]
          nofun) (hd d hdst))
        ·cases e1
       ·cases h1
     ·cases h1
    ·cases h1
   ·exact op_ask I (by rw [ho]; intro cs b; nofun) h1 hp hd k
  ·rename_i m0
   split at h1
   ·split at h1
    ·rename_i l hl
     obtain ⟨sz,e0,h1⟩:=Option.bind_eq_some_iff.1 h1
     obtain ⟨i,e1,h1⟩:=Option.bind_eq_some_iff.1 h1
     obtain ⟨j,e2,h1⟩:=Option.bind_eq_some_iff.1 h1
     obtain ⟨q,e3,h1⟩:=Option.bind_eq_some_iff.1 h1
     obtain ⟨d,hdst,h1⟩:=Option.bind_eq_some_iff.1 h1
     obtain ⟨hs,h1⟩:=plain_of h1
     simp only [Option.some.injEq,Prod.mk.injEq] at h1
     obtain ⟨rfl,rfl,_⟩:=h1
     obtain ⟨p0,p1,p2,p3⟩:=hp
     obtain ⟨A,c,sz2,ad,cs,g1,g2,_⟩:=rep_sl (vwT_rep I hl).1
     obtain ⟨y9,rfl⟩:=Option.isSome_iff_exists.1 hs
     unfold elemK at e0
     split at e0
     ·rename_i el hu
      obtain ⟨v,hv⟩:=ex_slice3 o t el y lo y9 m0 A l.length c sz i j q ho hu e0 g1 (bnd_eval I e1) (by
       rcases bnd_eval I e2 with ⟨h,_⟩ | ⟨o9,k9,h,h'⟩
       ·cases h
       ·obtain rfl:=Option.some.inj h
        exact ⟨k9,h'⟩) (by
       rcases bnd_eval I e3 with ⟨h,_⟩ | ⟨o9,k9,h,h'⟩
       ·cases h
       ·obtain rfl:=Option.some.inj h
        exact ⟨k9,h'⟩) p0 p1 p2 p3 g2.1
      refine op_value hv ?_
      rw [hdst]
      exact k ν O _ _ (I.putDead (hd d hdst))
     ·cases e0
    ·cases h1
   ·exact op_ask I (by rw [ho]; intro cs b; nofun) h1 hp hd k
 ·-- fieldAddr
  rename_i t x i ho
  split at h1
  ·rename_i q j r hy hj
   simp only [Option.some.injEq,Prod.mk.injEq] at h1
   obtain ⟨rfl,_,_⟩:=h1
   obtain ⟨off,s0,b0⟩:=r
   obtain ⟨hr,hk⟩:=opd_rep I hy
   obtain ⟨b,hν,hv⟩:=loc_inv hr
   refine op_put I (y:=.loc q (j + off)) (ex_fieldAddr a.eval o t x i off s0 b0 _ ho hj hv) ?_ (fun r hr => hk r hr) hd k
   rw [off_add]
   exact .loc q (j + off) b hν
  ·rename_i q m sz j r hy hj
   simp only [Option.some.injEq,Prod.mk.injEq] at h1
   obtain ⟨rfl,_,_⟩:=h1
   obtain ⟨off,s0,b0⟩:=r
   obtain ⟨hr,hk⟩:=opd_rep I hy
   obtain ⟨g,m0,c0,hν,hv⟩:=el_inv hr
   refine op_put I (y:=.el q m sz (j + off)) (ex_fieldAddr a.eval o t x i off s0 b0 _ ho hj hv) ?_ (fun r hr => hk r hr) hd k
   rw [off_add,Nat.add_assoc]
   exact .el q m sz (j + off) g m0 c0 hν
  ·rename_i l r hy hj
   obtain ⟨y,hpt,h3⟩:=Option.map_eq_some_iff.1 h1
   simp only [Prod.mk.injEq] at h3
   obtain ⟨rfl,_,_⟩:=h3
   obtain ⟨off,s0,b0⟩:=r
   obtain ⟨ad,cs,g1,g2,g3,g4,g5⟩:=rep_ptr (ptr_inv (opd_rep I hy).1)
   have hkf:=g3.kfx
   have hC:=part_cs (ν:=ν) (g3.toK (ν:=ν)).1 (g3.toK (ν:=ν)).2.1 (g3.toK (ν:=ν)).2.2 hpt
   have hykf:y.kf = true:=by
    simp only [AV.kf] at hkf
    rcases part_sub hpt with ⟨_,rfl,_⟩ | ⟨_,hg,_⟩
    ·simp only [AV.kf]
     exact kfL_of fun x hx => kfL_mem hkf x (List.mem_of_mem_drop (List.mem_of_mem_take hx))
    ·exact kfL_mem hkf y (List.mem_of_getElem? hg)
   refine op_imm I (ex_fieldAddr a.eval o t x i off s0 b0 _ ho hj g1) ?_ rfl hd k
   rw [add_eq g2]
   refine .ptr y _ _ rfl (hC.cs hykf) (fun q hq => ?_) (fun q u hu => ?_)
   ·simp only [cellAt]
    rw [Nat.add_assoc]
    refine g4 _ ?_
    rw [List.length_take,List.length_drop] at hq
    omega
   ·rw [cellAt_cellAt]
    rw [List.getElem?_take] at hu
    split at hu
    ·rw [List.getElem?_drop] at hu
     exact g5 _ u hu
    ·cases hu
  ·cases h1
 ·-- field
  rename_i t x i ho
  split at h1
  ·rename_i l r hy hj
   obtain ⟨y,hpt,h3⟩:=Option.map_eq_some_iff.1 h1
   simp only [Prod.mk.injEq] at h3
   obtain ⟨rfl,_,_⟩:=h3
   obtain ⟨off,s0,b0⟩:=r
   obtain ⟨hr,hk⟩:=opd_rep I hy
   obtain ⟨vs,hv,v1,v2,v3⟩:=agg_inv hr
   have hC:=part_cs v1 v2 v3 hpt
   have hl:off + (bif b0 then s0 else 1) ≤ vs.length:=by
    rcases part_sub hpt with ⟨rfl,_,h3⟩ | ⟨rfl,hg,_⟩
    ·simp only [List.length_take,List.length_drop] at h3
     simp only [cond_true]
     obtain ⟨fs,f,_,_,_,_,hs0⟩:=fieldOf_some hj
     omega
    ·have:=(List.getElem?_eq_some_iff.1 hg).1
     simp only [cond_false]
     simp only at this
     omega
   obtain ⟨v,hrun,rfl⟩:=ex_field a.eval o t x i off s0 b0 vs ho hj hv hl
   refine op_put I hrun ?_ (fun r hr => hk r (by simp only [AV.keys]; exact part_keys hpt r hr)) hd k
   rcases part_sub hpt with ⟨rfl,rfl,h3⟩ | ⟨rfl,hg,h3⟩
   ·exact .agg _ _ hC.1 hC.2.1 hC.2.2
   ·have hlt:=(List.getElem?_eq_some_iff.1 hg).1
    simp only at hlt
    have hlt2:off < vs.length:=by omega
    simp only [cond_false,List.getD,List.getElem?_eq_getElem hlt2,Option.getD_some]
    exact v3 off y _ hg (List.getElem?_eq_getElem hlt2)
  ·cases h1
 ·-- extract
  rename_i y i ho
  split at h1
  ·rename_i l hl
   obtain ⟨z,h2,h3⟩:=Option.map_eq_some_iff.1 h1
   simp only [Prod.mk.injEq] at h3
   obtain ⟨rfl,_,_⟩:=h3
   obtain ⟨hr,hk⟩:=opd_rep I hl
   obtain ⟨vs,g1,g2,g3⟩:=tup_inv hr
   have hlt:i < vs.length:=by
    have:=(List.getElem?_eq_some_iff.1 h2).1
    omega
   have hv:vs.toArray[i]? = some vs[i]:=by simp [List.getElem?_eq_getElem hlt]
   exact op_put I (ex_extract _ o y i _ _ ho g1 hv w) (g3 i z _ h2 (List.getElem?_eq_getElem hlt)) (fun r hr => hk r (by simp only [AV.keys]; exact mem_keysL.2 ⟨z,List.mem_of_getElem? h2,hr⟩)) hd k
  ·cases h1
 ·-- buildSlice
  rename_i t len ps ho
  split at h1
  ·rename_i T hu
   obtain ⟨⟨kk,by_⟩,hk,h1⟩:=Option.bind_eq_some_iff.1 h1
   obtain ⟨hb,h1⟩:=plain_of h1
   obtain ⟨l,hl,h1⟩:=Option.bind_eq_some_iff.1 h1
   obtain ⟨d,hdst,h1⟩:=Option.bind_eq_some_iff.1 h1
   obtain ⟨hfr,h1⟩:=plain_of h1
   simp only [Bool.and_eq_true] at hb
   have hb1:len * kk ≤ 16777216:=Nat.le_of_ble_eq_true hb.1
   have hb2:ps.toList.length = len:=Nat.eq_of_beq_eq_true hb.2
   obtain ⟨i,z,hi,hz,hsize,hby,hk0,hby0,hzs⟩:=kindOf_some hk
   have hinf:(P.info? T).map (·.size) = some kk:=by rw [hi,Option.map_some,hsize]
   obtain ⟨h1',h2,h3⟩:=elems_sound I hl
   let vs:=ps.toList.map fun p => a.eval p.2
   have hvl:vs.length = len:=by simp [vs,hb2]
   have hcell:∀ (q:Nat) (x:AV) (v:Value),l[q]? = some x → vs[q]? = some v → v.cells.size = kk ∧ Cs w (okO w0 w O) x v.cells.toList:=by
    intro q x v hx hv
    obtain ⟨g1,g2⟩:=h3 q x v hx hv
    obtain ⟨g1,g3⟩:=fitsK_some g1
    obtain ⟨cs,c1,c2,c3,c4,c5⟩:=rep_cells (ν:=ν) (fits_parts g1) (.imm g2)
    have c6:=c5.cs g2.kfx
    rw [hinf] at g3
    rw [c1]
    exact ⟨by rw [List.size_toArray,c6.len]; exact (Option.some.inj g3).symm,c6⟩
   have hvs:∀ v ∈ vs,v.cells.size = kk:=by
    intro v hv
    obtain ⟨q,hq⟩:=List.mem_iff_getElem?.1 hv
    have hql:q < l.length:=by
     have:=(List.getElem?_eq_some_iff.1 hq).1
     omega
    exact (hcell q l[q] v (List.getElem?_eq_getElem hql) hq).1
   obtain ⟨cells,c1,c2⟩:=run_buildSlice (P:=P) (w:=w) hu hk hvl hvs hb1
   have hrun:(execOp a.eval o).run P w = .ok (.value (.slice (some ⟨w.heap.size,0,none⟩) len len)) (w.alloc (.cells cells T)):=by
    unfold execOp
    rw [ho]
    have he:(ps.map fun (i,x) => (i,a.eval x)) = ((vs.zipIdx 0).map fun p => (p.2,p.1)).toArray:=by
     apply Array.toList_inj.1
     rw [Array.toList_map]
     exact h2
    simp only [he,Sem.run_bind,c2,Result.andThen_ok]
    rfl
   have hcl2:=flat_len vs hvs
   have fin:∀ u:Bool,Next P w0 n (e.puts [(n + d,some (.ow u T l)),(d,some (.row (n + d)))]) K → o.wp P a w K Q:=by
    intro u k
    refine op_value hrun ?_
    rw [hdst]
    obtain ⟨ν',O',I'⟩:=I.newRow (u:=u) (I.keyLt (hd d hdst)) (fresh_eq hfr) hinf hk0 (m:=len) (l:=l) (cs:=cells) (by rw [h1',hb2]) (by
     have:len ≤ len * kk:=Nat.le_mul_of_pos_right _ hk0
     simp only [maxLen]
     omega) (by rw [← Array.length_toList,c1,hcl2,hvl]) (fun q x hx => by
     have hqv:q < vs.length:=by
      have:=(List.getElem?_eq_some_iff.1 hx).1
      omega
     rw [c1,flat_take vs q vs[q] hvs (List.getElem?_eq_getElem hqv)]
     exact (hcell q x vs[q] hx (List.getElem?_eq_getElem hqv)).2) (hd d hdst)
    exact k _ _ _ _ I'
   split at h1
   ·simp only [Option.some.injEq,Prod.mk.injEq] at h1
    obtain ⟨rfl,_,_⟩:=h1
    exact fin true k
   ·simp only [Option.some.injEq,Prod.mk.injEq] at h1
    obtain ⟨rfl,_,_⟩:=h1
    exact fin false k
   ·cases h1
  ·cases h1
 ·-- makeSlice
  rename_i t x y ho
  split at h1
  ·rename_i T ka va kb vb m T' l s2 hu hx hy
   obtain ⟨⟨kk,by_⟩,hk,h1⟩:=Option.bind_eq_some_iff.1 h1
   obtain ⟨z,hz,h1⟩:=Option.bind_eq_some_iff.1 h1
   obtain ⟨d,hdst,h1⟩:=Option.bind_eq_some_iff.1 h1
   obtain ⟨hc,h1⟩:=plain_of h1
   simp only [Option.some.injEq,Prod.mk.injEq] at h1
   obtain ⟨rfl,rfl,_⟩:=h1
   simp only [Bool.and_eq_true] at hc
   obtain ⟨hfr,hfz,hT⟩:=hc
   obtain ⟨p0,rfl,p2,rfl⟩ : 0 ≤ va ∧ va = vb ∧ va * by_ ≤ 140737488355328 ∧ l = List.replicate va.toNat z:=hp
   obtain ⟨i,zv,hi,hzv,hsize,hby,hk0,hby0,hzs⟩:=kindOf_some hk
   unfold zeroAV at hz
   obtain ⟨zv',hz1,hz2⟩:=Option.bind_eq_some_iff.1 hz
   rw [hi,Option.bind_some,hzv] at hz1
   obtain rfl:=Option.some.inj hz1
   obtain ⟨hr,hkf⟩:=ofV_rep (w:=w) (okO w0 w O) hz2
   obtain ⟨hf1,hf2⟩:=fitsK_some hfz
   obtain ⟨cs,c1,c2,c3,c4,c5⟩:=rep_cells (ν:=ν) (fits_parts hf1) (.imm hr)
   have c6:=c5.cs hkf
   have hinf:(P.info? T).map (·.size) = some kk:=by rw [hi,Option.map_some,hsize]
   have hcs:cs.length = kk:=by
    have:zv.cells.size = cs.length:=by rw [c1]; simp
    omega
   have hxv:=(rep_val (val_inv (opd_rep I hx).1)).1
   have hyv:=(rep_val (val_inv (opd_rep I hy).1)).1
   have hva:va ≤ 140737488355328:=by
    have h5:va * 1 ≤ va * (by_:Int):=Int.mul_le_mul_of_nonneg_left (by omega) p0
    omega
   have hmk:=run_make (P:=P) w t T i zv hu hi hzv ka kb va va p0 (Int.le_refl _) (by rw [hby,Int.mul_comm]; omega) (by omega)
   rw [hsize,c1] at hmk
   have hrun:(execOp a.eval o).run P w = .ok (.value (.slice (some ⟨w.heap.size,0,none⟩) va.toNat va.toNat)) (w.alloc (.cells (madeCells cs.toArray (va.toNat * kk)) T)):=by
    unfold execOp
    rw [ho]
    simp only [hxv,hyv,Sem.run_bind,hmk,Result.andThen_ok]
    rfl
   refine op_value hrun ?_
   rw [hdst]
   obtain ⟨ν',O',I'⟩:=I.newRow (u:=m) (I.keyLt (hd d hdst)) (fresh_eq hfr) hinf hk0 (m:=va.toNat) (l:=List.replicate va.toNat z) (cs:=madeCells cs.toArray (va.toNat * kk)) (by simp) (by simp only [maxLen]; omega) (size_madeCells _ _) (fun q y hq => by
    obtain ⟨hlt,hy⟩:=List.getElem?_eq_some_iff.1 hq
    simp only [List.getElem_replicate] at hy
    subst hy
    rw [List.length_replicate] at hlt
    rw [madeCells_get hcs hk0 hlt]
    exact c6) (hd d hdst)
   exact k _ _ _ _ I'
  ·cases h1
 ·-- makeFunc
  rename_i f first cs ho
  obtain ⟨hb,h1⟩:=plain_of h1
  obtain ⟨l,h2,h3⟩:=Option.map_eq_some_iff.1 h1
  simp only [Prod.mk.injEq] at h3
  obtain ⟨rfl,_,_⟩:=h3
  have hf0:first = #[]:=by
   have:=Nat.eq_of_beq_eq_true hb
   simpa using this
  obtain ⟨g1,g2,g3⟩:=caps_sound I h2
  have hrun:(execOp a.eval o).run P w = .ok (.value (.func (.func f) #[] (cs.toList.map a.eval).toArray)) w:=by
   unfold execOp
   rw [ho]
   subst hf0
   have he:cs.map a.eval = (cs.toList.map a.eval).toArray:=by
    apply Array.toList_inj.1
    rw [Array.toList_map]
   simp only [Instr.makeFunc,he,Array.map_empty]
   rfl
  exact op_put I hrun (.fn f l _ g1 g2) (fun r hr => g3 r (by simpa only [AV.keys] using hr)) hd k
 ·-- call
  rename_i c ho
  split at h1
  ·rename_i f hc
   have ha:c.args.map a.eval = (c.args.toList.map a.eval).toArray:=by
    apply Array.toList_inj.1
    rw [Array.toList_map]
   have hx:(∀ (args:Array Value) (w:World),(callFunc f args).run P w = .ok (.enter f args) w) → (execOp a.eval o).run P w = .ok (.enter f (c.args.toList.map a.eval).toArray) w:=fun hcf => by
    rw [← ha]
    exact ex_func a.eval o c f ho hc rfl hcf
   unfold callOp at h1
   split at h1
   ·obtain ⟨l,hl,h2⟩:=Option.bind_eq_some_iff.1 h1
    obtain ⟨g1,g2⟩:=args_rep I hl
    exact callKs_sound I h2 hp hx g1 g2 hd k
   ·obtain ⟨hf,h2⟩:=plain_of h1
    obtain ⟨l,hl,h3⟩:=Option.bind_eq_some_iff.1 h2
    simp only [Option.some.injEq,Prod.mk.injEq] at h3
    obtain ⟨rfl,rfl,_⟩:=h3
    obtain ⟨g1,g2⟩:=args_rep I hl
    exact callT_sound I hp hf hx g1 g2 hd k
   ·obtain ⟨l,hl,h2⟩:=Option.bind_eq_some_iff.1 h1
    obtain ⟨g1,g2⟩:=args_rep I hl
    exact callKs_sound I h2 hp hx g1 g2 hd k
   ·cases h1
  ·rename_i t hc
   split at h1
   ·rename_i f cs ht
    obtain ⟨vs,v1,v2,v3⟩:=fn_inv (I.rep t _ ht rfl)
    have ha:c.args.map a.eval ++ vs.toArray = (c.args.toList.map a.eval ++ vs).toArray:=by
     apply Array.toList_inj.1
     simp
    have hx:(∀ (args:Array Value) (w:World),(callFunc f args).run P w = .ok (.enter f args) w) → (execOp a.eval o).run P w = .ok (.enter f (c.args.toList.map a.eval ++ vs).toArray) w:=fun hcf => by
     rw [← ha]
     exact ex_clo a.eval o c f (.tmp t) vs.toArray ho hc v1 hcf
    have hargs:∀ {tv:Bool} {ks:List Nat} {l:List AV},((args? h e tv ks c.args.toList).bind fun l => (deepL (cont h e (.tmp t)) tv ks cs).map (l ++ ·)) = some l → (c.args.toList.map a.eval ++ vs).length = l.length ∧ ∀ (i:Nat) (x:AV) (v:Value),l[i]? = some x → (c.args.toList.map a.eval ++ vs)[i]? = some v → RepK w (okT w0 w O tv) ν x v:=by
     intro tv ks l hl
     obtain ⟨l1,hl1,hl2⟩:=Option.bind_eq_some_iff.1 hl
     obtain ⟨l2,hl3,rfl⟩:=Option.map_eq_some_iff.1 hl2
     obtain ⟨g1,g2⟩:=args_rep I hl1
     obtain ⟨d1,d2,_⟩:=deepL_rep I (fun k y hk => cont_some hk) hl3 v3
     refine ⟨by simp only [List.length_append]; omega,fun i x v hx hv => ?_⟩
     by_cases hi:i < l1.length
     ·rw [List.getElem?_append_left hi] at hx
      rw [List.getElem?_append_left (by omega)] at hv
      exact g2 i x v hx hv
     ·rw [List.getElem?_append_right (by omega)] at hx
      rw [List.getElem?_append_right (by omega),g1] at hv
      exact d2 _ x v hx hv
    unfold callOp at h1
    split at h1
    ·obtain ⟨l,hl,h2⟩:=Option.bind_eq_some_iff.1 h1
     obtain ⟨g1,g2⟩:=hargs hl
     exact callKs_sound I h2 hp hx g1 g2 hd k
    ·obtain ⟨hf,h2⟩:=plain_of h1
     obtain ⟨l,hl,h3⟩:=Option.bind_eq_some_iff.1 h2
     simp only [Option.some.injEq,Prod.mk.injEq] at h3
     obtain ⟨rfl,rfl,_⟩:=h3
     obtain ⟨g1,g2⟩:=hargs hl
     exact callT_sound I hp hf hx g1 g2 hd k
    ·obtain ⟨l,hl,h2⟩:=Option.bind_eq_some_iff.1 h1
     obtain ⟨g1,g2⟩:=hargs hl
     exact callKs_sound I h2 hp hx g1 g2 hd k
    ·cases h1
   ·cases h1
  ·-- append
   rename_i hc
   split at h1
   ·rename_i x y t t' ha1 ha2
    split at h1
    ·rename_i T hu
     obtain ⟨⟨l,m,ws0⟩,happ,h1⟩:=Option.bind_eq_some_iff.1 h1
     split at h1
     ·rename_i ml u T' l' s2 hy hz9
      obtain ⟨hb,h2⟩:=plain_of h1
      obtain ⟨⟨kk,by_⟩,hk,h3⟩:=Option.bind_eq_some_iff.1 h2
      obtain ⟨d,hdst,h4⟩:=Option.bind_eq_some_iff.1 h3
      obtain ⟨hfr,h5⟩:=plain_of h4
      simp only [Option.some.injEq,Prod.mk.injEq] at h5
      obtain ⟨rfl,rfl,_⟩:=h5
      simp only [Bool.and_eq_true] at hb
      obtain ⟨b1,b2,b3⟩:=hb
      obtain rfl:=Nat.eq_of_beq_eq_true b1
      obtain rfl:=Nat.eq_of_beq_eq_true b2
      have hargs:c.args = #[x,y]:=by
       apply Array.toList_inj.1
       exact ha1
      have hat:c.argTypes = #[t,t]:=by
       apply Array.toList_inj.1
       exact ha2
      have fin:∀ {e2:Env},Inv P w0 ν O n e2 a w → OwRep P w (okO w0 w O) O m T l (a.eval x) → (∀ b,(a.eval x).ownBlock = some b → ∀ k x,e2 k = some x → hold x (ν k) ≠ some b) → e2 (n + d) = none → Next P w0 n ((e2.put (n + d) (some (.ow u T l'))).put d (some (.row (n + d)))) K → o.wp P a w K Q:=by
       intro e2 I2 hr hno hf k
       obtain ⟨v',w',ν',O',g1,g2⟩:=I2.append (ty:=o.type) hr hno hu hk hp (vw_rep I hy).1 b3 (I.keyLt (hd d hdst)) hf (hd d hdst)
       have hrun:(execOp a.eval o).run P w = .ok (.value v') w':=by
        unfold execOp
        rw [ho]
        simp only [resolve,hc,hargs,hat,Sem.run_bind,invoke,builtin]
        simp only [Sem.run_pure,Result.andThen_ok,List.map_toArray,List.map_cons,List.map_nil]
        simp only [Sem.run_bind,g1,Result.andThen_ok]
        rfl
       refine op_value hrun ?_
       rw [hdst]
       exact k ν' O' _ _ g2
      unfold appTo at happ
      split at happ
      ·rename_i q hx
       split at happ
       ·rename_i m' T2 l2 hcq
        obtain ⟨hT,happ2⟩:=plain_of happ
        obtain rfl:=Nat.eq_of_beq_eq_true hT
        simp only [Option.some.injEq,Prod.mk.injEq] at happ2
        obtain ⟨rfl,rfl,rfl⟩:=happ2
        have hq:=cont_some hcq
        obtain ⟨hxv,A,nn,cc,hν⟩:=row_inv (opd_rep I hx).1
        have hrow:OwRep P w (okO w0 w O) O m' T l2 (ν q):=I.key q _ hq rfl
        have hne:n + d ≠ q:=fun h => by
         have:=fresh_eq hfr
         rw [h,hq] at this
         cases this
        have I2:Inv P w0 ν O n (e.put q (some (bif m' then AV.dead else .fz (.sl l2)))) a w:=by
         refine I.tell hq rfl ?_ (fun b hb => by cases m' <;> simp [hold] at hb) (fun r hr => by cases m' <;> cases hr)
         cases m'
         ·exact row_view I (tv:=false) hrow rfl
         ·exact trivial
        refine fin I2 (by rw [hxv]; exact hrow) (fun b hb r z hz hh => ?_) (by rw [Env.put_ne _ _ hne]; exact fresh_eq hfr) k
        rw [hxv] at hb
        rcases put_cases hz with ⟨rfl,rfl⟩ | ⟨hrq,hz⟩
        ·cases m' <;> simp [hold] at hh
        ·exact I.far r q z _ hrq hz hq b hh hb
       ·cases happ
      ·rename_i hx
       simp only [Option.some.injEq,Prod.mk.injEq] at happ
       obtain ⟨rfl,rfl,rfl⟩:=happ
       have hxv:=(rep_val (val_inv (opd_rep I hx).1)).1
       exact fin I (by rw [hxv]; exact nil_own true hk) (fun b hb => by rw [hxv] at hb; simp [Value.ownBlock] at hb) (fresh_eq hfr) k
      ·cases happ
     ·cases h1
    ·cases h1
   ·cases h1
  ·-- len
   rename_i hc
   split at h1
   ·rename_i m hl
    split at h1
    ·rename_i m' s2
     simp only [Option.some.injEq,Prod.mk.injEq] at h1
     obtain ⟨rfl,rfl,_⟩:=h1
     have hp:(m:Int) = m':=hp
     subst hp
     unfold lenArg at hl
     split at hl
     ·rename_i x ha
      split at hl
      ·rename_i l hv
       obtain ⟨hu,hl⟩:=plain_of hl
       obtain rfl:=Option.some.inj hl
       obtain ⟨A,cc,sz,ad,cs,h1',_⟩:=rep_sl (vwT_rep I hv).1
       have hargs:c.args = #[x]:=by
        apply Array.toList_inj.1
        exact ha
       cases ht:c.argTypes[0]? with
       | none => rw [ht] at hu; cases hu
       | some t =>
        rw [ht] at hu
        simp only [Option.bind_some] at hu
        cases hut:P.underlying t with
        | none => rw [hut] at hu; cases hu
        | some d =>
         rw [hut] at hu
         cases d with
         | slice el => exact op_imm I (ex_len a.eval o c x A l.length cc t el ho hc hargs ht hut h1') (.val _ rfl) rfl hd k
         | _ => cases hu
      ·split at hl
       ·rename_i q i0 sz0 hx
        split at hl
        ·rename_i u T l hcq
         obtain ⟨hu,hl⟩:=plain_of hl
         obtain rfl:=Option.some.inj hl
         have hq:=cont_some hcq
         obtain ⟨g,m0,c0,hν,hxv⟩:=tl_inv (opd_rep I hx).1
         obtain ⟨sz',xs,r1,r2,r3,r4,r5⟩:=I.key q _ hq rfl
         have hm0:m0 = l.length:=by
          rcases r1.2 with ⟨hv,hn⟩ | ⟨g',cap,cur,hv,_⟩
          ·rw [hν] at hv
           cases hv
          ·rw [hν] at hv
           injection hv
         subst hm0
         have hargs:c.args = #[x]:=by
          apply Array.toList_inj.1
          exact ha
         cases ht:c.argTypes[0]? with
         | none => rw [ht] at hu; cases hu
         | some t =>
          rw [ht] at hu
          simp only [Option.bind_some] at hu
          cases hut:P.underlying t with
          | none => rw [hut] at hu; cases hu
          | some d =>
           rw [hut] at hu
           cases d with
           | slice el => exact op_imm I (ex_len a.eval o c x _ (l.length - i0) _ t el ho hc hargs ht hut hxv) (.val _ rfl) rfl hd k
           | _ => cases hu
        ·cases hl
       ·cases hl
     ·cases hl
    ·cases h1
   ·exact op_pure I (by rw [ho]; intro cs b; nofun) h1 hd k
  ·rename_i hc
   exact clear_sound I ho hc h1 hp hd k
  ·exact op_ask I (by rw [ho]; intro cs b; nofun) h1 hp hd k
  ·exact op_ask I (by rw [ho]; intro cs b; nofun) h1 hp hd k
  ·exact op_pure I (by rw [ho]; intro cs b; nofun) h1 hd k
  ·cases h1
 ·rename_i op t x y u ho
  exact op_cmp I ho h1 hp hd k
 ·rename_i ho
  exact op_pure I (by rw [ho]; intro cs b; nofun) h1 hd k
 ·rename_i t u x ho
  exact conv_sound I ho h1 hp hd k
 ·rename_i ho
  exact op_ask I (by rw [ho]; intro cs b; nofun) h1 hp hd k
 ·-- build
  rename_i t ps ho
  split at h1
  ·rename_i y s2
   obtain ⟨hc,h1⟩:=plain_of h1
   simp only [Bool.and_eq_true] at hc
   obtain ⟨v,hv,h3⟩:=Option.map_eq_some_iff.1 h1
   simp only [Prod.mk.injEq] at h3
   obtain ⟨rfl,rfl,_⟩:=h3
   have hp:BuildIs P t (ps.toList.map fun p => (p.1,opv e p.2)).toArray v:=hp
   have heq:(ps.toList.map fun p => (p.1,a.eval p.2)) = ps.toList.map fun p => (p.1,opv e p.2):=List.map_congr_left fun p hm => by rw [opv_eq I (List.all_eq_true.1 hc.1 p hm)]
   refine op_imm I (ex_build a.eval o t ps v ho (by rw [heq]; exact hp) w) ?_ (okFlat_kf hc.2) hd k
   cases y with
   | val u =>
    simp only [AV.toV,Option.some.injEq] at hv
    subst hv
    exact .val u hc.2
   | agg l =>
    simp only [AV.toV,Option.map_eq_some_iff] at hv
    obtain ⟨vs,hq1,rfl⟩:=hv
    have:=valsOf_eq hq1
    subst this
    refine .agg _ _ (allFlat_cs _ w vs fun u hu => ?_)
    have h2:=hc.2
    simp only [okFlat,List.all_eq_true] at h2
    exact h2 (.val u) (List.mem_map.2 ⟨u,hu,rfl⟩)
   | _ => cases hv
  ·split at h1
   ·rename_i zl hz
    obtain ⟨pl,hpl,h1⟩:=Option.bind_eq_some_iff.1 h1
    obtain ⟨l,hl,h3⟩:=Option.map_eq_some_iff.1 h1
    simp only [Prod.mk.injEq] at h3
    obtain ⟨rfl,_,_⟩:=h3
    unfold zeroAV at hz
    obtain ⟨zv,hz1,hz2⟩:=Option.bind_eq_some_iff.1 hz
    obtain ⟨inf,hi,hz3⟩:=Option.bind_eq_some_iff.1 hz1
    obtain ⟨hr,hkf⟩:=ofV_rep (w:=w) (okO w0 w O) hz2
    obtain ⟨vs,rfl,v1,v2,v3⟩:=agg_inv (RepK.imm (ν:=ν) hr)
    obtain ⟨A',f1,f2,f3,f4,f5⟩:=parts_sound I (A:=vs.toArray) hl v1 v2 v3 (fun q hq => by
     have:=kf_keys hkf
     simp only [AV.keys] at this
     rw [this] at hq
     cases hq)
    exact op_put I (ex_build2 a.eval o t ps pl vs.toArray A' inf hi (by rw [hz3]; rfl) hpl ho f1 w) (.agg l A'.toList f2 f3 f4) (fun q hq => f5 q (by simpa only [AV.keys] using hq)) hd k
   ·cases h1
  ·cases h1
 ·cases h1
end
end Go.Rh

namespace Go.Rh
open Go.RowKit
variable [MemFact]

section
variable {P:Program} {hn:Hint} {w0:Cx} {ν:Nat → Value} {w:World} {O:Own} {n:Nat} {e:Env} {a:Act} {ops:Array Oper}
theorem yielded_eq (I:Inv P w0 ν O n e a w) {g t:Nat} (hg:(ops[g]?).bind (·.dst) = some t) (ht:t < n):yielded ops a.tmps g = (match a.tmps.getD t undef with | .bool b => some b | _ => none):=by
 unfold yielded
 rw [hg]
 have hs:t < a.tmps.size:=by rw [I.size]; exact ht
 have h1:a.tmps[t]? = some (a.tmps.getD t undef):=by simp [Array.getD,hs]
 simp only [Option.bind_some,h1]
 cases a.tmps.getD t undef <;> rfl
theorem nil_rep {w:World} {ok:Nat → Nat → Prop} {ν:Nat → Value}:RepK w ok ν (.tup []) undef:=.imm (.tup [] [] rfl (fun i x v hx => by simp at hx))
theorem evalG_sound {Q:Exit → Act → World → Prop} {K:Act → World → Prop} {o:Oper} {i:Nat} {s s':List Ans} {ws:List (Nat × Option AV)} {p:Option Prop} (I:Inv P w0 ν O n e a w) (ho:ops[i]? = some o) (h:evalG P hn n ops e s o = some (ws,p,s')) (hp:holds p)
  (k:Next P w0 n (e.puts ws) K):wpOp P ops Q i K a w:=by
 unfold evalG at h
 obtain ⟨hdc,h⟩:=plain_of h
 have hd:∀ t,o.dst = some t → t < n:=by
  intro t ht
  rw [ht] at hdc
  exact Nat.le_of_ble_eq_true hdc
 unfold wpOp
 simp only [ho]
 split at h
 ·rename_i hg
  rw [if_pos (by simp [Region.wanted,hg])]
  exact .inl (op_sound I h hp hd k)
 ·rename_i g u hg
  split at h
  ·cases h
  ·rename_i t ht
   split at h
   ·rename_i b hb
    have hv:=(rep_val (val_inv (I.rep t _ hb rfl))).1
    have htn:t < n:=by
     apply Classical.byContradiction
     intro hn
     have:a.tmps.getD t undef = undef:=by
      have hs:¬ t < a.tmps.size:=by rw [I.size]; exact hn
      simp [Array.getD,hs]
     rw [this] at hv
     cases hv
    have hy:yielded ops a.tmps g = some b:=by rw [yielded_eq I ht htn,hv]
    cases hbu:b == u
    ·rw [hbu] at h
     simp only [cond_false,Option.some.injEq,Prod.mk.injEq] at h
     obtain ⟨rfl,_,_⟩:=h
     have hne:b ≠ u:=by simpa using hbu
     rw [if_neg (by simp [Region.wanted,hg,hy,hne])]
     exact k ν O _ _ (I.put1 o.dst nil_rep (fun q hq => by cases hq) hd)
    ·rw [hbu] at h
     have he:b = u:=by simpa using hbu
     rw [if_pos (by simp [Region.wanted,hg,hy,he])]
     exact .inl (op_sound I h hp hd k)
   ·rename_i hb
    simp only [Option.some.injEq,Prod.mk.injEq] at h
    obtain ⟨rfl,_,_⟩:=h
    have hv:=I.rep t _ hb rfl
    obtain ⟨vs,h1,h2,_⟩:=tup_inv hv
    have hvs:vs = []:=List.length_eq_zero_iff.1 h2
    subst hvs
    have hy:yielded ops a.tmps g = none:=by
     by_cases htn:t < n
     ·rw [yielded_eq I ht htn,h1]
     ·unfold yielded
      rw [ht]
      have hs:¬ t < a.tmps.size:=by rw [I.size]; exact htn
      simp [Array.getElem?_eq_none (Nat.le_of_not_lt hs)]
    rw [if_neg (by simp [Region.wanted,hg,hy])]
    exact k ν O _ _ (I.put1 o.dst nil_rep (fun q hq => by cases hq) hd)
   ·cases h
variable (P hn n ops)
/-- A region's operations, one behind the other. -/
def runOps:List Oper → Env → List Ans → Option (Env × Option Prop × List Ans)
 | [],e,s => some (e,none,s)
 | o :: os,e,s => (evalG P hn n ops e s o).bind fun r => (runOps os (e.puts r.1) r.2.2).bind fun q => some (q.1,both r.2.1 q.2.1,q.2.2)
variable {P hn n ops}
theorem runOps_cons {o:Oper} {os:List Oper} {s s':List Ans} {e':Env} {p:Option Prop} (h:runOps P hn n ops (o :: os) e s = some (e',p,s')) (hp:holds p) :
  ∃ ws q s1 p',evalG P hn n ops e s o = some (ws,q,s1) ∧ holds q ∧ runOps P hn n ops os (e.puts ws) s1 = some (e',p',s') ∧ holds p':=by
 simp only [runOps] at h
 obtain ⟨⟨ws,q,s1⟩,h1,h2⟩:=Option.bind_eq_some_iff.1 h
 obtain ⟨⟨e2,p',s2⟩,h3,h4⟩:=Option.bind_eq_some_iff.1 h2
 simp only [Option.some.injEq,Prod.mk.injEq] at h4
 obtain ⟨rfl,rfl,rfl⟩:=h4
 exact ⟨ws,q,s1,p',h1,(holds_both hp).1,h3,(holds_both hp).2⟩
/-- What a region does, operation by operation. -/
structure Trace (P : Program) (hn : Hint) (n : Nat) (ops : Array Oper) (os : List Oper) (e e' : Env) where
 E:Nat → Env
 S:Nat → List Ans
 D:Nat → List (Nat × Option AV)
 first:E 0 = e
 last:E os.length = e'
 next:∀ i,i < os.length → E (i + 1) = (E i).puts (D i)
 each:∀ i o,os[i]? = some o → ∃ p s',evalG P hn n ops (E i) (S i) o = some (D i,p,s') ∧ holds p
theorem Trace.cons {o:Oper} {os:List Oper} {s s1:List Ans} {e e':Env} {ws:List (Nat × Option AV)} {q:Option Prop} (h1:evalG P hn n ops e s o = some (ws,q,s1)) (h2:holds q) (h:Nonempty (Trace P hn n ops os (e.puts ws) e')):Nonempty (Trace P hn n ops (o :: os) e e'):=by
 obtain ⟨T⟩:=h
 refine ⟨⟨fun i => match i with | 0 => e | i + 1 => T.E i,fun i => match i with | 0 => s | i + 1 => T.S i,fun i => match i with | 0 => ws | i + 1 => T.D i,rfl,T.last,fun i hi => ?_,fun i o' ho => ?_⟩⟩
 ·cases i with
  | zero => exact T.first
  | succ i => exact T.next i (by simpa using hi)
 ·cases i with
  | zero =>
   simp only [List.getElem?_cons_zero,Option.some.injEq] at ho
   subst ho
   exact ⟨q,s1,h1,h2⟩
  | succ i => exact T.each i o' (by simpa using ho)
theorem trace_app {os:List Oper} {e2:Env}:∀ {l:List Oper} {e e1:Env} {s s':List Ans} {p:Option Prop},runOps P hn n ops l e s = some (e1,p,s') → holds p → Nonempty (Trace P hn n ops os e1 e2) → Nonempty (Trace P hn n ops (l ++ os) e e2)
 | [],e,e1,s,s',p,h,hp,T => by
  simp only [runOps,Option.some.injEq,Prod.mk.injEq] at h
  obtain ⟨rfl,_,_⟩:=h
  exact T
 | o :: l,e,e1,s,s',p,h,hp,T => by
  obtain ⟨ws,q,s1,p',h1,h2,h3,h4⟩:=runOps_cons h hp
  exact Trace.cons h1 h2 (trace_app h3 h4 T)
theorem Trace.nil {e:Env}:Nonempty (Trace P hn n ops [] e e):=⟨⟨fun _ => e,fun _ => [],fun _ => [],rfl,rfl,fun i hi => absurd hi (Nat.not_lt_zero _),fun i o ho => by simp at ho⟩⟩
theorem trace {os:List Oper} {e e':Env} {s s':List Ans} {p:Option Prop} (h:runOps P hn n ops os e s = some (e',p,s')) (hp:holds p):Nonempty (Trace P hn n ops os e e'):=by
 have:=trace_app h hp Trace.nil
 rwa [List.append_nil] at this
theorem getElem_toList (i:Nat):ops.toList[i]? = ops[i]?:=by simp
/-- A region in its own order. -/
theorem region_sound {Q:Exit → Act → World → Prop} {e':Env} (T:Trace P hn n ops ops.toList e e'):∀ (k i:Nat),i + k = ops.size → ∀ {ν:Nat → Value} {O:Own} {a:Act} {w:World},Inv P w0 ν O n (T.E i) a w → Next P w0 n e' (Q .normal) →
  wpOps P ops Q (List.range' i k) a w
 | 0,i,hi,ν,O,a,w,I,k => by
  have:i = ops.toList.length:=by simpa using hi
  subst this
  rw [T.last] at I
  exact k ν O a w I
 | k + 1,i,hi,ν,O,a,w,I,kk => by
  have hlt:i < ops.toList.length:=by simp; omega
  rw [List.range'_succ,wpOps_cons]
  have ho:ops.toList[i]? = some ops.toList[i]:=List.getElem?_eq_getElem hlt
  obtain ⟨p,s',h1,h2⟩:=T.each i _ ho
  rw [getElem_toList] at ho
  refine evalG_sound I ho (ws:=T.D i) h1 h2 (fun ν' N' a' w' I' => ?_)
  rw [← T.next i hlt] at I'
  exact region_sound T k (i + 1) (by omega) I' kk
end
end Go.Rh

namespace Go.Rh
open Go.RowKit
variable [MemFact]

section
variable {P:Program} {hn:Hint} {n:Nat} {e e':Env} {ops:Array Oper}
def tmpsOf:Operand → List Nat
 | .tmp t => [t]
 | _ => []
/-- Does it look at what keys hold? -/
def looks:Op → Bool
 | .load _ _ => true
 | .store _ _ _ => true
 | .indexAddr _ _ _ => true
 | .slice _ _ _ _ _ => true
 | .convert _ _ _ => true
 | .buildSlice _ _ _ => true
 | .call _ => true
 | _ => false
def guards (ops:Array Oper) (o:Oper):List Nat :=
 match o.guard with
 | some (g,_) => ((ops[g]?).bind (·.dst)).toList
 | none => []
def atDst (n:Nat) (o:Oper):List Nat :=
 match o.dst with
 | some d => [n + d]
 | none => []
/-- Is this the first part of a row that takes its place? -/
def cutAt (hn:Hint) (o:Oper):Bool :=
 match o.dst with
 | some d => mem d hn.cut
 | none => false
/-- Which keys it writes. -/
def extra (hn:Hint) (n:Nat) (o:Oper):List Nat :=
 match o.op with
 | .alloc _ => atDst n o
 | .box _ _ => atDst n o
 | .buildSlice _ _ _ => atDst n o
 | .makeSlice _ _ _ => atDst n o
 | .move x => bif isNil x then atDst n o else []
 | .assign x => bif isNil x then atDst n o else []
 | .store _ x _ => pts hn x
 | .slice _ x _ _ _ => bif cutAt hn o then pts hn x ++ atDst n o else []
 | .call c =>
  match c.callee with
  | .builtin .clear => allPts hn c.args.toList
  | .builtin .append => allPts hn (c.args.toList.take 1) ++ atDst n o
  | .value x => allPts hn (x :: c.args.toList) ++ newK n o
  | _ => []
 | _ => []
def writes (hn:Hint) (n:Nat) (o:Oper):List Nat:=extra hn n o ++ o.dst.toList
def mentions (hn:Hint) (n:Nat) (ops:Array Oper) (o:Oper):List Nat:=writes hn n o ++ (o.op.operands.toList.flatMap tmpsOf ++ ((bif looks o.op then allPts hn o.op.operands.toList else []) ++ guards ops o))
theorem opd_congr {x:Operand} (h:∀ t ∈ tmpsOf x,e t = e' t):opd e x = opd e' x:=by
 cases x with
 | tmp t => simp only [opd,h t (by simp [tmpsOf])]
 | const v => rfl
 | global g => rfl
 | func f => rfl
theorem cont_congr {x:Operand} (h:∀ k ∈ pts hn x,e k = e' k):cont hn e x = cont hn e' x:=by
 funext k
 unfold cont
 cases hm:mem k (pts hn x)
 ·rfl
 ·simp only [cond_true]
  exact h k (mem_iff.1 hm)
theorem vw_congr {x:Operand} (h:opd e x = opd e' x) (hc:cont hn e x = cont hn e' x):vw hn e x = vw hn e' x:=by unfold vw; rw [h,hc]
theorem tailOp_congr {P:Program} {hn:Hint} {n:Nat} {e e':Env} {s:List Ans} {o:Oper} {t:TypeId} {x:Operand} {lo hi:Option Operand} (h:opd e x = opd e' x) (hc:cont hn e x = cont hn e' x) (hb:bnd e lo 0 = bnd e' lo 0) (hb2:∀ y,hi = some y → bnd e (some y) 0 = bnd e' (some y) 0) (hf:∀ d,o.dst = some d → mem d hn.cut = true → fresh e (n + d) = fresh e' (n + d)):tailOp P hn n e s o t x lo hi = tailOp P hn n e' s o t x lo hi:=by
 unfold tailOp
 rw [h,hc,hb]
 split
 ·split
  ·split
   ·rfl
   ·rename_i hi'
    split
    ·rw [hb2 hi' rfl]
     congr 1
     funext sz
     congr 1
     funext q
     cases hd:o.dst with
     | none => rfl
     | some d =>
      simp only [Option.bind_some]
      cases hm:mem d hn.cut
      ·rfl
      ·rw [hf d hd hm]
    ·rfl
  ·rfl
 ·rfl
theorem clearOp_congr {P:Program} {hn:Hint} {e e':Env} {s:List Ans} {o:Oper} {c:Call} (h:∀ x ∈ c.args.toList,opd e x = opd e' x) (hc:∀ x ∈ c.args.toList,cont hn e x = cont hn e' x):clearOp P hn e s o c = clearOp P hn e' s o c:=by
 unfold clearOp
 split
 ·rename_i x t ha ht
  rw [h x (by rw [ha]; simp),hc x (by rw [ha]; simp)]
 ·rfl
theorem vwT_congr {x:Operand} (h:opd e x = opd e' x) (hc:cont hn e x = cont hn e' x):vwT hn e x = vwT hn e' x:=by unfold vwT; rw [h,hc]
theorem known_all {xs:List Operand} (h:∀ x ∈ xs,opd e x = opd e' x):xs.all (known e) = xs.all (known e'):=by
 rw [Bool.eq_iff_iff]
 simp only [List.all_eq_true]
 have:∀ x ∈ xs,known e x = known e' x:=fun x hx => by unfold known; rw [h x hx]
 exact ⟨fun hh x hx => by rw [← this x hx]; exact hh x hx,fun hh x hx => by rw [this x hx]; exact hh x hx⟩
theorem pureOp_congr {s:List Ans} {o:Oper} (hs:∀ cs b,o.op ≠ .select cs b) (h:∀ x ∈ o.op.operands,opd e x = opd e' x):pureOp P e s o = pureOp P e' s o:=by
 have h1:∀ x ∈ o.op.operands,opv e x = opv e' x:=fun x hx => by unfold opv; rw [h x hx]
 have h2:execOp (opv e) o = execOp (opv e') o:=execOp_congr o hs h1
 have h3:=known_all (e:=e) (e':=e') (xs:=o.op.operands.toList) fun x hx => h x (by simpa using hx)
 unfold pureOp
 rw [h2,h3]
theorem askOp_congr {s:List Ans} {o:Oper} (hs:∀ cs b,o.op ≠ .select cs b) (h:∀ x ∈ o.op.operands,opd e x = opd e' x):askOp P e s o = askOp P e' s o:=by
 have h1:∀ x ∈ o.op.operands,opv e x = opv e' x:=fun x hx => by unfold opv; rw [h x hx]
 have h2:execOp (opv e) o = execOp (opv e') o:=execOp_congr o hs h1
 have h3:=known_all (e:=e) (e':=e') (xs:=o.op.operands.toList) fun x hx => h x (by simpa using hx)
 unfold askOp
 rw [OpP.congr hs h2 h1,h3]
theorem args_congr {tv:Bool} {ks:List Nat}:∀ {xs:List Operand},(∀ x ∈ xs,opd e x = opd e' x) → (∀ x ∈ xs,cont hn e x = cont hn e' x) → args? hn e tv ks xs = args? hn e' tv ks xs
 | [],_,_ => rfl
 | x :: xs,h,hc => by
  simp only [args?]
  rw [h x (by simp),hc x (by simp),args_congr (xs:=xs) (fun y hy => h y (by simp [hy])) fun y hy => hc y (by simp [hy])]
theorem bnd_congr {q:Option Operand} {d:Int} (h:∀ y,q = some y → opd e y = opd e' y):bnd e q d = bnd e' q d:=by
 cases q with
 | none => rfl
 | some y => simp only [bnd,h y rfl]
theorem elems_congr {T:Nat}:∀ {ps:List (Nat × Operand)} {k:Nat},(∀ p ∈ ps,vw hn e p.2 = vw hn e' p.2) → elems P hn T e k ps = elems P hn T e' k ps
 | [],_,_ => rfl
 | (i,x) :: ps,k,h => by
  simp only [elems]
  rw [h (i,x) List.mem_cons_self,elems_congr (ps:=ps) fun p hp => h p (List.mem_cons_of_mem _ hp)]
theorem caps_congr:∀ {xs:List Operand},(∀ x ∈ xs,opd e x = opd e' x) → caps e xs = caps e' xs
 | [],_ => rfl
 | x :: xs,h => by
  unfold caps
  rw [h x List.mem_cons_self,caps_congr (xs:=xs) fun y hy => h y (List.mem_cons_of_mem _ hy)]
theorem partsOf_congr {pl:Nat → Option (Nat × Nat)}:∀ {ps:List (Nat × Operand)} {zl:List AV},(∀ p ∈ ps,opd e p.2 = opd e' p.2) → partsOf pl e ps zl = partsOf pl e' ps zl
 | [],_,_ => rfl
 | (i,x) :: ps,zl,h => by
  simp only [partsOf]
  rw [h (i,x) List.mem_cons_self]
  congr 1
  funext q
  congr 1
  funext y
  congr 1
  exact partsOf_congr fun p hp => h p (List.mem_cons_of_mem _ hp)
theorem preOf_congr:∀ {ks:List Nat},(∀ k ∈ ks,e k = e' k) → preOf e ks = preOf e' ks
 | [],_ => rfl
 | k :: ks,h => by
  simp only [preOf]
  rw [h k List.mem_cons_self,preOf_congr (ks:=ks) fun q hq => h q (List.mem_cons_of_mem _ hq)]
theorem callKs_congr {s:List Ans} {o:Oper} {xs:List Operand} {f:FuncId} {l:List AV} {ks:List Nat} {r:AV} {post:List (Nat × AV)} (h1:∀ k ∈ allPts hn xs,e k = e' k) (h2:∀ k ∈ newK n o,e k = e' k):callKs P hn n e s o xs f l ks r post = callKs P hn n e' s o xs f l ks r post:=by
 unfold callKs
 cases hc:ks.all (fun k => mem k (allPts hn xs))
 ·have:∀ q:Option (List (Nat × AV)),(q.bind fun pre => bif false && (nodup ks && (nodup (keysOf post) && (post.all (fun p => p.2.isC && (mem p.1 ks || (mem p.1 (newK n o) && (Nat.blt p.1 keyB && fresh e p.1)))) && (r.keys ++ keysIn post).all (fun k => mem k (keysOf post))))) then
   some (oldW post ks ++ (newW ks post ++ w1 o.dst r),some (CallH P f l pre r post),s) else none) = (none:Out):=by
   intro q
   cases q <;> rfl
  rw [this]
  have:∀ q:Option (List (Nat × AV)),(q.bind fun pre => bif false && (nodup ks && (nodup (keysOf post) && (post.all (fun p => p.2.isC && (mem p.1 ks || (mem p.1 (newK n o) && (Nat.blt p.1 keyB && fresh e' p.1)))) && (r.keys ++ keysIn post).all (fun k => mem k (keysOf post))))) then
   some (oldW post ks ++ (newW ks post ++ w1 o.dst r),some (CallH P f l pre r post),s) else none) = (none:Out):=by
   intro q
   cases q <;> rfl
  rw [this]
 ·rw [preOf_congr (ks:=ks) fun k hk => h1 k (mem_iff.1 (List.all_eq_true.1 hc k hk))]
  have:∀ p:Nat × AV,(p.2.isC && (mem p.1 ks || (mem p.1 (newK n o) && (Nat.blt p.1 keyB && fresh e p.1)))) = (p.2.isC && (mem p.1 ks || (mem p.1 (newK n o) && (Nat.blt p.1 keyB && fresh e' p.1)))):=by
   intro p
   cases hm:mem p.1 (newK n o)
   ·rfl
   ·unfold fresh
    rw [h2 p.1 (mem_iff.1 hm)]
  simp only [this]
theorem callOp_congr {s:List Ans} {o:Oper} {xs:List Operand} {f:FuncId} {l l':Bool → List Nat → Option (List AV)} (h1:∀ k ∈ allPts hn xs,e k = e' k) (h2:∀ k ∈ newK n o,e k = e' k) (hl:∀ tv ks,l tv ks = l' tv ks):callOp P hn n e s o xs f l = callOp P hn n e' s o xs f l':=by
 unfold callOp
 have hl:l = l':=by
  funext tv ks
  exact hl tv ks
 subst hl
 split
 ·exact congrArg _ (funext fun q => callKs_congr h1 h2)
 ·rfl
 ·exact congrArg _ (funext fun q => callKs_congr h1 h2)
 ·rfl
theorem allPts_mem {x:Operand} {k:Nat}:∀ {xs:List Operand},x ∈ xs → k ∈ pts hn x → k ∈ allPts hn xs
 | [],h,_ => by cases h
 | y :: xs,h,hk => by
  simp only [allPts,List.mem_append]
  rcases List.mem_cons.1 h with rfl | h
  ·exact .inl hk
  ·exact .inr (allPts_mem h hk)
theorem evalOp_congr {s:List Ans} {o:Oper} (h:∀ x ∈ o.op.operands,opd e x = opd e' x) (ht:∀ t,(.tmp t) ∈ o.op.operands → e t = e' t) (hl:looks o.op = true → ∀ x ∈ o.op.operands,∀ k ∈ pts hn x,e k = e' k) (hw:∀ k ∈ extra hn n o,e k = e' k):evalOp P hn n e s o = evalOp P hn n e' s o:=by
 have hp:=pureOp_congr (P:=P) (s:=s) (o:=o) (e:=e) (e':=e')
 have hq:=askOp_congr (P:=P) (s:=s) (o:=o) (e:=e) (e':=e')
 have hd:∀ d,o.dst = some d → extra hn n o = atDst n o → fresh e (n + d) = fresh e' (n + d):=by
  intro d hd he
  unfold fresh
  rw [hw (n + d) (by rw [he]; simp [atDst,hd])]
 unfold evalOp
 cases ho:o.op <;> try rfl
 case move x =>
  have hx:=h x (by simp [ho,Op.operands])
  unfold moveOp
  cases hn1:isNil x
  ·simp only [hn1,cond_false,hx]
  ·simp only [hn1,cond_true]
   split
   ·split
    ·rename_i d hdst
     rw [hd d hdst (by unfold extra; rw [ho]; simp only [hn1,cond_true])]
    ·rfl
   ·rfl
   ·rfl
   ·rfl
 case assign x =>
  have hx:=h x (by simp [ho,Op.operands])
  unfold moveOp
  cases hn1:isNil x
  ·simp only [hn1,cond_false,hx]
  ·simp only [hn1,cond_true]
   split
   ·split
    ·rename_i d hdst
     rw [hd d hdst (by unfold extra; rw [ho]; simp only [hn1,cond_true])]
    ·rfl
   ·rfl
   ·rfl
   ·rfl
 case pick c a b =>
  simp only [h c (by simp [ho,Op.operands])]
  have ha:=h a (by simp [ho,Op.operands])
  have hb:=h b (by simp [ho,Op.operands])
  split
  ·rename_i u hu
   cases u <;> simp only [cond_true,cond_false,ha,hb]
  ·rfl
 case alloc t =>
  simp only []
  congr 1
  funext y
  congr 1
  cases hdst:o.dst with
  | none => rfl
  | some d => simp only [Option.bind_some,hd d hdst (by unfold extra; rw [ho])]
 case box t x =>
  simp only [h x (by simp [ho,Op.operands])]
  congr 1
  funext y
  congr 1
  cases hdst:o.dst with
  | none => rfl
  | some d => simp only [Option.bind_some,hd d hdst (by unfold extra; rw [ho])]
 case load t x =>
  have hx:=h x (by simp [ho,Op.operands])
  have hc:=cont_congr (hn:=hn) (hl (by rw [ho]; rfl) x (by simp [ho,Op.operands]))
  simp only [loadOp,hx,hc]
 case nilCheck x => simp only [h x (by simp [ho,Op.operands])]
 case store t x y =>
  have hx:=h x (by simp [ho,Op.operands])
  have hc:=cont_congr (hn:=hn) (hl (by rw [ho]; rfl) x (by simp [ho,Op.operands]))
  have hy:=h y (by simp [ho,Op.operands])
  have hcy:=cont_congr (hn:=hn) (hl (by rw [ho]; rfl) y (by simp [ho,Op.operands]))
  simp only [storeOp,hx,hc,hy,vw_congr hy hcy]
 case indexAddr t x y =>
  have hx:=h x (by simp [ho,Op.operands])
  have hc:=cont_congr (hn:=hn) (hl (by rw [ho]; rfl) x (by simp [ho,Op.operands]))
  have hy:=h y (by simp [ho,Op.operands])
  simp only [hx,hc,hy,vw_congr hx hc]
 case slice t x lo hi mx =>
  have hx:=h x (by simp [ho,Op.operands])
  have hc:=cont_congr (hn:=hn) (hl (by rw [ho]; rfl) x (by simp [ho,Op.operands]))
  have h1:=fun d => bnd_congr (e:=e) (e':=e') (q:=lo) (d:=d) (fun y hy => h y (by subst hy; simp [ho,Op.operands]))
  have h2:=fun d => bnd_congr (e:=e) (e':=e') (q:=hi) (d:=d) (fun y hy => h y (by subst hy; simp [ho,Op.operands]))
  have hqq:=fun s => askOp_congr (P:=P) (s:=s) (o:=o) (e:=e) (e':=e') (by rw [ho]; intro cs b; nofun) h
  have h3:=fun s => tailOp_congr (P:=P) (hn:=hn) (n:=n) (s:=s) (o:=o) (t:=t) (lo:=lo) (hi:=hi) hx hc (h1 0) (fun y hy => bnd_congr fun y2 hy2 => h y2 (by subst hy; obtain rfl:=Option.some.inj hy2; simp [ho,Op.operands])) (fun d hdst hm => by
   unfold fresh
   rw [hw (n + d) (by
    unfold extra cutAt
    rw [ho]
    simp only [hdst,hm,cond_true]
    exact List.mem_append_right _ (by simp [atDst,hdst]))])
  have h4:=fun d m (hm:mx = some m) => bnd_congr (e:=e) (e':=e') (q:=some m) (d:=d) (fun y hy => h y (by subst hm; obtain rfl:=Option.some.inj hy; simp [ho,Op.operands]))
  cases mx with
  | none => simp only [vw_congr hx hc,h1,h2,hqq,h3]
  | some m => simp only [vwT_congr hx hc,h1,h2,h4 0 m rfl,hqq]
 case fieldAddr t x i => simp only [h x (by simp [ho,Op.operands])]
 case field t x i => simp only [h x (by simp [ho,Op.operands])]
 case extract x i => simp only [h x (by simp [ho,Op.operands])]
 case buildSlice t len ps =>
  have hx:∀ p ∈ ps.toList,vw hn e p.2 = vw hn e' p.2:=fun p hm =>
   have hmem:p.2 ∈ o.op.operands:=by simp only [ho,Op.operands,List.mem_toArray,List.mem_map]; exact ⟨p,hm,rfl⟩
   vw_congr (h p.2 hmem) (cont_congr (hl (by rw [ho]; rfl) p.2 hmem))
  have:=fun T k => elems_congr (P:=P) (hn:=hn) (T:=T) (k:=k) hx
  simp only [this]
  split
  ·congr 1
   funext q
   congr 1
   congr 1
   funext l
   cases hdst:o.dst with
   | none => rfl
   | some d => simp only [Option.bind_some,hd d hdst (by unfold extra; rw [ho])]
  ·rfl
 case makeSlice t x y =>
  simp only [h x (by simp [ho,Op.operands]),h y (by simp [ho,Op.operands])]
  split
  ·congr 1
   funext q
   congr 1
   funext z
   cases hdst:o.dst with
   | none => rfl
   | some d => simp only [Option.bind_some,hd d hdst (by unfold extra; rw [ho])]
  ·rfl
 case makeFunc f first cs =>
  have hx:∀ x ∈ cs.toList,opd e x = opd e' x:=fun x hx => h x (by simp [ho,Op.operands,(by simpa using hx:x ∈ cs)])
  have:=caps_congr hx
  cases f <;> try rfl
  simp only [this]
 case call c =>
  have hc:∀ x ∈ c.args,opd e x = opd e' x:=fun x hx => h x (by simp [ho,Op.operands,Call.operands,hx])
  have hcc:∀ x ∈ c.args,cont hn e x = cont hn e' x:=fun x hx => cont_congr (hl (by rw [ho]; rfl) x (by simp [ho,Op.operands,Call.operands,hx]))
  have h1:∀ tv ks,args? hn e tv ks c.args.toList = args? hn e' tv ks c.args.toList:=fun tv ks => args_congr (fun x hx => hc x (by simpa using hx)) fun x hx => hcc x (by simpa using hx)
  have hp1:=hp (by rw [ho]; intro cs b; nofun) h
  have hq1:=hq (by rw [ho]; intro cs b; nofun) h
  have hlen:lenArg P hn e c = lenArg P hn e' c:=by
   unfold lenArg
   split
   ·rename_i x ha
    have hx:x ∈ c.args:=by
     have:x ∈ c.args.toList:=by rw [ha]; simp
     simpa using this
    simp only [vwT_congr (hc x hx) (hcc x hx),hc x hx,hcc x hx]
   ·rfl
  simp only []
  cases hcal:c.callee with
  | value x =>
   have hnew:∀ k ∈ newK n o,e k = e' k:=fun k hk => hw k (by unfold extra; rw [ho]; simp only [hcal]; exact List.mem_append_right _ hk)
   have hall:∀ k ∈ allPts hn (x :: c.args.toList),e k = e' k:=fun k hk => hw k (by unfold extra; rw [ho]; simp only [hcal]; exact List.mem_append_left _ hk)
   cases x with
   | func f =>
    simp only []
    exact callOp_congr (fun k hk => hall k (by simp only [allPts,List.mem_append]; exact .inr hk)) hnew h1
   | tmp t =>
    have htt:e t = e' t:=ht t (by simp [ho,Op.operands,Call.operands,hcal])
    have hct:cont hn e (.tmp t) = cont hn e' (.tmp t):=cont_congr fun k hk => hall k (by simp only [allPts,List.mem_append]; exact .inl hk)
    simp only [htt]
    split
    ·exact callOp_congr hall hnew fun tv ks => by rw [h1,hct]
    ·rfl
   | const v => rfl
   | global g => rfl
  | builtin b =>
   cases b <;> first
    | (simp only [hp1]; done)
    | (simp only [hq1]; done)
    | (simp only [hlen,hp1]; done)
    | exact clearOp_congr (fun x hx => hc x (by simpa using hx)) (fun x hx => hcc x (by simpa using hx))
    | skip
   simp only []
   split
   ·rename_i x y t t' ha1 ha2
    have hxm:x ∈ c.args:=by
     have:x ∈ c.args.toList:=by rw [ha1]; simp
     simpa using this
    have hym:y ∈ c.args:=by
     have:y ∈ c.args.toList:=by rw [ha1]; simp
     simpa using this
    split
    ·rename_i T hu
     have happ:appTo hn e x T = appTo hn e' x T:=by
      unfold appTo
      rw [hc x hxm,hcc x hxm]
     rw [happ,vw_congr (hc y hym) (hcc y hym)]
     congr 1
     funext q
     split
     ·congr 1
      congr 1
      funext k
      cases hdst:o.dst with
      | none => rfl
      | some d =>
       have:fresh e (n + d) = fresh e' (n + d):=by
        unfold fresh
        rw [hw (n + d) (by unfold extra; rw [ho]; simp only [hcal]; exact List.mem_append_right _ (by simp [atDst,hdst]))]
       simp only [Option.bind_some,this]
     ·rfl
    ·rfl
   ·rfl
  | invoke r m => rfl
 case binOp op t x y u =>
  have hx:=h x (by simp [ho,Op.operands])
  have hy:=h y (by simp [ho,Op.operands])
  unfold cmpOp known opv
  simp only [hx,hy]
 case unOp => exact hp (by rw [ho]; intro cs b; nofun) h
 case convert t u x =>
  have hx:=h x (by simp [ho,Op.operands])
  have hc:=cont_congr (hn:=hn) (hl (by rw [ho]; rfl) x (by simp [ho,Op.operands]))
  have hqq:=fun s => askOp_congr (P:=P) (s:=s) (o:=o) (e:=e) (e':=e') (by rw [ho]; intro cs b; nofun) h
  simp only [convOp,hx,vwT_congr hx hc,hqq]
 case index => exact hq (by rw [ho]; intro cs b; nofun) h
 case build t ps =>
  have hx:∀ p ∈ ps.toList,opd e p.2 = opd e' p.2:=fun p hm => h p.2 (by simp only [ho,Op.operands,List.mem_toArray,List.mem_map]; exact ⟨p,hm,rfl⟩)
  have h1:ps.toList.all (fun p => known e p.2) = ps.toList.all (fun p => known e' p.2):=by
   rw [Bool.eq_iff_iff]
   simp only [List.all_eq_true]
   exact ⟨fun hh p hm => by have:=hh p hm; unfold known at this ⊢; rw [← hx p hm]; exact this,fun hh p hm => by have:=hh p hm; unfold known at this ⊢; rw [hx p hm]; exact this⟩
  have h2:(ps.toList.map fun p => (p.1,opv e p.2)) = ps.toList.map fun p => (p.1,opv e' p.2):=List.map_congr_left fun p hm => by unfold opv; rw [hx p hm]
  have h3:=fun pl zl => partsOf_congr (pl:=pl) (zl:=zl) hx
  simp only [h1,h2,h3]
theorem evalG_congr {s:List Ans} {o:Oper} (h:∀ t ∈ mentions hn n ops o,e t = e' t):evalG P hn n ops e s o = evalG P hn n ops e' s o:=by
 have hev:=evalOp_congr (P:=P) (hn:=hn) (n:=n) (s:=s) (o:=o) (e:=e) (e':=e') (fun x hx => opd_congr fun t ht => h t (by
  unfold mentions
  simp only [List.mem_append,List.mem_flatMap]
  exact .inr (.inl ⟨x,by simpa using hx,ht⟩))) (fun t ht => h t (by
  unfold mentions
  simp only [List.mem_append,List.mem_flatMap]
  exact .inr (.inl ⟨.tmp t,by simpa using ht,by simp [tmpsOf]⟩))) (fun hl x hx k hk => h k (by
  unfold mentions
  simp only [List.mem_append]
  refine .inr (.inr (.inl ?_))
  rw [hl]
  exact allPts_mem (by simpa using hx) hk)) (fun k hk => h k (by
  unfold mentions writes
  simp only [List.mem_append]
  exact .inl (.inl hk)))
 have hg:∀ g u t,o.guard = some (g,u) → (ops[g]?).bind (·.dst) = some t → e t = e' t:=fun g u t hg ht => h t (by
  unfold mentions guards
  simp only [List.mem_append]
  exact .inr (.inr (.inr (by rw [hg]; simp [ht]))))
 unfold evalG
 rw [hev]
 congr 1
 cases hgo:o.guard with
 | none => rfl
 | some q =>
  obtain ⟨g,u⟩:=q
  simp only []
  cases ht:(ops[g]?).bind (·.dst) with
  | none => rfl
  | some t => simp only [hg g u t hgo ht]
/-- What is written is among what is said to be written. -/
theorem w1_writes {o:Oper} {d:Option Nat} {y:AV} (hd:∀ t,d = some t → o.dst = some t) {t:Nat} (h:t ∈ (w1 d y).map (·.1)):t ∈ writes hn n o:=by
 cases d with
 | none => simp [w1] at h
 | some q =>
  simp only [w1,List.map_cons,List.map_nil,List.mem_singleton] at h
  subst h
  unfold writes
  rw [hd t rfl]
  simp
theorem dst_writes {o:Oper} {d:Nat} (h:o.dst = some d):d ∈ writes hn n o:=by
 unfold writes
 rw [h]
 simp
theorem ex_writes {o:Oper} {k:Nat} (h:k ∈ extra hn n o):k ∈ writes hn n o:=List.mem_append_left _ h
theorem old_keys {post:List (Nat × AV)}:∀ {ks:List Nat} {t:Nat},t ∈ (oldW post ks).map (·.1) → t ∈ ks
 | [],t,h => by simp [oldW] at h
 | k :: ks,t,h => by
  simp only [oldW,List.map_cons,List.mem_cons] at h ⊢
  exact h.imp id old_keys
theorem new_keys {ks:List Nat}:∀ {post:List (Nat × AV)} {t:Nat},t ∈ (newW ks post).map (·.1) → t ∉ ks ∧ t ∈ keysOf post
 | [],t,h => by simp [newW] at h
 | (k,x) :: l,t,h => by
  simp only [newW] at h
  cases hm:mem k ks
  ·rw [hm] at h
   simp only [cond_false,List.map_cons,List.mem_cons] at h
   rcases h with rfl | h
   ·exact ⟨fun hk => (by rw [mem_iff.2 hk] at hm; cases hm),by simp [keysOf]⟩
   ·obtain ⟨h1,h2⟩:=new_keys h
    exact ⟨h1,by simp [keysOf,h2]⟩
  ·rw [hm] at h
   obtain ⟨h1,h2⟩:=new_keys h
   exact ⟨h1,by simp [keysOf,h2]⟩
theorem callKs_writes {s s':List Ans} {o:Oper} {xs:List Operand} {f:FuncId} {l:List AV} {ks:List Nat} {r:AV} {post:List (Nat × AV)} {ws:List (Nat × Option AV)} {p:Option Prop} (h:callKs P hn n e s o xs f l ks r post = some (ws,p,s')) (hx:∀ k,k ∈ allPts hn xs ∨ k ∈ newK n o → k ∈ extra hn n o):∀ t ∈ ws.map (·.1),t ∈ writes hn n o:=by
 unfold callKs at h
 obtain ⟨pre,hpre,h2⟩:=Option.bind_eq_some_iff.1 h
 obtain ⟨hc,h3⟩:=plain_of h2
 simp only [Option.some.injEq,Prod.mk.injEq] at h3
 obtain ⟨rfl,_,_⟩:=h3
 simp only [Bool.and_eq_true] at hc
 obtain ⟨c1,_,_,c4,_⟩:=hc
 intro t ht
 simp only [List.map_append,List.mem_append] at ht
 rcases ht with ht | ht | ht
 ·exact ex_writes (hx t (.inl (mem_iff.1 (List.all_eq_true.1 c1 t (old_keys ht)))))
 ·obtain ⟨h1,h2⟩:=new_keys ht
  obtain ⟨x,hx2⟩:=keysOf_mem.1 h2
  have:=List.all_eq_true.1 c4 _ hx2
  simp only [Bool.and_eq_true,Bool.or_eq_true] at this
  rcases this.2 with h4 | h4
  ·exact absurd (mem_iff.1 h4) h1
  ·exact ex_writes (hx t (.inr (mem_iff.1 h4.1)))
 ·exact w1_writes (fun _ h => h) ht
theorem callOp_writes {s s':List Ans} {o:Oper} {xs:List Operand} {f:FuncId} {l:Bool → List Nat → Option (List AV)} {ws:List (Nat × Option AV)} {p:Option Prop} (h:callOp P hn n e s o xs f l = some (ws,p,s')) (hx:∀ k,k ∈ allPts hn xs ∨ k ∈ newK n o → k ∈ extra hn n o):∀ t ∈ ws.map (·.1),t ∈ writes hn n o:=by
 unfold callOp at h
 split at h
 ·obtain ⟨_,_,h⟩:=Option.bind_eq_some_iff.1 h
  exact callKs_writes h hx
 ·obtain ⟨_,h⟩:=plain_of h
  obtain ⟨_,_,h⟩:=Option.bind_eq_some_iff.1 h
  simp only [Option.some.injEq,Prod.mk.injEq] at h
  obtain ⟨rfl,_,_⟩:=h
  exact fun t ht => w1_writes (fun _ h => h) ht
 ·obtain ⟨_,_,h⟩:=Option.bind_eq_some_iff.1 h
  exact callKs_writes h hx
 ·cases h
theorem evalOp_writes {s s':List Ans} {o:Oper} {ws:List (Nat × Option AV)} {p:Option Prop} (h:evalOp P hn n e s o = some (ws,p,s')):∀ t ∈ ws.map (·.1),t ∈ writes hn n o:=by
 have wd:∀ {y:AV} {t:Nat},t ∈ (w1 o.dst y).map (·.1) → t ∈ writes hn n o:=fun h => w1_writes (fun _ h => h) h
 have kd:∀ {x y:Option AV} {d t:Nat},o.dst = some d → n + d ∈ extra hn n o → t ∈ ([(n + d,x),(d,y)] : List (Nat × Option AV)).map (·.1) → t ∈ writes hn n o:=by
  intro x y d t hd hk ht
  simp only [List.map_cons,List.map_nil,List.mem_cons,List.not_mem_nil,or_false] at ht
  rcases ht with rfl | rfl
  ·exact ex_writes hk
  ·exact dst_writes hd
 have ad:∀ {d:Nat},o.dst = some d → extra hn n o = atDst n o → n + d ∈ extra hn n o:=fun hd he => by rw [he]; simp [atDst,hd]
 have pk:∀ {s:List Ans},pureOp P e s o = some (ws,p,s') → ∀ t ∈ ws.map (·.1),t ∈ writes hn n o:=by
  intro s h
  unfold pureOp at h
  obtain ⟨_,h⟩:=plain_of h
  split at h
  ·obtain ⟨y,_,h⟩:=Option.map_eq_some_iff.1 h
   simp only [Prod.mk.injEq] at h
   obtain ⟨rfl,_⟩:=h
   exact fun t ht => wd ht
  ·cases h
 have ak:∀ {s:List Ans},askOp P e s o = some (ws,p,s') → ∀ t ∈ ws.map (·.1),t ∈ writes hn n o:=by
  intro s h
  unfold askOp at h
  obtain ⟨_,h⟩:=plain_of h
  split at h
  ·obtain ⟨_,h⟩:=plain_of h
   simp only [Option.some.injEq,Prod.mk.injEq] at h
   obtain ⟨rfl,_⟩:=h
   exact fun t ht => wd ht
  ·cases h
 have mw:∀ {β:Type} {q:Option β} {g:β → AV} {c:β → Option Prop} {s1:List Ans},(q.map fun y => (w1 o.dst (g y),c y,s1)) = some (ws,p,s') → ∀ t ∈ ws.map (·.1),t ∈ writes hn n o:=by
  intro β q g c s1 h
  obtain ⟨y,_,h⟩:=Option.map_eq_some_iff.1 h
  simp only [Prod.mk.injEq] at h
  obtain ⟨rfl,_⟩:=h
  exact fun t ht => wd ht
 have sw:∀ {y:AV} {c:Option Prop} {s1:List Ans},some (w1 o.dst y,c,s1) = some (ws,p,s') → ∀ t ∈ ws.map (·.1),t ∈ writes hn n o:=by
  intro y c s1 h
  simp only [Option.some.injEq,Prod.mk.injEq] at h
  obtain ⟨rfl,_⟩:=h
  exact fun t ht => wd ht
 have mv:∀ {x:Operand},(o.op = .move x ∨ o.op = .assign x) → moveOp P n e s o.dst x = some (ws,p,s') → ∀ t ∈ ws.map (·.1),t ∈ writes hn n o:=by
  intro x ho h
  unfold moveOp at h
  cases hnil:isNil x
  ·rw [hnil] at h
   exact mw h
  ·rw [hnil] at h
   simp only [cond_true] at h
   split at h
   ·split at h
    ·rename_i d hdst
     obtain ⟨hc,h⟩:=plain_of h
     obtain ⟨_,_,h⟩:=Option.map_eq_some_iff.1 h
     simp only [Prod.mk.injEq] at h
     obtain ⟨rfl,_⟩:=h
     exact fun t ht => kd hdst (ad hdst (by unfold extra; rcases ho with ho | ho <;> rw [ho] <;> simp only [hnil,cond_true])) ht
    ·cases h
   ·exact sw h
   ·exact sw h
   ·cases h
 unfold evalOp at h
 split at h
 ·rename_i x ho
  exact mv (.inl ho) h
 ·rename_i x ho
  exact mv (.inr ho) h
 ·split at h
  ·exact mw h
  ·cases h
 ·rename_i t ho
  obtain ⟨_,_,h⟩:=Option.bind_eq_some_iff.1 h
  obtain ⟨_,h⟩:=plain_of h
  obtain ⟨d,hd,h⟩:=Option.bind_eq_some_iff.1 h
  obtain ⟨_,h⟩:=plain_of h
  simp only [Option.some.injEq,Prod.mk.injEq] at h
  obtain ⟨rfl,_⟩:=h
  exact fun t ht => kd hd (ad hd (by unfold extra; rw [ho])) ht
 ·-- load
  rename_i t x ho
  unfold loadOp at h
  split at h
  ·exact mw h
  ·split at h
   ·exact mw h
   ·exact mw h
   ·cases h
  ·split at h
   ·obtain ⟨_,h⟩:=plain_of h
    exact mw h
   ·cases h
  ·cases h
 ·rename_i t x ho
  obtain ⟨_,_,h⟩:=Option.bind_eq_some_iff.1 h
  obtain ⟨_,h⟩:=plain_of h
  obtain ⟨d,hd,h⟩:=Option.bind_eq_some_iff.1 h
  obtain ⟨_,h⟩:=plain_of h
  simp only [Option.some.injEq,Prod.mk.injEq] at h
  obtain ⟨rfl,_⟩:=h
  exact fun t ht => kd hd (ad hd (by unfold extra; rw [ho])) ht
 ·split at h
  ·exact sw h
  ·exact sw h
  ·exact sw h
  ·exact sw h
  ·cases h
 ·-- store
  rename_i t x v ho
  have one:∀ {k:Nat} {y:Option AV},mem k (pts hn x) = true → ∀ t ∈ ([(k,y)] : List (Nat × Option AV)).map (·.1),t ∈ writes hn n o:=by
   intro k y hm t ht
   simp only [List.map_cons,List.map_nil,List.mem_singleton] at ht
   subst ht
   exact ex_writes (by unfold extra; rw [ho]; exact mem_iff.1 hm)
  unfold storeOp at h
  split at h
  ·split at h
   ·rename_i hc _
    obtain ⟨_,_,h⟩:=Option.bind_eq_some_iff.1 h
    obtain ⟨_,h⟩:=plain_of h
    simp only [Option.some.injEq,Prod.mk.injEq] at h
    obtain ⟨rfl,_⟩:=h
    exact one (plain_of hc).1
   ·cases h
  ·split at h
   ·rename_i hc _
    obtain ⟨_,_,h⟩:=Option.bind_eq_some_iff.1 h
    obtain ⟨_,h⟩:=plain_of h
    simp only [Option.some.injEq,Prod.mk.injEq] at h
    obtain ⟨rfl,_⟩:=h
    exact one (plain_of hc).1
   ·cases h
  ·cases h
 ·-- indexAddr
  split at h
  ·split at h
   ·split at h
    ·obtain ⟨_,h⟩:=plain_of h
     obtain ⟨_,_,h⟩:=Option.bind_eq_some_iff.1 h
     exact sw h
    ·cases h
   ·split at h
    ·obtain ⟨_,h⟩:=plain_of h
     obtain ⟨_,_,h⟩:=Option.bind_eq_some_iff.1 h
     obtain ⟨_,h⟩:=plain_of h
     exact sw h
    ·cases h
   ·cases h
  ·split at h
   ·obtain ⟨_,h⟩:=plain_of h
    exact sw h
   ·cases h
  ·cases h
 ·-- slice
  split at h
  ·split at h
   ·split at h
    ·obtain ⟨_,_,h⟩:=Option.bind_eq_some_iff.1 h
     obtain ⟨_,_,h⟩:=Option.bind_eq_some_iff.1 h
     obtain ⟨_,_,h⟩:=Option.bind_eq_some_iff.1 h
     exact sw h
    ·cases h
   ·rename_i x a1 a2 hi ho _ _
    unfold tailOp at h
    split at h
    ·split at h
     ·rename_i hcq
      split at h
      ·obtain ⟨_,_,h⟩:=Option.bind_eq_some_iff.1 h
       obtain ⟨_,_,h⟩:=Option.bind_eq_some_iff.1 h
       exact sw h
      ·split at h
       ·obtain ⟨_,_,h⟩:=Option.bind_eq_some_iff.1 h
        obtain ⟨_,_,h⟩:=Option.bind_eq_some_iff.1 h
        obtain ⟨d,hdst,h⟩:=Option.bind_eq_some_iff.1 h
        obtain ⟨hm,h⟩:=plain_of h
        simp only [Bool.and_eq_true] at hm
        simp only [Option.some.injEq,Prod.mk.injEq] at h
        obtain ⟨rfl,_⟩:=h
        have hex:extra hn n o = pts hn x ++ atDst n o:=by
         unfold extra cutAt
         rw [ho]
         simp only [hdst,hm.1,cond_true]
        intro t ht
        simp only [List.map_cons,List.map_nil,List.mem_cons,List.not_mem_nil,or_false] at ht
        rcases ht with rfl | rfl | rfl
        ·exact ex_writes (by rw [hex]; exact List.mem_append_left _ (mem_iff.1 (plain_of hcq).1))
        ·exact ex_writes (by rw [hex]; exact List.mem_append_right _ (by simp [atDst,hdst]))
        ·exact dst_writes hdst
       ·cases h
     ·cases h
    ·cases h
   ·exact ak h
  ·split at h
   ·split at h
    ·obtain ⟨_,_,h⟩:=Option.bind_eq_some_iff.1 h
     obtain ⟨_,_,h⟩:=Option.bind_eq_some_iff.1 h
     obtain ⟨_,_,h⟩:=Option.bind_eq_some_iff.1 h
     obtain ⟨_,_,h⟩:=Option.bind_eq_some_iff.1 h
     obtain ⟨d,hdst,h⟩:=Option.bind_eq_some_iff.1 h
     obtain ⟨_,h⟩:=plain_of h
     simp only [Option.some.injEq,Prod.mk.injEq] at h
     obtain ⟨rfl,_⟩:=h
     intro t ht
     simp only [List.map_cons,List.map_nil,List.mem_cons,List.not_mem_nil,or_false] at ht
     subst ht
     exact dst_writes hdst
    ·cases h
   ·exact ak h
 ·split at h
  ·exact sw h
  ·exact sw h
  ·exact mw h
  ·cases h
 ·split at h
  ·exact mw h
  ·cases h
 ·split at h
  ·exact mw h
  ·cases h
 ·-- buildSlice
  rename_i t len ps ho
  split at h
  ·obtain ⟨_,_,h⟩:=Option.bind_eq_some_iff.1 h
   obtain ⟨_,h⟩:=plain_of h
   obtain ⟨_,_,h⟩:=Option.bind_eq_some_iff.1 h
   obtain ⟨d,hd,h⟩:=Option.bind_eq_some_iff.1 h
   obtain ⟨_,h⟩:=plain_of h
   split at h
   ·simp only [Option.some.injEq,Prod.mk.injEq] at h
    obtain ⟨rfl,_⟩:=h
    exact fun t ht => kd hd (ad hd (by unfold extra; rw [ho])) ht
   ·simp only [Option.some.injEq,Prod.mk.injEq] at h
    obtain ⟨rfl,_⟩:=h
    exact fun t ht => kd hd (ad hd (by unfold extra; rw [ho])) ht
   ·cases h
  ·cases h
 ·-- makeSlice
  rename_i t x y ho
  split at h
  ·obtain ⟨_,_,h⟩:=Option.bind_eq_some_iff.1 h
   obtain ⟨_,_,h⟩:=Option.bind_eq_some_iff.1 h
   obtain ⟨d,hd,h⟩:=Option.bind_eq_some_iff.1 h
   obtain ⟨_,h⟩:=plain_of h
   simp only [Option.some.injEq,Prod.mk.injEq] at h
   obtain ⟨rfl,_⟩:=h
   exact fun t ht => kd hd (ad hd (by unfold extra; rw [ho])) ht
  ·cases h
 ·obtain ⟨_,h⟩:=plain_of h
  exact mw h
 ·-- call
  rename_i c ho
  split at h
  ·rename_i f hc
   exact callOp_writes h fun k hk => by
    unfold extra
    rw [ho]
    simp only [hc]
    rcases hk with hk | hk
    ·exact List.mem_append_left _ (by simp only [allPts,List.mem_append]; exact .inr hk)
    ·exact List.mem_append_right _ hk
  ·rename_i t hc
   split at h
   ·exact callOp_writes h fun k hk => by
     unfold extra
     rw [ho]
     simp only [hc]
     rcases hk with hk | hk
     ·exact List.mem_append_left _ hk
     ·exact List.mem_append_right _ hk
   ·cases h
  ·rename_i hc
   split at h
   ·rename_i x y t t' ha1 ha2
    split at h
    ·rename_i T hu
     obtain ⟨⟨l,m,ws0⟩,happ,h⟩:=Option.bind_eq_some_iff.1 h
     split at h
     ·obtain ⟨_,h⟩:=plain_of h
      obtain ⟨_,_,h⟩:=Option.bind_eq_some_iff.1 h
      obtain ⟨d,hd,h⟩:=Option.bind_eq_some_iff.1 h
      obtain ⟨_,h⟩:=plain_of h
      simp only [Option.some.injEq,Prod.mk.injEq] at h
      obtain ⟨rfl,_⟩:=h
      intro t ht
      simp only [List.map_append,List.mem_append] at ht
      rcases ht with ht | ht
      ·unfold appTo at happ
       split at happ
       ·split at happ
        ·rename_i hcq
         obtain ⟨_,happ⟩:=plain_of happ
         simp only [Option.some.injEq,Prod.mk.injEq] at happ
         obtain ⟨_,_,rfl⟩:=happ
         simp only [List.map_cons,List.map_nil,List.mem_singleton] at ht
         subst ht
         refine ex_writes ?_
         unfold extra
         rw [ho]
         simp only [hc,ha1,List.take_succ_cons,List.take_zero]
         exact List.mem_append_left _ (allPts_mem List.mem_cons_self (mem_iff.1 (plain_of hcq).1))
        ·cases happ
       ·simp only [Option.some.injEq,Prod.mk.injEq] at happ
        obtain ⟨_,_,rfl⟩:=happ
        simp at ht
       ·cases happ
      ·exact kd hd (by
        unfold extra
        rw [ho]
        simp only [hc]
        exact List.mem_append_right _ (by simp [atDst,hd])) ht
     ·cases h
    ·cases h
   ·cases h
  ·split at h
   ·split at h
    ·exact sw h
    ·cases h
   ·exact pk h
  ·rename_i hc
   unfold clearOp at h
   split at h
   ·rename_i x t ha1 ha2
    split at h
    ·split at h
     ·rename_i hcq
      obtain ⟨_,_,h⟩:=Option.bind_eq_some_iff.1 h
      obtain ⟨_,_,h⟩:=Option.bind_eq_some_iff.1 h
      obtain ⟨_,h⟩:=plain_of h
      simp only [Option.some.injEq,Prod.mk.injEq] at h
      obtain ⟨rfl,_⟩:=h
      intro t ht
      rcases List.mem_cons.1 ht with rfl | ht
      ·refine ex_writes ?_
       unfold extra
       rw [ho]
       simp only [hc,ha1]
       exact allPts_mem List.mem_cons_self (mem_iff.1 (plain_of hcq).1)
      ·exact wd ht
     ·cases h
    ·cases h
   ·cases h
  ·exact ak h
  ·exact ak h
  ·exact pk h
  ·cases h
 ·unfold cmpOp at h
  obtain ⟨_,h⟩:=plain_of h
  split at h
  ·obtain ⟨_,h⟩:=plain_of h
   exact sw h
  ·cases h
 ·exact pk h
 ·unfold convOp at h
  split at h
  ·split at h
   ·exact sw h
   ·cases h
  ·split at h
   ·obtain ⟨_,h⟩:=plain_of h
    exact sw h
   ·cases h
  ·exact ak h
 ·exact ak h
 ·split at h
  ·obtain ⟨_,h⟩:=plain_of h
   exact mw h
  ·split at h
   ·obtain ⟨_,_,h⟩:=Option.bind_eq_some_iff.1 h
    exact mw h
   ·cases h
  ·cases h
 ·cases h
theorem evalG_writes {s s':List Ans} {o:Oper} {ws:List (Nat × Option AV)} {p:Option Prop} (h:evalG P hn n ops e s o = some (ws,p,s')):∀ t ∈ ws.map (·.1),t ∈ writes hn n o:=by
 have wd:∀ {y:AV} {t:Nat},t ∈ (w1 o.dst y).map (·.1) → t ∈ writes hn n o:=fun h => w1_writes (fun _ h => h) h
 unfold evalG at h
 obtain ⟨_,h⟩:=plain_of h
 split at h
 ·exact evalOp_writes h
 ·split at h
  ·cases h
  ·split at h
   ·rename_i b hb
    cases hbu:b == _
    ·rw [hbu] at h
     simp only [cond_false,Option.some.injEq,Prod.mk.injEq] at h
     obtain ⟨rfl,_⟩:=h
     exact fun t ht => wd ht
    ·rw [hbu] at h
     exact evalOp_writes h
   ·simp only [Option.some.injEq,Prod.mk.injEq] at h
    obtain ⟨rfl,_⟩:=h
    exact fun t ht => wd ht
   ·cases h
end
end Go.Rh

namespace Go.Rh
open Go.RowKit
variable [MemFact]

/-! ### The order that the edges give -/
def ancOf (A:List Nat):List Edge → Nat
 | [] => 0
 | e :: es => bif Region.binds .any e then ((A[e.on]?).getD 0 ||| 2 ^ e.on) ||| ancOf A es else ancOf A es
def ancs:List Oper → List Nat → List Nat
 | [],A => A
 | o :: os,A => ancs os (A ++ [ancOf A o.after.toList])
def backs (j:Nat):List Edge → Bool
 | [] => true
 | e :: es => (!Region.binds .any e || Nat.blt e.on j) && backs j es
/-- What was reckoned is the order. -/
def soundA (A:List Nat):Nat → List Oper → Bool
 | _,[] => true
 | j,o :: os => backs j o.after.toList && (Nat.beq ((A[j]?).getD 0) (ancOf A o.after.toList) && soundA A (j + 1) os)
def meet:List Nat → List Nat → Bool
 | [],_ => false
 | x :: l,m => m.any (Nat.beq x) || meet l m
/-- No operation before that one clashes with it unordered. -/
def calm (hn:Hint) (n:Nat) (ops:Array Oper) (o:Oper) (a:Nat):Nat → List Oper → Bool
 | _,[] => true
 | i,p :: ps => (!(meet (writes hn n o) (mentions hn n ops p) || meet (writes hn n p) (mentions hn n ops o)) || a.testBit i) && calm hn n ops o a (i + 1) ps
def calms (hn:Hint) (n:Nat) (ops:Array Oper) (A:List Nat):Nat → List Oper → Bool
 | _,[] => true
 | j,o :: os => calm hn n ops o ((A[j]?).getD 0) 0 (ops.toList.take j) && calms hn n ops A (j + 1) os
def ordered (hn:Hint) (n:Nat) (ops:Array Oper):Bool :=
 let A:=ancs ops.toList []
 soundA A 0 ops.toList && calms hn n ops A 0 ops.toList
theorem backs_mem {j:Nat}:∀ {es:List Edge},backs j es = true → ∀ e ∈ es,Region.binds .any e = true → e.on < j
 | [],_,e,h,_ => by cases h
 | f :: es,h,e,he,hb => by
  simp only [backs,Bool.and_eq_true,Bool.or_eq_true,Bool.not_eq_true'] at h
  rcases List.mem_cons.1 he with rfl | he
  ·rcases h.1 with h1 | h1
   ·rw [hb] at h1; cases h1
   ·exact Nat.le_of_ble_eq_true h1
  ·exact backs_mem h.2 e he hb
theorem ancOf_bit {A:List Nat} {i:Nat}:∀ {es:List Edge},(ancOf A es).testBit i = true → ∃ e ∈ es,Region.binds .any e = true ∧ (((A[e.on]?).getD 0).testBit i = true ∨ e.on = i)
 | [],h => by simp [ancOf] at h
 | f :: es,h => by
  simp only [ancOf] at h
  cases hb:Region.binds .any f
  ·rw [hb] at h
   obtain ⟨e,he,h2⟩:=ancOf_bit (es:=es) h
   exact ⟨e,List.mem_cons_of_mem _ he,h2⟩
  ·rw [hb] at h
   simp only [cond_true,Nat.testBit_or,Bool.or_eq_true,Nat.testBit_two_pow,decide_eq_true_eq] at h
   rcases h with h | h
   ·exact ⟨f,List.mem_cons_self,hb,h⟩
   ·obtain ⟨e,he,h2⟩:=ancOf_bit (es:=es) h
    exact ⟨e,List.mem_cons_of_mem _ he,h2⟩
theorem soundA_at {A:List Nat}:∀ {os:List Oper} {k:Nat},soundA A k os = true → ∀ (i:Nat) (o:Oper),os[i]? = some o → (∀ e ∈ o.after.toList,Region.binds .any e = true → e.on < k + i) ∧ (A[k + i]?).getD 0 = ancOf A o.after.toList
 | [],_,_,i,o,h => by simp at h
 | p :: os,k,h,i,o,ho => by
  simp only [soundA,Bool.and_eq_true] at h
  cases i with
  | zero =>
   simp only [List.getElem?_cons_zero,Option.some.injEq] at ho
   subst ho
   exact ⟨backs_mem h.1,Nat.eq_of_beq_eq_true h.2.1⟩
  | succ i =>
   have:=soundA_at h.2.2 i o (by simpa using ho)
   rw [show k + 1 + i = k + (i + 1) by omega] at this
   exact this
theorem meet_of {l m:List Nat} {t:Nat} (h1:t ∈ l) (h2:t ∈ m):meet l m = true:=by
 induction l with
 | nil => cases h1
 | cons x l ih =>
  simp only [meet,Bool.or_eq_true]
  rcases List.mem_cons.1 h1 with rfl | h1
  ·left
   rw [List.any_eq_true]
   exact ⟨t,h2,Nat.beq_refl t⟩
  ·exact .inr (ih h1)
theorem calm_at {hn:Hint} {n:Nat} {ops:Array Oper} {o:Oper} {a:Nat}:∀ {ps:List Oper} {k:Nat},calm hn n ops o a k ps = true → ∀ (i:Nat) (p:Oper),ps[i]? = some p → (meet (writes hn n o) (mentions hn n ops p) = true ∨ meet (writes hn n p) (mentions hn n ops o) = true) → a.testBit (k + i) = true
 | [],_,_,i,p,h,_ => by simp at h
 | q :: ps,k,h,i,p,hp,hm => by
  simp only [calm,Bool.and_eq_true,Bool.or_eq_true,Bool.not_eq_true',Bool.or_eq_false_iff] at h
  cases i with
  | zero =>
   simp only [List.getElem?_cons_zero,Option.some.injEq] at hp
   subst hp
   rcases h.1 with h1 | h1
   ·rcases hm with hm | hm
    ·rw [h1.1] at hm; cases hm
    ·rw [h1.2] at hm; cases hm
   ·exact h1
  | succ i =>
   have:=calm_at h.2 i p (by simpa using hp) hm
   rwa [show k + 1 + i = k + (i + 1) by omega] at this
theorem calms_at {hn:Hint} {n:Nat} {ops:Array Oper} {A:List Nat}:∀ {os:List Oper} {k:Nat},calms hn n ops A k os = true → ∀ (i:Nat) (o:Oper),os[i]? = some o → calm hn n ops o ((A[k + i]?).getD 0) 0 (ops.toList.take (k + i)) = true
 | [],_,_,i,o,h => by simp at h
 | q :: os,k,h,i,o,ho => by
  simp only [calms,Bool.and_eq_true] at h
  cases i with
  | zero =>
   simp only [List.getElem?_cons_zero,Option.some.injEq] at ho
   subst ho
   exact h.1
  | succ i =>
   have:=calms_at h.2 i o (by simpa using ho)
   rwa [show k + 1 + i = k + (i + 1) by omega] at this

section
variable {P:Program} {hn:Hint} {w0:Cx} {w:World} {n:Nat} {e e':Env} {ops:Array Oper}
/-- What was done is closed under what comes before. -/
def Shut (ops:Array Oper) (S:Nat → Bool):Prop:=∀ (j:Nat) (o:Oper),ops[j]? = some o → S j = true → ∀ e ∈ o.after.toList,Region.binds .any e = true → S e.on = true
theorem shut_anc {S:Nat → Bool} {A:List Nat} (hA:soundA A 0 ops.toList = true) (hS:Shut ops S):∀ (j i:Nat),j < ops.size → S j = true → ((A[j]?).getD 0).testBit i = true → S i = true:=by
 intro j
 induction j using Nat.strongRecOn with
 | _ j ih =>
  intro i hj hs hb
  have ho:ops.toList[j]? = some ops[j]:=by simp [hj]
  obtain ⟨h1,h2⟩:=soundA_at hA j _ ho
  rw [Nat.zero_add] at h1 h2
  rw [h2] at hb
  obtain ⟨e,he,hbe,h3⟩:=ancOf_bit hb
  have hse:=hS j _ (by simp [hj]) hs e he hbe
  have hlt:=h1 e he hbe
  rcases h3 with h3 | h3
  ·exact ih e.on hlt i (by omega) hse h3
  ·rwa [← h3]
/-- Two that clash are ordered. -/
theorem clash_anc (hO:ordered hn n ops = true) {i j t:Nat} {p o:Oper} (hij:i < j) (hp:ops[i]? = some p) (ho:ops[j]? = some o) (h:(t ∈ writes hn n o ∧ t ∈ mentions hn n ops p) ∨ (t ∈ writes hn n p ∧ t ∈ mentions hn n ops o)) :
  (((ancs ops.toList [])[j]?).getD 0).testBit i = true:=by
 simp only [ordered,Bool.and_eq_true] at hO
 have:=calms_at hO.2 j o (by rw [getElem_toList]; exact ho)
 rw [Nat.zero_add] at this
 have h2:=calm_at this i p (by rw [List.getElem?_take,if_pos hij,getElem_toList]; exact hp) (by
  rcases h with ⟨h1,h2⟩ | ⟨h1,h2⟩
  ·exact .inl (meet_of h1 h2)
  ·exact .inr (meet_of h1 h2))
 rwa [Nat.zero_add] at h2
theorem writes_mentions {o:Oper} {t:Nat} (h:t ∈ writes hn n o):t ∈ mentions hn n ops o:=by
 unfold mentions
 exact List.mem_append_left _ h
/-- The slots where those of S were done. -/
def envOf (e:Env) (D:Nat → List (Nat × Option AV)) (S:Nat → Bool):Nat → Env
 | 0 => e
 | k + 1 => bif S k then (envOf e D S k).puts (D k) else envOf e D S k
theorem puts_ne:∀ {l:List (Nat × Option AV)} {e:Env} {t:Nat},t ∉ l.map (·.1) → e.puts l t = e t
 | [],_,_,_ => rfl
 | (d,x) :: l,e,t,h => by
  simp only [List.map_cons,List.mem_cons,not_or] at h
  rw [Env.puts,puts_ne h.2,Env.put_ne _ _ h.1]
theorem puts_same:∀ {l:List (Nat × Option AV)} {e e1:Env} {t:Nat},(t ∈ l.map (·.1) ∨ e t = e1 t) → e.puts l t = e1.puts l t
 | [],_,_,_,h => by
  rcases h with h | h
  ·simp at h
  ·exact h
 | (d,x) :: l,e,e1,t,h => by
  simp only [Env.puts]
  refine puts_same ?_
  by_cases hl:t ∈ l.map (·.1)
  ·exact .inl hl
  ·by_cases hd:t = d
   ·subst hd
    exact .inr (by rw [Env.put_same,Env.put_same])
   ·right
    rw [Env.put_ne _ _ hd,Env.put_ne _ _ hd]
    rcases h with h | h
    ·simp only [List.map_cons,List.mem_cons] at h
     rcases h with h | h
     ·exact absurd h hd
     ·exact absurd h hl
    ·exact h
theorem envOf_agree {D:Nat → List (Nat × Option AV)} {S S':Nat → Bool} {t:Nat}:∀ {k:Nat},(∀ i,i < k → t ∈ (D i).map (·.1) → S i = S' i) → envOf e D S k t = envOf e D S' k t
 | 0,_ => rfl
 | k + 1,h => by
  have ih:=envOf_agree (k:=k) fun i hi => h i (by omega)
  simp only [envOf]
  by_cases hd:t ∈ (D k).map (·.1)
  ·have hk:=h k (by omega) hd
   rw [hk]
   cases S' k
   ·exact ih
   ·exact puts_same (.inl hd)
  ·cases S k <;> cases S' k <;> simp only [cond_true,cond_false,puts_ne hd,ih]
theorem envOf_cut {D:Nat → List (Nat × Option AV)} {t r:Nat}:∀ {k:Nat},r ≤ k → envOf e D (fun i => decide (i < r)) k t = envOf e D (fun _ => true) r t
 | 0,h => by
  have:r = 0:=by omega
  subst this
  rfl
 | k + 1,h => by
  by_cases hk:r = k + 1
  ·subst hk
   exact envOf_agree fun i hi _ => by simp [hi]
  ·have:decide (k < r) = false:=by simp; omega
   simp only [envOf,this,cond_false]
   exact envOf_cut (by omega)
theorem Trace.full (T:Trace P hn n ops ops.toList e e'):∀ {k:Nat},k ≤ ops.size → envOf e T.D (fun _ => true) k = T.E k
 | 0,_ => T.first.symm
 | k + 1,h => by
  simp only [envOf,cond_true]
  rw [T.full (by omega),T.next k (by simp; omega)]
theorem Trace.writes (T:Trace P hn n ops ops.toList e e') {i t:Nat} {o:Oper} (ho:ops[i]? = some o) (h:t ∈ (T.D i).map (·.1)):t ∈ writes hn n o:=by
 obtain ⟨p,s',h1,_⟩:=T.each i o (by rw [getElem_toList]; exact ho)
 exact evalG_writes (ws:=T.D i) h1 t h
/-- Before an operation that may come, what it looks at is as in the listed order. -/
theorem before (hO:ordered hn n ops = true) (T:Trace P hn n ops ops.toList e e') {S:Nat → Bool} (hS:Shut ops S) (hb:∀ i,S i = true → i < ops.size) {r:Nat} {o:Oper} (hr:ops[r]? = some o) (hSr:S r = false)
  (hrd:∀ e ∈ o.after.toList,Region.binds .any e = true → S e.on = true) {t:Nat} (ht:t ∈ mentions hn n ops o):envOf e T.D S ops.size t = T.E r t:=by
 have hrs:r < ops.size:=(Array.getElem?_eq_some_iff.1 hr).1
 have hA:soundA (ancs ops.toList []) 0 ops.toList = true:=by
  simp only [ordered,Bool.and_eq_true] at hO
  exact hO.1
 rw [← T.full (k:=r) (by omega),← envOf_cut (k:=ops.size) (by omega)]
 refine envOf_agree fun i hi hd => ?_
 have hoi:ops[i]? = some ops[i]:=by simp [hi]
 have hw:=T.writes hoi hd
 by_cases h1:i < r
 ·have hc:=clash_anc hO h1 hoi hr (.inr ⟨hw,ht⟩)
  have h2:=soundA_at hA r o (by rw [getElem_toList]; exact hr)
  rw [Nat.zero_add] at h2
  rw [h2.2] at hc
  obtain ⟨f,hf,hbf,h3⟩:=ancOf_bit hc
  have hsf:=hrd f hf hbf
  have:S i = true:=by
   rcases h3 with h3 | h3
   ·exact shut_anc hA hS f.on i (hb _ hsf) hsf h3
   ·rwa [← h3]
  rw [this]
  simp [h1]
 ·by_cases h2:i = r
  ·subst h2
   rw [hSr]
   simp
  ·have h3:r < i:=by omega
   have hc:=clash_anc hO h3 hr hoi (.inl ⟨hw,ht⟩)
   have:S i = false:=by
    cases hsi:S i
    ·rfl
    ·have:=shut_anc hA hS i r hi hsi hc
     rw [hSr] at this
     cases this
   rw [this]
   simp [h1]
/-- Behind it too. -/
theorem behind (hO:ordered hn n ops = true) (T:Trace P hn n ops ops.toList e e') {S S':Nat → Bool} (hS:Shut ops S) (hb:∀ i,S i = true → i < ops.size) {r:Nat} {o:Oper} (hr:ops[r]? = some o) (hSr:S r = false)
  (hrd:∀ e ∈ o.after.toList,Region.binds .any e = true → S e.on = true) (hS':∀ i,S' i = (S i || decide (i = r))):envOf e T.D S' ops.size = (envOf e T.D S ops.size).puts (T.D r):=by
 have hrs:r < ops.size:=(Array.getElem?_eq_some_iff.1 hr).1
 have hA:soundA (ancs ops.toList []) 0 ops.toList = true:=by
  simp only [ordered,Bool.and_eq_true] at hO
  exact hO.1
 funext t
 by_cases hd:t ∈ (T.D r).map (·.1)
 ·have hw:=T.writes hr hd
  have:envOf e T.D S' ops.size t = envOf e T.D (fun i => decide (i < r + 1)) ops.size t:=by
   refine envOf_agree fun i hi hdi => ?_
   have hoi:ops[i]? = some ops[i]:=by simp [hi]
   have hwi:=T.writes hoi hdi
   rw [hS']
   by_cases h2:i = r
   ·subst h2
    simp
   ·by_cases h1:i < r
    ·have hc:=clash_anc hO h1 hoi hr (.inr ⟨hwi,writes_mentions hw⟩)
     have h2:=soundA_at hA r o (by rw [getElem_toList]; exact hr)
     rw [Nat.zero_add] at h2
     rw [h2.2] at hc
     obtain ⟨f,hf,hbf,h3⟩:=ancOf_bit hc
     have hsf:=hrd f hf hbf
     have:S i = true:=by
      rcases h3 with h3 | h3
      ·exact shut_anc hA hS f.on i (hb _ hsf) hsf h3
      ·rwa [← h3]
     rw [this]
     simp
     omega
    ·have h3:r < i:=by omega
     have hc:=clash_anc hO h3 hr hoi (.inl ⟨hwi,writes_mentions hw⟩)
     have:S i = false:=by
      cases hsi:S i
      ·rfl
      ·have:=shut_anc hA hS i r hi hsi hc
       rw [hSr] at this
       cases this
     rw [this]
     simp [h2]
     omega
  rw [this,envOf_cut (by omega)]
  simp only [envOf,cond_true]
  exact puts_same (.inl hd)
 ·rw [puts_ne hd]
  refine envOf_agree fun i hi hdi => ?_
  have:i ≠ r:=by
   rintro rfl
   exact hd hdi
  rw [hS']
  simp [this]
end
end Go.Rh

namespace Go.Rh
open Go.RowKit
variable [MemFact]

section
variable {P:Program} {hn:Hint} {w0:Cx} {ν:Nat → Value} {w:World} {n:Nat} {e e':Env} {ops:Array Oper}
theorem ready_mem {listed:Array Bool} {i:Nat}:i ∈ Region.ready .any ops listed ↔ ∃ o,ops[i]? = some o ∧ listed.getD i true = false ∧ ∀ e ∈ o.after.toList,Region.binds .any e = true → listed.getD e.on false = true:=by
 unfold Region.ready
 simp only [List.mem_filter,List.mem_range,Bool.and_eq_true,Bool.not_eq_true']
 constructor
 ·rintro ⟨h1,h2,h3⟩
  have ho:ops[i]? = some ops[i]:=by simp [h1]
  refine ⟨ops[i],ho,h2,fun e he hb => ?_⟩
  rw [ho] at h3
  simp only [Option.map_some,Option.getD_some,Array.all_eq_true_iff_forall_mem] at h3
  have:=h3 e (by simpa using he)
  simpa [hb] using this
 ·rintro ⟨o,ho,h2,h3⟩
  refine ⟨(Array.getElem?_eq_some_iff.1 ho).1,h2,?_⟩
  rw [ho]
  simp only [Option.map_some,Option.getD_some,Array.all_eq_true_iff_forall_mem]
  intro e he
  cases hb:Region.binds .any e
  ·simp
  ·simp [h3 e (by simpa using he) hb]
theorem getD_eq {l:Array Bool} {i:Nat} (h:i < l.size) (b c:Bool):l.getD i b = l.getD i c:=by simp [Array.getD,h]
theorem count_pos {l:List Bool} {i:Nat} (h:l[i]? = some false):0 < l.count false:=List.count_pos_iff.2 (List.mem_of_getElem? h)
/-- In any order. -/
theorem any_sound {Q:Exit → Act → World → Prop} (hO:ordered hn n ops = true) (T:Trace P hn n ops ops.toList e e') (kk:Next P w0 n e' (Q .normal)):∀ (fuel:Nat) (listed:Array Bool),listed.size = ops.size → Shut ops (fun i => listed.getD i false) → listed.toList.count false = fuel →
  ∀ {ν:Nat → Value} {O:Own} {a:Act} {w:World},Inv P w0 ν O n (envOf e T.D (fun i => listed.getD i false) ops.size) a w → wpAny P .any ops Q fuel listed a w:=by
 have hA:soundA (ancs ops.toList []) 0 ops.toList = true:=by
  simp only [ordered,Bool.and_eq_true] at hO
  exact hO.1
 have hall:∀ {listed:Array Bool},listed.size = ops.size → (∀ i,i < ops.size → listed.getD i false = true) → envOf e T.D (fun i => listed.getD i false) ops.size = e':=by
  intro listed hs h
  have h1:envOf e T.D (fun i => listed.getD i false) ops.size = envOf e T.D (fun _ => true) ops.size:=by
   funext t
   exact envOf_agree fun i hi _ => h i hi
  rw [h1,T.full (Nat.le_refl _)]
  have:=T.last
  simpa using this
 have hnil:∀ {listed:Array Bool},listed.size = ops.size → Region.ready .any ops listed = [] → ∀ i,i < ops.size → listed.getD i false = true:=by
  intro listed hs hr i
  induction i using Nat.strongRecOn with
  | _ i ih =>
   intro hi
   cases hl:listed.getD i false
   ·have ho:ops[i]? = some ops[i]:=by simp [hi]
    have hm:i ∈ Region.ready .any ops listed:=ready_mem.2 ⟨_,ho,by rw [getD_eq (by omega) true false]; exact hl,fun e he hb => by
     have h1:=(soundA_at hA i _ (by rw [getElem_toList]; exact ho)).1 e he hb
     rw [Nat.zero_add] at h1
     exact ih e.on h1 (by omega)⟩
    rw [hr] at hm
    cases hm
   ·rfl
 intro fuel
 induction fuel with
 | zero =>
  intro listed hs hS hc ν O a w I
  have hl:∀ i,i < ops.size → listed.getD i false = true:=by
   intro i hi
   cases h:listed.getD i false
   ·have:listed.toList[i]? = some false:=by
     have h2:i < listed.size:=by omega
     simp only [Array.getD,h2,dite_true] at h
     simp [h2]
     exact h
    have:=count_pos this
    omega
   ·rfl
  refine ⟨?_,?_⟩
  ·cases hr:Region.ready .any ops listed with
   | nil => rfl
   | cons i l =>
    have hm:i ∈ Region.ready .any ops listed:=by rw [hr]; exact List.mem_cons_self
    obtain ⟨o,ho,h2,_⟩:=ready_mem.1 hm
    have hi:=(Array.getElem?_eq_some_iff.1 ho).1
    rw [getD_eq (by omega) true false,hl i hi] at h2
    cases h2
  ·rw [hall hs hl] at I
   exact kk ν O a w I
 | succ fuel ih =>
  intro listed hs hS hc ν O a w I
  refine ⟨fun hr => ?_,fun i hi => ?_⟩
  ·rw [hall hs (hnil hs hr)] at I
   exact kk ν O a w I
  ·obtain ⟨o,ho,h2,h3⟩:=ready_mem.1 hi
   have his:=(Array.getElem?_eq_some_iff.1 ho).1
   have hSr:listed.getD i false = false:=by rw [getD_eq (by omega) false true]; exact h2
   have hb:∀ j,listed.getD j false = true → j < ops.size:=by
    intro j hj
    apply Classical.byContradiction
    intro h
    have:¬ j < listed.size:=by omega
    simp [Array.getD,this] at hj
   obtain ⟨p,s',g1,g2⟩:=T.each i o (by rw [getElem_toList]; exact ho)
   rw [← evalG_congr (e:=envOf e T.D (fun i => listed.getD i false) ops.size) fun t ht => before hO T hS hb ho hSr h3 ht] at g1
   have hset:∀ j,(listed.setIfInBounds i true).getD j false = (listed.getD j false || decide (j = i)):=by
    intro j
    simp only [Array.getD_eq_getD_getElem?,Array.getElem?_setIfInBounds]
    by_cases hj:i = j
    ·subst hj
     have:i < listed.size:=by omega
     simp [this]
    ·have:¬ j = i:=fun h => hj h.symm
     simp [hj,this]
   refine evalG_sound I ho (ws:=T.D i) g1 g2 (fun ν' N' a' w' I' => ?_)
   rw [← behind hO T hS hb ho hSr h3 hset] at I'
   refine ih (listed.setIfInBounds i true) (by simp [hs]) ?_ ?_ I'
   ·intro j q hq hj f hf hbf
    simp only [hset,Bool.or_eq_true,decide_eq_true_eq] at hj ⊢
    rcases hj with hj | rfl
    ·exact .inl (hS j q hq hj f hf hbf)
    ·rw [ho] at hq
     obtain rfl:=Option.some.inj hq
     exact .inl (h3 f hf hbf)
   ·rw [Array.toList_setIfInBounds]
    have hil:i < listed.toList.length:=by simp; omega
    rw [List.count_set hil]
    have hv:listed.toList[i] = false:=by
     have h4:i < listed.size:=by omega
     simp only [Array.getD,h4,dite_true] at hSr
     simpa using hSr
    rw [hv,hc]
    simp
theorem drawn_inv {O:Own} {a:Act} (I:Inv P w0 ν O n e a w):Inv P w0 ν O n e a { w with drawn:=w.drawn + 1 }:=by
 have hh:({ w with drawn:=w.drawn + 1 }:World).heap = w.heap:=rfl
 exact I.world ⟨I.bel.os,I.bel.tape,I.bel.output,I.bel.size,I.bel.block⟩ I.own (fun b off hk => ⟨rfl,hk⟩) (fun _ _ _ _ _ => ⟨rfl,rfl⟩)
/-- A region. -/
theorem region_ok {Q:Exit → Act → World → Prop} {id:Nat} {draw:Bool} {O:Own} {a:Act} (hm:draw = true → P.follows .mixedOrders = true) (hO:draw = true → ordered hn n ops = true)
  (T:Trace P hn n ops ops.toList e e') (I:Inv P w0 ν O n e a w) (kk:Next P w0 n e' (Q .normal)):(Code.region id ops draw).wp P Q a w:=by
 cases draw with
 | false =>
  refine wp_region ?_
  rw [List.range_eq_range']
  exact region_sound T ops.size 0 (by simp) (by rw [T.first]; exact I) kk
 | true =>
  refine wp_region_any (hm rfl) ?_
  have h0:∀ k,envOf e T.D (fun i => (Array.replicate ops.size false).getD i false) k = e:=by
   intro k
   induction k with
   | zero => rfl
   | succ k ih =>
    have:(Array.replicate ops.size false).getD k false = false:=by
     by_cases hk:k < ops.size <;> simp [Array.getD,hk]
    simp only [envOf,this,cond_false]
    exact ih
  refine any_sound (hO rfl) T kk ops.size _ (by simp) ?_ (by simp) (by rw [h0]; exact drawn_inv I)
  intro j o _ hj
  by_cases hk:j < ops.size <;> simp [Array.getD,hk] at hj
end
end Go.Rh

namespace Go.Rh
open Go.RowKit
variable [MemFact]

def Ex.toExit:Ex → Exit
 | .normal => .normal
 | .exit id => .exit id
 | .ret => .ret
def lookA:List (Nat × AV) → Env
 | [],_ => none
 | (t,x) :: l,s => bif Nat.beq s t then some x else lookA l s
/-- Other names of keys. -/
def rn:List (Nat × Nat) → Nat → Nat
 | [],k => k
 | (a,b) :: l,k => bif Nat.beq k a then b else rn l k
def agree (R:List (Nat × Nat)) (e:Env):List (Nat × AV) → Prop
 | [] => True
 | (t,x) :: l => e (bif x.isC then rn R t else t) = some (x.ren (rn R)) ∧ agree R e l
def ckeys (R:List (Nat × Nat)):List (Nat × AV) → List Nat
 | [] => []
 | (k,x) :: l => bif x.isC then rn R k :: ckeys R l else ckeys R l
def okL (R:List (Nat × Nat)) (L:List (Nat × AV)):Bool:=(keysIn L).all (fun k => mem k (keysOf L)) && (nodup (ckeys R L) && R.all (fun p => Nat.blt p.1 keyB))
theorem rn_big {k:Nat} (hk:keyB ≤ k):∀ {R:List (Nat × Nat)},R.all (fun p => Nat.blt p.1 keyB) = true → rn R k = k
 | [],_ => rfl
 | (a,b) :: l,h => by
  simp only [List.all_cons,Bool.and_eq_true] at h
  have h1:a < keyB:=Nat.le_of_ble_eq_true h.1
  simp only [rn]
  cases hb:Nat.beq k a
  ·exact rn_big hk h.2
  ·have:=Nat.eq_of_beq_eq_true hb
   omega
theorem lookA_some {t:Nat} {x:AV}:∀ {L:List (Nat × AV)},lookA L t = some x → (t,x) ∈ L
 | [],h => by cases h
 | (r,y) :: l,h => by
  simp only [lookA] at h
  cases hb:Nat.beq t r
  ·rw [hb] at h
   exact List.mem_cons_of_mem _ (lookA_some h)
  ·rw [hb] at h
   obtain rfl:=Nat.eq_of_beq_eq_true hb
   obtain rfl:=Option.some.inj h
   exact List.mem_cons_self
theorem lookA_dom {k:Nat}:∀ {L:List (Nat × AV)},k ∈ keysOf L → lookA L k ≠ none
 | [],h => by simp [keysOf] at h
 | (r,y) :: l,h => by
  simp only [keysOf,List.mem_cons] at h
  simp only [lookA]
  cases hb:Nat.beq k r
  ·rcases h with rfl | h
   ·rw [Nat.beq_refl] at hb
    cases hb
   ·exact lookA_dom h
  ·nofun
theorem agree_mem {R:List (Nat × Nat)} {e:Env} {t:Nat} {x:AV}:∀ {L:List (Nat × AV)},agree R e L → (t,x) ∈ L → e (bif x.isC then rn R t else t) = some (x.ren (rn R))
 | [],_,h => by cases h
 | (r,y) :: l,ha,h => by
  rcases List.mem_cons.1 h with h | h
  ·injection h with h1 h2
   subst h1 h2
   exact ha.1
  ·exact agree_mem ha.2 h
theorem ckeys_mem {R:List (Nat × Nat)} {t:Nat} {x:AV} (hx:x.isC = true):∀ {L:List (Nat × AV)},(t,x) ∈ L → rn R t ∈ ckeys R L
 | [],h => by cases h
 | (r,y) :: l,h => by
  simp only [ckeys]
  rcases List.mem_cons.1 h with h | h
  ·injection h with h1 h2
   subst h1 h2
   rw [hx]
   exact List.mem_cons_self
  ·cases y.isC
   ·exact ckeys_mem hx h
   ·exact List.mem_cons_of_mem _ (ckeys_mem hx h)
theorem ckeys_inj {R:List (Nat × Nat)} {t t':Nat} {x x':AV} (hx:x.isC = true) (hx':x'.isC = true) (hne:t ≠ t'):∀ {L:List (Nat × AV)},nodup (ckeys R L) = true → (t,x) ∈ L → (t',x') ∈ L → rn R t ≠ rn R t'
 | [],_,h,_ => by cases h
 | (r,y) :: l,hn,h,h' => by
  simp only [ckeys] at hn
  rcases List.mem_cons.1 h with g | g
  ·injection g with h1 h2
   rw [← h2,hx] at hn
   simp only [cond_true,nodup,Bool.and_eq_true,Bool.not_eq_true'] at hn
   rcases List.mem_cons.1 h' with g' | g'
   ·injection g' with h3 h4
    exact absurd (h1.trans h3.symm) hne
   ·intro heq
    have:=mem_iff.2 (ckeys_mem (R:=R) (L:=l) hx' g')
    rw [← heq,h1,hn.1] at this
    cases this
  ·rcases List.mem_cons.1 h' with g' | g'
   ·injection g' with h3 h4
    rw [← h4,hx'] at hn
    simp only [cond_true,nodup,Bool.and_eq_true,Bool.not_eq_true'] at hn
    intro heq
    have:=mem_iff.2 (ckeys_mem (R:=R) (L:=l) hx g)
    rw [heq,h3,hn.1] at this
    cases this
   ·refine ckeys_inj hx hx' hne ?_ g g'
    cases hy:y.isC
    ·rw [hy] at hn
     exact hn
    ·rw [hy] at hn
     simp only [cond_true,nodup,Bool.and_eq_true] at hn
     exact hn.2
theorem ren_isC {ρ:Nat → Nat} {x:AV}:(x.ren ρ).isC = x.isC:=by cases x <;> rfl
theorem ren_hold {ρ:Nat → Nat} {x:AV} {v:Value}:hold (x.ren ρ) v = hold x v:=by cases x <;> cases v <;> first | rfl | (rename_i a; cases a <;> rfl)
section
variable {P:Program} {w0:Cx} {ν:Nat → Value} {w:World} {O:Own} {n:Nat} {e:Env} {a:Act}
/-- The slots and keys may tell less, and keys may have other names. -/
theorem Inv.cut (I:Inv P w0 ν O n e a w) {R:List (Nat × Nat)} {L:List (Nat × AV)} (ha:agree R e L) (hL:okL R L = true):Inv P w0 (fun k => ν (rn R k)) O n (lookA L) a w:=by
 simp only [okL,Bool.and_eq_true] at hL
 obtain ⟨hcl,hnd,hR⟩:=hL
 refine ⟨I.bel,I.own,I.st,fun t x hx hc => ?_,fun k x hx hc => ?_,fun k k' x x' hne h1 h2 b hb hb' => ?_,fun t x hx q hq => ?_,I.size,I.def0,fun q hq => by rw [rn_big hq hR]; exact I.fix q hq,I.small,I.mg⟩
 ·have:=agree_mem ha (lookA_some hx)
  rw [hc] at this
  exact (I.rep t _ this (by rw [ren_isC]; exact hc)).unren
 ·have:=agree_mem ha (lookA_some hx)
  rw [hc] at this
  exact (I.key _ _ this (by rw [ren_isC]; exact hc)).unren
 ·have c1:x.isC = true:=by
   cases h:x.isC
   ·rw [hold_notC h] at hb; cases hb
   ·rfl
  have c2:x'.isC = true:=by
   cases h:x'.isC
   ·rw [hold_notC h] at hb'; cases hb'
   ·rfl
  have m1:=lookA_some h1
  have m2:=lookA_some h2
  have e1:=agree_mem ha m1
  have e2:=agree_mem ha m2
  rw [c1] at e1
  rw [c2] at e2
  refine I.far _ _ _ _ (ckeys_inj c1 c2 hne hnd m1 m2) e1 e2 b (by rw [ren_hold]; exact hb) (by rw [ren_hold]; exact hb')
 ·exact lookA_dom (mem_iff.1 (List.all_eq_true.1 hcl q (keysIn_mem.2 ⟨t,x,lookA_some hx,hq⟩)))
/-- What a key holds stays as it is from now on. -/
def frz:AV → Option AV
 | .box x => bif x.kf then some (.fz (.ptr x)) else none
 | .ow _ T l => some (.ow false T l)
 | _ => none
theorem Inv.frz (I:Inv P w0 ν O n e a w) {k:Nat} {z x:AV} (hz:e k = some z) (h:Rh.frz z = some x):∃ O',Inv P w0 ν O' n (e.put k (some x)) a w:=by
 have key:∀ {b q:Nat},hold z (ν k) = some b → O b = some 0 → KeyRep P w (okO w0 w (O.set b q)) (O.set b q) ν x (ν k) → (∀ c,hold x (ν k) = some c → hold z (ν k) = some c) → x.keys = [] → z.isC = true → ∃ O',Inv P w0 ν O' n (e.put k (some x)) a w:=by
  intro b q hb hO hr hh hk hzC
  refine ⟨O.set b q,I.setKey hz hzC I.bel (fun c m hc => ?_) (fun c off hc => ⟨rfl,hc.1,fun m hm => ?_,hc.2.2⟩) (fun k' x' hne hx' c hc => ⟨rfl,Own.set_ne _ ?_⟩) hr hh (fun r hr => by rw [hk] at hr; cases hr)⟩
  ·by_cases hcb:c = b
   ·subst hcb
    exact I.own c 0 hO
   ·rw [Own.set_ne _ hcb] at hc
    exact I.own c m hc
  ·by_cases hcb:c = b
   ·subst hcb
    exact absurd (hc.2.1 0 hO) (Nat.not_lt_zero _)
   ·rw [Own.set_ne _ hcb] at hm
    exact hc.2.1 m hm
  ·rintro rfl
   exact I.far k' k x' z hne hx' hz c hc hb
 have ok1:∀ {b q:Nat},O b = some 0 → ∀ c off,okO w0 w O c off → okO w0 w (O.set b q) c off:=by
  intro b q hO c off hc
  refine ⟨hc.1,fun m hm => ?_,hc.2.2⟩
  by_cases hcb:c = b
  ·subst hcb
   exact absurd (hc.2.1 0 hO) (Nat.not_lt_zero _)
  ·rw [Own.set_ne _ hcb] at hm
   exact hc.2.1 m hm
 cases z with
 | box y =>
  obtain ⟨hkf,h⟩:=plain_of h
  obtain rfl:=Option.some.inj h
  obtain ⟨b,T,cs,h1,h2,h3,h4⟩:=I.key k _ hz rfl
  refine key (b:=b) (q:=cs.length) (by rw [h1]; rfl) h2 ?_ (fun c hc => by simp [hold] at hc) (by simp [AV.keys]) rfl
  show Rep w _ (.ptr y) (ν k)
  rw [h1]
  refine .ptr y ⟨b,0,none⟩ cs rfl (Cs.mono (fun _ _ _ => rfl) (ok1 h2) (h4.cs hkf)) (fun q hq => ⟨(I.own b 0 h2).2,fun m hm => ?_,fun ho => absurd ho (I.own b 0 h2).1⟩) (fun j u hu => ?_)
  ·rw [Own.set_same] at hm
   obtain rfl:=Option.some.inj hm
   simpa using hq
  ·show w.cell? ⟨b,0 + j,none⟩ = some u
   rw [Nat.zero_add,cell_of_row w b j cs.toArray T (0,0) h3]
   simpa using hu
 | ow m T l =>
  obtain rfl:=Option.some.inj h
  obtain ⟨sz,xs,r1,r2,r3,r4,r5⟩:=I.key k _ hz rfl
  cases m with
  | false => exact ⟨O,I.tell hz rfl ⟨sz,xs,r1,r2,r3,r4,r5⟩ (fun c hc => hc) (fun r hr => by cases hr)⟩
  | true =>
   cases hb:(ν k).ownBlock with
   | none => exact ⟨O,I.tell hz rfl ⟨sz,xs,r1,r2,r3,r4,fun b hb2 => by rw [hb] at hb2; cases hb2⟩ (fun c hc => hc) (fun r hr => by cases hr)⟩
   | some b =>
    have hO:O b = some 0:=r5 b hb
    refine key (b:=b) (q:=l.length * sz) hb hO ⟨sz,xs,r1,r2,r3,fun i x hx => Cs.mono (fun _ _ _ => rfl) (ok1 hO) (r4 i x hx),fun c hc => ?_⟩ (fun c hc => hc) rfl rfl
    rw [hb] at hc
    obtain rfl:=Option.some.inj hc
    rw [Own.set_same]
    rfl
 | _ => cases h
end
def bodyOf (f:Func):Code:=f.body.getD .skip
def nav:List Bool → Code → Code
 | [],c => c
 | b :: l,.seq x y => nav l (bif b then y else x)
 | b :: l,.cond _ x y => nav l (bif b then y else x)
 | _ :: l,.block _ x => nav l x
 | _ :: l,.loop x => nav l x
 | _,c => c
section
variable (P:Program) (hn:Hint) (n:Nat)
/-- From these slots this code ends so, with those slots. -/
def RunOk (c:Code) (e:Env) (x:Ex) (e':Env):Prop :=
 ∀ (w0:Cx) (ν:Nat → Value) (w:World) (O:Own) (a:Act) (Q:Exit → Act → World → Prop),Inv P w0 ν O n e a w → Next P w0 n e' (Q x.toExit) → c.wp P Q a w
def inBlock (id:Nat):Ex → Ex
 | .normal => .normal
 | .exit i => bif Nat.beq i id then .normal else .exit i
 | .ret => .ret
/-- This code, from these slots, ends somehow, and K holds there. -/
def Ends (c:Code) (e:Env) (K:Ex → Env → Prop):Prop:=∃ x e',RunOk P n c e x e' ∧ K x e'
/-- What stands around a piece of code. -/
inductive Fr where
 | seq (y:Code)
 | block (id:Nat)
 | loop (Q:List (Nat × AV) → Prop)
def post (K:List (Nat × Nat) → Ex → Env → Prop):List Fr → Ex → Env → Prop
 | [],x,e => ∃ R,K R x e
 | .seq y :: fs,x,e =>
  match x with
  | .normal => Ends P n y e (post K fs)
  | x => post K fs x e
 | .block id :: fs,x,e => post K fs (inBlock id x) e
 | .loop Q :: fs,x,e =>
  match x with
  | .normal => ∃ R L,okL R L = true ∧ agree R e L ∧ Q L
  | x => post K fs x e
/-- The frames around the piece at this path. -/
def navF:List Bool → Code → List (List (Nat × AV) → Prop) → List Fr → List Fr
 | b :: l,.seq x y,Qs,fs => navF l (bif b then y else x) Qs (bif b then fs else .seq y :: fs)
 | b :: l,.cond _ x y,Qs,fs => navF l (bif b then y else x) Qs fs
 | _ :: l,.block id x,Qs,fs => navF l x Qs (.block id :: fs)
 | _ :: l,.loop x,Q :: Qs,fs => navF l x Qs (.loop Q :: fs)
 | _,_,_,fs => fs
inductive Mode where
 | run (c:Code)
 | ops (a:Array Oper) (l:List Oper)
 | out (x:Ex)
/-- A state of the machine. -/
structure St where
 m:Mode
 fs:List Fr
 e:Env
/-- What is the same, otherwise told. -/
def Told (e e':Env):Prop:=∀ (w0:Cx) (w:World) (a:Act) (ν:Nat → Value) (O:Own),Inv P w0 ν O n e a w → ∃ ν' O',Inv P w0 ν' O' n e' a w
/-- From this state on all leads to K. -/
def StQ (K:List (Nat × Nat) → Ex → Env → Prop) (S:St):Prop :=
 match S.m with
 | .run c => Ends P n c S.e (post P n K S.fs)
 | .ops a l => ∃ e1 e',Nonempty (Trace P hn n a l S.e e1) ∧ Told P n e1 e' ∧ post P n K S.fs .normal e'
 | .out x => post P n K S.fs x S.e
structure StP (K : List (Nat × Nat) → Ex → Env → Prop) (S : St) : Prop where
 ok:StQ P hn n K S
/-- From this place on all leads to K. -/
def AtP (c:Code) (K:List (Nat × Nat) → Ex → Env → Prop) (p:List Bool) (Qs:List (List (Nat × AV) → Prop)) (e:Env):Prop:=Ends P n (nav p c) e (post P n K (navF p c Qs []))

/-! ### A machine of single steps -/
/-- Is what is told of less there? -/
def ready:List Ans → Env → Bool
 | .nl k _ _ _ _ :: _,e => (e k).isSome
 | .fz k :: _,e => (e k).isSome
 | .vc k _ :: _,e => (e k).isSome
 | .vw t :: _,e => (e t).isSome
 | _,_ => false
/-- What is told of less, between regions. -/
def ghosts (P:Program):List Ans → Env → Option (Env × List Ans)
 | .nl k i m T K :: s,e => bif (e k).isNone then some (e,.nl k i m T K :: s) else
  match e k with
  | some (.box (.agg l)) =>
   match l[i]? with
   | some (.val (.slice none 0 0)) => bif fresh e K && Nat.blt K keyB then (kindOf P T).bind fun _ => ghosts P s ((e.put K (some (.ow m T []))).put k (some (.box (.agg (l.set i (.row K)))))) else none
   | _ => none
  | some (.box (.val (.slice none 0 0))) => bif fresh e K && Nat.blt K keyB then (kindOf P T).bind fun _ => ghosts P s ((e.put K (some (.ow m T []))).put k (some (.box (.row K)))) else none
  | _ => none
 | .fz k :: s,e => bif (e k).isNone then some (e,.fz k :: s) else (e k).bind fun z => (frz z).bind fun x => ghosts P s (e.put k (some x))
 | .vc k i :: s,e => bif (e k).isNone then some (e,.vc k i :: s) else
  match e k with
  | some (.box (.agg l)) => (l[i]?).bind fun y => (deep e false [] y).bind fun z => ghosts P s (e.put k (some (.box (.agg (l.set i z)))))
  | some (.box y) => bif y.one then (deep e false [] y).bind fun z => ghosts P s (e.put k (some (.box z))) else none
  | _ => none
 | .vw t :: s,e => bif (e t).isNone then some (e,.vw t :: s) else (e t).bind fun y => bif y.isC then none else (deep e false [] y).bind fun z => ghosts P s (e.put t (some z))
 | s,e => some (e,s)
def okDraw (ops:Array Oper) (draw:Bool):Bool:=!draw || (P.follows .mixedOrders && ordered hn n ops)
def regRun (ops:Array Oper) (l:List Oper) (ok:Bool) (e:Env) (s:List Ans):Option (Env × Option Prop × List Ans) :=
 bif ok then runOps P hn n ops l e s else none
/-- What is to hold at the end of a way. -/
def fin (K:List (Nat × Nat) → Ex → Env → Prop) (R:List (Nat × Nat)) (L:List (Nat × AV)):Mode → List Fr → Env → List Ans → Option (Option Prop × Prop)
 | .run c,fs,e,_ => bif okL R L then some (none,agree R e L ∧ Ends P n c (lookA L) (post P n K fs)) else none
 | .out x,[],e,_ => some (none,K R x e)
 | .out .normal,.loop Q :: _,e,_ => bif okL R L then some (none,agree R e L ∧ Q L) else none
 | _,_,_,_ => none
/-- The state behind so many operations of a region. -/
def part (c:Nat):Mode → List Fr → Env → List Ans → Option (Option Prop × St)
 | .run (.region _ ops draw),fs,e,s => (regRun P hn n ops (ops.toList.take c) (okDraw P hn n ops draw) e s).map fun r => (r.2.1,⟨.ops ops (ops.toList.drop c),fs,r.1⟩)
 | .ops ops l,fs,e,s => (runOps P hn n ops (l.take c) e s).map fun r => (r.2.1,⟨.ops ops (l.drop c),fs,r.1⟩)
 | _,_,_,_ => none
/-- As many steps; then what has to hold, and what is told of the end. -/
def go {β:Type} (fin:Mode → List Fr → Env → List Ans → Option (Option Prop × β)):Nat → Mode → List Fr → Env → List Ans → Option (Option Prop × β)
 | 0,m,fs,e,s => fin m fs e s
 | g + 1,.ops ops l,fs,e,s => (runOps P hn n ops l e s).bind fun r => (ghosts P r.2.2 r.1).bind fun y => (go fin g (.out .normal) fs y.1 y.2).map fun q => (both r.2.1 q.1,q.2)
 | g + 1,.out x,fs,e,s =>
  match fs with
  | [] => none
  | .seq y :: fs =>
   match x with
   | .normal => go fin g (.run y) fs e s
   | x => go fin g (.out x) fs e s
  | .block id :: fs => go fin g (.out (inBlock id x)) fs e s
  | .loop _ :: fs =>
   match x with
   | .normal => none
   | x => go fin g (.out x) fs e s
 | g + 1,.run c,fs,e,s =>
  bif ready s e then (ghosts P s e).bind fun q => go fin g (.run c) fs q.1 q.2 else
   match c with
   | .skip => go fin g (.out .normal) fs e s
   | .exit id => go fin g (.out (.exit id)) fs e s
   | .ret => go fin g (.out .ret) fs e s
   | .region id ops draw =>
    (regRun P hn n ops ops.toList (okDraw P hn n ops draw) e s).bind fun r => (ghosts P r.2.2 r.1).bind fun y => (go fin g (.out .normal) fs y.1 y.2).map fun q => (both r.2.1 q.1,q.2)
   | .seq x y => go fin g (.run x) (.seq y :: fs) e s
   | .cond c x y =>
    match opd e c with
    | some (.val (.bool true)) => go fin g (.run x) fs e s
    | some (.val (.bool false)) => go fin g (.run y) fs e s
    | _ => none
   | .block id x => go fin g (.run x) (.block id :: fs) e s
   | _ => none
end
section
variable {P:Program} {hn:Hint} {n:Nat} {K:List (Nat × Nat) → Ex → Env → Prop}
theorem Ends.mono {c:Code} {e:Env} {K K':Ex → Env → Prop} (h:Ends P n c e K) (k:∀ x e',K x e' → K' x e'):Ends P n c e K':=by
 obtain ⟨x,e',h1,h2⟩:=h
 exact ⟨x,e',h1,k x e' h2⟩
theorem RunOk.seq_ {c d:Code} {e e1 e':Env} {x:Ex} (h:RunOk P n c e .normal e1) (k:RunOk P n d e1 x e'):RunOk P n (.seq c d) e x e' :=
 fun w0 ν w N a Q I q => wp_seq (h w0 ν w N a _ I fun ν' N' a' w' I' => k w0 ν' w' N' a' Q I' q)
theorem RunOk.seqE {c d:Code} {e e':Env} {x:Ex} (hx:x ≠ .normal) (h:RunOk P n c e x e'):RunOk P n (.seq c d) e x e':=by
 intro w0 ν w N a Q I q
 cases x with
 | normal => exact absurd rfl hx
 | exit i => exact wp_seq (h w0 ν w N a _ I q)
 | ret => exact wp_seq (h w0 ν w N a _ I q)
theorem RunOk.block_ {c:Code} {e e':Env} {x:Ex} {id:Nat} (h:RunOk P n c e x e'):RunOk P n (.block id c) e (inBlock id x) e':=by
 intro w0 ν w N a Q I k
 refine wp_block (h w0 ν w N a _ I fun ν' N' a' w' I' => ?_)
 have:=k ν' N' a' w' I'
 cases x with
 | normal => exact this
 | ret => exact this
 | exit i =>
  simp only [inBlock] at this
  simp only [Ex.toExit,Exit.inBlock]
  cases hb:Nat.beq i id
  ·rw [hb] at this
   have hne:i ≠ id:=fun h => by rw [h,Nat.beq_refl] at hb; cases hb
   simpa [hne,Ex.toExit] using this
  ·rw [hb] at this
   have hid:=Nat.eq_of_beq_eq_true hb
   simpa [hid,Ex.toExit] using this
theorem Ends.seq {c d:Code} {e:Env} {fs:List Fr} (h:Ends P n c e (post P n K (.seq d :: fs))):Ends P n (.seq c d) e (post P n K fs):=by
 obtain ⟨x,e1,h1,h2⟩:=h
 cases x with
 | normal =>
  obtain ⟨y,e2,h3,h4⟩:=h2
  exact ⟨y,e2,h1.seq_ h3,h4⟩
 | exit i => exact ⟨.exit i,e1,h1.seqE nofun,h2⟩
 | ret => exact ⟨.ret,e1,h1.seqE nofun,h2⟩
theorem Ends.block {c:Code} {e:Env} {id:Nat} {fs:List Fr} (h:Ends P n c e (post P n K (.block id :: fs))):Ends P n (.block id c) e (post P n K fs):=by
 obtain ⟨x,e1,h1,h2⟩:=h
 exact ⟨_,e1,h1.block_,h2⟩
theorem Ends.cond {K:Ex → Env → Prop} {c:Operand} {x y:Code} {e:Env} {b:Bool} (hc:opd e c = some (.val (.bool b))) (h:Ends P n (bif b then x else y) e K):Ends P n (.cond c x y) e K:=by
 obtain ⟨z,e1,h1,h2⟩:=h
 refine ⟨z,e1,fun w0 ν w N a Q I k => ?_,h2⟩
 have hv:=(rep_val (val_inv (opd_rep I hc).1)).1
 cases b with
 | true => exact wp_cond_true hv (h1 w0 ν w N a Q I k)
 | false => exact wp_cond_false hv (h1 w0 ν w N a Q I k)
theorem Ends.weak {K:Ex → Env → Prop} {c:Code} {e:Env} {R:List (Nat × Nat)} {L:List (Nat × AV)} (hf:okL R L = true) (ha:agree R e L) (h:Ends P n c (lookA L) K):Ends P n c e K:=by
 obtain ⟨x,e1,h1,h2⟩:=h
 exact ⟨x,e1,fun w0 ν w N a Q I k => h1 w0 _ w N a Q (I.cut ha hf) k,h2⟩
theorem Inv.vw {w0:Cx} {ν:Nat → Value} {w:World} {O:Own} {e:Env} {a:Act} (I:Inv P w0 ν O n e a w) {t:Nat} {y z:AV} (hy:e t = some y) (hc:y.isC = false) (hz:deep e false [] y = some z):Inv P w0 ν O n (e.put t (some z)) a w:=by
 have hr:=deep_rep I (tv:=false) (fun k y h => h) hz (I.rep t y hy hc)
 have hkf:=deep_kf hz
 refine ⟨I.bel,I.own,I.st,fun t' x hx hxc => ?_,fun t' x hx hxc => ?_,fun k k' x x' hne h1 h2 b hb => ?_,fun t' x hx q hq => ?_,I.size,I.def0,I.fix,I.small,I.mg⟩
 ·rcases put_cases hx with ⟨rfl,rfl⟩ | ⟨ht,hx⟩
  ·exact hr
  ·exact I.rep t' x hx hxc
 ·rcases put_cases hx with ⟨rfl,rfl⟩ | ⟨ht,hx⟩
  ·rw [hr.notC] at hxc
   cases hxc
  ·exact I.key t' x hx hxc
 ·rcases put_cases h1 with ⟨rfl,rfl⟩ | ⟨n1,g1⟩
  ·rw [hold_notC hr.notC] at hb
   cases hb
  ·rcases put_cases h2 with ⟨rfl,rfl⟩ | ⟨n2,g2⟩
   ·rw [hold_notC hr.notC]
    nofun
   ·exact I.far k k' x x' hne g1 g2 b hb
 ·rcases put_cases hx with ⟨rfl,rfl⟩ | ⟨ht,hx⟩
  ·rw [kf_keys hkf] at hq
   cases hq
  ·exact put_dom (I.cl t' x hx q hq)
theorem csK_one {w:World} {ok:Nat → Nat → Prop} {ν:Nat → Value} {x:AV} {cs:List Value} (hx:x.one = true) (h:CsK w ok ν x cs):∃ v,cs = [v] ∧ RepK w ok ν x v:=by
 unfold CsK at h
 split at h
 ·cases hx
 ·exact h.2
theorem Inv.ghosts {w0:Cx} {w:World} {a:Act}:∀ {s s':List Ans} {e e':Env} {ν:Nat → Value} {O:Own},Rh.ghosts P s e = some (e',s') → Inv P w0 ν O n e a w → ∃ ν' O',Inv P w0 ν' O' n e' a w:=by
 intro s
 induction s with
 | nil =>
  intro s' e e' ν O h I
  simp only [Rh.ghosts,Option.some.injEq,Prod.mk.injEq] at h
  obtain ⟨rfl,_⟩:=h
  exact ⟨ν,O,I⟩
 | cons x s ih =>
  intro s' e e' ν O h I
  cases x with
  | fz k =>
   simp only [Rh.ghosts] at h
   cases hne:(e k).isNone
   case true =>
    rw [hne] at h
    simp only [cond_true,Option.some.injEq,Prod.mk.injEq] at h
    obtain ⟨rfl,_⟩:=h
    exact ⟨ν,O,I⟩
   rw [hne,cond_false] at h
   obtain ⟨z,hz,h2⟩:=Option.bind_eq_some_iff.1 h
   obtain ⟨x,hx,h3⟩:=Option.bind_eq_some_iff.1 h2
   obtain ⟨O',I'⟩:=I.frz hz hx
   exact ih h3 I'
  | nl k i m T K =>
   simp only [Rh.ghosts] at h
   cases hne:(e k).isNone
   case true =>
    rw [hne] at h
    simp only [cond_true,Option.some.injEq,Prod.mk.injEq] at h
    obtain ⟨rfl,_⟩:=h
    exact ⟨ν,O,I⟩
   rw [hne,cond_false] at h
   split at h
   ·rename_i l hk
    split at h
    ·rename_i hl
     obtain ⟨hc,h2⟩:=plain_of h
     obtain ⟨q,hq,h3⟩:=Option.bind_eq_some_iff.1 h2
     simp only [Bool.and_eq_true] at hc
     have hf:e K = none:=Option.isNone_iff_eq_none.1 hc.1
     have hKk:k ≠ K:=fun hkK => by rw [hkK,hf] at hk; cases hk
     have I1:=I.addKey (k:=K) (x:=.ow m T []) (v:=.slice none 0 0) (Nat.le_of_ble_eq_true hc.2) hf (nil_own (ok:=okO w0 w O) (O:=O) m hq) (fun b hb => by simp [hold,Value.ownBlock] at hb) (fun q hq => by cases hq)
     obtain ⟨q1,q2⟩:=q
     have hk1:(e.put K (some (.ow m T []))) k = some (.box (.agg l)):=by rw [Env.put_ne _ _ hKk]; exact hk
     obtain ⟨b,T',cs,r1,r2,r3,r4⟩:=I1.key k _ hk1 rfl
     obtain ⟨c1,c2,c3⟩:=r4
     have I2:=I1.tell (x:=.box (.agg (l.set i (.row K)))) hk1 rfl ⟨b,T',cs,r1,r2,r3,by rw [List.length_set]; exact c1,fun x hx => by
       rcases List.mem_or_eq_of_mem_set hx with hx | rfl
       ·exact c2 x hx
       ·rfl,fun j x v hx hv => by
       by_cases hj:i = j
       ·subst hj
        have hlt:=(List.getElem?_eq_some_iff.1 hl).1
        rw [List.getElem?_set_self hlt] at hx
        obtain rfl:=Option.some.inj hx
        have:=(rep_val (val_inv (c3 i _ v hl hv))).1
        subst this
        exact .row K none 0 0 (Val.same _ _ _)
       ·rw [List.getElem?_set_ne hj] at hx
        exact c3 j x v hx hv⟩ (fun b hb => by rw [r1] at hb ⊢; exact hb) (fun q hq => by
       simp only [AV.keys] at hq
       obtain ⟨x,hx,hqx⟩:=mem_keysL.1 hq
       rcases List.mem_or_eq_of_mem_set hx with hx | rfl
       ·exact I1.cl k _ hk1 q (by simp only [AV.keys]; exact mem_keysL.2 ⟨x,hx,hqx⟩)
       ·simp only [AV.keys,List.mem_singleton] at hqx
        subst hqx
        rw [Env.put_same]
        nofun)
     obtain ⟨ν',O',I3⟩:=ih h3 I2
     exact ⟨ν',O',I3⟩
    ·cases h
   ·rename_i hk
    obtain ⟨hc,h2⟩:=plain_of h
    obtain ⟨q,hq,h3⟩:=Option.bind_eq_some_iff.1 h2
    simp only [Bool.and_eq_true] at hc
    have hf:e K = none:=Option.isNone_iff_eq_none.1 hc.1
    have hKk:k ≠ K:=fun hkK => by rw [hkK,hf] at hk; cases hk
    have I1:=I.addKey (k:=K) (x:=.ow m T []) (v:=.slice none 0 0) (Nat.le_of_ble_eq_true hc.2) hf (nil_own (ok:=okO w0 w O) (O:=O) m hq) (fun b hb => by simp [hold,Value.ownBlock] at hb) (fun q hq => by cases hq)
    obtain ⟨q1,q2⟩:=q
    have hk1:(e.put K (some (.ow m T []))) k = some (.box (.val (.slice none 0 0))):=by rw [Env.put_ne _ _ hKk]; exact hk
    obtain ⟨b,T',cs,r1,r2,r3,r4⟩:=I1.key k _ hk1 rfl
    obtain ⟨c1,v,rfl,c2⟩:=r4
    have hv:=(rep_val (val_inv c2)).1
    subst hv
    have I2:=I1.tell (x:=.box (.row K)) hk1 rfl ⟨b,T',_,r1,r2,r3,rfl,_,rfl,.row K none 0 0 (Val.same _ _ _)⟩ (fun b hb => by rw [r1] at hb ⊢; exact hb) (fun q hq => by
     simp only [AV.keys,List.mem_singleton] at hq
     subst hq
     rw [Env.put_same]
     nofun)
    exact ih h3 I2
   ·cases h
  | vc k i =>
   simp only [Rh.ghosts] at h
   cases hne:(e k).isNone
   case true =>
    rw [hne] at h
    simp only [cond_true,Option.some.injEq,Prod.mk.injEq] at h
    obtain ⟨rfl,_⟩:=h
    exact ⟨ν,O,I⟩
   rw [hne,cond_false] at h
   split at h
   ·rename_i l hk
    obtain ⟨y,hl,h2⟩:=Option.bind_eq_some_iff.1 h
    obtain ⟨z,hz,h3⟩:=Option.bind_eq_some_iff.1 h2
    obtain ⟨b,T',cs,r1,r2,r3,r4⟩:=I.key k _ hk rfl
    obtain ⟨c1,c2,c3⟩:=r4
    have I2:=I.tell (x:=.box (.agg (l.set i z))) hk rfl ⟨b,T',cs,r1,r2,r3,by rw [List.length_set]; exact c1,fun x hx => by
      rcases List.mem_or_eq_of_mem_set hx with hx | rfl
      ·exact c2 x hx
      ·exact deep_one (P:=P) (w0:=w0) (ν:=ν) (O:=O) (n:=n) (e:=e) (a:=a) (w:=w) hz (c2 y (List.mem_of_getElem? hl)),fun j x v hx hv => by
      by_cases hj:i = j
      ·subst hj
       have hlt:=(List.getElem?_eq_some_iff.1 hl).1
       rw [List.getElem?_set_self hlt] at hx
       obtain rfl:=Option.some.inj hx
       exact deep_rep I (tv:=false) (fun k y h => h) hz (c3 i y v hl hv)
      ·rw [List.getElem?_set_ne hj] at hx
       exact c3 j x v hx hv⟩ (fun b hb => by rw [r1] at hb ⊢; exact hb) (fun q hq => by
      simp only [AV.keys] at hq
      obtain ⟨x,hx,hqx⟩:=mem_keysL.1 hq
      rcases List.mem_or_eq_of_mem_set hx with hx | rfl
      ·exact I.cl k _ hk q (by simp only [AV.keys]; exact mem_keysL.2 ⟨x,hx,hqx⟩)
      ·rw [kf_keys (deep_kf hz)] at hqx
       cases hqx)
    exact ih h3 I2
   ·rename_i y hna hk
    obtain ⟨hone,h2⟩:=plain_of h
    obtain ⟨z,hz,h3⟩:=Option.bind_eq_some_iff.1 h2
    obtain ⟨b,T',cs,r1,r2,r3,r4⟩:=I.key k _ hk rfl
    obtain ⟨v,rfl,c2⟩:=csK_one hone r4
    have hz1:=deep_one (P:=P) (w0:=w0) (ν:=ν) (O:=O) (n:=n) (e:=e) (a:=a) (w:=w) hz hone
    have I2:=I.tell (x:=.box z) hk rfl ⟨b,T',_,r1,r2,r3,CsK.one hz1 (deep_rep I (tv:=false) (fun k y h => h) hz c2)⟩ (fun b hb => by rw [r1] at hb ⊢; exact hb) (fun q hq => by
     simp only [AV.keys] at hq
     rw [kf_keys (deep_kf hz)] at hq
     cases hq)
    exact ih h3 I2
   ·cases h
  | vw t =>
   simp only [Rh.ghosts] at h
   cases hne:(e t).isNone
   case true =>
    rw [hne] at h
    simp only [cond_true,Option.some.injEq,Prod.mk.injEq] at h
    obtain ⟨rfl,_⟩:=h
    exact ⟨ν,O,I⟩
   rw [hne,cond_false] at h
   obtain ⟨y,hy,h2⟩:=Option.bind_eq_some_iff.1 h
   cases hc:y.isC
   ·rw [hc] at h2
    obtain ⟨z,hz,h3⟩:=Option.bind_eq_some_iff.1 (show (deep e false [] y).bind _ = _ from h2)
    exact ih h3 (I.vw hy hc hz)
   ·rw [hc] at h2
    cases h2
  | _ =>
   simp only [Rh.ghosts,Option.some.injEq,Prod.mk.injEq] at h
   obtain ⟨rfl,_⟩:=h
   exact ⟨ν,O,I⟩
theorem Ends.ghosts {K:Ex → Env → Prop} {c:Code} {e e':Env} {s s':List Ans} (hg:Rh.ghosts P s e = some (e',s')) (h:Ends P n c e' K):Ends P n c e K:=by
 obtain ⟨y,e1,h1,h2⟩:=h
 refine ⟨y,e1,fun w0 ν w N a Q I k => ?_,h2⟩
 obtain ⟨ν',O',I'⟩:=I.ghosts hg
 exact h1 w0 ν' w O' a Q I' k
theorem RunOk.ghosts {c:Code} {e e1 e':Env} {x:Ex} {s s':List Ans} (hg:Rh.ghosts P s e1 = some (e',s')) (h:RunOk P n c e x e1):RunOk P n c e x e' :=
 fun w0 ν w N a Q I k => h w0 ν w N a Q I fun ν' N' a' w' I' => (by obtain ⟨ν2,O2,I2⟩:=I'.ghosts hg; exact k ν2 O2 a' w' I2)
theorem RunOk.less {c:Code} {e e':Env} {x:Ex} {R:List (Nat × Nat)} {L:List (Nat × AV)} (hf:okL R L = true) (ha:agree R e' L) (h:RunOk P n c e x e'):RunOk P n c e x (lookA L) :=
 fun w0 ν w N a Q I k => h w0 ν w N a Q I fun ν' N' a' w' I' => k _ N' a' w' (I'.cut ha hf)
theorem okDraw_of {ops:Array Oper} {draw:Bool} (h:okDraw P hn n ops draw = true):(draw = true → P.follows .mixedOrders = true) ∧ (draw = true → ordered hn n ops = true):=by
 simp only [okDraw,Bool.or_eq_true,Bool.not_eq_true',Bool.and_eq_true] at h
 refine ⟨fun hd => ?_,fun hd => ?_⟩
 ·rcases h with h | h
  ·rw [h] at hd; cases hd
  ·exact h.1
 ·rcases h with h | h
  ·rw [h] at hd; cases hd
  ·exact h.2
/-- A region from its operations. -/
theorem reg_sound {id:Nat} {ops:Array Oper} {draw:Bool} {fs:List Fr} {e:Env} (hd:okDraw P hn n ops draw = true) (h:StQ P hn n K ⟨.ops ops ops.toList,fs,e⟩):Ends P n (.region id ops draw) e (post P n K fs):=by
 obtain ⟨e1,e',⟨T⟩,h2,h3⟩:=h
 refine ⟨.normal,e',fun w0 ν w N a Q I k => ?_,h3⟩
 refine region_ok (okDraw_of hd).1 (okDraw_of hd).2 T I fun ν' N' a' w' I' => ?_
 obtain ⟨ν2,N2,I2⟩:=h2 w0 w' a' ν' N' I'
 exact k ν2 N2 a' w' I2
theorem ops_sound {ops:Array Oper} {l l':List Oper} {fs:List Fr} {e:Env} {s:List Ans} {r:Env × Option Prop × List Ans} (h1:runOps P hn n ops l e s = some r) (hp:holds r.2.1) (h:StQ P hn n K ⟨.ops ops l',fs,r.1⟩):StQ P hn n K ⟨.ops ops (l ++ l'),fs,e⟩:=by
 obtain ⟨e1,e',T,h2,h3⟩:=h
 obtain ⟨e2,p2,s2⟩:=r
 exact ⟨e1,e',trace_app h1 hp T,h2,h3⟩
theorem ops_end {ops:Array Oper} {l:List Oper} {fs:List Fr} {e:Env} {s:List Ans} {r:Env × Option Prop × List Ans} {y:Env × List Ans} (h1:runOps P hn n ops l e s = some r) (hp:holds r.2.1) (hy:ghosts P r.2.2 r.1 = some y) (h:post P n K fs .normal y.1):StQ P hn n K ⟨.ops ops l,fs,e⟩:=by
 obtain ⟨e2,p2,s2⟩:=r
 exact ⟨e2,y.1,trace h1 hp,fun w0 w a ν O I => I.ghosts (s':=y.2) hy,h⟩
theorem fin_sound {R:List (Nat × Nat)} {L:List (Nat × AV)} {m:Mode} {fs:List Fr} {e:Env} {s:List Ans} {p:Option Prop × Prop} (h:fin P n K R L m fs e s = some p) (hp:p.2):StQ P hn n K ⟨m,fs,e⟩:=by
 unfold fin at h
 cases m with
 | run c =>
  obtain ⟨hf,h⟩:=plain_of h
  simp only [Option.some.injEq] at h
  subst h
  exact Ends.weak hf hp.1 hp.2
 | ops a l => cases h
 | out x =>
  cases fs with
  | nil =>
   simp only [Option.some.injEq] at h
   subst h
   exact ⟨R,hp⟩
  | cons f fs =>
   cases x <;> cases f <;> simp only [reduceCtorEq] at h
   obtain ⟨hf,h⟩:=plain_of h
   simp only [Option.some.injEq] at h
   subst h
   exact ⟨R,L,hf,hp⟩
theorem part_sound {c:Nat} {m:Mode} {fs:List Fr} {e:Env} {s:List Ans} {p:Option Prop × St} (h:part P hn n c m fs e s = some p) (hp:holds p.1) (k:StQ P hn n K p.2):StQ P hn n K ⟨m,fs,e⟩:=by
 unfold part at h
 split at h
 ·obtain ⟨r,h1,rfl⟩:=Option.map_eq_some_iff.1 h
  unfold regRun at h1
  obtain ⟨hd,h1⟩:=plain_of h1
  refine reg_sound hd ?_
  have:=ops_sound h1 hp k
  rwa [List.take_append_drop] at this
 ·obtain ⟨r,h1,rfl⟩:=Option.map_eq_some_iff.1 h
  have:=ops_sound h1 hp k
  rwa [List.take_append_drop] at this
 ·cases h
theorem go_sound {β:Type} {fin:Mode → List Fr → Env → List Ans → Option (Option Prop × β)}:∀ {g:Nat} {m:Mode} {fs:List Fr} {e:Env} {s:List Ans} {p:Option Prop × β},go P hn n fin g m fs e s = some p → holds p.1 ∧ (∀ m fs e s q,fin m fs e s = some (q,p.2) → holds q → StQ P hn n K ⟨m,fs,e⟩) → StQ P hn n K ⟨m,fs,e⟩
 | 0,m,fs,e,s,p,h,hp => hp.2 m fs e s p.1 h hp.1
 | g + 1,.ops ops l,fs,e,s,p,h,hp => by
  unfold go at h
  obtain ⟨r,h1,h2⟩:=Option.bind_eq_some_iff.1 h
  obtain ⟨y,hy,h2⟩:=Option.bind_eq_some_iff.1 h2
  obtain ⟨q,h3,h4⟩:=Option.map_eq_some_iff.1 h2
  subst h4
  have hq:=holds_both hp.1
  exact ops_end h1 hq.1 hy (go_sound (m:=.out .normal) h3 ⟨hq.2,hp.2⟩)
 | g + 1,.out x,fs,e,s,p,h,hp => by
  unfold go at h
  cases fs with
  | nil => cases h
  | cons f fs =>
   cases f with
   | seq y =>
    cases x with
    | normal => exact (go_sound (m:=.run y) (fs:=fs) (h:go P hn n fin g _ fs e s = some p) hp :)
    | exit i => exact (go_sound (m:=.out (.exit i)) (fs:=fs) (h:go P hn n fin g _ fs e s = some p) hp :)
    | ret => exact (go_sound (m:=.out .ret) (fs:=fs) (h:go P hn n fin g _ fs e s = some p) hp :)
   | block id => exact (go_sound (m:=.out _) (fs:=fs) (h:go P hn n fin g _ fs e s = some p) hp :)
   | loop Q =>
    cases x with
    | normal => cases h
    | exit i => exact (go_sound (m:=.out (.exit i)) (fs:=fs) (h:go P hn n fin g _ fs e s = some p) hp :)
    | ret => exact (go_sound (m:=.out .ret) (fs:=fs) (h:go P hn n fin g _ fs e s = some p) hp :)
 | g + 1,.run c,fs,e,s,p,h,hp => by
  unfold go at h
  cases hr:ready s e
  case true =>
   rw [hr,cond_true] at h
   obtain ⟨q,hq,h2⟩:=Option.bind_eq_some_iff.1 h
   exact Ends.ghosts (s':=q.2) hq (go_sound (m:=.run c) h2 hp)
  ·rw [hr,cond_false] at h
   cases c with
   | skip => exact ⟨.normal,e,fun w0 ν w N a Q I k => wp_skip (k ν N a w I),go_sound (m:=.out .normal) h hp⟩
   | exit id => exact ⟨.exit id,e,fun w0 ν w N a Q I k => wp_exit (k ν N a w I),go_sound (m:=.out (.exit id)) h hp⟩
   | ret => exact ⟨.ret,e,fun w0 ν w N a Q I k => wp_ret (k ν N a w I),go_sound (m:=.out .ret) h hp⟩
   | region id ops draw =>
    obtain ⟨r,h1,h2⟩:=Option.bind_eq_some_iff.1 h
    obtain ⟨y,hy,h2⟩:=Option.bind_eq_some_iff.1 h2
    obtain ⟨q,h3,h4⟩:=Option.map_eq_some_iff.1 h2
    subst h4
    have hq:=holds_both hp.1
    unfold regRun at h1
    obtain ⟨hd,h1⟩:=plain_of h1
    exact reg_sound hd (ops_end h1 hq.1 hy (go_sound (m:=.out .normal) h3 ⟨hq.2,hp.2⟩))
   | seq x y => exact Ends.seq (go_sound (m:=.run x) h hp)
   | block id x => exact Ends.block (go_sound (m:=.run x) h hp)
   | cond c x y =>
    simp only at h
    split at h
    ·rename_i hc
     exact Ends.cond hc (go_sound (m:=.run x) h hp)
    ·rename_i hc
     exact Ends.cond hc (go_sound (m:=.run y) h hp)
    ·cases h
   | _ => cases h
/-- From what is to hold to what holds. -/
theorem of_eq {T U:Prop} (h:T) (e:T = U):U:=e ▸ h
variable (P hn n) in
def Leaf (K:List (Nat × Nat) → Ex → Env → Prop) (S:St) (g:Nat) (s:List Ans) (R:List (Nat × Nat)) (L:List (Nat × AV)):Prop :=
 match S with
 | ⟨m,fs,e⟩ =>
  match go P hn n (fin P n K R L) g m fs e s with
  | some q => holds q.1 ∧ q.2
  | none => False
theorem Leaf.ok {S:St} {g:Nat} {s:List Ans} {R:List (Nat × Nat)} {L:List (Nat × AV)} (h:Leaf P hn n K S g s R L):StQ P hn n K S:=by
 obtain ⟨m,fs,e⟩:=S
 simp only [Leaf] at h
 split at h
 ·rename_i q hg
  exact go_sound (m:=m) hg ⟨h.1,fun m fs e s q' hb _ => fin_sound hb h.2⟩
 ·exact h.elim
variable (P hn n) in
/-- The state behind so many steps and operations, and what they want. -/
def nxt (S:St) (g c:Nat) (s:List Ans):St :=
 match S with
 | ⟨m,fs,e⟩ =>
  match go P hn n (part P hn n c) g m fs e s with
  | some q => q.2
  | none => ⟨m,fs,e⟩
variable (P hn n) in
def Obl (S:St) (g c:Nat) (s:List Ans):Prop :=
 match S with
 | ⟨m,fs,e⟩ =>
  match go P hn n (part P hn n c) g m fs e s with
  | some q => holds q.1
  | none => False
theorem mid {S:St} (g c:Nat) (s:List Ans) {T:Prop} (h:T) (he:T = Obl P hn n S g c s) (k:StP P hn n K (nxt P hn n S g c s)):StP P hn n K S:=by
 obtain ⟨k⟩:=k
 have h:=of_eq h he
 obtain ⟨m,fs,e⟩:=S
 simp only [Obl] at h
 simp only [nxt] at k
 split at h
 ·rename_i q hg
  rw [hg] at k
  exact ⟨go_sound (m:=m) hg ⟨h,fun m fs e s q' hb hq => part_sound hb hq k⟩⟩
 ·exact h.elim
/-- The first state of a place. -/
theorem at_ {c:Code} {p:List Bool} {Qs:List (List (Nat × AV) → Prop)} {e:Env} (h:StP P hn n K ⟨.run (nav p c),navF p c Qs [],e⟩):AtP P n c K p Qs e:=h.ok
def upto (Q:Nat → List (Nat × AV) → Prop) (k:Nat) (L:List (Nat × AV)):Prop:=∃ k',k' < k ∧ Q k' L
def allS (R:List (Nat × Nat)):List (Nat × AV) → Prop
 | [] => True
 | (_,x) :: l => some (x.ren (rn R)) = some (x.ren (rn R)) ∧ allS R l
theorem ag (R:List (Nat × Nat)):∀ L:List (Nat × AV),allS R L
 | [] => trivial
 | (_,_) :: l => ⟨rfl,ag R l⟩
/-- A way that comes to another piece. -/
theorem leafAt {S:St} {c:Code} {p':List Bool} {Qs':List (List (Nat × AV) → Prop)} {L:List (Nat × AV)} (g:Nat) (s:List Ans) (R:List (Nat × Nat)) (h1:AtP P n c K p' Qs' (lookA L)) {T:Prop} (h:T) (he:(T ∧ allS R L ∧ AtP P n c K p' Qs' (lookA L)) = Leaf P hn n K S g s R L):StP P hn n K S :=
 ⟨Leaf.ok (of_eq ⟨h,ag R L,h1⟩ he)⟩
/-- A way that comes to a loop's end. -/
theorem leafBack {S:St} {L:List (Nat × AV)} (g:Nat) (s:List Ans) (R:List (Nat × Nat)) {Q:Nat → List (Nat × AV) → Prop} {k k':Nat} (h1:Q k' L) (hk:k' < k) {T:Prop} (h:T) (he:(T ∧ allS R L ∧ upto Q k L) = Leaf P hn n K S g s R L):StP P hn n K S :=
 ⟨Leaf.ok (of_eq ⟨h,ag R L,k',hk,h1⟩ he)⟩
/-! ### Loops -/
theorem least {p:Nat → Prop}:∀ {k:Nat},p k → ∃ k,p k ∧ ∀ j,p j → k ≤ j:=by
 intro k
 induction k using Nat.strongRecOn with
 | _ k ih =>
  intro h
  by_cases hk:∃ j,j < k ∧ p j
  ·obtain ⟨j,hj,hp⟩:=hk
   exact ih j hj hp
  ·exact ⟨k,h,fun j hj => Classical.byContradiction fun hn => hk ⟨j,by omega,hj⟩⟩
open Classical in
/-- A loop of m whole rounds. -/
theorem loop_ok {c:Code} {E:Nat → Env} {m:Nat} {x:Ex} {e':Env} (hx:x ≠ .normal) (step:∀ i,i < m → RunOk P n c (E i) .normal (E (i + 1))) (last:RunOk P n c (E m) x e'):RunOk P n (.loop c) (E 0) x e':=by
 intro w0 ν w N a Q I k
 let p:Act → World → Nat → Prop:=fun a w j => j ≤ m ∧ ∃ ν N,Inv P w0 ν N n (E (m - j)) a w
 let μ:Act → World → Nat:=fun a w => if h:∃ j,p a w j then Classical.choose (least (Classical.choose_spec h)) else 0
 have hμ:∀ a w j,p a w j → p a w (μ a w) ∧ μ a w ≤ j:=by
  intro a w j hj
  have h:∃ j,p a w j:=⟨j,hj⟩
  have hs:=Classical.choose_spec (least (Classical.choose_spec h))
  have he:μ a w = Classical.choose (least (Classical.choose_spec h)):=dif_pos h
  rw [he]
  exact ⟨hs.1,hs.2 j hj⟩
 have hthen:∀ {K:Act → World → Prop} {a':Act} {w':World},Exit.then K Q x.toExit a' w' = Q x.toExit a' w':=by
  intro K a' w'
  cases x with
  | normal => exact absurd rfl hx
  | exit i => rfl
  | ret => rfl
 refine wp_loop (fun a w => ∃ j,p a w j) μ ⟨m,Nat.le_refl _,ν,N,by rw [Nat.sub_self]; exact I⟩ ?_
 rintro a w ⟨j,hj⟩
 obtain ⟨⟨h1,ν1,N1,I1⟩,h2⟩:=hμ a w j hj
 generalize hr:μ a w = r at h1 I1 h2
 cases r with
 | zero =>
  refine last w0 ν1 w N1 a _ I1 fun ν' N' a' w' I' => ?_
  rw [hthen]
  exact k ν' N' a' w' I'
 | succ r =>
  refine step (m - (r + 1)) (by omega) w0 ν1 w N1 a _ I1 fun ν' N' a' w' I' => ?_
  have hp:p a' w' r:=⟨by omega,ν',N',by rw [show m - r = m - (r + 1) + 1 by omega]; exact I'⟩
  exact ⟨⟨r,hp⟩,by have:=(hμ a' w' r hp).2; omega⟩
variable (P n) in
inductive Rounds (c : Code) (x : Ex) (e' : Env) : Env → Prop
 | last {e:Env} (h:RunOk P n c e x e'):Rounds c x e' e
 | more {e e1:Env} (h:RunOk P n c e .normal e1) (t:Rounds c x e' e1):Rounds c x e' e
theorem Rounds.ok {c:Code} {x:Ex} {e e':Env} (hx:x ≠ .normal) (h:Rounds P n c x e' e):RunOk P n (.loop c) e x e':=by
 have:∃ (m:Nat) (E:Nat → Env),E 0 = e ∧ (∀ i,i < m → RunOk P n c (E i) .normal (E (i + 1))) ∧ RunOk P n c (E m) x e':=by
  induction h with
  | @last e h => exact ⟨0,fun _ => e,rfl,fun i hi => absurd hi (Nat.not_lt_zero i),h⟩
  | @more e e1 h t ih =>
   obtain ⟨m,E,h0,h1,h2⟩:=ih
   refine ⟨m + 1,fun i => match i with | 0 => e | i + 1 => E i,rfl,fun i hi => ?_,h2⟩
   cases i with
   | zero => show RunOk P n c e .normal (E 0); rw [h0]; exact h
   | succ i => exact h1 i (by omega)
 obtain ⟨m,E,rfl,h1,h2⟩:=this
 exact loop_ok hx h1 h2
theorem at_loop {c:Code} {p:List Bool} {Qs:List (List (Nat × AV) → Prop)} (hp:nav p c = .loop (nav (p ++ [false]) c)) (hF:∀ Q,navF (p ++ [false]) c (Qs ++ [Q]) [] = .loop Q :: navF p c Qs []) (Q:Nat → List (Nat × AV) → Prop)
  (step:∀ k L,Q k L → AtP P n c K (p ++ [false]) (Qs ++ [upto Q k]) (lookA L)):∀ k L,Q k L → AtP P n c K p Qs (lookA L):=by
 have key:∀ k L,Q k L → ∃ x e',x ≠ .normal ∧ Rounds P n (nav (p ++ [false]) c) x e' (lookA L) ∧ post P n K (navF p c Qs []) x e':=by
  intro k
  induction k using Nat.strongRecOn with
  | _ k ih =>
   intro L hL
   obtain ⟨x,e1,h1,h2⟩:=step k L hL
   rw [hF] at h2
   cases x with
   | normal =>
    obtain ⟨R',L',h3,h4,k',h5,h6⟩:=h2
    obtain ⟨x,e',g1,g2,g3⟩:=ih k' h5 L' h6
    exact ⟨x,e',g1,.more (h1.less h3 h4) g2,g3⟩
   | exit i => exact ⟨.exit i,e1,nofun,.last h1,h2⟩
   | ret => exact ⟨.ret,e1,nofun,.last h1,h2⟩
 intro k L hL
 obtain ⟨x,e',h1,h2,h3⟩:=key k L hL
 unfold AtP
 rw [hp]
 exact ⟨x,e',h2.ok h1,h3⟩
end
end Go.Rh

namespace Go.Rh
open Go.RowKit
variable [MemFact]

section
variable {P:Program} {hn:Hint} {n:Nat}
theorem callFunc_ok {f : FuncId} {fn : Func} {c : Code} (hf : P.funcs[f]? = some fn) (hb : fn.body = some c) (hn : (fn.name == "runtime.NumGoroutine") = false) (args : Array Value) (w : World) : (callFunc f args).run P w = .ok (.enter f args) w := by
 unfold callFunc
 simp only [Sem.run_bind]
 rw [show Sem.run P program w = .ok P w from rfl]
 simp only [Result.andThen_ok,hf]
 rw [if_neg (by rw [hn]; nofun),if_neg (by rw [hb]; nofun)]
 rfl
/-- What slots and keys hold at first. -/
def initL:Nat → List AV → List (Nat × AV) → List (Nat × AV)
 | _,[],pre => pre
 | i,x :: l,pre => (i,x) :: initL (i + 1) l pre
def okPre (args:List AV) (pre:List (Nat × AV)):Bool:=pre.all (fun p => Nat.ble keyB p.1 && p.2.isC) && (nodup (keysOf pre) && ((keysL args ++ keysIn pre).all (fun k => mem k (keysOf pre)) && Nat.ble args.length keyB))
theorem initL_get {pre:List (Nat × AV)} {t:Nat} {x:AV}:∀ {l:List AV} {i:Nat},lookA (initL i l pre) t = some x → (i ≤ t ∧ l[t - i]? = some x) ∨ ((t < i ∨ i + l.length ≤ t) ∧ lookA pre t = some x)
 | [],i,h => .inr ⟨by simp; omega,h⟩
 | y :: l,i,h => by
  simp only [initL,lookA] at h
  cases hb:Nat.beq t i
  ·have hne:t ≠ i:=fun h => by rw [h,Nat.beq_refl] at hb; cases hb
   rw [hb] at h
   rcases initL_get h with ⟨h1,h2⟩ | ⟨h1,h2⟩
   ·refine .inl ⟨by omega,?_⟩
    rw [show t - i = (t - (i + 1)) + 1 by omega]
    simpa using h2
   ·refine .inr ⟨?_,h2⟩
    simp only [List.length_cons]
    omega
  ·rw [hb] at h
   obtain rfl:=Nat.eq_of_beq_eq_true hb
   obtain rfl:=Option.some.inj h
   exact .inl ⟨Nat.le_refl _,by simp⟩
theorem initL_dom {pre:List (Nat × AV)} {k:Nat} (hk:k ∈ keysOf pre):∀ {l:List AV} {i:Nat},lookA (initL i l pre) k ≠ none
 | [],i => lookA_dom hk
 | y :: l,i => by
  simp only [initL,lookA]
  cases hb:Nat.beq k i
  ·exact initL_dom hk
  ·nofun
/-- What a result variable tells; ks: keys that stay. -/
def resOf (P:Program) (e:Env) (ks:List Nat):ResultVar → Option AV
 | .tmp t => (e t).bind fun x => bif x.isC then none else deep e false ks x
 | .cell a t =>
  match e a with
  | some (.loc k i) =>
   match e k with
   | some (.box z) => (sub P t z i).bind (deep e false ks)
   | _ => none
  | _ => none
def ressOf (P:Program) (e:Env) (ks:List Nat):List ResultVar → Option (List AV)
 | [] => some []
 | v :: l => (resOf P e ks v).bind fun x => (ressOf P e ks l).map (x :: ·)
def okEnd (R:List (Nat × Nat)) (rs:List AV) (post:List (Nat × AV)):Bool:=(keysL rs ++ keysIn post).all (fun k => mem k (keysOf post)) && (post.all (fun p => p.2.isC) && (nodup (ckeys R post) && R.all (fun p => Nat.blt p.1 keyB)))
/-- The function returns these. -/
def KR (P:Program) (rv:List ResultVar) (rs:List AV) (post:List (Nat × AV)) (R:List (Nat × Nat)) (x:Ex) (e:Env):Prop:=(x = .normal ∨ x = .ret) ∧ okEnd R rs post = true ∧ agree R e post ∧ ressOf P e (ckeys R post) rv = some (renL (rn R) rs)
/-- A way that returns. -/
theorem leafRet {rv:List ResultVar} {rs:List AV} {post:List (Nat × AV)} {S:St} (g:Nat) (s:List Ans) (R:List (Nat × Nat)) (x:Ex) (hx:x = .normal ∨ x = .ret) (hok:okEnd R rs post = true) {T:Prop} (h:T)
  (he:(T ∧ ((x = .normal ∨ x = .ret) ∧ okEnd R rs post = true ∧ allS R post ∧ some (renL (rn R) rs) = some (renL (rn R) rs))) = Leaf P hn n (KR P rv rs post) S g s R []):StP P hn n (KR P rv rs post) S :=
 ⟨Leaf.ok (of_eq ⟨h,hx,hok,ag R post,rfl⟩ he)⟩
def getRes (tmps:Array Value):ResultVar → Sem Value
 | .tmp t => pure (tmps.getD t undef)
 | .cell a t => do loadVar t (← asAddr (tmps.getD a undef))
theorem res_sound {w0:Cx} {ν:Nat → Value} {w':World} {O:Own} {e:Env} {a:Act} (I:Inv P w0 ν O n e a w') {ks:List Nat} {v:ResultVar} {r:AV} (h:resOf P e ks v = some r):∃ u,(getRes a.tmps v).run P w' = .ok u w' ∧ RepK w' (okO w0 w' O) ν r u:=by
 cases v with
 | tmp t =>
  obtain ⟨y,h1,h2⟩:=Option.bind_eq_some_iff.1 h
  cases hc:y.isC
  ·rw [hc] at h2
   exact ⟨_,rfl,deep_rep I (tv:=false) (fun k y h => h) h2 (I.rep t y h1 hc)⟩
  ·rw [hc] at h2
   cases h2
 | cell b t =>
  simp only [resOf] at h
  split at h
  ·rename_i k i hb
   split at h
   ·rename_i z hz
    obtain ⟨y,hy,h2⟩:=Option.bind_eq_some_iff.1 h
    obtain ⟨g,hg,hv⟩:=loc_inv (I.rep b _ hb rfl)
    obtain ⟨b',T,cs,g1,g2,g3,g4⟩:=I.key k _ hz rfl
    rw [hg] at g1
    simp only [Value.pointer.injEq,Option.some.injEq,Addr.mk.injEq,and_true] at g1
    subst g1
    obtain ⟨u,k1,k2⟩:=sub_load hy g4 (ad:=⟨g,0,none⟩) (fun j u hu => by
     rw [base_add,cell_of_row w' g j cs.toArray T (0,0) g3]
     simpa using hu)
    rw [base_add] at k1
    refine ⟨u,?_,deep_rep I (tv:=false) (fun k y h => h) h2 k2⟩
    simp only [getRes,hv,asAddr,Sem.run_bind,Sem.run_pure,Result.andThen_ok]
    exact k1
   ·cases h
  ·cases h
theorem ress_sound {w0:Cx} {ν:Nat → Value} {w':World} {O:Own} {e:Env} {a:Act} (I:Inv P w0 ν O n e a w') {ks:List Nat}:∀ {l:List ResultVar} {rs:List AV},ressOf P e ks l = some rs →
  ∃ vs:List Value,(l.mapM (getRes a.tmps)).run P w' = .ok vs w' ∧ vs.length = rs.length ∧ ∀ (i:Nat) (x:AV) (v:Value),rs[i]? = some x → vs[i]? = some v → RepK w' (okO w0 w' O) ν x v
 | [],rs,h => by
  simp only [ressOf,Option.some.injEq] at h
  subst h
  exact ⟨[],rfl,rfl,fun i x v hx => by simp at hx⟩
 | v :: l,rs,h => by
  simp only [ressOf] at h
  obtain ⟨r,h1,h2⟩:=Option.bind_eq_some_iff.1 h
  obtain ⟨us,h3,rfl⟩:=Option.map_eq_some_iff.1 h2
  obtain ⟨u,g1,g2⟩:=res_sound I h1
  obtain ⟨vs,k1,k2,k3⟩:=ress_sound I h3
  refine ⟨u :: vs,?_,by simp [k2],fun i x v hx hv => ?_⟩
  ·simp only [List.mapM_cons,Sem.run_bind,g1,Result.andThen_ok,k1]
   rfl
  ·cases i with
   | zero =>
    simp only [List.getElem?_cons_zero,Option.some.injEq] at hx hv
    subst hx hv
    exact g2
   | succ i => exact k3 i x v (by simpa using hx) (by simpa using hv)
theorem results_run {fn:Func} {tmps:Array Value} {w:World} {vs:List Value} (h:(fn.results.toList.mapM (getRes tmps)).run P w = .ok vs w):(results fn tmps).run P w = .ok (match vs with | [v] => v | vs => .tuple vs.toArray) w:=by
 have e:results fn tmps = (do let vs ← fn.results.mapM (getRes tmps); pure (if h:vs.size = 1 then vs[0] else .tuple vs)):=by
  unfold results
  have:(fun v:ResultVar => (match v with | .tmp t => pure (tmps.getD t undef) | .cell a t => do loadVar t (← asAddr (tmps.getD a undef)):Sem Value)) = getRes tmps:=by
   funext v
   cases v <;> rfl
  rw [← this]
  rfl
 rw [e,Array.mapM_eq_mapM_toList]
 simp only [bind_map_left,Sem.run_bind,h,Result.andThen_ok]
 match vs with
 | [] => rfl
 | [v] => rfl
 | u :: v :: l => rfl
def rOf:List AV → AV
 | [x] => x
 | l => .tup l
/-- A whole function. -/
theorem call_ok {f : FuncId} {fn : Func} {c : Code} (hf : P.funcs[f]? = some fn) (hb : fn.body = some c) (hnm : (fn.name == "runtime.NumGoroutine") = false) {args : List AV} {pre post : List (Nat × AV)} {rs : List AV} (hlen : (Nat.ble args.length fn.ntmps && Nat.ble fn.ntmps 100000) = true) (hpre : okPre args pre = true)
  (h:AtP P fn.ntmps c (KR P fn.results.toList rs post) [] [] (lookA (initL 0 args pre))):CallH P f args pre (rOf rs) post:=by
 simp only [Bool.and_eq_true] at hlen
 have hlen1:=Nat.le_of_ble_eq_true hlen.1
 have hsm:=Nat.le_of_ble_eq_true hlen.2
 simp only [okPre,Bool.and_eq_true] at hpre
 obtain ⟨q1,q2,q3,q4⟩:=hpre
 have q4:=Nat.le_of_ble_eq_true q4
 have hkB:∀ k x,(k,x) ∈ pre → keyB ≤ k ∧ x.isC = true:=by
  intro k x hx
  have:=List.all_eq_true.1 q1 _ hx
  simp only [Bool.and_eq_true] at this
  exact ⟨Nat.le_of_ble_eq_true this.1,this.2⟩
 refine ⟨callFunc_ok hf hb hnm,fun cx O vs hG hO hX hl hv hH hM => ?_⟩
 refine calls_of_wp hf hb ?_
 have hsz:(vs.toArray ++ Array.replicate (fn.ntmps - vs.toArray.size) undef).size = fn.ntmps:=by simp; omega
 obtain ⟨x,e',hr,R,hx,hok,hag,hres⟩:=h
 have arg:∀ {i y},args[i]? = some y → RepK cx.w cx.G cx.V y ((vs.toArray ++ Array.replicate (fn.ntmps - vs.toArray.size) undef).getD i undef):=by
  intro i y hy
  have hi:i < args.length:=(List.getElem?_eq_some_iff.1 hy).1
  have hi2:i < vs.length:=by omega
  have h1:=hv i y vs[i] hy (List.getElem?_eq_getElem hi2)
  have h2:(vs.toArray ++ Array.replicate (fn.ntmps - vs.toArray.size) undef).getD i undef = vs[i]:=by
   rw [Array.getD_eq_getD_getElem?,Array.getElem?_append_left (by simpa using hi2)]
   simp [hi2]
  rw [h2]
  exact h1
 have look:∀ {t y},lookA (initL 0 args pre) t = some y → args[t]? = some y ∨ ((t,y) ∈ pre ∧ lookA pre t = some y):=by
  intro t y hy
  rcases initL_get hy with ⟨_,h2⟩ | ⟨_,h2⟩
  ·exact .inl (by simpa using h2)
  ·exact .inr ⟨lookA_some h2,h2⟩
 have closed:∀ k,k ∈ keysL args ∨ k ∈ keysIn pre → k ∈ keysOf pre:=fun k hk => mem_iff.1 (List.all_eq_true.1 q3 k (by simpa using hk))
 refine hr cx cx.V cx.w O _ _ ⟨Keeps.refl _,fun b m hb => ⟨fun ho => ho.2 (hO b m hb).1,(hO b m hb).2⟩,fun b off hb => ⟨rfl,hG b off hb⟩,fun t y hy hc => ?_,fun k y hy hc => ?_,fun k k' y y' hne h1 h2 b hb1 => ?_,fun t y hy q hq => ?_,hsz,rfl,fun _ _ => rfl,hsm,hM⟩ fun ν' N' a' w' I' => ?_
 ·rcases look hy with h | ⟨h,_⟩
  ·exact (arg h).mono (fun _ _ _ => rfl) hG
  ·rw [(hkB t y h).2] at hc
   cases hc
 ·rcases look hy with h | ⟨h,_⟩
  ·rw [(arg h).notC] at hc
   cases hc
  ·exact (hH.rep k y h).world (fun _ _ _ => rfl) hG (fun _ _ => ⟨rfl,rfl⟩)
 ·rcases look h1 with g1 | ⟨g1,_⟩
  ·rw [hold_notC (arg g1).notC] at hb1
   cases hb1
  ·rcases look h2 with g2 | ⟨g2,_⟩
   ·rw [hold_notC (arg g2).notC]
    nofun
   ·exact hH.far k k' y y' g1 g2 hne b hb1
 ·rcases look hy with h | ⟨h,_⟩
  ·exact initL_dom (closed q (.inl (mem_keysL.2 ⟨y,List.mem_of_getElem? h,hq⟩)))
  ·exact initL_dom (closed q (.inr (keysIn_mem.2 ⟨t,y,h,hq⟩)))
 ·simp only [okEnd,Bool.and_eq_true] at hok
  obtain ⟨o1,o2,o3,o4⟩:=hok
  have hpc:∀ k x,(k,x) ∈ post → x.isC = true:=fun k x hx => List.all_eq_true.1 o2 _ hx
  obtain ⟨us,u1,u2,u3⟩:=ress_sound I' hres
  rw [renL_len] at u2
  have u4:∀ (i:Nat) (x:AV) (v:Value),rs[i]? = some x → us[i]? = some v → RepK w' (okO cx w' N') (fun k => ν' (rn R k)) x v:=unrenL fun i x v hx hv => u3 i _ v (by rw [renL_get,hx]; rfl) hv
  have hv:=results_run u1
  have hq:bodyPost P fn (fun e w' => ∃ v ν' O',e = .returned v ∧ Post P cx w' ν' O' pre (rOf rs) post v) .ret a' w':=by
   refine ⟨I'.def0,_,hv,_,(fun k => ν' (rn R k)),N',rfl,I'.bel,I'.own,I'.st,fun k x hx => ?_,?_,⟨fun k x hx => ?_,fun k k' x x' h1 h2 hne b hb hb2 => ?_⟩⟩
   ·simp only [rn_big (hkB k x hx).1 o4]
    exact I'.fix k (hkB k x hx).1
   ·match us,rs,u2,u4 with
    | [u],[r],_,u4 => exact u4 0 r u rfl rfl
    | [],[],_,u4 => exact .tup [] [] rfl (fun i x v hx => by simp at hx)
    | u :: v :: us,r :: s :: rs,u2,u4 => exact .tup (r :: s :: rs) (u :: v :: us) u2 u4
   ·have h1:=agree_mem hag hx
    rw [hpc k x hx] at h1
    exact (I'.key _ _ h1 (by rw [ren_isC]; exact hpc k x hx)).unren
   ·have e1:=agree_mem hag h1
    have e2:=agree_mem hag h2
    rw [hpc k x h1] at e1
    rw [hpc k' x' h2] at e2
    exact I'.far _ _ _ _ (ckeys_inj (hpc k x h1) (hpc k' x' h2) hne o3 h1 h2) e1 e2 b (by rw [ren_hold]; exact hb) (by rw [ren_hold]; exact hb2)
  rcases hx with rfl | rfl
  ·exact hq
  ·exact hq
/-! ### Other names of keys -/
mutual
theorem RepK.ren {w:World} {ok:Nat → Nat → Prop} {ν ν':Nat → Value} {ρ:Nat → Nat}:∀ {x:AV} {v:Value},RepK w ok ν x v → (∀ k ∈ x.keys,ν' (ρ k) = ν k) → RepK w ok ν' (x.ren ρ) v
 | .agg l,v,h,hk => by
  obtain ⟨vs,rfl,hl,ho,h1⟩:=agg_inv h
  simp only [AV.keys] at hk
  refine .agg _ vs (by rw [renL_len]; exact hl) (fun x hx => ?_) (renL_rep h1 hk)
  obtain ⟨i,hi⟩:=List.mem_iff_getElem?.1 hx
  rw [renL_get] at hi
  obtain ⟨y,hy,rfl⟩:=Option.map_eq_some_iff.1 hi
  rw [ren_one]
  exact ho y (List.mem_of_getElem? hy)
 | .tup l,v,h,hk => by
  obtain ⟨vs,rfl,hl,h1⟩:=tup_inv h
  simp only [AV.keys] at hk
  exact .tup _ vs (by rw [renL_len]; exact hl) (renL_rep h1 hk)
 | .fn f l,v,h,hk => by
  obtain ⟨vs,rfl,hl,h1⟩:=fn_inv h
  simp only [AV.keys] at hk
  exact .fn f _ vs (by rw [renL_len]; exact hl) (renL_rep h1 hk)
 | .loc k i,v,h,hk => by
  obtain ⟨b,h1,rfl⟩:=loc_inv h
  exact .loc _ i b ((hk k (by simp [AV.keys])).trans h1)
 | .row k,v,h,hk => by
  obtain ⟨rfl,A,n,c,h1⟩:=row_inv h
  rw [h1]
  exact .row _ A n c ((hk k (by simp [AV.keys])).trans h1)
 | .el k i s j,v,h,hk => by
  obtain ⟨g,n,c,h1,rfl⟩:=el_inv h
  exact .el _ i s j g n c ((hk k (by simp [AV.keys])).trans h1)
 | .tl k i s,v,h,hk => by
  obtain ⟨g,n,c,h1,rfl⟩:=tl_inv h
  exact .tl _ i s g n c ((hk k (by simp [AV.keys])).trans h1)
 | .val u,v,h,_ => .imm (val_inv h)
 | .sl u,v,h,_ => .imm (sl_inv h)
 | .ptr u,v,h,_ => .imm (ptr_inv h)
 | .box x,v,h,_ => by
  cases h with
  | imm h => cases h
 | .ow m T l,v,h,_ => by
  cases h with
  | imm h => cases h
 | .fz x,v,h,_ => by
  cases h with
  | imm h => cases h
 | .dead,v,h,_ => by
  cases h with
  | imm h => cases h
theorem renL_rep {w:World} {ok:Nat → Nat → Prop} {ν ν':Nat → Value} {ρ:Nat → Nat}:∀ {l:List AV} {vs:List Value},(∀ (i:Nat) (x:AV) (v:Value),l[i]? = some x → vs[i]? = some v → RepK w ok ν x v) → (∀ k ∈ keysL l,ν' (ρ k) = ν k) → ∀ (i:Nat) (x:AV) (v:Value),(renL ρ l)[i]? = some x → vs[i]? = some v → RepK w ok ν' x v
 | [],vs,h,hk,i,x,v,hx,hv => by simp [renL] at hx
 | y :: l,vs,h,hk,0,x,v,hx,hv => by
  have h1:=RepK.ren (h 0 y v rfl hv) fun k hq => hk k (by simp only [keysL,List.mem_append]; exact .inl hq)
  simp only [renL,List.getElem?_cons_zero,Option.some.injEq] at hx
  subst hx
  exact h1
 | y :: l,[],h,hk,i + 1,x,v,hx,hv => by simp at hv
 | y :: l,u :: vs,h,hk,i + 1,x,v,hx,hv => renL_rep (l:=l) (vs:=vs) (fun j z r hz hr => h (j + 1) z r (by simpa using hz) (by simpa using hr)) (fun k hq => hk k (by simp only [keysL,List.mem_append]; exact .inr hq)) i x v (by simpa [renL] using hx) (by simpa using hv)
end
theorem CsK.ren {w:World} {ok:Nat → Nat → Prop} {ν ν':Nat → Value} {ρ:Nat → Nat} {x:AV} {cs:List Value} (h:CsK w ok ν x cs) (hk:∀ k ∈ x.keys,ν' (ρ k) = ν k):CsK w ok ν' (x.ren ρ) cs:=by
 cases x with
 | agg l =>
  obtain ⟨h1,h2,h3⟩:=h
  simp only [AV.keys] at hk
  refine ⟨by rw [renL_len]; exact h1,fun x hx => ?_,renL_rep h3 hk⟩
  obtain ⟨i,hi⟩:=List.mem_iff_getElem?.1 hx
  rw [renL_get] at hi
  obtain ⟨y,hy,rfl⟩:=Option.map_eq_some_iff.1 hi
  rw [ren_one]
  exact h2 y (List.mem_of_getElem? hy)
 | _ =>
  obtain ⟨h1,v,rfl,h2⟩:=h
  exact ⟨by rw [ren_one]; exact h1,v,rfl,h2.ren hk⟩
theorem KeyRep.ren {w:World} {ok:Nat → Nat → Prop} {O:Own} {ν ν':Nat → Value} {ρ:Nat → Nat} {x:AV} {v:Value} (h:KeyRep P w ok O ν x v) (hk:∀ k ∈ x.keys,ν' (ρ k) = ν k):KeyRep P w ok O ν' (x.ren ρ) v:=by
 cases x with
 | box y =>
  obtain ⟨b,T,cs,h1,h2,h3,h4⟩:=h
  exact ⟨b,T,cs,h1,h2,h3,h4.ren hk⟩
 | _ => exact h
def renC (ρ:Nat → Nat):List (Nat × AV) → List (Nat × AV)
 | [] => []
 | (k,x) :: l => (ρ k,x.ren ρ) :: renC ρ l
theorem renC_mem {ρ:Nat → Nat} {k:Nat} {x:AV}:∀ {l:List (Nat × AV)},(k,x) ∈ renC ρ l ↔ ∃ q y,(q,y) ∈ l ∧ ρ q = k ∧ y.ren ρ = x
 | [] => by simp [renC]
 | (q,y) :: l => by
  simp only [renC,List.mem_cons,renC_mem (l:=l),Prod.mk.injEq]
  constructor
  ·rintro (⟨rfl,rfl⟩ | ⟨q',y',h,e⟩)
   ·exact ⟨q,y,.inl ⟨rfl,rfl⟩,rfl,rfl⟩
   ·exact ⟨q',y',.inr h,e⟩
  ·rintro ⟨q',y',⟨rfl,rfl⟩ | h,rfl,rfl⟩
   ·exact .inl ⟨rfl,rfl⟩
   ·exact .inr ⟨q',y',h,rfl,rfl⟩
def mapK (ρ:Nat → Nat):List Nat → List Nat
 | [] => []
 | k :: l => ρ k :: mapK ρ l
theorem mapK_mem {ρ:Nat → Nat} {k:Nat}:∀ {l:List Nat},k ∈ l → ρ k ∈ mapK ρ l
 | [],h => by cases h
 | r :: l,h => by
  simp only [mapK,List.mem_cons]
  rcases List.mem_cons.1 h with rfl | h
  ·exact .inl rfl
  ·exact .inr (mapK_mem h)
theorem mapK_inj {ρ:Nat → Nat}:∀ {l:List Nat},nodup (mapK ρ l) = true → ∀ k ∈ l,∀ q ∈ l,ρ k = ρ q → k = q
 | [],_,k,hk,_,_,_ => by cases hk
 | r :: l,h,k,hk,q,hq,he => by
  simp only [mapK,nodup,Bool.and_eq_true,Bool.not_eq_true'] at h
  rcases List.mem_cons.1 hk with g | g
  ·rcases List.mem_cons.1 hq with g' | g'
   ·exact g.trans g'.symm
   ·have:=mem_iff.2 (mapK_mem (ρ:=ρ) g')
    rw [← he,g,h.1] at this
    cases this
  ·rcases List.mem_cons.1 hq with g' | g'
   ·have:=mem_iff.2 (mapK_mem (ρ:=ρ) g)
    rw [he,g',h.1] at this
    cases this
   ·exact mapK_inj h.2 k g q g' he
def minus (m:List Nat):List Nat → List Nat
 | [] => []
 | k :: l => bif mem k m then minus m l else k :: minus m l
theorem minus_mem {m:List Nat} {k:Nat}:∀ {l:List Nat},k ∈ l → k ∈ m ++ minus m l
 | [],h => by cases h
 | r :: l,h => by
  simp only [minus]
  cases hm:mem r m
  ·simp only [cond_false,List.mem_append,List.mem_cons]
   rcases List.mem_cons.1 h with rfl | h
   ·exact .inr (.inl rfl)
   ·rcases List.mem_append.1 (minus_mem h) with h | h
    ·exact .inl h
    ·exact .inr (.inr h)
  ·simp only [cond_true]
   rcases List.mem_cons.1 h with rfl | h
   ·exact List.mem_append_left _ (mem_iff.1 hm)
   ·exact minus_mem h
open Classical in
theorem CallH.ren {f:FuncId} {args:List AV} {pre post:List (Nat × AV)} {r:AV} (ρ:List (Nat × Nat)) (hc:(r.keys ++ keysIn post).all (fun k => mem k (keysOf post)) = true) (hj0:nodup (mapK (rn ρ) (keysOf pre ++ minus (keysOf pre) (keysOf post))) = true) (h:CallH P f args pre r post):CallH P f (renL (rn ρ) args) (renC (rn ρ) pre) (r.ren (rn ρ)) (renC (rn ρ) post):=by
 have hj:∀ k,k ∈ keysOf pre ∨ k ∈ keysOf post → ∀ q,q ∈ keysOf pre ∨ q ∈ keysOf post → rn ρ k = rn ρ q → k = q:=by
  intro k hk q hq he
  have hm:∀ {k},k ∈ keysOf pre ∨ k ∈ keysOf post → k ∈ keysOf pre ++ minus (keysOf pre) (keysOf post):=fun {k} h => by
   rcases h with h | h
   ·exact List.mem_append_left _ h
   ·exact minus_mem h
  exact mapK_inj hj0 k (hm hk) q (hm hq) he
 refine ⟨h.enter,fun c O vs hG hO hX hl hv hH hM => ?_⟩
 let c':Cx:=⟨c.w,c.G,c.X,fun k => c.V (rn ρ k)⟩
 have inpre:∀ {k x},(k,x) ∈ pre → (rn ρ k,x.ren (rn ρ)) ∈ renC (rn ρ) pre:=fun {k x} hx => renC_mem.2 ⟨k,x,hx,rfl,rfl⟩
 have hcall:=h.calls c' O vs hG hO hX (by rw [hl,renL_len]) (fun i x v hx hvv => (hv i _ v (by rw [renL_get,hx]; rfl) hvv).unren)
  ⟨fun k x hx => (hH.rep _ _ (inpre hx)).unren,fun k k' x x' h1 h2 hne b hb hb2 => hH.far _ _ _ _ (inpre h1) (inpre h2) (fun he => hne (hj k (.inl (keysOf_mem.2 ⟨x,h1⟩)) k' (.inl (keysOf_mem.2 ⟨x',h2⟩)) he)) b (by rw [ren_hold]; exact hb) (by rw [ren_hold]; exact hb2)⟩ hM
 refine hcall.mono ?_
 rintro e w' ⟨v,ν',O',rfl,PP⟩
 let ν2:Nat → Value:=fun k => if hk:∃ q,q ∈ keysOf post ∧ rn ρ q = k then ν' (Classical.choose hk) else c.V k
 have n1:∀ q,q ∈ keysOf post → ν2 (rn ρ q) = ν' q:=by
  intro q hq
  have hk:∃ q',q' ∈ keysOf post ∧ rn ρ q' = rn ρ q:=⟨q,hq,rfl⟩
  have hs:=Classical.choose_spec hk
  have:ν2 (rn ρ q) = ν' (Classical.choose hk):=dif_pos hk
  rw [this,hj _ (.inr hs.1) q (.inr hq) hs.2]
 have closed:∀ k,k ∈ r.keys ∨ k ∈ keysIn post → k ∈ keysOf post:=fun k hk => mem_iff.1 (List.all_eq_true.1 hc k (by simpa using hk))
 refine ⟨v,ν2,O',rfl,⟨PP.keeps.os,PP.keeps.tape,PP.keeps.output,PP.keeps.size,PP.keeps.block⟩,PP.own,PP.st,fun k x hx => ?_,RepK.ren PP.rep fun k hk => n1 k (closed k (.inl hk)),⟨fun k x hx => ?_,fun k k' x x' h1 h2 hne b hb => ?_⟩⟩
 ·obtain ⟨q,y,hy,rfl,rfl⟩:=renC_mem.1 hx
  by_cases hk:∃ q',q' ∈ keysOf post ∧ rn ρ q' = rn ρ q
  ·obtain ⟨q',h1,h2⟩:=hk
   have:=hj q' (.inr h1) q (.inl (keysOf_mem.2 ⟨y,hy⟩)) h2
   subst this
   rw [n1 q' h1]
   exact PP.same q' y hy
  ·exact dif_neg hk
 ·obtain ⟨q,y,hy,rfl,rfl⟩:=renC_mem.1 hx
  rw [n1 q (keysOf_mem.2 ⟨y,hy⟩)]
  exact (PP.heap.rep q y hy).ren fun k hk => n1 k (closed k (.inr (keysIn_mem.2 ⟨q,y,hy,hk⟩)))
 ·obtain ⟨q,y,hy,rfl,rfl⟩:=renC_mem.1 h1
  obtain ⟨q',y',hy',rfl,rfl⟩:=renC_mem.1 h2
  rw [n1 q (keysOf_mem.2 ⟨y,hy⟩),ren_hold] at hb
  rw [n1 q' (keysOf_mem.2 ⟨y',hy'⟩),ren_hold]
  exact PP.heap.far q q' y y' hy hy' (fun h => hne (by rw [h])) b hb
/-- A row of the call's own that is no more written. -/
def frz1:AV → AV
 | .ow _ T l => .ow false T l
 | x => x
def frzL (k:Nat):List (Nat × AV) → List (Nat × AV)
 | [] => []
 | (q,x) :: l => (q,bif Nat.beq q k then frz1 x else x) :: frzL k l
theorem frzL_mem {k q:Nat} {x:AV}:∀ {l:List (Nat × AV)},(q,x) ∈ frzL k l → ∃ y,(q,y) ∈ l ∧ ((q = k ∧ x = frz1 y) ∨ (q ≠ k ∧ x = y))
 | [],h => by cases h
 | (r,y) :: l,h => by
  simp only [frzL,List.mem_cons,Prod.mk.injEq] at h
  rcases h with ⟨rfl,rfl⟩ | h
  ·refine ⟨y,List.mem_cons_self,?_⟩
   cases hb:Nat.beq q k
   ·exact .inr ⟨fun h => (by rw [h,Nat.beq_refl] at hb; cases hb),rfl⟩
   ·exact .inl ⟨Nat.eq_of_beq_eq_true hb,rfl⟩
  ·obtain ⟨z,hz,h⟩:=frzL_mem h
   exact ⟨z,List.mem_cons_of_mem _ hz,h⟩
theorem frz1_hold {x:AV} {v:Value}:hold (frz1 x) v = hold x v:=by cases x <;> first | rfl | (cases v <;> rfl)
theorem nodup_one {k:Nat} {x y:AV}:∀ {l:List (Nat × AV)},nodup (keysOf l) = true → (k,x) ∈ l → (k,y) ∈ l → x = y
 | [],_,h,_ => by cases h
 | (r,z) :: l,hn,h,h' => by
  simp only [keysOf,nodup,Bool.and_eq_true,Bool.not_eq_true'] at hn
  rcases List.mem_cons.1 h with g | g
  ·injection g with g1 g2
   rcases List.mem_cons.1 h' with g' | g'
   ·injection g' with g3 g4
    rw [g2,g4]
   ·have:=mem_iff.2 (keysOf_mem.2 ⟨y,g'⟩)
    rw [g1,hn.1] at this
    cases this
  ·rcases List.mem_cons.1 h' with g' | g'
   ·injection g' with g3 g4
    have:=mem_iff.2 (keysOf_mem.2 ⟨x,g⟩)
    rw [g3,hn.1] at this
    cases this
   ·exact nodup_one hn.2 g g'
open Classical in
theorem CallH.frz {f:FuncId} {args:List AV} {pre post:List (Nat × AV)} {r:AV} (k:Nat) (hn:nodup (keysOf post) = true) (h:CallH P f args pre r post):CallH P f args pre r (frzL k post):=by
 refine ⟨h.enter,fun c O vs hG hO hX hl hv hH hM => ?_⟩
 refine (h.calls c O vs hG hO hX hl hv hH hM).mono ?_
 rintro e w' ⟨v,ν',O',rfl,PP⟩
 have far:∀ q q' x x',(q,x) ∈ frzL k post → (q',x') ∈ frzL k post → q ≠ q' → ∀ b,hold x (ν' q) = some b → hold x' (ν' q') ≠ some b:=by
  intro q q' x x' h1 h2 hne b hb
  obtain ⟨y,hy,e1⟩:=frzL_mem h1
  obtain ⟨y',hy',e2⟩:=frzL_mem h2
  have g1:hold x (ν' q) = hold y (ν' q):=by rcases e1 with ⟨_,rfl⟩ | ⟨_,rfl⟩ <;> first | exact frz1_hold | rfl
  have g2:hold x' (ν' q') = hold y' (ν' q'):=by rcases e2 with ⟨_,rfl⟩ | ⟨_,rfl⟩ <;> first | exact frz1_hold | rfl
  rw [g2]
  exact PP.heap.far q q' y y' hy hy' hne b (g1 ▸ hb)
 by_cases hk:∃ T l g,(k,AV.ow true T l) ∈ post ∧ (ν' k).ownBlock = some g
 ·obtain ⟨T,l,g,hm,hg⟩:=hk
  obtain ⟨sz,xs,r1,r2,r3,r4,r5⟩:=PP.heap.rep k _ hm
  have hOg:O' g = some 0:=r5 g hg
  have ok1:∀ b off,okO c w' O' b off → okO c w' (O'.set g (l.length * sz)) b off:=by
   intro b off hc
   refine ⟨hc.1,fun m hm => ?_,hc.2.2⟩
   by_cases hcb:b = g
   ·subst hcb
    exact absurd (hc.2.1 0 hOg) (Nat.not_lt_zero _)
   ·rw [Own.set_ne _ hcb] at hm
    exact hc.2.1 m hm
  refine ⟨v,ν',O'.set g (l.length * sz),rfl,⟨PP.keeps,fun b m hb => ?_,fun b off hb => ⟨(PP.st b off hb).1,ok1 b off (PP.st b off hb).2⟩,PP.same,PP.rep.mono (fun _ _ _ => rfl) ok1,⟨fun q x hx => ?_,far⟩⟩⟩
  ·by_cases hcb:b = g
   ·subst hcb
    exact PP.own b 0 hOg
   ·rw [Own.set_ne _ hcb] at hb
    exact PP.own b m hb
  ·obtain ⟨y,hy,e1⟩:=frzL_mem hx
   rcases e1 with ⟨rfl,rfl⟩ | ⟨hne,rfl⟩
   ·obtain rfl:=nodup_one hn hy hm
    refine ⟨sz,xs,r1,r2,r3,fun i x hx => Cs.mono (fun _ _ _ => rfl) ok1 (r4 i x hx),fun b hb => ?_⟩
    rw [hg] at hb
    obtain rfl:=Option.some.inj hb
    rw [Own.set_same]
    rfl
   ·refine (PP.heap.rep q _ hy).world (fun _ _ _ => rfl) ok1 fun b hb => ⟨rfl,Own.set_ne _ ?_⟩
    rintro rfl
    exact PP.heap.far q k _ _ hy hm hne b hb hg
 ·refine ⟨v,ν',O',rfl,⟨PP.keeps,PP.own,PP.st,PP.same,PP.rep,⟨fun q x hx => ?_,far⟩⟩⟩
  obtain ⟨y,hy,e1⟩:=frzL_mem hx
  rcases e1 with ⟨rfl,rfl⟩ | ⟨hne,rfl⟩
  ·cases y with
   | ow m T l =>
    obtain ⟨sz,xs,r1,r2,r3,r4,r5⟩:=PP.heap.rep q _ hy
    cases m with
    | false => exact ⟨sz,xs,r1,r2,r3,r4,r5⟩
    | true => exact ⟨sz,xs,r1,r2,r3,r4,fun b hb => absurd ⟨T,l,b,hy,hb⟩ hk⟩
   | _ => exact PP.heap.rep q _ hy
  ·exact PP.heap.rep q _ hy
end
end Go.Rh

namespace Go.Rh
open Go.RowKit
variable [MemFact]

/-- The package's variable holds what is said. -/
def GlobIs (w:World):Prop:=∀ g q,MemFact.fact = some (g,q) → ∃ v,w.cell? ⟨g,0,none⟩ = some v ∧ q v
section
variable {P:Program}
theorem rep_toV {w:World} {ok:Nat → Nat → Prop} {x:AV} {v:Value} (h:x.toV = some v) (ha:okFlat x = true):Rep w ok x v:=by
 cases x with
 | val u =>
  simp only [AV.toV,Option.some.injEq] at h
  subst h
  exact .val u ha
 | agg l =>
  simp only [AV.toV,Option.map_eq_some_iff] at h
  obtain ⟨vs,h1,rfl⟩:=h
  have:=valsOf_eq h1
  subst this
  refine .agg _ _ (allFlat_cs ok w vs fun u hu => ?_)
  simp only [okFlat,List.all_eq_true] at ha
  exact ha (.val u) (List.mem_map.2 ⟨u,hu,rfl⟩)
 | _ => cases h
/-! ### What is handed in and out -/
def resVs:List AV → Option (List Value)
 | [] => some []
 | x :: l => x.toV.bind fun v => bif okFlat x then (resVs l).map (v :: ·) else none
def resV:AV → Option Value
 | .tup l => (resVs l).map fun vs => .tuple vs.toArray
 | x => bif okFlat x then x.toV else none
theorem rep_resVs {w:World} {ok:Nat → Nat → Prop}:∀ {l:List AV} {vs:List Value},resVs l = some vs → vs.length = l.length ∧ ∀ (i:Nat) (x:AV) (v:Value),l[i]? = some x → vs[i]? = some v → Rep w ok x v
 | [],vs,h => by
  simp only [resVs,Option.some.injEq] at h
  subst h
  exact ⟨rfl,fun i x v hx => by simp at hx⟩
 | y :: l,vs,h => by
  simp only [resVs] at h
  obtain ⟨u,h1,h2⟩:=Option.bind_eq_some_iff.1 h
  obtain ⟨h3,h4⟩:=plain_of h2
  obtain ⟨us,h5,rfl⟩:=Option.map_eq_some_iff.1 h4
  obtain ⟨k1,k2⟩:=rep_resVs h5
  refine ⟨by simpa using k1,fun i x v hx hv => ?_⟩
  cases i with
  | zero =>
   simp only [List.getElem?_cons_zero,Option.some.injEq] at hx hv
   subst hx hv
   exact rep_toV h1 h3
  | succ i => exact k2 i x v (by simpa using hx) (by simpa using hv)
theorem rep_resV {w:World} {ok:Nat → Nat → Prop} {x:AV} {v:Value} (h:resV x = some v):Rep w ok x v:=by
 cases x with
 | tup l =>
  simp only [resV,Option.map_eq_some_iff] at h
  obtain ⟨vs,h1,rfl⟩:=h
  obtain ⟨k1,k2⟩:=rep_resVs h1
  exact .tup l vs k1 k2
 | val u =>
  obtain ⟨h1,h2⟩:=plain_of h
  exact rep_toV h2 h1
 | agg l =>
  obtain ⟨h1,h2⟩:=plain_of h
  exact rep_toV h2 h1
 | _ => simp [resV,okFlat] at h
/-- What the arguments are. -/
inductive Args (w : World) (ok : Nat → Nat → Prop) : List AV → List Value → Prop
 | nil:Args w ok [] []
 | cons {x:AV} {v:Value} {l:List AV} {vs:List Value} (h:Rep w ok x v) (t:Args w ok l vs):Args w ok (x :: l) (v :: vs)
theorem args_of {w:World} {ok:Nat → Nat → Prop}:∀ {l:List AV} {vs:List Value},vs.length = l.length → (∀ (i:Nat) (x:AV) (v:Value),l[i]? = some x → vs[i]? = some v → Rep w ok x v) → Args w ok l vs
 | [],[],_,_ => .nil
 | [],v :: vs,h,_ => by simp at h
 | x :: l,[],h,_ => by simp at h
 | x :: l,v :: vs,h,k => .cons (k 0 x v rfl rfl) (args_of (by simpa using h) fun i x v hx hv => k (i + 1) x v (by simpa using hx) (by simpa using hv))
theorem Args.get {w:World} {ok:Nat → Nat → Prop} {l:List AV} {vs:List Value} (h:Args w ok l vs):vs.length = l.length ∧ ∀ (i:Nat) (x:AV) (v:Value),l[i]? = some x → vs[i]? = some v → Rep w ok x v:=by
 induction h with
 | nil => exact ⟨rfl,fun i x v hx => by simp at hx⟩
 | cons h t ih =>
  refine ⟨by simp [ih.1],fun i x v hx hv => ?_⟩
  cases i with
  | zero =>
   simp only [List.getElem?_cons_zero,Option.some.injEq] at hx hv
   subst hx hv
   exact h
  | succ i => exact ih.2 i x v (by simpa using hx) (by simpa using hv)
theorem callOk_res {f : FuncId} {fn : Func} {c : Code} (hf : P.funcs[f]? = some fn) (hb : fn.body = some c) (hn : (fn.name == "runtime.NumGoroutine") = false) {args : List AV} {r : AV} (hp : args.all AV.kf = true)
  (h:∀ (w:World) (ok:Nat → Nat → Prop) (vs:List Value),(∀ b o,ok b o → b < w.heap.size) → Args w ok args vs → GlobIs w → Calls P f vs.toArray w fun e w' => ∃ v,e = .returned v ∧ Rep w' (fun b o => ok b o ∨ (w.heap.size ≤ b ∧ b < w'.heap.size)) r v ∧ Below w.heap.size w w'):CallOk P f args r:=by
 refine ⟨callFunc_ok hf hb hn,fun c O vs hG hO hX hl hv hH hM => ?_⟩
 refine (h c.w c.G vs (fun b o hb => (hG b o hb).1) (args_of hl fun i x v hx hvv => (hv i x v hx hvv).rep (List.all_eq_true.1 hp x (List.mem_of_getElem? hx))) (fun g v hf => (hM g v hf).2.2.2)).mono ?_
 rintro e w' ⟨v,rfl,hr,hb⟩
 have hold:∀ b off,c.G b off → okO c w' O b off:=fun b off hk => ⟨Nat.lt_of_lt_of_le (hG b off hk).1 hb.size,(hG b off hk).2.1,fun _ => hk⟩
 refine ⟨v,c.V,O,rfl,⟨hb.os,hb.tape,hb.output,hb.size,fun b ho => hb.block b ho.1⟩,fun b m hm => ⟨fun ho => ho.2 (hO b m hm).1,Nat.lt_of_lt_of_le (hO b m hm).2 hb.size⟩,fun b off hk => ⟨cell_same (hb.block b (hG b off hk).1),hold b off hk⟩,fun k x hx => rfl,.imm (Rep.mono (fun _ _ _ => rfl) (fun b off hk => ?_) hr),⟨fun k x hx => (by cases hx),fun k k' x x' h1 => (by cases h1)⟩⟩
 rcases hk with hk | ⟨h1,h2⟩
 ·exact hold b off hk
 ·refine ⟨h2,fun m hm => ?_,fun ho => ?_⟩
  ·have:=(hO b m hm).2
   omega
  ·have:=ho.1
   omega
end

section
variable {P:Program}
/-- A contract by other means; its result is a new row of the call's own. -/
theorem callOk_own {f : FuncId} {fn : Func} {c : Code} (hf : P.funcs[f]? = some fn) (hb : fn.body = some c) (hn : (fn.name == "runtime.NumGoroutine") = false) {args : List AV} {m : Bool} {T : Nat} {l : List AV} (hp : args.all AV.kf = true)
  (h:∀ (w:World) (ok:Nat → Nat → Prop) (vs:List Value),(∀ b o,ok b o → b < w.heap.size) → Args w ok args vs → GlobIs w → Calls P f vs.toArray w fun e w' => ∃ v,e = .returned v ∧ (∃ sz xs,w'.ownsRow w.heap.size T sz v l.length xs ∧ 0 < sz ∧ (P.info? T).map (·.size) = some sz ∧ ∀ (ok':Nat → Nat → Prop) (i:Nat) (x:AV),l[i]? = some x → Cs w' ok' x ((xs.drop (i * sz)).take sz)) ∧ Below w.heap.size w w'):CallH P f args [] (.row 500000) [(500000,.ow m T l)]:=by
 refine ⟨callFunc_ok hf hb hn,fun c O vs hG hO hX hl hv hH hM => ?_⟩
 refine (h c.w c.G vs (fun b o hb => (hG b o hb).1) (args_of hl fun i x v hx hvv => (hv i x v hx hvv).rep (List.all_eq_true.1 hp x (List.mem_of_getElem? hx))) (fun g v hf => (hM g v hf).2.2.2)).mono ?_
 rintro e w' ⟨v,rfl,⟨sz,xs,h1,h2,h3,h4⟩,hb⟩
 let q:=bif m then 0 else l.length * sz
 let O':Own:=match v.ownBlock with | some g => O.set g q | none => O
 have hO1:∀ g,v.ownBlock = some g → O' = O.set g q:=fun g hg => by simp only [O',hg]
 have hO2:∀ b,v.ownBlock ≠ some b → O' b = O b:=by
  intro b hb
  cases hg:v.ownBlock with
  | none => simp only [O',hg]
  | some g =>
   rw [hO1 g hg,Own.set_ne]
   rintro rfl
   exact hb hg
 have hnew:∀ b,v.ownBlock = some b → c.w.heap.size ≤ b ∧ b < w'.heap.size:=fun b hb => h1.lt b hb
 have hold:∀ b off,c.G b off → okO c w' O' b off:=fun b off hk => ⟨Nat.lt_of_lt_of_le (hG b off hk).1 hb.size,fun r hr => by
  rw [hO2 b (fun hbv => absurd (hnew b hbv).1 (Nat.not_le_of_lt (hG b off hk).1))] at hr
  exact (hG b off hk).2.1 r hr,fun _ => hk⟩
 have hsl:∃ A n c,v = .slice A n c:=by
  rcases h1.2 with ⟨rfl,_⟩ | ⟨g,cap,cur,rfl,_⟩
  ·exact ⟨_,_,_,rfl⟩
  ·exact ⟨_,_,_,rfl⟩
 obtain ⟨A,n,cc,rfl⟩:=hsl
 refine ⟨_,Val c.V 500000 (.slice A n cc),O',rfl,⟨hb.os,hb.tape,hb.output,hb.size,fun b ho => hb.block b ho.1⟩,fun b r hr => ?_,fun b off hk => ⟨cell_same (hb.block b (hG b off hk).1),hold b off hk⟩,fun k x hx => (by cases hx),.row 500000 _ _ _ (Val.same _ _ _),⟨fun k x hx => ?_,fun k k' x x' g1 g2 hne => ?_⟩⟩
 ·by_cases hbv:(Value.slice A n cc).ownBlock = some b
  ·have:=hnew b hbv
   exact ⟨fun ho => absurd ho.1 (Nat.not_lt_of_le this.1),this.2⟩
  ·rw [hO2 b hbv] at hr
   exact ⟨fun ho => ho.2 (hO b r hr).1,Nat.lt_of_lt_of_le (hO b r hr).2 hb.size⟩
 ·simp only [List.mem_singleton,Prod.mk.injEq] at hx
  obtain ⟨rfl,rfl⟩:=hx
  rw [Val.same]
  refine ⟨sz,xs,⟨h1.1,?_⟩,h2,h3,h4 _,fun b hbv => by rw [hO1 b hbv,Own.set_same]⟩
  rcases h1.2 with hn0 | ⟨g,cap,cur,hvg,_,rest⟩
  ·exact .inl hn0
  ·exact .inr ⟨g,cap,cur,hvg,Nat.zero_le _,rest⟩
 ·simp only [List.mem_singleton,Prod.mk.injEq] at g1 g2
  exact absurd (g1.1.trans g2.1.symm) hne
end
/-! ### Lists -/
abbrev vi (x:Int):AV:=.val (.int .i64 x)
abbrev vb (x:Bool):AV:=.val (.bool x)
def iI (k:IntKind) (xs:List Int):List AV:=xs.map fun z => .val (.int k z)
def iBo (xs:List Bool):List AV:=xs.map fun z => .val (.bool z)
def iL {α:Type} (f:List α → List AV) (xs:List (List α)):List AV:=xs.map fun z => .sl (f z)
theorem get_of {α:Type} {f:α → AV} {xs:List α} {d:α} {i:Int} (h0:0 ≤ i) (h1:i < (xs.length:Int)):0 ≤ i ∧ (xs.map f)[i.toNat]? = some (f (xs.getD i.toNat d)):=by
 have h:i.toNat < xs.length:=by omega
 refine ⟨h0,?_⟩
 rw [List.getElem?_map,List.getD_eq_getElem?_getD,List.getElem?_eq_getElem h]
 rfl
theorem sub_of {α:Type} {f:α → AV} {k:Nat} (hk:∀ x,(f x).cnt = k) {xs:List α} {a b:Int} (h0:0 ≤ a) (h1:a ≤ b) (h2:b ≤ (xs.length:Int)):SubIs k (xs.map f) a b (((xs.take b.toNat).drop a.toNat).map f) :=
 ⟨h0,h1,by simpa using h2,by rw [List.map_drop,List.map_take],fun x hx => by
  obtain ⟨z,_,rfl⟩:=List.mem_map.1 hx
  exact hk z⟩
theorem sub_take {α:Type} {f:α → AV} {k:Nat} (hk:∀ x,(f x).cnt = k) {xs:List α} {b:Int} (h1:0 ≤ b) (h2:b ≤ (xs.length:Int)):SubIs k (xs.map f) 0 b ((xs.take b.toNat).map f):=sub_of hk (Int.le_refl 0) h1 h2
theorem app_of {α:Type} {f:α → AV} {k b N:Nat} (hk:∀ x,(f x).cnt = k) (hN:N * b ≤ 140737488355328) {xs ys:List α} (h:xs.length + ys.length ≤ N):AppIs k b (xs.map f) (ys.map f) ((xs ++ ys).map f) :=
 ⟨by rw [List.map_append],fun x hx => by
  obtain ⟨z,_,rfl⟩:=List.mem_map.1 hx
  exact hk z,by
  rw [List.length_map,List.length_append]
  exact Nat.le_trans (Nat.mul_le_mul_right b h) hN⟩

theorem set_of {α:Type} {f:α → AV} {xs:List α} {d x:α} {i:Int} (h0:0 ≤ i) (h1:i < (xs.length:Int)):(xs.map f)[i.toNat]? = some (f (xs.getD i.toNat d)) ∧ (xs.set i.toNat x).map f = (xs.map f).set i.toNat (f x) :=
 ⟨(get_of h0 h1).2,by rw [List.map_set]⟩
theorem lt_of {α:Type} {f:α → AV} {xs:List α} {i:Int} (h0:0 ≤ i) (h1:i < (xs.length:Int)):0 ≤ i ∧ i.toNat < (xs.map f).length :=
 ⟨h0,by rw [List.length_map]; omega⟩
theorem law_calls {P:Program} {f:FuncId} {args:List AV} {b:Bool} (h:CallOk P f args (.val (.bool b))) {w:World} {vs:List Value} (ha:Args w (fun b _ => b < w.heap.size) args vs) (hM:GlobIs w:=by first | (intro g v h; cases h; done) | assumption):Calls P f vs.toArray w fun e w' => e = .returned (.bool b) ∧ Below w.heap.size w w':=by
 refine (h.calls ⟨w,fun b _ => b < w.heap.size,fun _ => False,fun _ => undef⟩ (fun _ => none) vs (fun b off hb => ⟨hb,fun m hm => (by cases hm),fun _ => hb⟩) (fun b m hm => (by cases hm)) (fun b hb => hb.elim) ha.get.1 (fun i x v hx hv => .imm (ha.get.2 i x v hx hv)) ⟨fun k x hx => (by cases hx),fun k k' x x' h1 => (by cases h1)⟩ (fun g v hf => by
  obtain ⟨u,h1,h3⟩:=hM g v hf
  have h2:g < w.heap.size:=by
   unfold World.cell? at h1
   split at h1
   ·rename_i hb
    exact (Array.getElem?_eq_some_iff.1 hb).1
   ·cases h1
  exact ⟨h2,fun h => h,h2,u,h1,h3⟩)).mono ?_
 rintro e w' ⟨v,ν',O',rfl,PP⟩
 obtain ⟨rfl,_⟩:=rep_val (val_inv PP.rep)
 exact ⟨rfl,PP.keeps.below (fun _ h => h)⟩
theorem ite_ {α:Type} {p:Prop} [Decidable p] {x y:Option α} {r:α} (h:(if p then x else y) = some r):(p ∧ x = some r) ∨ (¬ p ∧ y = some r):=by
 by_cases c:p
 ·rw [if_pos c] at h
  exact .inl ⟨c,h⟩
 ·rw [if_neg c] at h
  exact .inr ⟨c,h⟩
theorem ip_ {α:Type} {p:Prop} [Decidable p] {x:Option α} {r:α} (h:(if p then x else none) = some r):p ∧ x = some r:=by
 by_cases c:p
 ·rw [if_pos c] at h
  exact ⟨c,h⟩
 ·rw [if_neg c] at h
  cases h
theorem in_ {α:Type} {p:Prop} [Decidable p] {x:Option α} {r:α} (h:(if p then none else x) = some r):¬ p ∧ x = some r:=by
 by_cases c:p
 ·rw [if_pos c] at h
  cases h
 ·rw [if_neg c] at h
  exact ⟨c,h⟩
theorem pr2_ {α β:Type} {a c:α} {b d:β} (h:some (a,b) = some (c,d)):a = c ∧ b = d:=by
 injection h with h
 injection h with h1 h2
 exact ⟨h1,h2⟩
theorem pr3_ {α β γ:Type} {a c:α} {b d:β} {x y:γ} (h:some (a,b,x) = some (c,d,y)):a = c ∧ b = d ∧ x = y:=by
 injection h with h
 injection h with h1 h2
 injection h2 with h2 h3
 exact ⟨h1,h2,h3⟩
theorem pr4_ {α β γ δ:Type} {a c:α} {b d:β} {x y:γ} {u v:δ} (h:some (a,b,x,u) = some (c,d,y,v)):a = c ∧ b = d ∧ x = y ∧ u = v:=by
 injection h with h
 injection h with h1 h2
 injection h2 with h2 h3
 injection h3 with h3 h4
 exact ⟨h1,h2,h3,h4⟩
theorem bd_ {α β:Type} {x:Option α} {f:α → Option β} {r:β} (h:x.bind f = some r):∃ a,x = some a ∧ f a = some r:=Option.bind_eq_some_iff.1 h

/-! ### Operators -/
section
variable {P:Program} {t:TypeId} {x y:Operand} {k:IntKind} {a b:Int} {v:Bool}
theorem int_eql (h:(a == b) = v):BinIs P .eql t x y (.int k a) (.int k b) (.bool v):=by
 intro w
 subst h
 simp [go_sem]
theorem int_neq (h:(!(a == b)) = v):BinIs P .neq t x y (.int k a) (.int k b) (.bool v):=by
 intro w
 subst h
 simp [go_sem]
 rfl
theorem int_lss (h:decide (a < b) = v):BinIs P .lss t x y (.int k a) (.int k b) (.bool v):=by
 intro w
 subst h
 simp [go_sem]
theorem int_leq (h:decide (a ≤ b) = v):BinIs P .leq t x y (.int k a) (.int k b) (.bool v):=by
 intro w
 subst h
 simp [go_sem]
theorem int_gtr (h:decide (a > b) = v):BinIs P .gtr t x y (.int k a) (.int k b) (.bool v):=by
 intro w
 subst h
 simp [go_sem]
theorem int_geq (h:decide (a ≥ b) = v):BinIs P .geq t x y (.int k a) (.int k b) (.bool v):=by
 intro w
 subst h
 simp [go_sem]
theorem int_add {c:Int} (h:IntKind.wrap k (a + b) = c):BinIs P .add t x y (.int k a) (.int k b) (.int k c):=by
 intro w
 subst h
 simp [go_sem,binOp,eqGuard]
theorem int_sub {c:Int} (h:IntKind.wrap k (a - b) = c):BinIs P .sub t x y (.int k a) (.int k b) (.int k c):=by
 intro w
 subst h
 simp [go_sem,binOp,eqGuard]
theorem u64_add0 {x:Int}:IntKind.wrap .u64 (x + IntKind.wrap .u64 0) = IntKind.wrap .u64 x:=by
 have:IntKind.wrap .u64 0 = 0:=by decide
 rw [this,Int.add_zero]
theorem int_mul {c:Int} (h:IntKind.wrap k (a * b) = c):BinIs P .mul t x y (.int k a) (.int k b) (.int k c):=by
 intro w
 subst h
 simp [go_sem,binOp,eqGuard]
theorem int_shr {k':IntKind} {c:Int} (h0:0 ≤ b) (e:a / 2 ^ min b.toNat k.bits = c):BinIs P .shr t x y (.int k a) (.int k' b) (.int k c):=by
 intro w
 subst e
 simp [go_sem,binOp,eqGuard,h0]
theorem int_and {c:Int} (e:Go.bits .and k a b = c):BinIs P .and t x y (.int k a) (.int k b) (.int k c):=by
 intro w
 subst e
 simp [go_sem,binOp,eqGuard]
theorem nbeq_t (h:¬ a = b):(!(a == b)) = true:=by simp [h]
theorem nbeq_f (h:a = b):(!(a == b)) = false:=by simp [h]
theorem nbb_t {a b:Bool} (h:¬ a = b):(!(a == b)) = true:=by simp [h]
theorem nbb_f {a b:Bool} (h:a = b):(!(a == b)) = false:=by simp [h]
theorem bool_neq {a b:Bool} (hu:P.underlying t = some .bool) (h:(!(a == b)) = v):BinIs P .neq t x y (.bool a) (.bool b) (.bool v):=by
 intro w
 subst h
 simp [go_sem,hu]
theorem int_rem {c:Int} (h:b ≠ 0) (e:a.tmod b = c):BinIs P .rem t x y (.int k a) (.int k b) (.int k c):=by
 intro w
 subst e
 simp [go_sem,binOp,Op.intDiv,h,eqGuard]
end
/-! ### Texts -/
theorem conv_int {P:Program} {s t:TypeId} {k k':IntKind} {a:Int} (hs:(P.underlying s).isSome = true) (hu:P.underlying t = some (.int k')):ConvIs P s t (.int k a) (.int k' (IntKind.wrap k' a)):=by
 intro w
 have hk:P.intKind t = k':=by simp [Program.intKind,hu]
 have:=run_convert_int (P:=P) (w:=w) s t k a hs (by rw [hk]; exact hu)
 rw [hk] at this
 exact this
end Go.Rh
