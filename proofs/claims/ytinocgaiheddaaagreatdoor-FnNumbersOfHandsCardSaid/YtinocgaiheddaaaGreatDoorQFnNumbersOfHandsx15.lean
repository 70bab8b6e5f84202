/- The reflected proofs, part 2. -/
import Derived.Test.YtinocgaiheddaaaGreatDoorQFnNumbersOfHandsx14
namespace Go.Proofs.YtinocgaiheddaaaGreatDoor.QFnNumbersOfHands
open Go.RowKit Go.Rh Go.Proofs.YtinocgaiheddaaaGreatDoorW.PrintWords Go.Proofs.YtinocgaiheddaaaGreatDoorW.PrintLast Go.Proofs.YtinocgaiheddaaaGreatDoorW.PrintMore
set_option linter.unusedVariables false
set_option linter.unusedSimpArgs false
def hn77:Hint:=⟨[(7,[49]),(8,[1000000]),(17,[1000000]),(22,[1000000]),(24,[1000000]),(30,[1000000]),(33,[1000000]),(36,[1000000]),(38,[1000000]),(39,[1000000])],[]⟩
def o77 (r:List (S43)):List AV:=[.sl (iS43 r)]
def p77 (r:List (S43)):List (Nat × AV):=[]
def q77_l0 (r:List (S43)) (k:Nat) (L:List (Nat × AV)):Prop:=∃ (x0:List (S43)) (y0:Int) (x5:Int) (x6:Int),L = [(0,.row 1000000),(1,.fn 78 [.ptr (.fn 48 [.ptr (vi y0)])]),(5,vi x5),(6,vi x6),(1000000,.ow true 43 (iS43 x0))] ∧ g77_impl_Tile.l0 k x0 y0 x5 x6 = some r
theorem q77_l0_mk {r:List (S43)} {k:Nat} {x0:List (S43)} {y0:Int} {x5:Int} {x6:Int} (h:g77_impl_Tile.l0 k x0 y0 x5 x6 = some r):q77_l0 r k [(0,.row 1000000),(1,.fn 78 [.ptr (.fn 48 [.ptr (vi y0)])]),(5,vi x5),(6,vi x6),(1000000,.ow true 43 (iS43 x0))]:=⟨x0,y0,x5,x6,rfl,h⟩
set_option maxRecDepth 100000 in
theorem at77_l0 {r:List (S43)}:∀ k L,q77_l0 r k L → AtP Tryz.prog 42 (bodyOf Tryz.f77) (KR Tryz.prog Tryz.f77.results.toList (o77 r) (p77 r)) [true,true,true,false,true,false] [] (lookA L) :=
 at_loop (by kernel_rfl) (fun _ => by kernel_rfl) (q77_l0 r) (by
  rintro k _ ⟨x0,y0,x5,x6,rfl,h⟩
  cases k with
  | zero => simp [g77_impl_Tile.l0] at h
  | succ k =>
   rw [g77_impl_Tile.l0] at h
   rcases ite_ h with ⟨g1,h2⟩ | ⟨g1,h2⟩
   ·obtain ⟨g3,h4⟩:=ip_ h2
    obtain ⟨b2,c5,h6⟩:=bd_ h4
    rcases ite_ h6 with ⟨g7,h8⟩ | ⟨g7,h8⟩
    ·subst g7
     exact leafBack (hn:=hn77) 20 [.val (.int .i64 (x0.length:Int)),.val (.bool true),.go,.elem (.agg [vi ((rd_T43 x0 x6).f0),vi ((rd_T43 x0 x6).f1)]),.call (vb true),.val (.int .i64 (wrap64 (x6 + 1)))] [] (q77_l0_mk h8) (Nat.lt_succ_self k) (And.intro (And.intro (iS43_len (xs:=x0)) (int_lss (P:=Tryz.prog) (t:=3) (k:=.i64) (x:=(.tmp 16)) (y:=(.tmp 18)) (a:=x6) (b:=(x0.length:Int)) (v:=true) (decide_eq_true g1))) (And.intro (And.intro (iS43_lt (xs:=x0) (i:=x6) g3 g1) (And.right (iS43_rd (xs:=x0) (i:=x6) g3 g1))) (And.intro (ad_78 c5) (int_add (P:=Tryz.prog) (t:=3) (k:=.i64) (x:=(.tmp 20)) (y:=(.const (.int .i64 1))) (a:=x6) (b:=1) (c:=(wrap64 (x6 + 1))) (IntWalk.i64_left _))))) (by kernel_rfl)
    ·obtain rfl:=Bool.eq_false_iff.2 g7
     obtain ⟨g9,h10⟩:=ip_ h8
     obtain ⟨g11,h12⟩:=ip_ h10
     exact leafBack (hn:=hn77) 23 [.val (.int .i64 (x0.length:Int)),.val (.bool true),.go,.elem (.agg [vi ((rd_T43 x0 x6).f0),vi ((rd_T43 x0 x6).f1)]),.call (vb false),.go,.elem (.agg [vi ((rd_T43 x0 x5).f0),vi ((rd_T43 x0 x5).f1)]),.elem (.ow true 43 (iS43 (x0.set ((x5:Int).toNat) (⟨(rd_T43 x0 x6).f0,(rd_T43 x0 x6).f1⟩ : S43)))),.val (.int .i64 (wrap64 (x5 + 1))),.val (.int .i64 (wrap64 (x6 + 1)))] [] (q77_l0_mk h12) (Nat.lt_succ_self k) (And.intro (And.intro (iS43_len (xs:=x0)) (int_lss (P:=Tryz.prog) (t:=3) (k:=.i64) (x:=(.tmp 16)) (y:=(.tmp 18)) (a:=x6) (b:=(x0.length:Int)) (v:=true) (decide_eq_true g1))) (And.intro (And.intro (iS43_lt (xs:=x0) (i:=x6) g3 g1) (And.right (iS43_rd (xs:=x0) (i:=x6) g3 g1))) (And.intro (ad_78 c5) (And.intro (And.intro (iS43_lt (xs:=x0) (i:=x5) g9 g11) (iS43_set (xs:=x0) (i:=x5) (x:=(⟨(rd_T43 x0 x6).f0,(rd_T43 x0 x6).f1⟩ : S43)) g9 g11)) (And.intro (int_add (P:=Tryz.prog) (t:=3) (k:=.i64) (x:=(.tmp 34)) (y:=(.const (.int .i64 1))) (a:=x5) (b:=1) (c:=(wrap64 (x5 + 1))) (IntWalk.i64_left _)) (int_add (P:=Tryz.prog) (t:=3) (k:=.i64) (x:=(.tmp 20)) (y:=(.const (.int .i64 1))) (a:=x6) (b:=1) (c:=(wrap64 (x6 + 1))) (IntWalk.i64_left _))))))) (by kernel_rfl)
   ·obtain ⟨g13,h14⟩:=ip_ h2
    obtain ⟨g15,h16⟩:=ip_ h14
    obtain ⟨g17,h18⟩:=ip_ h16
    obtain rfl:=Option.some.inj h18
    exact leafRet (hn:=hn77) 17 [.val (.int .i64 (x0.length:Int)),.val (.bool false),.mut,.elem (.ow true 43 (iS43 (x0.take (x5:Int).toNat ++ List.replicate (x0.length - (x5:Int).toNat) z43))),.fz 1000000,.elem (.sl (iS43 ((x0.take (x5:Int).toNat ++ List.replicate (x0.length - (x5:Int).toNat) z43).take (x5:Int).toNat)))] [] .ret (.inr rfl) (by kernel_rfl) (And.intro (And.intro (iS43_len (xs:=x0)) (int_lss (P:=Tryz.prog) (t:=3) (k:=.i64) (x:=(.tmp 16)) (y:=(.tmp 18)) (a:=x6) (b:=(x0.length:Int)) (v:=false) (decide_eq_false g1))) (And.intro (And.intro (iS43_lt (xs:=x0) (i:=x5) g13 g15) (iS43_clr (xs:=x0) (i:=x5) g13 g15)) (iS43_take (xs:=(x0.take (x5:Int).toNat ++ List.replicate (x0.length - (x5:Int).toNat) z43)) (b:=x5) g13 g17))) (by kernel_rfl))
set_option maxRecDepth 100000 in
theorem ad_77 {k:Nat} {l0:List (S43)} {a1:Int} {r:List (S43)} (h:g77_impl_Tile.f k l0 a1 = some r):CallH Tryz.prog 77 [.row 1000000,.fn 78 [.ptr (.fn 48 [.ptr (vi a1)])]] [(1000000,.ow true 43 (iS43 l0))] (.sl (iS43 r)) []:=by
 unfold g77_impl_Tile.f at h
 refine call_ok (c:=bodyOf Tryz.f77) (rs:=o77 r) (post:=p77 r) Tryz.func77 rfl rfl rfl (by kernel_rfl) ?_
 show AtP Tryz.prog 42 (bodyOf Tryz.f77) (KR Tryz.prog Tryz.f77.results.toList (o77 r) (p77 r)) [] [] (lookA [(0,.row 1000000),(1,.fn 78 [.ptr (.fn 48 [.ptr (vi a1)])]),(1000000,.ow true 43 (iS43 l0))])
 obtain ⟨b1,c1,h2⟩:=bd_ h
 rcases ite_ h2 with ⟨g3,h4⟩ | ⟨g3,h4⟩
 ·obtain rfl:=Option.some.inj h4
  exact leafRet (hn:=hn77) 16 [.goT,.callT (vi b1),.val (.bool true),.fz 1000000] [] .ret (.inr rfl) (by kernel_rfl) (And.intro (ad_73 c1) (int_eql (P:=Tryz.prog) (t:=3) (k:=.i64) (x:=(.tmp 11)) (y:=(.const (.int .i64 (-1)))) (a:=b1) (b:=(-1)) (v:=true) (beq_iff_eq.2 g3))) (by kernel_rfl)
 ·exact leafAt (hn:=hn77) 18 [.goT,.callT (vi b1),.val (.bool false),.val (.int .i64 (wrap64 (b1 + 1)))] [] (at77_l0 _ _ (q77_l0_mk h4)) (And.intro (ad_73 c1) (And.intro (int_eql (P:=Tryz.prog) (t:=3) (k:=.i64) (x:=(.tmp 11)) (y:=(.const (.int .i64 (-1)))) (a:=b1) (b:=(-1)) (v:=false) (beq_false_of_ne g3)) (int_add (P:=Tryz.prog) (t:=3) (k:=.i64) (x:=(.tmp 14)) (y:=(.const (.int .i64 1))) (a:=b1) (b:=1) (c:=(wrap64 (b1 + 1))) (IntWalk.i64_left _)))) (by kernel_rfl)

def g47_impl_kept.f (k:Nat) (l0:List (S43)) (a1:Int):Option (List (S43)):=(impl_sorted.f l0).bind fun b1 => ((g77_impl_Tile.f k b1 a1).bind fun b2 => (some (b2)))

def hn47:Hint:=⟨[(6,[15]),(7,[12])],[]⟩
def o47 (r:List (S43)):List AV:=[.sl (iS43 r)]
def p47 (r:List (S43)):List (Nat × AV):=[]
set_option maxRecDepth 100000 in
theorem ad_47 {k:Nat} {l0:List (S43)} {a1:Int} {r:List (S43)} (h:g47_impl_kept.f k l0 a1 = some r):CallH Tryz.prog 47 [.sl (iS43 l0),.fn 48 [.ptr (vi a1)]] [] (.sl (iS43 r)) []:=by
 unfold g47_impl_kept.f at h
 refine call_ok (c:=bodyOf Tryz.f47) (rs:=o47 r) (post:=p47 r) Tryz.func47 rfl rfl rfl (by kernel_rfl) ?_
 show AtP Tryz.prog 9 (bodyOf Tryz.f47) (KR Tryz.prog Tryz.f47.results.toList (o47 r) (p47 r)) [] [] (lookA [(0,.sl (iS43 l0)),(1,.fn 48 [.ptr (vi a1)])])
 obtain ⟨b1,c1,h2⟩:=bd_ h
 obtain ⟨b2,c3,h4⟩:=bd_ h2
 obtain rfl:=Option.some.inj h4
 exact leafRet (hn:=hn47) 7 [.goT,.fz 12,.callH [] (.row 15) [(15,.ow true 43 (iS43 b1))],.callH [15] (.sl (iS43 b2)) []] [] .ret (.inr rfl) (by kernel_rfl) (And.intro (CallH.ren [(500000,15)] rfl rfl (ad_63 c1)) (CallH.ren [(1000000,15)] rfl rfl (ad_77 c3))) (by kernel_rfl)

def g18_impl_WithNumber.f (k:Nat) (l0:List (S43)) (a1:Int):Option (List (S43) × Bool):=(impl_IsHand.f k l0).bind fun b1 => (if b1 = true then ((impl_isNumber.f a1).bind fun b2 => (if b2 = true then ((g47_impl_kept.f k l0 a1).bind fun b3 => (some (b3,true))) else (some (([] : List (S43)),false)))) else (some (([] : List (S43)),false)))

def hn18:Hint:=⟨[(3,[20]),(15,[20])],[]⟩
def o18 (r:List (S43) × Bool):List AV:=[.sl (iS43 r.1),vb r.2]
def p18 (r:List (S43) × Bool):List (Nat × AV):=[]
set_option maxRecDepth 100000 in
theorem ad_18 {k:Nat} {l0:List (S43)} {a1:Int} {r1:List (S43)} {r2:Bool} (h:g18_impl_WithNumber.f k l0 a1 = some (r1,r2)):CallH Tryz.prog 18 [.sl (iS43 l0),vi a1] [] (.tup [.sl (iS43 r1),vb r2]) []:=by
 unfold g18_impl_WithNumber.f at h
 refine call_ok (c:=bodyOf Tryz.f18) (rs:=o18 (r1,r2)) (post:=p18 (r1,r2)) Tryz.func18 rfl rfl rfl (by kernel_rfl) ?_
 show AtP Tryz.prog 17 (bodyOf Tryz.f18) (KR Tryz.prog Tryz.f18.results.toList (o18 (r1,r2)) (p18 (r1,r2))) [] [] (lookA [(0,.sl (iS43 l0)),(1,vi a1)])
 obtain ⟨b1,c1,h2⟩:=bd_ h
 rcases ite_ h2 with ⟨g3,h4⟩ | ⟨g3,h4⟩
 ·subst g3
  obtain ⟨b2,c5,h6⟩:=bd_ h4
  rcases ite_ h6 with ⟨g7,h8⟩ | ⟨g7,h8⟩
  ·subst g7
   obtain ⟨b3,c9,h10⟩:=bd_ h8
   obtain ⟨rfl,rfl⟩:=pr2_ h10
   exact leafRet (hn:=hn18) 14 [.goT,.call (vb true),.call (vb true),.fz 20,.call (.sl (iS43 b3))] [] .ret (.inr rfl) (by kernel_rfl) (And.intro (And.intro (ad_16 c1) (ad_45 c5)) (ad_47 c9)) (by kernel_rfl)
  ·obtain rfl:=Bool.eq_false_iff.2 g7
   obtain ⟨rfl,rfl⟩:=pr2_ h8
   exact leafRet (hn:=hn18) 13 [.goT,.call (vb true),.call (vb false),.goT] [] .ret (.inr rfl) (by kernel_rfl) (And.intro (ad_16 c1) (ad_45 c5)) (by kernel_rfl)
 ·obtain rfl:=Bool.eq_false_iff.2 g3
  obtain ⟨rfl,rfl⟩:=pr2_ h4
  exact leafRet (hn:=hn18) 13 [.goT,.call (vb false),.goT] [] .ret (.inr rfl) (by kernel_rfl) (ad_16 c1) (by kernel_rfl)

mutual
def laws_FnNumbersOfHands.j0:Nat → List Int → List (S43) → List Int → List (S43) → Bool → List Int → Bool → List Int → ByteArray → Option (Bool)
  | 0,_,_,_,_,_,_,_,_,_ => none
  | k + 1,x1,x5,x6,x7,x8,x11,x12,x15,x19 => if x12 = true then (laws_FnNumbersOfHands.l0 k x1 x5 x6 x7 x8 x11 x15 x19 0 0) else (laws_FnNumbersOfHands.j4 k x1)
def laws_FnNumbersOfHands.l0:Nat → List Int → List (S43) → List Int → List (S43) → Bool → List Int → List Int → ByteArray → Int → Int → Option (Bool)
  | 0,_,_,_,_,_,_,_,_,_,_ => none
  | k + 1,x1,x5,x6,x7,x8,x11,x15,x19,x23,x24 => if x24 ≤ 9 then ((impl_TimesOf.f k x5 x24).bind fun b15 => ((g18_impl_WithNumber.f k x5 x24).bind fun b16 => ((laws_mIn.f k x15 x24).bind fun b17 => (if b17 = true then (laws_FnNumbersOfHands.j1 k x1 x5 x6 x7 x8 x11 x15 x19 x23 x24 b15.1 b15.2 b16.1 b16.2 1) else (laws_FnNumbersOfHands.j1 k x1 x5 x6 x7 x8 x11 x15 x19 x23 x24 b15.1 b15.2 b16.1 b16.2 0))))) else ((impl_ParseHand.f k x19).bind fun b21 => (if x23 = (wrap64 (2 * (x5.length:Int))) then (if b21.2 = true then ((laws_mTiles.f k b21.1 x5).bind fun b22 => (if b22 = true then (laws_FnNumbersOfHands.j4 k x1) else (none))) else (none)) else (none)))
def laws_FnNumbersOfHands.j1:Nat → List Int → List (S43) → List Int → List (S43) → Bool → List Int → List Int → ByteArray → Int → Int → Int → Bool → List (S43) → Bool → Int → Option (Bool)
  | 0,_,_,_,_,_,_,_,_,_,_,_,_,_,_,_ => none
  | k + 1,x1,x5,x6,x7,x8,x11,x15,x19,x23,x24,x25,x26,x27,x28,x29 => if x26 = true then (if x28 = true then (if x25 = (wrap64 ((x27.length:Int) + x29)) then ((laws_mIn.f k x11 x24).bind fun b18 => (if b18 = (decide (x25 > 0)) then (if x29 = 1 then ((laws_mHas.f k x5 x24 x24).bind fun b19 => (if b19 = true then (laws_FnNumbersOfHands.j2 k x1 x5 x6 x7 x8 x11 x15 x19 x23 x24 x25) else (none))) else (laws_FnNumbersOfHands.j2 k x1 x5 x6 x7 x8 x11 x15 x19 x23 x24 x25)) else (none))) else (none)) else (none)) else (none)
def laws_FnNumbersOfHands.j2:Nat → List Int → List (S43) → List Int → List (S43) → Bool → List Int → List Int → ByteArray → Int → Int → Int → Option (Bool)
  | 0,_,_,_,_,_,_,_,_,_,_,_ => none
  | k + 1,x1,x5,x6,x7,x8,x11,x15,x19,x23,x24,x25 => if x8 = true then (if 0 ≤ x24 then (if x24 < (x6.length:Int) then ((impl_TimesOf.f k x7 (rd x6 x24)).bind fun b20 => (if b20.2 = true then (if b20.1 = x25 then (laws_FnNumbersOfHands.j3 k x1 x5 x6 x7 true x11 x15 x19 (wrap64 (x23 + x25)) x24) else (none)) else (none))) else (none)) else (none)) else (laws_FnNumbersOfHands.j3 k x1 x5 x6 x7 false x11 x15 x19 (wrap64 (x23 + x25)) x24)
def laws_FnNumbersOfHands.j3:Nat → List Int → List (S43) → List Int → List (S43) → Bool → List Int → List Int → ByteArray → Int → Int → Option (Bool)
  | 0,_,_,_,_,_,_,_,_,_,_ => none
  | k + 1,x1,x5,x6,x7,x8,x11,x15,x19,x23,x24 => laws_FnNumbersOfHands.l0 k x1 x5 x6 x7 x8 x11 x15 x19 x23 (wrap64 (x24 + 1))
def laws_FnNumbersOfHands.j4:Nat → List Int → Option (Bool)
  | 0,_ => none
  | k + 1,x1 => (spec_DrawWithNumber.f k x1).bind fun b23 => ((g18_impl_WithNumber.f k b23.1 b23.2).bind fun b24 => ((spec_WithNumber.f k b23.1 b23.2).bind fun b25 => ((impl_TimesOf.f k b23.1 b23.2).bind fun b26 => ((spec_TimesOf.f k b23.1 b23.2).bind fun b27 => ((spec_DrawParseHand.f k x1).bind fun b28 => ((impl_ParseHand.f k b28).bind fun b29 => ((spec_ParseHand.f k b28).bind fun b30 => (if b24.2 = b25.2 then ((laws_mTiles.f k b24.1 b25.1).bind fun b31 => (if b31 = true then (if b26.2 = b27.2 then (if b26.1 = b27.1 then (if b29.2 = b30.2 then ((laws_mTiles.f k b29.1 b30.1).bind fun b32 => (if b32 = true then (if b29.2 = true then (if true = b30.2 then ((impl_HandText.f k b29.1).bind fun b33 => (if b33.2 = true then (some ((b33.1.toList == b28.toList))) else (none))) else (none)) else (if false = b30.2 then (some (true)) else (none))) else (none))) else (none)) else (none)) else (none)) else (none))) else (none)))))))))
end
def laws_FnNumbersOfHands.f (k:Nat) (l0:List Int) (l1:List Int):Option (Bool):=(laws_big.f l0 l1).bind fun b1 => (if b1 = true then (some (true)) else ((g5_spec_DrawRenameHand.f k l0).bind fun b2 => ((impl_RenameHand.f k b2.1 b2.2).bind fun b3 => ((spec_RenameHand.f k b2.1 b2.2).bind fun b4 => ((impl_NumbersOf.f k b2.1).bind fun b5 => ((spec_NumbersOf.f k b2.1).bind fun b6 => ((impl_DoublesOf.f k b2.1).bind fun b7 => ((spec_DoublesOf.f k b2.1).bind fun b8 => ((impl_HandText.f k b2.1).bind fun b9 => ((spec_HandText.f k b2.1).bind fun b10 => (if b3.2 = b4.2 then ((laws_mTiles.f k b3.1 b4.1).bind fun b11 => (if b11 = true then (if b5.2 = b6.2 then ((laws_mSame.f k b5.1 b6.1).bind fun b12 => (if b12 = true then (if b7.2 = b8.2 then ((laws_mSame.f k b7.1 b8.1).bind fun b13 => (if b13 = true then (if b9.2 = b10.2 then (if b9.1.toList = b10.1.toList then ((impl_IsHand.f k b2.1).bind fun b14 => (if b5.2 = b14 then (if b7.2 = b5.2 then (if b9.2 = b5.2 then (if b3.2 = true then (if true = b4.2 then (if b5.2 = true then (if true = b6.2 then (if true = b14 then (if b7.2 = true then (if true = b8.2 then (if b9.2 = true then (if true = b10.2 then (laws_FnNumbersOfHands.j0 k l1 b2.1 b2.2 b3.1 true b5.1 true b7.1 b9.1) else (none)) else (if false = b10.2 then (none) else (none))) else (none)) else (if false = b8.2 then (none) else (none))) else (none)) else (none)) else (if false = b6.2 then (if false = b14 then (if b7.2 = false then (if b9.2 = false then (none) else (none)) else (none)) else (none)) else (none))) else (none)) else (if false = b4.2 then (laws_FnNumbersOfHands.j0 k l1 b2.1 b2.2 b3.1 false b5.1 b5.2 b7.1 b9.1) else (none))) else (none)) else (none)) else (none))) else (none)) else (none)) else (none))) else (none)) else (none))) else (none)) else (none))) else (none))))))))))))

def hn3:Hint:=⟨[],[]⟩
def o3 (r:Bool):List AV:=[vb r]
def p3 (r:Bool):List (Nat × AV):=[]
def q3_l0 (r:Bool) (k:Nat) (L:List (Nat × AV)):Prop:=∃ (x1:List Int) (x5:List (S43)) (x6:List Int) (x7:List (S43)) (x8:Bool) (x11:List Int) (x15:List Int) (x19:ByteArray) (x23:Int) (x24:Int),L = [(1,.sl (iI .u8 x1)),(5,.sl (iS43 x5)),(6,.sl (iI .i64 x6)),(7,.sl (iS43 x7)),(8,vb x8),(11,.sl (iI .i64 x11)),(15,.sl (iI .i64 x15)),(19,.val (.string x19)),(23,vi x23),(24,vi x24)] ∧ laws_FnNumbersOfHands.l0 k x1 x5 x6 x7 x8 x11 x15 x19 x23 x24 = some r
theorem q3_l0_mk {r:Bool} {k:Nat} {x1:List Int} {x5:List (S43)} {x6:List Int} {x7:List (S43)} {x8:Bool} {x11:List Int} {x15:List Int} {x19:ByteArray} {x23:Int} {x24:Int} (h:laws_FnNumbersOfHands.l0 k x1 x5 x6 x7 x8 x11 x15 x19 x23 x24 = some r):q3_l0 r k [(1,.sl (iI .u8 x1)),(5,.sl (iS43 x5)),(6,.sl (iI .i64 x6)),(7,.sl (iS43 x7)),(8,vb x8),(11,.sl (iI .i64 x11)),(15,.sl (iI .i64 x15)),(19,.val (.string x19)),(23,vi x23),(24,vi x24)]:=⟨x1,x5,x6,x7,x8,x11,x15,x19,x23,x24,rfl,h⟩
set_option maxRecDepth 100000 in
theorem at3_j4 {r:Bool} {k:Nat} {x1:List Int} (h:laws_FnNumbersOfHands.j4 k x1 = some r):AtP Tryz.prog 342 (bodyOf Tryz.f3) (KR Tryz.prog Tryz.f3.results.toList (o3 r) (p3 r)) [true,true,true,true,true,true,true,true,true,true,true,true,true] [] (lookA [(1,.sl (iI .u8 x1))]):=by
 cases k with
 | zero => simp [laws_FnNumbersOfHands.j4] at h
 | succ k =>
  rw [laws_FnNumbersOfHands.j4] at h
  obtain ⟨⟨b23_1,b23_2⟩,c1,h2⟩:=bd_ h
  try dsimp only at h2
  obtain ⟨⟨b24_1,b24_2⟩,c3,h4⟩:=bd_ h2
  try dsimp only at h4
  obtain ⟨⟨b25_1,b25_2⟩,c5,h6⟩:=bd_ h4
  try dsimp only at h6
  obtain ⟨⟨b26_1,b26_2⟩,c7,h8⟩:=bd_ h6
  try dsimp only at h8
  obtain ⟨⟨b27_1,b27_2⟩,c9,h10⟩:=bd_ h8
  try dsimp only at h10
  obtain ⟨b28,c11,h12⟩:=bd_ h10
  obtain ⟨⟨b29_1,b29_2⟩,c13,h14⟩:=bd_ h12
  try dsimp only at h14
  obtain ⟨⟨b30_1,b30_2⟩,c15,h16⟩:=bd_ h14
  try dsimp only at h16
  obtain ⟨g17,h18⟩:=ip_ h16
  obtain ⟨b31,c19,h20⟩:=bd_ h18
  obtain ⟨g21,h22⟩:=ip_ h20
  subst g21
  obtain ⟨g23,h24⟩:=ip_ h22
  obtain ⟨g25,h26⟩:=ip_ h24
  obtain ⟨g27,h28⟩:=ip_ h26
  obtain ⟨b32,c29,h30⟩:=bd_ h28
  obtain ⟨g31,h32⟩:=ip_ h30
  subst g31
  rcases ite_ h32 with ⟨g33,h34⟩ | ⟨g33,h34⟩
  ·subst g33
   obtain ⟨g35,h36⟩:=ip_ h34
   obtain ⟨⟨b33_1,b33_2⟩,c37,h38⟩:=bd_ h36
   try dsimp only at h38
   obtain ⟨g39,h40⟩:=ip_ h38
   subst g39
   obtain rfl:=Option.some.inj h40
   exact leafRet (hn:=hn3) 44 [.call (.tup [.sl (iS43 b23_1),vi b23_2]),.call (.tup [.sl (iS43 b24_1),vb b24_2]),.call (.tup [.sl (iS43 b25_1),vb b25_2]),.call (.tup [vi b26_1,vb b26_2]),.call (.tup [vi b27_1,vb b27_2]),.call (.val (.string b28)),.call (.tup [.sl (iS43 b29_1),vb true]),.call (.tup [.sl (iS43 b30_1),vb b30_2]),.val (.bool false),.call (vb true),.val (.bool false),.val (.bool false),.val (.bool false),.call (vb true),.call (.tup [.val (.string b33_1),vb true]),.val (.bool (b33_1.toList == b28.toList))] [] .ret (.inr rfl) (by kernel_rfl) (And.intro (ad_22 c1) (And.intro (ad_18 c3) (And.intro (ad_23 c5) (And.intro (ad_17 c7) (And.intro (ad_24 c9) (And.intro (ad_25 c11) (And.intro (ad_21 c13) (And.intro (ad_26 c15) (And.intro (And.intro (bool_neq (P:=Tryz.prog) (t:=4) (x:=(.tmp 300)) (y:=(.tmp 301)) (a:=b24_2) (b:=b25_2) Tryz.underlying4 (v:=false) (nbb_f g17)) (And.intro (ad_14 c19) (And.intro (bool_neq (P:=Tryz.prog) (t:=4) (x:=(.tmp 310)) (y:=(.tmp 311)) (a:=b26_2) (b:=b27_2) Tryz.underlying4 (v:=false) (nbb_f g23)) (And.intro (int_neq (P:=Tryz.prog) (t:=3) (k:=.i64) (x:=(.tmp 315)) (y:=(.tmp 316)) (a:=b26_1) (b:=b27_1) (v:=false) (nbeq_f g25)) (And.intro (bool_neq (P:=Tryz.prog) (t:=4) (x:=(.tmp 320)) (y:=(.tmp 321)) (a:=true) (b:=b30_2) Tryz.underlying4 (v:=false) (nbb_f g35)) (ad_14 c29)))))) (And.intro (ad_12 c37) (str_eql (P:=Tryz.prog) (t:=9) (x:=(.tmp 338)) (y:=(.tmp 339)) (a:=b33_1) (b:=b28) (v:=(b33_1.toList == b28.toList)) rfl))))))))))) (by kernel_rfl)
  ·obtain rfl:=Bool.eq_false_iff.2 g33
   obtain ⟨g41,h42⟩:=ip_ h34
   obtain rfl:=Option.some.inj h42
   exact leafRet (hn:=hn3) 42 [.call (.tup [.sl (iS43 b23_1),vi b23_2]),.call (.tup [.sl (iS43 b24_1),vb b24_2]),.call (.tup [.sl (iS43 b25_1),vb b25_2]),.call (.tup [vi b26_1,vb b26_2]),.call (.tup [vi b27_1,vb b27_2]),.call (.val (.string b28)),.call (.tup [.sl (iS43 b29_1),vb false]),.call (.tup [.sl (iS43 b30_1),vb b30_2]),.val (.bool false),.call (vb true),.val (.bool false),.val (.bool false),.val (.bool false),.call (vb true)] [] .ret (.inr rfl) (by kernel_rfl) (And.intro (ad_22 c1) (And.intro (ad_18 c3) (And.intro (ad_23 c5) (And.intro (ad_17 c7) (And.intro (ad_24 c9) (And.intro (ad_25 c11) (And.intro (ad_21 c13) (And.intro (ad_26 c15) (And.intro (bool_neq (P:=Tryz.prog) (t:=4) (x:=(.tmp 300)) (y:=(.tmp 301)) (a:=b24_2) (b:=b25_2) Tryz.underlying4 (v:=false) (nbb_f g17)) (And.intro (ad_14 c19) (And.intro (bool_neq (P:=Tryz.prog) (t:=4) (x:=(.tmp 310)) (y:=(.tmp 311)) (a:=b26_2) (b:=b27_2) Tryz.underlying4 (v:=false) (nbb_f g23)) (And.intro (int_neq (P:=Tryz.prog) (t:=3) (k:=.i64) (x:=(.tmp 315)) (y:=(.tmp 316)) (a:=b26_1) (b:=b27_1) (v:=false) (nbeq_f g25)) (And.intro (bool_neq (P:=Tryz.prog) (t:=4) (x:=(.tmp 320)) (y:=(.tmp 321)) (a:=false) (b:=b30_2) Tryz.underlying4 (v:=false) (nbb_f g41)) (ad_14 c29)))))))))))))) (by kernel_rfl)
set_option maxRecDepth 100000 in
theorem at3_j3 {r:Bool} {K0:Nat} {k:Nat} {x1:List Int} {x5:List (S43)} {x6:List Int} {x7:List (S43)} {x8:Bool} {x11:List Int} {x15:List Int} {x19:ByteArray} {x23:Int} {x24:Int} (hk0:k < K0) (h:laws_FnNumbersOfHands.j3 k x1 x5 x6 x7 x8 x11 x15 x19 x23 x24 = some r):AtP Tryz.prog 342 (bodyOf Tryz.f3) (KR Tryz.prog Tryz.f3.results.toList (o3 r) (p3 r)) [true,true,true,true,true,true,true,true,true,true,true,true,false,true,false,true,false,true,false,false,true,true] [upto (q3_l0 r) K0] (lookA [(1,.sl (iI .u8 x1)),(5,.sl (iS43 x5)),(6,.sl (iI .i64 x6)),(7,.sl (iS43 x7)),(8,vb x8),(11,.sl (iI .i64 x11)),(15,.sl (iI .i64 x15)),(19,.val (.string x19)),(23,vi x23),(24,vi x24)]):=by
 cases k with
 | zero => simp [laws_FnNumbersOfHands.j3] at h
 | succ k =>
  rw [laws_FnNumbersOfHands.j3] at h
  have hk0:=Nat.lt_of_succ_lt hk0
  exact leafBack (hn:=hn3) 1 [.val (.int .i64 (wrap64 (x24 + 1)))] [] (q3_l0_mk h) hk0 (int_add (P:=Tryz.prog) (t:=3) (k:=.i64) (x:=(.tmp 168)) (y:=(.const (.int .i64 1))) (a:=x24) (b:=1) (c:=(wrap64 (x24 + 1))) (IntWalk.i64_left _)) (by kernel_rfl)
set_option maxRecDepth 100000 in
theorem at3_j2 {r:Bool} {K0:Nat} {k:Nat} {x1:List Int} {x5:List (S43)} {x6:List Int} {x7:List (S43)} {x8:Bool} {x11:List Int} {x15:List Int} {x19:ByteArray} {x23:Int} {x24:Int} {x25:Int} (hk0:k < K0) (h:laws_FnNumbersOfHands.j2 k x1 x5 x6 x7 x8 x11 x15 x19 x23 x24 x25 = some r):AtP Tryz.prog 342 (bodyOf Tryz.f3) (KR Tryz.prog Tryz.f3.results.toList (o3 r) (p3 r)) [true,true,true,true,true,true,true,true,true,true,true,true,false,true,false,true,false,true,false,false,true,false,false,true,true,true,true,true] [upto (q3_l0 r) K0] (lookA [(1,.sl (iI .u8 x1)),(5,.sl (iS43 x5)),(6,.sl (iI .i64 x6)),(7,.sl (iS43 x7)),(8,vb x8),(11,.sl (iI .i64 x11)),(15,.sl (iI .i64 x15)),(19,.val (.string x19)),(23,vi x23),(24,vi x24),(25,vi x25)]):=by
 cases k with
 | zero => simp [laws_FnNumbersOfHands.j2] at h
 | succ k =>
  rw [laws_FnNumbersOfHands.j2] at h
  have hk0:=Nat.lt_of_succ_lt hk0
  rcases ite_ h with ⟨g1,h2⟩ | ⟨g1,h2⟩
  ·subst g1
   obtain ⟨g3,h4⟩:=ip_ h2
   obtain ⟨g5,h6⟩:=ip_ h4
   obtain ⟨⟨b20_1,b20_2⟩,c7,h8⟩:=bd_ h6
   try dsimp only at h8
   obtain ⟨g9,h10⟩:=ip_ h8
   subst g9
   obtain ⟨g11,h12⟩:=ip_ h10
   exact leafAt (hn:=hn3) 17 [.val (.int .i64 (wrap64 (x23 + x25))),.elem (vi (rd x6 x24)),.call (.tup [vi b20_1,vb true]),.val (.bool false)] [] (at3_j3 hk0 h12) (And.intro (int_add (P:=Tryz.prog) (t:=3) (k:=.i64) (x:=(.tmp 219)) (y:=(.tmp 220)) (a:=x23) (b:=x25) (c:=(wrap64 (x23 + x25))) (IntWalk.i64_left _)) (And.intro (And.intro (iI_rd (k:=.i64) (xs:=x6) (i:=x24) g3 g5) (ad_17 c7)) (int_neq (P:=Tryz.prog) (t:=3) (k:=.i64) (x:=(.tmp 235)) (y:=(.tmp 236)) (a:=b20_1) (b:=x25) (v:=false) (nbeq_f g11)))) (by kernel_rfl)
  ·obtain rfl:=Bool.eq_false_iff.2 g1
   exact leafAt (hn:=hn3) 10 [.val (.int .i64 (wrap64 (x23 + x25)))] [] (at3_j3 hk0 h2) (int_add (P:=Tryz.prog) (t:=3) (k:=.i64) (x:=(.tmp 219)) (y:=(.tmp 220)) (a:=x23) (b:=x25) (c:=(wrap64 (x23 + x25))) (IntWalk.i64_left _)) (by kernel_rfl)
set_option maxRecDepth 100000 in
theorem at3_j1 {r:Bool} {K0:Nat} {k:Nat} {x1:List Int} {x5:List (S43)} {x6:List Int} {x7:List (S43)} {x8:Bool} {x11:List Int} {x15:List Int} {x19:ByteArray} {x23:Int} {x24:Int} {x25:Int} {x26:Bool} {x27:List (S43)} {x28:Bool} {x29:Int} (hk0:k < K0) (h:laws_FnNumbersOfHands.j1 k x1 x5 x6 x7 x8 x11 x15 x19 x23 x24 x25 x26 x27 x28 x29 = some r):AtP Tryz.prog 342 (bodyOf Tryz.f3) (KR Tryz.prog Tryz.f3.results.toList (o3 r) (p3 r)) [true,true,true,true,true,true,true,true,true,true,true,true,false,true,false,true,false,true,false,false,true,false,false,true,true,true,true] [upto (q3_l0 r) K0] (lookA [(1,.sl (iI .u8 x1)),(5,.sl (iS43 x5)),(6,.sl (iI .i64 x6)),(7,.sl (iS43 x7)),(8,vb x8),(11,.sl (iI .i64 x11)),(15,.sl (iI .i64 x15)),(19,.val (.string x19)),(23,vi x23),(24,vi x24),(25,vi x25),(26,vb x26),(27,.sl (iS43 x27)),(28,vb x28),(29,vi x29)]):=by
 cases k with
 | zero => simp [laws_FnNumbersOfHands.j1] at h
 | succ k =>
  rw [laws_FnNumbersOfHands.j1] at h
  have hk0:=Nat.lt_of_succ_lt hk0
  obtain ⟨g1,h2⟩:=ip_ h
  subst g1
  obtain ⟨g3,h4⟩:=ip_ h2
  subst g3
  obtain ⟨g5,h6⟩:=ip_ h4
  obtain ⟨b18,c7,h8⟩:=bd_ h6
  obtain ⟨g9,h10⟩:=ip_ h8
  rcases ite_ h10 with ⟨g11,h12⟩ | ⟨g11,h12⟩
  ·obtain ⟨b19,c13,h14⟩:=bd_ h12
   obtain ⟨g15,h16⟩:=ip_ h14
   subst g15
   exact leafAt (hn:=hn3) 7 [.val (.int .i64 (x27.length:Int)),.val (.int .i64 (wrap64 ((x27.length:Int) + x29))),.val (.bool false),.call (vb b18),.val (.bool (decide (x25 > 0))),.val (.bool false),.val (.bool true),.elem (.agg [vi x24,vi x24]),.call (vb true)] [] (at3_j2 hk0 h16) (And.intro (iS43_len (xs:=x27)) (And.intro (int_add (P:=Tryz.prog) (t:=3) (k:=.i64) (x:=(.tmp 194)) (y:=(.tmp 195)) (a:=(x27.length:Int)) (b:=x29) (c:=(wrap64 ((x27.length:Int) + x29))) (IntWalk.i64_left _)) (And.intro (int_neq (P:=Tryz.prog) (t:=3) (k:=.i64) (x:=(.tmp 192)) (y:=(.tmp 196)) (a:=x25) (b:=(wrap64 ((x27.length:Int) + x29))) (v:=false) (nbeq_f g5)) (And.intro (ad_19 c7) (And.intro (int_gtr (P:=Tryz.prog) (t:=3) (k:=.i64) (x:=(.tmp 203)) (y:=(.const (.int .i64 0))) (a:=x25) (b:=0) (v:=(decide (x25 > 0))) rfl) (And.intro (bool_neq (P:=Tryz.prog) (t:=4) (x:=(.tmp 202)) (y:=(.tmp 204)) (a:=b18) (b:=(decide (x25 > 0))) Tryz.underlying4 (v:=false) (nbb_f g9)) (And.intro (int_eql (P:=Tryz.prog) (t:=3) (k:=.i64) (x:=(.tmp 208)) (y:=(.const (.int .i64 1))) (a:=x29) (b:=1) (v:=true) (beq_iff_eq.2 g11)) (And.intro (build_43_2 (p0:=x24) (p1:=x24)) (ad_20 c13))))))))) (by kernel_rfl)
  ·exact leafAt (hn:=hn3) 7 [.val (.int .i64 (x27.length:Int)),.val (.int .i64 (wrap64 ((x27.length:Int) + x29))),.val (.bool false),.call (vb b18),.val (.bool (decide (x25 > 0))),.val (.bool false),.val (.bool false)] [] (at3_j2 hk0 h12) (And.intro (iS43_len (xs:=x27)) (And.intro (int_add (P:=Tryz.prog) (t:=3) (k:=.i64) (x:=(.tmp 194)) (y:=(.tmp 195)) (a:=(x27.length:Int)) (b:=x29) (c:=(wrap64 ((x27.length:Int) + x29))) (IntWalk.i64_left _)) (And.intro (int_neq (P:=Tryz.prog) (t:=3) (k:=.i64) (x:=(.tmp 192)) (y:=(.tmp 196)) (a:=x25) (b:=(wrap64 ((x27.length:Int) + x29))) (v:=false) (nbeq_f g5)) (And.intro (ad_19 c7) (And.intro (int_gtr (P:=Tryz.prog) (t:=3) (k:=.i64) (x:=(.tmp 203)) (y:=(.const (.int .i64 0))) (a:=x25) (b:=0) (v:=(decide (x25 > 0))) rfl) (And.intro (bool_neq (P:=Tryz.prog) (t:=4) (x:=(.tmp 202)) (y:=(.tmp 204)) (a:=b18) (b:=(decide (x25 > 0))) Tryz.underlying4 (v:=false) (nbb_f g9)) (int_eql (P:=Tryz.prog) (t:=3) (k:=.i64) (x:=(.tmp 208)) (y:=(.const (.int .i64 1))) (a:=x29) (b:=1) (v:=false) (beq_false_of_ne g11)))))))) (by kernel_rfl)
set_option maxRecDepth 100000 in
theorem at3_l0 {r:Bool}:∀ k L,q3_l0 r k L → AtP Tryz.prog 342 (bodyOf Tryz.f3) (KR Tryz.prog Tryz.f3.results.toList (o3 r) (p3 r)) [true,true,true,true,true,true,true,true,true,true,true,true,false,true,false,true,false,true,false] [] (lookA L) :=
 at_loop (by kernel_rfl) (fun _ => by kernel_rfl) (q3_l0 r) (by
  rintro k _ ⟨x1,x5,x6,x7,x8,x11,x15,x19,x23,x24,rfl,h⟩
  cases k with
  | zero => simp [laws_FnNumbersOfHands.l0] at h
  | succ k =>
   rw [laws_FnNumbersOfHands.l0] at h
   rcases ite_ h with ⟨g1,h2⟩ | ⟨g1,h2⟩
   ·obtain ⟨⟨b15_1,b15_2⟩,c3,h4⟩:=bd_ h2
    try dsimp only at h4
    obtain ⟨⟨b16_1,b16_2⟩,c5,h6⟩:=bd_ h4
    try dsimp only at h6
    obtain ⟨b17,c7,h8⟩:=bd_ h6
    rcases ite_ h8 with ⟨g9,h10⟩ | ⟨g9,h10⟩
    ·subst g9
     exact leafAt (hn:=hn3) 25 [.val (.bool true),.call (.tup [vi b15_1,vb b15_2]),.call (.tup [.sl (iS43 b16_1),vb b16_2]),.call (vb true)] [] (at3_j1 (Nat.lt_succ_self k) h10) (And.intro (int_leq (P:=Tryz.prog) (t:=3) (k:=.i64) (x:=(.tmp 166)) (y:=(.const (.int .i64 9))) (a:=x24) (b:=9) (v:=true) (decide_eq_true g1)) (And.intro (ad_17 c3) (And.intro (ad_18 c5) (ad_19 c7)))) (by kernel_rfl)
    ·obtain rfl:=Bool.eq_false_iff.2 g9
     exact leafAt (hn:=hn3) 25 [.val (.bool true),.call (.tup [vi b15_1,vb b15_2]),.call (.tup [.sl (iS43 b16_1),vb b16_2]),.call (vb false)] [] (at3_j1 (Nat.lt_succ_self k) h10) (And.intro (int_leq (P:=Tryz.prog) (t:=3) (k:=.i64) (x:=(.tmp 166)) (y:=(.const (.int .i64 9))) (a:=x24) (b:=9) (v:=true) (decide_eq_true g1)) (And.intro (ad_17 c3) (And.intro (ad_18 c5) (ad_19 c7)))) (by kernel_rfl)
   ·obtain ⟨⟨b21_1,b21_2⟩,c11,h12⟩:=bd_ h2
    try dsimp only at h12
    obtain ⟨g13,h14⟩:=ip_ h12
    obtain ⟨g15,h16⟩:=ip_ h14
    subst g15
    obtain ⟨b22,c17,h18⟩:=bd_ h16
    obtain ⟨g19,h20⟩:=ip_ h18
    subst g19
    exact leafAt (hn:=hn3) 19 [.val (.bool false),.call (.tup [.sl (iS43 b21_1),vb true]),.val (.int .i64 (x5.length:Int)),.val (.int .i64 (wrap64 (2 * (x5.length:Int)))),.val (.bool false),.call (vb true)] [] (at3_j4 h20) (And.intro (int_leq (P:=Tryz.prog) (t:=3) (k:=.i64) (x:=(.tmp 166)) (y:=(.const (.int .i64 9))) (a:=x24) (b:=9) (v:=false) (decide_eq_false g1)) (And.intro (ad_21 c11) (And.intro (iS43_len (xs:=x5)) (And.intro (int_mul (P:=Tryz.prog) (t:=3) (k:=.i64) (x:=(.const (.int .i64 2))) (y:=(.tmp 246)) (a:=2) (b:=(x5.length:Int)) (c:=(wrap64 (2 * (x5.length:Int)))) (IntWalk.i64_left _)) (And.intro (int_neq (P:=Tryz.prog) (t:=3) (k:=.i64) (x:=(.tmp 244)) (y:=(.tmp 247)) (a:=x23) (b:=(wrap64 (2 * (x5.length:Int)))) (v:=false) (nbeq_f g13)) (ad_14 c17)))))) (by kernel_rfl))
set_option maxRecDepth 100000 in
theorem at3_j0 {r:Bool} {k:Nat} {x1:List Int} {x5:List (S43)} {x6:List Int} {x7:List (S43)} {x8:Bool} {x11:List Int} {x12:Bool} {x15:List Int} {x19:ByteArray} (h:laws_FnNumbersOfHands.j0 k x1 x5 x6 x7 x8 x11 x12 x15 x19 = some r):AtP Tryz.prog 342 (bodyOf Tryz.f3) (KR Tryz.prog Tryz.f3.results.toList (o3 r) (p3 r)) [true,true,true,true,true,true,true,true,true,true,true,true] [] (lookA [(1,.sl (iI .u8 x1)),(5,.sl (iS43 x5)),(6,.sl (iI .i64 x6)),(7,.sl (iS43 x7)),(8,vb x8),(11,.sl (iI .i64 x11)),(12,vb x12),(15,.sl (iI .i64 x15)),(19,.val (.string x19))]):=by
 cases k with
 | zero => simp [laws_FnNumbersOfHands.j0] at h
 | succ k =>
  rw [laws_FnNumbersOfHands.j0] at h
  rcases ite_ h with ⟨g1,h2⟩ | ⟨g1,h2⟩
  ·subst g1
   exact leafAt (hn:=hn3) 13 [] [] (at3_l0 _ _ (q3_l0_mk h2)) True.intro (by kernel_rfl)
  ·obtain rfl:=Bool.eq_false_iff.2 g1
   exact leafAt (hn:=hn3) 7 [] [] (at3_j4 h2) True.intro (by kernel_rfl)
set_option maxRecDepth 100000 in
theorem ad_3 {k:Nat} {l0:List Int} {l1:List Int} {r:Bool} (h:laws_FnNumbersOfHands.f k l0 l1 = some r):CallH Tryz.prog 3 [.sl (iI .u8 l0),.sl (iI .u8 l1)] [] (vb r) []:=by
 unfold laws_FnNumbersOfHands.f at h
 refine call_ok (c:=bodyOf Tryz.f3) (rs:=o3 r) (post:=p3 r) Tryz.func3 rfl rfl rfl (by kernel_rfl) ?_
 show AtP Tryz.prog 342 (bodyOf Tryz.f3) (KR Tryz.prog Tryz.f3.results.toList (o3 r) (p3 r)) [] [] (lookA [(0,.sl (iI .u8 l0)),(1,.sl (iI .u8 l1))])
 obtain ⟨b1,c1,h2⟩:=bd_ h
 rcases ite_ h2 with ⟨g3,h4⟩ | ⟨g3,h4⟩
 ·subst g3
  obtain rfl:=Option.some.inj h4
  exact leafRet (hn:=hn3) 13 [.call (vb true)] [] .ret (.inr rfl) (by kernel_rfl) (ad_4 c1) (by kernel_rfl)
 ·obtain rfl:=Bool.eq_false_iff.2 g3
  obtain ⟨⟨b2_1,b2_2⟩,c5,h6⟩:=bd_ h4
  try dsimp only at h6
  obtain ⟨⟨b3_1,b3_2⟩,c7,h8⟩:=bd_ h6
  try dsimp only at h8
  obtain ⟨⟨b4_1,b4_2⟩,c9,h10⟩:=bd_ h8
  try dsimp only at h10
  obtain ⟨⟨b5_1,b5_2⟩,c11,h12⟩:=bd_ h10
  try dsimp only at h12
  obtain ⟨⟨b6_1,b6_2⟩,c13,h14⟩:=bd_ h12
  try dsimp only at h14
  obtain ⟨⟨b7_1,b7_2⟩,c15,h16⟩:=bd_ h14
  try dsimp only at h16
  obtain ⟨⟨b8_1,b8_2⟩,c17,h18⟩:=bd_ h16
  try dsimp only at h18
  obtain ⟨⟨b9_1,b9_2⟩,c19,h20⟩:=bd_ h18
  try dsimp only at h20
  obtain ⟨⟨b10_1,b10_2⟩,c21,h22⟩:=bd_ h20
  try dsimp only at h22
  obtain ⟨g23,h24⟩:=ip_ h22
  obtain ⟨b11,c25,h26⟩:=bd_ h24
  obtain ⟨g27,h28⟩:=ip_ h26
  subst g27
  obtain ⟨g29,h30⟩:=ip_ h28
  obtain ⟨b12,c31,h32⟩:=bd_ h30
  obtain ⟨g33,h34⟩:=ip_ h32
  subst g33
  obtain ⟨g35,h36⟩:=ip_ h34
  obtain ⟨b13,c37,h38⟩:=bd_ h36
  obtain ⟨g39,h40⟩:=ip_ h38
  subst g39
  obtain ⟨g41,h42⟩:=ip_ h40
  obtain ⟨g43,h44⟩:=ip_ h42
  obtain ⟨b14,c45,h46⟩:=bd_ h44
  obtain ⟨g47,h48⟩:=ip_ h46
  obtain ⟨g49,h50⟩:=ip_ h48
  obtain ⟨g51,h52⟩:=ip_ h50
  rcases ite_ h52 with ⟨g53,h54⟩ | ⟨g53,h54⟩
  ·subst g53
   obtain ⟨g55,h56⟩:=ip_ h54
   rcases ite_ h56 with ⟨g57,h58⟩ | ⟨g57,h58⟩
   ·subst g57
    obtain ⟨g59,h60⟩:=ip_ h58
    obtain ⟨g61,h62⟩:=ip_ h60
    rcases ite_ h62 with ⟨g63,h64⟩ | ⟨g63,h64⟩
    ·subst g63
     obtain ⟨g65,h66⟩:=ip_ h64
     rcases ite_ h66 with ⟨g67,h68⟩ | ⟨g67,h68⟩
     ·subst g67
      obtain ⟨g69,h70⟩:=ip_ h68
      exact leafAt (hn:=hn3) 44 [.call (vb false),.call (.tup [.sl (iS43 b2_1),.sl (iI .i64 b2_2)]),.call (.tup [.sl (iS43 b3_1),vb true]),.call (.tup [.sl (iS43 b4_1),vb b4_2]),.call (.tup [.sl (iI .i64 b5_1),vb true]),.call (.tup [.sl (iI .i64 b6_1),vb b6_2]),.call (.tup [.sl (iI .i64 b7_1),vb true]),.call (.tup [.sl (iI .i64 b8_1),vb b8_2]),.call (.tup [.val (.string b9_1),vb true]),.call (.tup [.val (.string b10_1),vb b10_2]),.val (.bool false),.call (vb true),.val (.bool false),.call (vb true),.val (.bool false),.call (vb true),.val (.bool false),.val (.bool false),.call (vb b14),.val (.bool false),.val (.bool false),.val (.bool false)] [] (at3_j0 h70) (And.intro (ad_4 c1) (And.intro (ad_5 c5) (And.intro (ad_6 c7) (And.intro (ad_7 c9) (And.intro (ad_8 c11) (And.intro (ad_9 c13) (And.intro (ad_10 c15) (And.intro (ad_11 c17) (And.intro (ad_12 c19) (And.intro (ad_13 c21) (And.intro (bool_neq (P:=Tryz.prog) (t:=4) (x:=(.tmp 101)) (y:=(.tmp 102)) (a:=true) (b:=b4_2) Tryz.underlying4 (v:=false) (nbb_f g55)) (And.intro (ad_14 c25) (And.intro (bool_neq (P:=Tryz.prog) (t:=4) (x:=(.tmp 111)) (y:=(.tmp 112)) (a:=true) (b:=b6_2) Tryz.underlying4 (v:=false) (nbb_f g59)) (And.intro (ad_15 c31) (And.intro (bool_neq (P:=Tryz.prog) (t:=4) (x:=(.tmp 122)) (y:=(.tmp 123)) (a:=true) (b:=b8_2) Tryz.underlying4 (v:=false) (nbb_f g65)) (And.intro (ad_15 c37) (And.intro (bool_neq (P:=Tryz.prog) (t:=4) (x:=(.tmp 133)) (y:=(.tmp 134)) (a:=true) (b:=b10_2) Tryz.underlying4 (v:=false) (nbb_f g69)) (And.intro (str_neq (P:=Tryz.prog) (t:=9) (x:=(.tmp 138)) (y:=(.tmp 139)) (a:=b9_1) (b:=b10_1) (v:=false) (by rw [(beq_iff_eq.2 g43)]; rfl)) (And.intro (ad_16 c45) (And.intro (bool_neq (P:=Tryz.prog) (t:=4) (x:=(.tmp 143)) (y:=(.tmp 145)) (a:=true) (b:=b14) Tryz.underlying4 (v:=false) (nbb_f g61)) (And.intro (bool_neq (P:=Tryz.prog) (t:=4) (x:=(.tmp 149)) (y:=(.tmp 150)) (a:=true) (b:=true) Tryz.underlying4 (v:=false) rfl) (bool_neq (P:=Tryz.prog) (t:=4) (x:=(.tmp 154)) (y:=(.tmp 155)) (a:=true) (b:=true) Tryz.underlying4 (v:=false) rfl)))))))))))))))))))))) (by kernel_rfl)
     ·obtain rfl:=Bool.eq_false_iff.2 g67
      obtain ⟨g71,h72⟩:=ip_ h68
      cases h72
    ·obtain rfl:=Bool.eq_false_iff.2 g63
     obtain ⟨g73,h74⟩:=ip_ h64
     cases h74
   ·obtain rfl:=Bool.eq_false_iff.2 g57
    obtain ⟨g75,h76⟩:=ip_ h58
    obtain ⟨g77,h78⟩:=ip_ h76
    obtain ⟨g79,h80⟩:=ip_ h78
    obtain ⟨g81,h82⟩:=ip_ h80
    cases h82
  ·obtain rfl:=Bool.eq_false_iff.2 g53
   obtain ⟨g83,h84⟩:=ip_ h54
   exact leafAt (hn:=hn3) 44 [.call (vb false),.call (.tup [.sl (iS43 b2_1),.sl (iI .i64 b2_2)]),.call (.tup [.sl (iS43 b3_1),vb false]),.call (.tup [.sl (iS43 b4_1),vb b4_2]),.call (.tup [.sl (iI .i64 b5_1),vb b5_2]),.call (.tup [.sl (iI .i64 b6_1),vb b6_2]),.call (.tup [.sl (iI .i64 b7_1),vb b7_2]),.call (.tup [.sl (iI .i64 b8_1),vb b8_2]),.call (.tup [.val (.string b9_1),vb b9_2]),.call (.tup [.val (.string b10_1),vb b10_2]),.val (.bool false),.call (vb true),.val (.bool false),.call (vb true),.val (.bool false),.call (vb true),.val (.bool false),.val (.bool false),.call (vb b14),.val (.bool false),.val (.bool false),.val (.bool false)] [] (at3_j0 h84) (And.intro (ad_4 c1) (And.intro (ad_5 c5) (And.intro (ad_6 c7) (And.intro (ad_7 c9) (And.intro (ad_8 c11) (And.intro (ad_9 c13) (And.intro (ad_10 c15) (And.intro (ad_11 c17) (And.intro (ad_12 c19) (And.intro (ad_13 c21) (And.intro (bool_neq (P:=Tryz.prog) (t:=4) (x:=(.tmp 101)) (y:=(.tmp 102)) (a:=false) (b:=b4_2) Tryz.underlying4 (v:=false) (nbb_f g83)) (And.intro (ad_14 c25) (And.intro (bool_neq (P:=Tryz.prog) (t:=4) (x:=(.tmp 111)) (y:=(.tmp 112)) (a:=b5_2) (b:=b6_2) Tryz.underlying4 (v:=false) (nbb_f g29)) (And.intro (ad_15 c31) (And.intro (bool_neq (P:=Tryz.prog) (t:=4) (x:=(.tmp 122)) (y:=(.tmp 123)) (a:=b7_2) (b:=b8_2) Tryz.underlying4 (v:=false) (nbb_f g35)) (And.intro (ad_15 c37) (And.intro (bool_neq (P:=Tryz.prog) (t:=4) (x:=(.tmp 133)) (y:=(.tmp 134)) (a:=b9_2) (b:=b10_2) Tryz.underlying4 (v:=false) (nbb_f g41)) (And.intro (str_neq (P:=Tryz.prog) (t:=9) (x:=(.tmp 138)) (y:=(.tmp 139)) (a:=b9_1) (b:=b10_1) (v:=false) (by rw [(beq_iff_eq.2 g43)]; rfl)) (And.intro (ad_16 c45) (And.intro (bool_neq (P:=Tryz.prog) (t:=4) (x:=(.tmp 143)) (y:=(.tmp 145)) (a:=b5_2) (b:=b14) Tryz.underlying4 (v:=false) (nbb_f g47)) (And.intro (bool_neq (P:=Tryz.prog) (t:=4) (x:=(.tmp 149)) (y:=(.tmp 150)) (a:=b7_2) (b:=b5_2) Tryz.underlying4 (v:=false) (nbb_f g49)) (bool_neq (P:=Tryz.prog) (t:=4) (x:=(.tmp 154)) (y:=(.tmp 155)) (a:=b9_2) (b:=b5_2) Tryz.underlying4 (v:=false) (nbb_f g51))))))))))))))))))))))) (by kernel_rfl)

theorem laws_FnNumbersOfHands.calls (k:Nat) (A0:Option Addr) (c0:Nat) (l0:List Int) (A1:Option Addr) (c1:Nat) (l1:List Int) (r:Bool) (w:World) (hr0:Kd.C (Kd.int .u8) w A0 l0.length l0) (hc0:l0.length ≤ c0) (hr1:Kd.C (Kd.int .u8) w A1 l1.length l1) (hc1:l1.length ≤ c1) (h:laws_FnNumbersOfHands.f k l0 l1 = some r) (hm:MaxLen w) :
    Calls Tryz.prog 3 #[.slice A0 l0.length c0,.slice A1 l1.length c1] w fun e w' => e = .returned (.bool r) ∧ Below w.heap.size w w':=by
  have ha:Args w (fun b _ => b < w.heap.size) _ [.slice A0 l0.length c0,.slice A1 l1.length c1]:=(.cons (rep_of (flat_int .u8) hr0 hc0 Nat.one_pos (fun _ _ h _ => h)) (.cons (rep_of (flat_int .u8) hr1 hc1 Nat.one_pos (fun _ _ h _ => h)) .nil))
  exact law_calls (ad_3 h) ha (by intro g_ v_ h_; cases h_; obtain ⟨m_,hm_⟩:=hm; exact ⟨_,hm_,m_,rfl⟩)
end Go.Proofs.YtinocgaiheddaaaGreatDoor.QFnNumbersOfHands
