/- The reflected proofs, part 2. -/
import Derived.Test.YtkofmaeffgbelaaQFnChainsListedx11
namespace Go.Proofs.Ytkofmaeffgbelaa.QFnChainsListed
open Go.RowKit Go.Rh Go.Proofs.YtkofmaeffgbelaaW.PrintWords Go.Proofs.YtkofmaeffgbelaaW.PrintLast Go.Proofs.YtkofmaeffgbelaaW.PrintMore
set_option linter.unusedVariables false
set_option linter.unusedSimpArgs false
set_option maxRecDepth 100000
def hn200024:Hint:=⟨[(5,[26,28,1000000]),(8,[26,28,1000000]),(16,[26,28,1000000]),(18,[41])],[]⟩
def o200024 (r:Bool × List Int):List AV:=[vb r.1]
def p200024 (r:Bool × List Int):List (Nat × AV):=[(1000000,.box (.sl (iI .i64 r.2)))]
def q200024_l0 (r:Bool × List Int) (k:Nat) (L:List (Nat × AV)):Prop:=∃ (x0:List (S39)) (y0:List Int) (x10:List Int) (x11:Int) (x12:Int),L = [(0,.sl (iS39 x0)),(5,.loc 28 0),(10,.sl (iI .i64 x10)),(11,vi x11),(12,vi x12),(26,.box (.fn 29 [.loc 1000000 0])),(28,.box (.fn 43 [.loc 26 0,.loc 28 0])),(1000000,.box (.sl (iI .i64 y0)))] ∧ g200024_impl_chains_v2.l0 k x0 y0 x10 x11 x12 = some r
theorem q200024_l0_mk {r:Bool × List Int} {k:Nat} {x0:List (S39)} {y0:List Int} {x10:List Int} {x11:Int} {x12:Int} (h:g200024_impl_chains_v2.l0 k x0 y0 x10 x11 x12 = some r):q200024_l0 r k [(0,.sl (iS39 x0)),(5,.loc 28 0),(10,.sl (iI .i64 x10)),(11,vi x11),(12,vi x12),(26,.box (.fn 29 [.loc 1000000 0])),(28,.box (.fn 43 [.loc 26 0,.loc 28 0])),(1000000,.box (.sl (iI .i64 y0)))]:=⟨x0,y0,x10,x11,x12,rfl,h⟩
theorem at200024_l0 {r:Bool × List Int}:∀ k L,q200024_l0 r k L → AtP Try.prog 23 (bodyOf Try.f24) (KR Try.prog Try.f24.results.toList (o200024 r) (p200024 r)) [true,true,true,false,true,false] [] (lookA L) :=
 at_loop (by kernel_rfl) (fun _ => by kernel_rfl) (q200024_l0 r) (by
  rintro k _ ⟨x0,y0,x10,x11,x12,rfl,h⟩
  cases k with
  | zero => simp [g200024_impl_chains_v2.l0] at h
  | succ k =>
   rw [g200024_impl_chains_v2.l0] at h
   refine at_ (hn:=hn200024) ?_
   rcases ite_ h with ⟨g1,h2⟩ | ⟨g1,h2⟩
   ·obtain ⟨g3,h4⟩:=ip_ h2
    obtain ⟨g5,h6⟩:=ip_ h4
    obtain ⟨⟨b2_1,b2_2⟩,c7,h8⟩:=bd_ h6
    try dsimp only at h8
    refine mid (hn:=hn200024) 13 5 [.val (.bool true),.elem (vi (rd x10 x12)),.go,.callH [26,1000000,28] (vb b2_1) [(26,.box (.fn 29 [.loc 1000000 0])),(1000000,.box (.sl (iI .i64 b2_2))),(28,.box (.fn 43 [.loc 26 0,.loc 28 0]))]] (And.intro (int_lss (P:=Try.prog) (t:=3) (k:=.i64) (x:=(.tmp 12)) (y:=(.tmp 11)) (a:=x12) (b:=x11) (v:=true) (decide_eq_true g1)) (And.intro (iI_rd (k:=.i64) (xs:=x10) (i:=x12) g3 g5) (CallH.ren [(1000000,26),(1000001,1000000),(1000002,28)] rfl rfl (ad_200043 c7)))) (by kernel_rfl) ?_
    rcases ite_ h8 with ⟨g9,h10⟩ | ⟨g9,h10⟩
    ·subst g9
     exact leafBack (hn:=hn200024) 7 [.val (.int .i64 (wrap64 (x12 + 1)))] [] (q200024_l0_mk h10) (Nat.lt_succ_self k) (int_add (P:=Try.prog) (t:=3) (k:=.i64) (x:=(.tmp 12)) (y:=(.const (.int .i64 1))) (a:=x12) (b:=1) (c:=(wrap64 (x12 + 1))) (IntWalk.i64_left _)) (by kernel_rfl)
    ·obtain rfl:=Bool.eq_false_iff.2 g9
     obtain rfl:=Option.some.inj h10
     exact leafRet (hn:=hn200024) 12 [] [] .ret (.inr rfl) (by kernel_rfl) True.intro (by kernel_rfl)
   ·obtain rfl:=Option.some.inj h2
    exact leafRet (hn:=hn200024) 14 [.val (.bool false)] [] .ret (.inr rfl) (by kernel_rfl) (int_lss (P:=Try.prog) (t:=3) (k:=.i64) (x:=(.tmp 12)) (y:=(.tmp 11)) (a:=x12) (b:=x11) (v:=false) (decide_eq_false g1)) (by kernel_rfl))
theorem ad_200024 {k:Nat} {l0:List (S39)} {l1:List Int} {r1:Bool} {r2:List Int} (h:g200024_impl_chains_v2.f k l0 l1 = some (r1,r2)):CallH Try.prog 24 [.sl (iS39 l0),.fn 29 [.loc 1000000 0]] [(1000000,.box (.sl (iI .i64 l1)))] (vb r1) [(1000000,.box (.sl (iI .i64 r2)))]:=by
 unfold g200024_impl_chains_v2.f at h
 refine call_ok (c:=bodyOf Try.f24) (rs:=o200024 (r1,r2)) (post:=p200024 (r1,r2)) Try.func24 rfl rfl rfl (by kernel_rfl) ?_
 show AtP Try.prog 23 (bodyOf Try.f24) (KR Try.prog Try.f24.results.toList (o200024 (r1,r2)) (p200024 (r1,r2))) [] [] (lookA [(0,.sl (iS39 l0)),(1,.fn 29 [.loc 1000000 0]),(1000000,.box (.sl (iI .i64 l1)))])
 refine at_ (hn:=hn200024) ?_
 obtain ⟨b1,c1,h2⟩:=bd_ h
 exact leafAt (hn:=hn200024) 14 [.call (.sl (iI .i64 b1)),.val (.int .i64 (b1.length:Int))] [] (at200024_l0 _ _ (q200024_l0_mk h2)) (And.intro (ad_49 c1) (iI_len (k:=.i64) (xs:=b1))) (by kernel_rfl)

def g10_impl_LongestChain.f (k:Nat) (l0:List (S39)):Option (List Int × Bool):=(impl_isChained.f k l0).bind fun b1 => (if b1 = true then ((g200024_impl_chains_v2.f k l0 ([0])).bind fun b2 => (some (b2.2,true))) else (some (([] : List Int),false)))

def hn10:Hint:=⟨[(4,[17]),(8,[21]),(10,[17,21])],[]⟩
def o10 (r:List Int × Bool):List AV:=[.sl (iI .i64 r.1),vb r.2]
def p10 (r:List Int × Bool):List (Nat × AV):=[]
theorem ad_10 {k:Nat} {l0:List (S39)} {r1:List Int} {r2:Bool} (h:g10_impl_LongestChain.f k l0 = some (r1,r2)):CallH Try.prog 10 [.sl (iS39 l0)] [] (.tup [.sl (iI .i64 r1),vb r2]) []:=by
 unfold g10_impl_LongestChain.f at h
 refine call_ok (c:=bodyOf Try.f10) (rs:=o10 (r1,r2)) (post:=p10 (r1,r2)) Try.func10 rfl rfl rfl (by kernel_rfl) ?_
 show AtP Try.prog 13 (bodyOf Try.f10) (KR Try.prog Try.f10.results.toList (o10 (r1,r2)) (p10 (r1,r2))) [] [] (lookA [(0,.sl (iS39 l0))])
 refine at_ (hn:=hn10) ?_
 obtain ⟨b1,c1,h2⟩:=bd_ h
 refine mid (hn:=hn10) 5 2 [.goT,.call (vb b1)] (ad_23 c1) (by kernel_rfl) ?_
 rcases ite_ h2 with ⟨g3,h4⟩ | ⟨g3,h4⟩
 ·subst g3
  obtain ⟨⟨b2_1,b2_2⟩,c5,h6⟩:=bd_ h4
  try dsimp only at h6
  obtain ⟨rfl,rfl⟩:=pr2_ h6
  exact leafRet (hn:=hn10) 15 [.go,.vc 17 0,.callH [17] (vb b2_1) [(17,.box (.sl (iI .i64 b2_2)))]] [] .ret (.inr rfl) (by kernel_rfl) (CallH.ren [(1000000,17)] rfl rfl (ad_200024 c5)) (by kernel_rfl)
 ·obtain rfl:=Bool.eq_false_iff.2 g3
  obtain ⟨rfl,rfl⟩:=pr2_ h4
  exact leafRet (hn:=hn10) 8 [.goT] [] .ret (.inr rfl) (by kernel_rfl) True.intro (by kernel_rfl)

def g11_spec_LongestChain.f (k:Nat) (l0:List (S39)):Option (List Int × Bool):=(spec_haSmall.f k l0).bind fun b1 => (if b1 = true then ((g27_spec_haAll.f k l0 0).bind fun b2 => (if (b2.2.2.2.2.2.length:Int) = 0 then (some ([0],true)) else (some (b2.2.2.2.2.2,true)))) else (some (([] : List Int),false)))

def hn11:Hint:=⟨[],[]⟩
def o11 (r:List Int × Bool):List AV:=[.sl (iI .i64 r.1),vb r.2]
def p11 (r:List Int × Bool):List (Nat × AV):=[]
theorem ad_11 {k:Nat} {l0:List (S39)} {r1:List Int} {r2:Bool} (h:g11_spec_LongestChain.f k l0 = some (r1,r2)):CallH Try.prog 11 [.sl (iS39 l0)] [] (.tup [.sl (iI .i64 r1),vb r2]) []:=by
 unfold g11_spec_LongestChain.f at h
 refine call_ok (c:=bodyOf Try.f11) (rs:=o11 (r1,r2)) (post:=p11 (r1,r2)) Try.func11 rfl rfl rfl (by kernel_rfl) ?_
 show AtP Try.prog 21 (bodyOf Try.f11) (KR Try.prog Try.f11.results.toList (o11 (r1,r2)) (p11 (r1,r2))) [] [] (lookA [(0,.sl (iS39 l0))])
 refine at_ (hn:=hn11) ?_
 obtain ⟨b1,c1,h2⟩:=bd_ h
 refine mid (hn:=hn11) 5 2 [.goT,.call (vb b1)] (ad_26 c1) (by kernel_rfl) ?_
 rcases ite_ h2 with ⟨g3,h4⟩ | ⟨g3,h4⟩
 ·subst g3
  obtain ⟨⟨b2_1,b2_2,b2_3,b2_4,b2_5,b2_6⟩,c5,h6⟩:=bd_ h4
  try dsimp only at h6
  refine mid (hn:=hn11) 10 5 [.call (.ptr (.agg [.sl (iS39 b2_1),vi b2_2,vi b2_3,.sl (iI .i64 b2_4),.sl (iL (iI .i64) b2_5),.sl (iI .i64 b2_6)])),.val (.int .i64 (b2_6.length:Int))] (And.intro (ad_27 c5) (iI_len (k:=.i64) (xs:=b2_6))) (by kernel_rfl) ?_
  rcases ite_ h6 with ⟨g7,h8⟩ | ⟨g7,h8⟩
  ·obtain ⟨rfl,rfl⟩:=pr2_ h8
   exact leafRet (hn:=hn11) 8 [.val (.bool true),.go] [] .ret (.inr rfl) (by kernel_rfl) (int_eql (P:=Try.prog) (t:=3) (k:=.i64) (x:=(.tmp 14)) (y:=(.const (.int .i64 0))) (a:=(b2_6.length:Int)) (b:=0) (v:=true) (beq_iff_eq.2 g7)) (by kernel_rfl)
  ·obtain ⟨rfl,rfl⟩:=pr2_ h8
   exact leafRet (hn:=hn11) 9 [.val (.bool false)] [] .ret (.inr rfl) (by kernel_rfl) (int_eql (P:=Try.prog) (t:=3) (k:=.i64) (x:=(.tmp 14)) (y:=(.const (.int .i64 0))) (a:=(b2_6.length:Int)) (b:=0) (v:=false) (beq_false_of_ne g7)) (by kernel_rfl)
 ·obtain rfl:=Bool.eq_false_iff.2 g3
  obtain ⟨rfl,rfl⟩:=pr2_ h4
  exact leafRet (hn:=hn11) 8 [.goT] [] .ret (.inr rfl) (by kernel_rfl) True.intro (by kernel_rfl)

mutual
def laws_FnChainsListed.j0:Nat → List (S39) → List (List Int) → Bool → List Int → Bool → List Int → Bool → Option (Bool)
  | 0,_,_,_,_,_,_,_ => none
  | k + 1,x5,x6,x7,x10,x11,x14,x128 => if x128 = true then (none) else (laws_FnChainsListed.j1 k x5 x6 x7 x10 x11 x14)
def laws_FnChainsListed.j1:Nat → List (S39) → List (List Int) → Bool → List Int → Bool → List Int → Option (Bool)
  | 0,_,_,_,_,_,_ => none
  | k + 1,x5,x6,x7,x10,x11,x14 => if x11 = true then (if (x5.length:Int) > 0 then (if 0 ≤ (wrap64 ((x5.length:Int) - 1)) then (if (wrap64 ((x5.length:Int) - 1)) < (x10.length:Int) then (laws_FnChainsListed.j2 k x5 x6 x7 x10 x14 (x5.length:Int) (rd x10 (wrap64 ((x5.length:Int) - 1)))) else (none)) else (none)) else (laws_FnChainsListed.j2 k x5 x6 x7 x10 x14 (x5.length:Int) 0)) else (laws_FnChainsListed.j5 k x5 x6 x7 x14)
def laws_FnChainsListed.j2:Nat → List (S39) → List (List Int) → Bool → List Int → List Int → Int → Int → Option (Bool)
  | 0,_,_,_,_,_,_,_ => none
  | k + 1,x5,x6,x7,x10,x14,x18,x19 => if (x10.length:Int) = x18 then (if x7 = (decide (x19 ≤ 300)) then (if x7 = true then (if (x6.length:Int) = x19 then ((impl_IsChain.f k x14).bind fun b13 => (if b13 = true then (laws_FnChainsListed.j3 k x5 x6 true x10 x14 x18 (decide ((wrap64 ((x14.length:Int) - 1)) > x18))) else (laws_FnChainsListed.j3 k x5 x6 true x10 x14 x18 true))) else (laws_FnChainsListed.j3 k x5 x6 true x10 x14 x18 true)) else ((impl_IsChain.f k x14).bind fun b22 => (if b22 = true then (laws_FnChainsListed.j3 k x5 x6 false x10 x14 x18 (decide ((wrap64 ((x14.length:Int) - 1)) > x18))) else (laws_FnChainsListed.j3 k x5 x6 false x10 x14 x18 true)))) else (laws_FnChainsListed.j3 k x5 x6 x7 x10 x14 x18 true)) else (laws_FnChainsListed.j3 k x5 x6 x7 x10 x14 x18 true)
def laws_FnChainsListed.j3:Nat → List (S39) → List (List Int) → Bool → List Int → List Int → Int → Bool → Option (Bool)
  | 0,_,_,_,_,_,_,_ => none
  | k + 1,x5,x6,x7,x10,x14,x18,x169 => if x169 = true then (none) else (laws_FnChainsListed.j4 k x5 x6 x7 x10 x14 x18)
def laws_FnChainsListed.j4:Nat → List (S39) → List (List Int) → Bool → List Int → List Int → Int → Option (Bool)
  | 0,_,_,_,_,_,_ => none
  | k + 1,x5,x6,x7,x10,x14,x18 => laws_FnChainsListed.l0 k x5 x6 x7 x10 x14 x18 x10 (x10.length:Int) 0
def laws_FnChainsListed.l0:Nat → List (S39) → List (List Int) → Bool → List Int → List Int → Int → List Int → Int → Int → Option (Bool)
  | 0,_,_,_,_,_,_,_,_,_ => none
  | k + 1,x5,x6,x7,x10,x14,x18,x170,x171,x172 => if x172 < x171 then (if 0 ≤ x172 then (if x172 < (x170.length:Int) then (if (decide ((rd x170 x172) > 0)) = (decide ((wrap64 (x172 + 1)) ≤ (wrap64 ((x14.length:Int) - 1)))) then (laws_FnChainsListed.l0 k x5 x6 x7 x10 x14 x18 x170 x171 (wrap64 (x172 + 1))) else (none)) else (none)) else (none)) else ((impl_TilesOfChain.f k x14).bind fun b14 => (if b14.2 = true then (laws_FnChainsListed.l1 k x5 x6 x7 x10 x14 x18 b14.1 (b14.1.length:Int) 0) else (none)))
def laws_FnChainsListed.l1:Nat → List (S39) → List (List Int) → Bool → List Int → List Int → Int → List (S39) → Int → Int → Option (Bool)
  | 0,_,_,_,_,_,_,_,_,_ => none
  | k + 1,x5,x6,x7,x10,x14,x18,x194,x195,x196 => if x196 < x195 then (if 0 ≤ x196 then (if x196 < (x194.length:Int) then ((laws_iIn.f k x5 ((rd_T39 x194 x196).f0) ((rd_T39 x194 x196).f1)).bind fun b15 => (if b15 = true then (laws_FnChainsListed.l1 k x5 x6 x7 x10 x14 x18 x194 x195 (wrap64 (x196 + 1))) else (none))) else (none)) else (none)) else (laws_FnChainsListed.l2 k x5 x6 x7 x10 x14 x18 0 x5 (x5.length:Int) 0)
def laws_FnChainsListed.l2:Nat → List (S39) → List (List Int) → Bool → List Int → List Int → Int → Int → List (S39) → Int → Int → Option (Bool)
  | 0,_,_,_,_,_,_,_,_,_,_ => none
  | k + 1,x5,x6,x7,x10,x14,x18,x26,x205,x206,x207 => if x207 < x206 then (if 0 ≤ x207 then (if x207 < (x205.length:Int) then (if ((rd_T39 x205 x207).f0) = ((rd_T39 x205 x207).f1) then (laws_FnChainsListed.l2 k x5 x6 x7 x10 x14 x18 (wrap64 ((wrap64 (x26 + 2)) - 1)) x205 x206 (wrap64 (x207 + 1))) else (laws_FnChainsListed.l2 k x5 x6 x7 x10 x14 x18 (wrap64 (x26 + 2)) x205 x206 (wrap64 (x207 + 1)))) else (none)) else (none)) else (if x18 > 0 then (if 0 < (x10.length:Int) then (if (rd x10 0) = x26 then (laws_FnChainsListed.j5 k x5 x6 x7 x14) else (none)) else (none)) else (laws_FnChainsListed.j5 k x5 x6 x7 x14))
def laws_FnChainsListed.j5:Nat → List (S39) → List (List Int) → Bool → List Int → Option (Bool)
  | 0,_,_,_,_ => none
  | k + 1,x5,x6,x7,x14 => if x7 = true then (laws_FnChainsListed.l3 k x5 x6 x14 x6 (x6.length:Int) 0) else (laws_FnChainsListed.j6 k)
def laws_FnChainsListed.l3:Nat → List (S39) → List (List Int) → List Int → List (List Int) → Int → Int → Option (Bool)
  | 0,_,_,_,_,_,_ => none
  | k + 1,x5,x6,x14,x231,x232,x233 => if x233 < x232 then (if 0 ≤ x233 then (if x233 < (x231.length:Int) then ((impl_TilesOfChain.f k (rd_L4 x231 x233)).bind fun b16 => (if b16.2 = true then (if (b16.1.length:Int) = (x5.length:Int) then (if x233 > 0 then (if 0 ≤ (wrap64 (x233 - 1)) then (if (wrap64 (x233 - 1)) < (x6.length:Int) then ((laws_iLess.f k (rd_L4 x6 (wrap64 (x233 - 1))) (rd_L4 x231 x233)).bind fun b17 => (if b17 = true then (laws_FnChainsListed.l4 k x5 x6 x14 (rd_L4 x231 x233) x231 x232 x233 b16.1 (b16.1.length:Int) 0) else (none))) else (none)) else (none)) else (laws_FnChainsListed.l4 k x5 x6 x14 (rd_L4 x231 x233) x231 x232 x233 b16.1 (b16.1.length:Int) 0)) else (none)) else (none))) else (none)) else (none)) else (if (x6.length:Int) > 0 then ((laws_iSame.f k (rd_L4 x6 0) x14).bind fun b21 => (if b21 = true then (laws_FnChainsListed.j6 k) else (none))) else (laws_FnChainsListed.j6 k))
def laws_FnChainsListed.l4:Nat → List (S39) → List (List Int) → List Int → List Int → List (List Int) → Int → Int → List (S39) → Int → Int → Option (Bool)
  | 0,_,_,_,_,_,_,_,_,_,_ => none
  | k + 1,x5,x6,x14,x30,x231,x232,x233,x266,x267,x268 => if x268 < x267 then (if 0 ≤ x268 then (if x268 < (x266.length:Int) then ((laws_iIn.f k x5 ((rd_T39 x266 x268).f0) ((rd_T39 x266 x268).f1)).bind fun b18 => (if b18 = true then (laws_FnChainsListed.l4 k x5 x6 x14 x30 x231 x232 x233 x266 x267 (wrap64 (x268 + 1))) else (none))) else (none)) else (none)) else ((impl_TurnChain.f k x30).bind fun b19 => (laws_FnChainsListed.l5 k x5 x6 x14 b19.1 b19.2 false x231 x232 x233 x6 (x6.length:Int) 0))
def laws_FnChainsListed.l5:Nat → List (S39) → List (List Int) → List Int → List Int → Bool → Bool → List (List Int) → Int → Int → List (List Int) → Int → Int → Option (Bool)
  | 0,_,_,_,_,_,_,_,_,_,_,_,_ => none
  | k + 1,x5,x6,x14,x35,x36,x37,x231,x232,x233,x282,x283,x284 => if x284 < x283 then (if 0 ≤ x284 then (if x284 < (x282.length:Int) then (if x37 = true then (laws_FnChainsListed.l5 k x5 x6 x14 x35 x36 true x231 x232 x233 x282 x283 (wrap64 (x284 + 1))) else ((laws_iSame.f k (rd_L4 x282 x284) x35).bind fun b20 => (laws_FnChainsListed.l5 k x5 x6 x14 x35 x36 b20 x231 x232 x233 x282 x283 (wrap64 (x284 + 1))))) else (none)) else (none)) else (if x36 = true then (if x37 = true then (laws_FnChainsListed.l3 k x5 x6 x14 x231 x232 (wrap64 (x233 + 1))) else (none)) else (none))
def laws_FnChainsListed.j6:Nat → Option (Bool)
  | 0 => none
  | k + 1 => some (true)
end
def laws_FnChainsListed.f (k:Nat) (l0:List Int) (l1:List Int):Option (Bool):=(laws_big.f l0 l1).bind fun b1 => (if b1 = true then (some (true)) else ((spec_DrawAllChains.f k l0).bind fun b2 => ((g6_impl_AllChains.f k b2).bind fun b3 => ((g7_spec_AllChains.f k b2).bind fun b4 => ((g8_impl_CountByTiles.f k b2).bind fun b5 => ((g9_spec_CountByTiles.f k b2).bind fun b6 => ((g10_impl_LongestChain.f k b2).bind fun b7 => ((g11_spec_LongestChain.f k b2).bind fun b8 => (if b3.2 = b4.2 then ((laws_iRows.f k b3.1 b4.1).bind fun b9 => (if b9 = true then (if b5.2 = b6.2 then ((laws_iSame.f k b5.1 b6.1).bind fun b10 => (if b10 = true then (if b7.2 = b8.2 then ((laws_iSame.f k b7.1 b8.1).bind fun b11 => (if b11 = true then (if b7.2 = b5.2 then (if b3.2 = true then (if b5.2 = true then ((impl_IsHand.f k b2).bind fun b12 => (if b12 = true then (laws_FnChainsListed.j0 k b2 b3.1 true b5.1 true b7.1 (!(true == (decide ((b2.length:Int) ≤ 8))))) else (laws_FnChainsListed.j0 k b2 b3.1 true b5.1 true b7.1 true))) else (laws_FnChainsListed.j0 k b2 b3.1 true b5.1 false b7.1 true)) else ((impl_IsHand.f k b2).bind fun b23 => (if b23 = true then (laws_FnChainsListed.j0 k b2 b3.1 false b5.1 b5.2 b7.1 (!(b5.2 == (decide ((b2.length:Int) ≤ 8))))) else (laws_FnChainsListed.j0 k b2 b3.1 false b5.1 b5.2 b7.1 (!(b5.2 == false)))))) else (laws_FnChainsListed.j0 k b2 b3.1 b3.2 b5.1 b5.2 b7.1 true)) else (laws_FnChainsListed.j0 k b2 b3.1 b3.2 b5.1 b5.2 b7.1 true))) else (laws_FnChainsListed.j0 k b2 b3.1 b3.2 b5.1 b5.2 b7.1 true)) else (laws_FnChainsListed.j0 k b2 b3.1 b3.2 b5.1 b5.2 b7.1 true))) else (laws_FnChainsListed.j0 k b2 b3.1 b3.2 b5.1 b5.2 b7.1 true)) else (laws_FnChainsListed.j0 k b2 b3.1 b3.2 b5.1 b5.2 b7.1 true))) else (laws_FnChainsListed.j0 k b2 b3.1 b3.2 b5.1 b5.2 b7.1 true))))))))))

def hn3:Hint:=⟨[(25,[338]),(28,[341]),(34,[347]),(213,[341]),(215,[341])],[]⟩
def o3 (r:Bool):List AV:=[vb r]
def p3 (r:Bool):List (Nat × AV):=[]
def q3_l3 (r:Bool) (k:Nat) (L:List (Nat × AV)):Prop:=∃ (x5:List (S39)) (x6:List (List Int)) (x14:List Int) (x231:List (List Int)) (x232:Int) (x233:Int),L = [(5,.sl (iS39 x5)),(6,.sl (iL (iI .i64) x6)),(14,.sl (iI .i64 x14)),(231,.sl (iL (iI .i64) x231)),(232,vi x232),(233,vi x233)] ∧ laws_FnChainsListed.l3 k x5 x6 x14 x231 x232 x233 = some r
theorem q3_l3_mk {r:Bool} {k:Nat} {x5:List (S39)} {x6:List (List Int)} {x14:List Int} {x231:List (List Int)} {x232:Int} {x233:Int} (h:laws_FnChainsListed.l3 k x5 x6 x14 x231 x232 x233 = some r):q3_l3 r k [(5,.sl (iS39 x5)),(6,.sl (iL (iI .i64) x6)),(14,.sl (iI .i64 x14)),(231,.sl (iL (iI .i64) x231)),(232,vi x232),(233,vi x233)]:=⟨x5,x6,x14,x231,x232,x233,rfl,h⟩
def q3_l4 (r:Bool) (K0:Nat) (k:Nat) (L:List (Nat × AV)):Prop:=k < K0 ∧ ∃ (x5:List (S39)) (x6:List (List Int)) (x14:List Int) (x30:List Int) (x231:List (List Int)) (x232:Int) (x233:Int) (x266:List (S39)) (x267:Int) (x268:Int),L = [(5,.sl (iS39 x5)),(6,.sl (iL (iI .i64) x6)),(14,.sl (iI .i64 x14)),(30,.sl (iI .i64 x30)),(231,.sl (iL (iI .i64) x231)),(232,vi x232),(233,vi x233),(266,.sl (iS39 x266)),(267,vi x267),(268,vi x268)] ∧ laws_FnChainsListed.l4 k x5 x6 x14 x30 x231 x232 x233 x266 x267 x268 = some r
theorem q3_l4_mk {r:Bool} {K0:Nat} {k:Nat} {x5:List (S39)} {x6:List (List Int)} {x14:List Int} {x30:List Int} {x231:List (List Int)} {x232:Int} {x233:Int} {x266:List (S39)} {x267:Int} {x268:Int} (hk0:k < K0) (h:laws_FnChainsListed.l4 k x5 x6 x14 x30 x231 x232 x233 x266 x267 x268 = some r):q3_l4 r K0 k [(5,.sl (iS39 x5)),(6,.sl (iL (iI .i64) x6)),(14,.sl (iI .i64 x14)),(30,.sl (iI .i64 x30)),(231,.sl (iL (iI .i64) x231)),(232,vi x232),(233,vi x233),(266,.sl (iS39 x266)),(267,vi x267),(268,vi x268)]:=⟨hk0,x5,x6,x14,x30,x231,x232,x233,x266,x267,x268,rfl,h⟩
def q3_l0 (r:Bool) (k:Nat) (L:List (Nat × AV)):Prop:=∃ (x5:List (S39)) (x6:List (List Int)) (x7:Bool) (x10:List Int) (x14:List Int) (x18:Int) (x170:List Int) (x171:Int) (x172:Int),L = [(5,.sl (iS39 x5)),(6,.sl (iL (iI .i64) x6)),(7,vb x7),(10,.sl (iI .i64 x10)),(14,.sl (iI .i64 x14)),(18,vi x18),(170,.sl (iI .i64 x170)),(171,vi x171),(172,vi x172)] ∧ laws_FnChainsListed.l0 k x5 x6 x7 x10 x14 x18 x170 x171 x172 = some r
theorem q3_l0_mk {r:Bool} {k:Nat} {x5:List (S39)} {x6:List (List Int)} {x7:Bool} {x10:List Int} {x14:List Int} {x18:Int} {x170:List Int} {x171:Int} {x172:Int} (h:laws_FnChainsListed.l0 k x5 x6 x7 x10 x14 x18 x170 x171 x172 = some r):q3_l0 r k [(5,.sl (iS39 x5)),(6,.sl (iL (iI .i64) x6)),(7,vb x7),(10,.sl (iI .i64 x10)),(14,.sl (iI .i64 x14)),(18,vi x18),(170,.sl (iI .i64 x170)),(171,vi x171),(172,vi x172)]:=⟨x5,x6,x7,x10,x14,x18,x170,x171,x172,rfl,h⟩
def q3_l5 (r:Bool) (K0:Nat) (k:Nat) (L:List (Nat × AV)):Prop:=k < K0 ∧ ∃ (x5:List (S39)) (x6:List (List Int)) (x14:List Int) (x35:List Int) (x36:Bool) (x37:Bool) (x231:List (List Int)) (x232:Int) (x233:Int) (x282:List (List Int)) (x283:Int) (x284:Int),L = [(5,.sl (iS39 x5)),(6,.sl (iL (iI .i64) x6)),(14,.sl (iI .i64 x14)),(35,.sl (iI .i64 x35)),(36,vb x36),(37,vb x37),(231,.sl (iL (iI .i64) x231)),(232,vi x232),(233,vi x233),(282,.sl (iL (iI .i64) x282)),(283,vi x283),(284,vi x284)] ∧ laws_FnChainsListed.l5 k x5 x6 x14 x35 x36 x37 x231 x232 x233 x282 x283 x284 = some r
theorem q3_l5_mk {r:Bool} {K0:Nat} {k:Nat} {x5:List (S39)} {x6:List (List Int)} {x14:List Int} {x35:List Int} {x36:Bool} {x37:Bool} {x231:List (List Int)} {x232:Int} {x233:Int} {x282:List (List Int)} {x283:Int} {x284:Int} (hk0:k < K0) (h:laws_FnChainsListed.l5 k x5 x6 x14 x35 x36 x37 x231 x232 x233 x282 x283 x284 = some r):q3_l5 r K0 k [(5,.sl (iS39 x5)),(6,.sl (iL (iI .i64) x6)),(14,.sl (iI .i64 x14)),(35,.sl (iI .i64 x35)),(36,vb x36),(37,vb x37),(231,.sl (iL (iI .i64) x231)),(232,vi x232),(233,vi x233),(282,.sl (iL (iI .i64) x282)),(283,vi x283),(284,vi x284)]:=⟨hk0,x5,x6,x14,x35,x36,x37,x231,x232,x233,x282,x283,x284,rfl,h⟩
def q3_l1 (r:Bool) (k:Nat) (L:List (Nat × AV)):Prop:=∃ (x5:List (S39)) (x6:List (List Int)) (x7:Bool) (x10:List Int) (x14:List Int) (x18:Int) (x194:List (S39)) (x195:Int) (x196:Int),L = [(5,.sl (iS39 x5)),(6,.sl (iL (iI .i64) x6)),(7,vb x7),(10,.sl (iI .i64 x10)),(14,.sl (iI .i64 x14)),(18,vi x18),(194,.sl (iS39 x194)),(195,vi x195),(196,vi x196)] ∧ laws_FnChainsListed.l1 k x5 x6 x7 x10 x14 x18 x194 x195 x196 = some r
theorem q3_l1_mk {r:Bool} {k:Nat} {x5:List (S39)} {x6:List (List Int)} {x7:Bool} {x10:List Int} {x14:List Int} {x18:Int} {x194:List (S39)} {x195:Int} {x196:Int} (h:laws_FnChainsListed.l1 k x5 x6 x7 x10 x14 x18 x194 x195 x196 = some r):q3_l1 r k [(5,.sl (iS39 x5)),(6,.sl (iL (iI .i64) x6)),(7,vb x7),(10,.sl (iI .i64 x10)),(14,.sl (iI .i64 x14)),(18,vi x18),(194,.sl (iS39 x194)),(195,vi x195),(196,vi x196)]:=⟨x5,x6,x7,x10,x14,x18,x194,x195,x196,rfl,h⟩
def q3_l2 (r:Bool) (k:Nat) (L:List (Nat × AV)):Prop:=∃ (x5:List (S39)) (x6:List (List Int)) (x7:Bool) (x10:List Int) (x14:List Int) (x18:Int) (x26:Int) (x205:List (S39)) (x206:Int) (x207:Int),L = [(5,.sl (iS39 x5)),(6,.sl (iL (iI .i64) x6)),(7,vb x7),(10,.sl (iI .i64 x10)),(14,.sl (iI .i64 x14)),(18,vi x18),(26,vi x26),(205,.sl (iS39 x205)),(206,vi x206),(207,vi x207)] ∧ laws_FnChainsListed.l2 k x5 x6 x7 x10 x14 x18 x26 x205 x206 x207 = some r
theorem q3_l2_mk {r:Bool} {k:Nat} {x5:List (S39)} {x6:List (List Int)} {x7:Bool} {x10:List Int} {x14:List Int} {x18:Int} {x26:Int} {x205:List (S39)} {x206:Int} {x207:Int} (h:laws_FnChainsListed.l2 k x5 x6 x7 x10 x14 x18 x26 x205 x206 x207 = some r):q3_l2 r k [(5,.sl (iS39 x5)),(6,.sl (iL (iI .i64) x6)),(7,vb x7),(10,.sl (iI .i64 x10)),(14,.sl (iI .i64 x14)),(18,vi x18),(26,vi x26),(205,.sl (iS39 x205)),(206,vi x206),(207,vi x207)]:=⟨x5,x6,x7,x10,x14,x18,x26,x205,x206,x207,rfl,h⟩
theorem at3_j6 {r:Bool} {k:Nat}  (h:laws_FnChainsListed.j6 k  = some r):AtP Try.prog 313 (bodyOf Try.f3) (KR Try.prog Try.f3.results.toList (o3 r) (p3 r)) [true,true,true,true,true,true,true,true,true,true,true,true] [] (lookA []):=by
 cases k with
 | zero => simp [laws_FnChainsListed.j6] at h
 | succ k =>
  rw [laws_FnChainsListed.j6] at h
  refine at_ (hn:=hn3) ?_
  obtain rfl:=Option.some.inj h
  exact leafRet (hn:=hn3) 4 [] [] .ret (.inr rfl) (by kernel_rfl) True.intro (by kernel_rfl)
theorem at3_l5 {r:Bool} {K0:Nat}:∀ k L,q3_l5 r K0 k L → AtP Try.prog 313 (bodyOf Try.f3) (KR Try.prog Try.f3.results.toList (o3 r) (p3 r)) [true,true,true,true,true,true,true,true,true,true,true,false,true,false,false,true,false,false,true,true,false,false,true,true,true,true,true,true,false,true,false] [upto (q3_l3 r) K0] (lookA L) :=
 at_loop (by kernel_rfl) (fun _ => by kernel_rfl) (q3_l5 r K0) (by
  rintro k _ ⟨hk0,x5,x6,x14,x35,x36,x37,x231,x232,x233,x282,x283,x284,rfl,h⟩
  cases k with
  | zero => simp [laws_FnChainsListed.l5] at h
  | succ k =>
   rw [laws_FnChainsListed.l5] at h
   have hk0:=Nat.lt_of_succ_lt hk0
   refine at_ (hn:=hn3) ?_
   rcases ite_ h with ⟨g1,h2⟩ | ⟨g1,h2⟩
   ·obtain ⟨g3,h4⟩:=ip_ h2
    obtain ⟨g5,h6⟩:=ip_ h4
    refine mid (hn:=hn3) 12 2 [.val (.bool true),.elem (.sl (iI .i64 (rd_L4 x282 x284)))] (And.intro (int_lss (P:=Try.prog) (t:=3) (k:=.i64) (x:=(.tmp 284)) (y:=(.tmp 283)) (a:=x284) (b:=x283) (v:=true) (decide_eq_true g1)) (iL_rd (f:=(iI .i64)) (xs:=x282) (i:=x284) g3 g5)) (by kernel_rfl) ?_
    rcases ite_ h6 with ⟨g7,h8⟩ | ⟨g7,h8⟩
    ·subst g7
     exact leafBack (hn:=hn3) 4 [.val (.int .i64 (wrap64 (x284 + 1)))] [] (q3_l5_mk hk0 h8) (Nat.lt_succ_self k) (int_add (P:=Try.prog) (t:=3) (k:=.i64) (x:=(.tmp 284)) (y:=(.const (.int .i64 1))) (a:=x284) (b:=1) (c:=(wrap64 (x284 + 1))) (IntWalk.i64_left _)) (by kernel_rfl)
    ·obtain rfl:=Bool.eq_false_iff.2 g7
     obtain ⟨b20,c9,h10⟩:=bd_ h8
     exact leafBack (hn:=hn3) 4 [.call (vb b20),.val (.int .i64 (wrap64 (x284 + 1)))] [] (q3_l5_mk hk0 h10) (Nat.lt_succ_self k) (And.intro (ad_13 c9) (int_add (P:=Try.prog) (t:=3) (k:=.i64) (x:=(.tmp 284)) (y:=(.const (.int .i64 1))) (a:=x284) (b:=1) (c:=(wrap64 (x284 + 1))) (IntWalk.i64_left _))) (by kernel_rfl)
   ·refine mid (hn:=hn3) 11 3 [.val (.bool false)] (int_lss (P:=Try.prog) (t:=3) (k:=.i64) (x:=(.tmp 284)) (y:=(.tmp 283)) (a:=x284) (b:=x283) (v:=false) (decide_eq_false g1)) (by kernel_rfl) ?_
    obtain ⟨g11,h12⟩:=ip_ h2
    subst g11
    obtain ⟨g13,h14⟩:=ip_ h12
    subst g13
    exact leafBack (hn:=hn3) 7 [.val (.int .i64 (wrap64 (x233 + 1)))] [] (q3_l3_mk h14) hk0 (int_add (P:=Try.prog) (t:=3) (k:=.i64) (x:=(.tmp 233)) (y:=(.const (.int .i64 1))) (a:=x233) (b:=1) (c:=(wrap64 (x233 + 1))) (IntWalk.i64_left _)) (by kernel_rfl))
theorem at3_l4 {r:Bool} {K0:Nat}:∀ k L,q3_l4 r K0 k L → AtP Try.prog 313 (bodyOf Try.f3) (KR Try.prog Try.f3.results.toList (o3 r) (p3 r)) [true,true,true,true,true,true,true,true,true,true,true,false,true,false,false,true,false,false,true,true,false,false,true,true,true,false,true,false] [upto (q3_l3 r) K0] (lookA L) :=
 at_loop (by kernel_rfl) (fun _ => by kernel_rfl) (q3_l4 r K0) (by
  rintro k _ ⟨hk0,x5,x6,x14,x30,x231,x232,x233,x266,x267,x268,rfl,h⟩
  cases k with
  | zero => simp [laws_FnChainsListed.l4] at h
  | succ k =>
   rw [laws_FnChainsListed.l4] at h
   have hk0:=Nat.lt_of_succ_lt hk0
   refine at_ (hn:=hn3) ?_
   rcases ite_ h with ⟨g1,h2⟩ | ⟨g1,h2⟩
   ·obtain ⟨g3,h4⟩:=ip_ h2
    obtain ⟨g5,h6⟩:=ip_ h4
    obtain ⟨b18,c7,h8⟩:=bd_ h6
    refine mid (hn:=hn3) 13 3 [.val (.bool true),.elem (.agg [vi ((rd_T39 x266 x268).f0),vi ((rd_T39 x266 x268).f1)]),.call (vb b18)] (And.intro (int_lss (P:=Try.prog) (t:=3) (k:=.i64) (x:=(.tmp 268)) (y:=(.tmp 267)) (a:=x268) (b:=x267) (v:=true) (decide_eq_true g1)) (And.intro (iS39_rd (xs:=x266) (i:=x268) g3 g5) (ad_17 c7))) (by kernel_rfl) ?_
    obtain ⟨g9,h10⟩:=ip_ h8
    subst g9
    exact leafBack (hn:=hn3) 7 [.val (.int .i64 (wrap64 (x268 + 1)))] [] (q3_l4_mk hk0 h10) (Nat.lt_succ_self k) (int_add (P:=Try.prog) (t:=3) (k:=.i64) (x:=(.tmp 268)) (y:=(.const (.int .i64 1))) (a:=x268) (b:=1) (c:=(wrap64 (x268 + 1))) (IntWalk.i64_left _)) (by kernel_rfl)
   ·obtain ⟨⟨b19_1,b19_2⟩,c11,h12⟩:=bd_ h2
    try dsimp only at h12
    exact leafAt (hn:=hn3) 21 [.val (.bool false),.call (.tup [.sl (iI .i64 b19_1),vb b19_2]),.val (.int .i64 (x6.length:Int))] [] (at3_l5 _ _ (q3_l5_mk hk0 h12)) (And.intro (int_lss (P:=Try.prog) (t:=3) (k:=.i64) (x:=(.tmp 268)) (y:=(.tmp 267)) (a:=x268) (b:=x267) (v:=false) (decide_eq_false g1)) (And.intro (ad_19 c11) (iL_len (f:=(iI .i64)) (xs:=x6)))) (by kernel_rfl))
theorem at3_l3 {r:Bool}:∀ k L,q3_l3 r k L → AtP Try.prog 313 (bodyOf Try.f3) (KR Try.prog Try.f3.results.toList (o3 r) (p3 r)) [true,true,true,true,true,true,true,true,true,true,true,false,true,false,false,true,false] [] (lookA L) :=
 at_loop (by kernel_rfl) (fun _ => by kernel_rfl) (q3_l3 r) (by
  rintro k _ ⟨x5,x6,x14,x231,x232,x233,rfl,h⟩
  cases k with
  | zero => simp [laws_FnChainsListed.l3] at h
  | succ k =>
   rw [laws_FnChainsListed.l3] at h
   refine at_ (hn:=hn3) ?_
   rcases ite_ h with ⟨g1,h2⟩ | ⟨g1,h2⟩
   ·obtain ⟨g3,h4⟩:=ip_ h2
    obtain ⟨g5,h6⟩:=ip_ h4
    obtain ⟨⟨b16_1,b16_2⟩,c7,h8⟩:=bd_ h6
    try dsimp only at h8
    refine mid (hn:=hn3) 17 3 [.val (.bool true),.elem (.sl (iI .i64 (rd_L4 x231 x233))),.call (.tup [.sl (iS39 b16_1),vb b16_2])] (And.intro (int_lss (P:=Try.prog) (t:=3) (k:=.i64) (x:=(.tmp 233)) (y:=(.tmp 232)) (a:=x233) (b:=x232) (v:=true) (decide_eq_true g1)) (And.intro (iL_rd (f:=(iI .i64)) (xs:=x231) (i:=x233) g3 g5) (ad_16 c7))) (by kernel_rfl) ?_
    obtain ⟨g9,h10⟩:=ip_ h8
    subst g9
    obtain ⟨g11,h12⟩:=ip_ h10
    refine mid (hn:=hn3) 0 8 [.val (.int .i64 (b16_1.length:Int)),.val (.int .i64 (x5.length:Int)),.val (.bool false)] (And.intro (iS39_len (xs:=b16_1)) (And.intro (iS39_len (xs:=x5)) (int_neq (P:=Try.prog) (t:=3) (k:=.i64) (x:=(.tmp 247)) (y:=(.tmp 249)) (a:=(b16_1.length:Int)) (b:=(x5.length:Int)) (v:=false) (nbeq_f g11)))) (by kernel_rfl) ?_
    rcases ite_ h12 with ⟨g13,h14⟩ | ⟨g13,h14⟩
    ·obtain ⟨g15,h16⟩:=ip_ h14
     obtain ⟨g17,h18⟩:=ip_ h16
     obtain ⟨b17,c19,h20⟩:=bd_ h18
     refine mid (hn:=hn3) 0 11 [.val (.bool true),.val (.int .i64 (wrap64 (x233 - 1))),.elem (.sl (iI .i64 (rd_L4 x6 (wrap64 (x233 - 1))))),.call (vb b17)] (And.intro (int_gtr (P:=Try.prog) (t:=3) (k:=.i64) (x:=(.tmp 253)) (y:=(.const (.int .i64 0))) (a:=x233) (b:=0) (v:=true) (decide_eq_true g13)) (And.intro (int_sub (P:=Try.prog) (t:=3) (k:=.i64) (x:=(.tmp 257)) (y:=(.const (.int .i64 1))) (a:=x233) (b:=1) (c:=(wrap64 (x233 - 1))) (IntWalk.i64_left _)) (And.intro (iL_rd (f:=(iI .i64)) (xs:=x6) (i:=(wrap64 (x233 - 1))) g15 g17) (ad_18 c19)))) (by kernel_rfl) ?_
     obtain ⟨g21,h22⟩:=ip_ h20
     subst g21
     exact leafAt (hn:=hn3) 10 [.val (.int .i64 (b16_1.length:Int))] [] (at3_l4 _ _ (q3_l4_mk (Nat.lt_succ_self k) h22)) (iS39_len (xs:=b16_1)) (by kernel_rfl)
    ·exact leafAt (hn:=hn3) 10 [.val (.bool false),.val (.int .i64 (b16_1.length:Int))] [] (at3_l4 _ _ (q3_l4_mk (Nat.lt_succ_self k) h14)) (And.intro (int_gtr (P:=Try.prog) (t:=3) (k:=.i64) (x:=(.tmp 253)) (y:=(.const (.int .i64 0))) (a:=x233) (b:=0) (v:=false) (decide_eq_false g13)) (iS39_len (xs:=b16_1))) (by kernel_rfl)
   ·refine mid (hn:=hn3) 11 2 [.val (.bool false),.val (.int .i64 (x6.length:Int))] (And.intro (int_lss (P:=Try.prog) (t:=3) (k:=.i64) (x:=(.tmp 233)) (y:=(.tmp 232)) (a:=x233) (b:=x232) (v:=false) (decide_eq_false g1)) (iL_len (f:=(iI .i64)) (xs:=x6))) (by kernel_rfl) ?_
    rcases ite_ h2 with ⟨g23,h24⟩ | ⟨g23,h24⟩
    ·obtain ⟨b21,c25,h26⟩:=bd_ h24
     refine mid (hn:=hn3) 0 8 [.val (.bool true),.elem (.sl (iI .i64 (rd_L4 x6 0))),.call (vb b21)] (And.intro (int_gtr (P:=Try.prog) (t:=3) (k:=.i64) (x:=(.tmp 303)) (y:=(.const (.int .i64 0))) (a:=(x6.length:Int)) (b:=0) (v:=true) (decide_eq_true g23)) (And.intro (iL_rd (f:=(iI .i64)) (xs:=x6) (i:=0) (by decide) (by omega)) (ad_13 c25))) (by kernel_rfl) ?_
     obtain ⟨g27,h28⟩:=ip_ h26
     subst g27
     exact leafAt (hn:=hn3) 5 [] [] (at3_j6 h28) True.intro (by kernel_rfl)
    ·exact leafAt (hn:=hn3) 5 [.val (.bool false)] [] (at3_j6 h24) (int_gtr (P:=Try.prog) (t:=3) (k:=.i64) (x:=(.tmp 303)) (y:=(.const (.int .i64 0))) (a:=(x6.length:Int)) (b:=0) (v:=false) (decide_eq_false g23)) (by kernel_rfl))
theorem at3_j5 {r:Bool} {k:Nat} {x5:List (S39)} {x6:List (List Int)} {x7:Bool} {x14:List Int} (h:laws_FnChainsListed.j5 k x5 x6 x7 x14 = some r):AtP Try.prog 313 (bodyOf Try.f3) (KR Try.prog Try.f3.results.toList (o3 r) (p3 r)) [true,true,true,true,true,true,true,true,true,true,true] [] (lookA [(5,.sl (iS39 x5)),(6,.sl (iL (iI .i64) x6)),(7,vb x7),(14,.sl (iI .i64 x14))]):=by
 cases k with
 | zero => simp [laws_FnChainsListed.j5] at h
 | succ k =>
  rw [laws_FnChainsListed.j5] at h
  refine at_ (hn:=hn3) ?_
  rcases ite_ h with ⟨g1,h2⟩ | ⟨g1,h2⟩
  ·subst g1
   exact leafAt (hn:=hn3) 10 [.val (.int .i64 (x6.length:Int))] [] (at3_l3 _ _ (q3_l3_mk h2)) (iL_len (f:=(iI .i64)) (xs:=x6)) (by kernel_rfl)
  ·obtain rfl:=Bool.eq_false_iff.2 g1
   exact leafAt (hn:=hn3) 7 [] [] (at3_j6 h2) True.intro (by kernel_rfl)
theorem at3_l2 {r:Bool}:∀ k L,q3_l2 r k L → AtP Try.prog 313 (bodyOf Try.f3) (KR Try.prog Try.f3.results.toList (o3 r) (p3 r)) [true,true,true,true,true,true,true,true,true,true,false,true,false,true,true,true,true,true,true,true,true,true,false,true,false] [] (lookA L) :=
 at_loop (by kernel_rfl) (fun _ => by kernel_rfl) (q3_l2 r) (by
  rintro k _ ⟨x5,x6,x7,x10,x14,x18,x26,x205,x206,x207,rfl,h⟩
  cases k with
  | zero => simp [laws_FnChainsListed.l2] at h
  | succ k =>
   rw [laws_FnChainsListed.l2] at h
   refine at_ (hn:=hn3) ?_
   rcases ite_ h with ⟨g1,h2⟩ | ⟨g1,h2⟩
   ·obtain ⟨g3,h4⟩:=ip_ h2
    obtain ⟨g5,h6⟩:=ip_ h4
    refine mid (hn:=hn3) 16 4 [.val (.bool true),.elem (.agg [vi ((rd_T39 x205 x207).f0),vi ((rd_T39 x205 x207).f1)]),.val (.int .i64 (wrap64 (x26 + 2)))] (And.intro (int_lss (P:=Try.prog) (t:=3) (k:=.i64) (x:=(.tmp 207)) (y:=(.tmp 206)) (a:=x207) (b:=x206) (v:=true) (decide_eq_true g1)) (And.intro (iS39_rd (xs:=x205) (i:=x207) g3 g5) (int_add (P:=Try.prog) (t:=3) (k:=.i64) (x:=(.tmp 211)) (y:=(.const (.int .i64 2))) (a:=x26) (b:=2) (c:=(wrap64 (x26 + 2))) (IntWalk.i64_left _)))) (by kernel_rfl) ?_
    rcases ite_ h6 with ⟨g7,h8⟩ | ⟨g7,h8⟩
    ·exact leafBack (hn:=hn3) 7 [.val (.bool true),.val (.int .i64 (wrap64 ((wrap64 (x26 + 2)) - 1))),.val (.int .i64 (wrap64 (x207 + 1)))] [] (q3_l2_mk h8) (Nat.lt_succ_self k) (And.intro (int_eql (P:=Try.prog) (t:=3) (k:=.i64) (x:=(.tmp 214)) (y:=(.tmp 216)) (a:=((rd_T39 x205 x207).f0)) (b:=((rd_T39 x205 x207).f1)) (v:=true) (beq_iff_eq.2 g7)) (And.intro (int_sub (P:=Try.prog) (t:=3) (k:=.i64) (x:=(.tmp 218)) (y:=(.const (.int .i64 1))) (a:=(wrap64 (x26 + 2))) (b:=1) (c:=(wrap64 ((wrap64 (x26 + 2)) - 1))) (IntWalk.i64_left _)) (int_add (P:=Try.prog) (t:=3) (k:=.i64) (x:=(.tmp 207)) (y:=(.const (.int .i64 1))) (a:=x207) (b:=1) (c:=(wrap64 (x207 + 1))) (IntWalk.i64_left _)))) (by kernel_rfl)
    ·exact leafBack (hn:=hn3) 7 [.val (.bool false),.val (.int .i64 (wrap64 (x207 + 1)))] [] (q3_l2_mk h8) (Nat.lt_succ_self k) (And.intro (int_eql (P:=Try.prog) (t:=3) (k:=.i64) (x:=(.tmp 214)) (y:=(.tmp 216)) (a:=((rd_T39 x205 x207).f0)) (b:=((rd_T39 x205 x207).f1)) (v:=false) (beq_false_of_ne g7)) (int_add (P:=Try.prog) (t:=3) (k:=.i64) (x:=(.tmp 207)) (y:=(.const (.int .i64 1))) (a:=x207) (b:=1) (c:=(wrap64 (x207 + 1))) (IntWalk.i64_left _))) (by kernel_rfl)
   ·refine mid (hn:=hn3) 11 1 [.val (.bool false)] (int_lss (P:=Try.prog) (t:=3) (k:=.i64) (x:=(.tmp 207)) (y:=(.tmp 206)) (a:=x207) (b:=x206) (v:=false) (decide_eq_false g1)) (by kernel_rfl) ?_
    rcases ite_ h2 with ⟨g9,h10⟩ | ⟨g9,h10⟩
    ·obtain ⟨g11,h12⟩:=ip_ h10
     obtain ⟨g13,h14⟩:=ip_ h12
     exact leafAt (hn:=hn3) 5 [.val (.bool true),.elem (vi (rd x10 0)),.val (.bool false)] [] (at3_j5 h14) (And.intro (int_gtr (P:=Try.prog) (t:=3) (k:=.i64) (x:=(.tmp 221)) (y:=(.const (.int .i64 0))) (a:=x18) (b:=0) (v:=true) (decide_eq_true g9)) (And.intro (iI_rd (k:=.i64) (xs:=x10) (i:=0) (by decide) g11) (int_neq (P:=Try.prog) (t:=3) (k:=.i64) (x:=(.tmp 226)) (y:=(.tmp 227)) (a:=(rd x10 0)) (b:=x26) (v:=false) (nbeq_f g13)))) (by kernel_rfl)
    ·exact leafAt (hn:=hn3) 5 [.val (.bool false)] [] (at3_j5 h10) (int_gtr (P:=Try.prog) (t:=3) (k:=.i64) (x:=(.tmp 221)) (y:=(.const (.int .i64 0))) (a:=x18) (b:=0) (v:=false) (decide_eq_false g9)) (by kernel_rfl))
theorem at3_l1 {r:Bool}:∀ k L,q3_l1 r k L → AtP Try.prog 313 (bodyOf Try.f3) (KR Try.prog Try.f3.results.toList (o3 r) (p3 r)) [true,true,true,true,true,true,true,true,true,true,false,true,false,true,true,true,true,true,true,true,false,true,false] [] (lookA L) :=
 at_loop (by kernel_rfl) (fun _ => by kernel_rfl) (q3_l1 r) (by
  rintro k _ ⟨x5,x6,x7,x10,x14,x18,x194,x195,x196,rfl,h⟩
  cases k with
  | zero => simp [laws_FnChainsListed.l1] at h
  | succ k =>
   rw [laws_FnChainsListed.l1] at h
   refine at_ (hn:=hn3) ?_
   rcases ite_ h with ⟨g1,h2⟩ | ⟨g1,h2⟩
   ·obtain ⟨g3,h4⟩:=ip_ h2
    obtain ⟨g5,h6⟩:=ip_ h4
    obtain ⟨b15,c7,h8⟩:=bd_ h6
    refine mid (hn:=hn3) 13 3 [.val (.bool true),.elem (.agg [vi ((rd_T39 x194 x196).f0),vi ((rd_T39 x194 x196).f1)]),.call (vb b15)] (And.intro (int_lss (P:=Try.prog) (t:=3) (k:=.i64) (x:=(.tmp 196)) (y:=(.tmp 195)) (a:=x196) (b:=x195) (v:=true) (decide_eq_true g1)) (And.intro (iS39_rd (xs:=x194) (i:=x196) g3 g5) (ad_17 c7))) (by kernel_rfl) ?_
    obtain ⟨g9,h10⟩:=ip_ h8
    subst g9
    exact leafBack (hn:=hn3) 7 [.val (.int .i64 (wrap64 (x196 + 1)))] [] (q3_l1_mk h10) (Nat.lt_succ_self k) (int_add (P:=Try.prog) (t:=3) (k:=.i64) (x:=(.tmp 196)) (y:=(.const (.int .i64 1))) (a:=x196) (b:=1) (c:=(wrap64 (x196 + 1))) (IntWalk.i64_left _)) (by kernel_rfl)
   ·exact leafAt (hn:=hn3) 18 [.val (.bool false),.val (.int .i64 (x5.length:Int))] [] (at3_l2 _ _ (q3_l2_mk h2)) (And.intro (int_lss (P:=Try.prog) (t:=3) (k:=.i64) (x:=(.tmp 196)) (y:=(.tmp 195)) (a:=x196) (b:=x195) (v:=false) (decide_eq_false g1)) (iS39_len (xs:=x5))) (by kernel_rfl))
theorem at3_l0 {r:Bool}:∀ k L,q3_l0 r k L → AtP Try.prog 313 (bodyOf Try.f3) (KR Try.prog Try.f3.results.toList (o3 r) (p3 r)) [true,true,true,true,true,true,true,true,true,true,false,true,false,true,true,true,true,false,true,false] [] (lookA L) :=
 at_loop (by kernel_rfl) (fun _ => by kernel_rfl) (q3_l0 r) (by
  rintro k _ ⟨x5,x6,x7,x10,x14,x18,x170,x171,x172,rfl,h⟩
  cases k with
  | zero => simp [laws_FnChainsListed.l0] at h
  | succ k =>
   rw [laws_FnChainsListed.l0] at h
   refine at_ (hn:=hn3) ?_
   rcases ite_ h with ⟨g1,h2⟩ | ⟨g1,h2⟩
   ·obtain ⟨g3,h4⟩:=ip_ h2
    obtain ⟨g5,h6⟩:=ip_ h4
    obtain ⟨g7,h8⟩:=ip_ h6
    exact leafBack (hn:=hn3) 20 [.val (.bool true),.elem (vi (rd x170 x172)),.val (.bool (decide ((rd x170 x172) > 0))),.val (.int .i64 (wrap64 (x172 + 1))),.val (.int .i64 (x14.length:Int)),.val (.int .i64 (wrap64 ((x14.length:Int) - 1))),.val (.bool (decide ((wrap64 (x172 + 1)) ≤ (wrap64 ((x14.length:Int) - 1))))),.val (.bool false),.val (.int .i64 (wrap64 (x172 + 1)))] [] (q3_l0_mk h8) (Nat.lt_succ_self k) (And.intro (int_lss (P:=Try.prog) (t:=3) (k:=.i64) (x:=(.tmp 172)) (y:=(.tmp 171)) (a:=x172) (b:=x171) (v:=true) (decide_eq_true g1)) (And.intro (iI_rd (k:=.i64) (xs:=x170) (i:=x172) g3 g5) (And.intro (And.intro (int_gtr (P:=Try.prog) (t:=3) (k:=.i64) (x:=(.tmp 177)) (y:=(.const (.int .i64 0))) (a:=(rd x170 x172)) (b:=0) (v:=(decide ((rd x170 x172) > 0))) rfl) (And.intro (int_add (P:=Try.prog) (t:=3) (k:=.i64) (x:=(.tmp 179)) (y:=(.const (.int .i64 1))) (a:=x172) (b:=1) (c:=(wrap64 (x172 + 1))) (IntWalk.i64_left _)) (And.intro (iI_len (k:=.i64) (xs:=x14)) (And.intro (int_sub (P:=Try.prog) (t:=3) (k:=.i64) (x:=(.tmp 182)) (y:=(.const (.int .i64 1))) (a:=(x14.length:Int)) (b:=1) (c:=(wrap64 ((x14.length:Int) - 1))) (IntWalk.i64_left _)) (And.intro (int_leq (P:=Try.prog) (t:=3) (k:=.i64) (x:=(.tmp 180)) (y:=(.tmp 183)) (a:=(wrap64 (x172 + 1))) (b:=(wrap64 ((x14.length:Int) - 1))) (v:=(decide ((wrap64 (x172 + 1)) ≤ (wrap64 ((x14.length:Int) - 1))))) rfl) (bool_neq (P:=Try.prog) (t:=4) (x:=(.tmp 178)) (y:=(.tmp 184)) (a:=(decide ((rd x170 x172) > 0))) (b:=(decide ((wrap64 (x172 + 1)) ≤ (wrap64 ((x14.length:Int) - 1))))) Try.underlying4 (v:=false) (nbb_f g7))))))) (int_add (P:=Try.prog) (t:=3) (k:=.i64) (x:=(.tmp 172)) (y:=(.const (.int .i64 1))) (a:=x172) (b:=1) (c:=(wrap64 (x172 + 1))) (IntWalk.i64_left _))))) (by kernel_rfl)
   ·obtain ⟨⟨b14_1,b14_2⟩,c9,h10⟩:=bd_ h2
    try dsimp only at h10
    refine mid (hn:=hn3) 15 1 [.val (.bool false),.call (.tup [.sl (iS39 b14_1),vb b14_2])] (And.intro (int_lss (P:=Try.prog) (t:=3) (k:=.i64) (x:=(.tmp 172)) (y:=(.tmp 171)) (a:=x172) (b:=x171) (v:=false) (decide_eq_false g1)) (ad_16 c9)) (by kernel_rfl) ?_
    obtain ⟨g11,h12⟩:=ip_ h10
    subst g11
    exact leafAt (hn:=hn3) 10 [.val (.int .i64 (b14_1.length:Int))] [] (at3_l1 _ _ (q3_l1_mk h12)) (iS39_len (xs:=b14_1)) (by kernel_rfl))
theorem at3_j4 {r:Bool} {k:Nat} {x5:List (S39)} {x6:List (List Int)} {x7:Bool} {x10:List Int} {x14:List Int} {x18:Int} (h:laws_FnChainsListed.j4 k x5 x6 x7 x10 x14 x18 = some r):AtP Try.prog 313 (bodyOf Try.f3) (KR Try.prog Try.f3.results.toList (o3 r) (p3 r)) [true,true,true,true,true,true,true,true,true,true,false,true,false,true,true,true,true] [] (lookA [(5,.sl (iS39 x5)),(6,.sl (iL (iI .i64) x6)),(7,vb x7),(10,.sl (iI .i64 x10)),(14,.sl (iI .i64 x14)),(18,vi x18)]):=by
 cases k with
 | zero => simp [laws_FnChainsListed.j4] at h
 | succ k =>
  rw [laws_FnChainsListed.j4] at h
  refine at_ (hn:=hn3) ?_
  exact leafAt (hn:=hn3) 5 [.val (.int .i64 (x10.length:Int))] [] (at3_l0 _ _ (q3_l0_mk h)) (iI_len (k:=.i64) (xs:=x10)) (by kernel_rfl)
theorem at3_j3 {r:Bool} {k:Nat} {x5:List (S39)} {x6:List (List Int)} {x7:Bool} {x10:List Int} {x14:List Int} {x18:Int} {x169:Bool} (h:laws_FnChainsListed.j3 k x5 x6 x7 x10 x14 x18 x169 = some r):AtP Try.prog 313 (bodyOf Try.f3) (KR Try.prog Try.f3.results.toList (o3 r) (p3 r)) [true,true,true,true,true,true,true,true,true,true,false,true,false,true,true,true,false,true] [] (lookA [(5,.sl (iS39 x5)),(6,.sl (iL (iI .i64) x6)),(7,vb x7),(10,.sl (iI .i64 x10)),(14,.sl (iI .i64 x14)),(18,vi x18),(169,vb x169)]):=by
 cases k with
 | zero => simp [laws_FnChainsListed.j3] at h
 | succ k =>
  rw [laws_FnChainsListed.j3] at h
  refine at_ (hn:=hn3) ?_
  obtain ⟨g1,h2⟩:=in_ h
  obtain rfl:=Bool.eq_false_iff.2 g1
  exact leafAt (hn:=hn3) 3 [] [] (at3_j4 h2) True.intro (by kernel_rfl)
theorem at3_j2 {r:Bool} {k:Nat} {x5:List (S39)} {x6:List (List Int)} {x7:Bool} {x10:List Int} {x14:List Int} {x18:Int} {x19:Int} (h:laws_FnChainsListed.j2 k x5 x6 x7 x10 x14 x18 x19 = some r):AtP Try.prog 313 (bodyOf Try.f3) (KR Try.prog Try.f3.results.toList (o3 r) (p3 r)) [true,true,true,true,true,true,true,true,true,true,false,true,false,true,true,true] [] (lookA [(5,.sl (iS39 x5)),(6,.sl (iL (iI .i64) x6)),(7,vb x7),(10,.sl (iI .i64 x10)),(14,.sl (iI .i64 x14)),(18,vi x18),(19,vi x19)]):=by
 cases k with
 | zero => simp [laws_FnChainsListed.j2] at h
 | succ k =>
  rw [laws_FnChainsListed.j2] at h
  refine at_ (hn:=hn3) ?_
  refine mid (hn:=hn3) 2 3 [.val (.int .i64 (x10.length:Int))] (iI_len (k:=.i64) (xs:=x10)) (by kernel_rfl) ?_
  rcases ite_ h with ⟨g1,h2⟩ | ⟨g1,h2⟩
  ·refine mid (hn:=hn3) 0 5 [.val (.bool false),.val (.bool (decide (x19 ≤ 300)))] (And.intro (int_neq (P:=Try.prog) (t:=3) (k:=.i64) (x:=(.tmp 140)) (y:=(.tmp 141)) (a:=(x10.length:Int)) (b:=x18) (v:=false) (nbeq_f g1)) (int_leq (P:=Try.prog) (t:=3) (k:=.i64) (x:=(.tmp 145)) (y:=(.const (.int .i64 300))) (a:=x19) (b:=300) (v:=(decide (x19 ≤ 300))) rfl)) (by kernel_rfl) ?_
   rcases ite_ h2 with ⟨g3,h4⟩ | ⟨g3,h4⟩
   ·refine mid (hn:=hn3) 0 5 [.val (.bool false)] (bool_neq (P:=Try.prog) (t:=4) (x:=(.tmp 144)) (y:=(.tmp 146)) (a:=x7) (b:=(decide (x19 ≤ 300))) Try.underlying4 (v:=false) (nbb_f g3)) (by kernel_rfl) ?_
    rcases ite_ h4 with ⟨g5,h6⟩ | ⟨g5,h6⟩
    ·subst g5
     refine mid (hn:=hn3) 0 3 [.val (.int .i64 (x6.length:Int))] (iL_len (f:=(iI .i64)) (xs:=x6)) (by kernel_rfl) ?_
     rcases ite_ h6 with ⟨g7,h8⟩ | ⟨g7,h8⟩
     ·obtain ⟨b13,c9,h10⟩:=bd_ h8
      refine mid (hn:=hn3) 0 9 [.val (.bool false),.call (vb b13)] (And.intro (int_neq (P:=Try.prog) (t:=3) (k:=.i64) (x:=(.tmp 153)) (y:=(.tmp 154)) (a:=(x6.length:Int)) (b:=x19) (v:=false) (nbeq_f g7)) (ad_15 c9)) (by kernel_rfl) ?_
      rcases ite_ h10 with ⟨g11,h12⟩ | ⟨g11,h12⟩
      ·subst g11
       exact leafAt (hn:=hn3) 2 [.val (.int .i64 (x14.length:Int)),.val (.int .i64 (wrap64 ((x14.length:Int) - 1))),.val (.bool (decide ((wrap64 ((x14.length:Int) - 1)) > x18)))] [] (at3_j3 h12) (And.intro (iI_len (k:=.i64) (xs:=x14)) (And.intro (int_sub (P:=Try.prog) (t:=3) (k:=.i64) (x:=(.tmp 165)) (y:=(.const (.int .i64 1))) (a:=(x14.length:Int)) (b:=1) (c:=(wrap64 ((x14.length:Int) - 1))) (IntWalk.i64_left _)) (int_gtr (P:=Try.prog) (t:=3) (k:=.i64) (x:=(.tmp 166)) (y:=(.tmp 167)) (a:=(wrap64 ((x14.length:Int) - 1))) (b:=x18) (v:=(decide ((wrap64 ((x14.length:Int) - 1)) > x18))) rfl))) (by kernel_rfl)
      ·obtain rfl:=Bool.eq_false_iff.2 g11
       exact leafAt (hn:=hn3) 2 [] [] (at3_j3 h12) True.intro (by kernel_rfl)
     ·exact leafAt (hn:=hn3) 2 [.val (.bool true)] [] (at3_j3 h8) (int_neq (P:=Try.prog) (t:=3) (k:=.i64) (x:=(.tmp 153)) (y:=(.tmp 154)) (a:=(x6.length:Int)) (b:=x19) (v:=true) (nbeq_t g7)) (by kernel_rfl)
    ·obtain rfl:=Bool.eq_false_iff.2 g5
     obtain ⟨b22,c13,h14⟩:=bd_ h6
     refine mid (hn:=hn3) 0 12 [.call (vb b22)] (ad_15 c13) (by kernel_rfl) ?_
     rcases ite_ h14 with ⟨g15,h16⟩ | ⟨g15,h16⟩
     ·subst g15
      exact leafAt (hn:=hn3) 2 [.val (.int .i64 (x14.length:Int)),.val (.int .i64 (wrap64 ((x14.length:Int) - 1))),.val (.bool (decide ((wrap64 ((x14.length:Int) - 1)) > x18)))] [] (at3_j3 h16) (And.intro (iI_len (k:=.i64) (xs:=x14)) (And.intro (int_sub (P:=Try.prog) (t:=3) (k:=.i64) (x:=(.tmp 165)) (y:=(.const (.int .i64 1))) (a:=(x14.length:Int)) (b:=1) (c:=(wrap64 ((x14.length:Int) - 1))) (IntWalk.i64_left _)) (int_gtr (P:=Try.prog) (t:=3) (k:=.i64) (x:=(.tmp 166)) (y:=(.tmp 167)) (a:=(wrap64 ((x14.length:Int) - 1))) (b:=x18) (v:=(decide ((wrap64 ((x14.length:Int) - 1)) > x18))) rfl))) (by kernel_rfl)
     ·obtain rfl:=Bool.eq_false_iff.2 g15
      exact leafAt (hn:=hn3) 2 [] [] (at3_j3 h16) True.intro (by kernel_rfl)
   ·exact leafAt (hn:=hn3) 2 [.val (.bool true)] [] (at3_j3 h4) (bool_neq (P:=Try.prog) (t:=4) (x:=(.tmp 144)) (y:=(.tmp 146)) (a:=x7) (b:=(decide (x19 ≤ 300))) Try.underlying4 (v:=true) (nbb_t g3)) (by kernel_rfl)
  ·exact leafAt (hn:=hn3) 2 [.val (.bool true)] [] (at3_j3 h2) (int_neq (P:=Try.prog) (t:=3) (k:=.i64) (x:=(.tmp 140)) (y:=(.tmp 141)) (a:=(x10.length:Int)) (b:=x18) (v:=true) (nbeq_t g1)) (by kernel_rfl)
theorem at3_j1 {r:Bool} {k:Nat} {x5:List (S39)} {x6:List (List Int)} {x7:Bool} {x10:List Int} {x11:Bool} {x14:List Int} (h:laws_FnChainsListed.j1 k x5 x6 x7 x10 x11 x14 = some r):AtP Try.prog 313 (bodyOf Try.f3) (KR Try.prog Try.f3.results.toList (o3 r) (p3 r)) [true,true,true,true,true,true,true,true,true,true] [] (lookA [(5,.sl (iS39 x5)),(6,.sl (iL (iI .i64) x6)),(7,vb x7),(10,.sl (iI .i64 x10)),(11,vb x11),(14,.sl (iI .i64 x14))]):=by
 cases k with
 | zero => simp [laws_FnChainsListed.j1] at h
 | succ k =>
  rw [laws_FnChainsListed.j1] at h
  refine at_ (hn:=hn3) ?_
  rcases ite_ h with ⟨g1,h2⟩ | ⟨g1,h2⟩
  ·subst g1
   refine mid (hn:=hn3) 13 1 [.val (.int .i64 (x5.length:Int))] (iS39_len (xs:=x5)) (by kernel_rfl) ?_
   rcases ite_ h2 with ⟨g3,h4⟩ | ⟨g3,h4⟩
   ·obtain ⟨g5,h6⟩:=ip_ h4
    obtain ⟨g7,h8⟩:=ip_ h6
    exact leafAt (hn:=hn3) 5 [.val (.bool true),.val (.int .i64 (wrap64 ((x5.length:Int) - 1))),.elem (vi (rd x10 (wrap64 ((x5.length:Int) - 1))))] [] (at3_j2 h8) (And.intro (int_gtr (P:=Try.prog) (t:=3) (k:=.i64) (x:=(.tmp 132)) (y:=(.const (.int .i64 0))) (a:=(x5.length:Int)) (b:=0) (v:=true) (decide_eq_true g3)) (And.intro (int_sub (P:=Try.prog) (t:=3) (k:=.i64) (x:=(.tmp 135)) (y:=(.const (.int .i64 1))) (a:=(x5.length:Int)) (b:=1) (c:=(wrap64 ((x5.length:Int) - 1))) (IntWalk.i64_left _)) (iI_rd (k:=.i64) (xs:=x10) (i:=(wrap64 ((x5.length:Int) - 1))) g5 g7))) (by kernel_rfl)
   ·exact leafAt (hn:=hn3) 5 [.val (.bool false)] [] (at3_j2 h4) (int_gtr (P:=Try.prog) (t:=3) (k:=.i64) (x:=(.tmp 132)) (y:=(.const (.int .i64 0))) (a:=(x5.length:Int)) (b:=0) (v:=false) (decide_eq_false g3)) (by kernel_rfl)
  ·obtain rfl:=Bool.eq_false_iff.2 g1
   exact leafAt (hn:=hn3) 7 [] [] (at3_j5 h2) True.intro (by kernel_rfl)
theorem at3_j0 {r:Bool} {k:Nat} {x5:List (S39)} {x6:List (List Int)} {x7:Bool} {x10:List Int} {x11:Bool} {x14:List Int} {x128:Bool} (h:laws_FnChainsListed.j0 k x5 x6 x7 x10 x11 x14 x128 = some r):AtP Try.prog 313 (bodyOf Try.f3) (KR Try.prog Try.f3.results.toList (o3 r) (p3 r)) [true,true,true,true,true,true,true,true,true,false,true] [] (lookA [(5,.sl (iS39 x5)),(6,.sl (iL (iI .i64) x6)),(7,vb x7),(10,.sl (iI .i64 x10)),(11,vb x11),(14,.sl (iI .i64 x14)),(128,vb x128)]):=by
 cases k with
 | zero => simp [laws_FnChainsListed.j0] at h
 | succ k =>
  rw [laws_FnChainsListed.j0] at h
  refine at_ (hn:=hn3) ?_
  obtain ⟨g1,h2⟩:=in_ h
  obtain rfl:=Bool.eq_false_iff.2 g1
  exact leafAt (hn:=hn3) 3 [] [] (at3_j1 h2) True.intro (by kernel_rfl)
theorem ad_3 {k:Nat} {l0:List Int} {l1:List Int} {r:Bool} (h:laws_FnChainsListed.f k l0 l1 = some r):CallH Try.prog 3 [.sl (iI .u8 l0),.sl (iI .u8 l1)] [] (vb r) []:=by
 unfold laws_FnChainsListed.f at h
 refine call_ok (c:=bodyOf Try.f3) (rs:=o3 r) (post:=p3 r) Try.func3 rfl rfl rfl (by kernel_rfl) ?_
 show AtP Try.prog 313 (bodyOf Try.f3) (KR Try.prog Try.f3.results.toList (o3 r) (p3 r)) [] [] (lookA [(0,.sl (iI .u8 l0)),(1,.sl (iI .u8 l1))])
 refine at_ (hn:=hn3) ?_
 obtain ⟨b1,c1,h2⟩:=bd_ h
 rcases ite_ h2 with ⟨g3,h4⟩ | ⟨g3,h4⟩
 ·subst g3
  obtain rfl:=Option.some.inj h4
  exact leafRet (hn:=hn3) 13 [.call (vb true)] [] .ret (.inr rfl) (by kernel_rfl) (ad_4 c1) (by kernel_rfl)
 ·obtain rfl:=Bool.eq_false_iff.2 g3
  obtain ⟨b2,c5,h6⟩:=bd_ h4
  obtain ⟨⟨b3_1,b3_2⟩,c7,h8⟩:=bd_ h6
  obtain ⟨⟨b4_1,b4_2⟩,c9,h10⟩:=bd_ h8
  obtain ⟨⟨b5_1,b5_2⟩,c11,h12⟩:=bd_ h10
  obtain ⟨⟨b6_1,b6_2⟩,c13,h14⟩:=bd_ h12
  obtain ⟨⟨b7_1,b7_2⟩,c15,h16⟩:=bd_ h14
  obtain ⟨⟨b8_1,b8_2⟩,c17,h18⟩:=bd_ h16
  try dsimp only at h18
  refine mid (hn:=hn3) 33 2 [.call (vb false),.call (.sl (iS39 b2)),.call (.tup [.sl (iL (iI .i64) b3_1),vb b3_2]),.call (.tup [.sl (iL (iI .i64) b4_1),vb b4_2]),.call (.tup [.sl (iI .i64 b5_1),vb b5_2]),.call (.tup [.sl (iI .i64 b6_1),vb b6_2]),.call (.tup [.sl (iI .i64 b7_1),vb b7_2]),.call (.tup [.sl (iI .i64 b8_1),vb b8_2])] (And.intro (ad_4 c1) (And.intro (ad_5 c5) (And.intro (ad_6 c7) (And.intro (ad_7 c9) (And.intro (ad_8 c11) (And.intro (ad_9 c13) (And.intro (ad_10 c15) (ad_11 c17)))))))) (by kernel_rfl) ?_
  rcases ite_ h18 with ⟨g19,h20⟩ | ⟨g19,h20⟩
  ·obtain ⟨b9,c21,h22⟩:=bd_ h20
   refine mid (hn:=hn3) 0 8 [.val (.bool false),.call (vb b9)] (And.intro (bool_neq (P:=Try.prog) (t:=4) (x:=(.tmp 75)) (y:=(.tmp 76)) (a:=b3_2) (b:=b4_2) Try.underlying4 (v:=false) (nbb_f g19)) (ad_12 c21)) (by kernel_rfl) ?_
   rcases ite_ h22 with ⟨g23,h24⟩ | ⟨g23,h24⟩
   ·subst g23
    rcases ite_ h24 with ⟨g25,h26⟩ | ⟨g25,h26⟩
    ·obtain ⟨b10,c27,h28⟩:=bd_ h26
     refine mid (hn:=hn3) 0 11 [.val (.bool false),.call (vb b10)] (And.intro (bool_neq (P:=Try.prog) (t:=4) (x:=(.tmp 85)) (y:=(.tmp 86)) (a:=b5_2) (b:=b6_2) Try.underlying4 (v:=false) (nbb_f g25)) (ad_13 c27)) (by kernel_rfl) ?_
     rcases ite_ h28 with ⟨g29,h30⟩ | ⟨g29,h30⟩
     ·subst g29
      rcases ite_ h30 with ⟨g31,h32⟩ | ⟨g31,h32⟩
      ·obtain ⟨b11,c33,h34⟩:=bd_ h32
       refine mid (hn:=hn3) 0 11 [.val (.bool false),.call (vb b11)] (And.intro (bool_neq (P:=Try.prog) (t:=4) (x:=(.tmp 96)) (y:=(.tmp 97)) (a:=b7_2) (b:=b8_2) Try.underlying4 (v:=false) (nbb_f g31)) (ad_13 c33)) (by kernel_rfl) ?_
       rcases ite_ h34 with ⟨g35,h36⟩ | ⟨g35,h36⟩
       ·subst g35
        rcases ite_ h36 with ⟨g37,h38⟩ | ⟨g37,h38⟩
        ·refine mid (hn:=hn3) 0 7 [.val (.bool false)] (bool_neq (P:=Try.prog) (t:=4) (x:=(.tmp 107)) (y:=(.tmp 108)) (a:=b7_2) (b:=b5_2) Try.underlying4 (v:=false) (nbb_f g37)) (by kernel_rfl) ?_
         rcases ite_ h38 with ⟨g39,h40⟩ | ⟨g39,h40⟩
         ·subst g39
          rcases ite_ h40 with ⟨g41,h42⟩ | ⟨g41,h42⟩
          ·subst g41
           obtain ⟨b12,c43,h44⟩:=bd_ h42
           refine mid (hn:=hn3) 0 9 [.call (vb b12)] (ad_14 c43) (by kernel_rfl) ?_
           rcases ite_ h44 with ⟨g45,h46⟩ | ⟨g45,h46⟩
           ·subst g45
            exact leafAt (hn:=hn3) 2 [.val (.int .i64 (b2.length:Int)),.val (.bool (decide ((b2.length:Int) ≤ 8))),.val (.bool (!(true == (decide ((b2.length:Int) ≤ 8)))))] [] (at3_j0 h46) (And.intro (iS39_len (xs:=b2)) (And.intro (int_leq (P:=Try.prog) (t:=3) (k:=.i64) (x:=(.tmp 124)) (y:=(.const (.int .i64 8))) (a:=(b2.length:Int)) (b:=8) (v:=(decide ((b2.length:Int) ≤ 8))) rfl) (bool_neq (P:=Try.prog) (t:=4) (x:=(.tmp 119)) (y:=(.tmp 126)) (a:=true) (b:=(decide ((b2.length:Int) ≤ 8))) Try.underlying4 (v:=(!(true == (decide ((b2.length:Int) ≤ 8))))) rfl))) (by kernel_rfl)
           ·obtain rfl:=Bool.eq_false_iff.2 g45
            exact leafAt (hn:=hn3) 2 [.val (.bool true)] [] (at3_j0 h46) (bool_neq (P:=Try.prog) (t:=4) (x:=(.tmp 119)) (y:=(.tmp 126)) (a:=true) (b:=false) Try.underlying4 (v:=true) rfl) (by kernel_rfl)
          ·obtain rfl:=Bool.eq_false_iff.2 g41
           exact leafAt (hn:=hn3) 2 [] [] (at3_j0 h42) True.intro (by kernel_rfl)
         ·obtain rfl:=Bool.eq_false_iff.2 g39
          obtain ⟨b23,c47,h48⟩:=bd_ h40
          refine mid (hn:=hn3) 0 9 [.call (vb b23)] (ad_14 c47) (by kernel_rfl) ?_
          rcases ite_ h48 with ⟨g49,h50⟩ | ⟨g49,h50⟩
          ·subst g49
           exact leafAt (hn:=hn3) 2 [.val (.int .i64 (b2.length:Int)),.val (.bool (decide ((b2.length:Int) ≤ 8))),.val (.bool (!(b5_2 == (decide ((b2.length:Int) ≤ 8)))))] [] (at3_j0 h50) (And.intro (iS39_len (xs:=b2)) (And.intro (int_leq (P:=Try.prog) (t:=3) (k:=.i64) (x:=(.tmp 124)) (y:=(.const (.int .i64 8))) (a:=(b2.length:Int)) (b:=8) (v:=(decide ((b2.length:Int) ≤ 8))) rfl) (bool_neq (P:=Try.prog) (t:=4) (x:=(.tmp 119)) (y:=(.tmp 126)) (a:=b5_2) (b:=(decide ((b2.length:Int) ≤ 8))) Try.underlying4 (v:=(!(b5_2 == (decide ((b2.length:Int) ≤ 8))))) rfl))) (by kernel_rfl)
          ·obtain rfl:=Bool.eq_false_iff.2 g49
           exact leafAt (hn:=hn3) 2 [.val (.bool (!(b5_2 == false)))] [] (at3_j0 h50) (bool_neq (P:=Try.prog) (t:=4) (x:=(.tmp 119)) (y:=(.tmp 126)) (a:=b5_2) (b:=false) Try.underlying4 (v:=(!(b5_2 == false))) rfl) (by kernel_rfl)
        ·exact leafAt (hn:=hn3) 2 [.val (.bool true)] [] (at3_j0 h38) (bool_neq (P:=Try.prog) (t:=4) (x:=(.tmp 107)) (y:=(.tmp 108)) (a:=b7_2) (b:=b5_2) Try.underlying4 (v:=true) (nbb_t g37)) (by kernel_rfl)
       ·obtain rfl:=Bool.eq_false_iff.2 g35
        exact leafAt (hn:=hn3) 2 [] [] (at3_j0 h36) True.intro (by kernel_rfl)
      ·exact leafAt (hn:=hn3) 2 [.val (.bool true)] [] (at3_j0 h32) (bool_neq (P:=Try.prog) (t:=4) (x:=(.tmp 96)) (y:=(.tmp 97)) (a:=b7_2) (b:=b8_2) Try.underlying4 (v:=true) (nbb_t g31)) (by kernel_rfl)
     ·obtain rfl:=Bool.eq_false_iff.2 g29
      exact leafAt (hn:=hn3) 2 [] [] (at3_j0 h30) True.intro (by kernel_rfl)
    ·exact leafAt (hn:=hn3) 2 [.val (.bool true)] [] (at3_j0 h26) (bool_neq (P:=Try.prog) (t:=4) (x:=(.tmp 85)) (y:=(.tmp 86)) (a:=b5_2) (b:=b6_2) Try.underlying4 (v:=true) (nbb_t g25)) (by kernel_rfl)
   ·obtain rfl:=Bool.eq_false_iff.2 g23
    exact leafAt (hn:=hn3) 2 [] [] (at3_j0 h24) True.intro (by kernel_rfl)
  ·exact leafAt (hn:=hn3) 2 [.val (.bool true)] [] (at3_j0 h20) (bool_neq (P:=Try.prog) (t:=4) (x:=(.tmp 75)) (y:=(.tmp 76)) (a:=b3_2) (b:=b4_2) Try.underlying4 (v:=true) (nbb_t g19)) (by kernel_rfl)

theorem laws_FnChainsListed.calls (k:Nat) (A0:Option Addr) (c0:Nat) (l0:List Int) (A1:Option Addr) (c1:Nat) (l1:List Int) (r:Bool) (w:World) (hr0:Kd.C (Kd.int .u8) w A0 l0.length l0) (hc0:l0.length ≤ c0) (hr1:Kd.C (Kd.int .u8) w A1 l1.length l1) (hc1:l1.length ≤ c1) (h:laws_FnChainsListed.f k l0 l1 = some r) :
    Calls Try.prog 3 #[.slice A0 l0.length c0,.slice A1 l1.length c1] w fun e w' => e = .returned (.bool r) ∧ Below w.heap.size w w':=by
  have ha:Args w (fun b _ => b < w.heap.size) _ [.slice A0 l0.length c0,.slice A1 l1.length c1]:=(.cons (rep_of (flat_int .u8) hr0 hc0 Nat.one_pos (fun _ _ h _ => h)) (.cons (rep_of (flat_int .u8) hr1 hc1 Nat.one_pos (fun _ _ h _ => h)) .nil))
  exact law_calls (ad_3 h) ha
end Go.Proofs.Ytkofmaeffgbelaa.QFnChainsListed
