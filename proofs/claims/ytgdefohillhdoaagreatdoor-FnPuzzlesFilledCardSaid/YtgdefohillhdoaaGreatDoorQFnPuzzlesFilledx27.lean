/- The reflected proofs, part 2. -/
import Derived.Test.YtgdefohillhdoaaGreatDoorQFnPuzzlesFilledx26
namespace Go.Proofs.YtgdefohillhdoaaGreatDoor.QFnPuzzlesFilled
open Go.RowKit Go.Rh Go.Proofs.YtgdefohillhdoaaGreatDoorW.PrintWords Go.Proofs.YtgdefohillhdoaaGreatDoorW.PrintLast Go.Proofs.YtgdefohillhdoaaGreatDoorW.PrintMore
set_option linter.unusedVariables false
set_option linter.unusedSimpArgs false
set_option maxRecDepth 100000
def hn86:Hint:=⟨[(5,[36]),(21,[36]),(24,[36])],[]⟩
def o86 (r:ByteArray):List AV:=[.val (.string r)]
def p86 (r:ByteArray):List (Nat × AV):=[]
def q86_l0 (r:ByteArray) (k:Nat) (L:List (Nat × AV)):Prop:=∃ (x3:ByteArray) (x9:List (S64)) (x10:Int) (x11:Int),L = [(3,.val (.string x3)),(9,.sl (iS64 x9)),(10,vi x10),(11,vi x11)] ∧ spec_tiText.l0 k x3 x9 x10 x11 = some r
theorem q86_l0_mk {r:ByteArray} {k:Nat} {x3:ByteArray} {x9:List (S64)} {x10:Int} {x11:Int} (h:spec_tiText.l0 k x3 x9 x10 x11 = some r):q86_l0 r k [(3,.val (.string x3)),(9,.sl (iS64 x9)),(10,vi x10),(11,vi x11)]:=⟨x3,x9,x10,x11,rfl,h⟩
theorem at86_l0 {r:ByteArray}:∀ k L,q86_l0 r k L → AtP Tryz.prog 31 (bodyOf Tryz.f86) (KR Tryz.prog Tryz.f86.results.toList (o86 r) (p86 r)) [true,true,true,false,true,false] [] (lookA L) :=
 at_loop (by kernel_rfl) (fun _ => by kernel_rfl) (q86_l0 r) (by
  rintro k _ ⟨x3,x9,x10,x11,rfl,h⟩
  cases k with
  | zero => simp [spec_tiText.l0] at h
  | succ k =>
   rw [spec_tiText.l0] at h
   refine at_ (hn:=hn86) ?_
   rcases ite_ h with ⟨g1,h2⟩ | ⟨g1,h2⟩
   ·obtain ⟨g3,h4⟩:=ip_ h2
    obtain ⟨g5,h6⟩:=ip_ h4
    refine mid (hn:=hn86) 14 1 [.val (.bool true),.elem (.agg [vi ((rd_T64 x9 x11).f0),vi ((rd_T64 x9 x11).f1)])] (And.intro (int_lss (P:=Tryz.prog) (t:=3) (k:=.i64) (x:=(.tmp 11)) (y:=(.tmp 10)) (a:=x11) (b:=x10) (v:=true) (decide_eq_true g1)) (iS64_rd (xs:=x9) (i:=x11) g3 g5)) (by kernel_rfl) ?_
    rcases ite_ h6 with ⟨g7,h8⟩ | ⟨g7,h8⟩
    ·obtain ⟨g9,h10⟩:=ip_ h8
     obtain ⟨t508,c11,h12⟩:=bd_ h10
     obtain ⟨t509,c13,h14⟩:=bd_ h12
     obtain ⟨g15,h16⟩:=ip_ h14
     obtain ⟨g17,h18⟩:=ip_ h16
     exact leafBack (hn:=hn86) 9 [.val (.bool true),.val (.string (x3 ++ (⟨#[44]⟩ : ByteArray))),.call (.val (.string t508)),.call (.val (.string t509)),.val (.string (t508 ++ t509)),.val (.string ((x3 ++ (⟨#[44]⟩ : ByteArray)) ++ (t508 ++ t509))),.val (.int .i64 (wrap64 (x11 + 1)))] [] (q86_l0_mk h18) (Nat.lt_succ_self k) (And.intro (int_gtr (P:=Tryz.prog) (t:=3) (k:=.i64) (x:=(.tmp 16)) (y:=(.const (.int .i64 0))) (a:=x11) (b:=0) (v:=true) (decide_eq_true g7)) (And.intro (str_add (P:=Tryz.prog) (t:=9) (x:=(.tmp 18)) (y:=(.const (.string (⟨#[44]⟩ : ByteArray)))) (a:=x3) (b:=(⟨#[44]⟩ : ByteArray)) g9) (And.intro (And.intro (ad_87 c11) (And.intro (ad_87 c13) (And.intro (str_add (P:=Tryz.prog) (t:=9) (x:=(.tmp 23)) (y:=(.tmp 26)) (a:=t508) (b:=t509) g15) (str_add (P:=Tryz.prog) (t:=9) (x:=(.tmp 20)) (y:=(.tmp 27)) (a:=(x3 ++ (⟨#[44]⟩ : ByteArray))) (b:=(t508 ++ t509)) g17)))) (int_add (P:=Tryz.prog) (t:=3) (k:=.i64) (x:=(.tmp 11)) (y:=(.const (.int .i64 1))) (a:=x11) (b:=1) (c:=(wrap64 (x11 + 1))) (IntWalk.i64_left _))))) (by kernel_rfl)
    ·obtain ⟨t510,c19,h20⟩:=bd_ h8
     obtain ⟨t511,c21,h22⟩:=bd_ h20
     obtain ⟨g23,h24⟩:=ip_ h22
     obtain ⟨g25,h26⟩:=ip_ h24
     exact leafBack (hn:=hn86) 9 [.val (.bool false),.call (.val (.string t510)),.call (.val (.string t511)),.val (.string (t510 ++ t511)),.val (.string (x3 ++ (t510 ++ t511))),.val (.int .i64 (wrap64 (x11 + 1)))] [] (q86_l0_mk h26) (Nat.lt_succ_self k) (And.intro (int_gtr (P:=Tryz.prog) (t:=3) (k:=.i64) (x:=(.tmp 16)) (y:=(.const (.int .i64 0))) (a:=x11) (b:=0) (v:=false) (decide_eq_false g7)) (And.intro (And.intro (ad_87 c19) (And.intro (ad_87 c21) (And.intro (str_add (P:=Tryz.prog) (t:=9) (x:=(.tmp 23)) (y:=(.tmp 26)) (a:=t510) (b:=t511) g23) (str_add (P:=Tryz.prog) (t:=9) (x:=(.tmp 20)) (y:=(.tmp 27)) (a:=x3) (b:=(t510 ++ t511)) g25)))) (int_add (P:=Tryz.prog) (t:=3) (k:=.i64) (x:=(.tmp 11)) (y:=(.const (.int .i64 1))) (a:=x11) (b:=1) (c:=(wrap64 (x11 + 1))) (IntWalk.i64_left _)))) (by kernel_rfl)
   ·obtain rfl:=Option.some.inj h2
    exact leafRet (hn:=hn86) 14 [.val (.bool false)] [] .ret (.inr rfl) (by kernel_rfl) (int_lss (P:=Tryz.prog) (t:=3) (k:=.i64) (x:=(.tmp 11)) (y:=(.tmp 10)) (a:=x11) (b:=x10) (v:=false) (decide_eq_false g1)) (by kernel_rfl))
theorem ad_86 {k:Nat} {l0:List (S64)} {r:ByteArray} (h:spec_tiText.f k l0 = some r):CallH Tryz.prog 86 [.sl (iS64 l0)] [] (.val (.string r)) []:=by
 unfold spec_tiText.f at h
 refine call_ok (c:=bodyOf Tryz.f86) (rs:=o86 r) (post:=p86 r) Tryz.func86 rfl rfl rfl (by kernel_rfl) ?_
 show AtP Tryz.prog 31 (bodyOf Tryz.f86) (KR Tryz.prog Tryz.f86.results.toList (o86 r) (p86 r)) [] [] (lookA [(0,.sl (iS64 l0))])
 refine at_ (hn:=hn86) ?_
 refine mid (hn:=hn86) 5 2 [.val (.int .i64 (l0.length:Int))] (iS64_len (xs:=l0)) (by kernel_rfl) ?_
 rcases ite_ h with ⟨g1,h2⟩ | ⟨g1,h2⟩
 ·obtain rfl:=Option.some.inj h2
  exact leafRet (hn:=hn86) 8 [.val (.bool true)] [] .ret (.inr rfl) (by kernel_rfl) (int_eql (P:=Tryz.prog) (t:=3) (k:=.i64) (x:=(.tmp 7)) (y:=(.const (.int .i64 0))) (a:=(l0.length:Int)) (b:=0) (v:=true) (beq_iff_eq.2 g1)) (by kernel_rfl)
 ·exact leafAt (hn:=hn86) 13 [.val (.bool false),.val (.int .i64 (l0.length:Int))] [] (at86_l0 _ _ (q86_l0_mk h2)) (And.intro (int_eql (P:=Tryz.prog) (t:=3) (k:=.i64) (x:=(.tmp 7)) (y:=(.const (.int .i64 0))) (a:=(l0.length:Int)) (b:=0) (v:=false) (beq_false_of_ne g1)) (iS64_len (xs:=l0))) (by kernel_rfl)

def hn43:Hint:=⟨[(6,[28]),(10,[28])],[]⟩
def o43 (r:ByteArray):List AV:=[.val (.string r)]
def p43 (r:ByteArray):List (Nat × AV):=[]
def q43_l0 (r:ByteArray) (k:Nat) (L:List (Nat × AV)):Prop:=∃ (x3:ByteArray) (x11:List Int) (x12:Int) (x13:Int),L = [(3,.val (.string x3)),(11,.sl (iI .i64 x11)),(12,vi x12),(13,vi x13)] ∧ spec_pzText.l0 k x3 x11 x12 x13 = some r
theorem q43_l0_mk {r:ByteArray} {k:Nat} {x3:ByteArray} {x11:List Int} {x12:Int} {x13:Int} (h:spec_pzText.l0 k x3 x11 x12 x13 = some r):q43_l0 r k [(3,.val (.string x3)),(11,.sl (iI .i64 x11)),(12,vi x12),(13,vi x13)]:=⟨x3,x11,x12,x13,rfl,h⟩
theorem at43_l0 {r:ByteArray}:∀ k L,q43_l0 r k L → AtP Tryz.prog 27 (bodyOf Tryz.f43) (KR Tryz.prog Tryz.f43.results.toList (o43 r) (p43 r)) [true,true,false,true,false] [] (lookA L) :=
 at_loop (by kernel_rfl) (fun _ => by kernel_rfl) (q43_l0 r) (by
  rintro k _ ⟨x3,x11,x12,x13,rfl,h⟩
  cases k with
  | zero => simp [spec_pzText.l0] at h
  | succ k =>
   rw [spec_pzText.l0] at h
   refine at_ (hn:=hn43) ?_
   rcases ite_ h with ⟨g1,h2⟩ | ⟨g1,h2⟩
   ·obtain ⟨g3,h4⟩:=ip_ h2
    obtain ⟨g5,h6⟩:=ip_ h4
    refine mid (hn:=hn43) 13 1 [.val (.bool true),.elem (vi (rd x11 x13))] (And.intro (int_lss (P:=Tryz.prog) (t:=3) (k:=.i64) (x:=(.tmp 13)) (y:=(.tmp 12)) (a:=x13) (b:=x12) (v:=true) (decide_eq_true g1)) (iI_rd (k:=.i64) (xs:=x11) (i:=x13) g3 g5)) (by kernel_rfl) ?_
    rcases ite_ h6 with ⟨g7,h8⟩ | ⟨g7,h8⟩
    ·obtain ⟨g9,h10⟩:=ip_ h8
     exact leafBack (hn:=hn43) 7 [.val (.bool true),.val (.string (x3 ++ (⟨#[46]⟩ : ByteArray))),.val (.int .i64 (wrap64 (x13 + 1)))] [] (q43_l0_mk h10) (Nat.lt_succ_self k) (And.intro (int_lss (P:=Tryz.prog) (t:=3) (k:=.i64) (x:=(.tmp 17)) (y:=(.const (.int .i64 0))) (a:=(rd x11 x13)) (b:=0) (v:=true) (decide_eq_true g7)) (And.intro (str_add (P:=Tryz.prog) (t:=9) (x:=(.tmp 19)) (y:=(.const (.string (⟨#[46]⟩ : ByteArray)))) (a:=x3) (b:=(⟨#[46]⟩ : ByteArray)) g9) (int_add (P:=Tryz.prog) (t:=3) (k:=.i64) (x:=(.tmp 13)) (y:=(.const (.int .i64 1))) (a:=x13) (b:=1) (c:=(wrap64 (x13 + 1))) (IntWalk.i64_left _)))) (by kernel_rfl)
    ·obtain ⟨t515,c11,h12⟩:=bd_ h8
     obtain ⟨g13,h14⟩:=ip_ h12
     exact leafBack (hn:=hn43) 7 [.val (.bool false),.call (.val (.string t515)),.val (.string (x3 ++ t515)),.val (.int .i64 (wrap64 (x13 + 1)))] [] (q43_l0_mk h14) (Nat.lt_succ_self k) (And.intro (int_lss (P:=Tryz.prog) (t:=3) (k:=.i64) (x:=(.tmp 17)) (y:=(.const (.int .i64 0))) (a:=(rd x11 x13)) (b:=0) (v:=false) (decide_eq_false g7)) (And.intro (And.intro (ad_87 c11) (str_add (P:=Tryz.prog) (t:=9) (x:=(.tmp 21)) (y:=(.tmp 23)) (a:=x3) (b:=t515) g13)) (int_add (P:=Tryz.prog) (t:=3) (k:=.i64) (x:=(.tmp 13)) (y:=(.const (.int .i64 1))) (a:=x13) (b:=1) (c:=(wrap64 (x13 + 1))) (IntWalk.i64_left _)))) (by kernel_rfl)
   ·obtain rfl:=Option.some.inj h2
    exact leafRet (hn:=hn43) 14 [.val (.bool false)] [] .ret (.inr rfl) (by kernel_rfl) (int_lss (P:=Tryz.prog) (t:=3) (k:=.i64) (x:=(.tmp 13)) (y:=(.tmp 12)) (a:=x13) (b:=x12) (v:=false) (decide_eq_false g1)) (by kernel_rfl))
theorem ad_43 {k:Nat} {l0_0:List (S64)} {l0_1:List Int} {r:ByteArray} (h:spec_pzText.f k l0_0 l0_1 = some r):CallH Tryz.prog 43 [.agg [.sl (iS64 l0_0),.sl (iI .i64 l0_1)]] [] (.val (.string r)) []:=by
 unfold spec_pzText.f at h
 refine call_ok (c:=bodyOf Tryz.f43) (rs:=o43 r) (post:=p43 r) Tryz.func43 rfl rfl rfl (by kernel_rfl) ?_
 show AtP Tryz.prog 27 (bodyOf Tryz.f43) (KR Tryz.prog Tryz.f43.results.toList (o43 r) (p43 r)) [] [] (lookA [(0,.agg [.sl (iS64 l0_0),.sl (iI .i64 l0_1)])])
 refine at_ (hn:=hn43) ?_
 obtain ⟨t513,c1,h2⟩:=bd_ h
 obtain ⟨g3,h4⟩:=ip_ h2
 exact leafAt (hn:=hn43) 11 [.call (.val (.string t513)),.val (.string (t513 ++ (⟨#[58]⟩ : ByteArray))),.val (.int .i64 (l0_1.length:Int))] [] (at43_l0 _ _ (q43_l0_mk h4)) (And.intro (And.intro (ad_86 c1) (str_add (P:=Tryz.prog) (t:=9) (x:=(.tmp 8)) (y:=(.const (.string (⟨#[58]⟩ : ByteArray)))) (a:=t513) (b:=(⟨#[58]⟩ : ByteArray)) g3)) (iI_len (k:=.i64) (xs:=l0_1))) (by kernel_rfl)

def hn19:Hint:=⟨[(1,[10])],[]⟩
def o19 (r:ByteArray × Bool):List AV:=[.val (.string r.1),vb r.2]
def p19 (r:ByteArray × Bool):List (Nat × AV):=[]
theorem ad_19 {k:Nat} {l0_0:List (S64)} {l0_1:List Int} {r1:ByteArray} {r2:Bool} (h:spec_PuzzleText.f k l0_0 l0_1 = some (r1,r2)):CallH Tryz.prog 19 [.agg [.sl (iS64 l0_0),.sl (iI .i64 l0_1)]] [] (.tup [.val (.string r1),vb r2]) []:=by
 unfold spec_PuzzleText.f at h
 refine call_ok (c:=bodyOf Tryz.f19) (rs:=o19 (r1,r2)) (post:=p19 (r1,r2)) Tryz.func19 rfl rfl rfl (by kernel_rfl) ?_
 show AtP Tryz.prog 9 (bodyOf Tryz.f19) (KR Tryz.prog Tryz.f19.results.toList (o19 (r1,r2)) (p19 (r1,r2))) [] [] (lookA [(0,.agg [.sl (iS64 l0_0),.sl (iI .i64 l0_1)])])
 refine at_ (hn:=hn19) ?_
 obtain ⟨t517,c1,h2⟩:=bd_ h
 refine mid (hn:=hn19) 5 2 [.call (vb t517)] (ad_40 c1) (by kernel_rfl) ?_
 rcases ite_ h2 with ⟨g3,h4⟩ | ⟨g3,h4⟩
 ·subst g3
  obtain ⟨t518,c5,h6⟩:=bd_ h4
  obtain ⟨rfl,rfl⟩:=pr2_ h6
  exact leafRet (hn:=hn19) 9 [.call (.val (.string t518))] [] .ret (.inr rfl) (by kernel_rfl) (ad_43 c5) (by kernel_rfl)
 ·obtain rfl:=Bool.eq_false_iff.2 g3
  obtain ⟨rfl,rfl⟩:=pr2_ h4
  exact leafRet (hn:=hn19) 8 [] [] .ret (.inr rfl) (by kernel_rfl) True.intro (by kernel_rfl)

def hn21:Hint:=⟨[],[]⟩
def o21 (r:Bool):List AV:=[vb r]
def p21 (r:Bool):List (Nat × AV):=[]
def q21_l0 (r:Bool) (k:Nat) (L:List (Nat × AV)):Prop:=∃ (x0:List Int) (x1:List Int) (x12:Int) (x13:Int),L = [(0,.sl (iI .i64 x0)),(1,.sl (iI .i64 x1)),(12,vi x12),(13,vi x13)] ∧ laws_iSame.l0 k x0 x1 x12 x13 = some r
theorem q21_l0_mk {r:Bool} {k:Nat} {x0:List Int} {x1:List Int} {x12:Int} {x13:Int} (h:laws_iSame.l0 k x0 x1 x12 x13 = some r):q21_l0 r k [(0,.sl (iI .i64 x0)),(1,.sl (iI .i64 x1)),(12,vi x12),(13,vi x13)]:=⟨x0,x1,x12,x13,rfl,h⟩
theorem at21_l0 {r:Bool}:∀ k L,q21_l0 r k L → AtP Tryz.prog 26 (bodyOf Tryz.f21) (KR Tryz.prog Tryz.f21.results.toList (o21 r) (p21 r)) [true,true,false,true,false] [] (lookA L) :=
 at_loop (by kernel_rfl) (fun _ => by kernel_rfl) (q21_l0 r) (by
  rintro k _ ⟨x0,x1,x12,x13,rfl,h⟩
  cases k with
  | zero => simp [laws_iSame.l0] at h
  | succ k =>
   rw [laws_iSame.l0] at h
   refine at_ (hn:=hn21) ?_
   rcases ite_ h with ⟨g1,h2⟩ | ⟨g1,h2⟩
   ·obtain ⟨g3,h4⟩:=ip_ h2
    obtain ⟨g5,h6⟩:=ip_ h4
    obtain ⟨g7,h8⟩:=ip_ h6
    refine mid (hn:=hn21) 13 8 [.val (.bool true),.elem (vi (rd x0 x13)),.elem (vi (rd x1 x13))] (And.intro (int_lss (P:=Tryz.prog) (t:=3) (k:=.i64) (x:=(.tmp 13)) (y:=(.tmp 12)) (a:=x13) (b:=x12) (v:=true) (decide_eq_true g1)) (And.intro (iI_rd (k:=.i64) (xs:=x0) (i:=x13) g3 g5) (iI_rd (k:=.i64) (xs:=x1) (i:=x13) g3 g7))) (by kernel_rfl) ?_
    rcases ite_ h8 with ⟨g9,h10⟩ | ⟨g9,h10⟩
    ·exact leafBack (hn:=hn21) 7 [.val (.bool false),.val (.int .i64 (wrap64 (x13 + 1)))] [] (q21_l0_mk h10) (Nat.lt_succ_self k) (And.intro (int_neq (P:=Tryz.prog) (t:=3) (k:=.i64) (x:=(.tmp 19)) (y:=(.tmp 23)) (a:=(rd x0 x13)) (b:=(rd x1 x13)) (v:=false) (nbeq_f g9)) (int_add (P:=Tryz.prog) (t:=3) (k:=.i64) (x:=(.tmp 13)) (y:=(.const (.int .i64 1))) (a:=x13) (b:=1) (c:=(wrap64 (x13 + 1))) (IntWalk.i64_left _))) (by kernel_rfl)
    ·obtain rfl:=Option.some.inj h10
     exact leafRet (hn:=hn21) 12 [.val (.bool true)] [] .ret (.inr rfl) (by kernel_rfl) (int_neq (P:=Tryz.prog) (t:=3) (k:=.i64) (x:=(.tmp 19)) (y:=(.tmp 23)) (a:=(rd x0 x13)) (b:=(rd x1 x13)) (v:=true) (nbeq_t g9)) (by kernel_rfl)
   ·obtain rfl:=Option.some.inj h2
    exact leafRet (hn:=hn21) 14 [.val (.bool false)] [] .ret (.inr rfl) (by kernel_rfl) (int_lss (P:=Tryz.prog) (t:=3) (k:=.i64) (x:=(.tmp 13)) (y:=(.tmp 12)) (a:=x13) (b:=x12) (v:=false) (decide_eq_false g1)) (by kernel_rfl))
theorem ad_21 {k:Nat} {l0:List Int} {l1:List Int} {r:Bool} (h:laws_iSame.f k l0 l1 = some r):CallH Tryz.prog 21 [.sl (iI .i64 l0),.sl (iI .i64 l1)] [] (vb r) []:=by
 unfold laws_iSame.f at h
 refine call_ok (c:=bodyOf Tryz.f21) (rs:=o21 r) (post:=p21 r) Tryz.func21 rfl rfl rfl (by kernel_rfl) ?_
 show AtP Tryz.prog 26 (bodyOf Tryz.f21) (KR Tryz.prog Tryz.f21.results.toList (o21 r) (p21 r)) [] [] (lookA [(0,.sl (iI .i64 l0)),(1,.sl (iI .i64 l1))])
 refine at_ (hn:=hn21) ?_
 refine mid (hn:=hn21) 5 4 [.val (.int .i64 (l0.length:Int)),.val (.int .i64 (l1.length:Int))] (And.intro (iI_len (k:=.i64) (xs:=l0)) (iI_len (k:=.i64) (xs:=l1))) (by kernel_rfl) ?_
 rcases ite_ h with ⟨g1,h2⟩ | ⟨g1,h2⟩
 ·exact leafAt (hn:=hn21) 10 [.val (.bool false),.val (.int .i64 (l0.length:Int))] [] (at21_l0 _ _ (q21_l0_mk h2)) (And.intro (int_neq (P:=Tryz.prog) (t:=3) (k:=.i64) (x:=(.tmp 7)) (y:=(.tmp 9)) (a:=(l0.length:Int)) (b:=(l1.length:Int)) (v:=false) (nbeq_f g1)) (iI_len (k:=.i64) (xs:=l0))) (by kernel_rfl)
 ·obtain rfl:=Option.some.inj h2
  exact leafRet (hn:=hn21) 8 [.val (.bool true)] [] .ret (.inr rfl) (by kernel_rfl) (int_neq (P:=Tryz.prog) (t:=3) (k:=.i64) (x:=(.tmp 7)) (y:=(.tmp 9)) (a:=(l0.length:Int)) (b:=(l1.length:Int)) (v:=true) (nbeq_t g1)) (by kernel_rfl)

def hn20:Hint:=⟨[],[]⟩
def o20 (r:Bool):List AV:=[vb r]
def p20 (r:Bool):List (Nat × AV):=[]
def q20_l0 (r:Bool) (k:Nat) (L:List (Nat × AV)):Prop:=∃ (x0:List (List Int)) (x1:List (List Int)) (x12:Int) (x13:Int),L = [(0,.sl (iL (iI .i64) x0)),(1,.sl (iL (iI .i64) x1)),(12,vi x12),(13,vi x13)] ∧ laws_iRows.l0 k x0 x1 x12 x13 = some r
theorem q20_l0_mk {r:Bool} {k:Nat} {x0:List (List Int)} {x1:List (List Int)} {x12:Int} {x13:Int} (h:laws_iRows.l0 k x0 x1 x12 x13 = some r):q20_l0 r k [(0,.sl (iL (iI .i64) x0)),(1,.sl (iL (iI .i64) x1)),(12,vi x12),(13,vi x13)]:=⟨x0,x1,x12,x13,rfl,h⟩
theorem at20_l0 {r:Bool}:∀ k L,q20_l0 r k L → AtP Tryz.prog 27 (bodyOf Tryz.f20) (KR Tryz.prog Tryz.f20.results.toList (o20 r) (p20 r)) [true,true,false,true,false] [] (lookA L) :=
 at_loop (by kernel_rfl) (fun _ => by kernel_rfl) (q20_l0 r) (by
  rintro k _ ⟨x0,x1,x12,x13,rfl,h⟩
  cases k with
  | zero => simp [laws_iRows.l0] at h
  | succ k =>
   rw [laws_iRows.l0] at h
   refine at_ (hn:=hn20) ?_
   rcases ite_ h with ⟨g1,h2⟩ | ⟨g1,h2⟩
   ·obtain ⟨g3,h4⟩:=ip_ h2
    obtain ⟨g5,h6⟩:=ip_ h4
    obtain ⟨g7,h8⟩:=ip_ h6
    obtain ⟨t523,c9,h10⟩:=bd_ h8
    refine mid (hn:=hn20) 13 9 [.val (.bool true),.elem (.sl (iI .i64 (rd_L4 x0 x13))),.elem (.sl (iI .i64 (rd_L4 x1 x13))),.call (vb t523)] (And.intro (int_lss (P:=Tryz.prog) (t:=3) (k:=.i64) (x:=(.tmp 13)) (y:=(.tmp 12)) (a:=x13) (b:=x12) (v:=true) (decide_eq_true g1)) (And.intro (iL_rd (f:=(iI .i64)) (xs:=x0) (i:=x13) g3 g5) (And.intro (iL_rd (f:=(iI .i64)) (xs:=x1) (i:=x13) g3 g7) (ad_21 c9)))) (by kernel_rfl) ?_
    rcases ite_ h10 with ⟨g11,h12⟩ | ⟨g11,h12⟩
    ·subst g11
     exact leafBack (hn:=hn20) 7 [.val (.int .i64 (wrap64 (x13 + 1)))] [] (q20_l0_mk h12) (Nat.lt_succ_self k) (int_add (P:=Tryz.prog) (t:=3) (k:=.i64) (x:=(.tmp 13)) (y:=(.const (.int .i64 1))) (a:=x13) (b:=1) (c:=(wrap64 (x13 + 1))) (IntWalk.i64_left _)) (by kernel_rfl)
    ·obtain rfl:=Bool.eq_false_iff.2 g11
     obtain rfl:=Option.some.inj h12
     exact leafRet (hn:=hn20) 12 [] [] .ret (.inr rfl) (by kernel_rfl) True.intro (by kernel_rfl)
   ·obtain rfl:=Option.some.inj h2
    exact leafRet (hn:=hn20) 14 [.val (.bool false)] [] .ret (.inr rfl) (by kernel_rfl) (int_lss (P:=Tryz.prog) (t:=3) (k:=.i64) (x:=(.tmp 13)) (y:=(.tmp 12)) (a:=x13) (b:=x12) (v:=false) (decide_eq_false g1)) (by kernel_rfl))
theorem ad_20 {k:Nat} {l0:List (List Int)} {l1:List (List Int)} {r:Bool} (h:laws_iRows.f k l0 l1 = some r):CallH Tryz.prog 20 [.sl (iL (iI .i64) l0),.sl (iL (iI .i64) l1)] [] (vb r) []:=by
 unfold laws_iRows.f at h
 refine call_ok (c:=bodyOf Tryz.f20) (rs:=o20 r) (post:=p20 r) Tryz.func20 rfl rfl rfl (by kernel_rfl) ?_
 show AtP Tryz.prog 27 (bodyOf Tryz.f20) (KR Tryz.prog Tryz.f20.results.toList (o20 r) (p20 r)) [] [] (lookA [(0,.sl (iL (iI .i64) l0)),(1,.sl (iL (iI .i64) l1))])
 refine at_ (hn:=hn20) ?_
 refine mid (hn:=hn20) 5 4 [.val (.int .i64 (l0.length:Int)),.val (.int .i64 (l1.length:Int))] (And.intro (iL_len (f:=(iI .i64)) (xs:=l0)) (iL_len (f:=(iI .i64)) (xs:=l1))) (by kernel_rfl) ?_
 rcases ite_ h with ⟨g1,h2⟩ | ⟨g1,h2⟩
 ·exact leafAt (hn:=hn20) 10 [.val (.bool false),.val (.int .i64 (l0.length:Int))] [] (at20_l0 _ _ (q20_l0_mk h2)) (And.intro (int_neq (P:=Tryz.prog) (t:=3) (k:=.i64) (x:=(.tmp 7)) (y:=(.tmp 9)) (a:=(l0.length:Int)) (b:=(l1.length:Int)) (v:=false) (nbeq_f g1)) (iL_len (f:=(iI .i64)) (xs:=l0))) (by kernel_rfl)
 ·obtain rfl:=Option.some.inj h2
  exact leafRet (hn:=hn20) 8 [.val (.bool true)] [] .ret (.inr rfl) (by kernel_rfl) (int_neq (P:=Tryz.prog) (t:=3) (k:=.i64) (x:=(.tmp 7)) (y:=(.tmp 9)) (a:=(l0.length:Int)) (b:=(l1.length:Int)) (v:=true) (nbeq_t g1)) (by kernel_rfl)

def hn23:Hint:=⟨[(1,[6])],[]⟩
def o23 (r:Bool):List AV:=[vb r]
def p23 (r:Bool):List (Nat × AV):=[]
theorem ad_23 {k:Nat} {l0_0:List (S64)} {l0_1:List Int} {r:Bool} (h:spec_IsPuzzle.f k l0_0 l0_1 = some r):CallH Tryz.prog 23 [.agg [.sl (iS64 l0_0),.sl (iI .i64 l0_1)]] [] (vb r) []:=by
 unfold spec_IsPuzzle.f at h
 refine call_ok (c:=bodyOf Tryz.f23) (rs:=o23 r) (post:=p23 r) Tryz.func23 rfl rfl rfl (by kernel_rfl) ?_
 show AtP Tryz.prog 5 (bodyOf Tryz.f23) (KR Tryz.prog Tryz.f23.results.toList (o23 r) (p23 r)) [] [] (lookA [(0,.agg [.sl (iS64 l0_0),.sl (iI .i64 l0_1)])])
 refine at_ (hn:=hn23) ?_
 obtain ⟨t525,c1,h2⟩:=bd_ h
 obtain rfl:=Option.some.inj h2
 exact leafRet (hn:=hn23) 7 [.call (vb t525)] [] .ret (.inr rfl) (by kernel_rfl) (ad_40 c1) (by kernel_rfl)

def hn52:Hint:=⟨[(12,[31]),(23,[49])],[]⟩
def o52 (r:(List (S64))):List AV:=[.sl (iS64 r)]
def p52 (r:(List (S64))):List (Nat × AV):=[]
def q52_l0 (r:(List (S64))) (k:Nat) (L:List (Nat × AV)):Prop:=∃ (x0:List Int) (x3:List (S64)) (x4:Int),L = [(0,.sl (iI .i64 x0)),(3,.row 31),(4,vi x4),(31,.ow false 64 (iS64 x3))] ∧ impl_tilesOf.l0 k x0 x3 x4 = some r
theorem q52_l0_mk {r:(List (S64))} {k:Nat} {x0:List Int} {x3:List (S64)} {x4:Int} (h:impl_tilesOf.l0 k x0 x3 x4 = some r):q52_l0 r k [(0,.sl (iI .i64 x0)),(3,.row 31),(4,vi x4),(31,.ow false 64 (iS64 x3))]:=⟨x0,x3,x4,rfl,h⟩
theorem at52_l0 {r:(List (S64))}:∀ k L,q52_l0 r k L → AtP Tryz.prog 26 (bodyOf Tryz.f52) (KR Tryz.prog Tryz.f52.results.toList (o52 r) (p52 r)) [true,true,false,true,false] [] (lookA L) :=
 at_loop (by kernel_rfl) (fun _ => by kernel_rfl) (q52_l0 r) (by
  rintro k _ ⟨x0,x3,x4,rfl,h⟩
  cases k with
  | zero => simp [impl_tilesOf.l0] at h
  | succ k =>
   rw [impl_tilesOf.l0] at h
   refine at_ (hn:=hn52) ?_
   refine mid (hn:=hn52) 2 3 [.val (.int .i64 (x0.length:Int))] (iI_len (k:=.i64) (xs:=x0)) (by kernel_rfl) ?_
   rcases ite_ h with ⟨g1,h2⟩ | ⟨g1,h2⟩
   ·obtain ⟨g3,h4⟩:=ip_ h2
    obtain ⟨g5,h6⟩:=ip_ h4
    obtain ⟨g7,h8⟩:=ip_ h6
    obtain ⟨⟨bt531_1,bt531_2⟩,c9,h10⟩:=bd_ h8
    try dsimp only at h10
    obtain ⟨g11,h12⟩:=ip_ h10
    exact leafBack (hn:=hn52) 11 [.val (.bool true),.val (.int .i64 (wrap64 (x4 - 1))),.elem (vi (rd x0 (wrap64 (x4 - 1)))),.elem (vi (rd x0 x4)),.call (.agg [vi bt531_1,vi bt531_2]),.go,.elem (.ow false 64 (iS64 (x3 ++ ([(⟨bt531_1,bt531_2⟩ : S64)])))),.val (.int .i64 (wrap64 (x4 + 1)))] [(31,50)] (q52_l0_mk h12) (Nat.lt_succ_self k) (And.intro (int_lss (P:=Tryz.prog) (t:=3) (k:=.i64) (x:=(.tmp 6)) (y:=(.tmp 8)) (a:=x4) (b:=(x0.length:Int)) (v:=true) (decide_eq_true g1)) (And.intro (And.intro (int_sub (P:=Tryz.prog) (t:=3) (k:=.i64) (x:=(.tmp 14)) (y:=(.const (.int .i64 1))) (a:=x4) (b:=1) (c:=(wrap64 (x4 - 1))) (IntWalk.i64_left _)) (And.intro (iI_rd (k:=.i64) (xs:=x0) (i:=(wrap64 (x4 - 1))) g3 g5) (And.intro (iI_rd (k:=.i64) (xs:=x0) (i:=x4) g7 g1) (And.intro (ad_77 c9) (iS64_app (N:=8796093022208) (b:=16) (xs:=x3) (ys:=[(⟨bt531_1,bt531_2⟩ : S64)]) (by decide) (Nat.succ_le_of_lt g11)))))) (int_add (P:=Tryz.prog) (t:=3) (k:=.i64) (x:=(.tmp 10)) (y:=(.const (.int .i64 1))) (a:=x4) (b:=1) (c:=(wrap64 (x4 + 1))) (IntWalk.i64_left _)))) (by kernel_rfl)
   ·obtain rfl:=Option.some.inj h2
    exact leafRet (hn:=hn52) 12 [.val (.bool false)] [] .ret (.inr rfl) (by kernel_rfl) (int_lss (P:=Tryz.prog) (t:=3) (k:=.i64) (x:=(.tmp 6)) (y:=(.tmp 8)) (a:=x4) (b:=(x0.length:Int)) (v:=false) (decide_eq_false g1)) (by kernel_rfl))
theorem ad_52 {k:Nat} {l0:List Int} {r:List (S64)} (h:impl_tilesOf.f k l0 = some r):CallH Tryz.prog 52 [.sl (iI .i64 l0)] [] (.sl (iS64 r)) []:=by
 unfold impl_tilesOf.f at h
 refine call_ok (c:=bodyOf Tryz.f52) (rs:=o52 r) (post:=p52 r) Tryz.func52 rfl rfl rfl (by kernel_rfl) ?_
 show AtP Tryz.prog 26 (bodyOf Tryz.f52) (KR Tryz.prog Tryz.f52.results.toList (o52 r) (p52 r)) [] [] (lookA [(0,.sl (iI .i64 l0))])
 refine at_ (hn:=hn52) ?_
 exact leafAt (hn:=hn52) 11 [.goT,.go] [] (at52_l0 _ _ (q52_l0_mk h)) True.intro (by kernel_rfl)

def hn49:Hint:=⟨[],[]⟩
def o49 (r:Bool):List AV:=[vb r]
def p49 (r:Bool):List (Nat × AV):=[]
theorem ad_49 {k:Nat} {l0:List Int} {r:Bool} (h:impl_IsChain.f k l0 = some r):CallH Tryz.prog 49 [.sl (iI .i64 l0)] [] (vb r) []:=by
 unfold impl_IsChain.f at h
 refine call_ok (c:=bodyOf Tryz.f49) (rs:=o49 r) (post:=p49 r) Tryz.func49 rfl rfl rfl (by kernel_rfl) ?_
 show AtP Tryz.prog 15 (bodyOf Tryz.f49) (KR Tryz.prog Tryz.f49.results.toList (o49 r) (p49 r)) [] [] (lookA [(0,.sl (iI .i64 l0))])
 refine at_ (hn:=hn49) ?_
 refine mid (hn:=hn49) 4 2 [.val (.int .i64 (l0.length:Int))] (iI_len (k:=.i64) (xs:=l0)) (by kernel_rfl) ?_
 rcases ite_ h with ⟨g1,h2⟩ | ⟨g1,h2⟩
 ·obtain ⟨t536,c3,h4⟩:=bd_ h2
  refine mid (hn:=hn49) 0 6 [.val (.bool true),.call (vb t536)] (And.intro (int_gtr (P:=Tryz.prog) (t:=3) (k:=.i64) (x:=(.tmp 4)) (y:=(.const (.int .i64 0))) (a:=(l0.length:Int)) (b:=0) (v:=true) (decide_eq_true g1)) (ad_48 c3)) (by kernel_rfl) ?_
  rcases ite_ h4 with ⟨g5,h6⟩ | ⟨g5,h6⟩
  ·subst g5
   obtain ⟨t537,c7,h8⟩:=bd_ h6
   obtain ⟨t540,c9,h10⟩:=bd_ h8
   obtain rfl:=Option.some.inj h10
   exact leafRet (hn:=hn49) 3 [.call (.sl (iS64 t537)),.call (vb t540)] [] .ret (.inr rfl) (by kernel_rfl) (And.intro (ad_52 c7) (ad_91 c9)) (by kernel_rfl)
  ·obtain rfl:=Bool.eq_false_iff.2 g5
   obtain rfl:=Option.some.inj h6
   exact leafRet (hn:=hn49) 3 [] [] .ret (.inr rfl) (by kernel_rfl) True.intro (by kernel_rfl)
 ·obtain rfl:=Option.some.inj h2
  exact leafRet (hn:=hn49) 3 [.val (.bool false)] [] .ret (.inr rfl) (by kernel_rfl) (int_gtr (P:=Tryz.prog) (t:=3) (k:=.i64) (x:=(.tmp 4)) (y:=(.const (.int .i64 0))) (a:=(l0.length:Int)) (b:=0) (v:=false) (decide_eq_false g1)) (by kernel_rfl)

def hn50:Hint:=⟨[],[]⟩
def o50 (r:Bool):List AV:=[vb r]
def p50 (r:Bool):List (Nat × AV):=[]
def q50_l0 (r:Bool) (k:Nat) (L:List (Nat × AV)):Prop:=∃ (x0:List (S64)) (x1:List (S64)) (x12:Int) (x13:Int),L = [(0,.sl (iS64 x0)),(1,.sl (iS64 x1)),(12,vi x12),(13,vi x13)] ∧ slices_Equal_impl_Tile_impl_Tile.l0 k x0 x1 x12 x13 = some r
theorem q50_l0_mk {r:Bool} {k:Nat} {x0:List (S64)} {x1:List (S64)} {x12:Int} {x13:Int} (h:slices_Equal_impl_Tile_impl_Tile.l0 k x0 x1 x12 x13 = some r):q50_l0 r k [(0,.sl (iS64 x0)),(1,.sl (iS64 x1)),(12,vi x12),(13,vi x13)]:=⟨x0,x1,x12,x13,rfl,h⟩
theorem at50_l0 {r:Bool}:∀ k L,q50_l0 r k L → AtP Tryz.prog 26 (bodyOf Tryz.f50) (KR Tryz.prog Tryz.f50.results.toList (o50 r) (p50 r)) [true,true,false,true,false] [] (lookA L) :=
 at_loop (by kernel_rfl) (fun _ => by kernel_rfl) (q50_l0 r) (by
  rintro k _ ⟨x0,x1,x12,x13,rfl,h⟩
  cases k with
  | zero => simp [slices_Equal_impl_Tile_impl_Tile.l0] at h
  | succ k =>
   rw [slices_Equal_impl_Tile_impl_Tile.l0] at h
   refine at_ (hn:=hn50) ?_
   rcases ite_ h with ⟨g1,h2⟩ | ⟨g1,h2⟩
   ·obtain ⟨g3,h4⟩:=ip_ h2
    obtain ⟨g5,h6⟩:=ip_ h4
    obtain ⟨g7,h8⟩:=ip_ h6
    refine mid (hn:=hn50) 13 8 [.val (.bool true),.elem (.agg [vi ((rd_T64 x0 x13).f0),vi ((rd_T64 x0 x13).f1)]),.elem (.agg [vi ((rd_T64 x1 x13).f0),vi ((rd_T64 x1 x13).f1)])] (And.intro (int_lss (P:=Tryz.prog) (t:=3) (k:=.i64) (x:=(.tmp 13)) (y:=(.tmp 12)) (a:=x13) (b:=x12) (v:=true) (decide_eq_true g1)) (And.intro (iS64_rd (xs:=x0) (i:=x13) g3 g5) (iS64_rd (xs:=x1) (i:=x13) g3 g7))) (by kernel_rfl) ?_
    rcases ite_ h8 with ⟨g9,h10⟩ | ⟨g9,h10⟩
    ·obtain rfl:=Option.some.inj h10
     exact leafRet (hn:=hn50) 12 [.val (.bool true)] [] .ret (.inr rfl) (by kernel_rfl) (agg_64_neq (x:=(.tmp 19)) (y:=(.tmp 23)) (a0:=((rd_T64 x0 x13).f0)) (b0:=((rd_T64 x1 x13).f0)) (a1:=((rd_T64 x0 x13).f1)) (b1:=((rd_T64 x1 x13).f1)) (v:=true) (by simp only [Bool.not_and]; exact g9)) (by kernel_rfl)
    ·exact leafBack (hn:=hn50) 7 [.val (.bool false),.val (.int .i64 (wrap64 (x13 + 1)))] [] (q50_l0_mk h10) (Nat.lt_succ_self k) (And.intro (agg_64_neq (x:=(.tmp 19)) (y:=(.tmp 23)) (a0:=((rd_T64 x0 x13).f0)) (b0:=((rd_T64 x1 x13).f0)) (a1:=((rd_T64 x0 x13).f1)) (b1:=((rd_T64 x1 x13).f1)) (v:=false) (by simp only [Bool.not_and]; exact (Bool.eq_false_iff.2 g9))) (int_add (P:=Tryz.prog) (t:=3) (k:=.i64) (x:=(.tmp 13)) (y:=(.const (.int .i64 1))) (a:=x13) (b:=1) (c:=(wrap64 (x13 + 1))) (IntWalk.i64_left _))) (by kernel_rfl)
   ·obtain rfl:=Option.some.inj h2
    exact leafRet (hn:=hn50) 14 [.val (.bool false)] [] .ret (.inr rfl) (by kernel_rfl) (int_lss (P:=Tryz.prog) (t:=3) (k:=.i64) (x:=(.tmp 13)) (y:=(.tmp 12)) (a:=x13) (b:=x12) (v:=false) (decide_eq_false g1)) (by kernel_rfl))
theorem ad_50 {k:Nat} {l0:List (S64)} {l1:List (S64)} {r:Bool} (h:slices_Equal_impl_Tile_impl_Tile.f k l0 l1 = some r):CallH Tryz.prog 50 [.sl (iS64 l0),.sl (iS64 l1)] [] (vb r) []:=by
 unfold slices_Equal_impl_Tile_impl_Tile.f at h
 refine call_ok (c:=bodyOf Tryz.f50) (rs:=o50 r) (post:=p50 r) Tryz.func50 rfl rfl rfl (by kernel_rfl) ?_
 show AtP Tryz.prog 26 (bodyOf Tryz.f50) (KR Tryz.prog Tryz.f50.results.toList (o50 r) (p50 r)) [] [] (lookA [(0,.sl (iS64 l0)),(1,.sl (iS64 l1))])
 refine at_ (hn:=hn50) ?_
 refine mid (hn:=hn50) 5 4 [.val (.int .i64 (l0.length:Int)),.val (.int .i64 (l1.length:Int))] (And.intro (iS64_len (xs:=l0)) (iS64_len (xs:=l1))) (by kernel_rfl) ?_
 rcases ite_ h with ⟨g1,h2⟩ | ⟨g1,h2⟩
 ·exact leafAt (hn:=hn50) 10 [.val (.bool false),.val (.int .i64 (l0.length:Int))] [] (at50_l0 _ _ (q50_l0_mk h2)) (And.intro (int_neq (P:=Tryz.prog) (t:=3) (k:=.i64) (x:=(.tmp 7)) (y:=(.tmp 9)) (a:=(l0.length:Int)) (b:=(l1.length:Int)) (v:=false) (nbeq_f g1)) (iS64_len (xs:=l0))) (by kernel_rfl)
 ·obtain rfl:=Option.some.inj h2
  exact leafRet (hn:=hn50) 8 [.val (.bool true)] [] .ret (.inr rfl) (by kernel_rfl) (int_neq (P:=Tryz.prog) (t:=3) (k:=.i64) (x:=(.tmp 7)) (y:=(.tmp 9)) (a:=(l0.length:Int)) (b:=(l1.length:Int)) (v:=true) (nbeq_t g1)) (by kernel_rfl)

def hn24:Hint:=⟨[(2,[46]),(18,[46]),(26,[46])],[]⟩
def o24 (r:Bool × Bool):List AV:=[vb r.1,vb r.2]
def p24 (r:Bool × Bool):List (Nat × AV):=[]
def q24_l0 (r:Bool × Bool) (k:Nat) (L:List (Nat × AV)):Prop:=∃ (x31:List Int) (x32:Int) (x33:Int) (x544000:List (S64)) (x544001:List Int),L = [(2,.loc 46 0),(31,.sl (iI .i64 x31)),(32,vi x32),(33,vi x33),(46,.box (.agg [.sl (iS64 x544000),.sl (iI .i64 x544001)]))] ∧ impl_IsSolution.l0 k x31 x32 x33 x544000 x544001 = some r
theorem q24_l0_mk {r:Bool × Bool} {k:Nat} {x31:List Int} {x32:Int} {x33:Int} {x544000:List (S64)} {x544001:List Int} (h:impl_IsSolution.l0 k x31 x32 x33 x544000 x544001 = some r):q24_l0 r k [(2,.loc 46 0),(31,.sl (iI .i64 x31)),(32,vi x32),(33,vi x33),(46,.box (.agg [.sl (iS64 x544000),.sl (iI .i64 x544001)]))]:=⟨x31,x32,x33,x544000,x544001,rfl,h⟩
theorem at24_l0 {r:Bool × Bool}:∀ k L,q24_l0 r k L → AtP Tryz.prog 44 (bodyOf Tryz.f24) (KR Tryz.prog Tryz.f24.results.toList (o24 r) (p24 r)) [true,true,true,false,true,false] [] (lookA L) :=
 at_loop (by kernel_rfl) (fun _ => by kernel_rfl) (q24_l0 r) (by
  rintro k _ ⟨x31,x32,x33,x544000,x544001,rfl,h⟩
  cases k with
  | zero => simp [impl_IsSolution.l0] at h
  | succ k =>
   rw [impl_IsSolution.l0] at h
   refine at_ (hn:=hn24) ?_
   rcases ite_ h with ⟨g1,h2⟩ | ⟨g1,h2⟩
   ·obtain ⟨g3,h4⟩:=ip_ h2
    obtain ⟨g5,h6⟩:=ip_ h4
    obtain ⟨t554,c7,h8⟩:=bd_ h6
    refine mid (hn:=hn24) 13 4 [.val (.bool true),.elem (vi (rd x31 x33)),.call (vb t554)] (And.intro (int_lss (P:=Tryz.prog) (t:=3) (k:=.i64) (x:=(.tmp 33)) (y:=(.tmp 32)) (a:=x33) (b:=x32) (v:=true) (decide_eq_true g1)) (And.intro (iI_rd (k:=.i64) (xs:=x31) (i:=x33) g3 g5) (ad_53 c7))) (by kernel_rfl) ?_
    rcases ite_ h8 with ⟨g9,h10⟩ | ⟨g9,h10⟩
    ·subst g9
     exact leafBack (hn:=hn24) 7 [.val (.int .i64 (wrap64 (x33 + 1)))] [] (q24_l0_mk h10) (Nat.lt_succ_self k) (int_add (P:=Tryz.prog) (t:=3) (k:=.i64) (x:=(.tmp 33)) (y:=(.const (.int .i64 1))) (a:=x33) (b:=1) (c:=(wrap64 (x33 + 1))) (IntWalk.i64_left _)) (by kernel_rfl)
    ·obtain rfl:=Bool.eq_false_iff.2 g9
     obtain rfl:=Option.some.inj h10
     exact leafRet (hn:=hn24) 12 [] [] .ret (.inr rfl) (by kernel_rfl) True.intro (by kernel_rfl)
   ·obtain rfl:=Option.some.inj h2
    exact leafRet (hn:=hn24) 14 [.val (.bool false)] [] .ret (.inr rfl) (by kernel_rfl) (int_lss (P:=Tryz.prog) (t:=3) (k:=.i64) (x:=(.tmp 33)) (y:=(.tmp 32)) (a:=x33) (b:=x32) (v:=false) (decide_eq_false g1)) (by kernel_rfl))
theorem at24_j1 {r:Bool × Bool} {k:Nat} {x1:List Int} {x30:Bool} {x544000:List (S64)} {x544001:List Int} (h:impl_IsSolution.j1 k x1 x30 x544000 x544001 = some r):AtP Tryz.prog 44 (bodyOf Tryz.f24) (KR Tryz.prog Tryz.f24.results.toList (o24 r) (p24 r)) [true,true,false,true] [] (lookA [(1,.sl (iI .i64 x1)),(2,.loc 46 0),(30,vb x30),(46,.box (.agg [.sl (iS64 x544000),.sl (iI .i64 x544001)]))]):=by
 cases k with
 | zero => simp [impl_IsSolution.j1] at h
 | succ k =>
  rw [impl_IsSolution.j1] at h
  refine at_ (hn:=hn24) ?_
  rcases ite_ h with ⟨g1,h2⟩ | ⟨g1,h2⟩
  ·subst g1
   obtain rfl:=Option.some.inj h2
   exact leafRet (hn:=hn24) 6 [] [] .ret (.inr rfl) (by kernel_rfl) True.intro (by kernel_rfl)
  ·obtain rfl:=Bool.eq_false_iff.2 g1
   exact leafAt (hn:=hn24) 8 [.val (.int .i64 (x1.length:Int))] [] (at24_l0 _ _ (q24_l0_mk h2)) (iI_len (k:=.i64) (xs:=x1)) (by kernel_rfl)
theorem at24_j0 {r:Bool × Bool} {k:Nat} {x1:List Int} {x15:Bool} {x544000:List (S64)} {x544001:List Int} (h:impl_IsSolution.j0 k x1 x15 x544000 x544001 = some r):AtP Tryz.prog 44 (bodyOf Tryz.f24) (KR Tryz.prog Tryz.f24.results.toList (o24 r) (p24 r)) [true,false,true] [] (lookA [(1,.sl (iI .i64 x1)),(2,.loc 46 0),(15,vb x15),(46,.box (.agg [.sl (iS64 x544000),.sl (iI .i64 x544001)]))]):=by
 cases k with
 | zero => simp [impl_IsSolution.j0] at h
 | succ k =>
  rw [impl_IsSolution.j0] at h
  refine at_ (hn:=hn24) ?_
  rcases ite_ h with ⟨g1,h2⟩ | ⟨g1,h2⟩
  ·subst g1
   obtain rfl:=Option.some.inj h2
   exact leafRet (hn:=hn24) 6 [] [] .ret (.inr rfl) (by kernel_rfl) True.intro (by kernel_rfl)
  ·obtain rfl:=Bool.eq_false_iff.2 g1
   refine mid (hn:=hn24) 5 5 [.val (.int .i64 (x1.length:Int)),.val (.int .i64 (x544001.length:Int))] (And.intro (iI_len (k:=.i64) (xs:=x1)) (iI_len (k:=.i64) (xs:=x544001))) (by kernel_rfl) ?_
   rcases ite_ h2 with ⟨g3,h4⟩ | ⟨g3,h4⟩
   ·obtain ⟨t546,c5,h6⟩:=bd_ h4
    obtain ⟨t549,c7,h8⟩:=bd_ h6
    obtain ⟨t552,c9,h10⟩:=bd_ h8
    exact leafAt (hn:=hn24) 2 [.val (.bool false),.call (.sl (iS64 t546)),.call (.sl (iS64 t549)),.call (vb t552)] [] (at24_j1 h10) (And.intro (int_neq (P:=Tryz.prog) (t:=3) (k:=.i64) (x:=(.tmp 17)) (y:=(.tmp 20)) (a:=(x1.length:Int)) (b:=(x544001.length:Int)) (v:=false) (nbeq_f g3)) (And.intro (ad_52 c5) (And.intro (ad_51 c7) (ad_50 c9)))) (by kernel_rfl)
   ·exact leafAt (hn:=hn24) 2 [.val (.bool true)] [] (at24_j1 h4) (int_neq (P:=Tryz.prog) (t:=3) (k:=.i64) (x:=(.tmp 17)) (y:=(.tmp 20)) (a:=(x1.length:Int)) (b:=(x544001.length:Int)) (v:=true) (nbeq_t g3)) (by kernel_rfl)
theorem ad_24 {k:Nat} {l0_0:List (S64)} {l0_1:List Int} {l1:List Int} {r1:Bool} {r2:Bool} (h:impl_IsSolution.f k l0_0 l0_1 l1 = some (r1,r2)):CallH Tryz.prog 24 [.agg [.sl (iS64 l0_0),.sl (iI .i64 l0_1)],.sl (iI .i64 l1)] [] (.tup [vb r1,vb r2]) []:=by
 unfold impl_IsSolution.f at h
 refine call_ok (c:=bodyOf Tryz.f24) (rs:=o24 (r1,r2)) (post:=p24 (r1,r2)) Tryz.func24 rfl rfl rfl (by kernel_rfl) ?_
 show AtP Tryz.prog 44 (bodyOf Tryz.f24) (KR Tryz.prog Tryz.f24.results.toList (o24 (r1,r2)) (p24 (r1,r2))) [] [] (lookA [(0,.agg [.sl (iS64 l0_0),.sl (iI .i64 l0_1)]),(1,.sl (iI .i64 l1))])
 refine at_ (hn:=hn24) ?_
 obtain ⟨t544,c1,h2⟩:=bd_ h
 refine mid (hn:=hn24) 5 4 [.call (vb t544)] (ad_22 c1) (by kernel_rfl) ?_
 rcases ite_ h2 with ⟨g3,h4⟩ | ⟨g3,h4⟩
 ·subst g3
  obtain ⟨t545,c5,h6⟩:=bd_ h4
  exact leafAt (hn:=hn24) 2 [.call (vb t545)] [] (at24_j0 h6) (ad_49 c5) (by kernel_rfl)
 ·obtain rfl:=Bool.eq_false_iff.2 g3
  exact leafAt (hn:=hn24) 2 [] [] (at24_j0 h4) True.intro (by kernel_rfl)

def hn25:Hint:=⟨[],[]⟩
def o25 (r:Bool):List AV:=[vb r]
def p25 (r:Bool):List (Nat × AV):=[]
def q25_l0 (r:Bool) (k:Nat) (L:List (Nat × AV)):Prop:=∃ (x0:List Int) (x1:List Int) (x5:Int),L = [(0,.sl (iI .i64 x0)),(1,.sl (iI .i64 x1)),(5,vi x5)] ∧ laws_iLess.l0 k x0 x1 x5 = some r
theorem q25_l0_mk {r:Bool} {k:Nat} {x0:List Int} {x1:List Int} {x5:Int} (h:laws_iLess.l0 k x0 x1 x5 = some r):q25_l0 r k [(0,.sl (iI .i64 x0)),(1,.sl (iI .i64 x1)),(5,vi x5)]:=⟨x0,x1,x5,rfl,h⟩
theorem at25_j1 {r:Bool} {K0:Nat} {k:Nat} {x0:List Int} {x1:List Int} {x5:Int} {x15:Bool} (hk0:k < K0) (h:laws_iLess.j1 k x0 x1 x5 x15 = some r):AtP Tryz.prog 41 (bodyOf Tryz.f25) (KR Tryz.prog Tryz.f25.results.toList (o25 r) (p25 r)) [true,false,true,false,false,false,true] [upto (q25_l0 r) K0] (lookA [(0,.sl (iI .i64 x0)),(1,.sl (iI .i64 x1)),(5,vi x5),(15,vb x15)]):=by
 cases k with
 | zero => simp [laws_iLess.j1] at h
 | succ k =>
  rw [laws_iLess.j1] at h
  have hk0:=Nat.lt_of_succ_lt hk0
  refine at_ (hn:=hn25) ?_
  rcases ite_ h with ⟨g1,h2⟩ | ⟨g1,h2⟩
  ·subst g1
   obtain ⟨g3,h4⟩:=ip_ h2
   obtain ⟨g5,h6⟩:=ip_ h4
   obtain ⟨g7,h8⟩:=ip_ h6
   refine mid (hn:=hn25) 6 8 [.elem (vi (rd x0 x5)),.elem (vi (rd x1 x5))] (And.intro (iI_rd (k:=.i64) (xs:=x0) (i:=x5) g3 g5) (iI_rd (k:=.i64) (xs:=x1) (i:=x5) g3 g7)) (by kernel_rfl) ?_
   rcases ite_ h8 with ⟨g9,h10⟩ | ⟨g9,h10⟩
   ·exact leafBack (hn:=hn25) 7 [.val (.bool false),.val (.int .i64 (wrap64 (x5 + 1)))] [] (q25_l0_mk h10) hk0 (And.intro (int_neq (P:=Tryz.prog) (t:=3) (k:=.i64) (x:=(.tmp 21)) (y:=(.tmp 25)) (a:=(rd x0 x5)) (b:=(rd x1 x5)) (v:=false) (nbeq_f g9)) (int_add (P:=Tryz.prog) (t:=3) (k:=.i64) (x:=(.tmp 16)) (y:=(.const (.int .i64 1))) (a:=x5) (b:=1) (c:=(wrap64 (x5 + 1))) (IntWalk.i64_left _))) (by kernel_rfl)
   ·obtain rfl:=Option.some.inj h10
    exact leafRet (hn:=hn25) 12 [.val (.bool true),.elem (vi (rd x0 x5)),.elem (vi (rd x1 x5)),.val (.bool (decide ((rd x0 x5) < (rd x1 x5))))] [] .ret (.inr rfl) (by kernel_rfl) (And.intro (int_neq (P:=Tryz.prog) (t:=3) (k:=.i64) (x:=(.tmp 21)) (y:=(.tmp 25)) (a:=(rd x0 x5)) (b:=(rd x1 x5)) (v:=true) (nbeq_t g9)) (And.intro (iI_rd (k:=.i64) (xs:=x0) (i:=x5) g3 g5) (And.intro (iI_rd (k:=.i64) (xs:=x1) (i:=x5) g3 g7) (int_lss (P:=Tryz.prog) (t:=3) (k:=.i64) (x:=(.tmp 30)) (y:=(.tmp 34)) (a:=(rd x0 x5)) (b:=(rd x1 x5)) (v:=(decide ((rd x0 x5) < (rd x1 x5)))) rfl)))) (by kernel_rfl)
  ·obtain rfl:=Bool.eq_false_iff.2 g1
   obtain rfl:=Option.some.inj h2
   exact leafRet (hn:=hn25) 10 [.val (.int .i64 (x0.length:Int)),.val (.int .i64 (x1.length:Int)),.val (.bool (decide ((x0.length:Int) < (x1.length:Int))))] [] .ret (.inr rfl) (by kernel_rfl) (And.intro (iI_len (k:=.i64) (xs:=x0)) (And.intro (iI_len (k:=.i64) (xs:=x1)) (int_lss (P:=Tryz.prog) (t:=3) (k:=.i64) (x:=(.tmp 37)) (y:=(.tmp 39)) (a:=(x0.length:Int)) (b:=(x1.length:Int)) (v:=(decide ((x0.length:Int) < (x1.length:Int)))) rfl))) (by kernel_rfl)
theorem at25_l0 {r:Bool}:∀ k L,q25_l0 r k L → AtP Tryz.prog 41 (bodyOf Tryz.f25) (KR Tryz.prog Tryz.f25.results.toList (o25 r) (p25 r)) [true,false,true,false] [] (lookA L) :=
 at_loop (by kernel_rfl) (fun _ => by kernel_rfl) (q25_l0 r) (by
  rintro k _ ⟨x0,x1,x5,rfl,h⟩
  cases k with
  | zero => simp [laws_iLess.l0] at h
  | succ k =>
   rw [laws_iLess.l0] at h
   refine at_ (hn:=hn25) ?_
   refine mid (hn:=hn25) 2 3 [.val (.int .i64 (x0.length:Int))] (iI_len (k:=.i64) (xs:=x0)) (by kernel_rfl) ?_
   rcases ite_ h with ⟨g1,h2⟩ | ⟨g1,h2⟩
   ·exact leafAt (hn:=hn25) 2 [.val (.bool true),.val (.int .i64 (x1.length:Int)),.val (.bool (decide (x5 < (x1.length:Int))))] [] (at25_j1 (Nat.lt_succ_self k) h2) (And.intro (int_lss (P:=Tryz.prog) (t:=3) (k:=.i64) (x:=(.tmp 6)) (y:=(.tmp 8)) (a:=x5) (b:=(x0.length:Int)) (v:=true) (decide_eq_true g1)) (And.intro (iI_len (k:=.i64) (xs:=x1)) (int_lss (P:=Tryz.prog) (t:=3) (k:=.i64) (x:=(.tmp 11)) (y:=(.tmp 13)) (a:=x5) (b:=(x1.length:Int)) (v:=(decide (x5 < (x1.length:Int)))) rfl))) (by kernel_rfl)
   ·exact leafAt (hn:=hn25) 2 [.val (.bool false)] [] (at25_j1 (Nat.lt_succ_self k) h2) (int_lss (P:=Tryz.prog) (t:=3) (k:=.i64) (x:=(.tmp 6)) (y:=(.tmp 8)) (a:=x5) (b:=(x0.length:Int)) (v:=false) (decide_eq_false g1)) (by kernel_rfl))
theorem ad_25 {k:Nat} {l0:List Int} {l1:List Int} {r:Bool} (h:laws_iLess.f k l0 l1 = some r):CallH Tryz.prog 25 [.sl (iI .i64 l0),.sl (iI .i64 l1)] [] (vb r) []:=by
 unfold laws_iLess.f at h
 refine call_ok (c:=bodyOf Tryz.f25) (rs:=o25 r) (post:=p25 r) Tryz.func25 rfl rfl rfl (by kernel_rfl) ?_
 show AtP Tryz.prog 41 (bodyOf Tryz.f25) (KR Tryz.prog Tryz.f25.results.toList (o25 r) (p25 r)) [] [] (lookA [(0,.sl (iI .i64 l0)),(1,.sl (iI .i64 l1))])
 refine at_ (hn:=hn25) ?_
 exact leafAt (hn:=hn25) 8 [] [] (at25_l0 _ _ (q25_l0_mk h)) True.intro (by kernel_rfl)

def hn95:Hint:=⟨[(4,[1000000]),(14,[1000000]),(16,[1000000]),(18,[1000000]),(20,[1000000]),(22,[1000000]),(24,[1000000]),(26,[1000000]),(27,[1000000])],[]⟩
def o95 (r:List Int):List AV:=[]
def p95 (r:List Int):List (Nat × AV):=[(1000000,.ow true 3 (iI .i64 r))]
def q95_l0 (r:List Int) (k:Nat) (L:List (Nat × AV)):Prop:=∃ (x0:List Int) (x2:Int) (x3:Int),L = [(0,.row 1000000),(2,vi x2),(3,vi x3),(1000000,.ow true 3 (iI .i64 x0))] ∧ slices_Reverse_int_int.l0 k x0 x2 x3 = some r
theorem q95_l0_mk {r:List Int} {k:Nat} {x0:List Int} {x2:Int} {x3:Int} (h:slices_Reverse_int_int.l0 k x0 x2 x3 = some r):q95_l0 r k [(0,.row 1000000),(2,vi x2),(3,vi x3),(1000000,.ow true 3 (iI .i64 x0))]:=⟨x0,x2,x3,rfl,h⟩
theorem at95_l0 {r:List Int}:∀ k L,q95_l0 r k L → AtP Tryz.prog 28 (bodyOf Tryz.f95) (KR Tryz.prog Tryz.f95.results.toList (o95 r) (p95 r)) [true,false] [] (lookA L) :=
 at_loop (by kernel_rfl) (fun _ => by kernel_rfl) (q95_l0 r) (by
  rintro k _ ⟨x0,x2,x3,rfl,h⟩
  cases k with
  | zero => simp [slices_Reverse_int_int.l0] at h
  | succ k =>
   rw [slices_Reverse_int_int.l0] at h
   refine at_ (hn:=hn95) ?_
   rcases ite_ h with ⟨g1,h2⟩ | ⟨g1,h2⟩
   ·obtain ⟨g3,h4⟩:=ip_ h2
    obtain ⟨g5,h6⟩:=ip_ h4
    obtain ⟨g7,h8⟩:=ip_ h6
    obtain ⟨g9,h10⟩:=ip_ h8
    exact leafBack (hn:=hn95) 13 [.val (.bool true),.go,.elem (vi (rd x0 x3)),.go,.elem (vi (rd x0 x2)),.go,.elem (vi (rd x0 x2)),.elem (.ow true 3 (iI .i64 (x0.set ((x2:Int).toNat) (rd x0 x3)))),.go,.elem (vi (rd (x0.set ((x2:Int).toNat) (rd x0 x3)) x3)),.elem (.ow true 3 (iI .i64 ((x0.set ((x2:Int).toNat) (rd x0 x3)).set ((x3:Int).toNat) (rd x0 x2)))),.val (.int .i64 (wrap64 (x2 + 1))),.val (.int .i64 (wrap64 (x3 - 1)))] [] (q95_l0_mk h10) (Nat.lt_succ_self k) (And.intro (int_lss (P:=Tryz.prog) (t:=3) (k:=.i64) (x:=(.tmp 7)) (y:=(.tmp 8)) (a:=x2) (b:=x3) (v:=true) (decide_eq_true g1)) (And.intro (And.intro (iI_lt (k:=.i64) (xs:=x0) (i:=x3) g3 g5) (And.intro (And.right (iI_rd (k:=.i64) (xs:=x0) (i:=x3) g3 g5)) (And.intro (iI_lt (k:=.i64) (xs:=x0) (i:=x2) g7 g9) (And.intro (And.right (iI_rd (k:=.i64) (xs:=x0) (i:=x2) g7 g9)) (And.intro (iI_lt (k:=.i64) (xs:=x0) (i:=x2) g7 g9) (And.intro (iI_set (k:=.i64) (xs:=x0) (i:=x2) (x:=(rd x0 x3)) g7 g9) (And.intro (iI_lt (k:=.i64) (xs:=(x0.set ((x2:Int).toNat) (rd x0 x3))) (i:=x3) g3 (by simp only [List.length_set]; omega)) (iI_set (k:=.i64) (xs:=(x0.set ((x2:Int).toNat) (rd x0 x3))) (i:=x3) (x:=(rd x0 x2)) g3 (by simp only [List.length_set]; omega))))))))) (And.intro (int_add (P:=Tryz.prog) (t:=3) (k:=.i64) (x:=(.tmp 10)) (y:=(.const (.int .i64 1))) (a:=x2) (b:=1) (c:=(wrap64 (x2 + 1))) (IntWalk.i64_left _)) (int_sub (P:=Tryz.prog) (t:=3) (k:=.i64) (x:=(.tmp 12)) (y:=(.const (.int .i64 1))) (a:=x3) (b:=1) (c:=(wrap64 (x3 - 1))) (IntWalk.i64_left _))))) (by kernel_rfl)
   ·obtain rfl:=Option.some.inj h2
    exact leafRet (hn:=hn95) 9 [.val (.bool false)] [] .normal (.inl rfl) (by kernel_rfl) (int_lss (P:=Tryz.prog) (t:=3) (k:=.i64) (x:=(.tmp 7)) (y:=(.tmp 8)) (a:=x2) (b:=x3) (v:=false) (decide_eq_false g1)) (by kernel_rfl))
theorem ad_95 {k:Nat} {l0:List Int} {r:List Int} (h:slices_Reverse_int_int.f k l0 = some r):CallH Tryz.prog 95 [.row 1000000] [(1000000,.ow true 3 (iI .i64 l0))] (.tup []) [(1000000,.ow true 3 (iI .i64 r))]:=by
 unfold slices_Reverse_int_int.f at h
 refine call_ok (c:=bodyOf Tryz.f95) (rs:=o95 r) (post:=p95 r) Tryz.func95 rfl rfl rfl (by kernel_rfl) ?_
 show AtP Tryz.prog 28 (bodyOf Tryz.f95) (KR Tryz.prog Tryz.f95.results.toList (o95 r) (p95 r)) [] [] (lookA [(0,.row 1000000),(1000000,.ow true 3 (iI .i64 l0))])
 refine at_ (hn:=hn95) ?_
 exact leafAt (hn:=hn95) 4 [.val (.int .i64 (l0.length:Int)),.val (.int .i64 (wrap64 ((l0.length:Int) - 1)))] [] (at95_l0 _ _ (q95_l0_mk h)) (And.intro (iI_len (k:=.i64) (xs:=l0)) (int_sub (P:=Tryz.prog) (t:=3) (k:=.i64) (x:=(.tmp 5)) (y:=(.const (.int .i64 1))) (a:=(l0.length:Int)) (b:=1) (c:=(wrap64 ((l0.length:Int) - 1))) (IntWalk.i64_left _))) (by kernel_rfl)

def hn55:Hint:=⟨[(6,[14])],[]⟩
def o55 (r:List Int):List AV:=[.sl (iI .i64 r)]
def p55 (r:List Int):List (Nat × AV):=[]
theorem ad_55 {k:Nat} {l0:List Int} {r:List Int} (h:impl_turned.f k l0 = some r):CallH Tryz.prog 55 [.sl (iI .i64 l0)] [] (.sl (iI .i64 r)) []:=by
 unfold impl_turned.f at h
 refine call_ok (c:=bodyOf Tryz.f55) (rs:=o55 r) (post:=p55 r) Tryz.func55 rfl rfl rfl (by kernel_rfl) ?_
 show AtP Tryz.prog 9 (bodyOf Tryz.f55) (KR Tryz.prog Tryz.f55.results.toList (o55 r) (p55 r)) [] [] (lookA [(0,.sl (iI .i64 l0))])
 refine at_ (hn:=hn55) ?_
 obtain ⟨t563,c1,h2⟩:=bd_ h
 obtain ⟨t566,c3,h4⟩:=bd_ h2
 obtain rfl:=Option.some.inj h4
 exact leafRet (hn:=hn55) 13 [.goT,.callH [] (.row 14) [(14,.ow true 3 (iI .i64 t563))],.callH [14] (.tup []) [(14,.ow true 3 (iI .i64 t566))],.fz 14] [] .ret (.inr rfl) (by kernel_rfl) (And.intro (CallH.ren [(500000,14)] rfl rfl (ad_37 c1)) (CallH.ren [(1000000,14)] rfl rfl (ad_95 c3))) (by kernel_rfl)

def hn26:Hint:=⟨[(1,[16]),(2,[17]),(8,[16]),(11,[16]),(14,[25])],[]⟩
def o26 (r:(List (S64)) × List Int × Bool):List AV:=[.agg [.sl (iS64 r.1),.sl (iI .i64 r.2.1)],vb r.2.2]
def p26 (r:(List (S64)) × List Int × Bool):List (Nat × AV):=[]
theorem ad_26 {k:Nat} {l0_0:List (S64)} {l0_1:List Int} {r1:List (S64)} {r2:List Int} {r3:Bool} (h:impl_TurnPuzzle.f k l0_0 l0_1 = some (r1,r2,r3)):CallH Tryz.prog 26 [.agg [.sl (iS64 l0_0),.sl (iI .i64 l0_1)]] [] (.tup [.agg [.sl (iS64 r1),.sl (iI .i64 r2)],vb r3]) []:=by
 unfold impl_TurnPuzzle.f at h
 refine call_ok (c:=bodyOf Tryz.f26) (rs:=o26 (r1,r2,r3)) (post:=p26 (r1,r2,r3)) Tryz.func26 rfl rfl rfl (by kernel_rfl) ?_
 show AtP Tryz.prog 15 (bodyOf Tryz.f26) (KR Tryz.prog Tryz.f26.results.toList (o26 (r1,r2,r3)) (p26 (r1,r2,r3))) [] [] (lookA [(0,.agg [.sl (iS64 l0_0),.sl (iI .i64 l0_1)])])
 refine at_ (hn:=hn26) ?_
 obtain ⟨t569,c1,h2⟩:=bd_ h
 refine mid (hn:=hn26) 5 2 [.call (vb t569)] (ad_22 c1) (by kernel_rfl) ?_
 rcases ite_ h2 with ⟨g3,h4⟩ | ⟨g3,h4⟩
 ·subst g3
  obtain ⟨t570,c5,h6⟩:=bd_ h4
  obtain ⟨t573,c7,h8⟩:=bd_ h6
  obtain ⟨rfl,rfl,rfl⟩:=pr3_ h8
  exact leafRet (hn:=hn26) 9 [.callH [] (.row 25) [(25,.ow false 64 (iS64 t570))],.call (.sl (iI .i64 t573)),.go] [] .ret (.inr rfl) (by kernel_rfl) (And.intro (CallH.ren [(500000,25)] rfl rfl (CallH.frz 500000 rfl (ad_54 c5))) (ad_55 c7)) (by kernel_rfl)
 ·obtain rfl:=Bool.eq_false_iff.2 g3
  obtain ⟨rfl,rfl,rfl⟩:=pr3_ h4
  exact leafRet (hn:=hn26) 8 [.go] [] .ret (.inr rfl) (by kernel_rfl) True.intro (by kernel_rfl)

def hn56:Hint:=⟨[(2,[17]),(9,[17])],[]⟩
def o56 (r:Bool):List AV:=[vb r]
def p56 (r:Bool):List (Nat × AV):=[]
theorem ad_56 {k:Nat} {l0_0:List (S64)} {l0_1:List Int} {a1:Int} {r:Bool} (h:impl_isPlace.f k l0_0 l0_1 a1 = some r):CallH Tryz.prog 56 [.agg [.sl (iS64 l0_0),.sl (iI .i64 l0_1)],vi a1] [] (vb r) []:=by
 unfold impl_isPlace.f at h
 refine call_ok (c:=bodyOf Tryz.f56) (rs:=o56 r) (post:=p56 r) Tryz.func56 rfl rfl rfl (by kernel_rfl) ?_
 show AtP Tryz.prog 15 (bodyOf Tryz.f56) (KR Tryz.prog Tryz.f56.results.toList (o56 r) (p56 r)) [] [] (lookA [(0,.agg [.sl (iS64 l0_0),.sl (iI .i64 l0_1)]),(1,vi a1)])
 refine at_ (hn:=hn56) ?_
 obtain ⟨t577,c1,h2⟩:=bd_ h
 refine mid (hn:=hn56) 4 3 [.call (vb t577)] (ad_22 c1) (by kernel_rfl) ?_
 rcases ite_ h2 with ⟨g3,h4⟩ | ⟨g3,h4⟩
 ·subst g3
  obtain ⟨t578,c5,h6⟩:=bd_ h4
  obtain rfl:=Option.some.inj h6
  exact leafRet (hn:=hn56) 3 [.val (.int .i64 (l0_1.length:Int)),.val (.int .i64 (wrap64 ((l0_1.length:Int) - 1))),.call (vb t578)] [] .ret (.inr rfl) (by kernel_rfl) (And.intro (iI_len (k:=.i64) (xs:=l0_1)) (And.intro (int_sub (P:=Tryz.prog) (t:=3) (k:=.i64) (x:=(.tmp 11)) (y:=(.const (.int .i64 1))) (a:=(l0_1.length:Int)) (b:=1) (c:=(wrap64 ((l0_1.length:Int) - 1))) (IntWalk.i64_left _)) (ad_45 c5))) (by kernel_rfl)
 ·obtain rfl:=Bool.eq_false_iff.2 g3
  obtain rfl:=Option.some.inj h4
  exact leafRet (hn:=hn56) 3 [] [] .ret (.inr rfl) (by kernel_rfl) True.intro (by kernel_rfl)

def hn57:Hint:=⟨[],[]⟩
def o57 (r:Bool):List AV:=[vb r]
def p57 (r:Bool):List (Nat × AV):=[]
theorem ad_57 {a0:Int} {r:Bool} (h:impl_isNumber.f a0 = some r):CallH Tryz.prog 57 [vi a0] [] (vb r) []:=by
 unfold impl_isNumber.f at h
 refine call_ok (c:=bodyOf Tryz.f57) (rs:=o57 r) (post:=p57 r) Tryz.func57 rfl rfl rfl (by kernel_rfl) ?_
 show AtP Tryz.prog 5 (bodyOf Tryz.f57) (KR Tryz.prog Tryz.f57.results.toList (o57 r) (p57 r)) [] [] (lookA [(0,vi a0)])
 refine at_ (hn:=hn57) ?_
 obtain ⟨t579,c1,h2⟩:=bd_ h
 obtain rfl:=Option.some.inj h2
 exact leafRet (hn:=hn57) 7 [.call (vb t579)] [] .ret (.inr rfl) (by kernel_rfl) (ad_45 c1) (by kernel_rfl)

def hn58:Hint:=⟨[(6,[27]),(7,[28,31,34]),(8,[24]),(11,[24]),(14,[31,34]),(15,[28,31,34]),(16,[34]),(19,[34]),(20,[31,34])],[]⟩
def o58 (r:(List (S64)) × List Int):List AV:=[.agg [.sl (iS64 r.1),.sl (iI .i64 r.2)]]
def p58 (r:(List (S64)) × List Int):List (Nat × AV):=[]
theorem ad_58 {l0_0:List (S64)} {l0_1:List Int} {a1:Int} {a2:Int} {r1:List (S64)} {r2:List Int} (h:impl_Puzzle_with.f l0_0 l0_1 a1 a2 = some (r1,r2)):CallH Tryz.prog 58 [.agg [.sl (iS64 l0_0),.sl (iI .i64 l0_1)],vi a1,vi a2] [] (.agg [.sl (iS64 r1),.sl (iI .i64 r2)]) []:=by
 unfold impl_Puzzle_with.f at h
 refine call_ok (c:=bodyOf Tryz.f58) (rs:=o58 (r1,r2)) (post:=p58 (r1,r2)) Tryz.func58 rfl rfl rfl (by kernel_rfl) ?_
 show AtP Tryz.prog 21 (bodyOf Tryz.f58) (KR Tryz.prog Tryz.f58.results.toList (o58 (r1,r2)) (p58 (r1,r2))) [] [] (lookA [(0,.agg [.sl (iS64 l0_0),.sl (iI .i64 l0_1)]),(1,vi a1),(2,vi a2)])
 refine at_ (hn:=hn58) ?_
 obtain ⟨t582,c1,h2⟩:=bd_ h
 obtain ⟨t585,c3,h4⟩:=bd_ h2
 obtain ⟨g5,h6⟩:=ip_ h4
 obtain ⟨g7,h8⟩:=ip_ h6
 obtain ⟨rfl,rfl⟩:=pr2_ h8
 exact leafRet (hn:=hn58) 13 [.callH [] (.row 31) [(31,.ow false 64 (iS64 t582))],.callH [] (.row 34) [(34,.ow true 3 (iI .i64 t585))],.go,.go,.elem (vi (rd t585 a1)),.elem (.ow true 3 (iI .i64 (t585.set ((a1:Int).toNat) a2))),.fz 34] [] .ret (.inr rfl) (by kernel_rfl) (And.intro (And.intro (CallH.ren [(500000,31)] rfl rfl (CallH.frz 500000 rfl (ad_54 c1))) (CallH.ren [(500000,34)] rfl rfl (ad_37 c3))) (And.intro (iI_lt (k:=.i64) (xs:=t585) (i:=a1) g5 g7) (iI_set (k:=.i64) (xs:=t585) (i:=a1) (x:=a2) g5 g7))) (by kernel_rfl)

def hn27:Hint:=⟨[(3,[33]),(6,[36]),(18,[33])],[]⟩
def o27 (r:(List (S64)) × List Int × Bool):List AV:=[.agg [.sl (iS64 r.1),.sl (iI .i64 r.2.1)],vb r.2.2]
def p27 (r:(List (S64)) × List Int × Bool):List (Nat × AV):=[]
theorem ad_27 {k:Nat} {l0_0:List (S64)} {l0_1:List Int} {a1:Int} {a2:Int} {r1:List (S64)} {r2:List Int} {r3:Bool} (h:impl_FillGap.f k l0_0 l0_1 a1 a2 = some (r1,r2,r3)):CallH Tryz.prog 27 [.agg [.sl (iS64 l0_0),.sl (iI .i64 l0_1)],vi a1,vi a2] [] (.tup [.agg [.sl (iS64 r1),.sl (iI .i64 r2)],vb r3]) []:=by
 unfold impl_FillGap.f at h
 refine call_ok (c:=bodyOf Tryz.f27) (rs:=o27 (r1,r2,r3)) (post:=p27 (r1,r2,r3)) Tryz.func27 rfl rfl rfl (by kernel_rfl) ?_
 show AtP Tryz.prog 30 (bodyOf Tryz.f27) (KR Tryz.prog Tryz.f27.results.toList (o27 (r1,r2,r3)) (p27 (r1,r2,r3))) [] [] (lookA [(0,.agg [.sl (iS64 l0_0),.sl (iI .i64 l0_1)]),(1,vi a1),(2,vi a2)])
 refine at_ (hn:=hn27) ?_
 obtain ⟨t592,c1,h2⟩:=bd_ h
 refine mid (hn:=hn27) 5 5 [.call (vb t592)] (ad_56 c1) (by kernel_rfl) ?_
 rcases ite_ h2 with ⟨g3,h4⟩ | ⟨g3,h4⟩
 ·subst g3
  obtain ⟨t593,c5,h6⟩:=bd_ h4
  refine mid (hn:=hn27) 0 5 [.call (vb t593)] (ad_57 c5) (by kernel_rfl) ?_
  rcases ite_ h6 with ⟨g7,h8⟩ | ⟨g7,h8⟩
  ·subst g7
   obtain ⟨g9,h10⟩:=ip_ h8
   obtain ⟨g11,h12⟩:=ip_ h10
   refine mid (hn:=hn27) 0 5 [.elem (vi (rd l0_1 a1))] (iI_rd (k:=.i64) (xs:=l0_1) (i:=a1) g9 g11) (by kernel_rfl) ?_
   rcases ite_ h12 with ⟨g13,h14⟩ | ⟨g13,h14⟩
   ·obtain ⟨⟨bt595_1,bt595_2⟩,c15,h16⟩:=bd_ h14
    try dsimp only at h16
    obtain ⟨rfl,rfl,rfl⟩:=pr3_ h16
    exact leafRet (hn:=hn27) 9 [.val (.bool false),.call (.agg [.sl (iS64 bt595_1),.sl (iI .i64 bt595_2)])] [] .ret (.inr rfl) (by kernel_rfl) (And.intro (int_neq (P:=Tryz.prog) (t:=3) (k:=.i64) (x:=(.tmp 22)) (y:=(.const (.int .i64 (-1)))) (a:=(rd l0_1 a1)) (b:=(-1)) (v:=false) (nbeq_f g13)) (ad_58 c15)) (by kernel_rfl)
   ·obtain ⟨rfl,rfl,rfl⟩:=pr3_ h14
    exact leafRet (hn:=hn27) 8 [.val (.bool true),.go] [] .ret (.inr rfl) (by kernel_rfl) (int_neq (P:=Tryz.prog) (t:=3) (k:=.i64) (x:=(.tmp 22)) (y:=(.const (.int .i64 (-1)))) (a:=(rd l0_1 a1)) (b:=(-1)) (v:=true) (nbeq_t g13)) (by kernel_rfl)
  ·obtain rfl:=Bool.eq_false_iff.2 g7
   obtain ⟨rfl,rfl,rfl⟩:=pr3_ h8
   exact leafRet (hn:=hn27) 8 [.go] [] .ret (.inr rfl) (by kernel_rfl) True.intro (by kernel_rfl)
 ·obtain rfl:=Bool.eq_false_iff.2 g3
  obtain ⟨rfl,rfl,rfl⟩:=pr3_ h4
  exact leafRet (hn:=hn27) 8 [.go] [] .ret (.inr rfl) (by kernel_rfl) True.intro (by kernel_rfl)

def hn60:Hint:=⟨[(21,[45]),(31,[69]),(34,[45])],[]⟩
def o60 (r:(List (S64)) × Bool):List AV:=[.sl (iS64 r.1),vb r.2]
def p60 (r:(List (S64)) × Bool):List (Nat × AV):=[]
def q60_l0 (r:(List (S64)) × Bool) (k:Nat) (L:List (Nat × AV)):Prop:=∃ (x4:List (S64)) (x12:List ByteArray) (x13:Int) (x14:Int),L = [(4,.row 45),(12,.sl (iStr x12)),(13,vi x13),(14,vi x14),(45,.ow false 64 (iS64 x4))] ∧ impl_ParseHand.l0 k x4 x12 x13 x14 = some r
theorem q60_l0_mk {r:(List (S64)) × Bool} {k:Nat} {x4:List (S64)} {x12:List ByteArray} {x13:Int} {x14:Int} (h:impl_ParseHand.l0 k x4 x12 x13 x14 = some r):q60_l0 r k [(4,.row 45),(12,.sl (iStr x12)),(13,vi x13),(14,vi x14),(45,.ow false 64 (iS64 x4))]:=⟨x4,x12,x13,x14,rfl,h⟩
theorem at60_l0 {r:(List (S64)) × Bool}:∀ k L,q60_l0 r k L → AtP Tryz.prog 38 (bodyOf Tryz.f60) (KR Tryz.prog Tryz.f60.results.toList (o60 r) (p60 r)) [true,true,true,false,true,false] [] (lookA L) :=
 at_loop (by kernel_rfl) (fun _ => by kernel_rfl) (q60_l0 r) (by
  rintro k _ ⟨x4,x12,x13,x14,rfl,h⟩
  cases k with
  | zero => simp [impl_ParseHand.l0] at h
  | succ k =>
   rw [impl_ParseHand.l0] at h
   refine at_ (hn:=hn60) ?_
   rcases ite_ h with ⟨g1,h2⟩ | ⟨g1,h2⟩
   ·obtain ⟨g3,h4⟩:=ip_ h2
    obtain ⟨g5,h6⟩:=ip_ h4
    refine mid (hn:=hn60) 14 2 [.val (.bool true),.elem (.val (.string (rdOf ByteArray.empty x12 x14)))] (And.intro (int_lss (P:=Tryz.prog) (t:=3) (k:=.i64) (x:=(.tmp 14)) (y:=(.tmp 13)) (a:=x14) (b:=x13) (v:=true) (decide_eq_true g1)) (iStr_rd (xs:=x12) (i:=x14) g3 g5)) (by kernel_rfl) ?_
    rcases ite_ h6 with ⟨g7,h8⟩ | ⟨g7,h8⟩
    ·obtain ⟨g9,h10⟩:=ip_ h8
     obtain ⟨g11,h12⟩:=ip_ h10
     obtain ⟨g13,h14⟩:=ip_ h12
     exact leafBack (hn:=hn60) 9 [.val (.bool false),.val (.int .u8 (bt (rdOf ByteArray.empty x12 x14) 0)),.val (.int .i64 (wrap64 (bt (rdOf ByteArray.empty x12 x14) 0))),.val (.int .i64 (wrap64 ((wrap64 (bt (rdOf ByteArray.empty x12 x14) 0)) - 48))),.val (.int .u8 (bt (rdOf ByteArray.empty x12 x14) 1)),.val (.int .i64 (wrap64 (bt (rdOf ByteArray.empty x12 x14) 1))),.val (.int .i64 (wrap64 ((wrap64 (bt (rdOf ByteArray.empty x12 x14) 1)) - 48))),.elem (.agg [vi (wrap64 ((wrap64 (bt (rdOf ByteArray.empty x12 x14) 0)) - 48)),vi (wrap64 ((wrap64 (bt (rdOf ByteArray.empty x12 x14) 1)) - 48))]),.go,.elem (.ow false 64 (iS64 (x4 ++ ([(⟨(wrap64 ((wrap64 (bt (rdOf ByteArray.empty x12 x14) 0)) - 48)),(wrap64 ((wrap64 (bt (rdOf ByteArray.empty x12 x14) 1)) - 48))⟩ : S64)])))),.val (.int .i64 (wrap64 (x14 + 1)))] [(45,70)] (q60_l0_mk h14) (Nat.lt_succ_self k) (And.intro (int_neq (P:=Tryz.prog) (t:=3) (k:=.i64) (x:=(.tmp 19)) (y:=(.const (.int .i64 2))) (a:=((rdOf ByteArray.empty x12 x14).size:Int)) (b:=2) (v:=false) (nbeq_f g7)) (And.intro (And.intro (idx_str (k:=.i64) (x:=(rdOf ByteArray.empty x12 x14)) (i:=0) Tryz.underlying9 (by decide) g9) (And.intro (conv_5_3 (a:=(bt (rdOf ByteArray.empty x12 x14) 0))) (And.intro (int_sub (P:=Tryz.prog) (t:=3) (k:=.i64) (x:=(.tmp 24)) (y:=(.const (.int .i64 48))) (a:=(wrap64 (bt (rdOf ByteArray.empty x12 x14) 0))) (b:=48) (c:=(wrap64 ((wrap64 (bt (rdOf ByteArray.empty x12 x14) 0)) - 48))) (IntWalk.i64_left _)) (And.intro (idx_str (k:=.i64) (x:=(rdOf ByteArray.empty x12 x14)) (i:=1) Tryz.underlying9 (by decide) g11) (And.intro (conv_5_3 (a:=(bt (rdOf ByteArray.empty x12 x14) 1))) (And.intro (int_sub (P:=Tryz.prog) (t:=3) (k:=.i64) (x:=(.tmp 28)) (y:=(.const (.int .i64 48))) (a:=(wrap64 (bt (rdOf ByteArray.empty x12 x14) 1))) (b:=48) (c:=(wrap64 ((wrap64 (bt (rdOf ByteArray.empty x12 x14) 1)) - 48))) (IntWalk.i64_left _)) (And.intro (build_64_2 (p0:=(wrap64 ((wrap64 (bt (rdOf ByteArray.empty x12 x14) 0)) - 48))) (p1:=(wrap64 ((wrap64 (bt (rdOf ByteArray.empty x12 x14) 1)) - 48)))) (iS64_app (N:=8796093022208) (b:=16) (xs:=x4) (ys:=[(⟨(wrap64 ((wrap64 (bt (rdOf ByteArray.empty x12 x14) 0)) - 48)),(wrap64 ((wrap64 (bt (rdOf ByteArray.empty x12 x14) 1)) - 48))⟩ : S64)]) (by decide) (Nat.succ_le_of_lt g13))))))))) (int_add (P:=Tryz.prog) (t:=3) (k:=.i64) (x:=(.tmp 14)) (y:=(.const (.int .i64 1))) (a:=x14) (b:=1) (c:=(wrap64 (x14 + 1))) (IntWalk.i64_left _)))) (by kernel_rfl)
    ·obtain rfl:=Option.some.inj h8
     exact leafRet (hn:=hn60) 13 [.val (.bool true),.goT] [] .ret (.inr rfl) (by kernel_rfl) (int_neq (P:=Tryz.prog) (t:=3) (k:=.i64) (x:=(.tmp 19)) (y:=(.const (.int .i64 2))) (a:=((rdOf ByteArray.empty x12 x14).size:Int)) (b:=2) (v:=true) (nbeq_t g7)) (by kernel_rfl)
   ·obtain ⟨t611,c15,h16⟩:=bd_ h2
    refine mid (hn:=hn60) 12 2 [.val (.bool false),.call (vb t611)] (And.intro (int_lss (P:=Tryz.prog) (t:=3) (k:=.i64) (x:=(.tmp 14)) (y:=(.tmp 13)) (a:=x14) (b:=x13) (v:=false) (decide_eq_false g1)) (ad_44 c15)) (by kernel_rfl) ?_
    rcases ite_ h16 with ⟨g17,h18⟩ | ⟨g17,h18⟩
    ·subst g17
     obtain rfl:=Option.some.inj h18
     exact leafRet (hn:=hn60) 9 [] [] .ret (.inr rfl) (by kernel_rfl) True.intro (by kernel_rfl)
    ·obtain rfl:=Bool.eq_false_iff.2 g17
     obtain rfl:=Option.some.inj h18
     exact leafRet (hn:=hn60) 8 [.goT] [] .ret (.inr rfl) (by kernel_rfl) True.intro (by kernel_rfl))
theorem ad_60 {k:Nat} {a0:ByteArray} {r1:List (S64)} {r2:Bool} (h:impl_ParseHand.f k a0 = some (r1,r2)):CallH Tryz.prog 60 [.val (.string a0)] [] (.tup [.sl (iS64 r1),vb r2]) []:=by
 unfold impl_ParseHand.f at h
 refine call_ok (c:=bodyOf Tryz.f60) (rs:=o60 (r1,r2)) (post:=p60 (r1,r2)) Tryz.func60 rfl rfl rfl (by kernel_rfl) ?_
 show AtP Tryz.prog 38 (bodyOf Tryz.f60) (KR Tryz.prog Tryz.f60.results.toList (o60 (r1,r2)) (p60 (r1,r2))) [] [] (lookA [(0,.val (.string a0))])
 refine at_ (hn:=hn60) ?_
 obtain ⟨y601,c1,h2⟩:=bd_ h
 obtain rfl:=Option.some.inj c1
 refine mid (hn:=hn60) 8 1 [.goT,.go] True.intro (by kernel_rfl) ?_
 rcases ite_ h2 with ⟨g3,h4⟩ | ⟨g3,h4⟩
 ·obtain ⟨rfl,rfl⟩:=pr2_ h4
  exact leafRet (hn:=hn60) 8 [.val (.bool true)] [] .ret (.inr rfl) (by kernel_rfl) (str_eql_ (P:=Tryz.prog) (t:=9) (x:=(.tmp 8)) (y:=(.const (.string (⟨#[45]⟩ : ByteArray)))) (a:=a0) (b:=(⟨#[45]⟩ : ByteArray)) (l:=([45] : List UInt8)) (v:=true) (ByteArray.toList_eq _) (beq_iff_eq.2 g3)) (by kernel_rfl)
 ·obtain ⟨t604,c5,h6⟩:=bd_ h4
  exact leafAt (hn:=hn60) 10 [.val (.bool false),.call (.sl (iStr t604)),.val (.int .i64 (t604.length:Int))] [] (at60_l0 _ _ (q60_l0_mk h6)) (And.intro (str_eql_ (P:=Tryz.prog) (t:=9) (x:=(.tmp 8)) (y:=(.const (.string (⟨#[45]⟩ : ByteArray)))) (a:=a0) (b:=(⟨#[45]⟩ : ByteArray)) (l:=([45] : List UInt8)) (v:=false) (ByteArray.toList_eq _) (beq_false_of_ne g3)) (And.intro (ad_97 c5) (iStr_len (xs:=t604)))) (by kernel_rfl)

def hn28:Hint:=⟨[(2,[64]),(9,[71,800901]),(50,[71,800901]),(51,[800901]),(53,[115]),(54,[116]),(55,[71,800901]),(57,[800901]),(61,[800901])],[]⟩
def o28 (r:(List (S64)) × List Int × Bool):List AV:=[.agg [.sl (iS64 r.1),.sl (iI .i64 r.2.1)],vb r.2.2]
def p28 (r:(List (S64)) × List Int × Bool):List (Nat × AV):=[]
def q28_l0 (r:(List (S64)) × List Int × Bool) (k:Nat) (L:List (Nat × AV)):Prop:=∃ (x39:List Int) (x40:Int) (x41:Int) (x622000:List (S64)) (x622001:List Int),L = [(2,.loc 64 0),(9,.loc 71 0),(39,.sl (iI .u8 x39)),(40,vi x40),(41,vi x41),(64,.box (.agg [.val (.slice none 0 0),.val (.slice none 0 0)])),(71,.box (.agg [.sl (iS64 x622000),.row 800901])),(800901,.ow false 3 (iI .i64 x622001))] ∧ impl_ParsePuzzle.l0 k x39 x40 x41 x622000 x622001 = some r
theorem q28_l0_mk {r:(List (S64)) × List Int × Bool} {k:Nat} {x39:List Int} {x40:Int} {x41:Int} {x622000:List (S64)} {x622001:List Int} (h:impl_ParsePuzzle.l0 k x39 x40 x41 x622000 x622001 = some r):q28_l0 r k [(2,.loc 64 0),(9,.loc 71 0),(39,.sl (iI .u8 x39)),(40,vi x40),(41,vi x41),(64,.box (.agg [.val (.slice none 0 0),.val (.slice none 0 0)])),(71,.box (.agg [.sl (iS64 x622000),.row 800901])),(800901,.ow false 3 (iI .i64 x622001))]:=⟨x39,x40,x41,x622000,x622001,rfl,h⟩
theorem at28_l0 {r:(List (S64)) × List Int × Bool}:∀ k L,q28_l0 r k L → AtP Tryz.prog 62 (bodyOf Tryz.f28) (KR Tryz.prog Tryz.f28.results.toList (o28 r) (p28 r)) [true,true,true,true,true,false,true,false] [] (lookA L) :=
 at_loop (by kernel_rfl) (fun _ => by kernel_rfl) (q28_l0 r) (by
  rintro k _ ⟨x39,x40,x41,x622000,x622001,rfl,h⟩
  cases k with
  | zero => simp [impl_ParsePuzzle.l0] at h
  | succ k =>
   rw [impl_ParsePuzzle.l0] at h
   refine at_ (hn:=hn28) ?_
   rcases ite_ h with ⟨g1,h2⟩ | ⟨g1,h2⟩
   ·obtain ⟨g3,h4⟩:=ip_ h2
    obtain ⟨g5,h6⟩:=ip_ h4
    refine mid (hn:=hn28) 17 1 [.val (.bool true),.elem (.val (.int .u8 (rd x39 x41)))] (And.intro (int_lss (P:=Tryz.prog) (t:=3) (k:=.i64) (x:=(.tmp 41)) (y:=(.tmp 40)) (a:=x41) (b:=x40) (v:=true) (decide_eq_true g1)) (iI_rd (k:=.u8) (xs:=x39) (i:=x41) g3 g5)) (by kernel_rfl) ?_
    rcases ite_ h6 with ⟨g7,h8⟩ | ⟨g7,h8⟩
    ·obtain ⟨g9,h10⟩:=ip_ h8
     exact leafBack (hn:=hn28) 9 [.val (.bool false),.go,.elem (.ow false 3 (iI .i64 (x622001 ++ ([-1])))),.val (.int .i64 (wrap64 (x41 + 1)))] [(800901,116)] (q28_l0_mk h10) (Nat.lt_succ_self k) (And.intro (int_neq (P:=Tryz.prog) (t:=5) (k:=.u8) (x:=(.tmp 45)) (y:=(.const (.int .u8 46))) (a:=(rd x39 x41)) (b:=46) (v:=false) (nbeq_f g7)) (And.intro (iI_app (k:=.i64) (N:=17592186044416) (b:=8) (xs:=x622001) (ys:=[-1]) (by decide) (Nat.succ_le_of_lt g9)) (int_add (P:=Tryz.prog) (t:=3) (k:=.i64) (x:=(.tmp 41)) (y:=(.const (.int .i64 1))) (a:=x41) (b:=1) (c:=(wrap64 (x41 + 1))) (IntWalk.i64_left _)))) (by kernel_rfl)
    ·obtain ⟨g11,h12⟩:=ip_ h8
     exact leafBack (hn:=hn28) 9 [.val (.bool true),.val (.int .u8 (((rd x39 x41) - 48) % 256)),.val (.int .i64 (((rd x39 x41) - 48) % 256)),.go,.elem (.ow false 3 (iI .i64 (x622001 ++ ([(((rd x39 x41) - 48) % 256)])))),.val (.int .i64 (wrap64 (x41 + 1)))] [(800901,116)] (q28_l0_mk h12) (Nat.lt_succ_self k) (And.intro (int_neq (P:=Tryz.prog) (t:=5) (k:=.u8) (x:=(.tmp 45)) (y:=(.const (.int .u8 46))) (a:=(rd x39 x41)) (b:=46) (v:=true) (nbeq_t g7)) (And.intro (And.intro (int_sub (P:=Tryz.prog) (t:=5) (k:=.u8) (x:=(.tmp 47)) (y:=(.const (.int .u8 48))) (a:=(rd x39 x41)) (b:=48) (c:=(((rd x39 x41) - 48) % 256)) (wrap_u8 _)) (conv_5_3_m (z:=((rd x39 x41) - 48)))) (And.intro (iI_app (k:=.i64) (N:=17592186044416) (b:=8) (xs:=x622001) (ys:=[(((rd x39 x41) - 48) % 256)]) (by decide) (Nat.succ_le_of_lt g11)) (int_add (P:=Tryz.prog) (t:=3) (k:=.i64) (x:=(.tmp 41)) (y:=(.const (.int .i64 1))) (a:=x41) (b:=1) (c:=(wrap64 (x41 + 1))) (IntWalk.i64_left _))))) (by kernel_rfl)
   ·obtain ⟨t632,c13,h14⟩:=bd_ h2
    refine mid (hn:=hn28) 12 2 [.val (.bool false),.call (vb t632)] (And.intro (int_lss (P:=Tryz.prog) (t:=3) (k:=.i64) (x:=(.tmp 41)) (y:=(.tmp 40)) (a:=x41) (b:=x40) (v:=false) (decide_eq_false g1)) (ad_22 c13)) (by kernel_rfl) ?_
    rcases ite_ h14 with ⟨g15,h16⟩ | ⟨g15,h16⟩
    ·subst g15
     obtain rfl:=Option.some.inj h16
     exact leafRet (hn:=hn28) 9 [] [] .ret (.inr rfl) (by kernel_rfl) True.intro (by kernel_rfl)
    ·obtain rfl:=Bool.eq_false_iff.2 g15
     obtain rfl:=Option.some.inj h16
     exact leafRet (hn:=hn28) 8 [.go] [] .ret (.inr rfl) (by kernel_rfl) True.intro (by kernel_rfl))
theorem at28_j0 {r:(List (S64)) × List Int × Bool} {k:Nat} {x5:ByteArray} {x7:List (S64)} {x34:Bool} (h:impl_ParsePuzzle.j0 k x5 x7 x34 = some r):AtP Tryz.prog 62 (bodyOf Tryz.f28) (KR Tryz.prog Tryz.f28.results.toList (o28 r) (p28 r)) [true,true,true,false,true] [] (lookA [(2,.loc 64 0),(5,.val (.string x5)),(7,.sl (iS64 x7)),(34,vb x34),(64,.box (.agg [.val (.slice none 0 0),.val (.slice none 0 0)]))]):=by
 cases k with
 | zero => simp [impl_ParsePuzzle.j0] at h
 | succ k =>
  rw [impl_ParsePuzzle.j0] at h
  refine at_ (hn:=hn28) ?_
  rcases ite_ h with ⟨g1,h2⟩ | ⟨g1,h2⟩
  ·subst g1
   obtain rfl:=Option.some.inj h2
   exact leafRet (hn:=hn28) 6 [.go] [] .ret (.inr rfl) (by kernel_rfl) True.intro (by kernel_rfl)
  ·obtain rfl:=Bool.eq_false_iff.2 g1
   obtain ⟨t622,c3,h5⟩:=bd_ h2
   obtain ⟨g4,rfl⟩:=cb_ c3
   exact leafAt (hn:=hn28) 11 [.go,.elem (.sl (iI .u8 (bytesOf x5))),.val (.int .i64 ((bytesOf x5).length:Int)),.nl 71 1 false 3 800901] [] (at28_l0 _ _ (q28_l0_mk h5)) (And.intro (conv_9_22_b (s:=x5) g4) (iI_len (k:=.u8) (xs:=(bytesOf x5)))) (by kernel_rfl)
theorem ad_28 {k:Nat} {a0:ByteArray} {r1:List (S64)} {r2:List Int} {r3:Bool} (h:impl_ParsePuzzle.f k a0 = some (r1,r2,r3)):CallH Tryz.prog 28 [.val (.string a0)] [] (.tup [.agg [.sl (iS64 r1),.sl (iI .i64 r2)],vb r3]) []:=by
 unfold impl_ParsePuzzle.f at h
 refine call_ok (c:=bodyOf Tryz.f28) (rs:=o28 (r1,r2,r3)) (post:=p28 (r1,r2,r3)) Tryz.func28 rfl rfl rfl (by kernel_rfl) ?_
 show AtP Tryz.prog 62 (bodyOf Tryz.f28) (KR Tryz.prog Tryz.f28.results.toList (o28 (r1,r2,r3)) (p28 (r1,r2,r3))) [] [] (lookA [(0,.val (.string a0))])
 refine at_ (hn:=hn28) ?_
 obtain ⟨⟨bt613_1,bt613_2,bt613_3⟩,c1,h2⟩:=bd_ h
 obtain ⟨⟨bt616_1,bt616_2⟩,c3,h4⟩:=bd_ h2
 try dsimp only at h4
 refine mid (hn:=hn28) 11 3 [.call (.tup [.val (.string bt613_1),.val (.string bt613_2),vb bt613_3]),.call (.tup [.sl (iS64 bt616_1),vb bt616_2])] (And.intro (ad_59 c1) (ad_60 c3)) (by kernel_rfl) ?_
 rcases ite_ h4 with ⟨g5,h6⟩ | ⟨g5,h6⟩
 ·subst g5
  rcases ite_ h6 with ⟨g7,h8⟩ | ⟨g7,h8⟩
  ·subst g7
   obtain ⟨t620,c9,h10⟩:=bd_ h8
   exact leafAt (hn:=hn28) 2 [.call (.val (.string t620)),.val (.bool (!(t620.toList == ([] : List UInt8))))] [] (at28_j0 h10) (And.intro (ad_61 c9) (str_neq_ (P:=Tryz.prog) (t:=9) (x:=(.tmp 32)) (y:=(.const (.string (⟨#[]⟩ : ByteArray)))) (a:=t620) (b:=(⟨#[]⟩ : ByteArray)) (l:=([] : List UInt8)) (v:=(!(t620.toList == ([] : List UInt8)))) (ByteArray.toList_eq _) rfl)) (by kernel_rfl)
  ·obtain rfl:=Bool.eq_false_iff.2 g7
   exact leafAt (hn:=hn28) 2 [] [] (at28_j0 h8) True.intro (by kernel_rfl)
 ·obtain rfl:=Bool.eq_false_iff.2 g5
  exact leafAt (hn:=hn28) 2 [] [] (at28_j0 h6) True.intro (by kernel_rfl)

def hn62:Hint:=⟨[],[]⟩
def o62 (r:Bool):List AV:=[vb r]
def p62 (r:Bool):List (Nat × AV):=[]
def q62_l0 (r:Bool) (k:Nat) (L:List (Nat × AV)):Prop:=∃ (x0:List (S64)) (x1:List (S64)) (x12:Int) (x13:Int),L = [(0,.sl (iS64 x0)),(1,.sl (iS64 x1)),(12,vi x12),(13,vi x13)] ∧ laws_iTiles.l0 k x0 x1 x12 x13 = some r
theorem q62_l0_mk {r:Bool} {k:Nat} {x0:List (S64)} {x1:List (S64)} {x12:Int} {x13:Int} (h:laws_iTiles.l0 k x0 x1 x12 x13 = some r):q62_l0 r k [(0,.sl (iS64 x0)),(1,.sl (iS64 x1)),(12,vi x12),(13,vi x13)]:=⟨x0,x1,x12,x13,rfl,h⟩
theorem at62_l0 {r:Bool}:∀ k L,q62_l0 r k L → AtP Tryz.prog 26 (bodyOf Tryz.f62) (KR Tryz.prog Tryz.f62.results.toList (o62 r) (p62 r)) [true,true,false,true,false] [] (lookA L) :=
 at_loop (by kernel_rfl) (fun _ => by kernel_rfl) (q62_l0 r) (by
  rintro k _ ⟨x0,x1,x12,x13,rfl,h⟩
  cases k with
  | zero => simp [laws_iTiles.l0] at h
  | succ k =>
   rw [laws_iTiles.l0] at h
   refine at_ (hn:=hn62) ?_
   rcases ite_ h with ⟨g1,h2⟩ | ⟨g1,h2⟩
   ·obtain ⟨g3,h4⟩:=ip_ h2
    obtain ⟨g5,h6⟩:=ip_ h4
    obtain ⟨g7,h8⟩:=ip_ h6
    refine mid (hn:=hn62) 13 8 [.val (.bool true),.elem (.agg [vi ((rd_T64 x0 x13).f0),vi ((rd_T64 x0 x13).f1)]),.elem (.agg [vi ((rd_T64 x1 x13).f0),vi ((rd_T64 x1 x13).f1)])] (And.intro (int_lss (P:=Tryz.prog) (t:=3) (k:=.i64) (x:=(.tmp 13)) (y:=(.tmp 12)) (a:=x13) (b:=x12) (v:=true) (decide_eq_true g1)) (And.intro (iS64_rd (xs:=x0) (i:=x13) g3 g5) (iS64_rd (xs:=x1) (i:=x13) g3 g7))) (by kernel_rfl) ?_
    rcases ite_ h8 with ⟨g9,h10⟩ | ⟨g9,h10⟩
    ·obtain rfl:=Option.some.inj h10
     exact leafRet (hn:=hn62) 12 [.val (.bool true)] [] .ret (.inr rfl) (by kernel_rfl) (agg_64_neq (x:=(.tmp 19)) (y:=(.tmp 23)) (a0:=((rd_T64 x0 x13).f0)) (b0:=((rd_T64 x1 x13).f0)) (a1:=((rd_T64 x0 x13).f1)) (b1:=((rd_T64 x1 x13).f1)) (v:=true) (by simp only [Bool.not_and]; exact g9)) (by kernel_rfl)
    ·exact leafBack (hn:=hn62) 7 [.val (.bool false),.val (.int .i64 (wrap64 (x13 + 1)))] [] (q62_l0_mk h10) (Nat.lt_succ_self k) (And.intro (agg_64_neq (x:=(.tmp 19)) (y:=(.tmp 23)) (a0:=((rd_T64 x0 x13).f0)) (b0:=((rd_T64 x1 x13).f0)) (a1:=((rd_T64 x0 x13).f1)) (b1:=((rd_T64 x1 x13).f1)) (v:=false) (by simp only [Bool.not_and]; exact (Bool.eq_false_iff.2 g9))) (int_add (P:=Tryz.prog) (t:=3) (k:=.i64) (x:=(.tmp 13)) (y:=(.const (.int .i64 1))) (a:=x13) (b:=1) (c:=(wrap64 (x13 + 1))) (IntWalk.i64_left _))) (by kernel_rfl)
   ·obtain rfl:=Option.some.inj h2
    exact leafRet (hn:=hn62) 14 [.val (.bool false)] [] .ret (.inr rfl) (by kernel_rfl) (int_lss (P:=Tryz.prog) (t:=3) (k:=.i64) (x:=(.tmp 13)) (y:=(.tmp 12)) (a:=x13) (b:=x12) (v:=false) (decide_eq_false g1)) (by kernel_rfl))
theorem ad_62 {k:Nat} {l0:List (S64)} {l1:List (S64)} {r:Bool} (h:laws_iTiles.f k l0 l1 = some r):CallH Tryz.prog 62 [.sl (iS64 l0),.sl (iS64 l1)] [] (vb r) []:=by
 unfold laws_iTiles.f at h
 refine call_ok (c:=bodyOf Tryz.f62) (rs:=o62 r) (post:=p62 r) Tryz.func62 rfl rfl rfl (by kernel_rfl) ?_
 show AtP Tryz.prog 26 (bodyOf Tryz.f62) (KR Tryz.prog Tryz.f62.results.toList (o62 r) (p62 r)) [] [] (lookA [(0,.sl (iS64 l0)),(1,.sl (iS64 l1))])
 refine at_ (hn:=hn62) ?_
 refine mid (hn:=hn62) 5 4 [.val (.int .i64 (l0.length:Int)),.val (.int .i64 (l1.length:Int))] (And.intro (iS64_len (xs:=l0)) (iS64_len (xs:=l1))) (by kernel_rfl) ?_
 rcases ite_ h with ⟨g1,h2⟩ | ⟨g1,h2⟩
 ·exact leafAt (hn:=hn62) 10 [.val (.bool false),.val (.int .i64 (l0.length:Int))] [] (at62_l0 _ _ (q62_l0_mk h2)) (And.intro (int_neq (P:=Tryz.prog) (t:=3) (k:=.i64) (x:=(.tmp 7)) (y:=(.tmp 9)) (a:=(l0.length:Int)) (b:=(l1.length:Int)) (v:=false) (nbeq_f g1)) (iS64_len (xs:=l0))) (by kernel_rfl)
 ·obtain rfl:=Option.some.inj h2
  exact leafRet (hn:=hn62) 8 [.val (.bool true)] [] .ret (.inr rfl) (by kernel_rfl) (int_neq (P:=Tryz.prog) (t:=3) (k:=.i64) (x:=(.tmp 7)) (y:=(.tmp 9)) (a:=(l0.length:Int)) (b:=(l1.length:Int)) (v:=true) (nbeq_t g1)) (by kernel_rfl)

def hn29:Hint:=⟨[(5,[19]),(7,[20]),(11,[19]),(13,[20])],[]⟩
def o29 (r:Bool):List AV:=[vb r]
def p29 (r:Bool):List (Nat × AV):=[]
theorem ad_29 {k:Nat} {l0_0:List (S64)} {l0_1:List Int} {l1_0:List (S64)} {l1_1:List Int} {r:Bool} (h:laws_iPuzzle.f k l0_0 l0_1 l1_0 l1_1 = some r):CallH Tryz.prog 29 [.agg [.sl (iS64 l0_0),.sl (iI .i64 l0_1)],.agg [.sl (iS64 l1_0),.sl (iI .i64 l1_1)]] [] (vb r) []:=by
 unfold laws_iPuzzle.f at h
 refine call_ok (c:=bodyOf Tryz.f29) (rs:=o29 r) (post:=p29 r) Tryz.func29 rfl rfl rfl (by kernel_rfl) ?_
 show AtP Tryz.prog 17 (bodyOf Tryz.f29) (KR Tryz.prog Tryz.f29.results.toList (o29 r) (p29 r)) [] [] (lookA [(0,.agg [.sl (iS64 l0_0),.sl (iI .i64 l0_1)]),(1,.agg [.sl (iS64 l1_0),.sl (iI .i64 l1_1)])])
 refine at_ (hn:=hn29) ?_
 obtain ⟨t637,c1,h2⟩:=bd_ h
 refine mid (hn:=hn29) 4 6 [.call (vb t637)] (ad_62 c1) (by kernel_rfl) ?_
 rcases ite_ h2 with ⟨g3,h4⟩ | ⟨g3,h4⟩
 ·subst g3
  obtain ⟨t638,c5,h6⟩:=bd_ h4
  obtain rfl:=Option.some.inj h6
  exact leafRet (hn:=hn29) 3 [.call (vb t638)] [] .ret (.inr rfl) (by kernel_rfl) (ad_21 c5) (by kernel_rfl)
 ·obtain rfl:=Bool.eq_false_iff.2 g3
  obtain rfl:=Option.some.inj h4
  exact leafRet (hn:=hn29) 3 [] [] .ret (.inr rfl) (by kernel_rfl) True.intro (by kernel_rfl)

def hn69:Hint:=⟨[(14,[32]),(21,[32])],[]⟩
def o69 (r:Bool):List AV:=[vb r]
def p69 (r:Bool):List (Nat × AV):=[]
def q69_l0 (r:Bool) (k:Nat) (L:List (Nat × AV)):Prop:=∃ (x7:List Int) (x8:Int) (x9:Int) (x673000:List (S64)) (x673001:List Int),L = [(2,.loc 32 0),(7,.sl (iI .i64 x7)),(8,vi x8),(9,vi x9),(32,.box (.agg [.sl (iS64 x673000),.sl (iI .i64 x673001)]))] ∧ spec_pzFits.l0 k x7 x8 x9 x673000 x673001 = some r
theorem q69_l0_mk {r:Bool} {k:Nat} {x7:List Int} {x8:Int} {x9:Int} {x673000:List (S64)} {x673001:List Int} (h:spec_pzFits.l0 k x7 x8 x9 x673000 x673001 = some r):q69_l0 r k [(2,.loc 32 0),(7,.sl (iI .i64 x7)),(8,vi x8),(9,vi x9),(32,.box (.agg [.sl (iS64 x673000),.sl (iI .i64 x673001)]))]:=⟨x7,x8,x9,x673000,x673001,rfl,h⟩
theorem at69_l0 {r:Bool}:∀ k L,q69_l0 r k L → AtP Tryz.prog 30 (bodyOf Tryz.f69) (KR Tryz.prog Tryz.f69.results.toList (o69 r) (p69 r)) [true,false,true,false] [] (lookA L) :=
 at_loop (by kernel_rfl) (fun _ => by kernel_rfl) (q69_l0 r) (by
  rintro k _ ⟨x7,x8,x9,x673000,x673001,rfl,h⟩
  cases k with
  | zero => simp [spec_pzFits.l0] at h
  | succ k =>
   rw [spec_pzFits.l0] at h
   refine at_ (hn:=hn69) ?_
   rcases ite_ h with ⟨g1,h2⟩ | ⟨g1,h2⟩
   ·obtain ⟨g3,h4⟩:=ip_ h2
    obtain ⟨g5,h6⟩:=ip_ h4
    obtain ⟨g7,h8⟩:=ip_ h6
    refine mid (hn:=hn69) 13 5 [.val (.bool true),.elem (vi (rd x7 x9)),.elem (vi (rd x673001 x9))] (And.intro (int_lss (P:=Tryz.prog) (t:=3) (k:=.i64) (x:=(.tmp 9)) (y:=(.tmp 8)) (a:=x9) (b:=x8) (v:=true) (decide_eq_true g1)) (And.intro (iI_rd (k:=.i64) (xs:=x7) (i:=x9) g3 g5) (iI_rd (k:=.i64) (xs:=x673001) (i:=x9) g3 g7))) (by kernel_rfl) ?_
    rcases ite_ h8 with ⟨g9,h10⟩ | ⟨g9,h10⟩
    ·refine mid (hn:=hn69) 0 8 [.val (.bool true),.elem (vi (rd x673001 x9))] (And.intro (int_geq (P:=Tryz.prog) (t:=3) (k:=.i64) (x:=(.tmp 18)) (y:=(.const (.int .i64 0))) (a:=(rd x673001 x9)) (b:=0) (v:=true) (decide_eq_true g9)) (iI_rd (k:=.i64) (xs:=x673001) (i:=x9) g3 g7)) (by kernel_rfl) ?_
     rcases ite_ h10 with ⟨g11,h12⟩ | ⟨g11,h12⟩
     ·exact leafBack (hn:=hn69) 7 [.val (.bool false),.val (.int .i64 (wrap64 (x9 + 1)))] [] (q69_l0_mk h12) (Nat.lt_succ_self k) (And.intro (int_neq (P:=Tryz.prog) (t:=3) (k:=.i64) (x:=(.tmp 25)) (y:=(.tmp 26)) (a:=(rd x673001 x9)) (b:=(rd x7 x9)) (v:=false) (nbeq_f g11)) (int_add (P:=Tryz.prog) (t:=3) (k:=.i64) (x:=(.tmp 9)) (y:=(.const (.int .i64 1))) (a:=x9) (b:=1) (c:=(wrap64 (x9 + 1))) (IntWalk.i64_left _))) (by kernel_rfl)
     ·obtain rfl:=Option.some.inj h12
      exact leafRet (hn:=hn69) 12 [.val (.bool true)] [] .ret (.inr rfl) (by kernel_rfl) (int_neq (P:=Tryz.prog) (t:=3) (k:=.i64) (x:=(.tmp 25)) (y:=(.tmp 26)) (a:=(rd x673001 x9)) (b:=(rd x7 x9)) (v:=true) (nbeq_t g11)) (by kernel_rfl)
    ·exact leafBack (hn:=hn69) 7 [.val (.bool false),.val (.int .i64 (wrap64 (x9 + 1)))] [] (q69_l0_mk h10) (Nat.lt_succ_self k) (And.intro (int_geq (P:=Tryz.prog) (t:=3) (k:=.i64) (x:=(.tmp 18)) (y:=(.const (.int .i64 0))) (a:=(rd x673001 x9)) (b:=0) (v:=false) (decide_eq_false g9)) (int_add (P:=Tryz.prog) (t:=3) (k:=.i64) (x:=(.tmp 9)) (y:=(.const (.int .i64 1))) (a:=x9) (b:=1) (c:=(wrap64 (x9 + 1))) (IntWalk.i64_left _))) (by kernel_rfl)
   ·obtain rfl:=Option.some.inj h2
    exact leafRet (hn:=hn69) 14 [.val (.bool false)] [] .ret (.inr rfl) (by kernel_rfl) (int_lss (P:=Tryz.prog) (t:=3) (k:=.i64) (x:=(.tmp 9)) (y:=(.tmp 8)) (a:=x9) (b:=x8) (v:=false) (decide_eq_false g1)) (by kernel_rfl))
theorem ad_69 {k:Nat} {l0_0:List (S64)} {l0_1:List Int} {l1:List Int} {r:Bool} (h:spec_pzFits.f k l0_0 l0_1 l1 = some r):CallH Tryz.prog 69 [.agg [.sl (iS64 l0_0),.sl (iI .i64 l0_1)],.sl (iI .i64 l1)] [] (vb r) []:=by
 unfold spec_pzFits.f at h
 refine call_ok (c:=bodyOf Tryz.f69) (rs:=o69 r) (post:=p69 r) Tryz.func69 rfl rfl rfl (by kernel_rfl) ?_
 show AtP Tryz.prog 30 (bodyOf Tryz.f69) (KR Tryz.prog Tryz.f69.results.toList (o69 r) (p69 r)) [] [] (lookA [(0,.agg [.sl (iS64 l0_0),.sl (iI .i64 l0_1)]),(1,.sl (iI .i64 l1))])
 refine at_ (hn:=hn69) ?_
 exact leafAt (hn:=hn69) 8 [.val (.int .i64 (l1.length:Int))] [] (at69_l0 _ _ (q69_l0_mk h)) (iI_len (k:=.i64) (xs:=l1)) (by kernel_rfl)

def hn31:Hint:=⟨[(2,[43]),(7,[48]),(18,[43]),(35,[43])],[]⟩
def o31 (r:Bool × Bool):List AV:=[vb r.1,vb r.2]
def p31 (r:Bool × Bool):List (Nat × AV):=[]
def q31_l0 (r:Bool × Bool) (k:Nat) (L:List (Nat × AV)):Prop:=∃ (x29:List (S64)) (x30:Int) (x31:Int) (x677000:List (S64)) (x677001:List Int),L = [(2,.loc 43 0),(29,.sl (iS64 x29)),(30,vi x30),(31,vi x31),(43,.box (.agg [.sl (iS64 x677000),.sl (iI .i64 x677001)]))] ∧ spec_IsSolution.l0 k x29 x30 x31 x677000 x677001 = some r
theorem q31_l0_mk {r:Bool × Bool} {k:Nat} {x29:List (S64)} {x30:Int} {x31:Int} {x677000:List (S64)} {x677001:List Int} (h:spec_IsSolution.l0 k x29 x30 x31 x677000 x677001 = some r):q31_l0 r k [(2,.loc 43 0),(29,.sl (iS64 x29)),(30,vi x30),(31,vi x31),(43,.box (.agg [.sl (iS64 x677000),.sl (iI .i64 x677001)]))]:=⟨x29,x30,x31,x677000,x677001,rfl,h⟩
theorem at31_l0 {r:Bool × Bool}:∀ k L,q31_l0 r k L → AtP Tryz.prog 41 (bodyOf Tryz.f31) (KR Tryz.prog Tryz.f31.results.toList (o31 r) (p31 r)) [true,true,true,false,true,false] [] (lookA L) :=
 at_loop (by kernel_rfl) (fun _ => by kernel_rfl) (q31_l0 r) (by
  rintro k _ ⟨x29,x30,x31,x677000,x677001,rfl,h⟩
  cases k with
  | zero => simp [spec_IsSolution.l0] at h
  | succ k =>
   rw [spec_IsSolution.l0] at h
   refine at_ (hn:=hn31) ?_
   rcases ite_ h with ⟨g1,h2⟩ | ⟨g1,h2⟩
   ·obtain ⟨g3,h4⟩:=ip_ h2
    obtain ⟨g5,h6⟩:=ip_ h4
    obtain ⟨t685,c7,h8⟩:=bd_ h6
    refine mid (hn:=hn31) 13 4 [.val (.bool true),.elem (.agg [vi ((rd_T64 x29 x31).f0),vi ((rd_T64 x29 x31).f1)]),.call (vi t685)] (And.intro (int_lss (P:=Tryz.prog) (t:=3) (k:=.i64) (x:=(.tmp 31)) (y:=(.tmp 30)) (a:=x31) (b:=x30) (v:=true) (decide_eq_true g1)) (And.intro (iS64_rd (xs:=x29) (i:=x31) g3 g5) (ad_71 c7))) (by kernel_rfl) ?_
    rcases ite_ h8 with ⟨g9,h10⟩ | ⟨g9,h10⟩
    ·obtain rfl:=Option.some.inj h10
     exact leafRet (hn:=hn31) 12 [.val (.bool true)] [] .ret (.inr rfl) (by kernel_rfl) (int_lss (P:=Tryz.prog) (t:=3) (k:=.i64) (x:=(.tmp 38)) (y:=(.const (.int .i64 0))) (a:=t685) (b:=0) (v:=true) (decide_eq_true g9)) (by kernel_rfl)
    ·exact leafBack (hn:=hn31) 7 [.val (.bool false),.val (.int .i64 (wrap64 (x31 + 1)))] [] (q31_l0_mk h10) (Nat.lt_succ_self k) (And.intro (int_lss (P:=Tryz.prog) (t:=3) (k:=.i64) (x:=(.tmp 38)) (y:=(.const (.int .i64 0))) (a:=t685) (b:=0) (v:=false) (decide_eq_false g9)) (int_add (P:=Tryz.prog) (t:=3) (k:=.i64) (x:=(.tmp 31)) (y:=(.const (.int .i64 1))) (a:=x31) (b:=1) (c:=(wrap64 (x31 + 1))) (IntWalk.i64_left _))) (by kernel_rfl)
   ·obtain rfl:=Option.some.inj h2
    exact leafRet (hn:=hn31) 14 [.val (.bool false)] [] .ret (.inr rfl) (by kernel_rfl) (int_lss (P:=Tryz.prog) (t:=3) (k:=.i64) (x:=(.tmp 31)) (y:=(.tmp 30)) (a:=x31) (b:=x30) (v:=false) (decide_eq_false g1)) (by kernel_rfl))
theorem at31_j1 {r:Bool × Bool} {k:Nat} {x1:List Int} {x27:Bool} {x677000:List (S64)} {x677001:List Int} (h:spec_IsSolution.j1 k x1 x27 x677000 x677001 = some r):AtP Tryz.prog 41 (bodyOf Tryz.f31) (KR Tryz.prog Tryz.f31.results.toList (o31 r) (p31 r)) [true,true,false,true] [] (lookA [(1,.sl (iI .i64 x1)),(2,.loc 43 0),(27,vb x27),(43,.box (.agg [.sl (iS64 x677000),.sl (iI .i64 x677001)]))]):=by
 cases k with
 | zero => simp [spec_IsSolution.j1] at h
 | succ k =>
  rw [spec_IsSolution.j1] at h
  refine at_ (hn:=hn31) ?_
  rcases ite_ h with ⟨g1,h2⟩ | ⟨g1,h2⟩
  ·subst g1
   obtain rfl:=Option.some.inj h2
   exact leafRet (hn:=hn31) 6 [] [] .ret (.inr rfl) (by kernel_rfl) True.intro (by kernel_rfl)
  ·obtain rfl:=Bool.eq_false_iff.2 g1
   obtain ⟨t680,c3,h4⟩:=bd_ h2
   exact leafAt (hn:=hn31) 8 [.call (.sl (iS64 t680)),.val (.int .i64 (t680.length:Int))] [] (at31_l0 _ _ (q31_l0_mk h4)) (And.intro (ad_70 c3) (iS64_len (xs:=t680))) (by kernel_rfl)
theorem at31_j0 {r:Bool × Bool} {k:Nat} {x1:List Int} {x15:Bool} {x677000:List (S64)} {x677001:List Int} (h:spec_IsSolution.j0 k x1 x15 x677000 x677001 = some r):AtP Tryz.prog 41 (bodyOf Tryz.f31) (KR Tryz.prog Tryz.f31.results.toList (o31 r) (p31 r)) [true,false,true] [] (lookA [(1,.sl (iI .i64 x1)),(2,.loc 43 0),(15,vb x15),(43,.box (.agg [.sl (iS64 x677000),.sl (iI .i64 x677001)]))]):=by
 cases k with
 | zero => simp [spec_IsSolution.j0] at h
 | succ k =>
  rw [spec_IsSolution.j0] at h
  refine at_ (hn:=hn31) ?_
  rcases ite_ h with ⟨g1,h2⟩ | ⟨g1,h2⟩
  ·subst g1
   obtain rfl:=Option.some.inj h2
   exact leafRet (hn:=hn31) 6 [] [] .ret (.inr rfl) (by kernel_rfl) True.intro (by kernel_rfl)
  ·obtain rfl:=Bool.eq_false_iff.2 g1
   refine mid (hn:=hn31) 5 5 [.val (.int .i64 (x1.length:Int)),.val (.int .i64 (x677001.length:Int))] (And.intro (iI_len (k:=.i64) (xs:=x1)) (iI_len (k:=.i64) (xs:=x677001))) (by kernel_rfl) ?_
   rcases ite_ h2 with ⟨g3,h4⟩ | ⟨g3,h4⟩
   ·obtain ⟨t679,c5,h6⟩:=bd_ h4
    exact leafAt (hn:=hn31) 2 [.val (.bool false),.call (vb t679)] [] (at31_j1 h6) (And.intro (int_neq (P:=Tryz.prog) (t:=3) (k:=.i64) (x:=(.tmp 17)) (y:=(.tmp 20)) (a:=(x1.length:Int)) (b:=(x677001.length:Int)) (v:=false) (nbeq_f g3)) (ad_69 c5)) (by kernel_rfl)
   ·exact leafAt (hn:=hn31) 2 [.val (.bool true)] [] (at31_j1 h4) (int_neq (P:=Tryz.prog) (t:=3) (k:=.i64) (x:=(.tmp 17)) (y:=(.tmp 20)) (a:=(x1.length:Int)) (b:=(x677001.length:Int)) (v:=true) (nbeq_t g3)) (by kernel_rfl)
theorem ad_31 {k:Nat} {l0_0:List (S64)} {l0_1:List Int} {l1:List Int} {r1:Bool} {r2:Bool} (h:spec_IsSolution.f k l0_0 l0_1 l1 = some (r1,r2)):CallH Tryz.prog 31 [.agg [.sl (iS64 l0_0),.sl (iI .i64 l0_1)],.sl (iI .i64 l1)] [] (.tup [vb r1,vb r2]) []:=by
 unfold spec_IsSolution.f at h
 refine call_ok (c:=bodyOf Tryz.f31) (rs:=o31 (r1,r2)) (post:=p31 (r1,r2)) Tryz.func31 rfl rfl rfl (by kernel_rfl) ?_
 show AtP Tryz.prog 41 (bodyOf Tryz.f31) (KR Tryz.prog Tryz.f31.results.toList (o31 (r1,r2)) (p31 (r1,r2))) [] [] (lookA [(0,.agg [.sl (iS64 l0_0),.sl (iI .i64 l0_1)]),(1,.sl (iI .i64 l1))])
 refine at_ (hn:=hn31) ?_
 obtain ⟨t677,c1,h2⟩:=bd_ h
 refine mid (hn:=hn31) 5 4 [.call (vb t677)] (ad_40 c1) (by kernel_rfl) ?_
 rcases ite_ h2 with ⟨g3,h4⟩ | ⟨g3,h4⟩
 ·subst g3
  obtain ⟨t678,c5,h6⟩:=bd_ h4
  exact leafAt (hn:=hn31) 2 [.call (vb t678)] [] (at31_j0 h6) (ad_68 c5) (by kernel_rfl)
 ·obtain rfl:=Bool.eq_false_iff.2 g3
  exact leafAt (hn:=hn31) 2 [] [] (at31_j0 h4) True.intro (by kernel_rfl)

def hn73:Hint:=⟨[(10,[1000000]),(22,[1000000]),(27,[1000000]),(32,[100]),(34,[1000000])],[]⟩
def o73 (r:ByteArray × Int × Int) (s0_0:List Int) (s0_1:Int) (s0_2:Int):List AV:=[.val (.string r.1)]
def p73 (r:ByteArray × Int × Int) (s0_0:List Int) (s0_1:Int) (s0_2:Int):List (Nat × AV):=[(1000000,.box (.agg [.sl (iI .u8 s0_0),vi r.2.1,.val (.int .u64 r.2.2)]))]
def q73_l0 (r:ByteArray × Int × Int) (s0_0:List Int) (s0_1:Int) (s0_2:Int) (k:Nat) (L:List (Nat × AV)):Prop:=∃ (x1:ByteArray) (x2:ByteArray) (x7:Int) (x1001:Int) (x1002:Int),L = [(0,.loc 1000000 0),(1,.val (.string x1)),(2,.val (.string x2)),(7,vi x7),(1000000,.box (.agg [.sl (iI .u8 s0_0),vi x1001,.val (.int .u64 x1002)]))] ∧ spec_l1Cur_spoilt.l0 k x1 x2 x7 s0_0 x1001 x1002 = some r
theorem q73_l0_mk {r:ByteArray × Int × Int} (s0_0:List Int) (s0_1:Int) (s0_2:Int) {k:Nat} {x1:ByteArray} {x2:ByteArray} {x7:Int} {x1001:Int} {x1002:Int} (h:spec_l1Cur_spoilt.l0 k x1 x2 x7 s0_0 x1001 x1002 = some r):q73_l0 r s0_0 s0_1 s0_2 k [(0,.loc 1000000 0),(1,.val (.string x1)),(2,.val (.string x2)),(7,vi x7),(1000000,.box (.agg [.sl (iI .u8 s0_0),vi x1001,.val (.int .u64 x1002)]))]:=⟨x1,x2,x7,x1001,x1002,rfl,h⟩
theorem at73_j1 {r:ByteArray × Int × Int} {s0_0:List Int} {s0_1:Int} {s0_2:Int} {K0:Nat} {k:Nat} {x1:ByteArray} {x2:ByteArray} {x7:Int} {x19:Bool} {x1001:Int} {x1002:Int} (hk0:k < K0) (h:spec_l1Cur_spoilt.j1 k x1 x2 x7 x19 s0_0 x1001 x1002 = some r):AtP Tryz.prog 68 (bodyOf Tryz.f73) (KR Tryz.prog Tryz.f73.results.toList (o73 r s0_0 s0_1 s0_2) (p73 r s0_0 s0_1 s0_2)) [true,false,true,false,false,false,true] [upto (q73_l0 r s0_0 s0_1 s0_2) K0] (lookA [(0,.loc 1000000 0),(1,.val (.string x1)),(2,.val (.string x2)),(7,vi x7),(19,vb x19),(1000000,.box (.agg [.sl (iI .u8 s0_0),vi x1001,.val (.int .u64 x1002)]))]):=by
 cases k with
 | zero => simp [spec_l1Cur_spoilt.j1] at h
 | succ k =>
  rw [spec_l1Cur_spoilt.j1] at h
  have hk0:=Nat.lt_of_succ_lt hk0
  refine at_ (hn:=hn73) ?_
  rcases ite_ h with ⟨g1,h2⟩ | ⟨g1,h2⟩
  ·subst g1
   obtain ⟨⟨bt689_1,bt689_2,bt689_3⟩,c3,h4⟩:=bd_ h2
   obtain ⟨⟨bt692_1,bt692_2,bt692_3⟩,c5,h6⟩:=bd_ h4
   try dsimp only at h6
   obtain ⟨g7,h8⟩:=ip_ h6
   obtain ⟨g9,h10⟩:=ip_ h8
   obtain ⟨y695,c11,h12⟩:=bd_ h10
   obtain rfl:=Option.some.inj c11
   obtain ⟨⟨bt698_1,bt698_2,bt698_3⟩,c13,h14⟩:=bd_ h12
   try dsimp only at h14
   refine mid (hn:=hn73) 12 1 [.callH [1000000] (vi bt689_1) [(1000000,.box (.agg [.sl (iI .u8 s0_0),vi bt689_2,.val (.int .u64 bt689_3)]))],.callH [1000000] (vi bt692_1) [(1000000,.box (.agg [.sl (iI .u8 s0_0),vi bt692_2,.val (.int .u64 bt692_3)]))],.val (.int .u8 (bt x2 bt692_1)),.go,.elem (.val (.string (strOfNums ([(bt x2 bt692_1)]))))] (And.intro (CallH.ren [(1000000,1000000)] rfl rfl (ad_66 c3)) (And.intro (CallH.ren [(1000000,1000000)] rfl rfl (ad_66 c5)) (And.intro (idx_str (k:=.i64) (x:=x2) (i:=bt692_1) Tryz.underlying9 g7 g9) (conv_22_9_str (xs:=[(bt x2 bt692_1)]))))) (by kernel_rfl) ?_
   rcases ite_ h14 with ⟨g15,h16⟩ | ⟨g15,h16⟩
   ·obtain ⟨g17,h18⟩:=ip_ h16
    obtain ⟨g19,h20⟩:=ip_ h18
    obtain ⟨g21,h22⟩:=ip_ h20
    obtain ⟨g23,h24⟩:=ip_ h22
    exact leafBack (hn:=hn73) 12 [.callH [1000000] (vi bt698_1) [(1000000,.box (.agg [.sl (iI .u8 s0_0),vi bt698_2,.val (.int .u64 bt698_3)]))],.val (.bool true),.val (.string (x1.extract 0 (bt689_1:Int).toNat)),.val (.string ((x1.extract 0 (bt689_1:Int).toNat) ++ (strOfNums ([(bt x2 bt692_1)])))),.val (.string (x1.extract (bt689_1:Int).toNat x1.size)),.val (.string (((x1.extract 0 (bt689_1:Int).toNat) ++ (strOfNums ([(bt x2 bt692_1)]))) ++ (x1.extract (bt689_1:Int).toNat x1.size))),.val (.int .i64 (wrap64 (x7 - 1)))] [] (q73_l0_mk s0_0 s0_1 s0_2 h24) hk0 (And.intro (CallH.ren [(1000000,1000000)] rfl rfl (ad_66 c13)) (And.intro (int_eql (P:=Tryz.prog) (t:=3) (k:=.i64) (x:=(.tmp 35)) (y:=(.const (.int .i64 0))) (a:=bt698_1) (b:=0) (v:=true) (beq_iff_eq.2 g15)) (And.intro (And.intro (cut_str_h (k:=.i64) (x:=x1) (b:=bt689_1) Tryz.underlying9 g17 g19) (And.intro (str_add (P:=Tryz.prog) (t:=9) (x:=(.tmp 48)) (y:=(.tmp 49)) (a:=(x1.extract 0 (bt689_1:Int).toNat)) (b:=(strOfNums ([(bt x2 bt692_1)]))) g21) (And.intro (cut_str_l (k:=.i64) (x:=x1) (a:=bt689_1) Tryz.underlying9 g17 g19) (str_add (P:=Tryz.prog) (t:=9) (x:=(.tmp 50)) (y:=(.tmp 53)) (a:=((x1.extract 0 (bt689_1:Int).toNat) ++ (strOfNums ([(bt x2 bt692_1)])))) (b:=(x1.extract (bt689_1:Int).toNat x1.size)) g23)))) (int_sub (P:=Tryz.prog) (t:=3) (k:=.i64) (x:=(.tmp 20)) (y:=(.const (.int .i64 1))) (a:=x7) (b:=1) (c:=(wrap64 (x7 - 1))) (IntWalk.i64_left _))))) (by kernel_rfl)
   ·refine mid (hn:=hn73) 4 1 [.callH [1000000] (vi bt698_1) [(1000000,.box (.agg [.sl (iI .u8 s0_0),vi bt698_2,.val (.int .u64 bt698_3)]))],.val (.bool false)] (And.intro (CallH.ren [(1000000,1000000)] rfl rfl (ad_66 c13)) (int_eql (P:=Tryz.prog) (t:=3) (k:=.i64) (x:=(.tmp 35)) (y:=(.const (.int .i64 0))) (a:=bt698_1) (b:=0) (v:=false) (beq_false_of_ne g15))) (by kernel_rfl) ?_
    rcases ite_ h16 with ⟨g25,h26⟩ | ⟨g25,h26⟩
    ·obtain ⟨g27,h28⟩:=ip_ h26
     obtain ⟨g29,h30⟩:=ip_ h28
     obtain ⟨g31,h32⟩:=ip_ h30
     obtain ⟨g33,h34⟩:=ip_ h32
     obtain ⟨g35,h36⟩:=ip_ h34
     obtain ⟨g37,h38⟩:=ip_ h36
     exact leafBack (hn:=hn73) 12 [.val (.bool true),.val (.string (x1.extract 0 (bt689_1:Int).toNat)),.val (.string ((x1.extract 0 (bt689_1:Int).toNat) ++ (strOfNums ([(bt x2 bt692_1)])))),.val (.int .i64 (wrap64 (bt689_1 + 1))),.val (.string (x1.extract ((wrap64 (bt689_1 + 1)):Int).toNat x1.size)),.val (.string (((x1.extract 0 (bt689_1:Int).toNat) ++ (strOfNums ([(bt x2 bt692_1)]))) ++ (x1.extract ((wrap64 (bt689_1 + 1)):Int).toNat x1.size))),.val (.int .i64 (wrap64 (x7 - 1)))] [] (q73_l0_mk s0_0 s0_1 s0_2 h38) hk0 (And.intro (int_eql (P:=Tryz.prog) (t:=3) (k:=.i64) (x:=(.tmp 35)) (y:=(.const (.int .i64 1))) (a:=bt698_1) (b:=1) (v:=true) (beq_iff_eq.2 g25)) (And.intro (And.intro (cut_str_h (k:=.i64) (x:=x1) (b:=bt689_1) Tryz.underlying9 g27 g29) (And.intro (str_add (P:=Tryz.prog) (t:=9) (x:=(.tmp 59)) (y:=(.tmp 60)) (a:=(x1.extract 0 (bt689_1:Int).toNat)) (b:=(strOfNums ([(bt x2 bt692_1)]))) g31) (And.intro (int_add (P:=Tryz.prog) (t:=3) (k:=.i64) (x:=(.tmp 63)) (y:=(.const (.int .i64 1))) (a:=bt689_1) (b:=1) (c:=(wrap64 (bt689_1 + 1))) (IntWalk.i64_left _)) (And.intro (cut_str_l (k:=.i64) (x:=x1) (a:=(wrap64 (bt689_1 + 1))) Tryz.underlying9 g33 g35) (str_add (P:=Tryz.prog) (t:=9) (x:=(.tmp 61)) (y:=(.tmp 65)) (a:=((x1.extract 0 (bt689_1:Int).toNat) ++ (strOfNums ([(bt x2 bt692_1)])))) (b:=(x1.extract ((wrap64 (bt689_1 + 1)):Int).toNat x1.size)) g37))))) (int_sub (P:=Tryz.prog) (t:=3) (k:=.i64) (x:=(.tmp 20)) (y:=(.const (.int .i64 1))) (a:=x7) (b:=1) (c:=(wrap64 (x7 - 1))) (IntWalk.i64_left _)))) (by kernel_rfl)
    ·obtain ⟨g39,h40⟩:=ip_ h26
     obtain ⟨g41,h42⟩:=ip_ h40
     obtain ⟨g43,h44⟩:=ip_ h42
     obtain ⟨g45,h46⟩:=ip_ h44
     obtain ⟨g47,h48⟩:=ip_ h46
     exact leafBack (hn:=hn73) 12 [.val (.bool false),.val (.string (x1.extract 0 (bt689_1:Int).toNat)),.val (.int .i64 (wrap64 (bt689_1 + 1))),.val (.string (x1.extract ((wrap64 (bt689_1 + 1)):Int).toNat x1.size)),.val (.string ((x1.extract 0 (bt689_1:Int).toNat) ++ (x1.extract ((wrap64 (bt689_1 + 1)):Int).toNat x1.size))),.val (.int .i64 (wrap64 (x7 - 1)))] [] (q73_l0_mk s0_0 s0_1 s0_2 h48) hk0 (And.intro (int_eql (P:=Tryz.prog) (t:=3) (k:=.i64) (x:=(.tmp 35)) (y:=(.const (.int .i64 1))) (a:=bt698_1) (b:=1) (v:=false) (beq_false_of_ne g25)) (And.intro (And.intro (cut_str_h (k:=.i64) (x:=x1) (b:=bt689_1) Tryz.underlying9 g39 g41) (And.intro (int_add (P:=Tryz.prog) (t:=3) (k:=.i64) (x:=(.tmp 40)) (y:=(.const (.int .i64 1))) (a:=bt689_1) (b:=1) (c:=(wrap64 (bt689_1 + 1))) (IntWalk.i64_left _)) (And.intro (cut_str_l (k:=.i64) (x:=x1) (a:=(wrap64 (bt689_1 + 1))) Tryz.underlying9 g43 g45) (str_add (P:=Tryz.prog) (t:=9) (x:=(.tmp 38)) (y:=(.tmp 42)) (a:=(x1.extract 0 (bt689_1:Int).toNat)) (b:=(x1.extract ((wrap64 (bt689_1 + 1)):Int).toNat x1.size)) g47)))) (int_sub (P:=Tryz.prog) (t:=3) (k:=.i64) (x:=(.tmp 20)) (y:=(.const (.int .i64 1))) (a:=x7) (b:=1) (c:=(wrap64 (x7 - 1))) (IntWalk.i64_left _)))) (by kernel_rfl)
  ·obtain rfl:=Bool.eq_false_iff.2 g1
   obtain rfl:=Option.some.inj h2
   exact leafRet (hn:=hn73) 10 [] [] .ret (.inr rfl) (by kernel_rfl) True.intro (by kernel_rfl)
theorem at73_l0 {r:ByteArray × Int × Int} {s0_0:List Int} {s0_1:Int} {s0_2:Int}:∀ k L,q73_l0 r s0_0 s0_1 s0_2 k L → AtP Tryz.prog 68 (bodyOf Tryz.f73) (KR Tryz.prog Tryz.f73.results.toList (o73 r s0_0 s0_1 s0_2) (p73 r s0_0 s0_1 s0_2)) [true,false,true,false] [] (lookA L) :=
 at_loop (by kernel_rfl) (fun _ => by kernel_rfl) (q73_l0 r s0_0 s0_1 s0_2) (by
  rintro k _ ⟨x1,x2,x7,x1001,x1002,rfl,h⟩
  cases k with
  | zero => simp [spec_l1Cur_spoilt.l0] at h
  | succ k =>
   rw [spec_l1Cur_spoilt.l0] at h
   refine at_ (hn:=hn73) ?_
   rcases ite_ h with ⟨g1,h2⟩ | ⟨g1,h2⟩
   ·exact leafAt (hn:=hn73) 4 [.val (.bool true),.val (.bool (decide ((x1.size:Int) > 0)))] [] (at73_j1 (Nat.lt_succ_self k) h2) (And.intro (int_gtr (P:=Tryz.prog) (t:=3) (k:=.i64) (x:=(.tmp 13)) (y:=(.const (.int .i64 0))) (a:=x7) (b:=0) (v:=true) (decide_eq_true g1)) (int_gtr (P:=Tryz.prog) (t:=3) (k:=.i64) (x:=(.tmp 17)) (y:=(.const (.int .i64 0))) (a:=(x1.size:Int)) (b:=0) (v:=(decide ((x1.size:Int) > 0))) rfl)) (by kernel_rfl)
   ·exact leafAt (hn:=hn73) 4 [.val (.bool false)] [] (at73_j1 (Nat.lt_succ_self k) h2) (int_gtr (P:=Tryz.prog) (t:=3) (k:=.i64) (x:=(.tmp 13)) (y:=(.const (.int .i64 0))) (a:=x7) (b:=0) (v:=false) (decide_eq_false g1)) (by kernel_rfl))
theorem ad_73 {k:Nat} {s0_0:List Int} {s0_1:Int} {s0_2:Int} {a1:ByteArray} {a2:ByteArray} {r1:ByteArray} {r2:Int} {r3:Int} (h:spec_l1Cur_spoilt.f k s0_0 s0_1 s0_2 a1 a2 = some (r1,r2,r3)):CallH Tryz.prog 73 [.loc 1000000 0,.val (.string a1),.val (.string a2)] [(1000000,.box (.agg [.sl (iI .u8 s0_0),vi s0_1,.val (.int .u64 s0_2)]))] (.val (.string r1)) [(1000000,.box (.agg [.sl (iI .u8 s0_0),vi r2,.val (.int .u64 r3)]))]:=by
 unfold spec_l1Cur_spoilt.f at h
 refine call_ok (c:=bodyOf Tryz.f73) (rs:=o73 (r1,r2,r3) s0_0 s0_1 s0_2) (post:=p73 (r1,r2,r3) s0_0 s0_1 s0_2) Tryz.func73 rfl rfl rfl (by kernel_rfl) ?_
 show AtP Tryz.prog 68 (bodyOf Tryz.f73) (KR Tryz.prog Tryz.f73.results.toList (o73 (r1,r2,r3) s0_0 s0_1 s0_2) (p73 (r1,r2,r3) s0_0 s0_1 s0_2)) [] [] (lookA [(0,.loc 1000000 0),(1,.val (.string a1)),(2,.val (.string a2)),(1000000,.box (.agg [.sl (iI .u8 s0_0),vi s0_1,.val (.int .u64 s0_2)]))])
 refine at_ (hn:=hn73) ?_
 obtain ⟨⟨bt686_1,bt686_2,bt686_3⟩,c1,h2⟩:=bd_ h
 try dsimp only at h2
 exact leafAt (hn:=hn73) 8 [.callH [1000000] (vi bt686_1) [(1000000,.box (.agg [.sl (iI .u8 s0_0),vi bt686_2,.val (.int .u64 bt686_3)]))],.val (.int .i64 (wrap64 (1 + bt686_1)))] [] (at73_l0 _ _ (q73_l0_mk s0_0 s0_1 s0_2 h2)) (And.intro (CallH.ren [(1000000,1000000)] rfl rfl (ad_66 c1)) (int_add (P:=Tryz.prog) (t:=3) (k:=.i64) (x:=(.const (.int .i64 1))) (y:=(.tmp 11)) (a:=1) (b:=bt686_1) (c:=(wrap64 (1 + bt686_1))) (IntWalk.i64_left _))) (by kernel_rfl)

def hn32:Hint:=⟨[(8,[24]),(9,[26,43]),(11,[24]),(13,[24])],[]⟩
def o32 (r:ByteArray):List AV:=[.val (.string r)]
def p32 (r:ByteArray):List (Nat × AV):=[]
theorem ad_32 {k:Nat} {l0:List Int} {r:ByteArray} (h:spec_DrawParsePuzzle.f k l0 = some r):CallH Tryz.prog 32 [.sl (iI .u8 l0)] [] (.val (.string r)) []:=by
 unfold spec_DrawParsePuzzle.f at h
 refine call_ok (c:=bodyOf Tryz.f32) (rs:=o32 r) (post:=p32 r) Tryz.func32 rfl rfl rfl (by kernel_rfl) ?_
 show AtP Tryz.prog 17 (bodyOf Tryz.f32) (KR Tryz.prog Tryz.f32.results.toList (o32 r) (p32 r)) [] [] (lookA [(0,.sl (iI .u8 l0))])
 refine at_ (hn:=hn32) ?_
 obtain ⟨⟨bt702_1,bt702_2,bt702_3,bt702_4⟩,c1,h2⟩:=bd_ h
 try dsimp only at h2
 obtain ⟨t710,c3,h4⟩:=bd_ h2
 obtain ⟨⟨bt711_1,bt711_2,bt711_3⟩,c5,h6⟩:=bd_ h4
 try dsimp only at h6
 refine mid (hn:=hn32) 11 1 [.go,.callH [24] (.agg [.row 26,.row 43]) [(24,.box (.agg [.sl (iI .u8 l0),vi bt702_3,.val (.int .u64 bt702_4)])),(26,.ow false 64 (iS64 bt702_1)),(43,.ow false 3 (iI .i64 bt702_2))],.call (.val (.string t710))] (And.intro (CallH.ren [(500000,26),(500001,43),(1000000,24)] rfl rfl (CallH.frz 500001 rfl (CallH.frz 500000 rfl (ad_72 c1)))) (ad_43 c3)) (by kernel_rfl) ?_
 rcases ite_ h6 with ⟨g7,h8⟩ | ⟨g7,h8⟩
 ·subst g7
  obtain ⟨⟨bt714_1,bt714_2,bt714_3⟩,c9,h10⟩:=bd_ h8
  try dsimp only at h10
  obtain rfl:=Option.some.inj h10
  exact leafRet (hn:=hn32) 9 [.callH [24] (vb true) [(24,.box (.agg [.sl (iI .u8 l0),vi bt711_2,.val (.int .u64 bt711_3)]))],.callH [24] (.val (.string bt714_1)) [(24,.box (.agg [.sl (iI .u8 l0),vi bt714_2,.val (.int .u64 bt714_3)]))]] [] .ret (.inr rfl) (by kernel_rfl) (And.intro (CallH.ren [(1000000,24)] rfl rfl (ad_64 c5)) (CallH.ren [(1000000,24)] rfl rfl (ad_73 c9))) (by kernel_rfl)
 ·obtain rfl:=Bool.eq_false_iff.2 g7
  obtain rfl:=Option.some.inj h8
  exact leafRet (hn:=hn32) 9 [.callH [24] (vb false) [(24,.box (.agg [.sl (iI .u8 l0),vi bt711_2,.val (.int .u64 bt711_3)]))]] [] .ret (.inr rfl) (by kernel_rfl) (CallH.ren [(1000000,24)] rfl rfl (ad_64 c5)) (by kernel_rfl)

def hn134:Hint:=⟨[(19,[39]),(24,[58]),(28,[39]),(32,[66])],[]⟩
def o134 (r:List ByteArray):List AV:=[.sl (iStr r)]
def p134 (r:List ByteArray):List (Nat × AV):=[]
def q134_l0 (r:List ByteArray) (k:Nat) (L:List (Nat × AV)):Prop:=∃ (x0:ByteArray) (x1:Int) (x5:List ByteArray) (x6:Int) (x7:Int),L = [(0,.val (.string x0)),(1,.val (.int .u8 x1)),(5,.row 39),(6,vi x6),(7,vi x7),(39,.ow false 9 (iStr x5))] ∧ spec_l1Split.l0 k x0 x1 x5 x6 x7 = some r
theorem q134_l0_mk {r:List ByteArray} {k:Nat} {x0:ByteArray} {x1:Int} {x5:List ByteArray} {x6:Int} {x7:Int} (h:spec_l1Split.l0 k x0 x1 x5 x6 x7 = some r):q134_l0 r k [(0,.val (.string x0)),(1,.val (.int .u8 x1)),(5,.row 39),(6,vi x6),(7,vi x7),(39,.ow false 9 (iStr x5))]:=⟨x0,x1,x5,x6,x7,rfl,h⟩
theorem at134_l0 {r:List ByteArray}:∀ k L,q134_l0 r k L → AtP Tryz.prog 34 (bodyOf Tryz.f134) (KR Tryz.prog Tryz.f134.results.toList (o134 r) (p134 r)) [true,true,true,false,true,false] [] (lookA L) :=
 at_loop (by kernel_rfl) (fun _ => by kernel_rfl) (q134_l0 r) (by
  rintro k _ ⟨x0,x1,x5,x6,x7,rfl,h⟩
  cases k with
  | zero => simp [spec_l1Split.l0] at h
  | succ k =>
   rw [spec_l1Split.l0] at h
   refine at_ (hn:=hn134) ?_
   rcases ite_ h with ⟨g1,h2⟩ | ⟨g1,h2⟩
   ·obtain ⟨g3,h4⟩:=ip_ h2
    refine mid (hn:=hn134) 10 4 [.val (.bool true),.val (.int .u8 (bt x0 x7))] (And.intro (int_lss (P:=Tryz.prog) (t:=3) (k:=.i64) (x:=(.tmp 8)) (y:=(.tmp 10)) (a:=x7) (b:=(x0.size:Int)) (v:=true) (decide_eq_true g1)) (idx_str (k:=.i64) (x:=x0) (i:=x7) Tryz.underlying9 g3 g1)) (by kernel_rfl) ?_
    rcases ite_ h4 with ⟨g5,h6⟩ | ⟨g5,h6⟩
    ·obtain ⟨g7,h8⟩:=ip_ h6
     obtain ⟨g9,h10⟩:=ip_ h8
     obtain ⟨g11,h12⟩:=ip_ h10
     obtain ⟨g13,h14⟩:=ip_ h12
     exact leafBack (hn:=hn134) 10 [.val (.bool true),.val (.string (x0.extract (x6:Int).toNat (x7:Int).toNat)),.go,.elem (.ow false 9 (iStr (x5 ++ ([(x0.extract (x6:Int).toNat (x7:Int).toNat)])))),.val (.int .i64 (wrap64 (x7 + 1))),.val (.int .i64 (wrap64 (x7 + 1)))] [(39,59)] (q134_l0_mk h14) (Nat.lt_succ_self k) (And.intro (int_eql (P:=Tryz.prog) (t:=5) (k:=.u8) (x:=(.tmp 16)) (y:=(.tmp 17)) (a:=(bt x0 x7)) (b:=x1) (v:=true) (beq_iff_eq.2 g5)) (And.intro (And.intro (cut_str (k:=.i64) (k':=.i64) (x:=x0) (a:=x6) (b:=x7) Tryz.underlying9 g7 g9 g11) (iStr_app (N:=8796093022208) (b:=16) (xs:=x5) (ys:=[(x0.extract (x6:Int).toNat (x7:Int).toNat)]) (by decide) (Nat.succ_le_of_lt g13))) (And.intro (int_add (P:=Tryz.prog) (t:=3) (k:=.i64) (x:=(.tmp 26)) (y:=(.const (.int .i64 1))) (a:=x7) (b:=1) (c:=(wrap64 (x7 + 1))) (IntWalk.i64_left _)) (int_add (P:=Tryz.prog) (t:=3) (k:=.i64) (x:=(.tmp 12)) (y:=(.const (.int .i64 1))) (a:=x7) (b:=1) (c:=(wrap64 (x7 + 1))) (IntWalk.i64_left _))))) (by kernel_rfl)
    ·exact leafBack (hn:=hn134) 7 [.val (.bool false),.val (.int .i64 (wrap64 (x7 + 1)))] [] (q134_l0_mk h6) (Nat.lt_succ_self k) (And.intro (int_eql (P:=Tryz.prog) (t:=5) (k:=.u8) (x:=(.tmp 16)) (y:=(.tmp 17)) (a:=(bt x0 x7)) (b:=x1) (v:=false) (beq_false_of_ne g5)) (int_add (P:=Tryz.prog) (t:=3) (k:=.i64) (x:=(.tmp 12)) (y:=(.const (.int .i64 1))) (a:=x7) (b:=1) (c:=(wrap64 (x7 + 1))) (IntWalk.i64_left _))) (by kernel_rfl)
   ·obtain ⟨g15,h16⟩:=ip_ h2
    obtain ⟨g17,h18⟩:=ip_ h16
    obtain ⟨g19,h20⟩:=ip_ h18
    obtain rfl:=Option.some.inj h20
    exact leafRet (hn:=hn134) 14 [.val (.bool false),.val (.string (x0.extract (x6:Int).toNat x0.size)),.go,.elem (.ow false 9 (iStr (x5 ++ ([(x0.extract (x6:Int).toNat x0.size)]))))] [] .ret (.inr rfl) (by kernel_rfl) (And.intro (int_lss (P:=Tryz.prog) (t:=3) (k:=.i64) (x:=(.tmp 8)) (y:=(.tmp 10)) (a:=x7) (b:=(x0.size:Int)) (v:=false) (decide_eq_false g1)) (And.intro (cut_str_l (k:=.i64) (x:=x0) (a:=x6) Tryz.underlying9 g15 g17) (iStr_app (N:=8796093022208) (b:=16) (xs:=x5) (ys:=[(x0.extract (x6:Int).toNat x0.size)]) (by decide) (Nat.succ_le_of_lt g19)))) (by kernel_rfl))
theorem ad_134 {k:Nat} {a0:ByteArray} {a1:Int} {r:List ByteArray} (h:spec_l1Split.f k a0 a1 = some r):CallH Tryz.prog 134 [.val (.string a0),.val (.int .u8 a1)] [] (.sl (iStr r)) []:=by
 unfold spec_l1Split.f at h
 refine call_ok (c:=bodyOf Tryz.f134) (rs:=o134 r) (post:=p134 r) Tryz.func134 rfl rfl rfl (by kernel_rfl) ?_
 show AtP Tryz.prog 34 (bodyOf Tryz.f134) (KR Tryz.prog Tryz.f134.results.toList (o134 r) (p134 r)) [] [] (lookA [(0,.val (.string a0)),(1,.val (.int .u8 a1))])
 refine at_ (hn:=hn134) ?_
 exact leafAt (hn:=hn134) 14 [.goT,.nil false 9] [] (at134_l0 _ _ (q134_l0_mk h)) True.intro (by kernel_rfl)

def hn110:Hint:=⟨[(42,[63]),(52,[111]),(55,[63])],[]⟩
def o110 (r:(List (S64)) × Bool):List AV:=[.sl (iS64 r.1),vb r.2]
def p110 (r:(List (S64)) × Bool):List (Nat × AV):=[]
def q110_l0 (r:(List (S64)) × Bool) (k:Nat) (L:List (Nat × AV)):Prop:=∃ (x4:List (S64)) (x13:List ByteArray) (x14:Int) (x15:Int),L = [(4,.row 63),(13,.sl (iStr x13)),(14,vi x14),(15,vi x15),(63,.ow false 64 (iS64 x4))] ∧ spec_tiParse.l0 k x4 x13 x14 x15 = some r
theorem q110_l0_mk {r:(List (S64)) × Bool} {k:Nat} {x4:List (S64)} {x13:List ByteArray} {x14:Int} {x15:Int} (h:spec_tiParse.l0 k x4 x13 x14 x15 = some r):q110_l0 r k [(4,.row 63),(13,.sl (iStr x13)),(14,vi x14),(15,vi x15),(63,.ow false 64 (iS64 x4))]:=⟨x4,x13,x14,x15,rfl,h⟩
theorem at110_l0 {r:(List (S64)) × Bool}:∀ k L,q110_l0 r k L → AtP Tryz.prog 59 (bodyOf Tryz.f110) (KR Tryz.prog Tryz.f110.results.toList (o110 r) (p110 r)) [true,true,true,true,false,true,false] [] (lookA L) :=
 at_loop (by kernel_rfl) (fun _ => by kernel_rfl) (q110_l0 r) (by
  rintro k _ ⟨x4,x13,x14,x15,rfl,h⟩
  cases k with
  | zero => simp [spec_tiParse.l0] at h
  | succ k =>
   rw [spec_tiParse.l0] at h
   refine at_ (hn:=hn110) ?_
   rcases ite_ h with ⟨g1,h2⟩ | ⟨g1,h2⟩
   ·obtain ⟨g3,h4⟩:=ip_ h2
    obtain ⟨g5,h6⟩:=ip_ h4
    refine mid (hn:=hn110) 14 2 [.val (.bool true),.elem (.val (.string (rdOf ByteArray.empty x13 x15)))] (And.intro (int_lss (P:=Tryz.prog) (t:=3) (k:=.i64) (x:=(.tmp 15)) (y:=(.tmp 14)) (a:=x15) (b:=x14) (v:=true) (decide_eq_true g1)) (iStr_rd (xs:=x13) (i:=x15) g3 g5)) (by kernel_rfl) ?_
    rcases ite_ h6 with ⟨g7,h8⟩ | ⟨g7,h8⟩
    ·obtain ⟨g9,h10⟩:=ip_ h8
     refine mid (hn:=hn110) 0 4 [.val (.bool false),.val (.int .u8 (bt (rdOf ByteArray.empty x13 x15) 0))] (And.intro (int_neq (P:=Tryz.prog) (t:=3) (k:=.i64) (x:=(.tmp 20)) (y:=(.const (.int .i64 2))) (a:=((rdOf ByteArray.empty x13 x15).size:Int)) (b:=2) (v:=false) (nbeq_f g7)) (idx_str (k:=.i64) (x:=(rdOf ByteArray.empty x13 x15)) (i:=0) Tryz.underlying9 (by decide) g9)) (by kernel_rfl) ?_
     rcases ite_ h10 with ⟨g11,h12⟩ | ⟨g11,h12⟩
     ·obtain rfl:=Option.some.inj h12
      exact leafRet (hn:=hn110) 13 [.val (.bool true),.goT] [] .ret (.inr rfl) (by kernel_rfl) (int_lss (P:=Tryz.prog) (t:=5) (k:=.u8) (x:=(.tmp 24)) (y:=(.const (.int .u8 48))) (a:=(bt (rdOf ByteArray.empty x13 x15) 0)) (b:=48) (v:=true) (decide_eq_true g11)) (by kernel_rfl)
     ·refine mid (hn:=hn110) 0 5 [.val (.bool false),.val (.int .u8 (bt (rdOf ByteArray.empty x13 x15) 0))] (And.intro (int_lss (P:=Tryz.prog) (t:=5) (k:=.u8) (x:=(.tmp 24)) (y:=(.const (.int .u8 48))) (a:=(bt (rdOf ByteArray.empty x13 x15) 0)) (b:=48) (v:=false) (decide_eq_false g11)) (idx_str (k:=.i64) (x:=(rdOf ByteArray.empty x13 x15)) (i:=0) Tryz.underlying9 (by decide) g9)) (by kernel_rfl) ?_
      rcases ite_ h12 with ⟨g13,h14⟩ | ⟨g13,h14⟩
      ·obtain rfl:=Option.some.inj h14
       exact leafRet (hn:=hn110) 13 [.val (.bool true),.goT] [] .ret (.inr rfl) (by kernel_rfl) (int_gtr (P:=Tryz.prog) (t:=5) (k:=.u8) (x:=(.tmp 29)) (y:=(.const (.int .u8 57))) (a:=(bt (rdOf ByteArray.empty x13 x15) 0)) (b:=57) (v:=true) (decide_eq_true g13)) (by kernel_rfl)
      ·obtain ⟨g15,h16⟩:=ip_ h14
       refine mid (hn:=hn110) 0 5 [.val (.bool false),.val (.int .u8 (bt (rdOf ByteArray.empty x13 x15) 1))] (And.intro (int_gtr (P:=Tryz.prog) (t:=5) (k:=.u8) (x:=(.tmp 29)) (y:=(.const (.int .u8 57))) (a:=(bt (rdOf ByteArray.empty x13 x15) 0)) (b:=57) (v:=false) (decide_eq_false g13)) (idx_str (k:=.i64) (x:=(rdOf ByteArray.empty x13 x15)) (i:=1) Tryz.underlying9 (by decide) g15)) (by kernel_rfl) ?_
       rcases ite_ h16 with ⟨g17,h18⟩ | ⟨g17,h18⟩
       ·obtain rfl:=Option.some.inj h18
        exact leafRet (hn:=hn110) 13 [.val (.bool true),.goT] [] .ret (.inr rfl) (by kernel_rfl) (int_lss (P:=Tryz.prog) (t:=5) (k:=.u8) (x:=(.tmp 34)) (y:=(.const (.int .u8 48))) (a:=(bt (rdOf ByteArray.empty x13 x15) 1)) (b:=48) (v:=true) (decide_eq_true g17)) (by kernel_rfl)
       ·refine mid (hn:=hn110) 0 5 [.val (.bool false),.val (.int .u8 (bt (rdOf ByteArray.empty x13 x15) 1))] (And.intro (int_lss (P:=Tryz.prog) (t:=5) (k:=.u8) (x:=(.tmp 34)) (y:=(.const (.int .u8 48))) (a:=(bt (rdOf ByteArray.empty x13 x15) 1)) (b:=48) (v:=false) (decide_eq_false g17)) (idx_str (k:=.i64) (x:=(rdOf ByteArray.empty x13 x15)) (i:=1) Tryz.underlying9 (by decide) g15)) (by kernel_rfl) ?_
        rcases ite_ h18 with ⟨g19,h20⟩ | ⟨g19,h20⟩
        ·obtain rfl:=Option.some.inj h20
         exact leafRet (hn:=hn110) 13 [.val (.bool true),.goT] [] .ret (.inr rfl) (by kernel_rfl) (int_gtr (P:=Tryz.prog) (t:=5) (k:=.u8) (x:=(.tmp 39)) (y:=(.const (.int .u8 57))) (a:=(bt (rdOf ByteArray.empty x13 x15) 1)) (b:=57) (v:=true) (decide_eq_true g19)) (by kernel_rfl)
        ·obtain ⟨g21,h22⟩:=ip_ h20
         exact leafBack (hn:=hn110) 9 [.val (.bool false),.val (.int .u8 (bt (rdOf ByteArray.empty x13 x15) 0)),.val (.int .u8 (((bt (rdOf ByteArray.empty x13 x15) 0) - 48) % 256)),.val (.int .i64 (((bt (rdOf ByteArray.empty x13 x15) 0) - 48) % 256)),.val (.int .u8 (bt (rdOf ByteArray.empty x13 x15) 1)),.val (.int .u8 (((bt (rdOf ByteArray.empty x13 x15) 1) - 48) % 256)),.val (.int .i64 (((bt (rdOf ByteArray.empty x13 x15) 1) - 48) % 256)),.elem (.agg [vi (((bt (rdOf ByteArray.empty x13 x15) 0) - 48) % 256),vi (((bt (rdOf ByteArray.empty x13 x15) 1) - 48) % 256)]),.go,.elem (.ow false 64 (iS64 (x4 ++ ([(⟨(((bt (rdOf ByteArray.empty x13 x15) 0) - 48) % 256),(((bt (rdOf ByteArray.empty x13 x15) 1) - 48) % 256)⟩ : S64)])))),.val (.int .i64 (wrap64 (x15 + 1)))] [(63,112)] (q110_l0_mk h22) (Nat.lt_succ_self k) (And.intro (int_gtr (P:=Tryz.prog) (t:=5) (k:=.u8) (x:=(.tmp 39)) (y:=(.const (.int .u8 57))) (a:=(bt (rdOf ByteArray.empty x13 x15) 1)) (b:=57) (v:=false) (decide_eq_false g19)) (And.intro (And.intro (idx_str (k:=.i64) (x:=(rdOf ByteArray.empty x13 x15)) (i:=0) Tryz.underlying9 (by decide) g9) (And.intro (int_sub (P:=Tryz.prog) (t:=5) (k:=.u8) (x:=(.tmp 44)) (y:=(.const (.int .u8 48))) (a:=(bt (rdOf ByteArray.empty x13 x15) 0)) (b:=48) (c:=(((bt (rdOf ByteArray.empty x13 x15) 0) - 48) % 256)) (wrap_u8 _)) (And.intro (conv_5_3_m (z:=((bt (rdOf ByteArray.empty x13 x15) 0) - 48))) (And.intro (idx_str (k:=.i64) (x:=(rdOf ByteArray.empty x13 x15)) (i:=1) Tryz.underlying9 (by decide) g15) (And.intro (int_sub (P:=Tryz.prog) (t:=5) (k:=.u8) (x:=(.tmp 48)) (y:=(.const (.int .u8 48))) (a:=(bt (rdOf ByteArray.empty x13 x15) 1)) (b:=48) (c:=(((bt (rdOf ByteArray.empty x13 x15) 1) - 48) % 256)) (wrap_u8 _)) (And.intro (conv_5_3_m (z:=((bt (rdOf ByteArray.empty x13 x15) 1) - 48))) (And.intro (build_64_2 (p0:=(((bt (rdOf ByteArray.empty x13 x15) 0) - 48) % 256)) (p1:=(((bt (rdOf ByteArray.empty x13 x15) 1) - 48) % 256))) (iS64_app (N:=8796093022208) (b:=16) (xs:=x4) (ys:=[(⟨(((bt (rdOf ByteArray.empty x13 x15) 0) - 48) % 256),(((bt (rdOf ByteArray.empty x13 x15) 1) - 48) % 256)⟩ : S64)]) (by decide) (Nat.succ_le_of_lt g21))))))))) (int_add (P:=Tryz.prog) (t:=3) (k:=.i64) (x:=(.tmp 15)) (y:=(.const (.int .i64 1))) (a:=x15) (b:=1) (c:=(wrap64 (x15 + 1))) (IntWalk.i64_left _)))) (by kernel_rfl)
    ·obtain rfl:=Option.some.inj h8
     exact leafRet (hn:=hn110) 13 [.val (.bool true),.goT] [] .ret (.inr rfl) (by kernel_rfl) (int_neq (P:=Tryz.prog) (t:=3) (k:=.i64) (x:=(.tmp 20)) (y:=(.const (.int .i64 2))) (a:=((rdOf ByteArray.empty x13 x15).size:Int)) (b:=2) (v:=true) (nbeq_t g7)) (by kernel_rfl)
   ·obtain ⟨t730,c23,h24⟩:=bd_ h2
    refine mid (hn:=hn110) 12 2 [.val (.bool false),.call (vb t730)] (And.intro (int_lss (P:=Tryz.prog) (t:=3) (k:=.i64) (x:=(.tmp 15)) (y:=(.tmp 14)) (a:=x15) (b:=x14) (v:=false) (decide_eq_false g1)) (ad_81 c23)) (by kernel_rfl) ?_
    rcases ite_ h24 with ⟨g25,h26⟩ | ⟨g25,h26⟩
    ·subst g25
     obtain rfl:=Option.some.inj h26
     exact leafRet (hn:=hn110) 9 [] [] .ret (.inr rfl) (by kernel_rfl) True.intro (by kernel_rfl)
    ·obtain rfl:=Bool.eq_false_iff.2 g25
     obtain rfl:=Option.some.inj h26
     exact leafRet (hn:=hn110) 8 [.goT] [] .ret (.inr rfl) (by kernel_rfl) True.intro (by kernel_rfl))
theorem ad_110 {k:Nat} {a0:ByteArray} {r1:List (S64)} {r2:Bool} (h:spec_tiParse.f k a0 = some (r1,r2)):CallH Tryz.prog 110 [.val (.string a0)] [] (.tup [.sl (iS64 r1),vb r2]) []:=by
 unfold spec_tiParse.f at h
 refine call_ok (c:=bodyOf Tryz.f110) (rs:=o110 (r1,r2)) (post:=p110 (r1,r2)) Tryz.func110 rfl rfl rfl (by kernel_rfl) ?_
 show AtP Tryz.prog 59 (bodyOf Tryz.f110) (KR Tryz.prog Tryz.f110.results.toList (o110 (r1,r2)) (p110 (r1,r2))) [] [] (lookA [(0,.val (.string a0))])
 refine at_ (hn:=hn110) ?_
 refine mid (hn:=hn110) 5 1 [.goT] True.intro (by kernel_rfl) ?_
 rcases ite_ h with ⟨g1,h2⟩ | ⟨g1,h2⟩
 ·obtain ⟨rfl,rfl⟩:=pr2_ h2
  exact leafRet (hn:=hn110) 8 [.val (.bool true),.goT] [] .ret (.inr rfl) (by kernel_rfl) (str_eql_ (P:=Tryz.prog) (t:=9) (x:=(.tmp 7)) (y:=(.const (.string (⟨#[45]⟩ : ByteArray)))) (a:=a0) (b:=(⟨#[45]⟩ : ByteArray)) (l:=([45] : List UInt8)) (v:=true) (ByteArray.toList_eq _) (beq_iff_eq.2 g1)) (by kernel_rfl)
 ·refine mid (hn:=hn110) 7 2 [.val (.bool false)] (str_eql_ (P:=Tryz.prog) (t:=9) (x:=(.tmp 7)) (y:=(.const (.string (⟨#[45]⟩ : ByteArray)))) (a:=a0) (b:=(⟨#[45]⟩ : ByteArray)) (l:=([45] : List UInt8)) (v:=false) (ByteArray.toList_eq _) (beq_false_of_ne g1)) (by kernel_rfl) ?_
  rcases ite_ h2 with ⟨g3,h4⟩ | ⟨g3,h4⟩
  ·obtain ⟨rfl,rfl⟩:=pr2_ h4
   exact leafRet (hn:=hn110) 8 [.val (.bool true),.goT] [] .ret (.inr rfl) (by kernel_rfl) (int_gtr (P:=Tryz.prog) (t:=3) (k:=.i64) (x:=(.tmp 10)) (y:=(.const (.int .i64 165))) (a:=(a0.size:Int)) (b:=165) (v:=true) (decide_eq_true g3)) (by kernel_rfl)
  ·obtain ⟨t723,c5,h6⟩:=bd_ h4
   exact leafAt (hn:=hn110) 13 [.val (.bool false),.nil false 64,.call (.sl (iStr t723)),.val (.int .i64 (t723.length:Int))] [] (at110_l0 _ _ (q110_l0_mk h6)) (And.intro (int_gtr (P:=Tryz.prog) (t:=3) (k:=.i64) (x:=(.tmp 10)) (y:=(.const (.int .i64 165))) (a:=(a0.size:Int)) (b:=165) (v:=false) (decide_eq_false g3)) (And.intro (ad_134 c5) (iStr_len (xs:=t723)))) (by kernel_rfl)

def hn74:Hint:=⟨[(2,[105]),(8,[111,800801]),(66,[111,800801]),(67,[800801]),(68,[171]),(69,[172]),(70,[111,800801]),(82,[111,800801]),(83,[800801]),(89,[192]),(90,[193]),(91,[111,800801]),(92,[800801]),(96,[800801]),(102,[800801])],[]⟩
def o74 (r:(List (S64)) × List Int × Bool):List AV:=[.agg [.sl (iS64 r.1),.sl (iI .i64 r.2.1)],vb r.2.2]
def p74 (r:(List (S64)) × List Int × Bool):List (Nat × AV):=[]
def q74_l0 (r:(List (S64)) × List Int × Bool) (k:Nat) (L:List (Nat × AV)):Prop:=∃ (x0:ByteArray) (x4:Int) (x5:Int),L = [(0,.val (.string x0)),(2,.loc 105 0),(4,vi x4),(5,vi x5),(105,.box (.agg [.val (.slice none 0 0),.val (.slice none 0 0)]))] ∧ spec_pzParse.l0 k x0 x4 x5 = some r
theorem q74_l0_mk {r:(List (S64)) × List Int × Bool} {k:Nat} {x0:ByteArray} {x4:Int} {x5:Int} (h:spec_pzParse.l0 k x0 x4 x5 = some r):q74_l0 r k [(0,.val (.string x0)),(2,.loc 105 0),(4,vi x4),(5,vi x5),(105,.box (.agg [.val (.slice none 0 0),.val (.slice none 0 0)]))]:=⟨x0,x4,x5,rfl,h⟩
def q74_l1 (r:(List (S64)) × List Int × Bool) (k:Nat) (L:List (Nat × AV)):Prop:=∃ (x0:ByteArray) (x9:Int) (x737000:List (S64)) (x737001:List Int),L = [(0,.val (.string x0)),(2,.loc 105 0),(8,.loc 111 0),(9,vi x9),(105,.box (.agg [.val (.slice none 0 0),.val (.slice none 0 0)])),(111,.box (.agg [.sl (iS64 x737000),.row 800801])),(800801,.ow false 3 (iI .i64 x737001))] ∧ spec_pzParse.l1 k x0 x9 x737000 x737001 = some r
theorem q74_l1_mk {r:(List (S64)) × List Int × Bool} {k:Nat} {x0:ByteArray} {x9:Int} {x737000:List (S64)} {x737001:List Int} (h:spec_pzParse.l1 k x0 x9 x737000 x737001 = some r):q74_l1 r k [(0,.val (.string x0)),(2,.loc 105 0),(8,.loc 111 0),(9,vi x9),(105,.box (.agg [.val (.slice none 0 0),.val (.slice none 0 0)])),(111,.box (.agg [.sl (iS64 x737000),.row 800801])),(800801,.ow false 3 (iI .i64 x737001))]:=⟨x0,x9,x737000,x737001,rfl,h⟩
theorem at74_l1 {r:(List (S64)) × List Int × Bool}:∀ k L,q74_l1 r k L → AtP Tryz.prog 103 (bodyOf Tryz.f74) (KR Tryz.prog Tryz.f74.results.toList (o74 r) (p74 r)) [true,true,true,true,true,true,true,false,true,false] [] (lookA L) :=
 at_loop (by kernel_rfl) (fun _ => by kernel_rfl) (q74_l1 r) (by
  rintro k _ ⟨x0,x9,x737000,x737001,rfl,h⟩
  cases k with
  | zero => simp [spec_pzParse.l1] at h
  | succ k =>
   rw [spec_pzParse.l1] at h
   refine at_ (hn:=hn74) ?_
   rcases ite_ h with ⟨g1,h2⟩ | ⟨g1,h2⟩
   ·obtain ⟨g3,h4⟩:=ip_ h2
    refine mid (hn:=hn74) 11 3 [.val (.bool true),.val (.int .u8 (bt x0 x9))] (And.intro (int_lss (P:=Tryz.prog) (t:=3) (k:=.i64) (x:=(.tmp 54)) (y:=(.tmp 56)) (a:=x9) (b:=(x0.size:Int)) (v:=true) (decide_eq_true g1)) (idx_str (k:=.i64) (x:=x0) (i:=x9) Tryz.underlying9 g3 g1)) (by kernel_rfl) ?_
    rcases ite_ h4 with ⟨g5,h6⟩ | ⟨g5,h6⟩
    ·obtain ⟨g7,h8⟩:=ip_ h6
     exact leafBack (hn:=hn74) 8 [.val (.bool true),.go,.elem (.ow false 3 (iI .i64 (x737001 ++ ([-1])))),.val (.int .i64 (wrap64 (x9 + 1)))] [(800801,172)] (q74_l1_mk h8) (Nat.lt_succ_self k) (And.intro (int_eql (P:=Tryz.prog) (t:=5) (k:=.u8) (x:=(.tmp 64)) (y:=(.const (.int .u8 46))) (a:=(bt x0 x9)) (b:=46) (v:=true) (beq_iff_eq.2 g5)) (And.intro (iI_app (k:=.i64) (N:=17592186044416) (b:=8) (xs:=x737001) (ys:=[-1]) (by decide) (Nat.succ_le_of_lt g7)) (int_add (P:=Tryz.prog) (t:=3) (k:=.i64) (x:=(.tmp 58)) (y:=(.const (.int .i64 1))) (a:=x9) (b:=1) (c:=(wrap64 (x9 + 1))) (IntWalk.i64_left _)))) (by kernel_rfl)
    ·refine mid (hn:=hn74) 4 3 [.val (.bool false),.val (.int .u8 (bt x0 x9))] (And.intro (int_eql (P:=Tryz.prog) (t:=5) (k:=.u8) (x:=(.tmp 64)) (y:=(.const (.int .u8 46))) (a:=(bt x0 x9)) (b:=46) (v:=false) (beq_false_of_ne g5)) (idx_str (k:=.i64) (x:=x0) (i:=x9) Tryz.underlying9 g3 g1)) (by kernel_rfl) ?_
     rcases ite_ h6 with ⟨g9,h10⟩ | ⟨g9,h10⟩
     ·refine mid (hn:=hn74) 0 5 [.val (.bool true),.val (.int .u8 (bt x0 x9))] (And.intro (int_geq (P:=Tryz.prog) (t:=5) (k:=.u8) (x:=(.tmp 74)) (y:=(.const (.int .u8 48))) (a:=(bt x0 x9)) (b:=48) (v:=true) (decide_eq_true g9)) (idx_str (k:=.i64) (x:=x0) (i:=x9) Tryz.underlying9 g3 g1)) (by kernel_rfl) ?_
      rcases ite_ h10 with ⟨g11,h12⟩ | ⟨g11,h12⟩
      ·obtain ⟨g13,h14⟩:=ip_ h12
       exact leafBack (hn:=hn74) 8 [.val (.bool true),.val (.int .u8 (bt x0 x9)),.val (.int .u8 (((bt x0 x9) - 48) % 256)),.val (.int .i64 (((bt x0 x9) - 48) % 256)),.go,.elem (.ow false 3 (iI .i64 (x737001 ++ ([(((bt x0 x9) - 48) % 256)])))),.val (.int .i64 (wrap64 (x9 + 1)))] [(800801,193)] (q74_l1_mk h14) (Nat.lt_succ_self k) (And.intro (int_leq (P:=Tryz.prog) (t:=5) (k:=.u8) (x:=(.tmp 79)) (y:=(.const (.int .u8 57))) (a:=(bt x0 x9)) (b:=57) (v:=true) (decide_eq_true g11)) (And.intro (And.intro (idx_str (k:=.i64) (x:=x0) (i:=x9) Tryz.underlying9 g3 g1) (And.intro (int_sub (P:=Tryz.prog) (t:=5) (k:=.u8) (x:=(.tmp 86)) (y:=(.const (.int .u8 48))) (a:=(bt x0 x9)) (b:=48) (c:=(((bt x0 x9) - 48) % 256)) (wrap_u8 _)) (And.intro (conv_5_3_m (z:=((bt x0 x9) - 48))) (iI_app (k:=.i64) (N:=17592186044416) (b:=8) (xs:=x737001) (ys:=[(((bt x0 x9) - 48) % 256)]) (by decide) (Nat.succ_le_of_lt g13))))) (int_add (P:=Tryz.prog) (t:=3) (k:=.i64) (x:=(.tmp 58)) (y:=(.const (.int .i64 1))) (a:=x9) (b:=1) (c:=(wrap64 (x9 + 1))) (IntWalk.i64_left _)))) (by kernel_rfl)
      ·obtain rfl:=Option.some.inj h12
       exact leafRet (hn:=hn74) 13 [.val (.bool false),.go] [] .ret (.inr rfl) (by kernel_rfl) (int_leq (P:=Tryz.prog) (t:=5) (k:=.u8) (x:=(.tmp 79)) (y:=(.const (.int .u8 57))) (a:=(bt x0 x9)) (b:=57) (v:=false) (decide_eq_false g11)) (by kernel_rfl)
     ·obtain rfl:=Option.some.inj h10
      exact leafRet (hn:=hn74) 13 [.val (.bool false),.go] [] .ret (.inr rfl) (by kernel_rfl) (int_geq (P:=Tryz.prog) (t:=5) (k:=.u8) (x:=(.tmp 74)) (y:=(.const (.int .u8 48))) (a:=(bt x0 x9)) (b:=48) (v:=false) (decide_eq_false g9)) (by kernel_rfl)
   ·obtain ⟨t743,c15,h16⟩:=bd_ h2
    refine mid (hn:=hn74) 12 4 [.val (.bool false),.call (vb t743)] (And.intro (int_lss (P:=Tryz.prog) (t:=3) (k:=.i64) (x:=(.tmp 54)) (y:=(.tmp 56)) (a:=x9) (b:=(x0.size:Int)) (v:=false) (decide_eq_false g1)) (ad_40 c15)) (by kernel_rfl) ?_
    rcases ite_ h16 with ⟨g17,h18⟩ | ⟨g17,h18⟩
    ·subst g17
     obtain ⟨t744,c19,h20⟩:=bd_ h18
     refine mid (hn:=hn74) 0 3 [.call (.val (.string t744))] (ad_43 c19) (by kernel_rfl) ?_
     rcases ite_ h20 with ⟨g21,h22⟩ | ⟨g21,h22⟩
     ·obtain rfl:=Option.some.inj h22
      exact leafRet (hn:=hn74) 9 [.val (.bool false)] [] .ret (.inr rfl) (by kernel_rfl) (str_neq (P:=Tryz.prog) (t:=9) (x:=(.tmp 97)) (y:=(.tmp 98)) (a:=t744) (b:=x0) (v:=false) (by rw [(beq_iff_eq.2 g21)]; rfl)) (by kernel_rfl)
     ·obtain rfl:=Option.some.inj h22
      exact leafRet (hn:=hn74) 8 [.val (.bool true),.go] [] .ret (.inr rfl) (by kernel_rfl) (str_neq (P:=Tryz.prog) (t:=9) (x:=(.tmp 97)) (y:=(.tmp 98)) (a:=t744) (b:=x0) (v:=true) (by rw [(beq_false_of_ne g21)]; rfl)) (by kernel_rfl)
    ·obtain rfl:=Bool.eq_false_iff.2 g17
     obtain rfl:=Option.some.inj h18
     exact leafRet (hn:=hn74) 8 [.go] [] .ret (.inr rfl) (by kernel_rfl) True.intro (by kernel_rfl))
theorem at74_j2 {r:(List (S64)) × List Int × Bool} {k:Nat} {x0:ByteArray} {x4:Int} {x38:Bool} (h:spec_pzParse.j2 k x0 x4 x38 = some r):AtP Tryz.prog 103 (bodyOf Tryz.f74) (KR Tryz.prog Tryz.f74.results.toList (o74 r) (p74 r)) [true,true,true,false,true] [] (lookA [(0,.val (.string x0)),(2,.loc 105 0),(4,vi x4),(38,vb x38),(105,.box (.agg [.val (.slice none 0 0),.val (.slice none 0 0)]))]):=by
 cases k with
 | zero => simp [spec_pzParse.j2] at h
 | succ k =>
  rw [spec_pzParse.j2] at h
  refine at_ (hn:=hn74) ?_
  rcases ite_ h with ⟨g1,h2⟩ | ⟨g1,h2⟩
  ·subst g1
   obtain rfl:=Option.some.inj h2
   exact leafRet (hn:=hn74) 6 [.go] [] .ret (.inr rfl) (by kernel_rfl) True.intro (by kernel_rfl)
  ·obtain rfl:=Bool.eq_false_iff.2 g1
   obtain ⟨g3,h4⟩:=ip_ h2
   obtain ⟨g5,h6⟩:=ip_ h4
   obtain ⟨⟨bt732_1,bt732_2⟩,c7,h8⟩:=bd_ h6
   try dsimp only at h8
   refine mid (hn:=hn74) 8 1 [.val (.string (x0.extract 0 (x4:Int).toNat)),.call (.tup [.sl (iS64 bt732_1),vb bt732_2])] (And.intro (cut_str_h (k:=.i64) (x:=x0) (b:=x4) Tryz.underlying9 g3 g5) (ad_110 c7)) (by kernel_rfl) ?_
   rcases ite_ h8 with ⟨g9,h10⟩ | ⟨g9,h10⟩
   ·subst g9
    exact leafAt (hn:=hn74) 13 [.go,.val (.int .i64 (wrap64 (x4 + 1))),.nl 111 1 false 3 800801] [] (at74_l1 _ _ (q74_l1_mk h10)) (int_add (P:=Tryz.prog) (t:=3) (k:=.i64) (x:=(.tmp 52)) (y:=(.const (.int .i64 1))) (a:=x4) (b:=1) (c:=(wrap64 (x4 + 1))) (IntWalk.i64_left _)) (by kernel_rfl)
   ·obtain rfl:=Bool.eq_false_iff.2 g9
    obtain rfl:=Option.some.inj h10
    exact leafRet (hn:=hn74) 8 [.go] [] .ret (.inr rfl) (by kernel_rfl) True.intro (by kernel_rfl)
theorem at74_j1 {r:(List (S64)) × List Int × Bool} {K0:Nat} {k:Nat} {x0:ByteArray} {x4:Int} {x5:Int} {x21:Bool} (hk0:k < K0) (h:spec_pzParse.j1 k x0 x4 x5 x21 = some r):AtP Tryz.prog 103 (bodyOf Tryz.f74) (KR Tryz.prog Tryz.f74.results.toList (o74 r) (p74 r)) [true,true,false,true,false,false,false,true] [upto (q74_l0 r) K0] (lookA [(0,.val (.string x0)),(2,.loc 105 0),(4,vi x4),(5,vi x5),(21,vb x21),(105,.box (.agg [.val (.slice none 0 0),.val (.slice none 0 0)]))]):=by
 cases k with
 | zero => simp [spec_pzParse.j1] at h
 | succ k =>
  rw [spec_pzParse.j1] at h
  have hk0:=Nat.lt_of_succ_lt hk0
  refine at_ (hn:=hn74) ?_
  rcases ite_ h with ⟨g1,h2⟩ | ⟨g1,h2⟩
  ·subst g1
   obtain ⟨g3,h4⟩:=ip_ h2
   obtain ⟨g5,h6⟩:=ip_ h4
   refine mid (hn:=hn74) 6 3 [.val (.int .u8 (bt x0 x5))] (idx_str (k:=.i64) (x:=x0) (i:=x5) Tryz.underlying9 g3 g5) (by kernel_rfl) ?_
   rcases ite_ h6 with ⟨g7,h8⟩ | ⟨g7,h8⟩
   ·exact leafBack (hn:=hn74) 7 [.val (.bool true),.val (.int .i64 (wrap64 (x5 + 1)))] [] (q74_l0_mk h8) hk0 (And.intro (int_eql (P:=Tryz.prog) (t:=5) (k:=.u8) (x:=(.tmp 26)) (y:=(.const (.int .u8 58))) (a:=(bt x0 x5)) (b:=58) (v:=true) (beq_iff_eq.2 g7)) (int_add (P:=Tryz.prog) (t:=3) (k:=.i64) (x:=(.tmp 22)) (y:=(.const (.int .i64 1))) (a:=x5) (b:=1) (c:=(wrap64 (x5 + 1))) (IntWalk.i64_left _))) (by kernel_rfl)
   ·exact leafBack (hn:=hn74) 7 [.val (.bool false),.val (.int .i64 (wrap64 (x5 + 1)))] [] (q74_l0_mk h8) hk0 (And.intro (int_eql (P:=Tryz.prog) (t:=5) (k:=.u8) (x:=(.tmp 26)) (y:=(.const (.int .u8 58))) (a:=(bt x0 x5)) (b:=58) (v:=false) (beq_false_of_ne g7)) (int_add (P:=Tryz.prog) (t:=3) (k:=.i64) (x:=(.tmp 22)) (y:=(.const (.int .i64 1))) (a:=x5) (b:=1) (c:=(wrap64 (x5 + 1))) (IntWalk.i64_left _))) (by kernel_rfl)
  ·obtain rfl:=Bool.eq_false_iff.2 g1
   rcases ite_ h2 with ⟨g9,h10⟩ | ⟨g9,h10⟩
   ·exact leafAt (hn:=hn74) 10 [.val (.bool true)] [] (at74_j2 h10) (int_lss (P:=Tryz.prog) (t:=3) (k:=.i64) (x:=(.tmp 29)) (y:=(.const (.int .i64 0))) (a:=x4) (b:=0) (v:=true) (decide_eq_true g9)) (by kernel_rfl)
   ·exact leafAt (hn:=hn74) 10 [.val (.bool false),.val (.int .i64 (wrap64 ((x0.size:Int) - x4))),.val (.int .i64 (wrap64 ((wrap64 ((x0.size:Int) - x4)) - 1))),.val (.bool (decide ((wrap64 ((wrap64 ((x0.size:Int) - x4)) - 1)) > 10)))] [] (at74_j2 h10) (And.intro (int_lss (P:=Tryz.prog) (t:=3) (k:=.i64) (x:=(.tmp 29)) (y:=(.const (.int .i64 0))) (a:=x4) (b:=0) (v:=false) (decide_eq_false g9)) (And.intro (int_sub (P:=Tryz.prog) (t:=3) (k:=.i64) (x:=(.tmp 33)) (y:=(.tmp 34)) (a:=(x0.size:Int)) (b:=x4) (c:=(wrap64 ((x0.size:Int) - x4))) (IntWalk.i64_left _)) (And.intro (int_sub (P:=Tryz.prog) (t:=3) (k:=.i64) (x:=(.tmp 35)) (y:=(.const (.int .i64 1))) (a:=(wrap64 ((x0.size:Int) - x4))) (b:=1) (c:=(wrap64 ((wrap64 ((x0.size:Int) - x4)) - 1))) (IntWalk.i64_left _)) (int_gtr (P:=Tryz.prog) (t:=3) (k:=.i64) (x:=(.tmp 36)) (y:=(.const (.int .i64 10))) (a:=(wrap64 ((wrap64 ((x0.size:Int) - x4)) - 1))) (b:=10) (v:=(decide ((wrap64 ((wrap64 ((x0.size:Int) - x4)) - 1)) > 10))) rfl)))) (by kernel_rfl)
theorem at74_l0 {r:(List (S64)) × List Int × Bool}:∀ k L,q74_l0 r k L → AtP Tryz.prog 103 (bodyOf Tryz.f74) (KR Tryz.prog Tryz.f74.results.toList (o74 r) (p74 r)) [true,true,false,true,false] [] (lookA L) :=
 at_loop (by kernel_rfl) (fun _ => by kernel_rfl) (q74_l0 r) (by
  rintro k _ ⟨x0,x4,x5,rfl,h⟩
  cases k with
  | zero => simp [spec_pzParse.l0] at h
  | succ k =>
   rw [spec_pzParse.l0] at h
   refine at_ (hn:=hn74) ?_
   rcases ite_ h with ⟨g1,h2⟩ | ⟨g1,h2⟩
   ·refine mid (hn:=hn74) 2 6 [.val (.bool true)] (int_lss (P:=Tryz.prog) (t:=3) (k:=.i64) (x:=(.tmp 10)) (y:=(.tmp 12)) (a:=x5) (b:=(x0.size:Int)) (v:=true) (decide_eq_true g1)) (by kernel_rfl) ?_
    rcases ite_ h2 with ⟨g3,h4⟩ | ⟨g3,h4⟩
    ·exact leafAt (hn:=hn74) 2 [.val (.bool true),.val (.bool (decide (x4 < 0)))] [] (at74_j1 (Nat.lt_succ_self k) h4) (And.intro (int_leq (P:=Tryz.prog) (t:=3) (k:=.i64) (x:=(.tmp 15)) (y:=(.const (.int .i64 36))) (a:=x5) (b:=36) (v:=true) (decide_eq_true g3)) (int_lss (P:=Tryz.prog) (t:=3) (k:=.i64) (x:=(.tmp 19)) (y:=(.const (.int .i64 0))) (a:=x4) (b:=0) (v:=(decide (x4 < 0))) rfl)) (by kernel_rfl)
    ·exact leafAt (hn:=hn74) 2 [.val (.bool false)] [] (at74_j1 (Nat.lt_succ_self k) h4) (int_leq (P:=Tryz.prog) (t:=3) (k:=.i64) (x:=(.tmp 15)) (y:=(.const (.int .i64 36))) (a:=x5) (b:=36) (v:=false) (decide_eq_false g3)) (by kernel_rfl)
   ·exact leafAt (hn:=hn74) 4 [.val (.bool false)] [] (at74_j1 (Nat.lt_succ_self k) h2) (int_lss (P:=Tryz.prog) (t:=3) (k:=.i64) (x:=(.tmp 10)) (y:=(.tmp 12)) (a:=x5) (b:=(x0.size:Int)) (v:=false) (decide_eq_false g1)) (by kernel_rfl))
theorem ad_74 {k:Nat} {a0:ByteArray} {r1:List (S64)} {r2:List Int} {r3:Bool} (h:spec_pzParse.f k a0 = some (r1,r2,r3)):CallH Tryz.prog 74 [.val (.string a0)] [] (.tup [.agg [.sl (iS64 r1),.sl (iI .i64 r2)],vb r3]) []:=by
 unfold spec_pzParse.f at h
 refine call_ok (c:=bodyOf Tryz.f74) (rs:=o74 (r1,r2,r3)) (post:=p74 (r1,r2,r3)) Tryz.func74 rfl rfl rfl (by kernel_rfl) ?_
 show AtP Tryz.prog 103 (bodyOf Tryz.f74) (KR Tryz.prog Tryz.f74.results.toList (o74 (r1,r2,r3)) (p74 (r1,r2,r3))) [] [] (lookA [(0,.val (.string a0))])
 refine at_ (hn:=hn74) ?_
 exact leafAt (hn:=hn74) 11 [] [] (at74_l0 _ _ (q74_l0_mk h)) True.intro (by kernel_rfl)

def hn33:Hint:=⟨[(2,[10])],[]⟩
def o33 (r:(List (S64)) × List Int × Bool):List AV:=[.agg [.sl (iS64 r.1),.sl (iI .i64 r.2.1)],vb r.2.2]
def p33 (r:(List (S64)) × List Int × Bool):List (Nat × AV):=[]
theorem ad_33 {k:Nat} {a0:ByteArray} {r1:List (S64)} {r2:List Int} {r3:Bool} (h:spec_ParsePuzzle.f k a0 = some (r1,r2,r3)):CallH Tryz.prog 33 [.val (.string a0)] [] (.tup [.agg [.sl (iS64 r1),.sl (iI .i64 r2)],vb r3]) []:=by
 unfold spec_ParsePuzzle.f at h
 refine call_ok (c:=bodyOf Tryz.f33) (rs:=o33 (r1,r2,r3)) (post:=p33 (r1,r2,r3)) Tryz.func33 rfl rfl rfl (by kernel_rfl) ?_
 show AtP Tryz.prog 8 (bodyOf Tryz.f33) (KR Tryz.prog Tryz.f33.results.toList (o33 (r1,r2,r3)) (p33 (r1,r2,r3))) [] [] (lookA [(0,.val (.string a0))])
 refine at_ (hn:=hn33) ?_
 obtain ⟨⟨bt746_1,bt746_2,bt746_3⟩,c1,h2⟩:=bd_ h
 try dsimp only at h2
 obtain ⟨rfl,rfl,rfl⟩:=pr3_ h2
 exact leafRet (hn:=hn33) 7 [.call (.tup [.agg [.sl (iS64 bt746_1),.sl (iI .i64 bt746_2)],vb bt746_3])] [] .ret (.inr rfl) (by kernel_rfl) (ad_74 c1) (by kernel_rfl)

def g30_spec_DrawIsSolution.f (k:Nat) (l0:List Int):Option (List (S64) × List Int × List Int):=(spec_l1Cur_puzzle.f k l0 0 0).bind fun b1 => ((spec_pzGood.f k b1.1 b1.2.1).bind fun b2 => (if b2 = true then ((spec_l1Cur_one.f l0 b1.2.2.1 b1.2.2.2 3).bind fun b3 => (if b3.1 = true then ((spec_l1Cur_sureChain.f k l0 b3.2.1 b3.2.2 7 4).bind fun b4 => (some (b1.1,b1.2.1,b4.1))) else ((spec_pzAll.f k b1.1 b1.2.1).bind fun b5 => (if b5.2 = true then (if (b5.1.length:Int) > 0 then ((spec_l1Cur_pick.f l0 b3.2.1 b3.2.2 (b5.1.length:Int)).bind fun b6 => (if 0 ≤ b6.1 then (if b6.1 < (b5.1.length:Int) then (some (b1.1,b1.2.1,(rd_L4 b5.1 b6.1))) else (none)) else (none))) else ((spec_l1Cur_sureChain.f k l0 b3.2.1 b3.2.2 7 4).bind fun b7 => (some (b1.1,b1.2.1,b7.1)))) else ((spec_l1Cur_sureChain.f k l0 b3.2.1 b3.2.2 7 4).bind fun b8 => (some (b1.1,b1.2.1,b8.1))))))) else ((spec_l1Cur_sureChain.f k l0 b1.2.2.1 b1.2.2.2 7 4).bind fun b9 => (some (b1.1,b1.2.1,b9.1)))))

def hn30:Hint:=⟨[(2,[44]),(5,[47]),(11,[52]),(16,[52]),(33,[52]),(40,[52])],[]⟩
def o30 (r:List (S64) × List Int × List Int):List AV:=[.agg [.sl (iS64 r.1),.sl (iI .i64 r.2.1)],.sl (iI .i64 r.2.2)]
def p30 (r:List (S64) × List Int × List Int):List (Nat × AV):=[]
theorem ad_30 {k:Nat} {l0:List Int} {r1:List (S64)} {r2:List Int} {r3:List Int} (h:g30_spec_DrawIsSolution.f k l0 = some (r1,r2,r3)):CallH Tryz.prog 30 [.sl (iI .u8 l0)] [] (.tup [.agg [.sl (iS64 r1),.sl (iI .i64 r2)],.sl (iI .i64 r3)]) []:=by
 unfold g30_spec_DrawIsSolution.f at h
 refine call_ok (c:=bodyOf Tryz.f30) (rs:=o30 (r1,r2,r3)) (post:=p30 (r1,r2,r3)) Tryz.func30 rfl rfl rfl (by kernel_rfl) ?_
 show AtP Tryz.prog 42 (bodyOf Tryz.f30) (KR Tryz.prog Tryz.f30.results.toList (o30 (r1,r2,r3)) (p30 (r1,r2,r3))) [] [] (lookA [(0,.sl (iI .u8 l0))])
 refine at_ (hn:=hn30) ?_
 obtain ⟨⟨b1_1,b1_2,b1_3,b1_4⟩,c1,h2⟩:=bd_ h
 try dsimp only at h2
 obtain ⟨b2,c3,h4⟩:=bd_ h2
 refine mid (hn:=hn30) 11 3 [.goT,.go,.callH [52] (.agg [.sl (iS64 b1_1),.sl (iI .i64 b1_2)]) [(52,.box (.agg [.sl (iI .u8 l0),vi b1_3,.val (.int .u64 b1_4)]))],.call (vb b2)] (And.intro (CallH.ren [(1000000,52)] rfl rfl (ad_63 c1)) (ad_40 c3)) (by kernel_rfl) ?_
 rcases ite_ h4 with ⟨g5,h6⟩ | ⟨g5,h6⟩
 ·subst g5
  obtain ⟨⟨b3_1,b3_2,b3_3⟩,c7,h8⟩:=bd_ h6
  try dsimp only at h8
  refine mid (hn:=hn30) 0 3 [.callH [52] (vb b3_1) [(52,.box (.agg [.sl (iI .u8 l0),vi b3_2,.val (.int .u64 b3_3)]))]] (CallH.ren [(1000000,52)] rfl rfl (ad_64 c7)) (by kernel_rfl) ?_
  rcases ite_ h8 with ⟨g9,h10⟩ | ⟨g9,h10⟩
  ·subst g9
   obtain ⟨⟨b4_1,b4_2,b4_3⟩,c11,h12⟩:=bd_ h10
   try dsimp only at h12
   obtain ⟨rfl,rfl,rfl⟩:=pr3_ h12
   exact leafRet (hn:=hn30) 9 [.callH [52] (.sl (iI .i64 b4_1)) [(52,.box (.agg [.sl (iI .u8 l0),vi b4_2,.val (.int .u64 b4_3)]))]] [] .ret (.inr rfl) (by kernel_rfl) (CallH.ren [(1000000,52)] rfl rfl (ad_67 c11)) (by kernel_rfl)
  ·obtain rfl:=Bool.eq_false_iff.2 g9
   obtain ⟨⟨b5_1,b5_2⟩,c13,h14⟩:=bd_ h10
   try dsimp only at h14
   refine mid (hn:=hn30) 7 2 [.call (.tup [.sl (iL (iI .i64) b5_1),vb b5_2])] (ad_65 c13) (by kernel_rfl) ?_
   rcases ite_ h14 with ⟨g15,h16⟩ | ⟨g15,h16⟩
   ·subst g15
    refine mid (hn:=hn30) 0 2 [.val (.int .i64 (b5_1.length:Int))] (iL_len (f:=(iI .i64)) (xs:=b5_1)) (by kernel_rfl) ?_
    rcases ite_ h16 with ⟨g17,h18⟩ | ⟨g17,h18⟩
    ·obtain ⟨⟨b6_1,b6_2,b6_3⟩,c19,h20⟩:=bd_ h18
     try dsimp only at h20
     obtain ⟨g21,h22⟩:=ip_ h20
     obtain ⟨g23,h24⟩:=ip_ h22
     obtain ⟨rfl,rfl,rfl⟩:=pr3_ h24
     exact leafRet (hn:=hn30) 8 [.val (.bool true),.val (.int .i64 (b5_1.length:Int)),.callH [52] (vi b6_1) [(52,.box (.agg [.sl (iI .u8 l0),vi b6_2,.val (.int .u64 b6_3)]))],.elem (.sl (iI .i64 (rd_L4 b5_1 b6_1)))] [] .ret (.inr rfl) (by kernel_rfl) (And.intro (int_gtr (P:=Tryz.prog) (t:=3) (k:=.i64) (x:=(.tmp 28)) (y:=(.const (.int .i64 0))) (a:=(b5_1.length:Int)) (b:=0) (v:=true) (decide_eq_true g17)) (And.intro (iL_len (f:=(iI .i64)) (xs:=b5_1)) (And.intro (CallH.ren [(1000000,52)] rfl rfl (ad_66 c19)) (iL_rd (f:=(iI .i64)) (xs:=b5_1) (i:=b6_1) g21 g23)))) (by kernel_rfl)
    ·obtain ⟨⟨b7_1,b7_2,b7_3⟩,c25,h26⟩:=bd_ h18
     try dsimp only at h26
     obtain ⟨rfl,rfl,rfl⟩:=pr3_ h26
     exact leafRet (hn:=hn30) 9 [.val (.bool false),.callH [52] (.sl (iI .i64 b7_1)) [(52,.box (.agg [.sl (iI .u8 l0),vi b7_2,.val (.int .u64 b7_3)]))]] [] .ret (.inr rfl) (by kernel_rfl) (And.intro (int_gtr (P:=Tryz.prog) (t:=3) (k:=.i64) (x:=(.tmp 28)) (y:=(.const (.int .i64 0))) (a:=(b5_1.length:Int)) (b:=0) (v:=false) (decide_eq_false g17)) (CallH.ren [(1000000,52)] rfl rfl (ad_67 c25))) (by kernel_rfl)
   ·obtain rfl:=Bool.eq_false_iff.2 g15
    obtain ⟨⟨b8_1,b8_2,b8_3⟩,c27,h28⟩:=bd_ h16
    try dsimp only at h28
    obtain ⟨rfl,rfl,rfl⟩:=pr3_ h28
    exact leafRet (hn:=hn30) 9 [.callH [52] (.sl (iI .i64 b8_1)) [(52,.box (.agg [.sl (iI .u8 l0),vi b8_2,.val (.int .u64 b8_3)]))]] [] .ret (.inr rfl) (by kernel_rfl) (CallH.ren [(1000000,52)] rfl rfl (ad_67 c27)) (by kernel_rfl)
 ·obtain rfl:=Bool.eq_false_iff.2 g5
  obtain ⟨⟨b9_1,b9_2,b9_3⟩,c29,h30⟩:=bd_ h6
  try dsimp only at h30
  obtain ⟨rfl,rfl,rfl⟩:=pr3_ h30
  exact leafRet (hn:=hn30) 9 [.callH [52] (.sl (iI .i64 b9_1)) [(52,.box (.agg [.sl (iI .u8 l0),vi b9_2,.val (.int .u64 b9_3)]))]] [] .ret (.inr rfl) (by kernel_rfl) (CallH.ren [(1000000,52)] rfl rfl (ad_67 c29)) (by kernel_rfl)

mutual
def laws_FnPuzzlesFilled.j0:Nat → List Int → List (S64) → List Int → List (List Int) → Bool → Int → List Int → Bool → List Int → Bool → Int → Int → Bool → ByteArray → Bool → Bool → Option (Bool)
  | 0,_,_,_,_,_,_,_,_,_,_,_,_,_,_,_,_ => none
  | k + 1,x1,y0,y1,x6,x7,x10,x14,x15,x18,x19,x22,x23,x24,x32,x33,x272 => if x272 = true then (none) else (laws_FnPuzzlesFilled.j1 k x1 y0 y1 x6 x7 x10 x14 x15 x18 x19 x22 x23 x24 x32 x33)
def laws_FnPuzzlesFilled.j1:Nat → List Int → List (S64) → List Int → List (List Int) → Bool → Int → List Int → Bool → List Int → Bool → Int → Int → Bool → ByteArray → Bool → Option (Bool)
  | 0,_,_,_,_,_,_,_,_,_,_,_,_,_,_,_ => none
  | k + 1,x1,y0,y1,x6,x7,x10,x14,x15,x18,x19,x22,x23,x24,x32,x33 => if x7 = true then (if (x6.length:Int) = x10 then (if x15 = true then (if 0 < (x6.length:Int) then ((laws_iSame.f k x14 (rd_L4 x6 0)).bind fun b23 => (if b23 = true then (laws_FnPuzzlesFilled.l0 k x1 y0 y1 x6 x10 x18 x19 x22 x23 x24 x32 x33 x6 (x6.length:Int) 0) else (none))) else (none)) else (laws_FnPuzzlesFilled.l0 k x1 y0 y1 x6 x10 x18 x19 x22 x23 x24 x32 x33 x6 (x6.length:Int) 0)) else (none)) else (laws_FnPuzzlesFilled.j4 k x1 y0 y1 x10 x18 x22 x23 x24 x32 x33)
def laws_FnPuzzlesFilled.l0:Nat → List Int → List (S64) → List Int → List (List Int) → Int → List Int → Bool → Int → Int → Bool → ByteArray → Bool → List (List Int) → Int → Int → Option (Bool)
  | 0,_,_,_,_,_,_,_,_,_,_,_,_,_,_,_ => none
  | k + 1,x1,y0,y1,x6,x10,x18,x19,x22,x23,x24,x32,x33,x289,x290,x291 => if x291 < x290 then (if 0 ≤ x291 then (if x291 < (x289.length:Int) then ((impl_IsSolution.f k y0 y1 (rd_L4 x289 x291)).bind fun b24 => (if b24.2 = true then (if b24.1 = true then (if x291 > 0 then (if 0 ≤ (wrap64 (x291 - 1)) then (if (wrap64 (x291 - 1)) < (x6.length:Int) then ((laws_iLess.f k (rd_L4 x6 (wrap64 (x291 - 1))) (rd_L4 x289 x291)).bind fun b25 => (if b25 = true then (laws_FnPuzzlesFilled.l1 k x1 y0 y1 x6 x10 x18 x19 x22 x23 x24 x32 x33 x289 x290 x291 (rd_L4 x289 x291) ((rd_L4 x289 x291).length:Int) 0) else (none))) else (none)) else (none)) else (laws_FnPuzzlesFilled.l1 k x1 y0 y1 x6 x10 x18 x19 x22 x23 x24 x32 x33 x289 x290 x291 (rd_L4 x289 x291) ((rd_L4 x289 x291).length:Int) 0)) else (none)) else (none))) else (none)) else (none)) else (laws_FnPuzzlesFilled.l2 k x1 y0 y1 x6 x10 x18 x19 x22 x23 x24 x32 x33 (y1.length:Int) 0)
def laws_FnPuzzlesFilled.l1:Nat → List Int → List (S64) → List Int → List (List Int) → Int → List Int → Bool → Int → Int → Bool → ByteArray → Bool → List (List Int) → Int → Int → List Int → Int → Int → Option (Bool)
  | 0,_,_,_,_,_,_,_,_,_,_,_,_,_,_,_,_,_,_ => none
  | k + 1,x1,y0,y1,x6,x10,x18,x19,x22,x23,x24,x32,x33,x289,x290,x291,x322,x323,x324 => if x324 < x323 then (if 0 ≤ x324 then (if x324 < (x322.length:Int) then (if x324 < (y1.length:Int) then (if (rd y1 x324) ≥ 0 then (if (rd y1 x324) = (rd x322 x324) then (if x324 < (x18.length:Int) then (if (rd x18 x324) ≥ 0 then (laws_FnPuzzlesFilled.j2 k x1 y0 y1 x6 x10 x18 x19 x22 x23 x24 x32 x33 x289 x290 x291 x322 x323 x324 (!((rd x18 x324) == (rd x322 x324)))) else (laws_FnPuzzlesFilled.j2 k x1 y0 y1 x6 x10 x18 x19 x22 x23 x24 x32 x33 x289 x290 x291 x322 x323 x324 false)) else (none)) else (laws_FnPuzzlesFilled.j2 k x1 y0 y1 x6 x10 x18 x19 x22 x23 x24 x32 x33 x289 x290 x291 x322 x323 x324 true)) else (if x324 < (x18.length:Int) then (if (rd x18 x324) ≥ 0 then (laws_FnPuzzlesFilled.j2 k x1 y0 y1 x6 x10 x18 x19 x22 x23 x24 x32 x33 x289 x290 x291 x322 x323 x324 (!((rd x18 x324) == (rd x322 x324)))) else (laws_FnPuzzlesFilled.j2 k x1 y0 y1 x6 x10 x18 x19 x22 x23 x24 x32 x33 x289 x290 x291 x322 x323 x324 false)) else (none))) else (none)) else (none)) else (none)) else (laws_FnPuzzlesFilled.l0 k x1 y0 y1 x6 x10 x18 x19 x22 x23 x24 x32 x33 x289 x290 (wrap64 (x291 + 1)))
def laws_FnPuzzlesFilled.j2:Nat → List Int → List (S64) → List Int → List (List Int) → Int → List Int → Bool → Int → Int → Bool → ByteArray → Bool → List (List Int) → Int → Int → List Int → Int → Int → Bool → Option (Bool)
  | 0,_,_,_,_,_,_,_,_,_,_,_,_,_,_,_,_,_,_,_ => none
  | k + 1,x1,y0,y1,x6,x10,x18,x19,x22,x23,x24,x32,x33,x289,x290,x291,x322,x323,x324,x358 => if x358 = true then (none) else (laws_FnPuzzlesFilled.j3 k x1 y0 y1 x6 x10 x18 x19 x22 x23 x24 x32 x33 x289 x290 x291 x322 x323 x324)
def laws_FnPuzzlesFilled.j3:Nat → List Int → List (S64) → List Int → List (List Int) → Int → List Int → Bool → Int → Int → Bool → ByteArray → Bool → List (List Int) → Int → Int → List Int → Int → Int → Option (Bool)
  | 0,_,_,_,_,_,_,_,_,_,_,_,_,_,_,_,_,_,_ => none
  | k + 1,x1,y0,y1,x6,x10,x18,x19,x22,x23,x24,x32,x33,x289,x290,x291,x322,x323,x324 => laws_FnPuzzlesFilled.l1 k x1 y0 y1 x6 x10 x18 x19 x22 x23 x24 x32 x33 x289 x290 x291 x322 x323 (wrap64 (x324 + 1))
def laws_FnPuzzlesFilled.l2:Nat → List Int → List (S64) → List Int → List (List Int) → Int → List Int → Bool → Int → Int → Bool → ByteArray → Bool → Int → Int → Option (Bool)
  | 0,_,_,_,_,_,_,_,_,_,_,_,_,_,_ => none
  | k + 1,x1,y0,y1,x6,x10,x18,x19,x22,x23,x24,x32,x33,x363,x364 => if x364 < x363 then (if x19 = true then (laws_FnPuzzlesFilled.l3 k x1 y0 y1 x6 x10 x18 x22 x23 x24 x32 x33 x364 false x363 x364 x6 (x6.length:Int) 0) else ((impl_TurnPuzzle.f k y0 y1).bind fun b26 => ((impl_CountSolutions.f k b26.1 b26.2.1).bind fun b27 => (if b26.2.2 = true then (if b27.2 = true then (if b27.1 = x10 then (laws_FnPuzzlesFilled.j4 k x1 y0 y1 x10 x18 x22 x23 x24 x32 x33) else (none)) else (none)) else (none))))) else ((impl_TurnPuzzle.f k y0 y1).bind fun b40 => ((impl_CountSolutions.f k b40.1 b40.2.1).bind fun b41 => (if b40.2.2 = true then (if b41.2 = true then (if b41.1 = x10 then (laws_FnPuzzlesFilled.j4 k x1 y0 y1 x10 x18 x22 x23 x24 x32 x33) else (none)) else (none)) else (none))))
def laws_FnPuzzlesFilled.l3:Nat → List Int → List (S64) → List Int → List (List Int) → Int → List Int → Int → Int → Bool → ByteArray → Bool → Int → Bool → Int → Int → List (List Int) → Int → Int → Option (Bool)
  | 0,_,_,_,_,_,_,_,_,_,_,_,_,_,_,_,_,_,_ => none
  | k + 1,x1,y0,y1,x6,x10,x18,x22,x23,x24,x32,x33,x42,x43,x363,x364,x369,x370,x371 => if x371 < x370 then (if 0 ≤ x371 then (if x371 < (x369.length:Int) then (if x43 = true then (laws_FnPuzzlesFilled.l3 k x1 y0 y1 x6 x10 x18 x22 x23 x24 x32 x33 x42 true x363 x364 x369 x370 (wrap64 (x371 + 1))) else (if 0 ≤ x42 then (if x42 < ((rd_L4 x369 x371).length:Int) then (if 0 < (x6.length:Int) then (if x42 < ((rd_L4 x6 0).length:Int) then (laws_FnPuzzlesFilled.l3 k x1 y0 y1 x6 x10 x18 x22 x23 x24 x32 x33 x42 (!((rd (rd_L4 x369 x371) x42) == (rd (rd_L4 x6 0) x42))) x363 x364 x369 x370 (wrap64 (x371 + 1))) else (none)) else (none)) else (none)) else (none))) else (none)) else (none)) else (if 0 ≤ x42 then (if x42 < (x18.length:Int) then (if x43 = (decide ((rd x18 x42) < 0)) then (laws_FnPuzzlesFilled.l2 k x1 y0 y1 x6 x10 x18 true x22 x23 x24 x32 x33 x363 (wrap64 (x364 + 1))) else (none)) else (none)) else (none))
def laws_FnPuzzlesFilled.j4:Nat → List Int → List (S64) → List Int → Int → List Int → Int → Int → Bool → ByteArray → Bool → Option (Bool)
  | 0,_,_,_,_,_,_,_,_,_,_ => none
  | k + 1,x1,y0,y1,x10,x18,x22,x23,x24,x32,x33 => if x24 = true then ((impl_FillGap.f k y0 y1 x22 x23).bind fun b28 => ((impl_CountSolutions.f k b28.1 b28.2.1).bind fun b29 => (if 0 ≤ x22 then (if x22 < (y1.length:Int) then (if (rd y1 x22) ≥ 0 then (none) else (if x22 < (x18.length:Int) then (if (rd x18 x22) = x23 then (if b28.2.2 = true then (if b29.2 = true then (if b29.1 = x10 then (laws_FnPuzzlesFilled.j5 k x1 y0 y1 x32 x33) else (none)) else (none)) else (none)) else (none)) else (none))) else (none)) else (none)))) else (laws_FnPuzzlesFilled.j5 k x1 y0 y1 x32 x33)
def laws_FnPuzzlesFilled.j5:Nat → List Int → List (S64) → List Int → ByteArray → Bool → Option (Bool)
  | 0,_,_,_,_,_ => none
  | k + 1,x1,y0,y1,x32,x33 => if x33 = true then ((impl_ParsePuzzle.f k x32).bind fun b30 => (if b30.2.2 = true then ((laws_iPuzzle.f k b30.1 b30.2.1 y0 y1).bind fun b31 => (if b31 = true then (laws_FnPuzzlesFilled.j6 k x1) else (none))) else (none))) else (laws_FnPuzzlesFilled.j6 k x1)
def laws_FnPuzzlesFilled.j6:Nat → List Int → Option (Bool)
  | 0,_ => none
  | k + 1,x1 => (g30_spec_DrawIsSolution.f k x1).bind fun b32 => ((impl_IsSolution.f k b32.1 b32.2.1 b32.2.2).bind fun b33 => ((spec_IsSolution.f k b32.1 b32.2.1 b32.2.2).bind fun b34 => ((spec_DrawParsePuzzle.f k x1).bind fun b35 => ((impl_ParsePuzzle.f k b35).bind fun b36 => ((spec_ParsePuzzle.f k b35).bind fun b37 => (if b33.2 = b34.2 then (if b33.1 = b34.1 then (if b36.2.2 = b37.2.2 then ((laws_iPuzzle.f k b36.1 b36.2.1 b37.1 b37.2.1).bind fun b38 => (if b38 = true then (if b36.2.2 = true then ((impl_PuzzleText.f k b36.1 b36.2.1).bind fun b39 => (if b39.2 = true then (some ((b39.1.toList == b35.toList))) else (none))) else (some (true))) else (none))) else (none)) else (none)) else (none)))))))
end
def laws_FnPuzzlesFilled.f (k:Nat) (l0:List Int) (l1:List Int):Option (Bool):=(laws_big.f l0 l1).bind fun b1 => (if b1 = true then (some (true)) else ((spec_DrawSolutions.f k l0).bind fun b2 => ((impl_Solutions.f k b2.1 b2.2).bind fun b3 => ((spec_Solutions.f k b2.1 b2.2).bind fun b4 => ((impl_CountSolutions.f k b2.1 b2.2).bind fun b5 => ((spec_CountSolutions.f k b2.1 b2.2).bind fun b6 => ((impl_FirstSolution.f k b2.1 b2.2).bind fun b7 => ((spec_FirstSolution.f k b2.1 b2.2).bind fun b8 => ((impl_SureNumbers.f k b2.1 b2.2).bind fun b9 => ((spec_SureNumbers.f k b2.1 b2.2).bind fun b10 => ((impl_HintOf.f k b2.1 b2.2).bind fun b11 => ((spec_HintOf.f k b2.1 b2.2).bind fun b12 => ((impl_CountGaps.f k b2.1 b2.2).bind fun b13 => ((spec_CountGaps.f k b2.1 b2.2).bind fun b14 => ((impl_PuzzleText.f k b2.1 b2.2).bind fun b15 => ((spec_PuzzleText.f k b2.1 b2.2).bind fun b16 => (if b3.2 = b4.2 then ((laws_iRows.f k b3.1 b4.1).bind fun b17 => (if b17 = true then (if b5.2 = b6.2 then (if b5.1 = b6.1 then (if b7.2 = b8.2 then ((laws_iSame.f k b7.1 b8.1).bind fun b18 => (if b18 = true then (if b9.2 = b10.2 then ((laws_iSame.f k b9.1 b10.1).bind fun b19 => (if b19 = true then (if b11.2.2 = b12.2.2 then (if b11.1 = b12.1 then (if b11.2.1 = b12.2.1 then (if b13.2 = b14.2 then (if b13.1 = b14.1 then (if b15.2 = b16.2 then (if b15.1.toList = b16.1.toList then (if b5.2 = b3.2 then (if b3.2 = true then (if b7.2 = (decide (b5.1 > 0)) then (if b9.2 = b7.2 then (if b11.2.2 = true then (if b9.2 = true then ((impl_IsPuzzle.f k b2.1 b2.2).bind fun b20 => (if b13.2 = b20 then ((impl_IsPuzzle.f k b2.1 b2.2).bind fun b21 => ((spec_IsPuzzle.f k b2.1 b2.2).bind fun b22 => (if b21 = b22 then (if b15.2 = b13.2 then (laws_FnPuzzlesFilled.j0 k l1 b2.1 b2.2 b3.1 true b5.1 b7.1 b7.2 b9.1 true b11.1 b11.2.1 true b15.1 b15.2 (!b13.2)) else (laws_FnPuzzlesFilled.j0 k l1 b2.1 b2.2 b3.1 true b5.1 b7.1 b7.2 b9.1 true b11.1 b11.2.1 true b15.1 b15.2 true)) else (laws_FnPuzzlesFilled.j0 k l1 b2.1 b2.2 b3.1 true b5.1 b7.1 b7.2 b9.1 true b11.1 b11.2.1 true b15.1 b15.2 true)))) else (laws_FnPuzzlesFilled.j0 k l1 b2.1 b2.2 b3.1 true b5.1 b7.1 b7.2 b9.1 true b11.1 b11.2.1 true b15.1 b15.2 true))) else (laws_FnPuzzlesFilled.j0 k l1 b2.1 b2.2 b3.1 true b5.1 b7.1 b7.2 b9.1 false b11.1 b11.2.1 true b15.1 b15.2 true)) else ((impl_IsPuzzle.f k b2.1 b2.2).bind fun b42 => (if b13.2 = b42 then ((impl_IsPuzzle.f k b2.1 b2.2).bind fun b43 => ((spec_IsPuzzle.f k b2.1 b2.2).bind fun b44 => (if b43 = b44 then (if b15.2 = b13.2 then (laws_FnPuzzlesFilled.j0 k l1 b2.1 b2.2 b3.1 true b5.1 b7.1 b7.2 b9.1 b9.2 b11.1 b11.2.1 false b15.1 b15.2 (!b13.2)) else (laws_FnPuzzlesFilled.j0 k l1 b2.1 b2.2 b3.1 true b5.1 b7.1 b7.2 b9.1 b9.2 b11.1 b11.2.1 false b15.1 b15.2 true)) else (laws_FnPuzzlesFilled.j0 k l1 b2.1 b2.2 b3.1 true b5.1 b7.1 b7.2 b9.1 b9.2 b11.1 b11.2.1 false b15.1 b15.2 true)))) else (laws_FnPuzzlesFilled.j0 k l1 b2.1 b2.2 b3.1 true b5.1 b7.1 b7.2 b9.1 b9.2 b11.1 b11.2.1 false b15.1 b15.2 true)))) else (laws_FnPuzzlesFilled.j0 k l1 b2.1 b2.2 b3.1 true b5.1 b7.1 b7.2 b9.1 b9.2 b11.1 b11.2.1 b11.2.2 b15.1 b15.2 true)) else (laws_FnPuzzlesFilled.j0 k l1 b2.1 b2.2 b3.1 true b5.1 b7.1 b7.2 b9.1 b9.2 b11.1 b11.2.1 b11.2.2 b15.1 b15.2 true)) else (if b7.2 = false then (if b9.2 = b7.2 then (if b11.2.2 = true then (if b9.2 = true then ((impl_IsPuzzle.f k b2.1 b2.2).bind fun b45 => (if b13.2 = b45 then ((impl_IsPuzzle.f k b2.1 b2.2).bind fun b46 => ((spec_IsPuzzle.f k b2.1 b2.2).bind fun b47 => (if b46 = b47 then (if b15.2 = b13.2 then (laws_FnPuzzlesFilled.j0 k l1 b2.1 b2.2 b3.1 false b5.1 b7.1 b7.2 b9.1 true b11.1 b11.2.1 true b15.1 b15.2 false) else (laws_FnPuzzlesFilled.j0 k l1 b2.1 b2.2 b3.1 false b5.1 b7.1 b7.2 b9.1 true b11.1 b11.2.1 true b15.1 b15.2 true)) else (laws_FnPuzzlesFilled.j0 k l1 b2.1 b2.2 b3.1 false b5.1 b7.1 b7.2 b9.1 true b11.1 b11.2.1 true b15.1 b15.2 true)))) else (laws_FnPuzzlesFilled.j0 k l1 b2.1 b2.2 b3.1 false b5.1 b7.1 b7.2 b9.1 true b11.1 b11.2.1 true b15.1 b15.2 true))) else (laws_FnPuzzlesFilled.j0 k l1 b2.1 b2.2 b3.1 false b5.1 b7.1 b7.2 b9.1 false b11.1 b11.2.1 true b15.1 b15.2 true)) else ((impl_IsPuzzle.f k b2.1 b2.2).bind fun b48 => (if b13.2 = b48 then ((impl_IsPuzzle.f k b2.1 b2.2).bind fun b49 => ((spec_IsPuzzle.f k b2.1 b2.2).bind fun b50 => (if b49 = b50 then (if b15.2 = b13.2 then (laws_FnPuzzlesFilled.j0 k l1 b2.1 b2.2 b3.1 false b5.1 b7.1 b7.2 b9.1 b9.2 b11.1 b11.2.1 false b15.1 b15.2 false) else (laws_FnPuzzlesFilled.j0 k l1 b2.1 b2.2 b3.1 false b5.1 b7.1 b7.2 b9.1 b9.2 b11.1 b11.2.1 false b15.1 b15.2 true)) else (laws_FnPuzzlesFilled.j0 k l1 b2.1 b2.2 b3.1 false b5.1 b7.1 b7.2 b9.1 b9.2 b11.1 b11.2.1 false b15.1 b15.2 true)))) else (laws_FnPuzzlesFilled.j0 k l1 b2.1 b2.2 b3.1 false b5.1 b7.1 b7.2 b9.1 b9.2 b11.1 b11.2.1 false b15.1 b15.2 true)))) else (laws_FnPuzzlesFilled.j0 k l1 b2.1 b2.2 b3.1 false b5.1 b7.1 b7.2 b9.1 b9.2 b11.1 b11.2.1 b11.2.2 b15.1 b15.2 true)) else (laws_FnPuzzlesFilled.j0 k l1 b2.1 b2.2 b3.1 false b5.1 b7.1 b7.2 b9.1 b9.2 b11.1 b11.2.1 b11.2.2 b15.1 b15.2 true))) else (laws_FnPuzzlesFilled.j0 k l1 b2.1 b2.2 b3.1 b3.2 b5.1 b7.1 b7.2 b9.1 b9.2 b11.1 b11.2.1 b11.2.2 b15.1 b15.2 true)) else (laws_FnPuzzlesFilled.j0 k l1 b2.1 b2.2 b3.1 b3.2 b5.1 b7.1 b7.2 b9.1 b9.2 b11.1 b11.2.1 b11.2.2 b15.1 b15.2 true)) else (laws_FnPuzzlesFilled.j0 k l1 b2.1 b2.2 b3.1 b3.2 b5.1 b7.1 b7.2 b9.1 b9.2 b11.1 b11.2.1 b11.2.2 b15.1 b15.2 true)) else (laws_FnPuzzlesFilled.j0 k l1 b2.1 b2.2 b3.1 b3.2 b5.1 b7.1 b7.2 b9.1 b9.2 b11.1 b11.2.1 b11.2.2 b15.1 b15.2 true)) else (laws_FnPuzzlesFilled.j0 k l1 b2.1 b2.2 b3.1 b3.2 b5.1 b7.1 b7.2 b9.1 b9.2 b11.1 b11.2.1 b11.2.2 b15.1 b15.2 true)) else (laws_FnPuzzlesFilled.j0 k l1 b2.1 b2.2 b3.1 b3.2 b5.1 b7.1 b7.2 b9.1 b9.2 b11.1 b11.2.1 b11.2.2 b15.1 b15.2 true)) else (laws_FnPuzzlesFilled.j0 k l1 b2.1 b2.2 b3.1 b3.2 b5.1 b7.1 b7.2 b9.1 b9.2 b11.1 b11.2.1 b11.2.2 b15.1 b15.2 true)) else (laws_FnPuzzlesFilled.j0 k l1 b2.1 b2.2 b3.1 b3.2 b5.1 b7.1 b7.2 b9.1 b9.2 b11.1 b11.2.1 b11.2.2 b15.1 b15.2 true)) else (laws_FnPuzzlesFilled.j0 k l1 b2.1 b2.2 b3.1 b3.2 b5.1 b7.1 b7.2 b9.1 b9.2 b11.1 b11.2.1 b11.2.2 b15.1 b15.2 true))) else (laws_FnPuzzlesFilled.j0 k l1 b2.1 b2.2 b3.1 b3.2 b5.1 b7.1 b7.2 b9.1 b9.2 b11.1 b11.2.1 b11.2.2 b15.1 b15.2 true)) else (laws_FnPuzzlesFilled.j0 k l1 b2.1 b2.2 b3.1 b3.2 b5.1 b7.1 b7.2 b9.1 b9.2 b11.1 b11.2.1 b11.2.2 b15.1 b15.2 true))) else (laws_FnPuzzlesFilled.j0 k l1 b2.1 b2.2 b3.1 b3.2 b5.1 b7.1 b7.2 b9.1 b9.2 b11.1 b11.2.1 b11.2.2 b15.1 b15.2 true)) else (laws_FnPuzzlesFilled.j0 k l1 b2.1 b2.2 b3.1 b3.2 b5.1 b7.1 b7.2 b9.1 b9.2 b11.1 b11.2.1 b11.2.2 b15.1 b15.2 true)) else (laws_FnPuzzlesFilled.j0 k l1 b2.1 b2.2 b3.1 b3.2 b5.1 b7.1 b7.2 b9.1 b9.2 b11.1 b11.2.1 b11.2.2 b15.1 b15.2 true)) else (laws_FnPuzzlesFilled.j0 k l1 b2.1 b2.2 b3.1 b3.2 b5.1 b7.1 b7.2 b9.1 b9.2 b11.1 b11.2.1 b11.2.2 b15.1 b15.2 true))) else (laws_FnPuzzlesFilled.j0 k l1 b2.1 b2.2 b3.1 b3.2 b5.1 b7.1 b7.2 b9.1 b9.2 b11.1 b11.2.1 b11.2.2 b15.1 b15.2 true))))))))))))))))))

def hn3:Hint:=⟨[(5,[538]),(46,[579]),(50,[583]),(54,[587]),(56,[589]),(63,[596]),(65,[598]),(329,[538]),(336,[538]),(361,[538]),(432,[538])],[]⟩
def o3 (r:Bool):List AV:=[vb r]
def p3 (r:Bool):List (Nat × AV):=[]
def q3_l0 (r:Bool) (k:Nat) (L:List (Nat × AV)):Prop:=∃ (x1:List Int) (y0:List (S64)) (y1:List Int) (x6:List (List Int)) (x10:Int) (x18:List Int) (x19:Bool) (x22:Int) (x23:Int) (x24:Bool) (x32:ByteArray) (x33:Bool) (x289:List (List Int)) (x290:Int) (x291:Int),L = [(1,.sl (iI .u8 x1)),(5,.loc 538 0),(6,.sl (iL (iI .i64) x6)),(10,vi x10),(18,.sl (iI .i64 x18)),(19,vb x19),(22,vi x22),(23,vi x23),(24,vb x24),(32,.val (.string x32)),(33,vb x33),(289,.sl (iL (iI .i64) x289)),(290,vi x290),(291,vi x291),(538,.box (.agg [.sl (iS64 y0),.sl (iI .i64 y1)]))] ∧ laws_FnPuzzlesFilled.l0 k x1 y0 y1 x6 x10 x18 x19 x22 x23 x24 x32 x33 x289 x290 x291 = some r
theorem q3_l0_mk {r:Bool} {k:Nat} {x1:List Int} {y0:List (S64)} {y1:List Int} {x6:List (List Int)} {x10:Int} {x18:List Int} {x19:Bool} {x22:Int} {x23:Int} {x24:Bool} {x32:ByteArray} {x33:Bool} {x289:List (List Int)} {x290:Int} {x291:Int} (h:laws_FnPuzzlesFilled.l0 k x1 y0 y1 x6 x10 x18 x19 x22 x23 x24 x32 x33 x289 x290 x291 = some r):q3_l0 r k [(1,.sl (iI .u8 x1)),(5,.loc 538 0),(6,.sl (iL (iI .i64) x6)),(10,vi x10),(18,.sl (iI .i64 x18)),(19,vb x19),(22,vi x22),(23,vi x23),(24,vb x24),(32,.val (.string x32)),(33,vb x33),(289,.sl (iL (iI .i64) x289)),(290,vi x290),(291,vi x291),(538,.box (.agg [.sl (iS64 y0),.sl (iI .i64 y1)]))]:=⟨x1,y0,y1,x6,x10,x18,x19,x22,x23,x24,x32,x33,x289,x290,x291,rfl,h⟩
def q3_l1 (r:Bool) (K0:Nat) (k:Nat) (L:List (Nat × AV)):Prop:=k < K0 ∧ ∃ (x1:List Int) (y0:List (S64)) (y1:List Int) (x6:List (List Int)) (x10:Int) (x18:List Int) (x19:Bool) (x22:Int) (x23:Int) (x24:Bool) (x32:ByteArray) (x33:Bool) (x289:List (List Int)) (x290:Int) (x291:Int) (x322:List Int) (x323:Int) (x324:Int),L = [(1,.sl (iI .u8 x1)),(5,.loc 538 0),(6,.sl (iL (iI .i64) x6)),(10,vi x10),(18,.sl (iI .i64 x18)),(19,vb x19),(22,vi x22),(23,vi x23),(24,vb x24),(32,.val (.string x32)),(33,vb x33),(289,.sl (iL (iI .i64) x289)),(290,vi x290),(291,vi x291),(322,.sl (iI .i64 x322)),(323,vi x323),(324,vi x324),(538,.box (.agg [.sl (iS64 y0),.sl (iI .i64 y1)]))] ∧ laws_FnPuzzlesFilled.l1 k x1 y0 y1 x6 x10 x18 x19 x22 x23 x24 x32 x33 x289 x290 x291 x322 x323 x324 = some r
theorem q3_l1_mk {r:Bool} {K0:Nat} {k:Nat} {x1:List Int} {y0:List (S64)} {y1:List Int} {x6:List (List Int)} {x10:Int} {x18:List Int} {x19:Bool} {x22:Int} {x23:Int} {x24:Bool} {x32:ByteArray} {x33:Bool} {x289:List (List Int)} {x290:Int} {x291:Int} {x322:List Int} {x323:Int} {x324:Int} (hk0:k < K0) (h:laws_FnPuzzlesFilled.l1 k x1 y0 y1 x6 x10 x18 x19 x22 x23 x24 x32 x33 x289 x290 x291 x322 x323 x324 = some r):q3_l1 r K0 k [(1,.sl (iI .u8 x1)),(5,.loc 538 0),(6,.sl (iL (iI .i64) x6)),(10,vi x10),(18,.sl (iI .i64 x18)),(19,vb x19),(22,vi x22),(23,vi x23),(24,vb x24),(32,.val (.string x32)),(33,vb x33),(289,.sl (iL (iI .i64) x289)),(290,vi x290),(291,vi x291),(322,.sl (iI .i64 x322)),(323,vi x323),(324,vi x324),(538,.box (.agg [.sl (iS64 y0),.sl (iI .i64 y1)]))]:=⟨hk0,x1,y0,y1,x6,x10,x18,x19,x22,x23,x24,x32,x33,x289,x290,x291,x322,x323,x324,rfl,h⟩
def q3_l2 (r:Bool) (k:Nat) (L:List (Nat × AV)):Prop:=∃ (x1:List Int) (y0:List (S64)) (y1:List Int) (x6:List (List Int)) (x10:Int) (x18:List Int) (x19:Bool) (x22:Int) (x23:Int) (x24:Bool) (x32:ByteArray) (x33:Bool) (x363:Int) (x364:Int),L = [(1,.sl (iI .u8 x1)),(5,.loc 538 0),(6,.sl (iL (iI .i64) x6)),(10,vi x10),(18,.sl (iI .i64 x18)),(19,vb x19),(22,vi x22),(23,vi x23),(24,vb x24),(32,.val (.string x32)),(33,vb x33),(363,vi x363),(364,vi x364),(538,.box (.agg [.sl (iS64 y0),.sl (iI .i64 y1)]))] ∧ laws_FnPuzzlesFilled.l2 k x1 y0 y1 x6 x10 x18 x19 x22 x23 x24 x32 x33 x363 x364 = some r
theorem q3_l2_mk {r:Bool} {k:Nat} {x1:List Int} {y0:List (S64)} {y1:List Int} {x6:List (List Int)} {x10:Int} {x18:List Int} {x19:Bool} {x22:Int} {x23:Int} {x24:Bool} {x32:ByteArray} {x33:Bool} {x363:Int} {x364:Int} (h:laws_FnPuzzlesFilled.l2 k x1 y0 y1 x6 x10 x18 x19 x22 x23 x24 x32 x33 x363 x364 = some r):q3_l2 r k [(1,.sl (iI .u8 x1)),(5,.loc 538 0),(6,.sl (iL (iI .i64) x6)),(10,vi x10),(18,.sl (iI .i64 x18)),(19,vb x19),(22,vi x22),(23,vi x23),(24,vb x24),(32,.val (.string x32)),(33,vb x33),(363,vi x363),(364,vi x364),(538,.box (.agg [.sl (iS64 y0),.sl (iI .i64 y1)]))]:=⟨x1,y0,y1,x6,x10,x18,x19,x22,x23,x24,x32,x33,x363,x364,rfl,h⟩
def q3_l3 (r:Bool) (K0:Nat) (k:Nat) (L:List (Nat × AV)):Prop:=k < K0 ∧ ∃ (x1:List Int) (y0:List (S64)) (y1:List Int) (x6:List (List Int)) (x10:Int) (x18:List Int) (x22:Int) (x23:Int) (x24:Bool) (x32:ByteArray) (x33:Bool) (x42:Int) (x43:Bool) (x363:Int) (x364:Int) (x369:List (List Int)) (x370:Int) (x371:Int),L = [(1,.sl (iI .u8 x1)),(5,.loc 538 0),(6,.sl (iL (iI .i64) x6)),(10,vi x10),(18,.sl (iI .i64 x18)),(19,vb true),(22,vi x22),(23,vi x23),(24,vb x24),(32,.val (.string x32)),(33,vb x33),(42,vi x42),(43,vb x43),(363,vi x363),(364,vi x364),(369,.sl (iL (iI .i64) x369)),(370,vi x370),(371,vi x371),(538,.box (.agg [.sl (iS64 y0),.sl (iI .i64 y1)]))] ∧ laws_FnPuzzlesFilled.l3 k x1 y0 y1 x6 x10 x18 x22 x23 x24 x32 x33 x42 x43 x363 x364 x369 x370 x371 = some r
theorem q3_l3_mk {r:Bool} {K0:Nat} {k:Nat} {x1:List Int} {y0:List (S64)} {y1:List Int} {x6:List (List Int)} {x10:Int} {x18:List Int} {x22:Int} {x23:Int} {x24:Bool} {x32:ByteArray} {x33:Bool} {x42:Int} {x43:Bool} {x363:Int} {x364:Int} {x369:List (List Int)} {x370:Int} {x371:Int} (hk0:k < K0) (h:laws_FnPuzzlesFilled.l3 k x1 y0 y1 x6 x10 x18 x22 x23 x24 x32 x33 x42 x43 x363 x364 x369 x370 x371 = some r):q3_l3 r K0 k [(1,.sl (iI .u8 x1)),(5,.loc 538 0),(6,.sl (iL (iI .i64) x6)),(10,vi x10),(18,.sl (iI .i64 x18)),(19,vb true),(22,vi x22),(23,vi x23),(24,vb x24),(32,.val (.string x32)),(33,vb x33),(42,vi x42),(43,vb x43),(363,vi x363),(364,vi x364),(369,.sl (iL (iI .i64) x369)),(370,vi x370),(371,vi x371),(538,.box (.agg [.sl (iS64 y0),.sl (iI .i64 y1)]))]:=⟨hk0,x1,y0,y1,x6,x10,x18,x22,x23,x24,x32,x33,x42,x43,x363,x364,x369,x370,x371,rfl,h⟩
theorem at3_j6 {r:Bool} {k:Nat} {x1:List Int} (h:laws_FnPuzzlesFilled.j6 k x1 = some r):AtP Tryz.prog 533 (bodyOf Tryz.f3) (KR Tryz.prog Tryz.f3.results.toList (o3 r) (p3 r)) [true,true,true,true,true,true,true,true,true,true,true,true,true,true,true,true,true,true,true,true,true] [] (lookA [(1,.sl (iI .u8 x1))]):=by
 cases k with
 | zero => simp [laws_FnPuzzlesFilled.j6] at h
 | succ k =>
  rw [laws_FnPuzzlesFilled.j6] at h
  refine at_ (hn:=hn3) ?_
  obtain ⟨⟨b32_1,b32_2,b32_3⟩,c1,h2⟩:=bd_ h
  obtain ⟨⟨b33_1,b33_2⟩,c3,h4⟩:=bd_ h2
  obtain ⟨⟨b34_1,b34_2⟩,c5,h6⟩:=bd_ h4
  try dsimp only at h6
  obtain ⟨b35,c7,h8⟩:=bd_ h6
  obtain ⟨⟨b36_1,b36_2,b36_3⟩,c9,h10⟩:=bd_ h8
  obtain ⟨⟨b37_1,b37_2,b37_3⟩,c11,h12⟩:=bd_ h10
  try dsimp only at h12
  obtain ⟨g13,h14⟩:=ip_ h12
  obtain ⟨g15,h16⟩:=ip_ h14
  obtain ⟨g17,h18⟩:=ip_ h16
  obtain ⟨b38,c19,h20⟩:=bd_ h18
  refine mid (hn:=hn3) 20 18 [.call (.tup [.agg [.sl (iS64 b32_1),.sl (iI .i64 b32_2)],.sl (iI .i64 b32_3)]),.call (.tup [vb b33_1,vb b33_2]),.call (.tup [vb b34_1,vb b34_2]),.call (.val (.string b35)),.call (.tup [.agg [.sl (iS64 b36_1),.sl (iI .i64 b36_2)],vb b36_3]),.call (.tup [.agg [.sl (iS64 b37_1),.sl (iI .i64 b37_2)],vb b37_3]),.val (.bool false),.val (.bool false),.val (.bool false),.call (vb b38)] (And.intro (ad_30 c1) (And.intro (ad_24 c3) (And.intro (ad_31 c5) (And.intro (ad_32 c7) (And.intro (ad_28 c9) (And.intro (ad_33 c11) (And.intro (bool_neq (P:=Tryz.prog) (t:=4) (x:=(.tmp 502)) (y:=(.tmp 503)) (a:=b33_2) (b:=b34_2) Tryz.underlying4 (v:=false) (nbb_f g13)) (And.intro (bool_neq (P:=Tryz.prog) (t:=4) (x:=(.tmp 506)) (y:=(.tmp 507)) (a:=b33_1) (b:=b34_1) Tryz.underlying4 (v:=false) (nbb_f g15)) (And.intro (bool_neq (P:=Tryz.prog) (t:=4) (x:=(.tmp 511)) (y:=(.tmp 512)) (a:=b36_3) (b:=b37_3) Tryz.underlying4 (v:=false) (nbb_f g17)) (ad_29 c19)))))))))) (by kernel_rfl) ?_
  obtain ⟨g21,h22⟩:=ip_ h20
  subst g21
  rcases ite_ h22 with ⟨g23,h24⟩ | ⟨g23,h24⟩
  ·subst g23
   obtain ⟨⟨b39_1,b39_2⟩,c25,h26⟩:=bd_ h24
   try dsimp only at h26
   refine mid (hn:=hn3) 14 2 [.call (.tup [.val (.string b39_1),vb b39_2])] (ad_18 c25) (by kernel_rfl) ?_
   obtain ⟨g27,h28⟩:=ip_ h26
   subst g27
   obtain rfl:=Option.some.inj h28
   exact leafRet (hn:=hn3) 4 [.val (.bool (b39_1.toList == b35.toList))] [] .ret (.inr rfl) (by kernel_rfl) (str_eql (P:=Tryz.prog) (t:=9) (x:=(.tmp 529)) (y:=(.tmp 530)) (a:=b39_1) (b:=b35) (v:=(b39_1.toList == b35.toList)) rfl) (by kernel_rfl)
  ·obtain rfl:=Bool.eq_false_iff.2 g23
   obtain rfl:=Option.some.inj h24
   exact leafRet (hn:=hn3) 16 [] [] .ret (.inr rfl) (by kernel_rfl) True.intro (by kernel_rfl)
theorem at3_j5 {r:Bool} {k:Nat} {x1:List Int} {y0:List (S64)} {y1:List Int} {x32:ByteArray} {x33:Bool} (h:laws_FnPuzzlesFilled.j5 k x1 y0 y1 x32 x33 = some r):AtP Tryz.prog 533 (bodyOf Tryz.f3) (KR Tryz.prog Tryz.f3.results.toList (o3 r) (p3 r)) [true,true,true,true,true,true,true,true,true,true,true,true,true,true,true,true,true,true,true,true] [] (lookA [(1,.sl (iI .u8 x1)),(5,.loc 538 0),(32,.val (.string x32)),(33,vb x33),(538,.box (.agg [.sl (iS64 y0),.sl (iI .i64 y1)]))]):=by
 cases k with
 | zero => simp [laws_FnPuzzlesFilled.j5] at h
 | succ k =>
  rw [laws_FnPuzzlesFilled.j5] at h
  refine at_ (hn:=hn3) ?_
  rcases ite_ h with ⟨g1,h2⟩ | ⟨g1,h2⟩
  ·subst g1
   obtain ⟨⟨b30_1,b30_2,b30_3⟩,c3,h4⟩:=bd_ h2
   try dsimp only at h4
   refine mid (hn:=hn3) 9 3 [.call (.tup [.agg [.sl (iS64 b30_1),.sl (iI .i64 b30_2)],vb b30_3])] (ad_28 c3) (by kernel_rfl) ?_
   obtain ⟨g5,h6⟩:=ip_ h4
   subst g5
   obtain ⟨b31,c7,h8⟩:=bd_ h6
   refine mid (hn:=hn3) 0 4 [.call (vb b31)] (ad_29 c7) (by kernel_rfl) ?_
   obtain ⟨g9,h10⟩:=ip_ h8
   subst g9
   exact leafAt (hn:=hn3) 5 [] [] (at3_j6 h10) True.intro (by kernel_rfl)
  ·obtain rfl:=Bool.eq_false_iff.2 g1
   exact leafAt (hn:=hn3) 7 [] [] (at3_j6 h2) True.intro (by kernel_rfl)
theorem at3_j4 {r:Bool} {k:Nat} {x1:List Int} {y0:List (S64)} {y1:List Int} {x10:Int} {x18:List Int} {x22:Int} {x23:Int} {x24:Bool} {x32:ByteArray} {x33:Bool} (h:laws_FnPuzzlesFilled.j4 k x1 y0 y1 x10 x18 x22 x23 x24 x32 x33 = some r):AtP Tryz.prog 533 (bodyOf Tryz.f3) (KR Tryz.prog Tryz.f3.results.toList (o3 r) (p3 r)) [true,true,true,true,true,true,true,true,true,true,true,true,true,true,true,true,true,true,true] [] (lookA [(1,.sl (iI .u8 x1)),(5,.loc 538 0),(10,vi x10),(18,.sl (iI .i64 x18)),(22,vi x22),(23,vi x23),(24,vb x24),(32,.val (.string x32)),(33,vb x33),(538,.box (.agg [.sl (iS64 y0),.sl (iI .i64 y1)]))]):=by
 cases k with
 | zero => simp [laws_FnPuzzlesFilled.j4] at h
 | succ k =>
  rw [laws_FnPuzzlesFilled.j4] at h
  refine at_ (hn:=hn3) ?_
  rcases ite_ h with ⟨g1,h2⟩ | ⟨g1,h2⟩
  ·subst g1
   obtain ⟨⟨b28_1,b28_2,b28_3⟩,c3,h4⟩:=bd_ h2
   obtain ⟨⟨b29_1,b29_2⟩,c5,h6⟩:=bd_ h4
   try dsimp only at h6
   obtain ⟨g7,h8⟩:=ip_ h6
   obtain ⟨g9,h10⟩:=ip_ h8
   obtain ⟨g11,h12⟩:=in_ h10
   obtain ⟨g13,h14⟩:=ip_ h12
   obtain ⟨g15,h16⟩:=ip_ h14
   refine mid (hn:=hn3) 12 19 [.call (.tup [.agg [.sl (iS64 b28_1),.sl (iI .i64 b28_2)],vb b28_3]),.call (.tup [vi b29_1,vb b29_2]),.elem (vi (rd y1 x22)),.val (.bool false),.elem (vi (rd x18 x22)),.val (.bool false)] (And.intro (ad_27 c3) (And.intro (ad_8 c5) (And.intro (iI_rd (k:=.i64) (xs:=y1) (i:=x22) g7 g9) (And.intro (int_geq (P:=Tryz.prog) (t:=3) (k:=.i64) (x:=(.tmp 436)) (y:=(.const (.int .i64 0))) (a:=(rd y1 x22)) (b:=0) (v:=false) (decide_eq_false g11)) (And.intro (iI_rd (k:=.i64) (xs:=x18) (i:=x22) g7 g13) (int_neq (P:=Tryz.prog) (t:=3) (k:=.i64) (x:=(.tmp 442)) (y:=(.tmp 443)) (a:=(rd x18 x22)) (b:=x23) (v:=false) (nbeq_f g15))))))) (by kernel_rfl) ?_
   obtain ⟨g17,h18⟩:=ip_ h16
   subst g17
   obtain ⟨g19,h20⟩:=ip_ h18
   subst g19
   obtain ⟨g21,h22⟩:=ip_ h20
   exact leafAt (hn:=hn3) 5 [.val (.bool false)] [] (at3_j5 h22) (int_neq (P:=Tryz.prog) (t:=3) (k:=.i64) (x:=(.tmp 455)) (y:=(.tmp 456)) (a:=b29_1) (b:=x10) (v:=false) (nbeq_f g21)) (by kernel_rfl)
  ·obtain rfl:=Bool.eq_false_iff.2 g1
   exact leafAt (hn:=hn3) 7 [] [] (at3_j5 h2) True.intro (by kernel_rfl)
theorem at3_l3 {r:Bool} {K0:Nat}:∀ k L,q3_l3 r K0 k L → AtP Tryz.prog 533 (bodyOf Tryz.f3) (KR Tryz.prog Tryz.f3.results.toList (o3 r) (p3 r)) [true,true,true,true,true,true,true,true,true,true,true,true,true,true,true,true,true,true,false,true,false,true,true,false,true,false,false,true,true,false,false,true,true,true,false,true,false] [upto (q3_l2 r) K0] (lookA L) :=
 at_loop (by kernel_rfl) (fun _ => by kernel_rfl) (q3_l3 r K0) (by
  rintro k _ ⟨hk0,x1,y0,y1,x6,x10,x18,x22,x23,x24,x32,x33,x42,x43,x363,x364,x369,x370,x371,rfl,h⟩
  cases k with
  | zero => simp [laws_FnPuzzlesFilled.l3] at h
  | succ k =>
   rw [laws_FnPuzzlesFilled.l3] at h
   have hk0:=Nat.lt_of_succ_lt hk0
   refine at_ (hn:=hn3) ?_
   rcases ite_ h with ⟨g1,h2⟩ | ⟨g1,h2⟩
   ·obtain ⟨g3,h4⟩:=ip_ h2
    obtain ⟨g5,h6⟩:=ip_ h4
    refine mid (hn:=hn3) 12 2 [.val (.bool true),.elem (.sl (iI .i64 (rd_L4 x369 x371)))] (And.intro (int_lss (P:=Tryz.prog) (t:=3) (k:=.i64) (x:=(.tmp 371)) (y:=(.tmp 370)) (a:=x371) (b:=x370) (v:=true) (decide_eq_true g1)) (iL_rd (f:=(iI .i64)) (xs:=x369) (i:=x371) g3 g5)) (by kernel_rfl) ?_
    rcases ite_ h6 with ⟨g7,h8⟩ | ⟨g7,h8⟩
    ·subst g7
     exact leafBack (hn:=hn3) 4 [.val (.int .i64 (wrap64 (x371 + 1)))] [] (q3_l3_mk hk0 h8) (Nat.lt_succ_self k) (int_add (P:=Tryz.prog) (t:=3) (k:=.i64) (x:=(.tmp 371)) (y:=(.const (.int .i64 1))) (a:=x371) (b:=1) (c:=(wrap64 (x371 + 1))) (IntWalk.i64_left _)) (by kernel_rfl)
    ·obtain rfl:=Bool.eq_false_iff.2 g7
     obtain ⟨g9,h10⟩:=ip_ h8
     obtain ⟨g11,h12⟩:=ip_ h10
     obtain ⟨g13,h14⟩:=ip_ h12
     obtain ⟨g15,h16⟩:=ip_ h14
     exact leafBack (hn:=hn3) 4 [.elem (vi (rd (rd_L4 x369 x371) x42)),.elem (.sl (iI .i64 (rd_L4 x6 0))),.elem (vi (rd (rd_L4 x6 0) x42)),.val (.bool (!((rd (rd_L4 x369 x371) x42) == (rd (rd_L4 x6 0) x42)))),.val (.int .i64 (wrap64 (x371 + 1)))] [] (q3_l3_mk hk0 h16) (Nat.lt_succ_self k) (And.intro (And.intro (iI_rd (k:=.i64) (xs:=(rd_L4 x369 x371)) (i:=x42) g9 g11) (And.intro (iL_rd (f:=(iI .i64)) (xs:=x6) (i:=0) (by decide) g13) (And.intro (iI_rd (k:=.i64) (xs:=(rd_L4 x6 0)) (i:=x42) g9 g15) (int_neq (P:=Tryz.prog) (t:=3) (k:=.i64) (x:=(.tmp 380)) (y:=(.tmp 386)) (a:=(rd (rd_L4 x369 x371) x42)) (b:=(rd (rd_L4 x6 0) x42)) (v:=(!((rd (rd_L4 x369 x371) x42) == (rd (rd_L4 x6 0) x42)))) rfl)))) (int_add (P:=Tryz.prog) (t:=3) (k:=.i64) (x:=(.tmp 371)) (y:=(.const (.int .i64 1))) (a:=x371) (b:=1) (c:=(wrap64 (x371 + 1))) (IntWalk.i64_left _))) (by kernel_rfl)
   ·obtain ⟨g17,h18⟩:=ip_ h2
    obtain ⟨g19,h20⟩:=ip_ h18
    obtain ⟨g21,h22⟩:=ip_ h20
    exact leafBack (hn:=hn3) 18 [.val (.bool false),.elem (vi (rd x18 x42)),.val (.bool (decide ((rd x18 x42) < 0))),.val (.bool false),.val (.int .i64 (wrap64 (x364 + 1)))] [] (q3_l2_mk h22) hk0 (And.intro (int_lss (P:=Tryz.prog) (t:=3) (k:=.i64) (x:=(.tmp 371)) (y:=(.tmp 370)) (a:=x371) (b:=x370) (v:=false) (decide_eq_false g1)) (And.intro (And.intro (iI_rd (k:=.i64) (xs:=x18) (i:=x42) g17 g19) (And.intro (int_lss (P:=Tryz.prog) (t:=3) (k:=.i64) (x:=(.tmp 394)) (y:=(.const (.int .i64 0))) (a:=(rd x18 x42)) (b:=0) (v:=(decide ((rd x18 x42) < 0))) rfl) (bool_neq (P:=Tryz.prog) (t:=4) (x:=(.tmp 390)) (y:=(.tmp 395)) (a:=x43) (b:=(decide ((rd x18 x42) < 0))) Tryz.underlying4 (v:=false) (nbb_f g21)))) (int_add (P:=Tryz.prog) (t:=3) (k:=.i64) (x:=(.tmp 364)) (y:=(.const (.int .i64 1))) (a:=x364) (b:=1) (c:=(wrap64 (x364 + 1))) (IntWalk.i64_left _)))) (by kernel_rfl))
theorem at3_l2 {r:Bool}:∀ k L,q3_l2 r k L → AtP Tryz.prog 533 (bodyOf Tryz.f3) (KR Tryz.prog Tryz.f3.results.toList (o3 r) (p3 r)) [true,true,true,true,true,true,true,true,true,true,true,true,true,true,true,true,true,true,false,true,false,true,true,false,true,false] [] (lookA L) :=
 at_loop (by kernel_rfl) (fun _ => by kernel_rfl) (q3_l2 r) (by
  rintro k _ ⟨x1,y0,y1,x6,x10,x18,x19,x22,x23,x24,x32,x33,x363,x364,rfl,h⟩
  cases k with
  | zero => simp [laws_FnPuzzlesFilled.l2] at h
  | succ k =>
   rw [laws_FnPuzzlesFilled.l2] at h
   refine at_ (hn:=hn3) ?_
   rcases ite_ h with ⟨g1,h2⟩ | ⟨g1,h2⟩
   ·refine mid (hn:=hn3) 14 1 [.val (.bool true)] (int_lss (P:=Tryz.prog) (t:=3) (k:=.i64) (x:=(.tmp 364)) (y:=(.tmp 363)) (a:=x364) (b:=x363) (v:=true) (decide_eq_true g1)) (by kernel_rfl) ?_
    rcases ite_ h2 with ⟨g3,h4⟩ | ⟨g3,h4⟩
    ·subst g3
     exact leafAt (hn:=hn3) 13 [.val (.int .i64 (x6.length:Int))] [] (at3_l3 _ _ (q3_l3_mk (Nat.lt_succ_self k) h4)) (iL_len (f:=(iI .i64)) (xs:=x6)) (by kernel_rfl)
    ·obtain rfl:=Bool.eq_false_iff.2 g3
     obtain ⟨⟨b26_1,b26_2,b26_3⟩,c5,h6⟩:=bd_ h4
     obtain ⟨⟨b27_1,b27_2⟩,c7,h8⟩:=bd_ h6
     try dsimp only at h8
     refine mid (hn:=hn3) 17 3 [.call (.tup [.agg [.sl (iS64 b26_1),.sl (iI .i64 b26_2)],vb b26_3]),.call (.tup [vi b27_1,vb b27_2])] (And.intro (ad_26 c5) (ad_8 c7)) (by kernel_rfl) ?_
     obtain ⟨g9,h10⟩:=ip_ h8
     subst g9
     obtain ⟨g11,h12⟩:=ip_ h10
     subst g11
     obtain ⟨g13,h14⟩:=ip_ h12
     exact leafAt (hn:=hn3) 5 [.val (.bool false)] [] (at3_j4 h14) (int_neq (P:=Tryz.prog) (t:=3) (k:=.i64) (x:=(.tmp 415)) (y:=(.tmp 416)) (a:=b27_1) (b:=x10) (v:=false) (nbeq_f g13)) (by kernel_rfl)
   ·obtain ⟨⟨b40_1,b40_2,b40_3⟩,c15,h16⟩:=bd_ h2
    obtain ⟨⟨b41_1,b41_2⟩,c17,h18⟩:=bd_ h16
    try dsimp only at h18
    refine mid (hn:=hn3) 17 3 [.val (.bool false),.call (.tup [.agg [.sl (iS64 b40_1),.sl (iI .i64 b40_2)],vb b40_3]),.call (.tup [vi b41_1,vb b41_2])] (And.intro (int_lss (P:=Tryz.prog) (t:=3) (k:=.i64) (x:=(.tmp 364)) (y:=(.tmp 363)) (a:=x364) (b:=x363) (v:=false) (decide_eq_false g1)) (And.intro (ad_26 c15) (ad_8 c17))) (by kernel_rfl) ?_
    obtain ⟨g19,h20⟩:=ip_ h18
    subst g19
    obtain ⟨g21,h22⟩:=ip_ h20
    subst g21
    obtain ⟨g23,h24⟩:=ip_ h22
    exact leafAt (hn:=hn3) 5 [.val (.bool false)] [] (at3_j4 h24) (int_neq (P:=Tryz.prog) (t:=3) (k:=.i64) (x:=(.tmp 415)) (y:=(.tmp 416)) (a:=b41_1) (b:=x10) (v:=false) (nbeq_f g23)) (by kernel_rfl))
theorem at3_j3 {r:Bool} {K0:Nat} {K1:Nat} {k:Nat} {x1:List Int} {y0:List (S64)} {y1:List Int} {x6:List (List Int)} {x10:Int} {x18:List Int} {x19:Bool} {x22:Int} {x23:Int} {x24:Bool} {x32:ByteArray} {x33:Bool} {x289:List (List Int)} {x290:Int} {x291:Int} {x322:List Int} {x323:Int} {x324:Int} (hk0:k < K0) (hk1:k < K1) (h:laws_FnPuzzlesFilled.j3 k x1 y0 y1 x6 x10 x18 x19 x22 x23 x24 x32 x33 x289 x290 x291 x322 x323 x324 = some r):AtP Tryz.prog 533 (bodyOf Tryz.f3) (KR Tryz.prog Tryz.f3.results.toList (o3 r) (p3 r)) [true,true,true,true,true,true,true,true,true,true,true,true,true,true,true,true,true,true,false,true,false,true,false,true,false,false,true,true,false,false,true,true,true,true,false,false,true,true,true] [upto (q3_l0 r) K0,upto (q3_l1 r K0) K1] (lookA [(1,.sl (iI .u8 x1)),(5,.loc 538 0),(6,.sl (iL (iI .i64) x6)),(10,vi x10),(18,.sl (iI .i64 x18)),(19,vb x19),(22,vi x22),(23,vi x23),(24,vb x24),(32,.val (.string x32)),(33,vb x33),(289,.sl (iL (iI .i64) x289)),(290,vi x290),(291,vi x291),(322,.sl (iI .i64 x322)),(323,vi x323),(324,vi x324),(538,.box (.agg [.sl (iS64 y0),.sl (iI .i64 y1)]))]):=by
 cases k with
 | zero => simp [laws_FnPuzzlesFilled.j3] at h
 | succ k =>
  rw [laws_FnPuzzlesFilled.j3] at h
  have hk0:=Nat.lt_of_succ_lt hk0
  have hk1:=Nat.lt_of_succ_lt hk1
  refine at_ (hn:=hn3) ?_
  exact leafBack (hn:=hn3) 1 [.val (.int .i64 (wrap64 (x324 + 1)))] [] (q3_l1_mk hk0 h) hk1 (int_add (P:=Tryz.prog) (t:=3) (k:=.i64) (x:=(.tmp 324)) (y:=(.const (.int .i64 1))) (a:=x324) (b:=1) (c:=(wrap64 (x324 + 1))) (IntWalk.i64_left _)) (by kernel_rfl)
theorem at3_j2 {r:Bool} {K0:Nat} {K1:Nat} {k:Nat} {x1:List Int} {y0:List (S64)} {y1:List Int} {x6:List (List Int)} {x10:Int} {x18:List Int} {x19:Bool} {x22:Int} {x23:Int} {x24:Bool} {x32:ByteArray} {x33:Bool} {x289:List (List Int)} {x290:Int} {x291:Int} {x322:List Int} {x323:Int} {x324:Int} {x358:Bool} (hk0:k < K0) (hk1:k < K1) (h:laws_FnPuzzlesFilled.j2 k x1 y0 y1 x6 x10 x18 x19 x22 x23 x24 x32 x33 x289 x290 x291 x322 x323 x324 x358 = some r):AtP Tryz.prog 533 (bodyOf Tryz.f3) (KR Tryz.prog Tryz.f3.results.toList (o3 r) (p3 r)) [true,true,true,true,true,true,true,true,true,true,true,true,true,true,true,true,true,true,false,true,false,true,false,true,false,false,true,true,false,false,true,true,true,true,false,false,true,true,false,false,true,true] [upto (q3_l0 r) K0,upto (q3_l1 r K0) K1] (lookA [(1,.sl (iI .u8 x1)),(5,.loc 538 0),(6,.sl (iL (iI .i64) x6)),(10,vi x10),(18,.sl (iI .i64 x18)),(19,vb x19),(22,vi x22),(23,vi x23),(24,vb x24),(32,.val (.string x32)),(33,vb x33),(289,.sl (iL (iI .i64) x289)),(290,vi x290),(291,vi x291),(322,.sl (iI .i64 x322)),(323,vi x323),(324,vi x324),(358,vb x358),(538,.box (.agg [.sl (iS64 y0),.sl (iI .i64 y1)]))]):=by
 cases k with
 | zero => simp [laws_FnPuzzlesFilled.j2] at h
 | succ k =>
  rw [laws_FnPuzzlesFilled.j2] at h
  have hk0:=Nat.lt_of_succ_lt hk0
  have hk1:=Nat.lt_of_succ_lt hk1
  refine at_ (hn:=hn3) ?_
  obtain ⟨g1,h2⟩:=in_ h
  obtain rfl:=Bool.eq_false_iff.2 g1
  exact leafAt (hn:=hn3) 4 [] [] (at3_j3 hk0 hk1 h2) True.intro (by kernel_rfl)
theorem at3_l1 {r:Bool} {K0:Nat}:∀ k L,q3_l1 r K0 k L → AtP Tryz.prog 533 (bodyOf Tryz.f3) (KR Tryz.prog Tryz.f3.results.toList (o3 r) (p3 r)) [true,true,true,true,true,true,true,true,true,true,true,true,true,true,true,true,true,true,false,true,false,true,false,true,false,false,true,true,false,false,true,true,true,true,false] [upto (q3_l0 r) K0] (lookA L) :=
 at_loop (by kernel_rfl) (fun _ => by kernel_rfl) (q3_l1 r K0) (by
  rintro k _ ⟨hk0,x1,y0,y1,x6,x10,x18,x19,x22,x23,x24,x32,x33,x289,x290,x291,x322,x323,x324,rfl,h⟩
  cases k with
  | zero => simp [laws_FnPuzzlesFilled.l1] at h
  | succ k =>
   rw [laws_FnPuzzlesFilled.l1] at h
   have hk0:=Nat.lt_of_succ_lt hk0
   refine at_ (hn:=hn3) ?_
   rcases ite_ h with ⟨g1,h2⟩ | ⟨g1,h2⟩
   ·obtain ⟨g3,h4⟩:=ip_ h2
    obtain ⟨g5,h6⟩:=ip_ h4
    obtain ⟨g7,h8⟩:=ip_ h6
    refine mid (hn:=hn3) 13 5 [.val (.bool true),.elem (vi (rd x322 x324)),.elem (vi (rd y1 x324))] (And.intro (int_lss (P:=Tryz.prog) (t:=3) (k:=.i64) (x:=(.tmp 324)) (y:=(.tmp 323)) (a:=x324) (b:=x323) (v:=true) (decide_eq_true g1)) (And.intro (iI_rd (k:=.i64) (xs:=x322) (i:=x324) g3 g5) (iI_rd (k:=.i64) (xs:=y1) (i:=x324) g3 g7))) (by kernel_rfl) ?_
    rcases ite_ h8 with ⟨g9,h10⟩ | ⟨g9,h10⟩
    ·refine mid (hn:=hn3) 0 8 [.val (.bool true),.elem (vi (rd y1 x324))] (And.intro (int_geq (P:=Tryz.prog) (t:=3) (k:=.i64) (x:=(.tmp 333)) (y:=(.const (.int .i64 0))) (a:=(rd y1 x324)) (b:=0) (v:=true) (decide_eq_true g9)) (iI_rd (k:=.i64) (xs:=y1) (i:=x324) g3 g7)) (by kernel_rfl) ?_
     rcases ite_ h10 with ⟨g11,h12⟩ | ⟨g11,h12⟩
     ·obtain ⟨g13,h14⟩:=ip_ h12
      refine mid (hn:=hn3) 0 7 [.val (.bool false),.elem (vi (rd x18 x324))] (And.intro (int_neq (P:=Tryz.prog) (t:=3) (k:=.i64) (x:=(.tmp 340)) (y:=(.tmp 341)) (a:=(rd y1 x324)) (b:=(rd x322 x324)) (v:=false) (nbeq_f g11)) (iI_rd (k:=.i64) (xs:=x18) (i:=x324) g3 g13)) (by kernel_rfl) ?_
      rcases ite_ h14 with ⟨g15,h16⟩ | ⟨g15,h16⟩
      ·exact leafAt (hn:=hn3) 2 [.val (.bool true),.elem (vi (rd x18 x324)),.val (.bool (!((rd x18 x324) == (rd x322 x324))))] [] (at3_j2 hk0 (Nat.lt_succ_self k) h16) (And.intro (int_geq (P:=Tryz.prog) (t:=3) (k:=.i64) (x:=(.tmp 348)) (y:=(.const (.int .i64 0))) (a:=(rd x18 x324)) (b:=0) (v:=true) (decide_eq_true g15)) (And.intro (iI_rd (k:=.i64) (xs:=x18) (i:=x324) g3 g13) (int_neq (P:=Tryz.prog) (t:=3) (k:=.i64) (x:=(.tmp 354)) (y:=(.tmp 355)) (a:=(rd x18 x324)) (b:=(rd x322 x324)) (v:=(!((rd x18 x324) == (rd x322 x324)))) rfl))) (by kernel_rfl)
      ·exact leafAt (hn:=hn3) 2 [.val (.bool false)] [] (at3_j2 hk0 (Nat.lt_succ_self k) h16) (int_geq (P:=Tryz.prog) (t:=3) (k:=.i64) (x:=(.tmp 348)) (y:=(.const (.int .i64 0))) (a:=(rd x18 x324)) (b:=0) (v:=false) (decide_eq_false g15)) (by kernel_rfl)
     ·exact leafAt (hn:=hn3) 2 [.val (.bool true)] [] (at3_j2 hk0 (Nat.lt_succ_self k) h12) (int_neq (P:=Tryz.prog) (t:=3) (k:=.i64) (x:=(.tmp 340)) (y:=(.tmp 341)) (a:=(rd y1 x324)) (b:=(rd x322 x324)) (v:=true) (nbeq_t g11)) (by kernel_rfl)
    ·obtain ⟨g17,h18⟩:=ip_ h10
     refine mid (hn:=hn3) 0 15 [.val (.bool false),.elem (vi (rd x18 x324))] (And.intro (int_geq (P:=Tryz.prog) (t:=3) (k:=.i64) (x:=(.tmp 333)) (y:=(.const (.int .i64 0))) (a:=(rd y1 x324)) (b:=0) (v:=false) (decide_eq_false g9)) (iI_rd (k:=.i64) (xs:=x18) (i:=x324) g3 g17)) (by kernel_rfl) ?_
     rcases ite_ h18 with ⟨g19,h20⟩ | ⟨g19,h20⟩
     ·exact leafAt (hn:=hn3) 2 [.val (.bool true),.elem (vi (rd x18 x324)),.val (.bool (!((rd x18 x324) == (rd x322 x324))))] [] (at3_j2 hk0 (Nat.lt_succ_self k) h20) (And.intro (int_geq (P:=Tryz.prog) (t:=3) (k:=.i64) (x:=(.tmp 348)) (y:=(.const (.int .i64 0))) (a:=(rd x18 x324)) (b:=0) (v:=true) (decide_eq_true g19)) (And.intro (iI_rd (k:=.i64) (xs:=x18) (i:=x324) g3 g17) (int_neq (P:=Tryz.prog) (t:=3) (k:=.i64) (x:=(.tmp 354)) (y:=(.tmp 355)) (a:=(rd x18 x324)) (b:=(rd x322 x324)) (v:=(!((rd x18 x324) == (rd x322 x324)))) rfl))) (by kernel_rfl)
     ·exact leafAt (hn:=hn3) 2 [.val (.bool false)] [] (at3_j2 hk0 (Nat.lt_succ_self k) h20) (int_geq (P:=Tryz.prog) (t:=3) (k:=.i64) (x:=(.tmp 348)) (y:=(.const (.int .i64 0))) (a:=(rd x18 x324)) (b:=0) (v:=false) (decide_eq_false g19)) (by kernel_rfl)
   ·exact leafBack (hn:=hn3) 12 [.val (.bool false),.val (.int .i64 (wrap64 (x291 + 1)))] [] (q3_l0_mk h2) hk0 (And.intro (int_lss (P:=Tryz.prog) (t:=3) (k:=.i64) (x:=(.tmp 324)) (y:=(.tmp 323)) (a:=x324) (b:=x323) (v:=false) (decide_eq_false g1)) (int_add (P:=Tryz.prog) (t:=3) (k:=.i64) (x:=(.tmp 291)) (y:=(.const (.int .i64 1))) (a:=x291) (b:=1) (c:=(wrap64 (x291 + 1))) (IntWalk.i64_left _))) (by kernel_rfl))
theorem at3_l0 {r:Bool}:∀ k L,q3_l0 r k L → AtP Tryz.prog 533 (bodyOf Tryz.f3) (KR Tryz.prog Tryz.f3.results.toList (o3 r) (p3 r)) [true,true,true,true,true,true,true,true,true,true,true,true,true,true,true,true,true,true,false,true,false,true,false,true,false] [] (lookA L) :=
 at_loop (by kernel_rfl) (fun _ => by kernel_rfl) (q3_l0 r) (by
  rintro k _ ⟨x1,y0,y1,x6,x10,x18,x19,x22,x23,x24,x32,x33,x289,x290,x291,rfl,h⟩
  cases k with
  | zero => simp [laws_FnPuzzlesFilled.l0] at h
  | succ k =>
   rw [laws_FnPuzzlesFilled.l0] at h
   refine at_ (hn:=hn3) ?_
   rcases ite_ h with ⟨g1,h2⟩ | ⟨g1,h2⟩
   ·obtain ⟨g3,h4⟩:=ip_ h2
    obtain ⟨g5,h6⟩:=ip_ h4
    obtain ⟨⟨b24_1,b24_2⟩,c7,h8⟩:=bd_ h6
    try dsimp only at h8
    refine mid (hn:=hn3) 17 3 [.val (.bool true),.elem (.sl (iI .i64 (rd_L4 x289 x291))),.call (.tup [vb b24_1,vb b24_2])] (And.intro (int_lss (P:=Tryz.prog) (t:=3) (k:=.i64) (x:=(.tmp 291)) (y:=(.tmp 290)) (a:=x291) (b:=x290) (v:=true) (decide_eq_true g1)) (And.intro (iL_rd (f:=(iI .i64)) (xs:=x289) (i:=x291) g3 g5) (ad_24 c7))) (by kernel_rfl) ?_
    obtain ⟨g9,h10⟩:=ip_ h8
    subst g9
    obtain ⟨g11,h12⟩:=ip_ h10
    subst g11
    rcases ite_ h12 with ⟨g13,h14⟩ | ⟨g13,h14⟩
    ·obtain ⟨g15,h16⟩:=ip_ h14
     obtain ⟨g17,h18⟩:=ip_ h16
     obtain ⟨b25,c19,h20⟩:=bd_ h18
     refine mid (hn:=hn3) 0 16 [.val (.bool true),.val (.int .i64 (wrap64 (x291 - 1))),.elem (.sl (iI .i64 (rd_L4 x6 (wrap64 (x291 - 1))))),.call (vb b25)] (And.intro (int_gtr (P:=Tryz.prog) (t:=3) (k:=.i64) (x:=(.tmp 309)) (y:=(.const (.int .i64 0))) (a:=x291) (b:=0) (v:=true) (decide_eq_true g13)) (And.intro (int_sub (P:=Tryz.prog) (t:=3) (k:=.i64) (x:=(.tmp 313)) (y:=(.const (.int .i64 1))) (a:=x291) (b:=1) (c:=(wrap64 (x291 - 1))) (IntWalk.i64_left _)) (And.intro (iL_rd (f:=(iI .i64)) (xs:=x6) (i:=(wrap64 (x291 - 1))) g15 g17) (ad_25 c19)))) (by kernel_rfl) ?_
     obtain ⟨g21,h22⟩:=ip_ h20
     subst g21
     exact leafAt (hn:=hn3) 9 [.val (.int .i64 ((rd_L4 x289 x291).length:Int))] [] (at3_l1 _ _ (q3_l1_mk (Nat.lt_succ_self k) h22)) (iI_len (k:=.i64) (xs:=(rd_L4 x289 x291))) (by kernel_rfl)
    ·exact leafAt (hn:=hn3) 9 [.val (.bool false),.val (.int .i64 ((rd_L4 x289 x291).length:Int))] [] (at3_l1 _ _ (q3_l1_mk (Nat.lt_succ_self k) h14)) (And.intro (int_gtr (P:=Tryz.prog) (t:=3) (k:=.i64) (x:=(.tmp 309)) (y:=(.const (.int .i64 0))) (a:=x291) (b:=0) (v:=false) (decide_eq_false g13)) (iI_len (k:=.i64) (xs:=(rd_L4 x289 x291)))) (by kernel_rfl)
   ·exact leafAt (hn:=hn3) 15 [.val (.bool false),.val (.int .i64 (y1.length:Int))] [] (at3_l2 _ _ (q3_l2_mk h2)) (And.intro (int_lss (P:=Tryz.prog) (t:=3) (k:=.i64) (x:=(.tmp 291)) (y:=(.tmp 290)) (a:=x291) (b:=x290) (v:=false) (decide_eq_false g1)) (iI_len (k:=.i64) (xs:=y1))) (by kernel_rfl))
theorem at3_j1 {r:Bool} {k:Nat} {x1:List Int} {y0:List (S64)} {y1:List Int} {x6:List (List Int)} {x7:Bool} {x10:Int} {x14:List Int} {x15:Bool} {x18:List Int} {x19:Bool} {x22:Int} {x23:Int} {x24:Bool} {x32:ByteArray} {x33:Bool} (h:laws_FnPuzzlesFilled.j1 k x1 y0 y1 x6 x7 x10 x14 x15 x18 x19 x22 x23 x24 x32 x33 = some r):AtP Tryz.prog 533 (bodyOf Tryz.f3) (KR Tryz.prog Tryz.f3.results.toList (o3 r) (p3 r)) [true,true,true,true,true,true,true,true,true,true,true,true,true,true,true,true,true,true] [] (lookA [(1,.sl (iI .u8 x1)),(5,.loc 538 0),(6,.sl (iL (iI .i64) x6)),(7,vb x7),(10,vi x10),(14,.sl (iI .i64 x14)),(15,vb x15),(18,.sl (iI .i64 x18)),(19,vb x19),(22,vi x22),(23,vi x23),(24,vb x24),(32,.val (.string x32)),(33,vb x33),(538,.box (.agg [.sl (iS64 y0),.sl (iI .i64 y1)]))]):=by
 cases k with
 | zero => simp [laws_FnPuzzlesFilled.j1] at h
 | succ k =>
  rw [laws_FnPuzzlesFilled.j1] at h
  refine at_ (hn:=hn3) ?_
  rcases ite_ h with ⟨g1,h2⟩ | ⟨g1,h2⟩
  ·subst g1
   obtain ⟨g3,h4⟩:=ip_ h2
   refine mid (hn:=hn3) 7 7 [.val (.int .i64 (x6.length:Int)),.val (.bool false)] (And.intro (iL_len (f:=(iI .i64)) (xs:=x6)) (int_neq (P:=Tryz.prog) (t:=3) (k:=.i64) (x:=(.tmp 275)) (y:=(.tmp 276)) (a:=(x6.length:Int)) (b:=x10) (v:=false) (nbeq_f g3))) (by kernel_rfl) ?_
   rcases ite_ h4 with ⟨g5,h6⟩ | ⟨g5,h6⟩
   ·subst g5
    obtain ⟨g7,h8⟩:=ip_ h6
    obtain ⟨b23,c9,h10⟩:=bd_ h8
    refine mid (hn:=hn3) 0 7 [.elem (.sl (iI .i64 (rd_L4 x6 0))),.call (vb b23)] (And.intro (iL_rd (f:=(iI .i64)) (xs:=x6) (i:=0) (by decide) g7) (ad_21 c9)) (by kernel_rfl) ?_
    obtain ⟨g11,h12⟩:=ip_ h10
    subst g11
    exact leafAt (hn:=hn3) 10 [.val (.int .i64 (x6.length:Int))] [] (at3_l0 _ _ (q3_l0_mk h12)) (iL_len (f:=(iI .i64)) (xs:=x6)) (by kernel_rfl)
   ·obtain rfl:=Bool.eq_false_iff.2 g5
    exact leafAt (hn:=hn3) 10 [.val (.int .i64 (x6.length:Int))] [] (at3_l0 _ _ (q3_l0_mk h6)) (iL_len (f:=(iI .i64)) (xs:=x6)) (by kernel_rfl)
  ·obtain rfl:=Bool.eq_false_iff.2 g1
   exact leafAt (hn:=hn3) 7 [] [] (at3_j4 h2) True.intro (by kernel_rfl)
theorem at3_j0 {r:Bool} {k:Nat} {x1:List Int} {y0:List (S64)} {y1:List Int} {x6:List (List Int)} {x7:Bool} {x10:Int} {x14:List Int} {x15:Bool} {x18:List Int} {x19:Bool} {x22:Int} {x23:Int} {x24:Bool} {x32:ByteArray} {x33:Bool} {x272:Bool} (h:laws_FnPuzzlesFilled.j0 k x1 y0 y1 x6 x7 x10 x14 x15 x18 x19 x22 x23 x24 x32 x33 x272 = some r):AtP Tryz.prog 533 (bodyOf Tryz.f3) (KR Tryz.prog Tryz.f3.results.toList (o3 r) (p3 r)) [true,true,true,true,true,true,true,true,true,true,true,true,true,true,true,true,true,false,true] [] (lookA [(1,.sl (iI .u8 x1)),(5,.loc 538 0),(6,.sl (iL (iI .i64) x6)),(7,vb x7),(10,vi x10),(14,.sl (iI .i64 x14)),(15,vb x15),(18,.sl (iI .i64 x18)),(19,vb x19),(22,vi x22),(23,vi x23),(24,vb x24),(32,.val (.string x32)),(33,vb x33),(272,vb x272),(538,.box (.agg [.sl (iS64 y0),.sl (iI .i64 y1)]))]):=by
 cases k with
 | zero => simp [laws_FnPuzzlesFilled.j0] at h
 | succ k =>
  rw [laws_FnPuzzlesFilled.j0] at h
  refine at_ (hn:=hn3) ?_
  obtain ⟨g1,h2⟩:=in_ h
  obtain rfl:=Bool.eq_false_iff.2 g1
  exact leafAt (hn:=hn3) 3 [] [] (at3_j1 h2) True.intro (by kernel_rfl)
theorem ad_3 {k:Nat} {l0:List Int} {l1:List Int} {r:Bool} (h:laws_FnPuzzlesFilled.f k l0 l1 = some r):CallH Tryz.prog 3 [.sl (iI .u8 l0),.sl (iI .u8 l1)] [] (vb r) []:=by
 unfold laws_FnPuzzlesFilled.f at h
 refine call_ok (c:=bodyOf Tryz.f3) (rs:=o3 r) (post:=p3 r) Tryz.func3 rfl rfl rfl (by kernel_rfl) ?_
 show AtP Tryz.prog 533 (bodyOf Tryz.f3) (KR Tryz.prog Tryz.f3.results.toList (o3 r) (p3 r)) [] [] (lookA [(0,.sl (iI .u8 l0)),(1,.sl (iI .u8 l1))])
 refine at_ (hn:=hn3) ?_
 obtain ⟨b1,c1,h2⟩:=bd_ h
 rcases ite_ h2 with ⟨g3,h4⟩ | ⟨g3,h4⟩
 ·subst g3
  obtain rfl:=Option.some.inj h4
  exact leafRet (hn:=hn3) 13 [.call (vb true)] [] .ret (.inr rfl) (by kernel_rfl) (ad_4 c1) (by kernel_rfl)
 ·obtain rfl:=Bool.eq_false_iff.2 g3
  obtain ⟨⟨b2_1,b2_2⟩,c5,h6⟩:=bd_ h4
  obtain ⟨⟨b3_1,b3_2⟩,c7,h8⟩:=bd_ h6
  obtain ⟨⟨b4_1,b4_2⟩,c9,h10⟩:=bd_ h8
  obtain ⟨⟨b5_1,b5_2⟩,c11,h12⟩:=bd_ h10
  obtain ⟨⟨b6_1,b6_2⟩,c13,h14⟩:=bd_ h12
  obtain ⟨⟨b7_1,b7_2⟩,c15,h16⟩:=bd_ h14
  obtain ⟨⟨b8_1,b8_2⟩,c17,h18⟩:=bd_ h16
  obtain ⟨⟨b9_1,b9_2⟩,c19,h20⟩:=bd_ h18
  obtain ⟨⟨b10_1,b10_2⟩,c21,h22⟩:=bd_ h20
  obtain ⟨⟨b11_1,b11_2,b11_3⟩,c23,h24⟩:=bd_ h22
  obtain ⟨⟨b12_1,b12_2,b12_3⟩,c25,h26⟩:=bd_ h24
  obtain ⟨⟨b13_1,b13_2⟩,c27,h28⟩:=bd_ h26
  obtain ⟨⟨b14_1,b14_2⟩,c29,h30⟩:=bd_ h28
  obtain ⟨⟨b15_1,b15_2⟩,c31,h32⟩:=bd_ h30
  obtain ⟨⟨b16_1,b16_2⟩,c33,h34⟩:=bd_ h32
  try dsimp only at h34
  refine mid (hn:=hn3) 57 2 [.call (vb false),.call (.agg [.sl (iS64 b2_1),.sl (iI .i64 b2_2)]),.call (.tup [.sl (iL (iI .i64) b3_1),vb b3_2]),.call (.tup [.sl (iL (iI .i64) b4_1),vb b4_2]),.call (.tup [vi b5_1,vb b5_2]),.call (.tup [vi b6_1,vb b6_2]),.call (.tup [.sl (iI .i64 b7_1),vb b7_2]),.call (.tup [.sl (iI .i64 b8_1),vb b8_2]),.call (.tup [.sl (iI .i64 b9_1),vb b9_2]),.call (.tup [.sl (iI .i64 b10_1),vb b10_2]),.call (.tup [vi b11_1,vi b11_2,vb b11_3]),.call (.tup [vi b12_1,vi b12_2,vb b12_3]),.call (.tup [vi b13_1,vb b13_2]),.call (.tup [vi b14_1,vb b14_2]),.call (.tup [.val (.string b15_1),vb b15_2]),.call (.tup [.val (.string b16_1),vb b16_2])] (And.intro (ad_4 c1) (And.intro (ad_5 c5) (And.intro (ad_6 c7) (And.intro (ad_7 c9) (And.intro (ad_8 c11) (And.intro (ad_9 c13) (And.intro (ad_10 c15) (And.intro (ad_11 c17) (And.intro (ad_12 c19) (And.intro (ad_13 c21) (And.intro (ad_14 c23) (And.intro (ad_15 c25) (And.intro (ad_16 c27) (And.intro (ad_17 c29) (And.intro (ad_18 c31) (ad_19 c33)))))))))))))))) (by kernel_rfl) ?_
  rcases ite_ h34 with ⟨g35,h36⟩ | ⟨g35,h36⟩
  ·obtain ⟨b17,c37,h38⟩:=bd_ h36
   refine mid (hn:=hn3) 0 8 [.val (.bool false),.call (vb b17)] (And.intro (bool_neq (P:=Tryz.prog) (t:=4) (x:=(.tmp 146)) (y:=(.tmp 147)) (a:=b3_2) (b:=b4_2) Tryz.underlying4 (v:=false) (nbb_f g35)) (ad_20 c37)) (by kernel_rfl) ?_
   rcases ite_ h38 with ⟨g39,h40⟩ | ⟨g39,h40⟩
   ·subst g39
    rcases ite_ h40 with ⟨g41,h42⟩ | ⟨g41,h42⟩
    ·refine mid (hn:=hn3) 0 7 [.val (.bool false)] (bool_neq (P:=Tryz.prog) (t:=4) (x:=(.tmp 156)) (y:=(.tmp 157)) (a:=b5_2) (b:=b6_2) Tryz.underlying4 (v:=false) (nbb_f g41)) (by kernel_rfl) ?_
     rcases ite_ h42 with ⟨g43,h44⟩ | ⟨g43,h44⟩
     ·refine mid (hn:=hn3) 0 5 [.val (.bool false)] (int_neq (P:=Tryz.prog) (t:=3) (k:=.i64) (x:=(.tmp 161)) (y:=(.tmp 162)) (a:=b5_1) (b:=b6_1) (v:=false) (nbeq_f g43)) (by kernel_rfl) ?_
      rcases ite_ h44 with ⟨g45,h46⟩ | ⟨g45,h46⟩
      ·obtain ⟨b18,c47,h48⟩:=bd_ h46
       refine mid (hn:=hn3) 0 9 [.val (.bool false),.call (vb b18)] (And.intro (bool_neq (P:=Tryz.prog) (t:=4) (x:=(.tmp 166)) (y:=(.tmp 167)) (a:=b7_2) (b:=b8_2) Tryz.underlying4 (v:=false) (nbb_f g45)) (ad_21 c47)) (by kernel_rfl) ?_
       rcases ite_ h48 with ⟨g49,h50⟩ | ⟨g49,h50⟩
       ·subst g49
        rcases ite_ h50 with ⟨g51,h52⟩ | ⟨g51,h52⟩
        ·obtain ⟨b19,c53,h54⟩:=bd_ h52
         refine mid (hn:=hn3) 0 11 [.val (.bool false),.call (vb b19)] (And.intro (bool_neq (P:=Tryz.prog) (t:=4) (x:=(.tmp 177)) (y:=(.tmp 178)) (a:=b9_2) (b:=b10_2) Tryz.underlying4 (v:=false) (nbb_f g51)) (ad_21 c53)) (by kernel_rfl) ?_
         rcases ite_ h54 with ⟨g55,h56⟩ | ⟨g55,h56⟩
         ·subst g55
          rcases ite_ h56 with ⟨g57,h58⟩ | ⟨g57,h58⟩
          ·refine mid (hn:=hn3) 0 7 [.val (.bool false)] (bool_neq (P:=Tryz.prog) (t:=4) (x:=(.tmp 188)) (y:=(.tmp 189)) (a:=b11_3) (b:=b12_3) Tryz.underlying4 (v:=false) (nbb_f g57)) (by kernel_rfl) ?_
           rcases ite_ h58 with ⟨g59,h60⟩ | ⟨g59,h60⟩
           ·refine mid (hn:=hn3) 0 5 [.val (.bool false)] (int_neq (P:=Tryz.prog) (t:=3) (k:=.i64) (x:=(.tmp 193)) (y:=(.tmp 194)) (a:=b11_1) (b:=b12_1) (v:=false) (nbeq_f g59)) (by kernel_rfl) ?_
            rcases ite_ h60 with ⟨g61,h62⟩ | ⟨g61,h62⟩
            ·refine mid (hn:=hn3) 0 5 [.val (.bool false)] (int_neq (P:=Tryz.prog) (t:=3) (k:=.i64) (x:=(.tmp 198)) (y:=(.tmp 199)) (a:=b11_2) (b:=b12_2) (v:=false) (nbeq_f g61)) (by kernel_rfl) ?_
             rcases ite_ h62 with ⟨g63,h64⟩ | ⟨g63,h64⟩
             ·refine mid (hn:=hn3) 0 5 [.val (.bool false)] (bool_neq (P:=Tryz.prog) (t:=4) (x:=(.tmp 203)) (y:=(.tmp 204)) (a:=b13_2) (b:=b14_2) Tryz.underlying4 (v:=false) (nbb_f g63)) (by kernel_rfl) ?_
              rcases ite_ h64 with ⟨g65,h66⟩ | ⟨g65,h66⟩
              ·refine mid (hn:=hn3) 0 5 [.val (.bool false)] (int_neq (P:=Tryz.prog) (t:=3) (k:=.i64) (x:=(.tmp 208)) (y:=(.tmp 209)) (a:=b13_1) (b:=b14_1) (v:=false) (nbeq_f g65)) (by kernel_rfl) ?_
               rcases ite_ h66 with ⟨g67,h68⟩ | ⟨g67,h68⟩
               ·refine mid (hn:=hn3) 0 5 [.val (.bool false)] (bool_neq (P:=Tryz.prog) (t:=4) (x:=(.tmp 213)) (y:=(.tmp 214)) (a:=b15_2) (b:=b16_2) Tryz.underlying4 (v:=false) (nbb_f g67)) (by kernel_rfl) ?_
                rcases ite_ h68 with ⟨g69,h70⟩ | ⟨g69,h70⟩
                ·refine mid (hn:=hn3) 0 5 [.val (.bool false)] (str_neq (P:=Tryz.prog) (t:=9) (x:=(.tmp 218)) (y:=(.tmp 219)) (a:=b15_1) (b:=b16_1) (v:=false) (by rw [(beq_iff_eq.2 g69)]; rfl)) (by kernel_rfl) ?_
                 rcases ite_ h70 with ⟨g71,h72⟩ | ⟨g71,h72⟩
                 ·refine mid (hn:=hn3) 0 6 [.val (.bool false)] (bool_neq (P:=Tryz.prog) (t:=4) (x:=(.tmp 223)) (y:=(.tmp 224)) (a:=b5_2) (b:=b3_2) Tryz.underlying4 (v:=false) (nbb_f g71)) (by kernel_rfl) ?_
                  rcases ite_ h72 with ⟨g73,h74⟩ | ⟨g73,h74⟩
                  ·subst g73
                   refine mid (hn:=hn3) 0 3 [.val (.bool (decide (b5_1 > 0)))] (int_gtr (P:=Tryz.prog) (t:=3) (k:=.i64) (x:=(.tmp 231)) (y:=(.const (.int .i64 0))) (a:=b5_1) (b:=0) (v:=(decide (b5_1 > 0))) rfl) (by kernel_rfl) ?_
                   rcases ite_ h74 with ⟨g75,h76⟩ | ⟨g75,h76⟩
                   ·refine mid (hn:=hn3) 0 5 [.val (.bool false)] (bool_neq (P:=Tryz.prog) (t:=4) (x:=(.tmp 228)) (y:=(.tmp 233)) (a:=b7_2) (b:=(decide (b5_1 > 0))) Tryz.underlying4 (v:=false) (nbb_f g75)) (by kernel_rfl) ?_
                    rcases ite_ h76 with ⟨g77,h78⟩ | ⟨g77,h78⟩
                    ·refine mid (hn:=hn3) 0 5 [.val (.bool false)] (bool_neq (P:=Tryz.prog) (t:=4) (x:=(.tmp 237)) (y:=(.tmp 238)) (a:=b9_2) (b:=b7_2) Tryz.underlying4 (v:=false) (nbb_f g77)) (by kernel_rfl) ?_
                     rcases ite_ h78 with ⟨g79,h80⟩ | ⟨g79,h80⟩
                     ·subst g79
                      rcases ite_ h80 with ⟨g81,h82⟩ | ⟨g81,h82⟩
                      ·subst g81
                       obtain ⟨b20,c83,h84⟩:=bd_ h82
                       refine mid (hn:=hn3) 0 8 [.call (vb b20)] (ad_22 c83) (by kernel_rfl) ?_
                       rcases ite_ h84 with ⟨g85,h86⟩ | ⟨g85,h86⟩
                       ·obtain ⟨b21,c87,h88⟩:=bd_ h86
                        obtain ⟨b22,c89,h90⟩:=bd_ h88
                        refine mid (hn:=hn3) 0 7 [.val (.bool false),.call (vb b21),.call (vb b22)] (And.intro (bool_neq (P:=Tryz.prog) (t:=4) (x:=(.tmp 249)) (y:=(.tmp 251)) (a:=b13_2) (b:=b20) Tryz.underlying4 (v:=false) (nbb_f g85)) (And.intro (ad_22 c87) (ad_23 c89))) (by kernel_rfl) ?_
                        rcases ite_ h90 with ⟨g91,h92⟩ | ⟨g91,h92⟩
                        ·refine mid (hn:=hn3) 0 5 [.val (.bool false)] (bool_neq (P:=Tryz.prog) (t:=4) (x:=(.tmp 256)) (y:=(.tmp 258)) (a:=b21) (b:=b22) Tryz.underlying4 (v:=false) (nbb_f g91)) (by kernel_rfl) ?_
                         rcases ite_ h92 with ⟨g93,h94⟩ | ⟨g93,h94⟩
                         ·exact leafAt (hn:=hn3) 2 [.val (.bool false)] [] (at3_j0 h94) (bool_neq (P:=Tryz.prog) (t:=4) (x:=(.tmp 262)) (y:=(.tmp 263)) (a:=b15_2) (b:=b13_2) Tryz.underlying4 (v:=false) (nbb_f g93)) (by kernel_rfl)
                         ·exact leafAt (hn:=hn3) 2 [.val (.bool true)] [] (at3_j0 h94) (bool_neq (P:=Tryz.prog) (t:=4) (x:=(.tmp 262)) (y:=(.tmp 263)) (a:=b15_2) (b:=b13_2) Tryz.underlying4 (v:=true) (nbb_t g93)) (by kernel_rfl)
                        ·exact leafAt (hn:=hn3) 2 [.val (.bool true)] [] (at3_j0 h92) (bool_neq (P:=Tryz.prog) (t:=4) (x:=(.tmp 256)) (y:=(.tmp 258)) (a:=b21) (b:=b22) Tryz.underlying4 (v:=true) (nbb_t g91)) (by kernel_rfl)
                       ·exact leafAt (hn:=hn3) 2 [.val (.bool true)] [] (at3_j0 h86) (bool_neq (P:=Tryz.prog) (t:=4) (x:=(.tmp 249)) (y:=(.tmp 251)) (a:=b13_2) (b:=b20) Tryz.underlying4 (v:=true) (nbb_t g85)) (by kernel_rfl)
                      ·obtain rfl:=Bool.eq_false_iff.2 g81
                       exact leafAt (hn:=hn3) 2 [] [] (at3_j0 h82) True.intro (by kernel_rfl)
                     ·obtain rfl:=Bool.eq_false_iff.2 g79
                      obtain ⟨b42,c95,h96⟩:=bd_ h80
                      refine mid (hn:=hn3) 0 8 [.call (vb b42)] (ad_22 c95) (by kernel_rfl) ?_
                      rcases ite_ h96 with ⟨g97,h98⟩ | ⟨g97,h98⟩
                      ·obtain ⟨b43,c99,h100⟩:=bd_ h98
                       obtain ⟨b44,c101,h102⟩:=bd_ h100
                       refine mid (hn:=hn3) 0 7 [.val (.bool false),.call (vb b43),.call (vb b44)] (And.intro (bool_neq (P:=Tryz.prog) (t:=4) (x:=(.tmp 249)) (y:=(.tmp 251)) (a:=b13_2) (b:=b42) Tryz.underlying4 (v:=false) (nbb_f g97)) (And.intro (ad_22 c99) (ad_23 c101))) (by kernel_rfl) ?_
                       rcases ite_ h102 with ⟨g103,h104⟩ | ⟨g103,h104⟩
                       ·refine mid (hn:=hn3) 0 5 [.val (.bool false)] (bool_neq (P:=Tryz.prog) (t:=4) (x:=(.tmp 256)) (y:=(.tmp 258)) (a:=b43) (b:=b44) Tryz.underlying4 (v:=false) (nbb_f g103)) (by kernel_rfl) ?_
                        rcases ite_ h104 with ⟨g105,h106⟩ | ⟨g105,h106⟩
                        ·exact leafAt (hn:=hn3) 2 [.val (.bool false)] [] (at3_j0 h106) (bool_neq (P:=Tryz.prog) (t:=4) (x:=(.tmp 262)) (y:=(.tmp 263)) (a:=b15_2) (b:=b13_2) Tryz.underlying4 (v:=false) (nbb_f g105)) (by kernel_rfl)
                        ·exact leafAt (hn:=hn3) 2 [.val (.bool true)] [] (at3_j0 h106) (bool_neq (P:=Tryz.prog) (t:=4) (x:=(.tmp 262)) (y:=(.tmp 263)) (a:=b15_2) (b:=b13_2) Tryz.underlying4 (v:=true) (nbb_t g105)) (by kernel_rfl)
                       ·exact leafAt (hn:=hn3) 2 [.val (.bool true)] [] (at3_j0 h104) (bool_neq (P:=Tryz.prog) (t:=4) (x:=(.tmp 256)) (y:=(.tmp 258)) (a:=b43) (b:=b44) Tryz.underlying4 (v:=true) (nbb_t g103)) (by kernel_rfl)
                      ·exact leafAt (hn:=hn3) 2 [.val (.bool true)] [] (at3_j0 h98) (bool_neq (P:=Tryz.prog) (t:=4) (x:=(.tmp 249)) (y:=(.tmp 251)) (a:=b13_2) (b:=b42) Tryz.underlying4 (v:=true) (nbb_t g97)) (by kernel_rfl)
                    ·exact leafAt (hn:=hn3) 2 [.val (.bool true)] [] (at3_j0 h78) (bool_neq (P:=Tryz.prog) (t:=4) (x:=(.tmp 237)) (y:=(.tmp 238)) (a:=b9_2) (b:=b7_2) Tryz.underlying4 (v:=true) (nbb_t g77)) (by kernel_rfl)
                   ·exact leafAt (hn:=hn3) 2 [.val (.bool true)] [] (at3_j0 h76) (bool_neq (P:=Tryz.prog) (t:=4) (x:=(.tmp 228)) (y:=(.tmp 233)) (a:=b7_2) (b:=(decide (b5_1 > 0))) Tryz.underlying4 (v:=true) (nbb_t g75)) (by kernel_rfl)
                  ·obtain rfl:=Bool.eq_false_iff.2 g73
                   rcases ite_ h74 with ⟨g107,h108⟩ | ⟨g107,h108⟩
                   ·refine mid (hn:=hn3) 0 8 [.val (.bool false)] (bool_neq (P:=Tryz.prog) (t:=4) (x:=(.tmp 228)) (y:=(.tmp 233)) (a:=b7_2) (b:=false) Tryz.underlying4 (v:=false) (nbb_f g107)) (by kernel_rfl) ?_
                    rcases ite_ h108 with ⟨g109,h110⟩ | ⟨g109,h110⟩
                    ·refine mid (hn:=hn3) 0 5 [.val (.bool false)] (bool_neq (P:=Tryz.prog) (t:=4) (x:=(.tmp 237)) (y:=(.tmp 238)) (a:=b9_2) (b:=b7_2) Tryz.underlying4 (v:=false) (nbb_f g109)) (by kernel_rfl) ?_
                     rcases ite_ h110 with ⟨g111,h112⟩ | ⟨g111,h112⟩
                     ·subst g111
                      rcases ite_ h112 with ⟨g113,h114⟩ | ⟨g113,h114⟩
                      ·subst g113
                       obtain ⟨b45,c115,h116⟩:=bd_ h114
                       refine mid (hn:=hn3) 0 8 [.call (vb b45)] (ad_22 c115) (by kernel_rfl) ?_
                       rcases ite_ h116 with ⟨g117,h118⟩ | ⟨g117,h118⟩
                       ·obtain ⟨b46,c119,h120⟩:=bd_ h118
                        obtain ⟨b47,c121,h122⟩:=bd_ h120
                        refine mid (hn:=hn3) 0 7 [.val (.bool false),.call (vb b46),.call (vb b47)] (And.intro (bool_neq (P:=Tryz.prog) (t:=4) (x:=(.tmp 249)) (y:=(.tmp 251)) (a:=b13_2) (b:=b45) Tryz.underlying4 (v:=false) (nbb_f g117)) (And.intro (ad_22 c119) (ad_23 c121))) (by kernel_rfl) ?_
                        rcases ite_ h122 with ⟨g123,h124⟩ | ⟨g123,h124⟩
                        ·refine mid (hn:=hn3) 0 5 [.val (.bool false)] (bool_neq (P:=Tryz.prog) (t:=4) (x:=(.tmp 256)) (y:=(.tmp 258)) (a:=b46) (b:=b47) Tryz.underlying4 (v:=false) (nbb_f g123)) (by kernel_rfl) ?_
                         rcases ite_ h124 with ⟨g125,h126⟩ | ⟨g125,h126⟩
                         ·exact leafAt (hn:=hn3) 2 [.val (.bool false)] [] (at3_j0 h126) (bool_neq (P:=Tryz.prog) (t:=4) (x:=(.tmp 262)) (y:=(.tmp 263)) (a:=b15_2) (b:=b13_2) Tryz.underlying4 (v:=false) (nbb_f g125)) (by kernel_rfl)
                         ·exact leafAt (hn:=hn3) 2 [.val (.bool true)] [] (at3_j0 h126) (bool_neq (P:=Tryz.prog) (t:=4) (x:=(.tmp 262)) (y:=(.tmp 263)) (a:=b15_2) (b:=b13_2) Tryz.underlying4 (v:=true) (nbb_t g125)) (by kernel_rfl)
                        ·exact leafAt (hn:=hn3) 2 [.val (.bool true)] [] (at3_j0 h124) (bool_neq (P:=Tryz.prog) (t:=4) (x:=(.tmp 256)) (y:=(.tmp 258)) (a:=b46) (b:=b47) Tryz.underlying4 (v:=true) (nbb_t g123)) (by kernel_rfl)
                       ·exact leafAt (hn:=hn3) 2 [.val (.bool true)] [] (at3_j0 h118) (bool_neq (P:=Tryz.prog) (t:=4) (x:=(.tmp 249)) (y:=(.tmp 251)) (a:=b13_2) (b:=b45) Tryz.underlying4 (v:=true) (nbb_t g117)) (by kernel_rfl)
                      ·obtain rfl:=Bool.eq_false_iff.2 g113
                       exact leafAt (hn:=hn3) 2 [] [] (at3_j0 h114) True.intro (by kernel_rfl)
                     ·obtain rfl:=Bool.eq_false_iff.2 g111
                      obtain ⟨b48,c127,h128⟩:=bd_ h112
                      refine mid (hn:=hn3) 0 8 [.call (vb b48)] (ad_22 c127) (by kernel_rfl) ?_
                      rcases ite_ h128 with ⟨g129,h130⟩ | ⟨g129,h130⟩
                      ·obtain ⟨b49,c131,h132⟩:=bd_ h130
                       obtain ⟨b50,c133,h134⟩:=bd_ h132
                       refine mid (hn:=hn3) 0 7 [.val (.bool false),.call (vb b49),.call (vb b50)] (And.intro (bool_neq (P:=Tryz.prog) (t:=4) (x:=(.tmp 249)) (y:=(.tmp 251)) (a:=b13_2) (b:=b48) Tryz.underlying4 (v:=false) (nbb_f g129)) (And.intro (ad_22 c131) (ad_23 c133))) (by kernel_rfl) ?_
                       rcases ite_ h134 with ⟨g135,h136⟩ | ⟨g135,h136⟩
                       ·refine mid (hn:=hn3) 0 5 [.val (.bool false)] (bool_neq (P:=Tryz.prog) (t:=4) (x:=(.tmp 256)) (y:=(.tmp 258)) (a:=b49) (b:=b50) Tryz.underlying4 (v:=false) (nbb_f g135)) (by kernel_rfl) ?_
                        rcases ite_ h136 with ⟨g137,h138⟩ | ⟨g137,h138⟩
                        ·exact leafAt (hn:=hn3) 2 [.val (.bool false)] [] (at3_j0 h138) (bool_neq (P:=Tryz.prog) (t:=4) (x:=(.tmp 262)) (y:=(.tmp 263)) (a:=b15_2) (b:=b13_2) Tryz.underlying4 (v:=false) (nbb_f g137)) (by kernel_rfl)
                        ·exact leafAt (hn:=hn3) 2 [.val (.bool true)] [] (at3_j0 h138) (bool_neq (P:=Tryz.prog) (t:=4) (x:=(.tmp 262)) (y:=(.tmp 263)) (a:=b15_2) (b:=b13_2) Tryz.underlying4 (v:=true) (nbb_t g137)) (by kernel_rfl)
                       ·exact leafAt (hn:=hn3) 2 [.val (.bool true)] [] (at3_j0 h136) (bool_neq (P:=Tryz.prog) (t:=4) (x:=(.tmp 256)) (y:=(.tmp 258)) (a:=b49) (b:=b50) Tryz.underlying4 (v:=true) (nbb_t g135)) (by kernel_rfl)
                      ·exact leafAt (hn:=hn3) 2 [.val (.bool true)] [] (at3_j0 h130) (bool_neq (P:=Tryz.prog) (t:=4) (x:=(.tmp 249)) (y:=(.tmp 251)) (a:=b13_2) (b:=b48) Tryz.underlying4 (v:=true) (nbb_t g129)) (by kernel_rfl)
                    ·exact leafAt (hn:=hn3) 2 [.val (.bool true)] [] (at3_j0 h110) (bool_neq (P:=Tryz.prog) (t:=4) (x:=(.tmp 237)) (y:=(.tmp 238)) (a:=b9_2) (b:=b7_2) Tryz.underlying4 (v:=true) (nbb_t g109)) (by kernel_rfl)
                   ·exact leafAt (hn:=hn3) 2 [.val (.bool true)] [] (at3_j0 h108) (bool_neq (P:=Tryz.prog) (t:=4) (x:=(.tmp 228)) (y:=(.tmp 233)) (a:=b7_2) (b:=false) Tryz.underlying4 (v:=true) (nbb_t g107)) (by kernel_rfl)
                 ·exact leafAt (hn:=hn3) 2 [.val (.bool true)] [] (at3_j0 h72) (bool_neq (P:=Tryz.prog) (t:=4) (x:=(.tmp 223)) (y:=(.tmp 224)) (a:=b5_2) (b:=b3_2) Tryz.underlying4 (v:=true) (nbb_t g71)) (by kernel_rfl)
                ·exact leafAt (hn:=hn3) 2 [.val (.bool true)] [] (at3_j0 h70) (str_neq (P:=Tryz.prog) (t:=9) (x:=(.tmp 218)) (y:=(.tmp 219)) (a:=b15_1) (b:=b16_1) (v:=true) (by rw [(beq_false_of_ne g69)]; rfl)) (by kernel_rfl)
               ·exact leafAt (hn:=hn3) 2 [.val (.bool true)] [] (at3_j0 h68) (bool_neq (P:=Tryz.prog) (t:=4) (x:=(.tmp 213)) (y:=(.tmp 214)) (a:=b15_2) (b:=b16_2) Tryz.underlying4 (v:=true) (nbb_t g67)) (by kernel_rfl)
              ·exact leafAt (hn:=hn3) 2 [.val (.bool true)] [] (at3_j0 h66) (int_neq (P:=Tryz.prog) (t:=3) (k:=.i64) (x:=(.tmp 208)) (y:=(.tmp 209)) (a:=b13_1) (b:=b14_1) (v:=true) (nbeq_t g65)) (by kernel_rfl)
             ·exact leafAt (hn:=hn3) 2 [.val (.bool true)] [] (at3_j0 h64) (bool_neq (P:=Tryz.prog) (t:=4) (x:=(.tmp 203)) (y:=(.tmp 204)) (a:=b13_2) (b:=b14_2) Tryz.underlying4 (v:=true) (nbb_t g63)) (by kernel_rfl)
            ·exact leafAt (hn:=hn3) 2 [.val (.bool true)] [] (at3_j0 h62) (int_neq (P:=Tryz.prog) (t:=3) (k:=.i64) (x:=(.tmp 198)) (y:=(.tmp 199)) (a:=b11_2) (b:=b12_2) (v:=true) (nbeq_t g61)) (by kernel_rfl)
           ·exact leafAt (hn:=hn3) 2 [.val (.bool true)] [] (at3_j0 h60) (int_neq (P:=Tryz.prog) (t:=3) (k:=.i64) (x:=(.tmp 193)) (y:=(.tmp 194)) (a:=b11_1) (b:=b12_1) (v:=true) (nbeq_t g59)) (by kernel_rfl)
          ·exact leafAt (hn:=hn3) 2 [.val (.bool true)] [] (at3_j0 h58) (bool_neq (P:=Tryz.prog) (t:=4) (x:=(.tmp 188)) (y:=(.tmp 189)) (a:=b11_3) (b:=b12_3) Tryz.underlying4 (v:=true) (nbb_t g57)) (by kernel_rfl)
         ·obtain rfl:=Bool.eq_false_iff.2 g55
          exact leafAt (hn:=hn3) 2 [] [] (at3_j0 h56) True.intro (by kernel_rfl)
        ·exact leafAt (hn:=hn3) 2 [.val (.bool true)] [] (at3_j0 h52) (bool_neq (P:=Tryz.prog) (t:=4) (x:=(.tmp 177)) (y:=(.tmp 178)) (a:=b9_2) (b:=b10_2) Tryz.underlying4 (v:=true) (nbb_t g51)) (by kernel_rfl)
       ·obtain rfl:=Bool.eq_false_iff.2 g49
        exact leafAt (hn:=hn3) 2 [] [] (at3_j0 h50) True.intro (by kernel_rfl)
      ·exact leafAt (hn:=hn3) 2 [.val (.bool true)] [] (at3_j0 h46) (bool_neq (P:=Tryz.prog) (t:=4) (x:=(.tmp 166)) (y:=(.tmp 167)) (a:=b7_2) (b:=b8_2) Tryz.underlying4 (v:=true) (nbb_t g45)) (by kernel_rfl)
     ·exact leafAt (hn:=hn3) 2 [.val (.bool true)] [] (at3_j0 h44) (int_neq (P:=Tryz.prog) (t:=3) (k:=.i64) (x:=(.tmp 161)) (y:=(.tmp 162)) (a:=b5_1) (b:=b6_1) (v:=true) (nbeq_t g43)) (by kernel_rfl)
    ·exact leafAt (hn:=hn3) 2 [.val (.bool true)] [] (at3_j0 h42) (bool_neq (P:=Tryz.prog) (t:=4) (x:=(.tmp 156)) (y:=(.tmp 157)) (a:=b5_2) (b:=b6_2) Tryz.underlying4 (v:=true) (nbb_t g41)) (by kernel_rfl)
   ·obtain rfl:=Bool.eq_false_iff.2 g39
    exact leafAt (hn:=hn3) 2 [] [] (at3_j0 h40) True.intro (by kernel_rfl)
  ·exact leafAt (hn:=hn3) 2 [.val (.bool true)] [] (at3_j0 h36) (bool_neq (P:=Tryz.prog) (t:=4) (x:=(.tmp 146)) (y:=(.tmp 147)) (a:=b3_2) (b:=b4_2) Tryz.underlying4 (v:=true) (nbb_t g35)) (by kernel_rfl)

theorem laws_FnPuzzlesFilled.calls (k:Nat) (A0:Option Addr) (c0:Nat) (l0:List Int) (A1:Option Addr) (c1:Nat) (l1:List Int) (r:Bool) (w:World) (hr0:Kd.C (Kd.int .u8) w A0 l0.length l0) (hc0:l0.length ≤ c0) (hr1:Kd.C (Kd.int .u8) w A1 l1.length l1) (hc1:l1.length ≤ c1) (h:laws_FnPuzzlesFilled.f k l0 l1 = some r) (hm:MaxLen w) :
    Calls Tryz.prog 3 #[.slice A0 l0.length c0,.slice A1 l1.length c1] w fun e w' => e = .returned (.bool r) ∧ Below w.heap.size w w':=by
  have ha:Args w (fun b _ => b < w.heap.size) _ [.slice A0 l0.length c0,.slice A1 l1.length c1]:=(.cons (rep_of (flat_int .u8) hr0 hc0 Nat.one_pos (fun _ _ h _ => h)) (.cons (rep_of (flat_int .u8) hr1 hc1 Nat.one_pos (fun _ _ h _ => h)) .nil))
  exact law_calls (ad_3 h) ha (by intro g_ v_ h_; cases h_; obtain ⟨m_,hm_⟩:=hm; exact ⟨_,hm_,m_,rfl⟩)
end Go.Proofs.YtgdefohillhdoaaGreatDoor.QFnPuzzlesFilled
