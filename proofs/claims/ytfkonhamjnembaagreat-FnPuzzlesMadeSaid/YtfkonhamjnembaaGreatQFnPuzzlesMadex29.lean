/- The reflected proofs, part 2. -/
import Derived.Test.YtfkonhamjnembaaGreatQFnPuzzlesMadex28
namespace Go.Proofs.YtfkonhamjnembaaGreat.QFnPuzzlesMade
open Go.RowKit Go.Rh Go.Proofs.YtfkonhamjnembaaGreatW.PrintWords Go.Proofs.YtfkonhamjnembaaGreatW.PrintLast Go.Proofs.YtfkonhamjnembaaGreatW.PrintMore
set_option linter.unusedVariables false
set_option linter.unusedSimpArgs false
def hn19:Hint:=⟨[(2,[25]),(9,[31]),(11,[31]),(13,[31]),(17,[31]),(19,[31])]⟩
def o19 (r:(List (S67)) × List Int × Int × Int):List AV:=[.agg [.sl (iS67 r.1),.sl (iI .i64 r.2.1)],vi r.2.2.1,vi r.2.2.2]
def p19 (r:(List (S67)) × List Int × Int × Int):List (Nat × AV):=[]
set_option maxRecDepth 100000 in
theorem ad_19 {k:Nat} {l0:List Int} {r1:List (S67)} {r2:List Int} {r3:Int} {r4:Int} (h:spec_DrawFillGap.f k l0 = some (r1,r2,r3,r4)):CallH Tryz.prog 19 [.sl (iI .u8 l0)] [] (.tup [.agg [.sl (iS67 r1),.sl (iI .i64 r2)],vi r3,vi r4]) []:=by
 unfold spec_DrawFillGap.f at h
 refine call_ok (c:=bodyOf Tryz.f19) (rs:=o19 (r1,r2,r3,r4)) (post:=p19 (r1,r2,r3,r4)) Tryz.func19 rfl rfl rfl (by kernel_rfl) ?_
 show AtP Tryz.prog 23 (bodyOf Tryz.f19) (KR Tryz.prog Tryz.f19.results.toList (o19 (r1,r2,r3,r4)) (p19 (r1,r2,r3,r4))) [] [] (lookA [(0,.sl (iI .u8 l0))])
 obtain ⟨⟨bt600_1,bt600_2,bt600_3,bt600_4⟩,c1,h2⟩:=bd_ h
 try dsimp only at h2
 obtain ⟨⟨bt608_1,bt608_2,bt608_3⟩,c3,h4⟩:=bd_ h2
 try dsimp only at h4
 obtain ⟨⟨bt611_1,bt611_2,bt611_3⟩,c5,h6⟩:=bd_ h4
 try dsimp only at h6
 obtain ⟨⟨bt614_1,bt614_2,bt614_3⟩,c7,h8⟩:=bd_ h6
 try dsimp only at h8
 obtain ⟨⟨bt617_1,bt617_2,bt617_3⟩,c9,h10⟩:=bd_ h8
 try dsimp only at h10
 obtain ⟨rfl,rfl,rfl,rfl⟩:=pr4_ h10
 exact leafRet (hn:=hn19) 10 [.go,.callH [31] (.agg [.sl (iS67 bt600_1),.sl (iI .i64 bt600_2)]) [(31,.box (.agg [.sl (iI .u8 l0),vi bt600_3,.val (.int .u64 bt600_4)]))],.callH [31] (vi bt608_1) [(31,.box (.agg [.sl (iI .u8 l0),vi bt608_2,.val (.int .u64 bt608_3)]))],.callH [31] (vi bt611_1) [(31,.box (.agg [.sl (iI .u8 l0),vi bt611_2,.val (.int .u64 bt611_3)]))],.val (.int .i64 (wrap64 (Int.tdiv bt611_1 8))),.val (.int .i64 (wrap64 (bt608_1 - (wrap64 (Int.tdiv bt611_1 8))))),.callH [31] (vi bt614_1) [(31,.box (.agg [.sl (iI .u8 l0),vi bt614_2,.val (.int .u64 bt614_3)]))],.callH [31] (vi bt617_1) [(31,.box (.agg [.sl (iI .u8 l0),vi bt617_2,.val (.int .u64 bt617_3)]))],.val (.int .i64 (wrap64 (Int.tdiv bt617_1 8))),.val (.int .i64 (wrap64 (bt614_1 - (wrap64 (Int.tdiv bt617_1 8)))))] [] .ret (.inr rfl) (by kernel_rfl) (And.intro (CallH.ren [(1000000,31)] rfl rfl (ad_49 c1)) (And.intro (CallH.ren [(1000000,31)] rfl rfl (ad_31 c3)) (And.intro (CallH.ren [(1000000,31)] rfl rfl (ad_31 c5)) (And.intro (int_quo (P:=Tryz.prog) (t:=3) (k:=.i64) (x:=(.tmp 14)) (y:=(.const (.int .i64 8))) (a:=bt611_1) (b:=8) (c:=(wrap64 (Int.tdiv bt611_1 8))) (by decide) (IntWalk.i64_left _)) (And.intro (int_sub (P:=Tryz.prog) (t:=3) (k:=.i64) (x:=(.tmp 12)) (y:=(.tmp 15)) (a:=bt608_1) (b:=(wrap64 (Int.tdiv bt611_1 8))) (c:=(wrap64 (bt608_1 - (wrap64 (Int.tdiv bt611_1 8))))) (IntWalk.i64_left _)) (And.intro (CallH.ren [(1000000,31)] rfl rfl (ad_31 c7)) (And.intro (CallH.ren [(1000000,31)] rfl rfl (ad_31 c9)) (And.intro (int_quo (P:=Tryz.prog) (t:=3) (k:=.i64) (x:=(.tmp 20)) (y:=(.const (.int .i64 8))) (a:=bt617_1) (b:=8) (c:=(wrap64 (Int.tdiv bt617_1 8))) (by decide) (IntWalk.i64_left _)) (int_sub (P:=Tryz.prog) (t:=3) (k:=.i64) (x:=(.tmp 18)) (y:=(.tmp 21)) (a:=bt614_1) (b:=(wrap64 (Int.tdiv bt617_1 8))) (c:=(wrap64 (bt614_1 - (wrap64 (Int.tdiv bt617_1 8))))) (IntWalk.i64_left _)))))))))) (by kernel_rfl)

def hn62:Hint:=⟨[]⟩
def o62 (r:Bool):List AV:=[vb r]
def p62 (r:Bool):List (Nat × AV):=[]
set_option maxRecDepth 100000 in
theorem ad_62 {a0:Int} {r:Bool} (h:impl_isNumber.f a0 = some r):CallH Tryz.prog 62 [vi a0] [] (vb r) []:=by
 unfold impl_isNumber.f at h
 refine call_ok (c:=bodyOf Tryz.f62) (rs:=o62 r) (post:=p62 r) Tryz.func62 rfl rfl rfl (by kernel_rfl) ?_
 show AtP Tryz.prog 5 (bodyOf Tryz.f62) (KR Tryz.prog Tryz.f62.results.toList (o62 r) (p62 r)) [] [] (lookA [(0,vi a0)])
 obtain ⟨t620,c1,h2⟩:=bd_ h
 obtain rfl:=Option.some.inj h2
 exact leafRet (hn:=hn62) 7 [.call (vb t620)] [] .ret (.inr rfl) (by kernel_rfl) (ad_33 c1) (by kernel_rfl)

def hn20:Hint:=⟨[(3,[33]),(6,[36]),(18,[33])]⟩
def o20 (r:(List (S67)) × List Int × Bool):List AV:=[.agg [.sl (iS67 r.1),.sl (iI .i64 r.2.1)],vb r.2.2]
def p20 (r:(List (S67)) × List Int × Bool):List (Nat × AV):=[]
set_option maxRecDepth 100000 in
theorem ad_20 {k:Nat} {l0_0:List (S67)} {l0_1:List Int} {a1:Int} {a2:Int} {r1:List (S67)} {r2:List Int} {r3:Bool} (h:impl_FillGap.f k l0_0 l0_1 a1 a2 = some (r1,r2,r3)):CallH Tryz.prog 20 [.agg [.sl (iS67 l0_0),.sl (iI .i64 l0_1)],vi a1,vi a2] [] (.tup [.agg [.sl (iS67 r1),.sl (iI .i64 r2)],vb r3]) []:=by
 unfold impl_FillGap.f at h
 refine call_ok (c:=bodyOf Tryz.f20) (rs:=o20 (r1,r2,r3)) (post:=p20 (r1,r2,r3)) Tryz.func20 rfl rfl rfl (by kernel_rfl) ?_
 show AtP Tryz.prog 30 (bodyOf Tryz.f20) (KR Tryz.prog Tryz.f20.results.toList (o20 (r1,r2,r3)) (p20 (r1,r2,r3))) [] [] (lookA [(0,.agg [.sl (iS67 l0_0),.sl (iI .i64 l0_1)]),(1,vi a1),(2,vi a2)])
 obtain ⟨t623,c1,h2⟩:=bd_ h
 rcases ite_ h2 with ⟨g3,h4⟩ | ⟨g3,h4⟩
 ·subst g3
  obtain ⟨t624,c5,h6⟩:=bd_ h4
  rcases ite_ h6 with ⟨g7,h8⟩ | ⟨g7,h8⟩
  ·subst g7
   obtain ⟨g9,h10⟩:=ip_ h8
   obtain ⟨g11,h12⟩:=ip_ h10
   rcases ite_ h12 with ⟨g13,h14⟩ | ⟨g13,h14⟩
   ·obtain ⟨⟨bt626_1,bt626_2⟩,c15,h16⟩:=bd_ h14
    try dsimp only at h16
    obtain ⟨rfl,rfl,rfl⟩:=pr3_ h16
    exact leafRet (hn:=hn20) 14 [.call (vb true),.call (vb true),.elem (vi (rd l0_1 a1)),.val (.bool false),.call (.agg [.sl (iS67 bt626_1),.sl (iI .i64 bt626_2)])] [] .ret (.inr rfl) (by kernel_rfl) (And.intro (And.intro (ad_61 c1) (And.intro (ad_62 c5) (And.intro (iI_rd (k:=.i64) (xs:=l0_1) (i:=a1) g9 g11) (int_neq (P:=Tryz.prog) (t:=3) (k:=.i64) (x:=(.tmp 22)) (y:=(.const (.int .i64 (-1)))) (a:=(rd l0_1 a1)) (b:=(-1)) (v:=false) (nbeq_f g13))))) (ad_55 c15)) (by kernel_rfl)
   ·obtain ⟨rfl,rfl,rfl⟩:=pr3_ h14
    exact leafRet (hn:=hn20) 13 [.call (vb true),.call (vb true),.elem (vi (rd l0_1 a1)),.val (.bool true),.go] [] .ret (.inr rfl) (by kernel_rfl) (And.intro (ad_61 c1) (And.intro (ad_62 c5) (And.intro (iI_rd (k:=.i64) (xs:=l0_1) (i:=a1) g9 g11) (int_neq (P:=Tryz.prog) (t:=3) (k:=.i64) (x:=(.tmp 22)) (y:=(.const (.int .i64 (-1)))) (a:=(rd l0_1 a1)) (b:=(-1)) (v:=true) (nbeq_t g13))))) (by kernel_rfl)
  ·obtain rfl:=Bool.eq_false_iff.2 g7
   obtain ⟨rfl,rfl,rfl⟩:=pr3_ h8
   exact leafRet (hn:=hn20) 13 [.call (vb true),.call (vb false),.go] [] .ret (.inr rfl) (by kernel_rfl) (And.intro (ad_61 c1) (ad_62 c5)) (by kernel_rfl)
 ·obtain rfl:=Bool.eq_false_iff.2 g3
  obtain ⟨rfl,rfl,rfl⟩:=pr3_ h4
  exact leafRet (hn:=hn20) 13 [.call (vb false),.go] [] .ret (.inr rfl) (by kernel_rfl) (ad_61 c1) (by kernel_rfl)

def hn63:Hint:=⟨[(2,[17]),(9,[17])]⟩
def o63 (r:Bool):List AV:=[vb r]
def p63 (r:Bool):List (Nat × AV):=[]
set_option maxRecDepth 100000 in
theorem ad_63 {k:Nat} {l0_0:List (S67)} {l0_1:List Int} {a1:Int} {r:Bool} (h:spec_pzPlace.f k l0_0 l0_1 a1 = some r):CallH Tryz.prog 63 [.agg [.sl (iS67 l0_0),.sl (iI .i64 l0_1)],vi a1] [] (vb r) []:=by
 unfold spec_pzPlace.f at h
 refine call_ok (c:=bodyOf Tryz.f63) (rs:=o63 r) (post:=p63 r) Tryz.func63 rfl rfl rfl (by kernel_rfl) ?_
 show AtP Tryz.prog 15 (bodyOf Tryz.f63) (KR Tryz.prog Tryz.f63.results.toList (o63 r) (p63 r)) [] [] (lookA [(0,.agg [.sl (iS67 l0_0),.sl (iI .i64 l0_1)]),(1,vi a1)])
 obtain ⟨t633,c1,h2⟩:=bd_ h
 rcases ite_ h2 with ⟨g3,h4⟩ | ⟨g3,h4⟩
 ·subst g3
  obtain ⟨t634,c5,h6⟩:=bd_ h4
  obtain rfl:=Option.some.inj h6
  exact leafRet (hn:=hn63) 7 [.call (vb true),.val (.int .i64 (l0_1.length:Int)),.val (.int .i64 (wrap64 ((l0_1.length:Int) - 1))),.call (vb t634)] [] .ret (.inr rfl) (by kernel_rfl) (And.intro (ad_50 c1) (And.intro (iI_len (k:=.i64) (xs:=l0_1)) (And.intro (int_sub (P:=Tryz.prog) (t:=3) (k:=.i64) (x:=(.tmp 11)) (y:=(.const (.int .i64 1))) (a:=(l0_1.length:Int)) (b:=1) (c:=(wrap64 ((l0_1.length:Int) - 1))) (IntWalk.i64_left _)) (ad_38 c5)))) (by kernel_rfl)
 ·obtain rfl:=Bool.eq_false_iff.2 g3
  obtain rfl:=Option.some.inj h4
  exact leafRet (hn:=hn63) 7 [.call (vb false)] [] .ret (.inr rfl) (by kernel_rfl) (ad_50 c1) (by kernel_rfl)

def hn64:Hint:=⟨[]⟩
def o64 (r:Bool):List AV:=[vb r]
def p64 (r:Bool):List (Nat × AV):=[]
set_option maxRecDepth 100000 in
theorem ad_64 {a0:Int} {r:Bool} (h:spec_tiNumber.f a0 = some r):CallH Tryz.prog 64 [vi a0] [] (vb r) []:=by
 unfold spec_tiNumber.f at h
 refine call_ok (c:=bodyOf Tryz.f64) (rs:=o64 r) (post:=p64 r) Tryz.func64 rfl rfl rfl (by kernel_rfl) ?_
 show AtP Tryz.prog 5 (bodyOf Tryz.f64) (KR Tryz.prog Tryz.f64.results.toList (o64 r) (p64 r)) [] [] (lookA [(0,vi a0)])
 obtain ⟨t635,c1,h2⟩:=bd_ h
 obtain rfl:=Option.some.inj h2
 exact leafRet (hn:=hn64) 7 [.call (vb t635)] [] .ret (.inr rfl) (by kernel_rfl) (ad_38 c1) (by kernel_rfl)

def hn21:Hint:=⟨[(3,[33]),(6,[36]),(18,[33])]⟩
def o21 (r:(List (S67)) × List Int × Bool):List AV:=[.agg [.sl (iS67 r.1),.sl (iI .i64 r.2.1)],vb r.2.2]
def p21 (r:(List (S67)) × List Int × Bool):List (Nat × AV):=[]
set_option maxRecDepth 100000 in
theorem ad_21 {k:Nat} {l0_0:List (S67)} {l0_1:List Int} {a1:Int} {a2:Int} {r1:List (S67)} {r2:List Int} {r3:Bool} (h:spec_FillGap.f k l0_0 l0_1 a1 a2 = some (r1,r2,r3)):CallH Tryz.prog 21 [.agg [.sl (iS67 l0_0),.sl (iI .i64 l0_1)],vi a1,vi a2] [] (.tup [.agg [.sl (iS67 r1),.sl (iI .i64 r2)],vb r3]) []:=by
 unfold spec_FillGap.f at h
 refine call_ok (c:=bodyOf Tryz.f21) (rs:=o21 (r1,r2,r3)) (post:=p21 (r1,r2,r3)) Tryz.func21 rfl rfl rfl (by kernel_rfl) ?_
 show AtP Tryz.prog 30 (bodyOf Tryz.f21) (KR Tryz.prog Tryz.f21.results.toList (o21 (r1,r2,r3)) (p21 (r1,r2,r3))) [] [] (lookA [(0,.agg [.sl (iS67 l0_0),.sl (iI .i64 l0_1)]),(1,vi a1),(2,vi a2)])
 obtain ⟨t638,c1,h2⟩:=bd_ h
 rcases ite_ h2 with ⟨g3,h4⟩ | ⟨g3,h4⟩
 ·subst g3
  obtain ⟨t639,c5,h6⟩:=bd_ h4
  rcases ite_ h6 with ⟨g7,h8⟩ | ⟨g7,h8⟩
  ·subst g7
   obtain ⟨g9,h10⟩:=ip_ h8
   obtain ⟨g11,h12⟩:=ip_ h10
   rcases ite_ h12 with ⟨g13,h14⟩ | ⟨g13,h14⟩
   ·obtain ⟨rfl,rfl,rfl⟩:=pr3_ h14
    exact leafRet (hn:=hn21) 13 [.call (vb true),.call (vb true),.elem (vi (rd l0_1 a1)),.val (.bool true),.go] [] .ret (.inr rfl) (by kernel_rfl) (And.intro (ad_63 c1) (And.intro (ad_64 c5) (And.intro (iI_rd (k:=.i64) (xs:=l0_1) (i:=a1) g9 g11) (int_geq (P:=Tryz.prog) (t:=3) (k:=.i64) (x:=(.tmp 22)) (y:=(.const (.int .i64 0))) (a:=(rd l0_1 a1)) (b:=0) (v:=true) (decide_eq_true g13))))) (by kernel_rfl)
   ·obtain ⟨⟨bt641_1,bt641_2⟩,c15,h16⟩:=bd_ h14
    try dsimp only at h16
    obtain ⟨rfl,rfl,rfl⟩:=pr3_ h16
    exact leafRet (hn:=hn21) 14 [.call (vb true),.call (vb true),.elem (vi (rd l0_1 a1)),.val (.bool false),.call (.agg [.sl (iS67 bt641_1),.sl (iI .i64 bt641_2)])] [] .ret (.inr rfl) (by kernel_rfl) (And.intro (And.intro (ad_63 c1) (And.intro (ad_64 c5) (And.intro (iI_rd (k:=.i64) (xs:=l0_1) (i:=a1) g9 g11) (int_geq (P:=Tryz.prog) (t:=3) (k:=.i64) (x:=(.tmp 22)) (y:=(.const (.int .i64 0))) (a:=(rd l0_1 a1)) (b:=0) (v:=false) (decide_eq_false g13))))) (ad_58 c15)) (by kernel_rfl)
  ·obtain rfl:=Bool.eq_false_iff.2 g7
   obtain ⟨rfl,rfl,rfl⟩:=pr3_ h8
   exact leafRet (hn:=hn21) 13 [.call (vb true),.call (vb false),.go] [] .ret (.inr rfl) (by kernel_rfl) (And.intro (ad_63 c1) (ad_64 c5)) (by kernel_rfl)
 ·obtain rfl:=Bool.eq_false_iff.2 g3
  obtain ⟨rfl,rfl,rfl⟩:=pr3_ h4
  exact leafRet (hn:=hn21) 13 [.call (vb false),.go] [] .ret (.inr rfl) (by kernel_rfl) (ad_63 c1) (by kernel_rfl)

def hn22:Hint:=⟨[(2,[18]),(8,[23]),(10,[23]),(12,[23])]⟩
def o22 (r:(List (S67)) × List Int × Int):List AV:=[.agg [.sl (iS67 r.1),.sl (iI .i64 r.2.1)],vi r.2.2]
def p22 (r:(List (S67)) × List Int × Int):List (Nat × AV):=[]
set_option maxRecDepth 100000 in
theorem ad_22 {k:Nat} {l0:List Int} {r1:List (S67)} {r2:List Int} {r3:Int} (h:spec_DrawOpenGap.f k l0 = some (r1,r2,r3)):CallH Tryz.prog 22 [.sl (iI .u8 l0)] [] (.tup [.agg [.sl (iS67 r1),.sl (iI .i64 r2)],vi r3]) []:=by
 unfold spec_DrawOpenGap.f at h
 refine call_ok (c:=bodyOf Tryz.f22) (rs:=o22 (r1,r2,r3)) (post:=p22 (r1,r2,r3)) Tryz.func22 rfl rfl rfl (by kernel_rfl) ?_
 show AtP Tryz.prog 16 (bodyOf Tryz.f22) (KR Tryz.prog Tryz.f22.results.toList (o22 (r1,r2,r3)) (p22 (r1,r2,r3))) [] [] (lookA [(0,.sl (iI .u8 l0))])
 obtain ⟨⟨bt649_1,bt649_2,bt649_3,bt649_4⟩,c1,h2⟩:=bd_ h
 try dsimp only at h2
 obtain ⟨⟨bt657_1,bt657_2,bt657_3⟩,c3,h4⟩:=bd_ h2
 try dsimp only at h4
 obtain ⟨⟨bt660_1,bt660_2,bt660_3⟩,c5,h6⟩:=bd_ h4
 try dsimp only at h6
 obtain ⟨rfl,rfl,rfl⟩:=pr3_ h6
 exact leafRet (hn:=hn22) 10 [.go,.callH [23] (.agg [.sl (iS67 bt649_1),.sl (iI .i64 bt649_2)]) [(23,.box (.agg [.sl (iI .u8 l0),vi bt649_3,.val (.int .u64 bt649_4)]))],.callH [23] (vi bt657_1) [(23,.box (.agg [.sl (iI .u8 l0),vi bt657_2,.val (.int .u64 bt657_3)]))],.callH [23] (vi bt660_1) [(23,.box (.agg [.sl (iI .u8 l0),vi bt660_2,.val (.int .u64 bt660_3)]))],.val (.int .i64 (wrap64 (Int.tdiv bt660_1 8))),.val (.int .i64 (wrap64 (bt657_1 - (wrap64 (Int.tdiv bt660_1 8)))))] [] .ret (.inr rfl) (by kernel_rfl) (And.intro (CallH.ren [(1000000,23)] rfl rfl (ad_49 c1)) (And.intro (CallH.ren [(1000000,23)] rfl rfl (ad_31 c3)) (And.intro (CallH.ren [(1000000,23)] rfl rfl (ad_31 c5)) (And.intro (int_quo (P:=Tryz.prog) (t:=3) (k:=.i64) (x:=(.tmp 13)) (y:=(.const (.int .i64 8))) (a:=bt660_1) (b:=8) (c:=(wrap64 (Int.tdiv bt660_1 8))) (by decide) (IntWalk.i64_left _)) (int_sub (P:=Tryz.prog) (t:=3) (k:=.i64) (x:=(.tmp 11)) (y:=(.tmp 14)) (a:=bt657_1) (b:=(wrap64 (Int.tdiv bt660_1 8))) (c:=(wrap64 (bt657_1 - (wrap64 (Int.tdiv bt660_1 8))))) (IntWalk.i64_left _)))))) (by kernel_rfl)

def hn23:Hint:=⟨[(2,[24]),(4,[26]),(11,[24])]⟩
def o23 (r:(List (S67)) × List Int × Bool):List AV:=[.agg [.sl (iS67 r.1),.sl (iI .i64 r.2.1)],vb r.2.2]
def p23 (r:(List (S67)) × List Int × Bool):List (Nat × AV):=[]
set_option maxRecDepth 100000 in
theorem ad_23 {k:Nat} {l0_0:List (S67)} {l0_1:List Int} {a1:Int} {r1:List (S67)} {r2:List Int} {r3:Bool} (h:spec_OpenGap.f k l0_0 l0_1 a1 = some (r1,r2,r3)):CallH Tryz.prog 23 [.agg [.sl (iS67 l0_0),.sl (iI .i64 l0_1)],vi a1] [] (.tup [.agg [.sl (iS67 r1),.sl (iI .i64 r2)],vb r3]) []:=by
 unfold spec_OpenGap.f at h
 refine call_ok (c:=bodyOf Tryz.f23) (rs:=o23 (r1,r2,r3)) (post:=p23 (r1,r2,r3)) Tryz.func23 rfl rfl rfl (by kernel_rfl) ?_
 show AtP Tryz.prog 22 (bodyOf Tryz.f23) (KR Tryz.prog Tryz.f23.results.toList (o23 (r1,r2,r3)) (p23 (r1,r2,r3))) [] [] (lookA [(0,.agg [.sl (iS67 l0_0),.sl (iI .i64 l0_1)]),(1,vi a1)])
 obtain ⟨t665,c1,h2⟩:=bd_ h
 rcases ite_ h2 with ⟨g3,h4⟩ | ⟨g3,h4⟩
 ·subst g3
  obtain ⟨g5,h6⟩:=ip_ h4
  obtain ⟨g7,h8⟩:=ip_ h6
  rcases ite_ h8 with ⟨g9,h10⟩ | ⟨g9,h10⟩
  ·obtain ⟨rfl,rfl,rfl⟩:=pr3_ h10
   exact leafRet (hn:=hn23) 13 [.call (vb true),.elem (vi (rd l0_1 a1)),.val (.bool true),.go] [] .ret (.inr rfl) (by kernel_rfl) (And.intro (ad_63 c1) (And.intro (iI_rd (k:=.i64) (xs:=l0_1) (i:=a1) g5 g7) (int_lss (P:=Tryz.prog) (t:=3) (k:=.i64) (x:=(.tmp 15)) (y:=(.const (.int .i64 0))) (a:=(rd l0_1 a1)) (b:=0) (v:=true) (decide_eq_true g9)))) (by kernel_rfl)
  ·obtain ⟨⟨bt667_1,bt667_2⟩,c11,h12⟩:=bd_ h10
   try dsimp only at h12
   obtain ⟨rfl,rfl,rfl⟩:=pr3_ h12
   exact leafRet (hn:=hn23) 14 [.call (vb true),.elem (vi (rd l0_1 a1)),.val (.bool false),.call (.agg [.sl (iS67 bt667_1),.sl (iI .i64 bt667_2)])] [] .ret (.inr rfl) (by kernel_rfl) (And.intro (And.intro (ad_63 c1) (And.intro (iI_rd (k:=.i64) (xs:=l0_1) (i:=a1) g5 g7) (int_lss (P:=Tryz.prog) (t:=3) (k:=.i64) (x:=(.tmp 15)) (y:=(.const (.int .i64 0))) (a:=(rd l0_1 a1)) (b:=0) (v:=false) (decide_eq_false g9)))) (ad_58 c11)) (by kernel_rfl)
 ·obtain rfl:=Bool.eq_false_iff.2 g3
  obtain ⟨rfl,rfl,rfl⟩:=pr3_ h4
  exact leafRet (hn:=hn23) 13 [.call (vb false),.go] [] .ret (.inr rfl) (by kernel_rfl) (ad_63 c1) (by kernel_rfl)

def hn65:Hint:=⟨[(2,[11]),(7,[15])]⟩
def o65 (r:(List (S67)) × List Int):List AV:=[.agg [.sl (iS67 r.1),.sl (iI .i64 r.2)]]
def p65 (r:(List (S67)) × List Int):List (Nat × AV):=[]
set_option maxRecDepth 100000 in
theorem ad_65 {k:Nat} {l0:List Int} {r1:List (S67)} {r2:List Int} (h:spec_DrawIsPuzzle.f k l0 = some (r1,r2)):CallH Tryz.prog 65 [.sl (iI .u8 l0)] [] (.agg [.sl (iS67 r1),.sl (iI .i64 r2)]) []:=by
 unfold spec_DrawIsPuzzle.f at h
 refine call_ok (c:=bodyOf Tryz.f65) (rs:=o65 (r1,r2)) (post:=p65 (r1,r2)) Tryz.func65 rfl rfl rfl (by kernel_rfl) ?_
 show AtP Tryz.prog 9 (bodyOf Tryz.f65) (KR Tryz.prog Tryz.f65.results.toList (o65 (r1,r2)) (p65 (r1,r2))) [] [] (lookA [(0,.sl (iI .u8 l0))])
 obtain ⟨⟨bt675_1,bt675_2,bt675_3,bt675_4⟩,c1,h2⟩:=bd_ h
 try dsimp only at h2
 obtain ⟨rfl,rfl⟩:=pr2_ h2
 exact leafRet (hn:=hn65) 10 [.go,.callH [15] (.agg [.sl (iS67 bt675_1),.sl (iI .i64 bt675_2)]) [(15,.box (.agg [.sl (iI .u8 l0),vi bt675_3,.val (.int .u64 bt675_4)]))]] [] .ret (.inr rfl) (by kernel_rfl) (CallH.ren [(1000000,15)] rfl rfl (ad_49 c1)) (by kernel_rfl)

def hn24:Hint:=⟨[(2,[7])]⟩
def o24 (r:(List (S67)) × List Int):List AV:=[.agg [.sl (iS67 r.1),.sl (iI .i64 r.2)]]
def p24 (r:(List (S67)) × List Int):List (Nat × AV):=[]
set_option maxRecDepth 100000 in
theorem ad_24 {k:Nat} {l0:List Int} {r1:List (S67)} {r2:List Int} (h:spec_DrawTurnPuzzle.f k l0 = some (r1,r2)):CallH Tryz.prog 24 [.sl (iI .u8 l0)] [] (.agg [.sl (iS67 r1),.sl (iI .i64 r2)]) []:=by
 unfold spec_DrawTurnPuzzle.f at h
 refine call_ok (c:=bodyOf Tryz.f24) (rs:=o24 (r1,r2)) (post:=p24 (r1,r2)) Tryz.func24 rfl rfl rfl (by kernel_rfl) ?_
 show AtP Tryz.prog 5 (bodyOf Tryz.f24) (KR Tryz.prog Tryz.f24.results.toList (o24 (r1,r2)) (p24 (r1,r2))) [] [] (lookA [(0,.sl (iI .u8 l0))])
 obtain ⟨⟨bt684_1,bt684_2⟩,c1,h2⟩:=bd_ h
 try dsimp only at h2
 obtain ⟨rfl,rfl⟩:=pr2_ h2
 exact leafRet (hn:=hn24) 7 [.call (.agg [.sl (iS67 bt684_1),.sl (iI .i64 bt684_2)])] [] .ret (.inr rfl) (by kernel_rfl) (ad_65 c1) (by kernel_rfl)

def hn93:Hint:=⟨[(4,[1000000]),(14,[1000000]),(16,[1000000]),(18,[1000000]),(20,[1000000]),(22,[1000000]),(24,[1000000]),(26,[1000000]),(27,[1000000])]⟩
def o93 (r:List Int):List AV:=[]
def p93 (r:List Int):List (Nat × AV):=[(1000000,.ow true 3 (iI .i64 r))]
def q93_l0 (r:List Int) (k:Nat) (L:List (Nat × AV)):Prop:=∃ (x0:List Int) (x2:Int) (x3:Int),L = [(0,.row 1000000),(2,vi x2),(3,vi x3),(1000000,.ow true 3 (iI .i64 x0))] ∧ slices_Reverse_int_int.l0 k x0 x2 x3 = some r
theorem q93_l0_mk {r:List Int} {k:Nat} {x0:List Int} {x2:Int} {x3:Int} (h:slices_Reverse_int_int.l0 k x0 x2 x3 = some r):q93_l0 r k [(0,.row 1000000),(2,vi x2),(3,vi x3),(1000000,.ow true 3 (iI .i64 x0))]:=⟨x0,x2,x3,rfl,h⟩
set_option maxRecDepth 100000 in
theorem at93_l0 {r:List Int}:∀ k L,q93_l0 r k L → AtP Tryz.prog 28 (bodyOf Tryz.f93) (KR Tryz.prog Tryz.f93.results.toList (o93 r) (p93 r)) [true,false] [] (lookA L) :=
 at_loop (by kernel_rfl) (fun _ => by kernel_rfl) (q93_l0 r) (by
  rintro k _ ⟨x0,x2,x3,rfl,h⟩
  cases k with
  | zero => simp [slices_Reverse_int_int.l0] at h
  | succ k =>
   rw [slices_Reverse_int_int.l0] at h
   rcases ite_ h with ⟨g1,h2⟩ | ⟨g1,h2⟩
   ·obtain ⟨g3,h4⟩:=ip_ h2
    obtain ⟨g5,h6⟩:=ip_ h4
    obtain ⟨g7,h8⟩:=ip_ h6
    obtain ⟨g9,h10⟩:=ip_ h8
    exact leafBack (hn:=hn93) 13 [.val (.bool true),.go,.elem (vi (rd x0 x3)),.go,.elem (vi (rd x0 x2)),.go,.elem (vi (rd x0 x2)),.elem (.ow true 3 (iI .i64 (x0.set ((x2:Int).toNat) (rd x0 x3)))),.go,.elem (vi (rd (x0.set ((x2:Int).toNat) (rd x0 x3)) x3)),.elem (.ow true 3 (iI .i64 ((x0.set ((x2:Int).toNat) (rd x0 x3)).set ((x3:Int).toNat) (rd x0 x2)))),.val (.int .i64 (wrap64 (x2 + 1))),.val (.int .i64 (wrap64 (x3 - 1)))] [] (q93_l0_mk h10) (Nat.lt_succ_self k) (And.intro (int_lss (P:=Tryz.prog) (t:=3) (k:=.i64) (x:=(.tmp 7)) (y:=(.tmp 8)) (a:=x2) (b:=x3) (v:=true) (decide_eq_true g1)) (And.intro (And.intro (iI_lt (k:=.i64) (xs:=x0) (i:=x3) g3 g5) (And.intro (And.right (iI_rd (k:=.i64) (xs:=x0) (i:=x3) g3 g5)) (And.intro (iI_lt (k:=.i64) (xs:=x0) (i:=x2) g7 g9) (And.intro (And.right (iI_rd (k:=.i64) (xs:=x0) (i:=x2) g7 g9)) (And.intro (iI_lt (k:=.i64) (xs:=x0) (i:=x2) g7 g9) (And.intro (iI_set (k:=.i64) (xs:=x0) (i:=x2) (x:=(rd x0 x3)) g7 g9) (And.intro (iI_lt (k:=.i64) (xs:=(x0.set ((x2:Int).toNat) (rd x0 x3))) (i:=x3) g3 (by simp only [List.length_set]; omega)) (iI_set (k:=.i64) (xs:=(x0.set ((x2:Int).toNat) (rd x0 x3))) (i:=x3) (x:=(rd x0 x2)) g3 (by simp only [List.length_set]; omega))))))))) (And.intro (int_add (P:=Tryz.prog) (t:=3) (k:=.i64) (x:=(.tmp 10)) (y:=(.const (.int .i64 1))) (a:=x2) (b:=1) (c:=(wrap64 (x2 + 1))) (IntWalk.i64_left _)) (int_sub (P:=Tryz.prog) (t:=3) (k:=.i64) (x:=(.tmp 12)) (y:=(.const (.int .i64 1))) (a:=x3) (b:=1) (c:=(wrap64 (x3 - 1))) (IntWalk.i64_left _))))) (by kernel_rfl)
   ·obtain rfl:=Option.some.inj h2
    exact leafRet (hn:=hn93) 9 [.val (.bool false)] [] .normal (.inl rfl) (by kernel_rfl) (int_lss (P:=Tryz.prog) (t:=3) (k:=.i64) (x:=(.tmp 7)) (y:=(.tmp 8)) (a:=x2) (b:=x3) (v:=false) (decide_eq_false g1)) (by kernel_rfl))
set_option maxRecDepth 100000 in
theorem ad_93 {k:Nat} {l0:List Int} {r:List Int} (h:slices_Reverse_int_int.f k l0 = some r):CallH Tryz.prog 93 [.row 1000000] [(1000000,.ow true 3 (iI .i64 l0))] (.tup []) [(1000000,.ow true 3 (iI .i64 r))]:=by
 unfold slices_Reverse_int_int.f at h
 refine call_ok (c:=bodyOf Tryz.f93) (rs:=o93 r) (post:=p93 r) Tryz.func93 rfl rfl rfl (by kernel_rfl) ?_
 show AtP Tryz.prog 28 (bodyOf Tryz.f93) (KR Tryz.prog Tryz.f93.results.toList (o93 r) (p93 r)) [] [] (lookA [(0,.row 1000000),(1000000,.ow true 3 (iI .i64 l0))])
 exact leafAt (hn:=hn93) 4 [.val (.int .i64 (l0.length:Int)),.val (.int .i64 (wrap64 ((l0.length:Int) - 1)))] [] (at93_l0 _ _ (q93_l0_mk h)) (And.intro (iI_len (k:=.i64) (xs:=l0)) (int_sub (P:=Tryz.prog) (t:=3) (k:=.i64) (x:=(.tmp 5)) (y:=(.const (.int .i64 1))) (a:=(l0.length:Int)) (b:=1) (c:=(wrap64 ((l0.length:Int) - 1))) (IntWalk.i64_left _))) (by kernel_rfl)

def hn66:Hint:=⟨[(6,[14])]⟩
def o66 (r:List Int):List AV:=[.sl (iI .i64 r)]
def p66 (r:List Int):List (Nat × AV):=[]
set_option maxRecDepth 100000 in
theorem ad_66 {k:Nat} {l0:List Int} {r:List Int} (h:impl_turned.f k l0 = some r):CallH Tryz.prog 66 [.sl (iI .i64 l0)] [] (.sl (iI .i64 r)) []:=by
 unfold impl_turned.f at h
 refine call_ok (c:=bodyOf Tryz.f66) (rs:=o66 r) (post:=p66 r) Tryz.func66 rfl rfl rfl (by kernel_rfl) ?_
 show AtP Tryz.prog 9 (bodyOf Tryz.f66) (KR Tryz.prog Tryz.f66.results.toList (o66 r) (p66 r)) [] [] (lookA [(0,.sl (iI .i64 l0))])
 obtain ⟨t694,c1,h2⟩:=bd_ h
 obtain ⟨t697,c3,h4⟩:=bd_ h2
 obtain rfl:=Option.some.inj h4
 exact leafRet (hn:=hn66) 13 [.goT,.callH [] (.row 14) [(14,.ow true 3 (iI .i64 t694))],.callH [14] (.tup []) [(14,.ow true 3 (iI .i64 t697))],.fz 14] [] .ret (.inr rfl) (by kernel_rfl) (And.intro (CallH.ren [(500000,14)] rfl rfl (ad_36 c1)) (CallH.ren [(1000000,14)] rfl rfl (ad_93 c3))) (by kernel_rfl)

def hn25:Hint:=⟨[(1,[16]),(2,[17]),(8,[16]),(11,[16])]⟩
def o25 (r:(List (S67)) × List Int × Bool):List AV:=[.agg [.sl (iS67 r.1),.sl (iI .i64 r.2.1)],vb r.2.2]
def p25 (r:(List (S67)) × List Int × Bool):List (Nat × AV):=[]
set_option maxRecDepth 100000 in
theorem ad_25 {k:Nat} {l0_0:List (S67)} {l0_1:List Int} {r1:List (S67)} {r2:List Int} {r3:Bool} (h:impl_TurnPuzzle.f k l0_0 l0_1 = some (r1,r2,r3)):CallH Tryz.prog 25 [.agg [.sl (iS67 l0_0),.sl (iI .i64 l0_1)]] [] (.tup [.agg [.sl (iS67 r1),.sl (iI .i64 r2)],vb r3]) []:=by
 unfold impl_TurnPuzzle.f at h
 refine call_ok (c:=bodyOf Tryz.f25) (rs:=o25 (r1,r2,r3)) (post:=p25 (r1,r2,r3)) Tryz.func25 rfl rfl rfl (by kernel_rfl) ?_
 show AtP Tryz.prog 15 (bodyOf Tryz.f25) (KR Tryz.prog Tryz.f25.results.toList (o25 (r1,r2,r3)) (p25 (r1,r2,r3))) [] [] (lookA [(0,.agg [.sl (iS67 l0_0),.sl (iI .i64 l0_1)])])
 obtain ⟨t700,c1,h2⟩:=bd_ h
 rcases ite_ h2 with ⟨g3,h4⟩ | ⟨g3,h4⟩
 ·subst g3
  obtain ⟨t701,c5,h6⟩:=bd_ h4
  obtain ⟨t704,c7,h8⟩:=bd_ h6
  obtain ⟨rfl,rfl,rfl⟩:=pr3_ h8
  exact leafRet (hn:=hn25) 14 [.call (vb true),.call (.sl (iS67 t701)),.call (.sl (iI .i64 t704)),.go] [] .ret (.inr rfl) (by kernel_rfl) (And.intro (ad_10 c1) (And.intro (ad_54 c5) (ad_66 c7))) (by kernel_rfl)
 ·obtain rfl:=Bool.eq_false_iff.2 g3
  obtain ⟨rfl,rfl,rfl⟩:=pr3_ h4
  exact leafRet (hn:=hn25) 13 [.call (vb false),.go] [] .ret (.inr rfl) (by kernel_rfl) (ad_10 c1) (by kernel_rfl)

def hn67:Hint:=⟨[(12,[23]),(17,[37])]⟩
def o67 (r:List Int):List AV:=[.sl (iI .i64 r)]
def p67 (r:List Int):List (Nat × AV):=[]
def q67_l0 (r:List Int) (k:Nat) (L:List (Nat × AV)):Prop:=∃ (x0:List Int) (x3:List Int) (x4:Int),L = [(0,.sl (iI .i64 x0)),(3,.row 23),(4,vi x4),(23,.ow false 3 (iI .i64 x3))] ∧ spec_haTurn.l0 k x0 x3 x4 = some r
theorem q67_l0_mk {r:List Int} {k:Nat} {x0:List Int} {x3:List Int} {x4:Int} (h:spec_haTurn.l0 k x0 x3 x4 = some r):q67_l0 r k [(0,.sl (iI .i64 x0)),(3,.row 23),(4,vi x4),(23,.ow false 3 (iI .i64 x3))]:=⟨x0,x3,x4,rfl,h⟩
set_option maxRecDepth 100000 in
theorem at67_l0 {r:List Int}:∀ k L,q67_l0 r k L → AtP Tryz.prog 20 (bodyOf Tryz.f67) (KR Tryz.prog Tryz.f67.results.toList (o67 r) (p67 r)) [true,true,false,true,false] [] (lookA L) :=
 at_loop (by kernel_rfl) (fun _ => by kernel_rfl) (q67_l0 r) (by
  rintro k _ ⟨x0,x3,x4,rfl,h⟩
  cases k with
  | zero => simp [spec_haTurn.l0] at h
  | succ k =>
   rw [spec_haTurn.l0] at h
   rcases ite_ h with ⟨g1,h2⟩ | ⟨g1,h2⟩
   ·obtain ⟨g3,h4⟩:=ip_ h2
    obtain ⟨g5,h6⟩:=ip_ h4
    obtain ⟨g7,h8⟩:=ip_ h6
    exact leafBack (hn:=hn67) 13 [.val (.bool true),.elem (vi (rd x0 x4)),.go,.elem (.ow false 3 (iI .i64 (x3 ++ ([(rd x0 x4)])))),.val (.int .i64 (wrap64 (x4 - 1)))] [(23,38)] (q67_l0_mk h8) (Nat.lt_succ_self k) (And.intro (int_geq (P:=Tryz.prog) (t:=3) (k:=.i64) (x:=(.tmp 8)) (y:=(.const (.int .i64 0))) (a:=x4) (b:=0) (v:=true) (decide_eq_true (by omega))) (And.intro (And.intro (iI_rd (k:=.i64) (xs:=x0) (i:=x4) g3 g5) (iI_app (k:=.i64) (N:=17592186044416) (b:=8) (xs:=x3) (ys:=[(rd x0 x4)]) (by decide) (Nat.succ_le_of_lt g7))) (int_sub (P:=Tryz.prog) (t:=3) (k:=.i64) (x:=(.tmp 10)) (y:=(.const (.int .i64 1))) (a:=x4) (b:=1) (c:=(wrap64 (x4 - 1))) (IntWalk.i64_left _)))) (by kernel_rfl)
   ·obtain rfl:=Option.some.inj h2
    exact leafRet (hn:=hn67) 14 [.val (.bool false)] [] .ret (.inr rfl) (by kernel_rfl) (int_geq (P:=Tryz.prog) (t:=3) (k:=.i64) (x:=(.tmp 8)) (y:=(.const (.int .i64 0))) (a:=x4) (b:=0) (v:=false) (decide_eq_false g1)) (by kernel_rfl))
set_option maxRecDepth 100000 in
theorem ad_67 {k:Nat} {l0:List Int} {r:List Int} (h:spec_haTurn.f k l0 = some r):CallH Tryz.prog 67 [.sl (iI .i64 l0)] [] (.sl (iI .i64 r)) []:=by
 unfold spec_haTurn.f at h
 refine call_ok (c:=bodyOf Tryz.f67) (rs:=o67 r) (post:=p67 r) Tryz.func67 rfl rfl rfl (by kernel_rfl) ?_
 show AtP Tryz.prog 20 (bodyOf Tryz.f67) (KR Tryz.prog Tryz.f67.results.toList (o67 r) (p67 r)) [] [] (lookA [(0,.sl (iI .i64 l0))])
 exact leafAt (hn:=hn67) 11 [.goT,.nil false 3,.val (.int .i64 (l0.length:Int)),.val (.int .i64 (wrap64 ((l0.length:Int) - 1)))] [] (at67_l0 _ _ (q67_l0_mk h)) (And.intro (iI_len (k:=.i64) (xs:=l0)) (int_sub (P:=Tryz.prog) (t:=3) (k:=.i64) (x:=(.tmp 6)) (y:=(.const (.int .i64 1))) (a:=(l0.length:Int)) (b:=1) (c:=(wrap64 ((l0.length:Int) - 1))) (IntWalk.i64_left _))) (by kernel_rfl)

def hn26:Hint:=⟨[(1,[17]),(2,[18]),(8,[24]),(9,[17]),(12,[17]),(15,[27])]⟩
def o26 (r:(List (S67)) × List Int × Bool):List AV:=[.agg [.sl (iS67 r.1),.sl (iI .i64 r.2.1)],vb r.2.2]
def p26 (r:(List (S67)) × List Int × Bool):List (Nat × AV):=[]
set_option maxRecDepth 100000 in
theorem ad_26 {k:Nat} {l0_0:List (S67)} {l0_1:List Int} {r1:List (S67)} {r2:List Int} {r3:Bool} (h:spec_TurnPuzzle.f k l0_0 l0_1 = some (r1,r2,r3)):CallH Tryz.prog 26 [.agg [.sl (iS67 l0_0),.sl (iI .i64 l0_1)]] [] (.tup [.agg [.sl (iS67 r1),.sl (iI .i64 r2)],vb r3]) []:=by
 unfold spec_TurnPuzzle.f at h
 refine call_ok (c:=bodyOf Tryz.f26) (rs:=o26 (r1,r2,r3)) (post:=p26 (r1,r2,r3)) Tryz.func26 rfl rfl rfl (by kernel_rfl) ?_
 show AtP Tryz.prog 16 (bodyOf Tryz.f26) (KR Tryz.prog Tryz.f26.results.toList (o26 (r1,r2,r3)) (p26 (r1,r2,r3))) [] [] (lookA [(0,.agg [.sl (iS67 l0_0),.sl (iI .i64 l0_1)])])
 obtain ⟨t713,c1,h2⟩:=bd_ h
 rcases ite_ h2 with ⟨g3,h4⟩ | ⟨g3,h4⟩
 ·subst g3
  obtain ⟨y714,c5,h6⟩:=bd_ h4
  obtain rfl:=Option.some.inj c5
  obtain ⟨g7,h8⟩:=ip_ h6
  obtain ⟨t720,c9,h10⟩:=bd_ h8
  obtain ⟨rfl,rfl,rfl⟩:=pr3_ h10
  exact leafRet (hn:=hn26) 14 [.call (vb true),.go,.elem (.ow false 67 (iS67 (([] : List S67) ++ l0_0))),.call (.sl (iI .i64 t720)),.go] [] .ret (.inr rfl) (by kernel_rfl) (And.intro (ad_50 c1) (And.intro (iS67_app (N:=8796093022208) (b:=16) (xs:=([] : List S67)) (ys:=l0_0) (by decide) (Nat.le_of_lt g7)) (ad_67 c9))) (by kernel_rfl)
 ·obtain rfl:=Bool.eq_false_iff.2 g3
  obtain ⟨rfl,rfl,rfl⟩:=pr3_ h4
  exact leafRet (hn:=hn26) 13 [.call (vb false),.go] [] .ret (.inr rfl) (by kernel_rfl) (ad_50 c1) (by kernel_rfl)

def hn68:Hint:=⟨[(11,[1000000]),(12,[49]),(16,[49]),(19,[65]),(21,[67]),(23,[68]),(24,[49]),(28,[1000000]),(32,[49]),(33,[1000000]),(34,[49]),(37,[1000000]),(38,[84]),(40,[49]),(43,[49])]⟩
def o68 (r:List Int × Int × Int) (s0_0:List Int) (s0_1:Int) (s0_2:Int):List AV:=[.sl (iI .i64 r.1)]
def p68 (r:List Int × Int × Int) (s0_0:List Int) (s0_1:Int) (s0_2:Int):List (Nat × AV):=[(1000000,.box (.agg [.sl (iI .u8 s0_0),vi r.2.1,.val (.int .u64 r.2.2)]))]
def q68_l0 (r:List Int × Int × Int) (s0_0:List Int) (s0_1:Int) (s0_2:Int) (k:Nat) (L:List (Nat × AV)):Prop:=∃ (x3:List Int) (x4:Int) (x1001:Int) (x1002:Int),L = [(0,.loc 1000000 0),(3,.row 49),(4,vi x4),(49,.ow true 3 (iI .i64 x3)),(1000000,.box (.agg [.sl (iI .u8 s0_0),vi x1001,.val (.int .u64 x1002)]))] ∧ spec_l1Cur_named.l0 k x3 x4 s0_0 x1001 x1002 = some r
theorem q68_l0_mk {r:List Int × Int × Int} (s0_0:List Int) (s0_1:Int) (s0_2:Int) {k:Nat} {x3:List Int} {x4:Int} {x1001:Int} {x1002:Int} (h:spec_l1Cur_named.l0 k x3 x4 s0_0 x1001 x1002 = some r):q68_l0 r s0_0 s0_1 s0_2 k [(0,.loc 1000000 0),(3,.row 49),(4,vi x4),(49,.ow true 3 (iI .i64 x3)),(1000000,.box (.agg [.sl (iI .u8 s0_0),vi x1001,.val (.int .u64 x1002)]))]:=⟨x3,x4,x1001,x1002,rfl,h⟩
set_option maxRecDepth 100000 in
theorem at68_l0 {r:List Int × Int × Int} {s0_0:List Int} {s0_1:Int} {s0_2:Int}:∀ k L,q68_l0 r s0_0 s0_1 s0_2 k L → AtP Tryz.prog 46 (bodyOf Tryz.f68) (KR Tryz.prog Tryz.f68.results.toList (o68 r s0_0 s0_1 s0_2) (p68 r s0_0 s0_1 s0_2)) [true,true,false,true,false] [] (lookA L) :=
 at_loop (by kernel_rfl) (fun _ => by kernel_rfl) (q68_l0 r s0_0 s0_1 s0_2) (by
  rintro k _ ⟨x3,x4,x1001,x1002,rfl,h⟩
  cases k with
  | zero => simp [spec_l1Cur_named.l0] at h
  | succ k =>
   rw [spec_l1Cur_named.l0] at h
   rcases ite_ h with ⟨g1,h2⟩ | ⟨g1,h2⟩
   ·obtain ⟨⟨bt723_1,bt723_2,bt723_3⟩,c3,h4⟩:=bd_ h2
    try dsimp only at h4
    obtain ⟨g5,h6⟩:=ip_ h4
    obtain ⟨g7,h8⟩:=ip_ h6
    obtain ⟨t730,c9,h10⟩:=bd_ h8
    obtain ⟨g11,h12⟩:=ip_ h10
    obtain ⟨y733,c13,h14⟩:=bd_ h12
    obtain rfl:=Option.some.inj c13
    obtain ⟨y736,c15,h16⟩:=bd_ h14
    obtain rfl:=Option.some.inj c15
    obtain ⟨g17,h18⟩:=ip_ h16
    exact leafBack (hn:=hn68) 19 [.val (.bool true),.val (.int .i64 (x3.length:Int)),.val (.int .i64 (wrap64 ((x3.length:Int) + 1))),.callH [1000000] (vi bt723_1) [(1000000,.box (.agg [.sl (iI .u8 s0_0),vi bt723_2,.val (.int .u64 bt723_3)]))],.fz 49,.elem (.sl (iI .i64 (x3.take (bt723_1:Int).toNat))),.callH [] (.row 65) [(65,.ow true 3 (iI .i64 t730))],.go,.elem (.ow true 3 (iI .i64 (t730 ++ ([x4])))),.elem (.sl (iI .i64 (x3.drop (bt723_1:Int).toNat))),.elem (.ow true 3 (iI .i64 ((t730 ++ ([x4])) ++ (x3.drop (bt723_1:Int).toNat)))),.val (.int .i64 (wrap64 (x4 + 1)))] [(49,73)] (q68_l0_mk s0_0 s0_1 s0_2 h18) (Nat.lt_succ_self k) (And.intro (int_leq (P:=Tryz.prog) (t:=3) (k:=.i64) (x:=(.tmp 7)) (y:=(.const (.int .i64 9))) (a:=x4) (b:=9) (v:=true) (decide_eq_true g1)) (And.intro (And.intro (iI_len (k:=.i64) (xs:=x3)) (And.intro (int_add (P:=Tryz.prog) (t:=3) (k:=.i64) (x:=(.tmp 13)) (y:=(.const (.int .i64 1))) (a:=(x3.length:Int)) (b:=1) (c:=(wrap64 ((x3.length:Int) + 1))) (IntWalk.i64_left _)) (CallH.ren [(1000000,1000000)] rfl rfl (ad_31 c3)))) (And.intro (And.intro (iI_take (k:=.i64) (xs:=x3) (b:=bt723_1) g5 g7) (And.intro (CallH.ren [(500000,65)] rfl rfl (ad_57 c9)) (iI_app (k:=.i64) (N:=17592186044416) (b:=8) (xs:=t730) (ys:=[x4]) (by decide) (Nat.succ_le_of_lt g11)))) (And.intro (And.intro (iI_drop (k:=.i64) (xs:=x3) (a:=bt723_1) g5 g7) (iI_app (k:=.i64) (N:=17592186044416) (b:=8) (xs:=(t730 ++ ([x4]))) (ys:=(x3.drop (bt723_1:Int).toNat)) (by decide) (Nat.le_of_lt g17))) (int_add (P:=Tryz.prog) (t:=3) (k:=.i64) (x:=(.tmp 9)) (y:=(.const (.int .i64 1))) (a:=x4) (b:=1) (c:=(wrap64 (x4 + 1))) (IntWalk.i64_left _)))))) (by kernel_rfl)
   ·obtain ⟨⟨bt743_1,bt743_2,bt743_3⟩,c19,h20⟩:=bd_ h2
    try dsimp only at h20
    rcases ite_ h20 with ⟨g21,h22⟩ | ⟨g21,h22⟩
    ·obtain ⟨⟨bt746_1,bt746_2,bt746_3⟩,c23,h24⟩:=bd_ h22
     try dsimp only at h24
     obtain ⟨⟨bt752_1,bt752_2,bt752_3⟩,c25,h26⟩:=bd_ h24
     try dsimp only at h26
     obtain ⟨g27,h28⟩:=ip_ h26
     obtain ⟨g29,h30⟩:=ip_ h28
     obtain rfl:=Option.some.inj h30
     exact leafRet (hn:=hn68) 26 [.val (.bool false),.callH [1000000] (vi bt743_1) [(1000000,.box (.agg [.sl (iI .u8 s0_0),vi bt743_2,.val (.int .u64 bt743_3)]))],.val (.bool true),.val (.int .i64 (x3.length:Int)),.callH [1000000] (vi bt746_1) [(1000000,.box (.agg [.sl (iI .u8 s0_0),vi bt746_2,.val (.int .u64 bt746_3)]))],.go,.callH [1000000] (vi bt752_1) [(1000000,.box (.agg [.sl (iI .u8 s0_0),vi bt752_2,.val (.int .u64 bt752_3)]))],.go,.elem (vi (rd x3 bt746_1)),.elem (.ow true 3 (iI .i64 (x3.set ((bt746_1:Int).toNat) bt752_1))),.fz 49] [] .ret (.inr rfl) (by kernel_rfl) (And.intro (int_leq (P:=Tryz.prog) (t:=3) (k:=.i64) (x:=(.tmp 7)) (y:=(.const (.int .i64 9))) (a:=x4) (b:=9) (v:=false) (decide_eq_false g1)) (And.intro (CallH.ren [(1000000,1000000)] rfl rfl (ad_31 c19)) (And.intro (int_eql (P:=Tryz.prog) (t:=3) (k:=.i64) (x:=(.tmp 29)) (y:=(.const (.int .i64 0))) (a:=bt743_1) (b:=0) (v:=true) (beq_iff_eq.2 g21)) (And.intro (iI_len (k:=.i64) (xs:=x3)) (And.intro (CallH.ren [(1000000,1000000)] rfl rfl (ad_31 c23)) (And.intro (CallH.ren [(1000000,1000000)] rfl rfl (ad_75 c25)) (And.intro (iI_lt (k:=.i64) (xs:=x3) (i:=bt746_1) g27 g29) (iI_set (k:=.i64) (xs:=x3) (i:=bt746_1) (x:=bt752_1) g27 g29)))))))) (by kernel_rfl)
    ·rcases ite_ h22 with ⟨g31,h32⟩ | ⟨g31,h32⟩
     ·obtain ⟨g33,h34⟩:=ip_ h32
      obtain rfl:=Option.some.inj h34
      exact leafRet (hn:=hn68) 30 [.val (.bool false),.callH [1000000] (vi bt743_1) [(1000000,.box (.agg [.sl (iI .u8 s0_0),vi bt743_2,.val (.int .u64 bt743_3)]))],.val (.bool false),.val (.bool true),.fz 49,.elem (.sl (iI .i64 (x3.drop (1:Int).toNat)))] [] .ret (.inr rfl) (by kernel_rfl) (And.intro (int_leq (P:=Tryz.prog) (t:=3) (k:=.i64) (x:=(.tmp 7)) (y:=(.const (.int .i64 9))) (a:=x4) (b:=9) (v:=false) (decide_eq_false g1)) (And.intro (CallH.ren [(1000000,1000000)] rfl rfl (ad_31 c19)) (And.intro (int_eql (P:=Tryz.prog) (t:=3) (k:=.i64) (x:=(.tmp 29)) (y:=(.const (.int .i64 0))) (a:=bt743_1) (b:=0) (v:=false) (beq_false_of_ne g21)) (And.intro (int_eql (P:=Tryz.prog) (t:=3) (k:=.i64) (x:=(.tmp 29)) (y:=(.const (.int .i64 1))) (a:=bt743_1) (b:=1) (v:=true) (beq_iff_eq.2 g31)) (iI_drop (k:=.i64) (xs:=x3) (a:=1) (by decide) g33))))) (by kernel_rfl)
     ·obtain rfl:=Option.some.inj h32
      exact leafRet (hn:=hn68) 30 [.val (.bool false),.callH [1000000] (vi bt743_1) [(1000000,.box (.agg [.sl (iI .u8 s0_0),vi bt743_2,.val (.int .u64 bt743_3)]))],.val (.bool false),.val (.bool false),.fz 49] [] .ret (.inr rfl) (by kernel_rfl) (And.intro (int_leq (P:=Tryz.prog) (t:=3) (k:=.i64) (x:=(.tmp 7)) (y:=(.const (.int .i64 9))) (a:=x4) (b:=9) (v:=false) (decide_eq_false g1)) (And.intro (CallH.ren [(1000000,1000000)] rfl rfl (ad_31 c19)) (And.intro (int_eql (P:=Tryz.prog) (t:=3) (k:=.i64) (x:=(.tmp 29)) (y:=(.const (.int .i64 0))) (a:=bt743_1) (b:=0) (v:=false) (beq_false_of_ne g21)) (int_eql (P:=Tryz.prog) (t:=3) (k:=.i64) (x:=(.tmp 29)) (y:=(.const (.int .i64 1))) (a:=bt743_1) (b:=1) (v:=false) (beq_false_of_ne g31))))) (by kernel_rfl))
set_option maxRecDepth 100000 in
theorem ad_68 {k:Nat} {s0_0:List Int} {s0_1:Int} {s0_2:Int} {r1:List Int} {r2:Int} {r3:Int} (h:spec_l1Cur_named.f k s0_0 s0_1 s0_2 = some (r1,r2,r3)):CallH Tryz.prog 68 [.loc 1000000 0] [(1000000,.box (.agg [.sl (iI .u8 s0_0),vi s0_1,.val (.int .u64 s0_2)]))] (.sl (iI .i64 r1)) [(1000000,.box (.agg [.sl (iI .u8 s0_0),vi r2,.val (.int .u64 r3)]))]:=by
 unfold spec_l1Cur_named.f at h
 refine call_ok (c:=bodyOf Tryz.f68) (rs:=o68 (r1,r2,r3) s0_0 s0_1 s0_2) (post:=p68 (r1,r2,r3) s0_0 s0_1 s0_2) Tryz.func68 rfl rfl rfl (by kernel_rfl) ?_
 show AtP Tryz.prog 46 (bodyOf Tryz.f68) (KR Tryz.prog Tryz.f68.results.toList (o68 (r1,r2,r3) s0_0 s0_1 s0_2) (p68 (r1,r2,r3) s0_0 s0_1 s0_2)) [] [] (lookA [(0,.loc 1000000 0),(1000000,.box (.agg [.sl (iI .u8 s0_0),vi s0_1,.val (.int .u64 s0_2)]))])
 exact leafAt (hn:=hn68) 11 [.goT,.nil true 3] [] (at68_l0 _ _ (q68_l0_mk s0_0 s0_1 s0_2 h)) True.intro (by kernel_rfl)

def hn27:Hint:=⟨[(2,[14]),(8,[19]),(10,[19])]⟩
def o27 (r:(List (S67)) × List Int × List Int):List AV:=[.agg [.sl (iS67 r.1),.sl (iI .i64 r.2.1)],.sl (iI .i64 r.2.2)]
def p27 (r:(List (S67)) × List Int × List Int):List (Nat × AV):=[]
set_option maxRecDepth 100000 in
theorem ad_27 {k:Nat} {l0:List Int} {r1:List (S67)} {r2:List Int} {r3:List Int} (h:spec_DrawRenamePuzzle.f k l0 = some (r1,r2,r3)):CallH Tryz.prog 27 [.sl (iI .u8 l0)] [] (.tup [.agg [.sl (iS67 r1),.sl (iI .i64 r2)],.sl (iI .i64 r3)]) []:=by
 unfold spec_DrawRenamePuzzle.f at h
 refine call_ok (c:=bodyOf Tryz.f27) (rs:=o27 (r1,r2,r3)) (post:=p27 (r1,r2,r3)) Tryz.func27 rfl rfl rfl (by kernel_rfl) ?_
 show AtP Tryz.prog 12 (bodyOf Tryz.f27) (KR Tryz.prog Tryz.f27.results.toList (o27 (r1,r2,r3)) (p27 (r1,r2,r3))) [] [] (lookA [(0,.sl (iI .u8 l0))])
 obtain ⟨⟨bt761_1,bt761_2,bt761_3,bt761_4⟩,c1,h2⟩:=bd_ h
 try dsimp only at h2
 obtain ⟨⟨bt769_1,bt769_2,bt769_3⟩,c3,h4⟩:=bd_ h2
 try dsimp only at h4
 obtain ⟨rfl,rfl,rfl⟩:=pr3_ h4
 exact leafRet (hn:=hn27) 10 [.goT,.go,.callH [19] (.agg [.sl (iS67 bt761_1),.sl (iI .i64 bt761_2)]) [(19,.box (.agg [.sl (iI .u8 l0),vi bt761_3,.val (.int .u64 bt761_4)]))],.callH [19] (.sl (iI .i64 bt769_1)) [(19,.box (.agg [.sl (iI .u8 l0),vi bt769_2,.val (.int .u64 bt769_3)]))]] [] .ret (.inr rfl) (by kernel_rfl) (And.intro (CallH.ren [(1000000,19)] rfl rfl (ad_49 c1)) (CallH.ren [(1000000,19)] rfl rfl (ad_68 c3))) (by kernel_rfl)

def hn121:Hint:=⟨[]⟩
def o121 (r:Int):List AV:=[vi r]
def p121 (r:Int):List (Nat × AV):=[]
def q121_l0 (r:Int) (k:Nat) (L:List (Nat × AV)):Prop:=∃ (x0:List Int) (x1:Int) (x7:Int) (x8:Int),L = [(0,.sl (iI .i64 x0)),(1,vi x1),(7,vi x7),(8,vi x8)] ∧ slices_Index_int_int.l0 k x0 x1 x7 x8 = some r
theorem q121_l0_mk {r:Int} {k:Nat} {x0:List Int} {x1:Int} {x7:Int} {x8:Int} (h:slices_Index_int_int.l0 k x0 x1 x7 x8 = some r):q121_l0 r k [(0,.sl (iI .i64 x0)),(1,vi x1),(7,vi x7),(8,vi x8)]:=⟨x0,x1,x7,x8,rfl,h⟩
set_option maxRecDepth 100000 in
theorem at121_l0 {r:Int}:∀ k L,q121_l0 r k L → AtP Tryz.prog 19 (bodyOf Tryz.f121) (KR Tryz.prog Tryz.f121.results.toList (o121 r) (p121 r)) [true,false,true,false] [] (lookA L) :=
 at_loop (by kernel_rfl) (fun _ => by kernel_rfl) (q121_l0 r) (by
  rintro k _ ⟨x0,x1,x7,x8,rfl,h⟩
  cases k with
  | zero => simp [slices_Index_int_int.l0] at h
  | succ k =>
   rw [slices_Index_int_int.l0] at h
   rcases ite_ h with ⟨g1,h2⟩ | ⟨g1,h2⟩
   ·obtain ⟨g3,h4⟩:=ip_ h2
    obtain ⟨g5,h6⟩:=ip_ h4
    rcases ite_ h6 with ⟨g7,h8⟩ | ⟨g7,h8⟩
    ·obtain rfl:=Option.some.inj h8
     exact leafRet (hn:=hn121) 25 [.val (.bool true),.elem (vi (rd x0 x8)),.val (.bool true)] [] .ret (.inr rfl) (by kernel_rfl) (And.intro (int_lss (P:=Tryz.prog) (t:=3) (k:=.i64) (x:=(.tmp 8)) (y:=(.tmp 7)) (a:=x8) (b:=x7) (v:=true) (decide_eq_true g1)) (And.intro (iI_rd (k:=.i64) (xs:=x0) (i:=x8) g3 g5) (int_eql (P:=Tryz.prog) (t:=3) (k:=.i64) (x:=(.tmp 11)) (y:=(.tmp 15)) (a:=x1) (b:=(rd x0 x8)) (v:=true) (beq_iff_eq.2 g7)))) (by kernel_rfl)
    ·exact leafBack (hn:=hn121) 20 [.val (.bool true),.elem (vi (rd x0 x8)),.val (.bool false),.val (.int .i64 (wrap64 (x8 + 1)))] [] (q121_l0_mk h8) (Nat.lt_succ_self k) (And.intro (int_lss (P:=Tryz.prog) (t:=3) (k:=.i64) (x:=(.tmp 8)) (y:=(.tmp 7)) (a:=x8) (b:=x7) (v:=true) (decide_eq_true g1)) (And.intro (And.intro (iI_rd (k:=.i64) (xs:=x0) (i:=x8) g3 g5) (int_eql (P:=Tryz.prog) (t:=3) (k:=.i64) (x:=(.tmp 11)) (y:=(.tmp 15)) (a:=x1) (b:=(rd x0 x8)) (v:=false) (beq_false_of_ne g7))) (int_add (P:=Tryz.prog) (t:=3) (k:=.i64) (x:=(.tmp 8)) (y:=(.const (.int .i64 1))) (a:=x8) (b:=1) (c:=(wrap64 (x8 + 1))) (IntWalk.i64_left _)))) (by kernel_rfl)
   ·obtain rfl:=Option.some.inj h2
    exact leafRet (hn:=hn121) 14 [.val (.bool false)] [] .ret (.inr rfl) (by kernel_rfl) (int_lss (P:=Tryz.prog) (t:=3) (k:=.i64) (x:=(.tmp 8)) (y:=(.tmp 7)) (a:=x8) (b:=x7) (v:=false) (decide_eq_false g1)) (by kernel_rfl))
set_option maxRecDepth 100000 in
theorem ad_121 {k:Nat} {l0:List Int} {a1:Int} {r:Int} (h:slices_Index_int_int.f k l0 a1 = some r):CallH Tryz.prog 121 [.sl (iI .i64 l0),vi a1] [] (vi r) []:=by
 unfold slices_Index_int_int.f at h
 refine call_ok (c:=bodyOf Tryz.f121) (rs:=o121 r) (post:=p121 r) Tryz.func121 rfl rfl rfl (by kernel_rfl) ?_
 show AtP Tryz.prog 19 (bodyOf Tryz.f121) (KR Tryz.prog Tryz.f121.results.toList (o121 r) (p121 r)) [] [] (lookA [(0,.sl (iI .i64 l0)),(1,vi a1)])
 exact leafAt (hn:=hn121) 8 [.val (.int .i64 (l0.length:Int))] [] (at121_l0 _ _ (q121_l0_mk h)) (iI_len (k:=.i64) (xs:=l0)) (by kernel_rfl)

def hn110:Hint:=⟨[]⟩
def o110 (r:Bool):List AV:=[vb r]
def p110 (r:Bool):List (Nat × AV):=[]
set_option maxRecDepth 100000 in
theorem ad_110 {k:Nat} {l0:List Int} {a1:Int} {r:Bool} (h:slices_Contains_int_int.f k l0 a1 = some r):CallH Tryz.prog 110 [.sl (iI .i64 l0),vi a1] [] (vb r) []:=by
 unfold slices_Contains_int_int.f at h
 refine call_ok (c:=bodyOf Tryz.f110) (rs:=o110 r) (post:=p110 r) Tryz.func110 rfl rfl rfl (by kernel_rfl) ?_
 show AtP Tryz.prog 9 (bodyOf Tryz.f110) (KR Tryz.prog Tryz.f110.results.toList (o110 r) (p110 r)) [] [] (lookA [(0,.sl (iI .i64 l0)),(1,vi a1)])
 obtain ⟨t775,c1,h2⟩:=bd_ h
 obtain rfl:=Option.some.inj h2
 exact leafRet (hn:=hn110) 7 [.call (vi t775),.val (.bool (decide (t775 ≥ 0)))] [] .ret (.inr rfl) (by kernel_rfl) (And.intro (ad_121 c1) (int_geq (P:=Tryz.prog) (t:=3) (k:=.i64) (x:=(.tmp 7)) (y:=(.const (.int .i64 0))) (a:=t775) (b:=0) (v:=(decide (t775 ≥ 0))) rfl)) (by kernel_rfl)

def hn94:Hint:=⟨[]⟩
def o94 (r:Bool):List AV:=[vb r]
def p94 (r:Bool):List (Nat × AV):=[]
def q94_l0 (r:Bool) (k:Nat) (L:List (Nat × AV)):Prop:=∃ (x0:List Int) (x5:List Int) (x6:Int) (x7:Int),L = [(0,.sl (iI .i64 x0)),(5,.sl (iI .i64 x5)),(6,vi x6),(7,vi x7)] ∧ impl_areDifferent_int.l0 k x0 x5 x6 x7 = some r
theorem q94_l0_mk {r:Bool} {k:Nat} {x0:List Int} {x5:List Int} {x6:Int} {x7:Int} (h:impl_areDifferent_int.l0 k x0 x5 x6 x7 = some r):q94_l0 r k [(0,.sl (iI .i64 x0)),(5,.sl (iI .i64 x5)),(6,vi x6),(7,vi x7)]:=⟨x0,x5,x6,x7,rfl,h⟩
set_option maxRecDepth 100000 in
theorem at94_l0 {r:Bool}:∀ k L,q94_l0 r k L → AtP Tryz.prog 18 (bodyOf Tryz.f94) (KR Tryz.prog Tryz.f94.results.toList (o94 r) (p94 r)) [true,false,true,false] [] (lookA L) :=
 at_loop (by kernel_rfl) (fun _ => by kernel_rfl) (q94_l0 r) (by
  rintro k _ ⟨x0,x5,x6,x7,rfl,h⟩
  cases k with
  | zero => simp [impl_areDifferent_int.l0] at h
  | succ k =>
   rw [impl_areDifferent_int.l0] at h
   rcases ite_ h with ⟨g1,h2⟩ | ⟨g1,h2⟩
   ·obtain ⟨g3,h4⟩:=ip_ h2
    obtain ⟨g5,h6⟩:=ip_ h4
    obtain ⟨g7,h8⟩:=ip_ h6
    obtain ⟨t778,c9,h10⟩:=bd_ h8
    rcases ite_ h10 with ⟨g11,h12⟩ | ⟨g11,h12⟩
    ·subst g11
     obtain rfl:=Option.some.inj h12
     exact leafRet (hn:=hn94) 25 [.val (.bool true),.elem (vi (rd x5 x7)),.elem (.sl (iI .i64 (x0.take (x7:Int).toNat))),.call (vb true)] [] .ret (.inr rfl) (by kernel_rfl) (And.intro (int_lss (P:=Tryz.prog) (t:=3) (k:=.i64) (x:=(.tmp 7)) (y:=(.tmp 6)) (a:=x7) (b:=x6) (v:=true) (decide_eq_true g1)) (And.intro (iI_rd (k:=.i64) (xs:=x5) (i:=x7) g3 g5) (And.intro (iI_take (k:=.i64) (xs:=x0) (b:=x7) g3 g7) (ad_110 c9)))) (by kernel_rfl)
    ·obtain rfl:=Bool.eq_false_iff.2 g11
     exact leafBack (hn:=hn94) 20 [.val (.bool true),.elem (vi (rd x5 x7)),.elem (.sl (iI .i64 (x0.take (x7:Int).toNat))),.call (vb false),.val (.int .i64 (wrap64 (x7 + 1)))] [] (q94_l0_mk h12) (Nat.lt_succ_self k) (And.intro (int_lss (P:=Tryz.prog) (t:=3) (k:=.i64) (x:=(.tmp 7)) (y:=(.tmp 6)) (a:=x7) (b:=x6) (v:=true) (decide_eq_true g1)) (And.intro (iI_rd (k:=.i64) (xs:=x5) (i:=x7) g3 g5) (And.intro (And.intro (iI_take (k:=.i64) (xs:=x0) (b:=x7) g3 g7) (ad_110 c9)) (int_add (P:=Tryz.prog) (t:=3) (k:=.i64) (x:=(.tmp 7)) (y:=(.const (.int .i64 1))) (a:=x7) (b:=1) (c:=(wrap64 (x7 + 1))) (IntWalk.i64_left _))))) (by kernel_rfl)
   ·obtain rfl:=Option.some.inj h2
    exact leafRet (hn:=hn94) 14 [.val (.bool false)] [] .ret (.inr rfl) (by kernel_rfl) (int_lss (P:=Tryz.prog) (t:=3) (k:=.i64) (x:=(.tmp 7)) (y:=(.tmp 6)) (a:=x7) (b:=x6) (v:=false) (decide_eq_false g1)) (by kernel_rfl))
set_option maxRecDepth 100000 in
theorem ad_94 {k:Nat} {l0:List Int} {r:Bool} (h:impl_areDifferent_int.f k l0 = some r):CallH Tryz.prog 94 [.sl (iI .i64 l0)] [] (vb r) []:=by
 unfold impl_areDifferent_int.f at h
 refine call_ok (c:=bodyOf Tryz.f94) (rs:=o94 r) (post:=p94 r) Tryz.func94 rfl rfl rfl (by kernel_rfl) ?_
 show AtP Tryz.prog 18 (bodyOf Tryz.f94) (KR Tryz.prog Tryz.f94.results.toList (o94 r) (p94 r)) [] [] (lookA [(0,.sl (iI .i64 l0))])
 exact leafAt (hn:=hn94) 8 [.val (.int .i64 (l0.length:Int))] [] (at94_l0 _ _ (q94_l0_mk h)) (iI_len (k:=.i64) (xs:=l0)) (by kernel_rfl)

def hn69:Hint:=⟨[]⟩
def o69 (r:Bool):List AV:=[vb r]
def p69 (r:Bool):List (Nat × AV):=[]
set_option maxRecDepth 100000 in
theorem ad_69 {k:Nat} {l0:List Int} {r:Bool} (h:impl_areNames.f k l0 = some r):CallH Tryz.prog 69 [.sl (iI .i64 l0)] [] (vb r) []:=by
 unfold impl_areNames.f at h
 refine call_ok (c:=bodyOf Tryz.f69) (rs:=o69 r) (post:=p69 r) Tryz.func69 rfl rfl rfl (by kernel_rfl) ?_
 show AtP Tryz.prog 14 (bodyOf Tryz.f69) (KR Tryz.prog Tryz.f69.results.toList (o69 r) (p69 r)) [] [] (lookA [(0,.sl (iI .i64 l0))])
 rcases ite_ h with ⟨g1,h2⟩ | ⟨g1,h2⟩
 ·obtain ⟨t779,c3,h4⟩:=bd_ h2
  rcases ite_ h4 with ⟨g5,h6⟩ | ⟨g5,h6⟩
  ·subst g5
   obtain ⟨t780,c7,h8⟩:=bd_ h6
   obtain rfl:=Option.some.inj h8
   exact leafRet (hn:=hn69) 7 [.val (.int .i64 (l0.length:Int)),.val (.bool true),.call (vb true),.call (vb t780)] [] .ret (.inr rfl) (by kernel_rfl) (And.intro (iI_len (k:=.i64) (xs:=l0)) (And.intro (int_eql (P:=Tryz.prog) (t:=3) (k:=.i64) (x:=(.tmp 4)) (y:=(.const (.int .i64 10))) (a:=(l0.length:Int)) (b:=10) (v:=true) (beq_iff_eq.2 g1)) (And.intro (ad_48 c3) (ad_94 c7)))) (by kernel_rfl)
  ·obtain rfl:=Bool.eq_false_iff.2 g5
   obtain rfl:=Option.some.inj h6
   exact leafRet (hn:=hn69) 7 [.val (.int .i64 (l0.length:Int)),.val (.bool true),.call (vb false)] [] .ret (.inr rfl) (by kernel_rfl) (And.intro (iI_len (k:=.i64) (xs:=l0)) (And.intro (int_eql (P:=Tryz.prog) (t:=3) (k:=.i64) (x:=(.tmp 4)) (y:=(.const (.int .i64 10))) (a:=(l0.length:Int)) (b:=10) (v:=true) (beq_iff_eq.2 g1)) (ad_48 c3))) (by kernel_rfl)
 ·obtain rfl:=Option.some.inj h2
  exact leafRet (hn:=hn69) 7 [.val (.int .i64 (l0.length:Int)),.val (.bool false)] [] .ret (.inr rfl) (by kernel_rfl) (And.intro (iI_len (k:=.i64) (xs:=l0)) (int_eql (P:=Tryz.prog) (t:=3) (k:=.i64) (x:=(.tmp 4)) (y:=(.const (.int .i64 10))) (a:=(l0.length:Int)) (b:=10) (v:=false) (beq_false_of_ne g1))) (by kernel_rfl)

def hn95:Hint:=⟨[(4,[20]),(6,[18]),(11,[18])]⟩
def o95 (r:Int × Int):List AV:=[.agg [vi r.1,vi r.2]]
def p95 (r:Int × Int):List (Nat × AV):=[]
set_option maxRecDepth 100000 in
theorem ad_95 {a0_0:Int} {a0_1:Int} {l1:List Int} {r1:Int} {r2:Int} (h:impl_Tile_renamed.f a0_0 a0_1 l1 = some (r1,r2)):CallH Tryz.prog 95 [.agg [vi a0_0,vi a0_1],.sl (iI .i64 l1)] [] (.agg [vi r1,vi r2]) []:=by
 unfold impl_Tile_renamed.f at h
 refine call_ok (c:=bodyOf Tryz.f95) (rs:=o95 (r1,r2)) (post:=p95 (r1,r2)) Tryz.func95 rfl rfl rfl (by kernel_rfl) ?_
 show AtP Tryz.prog 16 (bodyOf Tryz.f95) (KR Tryz.prog Tryz.f95.results.toList (o95 (r1,r2)) (p95 (r1,r2))) [] [] (lookA [(0,.agg [vi a0_0,vi a0_1]),(1,.sl (iI .i64 l1))])
 obtain ⟨g1,h2⟩:=ip_ h
 obtain ⟨g3,h4⟩:=ip_ h2
 obtain ⟨g5,h6⟩:=ip_ h4
 obtain ⟨g7,h8⟩:=ip_ h6
 obtain ⟨⟨bt785_1,bt785_2⟩,c9,h10⟩:=bd_ h8
 try dsimp only at h10
 obtain ⟨rfl,rfl⟩:=pr2_ h10
 exact leafRet (hn:=hn95) 7 [.elem (vi (rd l1 a0_0)),.elem (vi (rd l1 a0_1)),.call (.agg [vi bt785_1,vi bt785_2])] [] .ret (.inr rfl) (by kernel_rfl) (And.intro (iI_rd (k:=.i64) (xs:=l1) (i:=a0_0) g1 g3) (And.intro (iI_rd (k:=.i64) (xs:=l1) (i:=a0_1) g5 g7) (ad_79 c9))) (by kernel_rfl)

def hn70:Hint:=⟨[(7,[31]),(15,[32]),(19,[43]),(22,[32])]⟩
def o70 (r:(List (S67))):List AV:=[.sl (iS67 r)]
def p70 (r:(List (S67))):List (Nat × AV):=[]
def q70_l0 (r:(List (S67))) (k:Nat) (L:List (Nat × AV)):Prop:=∃ (x1:List Int) (x5:List (S67)) (x9:List (S67)) (x10:Int) (x11:Int),L = [(1,.sl (iI .i64 x1)),(5,.row 32),(9,.sl (iS67 x9)),(10,vi x10),(11,vi x11),(32,.ow false 67 (iS67 x5))] ∧ impl_renamedHand.l0 k x1 x5 x9 x10 x11 = some r
theorem q70_l0_mk {r:(List (S67))} {k:Nat} {x1:List Int} {x5:List (S67)} {x9:List (S67)} {x10:Int} {x11:Int} (h:impl_renamedHand.l0 k x1 x5 x9 x10 x11 = some r):q70_l0 r k [(1,.sl (iI .i64 x1)),(5,.row 32),(9,.sl (iS67 x9)),(10,vi x10),(11,vi x11),(32,.ow false 67 (iS67 x5))]:=⟨x1,x5,x9,x10,x11,rfl,h⟩
set_option maxRecDepth 100000 in
theorem at70_l0 {r:(List (S67))}:∀ k L,q70_l0 r k L → AtP Tryz.prog 24 (bodyOf Tryz.f70) (KR Tryz.prog Tryz.f70.results.toList (o70 r) (p70 r)) [true,true,false,true,false] [] (lookA L) :=
 at_loop (by kernel_rfl) (fun _ => by kernel_rfl) (q70_l0 r) (by
  rintro k _ ⟨x1,x5,x9,x10,x11,rfl,h⟩
  cases k with
  | zero => simp [impl_renamedHand.l0] at h
  | succ k =>
   rw [impl_renamedHand.l0] at h
   rcases ite_ h with ⟨g1,h2⟩ | ⟨g1,h2⟩
   ·obtain ⟨g3,h4⟩:=ip_ h2
    obtain ⟨g5,h6⟩:=ip_ h4
    obtain ⟨⟨bt792_1,bt792_2⟩,c7,h8⟩:=bd_ h6
    try dsimp only at h8
    obtain ⟨g9,h10⟩:=ip_ h8
    exact leafBack (hn:=hn70) 16 [.val (.bool true),.elem (.agg [vi ((rd_T67 x9 x11).f0),vi ((rd_T67 x9 x11).f1)]),.call (.agg [vi bt792_1,vi bt792_2]),.go,.elem (.ow false 67 (iS67 (x5 ++ ([(⟨bt792_1,bt792_2⟩ : S67)])))),.val (.int .i64 (wrap64 (x11 + 1)))] [(32,44)] (q70_l0_mk h10) (Nat.lt_succ_self k) (And.intro (int_lss (P:=Tryz.prog) (t:=3) (k:=.i64) (x:=(.tmp 11)) (y:=(.tmp 10)) (a:=x11) (b:=x10) (v:=true) (decide_eq_true g1)) (And.intro (iS67_rd (xs:=x9) (i:=x11) g3 g5) (And.intro (And.intro (ad_95 c7) (iS67_app (N:=8796093022208) (b:=16) (xs:=x5) (ys:=[(⟨bt792_1,bt792_2⟩ : S67)]) (by decide) (Nat.succ_le_of_lt g9))) (int_add (P:=Tryz.prog) (t:=3) (k:=.i64) (x:=(.tmp 11)) (y:=(.const (.int .i64 1))) (a:=x11) (b:=1) (c:=(wrap64 (x11 + 1))) (IntWalk.i64_left _))))) (by kernel_rfl)
   ·obtain ⟨t797,c11,h12⟩:=bd_ h2
    obtain rfl:=Option.some.inj h12
    exact leafRet (hn:=hn70) 14 [.val (.bool false),.call (.sl (iS67 t797))] [] .ret (.inr rfl) (by kernel_rfl) (And.intro (int_lss (P:=Tryz.prog) (t:=3) (k:=.i64) (x:=(.tmp 11)) (y:=(.tmp 10)) (a:=x11) (b:=x10) (v:=false) (decide_eq_false g1)) (ad_34 c11)) (by kernel_rfl))
set_option maxRecDepth 100000 in
theorem ad_70 {k:Nat} {l0:List (S67)} {l1:List Int} {r:List (S67)} (h:impl_renamedHand.f k l0 l1 = some r):CallH Tryz.prog 70 [.sl (iS67 l0),.sl (iI .i64 l1)] [] (.sl (iS67 r)) []:=by
 unfold impl_renamedHand.f at h
 refine call_ok (c:=bodyOf Tryz.f70) (rs:=o70 r) (post:=p70 r) Tryz.func70 rfl rfl rfl (by kernel_rfl) ?_
 show AtP Tryz.prog 24 (bodyOf Tryz.f70) (KR Tryz.prog Tryz.f70.results.toList (o70 r) (p70 r)) [] [] (lookA [(0,.sl (iS67 l0)),(1,.sl (iI .i64 l1))])
 exact leafAt (hn:=hn70) 11 [.goT,.go,.val (.int .i64 (l0.length:Int))] [] (at70_l0 _ _ (q70_l0_mk h)) (iS67_len (xs:=l0)) (by kernel_rfl)

def hn28:Hint:=⟨[(2,[48]),(4,[50]),(6,[52,70]),(18,[48]),(22,[48]),(25,[70]),(26,[52,70]),(27,[70]),(32,[70]),(36,[52,70]),(37,[70]),(43,[70]),(45,[70])]⟩
def o28 (r:(List (S67)) × List Int × Bool):List AV:=[.agg [.sl (iS67 r.1),.sl (iI .i64 r.2.1)],vb r.2.2]
def p28 (r:(List (S67)) × List Int × Bool):List (Nat × AV):=[]
def q28_l0 (r:(List (S67)) × List Int × Bool) (k:Nat) (L:List (Nat × AV)):Prop:=∃ (x1:List Int) (x27:List Int) (x28:Int) (x29:Int) (x811000:List (S67)),L = [(1,.sl (iI .i64 x1)),(4,.loc 50 0),(6,.loc 52 0),(27,.row 70),(28,vi x28),(29,vi x29),(50,.box (.agg [.val (.slice none 0 0),.val (.slice none 0 0)])),(52,.box (.agg [.sl (iS67 x811000),.row 70])),(70,.ow true 3 (iI .i64 x27))] ∧ impl_RenamePuzzle.l0 k x1 x27 x28 x29 x811000 x27 = some r
theorem q28_l0_mk {r:(List (S67)) × List Int × Bool} {k:Nat} {x1:List Int} {x27:List Int} {x28:Int} {x29:Int} {x811000:List (S67)} (h:impl_RenamePuzzle.l0 k x1 x27 x28 x29 x811000 x27 = some r):q28_l0 r k [(1,.sl (iI .i64 x1)),(4,.loc 50 0),(6,.loc 52 0),(27,.row 70),(28,vi x28),(29,vi x29),(50,.box (.agg [.val (.slice none 0 0),.val (.slice none 0 0)])),(52,.box (.agg [.sl (iS67 x811000),.row 70])),(70,.ow true 3 (iI .i64 x27))]:=⟨x1,x27,x28,x29,x811000,rfl,h⟩
set_option maxRecDepth 100000 in
theorem at28_l0 {r:(List (S67)) × List Int × Bool}:∀ k L,q28_l0 r k L → AtP Tryz.prog 46 (bodyOf Tryz.f28) (KR Tryz.prog Tryz.f28.results.toList (o28 r) (p28 r)) [true,true,true,false,true,false] [] (lookA L) :=
 at_loop (by kernel_rfl) (fun _ => by kernel_rfl) (q28_l0 r) (by
  rintro k _ ⟨x1,x27,x28,x29,x811000,rfl,h⟩
  cases k with
  | zero => simp [impl_RenamePuzzle.l0] at h
  | succ k =>
   rw [impl_RenamePuzzle.l0] at h
   rcases ite_ h with ⟨g1,h2⟩ | ⟨g1,h2⟩
   ·obtain ⟨g3,h4⟩:=ip_ h2
    obtain ⟨g5,h6⟩:=ip_ h4
    rcases ite_ h6 with ⟨g7,h8⟩ | ⟨g7,h8⟩
    ·exact leafBack (hn:=hn28) 20 [.val (.bool true),.go,.elem (vi (rd x27 x29)),.val (.bool false),.val (.int .i64 (wrap64 (x29 + 1)))] [] (q28_l0_mk h8) (Nat.lt_succ_self k) (And.intro (int_lss (P:=Tryz.prog) (t:=3) (k:=.i64) (x:=(.tmp 29)) (y:=(.tmp 28)) (a:=x29) (b:=x28) (v:=true) (decide_eq_true g1)) (And.intro (And.intro (iI_lt (k:=.i64) (xs:=x27) (i:=x29) g3 g5) (And.right (iI_rd (k:=.i64) (xs:=x27) (i:=x29) g3 g5))) (And.intro (int_neq (P:=Tryz.prog) (t:=3) (k:=.i64) (x:=(.tmp 34)) (y:=(.const (.int .i64 (-1)))) (a:=(rd x27 x29)) (b:=(-1)) (v:=false) (nbeq_f g7)) (int_add (P:=Tryz.prog) (t:=3) (k:=.i64) (x:=(.tmp 29)) (y:=(.const (.int .i64 1))) (a:=x29) (b:=1) (c:=(wrap64 (x29 + 1))) (IntWalk.i64_left _))))) (by kernel_rfl)
    ·obtain ⟨g9,h10⟩:=ip_ h8
     obtain ⟨g11,h12⟩:=ip_ h10
     obtain ⟨g13,h14⟩:=ip_ h12
     exact leafBack (hn:=hn28) 20 [.val (.bool true),.go,.elem (vi (rd x27 x29)),.val (.bool true),.elem (vi (rd x1 (rd x27 x29))),.go,.elem (vi (rd x27 x29)),.elem (.ow true 3 (iI .i64 (x27.set ((x29:Int).toNat) (rd x1 (rd x27 x29))))),.val (.int .i64 (wrap64 (x29 + 1)))] [] (q28_l0_mk h14) (Nat.lt_succ_self k) (And.intro (int_lss (P:=Tryz.prog) (t:=3) (k:=.i64) (x:=(.tmp 29)) (y:=(.tmp 28)) (a:=x29) (b:=x28) (v:=true) (decide_eq_true g1)) (And.intro (And.intro (iI_lt (k:=.i64) (xs:=x27) (i:=x29) g3 g13) (And.right (iI_rd (k:=.i64) (xs:=x27) (i:=x29) g3 g13))) (And.intro (int_neq (P:=Tryz.prog) (t:=3) (k:=.i64) (x:=(.tmp 34)) (y:=(.const (.int .i64 (-1)))) (a:=(rd x27 x29)) (b:=(-1)) (v:=true) (nbeq_t g7)) (And.intro (And.intro (iI_rd (k:=.i64) (xs:=x1) (i:=(rd x27 x29)) g9 g11) (And.intro (iI_lt (k:=.i64) (xs:=x27) (i:=x29) g3 g13) (iI_set (k:=.i64) (xs:=x27) (i:=x29) (x:=(rd x1 (rd x27 x29))) g3 g13))) (int_add (P:=Tryz.prog) (t:=3) (k:=.i64) (x:=(.tmp 29)) (y:=(.const (.int .i64 1))) (a:=x29) (b:=1) (c:=(wrap64 (x29 + 1))) (IntWalk.i64_left _)))))) (by kernel_rfl)
   ·obtain rfl:=Option.some.inj h2
    exact leafRet (hn:=hn28) 14 [.val (.bool false),.fz 70] [] .ret (.inr rfl) (by kernel_rfl) (int_lss (P:=Tryz.prog) (t:=3) (k:=.i64) (x:=(.tmp 29)) (y:=(.tmp 28)) (a:=x29) (b:=x28) (v:=false) (decide_eq_false g1)) (by kernel_rfl))
set_option maxRecDepth 100000 in
theorem at28_j0 {r:(List (S67)) × List Int × Bool} {k:Nat} {x1:List Int} {x16:Bool} {x801000:List (S67)} {x801001:List Int} (h:impl_RenamePuzzle.j0 k x1 x16 x801000 x801001 = some r):AtP Tryz.prog 46 (bodyOf Tryz.f28) (KR Tryz.prog Tryz.f28.results.toList (o28 r) (p28 r)) [true,false,true] [] (lookA [(1,.sl (iI .i64 x1)),(2,.loc 48 0),(4,.loc 50 0),(16,vb x16),(48,.box (.agg [.sl (iS67 x801000),.sl (iI .i64 x801001)])),(50,.box (.agg [.val (.slice none 0 0),.val (.slice none 0 0)]))]):=by
 cases k with
 | zero => simp [impl_RenamePuzzle.j0] at h
 | succ k =>
  rw [impl_RenamePuzzle.j0] at h
  rcases ite_ h with ⟨g1,h2⟩ | ⟨g1,h2⟩
  ·subst g1
   obtain rfl:=Option.some.inj h2
   exact leafRet (hn:=hn28) 6 [.go] [] .ret (.inr rfl) (by kernel_rfl) True.intro (by kernel_rfl)
  ·obtain rfl:=Bool.eq_false_iff.2 g1
   obtain ⟨t804,c3,h4⟩:=bd_ h2
   obtain ⟨t807,c5,h6⟩:=bd_ h4
   exact leafAt (hn:=hn28) 11 [.call (.sl (iS67 t804)),.callH [] (.row 70) [(70,.ow true 3 (iI .i64 t807))],.go,.val (.int .i64 (t807.length:Int))] [] (at28_l0 _ _ (q28_l0_mk h6)) (And.intro (And.intro (ad_70 c3) (CallH.ren [(500000,70)] rfl rfl (ad_36 c5))) (iI_len (k:=.i64) (xs:=t807))) (by kernel_rfl)
set_option maxRecDepth 100000 in
theorem ad_28 {k:Nat} {l0_0:List (S67)} {l0_1:List Int} {l1:List Int} {r1:List (S67)} {r2:List Int} {r3:Bool} (h:impl_RenamePuzzle.f k l0_0 l0_1 l1 = some (r1,r2,r3)):CallH Tryz.prog 28 [.agg [.sl (iS67 l0_0),.sl (iI .i64 l0_1)],.sl (iI .i64 l1)] [] (.tup [.agg [.sl (iS67 r1),.sl (iI .i64 r2)],vb r3]) []:=by
 unfold impl_RenamePuzzle.f at h
 refine call_ok (c:=bodyOf Tryz.f28) (rs:=o28 (r1,r2,r3)) (post:=p28 (r1,r2,r3)) Tryz.func28 rfl rfl rfl (by kernel_rfl) ?_
 show AtP Tryz.prog 46 (bodyOf Tryz.f28) (KR Tryz.prog Tryz.f28.results.toList (o28 (r1,r2,r3)) (p28 (r1,r2,r3))) [] [] (lookA [(0,.agg [.sl (iS67 l0_0),.sl (iI .i64 l0_1)]),(1,.sl (iI .i64 l1))])
 obtain ⟨t802,c1,h2⟩:=bd_ h
 rcases ite_ h2 with ⟨g3,h4⟩ | ⟨g3,h4⟩
 ·subst g3
  obtain ⟨t803,c5,h6⟩:=bd_ h4
  exact leafAt (hn:=hn28) 7 [.call (vb true),.call (vb t803)] [] (at28_j0 h6) (And.intro (ad_10 c1) (ad_69 c5)) (by kernel_rfl)
 ·obtain rfl:=Bool.eq_false_iff.2 g3
  exact leafAt (hn:=hn28) 7 [.call (vb false)] [] (at28_j0 h4) (ad_10 c1) (by kernel_rfl)

def hn72:Hint:=⟨[]⟩
def o72 (r:Bool):List AV:=[vb r]
def p72 (r:Bool):List (Nat × AV):=[]
def q72_l0 (r:Bool) (k:Nat) (L:List (Nat × AV)):Prop:=∃ (x1:Int) (x7:List Int) (x8:Int) (x9:Int),L = [(1,vi x1),(7,.sl (iI .i64 x7)),(8,vi x8),(9,vi x9)] ∧ spec_l1Has.l0 k x1 x7 x8 x9 = some r
theorem q72_l0_mk {r:Bool} {k:Nat} {x1:Int} {x7:List Int} {x8:Int} {x9:Int} (h:spec_l1Has.l0 k x1 x7 x8 x9 = some r):q72_l0 r k [(1,vi x1),(7,.sl (iI .i64 x7)),(8,vi x8),(9,vi x9)]:=⟨x1,x7,x8,x9,rfl,h⟩
set_option maxRecDepth 100000 in
theorem at72_l0 {r:Bool}:∀ k L,q72_l0 r k L → AtP Tryz.prog 17 (bodyOf Tryz.f72) (KR Tryz.prog Tryz.f72.results.toList (o72 r) (p72 r)) [true,false,true,false] [] (lookA L) :=
 at_loop (by kernel_rfl) (fun _ => by kernel_rfl) (q72_l0 r) (by
  rintro k _ ⟨x1,x7,x8,x9,rfl,h⟩
  cases k with
  | zero => simp [spec_l1Has.l0] at h
  | succ k =>
   rw [spec_l1Has.l0] at h
   rcases ite_ h with ⟨g1,h2⟩ | ⟨g1,h2⟩
   ·obtain ⟨g3,h4⟩:=ip_ h2
    obtain ⟨g5,h6⟩:=ip_ h4
    rcases ite_ h6 with ⟨g7,h8⟩ | ⟨g7,h8⟩
    ·obtain rfl:=Option.some.inj h8
     exact leafRet (hn:=hn72) 25 [.val (.bool true),.elem (vi (rd x7 x9)),.val (.bool true)] [] .ret (.inr rfl) (by kernel_rfl) (And.intro (int_lss (P:=Tryz.prog) (t:=3) (k:=.i64) (x:=(.tmp 9)) (y:=(.tmp 8)) (a:=x9) (b:=x8) (v:=true) (decide_eq_true g1)) (And.intro (iI_rd (k:=.i64) (xs:=x7) (i:=x9) g3 g5) (int_eql (P:=Tryz.prog) (t:=3) (k:=.i64) (x:=(.tmp 13)) (y:=(.tmp 14)) (a:=(rd x7 x9)) (b:=x1) (v:=true) (beq_iff_eq.2 g7)))) (by kernel_rfl)
    ·exact leafBack (hn:=hn72) 20 [.val (.bool true),.elem (vi (rd x7 x9)),.val (.bool false),.val (.int .i64 (wrap64 (x9 + 1)))] [] (q72_l0_mk h8) (Nat.lt_succ_self k) (And.intro (int_lss (P:=Tryz.prog) (t:=3) (k:=.i64) (x:=(.tmp 9)) (y:=(.tmp 8)) (a:=x9) (b:=x8) (v:=true) (decide_eq_true g1)) (And.intro (iI_rd (k:=.i64) (xs:=x7) (i:=x9) g3 g5) (And.intro (int_eql (P:=Tryz.prog) (t:=3) (k:=.i64) (x:=(.tmp 13)) (y:=(.tmp 14)) (a:=(rd x7 x9)) (b:=x1) (v:=false) (beq_false_of_ne g7)) (int_add (P:=Tryz.prog) (t:=3) (k:=.i64) (x:=(.tmp 9)) (y:=(.const (.int .i64 1))) (a:=x9) (b:=1) (c:=(wrap64 (x9 + 1))) (IntWalk.i64_left _))))) (by kernel_rfl)
   ·obtain rfl:=Option.some.inj h2
    exact leafRet (hn:=hn72) 14 [.val (.bool false)] [] .ret (.inr rfl) (by kernel_rfl) (int_lss (P:=Tryz.prog) (t:=3) (k:=.i64) (x:=(.tmp 9)) (y:=(.tmp 8)) (a:=x9) (b:=x8) (v:=false) (decide_eq_false g1)) (by kernel_rfl))
set_option maxRecDepth 100000 in
theorem ad_72 {k:Nat} {l0:List Int} {a1:Int} {r:Bool} (h:spec_l1Has.f k l0 a1 = some r):CallH Tryz.prog 72 [.sl (iI .i64 l0),vi a1] [] (vb r) []:=by
 unfold spec_l1Has.f at h
 refine call_ok (c:=bodyOf Tryz.f72) (rs:=o72 r) (post:=p72 r) Tryz.func72 rfl rfl rfl (by kernel_rfl) ?_
 show AtP Tryz.prog 17 (bodyOf Tryz.f72) (KR Tryz.prog Tryz.f72.results.toList (o72 r) (p72 r)) [] [] (lookA [(0,.sl (iI .i64 l0)),(1,vi a1)])
 exact leafAt (hn:=hn72) 8 [.val (.int .i64 (l0.length:Int))] [] (at72_l0 _ _ (q72_l0_mk h)) (iI_len (k:=.i64) (xs:=l0)) (by kernel_rfl)

def hn29:Hint:=⟨[(2,[90]),(4,[92]),(10,[98]),(11,[99,153,801101]),(42,[90]),(49,[96]),(51,[98]),(56,[98]),(61,[149]),(64,[96]),(66,[153]),(67,[90]),(80,[99,153,801101]),(81,[801101]),(83,[171]),(84,[172]),(85,[99,153,801101]),(87,[153,801101])]⟩
def o29 (r:(List (S67)) × List Int × Bool):List AV:=[.agg [.sl (iS67 r.1),.sl (iI .i64 r.2.1)],vb r.2.2]
def p29 (r:(List (S67)) × List Int × Bool):List (Nat × AV):=[]
def q29_l0 (r:(List (S67)) × List Int × Bool) (k:Nat) (L:List (Nat × AV)):Prop:=∃ (x1:List Int) (x28:List Int) (x29:Int) (x30:Int) (x816000:List (S67)) (x816001:List Int),L = [(1,.sl (iI .i64 x1)),(2,.loc 90 0),(4,.loc 92 0),(28,.sl (iI .i64 x28)),(29,vi x29),(30,vi x30),(90,.box (.agg [.sl (iS67 x816000),.sl (iI .i64 x816001)])),(92,.box (.agg [.val (.slice none 0 0),.val (.slice none 0 0)]))] ∧ spec_RenamePuzzle.l0 k x1 x28 x29 x30 x816000 x816001 = some r
theorem q29_l0_mk {r:(List (S67)) × List Int × Bool} {k:Nat} {x1:List Int} {x28:List Int} {x29:Int} {x30:Int} {x816000:List (S67)} {x816001:List Int} (h:spec_RenamePuzzle.l0 k x1 x28 x29 x30 x816000 x816001 = some r):q29_l0 r k [(1,.sl (iI .i64 x1)),(2,.loc 90 0),(4,.loc 92 0),(28,.sl (iI .i64 x28)),(29,vi x29),(30,vi x30),(90,.box (.agg [.sl (iS67 x816000),.sl (iI .i64 x816001)])),(92,.box (.agg [.val (.slice none 0 0),.val (.slice none 0 0)]))]:=⟨x1,x28,x29,x30,x816000,x816001,rfl,h⟩
def q29_l1 (r:(List (S67)) × List Int × Bool) (k:Nat) (L:List (Nat × AV)):Prop:=∃ (x1:List Int) (x8:List (S67)) (x43:List (S67)) (x44:Int) (x45:Int) (x816000:List (S67)) (x816001:List Int),L = [(1,.sl (iI .i64 x1)),(2,.loc 90 0),(4,.loc 92 0),(8,.row 96),(43,.sl (iS67 x43)),(44,vi x44),(45,vi x45),(90,.box (.agg [.sl (iS67 x816000),.sl (iI .i64 x816001)])),(92,.box (.agg [.val (.slice none 0 0),.val (.slice none 0 0)])),(96,.ow false 67 (iS67 x8))] ∧ spec_RenamePuzzle.l1 k x1 x8 x43 x44 x45 x816000 x816001 = some r
theorem q29_l1_mk {r:(List (S67)) × List Int × Bool} {k:Nat} {x1:List Int} {x8:List (S67)} {x43:List (S67)} {x44:Int} {x45:Int} {x816000:List (S67)} {x816001:List Int} (h:spec_RenamePuzzle.l1 k x1 x8 x43 x44 x45 x816000 x816001 = some r):q29_l1 r k [(1,.sl (iI .i64 x1)),(2,.loc 90 0),(4,.loc 92 0),(8,.row 96),(43,.sl (iS67 x43)),(44,vi x44),(45,vi x45),(90,.box (.agg [.sl (iS67 x816000),.sl (iI .i64 x816001)])),(92,.box (.agg [.val (.slice none 0 0),.val (.slice none 0 0)])),(96,.ow false 67 (iS67 x8))]:=⟨x1,x8,x43,x44,x45,x816000,x816001,rfl,h⟩
def q29_l2 (r:(List (S67)) × List Int × Bool) (k:Nat) (L:List (Nat × AV)):Prop:=∃ (x1:List Int) (x68:List Int) (x69:Int) (x70:Int) (x835000:List (S67)) (x835001:List Int),L = [(1,.sl (iI .i64 x1)),(4,.loc 92 0),(11,.loc 99 0),(68,.sl (iI .i64 x68)),(69,vi x69),(70,vi x70),(92,.box (.agg [.val (.slice none 0 0),.val (.slice none 0 0)])),(99,.box (.agg [.row 153,.row 801101])),(153,.ow true 67 (iS67 x835000)),(801101,.ow false 3 (iI .i64 x835001))] ∧ spec_RenamePuzzle.l2 k x1 x68 x69 x70 x835000 x835001 = some r
theorem q29_l2_mk {r:(List (S67)) × List Int × Bool} {k:Nat} {x1:List Int} {x68:List Int} {x69:Int} {x70:Int} {x835000:List (S67)} {x835001:List Int} (h:spec_RenamePuzzle.l2 k x1 x68 x69 x70 x835000 x835001 = some r):q29_l2 r k [(1,.sl (iI .i64 x1)),(4,.loc 92 0),(11,.loc 99 0),(68,.sl (iI .i64 x68)),(69,vi x69),(70,vi x70),(92,.box (.agg [.val (.slice none 0 0),.val (.slice none 0 0)])),(99,.box (.agg [.row 153,.row 801101])),(153,.ow true 67 (iS67 x835000)),(801101,.ow false 3 (iI .i64 x835001))]:=⟨x1,x68,x69,x70,x835000,x835001,rfl,h⟩
set_option maxRecDepth 100000 in
theorem at29_l2 {r:(List (S67)) × List Int × Bool}:∀ k L,q29_l2 r k L → AtP Tryz.prog 88 (bodyOf Tryz.f29) (KR Tryz.prog Tryz.f29.results.toList (o29 r) (p29 r)) [true,true,true,true,true,true,false,true,false] [] (lookA L) :=
 at_loop (by kernel_rfl) (fun _ => by kernel_rfl) (q29_l2 r) (by
  rintro k _ ⟨x1,x68,x69,x70,x835000,x835001,rfl,h⟩
  cases k with
  | zero => simp [spec_RenamePuzzle.l2] at h
  | succ k =>
   rw [spec_RenamePuzzle.l2] at h
   rcases ite_ h with ⟨g1,h2⟩ | ⟨g1,h2⟩
   ·obtain ⟨g3,h4⟩:=ip_ h2
    obtain ⟨g5,h6⟩:=ip_ h4
    rcases ite_ h6 with ⟨g7,h8⟩ | ⟨g7,h8⟩
    ·obtain ⟨g9,h10⟩:=ip_ h8
     obtain ⟨g11,h12⟩:=ip_ h10
     obtain ⟨g13,h14⟩:=ip_ h12
     exact leafBack (hn:=hn29) 23 [.val (.bool true),.elem (vi (rd x68 x70)),.val (.bool true),.elem (vi (rd x1 (rd x68 x70))),.go,.elem (.ow false 3 (iI .i64 (x835001 ++ ([(rd x1 (rd x68 x70))])))),.val (.int .i64 (wrap64 (x70 + 1)))] [(801101,172)] (q29_l2_mk h14) (Nat.lt_succ_self k) (And.intro (int_lss (P:=Tryz.prog) (t:=3) (k:=.i64) (x:=(.tmp 70)) (y:=(.tmp 69)) (a:=x70) (b:=x69) (v:=true) (decide_eq_true g1)) (And.intro (iI_rd (k:=.i64) (xs:=x68) (i:=x70) g3 g5) (And.intro (int_geq (P:=Tryz.prog) (t:=3) (k:=.i64) (x:=(.tmp 74)) (y:=(.const (.int .i64 0))) (a:=(rd x68 x70)) (b:=0) (v:=true) (decide_eq_true (by omega))) (And.intro (iI_rd (k:=.i64) (xs:=x1) (i:=(rd x68 x70)) g9 g11) (And.intro (iI_app (k:=.i64) (N:=17592186044416) (b:=8) (xs:=x835001) (ys:=[(rd x1 (rd x68 x70))]) (by decide) (Nat.succ_le_of_lt g13)) (int_add (P:=Tryz.prog) (t:=3) (k:=.i64) (x:=(.tmp 70)) (y:=(.const (.int .i64 1))) (a:=x70) (b:=1) (c:=(wrap64 (x70 + 1))) (IntWalk.i64_left _))))))) (by kernel_rfl)
    ·obtain ⟨g15,h16⟩:=ip_ h8
     exact leafBack (hn:=hn29) 23 [.val (.bool true),.elem (vi (rd x68 x70)),.val (.bool false),.go,.elem (.ow false 3 (iI .i64 (x835001 ++ ([(rd x68 x70)])))),.val (.int .i64 (wrap64 (x70 + 1)))] [(801101,172)] (q29_l2_mk h16) (Nat.lt_succ_self k) (And.intro (int_lss (P:=Tryz.prog) (t:=3) (k:=.i64) (x:=(.tmp 70)) (y:=(.tmp 69)) (a:=x70) (b:=x69) (v:=true) (decide_eq_true g1)) (And.intro (iI_rd (k:=.i64) (xs:=x68) (i:=x70) g3 g5) (And.intro (int_geq (P:=Tryz.prog) (t:=3) (k:=.i64) (x:=(.tmp 74)) (y:=(.const (.int .i64 0))) (a:=(rd x68 x70)) (b:=0) (v:=false) (decide_eq_false g7)) (And.intro (iI_app (k:=.i64) (N:=17592186044416) (b:=8) (xs:=x835001) (ys:=[(rd x68 x70)]) (by decide) (Nat.succ_le_of_lt g15)) (int_add (P:=Tryz.prog) (t:=3) (k:=.i64) (x:=(.tmp 70)) (y:=(.const (.int .i64 1))) (a:=x70) (b:=1) (c:=(wrap64 (x70 + 1))) (IntWalk.i64_left _)))))) (by kernel_rfl)
   ·obtain rfl:=Option.some.inj h2
    exact leafRet (hn:=hn29) 14 [.val (.bool false),.fz 153] [] .ret (.inr rfl) (by kernel_rfl) (int_lss (P:=Tryz.prog) (t:=3) (k:=.i64) (x:=(.tmp 70)) (y:=(.tmp 69)) (a:=x70) (b:=x69) (v:=false) (decide_eq_false g1)) (by kernel_rfl))
set_option maxRecDepth 100000 in
theorem at29_l1 {r:(List (S67)) × List Int × Bool}:∀ k L,q29_l1 r k L → AtP Tryz.prog 88 (bodyOf Tryz.f29) (KR Tryz.prog Tryz.f29.results.toList (o29 r) (p29 r)) [true,true,true,true,false,true,false] [] (lookA L) :=
 at_loop (by kernel_rfl) (fun _ => by kernel_rfl) (q29_l1 r) (by
  rintro k _ ⟨x1,x8,x43,x44,x45,x816000,x816001,rfl,h⟩
  cases k with
  | zero => simp [spec_RenamePuzzle.l1] at h
  | succ k =>
   rw [spec_RenamePuzzle.l1] at h
   rcases ite_ h with ⟨g1,h2⟩ | ⟨g1,h2⟩
   ·obtain ⟨g3,h4⟩:=ip_ h2
    obtain ⟨g5,h6⟩:=ip_ h4
    obtain ⟨g7,h8⟩:=ip_ h6
    obtain ⟨g9,h10⟩:=ip_ h8
    obtain ⟨g11,h12⟩:=ip_ h10
    obtain ⟨g13,h14⟩:=ip_ h12
    obtain ⟨⟨bt826_1,bt826_2⟩,c15,h16⟩:=bd_ h14
    try dsimp only at h16
    obtain ⟨g17,h18⟩:=ip_ h16
    exact leafBack (hn:=hn29) 16 [.val (.bool true),.elem (.agg [vi ((rd_T67 x43 x45).f0),vi ((rd_T67 x43 x45).f1)]),.elem (vi (rd x1 ((rd_T67 x43 x45).f0))),.elem (vi (rd x1 ((rd_T67 x43 x45).f1))),.call (.agg [vi bt826_1,vi bt826_2]),.go,.elem (.ow false 67 (iS67 (x8 ++ ([(⟨bt826_1,bt826_2⟩ : S67)])))),.val (.int .i64 (wrap64 (x45 + 1)))] [(96,150)] (q29_l1_mk h18) (Nat.lt_succ_self k) (And.intro (int_lss (P:=Tryz.prog) (t:=3) (k:=.i64) (x:=(.tmp 45)) (y:=(.tmp 44)) (a:=x45) (b:=x44) (v:=true) (decide_eq_true g1)) (And.intro (iS67_rd (xs:=x43) (i:=x45) g3 g5) (And.intro (And.intro (iI_rd (k:=.i64) (xs:=x1) (i:=((rd_T67 x43 x45).f0)) g7 g9) (And.intro (iI_rd (k:=.i64) (xs:=x1) (i:=((rd_T67 x43 x45).f1)) g11 g13) (And.intro (ad_73 c15) (iS67_app (N:=8796093022208) (b:=16) (xs:=x8) (ys:=[(⟨bt826_1,bt826_2⟩ : S67)]) (by decide) (Nat.succ_le_of_lt g17))))) (int_add (P:=Tryz.prog) (t:=3) (k:=.i64) (x:=(.tmp 45)) (y:=(.const (.int .i64 1))) (a:=x45) (b:=1) (c:=(wrap64 (x45 + 1))) (IntWalk.i64_left _))))) (by kernel_rfl)
   ·obtain ⟨t831,c19,h20⟩:=bd_ h2
    exact leafAt (hn:=hn29) 18 [.val (.bool false),.callH [] (.row 153) [(153,.ow true 67 (iS67 t831))],.go,.val (.int .i64 (x816001.length:Int)),.nl 99 1 false 3 801101] [] (at29_l2 _ _ (q29_l2_mk h20)) (And.intro (int_lss (P:=Tryz.prog) (t:=3) (k:=.i64) (x:=(.tmp 45)) (y:=(.tmp 44)) (a:=x45) (b:=x44) (v:=false) (decide_eq_false g1)) (And.intro (CallH.ren [(500000,153)] rfl rfl (ad_39 c19)) (iI_len (k:=.i64) (xs:=x816001)))) (by kernel_rfl))
set_option maxRecDepth 100000 in
theorem at29_l0 {r:(List (S67)) × List Int × Bool}:∀ k L,q29_l0 r k L → AtP Tryz.prog 88 (bodyOf Tryz.f29) (KR Tryz.prog Tryz.f29.results.toList (o29 r) (p29 r)) [true,true,false,true,false] [] (lookA L) :=
 at_loop (by kernel_rfl) (fun _ => by kernel_rfl) (q29_l0 r) (by
  rintro k _ ⟨x1,x28,x29,x30,x816000,x816001,rfl,h⟩
  cases k with
  | zero => simp [spec_RenamePuzzle.l0] at h
  | succ k =>
   rw [spec_RenamePuzzle.l0] at h
   rcases ite_ h with ⟨g1,h2⟩ | ⟨g1,h2⟩
   ·obtain ⟨g3,h4⟩:=ip_ h2
    obtain ⟨g5,h6⟩:=ip_ h4
    obtain ⟨g7,h8⟩:=ip_ h6
    obtain ⟨t821,c9,h10⟩:=bd_ h8
    rcases ite_ h10 with ⟨g11,h12⟩ | ⟨g11,h12⟩
    ·subst g11
     obtain rfl:=Option.some.inj h12
     exact leafRet (hn:=hn29) 25 [.val (.bool true),.elem (vi (rd x28 x30)),.elem (.sl (iI .i64 (x1.take (x30:Int).toNat))),.call (vb true),.go] [] .ret (.inr rfl) (by kernel_rfl) (And.intro (int_lss (P:=Tryz.prog) (t:=3) (k:=.i64) (x:=(.tmp 30)) (y:=(.tmp 29)) (a:=x30) (b:=x29) (v:=true) (decide_eq_true g1)) (And.intro (iI_rd (k:=.i64) (xs:=x28) (i:=x30) g3 g5) (And.intro (iI_take (k:=.i64) (xs:=x1) (b:=x30) g3 g7) (ad_72 c9)))) (by kernel_rfl)
    ·obtain rfl:=Bool.eq_false_iff.2 g11
     exact leafBack (hn:=hn29) 20 [.val (.bool true),.elem (vi (rd x28 x30)),.elem (.sl (iI .i64 (x1.take (x30:Int).toNat))),.call (vb false),.val (.int .i64 (wrap64 (x30 + 1)))] [] (q29_l0_mk h12) (Nat.lt_succ_self k) (And.intro (int_lss (P:=Tryz.prog) (t:=3) (k:=.i64) (x:=(.tmp 30)) (y:=(.tmp 29)) (a:=x30) (b:=x29) (v:=true) (decide_eq_true g1)) (And.intro (iI_rd (k:=.i64) (xs:=x28) (i:=x30) g3 g5) (And.intro (And.intro (iI_take (k:=.i64) (xs:=x1) (b:=x30) g3 g7) (ad_72 c9)) (int_add (P:=Tryz.prog) (t:=3) (k:=.i64) (x:=(.tmp 30)) (y:=(.const (.int .i64 1))) (a:=x30) (b:=1) (c:=(wrap64 (x30 + 1))) (IntWalk.i64_left _))))) (by kernel_rfl)
   ·exact leafAt (hn:=hn29) 18 [.val (.bool false),.nil false 67,.val (.int .i64 (x816000.length:Int))] [] (at29_l1 _ _ (q29_l1_mk h2)) (And.intro (int_lss (P:=Tryz.prog) (t:=3) (k:=.i64) (x:=(.tmp 30)) (y:=(.tmp 29)) (a:=x30) (b:=x29) (v:=false) (decide_eq_false g1)) (iS67_len (xs:=x816000))) (by kernel_rfl))
set_option maxRecDepth 100000 in
theorem at29_j0 {r:(List (S67)) × List Int × Bool} {k:Nat} {x1:List Int} {x26:Bool} {x816000:List (S67)} {x816001:List Int} (h:spec_RenamePuzzle.j0 k x1 x26 x816000 x816001 = some r):AtP Tryz.prog 88 (bodyOf Tryz.f29) (KR Tryz.prog Tryz.f29.results.toList (o29 r) (p29 r)) [true,false,true] [] (lookA [(1,.sl (iI .i64 x1)),(2,.loc 90 0),(4,.loc 92 0),(26,vb x26),(90,.box (.agg [.sl (iS67 x816000),.sl (iI .i64 x816001)])),(92,.box (.agg [.val (.slice none 0 0),.val (.slice none 0 0)]))]):=by
 cases k with
 | zero => simp [spec_RenamePuzzle.j0] at h
 | succ k =>
  rw [spec_RenamePuzzle.j0] at h
  rcases ite_ h with ⟨g1,h2⟩ | ⟨g1,h2⟩
  ·subst g1
   obtain rfl:=Option.some.inj h2
   exact leafRet (hn:=hn29) 6 [.go] [] .ret (.inr rfl) (by kernel_rfl) True.intro (by kernel_rfl)
  ·obtain rfl:=Bool.eq_false_iff.2 g1
   exact leafAt (hn:=hn29) 8 [.val (.int .i64 (x1.length:Int))] [] (at29_l0 _ _ (q29_l0_mk h2)) (iI_len (k:=.i64) (xs:=x1)) (by kernel_rfl)
set_option maxRecDepth 100000 in
theorem ad_29 {k:Nat} {l0_0:List (S67)} {l0_1:List Int} {l1:List Int} {r1:List (S67)} {r2:List Int} {r3:Bool} (h:spec_RenamePuzzle.f k l0_0 l0_1 l1 = some (r1,r2,r3)):CallH Tryz.prog 29 [.agg [.sl (iS67 l0_0),.sl (iI .i64 l0_1)],.sl (iI .i64 l1)] [] (.tup [.agg [.sl (iS67 r1),.sl (iI .i64 r2)],vb r3]) []:=by
 unfold spec_RenamePuzzle.f at h
 refine call_ok (c:=bodyOf Tryz.f29) (rs:=o29 (r1,r2,r3)) (post:=p29 (r1,r2,r3)) Tryz.func29 rfl rfl rfl (by kernel_rfl) ?_
 show AtP Tryz.prog 88 (bodyOf Tryz.f29) (KR Tryz.prog Tryz.f29.results.toList (o29 (r1,r2,r3)) (p29 (r1,r2,r3))) [] [] (lookA [(0,.agg [.sl (iS67 l0_0),.sl (iI .i64 l0_1)]),(1,.sl (iI .i64 l1))])
 obtain ⟨t817,c1,h2⟩:=bd_ h
 rcases ite_ h2 with ⟨g3,h4⟩ | ⟨g3,h4⟩
 ·subst g3
  rcases ite_ h4 with ⟨g5,h6⟩ | ⟨g5,h6⟩
  ·obtain ⟨t818,c7,h8⟩:=bd_ h6
   exact leafAt (hn:=hn29) 7 [.call (vb true),.val (.int .i64 (l1.length:Int)),.val (.bool false),.call (vb t818)] [] (at29_j0 h8) (And.intro (ad_50 c1) (And.intro (iI_len (k:=.i64) (xs:=l1)) (And.intro (int_neq (P:=Tryz.prog) (t:=3) (k:=.i64) (x:=(.tmp 19)) (y:=(.const (.int .i64 10))) (a:=(l1.length:Int)) (b:=10) (v:=false) (nbeq_f g5)) (ad_71 c7)))) (by kernel_rfl)
  ·exact leafAt (hn:=hn29) 7 [.call (vb true),.val (.int .i64 (l1.length:Int)),.val (.bool true)] [] (at29_j0 h6) (And.intro (ad_50 c1) (And.intro (iI_len (k:=.i64) (xs:=l1)) (int_neq (P:=Tryz.prog) (t:=3) (k:=.i64) (x:=(.tmp 19)) (y:=(.const (.int .i64 10))) (a:=(l1.length:Int)) (b:=10) (v:=true) (nbeq_t g5)))) (by kernel_rfl)
 ·obtain rfl:=Bool.eq_false_iff.2 g3
  exact leafAt (hn:=hn29) 7 [.call (vb false)] [] (at29_j0 h4) (ad_50 c1) (by kernel_rfl)

def hn3:Hint:=⟨[(7,[388]),(9,[390]),(13,[394]),(14,[395]),(16,[397]),(28,[409]),(32,[413]),(35,[416]),(37,[418]),(39,[420]),(41,[422]),(43,[424]),(45,[426]),(46,[427]),(48,[429]),(50,[431]),(52,[433]),(54,[435]),(56,[437]),(58,[439]),(183,[395]),(341,[420])]⟩
def o3 (r:Bool):List AV:=[vb r]
def p3 (r:Bool):List (Nat × AV):=[]
def q3_l0 (r:Bool) (k:Nat) (L:List (Nat × AV)):Prop:=∃ (x1:List Int) (x184:List Int) (x185:Int) (x186:Int) (x883000:List (S67)) (x883001:List Int),L = [(1,.sl (iI .u8 x1)),(14,.loc 395 0),(184,.sl (iI .i64 x184)),(185,vi x185),(186,vi x186),(395,.box (.agg [.sl (iS67 x883000),.sl (iI .i64 x883001)]))] ∧ laws_FnPuzzlesMade.l0 k x1 x184 x185 x186 x883000 x883001 = some r
theorem q3_l0_mk {r:Bool} {k:Nat} {x1:List Int} {x184:List Int} {x185:Int} {x186:Int} {x883000:List (S67)} {x883001:List Int} (h:laws_FnPuzzlesMade.l0 k x1 x184 x185 x186 x883000 x883001 = some r):q3_l0 r k [(1,.sl (iI .u8 x1)),(14,.loc 395 0),(184,.sl (iI .i64 x184)),(185,vi x185),(186,vi x186),(395,.box (.agg [.sl (iS67 x883000),.sl (iI .i64 x883001)]))]:=⟨x1,x184,x185,x186,x883000,x883001,rfl,h⟩
set_option maxRecDepth 100000 in
theorem at3_j15 {r:Bool} {k:Nat} {x53:Bool} {x998000:List (S67)} {x998001:List Int} {x1006000:List (S67)} {x1006001:List Int} (h:laws_FnPuzzlesMade.j15 k x53 x998000 x998001 x1006000 x1006001 = some r):AtP Tryz.prog 381 (bodyOf Tryz.f3) (KR Tryz.prog Tryz.f3.results.toList (o3 r) (p3 r)) [true,true,true,true,true,true,true,true,true,true,true,true,true,true,true,true,true,true,true,true,true,true,true,true,true,true,true] [] (lookA [(50,.loc 431 0),(52,.loc 433 0),(53,vb x53),(431,.box (.agg [.sl (iS67 x998000),.sl (iI .i64 x998001)])),(433,.box (.agg [.sl (iS67 x1006000),.sl (iI .i64 x1006001)]))]):=by
 cases k with
 | zero => simp [laws_FnPuzzlesMade.j15] at h
 | succ k =>
  rw [laws_FnPuzzlesMade.j15] at h
  rcases ite_ h with ⟨g1,h2⟩ | ⟨g1,h2⟩
  ·subst g1
   obtain ⟨⟨bt1037_1,bt1037_2⟩,c3,h4⟩:=bd_ h2
   try dsimp only at h4
   obtain ⟨⟨bt1039_1,bt1039_2⟩,c5,h6⟩:=bd_ h4
   try dsimp only at h6
   obtain ⟨g7,h8⟩:=in_ h6
   obtain ⟨g9,h10⟩:=ip_ h8
   obtain ⟨t1041,c11,h12⟩:=bd_ h10
   obtain ⟨g13,h14⟩:=ip_ h12
   subst g13
   obtain rfl:=Option.some.inj h14
   exact leafRet (hn:=hn3) 21 [.call (.tup [vi bt1037_1,vb bt1037_2]),.call (.tup [vi bt1039_1,vb bt1039_2]),.val (.bool false),.val (.bool false),.call (vb true)] [] .ret (.inr rfl) (by kernel_rfl) (And.intro (ad_18 c3) (And.intro (ad_18 c5) (And.intro (bool_neq (P:=Tryz.prog) (t:=4) (x:=(.tmp 368)) (y:=(.tmp 369)) (a:=bt1037_2) (b:=bt1039_2) Tryz.underlying4 (v:=false) (Bool.eq_false_iff.2 g7)) (And.intro (int_neq (P:=Tryz.prog) (t:=3) (k:=.i64) (x:=(.tmp 372)) (y:=(.tmp 373)) (a:=bt1037_1) (b:=bt1039_1) (v:=false) (nbeq_f g9)) (ad_10 c11))))) (by kernel_rfl)
  ·obtain rfl:=Bool.eq_false_iff.2 g1
   obtain rfl:=Option.some.inj h2
   exact leafRet (hn:=hn3) 11 [] [] .ret (.inr rfl) (by kernel_rfl) True.intro (by kernel_rfl)
set_option maxRecDepth 100000 in
theorem at3_j14 {r:Bool} {k:Nat} {x40:Int} {x42:Bool} {x53:Bool} {x949000:List (S67)} {x949001:List Int} {x957000:List (S67)} {x957001:List Int} {x998000:List (S67)} {x998001:List Int} {x1006000:List (S67)} {x1006001:List Int} (h:laws_FnPuzzlesMade.j14 k x40 x42 x53 x949000 x949001 x957000 x957001 x998000 x998001 x1006000 x1006001 = some r):AtP Tryz.prog 381 (bodyOf Tryz.f3) (KR Tryz.prog Tryz.f3.results.toList (o3 r) (p3 r)) [true,true,true,true,true,true,true,true,true,true,true,true,true,true,true,true,true,true,true,true,true,true,true,true,true,true] [] (lookA [(39,.loc 420 0),(40,vi x40),(41,.loc 422 0),(42,vb x42),(50,.loc 431 0),(52,.loc 433 0),(53,vb x53),(420,.box (.agg [.sl (iS67 x949000),.sl (iI .i64 x949001)])),(422,.box (.agg [.sl (iS67 x957000),.sl (iI .i64 x957001)])),(431,.box (.agg [.sl (iS67 x998000),.sl (iI .i64 x998001)])),(433,.box (.agg [.sl (iS67 x1006000),.sl (iI .i64 x1006001)]))]):=by
 cases k with
 | zero => simp [laws_FnPuzzlesMade.j14] at h
 | succ k =>
  rw [laws_FnPuzzlesMade.j14] at h
  rcases ite_ h with ⟨g1,h2⟩ | ⟨g1,h2⟩
  ·subst g1
   obtain ⟨g3,h4⟩:=ip_ h2
   obtain ⟨g5,h6⟩:=ip_ h4
   obtain ⟨⟨bt1028_1,bt1028_2,bt1028_3⟩,c7,h8⟩:=bd_ h6
   try dsimp only at h8
   obtain ⟨g9,h10⟩:=ip_ h8
   subst g9
   obtain ⟨t1036,c11,h12⟩:=bd_ h10
   obtain ⟨g13,h14⟩:=ip_ h12
   subst g13
   exact leafAt (hn:=hn3) 14 [.elem (vi (rd x949001 x40)),.call (.tup [.agg [.sl (iS67 bt1028_1),.sl (iI .i64 bt1028_2)],vb true]),.call (vb true)] [] (at3_j15 h14) (And.intro (And.intro (iI_rd (k:=.i64) (xs:=x949001) (i:=x40) g3 g5) (ad_20 c7)) (ad_8 c11)) (by kernel_rfl)
  ·obtain rfl:=Bool.eq_false_iff.2 g1
   exact leafAt (hn:=hn3) 7 [] [] (at3_j15 h2) True.intro (by kernel_rfl)
set_option maxRecDepth 100000 in
theorem at3_j13 {r:Bool} {k:Nat} {x33:Int} {x36:Bool} {x40:Int} {x42:Bool} {x53:Bool} {x925000:List (S67)} {x925001:List Int} {x933000:List (S67)} {x933001:List Int} {x949000:List (S67)} {x949001:List Int} {x957000:List (S67)} {x957001:List Int} {x998000:List (S67)} {x998001:List Int} {x1006000:List (S67)} {x1006001:List Int} (h:laws_FnPuzzlesMade.j13 k x33 x36 x40 x42 x53 x925000 x925001 x933000 x933001 x949000 x949001 x957000 x957001 x998000 x998001 x1006000 x1006001 = some r):AtP Tryz.prog 381 (bodyOf Tryz.f3) (KR Tryz.prog Tryz.f3.results.toList (o3 r) (p3 r)) [true,true,true,true,true,true,true,true,true,true,true,true,true,true,true,true,true,true,true,true,true,true,true,true,true] [] (lookA [(32,.loc 413 0),(33,vi x33),(35,.loc 416 0),(36,vb x36),(39,.loc 420 0),(40,vi x40),(41,.loc 422 0),(42,vb x42),(50,.loc 431 0),(52,.loc 433 0),(53,vb x53),(413,.box (.agg [.sl (iS67 x925000),.sl (iI .i64 x925001)])),(416,.box (.agg [.sl (iS67 x933000),.sl (iI .i64 x933001)])),(420,.box (.agg [.sl (iS67 x949000),.sl (iI .i64 x949001)])),(422,.box (.agg [.sl (iS67 x957000),.sl (iI .i64 x957001)])),(431,.box (.agg [.sl (iS67 x998000),.sl (iI .i64 x998001)])),(433,.box (.agg [.sl (iS67 x1006000),.sl (iI .i64 x1006001)]))]):=by
 cases k with
 | zero => simp [laws_FnPuzzlesMade.j13] at h
 | succ k =>
  rw [laws_FnPuzzlesMade.j13] at h
  rcases ite_ h with ⟨g1,h2⟩ | ⟨g1,h2⟩
  ·subst g1
   obtain ⟨⟨bt1018_1,bt1018_2,bt1018_3⟩,c3,h4⟩:=bd_ h2
   try dsimp only at h4
   obtain ⟨g5,h6⟩:=ip_ h4
   subst g5
   obtain ⟨t1026,c7,h8⟩:=bd_ h6
   obtain ⟨g9,h10⟩:=ip_ h8
   subst g9
   exact leafAt (hn:=hn3) 14 [.call (.tup [.agg [.sl (iS67 bt1018_1),.sl (iI .i64 bt1018_2)],vb true]),.call (vb true)] [] (at3_j14 h10) (And.intro (ad_17 c3) (ad_8 c7)) (by kernel_rfl)
  ·obtain rfl:=Bool.eq_false_iff.2 g1
   exact leafAt (hn:=hn3) 7 [] [] (at3_j14 h2) True.intro (by kernel_rfl)
set_option maxRecDepth 100000 in
theorem at3_j12 {r:Bool} {k:Nat} {x33:Int} {x36:Bool} {x40:Int} {x42:Bool} {x53:Bool} {x321:Bool} {x925000:List (S67)} {x925001:List Int} {x933000:List (S67)} {x933001:List Int} {x949000:List (S67)} {x949001:List Int} {x957000:List (S67)} {x957001:List Int} {x998000:List (S67)} {x998001:List Int} {x1006000:List (S67)} {x1006001:List Int} (h:laws_FnPuzzlesMade.j12 k x33 x36 x40 x42 x53 x321 x925000 x925001 x933000 x933001 x949000 x949001 x957000 x957001 x998000 x998001 x1006000 x1006001 = some r):AtP Tryz.prog 381 (bodyOf Tryz.f3) (KR Tryz.prog Tryz.f3.results.toList (o3 r) (p3 r)) [true,true,true,true,true,true,true,true,true,true,true,true,true,true,true,true,true,true,true,true,true,true,true,true,false,true] [] (lookA [(32,.loc 413 0),(33,vi x33),(35,.loc 416 0),(36,vb x36),(39,.loc 420 0),(40,vi x40),(41,.loc 422 0),(42,vb x42),(50,.loc 431 0),(52,.loc 433 0),(53,vb x53),(321,vb x321),(413,.box (.agg [.sl (iS67 x925000),.sl (iI .i64 x925001)])),(416,.box (.agg [.sl (iS67 x933000),.sl (iI .i64 x933001)])),(420,.box (.agg [.sl (iS67 x949000),.sl (iI .i64 x949001)])),(422,.box (.agg [.sl (iS67 x957000),.sl (iI .i64 x957001)])),(431,.box (.agg [.sl (iS67 x998000),.sl (iI .i64 x998001)])),(433,.box (.agg [.sl (iS67 x1006000),.sl (iI .i64 x1006001)]))]):=by
 cases k with
 | zero => simp [laws_FnPuzzlesMade.j12] at h
 | succ k =>
  rw [laws_FnPuzzlesMade.j12] at h
  obtain ⟨g1,h2⟩:=in_ h
  obtain rfl:=Bool.eq_false_iff.2 g1
  exact leafAt (hn:=hn3) 3 [] [] (at3_j13 h2) True.intro (by kernel_rfl)
set_option maxRecDepth 100000 in
theorem at3_j11 {r:Bool} {k:Nat} {x1:List Int} (h:laws_FnPuzzlesMade.j11 k x1 = some r):AtP Tryz.prog 381 (bodyOf Tryz.f3) (KR Tryz.prog Tryz.f3.results.toList (o3 r) (p3 r)) [true,true,true,true,true,true,true,true,true,true,true,true] [] (lookA [(1,.sl (iI .u8 x1))]):=by
 cases k with
 | zero => simp [laws_FnPuzzlesMade.j11] at h
 | succ k =>
  rw [laws_FnPuzzlesMade.j11] at h
  obtain ⟨⟨bt916_1,bt916_2,bt916_3,bt916_4⟩,c1,h2⟩:=bd_ h
  try dsimp only at h2
  obtain ⟨⟨bt925_1,bt925_2,bt925_3⟩,c3,h4⟩:=bd_ h2
  try dsimp only at h4
  obtain ⟨⟨bt933_1,bt933_2,bt933_3⟩,c5,h6⟩:=bd_ h4
  try dsimp only at h6
  obtain ⟨⟨bt941_1,bt941_2,bt941_3⟩,c7,h8⟩:=bd_ h6
  try dsimp only at h8
  obtain ⟨⟨bt949_1,bt949_2,bt949_3⟩,c9,h10⟩:=bd_ h8
  try dsimp only at h10
  obtain ⟨⟨bt957_1,bt957_2,bt957_3⟩,c11,h12⟩:=bd_ h10
  try dsimp only at h12
  obtain ⟨⟨bt965_1,bt965_2⟩,c13,h14⟩:=bd_ h12
  try dsimp only at h14
  obtain ⟨⟨bt972_1,bt972_2,bt972_3⟩,c15,h16⟩:=bd_ h14
  try dsimp only at h16
  obtain ⟨⟨bt980_1,bt980_2,bt980_3⟩,c17,h18⟩:=bd_ h16
  try dsimp only at h18
  obtain ⟨⟨bt988_1,bt988_2,bt988_3⟩,c19,h20⟩:=bd_ h18
  try dsimp only at h20
  obtain ⟨⟨bt998_1,bt998_2,bt998_3⟩,c21,h22⟩:=bd_ h20
  try dsimp only at h22
  obtain ⟨⟨bt1006_1,bt1006_2,bt1006_3⟩,c23,h24⟩:=bd_ h22
  try dsimp only at h24
  obtain ⟨g25,h26⟩:=in_ h24
  obtain ⟨t1014,c27,h28⟩:=bd_ h26
  obtain ⟨g29,h30⟩:=ip_ h28
  subst g29
  obtain ⟨g31,h32⟩:=in_ h30
  obtain ⟨t1015,c33,h34⟩:=bd_ h32
  obtain ⟨g35,h36⟩:=ip_ h34
  subst g35
  obtain ⟨g37,h38⟩:=in_ h36
  obtain ⟨t1016,c39,h40⟩:=bd_ h38
  obtain ⟨g41,h42⟩:=ip_ h40
  subst g41
  obtain ⟨g43,h44⟩:=in_ h42
  obtain ⟨t1017,c45,h46⟩:=bd_ h44
  exact leafAt (hn:=hn3) 40 [.call (.tup [.agg [.sl (iS67 bt916_1),.sl (iI .i64 bt916_2)],vi bt916_3,vi bt916_4]),.call (.tup [.agg [.sl (iS67 bt925_1),.sl (iI .i64 bt925_2)],vb bt925_3]),.call (.tup [.agg [.sl (iS67 bt933_1),.sl (iI .i64 bt933_2)],vb bt933_3]),.call (.tup [.agg [.sl (iS67 bt941_1),.sl (iI .i64 bt941_2)],vi bt941_3]),.call (.tup [.agg [.sl (iS67 bt949_1),.sl (iI .i64 bt949_2)],vb bt949_3]),.call (.tup [.agg [.sl (iS67 bt957_1),.sl (iI .i64 bt957_2)],vb bt957_3]),.call (.agg [.sl (iS67 bt965_1),.sl (iI .i64 bt965_2)]),.call (.tup [.agg [.sl (iS67 bt972_1),.sl (iI .i64 bt972_2)],vb bt972_3]),.call (.tup [.agg [.sl (iS67 bt980_1),.sl (iI .i64 bt980_2)],vb bt980_3]),.call (.tup [.agg [.sl (iS67 bt988_1),.sl (iI .i64 bt988_2)],.sl (iI .i64 bt988_3)]),.call (.tup [.agg [.sl (iS67 bt998_1),.sl (iI .i64 bt998_2)],vb bt998_3]),.call (.tup [.agg [.sl (iS67 bt1006_1),.sl (iI .i64 bt1006_2)],vb bt1006_3]),.val (.bool false),.call (vb true),.val (.bool false),.call (vb true),.val (.bool false),.call (vb true),.val (.bool false),.call (vb t1017)] [] (at3_j12 h46) (And.intro (ad_19 c1) (And.intro (ad_20 c3) (And.intro (ad_21 c5) (And.intro (ad_22 c7) (And.intro (ad_17 c9) (And.intro (ad_23 c11) (And.intro (ad_24 c13) (And.intro (ad_25 c15) (And.intro (ad_26 c17) (And.intro (ad_27 c19) (And.intro (ad_28 c21) (And.intro (ad_29 c23) (And.intro (bool_neq (P:=Tryz.prog) (t:=4) (x:=(.tmp 280)) (y:=(.tmp 281)) (a:=bt925_3) (b:=bt933_3) Tryz.underlying4 (v:=false) (Bool.eq_false_iff.2 g25)) (And.intro (ad_8 c27) (And.intro (bool_neq (P:=Tryz.prog) (t:=4) (x:=(.tmp 290)) (y:=(.tmp 291)) (a:=bt949_3) (b:=bt957_3) Tryz.underlying4 (v:=false) (Bool.eq_false_iff.2 g31)) (And.intro (ad_8 c33) (And.intro (bool_neq (P:=Tryz.prog) (t:=4) (x:=(.tmp 301)) (y:=(.tmp 302)) (a:=bt972_3) (b:=bt980_3) Tryz.underlying4 (v:=false) (Bool.eq_false_iff.2 g37)) (And.intro (ad_8 c39) (And.intro (bool_neq (P:=Tryz.prog) (t:=4) (x:=(.tmp 312)) (y:=(.tmp 313)) (a:=bt998_3) (b:=bt1006_3) Tryz.underlying4 (v:=false) (Bool.eq_false_iff.2 g43)) (ad_8 c45)))))))))))))))))))) (by kernel_rfl)
set_option maxRecDepth 100000 in
theorem at3_j10 {r:Bool} {K0:Nat} {k:Nat} {x1:List Int} {x26:Int} {x184:List Int} {x185:Int} {x186:Int} {x883000:List (S67)} {x883001:List Int} (hk0:k < K0) (h:laws_FnPuzzlesMade.j10 k x1 x26 x184 x185 x186 x883000 x883001 = some r):AtP Tryz.prog 381 (bodyOf Tryz.f3) (KR Tryz.prog Tryz.f3.results.toList (o3 r) (p3 r)) [true,true,true,true,true,true,true,true,true,true,true,false,true,false,true,true,true,true,true,true,false,false,true,true,false,false,true,true] [upto (q3_l0 r) K0] (lookA [(1,.sl (iI .u8 x1)),(14,.loc 395 0),(26,vi x26),(184,.sl (iI .i64 x184)),(185,vi x185),(186,vi x186),(395,.box (.agg [.sl (iS67 x883000),.sl (iI .i64 x883001)]))]):=by
 cases k with
 | zero => simp [laws_FnPuzzlesMade.j10] at h
 | succ k =>
  rw [laws_FnPuzzlesMade.j10] at h
  have hk0:=Nat.lt_of_succ_lt hk0
  obtain ⟨⟨bt906_1,bt906_2,bt906_3⟩,c1,h2⟩:=bd_ h
  try dsimp only at h2
  obtain ⟨⟨bt914_1,bt914_2⟩,c3,h4⟩:=bd_ h2
  try dsimp only at h4
  obtain ⟨g5,h6⟩:=ip_ h4
  subst g5
  rcases ite_ h6 with ⟨g7,h8⟩ | ⟨g7,h8⟩
  ·subst g7
   obtain ⟨g9,h10⟩:=in_ h8
   exact leafBack (hn:=hn3) 14 [.call (.tup [.agg [.sl (iS67 bt906_1),.sl (iI .i64 bt906_2)],vb true]),.call (.tup [vi bt914_1,vb true]),.val (.bool false),.val (.int .i64 (wrap64 (x186 + 1)))] [] (q3_l0_mk h10) hk0 (And.intro (ad_17 c1) (And.intro (ad_18 c3) (And.intro (int_lss (P:=Tryz.prog) (t:=3) (k:=.i64) (x:=(.tmp 209)) (y:=(.const (.int .i64 2))) (a:=bt914_1) (b:=2) (v:=false) (decide_eq_false g9)) (int_add (P:=Tryz.prog) (t:=3) (k:=.i64) (x:=(.tmp 186)) (y:=(.const (.int .i64 1))) (a:=x186) (b:=1) (c:=(wrap64 (x186 + 1))) (IntWalk.i64_left _))))) (by kernel_rfl)
  ·obtain rfl:=Bool.eq_false_iff.2 g7
   exact leafBack (hn:=hn3) 14 [.call (.tup [.agg [.sl (iS67 bt906_1),.sl (iI .i64 bt906_2)],vb true]),.call (.tup [vi bt914_1,vb false]),.val (.int .i64 (wrap64 (x186 + 1)))] [] (q3_l0_mk h8) hk0 (And.intro (ad_17 c1) (And.intro (ad_18 c3) (int_add (P:=Tryz.prog) (t:=3) (k:=.i64) (x:=(.tmp 186)) (y:=(.const (.int .i64 1))) (a:=x186) (b:=1) (c:=(wrap64 (x186 + 1))) (IntWalk.i64_left _)))) (by kernel_rfl)
set_option maxRecDepth 100000 in
theorem at3_j9 {r:Bool} {K0:Nat} {k:Nat} {x1:List Int} {x184:List Int} {x185:Int} {x186:Int} {x883000:List (S67)} {x883001:List Int} (hk0:k < K0) (h:laws_FnPuzzlesMade.j9 k x1 x184 x185 x186 x883000 x883001 = some r):AtP Tryz.prog 381 (bodyOf Tryz.f3) (KR Tryz.prog Tryz.f3.results.toList (o3 r) (p3 r)) [true,true,true,true,true,true,true,true,true,true,true,false,true,false,true,true,true,true,true,true,false,false,true,true] [upto (q3_l0 r) K0] (lookA [(1,.sl (iI .u8 x1)),(14,.loc 395 0),(184,.sl (iI .i64 x184)),(185,vi x185),(186,vi x186),(395,.box (.agg [.sl (iS67 x883000),.sl (iI .i64 x883001)]))]):=by
 cases k with
 | zero => simp [laws_FnPuzzlesMade.j9] at h
 | succ k =>
  rw [laws_FnPuzzlesMade.j9] at h
  have hk0:=Nat.lt_of_succ_lt hk0
  obtain ⟨g1,h2⟩:=ip_ h
  obtain ⟨g3,h4⟩:=ip_ h2
  rcases ite_ h4 with ⟨g5,h6⟩ | ⟨g5,h6⟩
  ·exact leafBack (hn:=hn3) 15 [.elem (vi (rd x184 x186)),.val (.bool true),.val (.int .i64 (wrap64 (x186 + 1)))] [] (q3_l0_mk h6) hk0 (And.intro (iI_rd (k:=.i64) (xs:=x184) (i:=x186) g1 g3) (And.intro (int_lss (P:=Tryz.prog) (t:=3) (k:=.i64) (x:=(.tmp 191)) (y:=(.const (.int .i64 0))) (a:=(rd x184 x186)) (b:=0) (v:=true) (decide_eq_true g5)) (int_add (P:=Tryz.prog) (t:=3) (k:=.i64) (x:=(.tmp 186)) (y:=(.const (.int .i64 1))) (a:=x186) (b:=1) (c:=(wrap64 (x186 + 1))) (IntWalk.i64_left _)))) (by kernel_rfl)
  ·exact leafAt (hn:=hn3) 12 [.elem (vi (rd x184 x186)),.val (.bool false)] [] (at3_j10 hk0 h6) (And.intro (iI_rd (k:=.i64) (xs:=x184) (i:=x186) g1 g3) (int_lss (P:=Tryz.prog) (t:=3) (k:=.i64) (x:=(.tmp 191)) (y:=(.const (.int .i64 0))) (a:=(rd x184 x186)) (b:=0) (v:=false) (decide_eq_false g5))) (by kernel_rfl)
set_option maxRecDepth 100000 in
theorem at3_l0 {r:Bool}:∀ k L,q3_l0 r k L → AtP Tryz.prog 381 (bodyOf Tryz.f3) (KR Tryz.prog Tryz.f3.results.toList (o3 r) (p3 r)) [true,true,true,true,true,true,true,true,true,true,true,false,true,false,true,true,true,true,true,true,false] [] (lookA L) :=
 at_loop (by kernel_rfl) (fun _ => by kernel_rfl) (q3_l0 r) (by
  rintro k _ ⟨x1,x184,x185,x186,x883000,x883001,rfl,h⟩
  cases k with
  | zero => simp [laws_FnPuzzlesMade.l0] at h
  | succ k =>
   rw [laws_FnPuzzlesMade.l0] at h
   rcases ite_ h with ⟨g1,h2⟩ | ⟨g1,h2⟩
   ·exact leafAt (hn:=hn3) 7 [.val (.bool true)] [] (at3_j9 (Nat.lt_succ_self k) h2) (int_lss (P:=Tryz.prog) (t:=3) (k:=.i64) (x:=(.tmp 186)) (y:=(.tmp 185)) (a:=x186) (b:=x185) (v:=true) (decide_eq_true g1)) (by kernel_rfl)
   ·exact leafAt (hn:=hn3) 10 [.val (.bool false)] [] (at3_j11 h2) (int_lss (P:=Tryz.prog) (t:=3) (k:=.i64) (x:=(.tmp 186)) (y:=(.tmp 185)) (a:=x186) (b:=x185) (v:=false) (decide_eq_false g1)) (by kernel_rfl))
set_option maxRecDepth 100000 in
theorem at3_j7 {r:Bool} {k:Nat} {x1:List Int} {x883000:List (S67)} {x883001:List Int} (h:laws_FnPuzzlesMade.j7 k x1 x883000 x883001 = some r):AtP Tryz.prog 381 (bodyOf Tryz.f3) (KR Tryz.prog Tryz.f3.results.toList (o3 r) (p3 r)) [true,true,true,true,true,true,true,true,true,true,true,false,true,false,true,true,true,true,true] [] (lookA [(1,.sl (iI .u8 x1)),(14,.loc 395 0),(395,.box (.agg [.sl (iS67 x883000),.sl (iI .i64 x883001)]))]):=by
 cases k with
 | zero => simp [laws_FnPuzzlesMade.j7] at h
 | succ k =>
  rw [laws_FnPuzzlesMade.j7] at h
  exact leafAt (hn:=hn3) 4 [.val (.int .i64 (x883001.length:Int))] [] (at3_l0 _ _ (q3_l0_mk h)) (iI_len (k:=.i64) (xs:=x883001)) (by kernel_rfl)
set_option maxRecDepth 100000 in
theorem at3_j6 {r:Bool} {k:Nat} {x1:List Int} {x182:Bool} {x883000:List (S67)} {x883001:List Int} (h:laws_FnPuzzlesMade.j6 k x1 x182 x883000 x883001 = some r):AtP Tryz.prog 381 (bodyOf Tryz.f3) (KR Tryz.prog Tryz.f3.results.toList (o3 r) (p3 r)) [true,true,true,true,true,true,true,true,true,true,true,false,true,false,true,true,true,true,false,true] [] (lookA [(1,.sl (iI .u8 x1)),(14,.loc 395 0),(182,vb x182),(395,.box (.agg [.sl (iS67 x883000),.sl (iI .i64 x883001)]))]):=by
 cases k with
 | zero => simp [laws_FnPuzzlesMade.j6] at h
 | succ k =>
  rw [laws_FnPuzzlesMade.j6] at h
  obtain ⟨g1,h2⟩:=in_ h
  obtain rfl:=Bool.eq_false_iff.2 g1
  exact leafAt (hn:=hn3) 3 [] [] (at3_j7 h2) True.intro (by kernel_rfl)
set_option maxRecDepth 100000 in
theorem at3_j5 {r:Bool} {k:Nat} {x1:List Int} {x15:Bool} {x875000:List (S67)} {x875001:List Int} {x883000:List (S67)} {x883001:List Int} (h:laws_FnPuzzlesMade.j5 k x1 x15 x875000 x875001 x883000 x883001 = some r):AtP Tryz.prog 381 (bodyOf Tryz.f3) (KR Tryz.prog Tryz.f3.results.toList (o3 r) (p3 r)) [true,true,true,true,true,true,true,true,true,true,true] [] (lookA [(1,.sl (iI .u8 x1)),(13,.loc 394 0),(14,.loc 395 0),(15,vb x15),(394,.box (.agg [.sl (iS67 x875000),.sl (iI .i64 x875001)])),(395,.box (.agg [.sl (iS67 x883000),.sl (iI .i64 x883001)]))]):=by
 cases k with
 | zero => simp [laws_FnPuzzlesMade.j5] at h
 | succ k =>
  rw [laws_FnPuzzlesMade.j5] at h
  rcases ite_ h with ⟨g1,h2⟩ | ⟨g1,h2⟩
  ·subst g1
   obtain ⟨⟨bt892_1,bt892_2⟩,c3,h4⟩:=bd_ h2
   try dsimp only at h4
   obtain ⟨⟨bt896_1,bt896_2⟩,c5,h6⟩:=bd_ h4
   try dsimp only at h6
   obtain ⟨⟨bt900_1,bt900_2⟩,c7,h8⟩:=bd_ h6
   try dsimp only at h8
   obtain ⟨⟨bt902_1,bt902_2⟩,c9,h10⟩:=bd_ h8
   try dsimp only at h10
   obtain ⟨g11,h12⟩:=ip_ h10
   subst g11
   obtain ⟨g13,h14⟩:=ip_ h12
   obtain ⟨g15,h16⟩:=ip_ h14
   subst g15
   obtain ⟨t904,c17,h18⟩:=bd_ h16
   obtain ⟨g19,h20⟩:=ip_ h18
   subst g19
   obtain ⟨g21,h22⟩:=ip_ h20
   subst g21
   obtain ⟨g23,h24⟩:=ip_ h22
   subst g23
   exact leafAt (hn:=hn3) 21 [.call (.tup [.sl (iL (iI .i64) bt892_1),vb true]),.call (.tup [.sl (iL (iI .i64) bt896_1),vb true]),.call (.tup [vi bt900_1,vb true]),.call (.tup [vi bt902_1,vb true]),.val (.int .i64 (bt892_1.length:Int)),.val (.bool false),.call (vb true),.val (.bool (decide (bt902_1 < bt900_1)))] [] (at3_j6 h24) (And.intro (ad_14 c3) (And.intro (ad_14 c5) (And.intro (ad_15 c7) (And.intro (ad_15 c9) (And.intro (iL_len (f:=(iI .i64)) (xs:=bt892_1)) (And.intro (int_neq (P:=Tryz.prog) (t:=3) (k:=.i64) (x:=(.tmp 157)) (y:=(.const (.int .i64 1))) (a:=(bt892_1.length:Int)) (b:=1) (v:=false) (nbeq_f g13)) (And.intro (ad_16 c17) (int_lss (P:=Tryz.prog) (t:=3) (k:=.i64) (x:=(.tmp 179)) (y:=(.tmp 180)) (a:=bt902_1) (b:=bt900_1) (v:=(decide (bt902_1 < bt900_1))) rfl)))))))) (by kernel_rfl)
  ·obtain rfl:=Bool.eq_false_iff.2 g1
   exact leafAt (hn:=hn3) 7 [] [] (at3_j11 h2) True.intro (by kernel_rfl)
set_option maxRecDepth 100000 in
theorem at3_j4 {r:Bool} {k:Nat} {x1:List Int} {x15:Bool} {x131:Bool} {x875000:List (S67)} {x875001:List Int} {x883000:List (S67)} {x883001:List Int} (h:laws_FnPuzzlesMade.j4 k x1 x15 x131 x875000 x875001 x883000 x883001 = some r):AtP Tryz.prog 381 (bodyOf Tryz.f3) (KR Tryz.prog Tryz.f3.results.toList (o3 r) (p3 r)) [true,true,true,true,true,true,true,true,true,true,false,true] [] (lookA [(1,.sl (iI .u8 x1)),(13,.loc 394 0),(14,.loc 395 0),(15,vb x15),(131,vb x131),(394,.box (.agg [.sl (iS67 x875000),.sl (iI .i64 x875001)])),(395,.box (.agg [.sl (iS67 x883000),.sl (iI .i64 x883001)]))]):=by
 cases k with
 | zero => simp [laws_FnPuzzlesMade.j4] at h
 | succ k =>
  rw [laws_FnPuzzlesMade.j4] at h
  obtain ⟨g1,h2⟩:=in_ h
  obtain rfl:=Bool.eq_false_iff.2 g1
  exact leafAt (hn:=hn3) 3 [] [] (at3_j5 h2) True.intro (by kernel_rfl)
set_option maxRecDepth 100000 in
theorem at3_j3 {r:Bool} {k:Nat} {x1:List Int} (h:laws_FnPuzzlesMade.j3 k x1 = some r):AtP Tryz.prog 381 (bodyOf Tryz.f3) (KR Tryz.prog Tryz.f3.results.toList (o3 r) (p3 r)) [true,true,true,true,true,true,true] [] (lookA [(1,.sl (iI .u8 x1))]):=by
 cases k with
 | zero => simp [laws_FnPuzzlesMade.j3] at h
 | succ k =>
  rw [laws_FnPuzzlesMade.j3] at h
  obtain ⟨⟨bt868_1,bt868_2⟩,c1,h2⟩:=bd_ h
  try dsimp only at h2
  obtain ⟨⟨bt875_1,bt875_2,bt875_3⟩,c3,h4⟩:=bd_ h2
  try dsimp only at h4
  obtain ⟨⟨bt883_1,bt883_2,bt883_3⟩,c5,h6⟩:=bd_ h4
  try dsimp only at h6
  obtain ⟨g7,h8⟩:=in_ h6
  obtain ⟨t891,c9,h10⟩:=bd_ h8
  exact leafAt (hn:=hn3) 13 [.call (.agg [.sl (iS67 bt868_1),.sl (iI .i64 bt868_2)]),.call (.tup [.agg [.sl (iS67 bt875_1),.sl (iI .i64 bt875_2)],vb bt875_3]),.call (.tup [.agg [.sl (iS67 bt883_1),.sl (iI .i64 bt883_2)],vb bt883_3]),.val (.bool false),.call (vb t891)] [] (at3_j4 h10) (And.intro (ad_11 c1) (And.intro (ad_12 c3) (And.intro (ad_13 c5) (And.intro (bool_neq (P:=Tryz.prog) (t:=4) (x:=(.tmp 123)) (y:=(.tmp 124)) (a:=bt875_3) (b:=bt883_3) Tryz.underlying4 (v:=false) (Bool.eq_false_iff.2 g7)) (ad_8 c9))))) (by kernel_rfl)
set_option maxRecDepth 100000 in
theorem at3_j2 {r:Bool} {k:Nat} {x1:List Int} {x5:List Int} {x8:Bool} {x856000:List (S67)} {x856001:List Int} (h:laws_FnPuzzlesMade.j2 k x1 x5 x8 x856000 x856001 = some r):AtP Tryz.prog 381 (bodyOf Tryz.f3) (KR Tryz.prog Tryz.f3.results.toList (o3 r) (p3 r)) [true,true,true,true,true,true] [] (lookA [(1,.sl (iI .u8 x1)),(5,.sl (iI .i64 x5)),(7,.loc 388 0),(8,vb x8),(388,.box (.agg [.sl (iS67 x856000),.sl (iI .i64 x856001)]))]):=by
 cases k with
 | zero => simp [laws_FnPuzzlesMade.j2] at h
 | succ k =>
  rw [laws_FnPuzzlesMade.j2] at h
  rcases ite_ h with ⟨g1,h2⟩ | ⟨g1,h2⟩
  ·subst g1
   obtain ⟨⟨bt865_1,bt865_2⟩,c3,h4⟩:=bd_ h2
   try dsimp only at h4
   obtain ⟨t867,c5,h6⟩:=bd_ h4
   obtain ⟨g7,h8⟩:=ip_ h6
   subst g7
   obtain ⟨g9,h10⟩:=ip_ h8
   subst g9
   obtain ⟨g11,h12⟩:=ip_ h10
   subst g11
   exact leafAt (hn:=hn3) 14 [.call (.tup [vb true,vb true]),.call (vb true)] [] (at3_j3 h12) (And.intro (ad_9 c3) (ad_10 c5)) (by kernel_rfl)
  ·obtain rfl:=Bool.eq_false_iff.2 g1
   exact leafAt (hn:=hn3) 7 [] [] (at3_j3 h2) True.intro (by kernel_rfl)
set_option maxRecDepth 100000 in
theorem at3_j1 {r:Bool} {k:Nat} {x1:List Int} {x5:List Int} {x8:Bool} {x92:Bool} {x856000:List (S67)} {x856001:List Int} (h:laws_FnPuzzlesMade.j1 k x1 x5 x8 x92 x856000 x856001 = some r):AtP Tryz.prog 381 (bodyOf Tryz.f3) (KR Tryz.prog Tryz.f3.results.toList (o3 r) (p3 r)) [true,true,true,true,true,false,true] [] (lookA [(1,.sl (iI .u8 x1)),(5,.sl (iI .i64 x5)),(7,.loc 388 0),(8,vb x8),(92,vb x92),(388,.box (.agg [.sl (iS67 x856000),.sl (iI .i64 x856001)]))]):=by
 cases k with
 | zero => simp [laws_FnPuzzlesMade.j1] at h
 | succ k =>
  rw [laws_FnPuzzlesMade.j1] at h
  obtain ⟨g1,h2⟩:=in_ h
  obtain rfl:=Bool.eq_false_iff.2 g1
  exact leafAt (hn:=hn3) 3 [] [] (at3_j2 h2) True.intro (by kernel_rfl)
set_option maxRecDepth 100000 in
theorem at3_j0 {r:Bool} {k:Nat} {x0:List Int} {x1:List Int} (h:laws_FnPuzzlesMade.j0 k x0 x1 = some r):AtP Tryz.prog 381 (bodyOf Tryz.f3) (KR Tryz.prog Tryz.f3.results.toList (o3 r) (p3 r)) [true,true] [] (lookA [(0,.sl (iI .u8 x0)),(1,.sl (iI .u8 x1))]):=by
 cases k with
 | zero => simp [laws_FnPuzzlesMade.j0] at h
 | succ k =>
  rw [laws_FnPuzzlesMade.j0] at h
  obtain ⟨⟨bt844_1,bt844_2⟩,c1,h2⟩:=bd_ h
  try dsimp only at h2
  obtain ⟨⟨bt848_1,bt848_2,bt848_3⟩,c3,h4⟩:=bd_ h2
  try dsimp only at h4
  obtain ⟨⟨bt856_1,bt856_2,bt856_3⟩,c5,h6⟩:=bd_ h4
  try dsimp only at h6
  obtain ⟨g7,h8⟩:=in_ h6
  obtain ⟨t864,c9,h10⟩:=bd_ h8
  exact leafAt (hn:=hn3) 13 [.call (.tup [.sl (iI .i64 bt844_1),vi bt844_2]),.call (.tup [.agg [.sl (iS67 bt848_1),.sl (iI .i64 bt848_2)],vb bt848_3]),.call (.tup [.agg [.sl (iS67 bt856_1),.sl (iI .i64 bt856_2)],vb bt856_3]),.val (.bool false),.call (vb t864)] [] (at3_j1 h10) (And.intro (ad_5 c1) (And.intro (ad_6 c3) (And.intro (ad_7 c5) (And.intro (bool_neq (P:=Tryz.prog) (t:=4) (x:=(.tmp 84)) (y:=(.tmp 85)) (a:=bt848_3) (b:=bt856_3) Tryz.underlying4 (v:=false) (Bool.eq_false_iff.2 g7)) (ad_8 c9))))) (by kernel_rfl)
set_option maxRecDepth 100000 in
theorem ad_3 {k:Nat} {l0:List Int} {l1:List Int} {r:Bool} (h:laws_FnPuzzlesMade.f k l0 l1 = some r):CallH Tryz.prog 3 [.sl (iI .u8 l0),.sl (iI .u8 l1)] [] (vb r) []:=by
 unfold laws_FnPuzzlesMade.f at h
 refine call_ok (c:=bodyOf Tryz.f3) (rs:=o3 r) (post:=p3 r) Tryz.func3 rfl rfl rfl (by kernel_rfl) ?_
 show AtP Tryz.prog 381 (bodyOf Tryz.f3) (KR Tryz.prog Tryz.f3.results.toList (o3 r) (p3 r)) [] [] (lookA [(0,.sl (iI .u8 l0)),(1,.sl (iI .u8 l1))])
 obtain ⟨t843,c1,h2⟩:=bd_ h
 rcases ite_ h2 with ⟨g3,h4⟩ | ⟨g3,h4⟩
 ·subst g3
  obtain rfl:=Option.some.inj h4
  exact leafRet (hn:=hn3) 13 [.call (vb true)] [] .ret (.inr rfl) (by kernel_rfl) (ad_4 c1) (by kernel_rfl)
 ·obtain rfl:=Bool.eq_false_iff.2 g3
  exact leafAt (hn:=hn3) 10 [.call (vb false)] [] (at3_j0 h4) (ad_4 c1) (by kernel_rfl)

theorem laws_FnPuzzlesMade.calls (k:Nat) (A0:Option Addr) (c0:Nat) (l0:List Int) (A1:Option Addr) (c1:Nat) (l1:List Int) (r:Bool) (w:World) (hr0:Kd.C (Kd.int .u8) w A0 l0.length l0) (hc0:l0.length ≤ c0) (hr1:Kd.C (Kd.int .u8) w A1 l1.length l1) (hc1:l1.length ≤ c1) (h:laws_FnPuzzlesMade.f k l0 l1 = some r) :
    Calls Tryz.prog 3 #[.slice A0 l0.length c0,.slice A1 l1.length c1] w fun e w' => e = .returned (.bool r) ∧ Below w.heap.size w w':=by
  have ha:Args w (fun b _ => b < w.heap.size) _ [.slice A0 l0.length c0,.slice A1 l1.length c1]:=(.cons (rep_of (flat_int .u8) hr0 hc0 Nat.one_pos (fun _ _ h _ => h)) (.cons (rep_of (flat_int .u8) hr1 hc1 Nat.one_pos (fun _ _ h _ => h)) .nil))
  exact law_calls (ad_3 h) ha
end Go.Proofs.YtfkonhamjnembaaGreat.QFnPuzzlesMade
