/- The reflected proofs, part 2. -/
import Derived.Test.YtkaafmnfcbgafaaQFnHandsAsSetsx9
namespace Go.Proofs.Ytkaafmnfcbgafaa.QFnHandsAsSets
open Go.RowKit Go.Rh Go.Proofs.YtkaafmnfcbgafaaW.PrintWords Go.Proofs.YtkaafmnfcbgafaaW.PrintLast Go.Proofs.YtkaafmnfcbgafaaW.PrintMore
set_option linter.unusedVariables false
set_option linter.unusedSimpArgs false
def hn3:Hint:=⟨[(34,[482])],[]⟩
def o3 (r:Bool):List AV:=[vb r]
def p3 (r:Bool):List (Nat × AV):=[]
def q3_l0 (r:Bool) (k:Nat) (L:List (Nat × AV)):Prop:=∃ (x1:List Int) (x5:List (S35)) (x6:List (S35)) (x7:List (S35)) (x11:List (S35)) (x15:List (S35)) (x253:List (S35)) (x254:Int) (x255:Int),L = [(1,.sl (iI .u8 x1)),(5,.sl (iS35 x5)),(6,.sl (iS35 x6)),(7,.sl (iS35 x7)),(11,.sl (iS35 x11)),(15,.sl (iS35 x15)),(253,.sl (iS35 x253)),(254,vi x254),(255,vi x255)] ∧ laws_FnHandsAsSets.l0 k x1 x5 x6 x7 x11 x15 x253 x254 x255 = some r
theorem q3_l0_mk {r:Bool} {k:Nat} {x1:List Int} {x5:List (S35)} {x6:List (S35)} {x7:List (S35)} {x11:List (S35)} {x15:List (S35)} {x253:List (S35)} {x254:Int} {x255:Int} (h:laws_FnHandsAsSets.l0 k x1 x5 x6 x7 x11 x15 x253 x254 x255 = some r):q3_l0 r k [(1,.sl (iI .u8 x1)),(5,.sl (iS35 x5)),(6,.sl (iS35 x6)),(7,.sl (iS35 x7)),(11,.sl (iS35 x11)),(15,.sl (iS35 x15)),(253,.sl (iS35 x253)),(254,vi x254),(255,vi x255)]:=⟨x1,x5,x6,x7,x11,x15,x253,x254,x255,rfl,h⟩
set_option maxRecDepth 100000 in
theorem at3_j4 {r:Bool} {k:Nat} {x1:List Int} (h:laws_FnHandsAsSets.j4 k x1 = some r):AtP Try.prog 448 (bodyOf Try.f3) (KR Try.prog Try.f3.results.toList (o3 r) (p3 r)) [true,true,true,true,true,true,true,true,true,true,true,true,true,true,true,true] [] (lookA [(1,.sl (iI .u8 x1))]):=by
 cases k with
 | zero => simp [laws_FnHandsAsSets.j4] at h
 | succ k =>
  rw [laws_FnHandsAsSets.j4] at h
  obtain ⟨b53,c1,h2⟩:=bd_ h
  obtain ⟨⟨b54_1,b54_2⟩,c3,h4⟩:=bd_ h2
  try dsimp only at h4
  obtain ⟨⟨b55_1,b55_2⟩,c5,h6⟩:=bd_ h4
  try dsimp only at h6
  obtain ⟨⟨b56_1,b56_2⟩,c7,h8⟩:=bd_ h6
  try dsimp only at h8
  obtain ⟨⟨b57_1,b57_2⟩,c9,h10⟩:=bd_ h8
  try dsimp only at h10
  obtain ⟨g11,h12⟩:=ip_ h10
  obtain ⟨b58,c13,h14⟩:=bd_ h12
  obtain ⟨g15,h16⟩:=ip_ h14
  subst g15
  obtain ⟨g17,h18⟩:=ip_ h16
  obtain ⟨g19,h20⟩:=ip_ h18
  obtain ⟨b59,c21,h22⟩:=bd_ h20
  obtain ⟨b60,c23,h24⟩:=bd_ h22
  obtain ⟨g25,h26⟩:=ip_ h24
  obtain ⟨b61,c27,h28⟩:=bd_ h26
  obtain rfl:=Option.some.inj h28
  exact leafRet (hn:=hn3) 19 [.call (.sl (iS35 b53)),.call (.tup [.sl (iS35 b54_1),vb b54_2]),.call (.tup [.sl (iS35 b55_1),vb b55_2]),.call (.tup [vi b56_1,vb b56_2]),.call (.tup [vi b57_1,vb b57_2]),.val (.bool true),.call (vb true),.val (.bool true),.val (.bool true),.call (vb b59),.call (vb b60),.val (.bool true),.call (vb b61),.val (.bool (b54_2 == b61))] [] .ret (.inr rfl) (by kernel_rfl) (And.intro (ad_23 c1) (And.intro (ad_15 c3) (And.intro (ad_24 c5) (And.intro (ad_14 c7) (And.intro (ad_25 c9) (And.intro (bool_eql (P:=Try.prog) (t:=4) (x:=(.tmp 417)) (y:=(.tmp 418)) (a:=b54_2) (b:=b55_2) Try.underlying4 (v:=true) (beq_iff_eq.2 g11)) (And.intro (ad_12 c13) (And.intro (bool_eql (P:=Try.prog) (t:=4) (x:=(.tmp 426)) (y:=(.tmp 427)) (a:=b56_2) (b:=b57_2) Try.underlying4 (v:=true) (beq_iff_eq.2 g17)) (And.intro (int_eql (P:=Try.prog) (t:=3) (k:=.i64) (x:=(.tmp 431)) (y:=(.tmp 432)) (a:=b56_1) (b:=b57_1) (v:=true) (beq_iff_eq.2 g19)) (And.intro (ad_13 c21) (And.intro (ad_26 c23) (And.intro (bool_eql (P:=Try.prog) (t:=4) (x:=(.tmp 437)) (y:=(.tmp 439)) (a:=b59) (b:=b60) Try.underlying4 (v:=true) (beq_iff_eq.2 g25)) (And.intro (ad_13 c27) (bool_eql (P:=Try.prog) (t:=4) (x:=(.tmp 443)) (y:=(.tmp 445)) (a:=b54_2) (b:=b61) Try.underlying4 (v:=(b54_2 == b61)) rfl)))))))))))))) (by kernel_rfl)
set_option maxRecDepth 100000 in
theorem at3_j3 {r:Bool} {k:Nat} {x1:List Int} (h:laws_FnHandsAsSets.j3 k x1 = some r):AtP Try.prog 448 (bodyOf Try.f3) (KR Try.prog Try.f3.results.toList (o3 r) (p3 r)) [true,true,true,true,true,true,true,true,true,true,true] [] (lookA [(1,.sl (iI .u8 x1))]):=by
 cases k with
 | zero => simp [laws_FnHandsAsSets.j3] at h
 | succ k =>
  rw [laws_FnHandsAsSets.j3] at h
  obtain ⟨⟨b45_1,b45_2⟩,c1,h2⟩:=bd_ h
  try dsimp only at h2
  obtain ⟨⟨b46_1,b46_2⟩,c3,h4⟩:=bd_ h2
  try dsimp only at h4
  obtain ⟨⟨b47_1,b47_2⟩,c5,h6⟩:=bd_ h4
  try dsimp only at h6
  obtain ⟨g7,h8⟩:=ip_ h6
  obtain ⟨b48,c9,h10⟩:=bd_ h8
  obtain ⟨g11,h12⟩:=ip_ h10
  subst g11
  rcases ite_ h12 with ⟨g13,h14⟩ | ⟨g13,h14⟩
  ·subst g13
   obtain ⟨g15,h16⟩:=ip_ h14
   obtain ⟨⟨b49_1,b49_2⟩,c17,h18⟩:=bd_ h16
   try dsimp only at h18
   obtain ⟨⟨b50_1,b50_2⟩,c19,h20⟩:=bd_ h18
   try dsimp only at h20
   obtain ⟨⟨b51_1,b51_2⟩,c21,h22⟩:=bd_ h20
   try dsimp only at h22
   obtain ⟨g23,h24⟩:=ip_ h22
   subst g23
   obtain ⟨g25,h26⟩:=ip_ h24
   subst g25
   obtain ⟨b52,c27,h28⟩:=bd_ h26
   obtain ⟨g29,h30⟩:=ip_ h28
   subst g29
   obtain ⟨g31,h32⟩:=ip_ h30
   subst g31
   obtain ⟨g33,h34⟩:=ip_ h32
   exact leafAt (hn:=hn3) 36 [.call (.tup [.sl (iS35 b45_1),vi b45_2]),.call (.tup [.sl (iS35 b46_1),vb true]),.call (.tup [.sl (iS35 b47_1),vb b47_2]),.val (.bool false),.call (vb true),.call (.tup [.sl (iS35 b49_1),vb true]),.call (.tup [.sl (iS35 b50_1),vb true]),.call (.tup [vi b51_1,vb true]),.call (vb true),.val (.int .i64 (b46_1.length:Int)),.val (.int .i64 (b45_1.length:Int)),.val (.int .i64 (wrap64 ((b46_1.length:Int) + (b45_1.length:Int)))),.val (.bool false)] [] (at3_j4 h34) (And.intro (ad_18 c1) (And.intro (ad_19 c3) (And.intro (ad_20 c5) (And.intro (And.intro (bool_neq (P:=Try.prog) (t:=4) (x:=(.tmp 344)) (y:=(.tmp 345)) (a:=true) (b:=b47_2) Try.underlying4 (v:=false) (nbb_f g15)) (ad_12 c9)) (And.intro (ad_21 c17) (And.intro (ad_6 c19) (And.intro (ad_22 c21) (And.intro (ad_12 c27) (And.intro (iS35_len (xs:=b46_1)) (And.intro (iS35_len (xs:=b45_1)) (And.intro (int_add (P:=Try.prog) (t:=3) (k:=.i64) (x:=(.tmp 388)) (y:=(.tmp 390)) (a:=(b46_1.length:Int)) (b:=(b45_1.length:Int)) (c:=(wrap64 ((b46_1.length:Int) + (b45_1.length:Int)))) (IntWalk.i64_left _)) (int_neq (P:=Try.prog) (t:=3) (k:=.i64) (x:=(.tmp 391)) (y:=(.tmp 392)) (a:=(wrap64 ((b46_1.length:Int) + (b45_1.length:Int)))) (b:=b51_1) (v:=false) (nbeq_f g33))))))))))))) (by kernel_rfl)
  ·obtain rfl:=Bool.eq_false_iff.2 g13
   obtain ⟨g35,h36⟩:=ip_ h14
   exact leafAt (hn:=hn3) 23 [.call (.tup [.sl (iS35 b45_1),vi b45_2]),.call (.tup [.sl (iS35 b46_1),vb false]),.call (.tup [.sl (iS35 b47_1),vb b47_2]),.val (.bool false),.call (vb true)] [] (at3_j4 h36) (And.intro (ad_18 c1) (And.intro (ad_19 c3) (And.intro (ad_20 c5) (And.intro (bool_neq (P:=Try.prog) (t:=4) (x:=(.tmp 344)) (y:=(.tmp 345)) (a:=false) (b:=b47_2) Try.underlying4 (v:=false) (nbb_f g35)) (ad_12 c9))))) (by kernel_rfl)
set_option maxRecDepth 100000 in
theorem at3_j2 {r:Bool} {K0:Nat} {k:Nat} {x1:List Int} {x5:List (S35)} {x6:List (S35)} {x7:List (S35)} {x11:List (S35)} {x15:List (S35)} {x253:List (S35)} {x254:Int} {x255:Int} (hk0:k < K0) (h:laws_FnHandsAsSets.j2 k x1 x5 x6 x7 x11 x15 x253 x254 x255 = some r):AtP Try.prog 448 (bodyOf Try.f3) (KR Try.prog Try.f3.results.toList (o3 r) (p3 r)) [true,true,true,true,true,true,true,true,true,true,false,true,false,true,true,true,true,true,true,true,true,true,false,false,true,true,true] [upto (q3_l0 r) K0] (lookA [(1,.sl (iI .u8 x1)),(5,.sl (iS35 x5)),(6,.sl (iS35 x6)),(7,.sl (iS35 x7)),(11,.sl (iS35 x11)),(15,.sl (iS35 x15)),(253,.sl (iS35 x253)),(254,vi x254),(255,vi x255)]):=by
 cases k with
 | zero => simp [laws_FnHandsAsSets.j2] at h
 | succ k =>
  rw [laws_FnHandsAsSets.j2] at h
  have hk0:=Nat.lt_of_succ_lt hk0
  exact leafBack (hn:=hn3) 1 [.val (.int .i64 (wrap64 (x255 + 1)))] [] (q3_l0_mk h) hk0 (int_add (P:=Try.prog) (t:=3) (k:=.i64) (x:=(.tmp 255)) (y:=(.const (.int .i64 1))) (a:=x255) (b:=1) (c:=(wrap64 (x255 + 1))) (IntWalk.i64_left _)) (by kernel_rfl)
set_option maxRecDepth 100000 in
theorem at3_j1 {r:Bool} {K0:Nat} {k:Nat} {x1:List Int} {x5:List (S35)} {x6:List (S35)} {x7:List (S35)} {x11:List (S35)} {x15:List (S35)} {x33:Int} {x35000:Int} {x35001:Int} {x253:List (S35)} {x254:Int} {x255:Int} (hk0:k < K0) (h:laws_FnHandsAsSets.j1 k x1 x5 x6 x7 x11 x15 x33 x35000 x35001 x253 x254 x255 = some r):AtP Try.prog 448 (bodyOf Try.f3) (KR Try.prog Try.f3.results.toList (o3 r) (p3 r)) [true,true,true,true,true,true,true,true,true,true,false,true,false,true,true,true,true,true,true,true,true,true,false,false,true,true,false,false,true,true] [upto (q3_l0 r) K0] (lookA [(1,.sl (iI .u8 x1)),(5,.sl (iS35 x5)),(6,.sl (iS35 x6)),(7,.sl (iS35 x7)),(11,.sl (iS35 x11)),(15,.sl (iS35 x15)),(33,vi x33),(34,.loc 482 0),(253,.sl (iS35 x253)),(254,vi x254),(255,vi x255),(482,.box (.agg [vi x35000,vi x35001]))]):=by
 cases k with
 | zero => simp [laws_FnHandsAsSets.j1] at h
 | succ k =>
  rw [laws_FnHandsAsSets.j1] at h
  have hk0:=Nat.lt_of_succ_lt hk0
  rcases ite_ h with ⟨g1,h2⟩ | ⟨g1,h2⟩
  ·obtain ⟨g3,h4⟩:=ip_ h2
   obtain ⟨g5,h6⟩:=ip_ h4
   obtain ⟨⟨b30_1,b30_2⟩,c7,h8⟩:=bd_ h6
   try dsimp only at h8
   obtain ⟨⟨b31_1,b31_2⟩,c9,h10⟩:=bd_ h8
   try dsimp only at h10
   obtain ⟨g11,h12⟩:=ip_ h10
   subst g11
   obtain ⟨g13,h14⟩:=ip_ h12
   subst g13
   obtain ⟨g15,h16⟩:=in_ h14
   exact leafAt (hn:=hn3) 17 [.val (.bool true),.val (.int .i64 (wrap64 (x33 - 1))),.elem (.agg [vi ((rd_T35 x7 (wrap64 (x33 - 1))).f0),vi ((rd_T35 x7 (wrap64 (x33 - 1))).f1)]),.call (.tup [vi b30_1,vb true]),.call (.tup [vi b31_1,vb true]),.val (.bool false)] [] (at3_j2 hk0 h16) (And.intro (int_gtr (P:=Try.prog) (t:=3) (k:=.i64) (x:=(.tmp 299)) (y:=(.const (.int .i64 0))) (a:=x33) (b:=0) (v:=true) (decide_eq_true g1)) (And.intro (And.intro (int_sub (P:=Try.prog) (t:=3) (k:=.i64) (x:=(.tmp 303)) (y:=(.const (.int .i64 1))) (a:=x33) (b:=1) (c:=(wrap64 (x33 - 1))) (IntWalk.i64_left _)) (And.intro (iS35_rd (xs:=x7) (i:=(wrap64 (x33 - 1))) g3 g5) (ad_17 c7))) (And.intro (ad_17 c9) (int_geq (P:=Try.prog) (t:=3) (k:=.i64) (x:=(.tmp 322)) (y:=(.tmp 323)) (a:=b30_1) (b:=b31_1) (v:=false) (decide_eq_false g15))))) (by kernel_rfl)
  ·exact leafAt (hn:=hn3) 7 [.val (.bool false)] [] (at3_j2 hk0 h2) (int_gtr (P:=Try.prog) (t:=3) (k:=.i64) (x:=(.tmp 299)) (y:=(.const (.int .i64 0))) (a:=x33) (b:=0) (v:=false) (decide_eq_false g1)) (by kernel_rfl)
set_option maxRecDepth 100000 in
theorem at3_j0 {r:Bool} {K0:Nat} {k:Nat} {x1:List Int} {x5:List (S35)} {x6:List (S35)} {x7:List (S35)} {x11:List (S35)} {x15:List (S35)} {x33:Int} {x35000:Int} {x35001:Int} {x253:List (S35)} {x254:Int} {x255:Int} {x298:Bool} (hk0:k < K0) (h:laws_FnHandsAsSets.j0 k x1 x5 x6 x7 x11 x15 x33 x35000 x35001 x253 x254 x255 x298 = some r):AtP Try.prog 448 (bodyOf Try.f3) (KR Try.prog Try.f3.results.toList (o3 r) (p3 r)) [true,true,true,true,true,true,true,true,true,true,false,true,false,true,true,true,true,true,true,true,true,true,false,false,true,true,false,false,true,false,true] [upto (q3_l0 r) K0] (lookA [(1,.sl (iI .u8 x1)),(5,.sl (iS35 x5)),(6,.sl (iS35 x6)),(7,.sl (iS35 x7)),(11,.sl (iS35 x11)),(15,.sl (iS35 x15)),(33,vi x33),(34,.loc 482 0),(253,.sl (iS35 x253)),(254,vi x254),(255,vi x255),(298,vb x298),(482,.box (.agg [vi x35000,vi x35001]))]):=by
 cases k with
 | zero => simp [laws_FnHandsAsSets.j0] at h
 | succ k =>
  rw [laws_FnHandsAsSets.j0] at h
  have hk0:=Nat.lt_of_succ_lt hk0
  obtain ⟨g1,h2⟩:=in_ h
  obtain rfl:=Bool.eq_false_iff.2 g1
  exact leafAt (hn:=hn3) 3 [] [] (at3_j1 hk0 h2) True.intro (by kernel_rfl)
set_option maxRecDepth 100000 in
theorem at3_l0 {r:Bool}:∀ k L,q3_l0 r k L → AtP Try.prog 448 (bodyOf Try.f3) (KR Try.prog Try.f3.results.toList (o3 r) (p3 r)) [true,true,true,true,true,true,true,true,true,true,false,true,false,true,true,true,true,true,true,true,true,true,false] [] (lookA L) :=
 at_loop (by kernel_rfl) (fun _ => by kernel_rfl) (q3_l0 r) (by
  rintro k _ ⟨x1,x5,x6,x7,x11,x15,x253,x254,x255,rfl,h⟩
  cases k with
  | zero => simp [laws_FnHandsAsSets.l0] at h
  | succ k =>
   rw [laws_FnHandsAsSets.l0] at h
   rcases ite_ h with ⟨g1,h2⟩ | ⟨g1,h2⟩
   ·obtain ⟨g3,h4⟩:=ip_ h2
    obtain ⟨g5,h6⟩:=ip_ h4
    obtain ⟨b23,c7,h8⟩:=bd_ h6
    rcases ite_ h8 with ⟨g9,h10⟩ | ⟨g9,h10⟩
    ·subst g9
     obtain ⟨b24,c11,h12⟩:=bd_ h10
     obtain ⟨b25,c13,h14⟩:=bd_ h12
     rcases ite_ h14 with ⟨g15,h16⟩ | ⟨g15,h16⟩
     ·subst g15
      obtain ⟨b26,c17,h18⟩:=bd_ h16
      rcases ite_ h18 with ⟨g19,h20⟩ | ⟨g19,h20⟩
      ·obtain ⟨b27,c21,h22⟩:=bd_ h20
       obtain ⟨b28,c23,h24⟩:=bd_ h22
       rcases ite_ h24 with ⟨g25,h26⟩ | ⟨g25,h26⟩
       ·subst g25
        obtain ⟨b29,c27,h28⟩:=bd_ h26
        exact leafAt (hn:=hn3) 16 [.val (.bool true),.elem (.agg [vi ((rd_T35 x253 x255).f0),vi ((rd_T35 x253 x255).f1)]),.call (vb true),.call (vb b24),.call (vb true),.call (vb b26),.val (.bool false),.call (vb b27),.call (vb true),.call (vb b29),.val (.bool (!(b27 == (!b29))))] [] (at3_j0 (Nat.lt_succ_self k) h28) (And.intro (int_lss (P:=Try.prog) (t:=3) (k:=.i64) (x:=(.tmp 255)) (y:=(.tmp 254)) (a:=x255) (b:=x254) (v:=true) (decide_eq_true g1)) (And.intro (iS35_rd (xs:=x253) (i:=x255) g3 g5) (And.intro (ad_16 c7) (And.intro (ad_16 c11) (And.intro (ad_16 c13) (And.intro (ad_16 c17) (And.intro (bool_neq (P:=Try.prog) (t:=4) (x:=(.tmp 273)) (y:=(.tmp 281)) (a:=b24) (b:=b26) Try.underlying4 (v:=false) (nbb_f g19)) (And.intro (ad_16 c21) (And.intro (ad_16 c23) (And.intro (ad_16 c27) (bool_neq (P:=Try.prog) (t:=4) (x:=(.tmp 287)) (y:=(.tmp 296)) (a:=b27) (b:=(!b29)) Try.underlying4 (v:=(!(b27 == (!b29)))) rfl))))))))))) (by kernel_rfl)
       ·obtain rfl:=Bool.eq_false_iff.2 g25
        exact leafAt (hn:=hn3) 16 [.val (.bool true),.elem (.agg [vi ((rd_T35 x253 x255).f0),vi ((rd_T35 x253 x255).f1)]),.call (vb true),.call (vb b24),.call (vb true),.call (vb b26),.val (.bool false),.call (vb b27),.call (vb false),.val (.bool (!(b27 == false)))] [] (at3_j0 (Nat.lt_succ_self k) h26) (And.intro (int_lss (P:=Try.prog) (t:=3) (k:=.i64) (x:=(.tmp 255)) (y:=(.tmp 254)) (a:=x255) (b:=x254) (v:=true) (decide_eq_true g1)) (And.intro (iS35_rd (xs:=x253) (i:=x255) g3 g5) (And.intro (ad_16 c7) (And.intro (ad_16 c11) (And.intro (ad_16 c13) (And.intro (ad_16 c17) (And.intro (bool_neq (P:=Try.prog) (t:=4) (x:=(.tmp 273)) (y:=(.tmp 281)) (a:=b24) (b:=b26) Try.underlying4 (v:=false) (nbb_f g19)) (And.intro (ad_16 c21) (And.intro (ad_16 c23) (bool_neq (P:=Try.prog) (t:=4) (x:=(.tmp 287)) (y:=(.tmp 296)) (a:=b27) (b:=false) Try.underlying4 (v:=(!(b27 == false))) rfl)))))))))) (by kernel_rfl)
      ·exact leafAt (hn:=hn3) 16 [.val (.bool true),.elem (.agg [vi ((rd_T35 x253 x255).f0),vi ((rd_T35 x253 x255).f1)]),.call (vb true),.call (vb b24),.call (vb true),.call (vb b26),.val (.bool true)] [] (at3_j0 (Nat.lt_succ_self k) h20) (And.intro (int_lss (P:=Try.prog) (t:=3) (k:=.i64) (x:=(.tmp 255)) (y:=(.tmp 254)) (a:=x255) (b:=x254) (v:=true) (decide_eq_true g1)) (And.intro (iS35_rd (xs:=x253) (i:=x255) g3 g5) (And.intro (ad_16 c7) (And.intro (ad_16 c11) (And.intro (ad_16 c13) (And.intro (ad_16 c17) (bool_neq (P:=Try.prog) (t:=4) (x:=(.tmp 273)) (y:=(.tmp 281)) (a:=b24) (b:=b26) Try.underlying4 (v:=true) (nbb_t g19)))))))) (by kernel_rfl)
     ·obtain rfl:=Bool.eq_false_iff.2 g15
      rcases ite_ h16 with ⟨g29,h30⟩ | ⟨g29,h30⟩
      ·obtain ⟨b32,c31,h32⟩:=bd_ h30
       obtain ⟨b33,c33,h34⟩:=bd_ h32
       rcases ite_ h34 with ⟨g35,h36⟩ | ⟨g35,h36⟩
       ·subst g35
        obtain ⟨b34,c37,h38⟩:=bd_ h36
        exact leafAt (hn:=hn3) 16 [.val (.bool true),.elem (.agg [vi ((rd_T35 x253 x255).f0),vi ((rd_T35 x253 x255).f1)]),.call (vb true),.call (vb b24),.call (vb false),.val (.bool false),.call (vb b32),.call (vb true),.call (vb b34),.val (.bool (!(b32 == (!b34))))] [] (at3_j0 (Nat.lt_succ_self k) h38) (And.intro (int_lss (P:=Try.prog) (t:=3) (k:=.i64) (x:=(.tmp 255)) (y:=(.tmp 254)) (a:=x255) (b:=x254) (v:=true) (decide_eq_true g1)) (And.intro (iS35_rd (xs:=x253) (i:=x255) g3 g5) (And.intro (ad_16 c7) (And.intro (ad_16 c11) (And.intro (ad_16 c13) (And.intro (bool_neq (P:=Try.prog) (t:=4) (x:=(.tmp 273)) (y:=(.tmp 281)) (a:=b24) (b:=false) Try.underlying4 (v:=false) (nbb_f g29)) (And.intro (ad_16 c31) (And.intro (ad_16 c33) (And.intro (ad_16 c37) (bool_neq (P:=Try.prog) (t:=4) (x:=(.tmp 287)) (y:=(.tmp 296)) (a:=b32) (b:=(!b34)) Try.underlying4 (v:=(!(b32 == (!b34)))) rfl)))))))))) (by kernel_rfl)
       ·obtain rfl:=Bool.eq_false_iff.2 g35
        exact leafAt (hn:=hn3) 16 [.val (.bool true),.elem (.agg [vi ((rd_T35 x253 x255).f0),vi ((rd_T35 x253 x255).f1)]),.call (vb true),.call (vb b24),.call (vb false),.val (.bool false),.call (vb b32),.call (vb false),.val (.bool (!(b32 == false)))] [] (at3_j0 (Nat.lt_succ_self k) h36) (And.intro (int_lss (P:=Try.prog) (t:=3) (k:=.i64) (x:=(.tmp 255)) (y:=(.tmp 254)) (a:=x255) (b:=x254) (v:=true) (decide_eq_true g1)) (And.intro (iS35_rd (xs:=x253) (i:=x255) g3 g5) (And.intro (ad_16 c7) (And.intro (ad_16 c11) (And.intro (ad_16 c13) (And.intro (bool_neq (P:=Try.prog) (t:=4) (x:=(.tmp 273)) (y:=(.tmp 281)) (a:=b24) (b:=false) Try.underlying4 (v:=false) (nbb_f g29)) (And.intro (ad_16 c31) (And.intro (ad_16 c33) (bool_neq (P:=Try.prog) (t:=4) (x:=(.tmp 287)) (y:=(.tmp 296)) (a:=b32) (b:=false) Try.underlying4 (v:=(!(b32 == false))) rfl))))))))) (by kernel_rfl)
      ·exact leafAt (hn:=hn3) 16 [.val (.bool true),.elem (.agg [vi ((rd_T35 x253 x255).f0),vi ((rd_T35 x253 x255).f1)]),.call (vb true),.call (vb b24),.call (vb false),.val (.bool true)] [] (at3_j0 (Nat.lt_succ_self k) h30) (And.intro (int_lss (P:=Try.prog) (t:=3) (k:=.i64) (x:=(.tmp 255)) (y:=(.tmp 254)) (a:=x255) (b:=x254) (v:=true) (decide_eq_true g1)) (And.intro (iS35_rd (xs:=x253) (i:=x255) g3 g5) (And.intro (ad_16 c7) (And.intro (ad_16 c11) (And.intro (ad_16 c13) (bool_neq (P:=Try.prog) (t:=4) (x:=(.tmp 273)) (y:=(.tmp 281)) (a:=b24) (b:=false) Try.underlying4 (v:=true) (nbb_t g29))))))) (by kernel_rfl)
    ·obtain rfl:=Bool.eq_false_iff.2 g9
     obtain ⟨b35,c39,h40⟩:=bd_ h10
     rcases ite_ h40 with ⟨g41,h42⟩ | ⟨g41,h42⟩
     ·subst g41
      obtain ⟨b36,c43,h44⟩:=bd_ h42
      obtain ⟨b37,c45,h46⟩:=bd_ h44
      rcases ite_ h46 with ⟨g47,h48⟩ | ⟨g47,h48⟩
      ·subst g47
       obtain ⟨b38,c49,h50⟩:=bd_ h48
       rcases ite_ h50 with ⟨g51,h52⟩ | ⟨g51,h52⟩
       ·obtain ⟨b39,c53,h54⟩:=bd_ h52
        obtain ⟨b40,c55,h56⟩:=bd_ h54
        rcases ite_ h56 with ⟨g57,h58⟩ | ⟨g57,h58⟩
        ·subst g57
         obtain ⟨b41,c59,h60⟩:=bd_ h58
         exact leafAt (hn:=hn3) 16 [.val (.bool true),.elem (.agg [vi ((rd_T35 x253 x255).f0),vi ((rd_T35 x253 x255).f1)]),.call (vb false),.call (vb true),.call (vb b36),.call (vb true),.call (vb b38),.val (.bool false),.call (vb b39),.call (vb true),.call (vb b41),.val (.bool (!(b39 == (!b41))))] [] (at3_j0 (Nat.lt_succ_self k) h60) (And.intro (int_lss (P:=Try.prog) (t:=3) (k:=.i64) (x:=(.tmp 255)) (y:=(.tmp 254)) (a:=x255) (b:=x254) (v:=true) (decide_eq_true g1)) (And.intro (iS35_rd (xs:=x253) (i:=x255) g3 g5) (And.intro (ad_16 c7) (And.intro (ad_16 c39) (And.intro (ad_16 c43) (And.intro (ad_16 c45) (And.intro (ad_16 c49) (And.intro (bool_neq (P:=Try.prog) (t:=4) (x:=(.tmp 273)) (y:=(.tmp 281)) (a:=b36) (b:=b38) Try.underlying4 (v:=false) (nbb_f g51)) (And.intro (ad_16 c53) (And.intro (ad_16 c55) (And.intro (ad_16 c59) (bool_neq (P:=Try.prog) (t:=4) (x:=(.tmp 287)) (y:=(.tmp 296)) (a:=b39) (b:=(!b41)) Try.underlying4 (v:=(!(b39 == (!b41)))) rfl)))))))))))) (by kernel_rfl)
        ·obtain rfl:=Bool.eq_false_iff.2 g57
         exact leafAt (hn:=hn3) 16 [.val (.bool true),.elem (.agg [vi ((rd_T35 x253 x255).f0),vi ((rd_T35 x253 x255).f1)]),.call (vb false),.call (vb true),.call (vb b36),.call (vb true),.call (vb b38),.val (.bool false),.call (vb b39),.call (vb false),.val (.bool (!(b39 == false)))] [] (at3_j0 (Nat.lt_succ_self k) h58) (And.intro (int_lss (P:=Try.prog) (t:=3) (k:=.i64) (x:=(.tmp 255)) (y:=(.tmp 254)) (a:=x255) (b:=x254) (v:=true) (decide_eq_true g1)) (And.intro (iS35_rd (xs:=x253) (i:=x255) g3 g5) (And.intro (ad_16 c7) (And.intro (ad_16 c39) (And.intro (ad_16 c43) (And.intro (ad_16 c45) (And.intro (ad_16 c49) (And.intro (bool_neq (P:=Try.prog) (t:=4) (x:=(.tmp 273)) (y:=(.tmp 281)) (a:=b36) (b:=b38) Try.underlying4 (v:=false) (nbb_f g51)) (And.intro (ad_16 c53) (And.intro (ad_16 c55) (bool_neq (P:=Try.prog) (t:=4) (x:=(.tmp 287)) (y:=(.tmp 296)) (a:=b39) (b:=false) Try.underlying4 (v:=(!(b39 == false))) rfl))))))))))) (by kernel_rfl)
       ·exact leafAt (hn:=hn3) 16 [.val (.bool true),.elem (.agg [vi ((rd_T35 x253 x255).f0),vi ((rd_T35 x253 x255).f1)]),.call (vb false),.call (vb true),.call (vb b36),.call (vb true),.call (vb b38),.val (.bool true)] [] (at3_j0 (Nat.lt_succ_self k) h52) (And.intro (int_lss (P:=Try.prog) (t:=3) (k:=.i64) (x:=(.tmp 255)) (y:=(.tmp 254)) (a:=x255) (b:=x254) (v:=true) (decide_eq_true g1)) (And.intro (iS35_rd (xs:=x253) (i:=x255) g3 g5) (And.intro (ad_16 c7) (And.intro (ad_16 c39) (And.intro (ad_16 c43) (And.intro (ad_16 c45) (And.intro (ad_16 c49) (bool_neq (P:=Try.prog) (t:=4) (x:=(.tmp 273)) (y:=(.tmp 281)) (a:=b36) (b:=b38) Try.underlying4 (v:=true) (nbb_t g51))))))))) (by kernel_rfl)
      ·obtain rfl:=Bool.eq_false_iff.2 g47
       rcases ite_ h48 with ⟨g61,h62⟩ | ⟨g61,h62⟩
       ·obtain ⟨b42,c63,h64⟩:=bd_ h62
        obtain ⟨b43,c65,h66⟩:=bd_ h64
        rcases ite_ h66 with ⟨g67,h68⟩ | ⟨g67,h68⟩
        ·subst g67
         obtain ⟨b44,c69,h70⟩:=bd_ h68
         exact leafAt (hn:=hn3) 16 [.val (.bool true),.elem (.agg [vi ((rd_T35 x253 x255).f0),vi ((rd_T35 x253 x255).f1)]),.call (vb false),.call (vb true),.call (vb b36),.call (vb false),.val (.bool false),.call (vb b42),.call (vb true),.call (vb b44),.val (.bool (!(b42 == (!b44))))] [] (at3_j0 (Nat.lt_succ_self k) h70) (And.intro (int_lss (P:=Try.prog) (t:=3) (k:=.i64) (x:=(.tmp 255)) (y:=(.tmp 254)) (a:=x255) (b:=x254) (v:=true) (decide_eq_true g1)) (And.intro (iS35_rd (xs:=x253) (i:=x255) g3 g5) (And.intro (ad_16 c7) (And.intro (ad_16 c39) (And.intro (ad_16 c43) (And.intro (ad_16 c45) (And.intro (bool_neq (P:=Try.prog) (t:=4) (x:=(.tmp 273)) (y:=(.tmp 281)) (a:=b36) (b:=false) Try.underlying4 (v:=false) (nbb_f g61)) (And.intro (ad_16 c63) (And.intro (ad_16 c65) (And.intro (ad_16 c69) (bool_neq (P:=Try.prog) (t:=4) (x:=(.tmp 287)) (y:=(.tmp 296)) (a:=b42) (b:=(!b44)) Try.underlying4 (v:=(!(b42 == (!b44)))) rfl))))))))))) (by kernel_rfl)
        ·obtain rfl:=Bool.eq_false_iff.2 g67
         exact leafAt (hn:=hn3) 16 [.val (.bool true),.elem (.agg [vi ((rd_T35 x253 x255).f0),vi ((rd_T35 x253 x255).f1)]),.call (vb false),.call (vb true),.call (vb b36),.call (vb false),.val (.bool false),.call (vb b42),.call (vb false),.val (.bool (!(b42 == false)))] [] (at3_j0 (Nat.lt_succ_self k) h68) (And.intro (int_lss (P:=Try.prog) (t:=3) (k:=.i64) (x:=(.tmp 255)) (y:=(.tmp 254)) (a:=x255) (b:=x254) (v:=true) (decide_eq_true g1)) (And.intro (iS35_rd (xs:=x253) (i:=x255) g3 g5) (And.intro (ad_16 c7) (And.intro (ad_16 c39) (And.intro (ad_16 c43) (And.intro (ad_16 c45) (And.intro (bool_neq (P:=Try.prog) (t:=4) (x:=(.tmp 273)) (y:=(.tmp 281)) (a:=b36) (b:=false) Try.underlying4 (v:=false) (nbb_f g61)) (And.intro (ad_16 c63) (And.intro (ad_16 c65) (bool_neq (P:=Try.prog) (t:=4) (x:=(.tmp 287)) (y:=(.tmp 296)) (a:=b42) (b:=false) Try.underlying4 (v:=(!(b42 == false))) rfl)))))))))) (by kernel_rfl)
       ·exact leafAt (hn:=hn3) 16 [.val (.bool true),.elem (.agg [vi ((rd_T35 x253 x255).f0),vi ((rd_T35 x253 x255).f1)]),.call (vb false),.call (vb true),.call (vb b36),.call (vb false),.val (.bool true)] [] (at3_j0 (Nat.lt_succ_self k) h62) (And.intro (int_lss (P:=Try.prog) (t:=3) (k:=.i64) (x:=(.tmp 255)) (y:=(.tmp 254)) (a:=x255) (b:=x254) (v:=true) (decide_eq_true g1)) (And.intro (iS35_rd (xs:=x253) (i:=x255) g3 g5) (And.intro (ad_16 c7) (And.intro (ad_16 c39) (And.intro (ad_16 c43) (And.intro (ad_16 c45) (bool_neq (P:=Try.prog) (t:=4) (x:=(.tmp 273)) (y:=(.tmp 281)) (a:=b36) (b:=false) Try.underlying4 (v:=true) (nbb_t g61)))))))) (by kernel_rfl)
     ·obtain rfl:=Bool.eq_false_iff.2 g41
      exact leafAt (hn:=hn3) 16 [.val (.bool true),.elem (.agg [vi ((rd_T35 x253 x255).f0),vi ((rd_T35 x253 x255).f1)]),.call (vb false),.call (vb false)] [] (at3_j0 (Nat.lt_succ_self k) h42) (And.intro (int_lss (P:=Try.prog) (t:=3) (k:=.i64) (x:=(.tmp 255)) (y:=(.tmp 254)) (a:=x255) (b:=x254) (v:=true) (decide_eq_true g1)) (And.intro (iS35_rd (xs:=x253) (i:=x255) g3 g5) (And.intro (ad_16 c7) (ad_16 c39)))) (by kernel_rfl)
   ·exact leafAt (hn:=hn3) 10 [.val (.bool false)] [] (at3_j3 h2) (int_lss (P:=Try.prog) (t:=3) (k:=.i64) (x:=(.tmp 255)) (y:=(.tmp 254)) (a:=x255) (b:=x254) (v:=false) (decide_eq_false g1)) (by kernel_rfl))
set_option maxRecDepth 100000 in
theorem ad_3 {k:Nat} {l0:List Int} {l1:List Int} {r:Bool} (h:laws_FnHandsAsSets.f k l0 l1 = some r):CallH Try.prog 3 [.sl (iI .u8 l0),.sl (iI .u8 l1)] [] (vb r) []:=by
 unfold laws_FnHandsAsSets.f at h
 refine call_ok (c:=bodyOf Try.f3) (rs:=o3 r) (post:=p3 r) Try.func3 rfl rfl rfl (by kernel_rfl) ?_
 show AtP Try.prog 448 (bodyOf Try.f3) (KR Try.prog Try.f3.results.toList (o3 r) (p3 r)) [] [] (lookA [(0,.sl (iI .u8 l0)),(1,.sl (iI .u8 l1))])
 obtain ⟨b1,c1,h2⟩:=bd_ h
 rcases ite_ h2 with ⟨g3,h4⟩ | ⟨g3,h4⟩
 ·subst g3
  obtain rfl:=Option.some.inj h4
  exact leafRet (hn:=hn3) 13 [.call (vb true)] [] .ret (.inr rfl) (by kernel_rfl) (ad_4 c1) (by kernel_rfl)
 ·obtain rfl:=Bool.eq_false_iff.2 g3
  obtain ⟨⟨b2_1,b2_2⟩,c5,h6⟩:=bd_ h4
  try dsimp only at h6
  obtain ⟨⟨b3_1,b3_2⟩,c7,h8⟩:=bd_ h6
  try dsimp only at h8
  obtain ⟨⟨b4_1,b4_2⟩,c9,h10⟩:=bd_ h8
  try dsimp only at h10
  obtain ⟨⟨b5_1,b5_2⟩,c11,h12⟩:=bd_ h10
  try dsimp only at h12
  obtain ⟨⟨b6_1,b6_2⟩,c13,h14⟩:=bd_ h12
  try dsimp only at h14
  obtain ⟨⟨b7_1,b7_2⟩,c15,h16⟩:=bd_ h14
  try dsimp only at h16
  obtain ⟨⟨b8_1,b8_2⟩,c17,h18⟩:=bd_ h16
  try dsimp only at h18
  obtain ⟨g19,h20⟩:=ip_ h18
  obtain ⟨b9,c21,h22⟩:=bd_ h20
  obtain ⟨g23,h24⟩:=ip_ h22
  subst g23
  obtain ⟨g25,h26⟩:=ip_ h24
  obtain ⟨b10,c27,h28⟩:=bd_ h26
  obtain ⟨g29,h30⟩:=ip_ h28
  subst g29
  obtain ⟨g31,h32⟩:=ip_ h30
  obtain ⟨b11,c33,h34⟩:=bd_ h32
  obtain ⟨g35,h36⟩:=ip_ h34
  subst g35
  obtain ⟨b12,c37,h38⟩:=bd_ h36
  rcases ite_ h38 with ⟨g39,h40⟩ | ⟨g39,h40⟩
  ·subst g39
   obtain ⟨b13,c41,h42⟩:=bd_ h40
   obtain ⟨g43,h44⟩:=ip_ h42
   obtain ⟨g45,h46⟩:=ip_ h44
   obtain ⟨g47,h48⟩:=ip_ h46
   rcases ite_ h48 with ⟨g49,h50⟩ | ⟨g49,h50⟩
   ·subst g49
    obtain ⟨g51,h52⟩:=ip_ h50
    obtain ⟨g53,h54⟩:=ip_ h52
    rcases ite_ h54 with ⟨g55,h56⟩ | ⟨g55,h56⟩
    ·subst g55
     obtain ⟨g57,h58⟩:=ip_ h56
     rcases ite_ h58 with ⟨g59,h60⟩ | ⟨g59,h60⟩
     ·subst g59
      obtain ⟨g61,h62⟩:=ip_ h60
      obtain ⟨⟨b14_1,b14_2⟩,c63,h64⟩:=bd_ h62
      try dsimp only at h64
      obtain ⟨⟨b15_1,b15_2⟩,c65,h66⟩:=bd_ h64
      try dsimp only at h66
      obtain ⟨⟨b16_1,b16_2⟩,c67,h68⟩:=bd_ h66
      try dsimp only at h68
      obtain ⟨⟨b17_1,b17_2⟩,c69,h70⟩:=bd_ h68
      try dsimp only at h70
      obtain ⟨⟨b18_1,b18_2⟩,c71,h72⟩:=bd_ h70
      try dsimp only at h72
      obtain ⟨⟨b19_1,b19_2⟩,c73,h74⟩:=bd_ h72
      try dsimp only at h74
      obtain ⟨⟨b20_1,b20_2⟩,c75,h76⟩:=bd_ h74
      try dsimp only at h76
      obtain ⟨g77,h78⟩:=ip_ h76
      subst g77
      obtain ⟨g79,h80⟩:=ip_ h78
      subst g79
      obtain ⟨g81,h82⟩:=ip_ h80
      subst g81
      obtain ⟨g83,h84⟩:=ip_ h82
      subst g83
      obtain ⟨g85,h86⟩:=ip_ h84
      obtain ⟨g87,h88⟩:=ip_ h86
      obtain ⟨g89,h90⟩:=ip_ h88
      subst g89
      obtain ⟨g91,h92⟩:=ip_ h90
      subst g91
      obtain ⟨b21,c93,h94⟩:=bd_ h92
      obtain ⟨g95,h96⟩:=ip_ h94
      subst g95
      obtain ⟨g97,h98⟩:=ip_ h96
      subst g97
      obtain ⟨b22,c99,h100⟩:=bd_ h98
      obtain ⟨g101,h102⟩:=ip_ h100
      subst g101
      exact leafAt (hn:=hn3) 75 [.call (vb false),.call (.tup [.sl (iS35 b2_1),.sl (iS35 b2_2)]),.call (.tup [.sl (iS35 b3_1),vb true]),.call (.tup [.sl (iS35 b4_1),vb b4_2]),.call (.tup [.sl (iS35 b5_1),vb true]),.call (.tup [.sl (iS35 b6_1),vb b6_2]),.call (.tup [.sl (iS35 b7_1),vb true]),.call (.tup [.sl (iS35 b8_1),vb b8_2]),.val (.bool false),.call (vb true),.val (.bool false),.call (vb true),.val (.bool false),.call (vb true),.call (vb true),.call (vb b13),.val (.bool false),.val (.bool false),.val (.bool false),.call (.tup [vi b14_1,vb true]),.call (.tup [vi b15_1,vb true]),.call (.tup [vi b16_1,vb true]),.call (.tup [vi b17_1,vb true]),.call (.tup [.sl (iS35 b18_1),vb true]),.call (.tup [.sl (iS35 b19_1),vb true]),.call (.tup [.sl (iS35 b20_1),vb true]),.val (.int .i64 (wrap64 (b14_1 + b15_1))),.val (.int .i64 (wrap64 (b16_1 + b17_1))),.val (.bool false),.val (.int .i64 (b2_1.length:Int)),.val (.int .i64 (b2_2.length:Int)),.val (.int .i64 (wrap64 ((b2_1.length:Int) + (b2_2.length:Int)))),.val (.int .i64 (b3_1.length:Int)),.val (.int .i64 (b5_1.length:Int)),.val (.int .i64 (wrap64 ((b3_1.length:Int) + (b5_1.length:Int)))),.val (.bool false),.call (vb true),.call (vb true),.val (.int .i64 (b3_1.length:Int))] [] (at3_l0 _ _ (q3_l0_mk h102)) (And.intro (ad_4 c1) (And.intro (ad_5 c5) (And.intro (ad_6 c7) (And.intro (ad_7 c9) (And.intro (ad_8 c11) (And.intro (ad_9 c13) (And.intro (ad_10 c15) (And.intro (ad_11 c17) (And.intro (And.intro (bool_neq (P:=Try.prog) (t:=4) (x:=(.tmp 104)) (y:=(.tmp 105)) (a:=true) (b:=b4_2) Try.underlying4 (v:=false) (nbb_f g51)) (And.intro (ad_12 c21) (And.intro (bool_neq (P:=Try.prog) (t:=4) (x:=(.tmp 114)) (y:=(.tmp 115)) (a:=true) (b:=b6_2) Try.underlying4 (v:=false) (nbb_f g57)) (And.intro (ad_12 c27) (And.intro (bool_neq (P:=Try.prog) (t:=4) (x:=(.tmp 125)) (y:=(.tmp 126)) (a:=true) (b:=b8_2) Try.underlying4 (v:=false) (nbb_f g61)) (And.intro (ad_12 c33) (And.intro (ad_13 c37) (And.intro (ad_13 c41) (And.intro (bool_neq (P:=Try.prog) (t:=4) (x:=(.tmp 136)) (y:=(.tmp 142)) (a:=true) (b:=b13) Try.underlying4 (v:=false) (nbb_f g53)) (And.intro (bool_neq (P:=Try.prog) (t:=4) (x:=(.tmp 146)) (y:=(.tmp 147)) (a:=true) (b:=true) Try.underlying4 (v:=false) rfl) (bool_neq (P:=Try.prog) (t:=4) (x:=(.tmp 151)) (y:=(.tmp 152)) (a:=true) (b:=true) Try.underlying4 (v:=false) rfl))))))))))) (And.intro (ad_14 c63) (And.intro (ad_14 c65) (And.intro (ad_14 c67) (And.intro (ad_14 c69) (And.intro (ad_6 c71) (And.intro (ad_15 c73) (And.intro (ad_6 c75) (And.intro (And.intro (int_add (P:=Try.prog) (t:=3) (k:=.i64) (x:=(.tmp 208)) (y:=(.tmp 209)) (a:=b14_1) (b:=b15_1) (c:=(wrap64 (b14_1 + b15_1))) (IntWalk.i64_left _)) (And.intro (int_add (P:=Try.prog) (t:=3) (k:=.i64) (x:=(.tmp 211)) (y:=(.tmp 212)) (a:=b16_1) (b:=b17_1) (c:=(wrap64 (b16_1 + b17_1))) (IntWalk.i64_left _)) (And.intro (int_neq (P:=Try.prog) (t:=3) (k:=.i64) (x:=(.tmp 210)) (y:=(.tmp 213)) (a:=(wrap64 (b14_1 + b15_1))) (b:=(wrap64 (b16_1 + b17_1))) (v:=false) (nbeq_f g85)) (And.intro (iS35_len (xs:=b2_1)) (And.intro (iS35_len (xs:=b2_2)) (And.intro (int_add (P:=Try.prog) (t:=3) (k:=.i64) (x:=(.tmp 218)) (y:=(.tmp 220)) (a:=(b2_1.length:Int)) (b:=(b2_2.length:Int)) (c:=(wrap64 ((b2_1.length:Int) + (b2_2.length:Int)))) (IntWalk.i64_left _)) (And.intro (iS35_len (xs:=b3_1)) (And.intro (iS35_len (xs:=b5_1)) (And.intro (int_add (P:=Try.prog) (t:=3) (k:=.i64) (x:=(.tmp 223)) (y:=(.tmp 225)) (a:=(b3_1.length:Int)) (b:=(b5_1.length:Int)) (c:=(wrap64 ((b3_1.length:Int) + (b5_1.length:Int)))) (IntWalk.i64_left _)) (And.intro (int_neq (P:=Try.prog) (t:=3) (k:=.i64) (x:=(.tmp 221)) (y:=(.tmp 226)) (a:=(wrap64 ((b2_1.length:Int) + (b2_2.length:Int)))) (b:=(wrap64 ((b3_1.length:Int) + (b5_1.length:Int)))) (v:=false) (nbeq_f g87)) (And.intro (ad_12 c93) (ad_12 c99)))))))))))) (iS35_len (xs:=b3_1))))))))))))))))))) (by kernel_rfl)
     ·obtain rfl:=Bool.eq_false_iff.2 g59
      obtain ⟨g103,h104⟩:=ip_ h60
      cases h104
    ·obtain rfl:=Bool.eq_false_iff.2 g55
     obtain ⟨g105,h106⟩:=ip_ h56
     cases h106
   ·obtain rfl:=Bool.eq_false_iff.2 g49
    obtain ⟨g107,h108⟩:=ip_ h50
    obtain ⟨g109,h110⟩:=ip_ h108
    obtain ⟨g111,h112⟩:=ip_ h110
    obtain ⟨g113,h114⟩:=ip_ h112
    exact leafAt (hn:=hn3) 45 [.call (vb false),.call (.tup [.sl (iS35 b2_1),.sl (iS35 b2_2)]),.call (.tup [.sl (iS35 b3_1),vb false]),.call (.tup [.sl (iS35 b4_1),vb b4_2]),.call (.tup [.sl (iS35 b5_1),vb b5_2]),.call (.tup [.sl (iS35 b6_1),vb b6_2]),.call (.tup [.sl (iS35 b7_1),vb b7_2]),.call (.tup [.sl (iS35 b8_1),vb b8_2]),.val (.bool false),.call (vb true),.val (.bool false),.call (vb true),.val (.bool false),.call (vb true),.call (vb true),.call (vb b13),.val (.bool false),.val (.bool false),.val (.bool false)] [] (at3_j3 h114) (And.intro (ad_4 c1) (And.intro (ad_5 c5) (And.intro (ad_6 c7) (And.intro (ad_7 c9) (And.intro (ad_8 c11) (And.intro (ad_9 c13) (And.intro (ad_10 c15) (And.intro (ad_11 c17) (And.intro (bool_neq (P:=Try.prog) (t:=4) (x:=(.tmp 104)) (y:=(.tmp 105)) (a:=false) (b:=b4_2) Try.underlying4 (v:=false) (nbb_f g107)) (And.intro (ad_12 c21) (And.intro (bool_neq (P:=Try.prog) (t:=4) (x:=(.tmp 114)) (y:=(.tmp 115)) (a:=b5_2) (b:=b6_2) Try.underlying4 (v:=false) (nbb_f g25)) (And.intro (ad_12 c27) (And.intro (bool_neq (P:=Try.prog) (t:=4) (x:=(.tmp 125)) (y:=(.tmp 126)) (a:=b7_2) (b:=b8_2) Try.underlying4 (v:=false) (nbb_f g31)) (And.intro (ad_12 c33) (And.intro (ad_13 c37) (And.intro (ad_13 c41) (And.intro (bool_neq (P:=Try.prog) (t:=4) (x:=(.tmp 136)) (y:=(.tmp 142)) (a:=false) (b:=b13) Try.underlying4 (v:=false) (nbb_f g109)) (And.intro (bool_neq (P:=Try.prog) (t:=4) (x:=(.tmp 146)) (y:=(.tmp 147)) (a:=b5_2) (b:=false) Try.underlying4 (v:=false) (nbb_f g111)) (bool_neq (P:=Try.prog) (t:=4) (x:=(.tmp 151)) (y:=(.tmp 152)) (a:=b7_2) (b:=false) Try.underlying4 (v:=false) (nbb_f g113)))))))))))))))))))) (by kernel_rfl)
  ·obtain rfl:=Bool.eq_false_iff.2 g39
   obtain ⟨g115,h116⟩:=ip_ h40
   obtain ⟨g117,h118⟩:=ip_ h116
   obtain ⟨g119,h120⟩:=ip_ h118
   rcases ite_ h120 with ⟨g121,h122⟩ | ⟨g121,h122⟩
   ·subst g121
    obtain ⟨g123,h124⟩:=ip_ h122
    cases h124
   ·obtain rfl:=Bool.eq_false_iff.2 g121
    obtain ⟨g125,h126⟩:=ip_ h122
    obtain ⟨g127,h128⟩:=ip_ h126
    obtain ⟨g129,h130⟩:=ip_ h128
    exact leafAt (hn:=hn3) 45 [.call (vb false),.call (.tup [.sl (iS35 b2_1),.sl (iS35 b2_2)]),.call (.tup [.sl (iS35 b3_1),vb false]),.call (.tup [.sl (iS35 b4_1),vb b4_2]),.call (.tup [.sl (iS35 b5_1),vb b5_2]),.call (.tup [.sl (iS35 b6_1),vb b6_2]),.call (.tup [.sl (iS35 b7_1),vb b7_2]),.call (.tup [.sl (iS35 b8_1),vb b8_2]),.val (.bool false),.call (vb true),.val (.bool false),.call (vb true),.val (.bool false),.call (vb true),.call (vb false),.val (.bool false),.val (.bool false),.val (.bool false)] [] (at3_j3 h130) (And.intro (ad_4 c1) (And.intro (ad_5 c5) (And.intro (ad_6 c7) (And.intro (ad_7 c9) (And.intro (ad_8 c11) (And.intro (ad_9 c13) (And.intro (ad_10 c15) (And.intro (ad_11 c17) (And.intro (bool_neq (P:=Try.prog) (t:=4) (x:=(.tmp 104)) (y:=(.tmp 105)) (a:=false) (b:=b4_2) Try.underlying4 (v:=false) (nbb_f g125)) (And.intro (ad_12 c21) (And.intro (bool_neq (P:=Try.prog) (t:=4) (x:=(.tmp 114)) (y:=(.tmp 115)) (a:=b5_2) (b:=b6_2) Try.underlying4 (v:=false) (nbb_f g25)) (And.intro (ad_12 c27) (And.intro (bool_neq (P:=Try.prog) (t:=4) (x:=(.tmp 125)) (y:=(.tmp 126)) (a:=b7_2) (b:=b8_2) Try.underlying4 (v:=false) (nbb_f g31)) (And.intro (ad_12 c33) (And.intro (ad_13 c37) (And.intro (bool_neq (P:=Try.prog) (t:=4) (x:=(.tmp 136)) (y:=(.tmp 142)) (a:=false) (b:=false) Try.underlying4 (v:=false) rfl) (And.intro (bool_neq (P:=Try.prog) (t:=4) (x:=(.tmp 146)) (y:=(.tmp 147)) (a:=b5_2) (b:=false) Try.underlying4 (v:=false) (nbb_f g127)) (bool_neq (P:=Try.prog) (t:=4) (x:=(.tmp 151)) (y:=(.tmp 152)) (a:=b7_2) (b:=false) Try.underlying4 (v:=false) (nbb_f g129))))))))))))))))))) (by kernel_rfl)

theorem laws_FnHandsAsSets.calls (k:Nat) (A0:Option Addr) (c0:Nat) (l0:List Int) (A1:Option Addr) (c1:Nat) (l1:List Int) (r:Bool) (w:World) (hr0:Kd.C (Kd.int .u8) w A0 l0.length l0) (hc0:l0.length ≤ c0) (hr1:Kd.C (Kd.int .u8) w A1 l1.length l1) (hc1:l1.length ≤ c1) (h:laws_FnHandsAsSets.f k l0 l1 = some r) :
    Calls Try.prog 3 #[.slice A0 l0.length c0,.slice A1 l1.length c1] w fun e w' => e = .returned (.bool r) ∧ Below w.heap.size w w':=by
  have ha:Args w (fun b _ => b < w.heap.size) _ [.slice A0 l0.length c0,.slice A1 l1.length c1]:=(.cons (rep_of (flat_int .u8) hr0 hc0 Nat.one_pos (fun _ _ h _ => h)) (.cons (rep_of (flat_int .u8) hr1 hc1 Nat.one_pos (fun _ _ h _ => h)) .nil))
  exact law_calls (ad_3 h) ha
end Go.Proofs.Ytkaafmnfcbgafaa.QFnHandsAsSets
