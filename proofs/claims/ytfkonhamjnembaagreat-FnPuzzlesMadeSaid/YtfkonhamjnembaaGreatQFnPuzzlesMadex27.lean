-- WRITTEN BY A PROGRAM OF THIS CLAIM'S AUTHOR (wprint.py)
import Derived.Test.YtfkonhamjnembaaGreatQFnPuzzlesMadex0
import Derived.Test.YtfkonhamjnembaaGreatQFnPuzzlesMadex2
import Derived.Test.YtfkonhamjnembaaGreatQFnPuzzlesMadex4
import Derived.Test.YtfkonhamjnembaaGreatQFnPuzzlesMadex6
import Derived.Test.YtfkonhamjnembaaGreatQFnPuzzlesMadex7
import Derived.Test.YtfkonhamjnembaaGreatQFnPuzzlesMadex8
import Derived.Test.YtfkonhamjnembaaGreatQFnPuzzlesMadex9
import Derived.Test.YtfkonhamjnembaaGreatQFnPuzzlesMadex14
import Derived.Test.YtfkonhamjnembaaGreatQFnPuzzlesMadex17
import Derived.Test.YtfkonhamjnembaaGreatQFnPuzzlesMadex19
import Derived.Test.YtfkonhamjnembaaGreatQFnPuzzlesMadex20
import Derived.Test.YtfkonhamjnembaaGreatQFnPuzzlesMadex21
import Derived.Test.YtfkonhamjnembaaGreatQFnPuzzlesMadex22
import Derived.Test.YtfkonhamjnembaaGreatQFnPuzzlesMadex24
import Derived.Test.YtfkonhamjnembaaGreatQFnPuzzlesMadex26
namespace Go.Proofs.YtfkonhamjnembaaGreat.QFnPuzzlesMade
open Go.RowKit Go.Proofs.YtfkonhamjnembaaGreatW.PrintWords Go.Proofs.YtfkonhamjnembaaGreatW.PrintLast Go.Proofs.YtfkonhamjnembaaGreatW.PrintMore
attribute [local go_sem] max2_int min2_int max_two min_two max_three min_three max_four min_four   -- for this text's walks alone
set_option linter.unusedVariables false
set_option linter.unusedSimpArgs false

/-! ### laws_FnPuzzlesMade: function 3 -/
mutual
def laws_FnPuzzlesMade.j0 : Nat → List Int → List Int → Option (Bool)
 | 0, _, _ => none
 | k + 1, x0, x1 => (spec_DrawMakePuzzle.f k x0).bind fun bt844 => ((impl_MakePuzzle.f k bt844.1 bt844.2).bind fun bt848 => ((spec_MakePuzzle.f k bt844.1 bt844.2).bind fun bt856 => (if (bt848.2.2 != bt856.2.2) = true then (none) else ((laws_iPuzzle.f k bt848.1 bt848.2.1 bt856.1 bt856.2.1).bind fun t864 => (laws_FnPuzzlesMade.j1 k x1 bt844.1 bt848.2.2 (!t864) bt848.1 bt848.2.1)))))
def laws_FnPuzzlesMade.j1 : Nat → List Int → List Int → Bool → Bool → List (S67) → List Int → Option (Bool)
 | 0, _, _, _, _, _, _ => none
 | k + 1, x1, x5, x8, x92, x856000, x856001 => if x92 = true then (none) else (laws_FnPuzzlesMade.j2 k x1 x5 x8 x856000 x856001)
def laws_FnPuzzlesMade.j2 : Nat → List Int → List Int → Bool → List (S67) → List Int → Option (Bool)
 | 0, _, _, _, _, _ => none
 | k + 1, x1, x5, x8, x856000, x856001 => if x8 = true then ((impl_IsSolution.f k x856000 x856001 x5).bind fun bt865 => ((impl_IsPuzzle.f k x856000 x856001).bind fun t867 => (if t867 = true then (if bt865.2 = true then (if bt865.1 = true then (laws_FnPuzzlesMade.j3 k x1) else (none)) else (none)) else (none)))) else (laws_FnPuzzlesMade.j3 k x1)
def laws_FnPuzzlesMade.j3 : Nat → List Int → Option (Bool)
 | 0, _ => none
 | k + 1, x1 => (spec_DrawHarderPuzzle.f k x1).bind fun bt868 => ((impl_HarderPuzzle.f k bt868.1 bt868.2).bind fun bt875 => ((spec_HarderPuzzle.f k bt868.1 bt868.2).bind fun bt883 => (if (bt875.2.2 != bt883.2.2) = true then (none) else ((laws_iPuzzle.f k bt875.1 bt875.2.1 bt883.1 bt883.2.1).bind fun t891 => (laws_FnPuzzlesMade.j4 k x1 bt875.2.2 (!t891) bt868.1 bt868.2 bt875.1 bt875.2.1)))))
def laws_FnPuzzlesMade.j4 : Nat → List Int → Bool → Bool → List (S67) → List Int → List (S67) → List Int → Option (Bool)
 | 0, _, _, _, _, _, _, _ => none
 | k + 1, x1, x15, x131, x875000, x875001, x883000, x883001 => if x131 = true then (none) else (laws_FnPuzzlesMade.j5 k x1 x15 x875000 x875001 x883000 x883001)
def laws_FnPuzzlesMade.j5 : Nat → List Int → Bool → List (S67) → List Int → List (S67) → List Int → Option (Bool)
 | 0, _, _, _, _, _, _ => none
 | k + 1, x1, x15, x875000, x875001, x883000, x883001 => if x15 = true then ((impl_Solutions.f k x875000 x875001).bind fun bt892 => ((impl_Solutions.f k x883000 x883001).bind fun bt896 => ((impl_CountGaps.f k x875000 x875001).bind fun bt900 => ((impl_CountGaps.f k x883000 x883001).bind fun bt902 => (if bt892.2 = true then (if (bt892.1.length : Int) = 1 then (if bt896.2 = true then ((laws_iRows.f k bt892.1 bt896.1).bind fun t904 => (if t904 = true then (if bt900.2 = true then (if bt902.2 = true then (laws_FnPuzzlesMade.j6 k x1 (decide (bt902.1 < bt900.1)) x883000 x883001) else (none)) else (none)) else (none))) else (none)) else (none)) else (none)))))) else (laws_FnPuzzlesMade.j11 k x1)
def laws_FnPuzzlesMade.j11 : Nat → List Int → Option (Bool)
 | 0, _ => none
 | k + 1, x1 => (spec_DrawFillGap.f k x1).bind fun bt916 => ((impl_FillGap.f k bt916.1 bt916.2.1 bt916.2.2.1 bt916.2.2.2).bind fun bt925 => ((spec_FillGap.f k bt916.1 bt916.2.1 bt916.2.2.1 bt916.2.2.2).bind fun bt933 => ((spec_DrawOpenGap.f k x1).bind fun bt941 => ((impl_OpenGap.f k bt941.1 bt941.2.1 bt941.2.2).bind fun bt949 => ((spec_OpenGap.f k bt941.1 bt941.2.1 bt941.2.2).bind fun bt957 => ((spec_DrawTurnPuzzle.f k x1).bind fun bt965 => ((impl_TurnPuzzle.f k bt965.1 bt965.2).bind fun bt972 => ((spec_TurnPuzzle.f k bt965.1 bt965.2).bind fun bt980 => ((spec_DrawRenamePuzzle.f k x1).bind fun bt988 => ((impl_RenamePuzzle.f k bt988.1 bt988.2.1 bt988.2.2).bind fun bt998 => ((spec_RenamePuzzle.f k bt988.1 bt988.2.1 bt988.2.2).bind fun bt1006 => (if (bt925.2.2 != bt933.2.2) = true then (none) else ((laws_iPuzzle.f k bt925.1 bt925.2.1 bt933.1 bt933.2.1).bind fun t1014 => (if t1014 = true then (if (bt949.2.2 != bt957.2.2) = true then (none) else ((laws_iPuzzle.f k bt949.1 bt949.2.1 bt957.1 bt957.2.1).bind fun t1015 => (if t1015 = true then (if (bt972.2.2 != bt980.2.2) = true then (none) else ((laws_iPuzzle.f k bt972.1 bt972.2.1 bt980.1 bt980.2.1).bind fun t1016 => (if t1016 = true then (if (bt998.2.2 != bt1006.2.2) = true then (none) else ((laws_iPuzzle.f k bt998.1 bt998.2.1 bt1006.1 bt1006.2.1).bind fun t1017 => (laws_FnPuzzlesMade.j12 k bt916.2.2.1 bt925.2.2 bt941.2.2 bt949.2.2 bt998.2.2 (!t1017) bt916.1 bt916.2.1 bt925.1 bt925.2.1 bt941.1 bt941.2.1 bt949.1 bt949.2.1 bt988.1 bt988.2.1 bt998.1 bt998.2.1))) else (none)))) else (none)))) else (none)))))))))))))))
def laws_FnPuzzlesMade.j12 : Nat → Int → Bool → Int → Bool → Bool → Bool → List (S67) → List Int → List (S67) → List Int → List (S67) → List Int → List (S67) → List Int → List (S67) → List Int → List (S67) → List Int → Option (Bool)
 | 0, _, _, _, _, _, _, _, _, _, _, _, _, _, _, _, _, _, _ => none
 | k + 1, x33, x36, x40, x42, x53, x321, x925000, x925001, x933000, x933001, x949000, x949001, x957000, x957001, x998000, x998001, x1006000, x1006001 => if x321 = true then (none) else (laws_FnPuzzlesMade.j13 k x33 x36 x40 x42 x53 x925000 x925001 x933000 x933001 x949000 x949001 x957000 x957001 x998000 x998001 x1006000 x1006001)
def laws_FnPuzzlesMade.j13 : Nat → Int → Bool → Int → Bool → Bool → List (S67) → List Int → List (S67) → List Int → List (S67) → List Int → List (S67) → List Int → List (S67) → List Int → List (S67) → List Int → Option (Bool)
 | 0, _, _, _, _, _, _, _, _, _, _, _, _, _, _, _, _, _ => none
 | k + 1, x33, x36, x40, x42, x53, x925000, x925001, x933000, x933001, x949000, x949001, x957000, x957001, x998000, x998001, x1006000, x1006001 => if x36 = true then ((impl_OpenGap.f k x933000 x933001 x33).bind fun bt1018 => (if bt1018.2.2 = true then ((laws_iPuzzle.f k bt1018.1 bt1018.2.1 x925000 x925001).bind fun t1026 => (if t1026 = true then (laws_FnPuzzlesMade.j14 k x40 x42 x53 x949000 x949001 x957000 x957001 x998000 x998001 x1006000 x1006001) else (none))) else (none))) else (laws_FnPuzzlesMade.j14 k x40 x42 x53 x949000 x949001 x957000 x957001 x998000 x998001 x1006000 x1006001)
def laws_FnPuzzlesMade.j14 : Nat → Int → Bool → Bool → List (S67) → List Int → List (S67) → List Int → List (S67) → List Int → List (S67) → List Int → Option (Bool)
 | 0, _, _, _, _, _, _, _, _, _, _, _ => none
 | k + 1, x40, x42, x53, x949000, x949001, x957000, x957001, x998000, x998001, x1006000, x1006001 => if x42 = true then (if 0 ≤ x40 then (if x40 < (x949001.length : Int) then ((impl_FillGap.f k x957000 x957001 x40 (rd x949001 x40)).bind fun bt1028 => (if bt1028.2.2 = true then ((laws_iPuzzle.f k bt1028.1 bt1028.2.1 x949000 x949001).bind fun t1036 => (if t1036 = true then (laws_FnPuzzlesMade.j15 k x53 x998000 x998001 x1006000 x1006001) else (none))) else (none))) else (none)) else (none)) else (laws_FnPuzzlesMade.j15 k x53 x998000 x998001 x1006000 x1006001)
def laws_FnPuzzlesMade.j15 : Nat → Bool → List (S67) → List Int → List (S67) → List Int → Option (Bool)
 | 0, _, _, _, _, _ => none
 | k + 1, x53, x998000, x998001, x1006000, x1006001 => if x53 = true then ((impl_CountSolutions.f k x998000 x998001).bind fun bt1037 => ((impl_CountSolutions.f k x1006000 x1006001).bind fun bt1039 => (if (bt1037.2 != bt1039.2) = true then (none) else (if bt1037.1 = bt1039.1 then ((impl_IsPuzzle.f k x1006000 x1006001).bind fun t1041 => (if t1041 = true then (some true) else (none))) else (none))))) else (some true)
def laws_FnPuzzlesMade.j6 : Nat → List Int → Bool → List (S67) → List Int → Option (Bool)
 | 0, _, _, _, _ => none
 | k + 1, x1, x182, x883000, x883001 => if x182 = true then (none) else (laws_FnPuzzlesMade.j7 k x1 x883000 x883001)
def laws_FnPuzzlesMade.j7 : Nat → List Int → List (S67) → List Int → Option (Bool)
 | 0, _, _, _ => none
 | k + 1, x1, x883000, x883001 => laws_FnPuzzlesMade.l0 k x1 x883001 (x883001.length : Int) 0 x883000 x883001
def laws_FnPuzzlesMade.l0 : Nat → List Int → List Int → Int → Int → List (S67) → List Int → Option (Bool)
 | 0, _, _, _, _, _, _ => none
 | k + 1, x1, x184, x185, x186, x883000, x883001 => if x186 < x185 then (laws_FnPuzzlesMade.j9 k x1 x184 x185 x186 x883000 x883001) else (laws_FnPuzzlesMade.j11 k x1)
def laws_FnPuzzlesMade.j9 : Nat → List Int → List Int → Int → Int → List (S67) → List Int → Option (Bool)
 | 0, _, _, _, _, _, _ => none
 | k + 1, x1, x184, x185, x186, x883000, x883001 => if 0 ≤ x186 then (if x186 < (x184.length : Int) then (if (rd x184 x186) < 0 then (laws_FnPuzzlesMade.l0 k x1 x184 x185 (wrap64 (x186 + 1)) x883000 x883001) else (laws_FnPuzzlesMade.j10 k x1 x186 x184 x185 x186 x883000 x883001)) else (none)) else (none)
def laws_FnPuzzlesMade.j10 : Nat → List Int → Int → List Int → Int → Int → List (S67) → List Int → Option (Bool)
 | 0, _, _, _, _, _, _, _ => none
 | k + 1, x1, x26, x184, x185, x186, x883000, x883001 => (impl_OpenGap.f k x883000 x883001 x26).bind fun bt906 => ((impl_CountSolutions.f k bt906.1 bt906.2.1).bind fun bt914 => (if bt906.2.2 = true then (if bt914.2 = true then (if bt914.1 < 2 then (none) else (laws_FnPuzzlesMade.l0 k x1 x184 x185 (wrap64 (x186 + 1)) x883000 x883001)) else (laws_FnPuzzlesMade.l0 k x1 x184 x185 (wrap64 (x186 + 1)) x883000 x883001)) else (none)))
end
def laws_FnPuzzlesMade.f (k : Nat) (l0 : List Int) (l1 : List Int) : Option (Bool) := (laws_big.f l0 l1).bind fun t843 => (if t843 = true then (some true) else (laws_FnPuzzlesMade.j0 k l0 l1))
end Go.Proofs.YtfkonhamjnembaaGreat.QFnPuzzlesMade
