-- WRITTEN BY A PROGRAM OF THIS CLAIM'S AUTHOR (wprint.py)
import Derived.Test.YtldlakmjeaghiaaProg
import Derived.Below
import Derived.Deep.Draws
import Derived.Deep.AppendLies
import Derived.Maps.AppendAt
import Derived.OwnWalk
import Derived.Laws.BytesArg
import Derived.Laws.MakeOwn
import Derived.Laws.OwnMore
import Derived.Deep.OwnRows
import Derived.Tactics
import Derived.Lib.ConvBytes
import Derived.Laws.Slices
import Derived.WalkKit
import Derived.KernelRfl
import Derived.RowKit3
import Derived.Deep.LoopGhost
import Derived.Deep.QuietTactic
import Derived.BigQuiet
import Derived.WideLaws
import Derived.Deep.DeepCutAuto
import Derived.Deep.CutBlock
import Derived.Deep.RegionHeld3
import Derived.Laws.Rows
import Derived.Lib.AppendStr
import Derived.ArgAppend
import Derived.Laws.IdiomCopy
import Derived.OrdersHeld
import Derived.Laws.BitsLemmas
import Derived.RowKit
import Derived.Test.YtldlakmjeaghiaaWWords
import Derived.Test.YtldlakmjeaghiaaWLast
import Derived.Test.YtldlakmjeaghiaaWTab
import Derived.Test.YtldlakmjeaghiaaWFour
import Derived.Test.YtldlakmjeaghiaaWQPut
import Derived.Test.YtldlakmjeaghiaaWApart
import Derived.Test.YtldlakmjeaghiaaWArr
import Derived.Test.YtldlakmjeaghiaaWZeros
import Derived.Test.YtldlakmjeaghiaaWFoot
import Derived.Test.YtldlakmjeaghiaaWKept
import Derived.Test.YtldlakmjeaghiaaWShare
import Derived.Test.YtldlakmjeaghiaaWN
import Derived.Test.YtldlakmjeaghiaaWFootNe
import Derived.Test.YtldlakmjeaghiaaWAt
import Derived.Test.YtldlakmjeaghiaaWEqStruct
import Derived.Test.YtldlakmjeaghiaaWRepsOne
import Derived.Test.YtldlakmjeaghiaaWInv
import Derived.Test.YtldlakmjeaghiaaWInvWords
import Derived.Test.YtldlakmjeaghiaaWGuard
import Derived.Test.YtldlakmjeaghiaaWNEv
import Derived.Test.YtldlakmjeaghiaaWMore
namespace Go.Proofs.Ytldlakmjeaghiaa.QFnExactChanceOfBoth
open Go.RowKit Go.Proofs.YtldlakmjeaghiaaW.PrintWords Go.Proofs.YtldlakmjeaghiaaW.PrintLast Go.Proofs.YtldlakmjeaghiaaW.PrintMore
attribute [local go_sem] max2_int min2_int max_two min_two max_three min_three max_four min_four   -- for this text's walks alone
set_option linter.unusedVariables false
set_option linter.unusedSimpArgs false



def errW : Option Int → Value
  | none => .nilIface
  | some c => .iface 0 (.int .i64 c)
theorem errW_none : errW none = .nilIface := rfl
theorem errW_some (c : Int) : errW (some c) = .iface 0 (.int .i64 c) := rfl

-- the values' own types

end Go.Proofs.Ytldlakmjeaghiaa.QFnExactChanceOfBoth
