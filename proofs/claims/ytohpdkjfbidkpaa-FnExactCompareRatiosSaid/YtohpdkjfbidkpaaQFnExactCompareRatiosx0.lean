-- WRITTEN BY A PROGRAM OF THIS CLAIM'S AUTHOR (wprint.py)
import Derived.Test.YtohpdkjfbidkpaaProg
import Derived.Below
import Derived.Deep.Draws
import Derived.Deep.AppendLies
import Derived.Maps.AppendAt
import Derived.OwnWalk
import Derived.Laws.BytesArg
import Derived.Laws.MakeOwn
import Derived.Laws.OwnMore
import Derived.Deep.OwnRows
import Derived.Tactics
import Derived.Lib.ConvBytes
import Derived.Laws.Slices
import Derived.WalkKit
import Derived.KernelRfl
import Derived.RowKit3
import Derived.Deep.LoopGhost
import Derived.Deep.QuietTactic
import Derived.BigQuiet
import Derived.WideLaws
import Derived.Deep.DeepCutAuto
import Derived.Deep.CutBlock
import Derived.Deep.RegionHeld3
import Derived.Laws.Rows
import Derived.Lib.AppendStr
import Derived.ArgAppend
import Derived.Laws.IdiomCopy
import Derived.OrdersHeld
import Derived.Laws.BitsLemmas
import Derived.RowKit
import Derived.Test.YtohpdkjfbidkpaaWWords
import Derived.Test.YtohpdkjfbidkpaaWLast
import Derived.Test.YtohpdkjfbidkpaaWTab
import Derived.Test.YtohpdkjfbidkpaaWFour
import Derived.Test.YtohpdkjfbidkpaaWQPut
import Derived.Test.YtohpdkjfbidkpaaWApart
import Derived.Test.YtohpdkjfbidkpaaWArr
import Derived.Test.YtohpdkjfbidkpaaWZeros
import Derived.Test.YtohpdkjfbidkpaaWFoot
import Derived.Test.YtohpdkjfbidkpaaWKept
import Derived.Test.YtohpdkjfbidkpaaWShare
import Derived.Test.YtohpdkjfbidkpaaWN
import Derived.Test.YtohpdkjfbidkpaaWFootNe
import Derived.Test.YtohpdkjfbidkpaaWAt
import Derived.Test.YtohpdkjfbidkpaaWEqStruct
import Derived.Test.YtohpdkjfbidkpaaWRepsOne
import Derived.Test.YtohpdkjfbidkpaaWInv
import Derived.Test.YtohpdkjfbidkpaaWInvWords
import Derived.Test.YtohpdkjfbidkpaaWGuard
import Derived.Test.YtohpdkjfbidkpaaWNEv
import Derived.Test.YtohpdkjfbidkpaaWMore
namespace Go.Proofs.Ytohpdkjfbidkpaa.QFnExactCompareRatios
open Go.RowKit Go.Proofs.YtohpdkjfbidkpaaW.PrintWords Go.Proofs.YtohpdkjfbidkpaaW.PrintLast Go.Proofs.YtohpdkjfbidkpaaW.PrintMore
attribute [local go_sem] max2_int min2_int max_two min_two max_three min_three max_four min_four   -- for this text's walks alone
set_option linter.unusedVariables false
set_option linter.unusedSimpArgs false



def errW : Option Int → Value
  | none => .nilIface
  | some c => .iface 0 (.int .i64 c)
theorem errW_none : errW none = .nilIface := rfl
theorem errW_some (c : Int) : errW (some c) = .iface 0 (.int .i64 c) := rfl

-- the values' own types

end Go.Proofs.Ytohpdkjfbidkpaa.QFnExactCompareRatios
