-- WRITTEN BY A PROGRAM OF THIS CLAIM'S AUTHOR (wprint.py)
import Derived.Test.YtgdefohillhdoaaGreatDoorQFnPuzzlesFilledx0
import Derived.Test.YtgdefohillhdoaaGreatDoorQFnPuzzlesFilledx2
import Derived.Test.YtgdefohillhdoaaGreatDoorQFnPuzzlesFilledx3
import Derived.Test.YtgdefohillhdoaaGreatDoorQFnPuzzlesFilledx9
import Derived.Test.YtgdefohillhdoaaGreatDoorQFnPuzzlesFilledx10
namespace Go.Proofs.YtgdefohillhdoaaGreatDoor.QFnPuzzlesFilled
open Go.RowKit Go.Proofs.YtgdefohillhdoaaGreatDoorW.PrintWords Go.Proofs.YtgdefohillhdoaaGreatDoorW.PrintLast Go.Proofs.YtgdefohillhdoaaGreatDoorW.PrintMore
attribute [local go_sem] max2_int min2_int max_two min_two max_three min_three max_four min_four   -- for this text's walks alone
set_option linter.unusedVariables false
set_option linter.unusedSimpArgs false

/-! ### spec_pzLook: function 107, by hand -/
/-! ### spec.pzLook: the reference's search -/
structure spec_pzLook.Loop (w : World) (Bp Bo : Nat) (pv : Array Value) (W wr : World) (vo : Value) (out : List (List Int)) : Prop where
 below : Below w.heap.size w wr
 keep : KeepT 29 25 W wr
 bp : wr.heap[Bp]? = some (.cells pv 27 (0, 0))
 cell : wr.heap[Bo]? = some (.cells #[vo] 29 (0, 0))
 rows : Kd.S (Kd.slice 3 (Kd.int .i64)) 25 wr w.heap.size (fun _ => True) vo out
end Go.Proofs.YtgdefohillhdoaaGreatDoor.QFnPuzzlesFilled
