/-
  No cell of these rows narrows 'for every input' (looked for: loops, veiled, ifaces, maps, wideKeys, modest, calm, conditions, laid).
  DERIVED. THE GIVEN ROWS OF THIS SEAT. 12 by the template 'for every input the law returns true; each argument reads behind the call as it read before'; 0 by the template 'total and deterministic' (their statements: YtldlakmjeaghiaaTotals.lean).
  GIVEN WITH THE SEED: the statements are not yours to turn. If you find one false, say at which input.
  Laid BY PROGRAM, IN A SANDBOX (cutbox-rows.mjs): the forced cells as the released guide's own fill.sh prints them over the translation d6d2fb0a51f7108f… (all of the seat's roots in one cut). By AI agents, Wed Nov 11 2026. No macro, syntax, notation, axiom, sorry.
-/
import Derived.Test.YtldlakmjeaghiaaChecked
import GoSem.Claim
import GoSem.ClaimJoined
import GoSem.ClaimMapViews
import Derived.JoinedTies
import Derived.KernelRfl
namespace Go.Proofs.Ytldlakmjeaghiaa
/- THE CELL 'sum', in the pinned program and in every row, IS THE sha256 OF THE DUMP (.gsa) THAT YtldlakmjeaghiaaProg.lean LOADS. Nothing in Lean hashes anything: it is a label: what it is worth is what the hold of that sum in a sandbox is worth. -/
noncomputable def Try.pinned : Pinned := { name := "ytldlakmjeaghiaa", sum := "d6d2fb0a51f7108f7da36fd57c73444d8b95d1071a8064d13c2ce5be60626bd3", checked := Try.checked }
namespace Rows
def none {H : Type} : Left H := { results := [], args := [] }

/-- 'laws.FnExactChanceWithout': WHATEVER THE INPUT: true; the input reads as it did. -/
def fnExactChanceWithoutSpec : ChangeSpec := { name := "fnExactChanceWithout", fn := fun _ => fun
  | [d1, d2, d3] => { results := [.lit (.bool true)], args := [d1, d2, d3] }
  | _ => none }
def fnExactChanceWithoutRow : OpenClaim := { program := "ytldlakmjeaghiaa", sum := "d6d2fb0a51f7108f7da36fd57c73444d8b95d1071a8064d13c2ce5be60626bd3", func := "loop.example/g01216/laws.FnExactChanceWithout", spec := "fnExactChanceWithout", apart := false }
def FnExactChanceWithoutSaid : Prop := fnExactChanceWithoutRow.holds Try.pinned (OpenSpec.ofChange fnExactChanceWithoutSpec)

/-- ITS FALSE NEIGHBOUR: 'it returns false'. Refute it at one input. -/
def fnExactChanceWithoutWrong : ChangeSpec := { name := "fnExactChanceWithout", fn := fun _ => fun
  | [d1, d2, d3] => { results := [.lit (.bool false)], args := [d1, d2, d3] }
  | _ => none }
def FnExactChanceWithoutWrongFalsely : Prop := fnExactChanceWithoutRow.holds Try.pinned (OpenSpec.ofChange fnExactChanceWithoutWrong)

/-- 'laws.FnExactChanceOfDoubles': WHATEVER THE INPUT: true; the input reads as it did. -/
def fnExactChanceOfDoublesSpec : ChangeSpec := { name := "fnExactChanceOfDoubles", fn := fun _ => fun
  | [d1, d2, d3] => { results := [.lit (.bool true)], args := [d1, d2, d3] }
  | _ => none }
def fnExactChanceOfDoublesRow : OpenClaim := { program := "ytldlakmjeaghiaa", sum := "d6d2fb0a51f7108f7da36fd57c73444d8b95d1071a8064d13c2ce5be60626bd3", func := "loop.example/g01216/laws.FnExactChanceOfDoubles", spec := "fnExactChanceOfDoubles", apart := false }
def FnExactChanceOfDoublesSaid : Prop := fnExactChanceOfDoublesRow.holds Try.pinned (OpenSpec.ofChange fnExactChanceOfDoublesSpec)

/-- ITS FALSE NEIGHBOUR: 'it returns false'. Refute it at one input. -/
def fnExactChanceOfDoublesWrong : ChangeSpec := { name := "fnExactChanceOfDoubles", fn := fun _ => fun
  | [d1, d2, d3] => { results := [.lit (.bool false)], args := [d1, d2, d3] }
  | _ => none }
def FnExactChanceOfDoublesWrongFalsely : Prop := fnExactChanceOfDoublesRow.holds Try.pinned (OpenSpec.ofChange fnExactChanceOfDoublesWrong)

/-- 'laws.FnExactChanceOfTimes': WHATEVER THE INPUT: true; the input reads as it did. -/
def fnExactChanceOfTimesSpec : ChangeSpec := { name := "fnExactChanceOfTimes", fn := fun _ => fun
  | [d1, d2, d3] => { results := [.lit (.bool true)], args := [d1, d2, d3] }
  | _ => none }
def fnExactChanceOfTimesRow : OpenClaim := { program := "ytldlakmjeaghiaa", sum := "d6d2fb0a51f7108f7da36fd57c73444d8b95d1071a8064d13c2ce5be60626bd3", func := "loop.example/g01216/laws.FnExactChanceOfTimes", spec := "fnExactChanceOfTimes", apart := false }
def FnExactChanceOfTimesSaid : Prop := fnExactChanceOfTimesRow.holds Try.pinned (OpenSpec.ofChange fnExactChanceOfTimesSpec)

/-- ITS FALSE NEIGHBOUR: 'it returns false'. Refute it at one input. -/
def fnExactChanceOfTimesWrong : ChangeSpec := { name := "fnExactChanceOfTimes", fn := fun _ => fun
  | [d1, d2, d3] => { results := [.lit (.bool false)], args := [d1, d2, d3] }
  | _ => none }
def FnExactChanceOfTimesWrongFalsely : Prop := fnExactChanceOfTimesRow.holds Try.pinned (OpenSpec.ofChange fnExactChanceOfTimesWrong)

/-- 'laws.FnExactChanceOfBoth': WHATEVER THE INPUT: true; the input reads as it did. -/
def fnExactChanceOfBothSpec : ChangeSpec := { name := "fnExactChanceOfBoth", fn := fun _ => fun
  | [d1, d2, d3] => { results := [.lit (.bool true)], args := [d1, d2, d3] }
  | _ => none }
def fnExactChanceOfBothRow : OpenClaim := { program := "ytldlakmjeaghiaa", sum := "d6d2fb0a51f7108f7da36fd57c73444d8b95d1071a8064d13c2ce5be60626bd3", func := "loop.example/g01216/laws.FnExactChanceOfBoth", spec := "fnExactChanceOfBoth", apart := false }
def FnExactChanceOfBothSaid : Prop := fnExactChanceOfBothRow.holds Try.pinned (OpenSpec.ofChange fnExactChanceOfBothSpec)

/-- ITS FALSE NEIGHBOUR: 'it returns false'. Refute it at one input. -/
def fnExactChanceOfBothWrong : ChangeSpec := { name := "fnExactChanceOfBoth", fn := fun _ => fun
  | [d1, d2, d3] => { results := [.lit (.bool false)], args := [d1, d2, d3] }
  | _ => none }
def FnExactChanceOfBothWrongFalsely : Prop := fnExactChanceOfBothRow.holds Try.pinned (OpenSpec.ofChange fnExactChanceOfBothWrong)

/-- 'laws.FnExactCountWithPips': WHATEVER THE INPUT: true; the input reads as it did. -/
def fnExactCountWithPipsSpec : ChangeSpec := { name := "fnExactCountWithPips", fn := fun _ => fun
  | [d1, d2, d3] => { results := [.lit (.bool true)], args := [d1, d2, d3] }
  | _ => none }
def fnExactCountWithPipsRow : OpenClaim := { program := "ytldlakmjeaghiaa", sum := "d6d2fb0a51f7108f7da36fd57c73444d8b95d1071a8064d13c2ce5be60626bd3", func := "loop.example/g01216/laws.FnExactCountWithPips", spec := "fnExactCountWithPips", apart := false }
def FnExactCountWithPipsSaid : Prop := fnExactCountWithPipsRow.holds Try.pinned (OpenSpec.ofChange fnExactCountWithPipsSpec)

/-- ITS FALSE NEIGHBOUR: 'it returns false'. Refute it at one input. -/
def fnExactCountWithPipsWrong : ChangeSpec := { name := "fnExactCountWithPips", fn := fun _ => fun
  | [d1, d2, d3] => { results := [.lit (.bool false)], args := [d1, d2, d3] }
  | _ => none }
def FnExactCountWithPipsWrongFalsely : Prop := fnExactCountWithPipsRow.holds Try.pinned (OpenSpec.ofChange fnExactCountWithPipsWrong)

/-- 'laws.FnExactChanceOfOpening': WHATEVER THE INPUT: true; the input reads as it did. -/
def fnExactChanceOfOpeningSpec : ChangeSpec := { name := "fnExactChanceOfOpening", fn := fun _ => fun
  | [d1, d2] => { results := [.lit (.bool true)], args := [d1, d2] }
  | _ => none }
def fnExactChanceOfOpeningRow : OpenClaim := { program := "ytldlakmjeaghiaa", sum := "d6d2fb0a51f7108f7da36fd57c73444d8b95d1071a8064d13c2ce5be60626bd3", func := "loop.example/g01216/laws.FnExactChanceOfOpening", spec := "fnExactChanceOfOpening", apart := false }
def FnExactChanceOfOpeningSaid : Prop := fnExactChanceOfOpeningRow.holds Try.pinned (OpenSpec.ofChange fnExactChanceOfOpeningSpec)

/-- ITS FALSE NEIGHBOUR: 'it returns false'. Refute it at one input. -/
def fnExactChanceOfOpeningWrong : ChangeSpec := { name := "fnExactChanceOfOpening", fn := fun _ => fun
  | [d1, d2] => { results := [.lit (.bool false)], args := [d1, d2] }
  | _ => none }
def FnExactChanceOfOpeningWrongFalsely : Prop := fnExactChanceOfOpeningRow.holds Try.pinned (OpenSpec.ofChange fnExactChanceOfOpeningWrong)

/-- 'laws.FnExactFirstDesk': WHATEVER THE INPUT: true; the input reads as it did. -/
def fnExactFirstDeskSpec : ChangeSpec := { name := "fnExactFirstDesk", fn := fun _ => fun
  | [] => { results := [.lit (.bool true)], args := [] }
  | _ => none }
def fnExactFirstDeskRow : OpenClaim := { program := "ytldlakmjeaghiaa", sum := "d6d2fb0a51f7108f7da36fd57c73444d8b95d1071a8064d13c2ce5be60626bd3", func := "loop.example/g01216/laws.FnExactFirstDesk", spec := "fnExactFirstDesk", apart := false }
def FnExactFirstDeskSaid : Prop := fnExactFirstDeskRow.holds Try.pinned (OpenSpec.ofChange fnExactFirstDeskSpec)

/-- ITS FALSE NEIGHBOUR: 'it returns false'. Refute it at one input. -/
def fnExactFirstDeskWrong : ChangeSpec := { name := "fnExactFirstDesk", fn := fun _ => fun
  | [] => { results := [.lit (.bool false)], args := [] }
  | _ => none }
def FnExactFirstDeskWrongFalsely : Prop := fnExactFirstDeskRow.holds Try.pinned (OpenSpec.ofChange fnExactFirstDeskWrong)

/-- 'laws.FnExactLikeliestPips': WHATEVER THE INPUT: true; the input reads as it did. -/
def fnExactLikeliestPipsSpec : ChangeSpec := { name := "fnExactLikeliestPips", fn := fun _ => fun
  | [d1, d2] => { results := [.lit (.bool true)], args := [d1, d2] }
  | _ => none }
def fnExactLikeliestPipsRow : OpenClaim := { program := "ytldlakmjeaghiaa", sum := "d6d2fb0a51f7108f7da36fd57c73444d8b95d1071a8064d13c2ce5be60626bd3", func := "loop.example/g01216/laws.FnExactLikeliestPips", spec := "fnExactLikeliestPips", apart := false }
def FnExactLikeliestPipsSaid : Prop := fnExactLikeliestPipsRow.holds Try.pinned (OpenSpec.ofChange fnExactLikeliestPipsSpec)

/-- ITS FALSE NEIGHBOUR: 'it returns false'. Refute it at one input. -/
def fnExactLikeliestPipsWrong : ChangeSpec := { name := "fnExactLikeliestPips", fn := fun _ => fun
  | [d1, d2] => { results := [.lit (.bool false)], args := [d1, d2] }
  | _ => none }
def FnExactLikeliestPipsWrongFalsely : Prop := fnExactLikeliestPipsRow.holds Try.pinned (OpenSpec.ofChange fnExactLikeliestPipsWrong)

/-- 'laws.FnExactChanceOfPips': WHATEVER THE INPUT: true; the input reads as it did. -/
def fnExactChanceOfPipsSpec : ChangeSpec := { name := "fnExactChanceOfPips", fn := fun _ => fun
  | [d1, d2, d3] => { results := [.lit (.bool true)], args := [d1, d2, d3] }
  | _ => none }
def fnExactChanceOfPipsRow : OpenClaim := { program := "ytldlakmjeaghiaa", sum := "d6d2fb0a51f7108f7da36fd57c73444d8b95d1071a8064d13c2ce5be60626bd3", func := "loop.example/g01216/laws.FnExactChanceOfPips", spec := "fnExactChanceOfPips", apart := false }
def FnExactChanceOfPipsSaid : Prop := fnExactChanceOfPipsRow.holds Try.pinned (OpenSpec.ofChange fnExactChanceOfPipsSpec)

/-- ITS FALSE NEIGHBOUR: 'it returns false'. Refute it at one input. -/
def fnExactChanceOfPipsWrong : ChangeSpec := { name := "fnExactChanceOfPips", fn := fun _ => fun
  | [d1, d2, d3] => { results := [.lit (.bool false)], args := [d1, d2, d3] }
  | _ => none }
def FnExactChanceOfPipsWrongFalsely : Prop := fnExactChanceOfPipsRow.holds Try.pinned (OpenSpec.ofChange fnExactChanceOfPipsWrong)

/-- 'laws.FnExactIsDesk': WHATEVER THE INPUT: true; the input reads as it did. -/
def fnExactIsDeskSpec : ChangeSpec := { name := "fnExactIsDesk", fn := fun _ => fun
  | [d] => { results := [.lit (.bool true)], args := [d] }
  | _ => none }
def fnExactIsDeskRow : OpenClaim := { program := "ytldlakmjeaghiaa", sum := "d6d2fb0a51f7108f7da36fd57c73444d8b95d1071a8064d13c2ce5be60626bd3", func := "loop.example/g01216/laws.FnExactIsDesk", spec := "fnExactIsDesk", unfollowed := true, recurses := true, apart := false }
def FnExactIsDeskSaid : Prop := fnExactIsDeskRow.holds Try.pinned (OpenSpec.ofChange fnExactIsDeskSpec)

/-- ITS FALSE NEIGHBOUR: 'it returns false'. Refute it at one input. -/
def fnExactIsDeskWrong : ChangeSpec := { name := "fnExactIsDesk", fn := fun _ => fun
  | [d] => { results := [.lit (.bool false)], args := [d] }
  | _ => none }
def FnExactIsDeskWrongFalsely : Prop := fnExactIsDeskRow.holds Try.pinned (OpenSpec.ofChange fnExactIsDeskWrong)

/-- 'laws.FnExactIsPuzzle': WHATEVER THE INPUT: true; the input reads as it did. -/
def fnExactIsPuzzleSpec : ChangeSpec := { name := "fnExactIsPuzzle", fn := fun _ => fun
  | [d] => { results := [.lit (.bool true)], args := [d] }
  | _ => none }
def fnExactIsPuzzleRow : OpenClaim := { program := "ytldlakmjeaghiaa", sum := "d6d2fb0a51f7108f7da36fd57c73444d8b95d1071a8064d13c2ce5be60626bd3", func := "loop.example/g01216/laws.FnExactIsPuzzle", spec := "fnExactIsPuzzle", unfollowed := true, recurses := true, apart := false }
def FnExactIsPuzzleSaid : Prop := fnExactIsPuzzleRow.holds Try.pinned (OpenSpec.ofChange fnExactIsPuzzleSpec)

/-- ITS FALSE NEIGHBOUR: 'it returns false'. Refute it at one input. -/
def fnExactIsPuzzleWrong : ChangeSpec := { name := "fnExactIsPuzzle", fn := fun _ => fun
  | [d] => { results := [.lit (.bool false)], args := [d] }
  | _ => none }
def FnExactIsPuzzleWrongFalsely : Prop := fnExactIsPuzzleRow.holds Try.pinned (OpenSpec.ofChange fnExactIsPuzzleWrong)

/-- 'laws.FnExactCountGaps': WHATEVER THE INPUT: true; the input reads as it did. -/
def fnExactCountGapsSpec : ChangeSpec := { name := "fnExactCountGaps", fn := fun _ => fun
  | [d] => { results := [.lit (.bool true)], args := [d] }
  | _ => none }
def fnExactCountGapsRow : OpenClaim := { program := "ytldlakmjeaghiaa", sum := "d6d2fb0a51f7108f7da36fd57c73444d8b95d1071a8064d13c2ce5be60626bd3", func := "loop.example/g01216/laws.FnExactCountGaps", spec := "fnExactCountGaps", unfollowed := true, recurses := true, apart := false }
def FnExactCountGapsSaid : Prop := fnExactCountGapsRow.holds Try.pinned (OpenSpec.ofChange fnExactCountGapsSpec)

/-- ITS FALSE NEIGHBOUR: 'it returns false'. Refute it at one input. -/
def fnExactCountGapsWrong : ChangeSpec := { name := "fnExactCountGaps", fn := fun _ => fun
  | [d] => { results := [.lit (.bool false)], args := [d] }
  | _ => none }
def FnExactCountGapsWrongFalsely : Prop := fnExactCountGapsRow.holds Try.pinned (OpenSpec.ofChange fnExactCountGapsWrong)

/- THE SECOND FORM. 'bulk': how many values and letters a reading holds, each counted each time it is reached (what is shared counts as often as it is met; a slice's spare places count too). A statement '..UptoSaid' is the law's where the arguments, and the package variables that the reading takes, are together of bulk at most 1048576: NARROWER than '..Said'. Prove '..Said' where nothing that the law and all that it calls make is longer than what came in: it says more and counts as full. Else prove '..UptoSaid'. A law counts once. -/
mutual
def uptoBulk {H : Type} : DataW H → Nat
  | .lit (.string bytes) => bytes.length + 1
  | .lit _ => 1
  | .nil => 1
  | .ptr d => uptoBulk d + 1
  | .slice elems spare => uptoBulkAll elems + uptoBulkAll spare + 1
  | .agg parts => uptoBulkAll parts + 1
  | .iface _ d => uptoBulk d + 1
  | .map entries => uptoBulkEntries entries + 1
  | .held _ => 1
def uptoBulkAll {H : Type} : List (DataW H) → Nat
  | [] => 0
  | d :: r => uptoBulk d + uptoBulkAll r
def uptoBulkEntries {H : Type} : List (Lit × DataW H) → Nat
  | [] => 0
  | x :: r => uptoBulkEntry x + uptoBulkEntries r
def uptoBulkEntry {H : Type} : Lit × DataW H → Nat
  | (.string bytes, d) => bytes.length + uptoBulk d + 1
  | (_, d) => uptoBulk d + 1
 end
def uptoSmall : (H : Type) → List (DataW H) → Bool := fun _ ds => decide (uptoBulkAll ds ≤ 1048576)
def OpenSpec.upto (s : _root_.Go.ChangeSpec) : _root_.Go.OpenSpec := { _root_.Go.OpenSpec.ofChange s with cond := some uptoSmall }

/-- 'laws.FnExactChanceWithout', WHERE WHAT IT READS IS OF BULK AT MOST 1048576: true; the input reads as it did. -/
def fnExactChanceWithoutUptoRow : OpenClaim := { program := "ytldlakmjeaghiaa", sum := "d6d2fb0a51f7108f7da36fd57c73444d8b95d1071a8064d13c2ce5be60626bd3", func := "loop.example/g01216/laws.FnExactChanceWithout", spec := "fnExactChanceWithout", apart := false, narrowed := true }
def FnExactChanceWithoutUptoSaid : Prop := fnExactChanceWithoutUptoRow.holds Try.pinned (OpenSpec.upto fnExactChanceWithoutSpec)

/-- 'laws.FnExactChanceOfDoubles', WHERE WHAT IT READS IS OF BULK AT MOST 1048576: true; the input reads as it did. -/
def fnExactChanceOfDoublesUptoRow : OpenClaim := { program := "ytldlakmjeaghiaa", sum := "d6d2fb0a51f7108f7da36fd57c73444d8b95d1071a8064d13c2ce5be60626bd3", func := "loop.example/g01216/laws.FnExactChanceOfDoubles", spec := "fnExactChanceOfDoubles", apart := false, narrowed := true }
def FnExactChanceOfDoublesUptoSaid : Prop := fnExactChanceOfDoublesUptoRow.holds Try.pinned (OpenSpec.upto fnExactChanceOfDoublesSpec)

/-- 'laws.FnExactChanceOfTimes', WHERE WHAT IT READS IS OF BULK AT MOST 1048576: true; the input reads as it did. -/
def fnExactChanceOfTimesUptoRow : OpenClaim := { program := "ytldlakmjeaghiaa", sum := "d6d2fb0a51f7108f7da36fd57c73444d8b95d1071a8064d13c2ce5be60626bd3", func := "loop.example/g01216/laws.FnExactChanceOfTimes", spec := "fnExactChanceOfTimes", apart := false, narrowed := true }
def FnExactChanceOfTimesUptoSaid : Prop := fnExactChanceOfTimesUptoRow.holds Try.pinned (OpenSpec.upto fnExactChanceOfTimesSpec)

/-- 'laws.FnExactChanceOfBoth', WHERE WHAT IT READS IS OF BULK AT MOST 1048576: true; the input reads as it did. -/
def fnExactChanceOfBothUptoRow : OpenClaim := { program := "ytldlakmjeaghiaa", sum := "d6d2fb0a51f7108f7da36fd57c73444d8b95d1071a8064d13c2ce5be60626bd3", func := "loop.example/g01216/laws.FnExactChanceOfBoth", spec := "fnExactChanceOfBoth", apart := false, narrowed := true }
def FnExactChanceOfBothUptoSaid : Prop := fnExactChanceOfBothUptoRow.holds Try.pinned (OpenSpec.upto fnExactChanceOfBothSpec)

/-- 'laws.FnExactCountWithPips', WHERE WHAT IT READS IS OF BULK AT MOST 1048576: true; the input reads as it did. -/
def fnExactCountWithPipsUptoRow : OpenClaim := { program := "ytldlakmjeaghiaa", sum := "d6d2fb0a51f7108f7da36fd57c73444d8b95d1071a8064d13c2ce5be60626bd3", func := "loop.example/g01216/laws.FnExactCountWithPips", spec := "fnExactCountWithPips", apart := false, narrowed := true }
def FnExactCountWithPipsUptoSaid : Prop := fnExactCountWithPipsUptoRow.holds Try.pinned (OpenSpec.upto fnExactCountWithPipsSpec)

/-- 'laws.FnExactChanceOfOpening', WHERE WHAT IT READS IS OF BULK AT MOST 1048576: true; the input reads as it did. -/
def fnExactChanceOfOpeningUptoRow : OpenClaim := { program := "ytldlakmjeaghiaa", sum := "d6d2fb0a51f7108f7da36fd57c73444d8b95d1071a8064d13c2ce5be60626bd3", func := "loop.example/g01216/laws.FnExactChanceOfOpening", spec := "fnExactChanceOfOpening", apart := false, narrowed := true }
def FnExactChanceOfOpeningUptoSaid : Prop := fnExactChanceOfOpeningUptoRow.holds Try.pinned (OpenSpec.upto fnExactChanceOfOpeningSpec)

/-- 'laws.FnExactFirstDesk', WHERE WHAT IT READS IS OF BULK AT MOST 1048576: true; the input reads as it did. -/
def fnExactFirstDeskUptoRow : OpenClaim := { program := "ytldlakmjeaghiaa", sum := "d6d2fb0a51f7108f7da36fd57c73444d8b95d1071a8064d13c2ce5be60626bd3", func := "loop.example/g01216/laws.FnExactFirstDesk", spec := "fnExactFirstDesk", apart := false, narrowed := true }
def FnExactFirstDeskUptoSaid : Prop := fnExactFirstDeskUptoRow.holds Try.pinned (OpenSpec.upto fnExactFirstDeskSpec)

/-- 'laws.FnExactLikeliestPips', WHERE WHAT IT READS IS OF BULK AT MOST 1048576: true; the input reads as it did. -/
def fnExactLikeliestPipsUptoRow : OpenClaim := { program := "ytldlakmjeaghiaa", sum := "d6d2fb0a51f7108f7da36fd57c73444d8b95d1071a8064d13c2ce5be60626bd3", func := "loop.example/g01216/laws.FnExactLikeliestPips", spec := "fnExactLikeliestPips", apart := false, narrowed := true }
def FnExactLikeliestPipsUptoSaid : Prop := fnExactLikeliestPipsUptoRow.holds Try.pinned (OpenSpec.upto fnExactLikeliestPipsSpec)

/-- 'laws.FnExactChanceOfPips', WHERE WHAT IT READS IS OF BULK AT MOST 1048576: true; the input reads as it did. -/
def fnExactChanceOfPipsUptoRow : OpenClaim := { program := "ytldlakmjeaghiaa", sum := "d6d2fb0a51f7108f7da36fd57c73444d8b95d1071a8064d13c2ce5be60626bd3", func := "loop.example/g01216/laws.FnExactChanceOfPips", spec := "fnExactChanceOfPips", apart := false, narrowed := true }
def FnExactChanceOfPipsUptoSaid : Prop := fnExactChanceOfPipsUptoRow.holds Try.pinned (OpenSpec.upto fnExactChanceOfPipsSpec)

/-- 'laws.FnExactIsDesk', WHERE WHAT IT READS IS OF BULK AT MOST 1048576: true; the input reads as it did. -/
def fnExactIsDeskUptoRow : OpenClaim := { program := "ytldlakmjeaghiaa", sum := "d6d2fb0a51f7108f7da36fd57c73444d8b95d1071a8064d13c2ce5be60626bd3", func := "loop.example/g01216/laws.FnExactIsDesk", spec := "fnExactIsDesk", unfollowed := true, recurses := true, apart := false, narrowed := true }
def FnExactIsDeskUptoSaid : Prop := fnExactIsDeskUptoRow.holds Try.pinned (OpenSpec.upto fnExactIsDeskSpec)

/-- 'laws.FnExactIsPuzzle', WHERE WHAT IT READS IS OF BULK AT MOST 1048576: true; the input reads as it did. -/
def fnExactIsPuzzleUptoRow : OpenClaim := { program := "ytldlakmjeaghiaa", sum := "d6d2fb0a51f7108f7da36fd57c73444d8b95d1071a8064d13c2ce5be60626bd3", func := "loop.example/g01216/laws.FnExactIsPuzzle", spec := "fnExactIsPuzzle", unfollowed := true, recurses := true, apart := false, narrowed := true }
def FnExactIsPuzzleUptoSaid : Prop := fnExactIsPuzzleUptoRow.holds Try.pinned (OpenSpec.upto fnExactIsPuzzleSpec)

/-- 'laws.FnExactCountGaps', WHERE WHAT IT READS IS OF BULK AT MOST 1048576: true; the input reads as it did. -/
def fnExactCountGapsUptoRow : OpenClaim := { program := "ytldlakmjeaghiaa", sum := "d6d2fb0a51f7108f7da36fd57c73444d8b95d1071a8064d13c2ce5be60626bd3", func := "loop.example/g01216/laws.FnExactCountGaps", spec := "fnExactCountGaps", unfollowed := true, recurses := true, apart := false, narrowed := true }
def FnExactCountGapsUptoSaid : Prop := fnExactCountGapsUptoRow.holds Try.pinned (OpenSpec.upto fnExactCountGapsSpec)

end Rows
end Go.Proofs.Ytldlakmjeaghiaa
