/-
  No cell of these rows narrows 'for every input' (looked for: loops, veiled, ifaces, maps, wideKeys, modest, calm, conditions, laid).
  DERIVED. THE GIVEN ROWS OF THIS SEAT. 12 by the template 'for every input the law returns true; each argument reads behind the call as it read before'; 0 by the template 'total and deterministic' (their statements: YtgcnlhebfnaaoaaTotals.lean).
  GIVEN WITH THE SEED: the statements are not yours to turn. If you find one false, say at which input.
  Laid BY PROGRAM, IN A SANDBOX (cutbox-rows.mjs): the forced cells as the released guide's own fill.sh prints them over the translation 8b4a8b1189e7d470… (all of the seat's roots in one cut). By AI agents, Wed Nov 11 2026. No macro, syntax, notation, axiom, sorry.
-/
import Derived.Test.YtgcnlhebfnaaoaaChecked
import GoSem.Claim
import GoSem.ClaimJoined
import GoSem.ClaimMapViews
import Derived.JoinedTies
import Derived.KernelRfl
namespace Go.Proofs.Ytgcnlhebfnaaoaa
/- THE CELL 'sum', in the pinned program and in every row, IS THE sha256 OF THE DUMP (.gsa) THAT YtgcnlhebfnaaoaaProg.lean LOADS. Nothing in Lean hashes anything: it is a label: what it is worth is what the hold of that sum in a sandbox is worth. -/
noncomputable def Try.pinned : Pinned := { name := "ytgcnlhebfnaaoaa", sum := "8b4a8b1189e7d470e3f05947689c07ba7dc8ef4d8af44e592812c4d894fed77a", checked := Try.checked }
namespace Rows
def none {H : Type} : Left H := { results := [], args := [] }

/-- 'laws.FnTilesRanked': WHATEVER THE INPUT: true; the input reads as it did. -/
def fnTilesRankedSpec : ChangeSpec := { name := "fnTilesRanked", fn := fun _ => fun
  | [d1, d2] => { results := [.lit (.bool true)], args := [d1, d2] }
  | _ => none }
def fnTilesRankedRow : OpenClaim := { program := "ytgcnlhebfnaaoaa", sum := "8b4a8b1189e7d470e3f05947689c07ba7dc8ef4d8af44e592812c4d894fed77a", func := "loop.example/g01216/laws.FnTilesRanked", spec := "fnTilesRanked", unfollowed := true, recurses := true, apart := false }
def FnTilesRankedSaid : Prop := fnTilesRankedRow.holds Try.pinned (OpenSpec.ofChange fnTilesRankedSpec)

/-- ITS FALSE NEIGHBOUR: 'it returns false'. Refute it at one input. -/
def fnTilesRankedWrong : ChangeSpec := { name := "fnTilesRanked", fn := fun _ => fun
  | [d1, d2] => { results := [.lit (.bool false)], args := [d1, d2] }
  | _ => none }
def FnTilesRankedWrongFalsely : Prop := fnTilesRankedRow.holds Try.pinned (OpenSpec.ofChange fnTilesRankedWrong)

/-- 'laws.FnExactChanceOfChain': WHATEVER THE INPUT: true; the input reads as it did. -/
def fnExactChanceOfChainSpec : ChangeSpec := { name := "fnExactChanceOfChain", fn := fun _ => fun
  | [d1, d2] => { results := [.lit (.bool true)], args := [d1, d2] }
  | _ => none }
def fnExactChanceOfChainRow : OpenClaim := { program := "ytgcnlhebfnaaoaa", sum := "8b4a8b1189e7d470e3f05947689c07ba7dc8ef4d8af44e592812c4d894fed77a", func := "loop.example/g01216/laws.FnExactChanceOfChain", spec := "fnExactChanceOfChain", unfollowed := true, recurses := true, apart := false }
def FnExactChanceOfChainSaid : Prop := fnExactChanceOfChainRow.holds Try.pinned (OpenSpec.ofChange fnExactChanceOfChainSpec)

/-- ITS FALSE NEIGHBOUR: 'it returns false'. Refute it at one input. -/
def fnExactChanceOfChainWrong : ChangeSpec := { name := "fnExactChanceOfChain", fn := fun _ => fun
  | [d1, d2] => { results := [.lit (.bool false)], args := [d1, d2] }
  | _ => none }
def FnExactChanceOfChainWrongFalsely : Prop := fnExactChanceOfChainRow.holds Try.pinned (OpenSpec.ofChange fnExactChanceOfChainWrong)

/-- 'laws.FnExactOpenGap': WHATEVER THE INPUT: true; the input reads as it did. -/
def fnExactOpenGapSpec : ChangeSpec := { name := "fnExactOpenGap", fn := fun _ => fun
  | [d1, d2] => { results := [.lit (.bool true)], args := [d1, d2] }
  | _ => none }
def fnExactOpenGapRow : OpenClaim := { program := "ytgcnlhebfnaaoaa", sum := "8b4a8b1189e7d470e3f05947689c07ba7dc8ef4d8af44e592812c4d894fed77a", func := "loop.example/g01216/laws.FnExactOpenGap", spec := "fnExactOpenGap", unfollowed := true, recurses := true, apart := false }
def FnExactOpenGapSaid : Prop := fnExactOpenGapRow.holds Try.pinned (OpenSpec.ofChange fnExactOpenGapSpec)

/-- ITS FALSE NEIGHBOUR: 'it returns false'. Refute it at one input. -/
def fnExactOpenGapWrong : ChangeSpec := { name := "fnExactOpenGap", fn := fun _ => fun
  | [d1, d2] => { results := [.lit (.bool false)], args := [d1, d2] }
  | _ => none }
def FnExactOpenGapWrongFalsely : Prop := fnExactOpenGapRow.holds Try.pinned (OpenSpec.ofChange fnExactOpenGapWrong)

/-- 'laws.FnChancesOfHands': WHATEVER THE INPUT: true; the input reads as it did. -/
def fnChancesOfHandsSpec : ChangeSpec := { name := "fnChancesOfHands", fn := fun _ => fun
  | [d1, d2] => { results := [.lit (.bool true)], args := [d1, d2] }
  | _ => none }
def fnChancesOfHandsRow : OpenClaim := { program := "ytgcnlhebfnaaoaa", sum := "8b4a8b1189e7d470e3f05947689c07ba7dc8ef4d8af44e592812c4d894fed77a", func := "loop.example/g01216/laws.FnChancesOfHands", spec := "fnChancesOfHands", apart := false }
def FnChancesOfHandsSaid : Prop := fnChancesOfHandsRow.holds Try.pinned (OpenSpec.ofChange fnChancesOfHandsSpec)

/-- ITS FALSE NEIGHBOUR: 'it returns false'. Refute it at one input. -/
def fnChancesOfHandsWrong : ChangeSpec := { name := "fnChancesOfHands", fn := fun _ => fun
  | [d1, d2] => { results := [.lit (.bool false)], args := [d1, d2] }
  | _ => none }
def FnChancesOfHandsWrongFalsely : Prop := fnChancesOfHandsRow.holds Try.pinned (OpenSpec.ofChange fnChancesOfHandsWrong)

/-- 'laws.FnExactFillGap': WHATEVER THE INPUT: true; the input reads as it did. -/
def fnExactFillGapSpec : ChangeSpec := { name := "fnExactFillGap", fn := fun _ => fun
  | [d1, d2, d3] => { results := [.lit (.bool true)], args := [d1, d2, d3] }
  | _ => none }
def fnExactFillGapRow : OpenClaim := { program := "ytgcnlhebfnaaoaa", sum := "8b4a8b1189e7d470e3f05947689c07ba7dc8ef4d8af44e592812c4d894fed77a", func := "loop.example/g01216/laws.FnExactFillGap", spec := "fnExactFillGap", unfollowed := true, recurses := true, apart := false }
def FnExactFillGapSaid : Prop := fnExactFillGapRow.holds Try.pinned (OpenSpec.ofChange fnExactFillGapSpec)

/-- ITS FALSE NEIGHBOUR: 'it returns false'. Refute it at one input. -/
def fnExactFillGapWrong : ChangeSpec := { name := "fnExactFillGap", fn := fun _ => fun
  | [d1, d2, d3] => { results := [.lit (.bool false)], args := [d1, d2, d3] }
  | _ => none }
def FnExactFillGapWrongFalsely : Prop := fnExactFillGapRow.holds Try.pinned (OpenSpec.ofChange fnExactFillGapWrong)

/-- 'laws.FnExactTurnPuzzle': WHATEVER THE INPUT: true; the input reads as it did. -/
def fnExactTurnPuzzleSpec : ChangeSpec := { name := "fnExactTurnPuzzle", fn := fun _ => fun
  | [d] => { results := [.lit (.bool true)], args := [d] }
  | _ => none }
def fnExactTurnPuzzleRow : OpenClaim := { program := "ytgcnlhebfnaaoaa", sum := "8b4a8b1189e7d470e3f05947689c07ba7dc8ef4d8af44e592812c4d894fed77a", func := "loop.example/g01216/laws.FnExactTurnPuzzle", spec := "fnExactTurnPuzzle", unfollowed := true, recurses := true, apart := false }
def FnExactTurnPuzzleSaid : Prop := fnExactTurnPuzzleRow.holds Try.pinned (OpenSpec.ofChange fnExactTurnPuzzleSpec)

/-- ITS FALSE NEIGHBOUR: 'it returns false'. Refute it at one input. -/
def fnExactTurnPuzzleWrong : ChangeSpec := { name := "fnExactTurnPuzzle", fn := fun _ => fun
  | [d] => { results := [.lit (.bool false)], args := [d] }
  | _ => none }
def FnExactTurnPuzzleWrongFalsely : Prop := fnExactTurnPuzzleRow.holds Try.pinned (OpenSpec.ofChange fnExactTurnPuzzleWrong)

/-- 'laws.FnExactPuzzleText': WHATEVER THE INPUT: true; the input reads as it did. -/
def fnExactPuzzleTextSpec : ChangeSpec := { name := "fnExactPuzzleText", fn := fun _ => fun
  | [d] => { results := [.lit (.bool true)], args := [d] }
  | _ => none }
def fnExactPuzzleTextRow : OpenClaim := { program := "ytgcnlhebfnaaoaa", sum := "8b4a8b1189e7d470e3f05947689c07ba7dc8ef4d8af44e592812c4d894fed77a", func := "loop.example/g01216/laws.FnExactPuzzleText", spec := "fnExactPuzzleText", inPlace := ["internal/abi.NoEscape", "internal/bytealg.MakeNoZero"], unfollowed := true, recurses := true, apart := false }
def FnExactPuzzleTextSaid : Prop := fnExactPuzzleTextRow.holds Try.pinned (OpenSpec.ofChange fnExactPuzzleTextSpec)

/-- ITS FALSE NEIGHBOUR: 'it returns false'. Refute it at one input. -/
def fnExactPuzzleTextWrong : ChangeSpec := { name := "fnExactPuzzleText", fn := fun _ => fun
  | [d] => { results := [.lit (.bool false)], args := [d] }
  | _ => none }
def FnExactPuzzleTextWrongFalsely : Prop := fnExactPuzzleTextRow.holds Try.pinned (OpenSpec.ofChange fnExactPuzzleTextWrong)

/-- 'laws.FnExactCountSolutions': WHATEVER THE INPUT: true; the input reads as it did. -/
def fnExactCountSolutionsSpec : ChangeSpec := { name := "fnExactCountSolutions", fn := fun _ => fun
  | [d] => { results := [.lit (.bool true)], args := [d] }
  | _ => none }
def fnExactCountSolutionsRow : OpenClaim := { program := "ytgcnlhebfnaaoaa", sum := "8b4a8b1189e7d470e3f05947689c07ba7dc8ef4d8af44e592812c4d894fed77a", func := "loop.example/g01216/laws.FnExactCountSolutions", spec := "fnExactCountSolutions", unfollowed := true, recurses := true, apart := false }
def FnExactCountSolutionsSaid : Prop := fnExactCountSolutionsRow.holds Try.pinned (OpenSpec.ofChange fnExactCountSolutionsSpec)

/-- ITS FALSE NEIGHBOUR: 'it returns false'. Refute it at one input. -/
def fnExactCountSolutionsWrong : ChangeSpec := { name := "fnExactCountSolutions", fn := fun _ => fun
  | [d] => { results := [.lit (.bool false)], args := [d] }
  | _ => none }
def FnExactCountSolutionsWrongFalsely : Prop := fnExactCountSolutionsRow.holds Try.pinned (OpenSpec.ofChange fnExactCountSolutionsWrong)

/-- 'laws.FnExactFirstSolution': WHATEVER THE INPUT: true; the input reads as it did. -/
def fnExactFirstSolutionSpec : ChangeSpec := { name := "fnExactFirstSolution", fn := fun _ => fun
  | [d] => { results := [.lit (.bool true)], args := [d] }
  | _ => none }
def fnExactFirstSolutionRow : OpenClaim := { program := "ytgcnlhebfnaaoaa", sum := "8b4a8b1189e7d470e3f05947689c07ba7dc8ef4d8af44e592812c4d894fed77a", func := "loop.example/g01216/laws.FnExactFirstSolution", spec := "fnExactFirstSolution", unfollowed := true, recurses := true, apart := false }
def FnExactFirstSolutionSaid : Prop := fnExactFirstSolutionRow.holds Try.pinned (OpenSpec.ofChange fnExactFirstSolutionSpec)

/-- ITS FALSE NEIGHBOUR: 'it returns false'. Refute it at one input. -/
def fnExactFirstSolutionWrong : ChangeSpec := { name := "fnExactFirstSolution", fn := fun _ => fun
  | [d] => { results := [.lit (.bool false)], args := [d] }
  | _ => none }
def FnExactFirstSolutionWrongFalsely : Prop := fnExactFirstSolutionRow.holds Try.pinned (OpenSpec.ofChange fnExactFirstSolutionWrong)

/-- 'laws.FnExactHintOf': WHATEVER THE INPUT: true; the input reads as it did. -/
def fnExactHintOfSpec : ChangeSpec := { name := "fnExactHintOf", fn := fun _ => fun
  | [d] => { results := [.lit (.bool true)], args := [d] }
  | _ => none }
def fnExactHintOfRow : OpenClaim := { program := "ytgcnlhebfnaaoaa", sum := "8b4a8b1189e7d470e3f05947689c07ba7dc8ef4d8af44e592812c4d894fed77a", func := "loop.example/g01216/laws.FnExactHintOf", spec := "fnExactHintOf", unfollowed := true, recurses := true, apart := false }
def FnExactHintOfSaid : Prop := fnExactHintOfRow.holds Try.pinned (OpenSpec.ofChange fnExactHintOfSpec)

/-- ITS FALSE NEIGHBOUR: 'it returns false'. Refute it at one input. -/
def fnExactHintOfWrong : ChangeSpec := { name := "fnExactHintOf", fn := fun _ => fun
  | [d] => { results := [.lit (.bool false)], args := [d] }
  | _ => none }
def FnExactHintOfWrongFalsely : Prop := fnExactHintOfRow.holds Try.pinned (OpenSpec.ofChange fnExactHintOfWrong)

/-- 'laws.FnExactSureNumbers': WHATEVER THE INPUT: true; the input reads as it did. -/
def fnExactSureNumbersSpec : ChangeSpec := { name := "fnExactSureNumbers", fn := fun _ => fun
  | [d] => { results := [.lit (.bool true)], args := [d] }
  | _ => none }
def fnExactSureNumbersRow : OpenClaim := { program := "ytgcnlhebfnaaoaa", sum := "8b4a8b1189e7d470e3f05947689c07ba7dc8ef4d8af44e592812c4d894fed77a", func := "loop.example/g01216/laws.FnExactSureNumbers", spec := "fnExactSureNumbers", unfollowed := true, recurses := true, apart := false }
def FnExactSureNumbersSaid : Prop := fnExactSureNumbersRow.holds Try.pinned (OpenSpec.ofChange fnExactSureNumbersSpec)

/-- ITS FALSE NEIGHBOUR: 'it returns false'. Refute it at one input. -/
def fnExactSureNumbersWrong : ChangeSpec := { name := "fnExactSureNumbers", fn := fun _ => fun
  | [d] => { results := [.lit (.bool false)], args := [d] }
  | _ => none }
def FnExactSureNumbersWrongFalsely : Prop := fnExactSureNumbersRow.holds Try.pinned (OpenSpec.ofChange fnExactSureNumbersWrong)

/-- 'laws.FnExactSolutions': WHATEVER THE INPUT: true; the input reads as it did. -/
def fnExactSolutionsSpec : ChangeSpec := { name := "fnExactSolutions", fn := fun _ => fun
  | [d] => { results := [.lit (.bool true)], args := [d] }
  | _ => none }
def fnExactSolutionsRow : OpenClaim := { program := "ytgcnlhebfnaaoaa", sum := "8b4a8b1189e7d470e3f05947689c07ba7dc8ef4d8af44e592812c4d894fed77a", func := "loop.example/g01216/laws.FnExactSolutions", spec := "fnExactSolutions", unfollowed := true, recurses := true, apart := false }
def FnExactSolutionsSaid : Prop := fnExactSolutionsRow.holds Try.pinned (OpenSpec.ofChange fnExactSolutionsSpec)

/-- ITS FALSE NEIGHBOUR: 'it returns false'. Refute it at one input. -/
def fnExactSolutionsWrong : ChangeSpec := { name := "fnExactSolutions", fn := fun _ => fun
  | [d] => { results := [.lit (.bool false)], args := [d] }
  | _ => none }
def FnExactSolutionsWrongFalsely : Prop := fnExactSolutionsRow.holds Try.pinned (OpenSpec.ofChange fnExactSolutionsWrong)

/- THE SECOND FORM. 'bulk': how many values and letters a reading holds, each counted each time it is reached (what is shared counts as often as it is met; a slice's spare places count too). A statement '..UptoSaid' is the law's where the arguments, and the package variables that the reading takes, are together of bulk at most 1048576: NARROWER than '..Said'. Prove '..Said' where nothing that the law and all that it calls make is longer than what came in: it says more and counts as full. Else prove '..UptoSaid'. A law counts once. -/
mutual
def uptoBulk {H : Type} : DataW H → Nat
  | .lit (.string bytes) => bytes.length + 1
  | .lit _ => 1
  | .nil => 1
  | .ptr d => uptoBulk d + 1
  | .slice elems spare => uptoBulkAll elems + uptoBulkAll spare + 1
  | .agg parts => uptoBulkAll parts + 1
  | .iface _ d => uptoBulk d + 1
  | .map entries => uptoBulkEntries entries + 1
  | .held _ => 1
def uptoBulkAll {H : Type} : List (DataW H) → Nat
  | [] => 0
  | d :: r => uptoBulk d + uptoBulkAll r
def uptoBulkEntries {H : Type} : List (Lit × DataW H) → Nat
  | [] => 0
  | x :: r => uptoBulkEntry x + uptoBulkEntries r
def uptoBulkEntry {H : Type} : Lit × DataW H → Nat
  | (.string bytes, d) => bytes.length + uptoBulk d + 1
  | (_, d) => uptoBulk d + 1
 end
def uptoSmall : (H : Type) → List (DataW H) → Bool := fun _ ds => decide (uptoBulkAll ds ≤ 1048576)
def OpenSpec.upto (s : _root_.Go.ChangeSpec) : _root_.Go.OpenSpec := { _root_.Go.OpenSpec.ofChange s with cond := some uptoSmall }

/-- 'laws.FnTilesRanked', WHERE WHAT IT READS IS OF BULK AT MOST 1048576: true; the input reads as it did. -/
def fnTilesRankedUptoRow : OpenClaim := { program := "ytgcnlhebfnaaoaa", sum := "8b4a8b1189e7d470e3f05947689c07ba7dc8ef4d8af44e592812c4d894fed77a", func := "loop.example/g01216/laws.FnTilesRanked", spec := "fnTilesRanked", unfollowed := true, recurses := true, apart := false, narrowed := true }
def FnTilesRankedUptoSaid : Prop := fnTilesRankedUptoRow.holds Try.pinned (OpenSpec.upto fnTilesRankedSpec)

/-- 'laws.FnExactChanceOfChain', WHERE WHAT IT READS IS OF BULK AT MOST 1048576: true; the input reads as it did. -/
def fnExactChanceOfChainUptoRow : OpenClaim := { program := "ytgcnlhebfnaaoaa", sum := "8b4a8b1189e7d470e3f05947689c07ba7dc8ef4d8af44e592812c4d894fed77a", func := "loop.example/g01216/laws.FnExactChanceOfChain", spec := "fnExactChanceOfChain", unfollowed := true, recurses := true, apart := false, narrowed := true }
def FnExactChanceOfChainUptoSaid : Prop := fnExactChanceOfChainUptoRow.holds Try.pinned (OpenSpec.upto fnExactChanceOfChainSpec)

/-- 'laws.FnExactOpenGap', WHERE WHAT IT READS IS OF BULK AT MOST 1048576: true; the input reads as it did. -/
def fnExactOpenGapUptoRow : OpenClaim := { program := "ytgcnlhebfnaaoaa", sum := "8b4a8b1189e7d470e3f05947689c07ba7dc8ef4d8af44e592812c4d894fed77a", func := "loop.example/g01216/laws.FnExactOpenGap", spec := "fnExactOpenGap", unfollowed := true, recurses := true, apart := false, narrowed := true }
def FnExactOpenGapUptoSaid : Prop := fnExactOpenGapUptoRow.holds Try.pinned (OpenSpec.upto fnExactOpenGapSpec)

/-- 'laws.FnChancesOfHands', WHERE WHAT IT READS IS OF BULK AT MOST 1048576: true; the input reads as it did. -/
def fnChancesOfHandsUptoRow : OpenClaim := { program := "ytgcnlhebfnaaoaa", sum := "8b4a8b1189e7d470e3f05947689c07ba7dc8ef4d8af44e592812c4d894fed77a", func := "loop.example/g01216/laws.FnChancesOfHands", spec := "fnChancesOfHands", apart := false, narrowed := true }
def FnChancesOfHandsUptoSaid : Prop := fnChancesOfHandsUptoRow.holds Try.pinned (OpenSpec.upto fnChancesOfHandsSpec)

/-- 'laws.FnExactFillGap', WHERE WHAT IT READS IS OF BULK AT MOST 1048576: true; the input reads as it did. -/
def fnExactFillGapUptoRow : OpenClaim := { program := "ytgcnlhebfnaaoaa", sum := "8b4a8b1189e7d470e3f05947689c07ba7dc8ef4d8af44e592812c4d894fed77a", func := "loop.example/g01216/laws.FnExactFillGap", spec := "fnExactFillGap", unfollowed := true, recurses := true, apart := false, narrowed := true }
def FnExactFillGapUptoSaid : Prop := fnExactFillGapUptoRow.holds Try.pinned (OpenSpec.upto fnExactFillGapSpec)

/-- 'laws.FnExactTurnPuzzle', WHERE WHAT IT READS IS OF BULK AT MOST 1048576: true; the input reads as it did. -/
def fnExactTurnPuzzleUptoRow : OpenClaim := { program := "ytgcnlhebfnaaoaa", sum := "8b4a8b1189e7d470e3f05947689c07ba7dc8ef4d8af44e592812c4d894fed77a", func := "loop.example/g01216/laws.FnExactTurnPuzzle", spec := "fnExactTurnPuzzle", unfollowed := true, recurses := true, apart := false, narrowed := true }
def FnExactTurnPuzzleUptoSaid : Prop := fnExactTurnPuzzleUptoRow.holds Try.pinned (OpenSpec.upto fnExactTurnPuzzleSpec)

/-- 'laws.FnExactPuzzleText', WHERE WHAT IT READS IS OF BULK AT MOST 1048576: true; the input reads as it did. -/
def fnExactPuzzleTextUptoRow : OpenClaim := { program := "ytgcnlhebfnaaoaa", sum := "8b4a8b1189e7d470e3f05947689c07ba7dc8ef4d8af44e592812c4d894fed77a", func := "loop.example/g01216/laws.FnExactPuzzleText", spec := "fnExactPuzzleText", inPlace := ["internal/abi.NoEscape", "internal/bytealg.MakeNoZero"], unfollowed := true, recurses := true, apart := false, narrowed := true }
def FnExactPuzzleTextUptoSaid : Prop := fnExactPuzzleTextUptoRow.holds Try.pinned (OpenSpec.upto fnExactPuzzleTextSpec)

/-- 'laws.FnExactCountSolutions', WHERE WHAT IT READS IS OF BULK AT MOST 1048576: true; the input reads as it did. -/
def fnExactCountSolutionsUptoRow : OpenClaim := { program := "ytgcnlhebfnaaoaa", sum := "8b4a8b1189e7d470e3f05947689c07ba7dc8ef4d8af44e592812c4d894fed77a", func := "loop.example/g01216/laws.FnExactCountSolutions", spec := "fnExactCountSolutions", unfollowed := true, recurses := true, apart := false, narrowed := true }
def FnExactCountSolutionsUptoSaid : Prop := fnExactCountSolutionsUptoRow.holds Try.pinned (OpenSpec.upto fnExactCountSolutionsSpec)

/-- 'laws.FnExactFirstSolution', WHERE WHAT IT READS IS OF BULK AT MOST 1048576: true; the input reads as it did. -/
def fnExactFirstSolutionUptoRow : OpenClaim := { program := "ytgcnlhebfnaaoaa", sum := "8b4a8b1189e7d470e3f05947689c07ba7dc8ef4d8af44e592812c4d894fed77a", func := "loop.example/g01216/laws.FnExactFirstSolution", spec := "fnExactFirstSolution", unfollowed := true, recurses := true, apart := false, narrowed := true }
def FnExactFirstSolutionUptoSaid : Prop := fnExactFirstSolutionUptoRow.holds Try.pinned (OpenSpec.upto fnExactFirstSolutionSpec)

/-- 'laws.FnExactHintOf', WHERE WHAT IT READS IS OF BULK AT MOST 1048576: true; the input reads as it did. -/
def fnExactHintOfUptoRow : OpenClaim := { program := "ytgcnlhebfnaaoaa", sum := "8b4a8b1189e7d470e3f05947689c07ba7dc8ef4d8af44e592812c4d894fed77a", func := "loop.example/g01216/laws.FnExactHintOf", spec := "fnExactHintOf", unfollowed := true, recurses := true, apart := false, narrowed := true }
def FnExactHintOfUptoSaid : Prop := fnExactHintOfUptoRow.holds Try.pinned (OpenSpec.upto fnExactHintOfSpec)

/-- 'laws.FnExactSureNumbers', WHERE WHAT IT READS IS OF BULK AT MOST 1048576: true; the input reads as it did. -/
def fnExactSureNumbersUptoRow : OpenClaim := { program := "ytgcnlhebfnaaoaa", sum := "8b4a8b1189e7d470e3f05947689c07ba7dc8ef4d8af44e592812c4d894fed77a", func := "loop.example/g01216/laws.FnExactSureNumbers", spec := "fnExactSureNumbers", unfollowed := true, recurses := true, apart := false, narrowed := true }
def FnExactSureNumbersUptoSaid : Prop := fnExactSureNumbersUptoRow.holds Try.pinned (OpenSpec.upto fnExactSureNumbersSpec)

/-- 'laws.FnExactSolutions', WHERE WHAT IT READS IS OF BULK AT MOST 1048576: true; the input reads as it did. -/
def fnExactSolutionsUptoRow : OpenClaim := { program := "ytgcnlhebfnaaoaa", sum := "8b4a8b1189e7d470e3f05947689c07ba7dc8ef4d8af44e592812c4d894fed77a", func := "loop.example/g01216/laws.FnExactSolutions", spec := "fnExactSolutions", unfollowed := true, recurses := true, apart := false, narrowed := true }
def FnExactSolutionsUptoSaid : Prop := fnExactSolutionsUptoRow.holds Try.pinned (OpenSpec.upto fnExactSolutionsSpec)

end Rows
end Go.Proofs.Ytgcnlhebfnaaoaa
