/-
  No cell of these rows narrows 'for every input' (looked for: loops, veiled, ifaces, maps, wideKeys, modest, calm, conditions, laid).
  DERIVED. THE GIVEN ROWS OF THIS SEAT. 6 by the template 'for every input the law returns true; each argument reads behind the call as it read before'; 0 by the template 'total and deterministic' (their statements: YtohpdkjfbidkpaaTotals.lean).
  GIVEN WITH THE SEED: the statements are not yours to turn. If you find one false, say at which input.
  Laid BY PROGRAM, IN A SANDBOX (cutbox-rows.mjs): the forced cells as the released guide's own fill.sh prints them over the translation 72c5dd1e2a32f8f5… (all of the seat's roots in one cut). By AI agents, Wed Nov 11 2026. No macro, syntax, notation, axiom, sorry.
-/
import Derived.Test.YtohpdkjfbidkpaaChecked
import GoSem.Claim
import GoSem.ClaimJoined
import GoSem.ClaimMapViews
import Derived.JoinedTies
import Derived.KernelRfl
namespace Go.Proofs.Ytohpdkjfbidkpaa
/- THE CELL 'sum', in the pinned program and in every row, IS THE sha256 OF THE DUMP (.gsa) THAT YtohpdkjfbidkpaaProg.lean LOADS. Nothing in Lean hashes anything: it is a label: what it is worth is what the hold of that sum in a sandbox is worth. -/
noncomputable def Try.pinned : Pinned := { name := "ytohpdkjfbidkpaa", sum := "72c5dd1e2a32f8f574fecb97d5ccf54b684dfccc7c8fec39dfa1da03044d545e", checked := Try.checked }
namespace Rows
def none {H : Type} : Left H := { results := [], args := [] }

/-- 'laws.FnExactPipsMean': WHATEVER THE INPUT: true; the input reads as it did. -/
def fnExactPipsMeanSpec : ChangeSpec := { name := "fnExactPipsMean", fn := fun _ => fun
  | [d1, d2] => { results := [.lit (.bool true)], args := [d1, d2] }
  | _ => none }
def fnExactPipsMeanRow : OpenClaim := { program := "ytohpdkjfbidkpaa", sum := "72c5dd1e2a32f8f574fecb97d5ccf54b684dfccc7c8fec39dfa1da03044d545e", func := "loop.example/g01216/laws.FnExactPipsMean", spec := "fnExactPipsMean", apart := false }
def FnExactPipsMeanSaid : Prop := fnExactPipsMeanRow.holds Try.pinned (OpenSpec.ofChange fnExactPipsMeanSpec)

/-- ITS FALSE NEIGHBOUR: 'it returns false'. Refute it at one input. -/
def fnExactPipsMeanWrong : ChangeSpec := { name := "fnExactPipsMean", fn := fun _ => fun
  | [d1, d2] => { results := [.lit (.bool false)], args := [d1, d2] }
  | _ => none }
def FnExactPipsMeanWrongFalsely : Prop := fnExactPipsMeanRow.holds Try.pinned (OpenSpec.ofChange fnExactPipsMeanWrong)

/-- 'laws.FnExactCountHands': WHATEVER THE INPUT: true; the input reads as it did. -/
def fnExactCountHandsSpec : ChangeSpec := { name := "fnExactCountHands", fn := fun _ => fun
  | [d1, d2] => { results := [.lit (.bool true)], args := [d1, d2] }
  | _ => none }
def fnExactCountHandsRow : OpenClaim := { program := "ytohpdkjfbidkpaa", sum := "72c5dd1e2a32f8f574fecb97d5ccf54b684dfccc7c8fec39dfa1da03044d545e", func := "loop.example/g01216/laws.FnExactCountHands", spec := "fnExactCountHands", apart := false }
def FnExactCountHandsSaid : Prop := fnExactCountHandsRow.holds Try.pinned (OpenSpec.ofChange fnExactCountHandsSpec)

/-- ITS FALSE NEIGHBOUR: 'it returns false'. Refute it at one input. -/
def fnExactCountHandsWrong : ChangeSpec := { name := "fnExactCountHands", fn := fun _ => fun
  | [d1, d2] => { results := [.lit (.bool false)], args := [d1, d2] }
  | _ => none }
def FnExactCountHandsWrongFalsely : Prop := fnExactCountHandsRow.holds Try.pinned (OpenSpec.ofChange fnExactCountHandsWrong)

/-- 'laws.FnExactDoublesMean': WHATEVER THE INPUT: true; the input reads as it did. -/
def fnExactDoublesMeanSpec : ChangeSpec := { name := "fnExactDoublesMean", fn := fun _ => fun
  | [d1, d2] => { results := [.lit (.bool true)], args := [d1, d2] }
  | _ => none }
def fnExactDoublesMeanRow : OpenClaim := { program := "ytohpdkjfbidkpaa", sum := "72c5dd1e2a32f8f574fecb97d5ccf54b684dfccc7c8fec39dfa1da03044d545e", func := "loop.example/g01216/laws.FnExactDoublesMean", spec := "fnExactDoublesMean", apart := false }
def FnExactDoublesMeanSaid : Prop := fnExactDoublesMeanRow.holds Try.pinned (OpenSpec.ofChange fnExactDoublesMeanSpec)

/-- ITS FALSE NEIGHBOUR: 'it returns false'. Refute it at one input. -/
def fnExactDoublesMeanWrong : ChangeSpec := { name := "fnExactDoublesMean", fn := fun _ => fun
  | [d1, d2] => { results := [.lit (.bool false)], args := [d1, d2] }
  | _ => none }
def FnExactDoublesMeanWrongFalsely : Prop := fnExactDoublesMeanRow.holds Try.pinned (OpenSpec.ofChange fnExactDoublesMeanWrong)

/-- 'laws.FnExactCompareRatios': WHATEVER THE INPUT: true; the input reads as it did. -/
def fnExactCompareRatiosSpec : ChangeSpec := { name := "fnExactCompareRatios", fn := fun _ => fun
  | [d1, d2] => { results := [.lit (.bool true)], args := [d1, d2] }
  | _ => none }
def fnExactCompareRatiosRow : OpenClaim := { program := "ytohpdkjfbidkpaa", sum := "72c5dd1e2a32f8f574fecb97d5ccf54b684dfccc7c8fec39dfa1da03044d545e", func := "loop.example/g01216/laws.FnExactCompareRatios", spec := "fnExactCompareRatios", apart := false }
def FnExactCompareRatiosSaid : Prop := fnExactCompareRatiosRow.holds Try.pinned (OpenSpec.ofChange fnExactCompareRatiosSpec)

/-- ITS FALSE NEIGHBOUR: 'it returns false'. Refute it at one input. -/
def fnExactCompareRatiosWrong : ChangeSpec := { name := "fnExactCompareRatios", fn := fun _ => fun
  | [d1, d2] => { results := [.lit (.bool false)], args := [d1, d2] }
  | _ => none }
def FnExactCompareRatiosWrongFalsely : Prop := fnExactCompareRatiosRow.holds Try.pinned (OpenSpec.ofChange fnExactCompareRatiosWrong)

/-- 'laws.FnExactChanceOfTile': WHATEVER THE INPUT: true; the input reads as it did. -/
def fnExactChanceOfTileSpec : ChangeSpec := { name := "fnExactChanceOfTile", fn := fun _ => fun
  | [d1, d2] => { results := [.lit (.bool true)], args := [d1, d2] }
  | _ => none }
def fnExactChanceOfTileRow : OpenClaim := { program := "ytohpdkjfbidkpaa", sum := "72c5dd1e2a32f8f574fecb97d5ccf54b684dfccc7c8fec39dfa1da03044d545e", func := "loop.example/g01216/laws.FnExactChanceOfTile", spec := "fnExactChanceOfTile", apart := false }
def FnExactChanceOfTileSaid : Prop := fnExactChanceOfTileRow.holds Try.pinned (OpenSpec.ofChange fnExactChanceOfTileSpec)

/-- ITS FALSE NEIGHBOUR: 'it returns false'. Refute it at one input. -/
def fnExactChanceOfTileWrong : ChangeSpec := { name := "fnExactChanceOfTile", fn := fun _ => fun
  | [d1, d2] => { results := [.lit (.bool false)], args := [d1, d2] }
  | _ => none }
def FnExactChanceOfTileWrongFalsely : Prop := fnExactChanceOfTileRow.holds Try.pinned (OpenSpec.ofChange fnExactChanceOfTileWrong)

/-- 'laws.FnExactChanceOfTiles': WHATEVER THE INPUT: true; the input reads as it did. -/
def fnExactChanceOfTilesSpec : ChangeSpec := { name := "fnExactChanceOfTiles", fn := fun _ => fun
  | [d1, d2, d3] => { results := [.lit (.bool true)], args := [d1, d2, d3] }
  | _ => none }
def fnExactChanceOfTilesRow : OpenClaim := { program := "ytohpdkjfbidkpaa", sum := "72c5dd1e2a32f8f574fecb97d5ccf54b684dfccc7c8fec39dfa1da03044d545e", func := "loop.example/g01216/laws.FnExactChanceOfTiles", spec := "fnExactChanceOfTiles", apart := false }
def FnExactChanceOfTilesSaid : Prop := fnExactChanceOfTilesRow.holds Try.pinned (OpenSpec.ofChange fnExactChanceOfTilesSpec)

/-- ITS FALSE NEIGHBOUR: 'it returns false'. Refute it at one input. -/
def fnExactChanceOfTilesWrong : ChangeSpec := { name := "fnExactChanceOfTiles", fn := fun _ => fun
  | [d1, d2, d3] => { results := [.lit (.bool false)], args := [d1, d2, d3] }
  | _ => none }
def FnExactChanceOfTilesWrongFalsely : Prop := fnExactChanceOfTilesRow.holds Try.pinned (OpenSpec.ofChange fnExactChanceOfTilesWrong)

/- THE SECOND FORM. 'bulk': how many values and letters a reading holds, each counted each time it is reached (what is shared counts as often as it is met; a slice's spare places count too). A statement '..UptoSaid' is the law's where the arguments, and the package variables that the reading takes, are together of bulk at most 1048576: NARROWER than '..Said'. Prove '..Said' where nothing that the law and all that it calls make is longer than what came in: it says more and counts as full. Else prove '..UptoSaid'. A law counts once. -/
mutual
def uptoBulk {H : Type} : DataW H → Nat
  | .lit (.string bytes) => bytes.length + 1
  | .lit _ => 1
  | .nil => 1
  | .ptr d => uptoBulk d + 1
  | .slice elems spare => uptoBulkAll elems + uptoBulkAll spare + 1
  | .agg parts => uptoBulkAll parts + 1
  | .iface _ d => uptoBulk d + 1
  | .map entries => uptoBulkEntries entries + 1
  | .held _ => 1
def uptoBulkAll {H : Type} : List (DataW H) → Nat
  | [] => 0
  | d :: r => uptoBulk d + uptoBulkAll r
def uptoBulkEntries {H : Type} : List (Lit × DataW H) → Nat
  | [] => 0
  | x :: r => uptoBulkEntry x + uptoBulkEntries r
def uptoBulkEntry {H : Type} : Lit × DataW H → Nat
  | (.string bytes, d) => bytes.length + uptoBulk d + 1
  | (_, d) => uptoBulk d + 1
 end
def uptoSmall : (H : Type) → List (DataW H) → Bool := fun _ ds => decide (uptoBulkAll ds ≤ 1048576)
def OpenSpec.upto (s : _root_.Go.ChangeSpec) : _root_.Go.OpenSpec := { _root_.Go.OpenSpec.ofChange s with cond := some uptoSmall }

/-- 'laws.FnExactPipsMean', WHERE WHAT IT READS IS OF BULK AT MOST 1048576: true; the input reads as it did. -/
def fnExactPipsMeanUptoRow : OpenClaim := { program := "ytohpdkjfbidkpaa", sum := "72c5dd1e2a32f8f574fecb97d5ccf54b684dfccc7c8fec39dfa1da03044d545e", func := "loop.example/g01216/laws.FnExactPipsMean", spec := "fnExactPipsMean", apart := false, narrowed := true }
def FnExactPipsMeanUptoSaid : Prop := fnExactPipsMeanUptoRow.holds Try.pinned (OpenSpec.upto fnExactPipsMeanSpec)

/-- 'laws.FnExactCountHands', WHERE WHAT IT READS IS OF BULK AT MOST 1048576: true; the input reads as it did. -/
def fnExactCountHandsUptoRow : OpenClaim := { program := "ytohpdkjfbidkpaa", sum := "72c5dd1e2a32f8f574fecb97d5ccf54b684dfccc7c8fec39dfa1da03044d545e", func := "loop.example/g01216/laws.FnExactCountHands", spec := "fnExactCountHands", apart := false, narrowed := true }
def FnExactCountHandsUptoSaid : Prop := fnExactCountHandsUptoRow.holds Try.pinned (OpenSpec.upto fnExactCountHandsSpec)

/-- 'laws.FnExactDoublesMean', WHERE WHAT IT READS IS OF BULK AT MOST 1048576: true; the input reads as it did. -/
def fnExactDoublesMeanUptoRow : OpenClaim := { program := "ytohpdkjfbidkpaa", sum := "72c5dd1e2a32f8f574fecb97d5ccf54b684dfccc7c8fec39dfa1da03044d545e", func := "loop.example/g01216/laws.FnExactDoublesMean", spec := "fnExactDoublesMean", apart := false, narrowed := true }
def FnExactDoublesMeanUptoSaid : Prop := fnExactDoublesMeanUptoRow.holds Try.pinned (OpenSpec.upto fnExactDoublesMeanSpec)

/-- 'laws.FnExactCompareRatios', WHERE WHAT IT READS IS OF BULK AT MOST 1048576: true; the input reads as it did. -/
def fnExactCompareRatiosUptoRow : OpenClaim := { program := "ytohpdkjfbidkpaa", sum := "72c5dd1e2a32f8f574fecb97d5ccf54b684dfccc7c8fec39dfa1da03044d545e", func := "loop.example/g01216/laws.FnExactCompareRatios", spec := "fnExactCompareRatios", apart := false, narrowed := true }
def FnExactCompareRatiosUptoSaid : Prop := fnExactCompareRatiosUptoRow.holds Try.pinned (OpenSpec.upto fnExactCompareRatiosSpec)

/-- 'laws.FnExactChanceOfTile', WHERE WHAT IT READS IS OF BULK AT MOST 1048576: true; the input reads as it did. -/
def fnExactChanceOfTileUptoRow : OpenClaim := { program := "ytohpdkjfbidkpaa", sum := "72c5dd1e2a32f8f574fecb97d5ccf54b684dfccc7c8fec39dfa1da03044d545e", func := "loop.example/g01216/laws.FnExactChanceOfTile", spec := "fnExactChanceOfTile", apart := false, narrowed := true }
def FnExactChanceOfTileUptoSaid : Prop := fnExactChanceOfTileUptoRow.holds Try.pinned (OpenSpec.upto fnExactChanceOfTileSpec)

/-- 'laws.FnExactChanceOfTiles', WHERE WHAT IT READS IS OF BULK AT MOST 1048576: true; the input reads as it did. -/
def fnExactChanceOfTilesUptoRow : OpenClaim := { program := "ytohpdkjfbidkpaa", sum := "72c5dd1e2a32f8f574fecb97d5ccf54b684dfccc7c8fec39dfa1da03044d545e", func := "loop.example/g01216/laws.FnExactChanceOfTiles", spec := "fnExactChanceOfTiles", apart := false, narrowed := true }
def FnExactChanceOfTilesUptoSaid : Prop := fnExactChanceOfTilesUptoRow.holds Try.pinned (OpenSpec.upto fnExactChanceOfTilesSpec)

end Rows
end Go.Proofs.Ytohpdkjfbidkpaa
