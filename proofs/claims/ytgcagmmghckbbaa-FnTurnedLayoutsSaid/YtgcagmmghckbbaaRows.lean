/-
  No cell of these rows narrows 'for every input' (looked for: loops, veiled, ifaces, maps, wideKeys, modest, calm, conditions, laid).
  DERIVED. THE GIVEN ROWS OF THIS SEAT. 10 by the template 'for every input the law returns true; each argument reads behind the call as it read before'; 0 by the template 'total and deterministic' (their statements: YtgcagmmghckbbaaTotals.lean).
  GIVEN WITH THE SEED: the statements are not yours to turn. If you find one false, say at which input.
  Laid BY PROGRAM, IN A SANDBOX (cutbox-rows.mjs): the forced cells as the released guide's own fill.sh prints them over the translation 6529535d2a404da8… (all of the seat's roots in one cut). By AI agents, Wed Nov 11 2026. No macro, syntax, notation, axiom, sorry.
-/
import Derived.Test.YtgcagmmghckbbaaChecked
import GoSem.Claim
import GoSem.ClaimJoined
import GoSem.ClaimMapViews
import Derived.JoinedTies
import Derived.KernelRfl
namespace Go.Proofs.Ytgcagmmghckbbaa
/- THE CELL 'sum', in the pinned program and in every row, IS THE sha256 OF THE DUMP (.gsa) THAT YtgcagmmghckbbaaProg.lean LOADS. Nothing in Lean hashes anything: it is a label: what it is worth is what the hold of that sum in a sandbox is worth. -/
noncomputable def Try.pinned : Pinned := { name := "ytgcagmmghckbbaa", sum := "6529535d2a404da87edd2fe591f811653b61e38ef6fc8932525096e2413fc2c6", checked := Try.checked }
namespace Rows
def none {H : Type} : Left H := { results := [], args := [] }

/-- 'laws.FnExactTurnTile': WHATEVER THE INPUT: true; the input reads as it did. -/
def fnExactTurnTileSpec : ChangeSpec := { name := "fnExactTurnTile", fn := fun _ => fun
  | [d1, d2] => { results := [.lit (.bool true)], args := [d1, d2] }
  | _ => none }
def fnExactTurnTileRow : OpenClaim := { program := "ytgcagmmghckbbaa", sum := "6529535d2a404da87edd2fe591f811653b61e38ef6fc8932525096e2413fc2c6", func := "loop.example/g00919/laws.FnExactTurnTile", spec := "fnExactTurnTile", apart := false }
def FnExactTurnTileSaid : Prop := fnExactTurnTileRow.holds Try.pinned (OpenSpec.ofChange fnExactTurnTileSpec)

/-- ITS FALSE NEIGHBOUR: 'it returns false'. Refute it at one input. -/
def fnExactTurnTileWrong : ChangeSpec := { name := "fnExactTurnTile", fn := fun _ => fun
  | [d1, d2] => { results := [.lit (.bool false)], args := [d1, d2] }
  | _ => none }
def FnExactTurnTileWrongFalsely : Prop := fnExactTurnTileRow.holds Try.pinned (OpenSpec.ofChange fnExactTurnTileWrong)

/-- 'laws.FnExactEdgeSum': WHATEVER THE INPUT: true; the input reads as it did. -/
def fnExactEdgeSumSpec : ChangeSpec := { name := "fnExactEdgeSum", fn := fun _ => fun
  | [d] => { results := [.lit (.bool true)], args := [d] }
  | _ => none }
def fnExactEdgeSumRow : OpenClaim := { program := "ytgcagmmghckbbaa", sum := "6529535d2a404da87edd2fe591f811653b61e38ef6fc8932525096e2413fc2c6", func := "loop.example/g00919/laws.FnExactEdgeSum", spec := "fnExactEdgeSum", unfollowed := true, recurses := true, apart := false }
def FnExactEdgeSumSaid : Prop := fnExactEdgeSumRow.holds Try.pinned (OpenSpec.ofChange fnExactEdgeSumSpec)

/-- ITS FALSE NEIGHBOUR: 'it returns false'. Refute it at one input. -/
def fnExactEdgeSumWrong : ChangeSpec := { name := "fnExactEdgeSum", fn := fun _ => fun
  | [d] => { results := [.lit (.bool false)], args := [d] }
  | _ => none }
def FnExactEdgeSumWrongFalsely : Prop := fnExactEdgeSumRow.holds Try.pinned (OpenSpec.ofChange fnExactEdgeSumWrong)

/-- 'laws.FnExactFlatEdges': WHATEVER THE INPUT: true; the input reads as it did. -/
def fnExactFlatEdgesSpec : ChangeSpec := { name := "fnExactFlatEdges", fn := fun _ => fun
  | [d] => { results := [.lit (.bool true)], args := [d] }
  | _ => none }
def fnExactFlatEdgesRow : OpenClaim := { program := "ytgcagmmghckbbaa", sum := "6529535d2a404da87edd2fe591f811653b61e38ef6fc8932525096e2413fc2c6", func := "loop.example/g00919/laws.FnExactFlatEdges", spec := "fnExactFlatEdges", unfollowed := true, recurses := true, apart := false }
def FnExactFlatEdgesSaid : Prop := fnExactFlatEdgesRow.holds Try.pinned (OpenSpec.ofChange fnExactFlatEdgesSpec)

/-- ITS FALSE NEIGHBOUR: 'it returns false'. Refute it at one input. -/
def fnExactFlatEdgesWrong : ChangeSpec := { name := "fnExactFlatEdges", fn := fun _ => fun
  | [d] => { results := [.lit (.bool false)], args := [d] }
  | _ => none }
def FnExactFlatEdgesWrongFalsely : Prop := fnExactFlatEdgesRow.holds Try.pinned (OpenSpec.ofChange fnExactFlatEdgesWrong)

/-- 'laws.FnTileEdges': WHATEVER THE INPUT: true; the input reads as it did. -/
def fnTileEdgesSpec : ChangeSpec := { name := "fnTileEdges", fn := fun _ => fun
  | [d] => { results := [.lit (.bool true)], args := [d] }
  | _ => none }
def fnTileEdgesRow : OpenClaim := { program := "ytgcagmmghckbbaa", sum := "6529535d2a404da87edd2fe591f811653b61e38ef6fc8932525096e2413fc2c6", func := "loop.example/g00919/laws.FnTileEdges", spec := "fnTileEdges", unfollowed := true, recurses := true, apart := false }
def FnTileEdgesSaid : Prop := fnTileEdgesRow.holds Try.pinned (OpenSpec.ofChange fnTileEdgesSpec)

/-- ITS FALSE NEIGHBOUR: 'it returns false'. Refute it at one input. -/
def fnTileEdgesWrong : ChangeSpec := { name := "fnTileEdges", fn := fun _ => fun
  | [d] => { results := [.lit (.bool false)], args := [d] }
  | _ => none }
def FnTileEdgesWrongFalsely : Prop := fnTileEdgesRow.holds Try.pinned (OpenSpec.ofChange fnTileEdgesWrong)

/-- 'laws.FnExactIsCorrectLayout': WHATEVER THE INPUT: true; the input reads as it did. -/
def fnExactIsCorrectLayoutSpec : ChangeSpec := { name := "fnExactIsCorrectLayout", fn := fun _ => fun
  | [d1, d2, d3, d4] => { results := [.lit (.bool true)], args := [d1, d2, d3, d4] }
  | _ => none }
def fnExactIsCorrectLayoutRow : OpenClaim := { program := "ytgcagmmghckbbaa", sum := "6529535d2a404da87edd2fe591f811653b61e38ef6fc8932525096e2413fc2c6", func := "loop.example/g00919/laws.FnExactIsCorrectLayout", spec := "fnExactIsCorrectLayout", unfollowed := true, recurses := true, apart := false }
def FnExactIsCorrectLayoutSaid : Prop := fnExactIsCorrectLayoutRow.holds Try.pinned (OpenSpec.ofChange fnExactIsCorrectLayoutSpec)

/-- ITS FALSE NEIGHBOUR: 'it returns false'. Refute it at one input. -/
def fnExactIsCorrectLayoutWrong : ChangeSpec := { name := "fnExactIsCorrectLayout", fn := fun _ => fun
  | [d1, d2, d3, d4] => { results := [.lit (.bool false)], args := [d1, d2, d3, d4] }
  | _ => none }
def FnExactIsCorrectLayoutWrongFalsely : Prop := fnExactIsCorrectLayoutRow.holds Try.pinned (OpenSpec.ofChange fnExactIsCorrectLayoutWrong)

/-- 'laws.FnExactCountLayouts': WHATEVER THE INPUT: true; the input reads as it did. -/
def fnExactCountLayoutsSpec : ChangeSpec := { name := "fnExactCountLayouts", fn := fun _ => fun
  | [d1, d2, d3] => { results := [.lit (.bool true)], args := [d1, d2, d3] }
  | _ => none }
def fnExactCountLayoutsRow : OpenClaim := { program := "ytgcagmmghckbbaa", sum := "6529535d2a404da87edd2fe591f811653b61e38ef6fc8932525096e2413fc2c6", func := "loop.example/g00919/laws.FnExactCountLayouts", spec := "fnExactCountLayouts", unfollowed := true, recurses := true, apart := false }
def FnExactCountLayoutsSaid : Prop := fnExactCountLayoutsRow.holds Try.pinned (OpenSpec.ofChange fnExactCountLayoutsSpec)

/-- ITS FALSE NEIGHBOUR: 'it returns false'. Refute it at one input. -/
def fnExactCountLayoutsWrong : ChangeSpec := { name := "fnExactCountLayouts", fn := fun _ => fun
  | [d1, d2, d3] => { results := [.lit (.bool false)], args := [d1, d2, d3] }
  | _ => none }
def FnExactCountLayoutsWrongFalsely : Prop := fnExactCountLayoutsRow.holds Try.pinned (OpenSpec.ofChange fnExactCountLayoutsWrong)

/-- 'laws.FnExactTurnLayout': WHATEVER THE INPUT: true; the input reads as it did. -/
def fnExactTurnLayoutSpec : ChangeSpec := { name := "fnExactTurnLayout", fn := fun _ => fun
  | [d1, d2, d3, d4] => { results := [.lit (.bool true)], args := [d1, d2, d3, d4] }
  | _ => none }
def fnExactTurnLayoutRow : OpenClaim := { program := "ytgcagmmghckbbaa", sum := "6529535d2a404da87edd2fe591f811653b61e38ef6fc8932525096e2413fc2c6", func := "loop.example/g00919/laws.FnExactTurnLayout", spec := "fnExactTurnLayout", unfollowed := true, recurses := true, apart := false }
def FnExactTurnLayoutSaid : Prop := fnExactTurnLayoutRow.holds Try.pinned (OpenSpec.ofChange fnExactTurnLayoutSpec)

/-- ITS FALSE NEIGHBOUR: 'it returns false'. Refute it at one input. -/
def fnExactTurnLayoutWrong : ChangeSpec := { name := "fnExactTurnLayout", fn := fun _ => fun
  | [d1, d2, d3, d4] => { results := [.lit (.bool false)], args := [d1, d2, d3, d4] }
  | _ => none }
def FnExactTurnLayoutWrongFalsely : Prop := fnExactTurnLayoutRow.holds Try.pinned (OpenSpec.ofChange fnExactTurnLayoutWrong)

/-- 'laws.FnExactSolveJigsaw': WHATEVER THE INPUT: true; the input reads as it did. -/
def fnExactSolveJigsawSpec : ChangeSpec := { name := "fnExactSolveJigsaw", fn := fun _ => fun
  | [d1, d2, d3] => { results := [.lit (.bool true)], args := [d1, d2, d3] }
  | _ => none }
def fnExactSolveJigsawRow : OpenClaim := { program := "ytgcagmmghckbbaa", sum := "6529535d2a404da87edd2fe591f811653b61e38ef6fc8932525096e2413fc2c6", func := "loop.example/g00919/laws.FnExactSolveJigsaw", spec := "fnExactSolveJigsaw", unfollowed := true, recurses := true, apart := false }
def FnExactSolveJigsawSaid : Prop := fnExactSolveJigsawRow.holds Try.pinned (OpenSpec.ofChange fnExactSolveJigsawSpec)

/-- ITS FALSE NEIGHBOUR: 'it returns false'. Refute it at one input. -/
def fnExactSolveJigsawWrong : ChangeSpec := { name := "fnExactSolveJigsaw", fn := fun _ => fun
  | [d1, d2, d3] => { results := [.lit (.bool false)], args := [d1, d2, d3] }
  | _ => none }
def FnExactSolveJigsawWrongFalsely : Prop := fnExactSolveJigsawRow.holds Try.pinned (OpenSpec.ofChange fnExactSolveJigsawWrong)

/-- 'laws.FnTurnedLayouts': WHATEVER THE INPUT: true; the input reads as it did. -/
def fnTurnedLayoutsSpec : ChangeSpec := { name := "fnTurnedLayouts", fn := fun _ => fun
  | [d] => { results := [.lit (.bool true)], args := [d] }
  | _ => none }
def fnTurnedLayoutsRow : OpenClaim := { program := "ytgcagmmghckbbaa", sum := "6529535d2a404da87edd2fe591f811653b61e38ef6fc8932525096e2413fc2c6", func := "loop.example/g00919/laws.FnTurnedLayouts", spec := "fnTurnedLayouts", unfollowed := true, recurses := true, apart := false }
def FnTurnedLayoutsSaid : Prop := fnTurnedLayoutsRow.holds Try.pinned (OpenSpec.ofChange fnTurnedLayoutsSpec)

/-- ITS FALSE NEIGHBOUR: 'it returns false'. Refute it at one input. -/
def fnTurnedLayoutsWrong : ChangeSpec := { name := "fnTurnedLayouts", fn := fun _ => fun
  | [d] => { results := [.lit (.bool false)], args := [d] }
  | _ => none }
def FnTurnedLayoutsWrongFalsely : Prop := fnTurnedLayoutsRow.holds Try.pinned (OpenSpec.ofChange fnTurnedLayoutsWrong)

/-- 'laws.FnLayouts': WHATEVER THE INPUT: true; the input reads as it did. -/
def fnLayoutsSpec : ChangeSpec := { name := "fnLayouts", fn := fun _ => fun
  | [d] => { results := [.lit (.bool true)], args := [d] }
  | _ => none }
def fnLayoutsRow : OpenClaim := { program := "ytgcagmmghckbbaa", sum := "6529535d2a404da87edd2fe591f811653b61e38ef6fc8932525096e2413fc2c6", func := "loop.example/g00919/laws.FnLayouts", spec := "fnLayouts", unfollowed := true, recurses := true, apart := false }
def FnLayoutsSaid : Prop := fnLayoutsRow.holds Try.pinned (OpenSpec.ofChange fnLayoutsSpec)

/-- ITS FALSE NEIGHBOUR: 'it returns false'. Refute it at one input. -/
def fnLayoutsWrong : ChangeSpec := { name := "fnLayouts", fn := fun _ => fun
  | [d] => { results := [.lit (.bool false)], args := [d] }
  | _ => none }
def FnLayoutsWrongFalsely : Prop := fnLayoutsRow.holds Try.pinned (OpenSpec.ofChange fnLayoutsWrong)

/- THE SECOND FORM. 'bulk': how many values and letters a reading holds, each counted each time it is reached (what is shared counts as often as it is met; a slice's spare places count too). A statement '..UptoSaid' is the law's where the arguments, and the package variables that the reading takes, are together of bulk at most 1048576: NARROWER than '..Said'. Prove '..Said' where nothing that the law and all that it calls make is longer than what came in: it says more and counts as full. Else prove '..UptoSaid'. A law counts once. -/
mutual
def uptoBulk {H : Type} : DataW H → Nat
  | .lit (.string bytes) => bytes.length + 1
  | .lit _ => 1
  | .nil => 1
  | .ptr d => uptoBulk d + 1
  | .slice elems spare => uptoBulkAll elems + uptoBulkAll spare + 1
  | .agg parts => uptoBulkAll parts + 1
  | .iface _ d => uptoBulk d + 1
  | .map entries => uptoBulkEntries entries + 1
  | .held _ => 1
def uptoBulkAll {H : Type} : List (DataW H) → Nat
  | [] => 0
  | d :: r => uptoBulk d + uptoBulkAll r
def uptoBulkEntries {H : Type} : List (Lit × DataW H) → Nat
  | [] => 0
  | x :: r => uptoBulkEntry x + uptoBulkEntries r
def uptoBulkEntry {H : Type} : Lit × DataW H → Nat
  | (.string bytes, d) => bytes.length + uptoBulk d + 1
  | (_, d) => uptoBulk d + 1
 end
def uptoSmall : (H : Type) → List (DataW H) → Bool := fun _ ds => decide (uptoBulkAll ds ≤ 1048576)
def OpenSpec.upto (s : _root_.Go.ChangeSpec) : _root_.Go.OpenSpec := { _root_.Go.OpenSpec.ofChange s with cond := some uptoSmall }

/-- 'laws.FnExactTurnTile', WHERE WHAT IT READS IS OF BULK AT MOST 1048576: true; the input reads as it did. -/
def fnExactTurnTileUptoRow : OpenClaim := { program := "ytgcagmmghckbbaa", sum := "6529535d2a404da87edd2fe591f811653b61e38ef6fc8932525096e2413fc2c6", func := "loop.example/g00919/laws.FnExactTurnTile", spec := "fnExactTurnTile", apart := false, narrowed := true }
def FnExactTurnTileUptoSaid : Prop := fnExactTurnTileUptoRow.holds Try.pinned (OpenSpec.upto fnExactTurnTileSpec)

/-- 'laws.FnExactEdgeSum', WHERE WHAT IT READS IS OF BULK AT MOST 1048576: true; the input reads as it did. -/
def fnExactEdgeSumUptoRow : OpenClaim := { program := "ytgcagmmghckbbaa", sum := "6529535d2a404da87edd2fe591f811653b61e38ef6fc8932525096e2413fc2c6", func := "loop.example/g00919/laws.FnExactEdgeSum", spec := "fnExactEdgeSum", unfollowed := true, recurses := true, apart := false, narrowed := true }
def FnExactEdgeSumUptoSaid : Prop := fnExactEdgeSumUptoRow.holds Try.pinned (OpenSpec.upto fnExactEdgeSumSpec)

/-- 'laws.FnExactFlatEdges', WHERE WHAT IT READS IS OF BULK AT MOST 1048576: true; the input reads as it did. -/
def fnExactFlatEdgesUptoRow : OpenClaim := { program := "ytgcagmmghckbbaa", sum := "6529535d2a404da87edd2fe591f811653b61e38ef6fc8932525096e2413fc2c6", func := "loop.example/g00919/laws.FnExactFlatEdges", spec := "fnExactFlatEdges", unfollowed := true, recurses := true, apart := false, narrowed := true }
def FnExactFlatEdgesUptoSaid : Prop := fnExactFlatEdgesUptoRow.holds Try.pinned (OpenSpec.upto fnExactFlatEdgesSpec)

/-- 'laws.FnTileEdges', WHERE WHAT IT READS IS OF BULK AT MOST 1048576: true; the input reads as it did. -/
def fnTileEdgesUptoRow : OpenClaim := { program := "ytgcagmmghckbbaa", sum := "6529535d2a404da87edd2fe591f811653b61e38ef6fc8932525096e2413fc2c6", func := "loop.example/g00919/laws.FnTileEdges", spec := "fnTileEdges", unfollowed := true, recurses := true, apart := false, narrowed := true }
def FnTileEdgesUptoSaid : Prop := fnTileEdgesUptoRow.holds Try.pinned (OpenSpec.upto fnTileEdgesSpec)

/-- 'laws.FnExactIsCorrectLayout', WHERE WHAT IT READS IS OF BULK AT MOST 1048576: true; the input reads as it did. -/
def fnExactIsCorrectLayoutUptoRow : OpenClaim := { program := "ytgcagmmghckbbaa", sum := "6529535d2a404da87edd2fe591f811653b61e38ef6fc8932525096e2413fc2c6", func := "loop.example/g00919/laws.FnExactIsCorrectLayout", spec := "fnExactIsCorrectLayout", unfollowed := true, recurses := true, apart := false, narrowed := true }
def FnExactIsCorrectLayoutUptoSaid : Prop := fnExactIsCorrectLayoutUptoRow.holds Try.pinned (OpenSpec.upto fnExactIsCorrectLayoutSpec)

/-- 'laws.FnExactCountLayouts', WHERE WHAT IT READS IS OF BULK AT MOST 1048576: true; the input reads as it did. -/
def fnExactCountLayoutsUptoRow : OpenClaim := { program := "ytgcagmmghckbbaa", sum := "6529535d2a404da87edd2fe591f811653b61e38ef6fc8932525096e2413fc2c6", func := "loop.example/g00919/laws.FnExactCountLayouts", spec := "fnExactCountLayouts", unfollowed := true, recurses := true, apart := false, narrowed := true }
def FnExactCountLayoutsUptoSaid : Prop := fnExactCountLayoutsUptoRow.holds Try.pinned (OpenSpec.upto fnExactCountLayoutsSpec)

/-- 'laws.FnExactTurnLayout', WHERE WHAT IT READS IS OF BULK AT MOST 1048576: true; the input reads as it did. -/
def fnExactTurnLayoutUptoRow : OpenClaim := { program := "ytgcagmmghckbbaa", sum := "6529535d2a404da87edd2fe591f811653b61e38ef6fc8932525096e2413fc2c6", func := "loop.example/g00919/laws.FnExactTurnLayout", spec := "fnExactTurnLayout", unfollowed := true, recurses := true, apart := false, narrowed := true }
def FnExactTurnLayoutUptoSaid : Prop := fnExactTurnLayoutUptoRow.holds Try.pinned (OpenSpec.upto fnExactTurnLayoutSpec)

/-- 'laws.FnExactSolveJigsaw', WHERE WHAT IT READS IS OF BULK AT MOST 1048576: true; the input reads as it did. -/
def fnExactSolveJigsawUptoRow : OpenClaim := { program := "ytgcagmmghckbbaa", sum := "6529535d2a404da87edd2fe591f811653b61e38ef6fc8932525096e2413fc2c6", func := "loop.example/g00919/laws.FnExactSolveJigsaw", spec := "fnExactSolveJigsaw", unfollowed := true, recurses := true, apart := false, narrowed := true }
def FnExactSolveJigsawUptoSaid : Prop := fnExactSolveJigsawUptoRow.holds Try.pinned (OpenSpec.upto fnExactSolveJigsawSpec)

/-- 'laws.FnTurnedLayouts', WHERE WHAT IT READS IS OF BULK AT MOST 1048576: true; the input reads as it did. -/
def fnTurnedLayoutsUptoRow : OpenClaim := { program := "ytgcagmmghckbbaa", sum := "6529535d2a404da87edd2fe591f811653b61e38ef6fc8932525096e2413fc2c6", func := "loop.example/g00919/laws.FnTurnedLayouts", spec := "fnTurnedLayouts", unfollowed := true, recurses := true, apart := false, narrowed := true }
def FnTurnedLayoutsUptoSaid : Prop := fnTurnedLayoutsUptoRow.holds Try.pinned (OpenSpec.upto fnTurnedLayoutsSpec)

/-- 'laws.FnLayouts', WHERE WHAT IT READS IS OF BULK AT MOST 1048576: true; the input reads as it did. -/
def fnLayoutsUptoRow : OpenClaim := { program := "ytgcagmmghckbbaa", sum := "6529535d2a404da87edd2fe591f811653b61e38ef6fc8932525096e2413fc2c6", func := "loop.example/g00919/laws.FnLayouts", spec := "fnLayouts", unfollowed := true, recurses := true, apart := false, narrowed := true }
def FnLayoutsUptoSaid : Prop := fnLayoutsUptoRow.holds Try.pinned (OpenSpec.upto fnLayoutsSpec)

end Rows
end Go.Proofs.Ytgcagmmghckbbaa
