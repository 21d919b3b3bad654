/-
  No cell of these rows narrows 'for every input' (looked for: loops, veiled, ifaces, maps, wideKeys, modest, calm, conditions, laid).
  DERIVED. THE GIVEN ROWS OF THIS SEAT. 7 by the template 'for every input the law returns true; each argument reads behind the call as it read before'; 0 by the template 'total and deterministic' (their statements: YtlbckkagjekhnaaTotals.lean).
  GIVEN WITH THE SEED: the statements are not yours to turn. If you find one false, say at which input.
  Laid BY PROGRAM, IN A SANDBOX (cutbox-rows.mjs): the forced cells as the released guide's own fill.sh prints them over the translation 25e82edbeea43035… (all of the seat's roots in one cut). By AI agents, Wed Nov 11 2026. No macro, syntax, notation, axiom, sorry.
-/
import Derived.Test.YtlbckkagjekhnaaChecked
import GoSem.Claim
import GoSem.ClaimJoined
import GoSem.ClaimMapViews
import Derived.JoinedTies
import Derived.KernelRfl
namespace Go.Proofs.Ytlbckkagjekhnaa
/- THE CELL 'sum', in the pinned program and in every row, IS THE sha256 OF THE DUMP (.gsa) THAT YtlbckkagjekhnaaProg.lean LOADS. Nothing in Lean hashes anything: it is a label: what it is worth is what the hold of that sum in a sandbox is worth. -/
noncomputable def Try.pinned : Pinned := { name := "ytlbckkagjekhnaa", sum := "25e82edbeea43035e86cb26c78a76e497a28588add42360543c6c3c5f48195b9", checked := Try.checked }
namespace Rows
def none {H : Type} : Left H := { results := [], args := [] }

/-- 'laws.FnExactRestOf': WHATEVER THE INPUT: true; the input reads as it did. -/
def fnExactRestOfSpec : ChangeSpec := { name := "fnExactRestOf", fn := fun _ => fun
  | [d1, d2, d3] => { results := [.lit (.bool true)], args := [d1, d2, d3] }
  | _ => none }
def fnExactRestOfRow : OpenClaim := { program := "ytlbckkagjekhnaa", sum := "25e82edbeea43035e86cb26c78a76e497a28588add42360543c6c3c5f48195b9", func := "loop.example/g00919/laws.FnExactRestOf", spec := "fnExactRestOf", unfollowed := true, recurses := true, plainKeys := false, apart := false }
def FnExactRestOfSaid : Prop := fnExactRestOfRow.holds Try.pinned (OpenSpec.ofChange fnExactRestOfSpec)

/-- ITS FALSE NEIGHBOUR: 'it returns false'. Refute it at one input. -/
def fnExactRestOfWrong : ChangeSpec := { name := "fnExactRestOf", fn := fun _ => fun
  | [d1, d2, d3] => { results := [.lit (.bool false)], args := [d1, d2, d3] }
  | _ => none }
def FnExactRestOfWrongFalsely : Prop := fnExactRestOfRow.holds Try.pinned (OpenSpec.ofChange fnExactRestOfWrong)

/-- 'laws.FnExactStatesOf': WHATEVER THE INPUT: true; the input reads as it did. -/
def fnExactStatesOfSpec : ChangeSpec := { name := "fnExactStatesOf", fn := fun _ => fun
  | [d] => { results := [.lit (.bool true)], args := [d] }
  | _ => none }
def fnExactStatesOfRow : OpenClaim := { program := "ytlbckkagjekhnaa", sum := "25e82edbeea43035e86cb26c78a76e497a28588add42360543c6c3c5f48195b9", func := "loop.example/g00919/laws.FnExactStatesOf", spec := "fnExactStatesOf", unfollowed := true, recurses := true, plainKeys := false, apart := false }
def FnExactStatesOfSaid : Prop := fnExactStatesOfRow.holds Try.pinned (OpenSpec.ofChange fnExactStatesOfSpec)

/-- ITS FALSE NEIGHBOUR: 'it returns false'. Refute it at one input. -/
def fnExactStatesOfWrong : ChangeSpec := { name := "fnExactStatesOf", fn := fun _ => fun
  | [d] => { results := [.lit (.bool false)], args := [d] }
  | _ => none }
def FnExactStatesOfWrongFalsely : Prop := fnExactStatesOfRow.holds Try.pinned (OpenSpec.ofChange fnExactStatesOfWrong)

/-- 'laws.FnExactLevelOf': WHATEVER THE INPUT: true; the input reads as it did. -/
def fnExactLevelOfSpec : ChangeSpec := { name := "fnExactLevelOf", fn := fun _ => fun
  | [d] => { results := [.lit (.bool true)], args := [d] }
  | _ => none }
def fnExactLevelOfRow : OpenClaim := { program := "ytlbckkagjekhnaa", sum := "25e82edbeea43035e86cb26c78a76e497a28588add42360543c6c3c5f48195b9", func := "loop.example/g00919/laws.FnExactLevelOf", spec := "fnExactLevelOf", unfollowed := true, recurses := true, plainKeys := false, apart := false }
def FnExactLevelOfSaid : Prop := fnExactLevelOfRow.holds Try.pinned (OpenSpec.ofChange fnExactLevelOfSpec)

/-- ITS FALSE NEIGHBOUR: 'it returns false'. Refute it at one input. -/
def fnExactLevelOfWrong : ChangeSpec := { name := "fnExactLevelOf", fn := fun _ => fun
  | [d] => { results := [.lit (.bool false)], args := [d] }
  | _ => none }
def FnExactLevelOfWrongFalsely : Prop := fnExactLevelOfRow.holds Try.pinned (OpenSpec.ofChange fnExactLevelOfWrong)

/-- 'laws.FnExactAreCorrect': WHATEVER THE INPUT: true; the input reads as it did. -/
def fnExactAreCorrectSpec : ChangeSpec := { name := "fnExactAreCorrect", fn := fun _ => fun
  | [d1, d2] => { results := [.lit (.bool true)], args := [d1, d2] }
  | _ => none }
def fnExactAreCorrectRow : OpenClaim := { program := "ytlbckkagjekhnaa", sum := "25e82edbeea43035e86cb26c78a76e497a28588add42360543c6c3c5f48195b9", func := "loop.example/g00919/laws.FnExactAreCorrect", spec := "fnExactAreCorrect", unfollowed := true, recurses := true, plainKeys := false, apart := false }
def FnExactAreCorrectSaid : Prop := fnExactAreCorrectRow.holds Try.pinned (OpenSpec.ofChange fnExactAreCorrectSpec)

/-- ITS FALSE NEIGHBOUR: 'it returns false'. Refute it at one input. -/
def fnExactAreCorrectWrong : ChangeSpec := { name := "fnExactAreCorrect", fn := fun _ => fun
  | [d1, d2] => { results := [.lit (.bool false)], args := [d1, d2] }
  | _ => none }
def FnExactAreCorrectWrongFalsely : Prop := fnExactAreCorrectRow.holds Try.pinned (OpenSpec.ofChange fnExactAreCorrectWrong)

/-- 'laws.FnExactFindExit': WHATEVER THE INPUT: true; the input reads as it did. -/
def fnExactFindExitSpec : ChangeSpec := { name := "fnExactFindExit", fn := fun _ => fun
  | [d] => { results := [.lit (.bool true)], args := [d] }
  | _ => none }
def fnExactFindExitRow : OpenClaim := { program := "ytlbckkagjekhnaa", sum := "25e82edbeea43035e86cb26c78a76e497a28588add42360543c6c3c5f48195b9", func := "loop.example/g00919/laws.FnExactFindExit", spec := "fnExactFindExit", unfollowed := true, recurses := true, plainKeys := false, apart := false }
def FnExactFindExitSaid : Prop := fnExactFindExitRow.holds Try.pinned (OpenSpec.ofChange fnExactFindExitSpec)

/-- ITS FALSE NEIGHBOUR: 'it returns false'. Refute it at one input. -/
def fnExactFindExitWrong : ChangeSpec := { name := "fnExactFindExit", fn := fun _ => fun
  | [d] => { results := [.lit (.bool false)], args := [d] }
  | _ => none }
def FnExactFindExitWrongFalsely : Prop := fnExactFindExitRow.holds Try.pinned (OpenSpec.ofChange fnExactFindExitWrong)

/-- 'laws.FnExactStageOrder': WHATEVER THE INPUT: true; the input reads as it did. -/
def fnExactStageOrderSpec : ChangeSpec := { name := "fnExactStageOrder", fn := fun _ => fun
  | [d1, d2] => { results := [.lit (.bool true)], args := [d1, d2] }
  | _ => none }
def fnExactStageOrderRow : OpenClaim := { program := "ytlbckkagjekhnaa", sum := "25e82edbeea43035e86cb26c78a76e497a28588add42360543c6c3c5f48195b9", func := "loop.example/g00919/laws.FnExactStageOrder", spec := "fnExactStageOrder", unfollowed := true, recurses := true, plainKeys := false, apart := false }
def FnExactStageOrderSaid : Prop := fnExactStageOrderRow.holds Try.pinned (OpenSpec.ofChange fnExactStageOrderSpec)

/-- ITS FALSE NEIGHBOUR: 'it returns false'. Refute it at one input. -/
def fnExactStageOrderWrong : ChangeSpec := { name := "fnExactStageOrder", fn := fun _ => fun
  | [d1, d2] => { results := [.lit (.bool false)], args := [d1, d2] }
  | _ => none }
def FnExactStageOrderWrongFalsely : Prop := fnExactStageOrderRow.holds Try.pinned (OpenSpec.ofChange fnExactStageOrderWrong)

/-- 'laws.FnExactGreedyStages': WHATEVER THE INPUT: true; the input reads as it did. -/
def fnExactGreedyStagesSpec : ChangeSpec := { name := "fnExactGreedyStages", fn := fun _ => fun
  | [d] => { results := [.lit (.bool true)], args := [d] }
  | _ => none }
def fnExactGreedyStagesRow : OpenClaim := { program := "ytlbckkagjekhnaa", sum := "25e82edbeea43035e86cb26c78a76e497a28588add42360543c6c3c5f48195b9", func := "loop.example/g00919/laws.FnExactGreedyStages", spec := "fnExactGreedyStages", unfollowed := true, recurses := true, plainKeys := false, apart := false }
def FnExactGreedyStagesSaid : Prop := fnExactGreedyStagesRow.holds Try.pinned (OpenSpec.ofChange fnExactGreedyStagesSpec)

/-- ITS FALSE NEIGHBOUR: 'it returns false'. Refute it at one input. -/
def fnExactGreedyStagesWrong : ChangeSpec := { name := "fnExactGreedyStages", fn := fun _ => fun
  | [d] => { results := [.lit (.bool false)], args := [d] }
  | _ => none }
def FnExactGreedyStagesWrongFalsely : Prop := fnExactGreedyStagesRow.holds Try.pinned (OpenSpec.ofChange fnExactGreedyStagesWrong)

/- THE SECOND FORM. 'bulk': how many values and letters a reading holds, each counted each time it is reached (what is shared counts as often as it is met; a slice's spare places count too). A statement '..UptoSaid' is the law's where the arguments, and the package variables that the reading takes, are together of bulk at most 1048576: NARROWER than '..Said'. Prove '..Said' where nothing that the law and all that it calls make is longer than what came in: it says more and counts as full. Else prove '..UptoSaid'. A law counts once. -/
mutual
def uptoBulk {H : Type} : DataW H → Nat
  | .lit (.string bytes) => bytes.length + 1
  | .lit _ => 1
  | .nil => 1
  | .ptr d => uptoBulk d + 1
  | .slice elems spare => uptoBulkAll elems + uptoBulkAll spare + 1
  | .agg parts => uptoBulkAll parts + 1
  | .iface _ d => uptoBulk d + 1
  | .map entries => uptoBulkEntries entries + 1
  | .held _ => 1
def uptoBulkAll {H : Type} : List (DataW H) → Nat
  | [] => 0
  | d :: r => uptoBulk d + uptoBulkAll r
def uptoBulkEntries {H : Type} : List (Lit × DataW H) → Nat
  | [] => 0
  | x :: r => uptoBulkEntry x + uptoBulkEntries r
def uptoBulkEntry {H : Type} : Lit × DataW H → Nat
  | (.string bytes, d) => bytes.length + uptoBulk d + 1
  | (_, d) => uptoBulk d + 1
 end
def uptoSmall : (H : Type) → List (DataW H) → Bool := fun _ ds => decide (uptoBulkAll ds ≤ 1048576)
def OpenSpec.upto (s : _root_.Go.ChangeSpec) : _root_.Go.OpenSpec := { _root_.Go.OpenSpec.ofChange s with cond := some uptoSmall }

/-- 'laws.FnExactRestOf', WHERE WHAT IT READS IS OF BULK AT MOST 1048576: true; the input reads as it did. -/
def fnExactRestOfUptoRow : OpenClaim := { program := "ytlbckkagjekhnaa", sum := "25e82edbeea43035e86cb26c78a76e497a28588add42360543c6c3c5f48195b9", func := "loop.example/g00919/laws.FnExactRestOf", spec := "fnExactRestOf", unfollowed := true, recurses := true, plainKeys := false, apart := false, narrowed := true }
def FnExactRestOfUptoSaid : Prop := fnExactRestOfUptoRow.holds Try.pinned (OpenSpec.upto fnExactRestOfSpec)

/-- 'laws.FnExactStatesOf', WHERE WHAT IT READS IS OF BULK AT MOST 1048576: true; the input reads as it did. -/
def fnExactStatesOfUptoRow : OpenClaim := { program := "ytlbckkagjekhnaa", sum := "25e82edbeea43035e86cb26c78a76e497a28588add42360543c6c3c5f48195b9", func := "loop.example/g00919/laws.FnExactStatesOf", spec := "fnExactStatesOf", unfollowed := true, recurses := true, plainKeys := false, apart := false, narrowed := true }
def FnExactStatesOfUptoSaid : Prop := fnExactStatesOfUptoRow.holds Try.pinned (OpenSpec.upto fnExactStatesOfSpec)

/-- 'laws.FnExactLevelOf', WHERE WHAT IT READS IS OF BULK AT MOST 1048576: true; the input reads as it did. -/
def fnExactLevelOfUptoRow : OpenClaim := { program := "ytlbckkagjekhnaa", sum := "25e82edbeea43035e86cb26c78a76e497a28588add42360543c6c3c5f48195b9", func := "loop.example/g00919/laws.FnExactLevelOf", spec := "fnExactLevelOf", unfollowed := true, recurses := true, plainKeys := false, apart := false, narrowed := true }
def FnExactLevelOfUptoSaid : Prop := fnExactLevelOfUptoRow.holds Try.pinned (OpenSpec.upto fnExactLevelOfSpec)

/-- 'laws.FnExactAreCorrect', WHERE WHAT IT READS IS OF BULK AT MOST 1048576: true; the input reads as it did. -/
def fnExactAreCorrectUptoRow : OpenClaim := { program := "ytlbckkagjekhnaa", sum := "25e82edbeea43035e86cb26c78a76e497a28588add42360543c6c3c5f48195b9", func := "loop.example/g00919/laws.FnExactAreCorrect", spec := "fnExactAreCorrect", unfollowed := true, recurses := true, plainKeys := false, apart := false, narrowed := true }
def FnExactAreCorrectUptoSaid : Prop := fnExactAreCorrectUptoRow.holds Try.pinned (OpenSpec.upto fnExactAreCorrectSpec)

/-- 'laws.FnExactFindExit', WHERE WHAT IT READS IS OF BULK AT MOST 1048576: true; the input reads as it did. -/
def fnExactFindExitUptoRow : OpenClaim := { program := "ytlbckkagjekhnaa", sum := "25e82edbeea43035e86cb26c78a76e497a28588add42360543c6c3c5f48195b9", func := "loop.example/g00919/laws.FnExactFindExit", spec := "fnExactFindExit", unfollowed := true, recurses := true, plainKeys := false, apart := false, narrowed := true }
def FnExactFindExitUptoSaid : Prop := fnExactFindExitUptoRow.holds Try.pinned (OpenSpec.upto fnExactFindExitSpec)

/-- 'laws.FnExactStageOrder', WHERE WHAT IT READS IS OF BULK AT MOST 1048576: true; the input reads as it did. -/
def fnExactStageOrderUptoRow : OpenClaim := { program := "ytlbckkagjekhnaa", sum := "25e82edbeea43035e86cb26c78a76e497a28588add42360543c6c3c5f48195b9", func := "loop.example/g00919/laws.FnExactStageOrder", spec := "fnExactStageOrder", unfollowed := true, recurses := true, plainKeys := false, apart := false, narrowed := true }
def FnExactStageOrderUptoSaid : Prop := fnExactStageOrderUptoRow.holds Try.pinned (OpenSpec.upto fnExactStageOrderSpec)

/-- 'laws.FnExactGreedyStages', WHERE WHAT IT READS IS OF BULK AT MOST 1048576: true; the input reads as it did. -/
def fnExactGreedyStagesUptoRow : OpenClaim := { program := "ytlbckkagjekhnaa", sum := "25e82edbeea43035e86cb26c78a76e497a28588add42360543c6c3c5f48195b9", func := "loop.example/g00919/laws.FnExactGreedyStages", spec := "fnExactGreedyStages", unfollowed := true, recurses := true, plainKeys := false, apart := false, narrowed := true }
def FnExactGreedyStagesUptoSaid : Prop := fnExactGreedyStagesUptoRow.holds Try.pinned (OpenSpec.upto fnExactGreedyStagesSpec)

end Rows
end Go.Proofs.Ytlbckkagjekhnaa
