/-
  No cell of these rows narrows 'for every input' (looked for: loops, veiled, ifaces, maps, wideKeys, modest, calm, conditions, laid).
  DERIVED. THE GIVEN ROWS OF THIS SEAT. 4 by the template 'for every input the law returns true; each argument reads behind the call as it read before'; 0 by the template 'total and deterministic' (their statements: YtcobnlilmihjfaaTotals.lean).
  GIVEN WITH THE SEED: the statements are not yours to turn. If you find one false, say at which input.
  Laid BY PROGRAM, IN A SANDBOX (cutbox-rows.mjs): the forced cells as the released guide's own fill.sh prints them over the translation 472f2598c6c22cd4… (all of the seat's roots in one cut). By AI agents, Wed Nov 11 2026. No macro, syntax, notation, axiom, sorry.
-/
import Derived.Test.YtcobnlilmihjfaaChecked
import GoSem.Claim
import GoSem.ClaimJoined
import GoSem.ClaimMapViews
import Derived.JoinedTies
import Derived.KernelRfl
namespace Go.Proofs.Ytcobnlilmihjfaa
/- THE CELL 'sum', in the pinned program and in every row, IS THE sha256 OF THE DUMP (.gsa) THAT YtcobnlilmihjfaaProg.lean LOADS. Nothing in Lean hashes anything: it is a label: what it is worth is what the hold of that sum in a sandbox is worth. -/
noncomputable def Try.pinned : Pinned := { name := "ytcobnlilmihjfaa", sum := "472f2598c6c22cd4dd51a830afd003748f36ad4194b1e60b081dd5684d979070", checked := Try.checked }
namespace Rows
def none {H : Type} : Left H := { results := [], args := [] }

/-- 'laws.FnExits': WHATEVER THE INPUT: true; the input reads as it did. -/
def fnExitsSpec : ChangeSpec := { name := "fnExits", fn := fun _ => fun
  | [d] => { results := [.lit (.bool true)], args := [d] }
  | _ => none }
def fnExitsRow : OpenClaim := { program := "ytcobnlilmihjfaa", sum := "472f2598c6c22cd4dd51a830afd003748f36ad4194b1e60b081dd5684d979070", func := "loop.example/g00919/laws.FnExits", spec := "fnExits", unfollowed := true, recurses := true, plainKeys := false, apart := false }
def FnExitsSaid : Prop := fnExitsRow.holds Try.pinned (OpenSpec.ofChange fnExitsSpec)

/-- ITS FALSE NEIGHBOUR: 'it returns false'. Refute it at one input. -/
def fnExitsWrong : ChangeSpec := { name := "fnExits", fn := fun _ => fun
  | [d] => { results := [.lit (.bool false)], args := [d] }
  | _ => none }
def FnExitsWrongFalsely : Prop := fnExitsRow.holds Try.pinned (OpenSpec.ofChange fnExitsWrong)

/-- 'laws.FnStates': WHATEVER THE INPUT: true; the input reads as it did. -/
def fnStatesSpec : ChangeSpec := { name := "fnStates", fn := fun _ => fun
  | [d] => { results := [.lit (.bool true)], args := [d] }
  | _ => none }
def fnStatesRow : OpenClaim := { program := "ytcobnlilmihjfaa", sum := "472f2598c6c22cd4dd51a830afd003748f36ad4194b1e60b081dd5684d979070", func := "loop.example/g00919/laws.FnStates", spec := "fnStates", unfollowed := true, recurses := true, plainKeys := false, apart := false }
def FnStatesSaid : Prop := fnStatesRow.holds Try.pinned (OpenSpec.ofChange fnStatesSpec)

/-- ITS FALSE NEIGHBOUR: 'it returns false'. Refute it at one input. -/
def fnStatesWrong : ChangeSpec := { name := "fnStates", fn := fun _ => fun
  | [d] => { results := [.lit (.bool false)], args := [d] }
  | _ => none }
def FnStatesWrongFalsely : Prop := fnStatesRow.holds Try.pinned (OpenSpec.ofChange fnStatesWrong)

/-- 'laws.FnLeaving': WHATEVER THE INPUT: true; the input reads as it did. -/
def fnLeavingSpec : ChangeSpec := { name := "fnLeaving", fn := fun _ => fun
  | [d] => { results := [.lit (.bool true)], args := [d] }
  | _ => none }
def fnLeavingRow : OpenClaim := { program := "ytcobnlilmihjfaa", sum := "472f2598c6c22cd4dd51a830afd003748f36ad4194b1e60b081dd5684d979070", func := "loop.example/g00919/laws.FnLeaving", spec := "fnLeaving", unfollowed := true, recurses := true, plainKeys := false, apart := false }
def FnLeavingSaid : Prop := fnLeavingRow.holds Try.pinned (OpenSpec.ofChange fnLeavingSpec)

/-- ITS FALSE NEIGHBOUR: 'it returns false'. Refute it at one input. -/
def fnLeavingWrong : ChangeSpec := { name := "fnLeaving", fn := fun _ => fun
  | [d] => { results := [.lit (.bool false)], args := [d] }
  | _ => none }
def FnLeavingWrongFalsely : Prop := fnLeavingRow.holds Try.pinned (OpenSpec.ofChange fnLeavingWrong)

/-- 'laws.FnStages': WHATEVER THE INPUT: true; the input reads as it did. -/
def fnStagesSpec : ChangeSpec := { name := "fnStages", fn := fun _ => fun
  | [d] => { results := [.lit (.bool true)], args := [d] }
  | _ => none }
def fnStagesRow : OpenClaim := { program := "ytcobnlilmihjfaa", sum := "472f2598c6c22cd4dd51a830afd003748f36ad4194b1e60b081dd5684d979070", func := "loop.example/g00919/laws.FnStages", spec := "fnStages", unfollowed := true, recurses := true, plainKeys := false, apart := false }
def FnStagesSaid : Prop := fnStagesRow.holds Try.pinned (OpenSpec.ofChange fnStagesSpec)

/-- ITS FALSE NEIGHBOUR: 'it returns false'. Refute it at one input. -/
def fnStagesWrong : ChangeSpec := { name := "fnStages", fn := fun _ => fun
  | [d] => { results := [.lit (.bool false)], args := [d] }
  | _ => none }
def FnStagesWrongFalsely : Prop := fnStagesRow.holds Try.pinned (OpenSpec.ofChange fnStagesWrong)

/- THE SECOND FORM. 'bulk': how many values and letters a reading holds, each counted each time it is reached (what is shared counts as often as it is met; a slice's spare places count too). A statement '..UptoSaid' is the law's where the arguments, and the package variables that the reading takes, are together of bulk at most 1048576: NARROWER than '..Said'. Prove '..Said' where nothing that the law and all that it calls make is longer than what came in: it says more and counts as full. Else prove '..UptoSaid'. A law counts once. -/
mutual
def uptoBulk {H : Type} : DataW H → Nat
  | .lit (.string bytes) => bytes.length + 1
  | .lit _ => 1
  | .nil => 1
  | .ptr d => uptoBulk d + 1
  | .slice elems spare => uptoBulkAll elems + uptoBulkAll spare + 1
  | .agg parts => uptoBulkAll parts + 1
  | .iface _ d => uptoBulk d + 1
  | .map entries => uptoBulkEntries entries + 1
  | .held _ => 1
def uptoBulkAll {H : Type} : List (DataW H) → Nat
  | [] => 0
  | d :: r => uptoBulk d + uptoBulkAll r
def uptoBulkEntries {H : Type} : List (Lit × DataW H) → Nat
  | [] => 0
  | x :: r => uptoBulkEntry x + uptoBulkEntries r
def uptoBulkEntry {H : Type} : Lit × DataW H → Nat
  | (.string bytes, d) => bytes.length + uptoBulk d + 1
  | (_, d) => uptoBulk d + 1
 end
def uptoSmall : (H : Type) → List (DataW H) → Bool := fun _ ds => decide (uptoBulkAll ds ≤ 1048576)
def OpenSpec.upto (s : _root_.Go.ChangeSpec) : _root_.Go.OpenSpec := { _root_.Go.OpenSpec.ofChange s with cond := some uptoSmall }

/-- 'laws.FnExits', WHERE WHAT IT READS IS OF BULK AT MOST 1048576: true; the input reads as it did. -/
def fnExitsUptoRow : OpenClaim := { program := "ytcobnlilmihjfaa", sum := "472f2598c6c22cd4dd51a830afd003748f36ad4194b1e60b081dd5684d979070", func := "loop.example/g00919/laws.FnExits", spec := "fnExits", unfollowed := true, recurses := true, plainKeys := false, apart := false, narrowed := true }
def FnExitsUptoSaid : Prop := fnExitsUptoRow.holds Try.pinned (OpenSpec.upto fnExitsSpec)

/-- 'laws.FnStates', WHERE WHAT IT READS IS OF BULK AT MOST 1048576: true; the input reads as it did. -/
def fnStatesUptoRow : OpenClaim := { program := "ytcobnlilmihjfaa", sum := "472f2598c6c22cd4dd51a830afd003748f36ad4194b1e60b081dd5684d979070", func := "loop.example/g00919/laws.FnStates", spec := "fnStates", unfollowed := true, recurses := true, plainKeys := false, apart := false, narrowed := true }
def FnStatesUptoSaid : Prop := fnStatesUptoRow.holds Try.pinned (OpenSpec.upto fnStatesSpec)

/-- 'laws.FnLeaving', WHERE WHAT IT READS IS OF BULK AT MOST 1048576: true; the input reads as it did. -/
def fnLeavingUptoRow : OpenClaim := { program := "ytcobnlilmihjfaa", sum := "472f2598c6c22cd4dd51a830afd003748f36ad4194b1e60b081dd5684d979070", func := "loop.example/g00919/laws.FnLeaving", spec := "fnLeaving", unfollowed := true, recurses := true, plainKeys := false, apart := false, narrowed := true }
def FnLeavingUptoSaid : Prop := fnLeavingUptoRow.holds Try.pinned (OpenSpec.upto fnLeavingSpec)

/-- 'laws.FnStages', WHERE WHAT IT READS IS OF BULK AT MOST 1048576: true; the input reads as it did. -/
def fnStagesUptoRow : OpenClaim := { program := "ytcobnlilmihjfaa", sum := "472f2598c6c22cd4dd51a830afd003748f36ad4194b1e60b081dd5684d979070", func := "loop.example/g00919/laws.FnStages", spec := "fnStages", unfollowed := true, recurses := true, plainKeys := false, apart := false, narrowed := true }
def FnStagesUptoSaid : Prop := fnStagesUptoRow.holds Try.pinned (OpenSpec.upto fnStagesSpec)

end Rows
end Go.Proofs.Ytcobnlilmihjfaa
