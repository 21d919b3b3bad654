/-
  NARROWER THAN 'FOR EVERY INPUT', by the rows' own cells (each row's printed sentence says how): FnExactCountNodes: laid · FnExactCountCovers: laid · FnExactFirstCover: laid · FnExactIsForced: laid · FnFirstCovers: laid · FnExactAllCovers: laid · FnAllCovers: laid.
  DERIVED. THE GIVEN ROWS OF THIS SEAT. 7 by the template 'for every input the law returns true; each argument reads behind the call as it read before'; 0 by the template 'total and deterministic' (their statements: YtoglcgnbkibpgaaDoorTotals.lean).
  GIVEN WITH THE SEED: the statements are not yours to turn. If you find one false, say at which input.
  Laid BY PROGRAM, IN A SANDBOX (cutbox-rows.mjs): the forced cells as the released guide's own fill.sh prints them over the translation 82fb23c7d6532d8f… (all of the seat's roots in one cut). By AI agents, Wed Nov 11 2026. No macro, syntax, notation, axiom, sorry.
-/
import Derived.Test.YtoglcgnbkibpgaaDoorChecked
import GoSem.Claim
import GoSem.ClaimJoined
import GoSem.ClaimMapViews
import Derived.JoinedTies
import Derived.KernelRfl
namespace Go.Proofs.YtoglcgnbkibpgaaDoor
/- THE CELL 'sum', in the pinned program and in every row, IS THE sha256 OF THE DUMP (.gsa) THAT YtoglcgnbkibpgaaDoorProg.lean LOADS. Nothing in Lean hashes anything: it is a label: what it is worth is what the hold of that sum in a sandbox is worth. -/
noncomputable def Tryd.pinned : Pinned := { name := "ytoglcgnbkibpgaadoor", sum := "82fb23c7d6532d8f428c5a31777e7b0795075e087531b74fd78a5ad84383105c", checked := Tryd.checked }
namespace Rows
def none {H : Type} : Left H := { results := [], args := [] }

/- WHAT THE LISTED PACKAGE-LEVEL VARIABLES READ AS WHEN THE CALL BEGINS. Each datum BY PROGRAM (the guide's laid-datum.mjs) off the statement by which the dump's own 'gosem.cut.vars' lays the variable. In a bare row this is a premise. The card (YtoglcgnbkibpgaaDoorCards.lean) ties it to the program's text. -/
def laid_math_bits_deBruijn64tab {H : Type} : DataW H := .agg [.lit (.int .u8 0), .lit (.int .u8 1), .lit (.int .u8 56), .lit (.int .u8 2), .lit (.int .u8 57), .lit (.int .u8 49), .lit (.int .u8 28), .lit (.int .u8 3), .lit (.int .u8 61), .lit (.int .u8 58), .lit (.int .u8 42), .lit (.int .u8 50), .lit (.int .u8 38), .lit (.int .u8 29), .lit (.int .u8 17), .lit (.int .u8 4), .lit (.int .u8 62), .lit (.int .u8 47), .lit (.int .u8 59), .lit (.int .u8 36), .lit (.int .u8 45), .lit (.int .u8 43), .lit (.int .u8 51), .lit (.int .u8 22), .lit (.int .u8 53), .lit (.int .u8 39), .lit (.int .u8 33), .lit (.int .u8 30), .lit (.int .u8 24), .lit (.int .u8 18), .lit (.int .u8 12), .lit (.int .u8 5), .lit (.int .u8 63), .lit (.int .u8 55), .lit (.int .u8 48), .lit (.int .u8 27), .lit (.int .u8 60), .lit (.int .u8 41), .lit (.int .u8 37), .lit (.int .u8 16), .lit (.int .u8 46), .lit (.int .u8 35), .lit (.int .u8 44), .lit (.int .u8 21), .lit (.int .u8 52), .lit (.int .u8 32), .lit (.int .u8 23), .lit (.int .u8 11), .lit (.int .u8 54), .lit (.int .u8 26), .lit (.int .u8 40), .lit (.int .u8 15), .lit (.int .u8 34), .lit (.int .u8 20), .lit (.int .u8 31), .lit (.int .u8 10), .lit (.int .u8 25), .lit (.int .u8 14), .lit (.int .u8 19), .lit (.int .u8 9), .lit (.int .u8 13), .lit (.int .u8 8), .lit (.int .u8 7), .lit (.int .u8 6)]

/-- 'laws.FnExactCountNodes': WHATEVER THE INPUT: true; the input reads as it did. -/
def fnExactCountNodesSpec : ChangeSpec := { name := "fnExactCountNodes", fn := fun _ => fun
  | [d] => { results := [.lit (.bool true)], args := [d] }
  | _ => none }
def fnExactCountNodesRow : OpenClaim := { program := "ytoglcgnbkibpgaadoor", sum := "82fb23c7d6532d8f428c5a31777e7b0795075e087531b74fd78a5ad84383105c", func := "loop.example/g00919/laws.FnExactCountNodes", spec := "fnExactCountNodes", unfollowed := true, recurses := true, named := ["math/bits.deBruijn64tab"], apart := false, laid := [("math/bits.deBruijn64tab", laid_math_bits_deBruijn64tab)] }
def FnExactCountNodesSaid : Prop := fnExactCountNodesRow.holds Tryd.pinned (OpenSpec.ofChange fnExactCountNodesSpec)

/-- ITS FALSE NEIGHBOUR: 'it returns false'. Refute it at one input. -/
def fnExactCountNodesWrong : ChangeSpec := { name := "fnExactCountNodes", fn := fun _ => fun
  | [d] => { results := [.lit (.bool false)], args := [d] }
  | _ => none }
def FnExactCountNodesWrongFalsely : Prop := fnExactCountNodesRow.holds Tryd.pinned (OpenSpec.ofChange fnExactCountNodesWrong)

/-- 'laws.FnExactCountCovers': WHATEVER THE INPUT: true; the input reads as it did. -/
def fnExactCountCoversSpec : ChangeSpec := { name := "fnExactCountCovers", fn := fun _ => fun
  | [d] => { results := [.lit (.bool true)], args := [d] }
  | _ => none }
def fnExactCountCoversRow : OpenClaim := { program := "ytoglcgnbkibpgaadoor", sum := "82fb23c7d6532d8f428c5a31777e7b0795075e087531b74fd78a5ad84383105c", func := "loop.example/g00919/laws.FnExactCountCovers", spec := "fnExactCountCovers", unfollowed := true, recurses := true, named := ["math/bits.deBruijn64tab"], apart := false, laid := [("math/bits.deBruijn64tab", laid_math_bits_deBruijn64tab)] }
def FnExactCountCoversSaid : Prop := fnExactCountCoversRow.holds Tryd.pinned (OpenSpec.ofChange fnExactCountCoversSpec)

/-- ITS FALSE NEIGHBOUR: 'it returns false'. Refute it at one input. -/
def fnExactCountCoversWrong : ChangeSpec := { name := "fnExactCountCovers", fn := fun _ => fun
  | [d] => { results := [.lit (.bool false)], args := [d] }
  | _ => none }
def FnExactCountCoversWrongFalsely : Prop := fnExactCountCoversRow.holds Tryd.pinned (OpenSpec.ofChange fnExactCountCoversWrong)

/-- 'laws.FnExactFirstCover': WHATEVER THE INPUT: true; the input reads as it did. -/
def fnExactFirstCoverSpec : ChangeSpec := { name := "fnExactFirstCover", fn := fun _ => fun
  | [d] => { results := [.lit (.bool true)], args := [d] }
  | _ => none }
def fnExactFirstCoverRow : OpenClaim := { program := "ytoglcgnbkibpgaadoor", sum := "82fb23c7d6532d8f428c5a31777e7b0795075e087531b74fd78a5ad84383105c", func := "loop.example/g00919/laws.FnExactFirstCover", spec := "fnExactFirstCover", unfollowed := true, recurses := true, named := ["math/bits.deBruijn64tab"], apart := false, laid := [("math/bits.deBruijn64tab", laid_math_bits_deBruijn64tab)] }
def FnExactFirstCoverSaid : Prop := fnExactFirstCoverRow.holds Tryd.pinned (OpenSpec.ofChange fnExactFirstCoverSpec)

/-- ITS FALSE NEIGHBOUR: 'it returns false'. Refute it at one input. -/
def fnExactFirstCoverWrong : ChangeSpec := { name := "fnExactFirstCover", fn := fun _ => fun
  | [d] => { results := [.lit (.bool false)], args := [d] }
  | _ => none }
def FnExactFirstCoverWrongFalsely : Prop := fnExactFirstCoverRow.holds Tryd.pinned (OpenSpec.ofChange fnExactFirstCoverWrong)

/-- 'laws.FnExactIsForced': WHATEVER THE INPUT: true; the input reads as it did. -/
def fnExactIsForcedSpec : ChangeSpec := { name := "fnExactIsForced", fn := fun _ => fun
  | [d] => { results := [.lit (.bool true)], args := [d] }
  | _ => none }
def fnExactIsForcedRow : OpenClaim := { program := "ytoglcgnbkibpgaadoor", sum := "82fb23c7d6532d8f428c5a31777e7b0795075e087531b74fd78a5ad84383105c", func := "loop.example/g00919/laws.FnExactIsForced", spec := "fnExactIsForced", unfollowed := true, recurses := true, named := ["math/bits.deBruijn64tab"], apart := false, laid := [("math/bits.deBruijn64tab", laid_math_bits_deBruijn64tab)] }
def FnExactIsForcedSaid : Prop := fnExactIsForcedRow.holds Tryd.pinned (OpenSpec.ofChange fnExactIsForcedSpec)

/-- ITS FALSE NEIGHBOUR: 'it returns false'. Refute it at one input. -/
def fnExactIsForcedWrong : ChangeSpec := { name := "fnExactIsForced", fn := fun _ => fun
  | [d] => { results := [.lit (.bool false)], args := [d] }
  | _ => none }
def FnExactIsForcedWrongFalsely : Prop := fnExactIsForcedRow.holds Tryd.pinned (OpenSpec.ofChange fnExactIsForcedWrong)

/-- 'laws.FnFirstCovers': WHATEVER THE INPUT: true; the input reads as it did. -/
def fnFirstCoversSpec : ChangeSpec := { name := "fnFirstCovers", fn := fun _ => fun
  | [d] => { results := [.lit (.bool true)], args := [d] }
  | _ => none }
def fnFirstCoversRow : OpenClaim := { program := "ytoglcgnbkibpgaadoor", sum := "82fb23c7d6532d8f428c5a31777e7b0795075e087531b74fd78a5ad84383105c", func := "loop.example/g00919/laws.FnFirstCovers", spec := "fnFirstCovers", unfollowed := true, recurses := true, named := ["math/bits.deBruijn64tab"], apart := false, laid := [("math/bits.deBruijn64tab", laid_math_bits_deBruijn64tab)] }
def FnFirstCoversSaid : Prop := fnFirstCoversRow.holds Tryd.pinned (OpenSpec.ofChange fnFirstCoversSpec)

/-- ITS FALSE NEIGHBOUR: 'it returns false'. Refute it at one input. -/
def fnFirstCoversWrong : ChangeSpec := { name := "fnFirstCovers", fn := fun _ => fun
  | [d] => { results := [.lit (.bool false)], args := [d] }
  | _ => none }
def FnFirstCoversWrongFalsely : Prop := fnFirstCoversRow.holds Tryd.pinned (OpenSpec.ofChange fnFirstCoversWrong)

/-- 'laws.FnExactAllCovers': WHATEVER THE INPUT: true; the input reads as it did. -/
def fnExactAllCoversSpec : ChangeSpec := { name := "fnExactAllCovers", fn := fun _ => fun
  | [d] => { results := [.lit (.bool true)], args := [d] }
  | _ => none }
def fnExactAllCoversRow : OpenClaim := { program := "ytoglcgnbkibpgaadoor", sum := "82fb23c7d6532d8f428c5a31777e7b0795075e087531b74fd78a5ad84383105c", func := "loop.example/g00919/laws.FnExactAllCovers", spec := "fnExactAllCovers", unfollowed := true, recurses := true, named := ["math/bits.deBruijn64tab"], apart := false, laid := [("math/bits.deBruijn64tab", laid_math_bits_deBruijn64tab)] }
def FnExactAllCoversSaid : Prop := fnExactAllCoversRow.holds Tryd.pinned (OpenSpec.ofChange fnExactAllCoversSpec)

/-- ITS FALSE NEIGHBOUR: 'it returns false'. Refute it at one input. -/
def fnExactAllCoversWrong : ChangeSpec := { name := "fnExactAllCovers", fn := fun _ => fun
  | [d] => { results := [.lit (.bool false)], args := [d] }
  | _ => none }
def FnExactAllCoversWrongFalsely : Prop := fnExactAllCoversRow.holds Tryd.pinned (OpenSpec.ofChange fnExactAllCoversWrong)

/-- 'laws.FnAllCovers': WHATEVER THE INPUT: true; the input reads as it did. -/
def fnAllCoversSpec : ChangeSpec := { name := "fnAllCovers", fn := fun _ => fun
  | [d] => { results := [.lit (.bool true)], args := [d] }
  | _ => none }
def fnAllCoversRow : OpenClaim := { program := "ytoglcgnbkibpgaadoor", sum := "82fb23c7d6532d8f428c5a31777e7b0795075e087531b74fd78a5ad84383105c", func := "loop.example/g00919/laws.FnAllCovers", spec := "fnAllCovers", unfollowed := true, recurses := true, named := ["math/bits.deBruijn64tab"], apart := false, laid := [("math/bits.deBruijn64tab", laid_math_bits_deBruijn64tab)] }
def FnAllCoversSaid : Prop := fnAllCoversRow.holds Tryd.pinned (OpenSpec.ofChange fnAllCoversSpec)

/-- ITS FALSE NEIGHBOUR: 'it returns false'. Refute it at one input. -/
def fnAllCoversWrong : ChangeSpec := { name := "fnAllCovers", fn := fun _ => fun
  | [d] => { results := [.lit (.bool false)], args := [d] }
  | _ => none }
def FnAllCoversWrongFalsely : Prop := fnAllCoversRow.holds Tryd.pinned (OpenSpec.ofChange fnAllCoversWrong)

/- THE SECOND FORM. 'bulk': how many values and letters a reading holds, each counted each time it is reached (what is shared counts as often as it is met; a slice's spare places count too). A statement '..UptoSaid' is the law's where the arguments, and the package variables that the reading takes, are together of bulk at most 1048576: NARROWER than '..Said'. Prove '..Said' where nothing that the law and all that it calls make is longer than what came in: it says more and counts as full. Else prove '..UptoSaid'. A law counts once. -/
mutual
def uptoBulk {H : Type} : DataW H → Nat
  | .lit (.string bytes) => bytes.length + 1
  | .lit _ => 1
  | .nil => 1
  | .ptr d => uptoBulk d + 1
  | .slice elems spare => uptoBulkAll elems + uptoBulkAll spare + 1
  | .agg parts => uptoBulkAll parts + 1
  | .iface _ d => uptoBulk d + 1
  | .map entries => uptoBulkEntries entries + 1
  | .held _ => 1
def uptoBulkAll {H : Type} : List (DataW H) → Nat
  | [] => 0
  | d :: r => uptoBulk d + uptoBulkAll r
def uptoBulkEntries {H : Type} : List (Lit × DataW H) → Nat
  | [] => 0
  | x :: r => uptoBulkEntry x + uptoBulkEntries r
def uptoBulkEntry {H : Type} : Lit × DataW H → Nat
  | (.string bytes, d) => bytes.length + uptoBulk d + 1
  | (_, d) => uptoBulk d + 1
 end
def uptoSmall : (H : Type) → List (DataW H) → Bool := fun _ ds => decide (uptoBulkAll ds ≤ 1048576)
def OpenSpec.upto (s : _root_.Go.ChangeSpec) : _root_.Go.OpenSpec := { _root_.Go.OpenSpec.ofChange s with cond := some uptoSmall }

/-- 'laws.FnExactCountNodes', WHERE WHAT IT READS IS OF BULK AT MOST 1048576: true; the input reads as it did. -/
def fnExactCountNodesUptoRow : OpenClaim := { program := "ytoglcgnbkibpgaadoor", sum := "82fb23c7d6532d8f428c5a31777e7b0795075e087531b74fd78a5ad84383105c", func := "loop.example/g00919/laws.FnExactCountNodes", spec := "fnExactCountNodes", unfollowed := true, recurses := true, named := ["math/bits.deBruijn64tab"], apart := false, laid := [("math/bits.deBruijn64tab", laid_math_bits_deBruijn64tab)], narrowed := true }
def FnExactCountNodesUptoSaid : Prop := fnExactCountNodesUptoRow.holds Tryd.pinned (OpenSpec.upto fnExactCountNodesSpec)

/-- 'laws.FnExactCountCovers', WHERE WHAT IT READS IS OF BULK AT MOST 1048576: true; the input reads as it did. -/
def fnExactCountCoversUptoRow : OpenClaim := { program := "ytoglcgnbkibpgaadoor", sum := "82fb23c7d6532d8f428c5a31777e7b0795075e087531b74fd78a5ad84383105c", func := "loop.example/g00919/laws.FnExactCountCovers", spec := "fnExactCountCovers", unfollowed := true, recurses := true, named := ["math/bits.deBruijn64tab"], apart := false, laid := [("math/bits.deBruijn64tab", laid_math_bits_deBruijn64tab)], narrowed := true }
def FnExactCountCoversUptoSaid : Prop := fnExactCountCoversUptoRow.holds Tryd.pinned (OpenSpec.upto fnExactCountCoversSpec)

/-- 'laws.FnExactFirstCover', WHERE WHAT IT READS IS OF BULK AT MOST 1048576: true; the input reads as it did. -/
def fnExactFirstCoverUptoRow : OpenClaim := { program := "ytoglcgnbkibpgaadoor", sum := "82fb23c7d6532d8f428c5a31777e7b0795075e087531b74fd78a5ad84383105c", func := "loop.example/g00919/laws.FnExactFirstCover", spec := "fnExactFirstCover", unfollowed := true, recurses := true, named := ["math/bits.deBruijn64tab"], apart := false, laid := [("math/bits.deBruijn64tab", laid_math_bits_deBruijn64tab)], narrowed := true }
def FnExactFirstCoverUptoSaid : Prop := fnExactFirstCoverUptoRow.holds Tryd.pinned (OpenSpec.upto fnExactFirstCoverSpec)

/-- 'laws.FnExactIsForced', WHERE WHAT IT READS IS OF BULK AT MOST 1048576: true; the input reads as it did. -/
def fnExactIsForcedUptoRow : OpenClaim := { program := "ytoglcgnbkibpgaadoor", sum := "82fb23c7d6532d8f428c5a31777e7b0795075e087531b74fd78a5ad84383105c", func := "loop.example/g00919/laws.FnExactIsForced", spec := "fnExactIsForced", unfollowed := true, recurses := true, named := ["math/bits.deBruijn64tab"], apart := false, laid := [("math/bits.deBruijn64tab", laid_math_bits_deBruijn64tab)], narrowed := true }
def FnExactIsForcedUptoSaid : Prop := fnExactIsForcedUptoRow.holds Tryd.pinned (OpenSpec.upto fnExactIsForcedSpec)

/-- 'laws.FnFirstCovers', WHERE WHAT IT READS IS OF BULK AT MOST 1048576: true; the input reads as it did. -/
def fnFirstCoversUptoRow : OpenClaim := { program := "ytoglcgnbkibpgaadoor", sum := "82fb23c7d6532d8f428c5a31777e7b0795075e087531b74fd78a5ad84383105c", func := "loop.example/g00919/laws.FnFirstCovers", spec := "fnFirstCovers", unfollowed := true, recurses := true, named := ["math/bits.deBruijn64tab"], apart := false, laid := [("math/bits.deBruijn64tab", laid_math_bits_deBruijn64tab)], narrowed := true }
def FnFirstCoversUptoSaid : Prop := fnFirstCoversUptoRow.holds Tryd.pinned (OpenSpec.upto fnFirstCoversSpec)

/-- 'laws.FnExactAllCovers', WHERE WHAT IT READS IS OF BULK AT MOST 1048576: true; the input reads as it did. -/
def fnExactAllCoversUptoRow : OpenClaim := { program := "ytoglcgnbkibpgaadoor", sum := "82fb23c7d6532d8f428c5a31777e7b0795075e087531b74fd78a5ad84383105c", func := "loop.example/g00919/laws.FnExactAllCovers", spec := "fnExactAllCovers", unfollowed := true, recurses := true, named := ["math/bits.deBruijn64tab"], apart := false, laid := [("math/bits.deBruijn64tab", laid_math_bits_deBruijn64tab)], narrowed := true }
def FnExactAllCoversUptoSaid : Prop := fnExactAllCoversUptoRow.holds Tryd.pinned (OpenSpec.upto fnExactAllCoversSpec)

/-- 'laws.FnAllCovers', WHERE WHAT IT READS IS OF BULK AT MOST 1048576: true; the input reads as it did. -/
def fnAllCoversUptoRow : OpenClaim := { program := "ytoglcgnbkibpgaadoor", sum := "82fb23c7d6532d8f428c5a31777e7b0795075e087531b74fd78a5ad84383105c", func := "loop.example/g00919/laws.FnAllCovers", spec := "fnAllCovers", unfollowed := true, recurses := true, named := ["math/bits.deBruijn64tab"], apart := false, laid := [("math/bits.deBruijn64tab", laid_math_bits_deBruijn64tab)], narrowed := true }
def FnAllCoversUptoSaid : Prop := fnAllCoversUptoRow.holds Tryd.pinned (OpenSpec.upto fnAllCoversSpec)

end Rows
end Go.Proofs.YtoglcgnbkibpgaaDoor
