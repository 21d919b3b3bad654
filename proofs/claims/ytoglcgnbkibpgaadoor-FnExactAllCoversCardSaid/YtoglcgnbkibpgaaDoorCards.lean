/-
  DERIVED. GIVEN WITH THE SEED: THE CARDS: each row of YtoglcgnbkibpgaaDoorRows.lean that lists a variable, with what it lists TIED to the program's text (the seventh form; the later family's looks); each row that meets fmt, with fmt's text TOLD by the authors' own Lean function (tested against real Go, not proved from fmt's source: count such statements apart). THE CARD IS WHAT COUNTS. Prove the row's statement (the work); the ties are given (YtoglcgnbkibpgaaDoorTie.lean); close each card by the builder's one call (the guide's Derived/Test/ToyasCard.lean, 'card_holds'). Laid BY PROGRAM, IN A SANDBOX (cutbox-door.mjs). By AI agents, Wed Nov 11 2026. No macro, syntax, notation, axiom, sorry.
-/
import Derived.Test.YtoglcgnbkibpgaaDoorRows
import GoSem.ClaimSeven
namespace Go.Proofs.YtoglcgnbkibpgaaDoor
namespace Rows

/-- THE TIED CARD OF 'laws.FnExactCountNodes'. -/
def fnExactCountNodesCard : Claim7 := { stood := { row := fnExactCountNodesRow, standIns := [], harness := (true, "ef43efbd44170019f696ac7d96cb11540458fc697141656ac9fae2cf3e6a0182"), looks := false }, kinds := [], alts := [], laidByText := true, laidKinds := [.data], laidTests := true, laidLooks := .later }
def FnExactCountNodesCardSaid : Prop := Claim7.holds Tryd.pinned (.plain (OpenSpec.ofChange fnExactCountNodesSpec)) fnExactCountNodesCard

/-- THE TIED CARD OF 'laws.FnExactCountCovers'. -/
def fnExactCountCoversCard : Claim7 := { stood := { row := fnExactCountCoversRow, standIns := [], harness := (true, "ef43efbd44170019f696ac7d96cb11540458fc697141656ac9fae2cf3e6a0182"), looks := false }, kinds := [], alts := [], laidByText := true, laidKinds := [.data], laidTests := true, laidLooks := .later }
def FnExactCountCoversCardSaid : Prop := Claim7.holds Tryd.pinned (.plain (OpenSpec.ofChange fnExactCountCoversSpec)) fnExactCountCoversCard

/-- THE TIED CARD OF 'laws.FnExactFirstCover'. -/
def fnExactFirstCoverCard : Claim7 := { stood := { row := fnExactFirstCoverRow, standIns := [], harness := (true, "ef43efbd44170019f696ac7d96cb11540458fc697141656ac9fae2cf3e6a0182"), looks := false }, kinds := [], alts := [], laidByText := true, laidKinds := [.data], laidTests := true, laidLooks := .later }
def FnExactFirstCoverCardSaid : Prop := Claim7.holds Tryd.pinned (.plain (OpenSpec.ofChange fnExactFirstCoverSpec)) fnExactFirstCoverCard

/-- THE TIED CARD OF 'laws.FnExactIsForced'. -/
def fnExactIsForcedCard : Claim7 := { stood := { row := fnExactIsForcedRow, standIns := [], harness := (true, "ef43efbd44170019f696ac7d96cb11540458fc697141656ac9fae2cf3e6a0182"), looks := false }, kinds := [], alts := [], laidByText := true, laidKinds := [.data], laidTests := true, laidLooks := .later }
def FnExactIsForcedCardSaid : Prop := Claim7.holds Tryd.pinned (.plain (OpenSpec.ofChange fnExactIsForcedSpec)) fnExactIsForcedCard

/-- THE TIED CARD OF 'laws.FnFirstCovers'. -/
def fnFirstCoversCard : Claim7 := { stood := { row := fnFirstCoversRow, standIns := [], harness := (true, "ef43efbd44170019f696ac7d96cb11540458fc697141656ac9fae2cf3e6a0182"), looks := false }, kinds := [], alts := [], laidByText := true, laidKinds := [.data], laidTests := true, laidLooks := .later }
def FnFirstCoversCardSaid : Prop := Claim7.holds Tryd.pinned (.plain (OpenSpec.ofChange fnFirstCoversSpec)) fnFirstCoversCard

/-- THE TIED CARD OF 'laws.FnExactAllCovers'. -/
def fnExactAllCoversCard : Claim7 := { stood := { row := fnExactAllCoversRow, standIns := [], harness := (true, "ef43efbd44170019f696ac7d96cb11540458fc697141656ac9fae2cf3e6a0182"), looks := false }, kinds := [], alts := [], laidByText := true, laidKinds := [.data], laidTests := true, laidLooks := .later }
def FnExactAllCoversCardSaid : Prop := Claim7.holds Tryd.pinned (.plain (OpenSpec.ofChange fnExactAllCoversSpec)) fnExactAllCoversCard

/-- THE TIED CARD OF 'laws.FnAllCovers'. -/
def fnAllCoversCard : Claim7 := { stood := { row := fnAllCoversRow, standIns := [], harness := (true, "ef43efbd44170019f696ac7d96cb11540458fc697141656ac9fae2cf3e6a0182"), looks := false }, kinds := [], alts := [], laidByText := true, laidKinds := [.data], laidTests := true, laidLooks := .later }
def FnAllCoversCardSaid : Prop := Claim7.holds Tryd.pinned (.plain (OpenSpec.ofChange fnAllCoversSpec)) fnAllCoversCard

/-- THE SECOND FORM's CARD OF 'laws.FnExactCountNodes'. -/
def fnExactCountNodesUptoCard : Claim7 := { stood := { row := fnExactCountNodesUptoRow, standIns := [], harness := (true, "ef43efbd44170019f696ac7d96cb11540458fc697141656ac9fae2cf3e6a0182"), looks := false }, kinds := [], alts := [], laidByText := true, laidKinds := [.data], laidTests := true, laidLooks := .later }
def FnExactCountNodesUptoCardSaid : Prop := Claim7.holds Tryd.pinned (.plain (OpenSpec.upto fnExactCountNodesSpec)) fnExactCountNodesUptoCard

/-- THE SECOND FORM's CARD OF 'laws.FnExactCountCovers'. -/
def fnExactCountCoversUptoCard : Claim7 := { stood := { row := fnExactCountCoversUptoRow, standIns := [], harness := (true, "ef43efbd44170019f696ac7d96cb11540458fc697141656ac9fae2cf3e6a0182"), looks := false }, kinds := [], alts := [], laidByText := true, laidKinds := [.data], laidTests := true, laidLooks := .later }
def FnExactCountCoversUptoCardSaid : Prop := Claim7.holds Tryd.pinned (.plain (OpenSpec.upto fnExactCountCoversSpec)) fnExactCountCoversUptoCard

/-- THE SECOND FORM's CARD OF 'laws.FnExactFirstCover'. -/
def fnExactFirstCoverUptoCard : Claim7 := { stood := { row := fnExactFirstCoverUptoRow, standIns := [], harness := (true, "ef43efbd44170019f696ac7d96cb11540458fc697141656ac9fae2cf3e6a0182"), looks := false }, kinds := [], alts := [], laidByText := true, laidKinds := [.data], laidTests := true, laidLooks := .later }
def FnExactFirstCoverUptoCardSaid : Prop := Claim7.holds Tryd.pinned (.plain (OpenSpec.upto fnExactFirstCoverSpec)) fnExactFirstCoverUptoCard

/-- THE SECOND FORM's CARD OF 'laws.FnExactIsForced'. -/
def fnExactIsForcedUptoCard : Claim7 := { stood := { row := fnExactIsForcedUptoRow, standIns := [], harness := (true, "ef43efbd44170019f696ac7d96cb11540458fc697141656ac9fae2cf3e6a0182"), looks := false }, kinds := [], alts := [], laidByText := true, laidKinds := [.data], laidTests := true, laidLooks := .later }
def FnExactIsForcedUptoCardSaid : Prop := Claim7.holds Tryd.pinned (.plain (OpenSpec.upto fnExactIsForcedSpec)) fnExactIsForcedUptoCard

/-- THE SECOND FORM's CARD OF 'laws.FnFirstCovers'. -/
def fnFirstCoversUptoCard : Claim7 := { stood := { row := fnFirstCoversUptoRow, standIns := [], harness := (true, "ef43efbd44170019f696ac7d96cb11540458fc697141656ac9fae2cf3e6a0182"), looks := false }, kinds := [], alts := [], laidByText := true, laidKinds := [.data], laidTests := true, laidLooks := .later }
def FnFirstCoversUptoCardSaid : Prop := Claim7.holds Tryd.pinned (.plain (OpenSpec.upto fnFirstCoversSpec)) fnFirstCoversUptoCard

/-- THE SECOND FORM's CARD OF 'laws.FnExactAllCovers'. -/
def fnExactAllCoversUptoCard : Claim7 := { stood := { row := fnExactAllCoversUptoRow, standIns := [], harness := (true, "ef43efbd44170019f696ac7d96cb11540458fc697141656ac9fae2cf3e6a0182"), looks := false }, kinds := [], alts := [], laidByText := true, laidKinds := [.data], laidTests := true, laidLooks := .later }
def FnExactAllCoversUptoCardSaid : Prop := Claim7.holds Tryd.pinned (.plain (OpenSpec.upto fnExactAllCoversSpec)) fnExactAllCoversUptoCard

/-- THE SECOND FORM's CARD OF 'laws.FnAllCovers'. -/
def fnAllCoversUptoCard : Claim7 := { stood := { row := fnAllCoversUptoRow, standIns := [], harness := (true, "ef43efbd44170019f696ac7d96cb11540458fc697141656ac9fae2cf3e6a0182"), looks := false }, kinds := [], alts := [], laidByText := true, laidKinds := [.data], laidTests := true, laidLooks := .later }
def FnAllCoversUptoCardSaid : Prop := Claim7.holds Tryd.pinned (.plain (OpenSpec.upto fnAllCoversSpec)) fnAllCoversUptoCard
end Rows
end Go.Proofs.YtoglcgnbkibpgaaDoor
