/-
  DERIVED. GIVEN WITH THE SEED: THE CARDS: each row of YtlhejcogdjelpaaDoorRows.lean that lists a variable, with what it lists TIED to the program's text (the seventh form; the later family's looks); each row that meets fmt, with fmt's text TOLD by the authors' own Lean function (tested against real Go, not proved from fmt's source: count such statements apart). THE CARD IS WHAT COUNTS. Prove the row's statement (the work); the ties are given (YtlhejcogdjelpaaDoorTie.lean); close each card by the builder's one call (the guide's Derived/Test/ToyasCard.lean, 'card_holds'). Laid BY PROGRAM, IN A SANDBOX (cutbox-door.mjs). By AI agents, Wed Nov 11 2026. No macro, syntax, notation, axiom, sorry.
-/
import Derived.Test.YtlhejcogdjelpaaDoorRows
import GoSem.ClaimSeven
namespace Go.Proofs.YtlhejcogdjelpaaDoor
namespace Rows

/-- THE TIED CARD OF 'laws.FnFillShape'. -/
def fnFillShapeCard : Claim7 := { stood := { row := fnFillShapeRow, standIns := [], harness := (true, "d826e71b7da3cba99c5cf18102b499a68a64217c47484736b9fc515d26941c7f"), looks := true }, kinds := [], alts := [], laidByText := true, laidKinds := [.data, .data, .data, .sentinel, .sentinel], laidTests := true, laidLooks := .later }
def FnFillShapeCardSaid : Prop := Claim7.holds Tryd.pinned (.plain (OpenSpec.ofChange fnFillShapeSpec)) fnFillShapeCard

/-- THE TIED CARD OF 'laws.FnMultiply'. -/
def fnMultiplyCard : Claim7 := { stood := { row := fnMultiplyRow, standIns := [], harness := (true, "d826e71b7da3cba99c5cf18102b499a68a64217c47484736b9fc515d26941c7f"), looks := true }, kinds := [], alts := [], laidByText := true, laidKinds := [.data, .data, .data, .sentinel, .sentinel], laidTests := true, laidLooks := .later }
def FnMultiplyCardSaid : Prop := Claim7.holds Tryd.pinned (.plain (OpenSpec.ofChange fnMultiplySpec)) fnMultiplyCard

/-- THE TIED CARD OF 'laws.FnPadCut'. -/
def fnPadCutCard : Claim7 := { stood := { row := fnPadCutRow, standIns := [], harness := (true, "d826e71b7da3cba99c5cf18102b499a68a64217c47484736b9fc515d26941c7f"), looks := true }, kinds := [], alts := [], laidByText := true, laidKinds := [.data, .data, .data, .sentinel, .sentinel], laidTests := true, laidLooks := .later }
def FnPadCutCardSaid : Prop := Claim7.holds Tryd.pinned (.plain (OpenSpec.ofChange fnPadCutSpec)) fnPadCutCard

/-- THE SECOND FORM's CARD OF 'laws.FnFillShape'. -/
def fnFillShapeUptoCard : Claim7 := { stood := { row := fnFillShapeUptoRow, standIns := [], harness := (true, "d826e71b7da3cba99c5cf18102b499a68a64217c47484736b9fc515d26941c7f"), looks := true }, kinds := [], alts := [], laidByText := true, laidKinds := [.data, .data, .data, .sentinel, .sentinel], laidTests := true, laidLooks := .later }
def FnFillShapeUptoCardSaid : Prop := Claim7.holds Tryd.pinned (.plain (OpenSpec.upto fnFillShapeSpec)) fnFillShapeUptoCard

/-- THE SECOND FORM's CARD OF 'laws.FnMultiply'. -/
def fnMultiplyUptoCard : Claim7 := { stood := { row := fnMultiplyUptoRow, standIns := [], harness := (true, "d826e71b7da3cba99c5cf18102b499a68a64217c47484736b9fc515d26941c7f"), looks := true }, kinds := [], alts := [], laidByText := true, laidKinds := [.data, .data, .data, .sentinel, .sentinel], laidTests := true, laidLooks := .later }
def FnMultiplyUptoCardSaid : Prop := Claim7.holds Tryd.pinned (.plain (OpenSpec.upto fnMultiplySpec)) fnMultiplyUptoCard

/-- THE SECOND FORM's CARD OF 'laws.FnPadCut'. -/
def fnPadCutUptoCard : Claim7 := { stood := { row := fnPadCutUptoRow, standIns := [], harness := (true, "d826e71b7da3cba99c5cf18102b499a68a64217c47484736b9fc515d26941c7f"), looks := true }, kinds := [], alts := [], laidByText := true, laidKinds := [.data, .data, .data, .sentinel, .sentinel], laidTests := true, laidLooks := .later }
def FnPadCutUptoCardSaid : Prop := Claim7.holds Tryd.pinned (.plain (OpenSpec.upto fnPadCutSpec)) fnPadCutUptoCard
end Rows
end Go.Proofs.YtlhejcogdjelpaaDoor
