/-
  DERIVED. GIVEN WITH THE SEED: THE CARDS: each row of YtmjoigpnnechgaaDoorRows.lean that lists a variable, with what it lists TIED to the program's text (the seventh form; the later family's looks); each row that meets fmt, with fmt's text TOLD by the authors' own Lean function (tested against real Go, not proved from fmt's source: count such statements apart). THE CARD IS WHAT COUNTS. Prove the row's statement (the work); the ties are given (YtmjoigpnnechgaaDoorTie.lean); close each card by the builder's one call (the guide's Derived/Test/ToyasCard.lean, 'card_holds'). Laid BY PROGRAM, IN A SANDBOX (cutbox-door.mjs). By AI agents, Wed Nov 11 2026. No macro, syntax, notation, axiom, sorry.
-/
import Derived.Test.YtmjoigpnnechgaaDoorRows
import GoSem.ClaimSeven
namespace Go.Proofs.YtmjoigpnnechgaaDoor
namespace Rows

/-- THE TIED CARD OF 'laws.FnExactCutArray'. -/
def fnExactCutArrayCard : Claim7 := { stood := { row := fnExactCutArrayRow, standIns := [], harness := (true, "9818f7463eb65a0ed4df3217c92b59e2c4204ba5fedb7d245d176dfee4f81b06"), looks := true }, kinds := [], alts := [], laidByText := true, laidKinds := [.data, .data, .data, .sentinel, .sentinel], laidTests := true, laidLooks := .later }
def FnExactCutArrayCardSaid : Prop := Claim7.holds Tryd.pinned (.plain (OpenSpec.ofChange fnExactCutArraySpec)) fnExactCutArrayCard

/-- THE TIED CARD OF 'laws.FnExactPackVector'. -/
def fnExactPackVectorCard : Claim7 := { stood := { row := fnExactPackVectorRow, standIns := [], harness := (true, "9818f7463eb65a0ed4df3217c92b59e2c4204ba5fedb7d245d176dfee4f81b06"), looks := true }, kinds := [], alts := [], laidByText := true, laidKinds := [.data, .data, .data, .sentinel, .sentinel], laidTests := true, laidLooks := .later }
def FnExactPackVectorCardSaid : Prop := Claim7.holds Tryd.pinned (.plain (OpenSpec.ofChange fnExactPackVectorSpec)) fnExactPackVectorCard

/-- THE TIED CARD OF 'laws.FnMakeArray'. -/
def fnMakeArrayCard : Claim7 := { stood := { row := fnMakeArrayRow, standIns := [], harness := (true, "9818f7463eb65a0ed4df3217c92b59e2c4204ba5fedb7d245d176dfee4f81b06"), looks := true }, kinds := [], alts := [], laidByText := true, laidKinds := [.data, .data, .data, .sentinel, .sentinel], laidTests := true, laidLooks := .later }
def FnMakeArrayCardSaid : Prop := Claim7.holds Tryd.pinned (.plain (OpenSpec.ofChange fnMakeArraySpec)) fnMakeArrayCard

/-- THE TIED CARD OF 'laws.FnJoin'. -/
def fnJoinCard : Claim7 := { stood := { row := fnJoinRow, standIns := [], harness := (true, "9818f7463eb65a0ed4df3217c92b59e2c4204ba5fedb7d245d176dfee4f81b06"), looks := true }, kinds := [], alts := [], laidByText := true, laidKinds := [.data, .data, .data, .sentinel, .sentinel], laidTests := true, laidLooks := .later }
def FnJoinCardSaid : Prop := Claim7.holds Tryd.pinned (.plain (OpenSpec.ofChange fnJoinSpec)) fnJoinCard

/-- THE TIED CARD OF 'laws.FnExactReshapeArray'. -/
def fnExactReshapeArrayCard : Claim7 := { stood := { row := fnExactReshapeArrayRow, standIns := [], harness := (true, "9818f7463eb65a0ed4df3217c92b59e2c4204ba5fedb7d245d176dfee4f81b06"), looks := true }, kinds := [], alts := [], laidByText := true, laidKinds := [.data, .data, .data, .sentinel, .sentinel], laidTests := true, laidLooks := .later }
def FnExactReshapeArrayCardSaid : Prop := Claim7.holds Tryd.pinned (.plain (OpenSpec.ofChange fnExactReshapeArraySpec)) fnExactReshapeArrayCard

/-- THE TIED CARD OF 'laws.FnFlatten'. -/
def fnFlattenCard : Claim7 := { stood := { row := fnFlattenRow, standIns := [], harness := (true, "9818f7463eb65a0ed4df3217c92b59e2c4204ba5fedb7d245d176dfee4f81b06"), looks := true }, kinds := [], alts := [], laidByText := true, laidKinds := [.data, .data, .data, .sentinel, .sentinel], laidTests := true, laidLooks := .later }
def FnFlattenCardSaid : Prop := Claim7.holds Tryd.pinned (.plain (OpenSpec.ofChange fnFlattenSpec)) fnFlattenCard

/-- THE TIED CARD OF 'laws.FnExactTransposeArray'. -/
def fnExactTransposeArrayCard : Claim7 := { stood := { row := fnExactTransposeArrayRow, standIns := [], harness := (true, "9818f7463eb65a0ed4df3217c92b59e2c4204ba5fedb7d245d176dfee4f81b06"), looks := true }, kinds := [], alts := [], laidByText := true, laidKinds := [.data, .data, .data, .sentinel, .sentinel], laidTests := true, laidLooks := .later }
def FnExactTransposeArrayCardSaid : Prop := Claim7.holds Tryd.pinned (.plain (OpenSpec.ofChange fnExactTransposeArraySpec)) fnExactTransposeArrayCard

/-- THE TIED CARD OF 'laws.FnExactMultiplyArrays'. -/
def fnExactMultiplyArraysCard : Claim7 := { stood := { row := fnExactMultiplyArraysRow, standIns := [], harness := (true, "9818f7463eb65a0ed4df3217c92b59e2c4204ba5fedb7d245d176dfee4f81b06"), looks := true }, kinds := [], alts := [], laidByText := true, laidKinds := [.data, .data, .data, .sentinel, .sentinel], laidTests := true, laidLooks := .later }
def FnExactMultiplyArraysCardSaid : Prop := Claim7.holds Tryd.pinned (.plain (OpenSpec.ofChange fnExactMultiplyArraysSpec)) fnExactMultiplyArraysCard

/-- THE TIED CARD OF 'laws.FnLayOut'. -/
def fnLayOutCard : Claim7 := { stood := { row := fnLayOutRow, standIns := [], harness := (true, "9818f7463eb65a0ed4df3217c92b59e2c4204ba5fedb7d245d176dfee4f81b06"), looks := true }, kinds := [], alts := [], laidByText := true, laidKinds := [.data, .data, .data, .sentinel, .sentinel], laidTests := true, laidLooks := .later }
def FnLayOutCardSaid : Prop := Claim7.holds Tryd.pinned (.plain (OpenSpec.ofChange fnLayOutSpec)) fnLayOutCard

/-- THE TIED CARD OF 'laws.FnReshape'. -/
def fnReshapeCard : Claim7 := { stood := { row := fnReshapeRow, standIns := [], harness := (true, "9818f7463eb65a0ed4df3217c92b59e2c4204ba5fedb7d245d176dfee4f81b06"), looks := true }, kinds := [], alts := [], laidByText := true, laidKinds := [.data, .data, .data, .sentinel, .sentinel], laidTests := true, laidLooks := .later }
def FnReshapeCardSaid : Prop := Claim7.holds Tryd.pinned (.plain (OpenSpec.ofChange fnReshapeSpec)) fnReshapeCard

/-- THE TIED CARD OF 'laws.FnFoldUp'. -/
def fnFoldUpCard : Claim7 := { stood := { row := fnFoldUpRow, standIns := [], harness := (true, "9818f7463eb65a0ed4df3217c92b59e2c4204ba5fedb7d245d176dfee4f81b06"), looks := true }, kinds := [], alts := [], laidByText := true, laidKinds := [.data, .data, .data, .sentinel, .sentinel], laidTests := true, laidLooks := .later }
def FnFoldUpCardSaid : Prop := Claim7.holds Tryd.pinned (.plain (OpenSpec.ofChange fnFoldUpSpec)) fnFoldUpCard

/-- THE TIED CARD OF 'laws.FnTranspose'. -/
def fnTransposeCard : Claim7 := { stood := { row := fnTransposeRow, standIns := [], harness := (true, "9818f7463eb65a0ed4df3217c92b59e2c4204ba5fedb7d245d176dfee4f81b06"), looks := true }, kinds := [], alts := [], laidByText := true, laidKinds := [.data, .data, .data, .sentinel, .sentinel], laidTests := true, laidLooks := .later }
def FnTransposeCardSaid : Prop := Claim7.holds Tryd.pinned (.plain (OpenSpec.ofChange fnTransposeSpec)) fnTransposeCard

/-- THE SECOND FORM's CARD OF 'laws.FnExactCutArray'. -/
def fnExactCutArrayUptoCard : Claim7 := { stood := { row := fnExactCutArrayUptoRow, standIns := [], harness := (true, "9818f7463eb65a0ed4df3217c92b59e2c4204ba5fedb7d245d176dfee4f81b06"), looks := true }, kinds := [], alts := [], laidByText := true, laidKinds := [.data, .data, .data, .sentinel, .sentinel], laidTests := true, laidLooks := .later }
def FnExactCutArrayUptoCardSaid : Prop := Claim7.holds Tryd.pinned (.plain (OpenSpec.upto fnExactCutArraySpec)) fnExactCutArrayUptoCard

/-- THE SECOND FORM's CARD OF 'laws.FnExactPackVector'. -/
def fnExactPackVectorUptoCard : Claim7 := { stood := { row := fnExactPackVectorUptoRow, standIns := [], harness := (true, "9818f7463eb65a0ed4df3217c92b59e2c4204ba5fedb7d245d176dfee4f81b06"), looks := true }, kinds := [], alts := [], laidByText := true, laidKinds := [.data, .data, .data, .sentinel, .sentinel], laidTests := true, laidLooks := .later }
def FnExactPackVectorUptoCardSaid : Prop := Claim7.holds Tryd.pinned (.plain (OpenSpec.upto fnExactPackVectorSpec)) fnExactPackVectorUptoCard

/-- THE SECOND FORM's CARD OF 'laws.FnMakeArray'. -/
def fnMakeArrayUptoCard : Claim7 := { stood := { row := fnMakeArrayUptoRow, standIns := [], harness := (true, "9818f7463eb65a0ed4df3217c92b59e2c4204ba5fedb7d245d176dfee4f81b06"), looks := true }, kinds := [], alts := [], laidByText := true, laidKinds := [.data, .data, .data, .sentinel, .sentinel], laidTests := true, laidLooks := .later }
def FnMakeArrayUptoCardSaid : Prop := Claim7.holds Tryd.pinned (.plain (OpenSpec.upto fnMakeArraySpec)) fnMakeArrayUptoCard

/-- THE SECOND FORM's CARD OF 'laws.FnJoin'. -/
def fnJoinUptoCard : Claim7 := { stood := { row := fnJoinUptoRow, standIns := [], harness := (true, "9818f7463eb65a0ed4df3217c92b59e2c4204ba5fedb7d245d176dfee4f81b06"), looks := true }, kinds := [], alts := [], laidByText := true, laidKinds := [.data, .data, .data, .sentinel, .sentinel], laidTests := true, laidLooks := .later }
def FnJoinUptoCardSaid : Prop := Claim7.holds Tryd.pinned (.plain (OpenSpec.upto fnJoinSpec)) fnJoinUptoCard

/-- THE SECOND FORM's CARD OF 'laws.FnExactReshapeArray'. -/
def fnExactReshapeArrayUptoCard : Claim7 := { stood := { row := fnExactReshapeArrayUptoRow, standIns := [], harness := (true, "9818f7463eb65a0ed4df3217c92b59e2c4204ba5fedb7d245d176dfee4f81b06"), looks := true }, kinds := [], alts := [], laidByText := true, laidKinds := [.data, .data, .data, .sentinel, .sentinel], laidTests := true, laidLooks := .later }
def FnExactReshapeArrayUptoCardSaid : Prop := Claim7.holds Tryd.pinned (.plain (OpenSpec.upto fnExactReshapeArraySpec)) fnExactReshapeArrayUptoCard

/-- THE SECOND FORM's CARD OF 'laws.FnFlatten'. -/
def fnFlattenUptoCard : Claim7 := { stood := { row := fnFlattenUptoRow, standIns := [], harness := (true, "9818f7463eb65a0ed4df3217c92b59e2c4204ba5fedb7d245d176dfee4f81b06"), looks := true }, kinds := [], alts := [], laidByText := true, laidKinds := [.data, .data, .data, .sentinel, .sentinel], laidTests := true, laidLooks := .later }
def FnFlattenUptoCardSaid : Prop := Claim7.holds Tryd.pinned (.plain (OpenSpec.upto fnFlattenSpec)) fnFlattenUptoCard

/-- THE SECOND FORM's CARD OF 'laws.FnExactTransposeArray'. -/
def fnExactTransposeArrayUptoCard : Claim7 := { stood := { row := fnExactTransposeArrayUptoRow, standIns := [], harness := (true, "9818f7463eb65a0ed4df3217c92b59e2c4204ba5fedb7d245d176dfee4f81b06"), looks := true }, kinds := [], alts := [], laidByText := true, laidKinds := [.data, .data, .data, .sentinel, .sentinel], laidTests := true, laidLooks := .later }
def FnExactTransposeArrayUptoCardSaid : Prop := Claim7.holds Tryd.pinned (.plain (OpenSpec.upto fnExactTransposeArraySpec)) fnExactTransposeArrayUptoCard

/-- THE SECOND FORM's CARD OF 'laws.FnExactMultiplyArrays'. -/
def fnExactMultiplyArraysUptoCard : Claim7 := { stood := { row := fnExactMultiplyArraysUptoRow, standIns := [], harness := (true, "9818f7463eb65a0ed4df3217c92b59e2c4204ba5fedb7d245d176dfee4f81b06"), looks := true }, kinds := [], alts := [], laidByText := true, laidKinds := [.data, .data, .data, .sentinel, .sentinel], laidTests := true, laidLooks := .later }
def FnExactMultiplyArraysUptoCardSaid : Prop := Claim7.holds Tryd.pinned (.plain (OpenSpec.upto fnExactMultiplyArraysSpec)) fnExactMultiplyArraysUptoCard

/-- THE SECOND FORM's CARD OF 'laws.FnLayOut'. -/
def fnLayOutUptoCard : Claim7 := { stood := { row := fnLayOutUptoRow, standIns := [], harness := (true, "9818f7463eb65a0ed4df3217c92b59e2c4204ba5fedb7d245d176dfee4f81b06"), looks := true }, kinds := [], alts := [], laidByText := true, laidKinds := [.data, .data, .data, .sentinel, .sentinel], laidTests := true, laidLooks := .later }
def FnLayOutUptoCardSaid : Prop := Claim7.holds Tryd.pinned (.plain (OpenSpec.upto fnLayOutSpec)) fnLayOutUptoCard

/-- THE SECOND FORM's CARD OF 'laws.FnReshape'. -/
def fnReshapeUptoCard : Claim7 := { stood := { row := fnReshapeUptoRow, standIns := [], harness := (true, "9818f7463eb65a0ed4df3217c92b59e2c4204ba5fedb7d245d176dfee4f81b06"), looks := true }, kinds := [], alts := [], laidByText := true, laidKinds := [.data, .data, .data, .sentinel, .sentinel], laidTests := true, laidLooks := .later }
def FnReshapeUptoCardSaid : Prop := Claim7.holds Tryd.pinned (.plain (OpenSpec.upto fnReshapeSpec)) fnReshapeUptoCard

/-- THE SECOND FORM's CARD OF 'laws.FnFoldUp'. -/
def fnFoldUpUptoCard : Claim7 := { stood := { row := fnFoldUpUptoRow, standIns := [], harness := (true, "9818f7463eb65a0ed4df3217c92b59e2c4204ba5fedb7d245d176dfee4f81b06"), looks := true }, kinds := [], alts := [], laidByText := true, laidKinds := [.data, .data, .data, .sentinel, .sentinel], laidTests := true, laidLooks := .later }
def FnFoldUpUptoCardSaid : Prop := Claim7.holds Tryd.pinned (.plain (OpenSpec.upto fnFoldUpSpec)) fnFoldUpUptoCard

/-- THE SECOND FORM's CARD OF 'laws.FnTranspose'. -/
def fnTransposeUptoCard : Claim7 := { stood := { row := fnTransposeUptoRow, standIns := [], harness := (true, "9818f7463eb65a0ed4df3217c92b59e2c4204ba5fedb7d245d176dfee4f81b06"), looks := true }, kinds := [], alts := [], laidByText := true, laidKinds := [.data, .data, .data, .sentinel, .sentinel], laidTests := true, laidLooks := .later }
def FnTransposeUptoCardSaid : Prop := Claim7.holds Tryd.pinned (.plain (OpenSpec.upto fnTransposeSpec)) fnTransposeUptoCard
end Rows
end Go.Proofs.YtmjoigpnnechgaaDoor
