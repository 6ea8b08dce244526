/-
  DERIVED. GIVEN WITH THE SEED: THE CARDS: each row of YtjkngiciigdheaaGreatDoorRows.lean that lists a variable, with what it lists TIED to the program's text (the seventh form; the later family's looks); each row that meets fmt, with fmt's text TOLD by the authors' own Lean function (tested against real Go, not proved from fmt's source: count such statements apart). THE CARD IS WHAT COUNTS. Prove the row's statement (the work); the ties are given (YtjkngiciigdheaaGreatDoorTie.lean); close each card by the builder's one call (the guide's Derived/Test/ToyasCard.lean, 'card_holds'). Laid BY PROGRAM, IN A SANDBOX (cutbox-door.mjs). By AI agents, Wed Nov 11 2026. No macro, syntax, notation, axiom, sorry.
-/
import Derived.Test.YtjkngiciigdheaaGreatDoorRows
import GoSem.ClaimSeven
namespace Go.Proofs.YtjkngiciigdheaaGreatDoor
namespace Rows

/-- THE TIED CARD OF 'laws.FnDoInstruction'. -/
def fnDoInstructionCard : Claim7 := { stood := { row := fnDoInstructionRow, standIns := [], harness := (true, "1fbe67b3c689b89e8ca72deda06bb0e6188bc070766437ce7d79897862b491dd"), looks := true }, kinds := [], alts := [], laidByText := true, laidKinds := [.data, .data, .data, .sentinel, .sentinel], laidTests := true, laidLooks := .later }
def FnDoInstructionCardSaid : Prop := Claim7.holds Tryz.pinned (.plain (OpenSpec.ofChange fnDoInstructionSpec)) fnDoInstructionCard

/-- THE TIED CARD OF 'laws.FnGivesSame'. -/
def fnGivesSameCard : Claim7 := { stood := { row := fnGivesSameRow, standIns := [], harness := (true, "1fbe67b3c689b89e8ca72deda06bb0e6188bc070766437ce7d79897862b491dd"), looks := true }, kinds := [], alts := [], laidByText := true, laidKinds := [.data, .data, .data, .sentinel, .sentinel], laidTests := true, laidLooks := .later }
def FnGivesSameCardSaid : Prop := Claim7.holds Tryz.pinned (.plain (OpenSpec.ofChange fnGivesSameSpec)) fnGivesSameCard

/-- THE TIED CARD OF 'laws.FnLoop'. -/
def fnLoopCard : Claim7 := { stood := { row := fnLoopRow, standIns := [], harness := (true, "1fbe67b3c689b89e8ca72deda06bb0e6188bc070766437ce7d79897862b491dd"), looks := true }, kinds := [], alts := [], laidByText := true, laidKinds := [.data, .data, .data, .sentinel, .sentinel], laidTests := true, laidLooks := .later }
def FnLoopCardSaid : Prop := Claim7.holds Tryz.pinned (.plain (OpenSpec.ofChange fnLoopSpec)) fnLoopCard

/-- THE TIED CARD OF 'laws.FnRunTerm'. -/
def fnRunTermCard : Claim7 := { stood := { row := fnRunTermRow, standIns := [], harness := (true, "1fbe67b3c689b89e8ca72deda06bb0e6188bc070766437ce7d79897862b491dd"), looks := true }, kinds := [], alts := [], laidByText := true, laidKinds := [.data, .data, .data, .sentinel, .sentinel], laidTests := true, laidLooks := .later }
def FnRunTermCardSaid : Prop := Claim7.holds Tryz.pinned (.plain (OpenSpec.ofChange fnRunTermSpec)) fnRunTermCard

/-- THE SECOND FORM's CARD OF 'laws.FnDoInstruction'. -/
def fnDoInstructionUptoCard : Claim7 := { stood := { row := fnDoInstructionUptoRow, standIns := [], harness := (true, "1fbe67b3c689b89e8ca72deda06bb0e6188bc070766437ce7d79897862b491dd"), looks := true }, kinds := [], alts := [], laidByText := true, laidKinds := [.data, .data, .data, .sentinel, .sentinel], laidTests := true, laidLooks := .later }
def FnDoInstructionUptoCardSaid : Prop := Claim7.holds Tryz.pinned (.plain (OpenSpec.upto fnDoInstructionSpec)) fnDoInstructionUptoCard

/-- THE SECOND FORM's CARD OF 'laws.FnGivesSame'. -/
def fnGivesSameUptoCard : Claim7 := { stood := { row := fnGivesSameUptoRow, standIns := [], harness := (true, "1fbe67b3c689b89e8ca72deda06bb0e6188bc070766437ce7d79897862b491dd"), looks := true }, kinds := [], alts := [], laidByText := true, laidKinds := [.data, .data, .data, .sentinel, .sentinel], laidTests := true, laidLooks := .later }
def FnGivesSameUptoCardSaid : Prop := Claim7.holds Tryz.pinned (.plain (OpenSpec.upto fnGivesSameSpec)) fnGivesSameUptoCard

/-- THE SECOND FORM's CARD OF 'laws.FnLoop'. -/
def fnLoopUptoCard : Claim7 := { stood := { row := fnLoopUptoRow, standIns := [], harness := (true, "1fbe67b3c689b89e8ca72deda06bb0e6188bc070766437ce7d79897862b491dd"), looks := true }, kinds := [], alts := [], laidByText := true, laidKinds := [.data, .data, .data, .sentinel, .sentinel], laidTests := true, laidLooks := .later }
def FnLoopUptoCardSaid : Prop := Claim7.holds Tryz.pinned (.plain (OpenSpec.upto fnLoopSpec)) fnLoopUptoCard

/-- THE SECOND FORM's CARD OF 'laws.FnRunTerm'. -/
def fnRunTermUptoCard : Claim7 := { stood := { row := fnRunTermUptoRow, standIns := [], harness := (true, "1fbe67b3c689b89e8ca72deda06bb0e6188bc070766437ce7d79897862b491dd"), looks := true }, kinds := [], alts := [], laidByText := true, laidKinds := [.data, .data, .data, .sentinel, .sentinel], laidTests := true, laidLooks := .later }
def FnRunTermUptoCardSaid : Prop := Claim7.holds Tryz.pinned (.plain (OpenSpec.upto fnRunTermSpec)) fnRunTermUptoCard
end Rows
end Go.Proofs.YtjkngiciigdheaaGreatDoor
