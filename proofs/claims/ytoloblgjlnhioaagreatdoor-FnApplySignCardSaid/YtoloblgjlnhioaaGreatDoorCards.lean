/-
  DERIVED. GIVEN WITH THE SEED: THE CARDS: each row of YtoloblgjlnhioaaGreatDoorRows.lean that lists a variable, with what it lists TIED to the program's text (the seventh form; the later family's looks); each row that meets fmt, with fmt's text TOLD by the authors' own Lean function (tested against real Go, not proved from fmt's source: count such statements apart). THE CARD IS WHAT COUNTS. Prove the row's statement (the work); the ties are given (YtoloblgjlnhioaaGreatDoorTie.lean); close each card by the builder's one call (the guide's Derived/Test/ToyasCard.lean, 'card_holds'). Laid BY PROGRAM, IN A SANDBOX (cutbox-door.mjs). By AI agents, Wed Nov 11 2026. No macro, syntax, notation, axiom, sorry.
-/
import Derived.Test.YtoloblgjlnhioaaGreatDoorRows
import GoSem.ClaimSeven
namespace Go.Proofs.YtoloblgjlnhioaaGreatDoor
namespace Rows

/-- THE TIED CARD OF 'laws.FnPackVector'. -/
def fnPackVectorCard : Claim7 := { stood := { row := fnPackVectorRow, standIns := [], harness := (true, "43c3411d4c789557006ee90e1e2d60e83a5ba53ba3e379f93d56639b2f47b808"), looks := true }, kinds := [], alts := [], laidByText := true, laidKinds := [.data, .data, .data, .sentinel, .sentinel], laidTests := true, laidLooks := .later }
def FnPackVectorCardSaid : Prop := Claim7.holds Tryz.pinned (.plain (OpenSpec.ofChange fnPackVectorSpec)) fnPackVectorCard

/-- THE TIED CARD OF 'laws.FnApplySign'. -/
def fnApplySignCard : Claim7 := { stood := { row := fnApplySignRow, standIns := [], harness := (true, "43c3411d4c789557006ee90e1e2d60e83a5ba53ba3e379f93d56639b2f47b808"), looks := true }, kinds := [], alts := [], laidByText := true, laidKinds := [.data, .data, .data, .sentinel, .sentinel], laidTests := true, laidLooks := .later }
def FnApplySignCardSaid : Prop := Claim7.holds Tryz.pinned (.plain (OpenSpec.ofChange fnApplySignSpec)) fnApplySignCard

/-- THE TIED CARD OF 'laws.FnLayoutText'. -/
def fnLayoutTextCard : Claim7 := { stood := { row := fnLayoutTextRow, standIns := [], harness := (true, "43c3411d4c789557006ee90e1e2d60e83a5ba53ba3e379f93d56639b2f47b808"), looks := true }, kinds := [], alts := [], laidByText := true, laidKinds := [.data, .data, .data, .data, .sentinel, .sentinel, .listed, .data, .pinned], laidTests := true, laidLooks := .later }
def FnLayoutTextCardSaid : Prop := Claim7.holds Tryz.pinned (.plain (OpenSpec.ofChange fnLayoutTextSpec)) fnLayoutTextCard

/-- THE SECOND FORM's CARD OF 'laws.FnPackVector'. -/
def fnPackVectorUptoCard : Claim7 := { stood := { row := fnPackVectorUptoRow, standIns := [], harness := (true, "43c3411d4c789557006ee90e1e2d60e83a5ba53ba3e379f93d56639b2f47b808"), looks := true }, kinds := [], alts := [], laidByText := true, laidKinds := [.data, .data, .data, .sentinel, .sentinel], laidTests := true, laidLooks := .later }
def FnPackVectorUptoCardSaid : Prop := Claim7.holds Tryz.pinned (.plain (OpenSpec.upto fnPackVectorSpec)) fnPackVectorUptoCard

/-- THE SECOND FORM's CARD OF 'laws.FnApplySign'. -/
def fnApplySignUptoCard : Claim7 := { stood := { row := fnApplySignUptoRow, standIns := [], harness := (true, "43c3411d4c789557006ee90e1e2d60e83a5ba53ba3e379f93d56639b2f47b808"), looks := true }, kinds := [], alts := [], laidByText := true, laidKinds := [.data, .data, .data, .sentinel, .sentinel], laidTests := true, laidLooks := .later }
def FnApplySignUptoCardSaid : Prop := Claim7.holds Tryz.pinned (.plain (OpenSpec.upto fnApplySignSpec)) fnApplySignUptoCard

/-- THE SECOND FORM's CARD OF 'laws.FnLayoutText'. -/
def fnLayoutTextUptoCard : Claim7 := { stood := { row := fnLayoutTextUptoRow, standIns := [], harness := (true, "43c3411d4c789557006ee90e1e2d60e83a5ba53ba3e379f93d56639b2f47b808"), looks := true }, kinds := [], alts := [], laidByText := true, laidKinds := [.data, .data, .data, .data, .sentinel, .sentinel, .listed, .data, .pinned], laidTests := true, laidLooks := .later }
def FnLayoutTextUptoCardSaid : Prop := Claim7.holds Tryz.pinned (.plain (OpenSpec.upto fnLayoutTextSpec)) fnLayoutTextUptoCard
end Rows
end Go.Proofs.YtoloblgjlnhioaaGreatDoor
