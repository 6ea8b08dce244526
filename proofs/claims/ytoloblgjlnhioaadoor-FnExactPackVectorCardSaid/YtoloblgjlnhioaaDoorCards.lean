/-
  DERIVED. GIVEN WITH THE SEED: THE CARDS: each row of YtoloblgjlnhioaaDoorRows.lean that lists a variable, with what it lists TIED to the program's text (the seventh form; the later family's looks); each row that meets fmt, with fmt's text TOLD by the authors' own Lean function (tested against real Go, not proved from fmt's source: count such statements apart). THE CARD IS WHAT COUNTS. Prove the row's statement (the work); the ties are given (YtoloblgjlnhioaaDoorTie.lean); close each card by the builder's one call (the guide's Derived/Test/ToyasCard.lean, 'card_holds'). Laid BY PROGRAM, IN A SANDBOX (cutbox-door.mjs). By AI agents, Wed Nov 11 2026. No macro, syntax, notation, axiom, sorry.
-/
import Derived.Test.YtoloblgjlnhioaaDoorRows
import GoSem.ClaimSeven
namespace Go.Proofs.YtoloblgjlnhioaaDoor
namespace Rows

/-- THE TIED CARD OF 'laws.FnExactPackVector'. -/
def fnExactPackVectorCard : Claim7 := { stood := { row := fnExactPackVectorRow, standIns := [], harness := (true, "33e17b95678610fdab749ce0ec0c07089a1518207e3c975aeb7bc2c60658a72f"), looks := true }, kinds := [], alts := [], laidByText := true, laidKinds := [.data, .data, .data, .sentinel, .sentinel], laidTests := true, laidLooks := .later }
def FnExactPackVectorCardSaid : Prop := Claim7.holds Tryd.pinned (.plain (OpenSpec.ofChange fnExactPackVectorSpec)) fnExactPackVectorCard

/-- THE TIED CARD OF 'laws.FnFoldUp'. -/
def fnFoldUpCard : Claim7 := { stood := { row := fnFoldUpRow, standIns := [], harness := (true, "33e17b95678610fdab749ce0ec0c07089a1518207e3c975aeb7bc2c60658a72f"), looks := true }, kinds := [], alts := [], laidByText := true, laidKinds := [.data, .data, .data, .sentinel, .sentinel], laidTests := true, laidLooks := .later }
def FnFoldUpCardSaid : Prop := Claim7.holds Tryd.pinned (.plain (OpenSpec.ofChange fnFoldUpSpec)) fnFoldUpCard

/-- THE TIED CARD OF 'laws.FnPadCut'. -/
def fnPadCutCard : Claim7 := { stood := { row := fnPadCutRow, standIns := [], harness := (true, "33e17b95678610fdab749ce0ec0c07089a1518207e3c975aeb7bc2c60658a72f"), looks := true }, kinds := [], alts := [], laidByText := true, laidKinds := [.data, .data, .data, .sentinel, .sentinel], laidTests := true, laidLooks := .later }
def FnPadCutCardSaid : Prop := Claim7.holds Tryd.pinned (.plain (OpenSpec.ofChange fnPadCutSpec)) fnPadCutCard

/-- THE TIED CARD OF 'laws.FnExactApplySign'. -/
def fnExactApplySignCard : Claim7 := { stood := { row := fnExactApplySignRow, standIns := [], harness := (true, "33e17b95678610fdab749ce0ec0c07089a1518207e3c975aeb7bc2c60658a72f"), looks := true }, kinds := [], alts := [], laidByText := true, laidKinds := [.data, .data, .data, .sentinel, .sentinel], laidTests := true, laidLooks := .later }
def FnExactApplySignCardSaid : Prop := Claim7.holds Tryd.pinned (.plain (OpenSpec.ofChange fnExactApplySignSpec)) fnExactApplySignCard

/-- THE SECOND FORM's CARD OF 'laws.FnExactPackVector'. -/
def fnExactPackVectorUptoCard : Claim7 := { stood := { row := fnExactPackVectorUptoRow, standIns := [], harness := (true, "33e17b95678610fdab749ce0ec0c07089a1518207e3c975aeb7bc2c60658a72f"), looks := true }, kinds := [], alts := [], laidByText := true, laidKinds := [.data, .data, .data, .sentinel, .sentinel], laidTests := true, laidLooks := .later }
def FnExactPackVectorUptoCardSaid : Prop := Claim7.holds Tryd.pinned (.plain (OpenSpec.upto fnExactPackVectorSpec)) fnExactPackVectorUptoCard

/-- THE SECOND FORM's CARD OF 'laws.FnFoldUp'. -/
def fnFoldUpUptoCard : Claim7 := { stood := { row := fnFoldUpUptoRow, standIns := [], harness := (true, "33e17b95678610fdab749ce0ec0c07089a1518207e3c975aeb7bc2c60658a72f"), looks := true }, kinds := [], alts := [], laidByText := true, laidKinds := [.data, .data, .data, .sentinel, .sentinel], laidTests := true, laidLooks := .later }
def FnFoldUpUptoCardSaid : Prop := Claim7.holds Tryd.pinned (.plain (OpenSpec.upto fnFoldUpSpec)) fnFoldUpUptoCard

/-- THE SECOND FORM's CARD OF 'laws.FnPadCut'. -/
def fnPadCutUptoCard : Claim7 := { stood := { row := fnPadCutUptoRow, standIns := [], harness := (true, "33e17b95678610fdab749ce0ec0c07089a1518207e3c975aeb7bc2c60658a72f"), looks := true }, kinds := [], alts := [], laidByText := true, laidKinds := [.data, .data, .data, .sentinel, .sentinel], laidTests := true, laidLooks := .later }
def FnPadCutUptoCardSaid : Prop := Claim7.holds Tryd.pinned (.plain (OpenSpec.upto fnPadCutSpec)) fnPadCutUptoCard

/-- THE SECOND FORM's CARD OF 'laws.FnExactApplySign'. -/
def fnExactApplySignUptoCard : Claim7 := { stood := { row := fnExactApplySignUptoRow, standIns := [], harness := (true, "33e17b95678610fdab749ce0ec0c07089a1518207e3c975aeb7bc2c60658a72f"), looks := true }, kinds := [], alts := [], laidByText := true, laidKinds := [.data, .data, .data, .sentinel, .sentinel], laidTests := true, laidLooks := .later }
def FnExactApplySignUptoCardSaid : Prop := Claim7.holds Tryd.pinned (.plain (OpenSpec.upto fnExactApplySignSpec)) fnExactApplySignUptoCard
end Rows
end Go.Proofs.YtoloblgjlnhioaaDoor
