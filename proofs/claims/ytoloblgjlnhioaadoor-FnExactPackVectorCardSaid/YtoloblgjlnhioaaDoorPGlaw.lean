/- What the rows' list of variables gives, and a start that meets it. -/
import Derived.Test.YtoloblgjlnhioaaDoorPGstr
import Derived.Test.YtoloblgjlnhioaaDoorRows
import Derived.Deep.DeepHandedRow
import Derived.Deep.DeepWitnessRowRef
import Derived.Lib.LaidTab
import Derived.Lib.LaidU8
import Derived.LaidMore
import Derived.LaidSub
import Derived.Stop.LaidErr
import Derived.ProofKit
namespace Go.Proofs.YtoloblgjlnhioaaDoor.P
open Go.RowKit Go.Proofs.YtoloblgjlnhioaaDoorW.PrintWords Go.Proofs.YtoloblgjlnhioaaDoorW.PrintLast Go.Proofs.YtoloblgjlnhioaaDoorW.PrintMore
set_option linter.unusedVariables false

theorem own : ownKnob Tryd.prog.godebug = none := by kernel_rfl
theorem laidOut : laidOutB Tryd.prog = true := by kernel_rfl
theorem gPowType : (Tryd.prog.globals[3]?).map (·.type) = some 182 := by kernel_rfl
theorem cellsPow : Tryd.prog.cellsOf 182 = 20 := by kernel_rfl
theorem cellsU64 : Tryd.prog.cellsOf 167 = 1 := by kernel_rfl
theorem gSyn : Tryd.prog.globalNamed "strconv.ErrSyntax" = some 1 := by kernel_rfl
theorem gRan : Tryd.prog.globalNamed "strconv.ErrRange" = some 2 := by kernel_rfl
theorem gSynType : (Tryd.prog.globals[1]?).map (·.type) = some 136 := by kernel_rfl
theorem gRanType : (Tryd.prog.globals[2]?).map (·.type) = some 136 := by kernel_rfl
theorem cellsErr : Tryd.prog.cellsOf 192 = 1 := by kernel_rfl
theorem cellsStr : Tryd.prog.cellsOf 9 = 1 := by kernel_rfl
theorem star : "*" ++ "errors.errorString" = "*errors.errorString" := by decide
theorem rowErr (u : TypeId) (h : Tryd.prog.typeName? 3 u = some "*errors.errorString") : u = 190 :=
 typeName_ptr_named (nm := "errors.errorString") (by rw [star]; kernel_rfl) (by kernel_rfl) (by decide) u (by rw [star]; exact h)

/-- What the list says, item by item: the table, the two errors. -/
theorem laidW_of {l : List (String × DataW Unit)} {W : World} (h : laidMetH Tryd.prog l W)
   (h0 : l.filter (fun x => x.2.handleName?.isNone) = l)
   (h1 : l.filter (fun x => x.1 == "internal/strconv.uint64pow10") = [("internal/strconv.uint64pow10", Rows.laid_internal_strconv_uint64pow10)])
   (h2 : l.filter (fun x => x.1 == "strconv.ErrSyntax") = [("strconv.ErrSyntax", Rows.laid_strconv_ErrSyntax)])
   (h3 : l.filter (fun x => x.1 == "strconv.ErrRange") = [("strconv.ErrRange", Rows.laid_strconv_ErrRange)]) : LaidW W := by
 have hm := (laidMetH_iff.1 h).1
 rw [h0] at hm
 have m1 := hm.filter (fun x => x.1 == "internal/strconv.uint64pow10")
 have m2 := hm.filter (fun x => x.1 == "strconv.ErrSyntax")
 have m3 := hm.filter (fun x => x.1 == "strconv.ErrRange")
 rw [h1] at m1
 rw [h2] at m2
 rw [h3] at m3
 refine ⟨Lib.tabIs_of_head (rest := []) gPow gPowType Tryd.underlying182 Tryd.underlying167 cellsU64 cellsPow m1, ?_, ?_⟩
 · obtain ⟨a, s, hv, _⟩ := laid_sentinel m2 gSyn gSynType Tryd.underlying136 rowErr Tryd.underlying190 Tryd.underlying192 rfl rfl Tryd.underlying9 cellsErr cellsStr
   exact ⟨_, _, by simpa using World.var?_cell gSyn hv 0⟩
 · obtain ⟨a, s, hv, _⟩ := laid_sentinel m3 gRan gRanType Tryd.underlying136 rowErr Tryd.underlying190 Tryd.underlying192 rfl rfl Tryd.underlying9 cellsErr cellsStr
   exact ⟨_, _, by simpa using World.var?_cell gRan hv 0⟩

/-- A row of whole numbers as an argument reads. -/
def IsRow (k : IntKind) (w : World) (a : Option Addr) (len cap : Nat) (zs : List Int) : Prop :=
 (a = none ∧ len = 0 ∧ cap = 0 ∧ zs = []) ∨
 ∃ x, a = some x ∧ len ≤ cap ∧ cap ≤ maxLen ∧ zs.length = cap ∧ (∀ i, i < zs.length → w.cell? (x.add i) = some (.int k (zs.getD i 0))) ∧ ∀ n ∈ zs, (Lit.int k n).wf = true
end Go.Proofs.YtoloblgjlnhioaaDoor.P
