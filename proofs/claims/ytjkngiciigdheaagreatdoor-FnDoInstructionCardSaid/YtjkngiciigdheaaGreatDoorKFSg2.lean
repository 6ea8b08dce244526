/- What is laid: the package-level variables that the library's functions read. -/
import Derived.Test.YtjkngiciigdheaaGreatDoorKFS2
import Derived.Test.YtjkngiciigdheaaGreatDoorProg
import Derived.Test.YtjkngiciigdheaaGreatDoorKFShelf2
import Derived.Lib.SmallJoins
import Derived.Lib.AppendIntMem
import Derived.Lib.AtoiErrMem
namespace Go.Proofs.YtjkngiciigdheaaGreatDoor.Sg
open Go.RowKit
set_option linter.unusedVariables false
set_option linter.unusedSimpArgs false
theorem gPow : Tryz.prog.globalNamed "internal/strconv.uint64pow10" = some 3 := by kernel_rfl
def LaidW (w : World) : Prop :=
 Lib.TabIs Tryz.prog w "internal/strconv.uint64pow10" .u64 Lib.pow10Tab ∧ (∃ tp p, w.cell? ⟨1, 0, none⟩ = some (.iface tp p)) ∧ (∃ tp p, w.cell? ⟨2, 0, none⟩ = some (.iface tp p)) ∧ ∃ m, w.cell? ⟨0, 0, none⟩ = some (.int .i64 m)
def LaidL : Nat := max 3 (max 1 (max 2 0)) + 1
theorem LaidW.size (w : World) (h : LaidW w) : LaidL ≤ w.heap.size := by
 obtain ⟨h1, ⟨t2, p2, h2⟩, ⟨t3, p3, h3⟩, ⟨m, h5⟩⟩ := h
 have l5 := World.block_lt_of_cell? _ _ h5
 have l2 := World.block_lt_of_cell? _ _ h2
 have l3 := World.block_lt_of_cell? _ _ h3
 have l1 : 3 < w.heap.size := by
  unfold Lib.TabIs World.var? at h1
  rw [gPow] at h1
  simp only [Option.bind_some] at h1
  rcases Nat.lt_or_ge 3 w.heap.size with hlt | hge
  · exact hlt
  · rw [Array.getElem?_eq_none hge] at h1; cases h1
 simp only [LaidL] at *
 omega
theorem LaidW.stay (w w' : World) (h : LaidW w) (hs : ∀ k, k < LaidL → w'.heap[k]? = w.heap[k]?) : LaidW w' := by
 obtain ⟨h1, ⟨t2, p2, h2⟩, ⟨t3, p3, h3⟩, ⟨m, h5⟩⟩ := h
 refine ⟨?_, ⟨t2, p2, ?_⟩, ⟨t3, p3, ?_⟩, ⟨m, ?_⟩⟩
 · unfold Lib.TabIs World.var? at h1 ⊢
   rw [gPow] at h1 ⊢
   simp only [Option.bind_some] at h1 ⊢
   rw [hs 3 (by decide)]
   exact h1
 · rw [World.cell?_of_block (hs 1 (by decide))]
   exact h2
 · rw [World.cell?_of_block (hs 2 (by decide))]
   exact h3
 · rw [World.cell?_of_block (hs 0 (by decide))]
   exact h5
end Go.Proofs.YtjkngiciigdheaaGreatDoor.Sg
