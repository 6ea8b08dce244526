/- Two closed facts of the program that every row asks for and that are dear: each by itself, so that a row's text needs less room. -/
import Derived.Test.YtoloblgjlnhioaaDoorRows
import Derived.JoinedCond
import Derived.KernelRfl
namespace Go.Proofs.YtoloblgjlnhioaaDoor.Q
theorem mayEnter : Tryd.pinned.checked.prog.mayEnter = true := by kernel_rfl
theorem makeIs : (Tryd.pinned.checked.prog.make == some Make.cut) = true := by kernel_rfl
theorem liftsIs : Tryd.pinned.checked.prog.liftsFinal = false := by kernel_rfl
end Go.Proofs.YtoloblgjlnhioaaDoor.Q
