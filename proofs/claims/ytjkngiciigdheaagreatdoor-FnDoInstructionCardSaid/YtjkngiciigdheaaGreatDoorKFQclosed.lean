/- Two closed facts of the program that every row asks for and that are dear: each by itself, so that a row's text needs less room. -/
import Derived.Test.YtjkngiciigdheaaGreatDoorRows
import Derived.JoinedCond
import Derived.KernelRfl
namespace Go.Proofs.YtjkngiciigdheaaGreatDoor.Q
theorem mayEnter : Tryz.pinned.checked.prog.mayEnter = true := by kernel_rfl
theorem makeIs : (Tryz.pinned.checked.prog.make == some Make.cut) = true := by kernel_rfl
theorem liftsIs : Tryz.pinned.checked.prog.liftsFinal = false := by kernel_rfl
end Go.Proofs.YtjkngiciigdheaaGreatDoor.Q
