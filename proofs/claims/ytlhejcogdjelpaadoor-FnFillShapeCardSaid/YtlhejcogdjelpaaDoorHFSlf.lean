/- The contract of slices.ContainsFunc over whole numbers, laid at this program. -/
import Derived.Shelf.SlGeneric
import Derived.Shelf.SlicesE.IndexFunc
import Derived.Ground.SlgfProg
import Derived.Test.YtlhejcogdjelpaaDoorProg
namespace Go.Proofs
open Go.Shelf
def Tryd.lays61_ren : Go.Shelf.Ren := ⟨fun | 8 => 61 | 6 => 74 | n => n, fun | 22 => 25 | 23 => 3 | 25 => 96 | 4 => 4 | 3 => 3 | 0 => 0 | n => n, fun | n => n⟩
theorem Tryd.lays61 : Go.Proofs.SlLaysH.n8 Tryd.prog Tryd.lays61_ren := {
 mixed := by kernel_rfl
 f6 := ⟨Tryd.f74.name, by decide, Tryd.func74.trans (congrArg some (by kernel_rfl))⟩
 f8 := ⟨Tryd.f61.name, by decide, Tryd.func61.trans (congrArg some (by kernel_rfl))⟩
 t0 := Tryd.underlying0
 a0 := Tryd.isAgg0
 z0 := Tryd.sizeOf0
 v0 := Tryd.zeroValue0
 t3 := Tryd.underlying3
 a3 := Tryd.isAgg3
 z3 := Tryd.sizeOf3
 v3 := Tryd.zeroValue3
 t4 := Tryd.underlying4
 a4 := Tryd.isAgg4
 z4 := Tryd.sizeOf4
 v4 := Tryd.zeroValue4
 t22 := Tryd.underlying25
 a22 := Tryd.isAgg25
 z22 := Tryd.sizeOf25
 v22 := Tryd.zeroValue25
 a23 := Tryd.isAgg3
 z23 := Tryd.sizeOf3
 t25 := Tryd.underlying96
 a25 := Tryd.isAgg96
 z25 := Tryd.sizeOf96
 v25 := Tryd.zeroValue96 }
end Go.Proofs
