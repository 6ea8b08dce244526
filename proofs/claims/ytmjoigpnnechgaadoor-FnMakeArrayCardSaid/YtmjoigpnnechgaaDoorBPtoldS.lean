/- The reference's teller of an array that is not too long. -/
import Derived.Test.YtmjoigpnnechgaaDoorBPtext
import Derived.Test.YtmjoigpnnechgaaDoorBx8
namespace Go.Proofs.YtmjoigpnnechgaaDoor.B
open Go.RowKit Go.Proofs.YtmjoigpnnechgaaDoorW.PrintWords Go.Proofs.YtmjoigpnnechgaaDoorW.PrintLast Go.Proofs.YtmjoigpnnechgaaDoorW.PrintMore Go.Proofs.YtmjoigpnnechgaaDoor.Q
set_option linter.unusedSimpArgs false
set_option linter.unusedVariables false

theorem toldS_is (d : Nat) (hd : d ≤ 1000) (t : Tr) (hs : Sh d t) (hn : nodes d t ≤ 1000000000) : Ev (fun k => spec_l1Told.f k (cS d t).f0 (cS d t).f1 (d : Int)) (told (text d t)) := by
  unfold spec_l1Told.f told
  refine Ev.bind (textS_is d hd t hs hn) ?_
  by_cases h : (text d t).length ≤ 400
  · rw [if_pos h]
    exact Ev.neg (by rw [BA_size]; omega) (Ev.now _)
  · rw [if_neg h]
    exact Ev.pos (by rw [BA_size]; omega) (Ev.now _)
end Go.Proofs.YtmjoigpnnechgaaDoor.B
