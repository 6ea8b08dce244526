/- The laws' comparison of a list of texts with itself. -/
import Derived.Test.YtmjoigpnnechgaaDoorBQbase
import Derived.Test.YtmjoigpnnechgaaDoorBx7
namespace Go.Proofs.YtmjoigpnnechgaaDoor.B
open Go.RowKit Go.Proofs.YtmjoigpnnechgaaDoorW.PrintWords Go.Proofs.YtmjoigpnnechgaaDoorW.PrintLast Go.Proofs.YtmjoigpnnechgaaDoorW.PrintMore Go.Proofs.YtmjoigpnnechgaaDoor.Q
set_option linter.unusedSimpArgs false
set_option linter.unusedVariables false

theorem faTexts_l0 (l : List ByteArray) (hl : l.length ≤ 1000000000) : ∀ (n i : Nat), l.length - i = n → i ≤ l.length → Ev (fun k => laws_faTexts.l0 k l l (l.length : Int) (i : Int)) true := by
  intro n
  induction n with
  | zero =>
    intro i h hi
    refine Ev.step' ?_; simp only [laws_faTexts.l0]
    exact Ev.neg (by omega) (Ev.val (by simp))
  | succ n ih =>
    intro i h hi
    refine Ev.step' ?_; simp only [laws_faTexts.l0]
    refine Ev.pos (by omega) (Ev.pos (by omega) (Ev.pos (by omega) (Ev.pos (by omega) (Ev.pos (by first | trivial | rfl) ?_))))
    rw [wrapS (by omega) (by omega)]
    exact ih (i + 1) (by omega) (by omega)
theorem faTexts_is (l : List ByteArray) (hl : l.length ≤ 1000000000) : Ev (fun k => laws_faTexts.f k l l) true := by
  unfold laws_faTexts.f
  rw [show mn (l.length : Int) (l.length : Int) = (l.length : Int) by unfold mn; split <;> rfl]
  exact faTexts_l0 l hl _ 0 rfl (by omega)
end Go.Proofs.YtmjoigpnnechgaaDoor.B
