/- The laws' copies and comparisons of slices of numbers. -/
import Derived.Test.YtmjoigpnnechgaaDoorAQbase
import Derived.Test.YtmjoigpnnechgaaDoorAx4
import Derived.Test.YtmjoigpnnechgaaDoorAx7
namespace Go.Proofs.YtmjoigpnnechgaaDoor.A
open Go.RowKit Go.Proofs.YtmjoigpnnechgaaDoorW.PrintWords Go.Proofs.YtmjoigpnnechgaaDoorW.PrintLast Go.Proofs.YtmjoigpnnechgaaDoorW.PrintMore Go.Proofs.YtmjoigpnnechgaaDoor.Q
set_option linter.unusedSimpArgs false
set_option linter.unusedVariables false

theorem rd_at {l : List Int} {i : Nat} (h : i < l.length) : rd l (i : Int) = l[i] := by
  unfold rd
  rw [Int.toNat_natCast, List.getD_eq_getElem?_getD, List.getElem?_eq_getElem h]
  rfl
theorem toIntS_l0 (l : List Int) (hl : l.length ≤ 1000000000) : ∀ (n i : Nat), l.length - i = n → i ≤ l.length → Ev (fun k => laws_toIntS.l0 k l (l.take i ++ List.replicate (l.length - i) 0) (i : Int)) l := by
  intro n
  induction n with
  | zero =>
    intro i h hi
    have : i = l.length := by omega
    subst this
    refine Ev.step' ?_; simp only [laws_toIntS.l0]
    refine Ev.neg (by omega) (Ev.val ?_)
    simp
  | succ n ih =>
    intro i h hi
    have hlt : i < l.length := by omega
    refine Ev.step' ?_; simp only [laws_toIntS.l0]
    refine Ev.pos (by omega) (Ev.pos (by omega) (Ev.pos ?_ ?_))
    · rw [List.length_append, List.length_take, List.length_replicate]; omega
    · rw [rd_at hlt, wrapS (by omega) (by omega), Int.toNat_natCast]
      have e : (l.take i ++ List.replicate (l.length - i) 0).set i l[i] = l.take (i + 1) ++ List.replicate (l.length - (i + 1)) 0 := by
        rw [List.take_succ_eq_append_getElem hlt, List.set_append_right _ _ (by rw [List.length_take]; omega), List.length_take, show i - min i l.length = 0 by omega, show l.length - i = (l.length - (i + 1)) + 1 by omega, List.replicate_succ, List.append_assoc]
        rfl
      rw [e]
      exact ih (i + 1) (by omega) (by omega)
theorem toIntS_is (l : List Int) (hl : l.length ≤ 1000000000) : Ev (fun k => laws_toIntS.f k l) l := by
  unfold laws_toIntS.f
  refine Ev.pos (by omega) (Ev.pos (by omega) ?_)
  have := toIntS_l0 l hl _ 0 rfl (by omega)
  rw [Int.toNat_natCast]
  exact this
theorem eqIntS_l0 (l : List Int) (hl : l.length ≤ 1000000000) : ∀ (n i : Nat), l.length - i = n → i ≤ l.length → Ev (fun k => laws_eqIntS.l0 k l l (i : Int)) true := by
  intro n
  induction n with
  | zero =>
    intro i h hi
    refine Ev.step' ?_; simp only [laws_eqIntS.l0]
    exact Ev.neg (by omega) (Ev.val rfl)
  | succ n ih =>
    intro i h hi
    refine Ev.step' ?_; simp only [laws_eqIntS.l0]
    refine Ev.pos (by omega) (Ev.pos (by omega) (Ev.pos (by omega) (Ev.pos (by first | trivial | rfl) ?_)))
    rw [wrapS (by omega) (by omega)]
    exact ih (i + 1) (by omega) (by omega)
theorem eqIntS_is (l : List Int) (hl : l.length ≤ 1000000000) : Ev (fun k => laws_eqIntS.f k l l) true := by
  unfold laws_eqIntS.f
  exact Ev.pos rfl (eqIntS_l0 l hl _ 0 rfl (by omega))
end Go.Proofs.YtmjoigpnnechgaaDoor.A
