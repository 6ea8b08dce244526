/- The drawing of a number, by its own text: a number below the bound, and one place on. -/
import Derived.Test.YtmjoigpnnechgaaDoorBQbase
import Derived.Test.YtmjoigpnnechgaaDoorBx1
namespace Go.Proofs.YtmjoigpnnechgaaDoor.B
open Go.RowKit Go.Proofs.YtmjoigpnnechgaaDoorW.PrintWords Go.Proofs.YtmjoigpnnechgaaDoorW.PrintLast Go.Proofs.YtmjoigpnnechgaaDoorW.PrintMore Go.Proofs.YtmjoigpnnechgaaDoor.Q
set_option linter.unusedSimpArgs false
set_option linter.unusedVariables false

theorem xor_nn (a b : Nat) (ha : a < 4611686018427387904) (hb : b < 4611686018427387904) : 0 ≤ Go.bits .xor .i64 (a : Int) (b : Int) := by
  have hx : a ^^^ b < 2 ^ 62 := Nat.xor_lt_two_pow (by omega) (by omega)
  have e : ((BitVec.ofInt 64 (a : Int)) ^^^ (BitVec.ofInt 64 (b : Int))).toNat = a ^^^ b := by
    rw [BitVec.toNat_xor, BitVec.toNat_ofInt, BitVec.toNat_ofInt]
    have h1 : ((a : Int) % ((2 ^ 64 : Nat) : Int)).toNat = a := by omega
    have h2 : ((b : Int) % ((2 ^ 64 : Nat) : Int)).toNat = b := by omega
    rw [h1, h2]
  show 0 ≤ IntKind.wrap .i64 (((BitVec.ofInt 64 (a : Int)) ^^^ (BitVec.ofInt 64 (b : Int))).toNat : Int)
  rw [e, IntKind.wrap_i64]
  omega
def Bs (l : List Int) : Prop := l.length ≤ 2000 ∧ ∀ x ∈ l, 0 ≤ x ∧ x ≤ 255
theorem rd_in {l : List Int} (h : Bs l) (i : Int) : 0 ≤ rd l i ∧ rd l i ≤ 255 := by
  unfold rd
  rw [List.getD_eq_getElem?_getD]
  cases hg : l[i.toNat]? with
  | none => simp
  | some x => exact h.2 x (List.mem_of_getElem? hg)
theorem tmod_in {a n : Int} (ha : 0 ≤ a) (hn : 1 ≤ n) : 0 ≤ Int.tmod a n ∧ Int.tmod a n < n := by
  rw [Int.tmod_eq_emod_of_nonneg ha]
  exact ⟨Int.emod_nonneg _ (by omega), Int.emod_lt_of_pos _ (by omega)⟩
theorem tdiv_in {a n : Int} (ha : 0 ≤ a) (hn : 1 ≤ n) : 0 ≤ Int.tdiv a n ∧ Int.tdiv a n ≤ a := by
  rw [Int.tdiv_eq_ediv_of_nonneg ha]
  refine ⟨Int.ediv_nonneg ha (by omega), ?_⟩
  exact Int.ediv_le_self _ ha
theorem pick_is {l : List Int} (h : Bs l) (p : Nat) (hp : p ≤ 1000000000000) (n : Int) : ∃ v : Int, Ev (fun k => spec_l13Rd_pick.f k l (p : Int) n) (v, ((p + 1 : Nat) : Int)) ∧ (1 ≤ n → 0 ≤ v ∧ v < n) ∧ (n < 1 → v = 0) := by
  have hpp : wrap64 ((p : Int) + 1) = ((p + 1 : Nat) : Int) := by rw [wrapS (by omega) (by omega)]; omega
  have hj : Ev (fun k => spec_l13Rd_pick.j0 k n true l ((p + 1 : Nat) : Int)) (0, ((p + 1 : Nat) : Int)) := by
    refine Ev.step' ?_; simp only [spec_l13Rd_pick.j0]
    exact Ev.pos (by first | trivial | rfl) (Ev.now _)
  by_cases hn : n < 1
  · refine ⟨0, ?_, by omega, by omega⟩
    unfold spec_l13Rd_pick.f
    refine Ev.pos hn ?_
    rw [hpp]
    exact hj
  · by_cases hl : l.length = 0
    · refine ⟨0, ?_, by omega, by omega⟩
      unfold spec_l13Rd_pick.f
      refine Ev.neg hn ?_
      rw [hpp, hl]
      exact hj
    · have hlen := h.1
      have hm : wrap64 (((p + 1 : Nat) : Int) - 1) = (p : Int) := by rw [wrapS (by omega) (by omega)]; omega
      have hgo : ∀ v, Ev (fun k => spec_l13Rd_pick.j0 k n false l ((p + 1 : Nat) : Int)) (v, ((p + 1 : Nat) : Int)) → Ev (fun k => spec_l13Rd_pick.f k l (p : Int) n) (v, ((p + 1 : Nat) : Int)) := by
        intro v hv
        unfold spec_l13Rd_pick.f
        refine Ev.neg hn ?_
        rw [hpp, show ((l.length : Int) == 0) = false from beq_false_of_ne (by omega)]
        exact hv
      by_cases hlt : p < l.length
      · have hr := rd_in h (p : Int)
        have ht := tmod_in (a := rd l (p : Int)) hr.1 (n := n) (by omega)
        refine ⟨Int.tmod (rd l (p : Int)) n, hgo _ ?_, fun _ => ht, by omega⟩
        refine Ev.step' ?_; simp only [spec_l13Rd_pick.j0]
        refine Ev.neg (by simp) ?_
        simp only [hm]
        refine Ev.pos (by omega) (Ev.pos (by omega) (Ev.neg (by omega) (Ev.val ?_)))
        rw [wrapS (by omega) (by omega)]
      · have hr1 := rd_in h (Int.tmod (p : Int) (l.length : Int))
        have hr2 := rd_in h (Int.tmod (wrap64 (wrap64 ((p : Int) * 7) + 3)) (l.length : Int))
        have ht1 := tmod_in (a := (p : Int)) (by omega) (n := (l.length : Int)) (by omega)
        have e7 : wrap64 (wrap64 ((p : Int) * 7) + 3) = (p : Int) * 7 + 3 := by
          rw [wrapS (a := (p : Int) * 7) (by omega) (by omega), wrapS (by omega) (by omega)]
        have ht2 := tmod_in (a := (p : Int) * 7 + 3) (by omega) (n := (l.length : Int)) (by omega)
        have htd := tdiv_in (a := (p : Int)) (by omega) (n := (l.length : Int)) (by omega)
        rw [e7] at hr2
        generalize hA : rd l (Int.tmod (p : Int) (l.length : Int)) = A at *
        generalize hB : rd l (Int.tmod ((p : Int) * 7 + 3) (l.length : Int)) = B at *
        generalize hD : Int.tdiv (p : Int) (l.length : Int) = D at *
        have eH : wrap64 (wrap64 (wrap64 (wrap64 (wrap64 A * 131) + wrap64 (wrap64 B * 1117)) + wrap64 ((p : Int) * 29)) + wrap64 (wrap64 D * 53)) = A * 131 + B * 1117 + (p : Int) * 29 + D * 53 := by
          rw [wrapS (a := A) (by omega) (by omega), wrapS (a := B) (by omega) (by omega), wrapS (a := D) (by omega) (by omega), wrapS (a := A * 131) (by omega) (by omega), wrapS (a := B * 1117) (by omega) (by omega), wrapS (a := (p : Int) * 29) (by omega) (by omega), wrapS (a := D * 53) (by omega) (by omega), wrapS (a := A * 131 + B * 1117) (by omega) (by omega), wrapS (a := A * 131 + B * 1117 + (p : Int) * 29) (by omega) (by omega), wrapS (by omega) (by omega)]
        obtain ⟨H, hH⟩ : ∃ H : Nat, A * 131 + B * 1117 + (p : Int) * 29 + D * 53 = (H : Int) := ⟨(A * 131 + B * 1117 + (p : Int) * 29 + D * 53).toNat, by omega⟩
        have eT : wrap64 (Int.tdiv (H : Int) 64) = ((H / 64 : Nat) : Int) := by
          rw [Int.tdiv_eq_ediv_of_nonneg (by omega), wrapS (by omega) (by omega)]
          omega
        have hX := xor_nn H (H / 64) (by omega) (by omega)
        have ht3 := tmod_in hX (n := n) (by omega)
        refine ⟨Int.tmod (Go.bits .xor .i64 (H : Int) ((H / 64 : Nat) : Int)) n, hgo _ ?_, fun _ => ht3, by omega⟩
        refine Ev.step' ?_; simp only [spec_l13Rd_pick.j0]
        refine Ev.neg (by simp) ?_
        simp only [hm, e7, hA, hB, hD, eH, hH, eT]
        exact Ev.neg (by omega) (Ev.neg (by omega) (Ev.pos ht1.1 (Ev.pos ht1.2 (Ev.pos ht2.1 (Ev.pos ht2.2 (Ev.neg (by omega) (Ev.val rfl)))))))
end Go.Proofs.YtmjoigpnnechgaaDoor.B
