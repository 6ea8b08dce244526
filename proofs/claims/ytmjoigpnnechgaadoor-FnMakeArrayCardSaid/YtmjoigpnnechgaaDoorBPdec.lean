/- The reference's own numeral, by its own text. -/
import Derived.Test.YtmjoigpnnechgaaDoorBQbase
import Derived.Test.YtmjoigpnnechgaaDoorBx1
namespace Go.Proofs.YtmjoigpnnechgaaDoor.B
open Go.RowKit Go.Proofs.YtmjoigpnnechgaaDoorW.PrintWords Go.Proofs.YtmjoigpnnechgaaDoorW.PrintLast Go.Proofs.YtmjoigpnnechgaaDoorW.PrintMore Go.Proofs.YtmjoigpnnechgaaDoor.Q
set_option linter.unusedSimpArgs false
set_option linter.unusedVariables false

theorem strOne (m : Nat) (h : m < 256) : strOfNums [(m : Int)] = BA [UInt8.ofNat m] := by
  unfold strOfNums BA
  simp
theorem l13Dec_l0 : ∀ (n : Nat) (suf : By), n < 1000000000000000000 → suf.length ≤ 100 → Ev (fun k => spec_l13Dec.l0 k (n : Int) (BA suf)) (BA (Lib.decDigits n ++ suf)) := by
  have main : ∀ (b n : Nat) (suf : By), n < 10 ^ b → b ≤ 18 → suf.length + b ≤ 118 → Ev (fun k => spec_l13Dec.l0 k (n : Int) (BA suf)) (BA (Lib.decDigits n ++ suf)) := by
    intro b
    induction b with
    | zero =>
      intro n suf hn hb hs
      have hn1 : n < 1 := hn
      have : n = 0 := by omega
      subst this
      refine Ev.step' ?_; simp only [spec_l13Dec.l0]
      have e : (wrap64 (48 + ((0 : Nat) : Int))) % 256 = ((48 + 0 : Nat) : Int) := by
        rw [wrapS (by omega) (by omega)]
        omega
      refine Ev.neg (by omega) ?_
      rw [e]
      refine Ev.call (a := [((48 + 0 : Nat) : Int)]) rfl (Ev.pos (by rw [strOne _ (by omega), BA_size, BA_size]; simp; omega) (Ev.val ?_))
      rw [strOne _ (by omega), BA_append, dec_small (by omega)]
    | succ b ih =>
      intro n suf hn hb hs
      refine Ev.step' ?_; simp only [spec_l13Dec.l0]
      have hpow : 10 ^ (b + 1) ≤ 10 ^ 18 := Nat.pow_le_pow_right (by omega) hb
      have hnb : n < 1000000000000000000 := by
        have : (10 ^ 18 : Nat) = 1000000000000000000 := by decide
        omega
      by_cases h9 : n < 10
      · have e : (wrap64 (48 + (n : Int))) % 256 = ((48 + n : Nat) : Int) := by
          rw [wrapS (by omega) (by omega)]
          omega
        refine Ev.neg (by omega) ?_
        rw [e]
        refine Ev.call (a := [((48 + n : Nat) : Int)]) rfl (Ev.pos (by rw [strOne _ (by omega), BA_size, BA_size]; simp; omega) (Ev.val ?_))
        rw [strOne _ (by omega), BA_append, dec_small h9]
      · have e : (wrap64 (48 + Int.tmod (n : Int) 10)) % 256 = ((48 + n % 10 : Nat) : Int) := by
          rw [Int.tmod_eq_emod_of_nonneg (by omega), wrapS (by omega) (by omega)]
          omega
        have e2 : wrap64 (Int.tdiv (n : Int) 10) = ((n / 10 : Nat) : Int) := by
          rw [Int.tdiv_eq_ediv_of_nonneg (by omega), wrapS (by omega) (by omega)]
          omega
        refine Ev.pos (by omega) ?_
        rw [e, e2]
        refine Ev.call (a := [((48 + n % 10 : Nat) : Int)]) rfl (Ev.pos (by rw [strOne _ (by omega), BA_size, BA_size]; simp; omega) ?_)
        rw [strOne _ (by omega), BA_append]
        refine evIs (ih (n / 10) _ ?_ (by omega) (by simp; omega)) ?_
        · rw [Nat.pow_succ] at hn
          generalize 10 ^ b = q at *
          omega
        · rw [dec_big h9, List.append_assoc]
  intro n suf hn hs
  exact main 18 n suf (by have : (10 ^ 18 : Nat) = 1000000000000000000 := by decide
                          omega) (by omega) (by omega)
theorem l13Dec_is (n : Nat) (hn : n < 1000000000000000000) : Ev (fun k => spec_l13Dec.f k (n : Int)) (BA (Lib.decDigits n)) := by
  refine Ev.step' ?_; simp only [spec_l13Dec.f]
  refine Ev.neg (by omega) (Ev.neg (by omega) (evIs (l13Dec_l0 n [] hn (by simp)) ?_))
  rw [List.append_nil]

theorem dec_len : ∀ (b n : Nat), n < 10 ^ b → 1 ≤ b → (Lib.decDigits n).length ≤ b := by
  intro b
  induction b with
  | zero => intro n _ h; omega
  | succ b ih =>
    intro n hn _
    by_cases h9 : n < 10
    · rw [dec_small h9]; simp
    · rw [dec_big h9, List.length_append]
      have h1 : n / 10 < 10 ^ b := by
        rw [Nat.pow_succ] at hn
        generalize 10 ^ b = q at *
        omega
      have hb : 1 ≤ b := by
        rcases Nat.eq_zero_or_pos b with rfl | h
        · have : n / 10 < 1 := h1
          omega
        · exact h
      have := ih (n / 10) h1 hb
      simp
      omega
end Go.Proofs.YtmjoigpnnechgaaDoor.B
