/- The drawing of texts to make an array of, and of one text. -/
import Derived.Test.YtmjoigpnnechgaaDoorBPdraw
import Derived.Test.YtmjoigpnnechgaaDoorBx8
import Derived.Test.YtmjoigpnnechgaaDoorBx2
namespace Go.Proofs.YtmjoigpnnechgaaDoor.B
open Go.RowKit Go.Proofs.YtmjoigpnnechgaaDoorW.PrintWords Go.Proofs.YtmjoigpnnechgaaDoorW.PrintLast Go.Proofs.YtmjoigpnnechgaaDoorW.PrintMore Go.Proofs.YtmjoigpnnechgaaDoor.Q
set_option linter.unusedSimpArgs false
set_option linter.unusedVariables false

def pcap : Nat → Nat
  | 0 => 9000000
  | n + 1 => pcap n - 1000
theorem pcap_in {n : Nat} (h : n ≤ 3) : pcap n ≤ 9000000 ∧ 8000000 ≤ pcap n := by
  obtain rfl | rfl | rfl | rfl : n = 0 ∨ n = 1 ∨ n = 2 ∨ n = 3 := by omega
  all_goals decide
theorem pcap_step {n : Nat} (h : n ≤ 2) : pcap (n + 1) + 1000 = pcap n := by
  obtain rfl | rfl | rfl : n = 0 ∨ n = 1 ∨ n = 2 := by omega
  all_goals decide
theorem drawMake_l0 (dp : Int) (hdp : -1 ≤ dp ∧ dp ≤ 4) (l : List Int) (hl : Bs l) (m : Nat) (hm : m ≤ 3) : ∀ (n i : Nat) (acc : List ByteArray) (p : Nat), i + n = m → acc.length ≤ i → p ≤ pcap n →
    ∃ ts, Ev (fun k => spec_DrawMakeArray.l0 k dp acc (m : Int) (i : Int) l (p : Int)) (ts, dp) ∧ ts.length ≤ 3 := by
  obtain ⟨d, hd, hd2⟩ : ∃ d : Nat, mx (mn (wrap64 (dp - 1)) 2) 0 = (d : Int) ∧ d ≤ 2 := by
    rw [wrapS (by omega) (by omega)]
    refine ⟨(mx (mn (dp - 1) 2) 0).toNat, ?_, ?_⟩ <;> (unfold mx mn; split <;> split <;> omega)
  have hst := (szD_le (d := d) (by omega)).2
  have hcp := (cap_in (d := d) (by omega)).1
  intro n
  induction n with
  | zero =>
    intro i acc p h ha hp
    refine ⟨acc, ?_, by omega⟩
    refine Ev.step' ?_; simp only [spec_DrawMakeArray.l0]
    exact Ev.neg (by omega) (Ev.now _)
  | succ n ihn =>
    intro i acc p h ha hp
    have hA : acc.length < 8796093022208 := by clear hst hcp hp; omega
    have hL : ∀ z : ByteArray, (acc ++ [z]).length ≤ i + 1 := fun z => by rw [List.length_append]; exact Nat.add_le_add_right ha 1
    have hlt : (i : Int) < (m : Int) := by clear hst hcp hp; omega
    have hin := pcap_in (n := n + 1) (by omega)
    have hstep := pcap_step (n := n) (by omega)
    have ei : wrap64 ((i : Int) + 1) = ((i + 1 : Nat) : Int) := by rw [wrapS (by omega) (by omega)]; omega
    obtain ⟨t, q, g1, g2, g3, g4, g5⟩ := draw_is d (by omega) l p hl (by omega)
    obtain ⟨v, h1, h2, _⟩ := pick_is hl q (by omega) 12
    by_cases hv : v = 0
    · obtain ⟨t2, dp2, q2, f1, f2, f3, f4, f5, f6⟩ := some_is hl (q + 1) (by omega)
      obtain ⟨ts, e1, e2⟩ := ihn (i + 1) (acc ++ [t2]) q2 (by clear g1 h1 f1; omega) (hL t2) (by clear g1 h1 f1; omega)
      refine ⟨ts, ?_, e2⟩
      refine Ev.step' ?_; simp only [spec_DrawMakeArray.l0]
      refine Ev.pos hlt ?_
      simp only [hd, ei]
      exact Ev.bind g1 (Ev.bind h1 (Ev.pos hv (Ev.bind f1 (Ev.pos hA e1))))
    · obtain ⟨ts, e1, e2⟩ := ihn (i + 1) (acc ++ [t]) (q + 1) (by clear g1 h1; omega) (hL t) (by clear g1 h1; omega)
      refine ⟨ts, ?_, e2⟩
      refine Ev.step' ?_; simp only [spec_DrawMakeArray.l0]
      refine Ev.pos hlt ?_
      simp only [hd, ei]
      exact Ev.bind g1 (Ev.bind h1 (Ev.neg hv (Ev.pos hA e1)))
theorem drawMake_is (l : List Int) (h : ∀ x ∈ l, (Lit.int .u8 x).wf = true) : ∃ ts dp, Ev (fun k => spec_DrawMakeArray.f k l) (ts, dp) ∧ ts.length ≤ 3 ∧ -1 ≤ dp ∧ dp ≤ 4 := by
  obtain ⟨l', ho, hl⟩ := open_is l h
  obtain ⟨dp, h1, h2, h3⟩ := depth_is hl 0 (by omega)
  obtain ⟨v, g1, g2, _⟩ := pick_is hl (0 + 1) (by omega) 4
  have hv := g2 (by omega)
  obtain ⟨m, rfl⟩ : ∃ m : Nat, v = (m : Int) := ⟨v.toNat, by omega⟩
  obtain ⟨ts, e1, e2⟩ := drawMake_l0 dp ⟨h2, h3⟩ l' hl m (by omega) m 0 [] (0 + 1 + 1) (by omega) (Nat.le_refl _) (by have := (pcap_in (n := m) (by omega)).2; omega)
  refine ⟨ts, dp, ?_, e2, h2, h3⟩
  unfold spec_DrawMakeArray.f
  exact Ev.call ho (Ev.bind h1 (Ev.bind g1 e1))
theorem drawParts_is (l : List Int) (h : ∀ x ∈ l, (Lit.int .u8 x).wf = true) : ∃ t dp, Ev (fun k => spec_DrawPartsOf.f k l) (t, dp) ∧ -1 ≤ dp ∧ dp ≤ 4 ∧ t.size ≤ 2000 := by
  obtain ⟨l', ho, hl⟩ := open_is l h
  obtain ⟨t, dp, q, f1, f2, f3, f4, _⟩ := some_is hl 0 (by omega)
  refine ⟨t, dp, ?_, f2, f3, f4⟩
  unfold spec_DrawPartsOf.f
  exact Ev.call ho (Ev.bind f1 (Ev.now _))
end Go.Proofs.YtmjoigpnnechgaaDoor.B
