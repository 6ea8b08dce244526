/- The drawings of arrays' texts, by their own text: they end, in bounds. -/
import Derived.Test.YtmjoigpnnechgaaDoorBPpick
import Derived.Test.YtmjoigpnnechgaaDoorBPdec
import Derived.Test.YtmjoigpnnechgaaDoorBx1

import Derived.Test.YtmjoigpnnechgaaDoorBx2

namespace Go.Proofs.YtmjoigpnnechgaaDoor.B
open Go.RowKit Go.Proofs.YtmjoigpnnechgaaDoorW.PrintWords Go.Proofs.YtmjoigpnnechgaaDoorW.PrintLast Go.Proofs.YtmjoigpnnechgaaDoorW.PrintMore Go.Proofs.YtmjoigpnnechgaaDoor.Q
set_option linter.unusedSimpArgs false
set_option linter.unusedVariables false

theorem num_is {l : List Int} (h : Bs l) (p : Nat) (hp : p ≤ 1000000000000) (xs : List Int) (hx : 1 ≤ xs.length) : ∃ v ∈ xs, Ev (fun k => spec_l13Rd_num.f k l (p : Int) xs) (v, ((p + 1 : Nat) : Int)) := by
  obtain ⟨v, h1, h2, _⟩ := pick_is h p hp (xs.length : Int)
  have hv := h2 (by omega)
  obtain ⟨m, rfl⟩ : ∃ m : Nat, v = (m : Int) := ⟨v.toNat, by omega⟩
  have hm : m < xs.length := by omega
  refine ⟨xs[m], List.getElem_mem hm, ?_⟩
  unfold spec_l13Rd_num.f
  refine Ev.bind h1 (Ev.pos hv.1 (Ev.pos hv.2 (Ev.val ?_)))
  have : rd xs (m : Int) = xs[m] := by
    unfold rd
    rw [Int.toNat_natCast, List.getD_eq_getElem?_getD, List.getElem?_eq_getElem hm]
    rfl
  rw [this]
theorem of_is {l : List Int} (h : Bs l) (p : Nat) (hp : p ≤ 1000000000000) (xs : List ByteArray) (hx : 1 ≤ xs.length) : ∃ v ∈ xs, Ev (fun k => spec_l13Rd_of.f k l (p : Int) xs) (v, ((p + 1 : Nat) : Int)) := by
  obtain ⟨v, h1, h2, _⟩ := pick_is h p hp (xs.length : Int)
  have hv := h2 (by omega)
  obtain ⟨m, rfl⟩ : ∃ m : Nat, v = (m : Int) := ⟨v.toNat, by omega⟩
  have hm : m < xs.length := by omega
  refine ⟨xs[m], List.getElem_mem hm, ?_⟩
  unfold spec_l13Rd_of.f
  refine Ev.bind h1 (Ev.pos hv.1 (Ev.pos hv.2 (Ev.val ?_)))
  have : rdOf ByteArray.empty xs (m : Int) = xs[m] := by
    unfold rdOf
    rw [Int.toNat_natCast, List.getD_eq_getElem?_getD, List.getElem?_eq_getElem hm]
    rfl
  rw [this]
theorem depth_is {l : List Int} (h : Bs l) (p : Nat) (hp : p ≤ 1000000000000) : ∃ v : Int, Ev (fun k => spec_l1Depth.f k l (p : Int)) (v, ((p + 1 : Nat) : Int)) ∧ -1 ≤ v ∧ v ≤ 4 := by
  obtain ⟨v, hv, h1⟩ := num_is h p hp [2, 1, 3, 2, 1, 0, 4, -1] (by simp)
  refine ⟨v, ?_, ?_⟩
  · unfold spec_l1Depth.f
    exact Ev.bind h1 (Ev.now _)
  · simp at hv
    omega
def szD : Nat → Nat
  | 0 => 20
  | d + 1 => 2 + 4 * (szD d + 1)
def stD : Nat → Nat
  | 0 => 2
  | d + 1 => 1 + 4 * stD d
/-- The last place that a drawing of this depth may begin at. -/
def capD : Nat → Nat
  | 0 => 99999990000
  | d + 1 => capD d - 1000
theorem cap_ok {d : Nat} (hd : d ≤ 2) : capD (d + 1) + 1 + 4 * stD d ≤ capD d := by
  obtain rfl | rfl | rfl : d = 0 ∨ d = 1 ∨ d = 2 := by omega
  all_goals decide
theorem cap_in {d : Nat} (hd : d ≤ 3) : 99999980000 ≤ capD d ∧ capD d ≤ 99999990000 := by
  obtain rfl | rfl | rfl | rfl : d = 0 ∨ d = 1 ∨ d = 2 ∨ d = 3 := by omega
  all_goals decide
def DrawIs (d : Nat) : Prop := ∀ (l : List Int) (p : Nat), Bs l → p ≤ capD d → ∃ (t : ByteArray) (q : Nat), Ev (fun k => spec_l1Draw.f k l (p : Int) (d : Int)) (t, (q : Int)) ∧ 1 ≤ t.size ∧ t.size ≤ szD d ∧ p ≤ q ∧ q ≤ p + stD d
theorem szD_le {d : Nat} (hd : d ≤ 3) : szD d ≤ 1500 ∧ stD d ≤ 150 := by
  obtain rfl | rfl | rfl | rfl : d = 0 ∨ d = 1 ∨ d = 2 ∨ d = 3 := by omega
  all_goals decide
theorem BA_of (b : ByteArray) : ∃ l : By, b = BA l ∧ l.length = b.size := ⟨b.data.toList, (BA_data b).symm, by rw [Array.length_toList]; rfl⟩
theorem size_append (a b : ByteArray) : (a ++ b).size = a.size + b.size := by
  obtain ⟨x, rfl, h1⟩ := BA_of a
  obtain ⟨y, rfl, h2⟩ := BA_of b
  rw [BA_append, BA_size, BA_size, BA_size, List.length_append]
theorem size_one (c : UInt8) : (⟨#[c]⟩ : ByteArray).size = 1 := rfl
theorem mul_in {i Z : Nat} (hi : i ≤ 4) (hZ : Z ≤ 1500) : i * (Z + 1) ≤ 6004 := Nat.le_trans (Nat.mul_le_mul hi (Nat.add_le_add_right hZ 1)) (by decide)
theorem draw_l0 (d : Nat) (hd : d ≤ 2) (Z T C : Nat) (hC : C ≤ 99999990000) (hZ : Z ≤ 1500) (hT : T ≤ 150) (l : List Int) (hl : Bs l)
    (ih : ∀ (p : Nat), p ≤ C → ∃ (t : ByteArray) (q : Nat), Ev (fun k => spec_l1Draw.f k l (p : Int) (d : Int)) (t, (q : Int)) ∧ 1 ≤ t.size ∧ t.size ≤ Z ∧ p ≤ q ∧ q ≤ p + T) (m : Nat) (hm : m ≤ 4) (M : Nat) (hM : ∀ i, i = m → 2 + i * (Z + 1) ≤ M) :
    ∀ (n i : Nat) (x : ByteArray) (p : Nat), i + n = m → 1 ≤ x.size → x.size ≤ 1 + i * (Z + 1) → p + n * T ≤ C →
    ∃ (t : ByteArray) (q : Nat), Ev (fun k => spec_l1Draw.l0 k ((d + 1 : Nat) : Int) x (m : Int) (i : Int) l (p : Int)) (t, (q : Int)) ∧ 1 ≤ t.size ∧ t.size ≤ M ∧ p ≤ q ∧ q ≤ p + n * T := by
  have ed : wrap64 (((d + 1 : Nat) : Int) - 1) = (d : Int) := by rw [wrapS (by omega) (by omega)]; omega
  intro n
  induction n with
  | zero =>
    intro i x p h hx1 hx hp
    have him : i = m := by omega
    have hM1 := hM i him
    have hmul := mul_in (i := i) (by omega) hZ
    obtain ⟨A, hA⟩ : ∃ A, A = i * (Z + 1) := ⟨_, rfl⟩
    rw [← hA] at hmul hx hM1
    clear hA
    obtain ⟨y, hy⟩ : ∃ y, y = x ++ (⟨#[93]⟩ : ByteArray) := ⟨_, rfl⟩
    have hb : y.size = x.size + 1 := by rw [hy, size_append, size_one]
    refine ⟨y, p, ?_, by omega, by omega, Nat.le_refl _, Nat.le_add_right _ _⟩
    rw [hy]
    refine Ev.step' ?_; simp only [spec_l1Draw.l0]
    exact Ev.neg (by omega) (Ev.pos (by omega) (Ev.val rfl))
  | succ n ihn =>
    intro i x p h hx1 hx hp
    have him : i < m := by omega
    have him2 : i + 1 + n = m := by omega
    have hmul := mul_in (i := i) (by omega) hZ
    have hsz : (i + 1) * (Z + 1) = i * (Z + 1) + (Z + 1) := by rw [Nat.add_mul, Nat.one_mul]
    have hst : (n + 1) * T = n * T + T := by rw [Nat.add_mul, Nat.one_mul]
    obtain ⟨t, q, h1, h2, h3, h4, h5⟩ := ih p (Nat.le_trans (Nat.le_add_right _ _) hp)
    have ihn' := fun y => ihn (i + 1) y q him2
    rw [hsz] at ihn'
    rw [hst] at hp ⊢
    obtain ⟨A, hA⟩ : ∃ A, A = i * (Z + 1) := ⟨_, rfl⟩
    obtain ⟨B, hB⟩ : ∃ B, B = n * T := ⟨_, rfl⟩
    rw [← hA] at hmul hx ihn'
    rw [← hB] at ihn' hp ⊢
    clear hA hB hst hsz
    have ei : wrap64 ((i : Int) + 1) = ((i + 1 : Nat) : Int) := by rw [wrapS (by omega) (by omega)]; omega
    rcases Nat.eq_zero_or_pos i with hi0 | h0
    · obtain ⟨y, hy⟩ : ∃ y, y = x ++ t := ⟨_, rfl⟩
      have hb : y.size = x.size + t.size := by rw [hy]; exact size_append _ _
      obtain ⟨t', q', g1, g2, g3, g4, g5⟩ := ihn' y (by omega) (by omega) (by omega)
      rw [hy] at g1
      refine ⟨t', q', ?_, g2, g3, by omega, by omega⟩
      refine Ev.step' ?_; simp only [spec_l1Draw.l0]
      have hn0 : ¬ (i : Int) > 0 := by rw [hi0]; exact Int.lt_irrefl 0
      have hs1 : x.size + t.size ≤ 9223372036854775807 := by clear g1 h1 g3 g5 h5 hp hy; omega
      refine Ev.pos (Int.ofNat_lt.2 him) (Ev.neg hn0 ?_)
      rw [ed, ei]
      exact Ev.bind h1 (Ev.pos hs1 g1)
    · obtain ⟨y, hy⟩ : ∃ y, y = (x ++ (⟨#[44]⟩ : ByteArray)) ++ t := ⟨_, rfl⟩
      have hb : y.size = x.size + 1 + t.size := by rw [hy, size_append, size_append, size_one]
      obtain ⟨t', q', g1, g2, g3, g4, g5⟩ := ihn' y (by omega) (by omega) (by omega)
      rw [hy] at g1
      refine ⟨t', q', ?_, g2, g3, by omega, by omega⟩
      refine Ev.step' ?_; simp only [spec_l1Draw.l0]
      have hp0 : (i : Int) > 0 := Int.ofNat_lt.2 h0
      have hs0 : x.size + 1 ≤ 9223372036854775807 := by clear g1 h1 g3 g5 h5 hp hy; omega
      have hs1 : x.size + 1 + t.size ≤ 9223372036854775807 := by clear g1 h1 g3 g5 h5 hp hy; omega
      refine Ev.pos (Int.ofNat_lt.2 him) (Ev.pos hp0 (Ev.pos hs0 ?_))
      rw [ed, ei]
      exact Ev.bind h1 (Ev.pos hs1 g1)
theorem draw_is : ∀ d, d ≤ 3 → DrawIs d
  | 0, _ => by
    intro l p hl hp0
    have hp : p ≤ 99999990000 := hp0
    obtain ⟨v, h1, h2, _⟩ := pick_is hl p (by omega) 9
    obtain ⟨w, hw, h3⟩ := num_is hl (p + 1) (by omega) [1, 0, 2, 3, v, 5, 10006, 100] (by simp)
    have hv := h2 (by omega)
    have hw2 : 0 ≤ w ∧ w ≤ 10006 := by simp at hw; omega
    obtain ⟨m, rfl⟩ : ∃ m : Nat, w = (m : Int) := ⟨w.toNat, by omega⟩
    have hlen := dec_len 5 m (by omega) (by omega)
    have hpos := List.length_pos_iff.2 (dec_ne m)
    refine ⟨BA (Lib.decDigits m), p + 1 + 1, ?_, by rw [BA_size]; omega, by rw [BA_size]; show _ ≤ 20; omega, by omega, by show _ ≤ p + 2; omega⟩
    refine Ev.step' ?_; simp only [spec_l1Draw.f]
    exact Ev.pos (by first | trivial | rfl) (Ev.bind h1 (Ev.bind h3 (Ev.bind (l13Dec_is m (by omega)) (Ev.val rfl))))
  | d + 1, hd => by
    have ih := draw_is d (by omega)
    intro l p hl hp
    have hz := szD_le (d := d) (by omega)
    have hc1 := cap_ok (d := d) (by omega)
    have hc2 := cap_in (d := d) (by omega)
    obtain ⟨v, hv, h1⟩ := num_is hl p (by omega) [2, 0, 1, 3, 4] (by simp)
    have hv2 : 0 ≤ v ∧ v ≤ 4 := by simp at hv; omega
    obtain ⟨m, rfl⟩ : ∃ m : Nat, v = (m : Int) := ⟨v.toNat, by omega⟩
    have hm0 : m * stD d ≤ 4 * stD d := Nat.mul_le_mul_right _ (by omega)
    have hcap : p + 1 + m * stD d ≤ capD d := by omega
    obtain ⟨t, q, g1, g2, g3, g4, g5⟩ := draw_l0 d (by omega) (szD d) (stD d) (capD d) (cap_in (by omega)).2 hz.1 hz.2 l hl (fun p hp => ih l p hl hp) m (by omega) (2 + m * (szD d + 1)) (fun i hi => by rw [hi]; exact Nat.le_refl _) m 0 (⟨#[91]⟩ : ByteArray) (p + 1) (by omega) (Nat.le_refl 1) (Nat.le_add_right 1 _) hcap
    have hm1 : m * (szD d + 1) ≤ 4 * (szD d + 1) := Nat.mul_le_mul_right _ (by omega)
    have hm2 : m * stD d ≤ 4 * stD d := Nat.mul_le_mul_right _ (by omega)
    refine ⟨t, q, ?_, g2, by show _ ≤ 2 + 4 * (szD d + 1); omega, by omega, by show _ ≤ p + (1 + 4 * stD d); omega⟩
    refine Ev.step' ?_; simp only [spec_l1Draw.f]
    exact Ev.neg (by omega) (Ev.bind h1 g1)
theorem extract_size (b : ByteArray) (i j : Nat) (h : i ≤ j) (hj : j ≤ b.size) : (b.extract i j).size = j - i := by
  obtain ⟨x, rfl, h1⟩ := BA_of b
  rw [BA_size] at hj
  rw [BA_extract, BA_size, List.length_take, List.length_drop]
  omega
theorem some_j0 {l : List Int} (hl : Bs l) (dp : Int) (t : ByteArray) (ht : 1 ≤ t.size) (ht2 : t.size ≤ 1500) (p : Nat) (hp : p ≤ 100000000000) : ∃ (t' : ByteArray) (q : Nat), Ev (fun k => spec_l1Some.j0 k dp t l (p : Int)) (t', dp, (q : Int)) ∧ t'.size ≤ 2000 ∧ p ≤ q ∧ q ≤ p + 4 := by
  obtain ⟨v, h1, h2, _⟩ := pick_is hl p (by omega) 14
  by_cases hv : v > 0
  · refine ⟨t, p + 1, ?_, by omega, by omega, by omega⟩
    refine Ev.step' ?_; simp only [spec_l1Some.j0]
    exact Ev.bind h1 (Ev.pos hv (Ev.now _))
  · obtain ⟨a, g1, g2, _⟩ := pick_is hl (p + 1) (by omega) (t.size : Int)
    have ha := g2 (by omega)
    obtain ⟨a, rfl⟩ : ∃ m : Nat, a = (m : Int) := ⟨a.toNat, by omega⟩
    obtain ⟨s, hs, g3⟩ := of_is hl (p + 1 + 1) (by omega) [(⟨#[]⟩ : ByteArray), (⟨#[91]⟩ : ByteArray), (⟨#[93]⟩ : ByteArray), (⟨#[44]⟩ : ByteArray), (⟨#[48]⟩ : ByteArray), (⟨#[120]⟩ : ByteArray), (⟨#[57, 57, 57, 57, 57]⟩ : ByteArray)] (by simp)
    have hss : s.size ≤ 5 := by
      simp at hs
      rcases hs with rfl | rfl | rfl | rfl | rfl | rfl | rfl <;> decide
    obtain ⟨b, g4, g5, _⟩ := pick_is hl (p + 1 + 1 + 1) (by omega) 2
    have hb := g5 (by omega)
    obtain ⟨b, rfl⟩ : ∃ m : Nat, b = (m : Int) := ⟨b.toNat, by omega⟩
    have hab : wrap64 ((a : Int) + (b : Int)) = ((a + b : Nat) : Int) := by rw [wrapS (by omega) (by omega)]; omega
    have e1 := extract_size t 0 a (by omega) (by omega)
    have e2 := extract_size t (a + b) t.size (by omega) (by omega)
    refine ⟨(t.extract 0 a ++ s) ++ t.extract (a + b) t.size, p + 1 + 1 + 1 + 1, ?_, by rw [size_append, size_append]; omega, by omega, by omega⟩
    refine Ev.step' ?_; simp only [spec_l1Some.j0]
    refine Ev.bind h1 (Ev.neg hv (Ev.bind g1 (Ev.pos ha.1 (Ev.pos (by simp only; omega) (Ev.bind g3 ?_)))))
    simp only [Int.toNat_natCast]
    refine Ev.pos (by omega) (Ev.bind g4 ?_)
    simp only [hab, Int.toNat_natCast]
    exact Ev.pos (by omega) (Ev.pos (by omega) (Ev.pos (by omega) (Ev.now _)))
theorem some_is {l : List Int} (hl : Bs l) (p : Nat) (hp : p ≤ 10000000000) : ∃ (t : ByteArray) (dp : Int) (q : Nat), Ev (fun k => spec_l1Some.f k l (p : Int)) (t, dp, (q : Int)) ∧ -1 ≤ dp ∧ dp ≤ 4 ∧ t.size ≤ 2000 ∧ p ≤ q ∧ q ≤ p + 400 := by
  obtain ⟨dp, h1, h2, h3⟩ := depth_is hl p (by omega)
  obtain ⟨d, hd⟩ : ∃ d : Nat, mx (mn dp 3) 0 = (d : Int) := ⟨(mx (mn dp 3) 0).toNat, by unfold mx mn; split <;> split <;> omega⟩
  have hd3 : d ≤ 3 ∧ (2 ≤ d → 2 ≤ dp) := by unfold mx mn at hd; split at hd <;> split at hd <;> omega
  obtain ⟨t, q, g1, g2, g3, g4, g5⟩ := draw_is d hd3.1 l (p + 1) hl (by have := cap_in hd3.1; omega)
  have hz := szD_le hd3.1
  by_cases h100 : (t.size : Int) > 100
  · have hd2 : 2 ≤ d := by
      rcases Nat.lt_or_ge d 2 with h | h
      · have : szD d ≤ 86 := by
          obtain rfl | rfl : d = 0 ∨ d = 1 := by omega
          all_goals decide
        omega
      · exact h
    have hmn : mn dp 1 = ((1 : Nat) : Int) := by have := hd3.2 hd2; unfold mn; split <;> omega
    obtain ⟨t2, q2, f1, f2, f3, f4, f5⟩ := draw_is 1 (by omega) l q hl (by have := cap_in (d := 1) (by omega); omega)
    have hz1 := szD_le (d := 1) (by omega)
    obtain ⟨t3, q3, e1, e2, e3, e4⟩ := some_j0 hl dp t2 f2 (by omega) q2 (by omega)
    refine ⟨t3, dp, q3, ?_, h2, h3, e2, by omega, by omega⟩
    unfold spec_l1Some.f
    refine Ev.bind h1 ?_
    simp only [hd, hmn]
    exact Ev.bind g1 (Ev.pos h100 (Ev.bind f1 e1))
  · obtain ⟨t3, q3, e1, e2, e3, e4⟩ := some_j0 hl dp t g2 (by omega) q (by omega)
    refine ⟨t3, dp, q3, ?_, h2, h3, e2, by omega, by omega⟩
    unfold spec_l1Some.f
    refine Ev.bind h1 ?_
    simp only [hd]
    exact Ev.bind g1 (Ev.neg h100 e1)
theorem open_is (l : List Int) (h : ∀ x ∈ l, (Lit.int .u8 x).wf = true) : ∃ l', spec_l13Open.f l = some (l', 0) ∧ Bs l' := by
  have hb : ∀ x ∈ l, 0 ≤ x ∧ x ≤ 255 := by
    intro x hx
    have := h x hx
    simp [Lit.wf, IntKind.wrap] at this
    have e1 : IntKind.u8.min = 0 := rfl
    have e2 : IntKind.u8.max = 255 := rfl
    omega
  unfold spec_l13Open.f
  by_cases hl : (l.length : Int) > 2000
  · refine ⟨l.take 2000, ?_, ?_, ?_⟩
    · rw [if_pos hl, if_pos (by omega)]
    · rw [List.length_take]; omega
    · exact fun x hx => hb x (List.mem_of_mem_take hx)
  · exact ⟨l, by rw [if_neg hl], by omega, hb⟩
end Go.Proofs.YtmjoigpnnechgaaDoor.B
