/- Both listings of an array's numbers, by their own text. -/
import Derived.Test.YtmjoigpnnechgaaDoorAPtext
import Derived.Test.YtmjoigpnnechgaaDoorAx3
import Derived.Test.YtmjoigpnnechgaaDoorAx6
namespace Go.Proofs.YtmjoigpnnechgaaDoor.A
open Go.RowKit Go.Proofs.YtmjoigpnnechgaaDoorW.PrintWords Go.Proofs.YtmjoigpnnechgaaDoorW.PrintLast Go.Proofs.YtmjoigpnnechgaaDoorW.PrintMore Go.Proofs.YtmjoigpnnechgaaDoor.Q
set_option linter.unusedSimpArgs false
set_option linter.unusedVariables false

abbrev ints (l : List Nat) : List Int := l.map (fun n : Nat => (n : Int))
theorem nums_le : ∀ (d : Nat) (t : Tr), (Q.nums d t).length ≤ nodes d t
  | 0, t => Nat.le_refl _
  | d + 1, t => by
    show ((t.parts.map (Q.nums d)).flatten).length ≤ 1 + (t.parts.map (nodes d)).sum
    have : ∀ xs : List Tr, ((xs.map (Q.nums d)).flatten).length ≤ (xs.map (nodes d)).sum := by
      intro xs
      induction xs with
      | nil => exact Nat.le_refl _
      | cons x l ih =>
        have := nums_le d x
        rw [List.map_cons, List.flatten_cons, List.length_append, List.map_cons, List.sum_cons]
        omega
    have := this t.parts
    omega
theorem flat_take_le (f : Tr → List Nat) (xs : List Tr) (i : Nat) : (((xs.take i).map f).flatten).length ≤ ((xs.map f).flatten).length := by
  conv => rhs; rw [← List.take_append_drop i xs, List.map_append, List.flatten_append, List.length_append]
  omega
theorem flat_snoc (f : Tr → List Nat) (xs : List Tr) (i : Nat) (h : i < xs.length) : ((xs.take (i + 1)).map f).flatten = ((xs.take i).map f).flatten ++ f xs[i] := by
  rw [take_snoc _ _ h, List.map_append, List.flatten_append]
  simp
def NumsS (d : Nat) : Prop := ∀ t, nodes d t ≤ 1000000000 → Ev (fun k => spec_l1Numbers.f k (cS d t).f0 (cS d t).f1 (d : Int)) (ints (Q.nums d t))
theorem numsS_l0 (d : Nat) (hd : d ≤ 1000) (ih : NumsS d) (t : Tr) (hn : nodes (d + 1) t ≤ 1000000000) :
    ∀ (n i : Nat), t.parts.length - i = n → i ≤ t.parts.length → Ev (fun k => spec_l1Numbers.l0 k ((d + 1 : Nat) : Int) (ints ((t.parts.take i).map (Q.nums d)).flatten) (t.parts.map (cS d)) ((t.parts.map (cS d)).length : Int) (i : Int)) (ints (Q.nums (d + 1) t)) := by
  have hpl := parts_len d t
  have hnl := nums_le (d + 1) t
  have hnl' : ((t.parts.map (Q.nums d)).flatten).length ≤ nodes (d + 1) t := hnl
  intro n
  induction n with
  | zero =>
    intro i h hi
    refine Ev.step' ?_; simp only [spec_l1Numbers.l0]
    rw [List.take_of_length_le (by omega)]
    exact Ev.neg (by rw [List.length_map]; omega) (Ev.val rfl)
  | succ n ihn =>
    intro i h hi
    have hlt : i < t.parts.length := by omega
    have hm : t.parts[i] ∈ t.parts := List.getElem_mem hlt
    have hx := ih t.parts[i] (by have := nodes_part (d := d) hm; omega)
    have hg : rd_T95 (t.parts.map (cS d)) (i : Int) = cS d t.parts[i] := getD_map _ _ _ _ hlt
    have hf := flat_take_le (Q.nums d) t.parts (i + 1)
    rw [flat_snoc _ _ _ hlt, List.length_append] at hf
    have hnext := ihn (i + 1) (by omega) (by omega)
    rw [flat_snoc _ _ _ hlt] at hnext
    refine Ev.step' ?_; simp only [spec_l1Numbers.l0]
    refine Ev.pos (by rw [List.length_map]; omega) (Ev.pos (by omega) (Ev.pos (by rw [List.length_map]; omega) ?_))
    rw [hg, show wrap64 (((d + 1 : Nat) : Int) - 1) = (d : Int) by rw [wrapS (by omega) (by omega)]; omega, wrapS (a := (i : Int) + 1) (by omega) (by omega)]
    refine Ev.bind hx (Ev.pos (by rw [List.length_map, List.length_map]; omega) ?_)
    rw [ints, List.map_append] at hnext
    exact hnext
theorem numsS_is : ∀ d, d ≤ 1000 → NumsS d
  | 0, _ => by
    intro t hn
    refine Ev.step' ?_; simp only [spec_l1Numbers.f]
    exact Ev.pos (by first | trivial | rfl) (Ev.val rfl)
  | d + 1, hd => by
    intro t hn
    refine Ev.step' ?_; simp only [spec_l1Numbers.f]
    exact Ev.neg (by omega) (numsS_l0 d (by omega) (numsS_is d (by omega)) t hn _ 0 rfl (by omega))
def NumsA (d : Nat) : Prop := ∀ t, nodes d t ≤ 1000000000 → Ev (fun k => impl_arr_numbers.f k (cA d t).f0 (cA d t).f1 (d : Int)) (ints (Q.nums d t))
theorem numsA_l0 (d : Nat) (hd : d ≤ 1000) (ih : NumsA d) (t : Tr) (hn : nodes (d + 1) t ≤ 1000000000) :
    ∀ (n i : Nat), t.parts.length - i = n → i ≤ t.parts.length → Ev (fun k => impl_arr_numbers.l0 k ((d + 1 : Nat) : Int) (ints ((t.parts.take i).map (Q.nums d)).flatten) (t.parts.map (cA d)) ((t.parts.map (cA d)).length : Int) (i : Int)) (ints (Q.nums (d + 1) t)) := by
  have hpl := parts_len d t
  have hnl := nums_le (d + 1) t
  have hnl' : ((t.parts.map (Q.nums d)).flatten).length ≤ nodes (d + 1) t := hnl
  intro n
  induction n with
  | zero =>
    intro i h hi
    refine Ev.step' ?_; simp only [impl_arr_numbers.l0]
    rw [List.take_of_length_le (by omega)]
    exact Ev.neg (by rw [List.length_map]; omega) (Ev.val rfl)
  | succ n ihn =>
    intro i h hi
    have hlt : i < t.parts.length := by omega
    have hm : t.parts[i] ∈ t.parts := List.getElem_mem hlt
    have hx := ih t.parts[i] (by have := nodes_part (d := d) hm; omega)
    have hg : rd_T84 (t.parts.map (cA d)) (i : Int) = cA d t.parts[i] := getD_map _ _ _ _ hlt
    have hf := flat_take_le (Q.nums d) t.parts (i + 1)
    rw [flat_snoc _ _ _ hlt, List.length_append] at hf
    have hnext := ihn (i + 1) (by omega) (by omega)
    rw [flat_snoc _ _ _ hlt] at hnext
    refine Ev.step' ?_; simp only [impl_arr_numbers.l0]
    refine Ev.pos (by rw [List.length_map]; omega) (Ev.pos (by omega) (Ev.pos (by rw [List.length_map]; omega) ?_))
    rw [hg, show wrap64 (((d + 1 : Nat) : Int) - 1) = (d : Int) by rw [wrapS (by omega) (by omega)]; omega, wrapS (a := (i : Int) + 1) (by omega) (by omega)]
    refine Ev.bind hx (Ev.pos (by rw [List.length_map, List.length_map]; omega) ?_)
    rw [ints, List.map_append] at hnext
    exact hnext
theorem numsA_is : ∀ d, d ≤ 1000 → NumsA d
  | 0, _ => by
    intro t hn
    refine Ev.step' ?_; simp only [impl_arr_numbers.f]
    exact Ev.pos (by first | trivial | rfl) (Ev.val rfl)
  | d + 1, hd => by
    intro t hn
    refine Ev.step' ?_; simp only [impl_arr_numbers.f]
    exact Ev.neg (by omega) (numsA_l0 d (by omega) (numsA_is d (by omega)) t hn _ 0 rfl (by omega))
end Go.Proofs.YtmjoigpnnechgaaDoor.A
