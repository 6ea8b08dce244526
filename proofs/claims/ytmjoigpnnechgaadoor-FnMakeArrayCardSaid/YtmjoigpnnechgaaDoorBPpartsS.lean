/- Parts of an array's text: the reference's side. -/
import Derived.Test.YtmjoigpnnechgaaDoorBPparts
import Derived.Test.YtmjoigpnnechgaaDoorBx7
namespace Go.Proofs.YtmjoigpnnechgaaDoor.B
open Go.RowKit Go.Proofs.YtmjoigpnnechgaaDoorW.PrintWords Go.Proofs.YtmjoigpnnechgaaDoorW.PrintLast Go.Proofs.YtmjoigpnnechgaaDoorW.PrintMore Go.Proofs.YtmjoigpnnechgaaDoor.Q
set_option linter.unusedSimpArgs false
set_option linter.unusedVariables false

theorem partsS_l0 (d : Nat) (hd : d ≤ 2) (t : Tr) (hs : Sh (d + 1) t) (hn : nodes (d + 1) t ≤ 1000000000) :
    ∀ (n i : Nat), t.parts.length - i = n → i ≤ t.parts.length → Ev (fun k => spec_PartsOf.l0 k ((d + 1 : Nat) : Int) ((t.parts.take i).map fun x => BA (text d x)) (t.parts.map (cS d)) ((t.parts.map (cS d)).length : Int) (i : Int)) (t.parts.map (fun x => BA (text d x)), true) := by
  have hpl := parts_len d t
  intro n
  induction n with
  | zero =>
    intro i h hi
    refine Ev.step' ?_; simp only [spec_PartsOf.l0]
    rw [List.take_of_length_le (by omega)]
    exact Ev.neg (by rw [List.length_map]; omega) (Ev.val rfl)
  | succ n ihn =>
    intro i h hi
    have hlt : i < t.parts.length := by omega
    have hm : t.parts[i] ∈ t.parts := List.getElem_mem hlt
    have hx := textS_is d (by omega) t.parts[i] (hs _ hm) (by have := nodes_part (d := d) hm; omega)
    have hg : rd_T95 (t.parts.map (cS d)) (i : Int) = cS d t.parts[i] := getD_map _ _ _ _ hlt
    have hnext := ihn (i + 1) (by omega) (by omega)
    rw [take_snoc _ _ hlt, List.map_append] at hnext
    refine Ev.step' ?_; simp only [spec_PartsOf.l0]
    refine Ev.pos (by rw [List.length_map]; omega) (Ev.pos (by omega) (Ev.pos (by rw [List.length_map]; omega) ?_))
    rw [hg, show wrap64 (((d + 1 : Nat) : Int) - 1) = (d : Int) by rw [wrapS (by omega) (by omega)]; omega, wrapS (a := (i : Int) + 1) (by omega) (by omega)]
    exact Ev.bind hx (Ev.pos (by rw [List.length_map, List.length_take]; omega) hnext)
theorem partsS_bad (x1 : Int) (m : Int) (ps : List NS) : Ev (fun k => spec_PartsOf.j0 k x1 ([] : List ByteArray) true m ps) (([] : List ByteArray), false) := by
  refine Ev.step' ?_; simp only [spec_PartsOf.j0]
  exact Ev.pos (by first | trivial | rfl) (Ev.now _)
theorem partsS_is (d : Nat) (hd : d ≤ 2) (l : By) : Ev (fun k => spec_PartsOf.f k (BA l) ((d + 1 : Nat) : Int)) (resP (partsR d l)) := by
  have h1 := l1Read_is (d + 1) (by omega) l
  unfold spec_PartsOf.f partsR
  refine Ev.bind (Ev.now _) ?_
  cases hq : readD (d + 1) l with
  | none =>
    rw [hq] at h1
    exact Ev.bind h1 (Ev.neg (by simp [resS]) (partsS_bad _ _ _))
  | some v =>
    rw [hq] at h1
    obtain ⟨e, h2, h3⟩ := readD_ok hq
    refine Ev.bind h1 (Ev.pos (by first | trivial | rfl) ?_)
    rw [show (((d + 1 : Nat) : Int) == 0) = false by simp; omega]
    refine Ev.step' ?_; simp only [spec_PartsOf.j0]
    have := partsS_l0 d hd v (Sh.of h2) (by have := nodes_le_text (d + 1) v; rw [← e] at this; omega) _ 0 rfl (by omega)
    rw [map_BA d v.parts] at this
    exact Ev.neg (by simp) this
theorem partsS_out (dp : Int) (h : dp < 1 ∨ 3 < dp) (l : By) : Ev (fun k => spec_PartsOf.f k (BA l) dp) (([] : List ByteArray), false) := by
  unfold spec_PartsOf.f
  refine Ev.bind (Ev.now _) ?_
  by_cases h0 : dp = 0
  · subst h0
    have h1 := l1Read_is 0 (by omega) l
    cases hq : readD 0 l with
    | none =>
      rw [hq] at h1
      exact Ev.bind h1 (Ev.neg (by simp [resS]) (partsS_bad _ _ _))
    | some v =>
      rw [hq] at h1
      exact Ev.bind h1 (Ev.pos (by first | trivial | rfl) (partsS_bad _ _ _))
  · exact Ev.bind (l1Read_out dp (by omega) _) (Ev.neg (by simp) (partsS_bad _ _ _))
end Go.Proofs.YtmjoigpnnechgaaDoor.B
