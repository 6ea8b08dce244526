/- Rows read and rows told, both sides. -/
import Derived.Test.YtmjoigpnnechgaaDoorAPnums
import Derived.Test.YtmjoigpnnechgaaDoorAx3
import Derived.Test.YtmjoigpnnechgaaDoorAx6
import Derived.Test.YtmjoigpnnechgaaDoorAx4
import Derived.Test.YtmjoigpnnechgaaDoorAx7
namespace Go.Proofs.YtmjoigpnnechgaaDoor.A
open Go.RowKit Go.Proofs.YtmjoigpnnechgaaDoorW.PrintWords Go.Proofs.YtmjoigpnnechgaaDoorW.PrintLast Go.Proofs.YtmjoigpnnechgaaDoorW.PrintMore Go.Proofs.YtmjoigpnnechgaaDoor.Q
set_option linter.unusedSimpArgs false
set_option linter.unusedVariables false

/-- The rows of an array of two levels. -/
def rowsN (t : Tr) : List (List Nat) := t.parts.map (Q.nums 1)
abbrev intsL (R : List (List Nat)) : List (List Int) := R.map ints
theorem rowsOf_l0 (t : Tr) (ok : Bool) (hn : nodes 2 t ≤ 1000000000) : ∀ (n i : Nat), t.parts.length - i = n → i ≤ t.parts.length →
    Ev (fun k => impl_rowsOf.l0 k ok (intsL ((t.parts.take i).map (Q.nums 1))) (t.parts.map (cA 1)) ((t.parts.map (cA 1)).length : Int) (i : Int)) (intsL (rowsN t), ok) := by
  have hpl : t.parts.length + 1 ≤ nodes 2 t := parts_len 1 t
  intro n
  induction n with
  | zero =>
    intro i h hi
    refine Ev.step' ?_; simp only [impl_rowsOf.l0]
    rw [List.take_of_length_le (by omega)]
    exact Ev.neg (by rw [List.length_map]; omega) (Ev.val rfl)
  | succ n ihn =>
    intro i h hi
    have hlt : i < t.parts.length := by omega
    have hm : t.parts[i] ∈ t.parts := List.getElem_mem hlt
    have hx := numsA_is 1 (by omega) t.parts[i] (by have : nodes 1 t.parts[i] ≤ nodes 2 t := nodes_part hm; omega)
    have hg : rd_T84 (t.parts.map (cA 1)) (i : Int) = cA 1 t.parts[i] := getD_map _ _ _ _ hlt
    have hnext := ihn (i + 1) (by omega) (by omega)
    rw [take_snoc _ _ hlt, List.map_append, intsL, List.map_append] at hnext
    refine Ev.step' ?_; simp only [impl_rowsOf.l0]
    refine Ev.pos (by rw [List.length_map]; omega) (Ev.pos (by omega) (Ev.pos (by rw [List.length_map]; omega) ?_))
    rw [hg, wrapS (a := (i : Int) + 1) (by omega) (by omega)]
    exact Ev.bind hx (Ev.pos (by rw [List.length_map, List.length_map, List.length_take]; omega) hnext)
theorem any_l0 (t : Tr) (ok : Bool) (hn : nodes 2 t ≤ 1000000000) : ∀ (n i : Nat), t.parts.length - i = n → i ≤ t.parts.length →
    Ev (fun k => spec_l11Any.l0 k (intsL ((t.parts.take i).map (Q.nums 1))) ok (t.parts.map (cS 1)) ((t.parts.map (cS 1)).length : Int) (i : Int)) (intsL (rowsN t), ok) := by
  have hpl : t.parts.length + 1 ≤ nodes 2 t := parts_len 1 t
  intro n
  induction n with
  | zero =>
    intro i h hi
    refine Ev.step' ?_; simp only [spec_l11Any.l0]
    rw [List.take_of_length_le (by omega)]
    exact Ev.neg (by rw [List.length_map]; omega) (Ev.val rfl)
  | succ n ihn =>
    intro i h hi
    have hlt : i < t.parts.length := by omega
    have hm : t.parts[i] ∈ t.parts := List.getElem_mem hlt
    have hx := numsS_is 1 (by omega) t.parts[i] (by have : nodes 1 t.parts[i] ≤ nodes 2 t := nodes_part hm; omega)
    have hg : rd_T95 (t.parts.map (cS 1)) (i : Int) = cS 1 t.parts[i] := getD_map _ _ _ _ hlt
    have hnext := ihn (i + 1) (by omega) (by omega)
    rw [take_snoc _ _ hlt, List.map_append, intsL, List.map_append] at hnext
    refine Ev.step' ?_; simp only [spec_l11Any.l0]
    refine Ev.pos (by rw [List.length_map]; omega) (Ev.pos (by omega) (Ev.pos (by rw [List.length_map]; omega) ?_))
    rw [hg, wrapS (a := (i : Int) + 1) (by omega) (by omega)]
    exact Ev.bind hx (Ev.pos (by rw [List.length_map, List.length_map, List.length_take]; omega) hnext)
/-- Rows within what a text of 402 bytes can hold. -/
def RowsOk (R : List (List Nat)) : Prop := R.length ≤ 500 ∧ ∀ r ∈ R, r.length ≤ 500 ∧ ∀ n ∈ r, n < 10007
theorem nums_ok : ∀ (d : Nat) (t : Tr), Ok d t → ∀ n ∈ Q.nums d t, n < 10007
  | 0, t, h, n, hn => by
    obtain rfl := List.mem_singleton.1 hn
    exact h.1
  | d + 1, t, h, n, hn => by
    obtain ⟨l, hl, hnl⟩ := List.mem_flatten.1 hn
    obtain ⟨x, hx, rfl⟩ := List.mem_map.1 hl
    exact nums_ok d x (h.2 x hx) n hnl
theorem rowsN_ok {t : Tr} (h : Ok 2 t) (hl : (text 2 t).length ≤ 402) : RowsOk (rowsN t) := by
  have hn := nodes_le_text 2 t
  have hp : t.parts.length + 1 ≤ nodes 2 t := parts_len 1 t
  refine ⟨by rw [rowsN, List.length_map]; omega, ?_⟩
  intro r hr
  obtain ⟨x, hx, rfl⟩ := List.mem_map.1 hr
  have h1 : nodes 1 x ≤ nodes 2 t := nodes_part hx
  have h2 := nums_le 1 x
  exact ⟨by omega, nums_ok 1 x (h.2 x hx)⟩
theorem rowsOf_is (l : By) : ∃ R, Ev (fun k => impl_rowsOf.f k (BA l)) (intsL R, (readD 2 l).isSome) ∧ RowsOk R ∧ ∀ v, readD 2 l = some v → R = rowsN v := by
  obtain ⟨t, h1, h2, h3, h4⟩ := arrOf_is 2 (by omega) l
  refine ⟨rowsN t, ?_, rowsN_ok h2 h3, fun v hv => by rw [h4 v hv]⟩
  unfold impl_rowsOf.f
  refine Ev.bind h1 ?_
  exact rowsOf_l0 t _ (by have := nodes_le_text 2 t; omega) _ 0 rfl (by omega)
theorem any_is (l : By) : Ev (fun k => spec_l11Any.f k (BA l)) (match readD 2 l with | none => ([], false) | some v => (intsL (rowsN v), true)) := by
  have h1 := l1Read_is 2 (by omega) l
  unfold spec_l11Any.f
  cases hq : readD 2 l with
  | none =>
    rw [hq] at h1
    refine Ev.bind h1 ?_
    exact any_l0 ⟨0, []⟩ false (by decide) _ 0 rfl (by simp)
  | some v =>
    rw [hq] at h1
    obtain ⟨e, _, hl⟩ := readD_ok hq
    refine Ev.bind h1 ?_
    exact any_l0 v true (by have := nodes_le_text 2 v; rw [e] at hl; omega) _ 0 rfl (by omega)

def mkR (r : List Nat) : Tr := ⟨0, r.map fun n => ⟨n, []⟩⟩
def mkT (R : List (List Nat)) : Tr := ⟨0, R.map mkR⟩
theorem mkT_sh {R : List (List Nat)} (h : ∀ r ∈ R, ∀ n ∈ r, n < 1000000000) : Sh 2 (mkT R) := by
  intro x hx
  obtain ⟨r, hr, rfl⟩ := List.mem_map.1 hx
  intro y hy
  obtain ⟨n, hn, rfl⟩ := List.mem_map.1 hy
  exact h r hr n hn
theorem nodes_mkR (r : List Nat) : nodes 1 (mkR r) = 1 + r.length := by
  show 1 + ((r.map fun n => (⟨n, []⟩ : Tr)).map (nodes 0)).sum = _
  rw [List.map_map]
  congr 1
  induction r with
  | nil => rfl
  | cons n r ih => rw [List.map_cons, List.sum_cons, ih, List.length_cons]; show 1 + _ = _; omega
theorem nodes_mkT : ∀ (R : List (List Nat)) (m : Nat), (∀ r ∈ R, r.length ≤ m) → nodes 2 (mkT R) ≤ 1 + R.length * (1 + m) := by
  intro R m h
  show 1 + ((R.map mkR).map (nodes 1)).sum ≤ _
  have : ((R.map mkR).map (nodes 1)).sum ≤ R.length * (1 + m) := by
    induction R with
    | nil => simp
    | cons r R ih =>
      have h1 := h r (by simp)
      have h2 := ih (fun r hr => h r (List.mem_cons_of_mem _ hr))
      rw [List.map_cons, List.map_cons, List.sum_cons, nodes_mkR, List.length_cons, Nat.add_mul, Nat.one_mul]
      omega
  omega
theorem RowsOk.sh {R : List (List Nat)} (h : RowsOk R) : Sh 2 (mkT R) ∧ nodes 2 (mkT R) ≤ 1000000000 := by
  refine ⟨mkT_sh (fun r hr n hn => by have := (h.2 r hr).2 n hn; omega), ?_⟩
  have h1 := nodes_mkT R 500 (fun r hr => (h.2 r hr).1)
  have h2 := Nat.mul_le_mul_right (1 + 500) h.1
  omega
theorem getD_mapL {α β : Type} (f : β → α) (xs : List β) (i : Nat) (z : α) (h : i < xs.length) : (xs.map f).getD i z = f xs[i] := by
  rw [List.getD_eq_getElem?_getD, List.getElem?_map, List.getElem?_eq_getElem h]
  rfl
theorem rowedA_l1 (X : List (List Int)) (x13 : Int) (j : Nat) (hj : j ≤ 1000000) (r : List Nat) (hr : r.length ≤ 1000000) (acc : List NA) (hacc : acc.length ≤ 1000000) (res : ByteArray × Bool)
    (hgo : Ev (fun k => impl_rowed.l0 k X x13 ((j + 1 : Nat) : Int) 0 (acc ++ [cA 1 (mkR r)])) res) :
    ∀ (n i : Nat), r.length - i = n → i ≤ r.length → Ev (fun k => impl_rowed.l1 k X x13 (j : Int) (ints r) ((ints r).length : Int) (i : Int) 0 acc 0 ((r.take i).map fun m : Nat => (⟨(m : Int), []⟩ : NA))) res := by
  intro n
  induction n with
  | zero =>
    intro i h hi
    refine Ev.step' ?_; simp only [impl_rowed.l1]
    rw [List.take_of_length_le (by omega)]
    refine Ev.neg (by rw [List.length_map]; omega) (Ev.pos (by omega) ?_)
    rw [wrapS (a := (j : Int) + 1) (by omega) (by omega)]
    have e : cA 1 (mkR r) = ⟨0, r.map fun m : Nat => (⟨(m : Int), []⟩ : NA)⟩ := by
      show (⟨_, _⟩ : NA) = _
      congr 1
      rw [mkR, List.map_map]
      rfl
    rw [e] at hgo
    exact hgo
  | succ n ihn =>
    intro i h hi
    have hlt : i < r.length := by omega
    have hg : rd (ints r) (i : Int) = (r[i] : Int) := getD_mapL _ _ _ _ hlt
    have hnext := ihn (i + 1) (by omega) (by omega)
    rw [take_snoc _ _ hlt, List.map_append] at hnext
    refine Ev.step' ?_; simp only [impl_rowed.l1]
    refine Ev.pos (by rw [List.length_map]; omega) (Ev.pos (by omega) (Ev.pos (by rw [List.length_map]; omega) (Ev.pos (by rw [List.length_map, List.length_take]; omega) ?_)))
    rw [hg, wrapS (a := (i : Int) + 1) (by omega) (by omega)]
    exact hnext
theorem rowedA_l0 (R : List (List Nat)) (h : RowsOk R) : ∀ (n i : Nat), R.length - i = n → i ≤ R.length →
    Ev (fun k => impl_rowed.l0 k (intsL R) ((intsL R).length : Int) (i : Int) 0 ((R.take i).map fun r => cA 1 (mkR r))) (told (text 2 (mkT R))) := by
  obtain ⟨h1, h2⟩ := h.sh
  have hs := shortA_is 2 (by omega) (mkT R) h1 h2
  intro n
  induction n with
  | zero =>
    intro i hd hi
    refine Ev.step' ?_; simp only [impl_rowed.l0]
    rw [List.take_of_length_le (by omega)]
    refine Ev.neg (by rw [List.length_map]; omega) ?_
    have e : (cA 2 (mkT R)).f1 = R.map fun r => cA 1 (mkR r) := by
      show (R.map mkR).map (cA 1) = _
      rw [List.map_map]
      rfl
    rw [e] at hs
    exact Ev.bind hs (Ev.val rfl)
  | succ n ihn =>
    intro i hd hi
    have hlt : i < R.length := by omega
    have hg : rd_L4 (intsL R) (i : Int) = ints R[i] := getD_mapL _ _ _ _ hlt
    have hr := (h.2 R[i] (List.getElem_mem hlt)).1
    have hnext := ihn (i + 1) (by omega) (by omega)
    rw [take_snoc _ _ hlt, List.map_append] at hnext
    have hR := h.1
    refine Ev.step' ?_; simp only [impl_rowed.l0]
    refine Ev.pos (by rw [List.length_map]; omega) (Ev.pos (by omega) (Ev.pos (by rw [List.length_map]; omega) ?_))
    rw [hg]
    exact rowedA_l1 _ _ i (by omega) R[i] (by omega) _ (by rw [List.length_map, List.length_take]; omega) _ hnext _ 0 rfl (by omega)
theorem rowed_is (R : List (List Nat)) (h : RowsOk R) : Ev (fun k => impl_rowed.f k (intsL R)) (told (text 2 (mkT R))) := by
  unfold impl_rowed.f
  exact rowedA_l0 R h _ 0 rfl (by omega)
theorem rowsS_l1 (X : List (List Int)) (x13 : Int) (j : Nat) (hj : j ≤ 1000000) (r : List Nat) (hr : r.length ≤ 1000000) (acc : List NS) (hacc : acc.length ≤ 1000000) (res : ByteArray × Bool)
    (hgo : Ev (fun k => spec_l11Text.l0 k X x13 ((j + 1 : Nat) : Int) 0 (acc ++ [cS 1 (mkR r)])) res) :
    ∀ (n i : Nat), r.length - i = n → i ≤ r.length → Ev (fun k => spec_l11Text.l1 k X x13 (j : Int) (ints r) ((ints r).length : Int) (i : Int) 0 acc 0 ((r.take i).map fun m : Nat => (⟨(m : Int), []⟩ : NS))) res := by
  intro n
  induction n with
  | zero =>
    intro i h hi
    refine Ev.step' ?_; simp only [spec_l11Text.l1]
    rw [List.take_of_length_le (by omega)]
    refine Ev.neg (by rw [List.length_map]; omega) (Ev.pos (by omega) ?_)
    rw [wrapS (a := (j : Int) + 1) (by omega) (by omega)]
    have e : cS 1 (mkR r) = ⟨0, r.map fun m : Nat => (⟨(m : Int), []⟩ : NS)⟩ := by
      show (⟨_, _⟩ : NS) = _
      congr 1
      rw [mkR, List.map_map]
      rfl
    rw [e] at hgo
    exact hgo
  | succ n ihn =>
    intro i h hi
    have hlt : i < r.length := by omega
    have hg : rd (ints r) (i : Int) = (r[i] : Int) := getD_mapL _ _ _ _ hlt
    have hnext := ihn (i + 1) (by omega) (by omega)
    rw [take_snoc _ _ hlt, List.map_append] at hnext
    refine Ev.step' ?_; simp only [spec_l11Text.l1]
    refine Ev.pos (by rw [List.length_map]; omega) (Ev.pos (by omega) (Ev.pos (by rw [List.length_map]; omega) (Ev.pos (by rw [List.length_map, List.length_take]; omega) ?_)))
    rw [hg, wrapS (a := (i : Int) + 1) (by omega) (by omega)]
    exact hnext
theorem rowsS_l0 (R : List (List Nat)) (h : RowsOk R) : ∀ (n i : Nat), R.length - i = n → i ≤ R.length →
    Ev (fun k => spec_l11Text.l0 k (intsL R) ((intsL R).length : Int) (i : Int) 0 ((R.take i).map fun r => cS 1 (mkR r))) (told (text 2 (mkT R))) := by
  obtain ⟨h1, h2⟩ := h.sh
  have hs := toldS_is 2 (by omega) (mkT R) h1 h2
  intro n
  induction n with
  | zero =>
    intro i hd hi
    refine Ev.step' ?_; simp only [spec_l11Text.l0]
    rw [List.take_of_length_le (by omega)]
    refine Ev.neg (by rw [List.length_map]; omega) ?_
    have e : (cS 2 (mkT R)).f1 = R.map fun r => cS 1 (mkR r) := by
      show (R.map mkR).map (cS 1) = _
      rw [List.map_map]
      rfl
    rw [e] at hs
    exact Ev.bind hs (Ev.val rfl)
  | succ n ihn =>
    intro i hd hi
    have hlt : i < R.length := by omega
    have hg : rd_L4 (intsL R) (i : Int) = ints R[i] := getD_mapL _ _ _ _ hlt
    have hr := (h.2 R[i] (List.getElem_mem hlt)).1
    have hnext := ihn (i + 1) (by omega) (by omega)
    rw [take_snoc _ _ hlt, List.map_append] at hnext
    have hR := h.1
    refine Ev.step' ?_; simp only [spec_l11Text.l0]
    refine Ev.pos (by rw [List.length_map]; omega) (Ev.pos (by omega) (Ev.pos (by rw [List.length_map]; omega) ?_))
    rw [hg]
    exact rowsS_l1 _ _ i (by omega) R[i] (by omega) _ (by rw [List.length_map, List.length_take]; omega) _ hnext _ 0 rfl (by omega)
theorem textR_is (R : List (List Nat)) (h : RowsOk R) : Ev (fun k => spec_l11Text.f k (intsL R)) (told (text 2 (mkT R))) := by
  unfold spec_l11Text.f
  exact rowsS_l0 R h _ 0 rfl (by omega)
end Go.Proofs.YtmjoigpnnechgaaDoor.A
