/- The program's CutArray and the reference's answer alike, for all arguments. -/
import Derived.Test.YtmjoigpnnechgaaDoorAProws
import Derived.Test.YtmjoigpnnechgaaDoorAPlaws
import Derived.Test.YtmjoigpnnechgaaDoorAx8
namespace Go.Proofs.YtmjoigpnnechgaaDoor.A
open Go.RowKit Go.Proofs.YtmjoigpnnechgaaDoorW.PrintWords Go.Proofs.YtmjoigpnnechgaaDoorW.PrintLast Go.Proofs.YtmjoigpnnechgaaDoorW.PrintMore Go.Proofs.YtmjoigpnnechgaaDoor.Q
set_option linter.unusedSimpArgs false
set_option linter.unusedVariables false

/-- Each row cut, one after the other. -/
def cutFrom : List Int → Nat → List (List Nat) → Option (List (List Nat))
  | [], _, R => some R
  | c :: cs, i, R => if 0 ≤ c ∧ c ≤ ((R.getD i []).length : Int) then cutFrom cs (i + 1) (R.set i ((R.getD i []).take c.toNat)) else none
def cutRes : Option (List (List Nat)) → ByteArray × Bool
  | none => (BA [], false)
  | some R => told (text 2 (mkT R))
theorem set_ok {R : List (List Nat)} (h : RowsOk R) (i m : Nat) : RowsOk (R.set i ((R.getD i []).take m)) := by
  refine ⟨by rw [List.length_set]; exact h.1, ?_⟩
  intro r hr
  rcases List.mem_or_eq_of_mem_set hr with hr | rfl
  · exact h.2 r hr
  · by_cases hi : i < R.length
    · have e : R.getD i [] = R[i] := by rw [List.getD_eq_getElem?_getD, List.getElem?_eq_getElem hi]; rfl
      rw [e]
      have hm := h.2 R[i] (List.getElem_mem hi)
      refine ⟨by rw [List.length_take]; omega, fun n hn => hm.2 n (List.mem_of_mem_take hn)⟩
    · have e : R.getD i [] = [] := by rw [List.getD_eq_getElem?_getD, List.getElem?_eq_none (by omega)]; rfl
      rw [e]
      simp
theorem rdL_at {R : List (List Nat)} {i : Nat} (h : i < R.length) : rd_L4 (intsL R) (i : Int) = ints (R.getD i []) := by
  rw [List.getD_eq_getElem?_getD, List.getElem?_eq_getElem h]
  exact getD_mapL _ _ _ _ h
theorem set_map {R : List (List Nat)} (i m : Nat) : (intsL R).set i ((ints (R.getD i [])).take m) = intsL (R.set i ((R.getD i []).take m)) := by
  rw [intsL, intsL, List.map_set]
  congr 1
  exact List.map_take.symm
theorem drop_cons {α : Type} {l : List α} {i : Nat} {c : α} {cs : List α} (h : l.drop i = c :: cs) : ∃ hi : i < l.length, l[i] = c ∧ l.drop (i + 1) = cs := by
  rcases Nat.lt_or_ge i l.length with h1 | h1
  · rw [List.drop_eq_getElem_cons h1] at h
    exact ⟨h1, (List.cons.inj h).1, (List.cons.inj h).2⟩
  · rw [List.drop_eq_nil_of_le h1] at h; cases h
theorem cutS_l0 (C : List Int) (hC : C.length ≤ 500) : ∀ (cs : List Int) (i : Nat) (R : List (List Nat)), C.drop i = cs → i ≤ C.length → C.length = R.length → RowsOk R →
    Ev (fun k => spec_CutArray.l0 k (intsL R) C (C.length : Int) (i : Int)) (cutRes (cutFrom cs i R)) := by
  intro cs
  induction cs with
  | nil =>
    intro i R hd hi hl hR
    have := congrArg List.length hd
    rw [List.length_drop, List.length_nil] at this
    refine Ev.step' ?_; simp only [spec_CutArray.l0]
    refine Ev.neg (by omega) ?_
    exact Ev.bind (textR_is R hR) (Ev.now _)
  | cons c cs ih =>
    intro i R hd hi hl hR
    obtain ⟨hlt, hc, hdn⟩ := drop_cons hd
    refine Ev.step' ?_; simp only [spec_CutArray.l0]
    refine Ev.pos (by omega) (Ev.pos (by omega) (Ev.pos (by omega) (Ev.pos (by rw [List.length_map]; omega) ?_)))
    rw [rd_at hlt, hc, rdL_at (by omega), wrapS (a := (i : Int) + 1) (by omega) (by omega), List.length_map]
    by_cases hok : 0 ≤ c ∧ c ≤ ((R.getD i []).length : Int)
    · have hin : spec_l1In.f c 0 ((R.getD i []).length : Int) = some true := by
        unfold spec_l1In.f
        rw [if_pos (by omega)]
        simp only [hok.2, decide_true]
      have hnext := ih (i + 1) (R.set i ((R.getD i []).take c.toNat)) hdn (by omega) (by rw [List.length_set]; omega) (set_ok hR i _)
      refine Ev.call hin (Ev.pos (by first | trivial | rfl) (Ev.pos hok.1 (Ev.pos hok.2 ?_)))
      rw [Int.toNat_natCast, set_map, cutFrom, if_pos hok]
      exact hnext
    · have hin : spec_l1In.f c 0 ((R.getD i []).length : Int) = some false := by
        unfold spec_l1In.f
        by_cases h0 : c ≥ 0
        · rw [if_pos h0]
          have : ¬ c ≤ ((R.getD i []).length : Int) := fun h => hok ⟨h0, h⟩
          simp only [this, decide_false]
        · rw [if_neg h0]
      refine Ev.call hin (Ev.neg (by simp) (Ev.val ?_))
      rw [cutFrom, if_neg hok]
      rfl
theorem cutA_l0 (C : List Int) (hC : C.length ≤ 500) : ∀ (cs : List Int) (i : Nat) (R : List (List Nat)), C.drop i = cs → i ≤ C.length → C.length = R.length → RowsOk R →
    Ev (fun k => impl_CutArray.l0 k (intsL R) C (C.length : Int) (i : Int)) (cutRes (cutFrom cs i R)) := by
  intro cs
  induction cs with
  | nil =>
    intro i R hd hi hl hR
    have := congrArg List.length hd
    rw [List.length_drop, List.length_nil] at this
    refine Ev.step' ?_; simp only [impl_CutArray.l0]
    refine Ev.neg (by omega) ?_
    exact Ev.bind (rowed_is R hR) (Ev.now _)
  | cons c cs ih =>
    intro i R hd hi hl hR
    obtain ⟨hlt, hc, hdn⟩ := drop_cons hd
    refine Ev.step' ?_; simp only [impl_CutArray.l0]
    refine Ev.pos (by omega) (Ev.pos (by omega) (Ev.pos (by omega) ?_))
    rw [rd_at hlt, hc, rdL_at (by omega), wrapS (a := (i : Int) + 1) (by omega) (by omega)]
    simp only [List.length_map]
    by_cases h0 : c < 0
    · refine Ev.pos h0 (Ev.val ?_)
      rw [cutFrom, if_neg (by omega)]
      rfl
    · refine Ev.neg h0 (Ev.pos (by omega) ?_)
      by_cases h1 : c > ((R.getD i []).length : Int)
      · refine Ev.pos h1 (Ev.val ?_)
        rw [cutFrom, if_neg (by omega)]
        rfl
      · have hok : 0 ≤ c ∧ c ≤ ((R.getD i []).length : Int) := by omega
        have hnext := ih (i + 1) (R.set i ((R.getD i []).take c.toNat)) hdn (by omega) (by rw [List.length_set]; omega) (set_ok hR i _)
        refine Ev.neg h1 (Ev.pos hok.1 (Ev.pos hok.2 ?_))
        rw [Int.toNat_natCast, set_map, cutFrom, if_pos hok]
        exact hnext
/-- What both answer. -/
def cutR (l : By) (C : List Int) : ByteArray × Bool := match readD 2 l with
  | none => (BA [], false)
  | some v => if C.length = (rowsN v).length then cutRes (cutFrom C 0 (rowsN v)) else (BA [], false)
theorem cutS_is (l : By) (C : List Int) : Ev (fun k => spec_CutArray.f k (BA l) C) (cutR l C) := by
  have hbad : ∀ X, Ev (fun k => spec_CutArray.j0 k C X true) (BA [], false) := by
    intro X
    refine Ev.step' ?_; simp only [spec_CutArray.j0]
    exact Ev.pos (by first | trivial | rfl) (Ev.now _)
  have ha := any_is l
  unfold spec_CutArray.f cutR
  refine Ev.bind ha ?_
  cases hq : readD 2 l with
  | none => exact Ev.neg (by simp) (hbad _)
  | some v =>
    obtain ⟨e, hok, hl⟩ := readD_ok hq
    have hR := rowsN_ok hok (by rw [← e]; omega)
    refine Ev.pos (by first | trivial | rfl) ?_
    dsimp only
    by_cases hC : C.length = (rowsN v).length
    · rw [if_pos hC]
      rw [show ((C.length : Int) != ((intsL (rowsN v)).length : Int)) = false by rw [List.length_map, hC]; simp]
      refine Ev.step' ?_; simp only [spec_CutArray.j0]
      have := hR.1
      exact Ev.neg (by simp) (cutS_l0 C (by omega) C 0 _ rfl (by omega) hC hR)
    · rw [if_neg hC]
      rw [show ((C.length : Int) != ((intsL (rowsN v)).length : Int)) = true by rw [List.length_map]; simpa using fun h => hC (by omega)]
      exact hbad _
theorem cutA_is (l : By) (C : List Int) : Ev (fun k => impl_CutArray.f k (BA l) C) (cutR l C) := by
  have hbad : ∀ X, Ev (fun k => impl_CutArray.j0 k C X true) (BA [], false) := by
    intro X
    refine Ev.step' ?_; simp only [impl_CutArray.j0]
    exact Ev.pos (by first | trivial | rfl) (Ev.now _)
  obtain ⟨R, ha, hR, hv⟩ := rowsOf_is l
  unfold impl_CutArray.f cutR
  refine Ev.bind ha ?_
  cases hq : readD 2 l with
  | none => exact Ev.neg (by simp) (hbad _)
  | some v =>
    obtain rfl := hv v hq
    refine Ev.pos (by first | trivial | rfl) ?_
    dsimp only
    by_cases hC : C.length = (rowsN v).length
    · rw [if_pos hC]
      rw [show ((C.length : Int) != ((intsL (rowsN v)).length : Int)) = false by rw [List.length_map, hC]; simp]
      refine Ev.step' ?_; simp only [impl_CutArray.j0]
      have := hR.1
      exact Ev.neg (by simp) (cutA_l0 C (by omega) C 0 _ rfl (by omega) hC hR)
    · rw [if_neg hC]
      rw [show ((C.length : Int) != ((intsL (rowsN v)).length : Int)) = true by rw [List.length_map]; simpa using fun h => hC (by omega)]
      exact hbad _
theorem Pure_FnExactCutArray : laws_FnExactCutArray.Pure := by
  intro a0 C _ _ _ _
  refine Ev.rounds (r := true) ?_
  unfold laws_FnExactCutArray.f
  by_cases h0 : (a0.size : Int) > 1048576
  · exact Ev.pos h0 (Ev.now _)
  · refine Ev.neg h0 ?_
    by_cases h1 : (C.length : Int) > 1048576
    · exact Ev.pos h1 (Ev.now _)
    · refine Ev.neg h1 ?_
      have hS := cutS_is a0.data.toList C
      have hA := cutA_is a0.data.toList C
      rw [BA_data] at hS hA
      refine Ev.bind (toIntS_is C (by omega)) (Ev.bind hS (Ev.bind (toIntS_is C (by omega)) (Ev.bind hA (Ev.pos rfl ?_))))
      rw [show ((cutR a0.data.toList C).2 != (cutR a0.data.toList C).2) = false by simp]
      refine Ev.step' ?_; simp only [laws_FnExactCutArray.j0]
      exact Ev.neg (by simp) (Ev.bind (toIntS_is C (by omega)) (Ev.bind (eqIntS_is C (by omega)) (Ev.pos (by first | trivial | rfl) (Ev.now _))))
end Go.Proofs.YtmjoigpnnechgaaDoor.A
