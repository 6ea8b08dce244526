/- An array made of the texts of its parts: the program's side. -/
import Derived.Test.YtmjoigpnnechgaaDoorBPparts
import Derived.Test.YtmjoigpnnechgaaDoorBx8
namespace Go.Proofs.YtmjoigpnnechgaaDoor.B
open Go.RowKit Go.Proofs.YtmjoigpnnechgaaDoorW.PrintWords Go.Proofs.YtmjoigpnnechgaaDoorW.PrintLast Go.Proofs.YtmjoigpnnechgaaDoorW.PrintMore Go.Proofs.YtmjoigpnnechgaaDoor.Q
set_option linter.unusedSimpArgs false
set_option linter.unusedVariables false

theorem rdOf_at {ts : List By} {i : Nat} (h : i < ts.length) : rdOf ByteArray.empty (ts.map BA) (i : Int) = BA ts[i] := by
  unfold rdOf
  rw [Int.toNat_natCast, List.getD_eq_getElem?_getD, List.getElem?_map, List.getElem?_eq_getElem h]
  rfl
theorem allR_snoc {d : Nat} {ts : List By} {i : Nat} (h : i < ts.length) : allR d (ts.take (i + 1)) = (allR d (ts.take i) && (readD d ts[i]).isSome) := by
  rw [allR, take_snoc _ _ h, List.all_append]
  simp [allR]
theorem allR_at {d : Nat} {ts : List By} {i : Nat} (h : i < ts.length) (hn : (readD d ts[i]).isSome = false) : allR d ts = false := by
  by_cases ha : allR d ts = true
  · have := List.all_eq_true.1 ha ts[i] (List.getElem_mem h)
    rw [hn] at this
    cases this
  · simpa using ha
theorem join_bound : ∀ (ts : List By), (∀ t ∈ ts, t.length ≤ 400) → (Lib.join ts [44]).length ≤ ts.length * 401
  | [], _ => by simp [join_nil]
  | [x], h => by
    have := h x (by simp)
    rw [join_one]
    simp
    omega
  | x :: y :: l, h => by
    have h1 := h x (by simp)
    have h2 := join_bound (y :: l) (fun z hz => h z (List.mem_cons_of_mem _ hz))
    rw [join_cons, List.length_append, List.length_cons, List.length_cons, Nat.add_mul]
    omega
theorem allR_len {d : Nat} {ts : List By} (h : allR d ts = true) : ∀ t ∈ ts, t.length ≤ 400 := by
  intro t ht
  obtain ⟨v, hv⟩ := Option.isSome_iff_exists.1 (List.all_eq_true.1 h t ht)
  exact (readD_ok hv).2.2
theorem join_call {ts : List By} (hl : ts.length ≤ 1000000) (h : ∀ t ∈ ts, t.length ≤ 400) : strings_Join.f (ts.map BA) (⟨#[44]⟩ : ByteArray) = some (BA (Lib.join ts [44])) := by
  have e : (ts.map BA).map (·.data.toList) = ts := by
    rw [List.map_map]
    conv => rhs; rw [← List.map_id ts]
    apply List.map_congr_left
    intro x _
    exact data_BA _
  have h1 := join_bound ts h
  have h2 := Nat.mul_le_mul_right 401 hl
  unfold strings_Join.f
  rw [e, if_pos (by rw [List.length_map]; omega), if_pos (by show (Lib.join ts [44]).length ≤ _; omega)]
  rfl
theorem validA_is (d : Nat) (hd : d ≤ 3) (l : By) : Ev (fun k => impl_ArrayValid.f k (BA l) (d : Int)) (readD d l).isSome := by
  obtain ⟨t, h1, _⟩ := arrOf_is d hd l
  unfold impl_ArrayValid.f
  exact Ev.bind h1 (Ev.now _)
theorem validA_out (dp : Int) (h : dp < 0 ∨ 3 < dp) (s : ByteArray) : Ev (fun k => impl_ArrayValid.f k s dp) false := by
  unfold impl_ArrayValid.f
  exact Ev.bind (arrOf_out dp h s) (Ev.now _)
theorem joined_is (ts : List By) : ((⟨#[91]⟩ : ByteArray) ++ BA (Lib.join ts [44])) ++ (⟨#[93]⟩ : ByteArray) = BA (joined ts) := by
  show (BA [91] ++ BA _) ++ BA [93] = _
  rw [BA_append, BA_append]
  rfl
theorem makeA_l0 (d : Nat) (hd : d ≤ 2) (ts : List By) (hl : ts.length ≤ 1000000) : ∀ (n i : Nat), ts.length - i = n → i ≤ ts.length → allR d (ts.take i) = true →
    Ev (fun k => impl_MakeArray.l0 k (ts.map BA) ((d + 1 : Nat) : Int) (ts.map BA) ((ts.map BA).length : Int) (i : Int)) (makeR d ts) := by
  intro n
  induction n with
  | zero =>
    intro i h hi ha
    rw [List.take_of_length_le (by omega)] at ha
    have hj := allR_len ha
    have h1 := join_bound ts hj
    have h2 := Nat.mul_le_mul_right 401 hl
    have h3 : (joined ts).length = (Lib.join ts [44]).length + 2 := by simp [joined]
    refine Ev.step' ?_; simp only [impl_MakeArray.l0]
    refine Ev.neg (by rw [List.length_map]; omega) (Ev.call (join_call hl hj) ?_)
    rw [joined_is, makeR, if_pos ha, told]
    refine Ev.pos (by rw [BA_size]; omega) (Ev.pos (by rw [BA_size]; omega) ?_)
    by_cases h4 : (joined ts).length ≤ 400
    · rw [if_pos h4]
      exact Ev.neg (by rw [BA_size]; omega) (Ev.now _)
    · rw [if_neg h4]
      exact Ev.pos (by rw [BA_size]; omega) (Ev.now _)
  | succ n ihn =>
    intro i h hi ha
    have hlt : i < ts.length := by omega
    have hv := validA_is d (by omega) ts[i]
    refine Ev.step' ?_; simp only [impl_MakeArray.l0]
    refine Ev.pos (by rw [List.length_map]; omega) (Ev.pos (by omega) (Ev.pos (by rw [List.length_map]; omega) ?_))
    rw [rdOf_at hlt, show wrap64 (((d + 1 : Nat) : Int) - 1) = (d : Int) by rw [wrapS (by omega) (by omega)]; omega, wrapS (a := (i : Int) + 1) (by omega) (by omega)]
    refine Ev.bind hv ?_
    by_cases hs : (readD d ts[i]).isSome = true
    · exact Ev.pos hs (ihn (i + 1) (by omega) (by omega) (by rw [allR_snoc hlt, ha, hs]; rfl))
    · refine Ev.neg hs (Ev.val ?_)
      rw [makeR, if_neg (by rw [allR_at hlt (by simpa using hs)]; simp)]
      rfl
theorem makeA_is (d : Nat) (hd : d ≤ 2) (ts : List By) (hl : ts.length ≤ 1000000) : Ev (fun k => impl_MakeArray.f k (ts.map BA) ((d + 1 : Nat) : Int)) (makeR d ts) := by
  unfold impl_MakeArray.f
  refine Ev.neg (by omega) ?_
  rw [show decide (((d + 1 : Nat) : Int) > 3) = false by rw [decide_eq_false_iff_not]; omega]
  refine Ev.step' ?_; simp only [impl_MakeArray.j0]
  exact Ev.neg (by simp) (makeA_l0 d hd ts hl _ 0 rfl (by omega) rfl)
theorem makeA_out (dp : Int) (h : dp < 1 ∨ 3 < dp) (xs : List ByteArray) : Ev (fun k => impl_MakeArray.f k xs dp) (BA [], false) := by
  have hbad : Ev (fun k => impl_MakeArray.j0 k xs dp true) (BA [], false) := by
    refine Ev.step' ?_; simp only [impl_MakeArray.j0]
    exact Ev.pos (by first | trivial | rfl) (Ev.now _)
  unfold impl_MakeArray.f
  by_cases h1 : dp < 1
  · exact Ev.pos h1 hbad
  · refine Ev.neg h1 ?_
    rw [show decide (dp > 3) = true by rw [decide_eq_true_iff]; omega]
    exact hbad
end Go.Proofs.YtmjoigpnnechgaaDoor.B
