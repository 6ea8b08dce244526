/- An array is made of its parts, and has those of which it is made. -/
import Derived.Test.YtmjoigpnnechgaaDoorBPmakeS
import Derived.Test.YtmjoigpnnechgaaDoorBPpartsS
import Derived.Test.YtmjoigpnnechgaaDoorBPfaTexts
import Derived.Test.YtmjoigpnnechgaaDoorBPdrawMake
import Derived.Test.YtmjoigpnnechgaaDoorBx9
namespace Go.Proofs.YtmjoigpnnechgaaDoor.B
open Go.RowKit Go.Proofs.YtmjoigpnnechgaaDoorW.PrintWords Go.Proofs.YtmjoigpnnechgaaDoorW.PrintLast Go.Proofs.YtmjoigpnnechgaaDoorW.PrintMore Go.Proofs.YtmjoigpnnechgaaDoor.Q
set_option linter.unusedSimpArgs false
set_option linter.unusedVariables false

theorem validS_is (d : Nat) (hd : d ≤ 3) (l : By) : Ev (fun k => spec_ArrayValid.f k (BA l) (d : Int)) (readD d l).isSome := by
  have h1 := l1Read_is d hd l
  unfold spec_ArrayValid.f
  cases hq : readD d l with
  | none => rw [hq] at h1; exact Ev.bind h1 (Ev.now _)
  | some v => rw [hq] at h1; exact Ev.bind h1 (Ev.now _)
theorem validS_out (dp : Int) (h : dp < 0 ∨ 3 < dp) (s : ByteArray) : Ev (fun k => spec_ArrayValid.f k s dp) false := by
  unfold spec_ArrayValid.f
  exact Ev.bind (l1Read_out dp h s) (Ev.now _)
theorem valid_both (dp : Int) (l : By) : ∃ b, Ev (fun k => impl_ArrayValid.f k (BA l) dp) b ∧ Ev (fun k => spec_ArrayValid.f k (BA l) dp) b := by
  by_cases h : dp < 0 ∨ 3 < dp
  · exact ⟨false, validA_out dp h _, validS_out dp h _⟩
  · obtain ⟨d, rfl⟩ : ∃ d : Nat, dp = (d : Int) := ⟨dp.toNat, by omega⟩
    exact ⟨_, validA_is d (by omega) l, validS_is d (by omega) l⟩
theorem lenS_is (d : Nat) (hd : d ≤ 2) (l : By) : Ev (fun k => spec_LengthOf.f k (BA l) ((d + 1 : Nat) : Int)) (lenR (partsR d l)) := by
  have h := partsS_is d hd l
  unfold spec_LengthOf.f
  cases hp : partsR d l with
  | none =>
    rw [hp] at h
    exact Ev.bind h (Ev.neg (by simp [resP]) (Ev.now _))
  | some ts =>
    rw [hp] at h
    refine Ev.bind h (Ev.pos (by first | trivial | rfl) (Ev.val ?_))
    show ((ts.map BA).length : Int) = _
    rw [List.length_map]
    rfl
theorem lenS_out (dp : Int) (h : dp < 1 ∨ 3 < dp) (l : By) : Ev (fun k => spec_LengthOf.f k (BA l) dp) (-1) := by
  unfold spec_LengthOf.f
  exact Ev.bind (partsS_out dp h l) (Ev.neg (by simp) (Ev.now _))
theorem partsR_len {d : Nat} {l : By} {ts : List By} (h : partsR d l = some ts) : ts.length ≤ 400 := by
  obtain ⟨v, hv, rfl⟩ := Option.map_eq_some_iff.1 h
  obtain ⟨h1, h2, h3⟩ := readD_ok hv
  have h4 := parts_len d v
  have h5 := nodes_le_text (d + 1) v
  rw [← h1] at h5
  rw [List.length_map]
  omega
/-- What the law's last part asks: the array's own parts make it again. -/
theorem make_j3 (l : By) (dp : Int) : ∃ ts ok, Ev (fun k => impl_PartsOf.f k (BA l) dp) (ts, ok) ∧ Ev (fun k => spec_PartsOf.f k (BA l) dp) (ts, ok) ∧ (∃ n, Ev (fun k => impl_LengthOf.f k (BA l) dp) n ∧ Ev (fun k => spec_LengthOf.f k (BA l) dp) n) ∧ ts.length ≤ 400 ∧ Ev (fun k => laws_FnMakeArray.j3 k (BA l) dp ts ok) true := by
  by_cases h : dp < 1 ∨ 3 < dp
  · refine ⟨_, _, partsA_out dp h l, partsS_out dp h l, ⟨_, lenA_out dp h l, lenS_out dp h l⟩, by simp, ?_⟩
    refine Ev.step' ?_; simp only [laws_FnMakeArray.j3]
    exact Ev.neg (by simp) (Ev.pos (by first | trivial | rfl) (Ev.bind (lenA_out dp h l) (Ev.val rfl)))
  · obtain ⟨d, rfl⟩ : ∃ d : Nat, dp = ((d + 1 : Nat) : Int) := ⟨(dp - 1).toNat, by omega⟩
    have hd : d ≤ 2 := by omega
    have hA := partsA_is d hd l
    have hS := partsS_is d hd l
    have hLA := lenA_is d hd l
    have hLS := lenS_is d hd l
    cases hp : partsR d l with
    | none =>
      rw [hp] at hA hS hLA hLS
      refine ⟨_, _, hA, hS, ⟨_, hLA, hLS⟩, by simp, ?_⟩
      refine Ev.step' ?_; simp only [laws_FnMakeArray.j3]
      exact Ev.neg (by simp) (Ev.pos (by first | trivial | rfl) (Ev.bind hLA (Ev.val rfl)))
    | some ts =>
      have hlen := partsR_len hp
      rw [hp] at hA hS hLA hLS
      obtain ⟨v, hv, rfl⟩ := Option.map_eq_some_iff.1 hp
      have hm := makeA_is d hd (v.parts.map (text d)) (by omega)
      rw [makeR_parts hv] at hm
      refine ⟨_, _, hA, hS, ⟨_, hLA, hLS⟩, by rw [List.length_map]; exact hlen, ?_⟩
      refine Ev.step' ?_; simp only [laws_FnMakeArray.j3]
      refine Ev.pos (by first | trivial | rfl) (Ev.bind hm (Ev.pos (by first | trivial | rfl) (Ev.pos (by first | trivial | rfl) (Ev.bind hLA (Ev.val ?_)))))
      simp [lenR]
theorem makeR_one (d : Nat) (ts : List By) : ∃ m b, makeR d ts = (m, b) := ⟨_, _, rfl⟩
theorem Pure_FnMakeArray : laws_FnMakeArray.Pure := by
  intro l0 l1 _ _ h0 _ _ h1
  refine Ev.rounds (r := true) ?_
  unfold laws_FnMakeArray.f
  have hend : Ev (fun k => laws_FnMakeArray.j0 k l0 l1 true) true := by
    refine Ev.step' ?_; simp only [laws_FnMakeArray.j0]
    exact Ev.pos (by first | trivial | rfl) (Ev.now _)
  by_cases c0 : (l0.length : Int) > 1048576
  · exact Ev.pos c0 hend
  refine Ev.neg c0 ?_
  by_cases c1 : (l1.length : Int) > 1048576
  · rw [show decide ((l1.length : Int) > 1048576) = true from decide_eq_true c1]
    exact hend
  rw [show decide ((l1.length : Int) > 1048576) = false from decide_eq_false c1]
  obtain ⟨t, dp, hd1, _, _, _⟩ := drawParts_is l0 h0
  obtain ⟨l, rfl, _⟩ := BA_of t
  obtain ⟨ts, ok, hA, hS, ⟨n, hLA, hLS⟩, hlen, hj3⟩ := make_j3 l dp
  obtain ⟨b, hvA, hvS⟩ := valid_both dp l
  refine Ev.step' ?_; simp only [laws_FnMakeArray.j0]
  refine Ev.neg (by simp) (Ev.bind hd1 (Ev.bind hA (Ev.bind hS (Ev.bind (faTexts_is ts (by omega)) (Ev.pos rfl (Ev.neg (by simp) (Ev.bind hvA (Ev.bind hvS (Ev.neg (by simp) (Ev.bind hLA (Ev.bind hLS ?_)))))))))))
  rw [show (n != n) = false by simp]
  obtain ⟨us, dn, hd2, hus, _, _⟩ := drawMake_is l1 h1
  obtain ⟨us, rfl⟩ : ∃ xs : List By, us = xs.map BA := ⟨us.map (fun b => b.data.toList), by
    rw [List.map_map]
    conv => lhs; rw [← List.map_id us]
    apply List.map_congr_left
    intro x _
    exact (BA_data x).symm⟩
  rw [List.length_map] at hus
  refine Ev.step' ?_; simp only [laws_FnMakeArray.j1]
  refine Ev.neg (by simp) (Ev.bind hd2 ?_)
  have key : ∃ m fine, Ev (fun k => impl_MakeArray.f k (us.map BA) dn) (m, fine) ∧ Ev (fun k => spec_MakeArray.f k (us.map BA) dn) (m, fine) ∧ Ev (fun k => laws_FnMakeArray.j2 k (BA l) dp ts ok (us.map BA) dn m fine false) true := by
    by_cases h : dn < 1 ∨ 3 < dn
    · refine ⟨_, _, makeA_out dn h _, makeS_out dn h _, ?_⟩
      refine Ev.step' ?_; simp only [laws_FnMakeArray.j2]
      exact Ev.neg (by simp) (Ev.neg (by simp) hj3)
    · obtain ⟨d, rfl⟩ : ∃ d : Nat, dn = ((d + 1 : Nat) : Int) := ⟨(dn - 1).toNat, by omega⟩
      have hd : d ≤ 2 := by omega
      have mA := makeA_is d hd us (by omega)
      have mS := makeS_is d hd us (by omega)
      obtain ⟨m, fine, hm⟩ := makeR_one d us
      rw [hm] at mA mS
      refine ⟨m, fine, mA, mS, ?_⟩
      refine Ev.step' ?_; simp only [laws_FnMakeArray.j2]
      refine Ev.neg (by simp) ?_
      cases fine with
      | false => exact Ev.neg (by simp) hj3
      | true =>
        obtain ⟨rfl, hr⟩ := makeR_read hm
        have pA := partsA_is d hd (joined us)
        rw [hr] at pA
        exact Ev.pos rfl (Ev.bind pA (Ev.pos (by first | trivial | rfl) (Ev.bind (faTexts_is (us.map BA) (by rw [List.length_map]; omega)) (Ev.pos rfl hj3))))
  obtain ⟨m, fine, mA, mS, hj2⟩ := key
  refine Ev.bind mA (Ev.bind mS (Ev.pos rfl ?_))
  rw [show (fine != fine) = false by simp]
  exact hj2
end Go.Proofs.YtmjoigpnnechgaaDoor.B
