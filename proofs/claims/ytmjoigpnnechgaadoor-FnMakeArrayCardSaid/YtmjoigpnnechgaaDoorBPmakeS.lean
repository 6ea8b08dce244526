/- An array made of the texts of its parts: the reference's side. -/
import Derived.Test.YtmjoigpnnechgaaDoorBPmake
import Derived.Test.YtmjoigpnnechgaaDoorBPtoldS
import Derived.Test.YtmjoigpnnechgaaDoorBx8
namespace Go.Proofs.YtmjoigpnnechgaaDoor.B
open Go.RowKit Go.Proofs.YtmjoigpnnechgaaDoorW.PrintWords Go.Proofs.YtmjoigpnnechgaaDoorW.PrintLast Go.Proofs.YtmjoigpnnechgaaDoorW.PrintMore Go.Proofs.YtmjoigpnnechgaaDoor.Q
set_option linter.unusedSimpArgs false
set_option linter.unusedVariables false

theorem vsOf_snoc {d : Nat} {ts : List By} {i : Nat} (h : i < ts.length) {v : Tr} (hv : readD d ts[i] = some v) : vsOf d (ts.take (i + 1)) = vsOf d (ts.take i) ++ [v] := by
  rw [vsOf, take_snoc _ _ h, List.filterMap_append, List.filterMap_cons, hv]
  rfl
theorem vsOf_len (d : Nat) (ts : List By) : (vsOf d ts).length ≤ ts.length := List.length_filterMap_le _ _
theorem makeS_l0 (d : Nat) (hd : d ≤ 2) (ts : List By) (hl : ts.length ≤ 1000000) : ∀ (n i : Nat), ts.length - i = n → i ≤ ts.length → allR d (ts.take i) = true →
    Ev (fun k => spec_MakeArray.l0 k ((d + 1 : Nat) : Int) (ts.map BA) ((ts.map BA).length : Int) (i : Int) 0 ((vsOf d (ts.take i)).map (cS d))) (makeR d ts) := by
  intro n
  induction n with
  | zero =>
    intro i h hi ha
    rw [List.take_of_length_le (by omega)] at ha ⊢
    have hvl := vsOf_len d ts
    have ht := toldS_is (d + 1) (by omega) ⟨0, vsOf d ts⟩ (Sh.of (mk_ok (fun x hx => (vsOf_ok hx).1))) (mk_nodes (fun x hx => (vsOf_ok hx).2) (by omega))
    rw [text_mk, vsOf_text ha] at ht
    refine Ev.step' ?_; simp only [spec_MakeArray.l0]
    refine Ev.neg (by rw [List.length_map]; omega) ?_
    rw [makeR, if_pos ha]
    exact Ev.bind ht (Ev.val rfl)
  | succ n ihn =>
    intro i h hi ha
    have hlt : i < ts.length := by omega
    have hv := l1Read_is d (by omega) ts[i]
    refine Ev.step' ?_; simp only [spec_MakeArray.l0]
    refine Ev.pos (by rw [List.length_map]; omega) (Ev.pos (by omega) (Ev.pos (by rw [List.length_map]; omega) ?_))
    rw [rdOf_at hlt, show wrap64 (((d + 1 : Nat) : Int) - 1) = (d : Int) by rw [wrapS (by omega) (by omega)]; omega, wrapS (a := (i : Int) + 1) (by omega) (by omega)]
    cases hq : readD d ts[i] with
    | none =>
      rw [hq] at hv
      refine Ev.bind hv (Ev.neg (by simp [resS]) (Ev.val ?_))
      rw [makeR, if_neg (by rw [allR_at hlt (by rw [hq]; rfl)]; simp)]
      rfl
    | some v =>
      rw [hq] at hv
      have hnext := ihn (i + 1) (by omega) (by omega) (by rw [allR_snoc hlt, ha, hq]; rfl)
      rw [vsOf_snoc hlt hq, List.map_append] at hnext
      have hvl := vsOf_len d (ts.take i)
      rw [List.length_take] at hvl
      refine Ev.bind hv (Ev.pos (by first | trivial | rfl) (Ev.pos (by rw [List.length_map]; omega) ?_))
      have e : (⟨(resS d (some v)).1, (resS d (some v)).2.1⟩ : NS) = cS d v := mkS _
      rw [e]
      exact hnext
theorem makeS_is (d : Nat) (hd : d ≤ 2) (ts : List By) (hl : ts.length ≤ 1000000) : Ev (fun k => spec_MakeArray.f k (ts.map BA) ((d + 1 : Nat) : Int)) (makeR d ts) := by
  have hin : spec_l1In.f ((d + 1 : Nat) : Int) 1 3 = some true := by
    unfold spec_l1In.f
    rw [if_pos (by omega)]
    simp
    omega
  unfold spec_MakeArray.f
  exact Ev.call hin (Ev.pos (by first | trivial | rfl) (makeS_l0 d hd ts hl _ 0 rfl (by omega) rfl))
theorem makeS_out (dp : Int) (h : dp < 1 ∨ 3 < dp) (xs : List ByteArray) : Ev (fun k => spec_MakeArray.f k xs dp) (BA [], false) := by
  have hin : spec_l1In.f dp 1 3 = some false := by
    unfold spec_l1In.f
    by_cases h1 : dp ≥ 1
    · rw [if_pos h1]
      simp
      omega
    · rw [if_neg h1]
  unfold spec_MakeArray.f
  exact Ev.call hin (Ev.neg (by simp) (Ev.now _))
end Go.Proofs.YtmjoigpnnechgaaDoor.B
