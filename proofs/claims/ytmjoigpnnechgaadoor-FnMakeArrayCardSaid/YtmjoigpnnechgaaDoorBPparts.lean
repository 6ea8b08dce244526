/- Parts of an array's text, and the text of parts: the program's side. -/
import Derived.Test.YtmjoigpnnechgaaDoorBPtext
import Derived.Test.YtmjoigpnnechgaaDoorBx4
import Derived.Test.YtmjoigpnnechgaaDoorBx7
namespace Go.Proofs.YtmjoigpnnechgaaDoor.B
open Go.RowKit Go.Proofs.YtmjoigpnnechgaaDoorW.PrintWords Go.Proofs.YtmjoigpnnechgaaDoorW.PrintLast Go.Proofs.YtmjoigpnnechgaaDoorW.PrintMore Go.Proofs.YtmjoigpnnechgaaDoor.Q
set_option linter.unusedSimpArgs false
set_option linter.unusedVariables false

/-! ### plain -/
theorem join_mem (f : Tr → By) : ∀ (xs : List Tr) (x : Tr), x ∈ xs → (f x).length ≤ (Lib.join (xs.map f) [44]).length
  | [y], x, h => by
    obtain rfl := List.mem_singleton.1 h
    rw [List.map_cons, List.map_nil, join_one]
    exact Nat.le_refl _
  | y :: z :: l, x, h => by
    rw [List.map_cons, List.map_cons, join_cons, List.length_append, List.length_cons]
    rcases List.mem_cons.1 h with rfl | h
    · omega
    · have := join_mem f (z :: l) x h
      rw [List.map_cons] at this
      omega
theorem text_part {d : Nat} {t x : Tr} (h : x ∈ t.parts) : (text d x).length ≤ (text (d + 1) t).length := by
  have := join_mem (text d) t.parts x h
  show _ ≤ (91 :: (Lib.join (t.parts.map (text d)) [44] ++ [93])).length
  rw [List.length_cons, List.length_append]
  omega
theorem part_read {d : Nat} {t x : Tr} (ht : Ok (d + 1) t) (hl : (text (d + 1) t).length ≤ 400) (h : x ∈ t.parts) : readD d (text d x) = some x :=
  readD_text (ht.2 x h) (Nat.le_trans (text_part h) hl)
/-- The text of an array of parts. -/
def joined (ts : List By) : By := 91 :: (Lib.join ts [44] ++ [93])
theorem text_mk (d : Nat) (vs : List Tr) : text (d + 1) ⟨0, vs⟩ = joined (vs.map (text d)) := rfl
def allR (d : Nat) (ts : List By) : Bool := ts.all fun t => (readD d t).isSome
def vsOf (d : Nat) (ts : List By) : List Tr := ts.filterMap (readD d)
theorem vsOf_text {d : Nat} : ∀ {ts : List By}, allR d ts = true → (vsOf d ts).map (text d) = ts
  | [], _ => rfl
  | t :: ts, h => by
    simp only [allR, List.all_cons, Bool.and_eq_true] at h
    obtain ⟨v, hv⟩ := Option.isSome_iff_exists.1 h.1
    have ih := vsOf_text (ts := ts) h.2
    rw [vsOf, List.filterMap_cons, hv]
    show text d v :: (vsOf d ts).map (text d) = _
    rw [ih, ← (readD_ok hv).1]
theorem vsOf_ok {d : Nat} {ts : List By} {x : Tr} (h : x ∈ vsOf d ts) : Ok d x ∧ (text d x).length ≤ 400 := by
  obtain ⟨t, _, ht⟩ := List.mem_filterMap.1 h
  obtain ⟨h1, h2, h3⟩ := readD_ok ht
  exact ⟨h2, by rw [← h1]; exact h3⟩
theorem vsOf_map {d : Nat} : ∀ {vs : List Tr}, (∀ x ∈ vs, readD d (text d x) = some x) → allR d (vs.map (text d)) = true ∧ vsOf d (vs.map (text d)) = vs
  | [], _ => ⟨rfl, rfl⟩
  | x :: vs, h => by
    have h1 := h x (by simp)
    obtain ⟨h2, h3⟩ := vsOf_map (vs := vs) (fun y hy => h y (List.mem_cons_of_mem _ hy))
    constructor
    · simp only [allR, List.map_cons, List.all_cons, h1, Option.isSome_some, Bool.true_and]
      exact h2
    · rw [vsOf, List.map_cons, List.filterMap_cons, h1]
      show x :: vsOf d _ = _
      rw [h3]
theorem mk_ok {d : Nat} {vs : List Tr} (h : ∀ x ∈ vs, Ok d x) : Ok (d + 1) ⟨0, vs⟩ := ⟨rfl, h⟩
theorem mk_nodes {d : Nat} {vs : List Tr} (h : ∀ x ∈ vs, (text d x).length ≤ 400) (hv : vs.length ≤ 1000000) : nodes (d + 1) ⟨0, vs⟩ ≤ 1000000000 := by
  have : ∀ xs : List Tr, (∀ x ∈ xs, (text d x).length ≤ 400) → (xs.map (nodes d)).sum ≤ xs.length * 400 := by
    intro xs
    induction xs with
    | nil => intro _; simp
    | cons x l ih =>
      intro h
      have h1 := h x (by simp)
      have h2 := ih (fun y hy => h y (List.mem_cons_of_mem _ hy))
      have h3 := nodes_le_text d x
      rw [List.map_cons, List.sum_cons, List.length_cons, Nat.add_mul]
      omega
  have h1 := this vs h
  show 1 + (vs.map (nodes d)).sum ≤ _
  have h2 := Nat.mul_le_mul_right 400 hv
  omega
/-- What an array of parts is told as. -/
def makeR (d : Nat) (ts : List By) : ByteArray × Bool := if allR d ts = true then told (joined ts) else (BA [], false)
theorem makeR_map {d : Nat} {vs : List Tr} (h : ∀ x ∈ vs, readD d (text d x) = some x) : makeR d (vs.map (text d)) = told (text (d + 1) ⟨0, vs⟩) := by
  rw [makeR, if_pos (vsOf_map h).1, text_mk]
theorem makeR_parts {d : Nat} {l : By} {v : Tr} (h : readD (d + 1) l = some v) : makeR d (v.parts.map (text d)) = (BA l, true) := by
  obtain ⟨h1, h2, h3⟩ := readD_ok h
  have h4 : (⟨0, v.parts⟩ : Tr) = v := by
    have := h2.1
    cases v
    simp only at this
    subst this
    rfl
  rw [makeR_map (fun x hx => part_read h2 (by rw [← h1]; exact h3) hx), h4, ← h1, told, if_pos h3]
/-- The parts of an array, as the document says. -/
def partsR (d : Nat) (l : By) : Option (List By) := (readD (d + 1) l).map fun v => v.parts.map (text d)
theorem makeR_read {d : Nat} {ts : List By} {m : ByteArray} (h : makeR d ts = (m, true)) : m = BA (joined ts) ∧ partsR d (joined ts) = some ts := by
  unfold makeR told at h
  split at h
  · next ha =>
    split at h
    · next hl =>
      simp only [Prod.mk.injEq, and_true] at h
      refine ⟨h.symm, ?_⟩
      have e := vsOf_text ha
      have e2 : joined ts = text (d + 1) ⟨0, vsOf d ts⟩ := by rw [text_mk, e]
      rw [partsR, e2, readD_text (mk_ok (fun x hx => (vsOf_ok hx).1)) (by rw [← e2]; exact hl)]
      exact congrArg some e
    · cases h
  · cases h
def resP : Option (List By) → List ByteArray × Bool
  | none => ([], false)
  | some ts => (ts.map BA, true)

/-! ### PartsOf -/
theorem partsA_l0 (d : Nat) (hd : d ≤ 2) (t : Tr) (hs : Sh (d + 1) t) (hn : nodes (d + 1) t ≤ 1000000000) :
    ∀ (n i : Nat), t.parts.length - i = n → i ≤ t.parts.length → Ev (fun k => impl_PartsOf.l0 k ((d + 1 : Nat) : Int) ((t.parts.take i).map fun x => BA (text d x)) (t.parts.map (cA d)) ((t.parts.map (cA d)).length : Int) (i : Int)) (t.parts.map (fun x => BA (text d x)), true) := by
  have hpl := parts_len d t
  intro n
  induction n with
  | zero =>
    intro i h hi
    refine Ev.step' ?_; simp only [impl_PartsOf.l0]
    rw [List.take_of_length_le (by omega)]
    exact Ev.neg (by rw [List.length_map]; omega) (Ev.val rfl)
  | succ n ihn =>
    intro i h hi
    have hlt : i < t.parts.length := by omega
    have hm : t.parts[i] ∈ t.parts := List.getElem_mem hlt
    have hx := textA_is d (by omega) t.parts[i] (hs _ hm) (by have := nodes_part (d := d) hm; omega)
    have hg : rd_T84 (t.parts.map (cA d)) (i : Int) = cA d t.parts[i] := getD_map _ _ _ _ hlt
    have hnext := ihn (i + 1) (by omega) (by omega)
    rw [take_snoc _ _ hlt, List.map_append] at hnext
    refine Ev.step' ?_; simp only [impl_PartsOf.l0]
    refine Ev.pos (by rw [List.length_map]; omega) (Ev.pos (by omega) (Ev.pos (by rw [List.length_map]; omega) ?_))
    rw [hg, show wrap64 (((d + 1 : Nat) : Int) - 1) = (d : Int) by rw [wrapS (by omega) (by omega)]; omega, wrapS (a := (i : Int) + 1) (by omega) (by omega)]
    exact Ev.bind hx (Ev.pos (by rw [List.length_map, List.length_take]; omega) hnext)
theorem map_BA (d : Nat) (xs : List Tr) : (xs.map fun x => BA (text d x)) = (xs.map (text d)).map BA := by rw [List.map_map]; rfl
theorem partsA_bad (x1 : Int) (m : Int) (ps : List NA) : Ev (fun k => impl_PartsOf.j0 k x1 true m ps) (([] : List ByteArray), false) := by
  refine Ev.step' ?_; simp only [impl_PartsOf.j0]
  exact Ev.pos (by first | trivial | rfl) (Ev.now _)
theorem partsA_is (d : Nat) (hd : d ≤ 2) (l : By) : Ev (fun k => impl_PartsOf.f k (BA l) ((d + 1 : Nat) : Int)) (resP (partsR d l)) := by
  obtain ⟨t, h1, h2, h3, h4⟩ := arrOf_is (d + 1) (by omega) l
  unfold impl_PartsOf.f partsR
  refine Ev.bind h1 ?_
  cases hq : readD (d + 1) l with
  | none => exact Ev.neg (by simp) (partsA_bad _ _ _)
  | some v =>
    obtain rfl := h4 v hq
    refine Ev.pos (by first | trivial | rfl) ?_
    rw [show (((d + 1 : Nat) : Int) == 0) = false by simp; omega]
    refine Ev.step' ?_; simp only [impl_PartsOf.j0]
    have := partsA_l0 d hd t (Sh.of h2) (by have := nodes_le_text (d + 1) t; omega) _ 0 rfl (by omega)
    rw [map_BA d t.parts] at this
    exact Ev.neg (by simp) this
theorem partsA_out (dp : Int) (h : dp < 1 ∨ 3 < dp) (l : By) : Ev (fun k => impl_PartsOf.f k (BA l) dp) (([] : List ByteArray), false) := by
  unfold impl_PartsOf.f
  by_cases h0 : dp = 0
  · subst h0
    obtain ⟨t, h1, h2, h3, h4⟩ := arrOf_is 0 (by omega) l
    refine Ev.bind h1 ?_
    cases hq : readD 0 l with
    | none => exact Ev.neg (by simp) (partsA_bad _ _ _)
    | some v => exact Ev.pos (by first | trivial | rfl) (partsA_bad _ _ _)
  · exact Ev.bind (arrOf_out dp (by omega) _) (Ev.neg (by simp) (partsA_bad _ _ _))
/-! ### LengthOf -/
def lenR : Option (List By) → Int
  | none => -1
  | some ts => (ts.length : Int)
theorem lenA_is (d : Nat) (hd : d ≤ 2) (l : By) : Ev (fun k => impl_LengthOf.f k (BA l) ((d + 1 : Nat) : Int)) (lenR (partsR d l)) := by
  have h := partsA_is d hd l
  unfold impl_LengthOf.f
  cases hp : partsR d l with
  | none =>
    rw [hp] at h
    exact Ev.bind h (Ev.neg (by simp [resP]) (Ev.now _))
  | some ts =>
    rw [hp] at h
    refine Ev.bind h (Ev.pos (by first | trivial | rfl) (Ev.val ?_))
    show ((ts.map BA).length : Int) = _
    rw [List.length_map]
    rfl
theorem lenA_out (dp : Int) (h : dp < 1 ∨ 3 < dp) (l : By) : Ev (fun k => impl_LengthOf.f k (BA l) dp) (-1) := by
  unfold impl_LengthOf.f
  exact Ev.bind (partsA_out dp h l) (Ev.neg (by simp) (Ev.now _))
end Go.Proofs.YtmjoigpnnechgaaDoor.B
