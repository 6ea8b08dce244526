/- Both tellers of an array, by their own text: each answers the text. -/
import Derived.Test.YtmjoigpnnechgaaDoorBPread
import Derived.Test.YtmjoigpnnechgaaDoorBPdec
import Derived.Test.YtmjoigpnnechgaaDoorBx7
import Derived.Test.YtmjoigpnnechgaaDoorBx4
namespace Go.Proofs.YtmjoigpnnechgaaDoor.B
open Go.RowKit Go.Proofs.YtmjoigpnnechgaaDoorW.PrintWords Go.Proofs.YtmjoigpnnechgaaDoorW.PrintLast Go.Proofs.YtmjoigpnnechgaaDoorW.PrintMore Go.Proofs.YtmjoigpnnechgaaDoor.Q
set_option linter.unusedSimpArgs false
set_option linter.unusedVariables false

/-- Numbers that fit. -/
def Sh : Nat → Tr → Prop
  | 0, t => t.n < 1000000000
  | d + 1, t => ∀ x ∈ t.parts, Sh d x
theorem Sh.of : ∀ {d : Nat} {t : Tr}, Ok d t → Sh d t
  | 0, t, h => by have := h.1; show t.n < _; omega
  | d + 1, t, h => fun x hx => Sh.of (h.2 x hx)
def nodes : Nat → Tr → Nat
  | 0, _ => 1
  | d + 1, t => 1 + (t.parts.map (nodes d)).sum
theorem join_sum (f : Tr → By) (g : Tr → Nat) : ∀ xs : List Tr, (∀ x ∈ xs, (f x).length + 1 ≤ g x) → (Lib.join (xs.map f) [44]).length ≤ (xs.map g).sum
  | [], _ => by simp [Lib.join_nil]
  | [x], h => by
    have := h x (by simp)
    rw [List.map_cons, List.map_nil, join_one]
    simp
    omega
  | x :: y :: l, h => by
    have h1 := h x (by simp)
    have h2 := join_sum f g (y :: l) (fun z hz => h z (List.mem_cons_of_mem _ hz))
    rw [List.map_cons, List.map_cons, join_cons]
    rw [List.map_cons] at h2
    rw [List.map_cons, List.sum_cons]
    simp only [List.length_append, List.length_cons] at h2 ⊢
    omega
theorem join_len2 (f : Tr → By) (g : Tr → Nat) : ∀ xs : List Tr, (∀ x ∈ xs, g x ≤ (f x).length) → (xs.map g).sum ≤ (Lib.join (xs.map f) [44]).length
  | [], _ => by simp
  | [x], h => by
    have h1 := h x (by simp)
    have e1 : (([x] : List Tr).map g).sum = g x := by simp
    have e2 : Lib.join ([x].map f) [44] = f x := join_one _
    rw [e1, e2]
    exact h1
  | x :: y :: l, h => by
    have h1 := h x (by simp)
    have h2 := join_len2 f g (y :: l) (fun z hz => h z (List.mem_cons_of_mem _ hz))
    have e1 : ((x :: y :: l).map g).sum = g x + ((y :: l).map g).sum := by rw [List.map_cons, List.sum_cons]
    have e2 : Lib.join ((x :: y :: l).map f) [44] = f x ++ 44 :: Lib.join ((y :: l).map f) [44] := join_cons _ _ _
    rw [e1, e2, List.length_append, List.length_cons]
    omega
theorem sum_mul (c : Nat) (g : Tr → Nat) : ∀ xs : List Tr, (xs.map (fun x => c * g x)).sum = c * (xs.map g).sum
  | [] => rfl
  | x :: l => by rw [List.map_cons, List.sum_cons, sum_mul c g l, List.map_cons, List.sum_cons, Nat.mul_add]
theorem text_le : ∀ (d : Nat) (t : Tr), Sh d t → (text d t).length + 1 ≤ 12 * nodes d t
  | 0, t, h => by
    have := dec_len 9 t.n h (by omega)
    show (Lib.decDigits t.n).length + 1 ≤ 12
    omega
  | d + 1, t, h => by
    have := join_sum (text d) (fun x => 12 * nodes d x) t.parts (fun x hx => text_le d x (h x hx))
    rw [sum_mul] at this
    show (91 :: (Lib.join (t.parts.map (text d)) [44] ++ [93])).length + 1 ≤ 12 * (1 + (t.parts.map (nodes d)).sum)
    simp
    omega
theorem sum_mem (g : Tr → Nat) : ∀ (xs : List Tr) (x : Tr), x ∈ xs → g x ≤ (xs.map g).sum
  | y :: l, x, h => by
    rw [List.map_cons, List.sum_cons]
    rcases List.mem_cons.1 h with rfl | h
    · omega
    · have := sum_mem g l x h; omega
theorem nodes_part {d : Nat} {t x : Tr} (h : x ∈ t.parts) : nodes d x ≤ nodes (d + 1) t := by
  have := sum_mem (nodes d) t.parts x h
  show _ ≤ 1 + _
  omega
theorem nodes_pos : ∀ (d : Nat) (t : Tr), 1 ≤ nodes d t
  | 0, _ => Nat.le_refl _
  | d + 1, t => by show 1 ≤ 1 + _; omega
theorem sum_len (g : Tr → Nat) (h : ∀ x, 1 ≤ g x) : ∀ xs : List Tr, xs.length ≤ (xs.map g).sum
  | [] => by simp
  | x :: l => by
    have h1 := h x
    have h2 := sum_len g h l
    rw [List.map_cons, List.sum_cons, List.length_cons]
    omega
theorem parts_len (d : Nat) (t : Tr) : t.parts.length + 1 ≤ nodes (d + 1) t := by
  have := sum_len (nodes d) (nodes_pos d) t.parts
  show _ ≤ 1 + _
  omega
theorem getD_map {α : Type} (f : Tr → α) (xs : List Tr) (i : Nat) (z : α) (h : i < xs.length) : (xs.map f).getD i z = f xs[i] := by
  rw [List.getD_eq_getElem?_getD, List.getElem?_map, List.getElem?_eq_getElem h]
  rfl
theorem join_snoc : ∀ (xs : List By) (x : By), xs ≠ [] → Lib.join (xs ++ [x]) [44] = Lib.join xs [44] ++ 44 :: x
  | [], x, h => absurd rfl h
  | [y], x, _ => by rw [List.singleton_append, join_cons, join_one, join_one]
  | y :: z :: l, x, _ => by
    have := join_snoc (z :: l) x (by simp)
    rw [List.cons_append, List.cons_append, join_cons, join_cons, ← List.cons_append, this]
    simp
theorem take_snoc {α : Type} (xs : List α) (i : Nat) (h : i < xs.length) : xs.take (i + 1) = xs.take i ++ [xs[i]] := List.take_succ_eq_append_getElem h
theorem join_take (f : Tr → By) (xs : List Tr) (i : Nat) (h : i < xs.length) (h0 : 0 < i) : Lib.join ((xs.take (i + 1)).map f) [44] = Lib.join ((xs.take i).map f) [44] ++ 44 :: f xs[i] := by
  rw [take_snoc xs i h, List.map_append, List.map_cons, List.map_nil, join_snoc]
  intro e
  have := congrArg List.length e
  rw [List.length_map, List.length_take, List.length_nil] at this
  omega
theorem join_take_le (f : Tr → By) (xs : List Tr) : ∀ i, i ≤ xs.length → (Lib.join ((xs.take i).map f) [44]).length ≤ (Lib.join (xs.map f) [44]).length := by
  have main : ∀ n i, xs.length - i = n → i ≤ xs.length → (Lib.join ((xs.take i).map f) [44]).length ≤ (Lib.join (xs.map f) [44]).length := by
    intro n
    induction n with
    | zero => intro i h hi; rw [List.take_of_length_le (by omega)]; exact Nat.le_refl _
    | succ n ih =>
      intro i h hi
      refine Nat.le_trans ?_ (ih (i + 1) (by omega) (by omega))
      rcases Nat.eq_zero_or_pos i with rfl | h0
      · simp [Lib.join_nil]
      · rw [join_take f xs i (by omega) h0, List.length_append]
        omega
  exact fun i hi => main _ i rfl hi
def TextS (d : Nat) : Prop := ∀ t, Sh d t → nodes d t ≤ 1000000000 → Ev (fun k => spec_l1Text.f k (cS d t).f0 (cS d t).f1 (d : Int)) (BA (text d t))
theorem textS_l0 (d : Nat) (hd : d ≤ 1000) (ih : TextS d) (t : Tr) (hs : Sh (d + 1) t) (hn : nodes (d + 1) t ≤ 1000000000) :
    ∀ (n i : Nat), t.parts.length - i = n → i ≤ t.parts.length → Ev (fun k => spec_l1Text.l0 k ((d + 1 : Nat) : Int) (BA (91 :: Lib.join ((t.parts.take i).map (text d)) [44])) (t.parts.map (cS d)) ((t.parts.map (cS d)).length : Int) (i : Int)) (BA (text (d + 1) t)) := by
  have hpl := parts_len d t
  have htl := text_le (d + 1) t hs
  have hte : (text (d + 1) t).length = (Lib.join (t.parts.map (text d)) [44]).length + 2 := by simp [text]
  intro n
  induction n with
  | zero =>
    intro i h hi
    refine Ev.step' ?_; simp only [spec_l1Text.l0]
    rw [List.take_of_length_le (by omega)]
    refine Ev.neg (by rw [List.length_map]; omega) (Ev.pos (by simp; omega) (Ev.val ?_))
    show BA _ ++ BA [93] = _
    rw [BA_append]
    rfl
  | succ n ihn =>
    intro i h hi
    have hlt : i < t.parts.length := by omega
    have hjl := join_take_le (text d) t.parts i hi
    have hjl2 := join_take_le (text d) t.parts (i + 1) (by omega)
    have hm : t.parts[i] ∈ t.parts := List.getElem_mem hlt
    have hx := ih t.parts[i] (hs _ hm) (by have := nodes_part (d := d) hm; omega)
    have hg : rd_T95 (t.parts.map (cS d)) (i : Int) = cS d t.parts[i] := getD_map _ _ _ _ hlt
    refine Ev.step' ?_; simp only [spec_l1Text.l0]
    refine Ev.pos (by rw [List.length_map]; omega) (Ev.pos (by omega) (Ev.pos (by rw [List.length_map]; omega) ?_))
    rw [hg, show wrap64 (((d + 1 : Nat) : Int) - 1) = (d : Int) by rw [wrapS (by omega) (by omega)]; omega, wrapS (a := (i : Int) + 1) (by omega) (by omega)]
    have hnext := ihn (i + 1) (by omega) (by omega)
    rcases Nat.eq_zero_or_pos i with rfl | h0
    · refine Ev.neg (by simp) (Ev.bind hx ?_)
      rw [take_snoc _ 0 hlt] at hnext hjl2
      simp only [List.take_zero, List.nil_append, List.map_cons, List.map_nil, join_one] at hnext hjl2
      refine Ev.pos (by simp [Lib.join_nil]; omega) ?_
      rw [BA_append]
      exact hnext
    · rw [join_take _ _ _ hlt h0] at hnext hjl2
      rw [List.length_append, List.length_cons] at hjl2
      refine Ev.pos (by omega) (Ev.pos (by simp only [BA_size, List.length_cons]; omega) (Ev.bind hx (Ev.pos (by simp only [BA_size, List.length_cons]; omega) ?_)))
      have e : BA (91 :: Lib.join ((t.parts.take i).map (text d)) [44]) ++ (⟨#[44]⟩ : ByteArray) ++ BA (text d t.parts[i]) = BA (91 :: (Lib.join ((t.parts.take i).map (text d)) [44] ++ 44 :: text d t.parts[i])) := by
        show BA _ ++ BA [44] ++ BA _ = _
        rw [BA_append, BA_append]
        simp
      rw [e]
      exact hnext
theorem textS_is : ∀ d, d ≤ 1000 → TextS d
  | 0, _ => by
    intro t hs hn
    refine Ev.step' ?_; simp only [spec_l1Text.f]
    have h9 : t.n < 1000000000 := hs
    refine Ev.pos (by first | trivial | rfl) (Ev.bind (l13Dec_is t.n (by omega)) (Ev.val rfl))
  | d + 1, hd => by
    intro t hs hn
    refine Ev.step' ?_; simp only [spec_l1Text.f]
    exact Ev.neg (by omega) (textS_l0 d (by omega) (textS_is d (by omega)) t hs hn _ 0 rfl (by omega))

def TextA (d : Nat) : Prop := ∀ t, Sh d t → nodes d t ≤ 1000000000 → Ev (fun k => impl_arr_text.f k (cA d t).f0 (cA d t).f1 (d : Int)) (BA (text d t))
theorem textA_l0 (d : Nat) (hd : d ≤ 1000) (ih : TextA d) (t : Tr) (hs : Sh (d + 1) t) (hn : nodes (d + 1) t ≤ 1000000000) :
    ∀ (n i : Nat), t.parts.length - i = n → i ≤ t.parts.length → Ev (fun k => impl_arr_text.l0 k ((d + 1 : Nat) : Int) ((t.parts.take i).map fun x => BA (text d x)) (t.parts.map (cA d)) ((t.parts.map (cA d)).length : Int) (i : Int)) (BA (text (d + 1) t)) := by
  have hpl := parts_len d t
  have htl := text_le (d + 1) t hs
  have hte : (text (d + 1) t).length = (Lib.join (t.parts.map (text d)) [44]).length + 2 := by simp [text]
  intro n
  induction n with
  | zero =>
    intro i h hi
    refine Ev.step' ?_; simp only [impl_arr_text.l0]
    rw [List.take_of_length_le (by omega)]
    refine Ev.neg (by rw [List.length_map]; omega) ?_
    have hj : strings_Join.f (t.parts.map fun x => BA (text d x)) (⟨#[44]⟩ : ByteArray) = some (BA (Lib.join (t.parts.map (text d)) [44])) := by
      have e : (t.parts.map fun x => BA (text d x)).map (·.data.toList) = t.parts.map (text d) := by
        rw [List.map_map]
        apply List.map_congr_left
        intro x _
        exact data_BA _
      unfold strings_Join.f
      rw [e, if_pos (by rw [List.length_map]; omega), if_pos (by show (Lib.join (t.parts.map (text d)) [44]).length ≤ _; omega)]
      rfl
    refine Ev.call hj (Ev.pos (by simp; omega) (Ev.pos (by simp; omega) (Ev.val ?_)))
    show BA [91] ++ BA _ ++ BA [93] = _
    rw [BA_append, BA_append]
    rfl
  | succ n ihn =>
    intro i h hi
    have hlt : i < t.parts.length := by omega
    have hm : t.parts[i] ∈ t.parts := List.getElem_mem hlt
    have hx := ih t.parts[i] (hs _ hm) (by have := nodes_part (d := d) hm; omega)
    have hg : rd_T84 (t.parts.map (cA d)) (i : Int) = cA d t.parts[i] := getD_map _ _ _ _ hlt
    refine Ev.step' ?_; simp only [impl_arr_text.l0]
    refine Ev.pos (by rw [List.length_map]; omega) (Ev.pos (by omega) (Ev.pos (by rw [List.length_map]; omega) ?_))
    rw [hg, show wrap64 (((d + 1 : Nat) : Int) - 1) = (d : Int) by rw [wrapS (by omega) (by omega)]; omega, wrapS (a := (i : Int) + 1) (by omega) (by omega)]
    have hnext := ihn (i + 1) (by omega) (by omega)
    refine Ev.bind hx (Ev.pos (by rw [List.length_map, List.length_take]; omega) ?_)
    rw [take_snoc _ _ hlt, List.map_append] at hnext
    exact hnext
theorem textA_is : ∀ d, d ≤ 1000 → TextA d
  | 0, _ => by
    intro t hs hn
    refine Ev.step' ?_; simp only [impl_arr_text.f]
    have h9 : t.n < 1000000000 := hs
    have hi : strconv_Itoa.f (t.n : Int) = some (BA (Lib.decDigits t.n)) := by
      unfold strconv_Itoa.f
      rw [if_pos (by omega), if_pos (by omega), itoa_nat]
      rfl
    refine Ev.pos (by first | trivial | rfl) (Ev.call hi (Ev.val rfl))
  | d + 1, hd => by
    intro t hs hn
    refine Ev.step' ?_; simp only [impl_arr_text.f]
    exact Ev.neg (by omega) (textA_l0 d (by omega) (textA_is d (by omega)) t hs hn _ 0 rfl (by omega))

def told (l : By) : ByteArray × Bool := if l.length ≤ 400 then (BA l, true) else (BA [], false)
theorem nodes_le_text : ∀ (d : Nat) (t : Tr), nodes d t ≤ (text d t).length
  | 0, t => by
    have := List.length_pos_iff.2 (dec_ne t.n)
    exact this
  | d + 1, t => by
    have h := join_len2 (text d) (nodes d) t.parts (fun x _ => nodes_le_text d x)
    show 1 + _ ≤ (91 :: (Lib.join (t.parts.map (text d)) [44] ++ [93])).length
    simp
    omega
end Go.Proofs.YtmjoigpnnechgaaDoor.B
