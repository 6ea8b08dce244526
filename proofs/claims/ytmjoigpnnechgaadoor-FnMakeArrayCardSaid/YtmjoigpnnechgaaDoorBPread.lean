/- Both readers of an array's text, by their own text: each answers what the parse of the text says. -/
import Derived.Test.YtmjoigpnnechgaaDoorBQbase
import Derived.Test.YtmjoigpnnechgaaDoorBx7
import Derived.Test.YtmjoigpnnechgaaDoorBx4
namespace Go.Proofs.YtmjoigpnnechgaaDoor.B
open Go.RowKit Go.Proofs.YtmjoigpnnechgaaDoorW.PrintWords Go.Proofs.YtmjoigpnnechgaaDoorW.PrintLast Go.Proofs.YtmjoigpnnechgaaDoorW.PrintMore Go.Proofs.YtmjoigpnnechgaaDoor.Q
set_option linter.unusedSimpArgs false
set_option linter.unusedVariables false

abbrev NA := S84
abbrev NS := S95
def cA : Nat → Tr → NA
  | 0, t => ⟨(t.n : Int), []⟩
  | d + 1, t => ⟨(t.n : Int), t.parts.map (cA d)⟩
def cS : Nat → Tr → NS
  | 0, t => ⟨(t.n : Int), []⟩
  | d + 1, t => ⟨(t.n : Int), t.parts.map (cS d)⟩
theorem mkA (t : NA) : (⟨t.f0, t.f1⟩ : NA) = t := by cases t; rfl
theorem mkS (t : NS) : (⟨t.f0, t.f1⟩ : NS) = t := by cases t; rfl
theorem cA_f0 (d : Nat) (t : Tr) : (cA d t).f0 = (t.n : Int) := by cases d <;> rfl
theorem cS_f0 (d : Nat) (t : Tr) : (cS d t).f0 = (t.n : Int) := by cases d <;> rfl

/-! ### impl.readArr -/
abbrev RA := Int × List NA × ByteArray × Bool
def badA : RA := (0, [], BA [], false)
def resA (d : Nat) : Option (Tr × By) → RA
  | none => badA
  | some (t, r) => ((cA d t).f0, (cA d t).f1, BA r, true)
theorem bt_at {l : By} {i : Nat} (h : i < l.length) : bt (BA l) (i : Int) = (l[i].toNat : Int) := by
  rw [bt_BA, Int.toNat_natCast, List.getD_eq_getElem?_getD, List.getElem?_eq_getElem h]
  rfl
theorem take_split {l : By} (i : Nat) (h : (l.take i).all isD = true) (hn : ∀ x : i < l.length, isD l[i] = false) : l.takeWhile isD = l.take i ∧ l.dropWhile isD = l.drop i := by
  have e : l = l.take i ++ l.drop i := (List.take_append_drop i l).symm
  have := takeWhile_digits (ds := l.take i) (r := l.drop i) h (by
    intro c r hr
    by_cases hi : i < l.length
    · rw [List.drop_eq_getElem_cons hi] at hr
      rw [← (List.cons.inj hr).1]
      exact hn hi
    · rw [List.drop_eq_nil_of_le (by omega)] at hr
      cases hr)
  rw [← e] at this
  exact this
theorem readArr_j1 (l : By) (hl : l.length ≤ 1000000) : Ev (fun k => impl_readArr.j1 k (BA l) ((l.takeWhile isD).length : Int)) (resA 0 (parse 0 l)) := by
  have ht : l.take (l.takeWhile isD).length = l.takeWhile isD := by
    have e := List.takeWhile_append_dropWhile (p := isD) (l := l)
    conv => lhs; arg 2; rw [← e]
    rw [List.take_left']
    rfl
  have hd : l.drop (l.takeWhile isD).length = l.dropWhile isD := by
    have e := List.takeWhile_append_dropWhile (p := isD) (l := l)
    conv => lhs; arg 2; rw [← e]
    rw [List.drop_left']
    rfl
  have hlen : (l.takeWhile isD).length ≤ l.length := by
    have := congrArg List.length (List.takeWhile_append_dropWhile (p := isD) (l := l))
    rw [List.length_append] at this
    omega
  have hall : (l.takeWhile isD).all isD = true := List.all_takeWhile
  have hx : (BA l).extract 0 (l.takeWhile isD).length = BA (l.takeWhile isD) := by
    rw [BA_extract]
    simp [ht]
  have hy : (BA l).extract (l.takeWhile isD).length (BA l).size = BA (l.dropWhile isD) := by
    rw [BA_extract, hd, BA_size, List.take_of_length_le]
    rw [← hd, List.length_drop]
    omega
  refine Ev.step' ?_; simp only [impl_readArr.j1]
  refine Ev.pos (by omega) (Ev.pos (by rw [BA_size]; omega) ?_)
  simp only [Int.toNat_natCast, hx, hy]
  have hs : (BA (l.takeWhile isD)).size ≤ 281474976710656 := by rw [BA_size]; omega
  by_cases hne : l.takeWhile isD = []
  · have ha : strconv_Atoi.f (BA (l.takeWhile isD)) = some (0, some 0) := by
      unfold strconv_Atoi.f
      rw [if_pos hs, data_BA, hne]
      rfl
    have hp : parse 0 l = none := by
      have : parseNum l = none := by
        unfold parseNum
        rw [hne]
        exact if_neg (fun h => dec_ne _ h.2)
      unfold parse
      rw [this]
      rfl
    rw [hp]
    refine Ev.call ha ?_
    exact Ev.neg (by simp) (Ev.now _)
  · rcases atoi_digits hall hne with e | ⟨e, hbig⟩
    · have ha : strconv_Atoi.f (BA (l.takeWhile isD)) = some ((valD 0 (l.takeWhile isD) : Int), none) := by
        unfold strconv_Atoi.f
        rw [if_pos hs, data_BA, e]
      refine Ev.call ha ?_
      refine Ev.pos (by first | trivial | rfl) ?_
      by_cases hb : valD 0 (l.takeWhile isD) < 10007
      · refine Ev.neg (by omega) ?_
        have hi : strconv_Itoa.f (valD 0 (l.takeWhile isD) : Int) = some (BA (Lib.decDigits (valD 0 (l.takeWhile isD)))) := by
          unfold strconv_Itoa.f
          rw [if_pos (by omega), if_pos (by omega), itoa_nat]
          rfl
        refine Ev.call hi ?_
        by_cases hq : Lib.decDigits (valD 0 (l.takeWhile isD)) = l.takeWhile isD
        · refine Ev.pos (by rw [toList_BA, toList_BA]; exact hq) (Ev.val ?_)
          have : parseNum l = some (valD 0 (l.takeWhile isD), l.dropWhile isD) := if_pos ⟨hb, hq⟩
          unfold parse
          rw [this]
          rfl
        · refine Ev.neg (by rw [toList_BA, toList_BA]; exact hq) (Ev.val ?_)
          have : parseNum l = none := if_neg (fun h => hq h.2)
          unfold parse
          rw [this]
          rfl
      · refine Ev.pos (by omega) (Ev.val ?_)
        have : parseNum l = none := if_neg (fun h => hb h.1)
        unfold parse
        rw [this]
        rfl
    · have ha : strconv_Atoi.f (BA (l.takeWhile isD)) = some (Lib.atoiSat (l.takeWhile isD), some 0) := by
        unfold strconv_Atoi.f
        rw [if_pos hs, data_BA, e]
      refine Ev.call ha ?_
      refine Ev.neg (by simp) (Ev.val ?_)
      have : parseNum l = none := if_neg (fun h => absurd h.1 (by omega))
      unfold parse
      rw [this]
      rfl
theorem readArr_l0 (l : By) (hl : l.length ≤ 1000000) : ∀ (n i : Nat), l.length - i = n → i ≤ l.length → (l.take i).all isD = true → Ev (fun k => impl_readArr.l0 k (BA l) (i : Int)) (resA 0 (parse 0 l)) := by
  intro n
  induction n with
  | zero =>
    intro i h hi hall
    obtain ⟨h1, _⟩ := take_split i hall (fun x => by omega)
    have he : (l.takeWhile isD).length = i := by rw [h1, List.length_take]; omega
    refine Ev.step' ?_; simp only [impl_readArr.l0]
    refine Ev.neg (by rw [BA_size]; omega) ?_
    rw [← he]
    exact readArr_j1 l hl
  | succ n ih =>
    intro i h hi hall
    have hlt : i < l.length := by omega
    refine Ev.step' ?_; simp only [impl_readArr.l0]
    refine Ev.pos (by rw [BA_size]; omega) (Ev.pos (by omega) ?_)
    simp only [bt_at hlt]
    by_cases hd : isD l[i] = true
    · obtain ⟨h1, h2⟩ := (isD_iff _).1 hd
      refine Ev.pos (by omega) (Ev.pos (by omega) ?_)
      rw [wrapS (by omega) (by omega)]
      exact ih (i + 1) (by omega) (by omega) (by rw [List.take_succ_eq_append_getElem hlt, List.all_append, hall]; simp [hd])
    · have hd' : isD l[i] = false := by simpa using hd
      obtain ⟨h1, _⟩ := take_split i hall (fun x => hd')
      have he : (l.takeWhile isD).length = i := by rw [h1, List.length_take]; omega
      have hj := readArr_j1 l hl
      rw [he] at hj
      by_cases h1 : (48 : Int) ≤ (l[i].toNat : Int)
      · refine Ev.pos h1 (Ev.neg ?_ hj)
        intro h2
        exact hd ((isD_iff _).2 ⟨by omega, by omega⟩)
      · exact Ev.neg h1 hj
theorem readArr_zero (l : By) (hl : l.length ≤ 1000000) : Ev (fun k => impl_readArr.f k (BA l) 0) (resA 0 (parse 0 l)) := by
  refine Ev.step' ?_; simp only [impl_readArr.f]
  exact Ev.pos (by first | trivial | rfl) (readArr_l0 l hl _ 0 rfl (by omega) rfl)


theorem parse_nil : ∀ d, parse d [] = none
  | 0 => by
    unfold parse
    have : parseNum [] = none := if_neg (fun h => dec_ne _ h.2)
    rw [this]
    rfl
  | d + 1 => rfl
theorem parse_93 : ∀ d (t : By), parse d (93 :: t) = none
  | 0, t => by
    unfold parse
    have : parseNum (93 :: t) = none := if_neg (fun h => dec_ne _ (h.2.trans (by simp [isD])))
    rw [this]
    rfl
  | d + 1, t => by
    unfold parse
    simp
theorem parse_len {d : Nat} {l : By} {v : Tr} {r : By} (h : parse d l = some (v, r)) : r.length ≤ l.length := by
  have := congrArg List.length (parse_sound d l v r h).1
  rw [List.length_append] at this
  omega
theorem BA_nil : BA [] = (⟨#[]⟩ : ByteArray) := rfl
theorem BA_tail (c : UInt8) (t : By) : (BA (c :: t)).extract 1 (BA (c :: t)).size = BA t := by
  rw [BA_extract]
  simp
theorem bt_zero (c : UInt8) (t : By) : bt (BA (c :: t)) 0 = (c.toNat : Int) := bt_BA _ _
theorem toNat_ne {c : UInt8} {n : Nat} (h : c ≠ UInt8.ofNat n) (hn : n < 256) : ((c.toNat : Int)) ≠ (n : Int) := by
  intro e
  apply h
  apply UInt8.toNat.inj
  rw [UInt8.toNat_ofNat']
  omega
/-- .. and what is left of the parts, at the loop's head. -/
def resL (d : Nat) (acc : List NA) : Option (List Tr × By) → RA
  | none => badA
  | some (vs, r) => (0, acc ++ vs.map (cA d), BA r, true)
theorem readArr_l1 (d : Nat) (hd : d ≤ 1000) (hf : ∀ l : By, l.length ≤ 1000000 → Ev (fun k => impl_readArr.f k (BA l) (d : Int)) (resA d (parse d l))) :
    ∀ (n : Nat) (l : By) (acc : List NA), l.length < n → acc.length + l.length ≤ 1000000 → (acc ≠ [] ∨ ∀ t, l ≠ 93 :: t) → Ev (fun k => impl_readArr.l1 k (BA l) ((d + 1 : Nat) : Int) 0 acc) (resL d acc (parseL (parse d) n l)) := by
  intro n
  induction n with
  | zero => intro l acc h; omega
  | succ n ih =>
    intro l acc hn hb hcase
    have hbad : Ev (fun k => impl_readArr.j5 k ((d + 1 : Nat) : Int) (BA []) true 0 acc 0 []) badA := by
      refine Ev.step' ?_; simp only [impl_readArr.j5]
      exact Ev.pos (by first | trivial | rfl) (Ev.now _)
    have hbad2 : ∀ (x : ByteArray) (m : Int) (ps : List NA), Ev (fun k => impl_readArr.j5 k ((d + 1 : Nat) : Int) x true 0 acc m ps) badA := by
      intro x m ps
      refine Ev.step' ?_; simp only [impl_readArr.j5]
      exact Ev.pos (by first | trivial | rfl) (Ev.now _)
    have hj4 : l ≠ [] → Ev (fun k => impl_readArr.j4 k (BA l) ((d + 1 : Nat) : Int) true 0 acc) (resL d acc (parseL (parse d) (n + 1) l)) := by
      intro hne
      refine Ev.step' ?_; simp only [impl_readArr.j4]
      refine Ev.pos (by first | trivial | rfl) ?_
      rw [show wrap64 (((d + 1 : Nat) : Int) - 1) = (d : Int) by rw [wrapS (by omega) (by omega)]; omega]
      refine Ev.bind (hf l (by omega)) ?_
      unfold parseL
      cases hp : parse d l with
      | none => exact Ev.neg (by simp [resA, badA]) (hbad2 _ _ _)
      | some q =>
        obtain ⟨v, r⟩ := q
        have hr := parse_len hp
        refine Ev.pos (by first | trivial | rfl) ?_
        cases r with
        | nil => exact Ev.pos (toList_BA []) (hbad2 _ _ _)
        | cons c r' =>
          simp only [List.length_cons] at hr
          have hj5 : ∀ b : Bool, b = false → (c = 44 ∨ c = 93) → Ev (fun k => impl_readArr.j5 k ((d + 1 : Nat) : Int) (BA (c :: r')) b 0 acc (cA d v).f0 (cA d v).f1) (if c = 93 then (0, acc ++ [cA d v], BA r', true) else resL d (acc ++ [cA d v]) (parseL (parse d) n r')) := by
            intro b hb0 hc
            subst hb0
            refine Ev.step' ?_; simp only [impl_readArr.j5]
            refine Ev.neg (by simp) (Ev.pos (by omega) ?_)
            refine Ev.call (a := acc ++ [cA d v]) (by rw [mkA]) ?_
            refine Ev.pos (by simp <;> omega) ?_
            by_cases h93 : c = 93
            · subst h93
              rw [if_pos rfl]
              refine Ev.pos (bt_zero _ _) (Ev.pos (by simp <;> omega) (Ev.val ?_))
              rw [BA_tail]
            · rw [if_neg h93]
              refine Ev.neg (by rw [bt_zero]; exact toNat_ne (n := 93) h93 (by omega)) (Ev.pos (by simp <;> omega) ?_)
              rw [BA_tail]
              exact ih r' _ (by omega) (by simp <;> omega) (.inl (by simp))
          refine Ev.neg (by show ¬ (BA (c :: r')).toList = []; rw [toList_BA]; simp) (Ev.pos (by show (0 : Int) < ((BA (c :: r')).size : Int); simp <;> omega) ?_)
          have hb0 : bt (resA d (some (v, c :: r'))).2.2.1 0 = (c.toNat : Int) := bt_zero _ _
          by_cases h44 : c = 44
          · subst h44
            refine Ev.pos (bt_zero _ _) (evIs (hj5 false rfl (.inl rfl)) ?_)
            simp only [if_true]
            rw [if_neg (by decide)]
            cases parseL (parse d) n r' with
            | none => rfl
            | some q => simp [resL]
          · refine Ev.neg (by rw [hb0]; exact toNat_ne (n := 44) h44 (by omega)) ?_
            by_cases h93 : c = 93
            · subst h93
              refine evIs (hj5 _ (by rw [hb0]; rfl) (.inr rfl)) ?_
              simp [resL]
            · have e : (bt (resA d (some (v, c :: r'))).2.2.1 0 != 93) = true := by
                rw [hb0]
                simpa using toNat_ne (n := 93) h93 (by omega)
              rw [e]
              refine evIs (hbad2 _ _ _) ?_
              simp [h44, h93, resL]
    refine Ev.step' ?_; simp only [impl_readArr.l1]
    cases l with
    | nil =>
      refine Ev.pos (toList_BA []) ?_
      refine Ev.step' ?_; simp only [impl_readArr.j4]
      refine Ev.neg (by simp) (Ev.pos (toList_BA []) (Ev.val ?_))
      unfold parseL
      rw [parse_nil]
      rfl
    | cons c t =>
      refine Ev.neg (by rw [toList_BA]; simp) (Ev.pos (by simp <;> omega) ?_)
      by_cases h93 : c = 93
      · subst h93
        refine Ev.pos (bt_zero _ _) ?_
        rcases hcase with hacc | hh
        · have hpos : 0 < acc.length := List.length_pos_iff.2 hacc
          rw [show decide ((acc.length : Int) > 0) = true by simp; exact hpos]
          exact hj4 (by simp)
        · exact absurd rfl (hh t)
      · refine Ev.neg (by rw [bt_zero]; exact toNat_ne (n := 93) h93 (by omega)) (hj4 (by simp))
theorem readArr_is : ∀ (d : Nat), d ≤ 1000 → ∀ l : By, l.length ≤ 1000000 → Ev (fun k => impl_readArr.f k (BA l) (d : Int)) (resA d (parse d l))
  | 0, _, l, hl => readArr_zero l hl
  | d + 1, hd, l, hl => by
    have ih := readArr_is d (by omega)
    refine Ev.step' ?_; simp only [impl_readArr.f]
    refine Ev.neg (by omega) ?_
    have hj2 : ∀ x : ByteArray, Ev (fun k => impl_readArr.j2 k x ((d + 1 : Nat) : Int) true) badA := by
      intro x
      refine Ev.step' ?_; simp only [impl_readArr.j2]
      exact Ev.pos (by first | trivial | rfl) (Ev.now _)
    cases l with
    | nil => exact Ev.pos (toList_BA []) (hj2 _)
    | cons c t =>
      refine Ev.neg (by rw [toList_BA]; simp) (Ev.pos (by simp <;> omega) ?_)
      by_cases h91 : c = 91
      · subst h91
        rw [show (bt (BA (91 :: t)) 0 != 91) = false by rw [bt_zero]; rfl]
        refine Ev.step' ?_; simp only [impl_readArr.j2]
        refine Ev.neg (by simp) (Ev.pos (by simp <;> omega) ?_)
        rw [BA_tail]
        simp only [List.length_cons] at hl
        cases t with
        | nil =>
          refine evIs (readArr_l1 d (by omega) ih 1 [] [] (by simp) (by simp) (.inr (by simp))) ?_
          unfold parse parseL
          rw [parse_nil]
          rfl
        | cons c' t' =>
          by_cases h93 : c' = 93
          · subst h93
            refine Ev.step' ?_; simp only [impl_readArr.l1]
            refine Ev.neg (by rw [toList_BA]; simp) (Ev.pos (by simp <;> omega) (Ev.pos (bt_zero _ _) ?_))
            rw [show decide ((([] : List NA).length : Int) > 0) = false from rfl]
            refine Ev.step' ?_; simp only [impl_readArr.j4]
            refine Ev.neg (by simp) (Ev.neg (by rw [toList_BA]; simp) (Ev.pos (by simp <;> omega) (Ev.val ?_)))
            rw [BA_tail]
            rfl
          · refine evIs (readArr_l1 d (by omega) ih _ (c' :: t') [] (Nat.lt_succ_self _) (by simp only [List.length_cons, List.length_nil] at hl ⊢; omega) (.inr (by intro t e; exact h93 (List.cons.inj e).1))) ?_
            unfold parse
            simp only [if_true, if_neg h93]
            cases parseL (parse d) ((c' :: t').length + 1) (c' :: t') with
            | none => rfl
            | some q => rfl
      · rw [show (bt (BA (c :: t)) 0 != 91) = true by rw [bt_zero]; simpa using toNat_ne (n := 91) h91 (by omega)]
        refine evIs (hj2 _) ?_
        unfold parse
        simp only [if_neg h91]
        rfl

/-! ### spec's reader -/
theorem drop_split {s : By} {p : Nat} (h : p < s.length) : s.drop p = s[p] :: s.drop (p + 1) := List.drop_eq_getElem_cons h
theorem numStop_is (s : By) : ∀ (n p : Nat), numStop (BA s) n (p : Int) = ((p + min n ((s.drop p).takeWhile isD).length : Nat) : Int) := by
  intro n
  induction n with
  | zero => intro p; simp [numStop]
  | succ n ih =>
    intro p
    unfold numStop
    by_cases hp : p < s.length
    · rw [drop_split hp, List.takeWhile_cons]
      by_cases hd : isD s[p] = true
      · have h := (isD_iff _).1 hd
        have : digitAt (BA s) (p : Int) = true := by
          simp [digitAt, bt_at hp, hp]
          omega
        rw [if_pos this, if_pos hd, show ((p : Int) + 1) = ((p + 1 : Nat) : Int) by omega, ih (p + 1), List.length_cons]
        omega
      · have : ¬ digitAt (BA s) (p : Int) = true := by
          intro h
          simp [digitAt, bt_at hp, hp] at h
          exact hd ((isD_iff _).2 (by omega))
        rw [if_neg this, if_neg hd]
        simp
    · have : ¬ digitAt (BA s) (p : Int) = true := by
        simp [digitAt]
        omega
      rw [if_neg this, List.drop_eq_nil_of_le (by omega)]
      simp
theorem valD_ltP : ∀ (l : By) (p a b : Nat), p = 10 ^ l.length → l.all isD = true → a < b → valD a l < b * p
  | [], p, a, b, hp, _, h => by
    have hp1 : p = 1 := hp
    have : valD a [] = a := rfl
    rw [this, hp1, Nat.mul_one]
    exact h
  | c :: r, p, a, b, hp, hall, h => by
    simp only [List.all_cons, Bool.and_eq_true] at hall
    have hc := (isD_iff _).1 hall.1
    have h1 := valD_ltP r (10 ^ r.length) (a * 10 + (c.toNat - 48)) (b * 10) rfl hall.2 (by omega)
    have h2 : p = 10 ^ r.length * 10 := hp
    have h4 : valD a (c :: r) = valD (a * 10 + (c.toNat - 48)) r := rfl
    generalize 10 ^ r.length = q at *
    rw [h4, h2, Nat.mul_comm q 10, ← Nat.mul_assoc]
    exact h1
theorem valD_lt (l : By) (a b : Nat) (hall : l.all isD = true) (h : a < b) : valD a l < b * 10 ^ l.length := valD_ltP l _ a b rfl hall h
theorem l13Num_l0 (ds : By) (hall : ds.all isD = true) (hl : ds.length ≤ 17) : ∀ (n i : Nat), ds.length - i = n → i ≤ ds.length → Ev (fun k => spec_l13Num.l0 k (BA ds) false (valD 0 (ds.take i) : Int) (i : Int)) ((valD 0 ds : Int), true) := by
  intro n
  induction n with
  | zero =>
    intro i h hi
    refine Ev.step' ?_; simp only [spec_l13Num.l0]
    refine Ev.neg (by simp <;> omega) (Ev.neg (by simp) (Ev.val ?_))
    rw [List.take_of_length_le (by omega)]
  | succ n ih =>
    intro i h hi
    have hlt : i < ds.length := by omega
    have hd : isD ds[i] = true := List.all_eq_true.1 hall _ (List.getElem_mem hlt)
    have hc := (isD_iff _).1 hd
    refine Ev.step' ?_; simp only [spec_l13Num.l0]
    simp only [bt_at hlt]
    refine Ev.pos (by simp <;> omega) (Ev.pos (by omega) (Ev.neg (by omega) (Ev.neg (by omega) ?_)))
    have hv : valD 0 (ds.take i) < 1 * 10 ^ (ds.take i).length := valD_lt _ _ _ (by
      rw [List.all_eq_true] at hall ⊢
      intro x hx
      exact hall x (List.mem_of_mem_take hx)) (by omega)
    have hpow : 10 ^ (ds.take i).length ≤ 10 ^ 17 := Nat.pow_le_pow_right (by omega) (by rw [List.length_take]; omega)
    have hv2 : valD 0 (ds.take i) < 100000000000000000 := by
      generalize 10 ^ (ds.take i).length = q at *
      omega
    have e1 : wrap64 (wrap64 ((valD 0 (ds.take i) : Int) * 10) + ((ds[i].toNat : Int) - 48) % 256) = (valD 0 (ds.take (i + 1)) : Int) := by
      rw [List.take_succ_eq_append_getElem hlt, valD_append, valD_one, wrapS (a := (valD 0 (ds.take i) : Int) * 10) (by omega) (by omega), wrapS (by omega) (by omega)]
      omega
    rw [e1, wrapS (by omega) (by omega)]
    exact ih (i + 1) (by omega) (by omega)
theorem l13_is (ds : By) (hall : ds.all isD = true) (hl : ds.length ≤ 17) : Ev (fun k => spec_l13Num.f k (BA ds)) (if Lib.decDigits (valD 0 ds) = ds then ((valD 0 ds : Int), true) else (0, false)) := by
  have hj2 : ∀ x : ByteArray, Ev (fun k => spec_l13Num.j2 k x false true) (0, false) := by
    intro x
    refine Ev.step' ?_; simp only [spec_l13Num.j2]
    exact Ev.pos (by first | trivial | rfl) (Ev.now _)
  unfold spec_l13Num.f
  cases ds with
  | nil =>
    refine Ev.neg (by simp) ?_
    refine Ev.step' ?_; simp only [spec_l13Num.j0]
    refine Ev.neg (by simp) ?_
    refine Ev.step' ?_; simp only [spec_l13Num.j1]
    refine Ev.pos (by simp) (evIs (hj2 _) ?_)
    rw [if_neg (dec_ne _)]
  | cons c r =>
    have hd : isD c = true := by
      simp only [List.all_cons, Bool.and_eq_true] at hall
      exact hall.1
    have hc := (isD_iff _).1 hd
    simp only [List.length_cons] at hl
    refine Ev.pos (by simp <;> omega) (Ev.pos (by simp <;> omega) ?_)
    rw [show (bt (BA (c :: r)) 0 == 45) = false by rw [bt_zero]; simp; omega]
    refine Ev.step' ?_; simp only [spec_l13Num.j0]
    refine Ev.neg (by simp) ?_
    refine Ev.step' ?_; simp only [spec_l13Num.j1]
    refine Ev.neg (by simp <;> omega) (Ev.neg (by simp <;> omega) (Ev.pos (by simp <;> omega) ?_))
    have hj2f : (c ≠ 48 ∨ r = []) → Ev (fun k => spec_l13Num.j2 k (BA (c :: r)) false false) (if Lib.decDigits (valD 0 (c :: r)) = c :: r then ((valD 0 (c :: r) : Int), true) else (0, false)) := by
      intro h
      refine Ev.step' ?_; simp only [spec_l13Num.j2]
      refine Ev.neg (by simp) (evIs (l13Num_l0 (c :: r) hall (by simp only [List.length_cons]; omega) _ 0 rfl (by omega)) ?_)
      rw [if_pos ((dec_val_iff hall).2 ⟨c, r, rfl, h⟩)]
    by_cases h48 : c = 48
    · subst h48
      refine Ev.pos (bt_zero _ _) ?_
      by_cases hr : r = []
      · subst hr
        exact Ev.neg (by simp) (hj2f (.inr rfl))
      · have := List.length_pos_iff.2 hr
        refine Ev.pos (by simp <;> omega) (evIs (hj2 _) ?_)
        rw [if_neg]
        intro h
        obtain ⟨c', r', e, h1⟩ := (dec_val_iff hall).1 h
        obtain ⟨rfl, rfl⟩ := List.cons.inj e
        rcases h1 with h1 | h1
        · exact h1 rfl
        · exact hr h1
    · exact Ev.neg (by rw [bt_zero]; exact toNat_ne (n := 48) h48 (by omega)) (hj2f (.inl h48))

abbrev RS := Int × List NS × ByteArray × Int × Bool
def OutS (d : Nat) (s : By) : Option (Tr × By) → RS → Prop
  | none, res => res.2.2.2.2 = true
  | some (v, r), res => res = ((cS d v).f0, (cS d v).f1, BA s, ((s.length - r.length : Nat) : Int), false)
theorem number_is (s : By) (p : Nat) (hp : p ≤ s.length) (hs : s.length ≤ 1000000) :
    ∃ res : Int × ByteArray × Int × Bool, Ev (fun k => spec_l1Reader_number.f k (BA s) (p : Int) false) res ∧ OutS 0 s (parse 0 (s.drop p)) (res.1, [], res.2.1, res.2.2.1, res.2.2.2) := by
  have hst := numStop_is s 6 p
  have hcnt : ((s.drop p).takeWhile isD).length + ((s.drop p).dropWhile isD).length = s.length - p := by
    have := congrArg List.length (List.takeWhile_append_dropWhile (p := isD) (l := s.drop p))
    rw [List.length_append, List.length_drop] at this
    exact this
  have hall : ((s.drop p).takeWhile isD).all isD = true := List.all_takeWhile
  have hx : (BA s).extract p (p + min 6 ((s.drop p).takeWhile isD).length) = BA (((s.drop p).takeWhile isD).take 6) := by
    rw [BA_extract]
    congr 1
    have e : s.drop p = (s.drop p).takeWhile isD ++ (s.drop p).dropWhile isD := List.takeWhile_append_dropWhile.symm
    generalize hW : (s.drop p).takeWhile isD = W at *
    generalize hR : (s.drop p).dropWhile isD = R at *
    rw [e, show p + min 6 W.length - p = min 6 W.length by omega, List.take_append_of_le_length (by omega)]
    by_cases h6 : 6 ≤ W.length
    · rw [show min 6 W.length = 6 by omega]
    · rw [List.take_of_length_le (by omega), List.take_of_length_le (by omega)]
  have hall6 : (((s.drop p).takeWhile isD).take 6).all isD = true := by
    rw [List.all_eq_true] at hall ⊢
    intro x hx
    exact hall x (List.mem_of_mem_take hx)
  have hE : ∀ q : Int × Bool, q = (if Lib.decDigits (valD 0 (((s.drop p).takeWhile isD).take 6)) = ((s.drop p).takeWhile isD).take 6 then ((valD 0 (((s.drop p).takeWhile isD).take 6) : Int), true) else (0, false)) →
      Ev (fun k => spec_l1Reader_number.f k (BA s) (p : Int) false) (q.1, BA s, ((p + min 6 ((s.drop p).takeWhile isD).length : Nat) : Int), false || !q.2 || !(decide (0 ≤ q.1) && decide (q.1 ≤ 10006))) := by
    intro q hq
    subst hq
    unfold spec_l1Reader_number.f
    refine Ev.pos (by omega) (Ev.pos (by rw [BA_size]; omega) (Ev.pos (by rw [BA_size]; omega) ?_))
    rw [hst]
    simp only [Int.toNat_natCast, hx]
    refine Ev.bind (l13_is _ hall6 (by rw [List.length_take]; omega)) ?_
    exact Ev.now _
  refine ⟨_, hE _ rfl, ?_⟩
  · unfold parse parseNum
    generalize hW : (s.drop p).takeWhile isD = W at *
    generalize hR : (s.drop p).dropWhile isD = R at *
    by_cases h6 : W.length ≤ 6
    · rw [List.take_of_length_le h6]
      by_cases hdec : Lib.decDigits (valD 0 W) = W
      · by_cases hv : valD 0 W < 10007
        · rw [if_pos ⟨hv, hdec⟩, if_pos hdec]
          show _ = _
          simp only [cS, Prod.mk.injEq, true_and, Bool.false_or]
          refine ⟨by omega, ?_⟩
          simp
          omega
        · rw [if_neg (fun h => hv h.1), if_pos hdec]
          show _ = _
          simp
          omega
      · rw [if_neg (fun h => hdec h.2), if_neg hdec]
        rfl
    · have hnone : ¬ (valD 0 W < 10007 ∧ Lib.decDigits (valD 0 W) = W) := by
        rintro ⟨hv, hdec⟩
        obtain ⟨c, r, e, h1⟩ := (dec_val_iff hall).1 hdec
        rw [e] at hall hv h6
        simp only [List.all_cons, Bool.and_eq_true] at hall
        simp only [List.length_cons] at h6
        rcases h1 with h1 | h1
        · have := six_big hall.1 h1 (r := r) (by omega)
          omega
        · rw [h1] at h6
          simp at h6
      rw [if_neg hnone]
      show _ = _
      split
      · next hdec =>
        obtain ⟨c, r, e, h1⟩ := (dec_val_iff hall6).1 hdec
        have hl6 : (W.take 6).length = 6 := by rw [List.length_take]; omega
        rw [e] at hall6 hl6 ⊢
        simp only [List.all_cons, Bool.and_eq_true] at hall6
        simp only [List.length_cons] at hl6
        rcases h1 with h1 | h1
        · have := six_big hall6.1 h1 (r := r) (by omega)
          simp
          omega
        · rw [h1] at hl6
          simp at hl6
      · rfl

theorem is_hit {s : By} {p : Nat} {c : UInt8} {t : By} (h : s.drop p = c :: t) (hs : s.length ≤ 1000000) (ch : Int) (e : (c.toNat : Int) = ch) : spec_l1Reader_is.f (BA s) (p : Int) false ch = some (true, BA s, ((p + 1 : Nat) : Int), false) := by
  have hp : p < s.length := by
    rcases Nat.lt_or_ge p s.length with h1 | h1
    · exact h1
    · rw [List.drop_eq_nil_of_le h1] at h; cases h
  rw [drop_split hp] at h
  obtain ⟨rfl, rfl⟩ := List.cons.inj h
  unfold spec_l1Reader_is.f
  rw [if_pos (by rw [BA_size]; omega), if_pos (by omega), bt_at hp, if_pos e, wrapS (by omega) (by omega)]
  rfl
theorem is_miss {s : By} {p : Nat} (ch : Int) (h : ∀ c t, s.drop p = c :: t → (c.toNat : Int) ≠ ch) : spec_l1Reader_is.f (BA s) (p : Int) false ch = some (false, BA s, (p : Int), false) := by
  unfold spec_l1Reader_is.f
  by_cases hp : p < s.length
  · rw [if_pos (by rw [BA_size]; omega), if_pos (by omega), bt_at hp, if_neg (h _ _ (drop_split hp))]
  · rw [if_neg (by rw [BA_size]; omega)]
def tailL (d n : Nat) : By → Option (List Tr × By)
  | [] => none
  | c :: r => if c = 44 then parseL (parse d) n r else if c = 93 then some ([], r) else none
theorem parseL_tail (d n : Nat) (s : By) : parseL (parse d) (n + 1) s = (parse d s).bind fun q => (tailL d n q.2).map fun z => (q.1 :: z.1, z.2) := by
  unfold parseL
  cases parse d s with
  | none => rfl
  | some q =>
    obtain ⟨v, r⟩ := q
    cases r with
    | nil => rfl
    | cons c r =>
      simp only [tailL, Option.bind_some]
      by_cases h44 : c = 44
      · subst h44
        rfl
      · rw [if_neg h44, if_neg h44]
        by_cases h93 : c = 93
        · rw [if_pos h93, if_pos h93]; rfl
        · rw [if_neg h93, if_neg h93]; rfl
def OutL (d : Nat) (s : By) (acc : List NS) : Option (List Tr × By) → RS → Prop
  | none, res => res.2.2.2.2 = true
  | some (vs, r), res => res = (0, acc ++ vs.map (cS d), BA s, ((s.length - r.length : Nat) : Int), false)
/-- What holds of each text at a depth. -/
def NodeIs (d : Nat) : Prop := ∀ (s : By) (p : Nat), p ≤ s.length → s.length ≤ 1000000 → ∃ res, Ev (fun k => spec_l1Reader_node.f k (BA s) (p : Int) false (d : Int)) res ∧ OutS d s (parse d (s.drop p)) res
theorem node_bad (x1 m : Int) (x : ByteArray) (y : Int) (ps : List NS) : Ev (fun k => spec_l1Reader_node.l0 k x1 x y true m ps) (m, ps, x, y, true) := by
  refine Ev.step' ?_; simp only [spec_l1Reader_node.l0]
  exact Ev.pos (by first | trivial | rfl) (Ev.now _)
theorem node_l0 (d : Nat) (hd : d ≤ 1000) (hf : NodeIs d) (s : By) (hs : s.length ≤ 1000000) : ∀ (n p : Nat) (acc : List NS), p ≤ s.length → (s.drop p).length ≤ n → acc.length + (s.drop p).length ≤ 1000000 →
    ∃ res, Ev (fun k => spec_l1Reader_node.l0 k ((d + 1 : Nat) : Int) (BA s) (p : Int) false 0 acc) res ∧ OutL d s acc (tailL d n (s.drop p)) res := by
  intro n
  induction n with
  | zero =>
    intro p acc hp hn hb
    have hnil : s.drop p = [] := List.length_eq_zero_iff.1 (by omega)
    have hm : ∀ ch, spec_l1Reader_is.f (BA s) (p : Int) false ch = some (false, BA s, (p : Int), false) := fun ch => is_miss ch (by rw [hnil]; intro c t e; cases e)
    refine ⟨(0, acc, BA s, (p : Int), true), ?_, by rw [hnil]; rfl⟩
    refine Ev.step' ?_; simp only [spec_l1Reader_node.l0]
    refine Ev.neg (by simp) (Ev.call (hm 44) (Ev.neg (by simp) (Ev.neg (by simp) (Ev.call (hm 93) (Ev.val rfl)))))
  | succ n ih =>
    intro p acc hp hn hb
    cases hdr : s.drop p with
    | nil =>
      have hm : ∀ ch, spec_l1Reader_is.f (BA s) (p : Int) false ch = some (false, BA s, (p : Int), false) := fun ch => is_miss ch (by rw [hdr]; intro c t e; cases e)
      refine ⟨(0, acc, BA s, (p : Int), true), ?_, rfl⟩
      refine Ev.step' ?_; simp only [spec_l1Reader_node.l0]
      refine Ev.neg (by simp) (Ev.call (hm 44) (Ev.neg (by simp) (Ev.neg (by simp) (Ev.call (hm 93) (Ev.val rfl)))))
    | cons c t =>
      have hp' : p < s.length := by
        rcases Nat.lt_or_ge p s.length with h1 | h1
        · exact h1
        · rw [List.drop_eq_nil_of_le h1] at hdr; cases hdr
      have ht : s.drop (p + 1) = t := by
        have := drop_split hp'
        rw [hdr] at this
        exact (List.cons.inj this).2.symm
      have htl : t.length = s.length - (p + 1) := by rw [← ht, List.length_drop]
      rw [hdr] at hn hb
      simp only [List.length_cons] at hn hb
      by_cases h44 : c = 44
      · subst h44
        obtain ⟨res, h1, h2⟩ := hf s (p + 1) (by omega) hs
        rw [ht] at h2
        have hgo : ∀ res', (Ev (fun k => spec_l1Reader_node.l0 k ((d + 1 : Nat) : Int) res.2.2.1 res.2.2.2.1 res.2.2.2.2 0 (acc ++ [⟨res.1, res.2.1⟩])) res') → Ev (fun k => spec_l1Reader_node.l0 k ((d + 1 : Nat) : Int) (BA s) (p : Int) false 0 acc) res' := by
          intro res' h
          refine Ev.step' ?_; simp only [spec_l1Reader_node.l0]
          refine Ev.neg (by simp) (Ev.call (is_hit hdr hs 44 rfl) (Ev.pos (by first | trivial | rfl) ?_))
          rw [show wrap64 (((d + 1 : Nat) : Int) - 1) = (d : Int) by rw [wrapS (by omega) (by omega)]; omega]
          exact Ev.bind h1 (Ev.pos (by omega) h)
        have htail : tailL d (n + 1) (44 :: t) = (parse d t).bind fun q => (tailL d n q.2).map fun z => (q.1 :: z.1, z.2) := parseL_tail d n t
        rw [htail]
        cases hq : parse d t with
        | none =>
          rw [hq] at h2
          have hb2 : res.2.2.2.2 = true := h2
          refine ⟨(0, acc ++ [⟨res.1, res.2.1⟩], res.2.2.1, res.2.2.2.1, true), hgo _ ?_, rfl⟩
          rw [hb2]
          exact node_bad _ _ _ _ _
        | some q =>
          obtain ⟨v, r⟩ := q
          rw [hq] at h2
          have hres : res = ((cS d v).f0, (cS d v).f1, BA s, ((s.length - r.length : Nat) : Int), false) := h2
          have hr := parse_len hq
          have hdrop : s.drop (s.length - r.length) = r := by
            obtain ⟨e, _⟩ := parse_sound d t v r hq
            have e2 : s = s.take (p + 1) ++ (text d v ++ r) := by rw [← e, ← ht, List.take_append_drop]
            have e3 : s.length - r.length = (s.take (p + 1) ++ text d v).length := by
              have := congrArg List.length e2
              simp only [List.length_append] at this ⊢
              omega
            conv => lhs; arg 2; rw [e2]
            rw [e3, ← List.append_assoc, List.drop_left]
          have hle : r.length ≤ s.length := by omega
          obtain ⟨res', h3, h4⟩ := ih (s.length - r.length) (acc ++ [cS d v]) (by omega) (by rw [hdrop]; omega) (by rw [hdrop]; simp; omega)
          rw [hdrop] at h4
          refine ⟨res', hgo _ ?_, ?_⟩
          · rw [hres]
            simp only [mkS]
            exact h3
          · simp only [Option.bind_some]
            cases hz : tailL d n r with
            | none => rw [hz] at h4; exact h4
            | some z =>
              rw [hz] at h4
              have h4' : res' = _ := h4
              show res' = _
              rw [h4']
              simp
      · have hm : spec_l1Reader_is.f (BA s) (p : Int) false 44 = some (false, BA s, (p : Int), false) := is_miss 44 (by
          rw [hdr]
          intro c' t' e
          rw [← (List.cons.inj e).1]
          exact toNat_ne (n := 44) h44 (by omega))
        by_cases h93 : c = 93
        · subst h93
          refine ⟨(0, acc, BA s, ((p + 1 : Nat) : Int), false), ?_, ?_⟩
          · refine Ev.step' ?_; simp only [spec_l1Reader_node.l0]
            exact Ev.neg (by simp) (Ev.call hm (Ev.neg (by simp) (Ev.neg (by simp) (Ev.call (is_hit hdr hs 93 rfl) (Ev.val rfl)))))
          · show _ = _
            rw [htl, List.map_nil, List.append_nil, show s.length - (s.length - (p + 1)) = p + 1 by omega]
        · refine ⟨(0, acc, BA s, (p : Int), true), ?_, ?_⟩
          · refine Ev.step' ?_; simp only [spec_l1Reader_node.l0]
            exact Ev.neg (by simp) (Ev.call hm (Ev.neg (by simp) (Ev.neg (by simp) (Ev.call (is_miss 93 (by
              rw [hdr]
              intro c' t' e
              rw [← (List.cons.inj e).1]
              exact toNat_ne (n := 93) h93 (by omega))) (Ev.val rfl)))))
          · simp only [tailL, if_neg h44, if_neg h93]
            rfl
theorem drop_rest {s t r u : By} {p : Nat} (ht : s.drop p = t) (e : t = u ++ r) (hp : p ≤ s.length) : s.drop (s.length - r.length) = r ∧ r.length ≤ s.length - p := by
  have e2 : s = s.take p ++ (u ++ r) := by rw [← e, ← ht, List.take_append_drop]
  have e3 : s.length - r.length = (s.take p ++ u).length := by
    have := congrArg List.length e2
    simp only [List.length_append] at this ⊢
    omega
  constructor
  · conv => lhs; arg 2; rw [e2]
    rw [e3, ← List.append_assoc, List.drop_left]
  · have := congrArg List.length e
    rw [← ht, List.length_append, List.length_drop] at this
    omega
theorem node_is : ∀ d, d ≤ 1000 → NodeIs d
  | 0, _ => by
    intro s p hp hs
    obtain ⟨res, h1, h2⟩ := number_is s p hp hs
    refine ⟨(res.1, [], res.2.1, res.2.2.1, res.2.2.2), ?_, h2⟩
    refine Ev.step' ?_; simp only [spec_l1Reader_node.f]
    refine Ev.call (a := ([] : List NS)) rfl (Ev.pos (by first | trivial | rfl) ?_)
    exact Ev.bind h1 (Ev.now _)
  | d + 1, hd => by
    have ih := node_is d (by omega)
    intro s p hp hs
    cases hdr : s.drop p with
    | nil =>
      refine ⟨(0, [], BA s, (p : Int), true), ?_, by rw [parse_nil]; rfl⟩
      refine Ev.step' ?_; simp only [spec_l1Reader_node.f]
      refine Ev.call (a := ([] : List NS)) rfl (Ev.neg (by omega) (Ev.call (is_miss 91 (by rw [hdr]; intro c t e; cases e)) (Ev.neg (by simp) (Ev.val rfl))))
    | cons c t =>
      have hp' : p < s.length := by
        rcases Nat.lt_or_ge p s.length with h1 | h1
        · exact h1
        · rw [List.drop_eq_nil_of_le h1] at hdr; cases hdr
      have ht : s.drop (p + 1) = t := by
        have := drop_split hp'
        rw [hdr] at this
        exact (List.cons.inj this).2.symm
      have htl : t.length = s.length - (p + 1) := by rw [← ht, List.length_drop]
      by_cases h91 : c = 91
      · subst h91
        have hgo : ∀ res, Ev (fun k => (spec_l1Reader_is.f (BA s) ((p + 1 : Nat) : Int) false 93).bind fun bt114 => (if bt114.1 = true then (some (0, ([] : List NS), bt114.2.1, bt114.2.2.1, bt114.2.2.2)) else ((spec_l1Reader_node.f k bt114.2.1 bt114.2.2.1 bt114.2.2.2 (d : Int)).bind fun bt118 => (if ([] : List NS).length < 4398046511104 then (spec_l1Reader_node.l0 k ((d + 1 : Nat) : Int) bt118.2.2.1 bt118.2.2.2.1 bt118.2.2.2.2 0 (([] : List NS) ++ [(⟨bt118.1, bt118.2.1⟩ : NS)])) else (none))))) res →
            Ev (fun k => spec_l1Reader_node.f k (BA s) (p : Int) false ((d + 1 : Nat) : Int)) res := by
          intro res h
          refine Ev.step' ?_; simp only [spec_l1Reader_node.f]
          refine Ev.call (a := ([] : List NS)) rfl (Ev.neg (by omega) (Ev.call (is_hit hdr hs 91 rfl) (Ev.pos (by first | trivial | rfl) ?_)))
          rw [show wrap64 (((d + 1 : Nat) : Int) - 1) = (d : Int) by rw [wrapS (by omega) (by omega)]; omega]
          exact h
        by_cases h93 : ∃ t', t = 93 :: t'
        · obtain ⟨t', rfl⟩ := h93
          simp only [List.length_cons] at htl
          refine ⟨_, hgo _ (Ev.call (is_hit ht hs 93 rfl) (Ev.pos (by first | trivial | rfl) (Ev.now _))), ?_⟩
          have : parse (d + 1) (91 :: 93 :: t') = some (⟨0, []⟩, t') := by unfold parse; simp
          rw [this]
          show _ = _
          rw [show s.length - t'.length = p + 1 + 1 by omega]
          rfl
        · have hm : spec_l1Reader_is.f (BA s) ((p + 1 : Nat) : Int) false 93 = some (false, BA s, ((p + 1 : Nat) : Int), false) := is_miss 93 (by
            rw [ht]
            intro c' t' e e2
            apply h93
            refine ⟨t', ?_⟩
            rw [e]
            congr 1
            apply UInt8.toNat.inj
            have h3 : (93 : UInt8).toNat = 93 := rfl
            omega)
          obtain ⟨res, h1, h2⟩ := ih s (p + 1) (by omega) hs
          rw [ht] at h2
          have hgo2 : ∀ res', (Ev (fun k => spec_l1Reader_node.l0 k ((d + 1 : Nat) : Int) res.2.2.1 res.2.2.2.1 res.2.2.2.2 0 [⟨res.1, res.2.1⟩]) res') → Ev (fun k => spec_l1Reader_node.f k (BA s) (p : Int) false ((d + 1 : Nat) : Int)) res' := by
            intro res' h
            exact hgo _ (Ev.call hm (Ev.neg (by simp) (Ev.bind h1 (Ev.pos (by simp) h))))
          have hpar : parse (d + 1) (91 :: t) = ((parse d t).bind fun q => (tailL d t.length q.2).map fun z => (q.1 :: z.1, z.2)).map fun q => ((⟨0, q.1⟩ : Tr), q.2) := by
            cases t with
            | nil => rw [parse_nil]; rfl
            | cons c' t' =>
              have h93' : c' ≠ 93 := fun e => h93 ⟨t', by rw [e]⟩
              have e0 : parse (d + 1) (91 :: c' :: t') = if c' = 93 then some (⟨0, []⟩, t') else (parseL (parse d) ((c' :: t').length + 1) (c' :: t')).map fun q => (⟨0, q.1⟩, q.2) := rfl
              rw [e0, if_neg h93', parseL_tail]
          rw [hpar]
          cases hq : parse d t with
          | none =>
            rw [hq] at h2
            have hb2 : res.2.2.2.2 = true := h2
            refine ⟨(0, [⟨res.1, res.2.1⟩], res.2.2.1, res.2.2.2.1, true), hgo2 _ ?_, rfl⟩
            rw [hb2]
            exact node_bad _ _ _ _ _
          | some q =>
            obtain ⟨v, r⟩ := q
            rw [hq] at h2
            have hres : res = ((cS d v).f0, (cS d v).f1, BA s, ((s.length - r.length : Nat) : Int), false) := h2
            obtain ⟨hdrop, hle⟩ := drop_rest ht (parse_sound d t v r hq).1 (by omega)
            have hr := parse_len hq
            obtain ⟨res', h3, h4⟩ := node_l0 d (by omega) ih s hs t.length (s.length - r.length) [cS d v] (by omega) (by rw [hdrop]; omega) (by rw [hdrop]; simp; omega)
            rw [hdrop] at h4
            refine ⟨res', hgo2 _ ?_, ?_⟩
            · rw [hres]
              simp only [mkS]
              exact h3
            · simp only [Option.bind_some]
              cases hz : tailL d t.length r with
              | none => rw [hz] at h4; exact h4
              | some z =>
                rw [hz] at h4
                have h4' : res' = _ := h4
                show res' = _
                rw [h4']
                simp [cS]
      · refine ⟨(0, [], BA s, (p : Int), true), ?_, ?_⟩
        · refine Ev.step' ?_; simp only [spec_l1Reader_node.f]
          refine Ev.call (a := ([] : List NS)) rfl (Ev.neg (by omega) (Ev.call (is_miss 91 (by
            rw [hdr]
            intro c' t' e
            rw [← (List.cons.inj e).1]
            exact toNat_ne (n := 91) h91 (by omega))) (Ev.neg (by simp) (Ev.val rfl))))
        · unfold parse
          simp only [if_neg h91]
          rfl

/-! ### the two readings -/
/-- The array that a text stands for. -/
def readD (d : Nat) (l : By) : Option Tr := if l.length ≤ 400 then (match parse d l with | some (v, []) => some v | _ => none) else none
theorem readD_ok {d : Nat} {l : By} {v : Tr} (h : readD d l = some v) : l = text d v ∧ Ok d v ∧ l.length ≤ 400 := by
  unfold readD at h
  split at h
  · next hl =>
    split at h
    · next v' hp =>
      obtain rfl := Option.some.inj h
      obtain ⟨h1, h2⟩ := parse_sound _ _ _ _ hp
      exact ⟨by simpa using h1, h2, hl⟩
    · cases h
  · cases h
theorem readD_text {d : Nat} {v : Tr} (h : Ok d v) (hl : (text d v).length ≤ 400) : readD d (text d v) = some v := by
  unfold readD
  have := parse_complete d v [] h (by intro c l e; cases e)
  rw [List.append_nil] at this
  rw [if_pos hl, this]
def resS (d : Nat) : Option Tr → Int × List NS × Bool
  | none => (0, [], false)
  | some v => ((cS d v).f0, (cS d v).f1, true)
theorem l1Read_is (d : Nat) (hd : d ≤ 3) (l : By) : Ev (fun k => spec_l1Read.f k (BA l) (d : Int)) (resS d (readD d l)) := by
  unfold spec_l1Read.f
  have hin : spec_l1In.f (d : Int) 0 3 = some true := by
    unfold spec_l1In.f
    rw [if_pos (by omega)]
    simp
    omega
  refine Ev.call hin (Ev.pos (by first | trivial | rfl) ?_)
  refine Ev.step' ?_; simp only [spec_l1Read.j0]
  unfold readD
  by_cases hl : l.length ≤ 400
  · rw [if_pos hl]
    refine Ev.neg (by simp; omega) ?_
    obtain ⟨res, h1, h2⟩ := node_is d (by omega) l 0 (by omega) (by omega)
    rw [List.drop_zero] at h2
    refine Ev.bind h1 ?_
    cases hq : parse d l with
    | none =>
      rw [hq] at h2
      exact Ev.pos h2 (Ev.now _)
    | some q =>
      obtain ⟨v, r⟩ := q
      rw [hq] at h2
      have hres : res = ((cS d v).f0, (cS d v).f1, BA l, ((l.length - r.length : Nat) : Int), false) := h2
      subst hres
      have hr := parse_len hq
      refine Ev.neg (by simp) ?_
      cases r with
      | nil => exact Ev.pos (by simp) (Ev.now _)
      | cons c r => exact Ev.neg (by simp only [List.length_cons] at hr ⊢; rw [BA_size]; omega) (Ev.now _)
  · rw [if_neg hl]
    exact Ev.pos (by simp; omega) (Ev.now _)
theorem l1Read_out (d : Int) (hd : d < 0 ∨ 3 < d) (s : ByteArray) : Ev (fun k => spec_l1Read.f k s d) (0, [], false) := by
  unfold spec_l1Read.f
  have hin : spec_l1In.f d 0 3 = some false := by
    unfold spec_l1In.f
    by_cases h0 : d ≥ 0
    · rw [if_pos h0]
      simp
      omega
    · rw [if_neg h0]
  refine Ev.call hin (Ev.neg (by simp) ?_)
  refine Ev.step' ?_; simp only [spec_l1Read.j0]
  exact Ev.pos (by first | trivial | rfl) (Ev.now _)
/-- .. and impl's: beside the sign, parts of some array. -/
theorem arrOf_is (d : Nat) (hd : d ≤ 3) (l : By) : ∃ t, Ev (fun k => impl_arrOf.f k (BA l) (d : Int)) ((cA d t).f0, (cA d t).f1, (readD d l).isSome) ∧ Ok d t ∧ (text d t).length ≤ 402 ∧ ∀ v, readD d l = some v → t = v := by
  have hz : (cA d ⟨0, []⟩).f0 = 0 ∧ (cA d ⟨0, []⟩).f1 = [] ∧ Ok d ⟨0, []⟩ ∧ (text d ⟨0, []⟩).length ≤ 402 := by
    cases d with
    | zero => exact ⟨rfl, rfl, ⟨by show 0 < 10007; omega, rfl⟩, by simp [text, dec_small]⟩
    | succ d => exact ⟨rfl, rfl, ⟨rfl, by intro x hx; cases hx⟩, by simp [text, Lib.join_nil]⟩
  obtain ⟨z1, z2, z3, z4⟩ := hz
  unfold impl_arrOf.f readD
  by_cases hl : l.length ≤ 400
  · rw [if_pos hl]
    have hr := readArr_is d (by omega) l (by omega)
    cases hq : parse d l with
    | none =>
      rw [hq] at hr
      refine ⟨⟨0, []⟩, ?_, z3, z4, by simp⟩
      refine Ev.neg (by omega) (Ev.neg (by omega) (Ev.neg (by rw [BA_size]; omega) (Ev.bind hr (Ev.neg (by simp [resA, badA]) (Ev.val ?_)))))
      rw [z1, z2]
      rfl
    | some q =>
      obtain ⟨v, r⟩ := q
      rw [hq] at hr
      obtain ⟨h1, h2⟩ := parse_sound _ _ _ _ hq
      refine ⟨v, ?_, h2, ?_, ?_⟩
      · refine Ev.neg (by omega) (Ev.neg (by omega) (Ev.neg (by rw [BA_size]; omega) (Ev.bind hr (Ev.pos (by first | trivial | rfl) (Ev.val ?_)))))
        simp only [resA, toList_BA]
        cases r <;> rfl
      · have := congrArg List.length h1
        rw [List.length_append] at this
        omega
      · intro v' hv
        cases r with
        | nil => exact Option.some.inj hv
        | cons c r => cases hv
  · rw [if_neg hl]
    refine ⟨⟨0, []⟩, ?_, z3, z4, by simp⟩
    refine Ev.neg (by omega) (Ev.neg (by omega) (Ev.pos (by rw [BA_size]; omega) (Ev.val ?_)))
    rw [z1, z2]
    rfl
theorem arrOf_out (d : Int) (hd : d < 0 ∨ 3 < d) (s : ByteArray) : Ev (fun k => impl_arrOf.f k s d) (0, [], false) := by
  unfold impl_arrOf.f
  by_cases h0 : d < 0
  · exact Ev.pos h0 (Ev.now _)
  · exact Ev.neg h0 (Ev.pos (by omega) (Ev.now _))
end Go.Proofs.YtmjoigpnnechgaaDoor.B
