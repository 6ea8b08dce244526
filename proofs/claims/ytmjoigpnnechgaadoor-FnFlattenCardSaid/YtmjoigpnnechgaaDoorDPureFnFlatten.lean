/- Flattened arrays have the same numbers and as many parts as all parts together; turned twice an array is itself. -/
import Derived.Test.YtmjoigpnnechgaaDoorDQbase
import Derived.Test.YtmjoigpnnechgaaDoorDx8
import Derived.Test.YtmjoigpnnechgaaDoorDx2
import Derived.Test.YtmjoigpnnechgaaDoorDx4
import Derived.Test.YtmjoigpnnechgaaDoorDx3
import Derived.Test.YtmjoigpnnechgaaDoorDx5
import Derived.Test.YtmjoigpnnechgaaDoorDx9
import Derived.Test.YtmjoigpnnechgaaDoorDx10
namespace Go.Proofs.YtmjoigpnnechgaaDoor.D
open Go.RowKit Go.Proofs.YtmjoigpnnechgaaDoorW.PrintWords Go.Proofs.YtmjoigpnnechgaaDoorW.PrintLast Go.Proofs.YtmjoigpnnechgaaDoorW.PrintMore Go.Proofs.YtmjoigpnnechgaaDoor.Q
set_option linter.unusedSimpArgs false
set_option linter.unusedVariables false

abbrev NA := S84
abbrev NS := S95
def cA : Nat → Tr → NA
 | 0, t => ⟨(t.n : Int), []⟩
 | d + 1, t => ⟨(t.n : Int), t.parts.map (cA d)⟩
def cS : Nat → Tr → NS
 | 0, t => ⟨(t.n : Int), []⟩
 | d + 1, t => ⟨(t.n : Int), t.parts.map (cS d)⟩
theorem mkA (t : NA) : (⟨t.f0, t.f1⟩ : NA) = t := by cases t; rfl
theorem mkS (t : NS) : (⟨t.f0, t.f1⟩ : NS) = t := by cases t; rfl
theorem cA_f0 (d : Nat) (t : Tr) : (cA d t).f0 = (t.n : Int) := by cases d <;> rfl
theorem cS_f0 (d : Nat) (t : Tr) : (cS d t).f0 = (t.n : Int) := by cases d <;> rfl

/-! ### impl.readArr -/
abbrev RA := Int × List NA × ByteArray × Bool
def badA : RA := (0, [], BA [], false)
def resA (d : Nat) : Option (Tr × By) → RA
 | none => badA
 | some (t, r) => ((cA d t).f0, (cA d t).f1, BA r, true)
theorem bt_at {l : By} {i : Nat} (h : i < l.length) : bt (BA l) (i : Int) = (l[i].toNat : Int) := by
 rw [bt_BA, Int.toNat_natCast, List.getD_eq_getElem?_getD, List.getElem?_eq_getElem h]
 rfl
theorem take_split {l : By} (i : Nat) (h : (l.take i).all isD = true) (hn : ∀ x : i < l.length, isD l[i] = false) : l.takeWhile isD = l.take i ∧ l.dropWhile isD = l.drop i := by
 have e : l = l.take i ++ l.drop i := (List.take_append_drop i l).symm
 have := takeWhile_digits (ds := l.take i) (r := l.drop i) h (by
   intro c r hr
   by_cases hi : i < l.length
   · rw [List.drop_eq_getElem_cons hi] at hr
     rw [← (List.cons.inj hr).1]
     exact hn hi
   · rw [List.drop_eq_nil_of_le (by omega)] at hr
     cases hr)
 rw [← e] at this
 exact this
theorem readArr_j1 (l : By) (hl : l.length ≤ 1000000) : Ev (fun k => impl_readArr.j1 k (BA l) ((l.takeWhile isD).length : Int)) (resA 0 (parse 0 l)) := by
 have ht : l.take (l.takeWhile isD).length = l.takeWhile isD := by
   have e := List.takeWhile_append_dropWhile (p := isD) (l := l)
   conv => lhs; arg 2; rw [← e]
   rw [List.take_left']
   rfl
 have hd : l.drop (l.takeWhile isD).length = l.dropWhile isD := by
   have e := List.takeWhile_append_dropWhile (p := isD) (l := l)
   conv => lhs; arg 2; rw [← e]
   rw [List.drop_left']
   rfl
 have hlen : (l.takeWhile isD).length ≤ l.length := by
   have := congrArg List.length (List.takeWhile_append_dropWhile (p := isD) (l := l))
   rw [List.length_append] at this
   omega
 have hall : (l.takeWhile isD).all isD = true := List.all_takeWhile
 have hx : (BA l).extract 0 (l.takeWhile isD).length = BA (l.takeWhile isD) := by
   rw [BA_extract]
   simp [ht]
 have hy : (BA l).extract (l.takeWhile isD).length (BA l).size = BA (l.dropWhile isD) := by
   rw [BA_extract, hd, BA_size, List.take_of_length_le]
   rw [← hd, List.length_drop]
   omega
 refine Ev.step' ?_; simp only [impl_readArr.j1]
 refine Ev.pos (by omega) (Ev.pos (by rw [BA_size]; omega) ?_)
 simp only [Int.toNat_natCast, hx, hy]
 have hs : (BA (l.takeWhile isD)).size ≤ 281474976710656 := by rw [BA_size]; omega
 by_cases hne : l.takeWhile isD = []
 · have ha : strconv_Atoi.f (BA (l.takeWhile isD)) = some (0, some 0) := by
     unfold strconv_Atoi.f
     rw [if_pos hs, data_BA, hne]
     rfl
   have hp : parse 0 l = none := by
     have : parseNum l = none := by
       unfold parseNum
       rw [hne]
       exact if_neg (fun h => dec_ne _ h.2)
     unfold parse
     rw [this]
     rfl
   rw [hp]
   refine Ev.call ha ?_
   exact Ev.neg (by simp) (Ev.now _)
 · rcases atoi_digits hall hne with e | ⟨e, hbig⟩
   · have ha : strconv_Atoi.f (BA (l.takeWhile isD)) = some ((valD 0 (l.takeWhile isD) : Int), none) := by
       unfold strconv_Atoi.f
       rw [if_pos hs, data_BA, e]
     refine Ev.call ha ?_
     refine Ev.pos (by first | trivial | rfl) ?_
     by_cases hb : valD 0 (l.takeWhile isD) < 10007
     · refine Ev.neg (by omega) ?_
       have hi : strconv_Itoa.f (valD 0 (l.takeWhile isD) : Int) = some (BA (Lib.decDigits (valD 0 (l.takeWhile isD)))) := by
         unfold strconv_Itoa.f
         rw [if_pos (by omega), if_pos (by omega), itoa_nat]
         rfl
       refine Ev.call hi ?_
       by_cases hq : Lib.decDigits (valD 0 (l.takeWhile isD)) = l.takeWhile isD
       · refine Ev.pos (by rw [toList_BA, toList_BA]; exact hq) (Ev.val ?_)
         have : parseNum l = some (valD 0 (l.takeWhile isD), l.dropWhile isD) := if_pos ⟨hb, hq⟩
         unfold parse
         rw [this]
         rfl
       · refine Ev.neg (by rw [toList_BA, toList_BA]; exact hq) (Ev.val ?_)
         have : parseNum l = none := if_neg (fun h => hq h.2)
         unfold parse
         rw [this]
         rfl
     · refine Ev.pos (by omega) (Ev.val ?_)
       have : parseNum l = none := if_neg (fun h => hb h.1)
       unfold parse
       rw [this]
       rfl
   · have ha : strconv_Atoi.f (BA (l.takeWhile isD)) = some (Lib.atoiSat (l.takeWhile isD), some 0) := by
       unfold strconv_Atoi.f
       rw [if_pos hs, data_BA, e]
     refine Ev.call ha ?_
     refine Ev.neg (by simp) (Ev.val ?_)
     have : parseNum l = none := if_neg (fun h => absurd h.1 (by omega))
     unfold parse
     rw [this]
     rfl
theorem readArr_l0 (l : By) (hl : l.length ≤ 1000000) : ∀ (n i : Nat), l.length - i = n → i ≤ l.length → (l.take i).all isD = true → Ev (fun k => impl_readArr.l0 k (BA l) (i : Int)) (resA 0 (parse 0 l)) := by
 intro n
 induction n with
 | zero =>
   intro i h hi hall
   obtain ⟨h1, _⟩ := take_split i hall (fun x => by omega)
   have he : (l.takeWhile isD).length = i := by rw [h1, List.length_take]; omega
   refine Ev.step' ?_; simp only [impl_readArr.l0]
   refine Ev.neg (by rw [BA_size]; omega) ?_
   rw [← he]
   exact readArr_j1 l hl
 | succ n ih =>
   intro i h hi hall
   have hlt : i < l.length := by omega
   refine Ev.step' ?_; simp only [impl_readArr.l0]
   refine Ev.pos (by rw [BA_size]; omega) (Ev.pos (by omega) ?_)
   simp only [bt_at hlt]
   by_cases hd : isD l[i] = true
   · obtain ⟨h1, h2⟩ := (isD_iff _).1 hd
     refine Ev.pos (by omega) (Ev.pos (by omega) ?_)
     rw [wrapS (by omega) (by omega)]
     exact ih (i + 1) (by omega) (by omega) (by rw [List.take_succ_eq_append_getElem hlt, List.all_append, hall]; simp [hd])
   · have hd' : isD l[i] = false := by simpa using hd
     obtain ⟨h1, _⟩ := take_split i hall (fun x => hd')
     have he : (l.takeWhile isD).length = i := by rw [h1, List.length_take]; omega
     have hj := readArr_j1 l hl
     rw [he] at hj
     by_cases h1 : (48 : Int) ≤ (l[i].toNat : Int)
     · refine Ev.pos h1 (Ev.neg ?_ hj)
       intro h2
       exact hd ((isD_iff _).2 ⟨by omega, by omega⟩)
     · exact Ev.neg h1 hj
theorem readArr_zero (l : By) (hl : l.length ≤ 1000000) : Ev (fun k => impl_readArr.f k (BA l) 0) (resA 0 (parse 0 l)) := by
 refine Ev.step' ?_; simp only [impl_readArr.f]
 exact Ev.pos (by first | trivial | rfl) (readArr_l0 l hl _ 0 rfl (by omega) rfl)


theorem parse_nil : ∀ d, parse d [] = none
 | 0 => by
   unfold parse
   have : parseNum [] = none := if_neg (fun h => dec_ne _ h.2)
   rw [this]
   rfl
 | d + 1 => rfl
theorem parse_93 : ∀ d (t : By), parse d (93 :: t) = none
 | 0, t => by
   unfold parse
   have : parseNum (93 :: t) = none := if_neg (fun h => dec_ne _ (h.2.trans (by simp [isD])))
   rw [this]
   rfl
 | d + 1, t => by
   unfold parse
   simp
theorem parse_len {d : Nat} {l : By} {v : Tr} {r : By} (h : parse d l = some (v, r)) : r.length ≤ l.length := by
 have := congrArg List.length (parse_sound d l v r h).1
 rw [List.length_append] at this
 omega
theorem BA_nil : BA [] = (⟨#[]⟩ : ByteArray) := rfl
theorem BA_tail (c : UInt8) (t : By) : (BA (c :: t)).extract 1 (BA (c :: t)).size = BA t := by
 rw [BA_extract]
 simp
theorem bt_zero (c : UInt8) (t : By) : bt (BA (c :: t)) 0 = (c.toNat : Int) := bt_BA _ _
theorem toNat_ne {c : UInt8} {n : Nat} (h : c ≠ UInt8.ofNat n) (hn : n < 256) : ((c.toNat : Int)) ≠ (n : Int) := by
 intro e
 apply h
 apply UInt8.toNat.inj
 rw [UInt8.toNat_ofNat']
 omega
/-- .. and what is left of the parts, at the loop's head. -/
def resL (d : Nat) (acc : List NA) : Option (List Tr × By) → RA
 | none => badA
 | some (vs, r) => (0, acc ++ vs.map (cA d), BA r, true)
theorem readArr_l1 (d : Nat) (hd : d ≤ 1000) (hf : ∀ l : By, l.length ≤ 1000000 → Ev (fun k => impl_readArr.f k (BA l) (d : Int)) (resA d (parse d l))) :
   ∀ (n : Nat) (l : By) (acc : List NA), l.length < n → acc.length + l.length ≤ 1000000 → (acc ≠ [] ∨ ∀ t, l ≠ 93 :: t) → Ev (fun k => impl_readArr.l1 k (BA l) ((d + 1 : Nat) : Int) 0 acc) (resL d acc (parseL (parse d) n l)) := by
 intro n
 induction n with
 | zero => intro l acc h; omega
 | succ n ih =>
   intro l acc hn hb hcase
   have hbad : Ev (fun k => impl_readArr.j5 k ((d + 1 : Nat) : Int) (BA []) true 0 acc 0 []) badA := by
     refine Ev.step' ?_; simp only [impl_readArr.j5]
     exact Ev.pos (by first | trivial | rfl) (Ev.now _)
   have hbad2 : ∀ (x : ByteArray) (m : Int) (ps : List NA), Ev (fun k => impl_readArr.j5 k ((d + 1 : Nat) : Int) x true 0 acc m ps) badA := by
     intro x m ps
     refine Ev.step' ?_; simp only [impl_readArr.j5]
     exact Ev.pos (by first | trivial | rfl) (Ev.now _)
   have hj4 : l ≠ [] → Ev (fun k => impl_readArr.j4 k (BA l) ((d + 1 : Nat) : Int) true 0 acc) (resL d acc (parseL (parse d) (n + 1) l)) := by
     intro hne
     refine Ev.step' ?_; simp only [impl_readArr.j4]
     refine Ev.pos (by first | trivial | rfl) ?_
     rw [show wrap64 (((d + 1 : Nat) : Int) - 1) = (d : Int) by rw [wrapS (by omega) (by omega)]; omega]
     refine Ev.bind (hf l (by omega)) ?_
     unfold parseL
     cases hp : parse d l with
     | none => exact Ev.neg (by simp [resA, badA]) (hbad2 _ _ _)
     | some q =>
       obtain ⟨v, r⟩ := q
       have hr := parse_len hp
       refine Ev.pos (by first | trivial | rfl) ?_
       cases r with
       | nil => exact Ev.pos (toList_BA []) (hbad2 _ _ _)
       | cons c r' =>
         simp only [List.length_cons] at hr
         have hj5 : ∀ b : Bool, b = false → (c = 44 ∨ c = 93) → Ev (fun k => impl_readArr.j5 k ((d + 1 : Nat) : Int) (BA (c :: r')) b 0 acc (cA d v).f0 (cA d v).f1) (if c = 93 then (0, acc ++ [cA d v], BA r', true) else resL d (acc ++ [cA d v]) (parseL (parse d) n r')) := by
           intro b hb0 hc
           subst hb0
           refine Ev.step' ?_; simp only [impl_readArr.j5]
           refine Ev.neg (by simp) (Ev.pos (by omega) ?_)
           refine Ev.call (a := acc ++ [cA d v]) (by rw [mkA]) ?_
           refine Ev.pos (by simp <;> omega) ?_
           by_cases h93 : c = 93
           · subst h93
             rw [if_pos rfl]
             refine Ev.pos (bt_zero _ _) (Ev.pos (by simp <;> omega) (Ev.val ?_))
             rw [BA_tail]
           · rw [if_neg h93]
             refine Ev.neg (by rw [bt_zero]; exact toNat_ne (n := 93) h93 (by omega)) (Ev.pos (by simp <;> omega) ?_)
             rw [BA_tail]
             exact ih r' _ (by omega) (by simp <;> omega) (.inl (by simp))
         refine Ev.neg (by show ¬ (BA (c :: r')).toList = []; rw [toList_BA]; simp) (Ev.pos (by show (0 : Int) < ((BA (c :: r')).size : Int); simp <;> omega) ?_)
         have hb0 : bt (resA d (some (v, c :: r'))).2.2.1 0 = (c.toNat : Int) := bt_zero _ _
         by_cases h44 : c = 44
         · subst h44
           refine Ev.pos (bt_zero _ _) (evIs (hj5 false rfl (.inl rfl)) ?_)
           simp only [if_true]
           rw [if_neg (by decide)]
           cases parseL (parse d) n r' with
           | none => rfl
           | some q => simp [resL]
         · refine Ev.neg (by rw [hb0]; exact toNat_ne (n := 44) h44 (by omega)) ?_
           by_cases h93 : c = 93
           · subst h93
             refine evIs (hj5 _ (by rw [hb0]; rfl) (.inr rfl)) ?_
             simp [resL]
           · have e : (bt (resA d (some (v, c :: r'))).2.2.1 0 != 93) = true := by
               rw [hb0]
               simpa using toNat_ne (n := 93) h93 (by omega)
             rw [e]
             refine evIs (hbad2 _ _ _) ?_
             simp [h44, h93, resL]
   refine Ev.step' ?_; simp only [impl_readArr.l1]
   cases l with
   | nil =>
     refine Ev.pos (toList_BA []) ?_
     refine Ev.step' ?_; simp only [impl_readArr.j4]
     refine Ev.neg (by simp) (Ev.pos (toList_BA []) (Ev.val ?_))
     unfold parseL
     rw [parse_nil]
     rfl
   | cons c t =>
     refine Ev.neg (by rw [toList_BA]; simp) (Ev.pos (by simp <;> omega) ?_)
     by_cases h93 : c = 93
     · subst h93
       refine Ev.pos (bt_zero _ _) ?_
       rcases hcase with hacc | hh
       · have hpos : 0 < acc.length := List.length_pos_iff.2 hacc
         rw [show decide ((acc.length : Int) > 0) = true by simp; exact hpos]
         exact hj4 (by simp)
       · exact absurd rfl (hh t)
     · refine Ev.neg (by rw [bt_zero]; exact toNat_ne (n := 93) h93 (by omega)) (hj4 (by simp))
theorem readArr_is : ∀ (d : Nat), d ≤ 1000 → ∀ l : By, l.length ≤ 1000000 → Ev (fun k => impl_readArr.f k (BA l) (d : Int)) (resA d (parse d l))
 | 0, _, l, hl => readArr_zero l hl
 | d + 1, hd, l, hl => by
   have ih := readArr_is d (by omega)
   refine Ev.step' ?_; simp only [impl_readArr.f]
   refine Ev.neg (by omega) ?_
   have hj2 : ∀ x : ByteArray, Ev (fun k => impl_readArr.j2 k x ((d + 1 : Nat) : Int) true) badA := by
     intro x
     refine Ev.step' ?_; simp only [impl_readArr.j2]
     exact Ev.pos (by first | trivial | rfl) (Ev.now _)
   cases l with
   | nil => exact Ev.pos (toList_BA []) (hj2 _)
   | cons c t =>
     refine Ev.neg (by rw [toList_BA]; simp) (Ev.pos (by simp <;> omega) ?_)
     by_cases h91 : c = 91
     · subst h91
       rw [show (bt (BA (91 :: t)) 0 != 91) = false by rw [bt_zero]; rfl]
       refine Ev.step' ?_; simp only [impl_readArr.j2]
       refine Ev.neg (by simp) (Ev.pos (by simp <;> omega) ?_)
       rw [BA_tail]
       simp only [List.length_cons] at hl
       cases t with
       | nil =>
         refine evIs (readArr_l1 d (by omega) ih 1 [] [] (by simp) (by simp) (.inr (by simp))) ?_
         unfold parse parseL
         rw [parse_nil]
         rfl
       | cons c' t' =>
         by_cases h93 : c' = 93
         · subst h93
           refine Ev.step' ?_; simp only [impl_readArr.l1]
           refine Ev.neg (by rw [toList_BA]; simp) (Ev.pos (by simp <;> omega) (Ev.pos (bt_zero _ _) ?_))
           rw [show decide ((([] : List NA).length : Int) > 0) = false from rfl]
           refine Ev.step' ?_; simp only [impl_readArr.j4]
           refine Ev.neg (by simp) (Ev.neg (by rw [toList_BA]; simp) (Ev.pos (by simp <;> omega) (Ev.val ?_)))
           rw [BA_tail]
           rfl
         · refine evIs (readArr_l1 d (by omega) ih _ (c' :: t') [] (Nat.lt_succ_self _) (by simp only [List.length_cons, List.length_nil] at hl ⊢; omega) (.inr (by intro t e; exact h93 (List.cons.inj e).1))) ?_
           unfold parse
           simp only [if_true, if_neg h93]
           cases parseL (parse d) ((c' :: t').length + 1) (c' :: t') with
           | none => rfl
           | some q => rfl
     · rw [show (bt (BA (c :: t)) 0 != 91) = true by rw [bt_zero]; simpa using toNat_ne (n := 91) h91 (by omega)]
       refine evIs (hj2 _) ?_
       unfold parse
       simp only [if_neg h91]
       rfl

/-! ### spec's reader -/
theorem drop_split {s : By} {p : Nat} (h : p < s.length) : s.drop p = s[p] :: s.drop (p + 1) := List.drop_eq_getElem_cons h
theorem numStop_is (s : By) : ∀ (n p : Nat), numStop (BA s) n (p : Int) = ((p + min n ((s.drop p).takeWhile isD).length : Nat) : Int) := by
 intro n
 induction n with
 | zero => intro p; simp [numStop]
 | succ n ih =>
   intro p
   unfold numStop
   by_cases hp : p < s.length
   · rw [drop_split hp, List.takeWhile_cons]
     by_cases hd : isD s[p] = true
     · have h := (isD_iff _).1 hd
       have : digitAt (BA s) (p : Int) = true := by
         simp [digitAt, bt_at hp, hp]
         omega
       rw [if_pos this, if_pos hd, show ((p : Int) + 1) = ((p + 1 : Nat) : Int) by omega, ih (p + 1), List.length_cons]
       omega
     · have : ¬ digitAt (BA s) (p : Int) = true := by
         intro h
         simp [digitAt, bt_at hp, hp] at h
         exact hd ((isD_iff _).2 (by omega))
       rw [if_neg this, if_neg hd]
       simp
   · have : ¬ digitAt (BA s) (p : Int) = true := by
       simp [digitAt]
       omega
     rw [if_neg this, List.drop_eq_nil_of_le (by omega)]
     simp
theorem valD_ltP : ∀ (l : By) (p a b : Nat), p = 10 ^ l.length → l.all isD = true → a < b → valD a l < b * p
 | [], p, a, b, hp, _, h => by
   have hp1 : p = 1 := hp
   have : valD a [] = a := rfl
   rw [this, hp1, Nat.mul_one]
   exact h
 | c :: r, p, a, b, hp, hall, h => by
   simp only [List.all_cons, Bool.and_eq_true] at hall
   have hc := (isD_iff _).1 hall.1
   have h1 := valD_ltP r (10 ^ r.length) (a * 10 + (c.toNat - 48)) (b * 10) rfl hall.2 (by omega)
   have h2 : p = 10 ^ r.length * 10 := hp
   have h4 : valD a (c :: r) = valD (a * 10 + (c.toNat - 48)) r := rfl
   generalize 10 ^ r.length = q at *
   rw [h4, h2, Nat.mul_comm q 10, ← Nat.mul_assoc]
   exact h1
theorem valD_lt (l : By) (a b : Nat) (hall : l.all isD = true) (h : a < b) : valD a l < b * 10 ^ l.length := valD_ltP l _ a b rfl hall h
theorem l13Num_l0 (ds : By) (hall : ds.all isD = true) (hl : ds.length ≤ 17) : ∀ (n i : Nat), ds.length - i = n → i ≤ ds.length → Ev (fun k => spec_l13Num.l0 k (BA ds) false (valD 0 (ds.take i) : Int) (i : Int)) ((valD 0 ds : Int), true) := by
 intro n
 induction n with
 | zero =>
   intro i h hi
   refine Ev.step' ?_; simp only [spec_l13Num.l0]
   refine Ev.neg (by simp <;> omega) (Ev.neg (by simp) (Ev.val ?_))
   rw [List.take_of_length_le (by omega)]
 | succ n ih =>
   intro i h hi
   have hlt : i < ds.length := by omega
   have hd : isD ds[i] = true := List.all_eq_true.1 hall _ (List.getElem_mem hlt)
   have hc := (isD_iff _).1 hd
   refine Ev.step' ?_; simp only [spec_l13Num.l0]
   simp only [bt_at hlt]
   refine Ev.pos (by simp <;> omega) (Ev.pos (by omega) (Ev.neg (by omega) (Ev.neg (by omega) ?_)))
   have hv : valD 0 (ds.take i) < 1 * 10 ^ (ds.take i).length := valD_lt _ _ _ (by
     rw [List.all_eq_true] at hall ⊢
     intro x hx
     exact hall x (List.mem_of_mem_take hx)) (by omega)
   have hpow : 10 ^ (ds.take i).length ≤ 10 ^ 17 := Nat.pow_le_pow_right (by omega) (by rw [List.length_take]; omega)
   have hv2 : valD 0 (ds.take i) < 100000000000000000 := by
     generalize 10 ^ (ds.take i).length = q at *
     omega
   have e1 : wrap64 (wrap64 ((valD 0 (ds.take i) : Int) * 10) + ((ds[i].toNat : Int) - 48) % 256) = (valD 0 (ds.take (i + 1)) : Int) := by
     rw [List.take_succ_eq_append_getElem hlt, valD_append, valD_one, wrapS (a := (valD 0 (ds.take i) : Int) * 10) (by omega) (by omega), wrapS (by omega) (by omega)]
     omega
   rw [e1, wrapS (by omega) (by omega)]
   exact ih (i + 1) (by omega) (by omega)
theorem l13_is (ds : By) (hall : ds.all isD = true) (hl : ds.length ≤ 17) : Ev (fun k => spec_l13Num.f k (BA ds)) (if Lib.decDigits (valD 0 ds) = ds then ((valD 0 ds : Int), true) else (0, false)) := by
 have hj2 : ∀ x : ByteArray, Ev (fun k => spec_l13Num.j2 k x false true) (0, false) := by
   intro x
   refine Ev.step' ?_; simp only [spec_l13Num.j2]
   exact Ev.pos (by first | trivial | rfl) (Ev.now _)
 unfold spec_l13Num.f
 cases ds with
 | nil =>
   refine Ev.neg (by simp) ?_
   refine Ev.step' ?_; simp only [spec_l13Num.j0]
   refine Ev.neg (by simp) ?_
   refine Ev.step' ?_; simp only [spec_l13Num.j1]
   refine Ev.pos (by simp) (evIs (hj2 _) ?_)
   rw [if_neg (dec_ne _)]
 | cons c r =>
   have hd : isD c = true := by
     simp only [List.all_cons, Bool.and_eq_true] at hall
     exact hall.1
   have hc := (isD_iff _).1 hd
   simp only [List.length_cons] at hl
   refine Ev.pos (by simp <;> omega) (Ev.pos (by simp <;> omega) ?_)
   rw [show (bt (BA (c :: r)) 0 == 45) = false by rw [bt_zero]; simp; omega]
   refine Ev.step' ?_; simp only [spec_l13Num.j0]
   refine Ev.neg (by simp) ?_
   refine Ev.step' ?_; simp only [spec_l13Num.j1]
   refine Ev.neg (by simp <;> omega) (Ev.neg (by simp <;> omega) (Ev.pos (by simp <;> omega) ?_))
   have hj2f : (c ≠ 48 ∨ r = []) → Ev (fun k => spec_l13Num.j2 k (BA (c :: r)) false false) (if Lib.decDigits (valD 0 (c :: r)) = c :: r then ((valD 0 (c :: r) : Int), true) else (0, false)) := by
     intro h
     refine Ev.step' ?_; simp only [spec_l13Num.j2]
     refine Ev.neg (by simp) (evIs (l13Num_l0 (c :: r) hall (by simp only [List.length_cons]; omega) _ 0 rfl (by omega)) ?_)
     rw [if_pos ((dec_val_iff hall).2 ⟨c, r, rfl, h⟩)]
   by_cases h48 : c = 48
   · subst h48
     refine Ev.pos (bt_zero _ _) ?_
     by_cases hr : r = []
     · subst hr
       exact Ev.neg (by simp) (hj2f (.inr rfl))
     · have := List.length_pos_iff.2 hr
       refine Ev.pos (by simp <;> omega) (evIs (hj2 _) ?_)
       rw [if_neg]
       intro h
       obtain ⟨c', r', e, h1⟩ := (dec_val_iff hall).1 h
       obtain ⟨rfl, rfl⟩ := List.cons.inj e
       rcases h1 with h1 | h1
       · exact h1 rfl
       · exact hr h1
   · exact Ev.neg (by rw [bt_zero]; exact toNat_ne (n := 48) h48 (by omega)) (hj2f (.inl h48))

abbrev RS := Int × List NS × ByteArray × Int × Bool
def OutS (d : Nat) (s : By) : Option (Tr × By) → RS → Prop
 | none, res => res.2.2.2.2 = true
 | some (v, r), res => res = ((cS d v).f0, (cS d v).f1, BA s, ((s.length - r.length : Nat) : Int), false)
theorem number_is (s : By) (p : Nat) (hp : p ≤ s.length) (hs : s.length ≤ 1000000) :
   ∃ res : Int × ByteArray × Int × Bool, Ev (fun k => spec_l1Reader_number.f k (BA s) (p : Int) false) res ∧ OutS 0 s (parse 0 (s.drop p)) (res.1, [], res.2.1, res.2.2.1, res.2.2.2) := by
 have hst := numStop_is s 6 p
 have hcnt : ((s.drop p).takeWhile isD).length + ((s.drop p).dropWhile isD).length = s.length - p := by
   have := congrArg List.length (List.takeWhile_append_dropWhile (p := isD) (l := s.drop p))
   rw [List.length_append, List.length_drop] at this
   exact this
 have hall : ((s.drop p).takeWhile isD).all isD = true := List.all_takeWhile
 have hx : (BA s).extract p (p + min 6 ((s.drop p).takeWhile isD).length) = BA (((s.drop p).takeWhile isD).take 6) := by
   rw [BA_extract]
   congr 1
   have e : s.drop p = (s.drop p).takeWhile isD ++ (s.drop p).dropWhile isD := List.takeWhile_append_dropWhile.symm
   generalize hW : (s.drop p).takeWhile isD = W at *
   generalize hR : (s.drop p).dropWhile isD = R at *
   rw [e, show p + min 6 W.length - p = min 6 W.length by omega, List.take_append_of_le_length (by omega)]
   by_cases h6 : 6 ≤ W.length
   · rw [show min 6 W.length = 6 by omega]
   · rw [List.take_of_length_le (by omega), List.take_of_length_le (by omega)]
 have hall6 : (((s.drop p).takeWhile isD).take 6).all isD = true := by
   rw [List.all_eq_true] at hall ⊢
   intro x hx
   exact hall x (List.mem_of_mem_take hx)
 have hE : ∀ q : Int × Bool, q = (if Lib.decDigits (valD 0 (((s.drop p).takeWhile isD).take 6)) = ((s.drop p).takeWhile isD).take 6 then ((valD 0 (((s.drop p).takeWhile isD).take 6) : Int), true) else (0, false)) →
     Ev (fun k => spec_l1Reader_number.f k (BA s) (p : Int) false) (q.1, BA s, ((p + min 6 ((s.drop p).takeWhile isD).length : Nat) : Int), false || !q.2 || !(decide (0 ≤ q.1) && decide (q.1 ≤ 10006))) := by
   intro q hq
   subst hq
   unfold spec_l1Reader_number.f
   refine Ev.pos (by omega) (Ev.pos (by rw [BA_size]; omega) (Ev.pos (by rw [BA_size]; omega) ?_))
   rw [hst]
   simp only [Int.toNat_natCast, hx]
   refine Ev.bind (l13_is _ hall6 (by rw [List.length_take]; omega)) ?_
   exact Ev.now _
 refine ⟨_, hE _ rfl, ?_⟩
 · unfold parse parseNum
   generalize hW : (s.drop p).takeWhile isD = W at *
   generalize hR : (s.drop p).dropWhile isD = R at *
   by_cases h6 : W.length ≤ 6
   · rw [List.take_of_length_le h6]
     by_cases hdec : Lib.decDigits (valD 0 W) = W
     · by_cases hv : valD 0 W < 10007
       · rw [if_pos ⟨hv, hdec⟩, if_pos hdec]
         show _ = _
         simp only [cS, Prod.mk.injEq, true_and, Bool.false_or]
         refine ⟨by omega, ?_⟩
         simp
         omega
       · rw [if_neg (fun h => hv h.1), if_pos hdec]
         show _ = _
         simp
         omega
     · rw [if_neg (fun h => hdec h.2), if_neg hdec]
       rfl
   · have hnone : ¬ (valD 0 W < 10007 ∧ Lib.decDigits (valD 0 W) = W) := by
       rintro ⟨hv, hdec⟩
       obtain ⟨c, r, e, h1⟩ := (dec_val_iff hall).1 hdec
       rw [e] at hall hv h6
       simp only [List.all_cons, Bool.and_eq_true] at hall
       simp only [List.length_cons] at h6
       rcases h1 with h1 | h1
       · have := six_big hall.1 h1 (r := r) (by omega)
         omega
       · rw [h1] at h6
         simp at h6
     rw [if_neg hnone]
     show _ = _
     split
     · next hdec =>
       obtain ⟨c, r, e, h1⟩ := (dec_val_iff hall6).1 hdec
       have hl6 : (W.take 6).length = 6 := by rw [List.length_take]; omega
       rw [e] at hall6 hl6 ⊢
       simp only [List.all_cons, Bool.and_eq_true] at hall6
       simp only [List.length_cons] at hl6
       rcases h1 with h1 | h1
       · have := six_big hall6.1 h1 (r := r) (by omega)
         simp
         omega
       · rw [h1] at hl6
         simp at hl6
     · rfl

theorem is_hit {s : By} {p : Nat} {c : UInt8} {t : By} (h : s.drop p = c :: t) (hs : s.length ≤ 1000000) (ch : Int) (e : (c.toNat : Int) = ch) : spec_l1Reader_is.f (BA s) (p : Int) false ch = some (true, BA s, ((p + 1 : Nat) : Int), false) := by
 have hp : p < s.length := by
   rcases Nat.lt_or_ge p s.length with h1 | h1
   · exact h1
   · rw [List.drop_eq_nil_of_le h1] at h; cases h
 rw [drop_split hp] at h
 obtain ⟨rfl, rfl⟩ := List.cons.inj h
 unfold spec_l1Reader_is.f
 rw [if_pos (by rw [BA_size]; omega), if_pos (by omega), bt_at hp, if_pos e, wrapS (by omega) (by omega)]
 rfl
theorem is_miss {s : By} {p : Nat} (ch : Int) (h : ∀ c t, s.drop p = c :: t → (c.toNat : Int) ≠ ch) : spec_l1Reader_is.f (BA s) (p : Int) false ch = some (false, BA s, (p : Int), false) := by
 unfold spec_l1Reader_is.f
 by_cases hp : p < s.length
 · rw [if_pos (by rw [BA_size]; omega), if_pos (by omega), bt_at hp, if_neg (h _ _ (drop_split hp))]
 · rw [if_neg (by rw [BA_size]; omega)]
def tailL (d n : Nat) : By → Option (List Tr × By)
 | [] => none
 | c :: r => if c = 44 then parseL (parse d) n r else if c = 93 then some ([], r) else none
theorem parseL_tail (d n : Nat) (s : By) : parseL (parse d) (n + 1) s = (parse d s).bind fun q => (tailL d n q.2).map fun z => (q.1 :: z.1, z.2) := by
 unfold parseL
 cases parse d s with
 | none => rfl
 | some q =>
   obtain ⟨v, r⟩ := q
   cases r with
   | nil => rfl
   | cons c r =>
     simp only [tailL, Option.bind_some]
     by_cases h44 : c = 44
     · subst h44
       rfl
     · rw [if_neg h44, if_neg h44]
       by_cases h93 : c = 93
       · rw [if_pos h93, if_pos h93]; rfl
       · rw [if_neg h93, if_neg h93]; rfl
def OutL (d : Nat) (s : By) (acc : List NS) : Option (List Tr × By) → RS → Prop
 | none, res => res.2.2.2.2 = true
 | some (vs, r), res => res = (0, acc ++ vs.map (cS d), BA s, ((s.length - r.length : Nat) : Int), false)
/-- What holds of each text at a depth. -/
def NodeIs (d : Nat) : Prop := ∀ (s : By) (p : Nat), p ≤ s.length → s.length ≤ 1000000 → ∃ res, Ev (fun k => spec_l1Reader_node.f k (BA s) (p : Int) false (d : Int)) res ∧ OutS d s (parse d (s.drop p)) res
theorem node_bad (x1 m : Int) (x : ByteArray) (y : Int) (ps : List NS) : Ev (fun k => spec_l1Reader_node.l0 k x1 x y true m ps) (m, ps, x, y, true) := by
 refine Ev.step' ?_; simp only [spec_l1Reader_node.l0]
 exact Ev.pos (by first | trivial | rfl) (Ev.now _)
theorem node_l0 (d : Nat) (hd : d ≤ 1000) (hf : NodeIs d) (s : By) (hs : s.length ≤ 1000000) : ∀ (n p : Nat) (acc : List NS), p ≤ s.length → (s.drop p).length ≤ n → acc.length + (s.drop p).length ≤ 1000000 →
   ∃ res, Ev (fun k => spec_l1Reader_node.l0 k ((d + 1 : Nat) : Int) (BA s) (p : Int) false 0 acc) res ∧ OutL d s acc (tailL d n (s.drop p)) res := by
 intro n
 induction n with
 | zero =>
   intro p acc hp hn hb
   have hnil : s.drop p = [] := List.length_eq_zero_iff.1 (by omega)
   have hm : ∀ ch, spec_l1Reader_is.f (BA s) (p : Int) false ch = some (false, BA s, (p : Int), false) := fun ch => is_miss ch (by rw [hnil]; intro c t e; cases e)
   refine ⟨(0, acc, BA s, (p : Int), true), ?_, by rw [hnil]; rfl⟩
   refine Ev.step' ?_; simp only [spec_l1Reader_node.l0]
   refine Ev.neg (by simp) (Ev.call (hm 44) (Ev.neg (by simp) (Ev.neg (by simp) (Ev.call (hm 93) (Ev.val rfl)))))
 | succ n ih =>
   intro p acc hp hn hb
   cases hdr : s.drop p with
   | nil =>
     have hm : ∀ ch, spec_l1Reader_is.f (BA s) (p : Int) false ch = some (false, BA s, (p : Int), false) := fun ch => is_miss ch (by rw [hdr]; intro c t e; cases e)
     refine ⟨(0, acc, BA s, (p : Int), true), ?_, rfl⟩
     refine Ev.step' ?_; simp only [spec_l1Reader_node.l0]
     refine Ev.neg (by simp) (Ev.call (hm 44) (Ev.neg (by simp) (Ev.neg (by simp) (Ev.call (hm 93) (Ev.val rfl)))))
   | cons c t =>
     have hp' : p < s.length := by
       rcases Nat.lt_or_ge p s.length with h1 | h1
       · exact h1
       · rw [List.drop_eq_nil_of_le h1] at hdr; cases hdr
     have ht : s.drop (p + 1) = t := by
       have := drop_split hp'
       rw [hdr] at this
       exact (List.cons.inj this).2.symm
     have htl : t.length = s.length - (p + 1) := by rw [← ht, List.length_drop]
     rw [hdr] at hn hb
     simp only [List.length_cons] at hn hb
     by_cases h44 : c = 44
     · subst h44
       obtain ⟨res, h1, h2⟩ := hf s (p + 1) (by omega) hs
       rw [ht] at h2
       have hgo : ∀ res', (Ev (fun k => spec_l1Reader_node.l0 k ((d + 1 : Nat) : Int) res.2.2.1 res.2.2.2.1 res.2.2.2.2 0 (acc ++ [⟨res.1, res.2.1⟩])) res') → Ev (fun k => spec_l1Reader_node.l0 k ((d + 1 : Nat) : Int) (BA s) (p : Int) false 0 acc) res' := by
         intro res' h
         refine Ev.step' ?_; simp only [spec_l1Reader_node.l0]
         refine Ev.neg (by simp) (Ev.call (is_hit hdr hs 44 rfl) (Ev.pos (by first | trivial | rfl) ?_))
         rw [show wrap64 (((d + 1 : Nat) : Int) - 1) = (d : Int) by rw [wrapS (by omega) (by omega)]; omega]
         exact Ev.bind h1 (Ev.pos (by omega) h)
       have htail : tailL d (n + 1) (44 :: t) = (parse d t).bind fun q => (tailL d n q.2).map fun z => (q.1 :: z.1, z.2) := parseL_tail d n t
       rw [htail]
       cases hq : parse d t with
       | none =>
         rw [hq] at h2
         have hb2 : res.2.2.2.2 = true := h2
         refine ⟨(0, acc ++ [⟨res.1, res.2.1⟩], res.2.2.1, res.2.2.2.1, true), hgo _ ?_, rfl⟩
         rw [hb2]
         exact node_bad _ _ _ _ _
       | some q =>
         obtain ⟨v, r⟩ := q
         rw [hq] at h2
         have hres : res = ((cS d v).f0, (cS d v).f1, BA s, ((s.length - r.length : Nat) : Int), false) := h2
         have hr := parse_len hq
         have hdrop : s.drop (s.length - r.length) = r := by
           obtain ⟨e, _⟩ := parse_sound d t v r hq
           have e2 : s = s.take (p + 1) ++ (text d v ++ r) := by rw [← e, ← ht, List.take_append_drop]
           have e3 : s.length - r.length = (s.take (p + 1) ++ text d v).length := by
             have := congrArg List.length e2
             simp only [List.length_append] at this ⊢
             omega
           conv => lhs; arg 2; rw [e2]
           rw [e3, ← List.append_assoc, List.drop_left]
         have hle : r.length ≤ s.length := by omega
         obtain ⟨res', h3, h4⟩ := ih (s.length - r.length) (acc ++ [cS d v]) (by omega) (by rw [hdrop]; omega) (by rw [hdrop]; simp; omega)
         rw [hdrop] at h4
         refine ⟨res', hgo _ ?_, ?_⟩
         · rw [hres]
           simp only [mkS]
           exact h3
         · simp only [Option.bind_some]
           cases hz : tailL d n r with
           | none => rw [hz] at h4; exact h4
           | some z =>
             rw [hz] at h4
             have h4' : res' = _ := h4
             show res' = _
             rw [h4']
             simp
     · have hm : spec_l1Reader_is.f (BA s) (p : Int) false 44 = some (false, BA s, (p : Int), false) := is_miss 44 (by
         rw [hdr]
         intro c' t' e
         rw [← (List.cons.inj e).1]
         exact toNat_ne (n := 44) h44 (by omega))
       by_cases h93 : c = 93
       · subst h93
         refine ⟨(0, acc, BA s, ((p + 1 : Nat) : Int), false), ?_, ?_⟩
         · refine Ev.step' ?_; simp only [spec_l1Reader_node.l0]
           exact Ev.neg (by simp) (Ev.call hm (Ev.neg (by simp) (Ev.neg (by simp) (Ev.call (is_hit hdr hs 93 rfl) (Ev.val rfl)))))
         · show _ = _
           rw [htl, List.map_nil, List.append_nil, show s.length - (s.length - (p + 1)) = p + 1 by omega]
       · refine ⟨(0, acc, BA s, (p : Int), true), ?_, ?_⟩
         · refine Ev.step' ?_; simp only [spec_l1Reader_node.l0]
           exact Ev.neg (by simp) (Ev.call hm (Ev.neg (by simp) (Ev.neg (by simp) (Ev.call (is_miss 93 (by
             rw [hdr]
             intro c' t' e
             rw [← (List.cons.inj e).1]
             exact toNat_ne (n := 93) h93 (by omega))) (Ev.val rfl)))))
         · simp only [tailL, if_neg h44, if_neg h93]
           rfl
theorem drop_rest {s t r u : By} {p : Nat} (ht : s.drop p = t) (e : t = u ++ r) (hp : p ≤ s.length) : s.drop (s.length - r.length) = r ∧ r.length ≤ s.length - p := by
 have e2 : s = s.take p ++ (u ++ r) := by rw [← e, ← ht, List.take_append_drop]
 have e3 : s.length - r.length = (s.take p ++ u).length := by
   have := congrArg List.length e2
   simp only [List.length_append] at this ⊢
   omega
 constructor
 · conv => lhs; arg 2; rw [e2]
   rw [e3, ← List.append_assoc, List.drop_left]
 · have := congrArg List.length e
   rw [← ht, List.length_append, List.length_drop] at this
   omega
theorem node_is : ∀ d, d ≤ 1000 → NodeIs d
 | 0, _ => by
   intro s p hp hs
   obtain ⟨res, h1, h2⟩ := number_is s p hp hs
   refine ⟨(res.1, [], res.2.1, res.2.2.1, res.2.2.2), ?_, h2⟩
   refine Ev.step' ?_; simp only [spec_l1Reader_node.f]
   refine Ev.call (a := ([] : List NS)) rfl (Ev.pos (by first | trivial | rfl) ?_)
   exact Ev.bind h1 (Ev.now _)
 | d + 1, hd => by
   have ih := node_is d (by omega)
   intro s p hp hs
   cases hdr : s.drop p with
   | nil =>
     refine ⟨(0, [], BA s, (p : Int), true), ?_, by rw [parse_nil]; rfl⟩
     refine Ev.step' ?_; simp only [spec_l1Reader_node.f]
     refine Ev.call (a := ([] : List NS)) rfl (Ev.neg (by omega) (Ev.call (is_miss 91 (by rw [hdr]; intro c t e; cases e)) (Ev.neg (by simp) (Ev.val rfl))))
   | cons c t =>
     have hp' : p < s.length := by
       rcases Nat.lt_or_ge p s.length with h1 | h1
       · exact h1
       · rw [List.drop_eq_nil_of_le h1] at hdr; cases hdr
     have ht : s.drop (p + 1) = t := by
       have := drop_split hp'
       rw [hdr] at this
       exact (List.cons.inj this).2.symm
     have htl : t.length = s.length - (p + 1) := by rw [← ht, List.length_drop]
     by_cases h91 : c = 91
     · subst h91
       have hgo : ∀ res, Ev (fun k => (spec_l1Reader_is.f (BA s) ((p + 1 : Nat) : Int) false 93).bind fun bt114 => (if bt114.1 = true then (some (0, ([] : List NS), bt114.2.1, bt114.2.2.1, bt114.2.2.2)) else ((spec_l1Reader_node.f k bt114.2.1 bt114.2.2.1 bt114.2.2.2 (d : Int)).bind fun bt118 => (if ([] : List NS).length < 4398046511104 then (spec_l1Reader_node.l0 k ((d + 1 : Nat) : Int) bt118.2.2.1 bt118.2.2.2.1 bt118.2.2.2.2 0 (([] : List NS) ++ [(⟨bt118.1, bt118.2.1⟩ : NS)])) else (none))))) res →
           Ev (fun k => spec_l1Reader_node.f k (BA s) (p : Int) false ((d + 1 : Nat) : Int)) res := by
         intro res h
         refine Ev.step' ?_; simp only [spec_l1Reader_node.f]
         refine Ev.call (a := ([] : List NS)) rfl (Ev.neg (by omega) (Ev.call (is_hit hdr hs 91 rfl) (Ev.pos (by first | trivial | rfl) ?_)))
         rw [show wrap64 (((d + 1 : Nat) : Int) - 1) = (d : Int) by rw [wrapS (by omega) (by omega)]; omega]
         exact h
       by_cases h93 : ∃ t', t = 93 :: t'
       · obtain ⟨t', rfl⟩ := h93
         simp only [List.length_cons] at htl
         refine ⟨_, hgo _ (Ev.call (is_hit ht hs 93 rfl) (Ev.pos (by first | trivial | rfl) (Ev.now _))), ?_⟩
         have : parse (d + 1) (91 :: 93 :: t') = some (⟨0, []⟩, t') := by unfold parse; simp
         rw [this]
         show _ = _
         rw [show s.length - t'.length = p + 1 + 1 by omega]
         rfl
       · have hm : spec_l1Reader_is.f (BA s) ((p + 1 : Nat) : Int) false 93 = some (false, BA s, ((p + 1 : Nat) : Int), false) := is_miss 93 (by
           rw [ht]
           intro c' t' e e2
           apply h93
           refine ⟨t', ?_⟩
           rw [e]
           congr 1
           apply UInt8.toNat.inj
           have h3 : (93 : UInt8).toNat = 93 := rfl
           omega)
         obtain ⟨res, h1, h2⟩ := ih s (p + 1) (by omega) hs
         rw [ht] at h2
         have hgo2 : ∀ res', (Ev (fun k => spec_l1Reader_node.l0 k ((d + 1 : Nat) : Int) res.2.2.1 res.2.2.2.1 res.2.2.2.2 0 [⟨res.1, res.2.1⟩]) res') → Ev (fun k => spec_l1Reader_node.f k (BA s) (p : Int) false ((d + 1 : Nat) : Int)) res' := by
           intro res' h
           exact hgo _ (Ev.call hm (Ev.neg (by simp) (Ev.bind h1 (Ev.pos (by simp) h))))
         have hpar : parse (d + 1) (91 :: t) = ((parse d t).bind fun q => (tailL d t.length q.2).map fun z => (q.1 :: z.1, z.2)).map fun q => ((⟨0, q.1⟩ : Tr), q.2) := by
           cases t with
           | nil => rw [parse_nil]; rfl
           | cons c' t' =>
             have h93' : c' ≠ 93 := fun e => h93 ⟨t', by rw [e]⟩
             have e0 : parse (d + 1) (91 :: c' :: t') = if c' = 93 then some (⟨0, []⟩, t') else (parseL (parse d) ((c' :: t').length + 1) (c' :: t')).map fun q => (⟨0, q.1⟩, q.2) := rfl
             rw [e0, if_neg h93', parseL_tail]
         rw [hpar]
         cases hq : parse d t with
         | none =>
           rw [hq] at h2
           have hb2 : res.2.2.2.2 = true := h2
           refine ⟨(0, [⟨res.1, res.2.1⟩], res.2.2.1, res.2.2.2.1, true), hgo2 _ ?_, rfl⟩
           rw [hb2]
           exact node_bad _ _ _ _ _
         | some q =>
           obtain ⟨v, r⟩ := q
           rw [hq] at h2
           have hres : res = ((cS d v).f0, (cS d v).f1, BA s, ((s.length - r.length : Nat) : Int), false) := h2
           obtain ⟨hdrop, hle⟩ := drop_rest ht (parse_sound d t v r hq).1 (by omega)
           have hr := parse_len hq
           obtain ⟨res', h3, h4⟩ := node_l0 d (by omega) ih s hs t.length (s.length - r.length) [cS d v] (by omega) (by rw [hdrop]; omega) (by rw [hdrop]; simp; omega)
           rw [hdrop] at h4
           refine ⟨res', hgo2 _ ?_, ?_⟩
           · rw [hres]
             simp only [mkS]
             exact h3
           · simp only [Option.bind_some]
             cases hz : tailL d t.length r with
             | none => rw [hz] at h4; exact h4
             | some z =>
               rw [hz] at h4
               have h4' : res' = _ := h4
               show res' = _
               rw [h4']
               simp [cS]
     · refine ⟨(0, [], BA s, (p : Int), true), ?_, ?_⟩
       · refine Ev.step' ?_; simp only [spec_l1Reader_node.f]
         refine Ev.call (a := ([] : List NS)) rfl (Ev.neg (by omega) (Ev.call (is_miss 91 (by
           rw [hdr]
           intro c' t' e
           rw [← (List.cons.inj e).1]
           exact toNat_ne (n := 91) h91 (by omega))) (Ev.neg (by simp) (Ev.val rfl))))
       · unfold parse
         simp only [if_neg h91]
         rfl

/-! ### the two readings -/
/-- The array that a text stands for. -/
def readD (d : Nat) (l : By) : Option Tr := if l.length ≤ 400 then (match parse d l with | some (v, []) => some v | _ => none) else none
theorem readD_ok {d : Nat} {l : By} {v : Tr} (h : readD d l = some v) : l = text d v ∧ Ok d v ∧ l.length ≤ 400 := by
 unfold readD at h
 split at h
 · next hl =>
   split at h
   · next v' hp =>
     obtain rfl := Option.some.inj h
     obtain ⟨h1, h2⟩ := parse_sound _ _ _ _ hp
     exact ⟨by simpa using h1, h2, hl⟩
   · cases h
 · cases h
theorem readD_text {d : Nat} {v : Tr} (h : Ok d v) (hl : (text d v).length ≤ 400) : readD d (text d v) = some v := by
 unfold readD
 have := parse_complete d v [] h (by intro c l e; cases e)
 rw [List.append_nil] at this
 rw [if_pos hl, this]
def resS (d : Nat) : Option Tr → Int × List NS × Bool
 | none => (0, [], false)
 | some v => ((cS d v).f0, (cS d v).f1, true)
theorem l1Read_is (d : Nat) (hd : d ≤ 3) (l : By) : Ev (fun k => spec_l1Read.f k (BA l) (d : Int)) (resS d (readD d l)) := by
 unfold spec_l1Read.f
 have hin : spec_l1In.f (d : Int) 0 3 = some true := by
   unfold spec_l1In.f
   rw [if_pos (by omega)]
   simp
   omega
 refine Ev.call hin (Ev.pos (by first | trivial | rfl) ?_)
 refine Ev.step' ?_; simp only [spec_l1Read.j0]
 unfold readD
 by_cases hl : l.length ≤ 400
 · rw [if_pos hl]
   refine Ev.neg (by simp; omega) ?_
   obtain ⟨res, h1, h2⟩ := node_is d (by omega) l 0 (by omega) (by omega)
   rw [List.drop_zero] at h2
   refine Ev.bind h1 ?_
   cases hq : parse d l with
   | none =>
     rw [hq] at h2
     exact Ev.pos h2 (Ev.now _)
   | some q =>
     obtain ⟨v, r⟩ := q
     rw [hq] at h2
     have hres : res = ((cS d v).f0, (cS d v).f1, BA l, ((l.length - r.length : Nat) : Int), false) := h2
     subst hres
     have hr := parse_len hq
     refine Ev.neg (by simp) ?_
     cases r with
     | nil => exact Ev.pos (by simp) (Ev.now _)
     | cons c r => exact Ev.neg (by simp only [List.length_cons] at hr ⊢; rw [BA_size]; omega) (Ev.now _)
 · rw [if_neg hl]
   exact Ev.pos (by simp; omega) (Ev.now _)
theorem l1Read_out (d : Int) (hd : d < 0 ∨ 3 < d) (s : ByteArray) : Ev (fun k => spec_l1Read.f k s d) (0, [], false) := by
 unfold spec_l1Read.f
 have hin : spec_l1In.f d 0 3 = some false := by
   unfold spec_l1In.f
   by_cases h0 : d ≥ 0
   · rw [if_pos h0]
     simp
     omega
   · rw [if_neg h0]
 refine Ev.call hin (Ev.neg (by simp) ?_)
 refine Ev.step' ?_; simp only [spec_l1Read.j0]
 exact Ev.pos (by first | trivial | rfl) (Ev.now _)
/-- .. and impl's: beside the sign, parts of some array. -/
theorem arrOf_is (d : Nat) (hd : d ≤ 3) (l : By) : ∃ t, Ev (fun k => impl_arrOf.f k (BA l) (d : Int)) ((cA d t).f0, (cA d t).f1, (readD d l).isSome) ∧ Ok d t ∧ (text d t).length ≤ 402 ∧ ∀ v, readD d l = some v → t = v := by
 have hz : (cA d ⟨0, []⟩).f0 = 0 ∧ (cA d ⟨0, []⟩).f1 = [] ∧ Ok d ⟨0, []⟩ ∧ (text d ⟨0, []⟩).length ≤ 402 := by
   cases d with
   | zero => exact ⟨rfl, rfl, ⟨by show 0 < 10007; omega, rfl⟩, by simp [text, dec_small]⟩
   | succ d => exact ⟨rfl, rfl, ⟨rfl, by intro x hx; cases hx⟩, by simp [text, Lib.join_nil]⟩
 obtain ⟨z1, z2, z3, z4⟩ := hz
 unfold impl_arrOf.f readD
 by_cases hl : l.length ≤ 400
 · rw [if_pos hl]
   have hr := readArr_is d (by omega) l (by omega)
   cases hq : parse d l with
   | none =>
     rw [hq] at hr
     refine ⟨⟨0, []⟩, ?_, z3, z4, by simp⟩
     refine Ev.neg (by omega) (Ev.neg (by omega) (Ev.neg (by rw [BA_size]; omega) (Ev.bind hr (Ev.neg (by simp [resA, badA]) (Ev.val ?_)))))
     rw [z1, z2]
     rfl
   | some q =>
     obtain ⟨v, r⟩ := q
     rw [hq] at hr
     obtain ⟨h1, h2⟩ := parse_sound _ _ _ _ hq
     refine ⟨v, ?_, h2, ?_, ?_⟩
     · refine Ev.neg (by omega) (Ev.neg (by omega) (Ev.neg (by rw [BA_size]; omega) (Ev.bind hr (Ev.pos (by first | trivial | rfl) (Ev.val ?_)))))
       simp only [resA, toList_BA]
       cases r <;> rfl
     · have := congrArg List.length h1
       rw [List.length_append] at this
       omega
     · intro v' hv
       cases r with
       | nil => exact Option.some.inj hv
       | cons c r => cases hv
 · rw [if_neg hl]
   refine ⟨⟨0, []⟩, ?_, z3, z4, by simp⟩
   refine Ev.neg (by omega) (Ev.neg (by omega) (Ev.pos (by rw [BA_size]; omega) (Ev.val ?_)))
   rw [z1, z2]
   rfl
theorem arrOf_out (d : Int) (hd : d < 0 ∨ 3 < d) (s : ByteArray) : Ev (fun k => impl_arrOf.f k s d) (0, [], false) := by
 unfold impl_arrOf.f
 by_cases h0 : d < 0
 · exact Ev.pos h0 (Ev.now _)
 · exact Ev.neg h0 (Ev.pos (by omega) (Ev.now _))
theorem strOne (m : Nat) (h : m < 256) : strOfNums [(m : Int)] = BA [UInt8.ofNat m] := by
 unfold strOfNums BA
 simp
theorem l13Dec_l0 : ∀ (n : Nat) (suf : By), n < 1000000000000000000 → suf.length ≤ 100 → Ev (fun k => spec_l13Dec.l0 k (n : Int) (BA suf)) (BA (Lib.decDigits n ++ suf)) := by
 have main : ∀ (b n : Nat) (suf : By), n < 10 ^ b → b ≤ 18 → suf.length + b ≤ 118 → Ev (fun k => spec_l13Dec.l0 k (n : Int) (BA suf)) (BA (Lib.decDigits n ++ suf)) := by
   intro b
   induction b with
   | zero =>
     intro n suf hn hb hs
     have hn1 : n < 1 := hn
     have : n = 0 := by omega
     subst this
     refine Ev.step' ?_; simp only [spec_l13Dec.l0]
     have e : (wrap64 (48 + ((0 : Nat) : Int))) % 256 = ((48 + 0 : Nat) : Int) := by
       rw [wrapS (by omega) (by omega)]
       omega
     refine Ev.neg (by omega) ?_
     rw [e]
     refine Ev.call (a := [((48 + 0 : Nat) : Int)]) rfl (Ev.pos (by rw [strOne _ (by omega), BA_size, BA_size]; simp; omega) (Ev.val ?_))
     rw [strOne _ (by omega), BA_append, dec_small (by omega)]
   | succ b ih =>
     intro n suf hn hb hs
     refine Ev.step' ?_; simp only [spec_l13Dec.l0]
     have hpow : 10 ^ (b + 1) ≤ 10 ^ 18 := Nat.pow_le_pow_right (by omega) hb
     have hnb : n < 1000000000000000000 := by
       have : (10 ^ 18 : Nat) = 1000000000000000000 := by decide
       omega
     by_cases h9 : n < 10
     · have e : (wrap64 (48 + (n : Int))) % 256 = ((48 + n : Nat) : Int) := by
         rw [wrapS (by omega) (by omega)]
         omega
       refine Ev.neg (by omega) ?_
       rw [e]
       refine Ev.call (a := [((48 + n : Nat) : Int)]) rfl (Ev.pos (by rw [strOne _ (by omega), BA_size, BA_size]; simp; omega) (Ev.val ?_))
       rw [strOne _ (by omega), BA_append, dec_small h9]
     · have e : (wrap64 (48 + Int.tmod (n : Int) 10)) % 256 = ((48 + n % 10 : Nat) : Int) := by
         rw [Int.tmod_eq_emod_of_nonneg (by omega), wrapS (by omega) (by omega)]
         omega
       have e2 : wrap64 (Int.tdiv (n : Int) 10) = ((n / 10 : Nat) : Int) := by
         rw [Int.tdiv_eq_ediv_of_nonneg (by omega), wrapS (by omega) (by omega)]
         omega
       refine Ev.pos (by omega) ?_
       rw [e, e2]
       refine Ev.call (a := [((48 + n % 10 : Nat) : Int)]) rfl (Ev.pos (by rw [strOne _ (by omega), BA_size, BA_size]; simp; omega) ?_)
       rw [strOne _ (by omega), BA_append]
       refine evIs (ih (n / 10) _ ?_ (by omega) (by simp; omega)) ?_
       · rw [Nat.pow_succ] at hn
         generalize 10 ^ b = q at *
         omega
       · rw [dec_big h9, List.append_assoc]
 intro n suf hn hs
 exact main 18 n suf (by have : (10 ^ 18 : Nat) = 1000000000000000000 := by decide
                         omega) (by omega) (by omega)
theorem l13Dec_is (n : Nat) (hn : n < 1000000000000000000) : Ev (fun k => spec_l13Dec.f k (n : Int)) (BA (Lib.decDigits n)) := by
 refine Ev.step' ?_; simp only [spec_l13Dec.f]
 refine Ev.neg (by omega) (Ev.neg (by omega) (evIs (l13Dec_l0 n [] hn (by simp)) ?_))
 rw [List.append_nil]

theorem dec_len : ∀ (b n : Nat), n < 10 ^ b → 1 ≤ b → (Lib.decDigits n).length ≤ b := by
 intro b
 induction b with
 | zero => intro n _ h; omega
 | succ b ih =>
   intro n hn _
   by_cases h9 : n < 10
   · rw [dec_small h9]; simp
   · rw [dec_big h9, List.length_append]
     have h1 : n / 10 < 10 ^ b := by
       rw [Nat.pow_succ] at hn
       generalize 10 ^ b = q at *
       omega
     have hb : 1 ≤ b := by
       rcases Nat.eq_zero_or_pos b with rfl | h
       · have : n / 10 < 1 := h1
         omega
       · exact h
     have := ih (n / 10) h1 hb
     simp
     omega
/-- Numbers that fit. -/
def Sh : Nat → Tr → Prop
 | 0, t => t.n < 1000000000
 | d + 1, t => ∀ x ∈ t.parts, Sh d x
theorem Sh.of : ∀ {d : Nat} {t : Tr}, Ok d t → Sh d t
 | 0, t, h => by have := h.1; show t.n < _; omega
 | d + 1, t, h => fun x hx => Sh.of (h.2 x hx)
def nodes : Nat → Tr → Nat
 | 0, _ => 1
 | d + 1, t => 1 + (t.parts.map (nodes d)).sum
theorem join_sum (f : Tr → By) (g : Tr → Nat) : ∀ xs : List Tr, (∀ x ∈ xs, (f x).length + 1 ≤ g x) → (Lib.join (xs.map f) [44]).length ≤ (xs.map g).sum
 | [], _ => by simp [Lib.join_nil]
 | [x], h => by
   have := h x (by simp)
   rw [List.map_cons, List.map_nil, join_one]
   simp
   omega
 | x :: y :: l, h => by
   have h1 := h x (by simp)
   have h2 := join_sum f g (y :: l) (fun z hz => h z (List.mem_cons_of_mem _ hz))
   rw [List.map_cons, List.map_cons, join_cons]
   rw [List.map_cons] at h2
   rw [List.map_cons, List.sum_cons]
   simp only [List.length_append, List.length_cons] at h2 ⊢
   omega
theorem join_len2 (f : Tr → By) (g : Tr → Nat) : ∀ xs : List Tr, (∀ x ∈ xs, g x ≤ (f x).length) → (xs.map g).sum ≤ (Lib.join (xs.map f) [44]).length
 | [], _ => by simp
 | [x], h => by
   have h1 := h x (by simp)
   have e1 : (([x] : List Tr).map g).sum = g x := by simp
   have e2 : Lib.join ([x].map f) [44] = f x := join_one _
   rw [e1, e2]
   exact h1
 | x :: y :: l, h => by
   have h1 := h x (by simp)
   have h2 := join_len2 f g (y :: l) (fun z hz => h z (List.mem_cons_of_mem _ hz))
   have e1 : ((x :: y :: l).map g).sum = g x + ((y :: l).map g).sum := by rw [List.map_cons, List.sum_cons]
   have e2 : Lib.join ((x :: y :: l).map f) [44] = f x ++ 44 :: Lib.join ((y :: l).map f) [44] := join_cons _ _ _
   rw [e1, e2, List.length_append, List.length_cons]
   omega
theorem sum_mul (c : Nat) (g : Tr → Nat) : ∀ xs : List Tr, (xs.map (fun x => c * g x)).sum = c * (xs.map g).sum
 | [] => rfl
 | x :: l => by rw [List.map_cons, List.sum_cons, sum_mul c g l, List.map_cons, List.sum_cons, Nat.mul_add]
theorem text_le : ∀ (d : Nat) (t : Tr), Sh d t → (text d t).length + 1 ≤ 12 * nodes d t
 | 0, t, h => by
   have := dec_len 9 t.n h (by omega)
   show (Lib.decDigits t.n).length + 1 ≤ 12
   omega
 | d + 1, t, h => by
   have := join_sum (text d) (fun x => 12 * nodes d x) t.parts (fun x hx => text_le d x (h x hx))
   rw [sum_mul] at this
   show (91 :: (Lib.join (t.parts.map (text d)) [44] ++ [93])).length + 1 ≤ 12 * (1 + (t.parts.map (nodes d)).sum)
   simp
   omega
theorem sum_mem (g : Tr → Nat) : ∀ (xs : List Tr) (x : Tr), x ∈ xs → g x ≤ (xs.map g).sum
 | y :: l, x, h => by
   rw [List.map_cons, List.sum_cons]
   rcases List.mem_cons.1 h with rfl | h
   · omega
   · have := sum_mem g l x h; omega
theorem nodes_part {d : Nat} {t x : Tr} (h : x ∈ t.parts) : nodes d x ≤ nodes (d + 1) t := by
 have := sum_mem (nodes d) t.parts x h
 show _ ≤ 1 + _
 omega
theorem nodes_pos : ∀ (d : Nat) (t : Tr), 1 ≤ nodes d t
 | 0, _ => Nat.le_refl _
 | d + 1, t => by show 1 ≤ 1 + _; omega
theorem sum_len (g : Tr → Nat) (h : ∀ x, 1 ≤ g x) : ∀ xs : List Tr, xs.length ≤ (xs.map g).sum
 | [] => by simp
 | x :: l => by
   have h1 := h x
   have h2 := sum_len g h l
   rw [List.map_cons, List.sum_cons, List.length_cons]
   omega
theorem parts_len (d : Nat) (t : Tr) : t.parts.length + 1 ≤ nodes (d + 1) t := by
 have := sum_len (nodes d) (nodes_pos d) t.parts
 show _ ≤ 1 + _
 omega
theorem getD_map {α : Type} (f : Tr → α) (xs : List Tr) (i : Nat) (z : α) (h : i < xs.length) : (xs.map f).getD i z = f xs[i] := by
 rw [List.getD_eq_getElem?_getD, List.getElem?_map, List.getElem?_eq_getElem h]
 rfl
theorem join_snoc : ∀ (xs : List By) (x : By), xs ≠ [] → Lib.join (xs ++ [x]) [44] = Lib.join xs [44] ++ 44 :: x
 | [], x, h => absurd rfl h
 | [y], x, _ => by rw [List.singleton_append, join_cons, join_one, join_one]
 | y :: z :: l, x, _ => by
   have := join_snoc (z :: l) x (by simp)
   rw [List.cons_append, List.cons_append, join_cons, join_cons, ← List.cons_append, this]
   simp
theorem take_snoc {α : Type} (xs : List α) (i : Nat) (h : i < xs.length) : xs.take (i + 1) = xs.take i ++ [xs[i]] := List.take_succ_eq_append_getElem h
theorem join_take (f : Tr → By) (xs : List Tr) (i : Nat) (h : i < xs.length) (h0 : 0 < i) : Lib.join ((xs.take (i + 1)).map f) [44] = Lib.join ((xs.take i).map f) [44] ++ 44 :: f xs[i] := by
 rw [take_snoc xs i h, List.map_append, List.map_cons, List.map_nil, join_snoc]
 intro e
 have := congrArg List.length e
 rw [List.length_map, List.length_take, List.length_nil] at this
 omega
theorem join_take_le (f : Tr → By) (xs : List Tr) : ∀ i, i ≤ xs.length → (Lib.join ((xs.take i).map f) [44]).length ≤ (Lib.join (xs.map f) [44]).length := by
 have main : ∀ n i, xs.length - i = n → i ≤ xs.length → (Lib.join ((xs.take i).map f) [44]).length ≤ (Lib.join (xs.map f) [44]).length := by
   intro n
   induction n with
   | zero => intro i h hi; rw [List.take_of_length_le (by omega)]; exact Nat.le_refl _
   | succ n ih =>
     intro i h hi
     refine Nat.le_trans ?_ (ih (i + 1) (by omega) (by omega))
     rcases Nat.eq_zero_or_pos i with rfl | h0
     · simp [Lib.join_nil]
     · rw [join_take f xs i (by omega) h0, List.length_append]
       omega
 exact fun i hi => main _ i rfl hi
def TextS (d : Nat) : Prop := ∀ t, Sh d t → nodes d t ≤ 1000000000 → Ev (fun k => spec_l1Text.f k (cS d t).f0 (cS d t).f1 (d : Int)) (BA (text d t))
theorem textS_l0 (d : Nat) (hd : d ≤ 1000) (ih : TextS d) (t : Tr) (hs : Sh (d + 1) t) (hn : nodes (d + 1) t ≤ 1000000000) :
   ∀ (n i : Nat), t.parts.length - i = n → i ≤ t.parts.length → Ev (fun k => spec_l1Text.l0 k ((d + 1 : Nat) : Int) (BA (91 :: Lib.join ((t.parts.take i).map (text d)) [44])) (t.parts.map (cS d)) ((t.parts.map (cS d)).length : Int) (i : Int)) (BA (text (d + 1) t)) := by
 have hpl := parts_len d t
 have htl := text_le (d + 1) t hs
 have hte : (text (d + 1) t).length = (Lib.join (t.parts.map (text d)) [44]).length + 2 := by simp [text]
 intro n
 induction n with
 | zero =>
   intro i h hi
   refine Ev.step' ?_; simp only [spec_l1Text.l0]
   rw [List.take_of_length_le (by omega)]
   refine Ev.neg (by rw [List.length_map]; omega) (Ev.pos (by simp; omega) (Ev.val ?_))
   show BA _ ++ BA [93] = _
   rw [BA_append]
   rfl
 | succ n ihn =>
   intro i h hi
   have hlt : i < t.parts.length := by omega
   have hjl := join_take_le (text d) t.parts i hi
   have hjl2 := join_take_le (text d) t.parts (i + 1) (by omega)
   have hm : t.parts[i] ∈ t.parts := List.getElem_mem hlt
   have hx := ih t.parts[i] (hs _ hm) (by have := nodes_part (d := d) hm; omega)
   have hg : rd_T95 (t.parts.map (cS d)) (i : Int) = cS d t.parts[i] := getD_map _ _ _ _ hlt
   refine Ev.step' ?_; simp only [spec_l1Text.l0]
   refine Ev.pos (by rw [List.length_map]; omega) (Ev.pos (by omega) (Ev.pos (by rw [List.length_map]; omega) ?_))
   rw [hg, show wrap64 (((d + 1 : Nat) : Int) - 1) = (d : Int) by rw [wrapS (by omega) (by omega)]; omega, wrapS (a := (i : Int) + 1) (by omega) (by omega)]
   have hnext := ihn (i + 1) (by omega) (by omega)
   rcases Nat.eq_zero_or_pos i with rfl | h0
   · refine Ev.neg (by simp) (Ev.bind hx ?_)
     rw [take_snoc _ 0 hlt] at hnext hjl2
     simp only [List.take_zero, List.nil_append, List.map_cons, List.map_nil, join_one] at hnext hjl2
     refine Ev.pos (by simp [Lib.join_nil]; omega) ?_
     rw [BA_append]
     exact hnext
   · rw [join_take _ _ _ hlt h0] at hnext hjl2
     rw [List.length_append, List.length_cons] at hjl2
     refine Ev.pos (by omega) (Ev.pos (by simp only [BA_size, List.length_cons]; omega) (Ev.bind hx (Ev.pos (by simp only [BA_size, List.length_cons]; omega) ?_)))
     have e : BA (91 :: Lib.join ((t.parts.take i).map (text d)) [44]) ++ (⟨#[44]⟩ : ByteArray) ++ BA (text d t.parts[i]) = BA (91 :: (Lib.join ((t.parts.take i).map (text d)) [44] ++ 44 :: text d t.parts[i])) := by
       show BA _ ++ BA [44] ++ BA _ = _
       rw [BA_append, BA_append]
       simp
     rw [e]
     exact hnext
theorem textS_is : ∀ d, d ≤ 1000 → TextS d
 | 0, _ => by
   intro t hs hn
   refine Ev.step' ?_; simp only [spec_l1Text.f]
   have h9 : t.n < 1000000000 := hs
   refine Ev.pos (by first | trivial | rfl) (Ev.bind (l13Dec_is t.n (by omega)) (Ev.val rfl))
 | d + 1, hd => by
   intro t hs hn
   refine Ev.step' ?_; simp only [spec_l1Text.f]
   exact Ev.neg (by omega) (textS_l0 d (by omega) (textS_is d (by omega)) t hs hn _ 0 rfl (by omega))

def TextA (d : Nat) : Prop := ∀ t, Sh d t → nodes d t ≤ 1000000000 → Ev (fun k => impl_arr_text.f k (cA d t).f0 (cA d t).f1 (d : Int)) (BA (text d t))
theorem textA_l0 (d : Nat) (hd : d ≤ 1000) (ih : TextA d) (t : Tr) (hs : Sh (d + 1) t) (hn : nodes (d + 1) t ≤ 1000000000) :
   ∀ (n i : Nat), t.parts.length - i = n → i ≤ t.parts.length → Ev (fun k => impl_arr_text.l0 k ((d + 1 : Nat) : Int) ((t.parts.take i).map fun x => BA (text d x)) (t.parts.map (cA d)) ((t.parts.map (cA d)).length : Int) (i : Int)) (BA (text (d + 1) t)) := by
 have hpl := parts_len d t
 have htl := text_le (d + 1) t hs
 have hte : (text (d + 1) t).length = (Lib.join (t.parts.map (text d)) [44]).length + 2 := by simp [text]
 intro n
 induction n with
 | zero =>
   intro i h hi
   refine Ev.step' ?_; simp only [impl_arr_text.l0]
   rw [List.take_of_length_le (by omega)]
   refine Ev.neg (by rw [List.length_map]; omega) ?_
   have hj : strings_Join.f (t.parts.map fun x => BA (text d x)) (⟨#[44]⟩ : ByteArray) = some (BA (Lib.join (t.parts.map (text d)) [44])) := by
     have e : (t.parts.map fun x => BA (text d x)).map (·.data.toList) = t.parts.map (text d) := by
       rw [List.map_map]
       apply List.map_congr_left
       intro x _
       exact data_BA _
     unfold strings_Join.f
     rw [e, if_pos (by rw [List.length_map]; omega), if_pos (by show (Lib.join (t.parts.map (text d)) [44]).length ≤ _; omega)]
     rfl
   refine Ev.call hj (Ev.pos (by simp; omega) (Ev.pos (by simp; omega) (Ev.val ?_)))
   show BA [91] ++ BA _ ++ BA [93] = _
   rw [BA_append, BA_append]
   rfl
 | succ n ihn =>
   intro i h hi
   have hlt : i < t.parts.length := by omega
   have hm : t.parts[i] ∈ t.parts := List.getElem_mem hlt
   have hx := ih t.parts[i] (hs _ hm) (by have := nodes_part (d := d) hm; omega)
   have hg : rd_T84 (t.parts.map (cA d)) (i : Int) = cA d t.parts[i] := getD_map _ _ _ _ hlt
   refine Ev.step' ?_; simp only [impl_arr_text.l0]
   refine Ev.pos (by rw [List.length_map]; omega) (Ev.pos (by omega) (Ev.pos (by rw [List.length_map]; omega) ?_))
   rw [hg, show wrap64 (((d + 1 : Nat) : Int) - 1) = (d : Int) by rw [wrapS (by omega) (by omega)]; omega, wrapS (a := (i : Int) + 1) (by omega) (by omega)]
   have hnext := ihn (i + 1) (by omega) (by omega)
   refine Ev.bind hx (Ev.pos (by rw [List.length_map, List.length_take]; omega) ?_)
   rw [take_snoc _ _ hlt, List.map_append] at hnext
   exact hnext
theorem textA_is : ∀ d, d ≤ 1000 → TextA d
 | 0, _ => by
   intro t hs hn
   refine Ev.step' ?_; simp only [impl_arr_text.f]
   have h9 : t.n < 1000000000 := hs
   have hi : strconv_Itoa.f (t.n : Int) = some (BA (Lib.decDigits t.n)) := by
     unfold strconv_Itoa.f
     rw [if_pos (by omega), if_pos (by omega), itoa_nat]
     rfl
   refine Ev.pos (by first | trivial | rfl) (Ev.call hi (Ev.val rfl))
 | d + 1, hd => by
   intro t hs hn
   refine Ev.step' ?_; simp only [impl_arr_text.f]
   exact Ev.neg (by omega) (textA_l0 d (by omega) (textA_is d (by omega)) t hs hn _ 0 rfl (by omega))

def told (l : By) : ByteArray × Bool := if l.length ≤ 400 then (BA l, true) else (BA [], false)
theorem nodes_le_text : ∀ (d : Nat) (t : Tr), nodes d t ≤ (text d t).length
 | 0, t => by
   have := List.length_pos_iff.2 (dec_ne t.n)
   exact this
 | d + 1, t => by
   have h := join_len2 (text d) (nodes d) t.parts (fun x _ => nodes_le_text d x)
   show 1 + _ ≤ (91 :: (Lib.join (t.parts.map (text d)) [44] ++ [93])).length
   simp
   omega
/-! ### plain -/
theorem join_mem (f : Tr → By) : ∀ (xs : List Tr) (x : Tr), x ∈ xs → (f x).length ≤ (Lib.join (xs.map f) [44]).length
 | [y], x, h => by
   obtain rfl := List.mem_singleton.1 h
   rw [List.map_cons, List.map_nil, join_one]
   exact Nat.le_refl _
 | y :: z :: l, x, h => by
   rw [List.map_cons, List.map_cons, join_cons, List.length_append, List.length_cons]
   rcases List.mem_cons.1 h with rfl | h
   · omega
   · have := join_mem f (z :: l) x h
     rw [List.map_cons] at this
     omega
theorem text_part {d : Nat} {t x : Tr} (h : x ∈ t.parts) : (text d x).length ≤ (text (d + 1) t).length := by
 have := join_mem (text d) t.parts x h
 show _ ≤ (91 :: (Lib.join (t.parts.map (text d)) [44] ++ [93])).length
 rw [List.length_cons, List.length_append]
 omega
theorem part_read {d : Nat} {t x : Tr} (ht : Ok (d + 1) t) (hl : (text (d + 1) t).length ≤ 400) (h : x ∈ t.parts) : readD d (text d x) = some x :=
 readD_text (ht.2 x h) (Nat.le_trans (text_part h) hl)
/-- The text of an array of parts. -/
def joined (ts : List By) : By := 91 :: (Lib.join ts [44] ++ [93])
theorem text_mk (d : Nat) (vs : List Tr) : text (d + 1) ⟨0, vs⟩ = joined (vs.map (text d)) := rfl
def allR (d : Nat) (ts : List By) : Bool := ts.all fun t => (readD d t).isSome
def vsOf (d : Nat) (ts : List By) : List Tr := ts.filterMap (readD d)
theorem vsOf_text {d : Nat} : ∀ {ts : List By}, allR d ts = true → (vsOf d ts).map (text d) = ts
 | [], _ => rfl
 | t :: ts, h => by
   simp only [allR, List.all_cons, Bool.and_eq_true] at h
   obtain ⟨v, hv⟩ := Option.isSome_iff_exists.1 h.1
   have ih := vsOf_text (ts := ts) h.2
   rw [vsOf, List.filterMap_cons, hv]
   show text d v :: (vsOf d ts).map (text d) = _
   rw [ih, ← (readD_ok hv).1]
theorem vsOf_ok {d : Nat} {ts : List By} {x : Tr} (h : x ∈ vsOf d ts) : Ok d x ∧ (text d x).length ≤ 400 := by
 obtain ⟨t, _, ht⟩ := List.mem_filterMap.1 h
 obtain ⟨h1, h2, h3⟩ := readD_ok ht
 exact ⟨h2, by rw [← h1]; exact h3⟩
theorem vsOf_map {d : Nat} : ∀ {vs : List Tr}, (∀ x ∈ vs, readD d (text d x) = some x) → allR d (vs.map (text d)) = true ∧ vsOf d (vs.map (text d)) = vs
 | [], _ => ⟨rfl, rfl⟩
 | x :: vs, h => by
   have h1 := h x (by simp)
   obtain ⟨h2, h3⟩ := vsOf_map (vs := vs) (fun y hy => h y (List.mem_cons_of_mem _ hy))
   constructor
   · simp only [allR, List.map_cons, List.all_cons, h1, Option.isSome_some, Bool.true_and]
     exact h2
   · rw [vsOf, List.map_cons, List.filterMap_cons, h1]
     show x :: vsOf d _ = _
     rw [h3]
theorem mk_ok {d : Nat} {vs : List Tr} (h : ∀ x ∈ vs, Ok d x) : Ok (d + 1) ⟨0, vs⟩ := ⟨rfl, h⟩
theorem mk_nodes {d : Nat} {vs : List Tr} (h : ∀ x ∈ vs, (text d x).length ≤ 400) (hv : vs.length ≤ 1000000) : nodes (d + 1) ⟨0, vs⟩ ≤ 1000000000 := by
 have : ∀ xs : List Tr, (∀ x ∈ xs, (text d x).length ≤ 400) → (xs.map (nodes d)).sum ≤ xs.length * 400 := by
   intro xs
   induction xs with
   | nil => intro _; simp
   | cons x l ih =>
     intro h
     have h1 := h x (by simp)
     have h2 := ih (fun y hy => h y (List.mem_cons_of_mem _ hy))
     have h3 := nodes_le_text d x
     rw [List.map_cons, List.sum_cons, List.length_cons, Nat.add_mul]
     omega
 have h1 := this vs h
 show 1 + (vs.map (nodes d)).sum ≤ _
 have h2 := Nat.mul_le_mul_right 400 hv
 omega
/-- What an array of parts is told as. -/
def makeR (d : Nat) (ts : List By) : ByteArray × Bool := if allR d ts = true then told (joined ts) else (BA [], false)
theorem makeR_map {d : Nat} {vs : List Tr} (h : ∀ x ∈ vs, readD d (text d x) = some x) : makeR d (vs.map (text d)) = told (text (d + 1) ⟨0, vs⟩) := by
 rw [makeR, if_pos (vsOf_map h).1, text_mk]
theorem makeR_parts {d : Nat} {l : By} {v : Tr} (h : readD (d + 1) l = some v) : makeR d (v.parts.map (text d)) = (BA l, true) := by
 obtain ⟨h1, h2, h3⟩ := readD_ok h
 have h4 : (⟨0, v.parts⟩ : Tr) = v := by
   have := h2.1
   cases v
   simp only at this
   subst this
   rfl
 rw [makeR_map (fun x hx => part_read h2 (by rw [← h1]; exact h3) hx), h4, ← h1, told, if_pos h3]
/-- The parts of an array, as the document says. -/
def partsR (d : Nat) (l : By) : Option (List By) := (readD (d + 1) l).map fun v => v.parts.map (text d)
theorem makeR_read {d : Nat} {ts : List By} {m : ByteArray} (h : makeR d ts = (m, true)) : m = BA (joined ts) ∧ partsR d (joined ts) = some ts := by
 unfold makeR told at h
 split at h
 · next ha =>
   split at h
   · next hl =>
     simp only [Prod.mk.injEq, and_true] at h
     refine ⟨h.symm, ?_⟩
     have e := vsOf_text ha
     have e2 : joined ts = text (d + 1) ⟨0, vsOf d ts⟩ := by rw [text_mk, e]
     rw [partsR, e2, readD_text (mk_ok (fun x hx => (vsOf_ok hx).1)) (by rw [← e2]; exact hl)]
     exact congrArg some e
   · cases h
 · cases h
def resP : Option (List By) → List ByteArray × Bool
 | none => ([], false)
 | some ts => (ts.map BA, true)

/-! ### PartsOf -/
theorem partsA_l0 (d : Nat) (hd : d ≤ 2) (t : Tr) (hs : Sh (d + 1) t) (hn : nodes (d + 1) t ≤ 1000000000) :
   ∀ (n i : Nat), t.parts.length - i = n → i ≤ t.parts.length → Ev (fun k => impl_PartsOf.l0 k ((d + 1 : Nat) : Int) ((t.parts.take i).map fun x => BA (text d x)) (t.parts.map (cA d)) ((t.parts.map (cA d)).length : Int) (i : Int)) (t.parts.map (fun x => BA (text d x)), true) := by
 have hpl := parts_len d t
 intro n
 induction n with
 | zero =>
   intro i h hi
   refine Ev.step' ?_; simp only [impl_PartsOf.l0]
   rw [List.take_of_length_le (by omega)]
   exact Ev.neg (by rw [List.length_map]; omega) (Ev.val rfl)
 | succ n ihn =>
   intro i h hi
   have hlt : i < t.parts.length := by omega
   have hm : t.parts[i] ∈ t.parts := List.getElem_mem hlt
   have hx := textA_is d (by omega) t.parts[i] (hs _ hm) (by have := nodes_part (d := d) hm; omega)
   have hg : rd_T84 (t.parts.map (cA d)) (i : Int) = cA d t.parts[i] := getD_map _ _ _ _ hlt
   have hnext := ihn (i + 1) (by omega) (by omega)
   rw [take_snoc _ _ hlt, List.map_append] at hnext
   refine Ev.step' ?_; simp only [impl_PartsOf.l0]
   refine Ev.pos (by rw [List.length_map]; omega) (Ev.pos (by omega) (Ev.pos (by rw [List.length_map]; omega) ?_))
   rw [hg, show wrap64 (((d + 1 : Nat) : Int) - 1) = (d : Int) by rw [wrapS (by omega) (by omega)]; omega, wrapS (a := (i : Int) + 1) (by omega) (by omega)]
   exact Ev.bind hx (Ev.pos (by rw [List.length_map, List.length_take]; omega) hnext)
theorem map_BA (d : Nat) (xs : List Tr) : (xs.map fun x => BA (text d x)) = (xs.map (text d)).map BA := by rw [List.map_map]; rfl
theorem partsA_bad (x1 : Int) (m : Int) (ps : List NA) : Ev (fun k => impl_PartsOf.j0 k x1 true m ps) (([] : List ByteArray), false) := by
 refine Ev.step' ?_; simp only [impl_PartsOf.j0]
 exact Ev.pos (by first | trivial | rfl) (Ev.now _)
theorem partsA_is (d : Nat) (hd : d ≤ 2) (l : By) : Ev (fun k => impl_PartsOf.f k (BA l) ((d + 1 : Nat) : Int)) (resP (partsR d l)) := by
 obtain ⟨t, h1, h2, h3, h4⟩ := arrOf_is (d + 1) (by omega) l
 unfold impl_PartsOf.f partsR
 refine Ev.bind h1 ?_
 cases hq : readD (d + 1) l with
 | none => exact Ev.neg (by simp) (partsA_bad _ _ _)
 | some v =>
   obtain rfl := h4 v hq
   refine Ev.pos (by first | trivial | rfl) ?_
   rw [show (((d + 1 : Nat) : Int) == 0) = false by simp; omega]
   refine Ev.step' ?_; simp only [impl_PartsOf.j0]
   have := partsA_l0 d hd t (Sh.of h2) (by have := nodes_le_text (d + 1) t; omega) _ 0 rfl (by omega)
   rw [map_BA d t.parts] at this
   exact Ev.neg (by simp) this
theorem partsA_out (dp : Int) (h : dp < 1 ∨ 3 < dp) (l : By) : Ev (fun k => impl_PartsOf.f k (BA l) dp) (([] : List ByteArray), false) := by
 unfold impl_PartsOf.f
 by_cases h0 : dp = 0
 · subst h0
   obtain ⟨t, h1, h2, h3, h4⟩ := arrOf_is 0 (by omega) l
   refine Ev.bind h1 ?_
   cases hq : readD 0 l with
   | none => exact Ev.neg (by simp) (partsA_bad _ _ _)
   | some v => exact Ev.pos (by first | trivial | rfl) (partsA_bad _ _ _)
 · exact Ev.bind (arrOf_out dp (by omega) _) (Ev.neg (by simp) (partsA_bad _ _ _))
/-! ### LengthOf -/
def lenR : Option (List By) → Int
 | none => -1
 | some ts => (ts.length : Int)
theorem lenA_is (d : Nat) (hd : d ≤ 2) (l : By) : Ev (fun k => impl_LengthOf.f k (BA l) ((d + 1 : Nat) : Int)) (lenR (partsR d l)) := by
 have h := partsA_is d hd l
 unfold impl_LengthOf.f
 cases hp : partsR d l with
 | none =>
   rw [hp] at h
   exact Ev.bind h (Ev.neg (by simp [resP]) (Ev.now _))
 | some ts =>
   rw [hp] at h
   refine Ev.bind h (Ev.pos (by first | trivial | rfl) (Ev.val ?_))
   show ((ts.map BA).length : Int) = _
   rw [List.length_map]
   rfl
theorem lenA_out (dp : Int) (h : dp < 1 ∨ 3 < dp) (l : By) : Ev (fun k => impl_LengthOf.f k (BA l) dp) (-1) := by
 unfold impl_LengthOf.f
 exact Ev.bind (partsA_out dp h l) (Ev.neg (by simp) (Ev.now _))
theorem rdOf_at {ts : List By} {i : Nat} (h : i < ts.length) : rdOf ByteArray.empty (ts.map BA) (i : Int) = BA ts[i] := by
 unfold rdOf
 rw [Int.toNat_natCast, List.getD_eq_getElem?_getD, List.getElem?_map, List.getElem?_eq_getElem h]
 rfl
theorem allR_snoc {d : Nat} {ts : List By} {i : Nat} (h : i < ts.length) : allR d (ts.take (i + 1)) = (allR d (ts.take i) && (readD d ts[i]).isSome) := by
 rw [allR, take_snoc _ _ h, List.all_append]
 simp [allR]
theorem allR_at {d : Nat} {ts : List By} {i : Nat} (h : i < ts.length) (hn : (readD d ts[i]).isSome = false) : allR d ts = false := by
 by_cases ha : allR d ts = true
 · have := List.all_eq_true.1 ha ts[i] (List.getElem_mem h)
   rw [hn] at this
   cases this
 · simpa using ha
theorem join_bound : ∀ (ts : List By), (∀ t ∈ ts, t.length ≤ 400) → (Lib.join ts [44]).length ≤ ts.length * 401
 | [], _ => by simp [join_nil]
 | [x], h => by
   have := h x (by simp)
   rw [join_one]
   simp
   omega
 | x :: y :: l, h => by
   have h1 := h x (by simp)
   have h2 := join_bound (y :: l) (fun z hz => h z (List.mem_cons_of_mem _ hz))
   rw [join_cons, List.length_append, List.length_cons, List.length_cons, Nat.add_mul]
   omega
theorem allR_len {d : Nat} {ts : List By} (h : allR d ts = true) : ∀ t ∈ ts, t.length ≤ 400 := by
 intro t ht
 obtain ⟨v, hv⟩ := Option.isSome_iff_exists.1 (List.all_eq_true.1 h t ht)
 exact (readD_ok hv).2.2
theorem join_call {ts : List By} (hl : ts.length ≤ 1000000) (h : ∀ t ∈ ts, t.length ≤ 400) : strings_Join.f (ts.map BA) (⟨#[44]⟩ : ByteArray) = some (BA (Lib.join ts [44])) := by
 have e : (ts.map BA).map (·.data.toList) = ts := by
   rw [List.map_map]
   conv => rhs; rw [← List.map_id ts]
   apply List.map_congr_left
   intro x _
   exact data_BA _
 have h1 := join_bound ts h
 have h2 := Nat.mul_le_mul_right 401 hl
 unfold strings_Join.f
 rw [e, if_pos (by rw [List.length_map]; omega), if_pos (by show (Lib.join ts [44]).length ≤ _; omega)]
 rfl
theorem validA_is (d : Nat) (hd : d ≤ 3) (l : By) : Ev (fun k => impl_ArrayValid.f k (BA l) (d : Int)) (readD d l).isSome := by
 obtain ⟨t, h1, _⟩ := arrOf_is d hd l
 unfold impl_ArrayValid.f
 exact Ev.bind h1 (Ev.now _)
theorem validA_out (dp : Int) (h : dp < 0 ∨ 3 < dp) (s : ByteArray) : Ev (fun k => impl_ArrayValid.f k s dp) false := by
 unfold impl_ArrayValid.f
 exact Ev.bind (arrOf_out dp h s) (Ev.now _)
theorem joined_is (ts : List By) : ((⟨#[91]⟩ : ByteArray) ++ BA (Lib.join ts [44])) ++ (⟨#[93]⟩ : ByteArray) = BA (joined ts) := by
 show (BA [91] ++ BA _) ++ BA [93] = _
 rw [BA_append, BA_append]
 rfl
theorem makeA_l0 (d : Nat) (hd : d ≤ 2) (ts : List By) (hl : ts.length ≤ 1000000) : ∀ (n i : Nat), ts.length - i = n → i ≤ ts.length → allR d (ts.take i) = true →
   Ev (fun k => impl_MakeArray.l0 k (ts.map BA) ((d + 1 : Nat) : Int) (ts.map BA) ((ts.map BA).length : Int) (i : Int)) (makeR d ts) := by
 intro n
 induction n with
 | zero =>
   intro i h hi ha
   rw [List.take_of_length_le (by omega)] at ha
   have hj := allR_len ha
   have h1 := join_bound ts hj
   have h2 := Nat.mul_le_mul_right 401 hl
   have h3 : (joined ts).length = (Lib.join ts [44]).length + 2 := by simp [joined]
   refine Ev.step' ?_; simp only [impl_MakeArray.l0]
   refine Ev.neg (by rw [List.length_map]; omega) (Ev.call (join_call hl hj) ?_)
   rw [joined_is, makeR, if_pos ha, told]
   refine Ev.pos (by rw [BA_size]; omega) (Ev.pos (by rw [BA_size]; omega) ?_)
   by_cases h4 : (joined ts).length ≤ 400
   · rw [if_pos h4]
     exact Ev.neg (by rw [BA_size]; omega) (Ev.now _)
   · rw [if_neg h4]
     exact Ev.pos (by rw [BA_size]; omega) (Ev.now _)
 | succ n ihn =>
   intro i h hi ha
   have hlt : i < ts.length := by omega
   have hv := validA_is d (by omega) ts[i]
   refine Ev.step' ?_; simp only [impl_MakeArray.l0]
   refine Ev.pos (by rw [List.length_map]; omega) (Ev.pos (by omega) (Ev.pos (by rw [List.length_map]; omega) ?_))
   rw [rdOf_at hlt, show wrap64 (((d + 1 : Nat) : Int) - 1) = (d : Int) by rw [wrapS (by omega) (by omega)]; omega, wrapS (a := (i : Int) + 1) (by omega) (by omega)]
   refine Ev.bind hv ?_
   by_cases hs : (readD d ts[i]).isSome = true
   · exact Ev.pos hs (ihn (i + 1) (by omega) (by omega) (by rw [allR_snoc hlt, ha, hs]; rfl))
   · refine Ev.neg hs (Ev.val ?_)
     rw [makeR, if_neg (by rw [allR_at hlt (by simpa using hs)]; simp)]
     rfl
theorem makeA_is (d : Nat) (hd : d ≤ 2) (ts : List By) (hl : ts.length ≤ 1000000) : Ev (fun k => impl_MakeArray.f k (ts.map BA) ((d + 1 : Nat) : Int)) (makeR d ts) := by
 unfold impl_MakeArray.f
 refine Ev.neg (by omega) ?_
 rw [show decide (((d + 1 : Nat) : Int) > 3) = false by rw [decide_eq_false_iff_not]; omega]
 refine Ev.step' ?_; simp only [impl_MakeArray.j0]
 exact Ev.neg (by simp) (makeA_l0 d hd ts hl _ 0 rfl (by omega) rfl)
theorem makeA_out (dp : Int) (h : dp < 1 ∨ 3 < dp) (xs : List ByteArray) : Ev (fun k => impl_MakeArray.f k xs dp) (BA [], false) := by
 have hbad : Ev (fun k => impl_MakeArray.j0 k xs dp true) (BA [], false) := by
   refine Ev.step' ?_; simp only [impl_MakeArray.j0]
   exact Ev.pos (by first | trivial | rfl) (Ev.now _)
 unfold impl_MakeArray.f
 by_cases h1 : dp < 1
 · exact Ev.pos h1 hbad
 · refine Ev.neg h1 ?_
   rw [show decide (dp > 3) = true by rw [decide_eq_true_iff]; omega]
   exact hbad
/-- Parts whose array's text is not too long. -/
def Fit (d : Nat) (vs : List Tr) : Prop := (∀ x ∈ vs, Ok d x) ∧ (text (d + 1) ⟨0, vs⟩).length ≤ 400
theorem fit_read {d : Nat} {vs : List Tr} (h : Fit d vs) : readD (d + 1) (text (d + 1) ⟨0, vs⟩) = some ⟨0, vs⟩ := readD_text (mk_ok h.1) h.2
theorem read_fit {d : Nat} {l : By} {v : Tr} (h : readD (d + 1) l = some v) : ∃ vs, v = ⟨0, vs⟩ ∧ l = text (d + 1) ⟨0, vs⟩ ∧ Fit d vs := by
 obtain ⟨h1, h2, h3⟩ := readD_ok h
 obtain ⟨n, vs⟩ := v
 obtain rfl : n = 0 := h2.1
 exact ⟨vs, rfl, h1, h2.2, by rw [← h1]; exact h3⟩
theorem fit_parts {d : Nat} {vs : List Tr} (h : Fit d vs) : partsR d (text (d + 1) ⟨0, vs⟩) = some (vs.map (text d)) := by
 rw [partsR, fit_read h]
 rfl
theorem fit_part {d : Nat} {vs : List Tr} (h : Fit d vs) {x : Tr} (hx : x ∈ vs) : readD d (text d x) = some x := part_read (t := ⟨0, vs⟩) (mk_ok h.1) h.2 hx
theorem fit_len {d : Nat} {vs : List Tr} (h : Fit d vs) : vs.length ≤ 400 := by
 have h1 := parts_len d ⟨0, vs⟩
 have h2 := nodes_le_text (d + 1) ⟨0, vs⟩
 have h3 := h.2
 simp only at h1
 omega
theorem join_len1 : ∀ (x : By) (xs : List By), (Lib.join (x :: xs) [44]).length + 1 = ((x :: xs).map (fun y => y.length + 1)).sum
 | x, [] => by rw [join_one]; simp
 | x, y :: l => by
   have := join_len1 y l
   rw [join_cons, List.length_append, List.length_cons, List.map_cons, List.sum_cons, ← this]
   omega
theorem sum_rev : ∀ (l : List Nat), l.reverse.sum = l.sum
 | [] => rfl
 | x :: l => by rw [List.reverse_cons, List.sum_append, sum_rev l, List.sum_cons]; simp; omega
theorem join_rev (ts : List By) : (Lib.join ts.reverse [44]).length = (Lib.join ts [44]).length := by
 cases ts with
 | nil => rfl
 | cons x xs =>
   have h1 := join_len1 x xs
   obtain ⟨y, ys, hy⟩ : ∃ y ys, (x :: xs).reverse = y :: ys := by
     cases h : (x :: xs).reverse with
     | nil => simp at h
     | cons y ys => exact ⟨y, ys, rfl⟩
   have h2 := join_len1 y ys
   rw [← hy] at h2
   rw [List.map_reverse, sum_rev] at h2
   omega
theorem text_rev (d : Nat) (vs : List Tr) : (text (d + 1) ⟨0, vs.reverse⟩).length = (text (d + 1) ⟨0, vs⟩).length := by
 rw [text_mk, text_mk, List.map_reverse, joined, joined, List.length_cons, List.length_cons, List.length_append, List.length_append, join_rev]
theorem fit_rev {d : Nat} {vs : List Tr} (h : Fit d vs) : Fit d vs.reverse := ⟨fun x hx => h.1 x (List.mem_reverse.1 hx), by rw [text_rev]; exact h.2⟩
theorem fit_make {d : Nat} {vs : List Tr} (h : Fit d vs) : makeR d (vs.map (text d)) = (BA (text (d + 1) ⟨0, vs⟩), true) := by
 rw [makeR_map (fun x hx => fit_part h hx), told, if_pos h.2]
theorem partsA_fit {d : Nat} (hd : d ≤ 2) {vs : List Tr} (h : Fit d vs) : Ev (fun k => impl_PartsOf.f k (BA (text (d + 1) ⟨0, vs⟩)) ((d + 1 : Nat) : Int)) ((vs.map (text d)).map BA, true) := by
 have := partsA_is d hd (text (d + 1) ⟨0, vs⟩)
 rw [fit_parts h] at this
 exact this
theorem lenA_fit {d : Nat} (hd : d ≤ 2) {vs : List Tr} (h : Fit d vs) : Ev (fun k => impl_LengthOf.f k (BA (text (d + 1) ⟨0, vs⟩)) ((d + 1 : Nat) : Int)) (vs.length : Int) := by
 have := lenA_is d hd (text (d + 1) ⟨0, vs⟩)
 rw [fit_parts h, lenR, List.length_map] at this
 exact this
abbrev ints (l : List Nat) : List Int := l.map (fun n : Nat => (n : Int))
theorem nums_le : ∀ (d : Nat) (t : Tr), (Q.nums d t).length ≤ nodes d t
 | 0, t => Nat.le_refl _
 | d + 1, t => by
   show ((t.parts.map (Q.nums d)).flatten).length ≤ 1 + (t.parts.map (nodes d)).sum
   have : ∀ xs : List Tr, ((xs.map (Q.nums d)).flatten).length ≤ (xs.map (nodes d)).sum := by
     intro xs
     induction xs with
     | nil => exact Nat.le_refl _
     | cons x l ih =>
       have := nums_le d x
       rw [List.map_cons, List.flatten_cons, List.length_append, List.map_cons, List.sum_cons]
       omega
   have := this t.parts
   omega
theorem flat_take_le (f : Tr → List Nat) (xs : List Tr) (i : Nat) : (((xs.take i).map f).flatten).length ≤ ((xs.map f).flatten).length := by
 conv => rhs; rw [← List.take_append_drop i xs, List.map_append, List.flatten_append, List.length_append]
 omega
theorem flat_snoc (f : Tr → List Nat) (xs : List Tr) (i : Nat) (h : i < xs.length) : ((xs.take (i + 1)).map f).flatten = ((xs.take i).map f).flatten ++ f xs[i] := by
 rw [take_snoc _ _ h, List.map_append, List.flatten_append]
 simp
theorem shortA_is (d : Nat) (hd : d ≤ 1000) (t : Tr) (hs : Sh d t) (hn : nodes d t ≤ 1000000000) : Ev (fun k => impl_arr_short.f k (cA d t).f0 (cA d t).f1 (d : Int)) (told (text d t)) := by
 unfold impl_arr_short.f told
 refine Ev.bind (textA_is d hd t hs hn) ?_
 by_cases h : (text d t).length ≤ 400
 · rw [if_pos h]
   exact Ev.neg (by rw [BA_size]; omega) (Ev.now _)
 · rw [if_neg h]
   exact Ev.pos (by rw [BA_size]; omega) (Ev.now _)
def fl (vs : List Tr) : List Tr := (vs.map (fun x => x.parts)).flatten
theorem join_S : ∀ (L : List By), (Lib.join L [44]).length = (L.map (fun y => y.length + 1)).sum - 1
 | [] => rfl
 | x :: xs => by
   have := join_len1 x xs
   omega
theorem sum_flat : ∀ (R : List (List By)), (R.flatten.map (fun y => y.length + 1)).sum ≤ ((R.map joined).map (fun y => y.length + 1)).sum
 | [] => Nat.le_refl _
 | r :: R => by
   have h1 := sum_flat R
   have h2 := join_S r
   have h3 : (joined r).length = (Lib.join r [44]).length + 2 := by simp [joined]
   rw [List.flatten_cons, List.map_append, List.sum_append, List.map_cons, List.map_cons, List.sum_cons]
   omega
theorem fl_text (d : Nat) (vs : List Tr) : (fl vs).map (text d) = (vs.map (fun x => x.parts.map (text d))).flatten := by
 rw [fl, List.map_flatten, List.map_map]
 rfl
theorem fl_le (d : Nat) (vs : List Tr) : (text (d + 1) ⟨0, fl vs⟩).length ≤ (text (d + 2) ⟨0, vs⟩).length := by
 have e : vs.map (text (d + 1)) = (vs.map (fun x => x.parts.map (text d))).map joined := by
   rw [List.map_map]
   rfl
 have h1 := join_S ((fl vs).map (text d))
 have h2 := join_S (vs.map (text (d + 1)))
 have h3 := sum_flat (vs.map (fun x => x.parts.map (text d)))
 rw [← fl_text, ← e] at h3
 rw [text_mk, text_mk (d + 1), joined, joined, List.length_cons, List.length_cons, List.length_append, List.length_append]
 omega
theorem fit_fl {d : Nat} {vs : List Tr} (h : Fit (d + 1) vs) : Fit d (fl vs) := by
 refine ⟨fun x hx => ?_, Nat.le_trans (fl_le d vs) h.2⟩
 obtain ⟨l, hl, hxl⟩ := List.mem_flatten.1 hx
 obtain ⟨y, hy, rfl⟩ := List.mem_map.1 hl
 exact (h.1 y hy).2 x hxl
theorem fl_nums (d : Nat) : ∀ (vs : List Tr), Q.nums (d + 2) ⟨0, vs⟩ = Q.nums (d + 1) ⟨0, fl vs⟩
 | [] => rfl
 | x :: vs => by
   have ih := fl_nums d vs
   show Q.nums (d + 1) x ++ Q.nums (d + 2) ⟨0, vs⟩ = ((x.parts ++ fl vs).map (Q.nums d)).flatten
   rw [ih, List.map_append, List.flatten_append]
   rfl
theorem fl_snoc (vs : List Tr) (i : Nat) (h : i < vs.length) : fl (vs.take (i + 1)) = fl (vs.take i) ++ vs[i].parts := by
 rw [fl, take_snoc _ _ h, List.map_append, List.flatten_append]
 simp [fl]
theorem fl_take_le (vs : List Tr) (i : Nat) : (fl (vs.take i)).length ≤ (fl vs).length := by
 conv => rhs; rw [fl, ← List.take_append_drop i vs, List.map_append, List.flatten_append, List.length_append]
 exact Nat.le_add_right _ _
theorem fit_nodes {d : Nat} {vs : List Tr} (h : Fit d vs) : Sh (d + 1) ⟨0, vs⟩ ∧ nodes (d + 1) ⟨0, vs⟩ ≤ 1000000000 := by
 have := nodes_le_text (d + 1) ⟨0, vs⟩
 have := h.2
 exact ⟨Sh.of (mk_ok h.1), by omega⟩
theorem flatA_l0 {d : Nat} (hd : d ≤ 1) {vs : List Tr} (h : Fit (d + 1) vs) : ∀ (n i : Nat), vs.length - i = n → i ≤ vs.length →
   Ev (fun k => impl_FlattenOnce.l0 k ((d + 1 + 1 : Nat) : Int) (vs.map (cA (d + 1))) ((vs.map (cA (d + 1))).length : Int) (i : Int) 0 ((fl (vs.take i)).map (cA d))) (BA (text (d + 1) ⟨0, fl vs⟩), true) := by
 have hl := fit_len h
 have hf := fit_fl h
 have hfl := fit_len hf
 obtain ⟨s1, s2⟩ := fit_nodes hf
 have hs := shortA_is (d + 1) (by omega) ⟨0, fl vs⟩ s1 s2
 rw [told, if_pos hf.2] at hs
 intro n
 induction n with
 | zero =>
   intro i hn hi
   refine Ev.step' ?_; simp only [impl_FlattenOnce.l0]
   rw [List.take_of_length_le (by omega), show wrap64 (((d + 1 + 1 : Nat) : Int) - 1) = ((d + 1 : Nat) : Int) by rw [wrapS (by omega) (by omega)]; omega]
   exact Ev.neg (by rw [List.length_map]; omega) (Ev.bind hs (Ev.now _))
 | succ n ihn =>
   intro i hn hi
   have hlt : i < vs.length := by omega
   have hg : rd_T84 (vs.map (cA (d + 1))) (i : Int) = cA (d + 1) vs[i] := getD_map _ _ _ _ hlt
   have hnext := ihn (i + 1) (by omega) (by omega)
   have htk := fl_take_le vs (i + 1)
   rw [fl_snoc vs i hlt, List.length_append] at htk
   rw [fl_snoc vs i hlt, List.map_append] at hnext
   refine Ev.step' ?_; simp only [impl_FlattenOnce.l0]
   refine Ev.pos (by rw [List.length_map]; omega) (Ev.pos (by omega) (Ev.pos (by rw [List.length_map]; omega) ?_))
   rw [hg, wrapS (a := (i : Int) + 1) (by omega) (by omega)]
   refine Ev.pos ?_ hnext
   show ((fl (vs.take i)).map (cA d)).length + (vs[i].parts.map (cA d)).length < _
   rw [List.length_map, List.length_map]
   omega
theorem flatA_fit {d : Nat} (hd : d ≤ 1) {vs : List Tr} (h : Fit (d + 1) vs) : Ev (fun k => impl_FlattenOnce.f k (BA (text (d + 2) ⟨0, vs⟩)) ((d + 1 + 1 : Nat) : Int)) (BA (text (d + 1) ⟨0, fl vs⟩), true) := by
 obtain ⟨t, h1, h2, h3, h4⟩ := arrOf_is (d + 1 + 1) (by omega) (text (d + 2) ⟨0, vs⟩)
 obtain rfl := h4 _ (fit_read h)
 rw [fit_read h] at h1
 unfold impl_FlattenOnce.f
 refine Ev.bind h1 (Ev.pos rfl ?_)
 rw [show decide (((d + 1 + 1 : Nat) : Int) < 2) = false by rw [decide_eq_false_iff_not]; omega]
 refine Ev.step' ?_; simp only [impl_FlattenOnce.j0]
 exact Ev.neg (by simp) (flatA_l0 hd h _ 0 rfl (by omega))
theorem flatA_bad (x1 m : Int) (ps : List NA) : Ev (fun k => impl_FlattenOnce.j0 k x1 true m ps) (BA [], false) := by
 refine Ev.step' ?_; simp only [impl_FlattenOnce.j0]
 exact Ev.pos (by first | trivial | rfl) (Ev.now _)
theorem flatA_none {d : Nat} (hd : d ≤ 3) {l : By} (h : readD d l = none ∨ d < 2) : Ev (fun k => impl_FlattenOnce.f k (BA l) (d : Int)) (BA [], false) := by
 obtain ⟨t, h1, h2, h3, h4⟩ := arrOf_is d hd l
 unfold impl_FlattenOnce.f
 refine Ev.bind h1 ?_
 cases hq : readD d l with
 | none => exact Ev.neg (by simp) (flatA_bad _ _ _)
 | some v =>
   rcases h with h | h
   · rw [h] at hq; cases hq
   · refine Ev.pos rfl ?_
     rw [show decide ((d : Int) < 2) = true by rw [decide_eq_true_iff]; omega]
     exact flatA_bad _ _ _
theorem flatA_out (dp : Int) (h : dp < 0 ∨ 3 < dp) (l : By) : Ev (fun k => impl_FlattenOnce.f k (BA l) dp) (BA [], false) := by
 unfold impl_FlattenOnce.f
 exact Ev.bind (arrOf_out dp h _) (Ev.neg (by simp) (flatA_bad _ _ _))
theorem flatS_l0 {d : Nat} (hd : d ≤ 1) {vs : List Tr} (h : Fit (d + 1) vs) : ∀ (n i : Nat), vs.length - i = n → i ≤ vs.length →
   Ev (fun k => spec_FlattenOnce.l0 k ((d + 1 + 1 : Nat) : Int) (vs.map (cS (d + 1))) ((vs.map (cS (d + 1))).length : Int) (i : Int) 0 ((fl (vs.take i)).map (cS d))) (BA (text (d + 1) ⟨0, fl vs⟩), true) := by
 have hl := fit_len h
 have hf := fit_fl h
 have hfl := fit_len hf
 obtain ⟨s1, s2⟩ := fit_nodes hf
 have hs := textS_is (d + 1) (by omega) ⟨0, fl vs⟩ s1 s2
 intro n
 induction n with
 | zero =>
   intro i hn hi
   refine Ev.step' ?_; simp only [spec_FlattenOnce.l0]
   rw [List.take_of_length_le (by omega), show wrap64 (((d + 1 + 1 : Nat) : Int) - 1) = ((d + 1 : Nat) : Int) by rw [wrapS (by omega) (by omega)]; omega]
   exact Ev.neg (by rw [List.length_map]; omega) (Ev.bind hs (Ev.now _))
 | succ n ihn =>
   intro i hn hi
   have hlt : i < vs.length := by omega
   have hg : rd_T95 (vs.map (cS (d + 1))) (i : Int) = cS (d + 1) vs[i] := getD_map _ _ _ _ hlt
   have hnext := ihn (i + 1) (by omega) (by omega)
   have htk := fl_take_le vs (i + 1)
   rw [fl_snoc vs i hlt, List.length_append] at htk
   rw [fl_snoc vs i hlt, List.map_append] at hnext
   refine Ev.step' ?_; simp only [spec_FlattenOnce.l0]
   refine Ev.pos (by rw [List.length_map]; omega) (Ev.pos (by omega) (Ev.pos (by rw [List.length_map]; omega) ?_))
   rw [hg, wrapS (a := (i : Int) + 1) (by omega) (by omega)]
   refine Ev.pos ?_ hnext
   show ((fl (vs.take i)).map (cS d)).length + (vs[i].parts.map (cS d)).length < _
   rw [List.length_map, List.length_map]
   omega
theorem flatS_fit {d : Nat} (hd : d ≤ 1) {vs : List Tr} (h : Fit (d + 1) vs) : Ev (fun k => spec_FlattenOnce.f k (BA (text (d + 2) ⟨0, vs⟩)) ((d + 1 + 1 : Nat) : Int)) (BA (text (d + 1) ⟨0, fl vs⟩), true) := by
 have h1 := l1Read_is (d + 1 + 1) (by omega) (text (d + 2) ⟨0, vs⟩)
 rw [fit_read h] at h1
 unfold spec_FlattenOnce.f
 refine Ev.bind h1 (Ev.pos rfl ?_)
 rw [show decide (((d + 1 + 1 : Nat) : Int) < 2) = false by rw [decide_eq_false_iff_not]; omega]
 refine Ev.step' ?_; simp only [spec_FlattenOnce.j0]
 exact Ev.neg (by simp) (flatS_l0 hd h _ 0 rfl (by omega))
theorem flatS_bad (x1 m : Int) (ps : List NS) : Ev (fun k => spec_FlattenOnce.j0 k x1 true m ps) (BA [], false) := by
 refine Ev.step' ?_; simp only [spec_FlattenOnce.j0]
 exact Ev.pos (by first | trivial | rfl) (Ev.now _)
theorem flatS_none {d : Nat} (hd : d ≤ 3) {l : By} (h : readD d l = none ∨ d < 2) : Ev (fun k => spec_FlattenOnce.f k (BA l) (d : Int)) (BA [], false) := by
 have h1 := l1Read_is d hd l
 unfold spec_FlattenOnce.f
 refine Ev.bind h1 ?_
 cases hq : readD d l with
 | none => exact Ev.neg (by simp [resS]) (flatS_bad _ _ _)
 | some v =>
   rcases h with h | h
   · rw [h] at hq; cases hq
   · refine Ev.pos rfl ?_
     rw [show decide ((d : Int) < 2) = true by rw [decide_eq_true_iff]; omega]
     exact flatS_bad _ _ _
theorem flatS_out (dp : Int) (h : dp < 0 ∨ 3 < dp) (l : By) : Ev (fun k => spec_FlattenOnce.f k (BA l) dp) (BA [], false) := by
 unfold spec_FlattenOnce.f
 exact Ev.bind (l1Read_out dp h _) (Ev.neg (by simp) (flatS_bad _ _ _))
theorem turnS_l0 {d : Nat} (hd : d ≤ 2) {vs : List Tr} (h : Fit d vs) : ∀ (j : Nat), j ≤ vs.length →
   Ev (fun k => spec_TurnArray.l0 k ((d + 1 : Nat) : Int) ((j : Int) - 1) 0 (vs.map (cS d)) 0 (((vs.drop j).reverse).map (cS d))) (BA (text (d + 1) ⟨0, vs.reverse⟩), true) := by
 have hl := fit_len h
 obtain ⟨s1, s2⟩ := fit_nodes (fit_rev h)
 have hs := textS_is (d + 1) (by omega) ⟨0, vs.reverse⟩ s1 s2
 intro j
 induction j with
 | zero =>
   intro hj
   refine Ev.step' ?_; simp only [spec_TurnArray.l0]
   exact Ev.neg (by omega) (Ev.bind hs (Ev.now _))
 | succ j ih =>
   intro hj
   have hlt : j < vs.length := by omega
   have hg : rd_T95 (vs.map (cS d)) (j : Int) = cS d vs[j] := getD_map _ _ _ _ hlt
   have hnext := ih (by omega)
   rw [List.drop_eq_getElem_cons hlt, List.reverse_cons, List.map_append] at hnext
   have ej : ((j + 1 : Nat) : Int) - 1 = (j : Int) := by omega
   refine Ev.step' ?_; simp only [spec_TurnArray.l0]
   rw [ej]
   refine Ev.pos (by omega) (Ev.pos (by omega) (Ev.pos (by rw [List.length_map]; omega) (Ev.pos (by rw [List.length_map, List.length_reverse, List.length_drop]; omega) ?_)))
   rw [hg, mkS, wrapS (by omega) (by omega)]
   exact hnext
theorem turnS_bad (x1 m : Int) (ps : List NS) : Ev (fun k => spec_TurnArray.j0 k x1 true m ps) (BA [], false) := by
 refine Ev.step' ?_; simp only [spec_TurnArray.j0]
 exact Ev.pos (by first | trivial | rfl) (Ev.now _)
theorem turnS_fit {d : Nat} (hd : d ≤ 2) {vs : List Tr} (h : Fit d vs) : Ev (fun k => spec_TurnArray.f k (BA (text (d + 1) ⟨0, vs⟩)) ((d + 1 : Nat) : Int)) (BA (text (d + 1) ⟨0, vs.reverse⟩), true) := by
 have h1 := l1Read_is (d + 1) (by omega) (text (d + 1) ⟨0, vs⟩)
 rw [fit_read h] at h1
 have hl := fit_len h
 have h0 := turnS_l0 hd h vs.length (Nat.le_refl _)
 rw [List.drop_length] at h0
 unfold spec_TurnArray.f
 refine Ev.bind h1 (Ev.pos rfl ?_)
 rw [show (((d + 1 : Nat) : Int) == 0) = false by simp; omega]
 refine Ev.step' ?_; simp only [spec_TurnArray.j0]
 refine Ev.neg (by simp) ?_
 have e : wrap64 ((((resS (d + 1) (some ⟨0, vs⟩)).2.1).length : Int) - 1) = (vs.length : Int) - 1 := by
   show wrap64 (((vs.map (cS d)).length : Int) - 1) = _
   rw [List.length_map, wrapS (by omega) (by omega)]
 rw [e]
 exact h0
theorem turnS_none {d : Nat} (hd : d ≤ 3) {l : By} (h : readD d l = none ∨ d = 0) : Ev (fun k => spec_TurnArray.f k (BA l) (d : Int)) (BA [], false) := by
 have h1 := l1Read_is d hd l
 unfold spec_TurnArray.f
 refine Ev.bind h1 ?_
 cases hq : readD d l with
 | none => exact Ev.neg (by simp [resS]) (turnS_bad _ _ _)
 | some v =>
   rcases h with h | h
   · rw [h] at hq; cases hq
   · subst h
     exact Ev.pos rfl (turnS_bad _ _ _)
theorem turnS_out (dp : Int) (h : dp < 0 ∨ 3 < dp) (l : By) : Ev (fun k => spec_TurnArray.f k (BA l) dp) (BA [], false) := by
 unfold spec_TurnArray.f
 exact Ev.bind (l1Read_out dp h _) (Ev.neg (by simp) (turnS_bad _ _ _))
abbrev Z0 : ByteArray := ByteArray.empty
theorem getD_at {x : List ByteArray} {j : Nat} (h : j < x.length) : x.getD j Z0 = x[j] := by
 rw [List.getD_eq_getElem?_getD, List.getElem?_eq_getElem h]
 rfl
theorem getD_set (s : List ByteArray) (i j : Nat) (v : ByteArray) (hi : i < s.length) : (s.set i v).getD j Z0 = if j = i then v else s.getD j Z0 := by
 rw [List.getD_eq_getElem?_getD, List.getElem?_set, List.getD_eq_getElem?_getD]
 by_cases h : i = j
 · subst h
   rw [if_pos rfl, if_pos hi, if_pos rfl]
   rfl
 · rw [if_neg h, if_neg (fun e => h e.symm)]
theorem rev_end (x : List ByteArray) (i : Nat) (s : List ByteArray) (hlt : ¬ i + i + 1 < x.length) (hi : i + i ≤ x.length + 1) (hs : s.length = x.length)
   (hj : ∀ j, j < x.length → s.getD j Z0 = if j < i ∨ x.length ≤ j + i then x.getD (x.length - 1 - j) Z0 else x.getD j Z0) :
   Ev (fun k => slices_Reverse_string_string.l0 k s (i : Int) ((x.length : Int) - 1 - (i : Int))) x.reverse := by
 refine Ev.step' ?_; simp only [slices_Reverse_string_string.l0]
 refine Ev.neg (by omega) (Ev.val ?_)
 apply List.ext_getElem
 · rw [List.length_reverse, hs]
 · intro j h1 h2
   have hjn : j < x.length := by omega
   rw [List.getElem_reverse, ← getD_at h1, hj j hjn, ← getD_at]
   by_cases h3 : j < i ∨ x.length ≤ j + i
   · rw [if_pos h3]
   · rw [if_neg h3, show x.length - 1 - j = j by omega]
theorem rev_l0 (x : List ByteArray) (hn : x.length ≤ 1000000) : ∀ (m i : Nat) (s : List ByteArray), x.length ≤ m + (i + i) → i + i ≤ x.length + 1 → s.length = x.length →
   (∀ j, j < x.length → s.getD j Z0 = if j < i ∨ x.length ≤ j + i then x.getD (x.length - 1 - j) Z0 else x.getD j Z0) →
   Ev (fun k => slices_Reverse_string_string.l0 k s (i : Int) ((x.length : Int) - 1 - (i : Int))) x.reverse := by
 intro m
 induction m with
 | zero =>
   intro i s hm hi hs hj
   exact rev_end x i s (by omega) hi hs hj
 | succ m ih =>
   intro i s hm hi hs hj
   by_cases hlt : i + i + 1 < x.length
   · obtain ⟨b, hb⟩ : ∃ b : Nat, b + i + 1 = x.length := ⟨x.length - 1 - i, by omega⟩
     have eb : (x.length : Int) - 1 - (i : Int) = (b : Int) := by omega
     refine Ev.step' ?_; simp only [slices_Reverse_string_string.l0]
     rw [eb]
     refine Ev.pos (by omega) (Ev.pos (by omega) (Ev.pos (by omega) (Ev.pos (by omega) (Ev.pos (by omega) ?_))))
     have e1 : rdOf ByteArray.empty s (b : Int) = x.getD b Z0 := by
       have := hj b (by omega)
       rw [if_neg (by omega)] at this
       exact this
     have e2 : rdOf ByteArray.empty s (i : Int) = x.getD i Z0 := by
       have := hj i (by omega)
       rw [if_neg (by omega)] at this
       exact this
     rw [e1, e2, wrapS (a := (i : Int) + 1) (by omega) (by omega), wrapS (a := (b : Int) - 1) (by omega) (by omega), Int.toNat_natCast, Int.toNat_natCast]
     have hnext := ih (i + 1) ((s.set i (x.getD b Z0)).set b (x.getD i Z0)) (by omega) (by omega) (by rw [List.length_set, List.length_set]; exact hs) (by
       intro j hjn
       rw [getD_set _ _ _ _ (by rw [List.length_set]; omega), getD_set _ _ _ _ (by omega)]
       by_cases h1 : j = b
       · rw [if_pos h1, if_pos (by omega), show x.length - 1 - j = i by omega]
       · rw [if_neg h1]
         by_cases h2 : j = i
         · rw [if_pos h2, if_pos (by omega), show x.length - 1 - j = b by omega]
         · rw [if_neg h2, hj j hjn]
           by_cases h3 : j < i ∨ x.length ≤ j + i
           · rw [if_pos h3, if_pos (by omega)]
           · rw [if_neg h3, if_neg (by omega)])
     rw [show (x.length : Int) - 1 - ((i + 1 : Nat) : Int) = (b : Int) - 1 by omega] at hnext
     exact hnext
   · exact rev_end x i s hlt hi hs hj
theorem rev_is (x : List ByteArray) (hn : x.length ≤ 1000000) : Ev (fun k => slices_Reverse_string_string.f k x) x.reverse := by
 unfold slices_Reverse_string_string.f
 have := rev_l0 x hn x.length 0 x (by omega) (by omega) rfl (by
   intro j hj
   rw [if_neg (by omega)])
 rw [wrapS (by omega) (by omega)]
 simpa using this
theorem turnA_fit {d : Nat} (hd : d ≤ 2) {vs : List Tr} (h : Fit d vs) : Ev (fun k => impl_TurnArray.f k (BA (text (d + 1) ⟨0, vs⟩)) ((d + 1 : Nat) : Int)) (BA (text (d + 1) ⟨0, vs.reverse⟩), true) := by
 have hl := fit_len h
 have hr := rev_is ((vs.map (text d)).map BA) (by rw [List.length_map, List.length_map]; omega)
 have hm := makeA_is d hd (vs.reverse.map (text d)) (by rw [List.length_map, List.length_reverse]; omega)
 rw [fit_make (fit_rev h)] at hm
 rw [← List.map_reverse, ← List.map_reverse] at hr
 unfold impl_TurnArray.f
 exact Ev.bind (partsA_fit hd h) (Ev.pos rfl (Ev.bind hr (Ev.bind hm (Ev.now _))))
theorem turnA_none {d : Nat} (hd : d ≤ 2) {l : By} (h : readD (d + 1) l = none) : Ev (fun k => impl_TurnArray.f k (BA l) ((d + 1 : Nat) : Int)) (BA [], false) := by
 have hp := partsA_is d hd l
 rw [partsR, h] at hp
 unfold impl_TurnArray.f
 exact Ev.bind hp (Ev.neg (by simp [resP]) (Ev.now _))
theorem turnA_out (dp : Int) (h : dp < 1 ∨ 3 < dp) (l : By) : Ev (fun k => impl_TurnArray.f k (BA l) dp) (BA [], false) := by
 unfold impl_TurnArray.f
 exact Ev.bind (partsA_out dp h l) (Ev.neg (by simp) (Ev.now _))
def NumsA (d : Nat) : Prop := ∀ t, nodes d t ≤ 1000000000 → Ev (fun k => impl_arr_numbers.f k (cA d t).f0 (cA d t).f1 (d : Int)) (ints (Q.nums d t))
theorem numsA_l0 (d : Nat) (hd : d ≤ 1000) (ih : NumsA d) (t : Tr) (hn : nodes (d + 1) t ≤ 1000000000) :
   ∀ (n i : Nat), t.parts.length - i = n → i ≤ t.parts.length → Ev (fun k => impl_arr_numbers.l0 k ((d + 1 : Nat) : Int) (ints ((t.parts.take i).map (Q.nums d)).flatten) (t.parts.map (cA d)) ((t.parts.map (cA d)).length : Int) (i : Int)) (ints (Q.nums (d + 1) t)) := by
 have hpl := parts_len d t
 have hnl := nums_le (d + 1) t
 have hnl' : ((t.parts.map (Q.nums d)).flatten).length ≤ nodes (d + 1) t := hnl
 intro n
 induction n with
 | zero =>
   intro i h hi
   refine Ev.step' ?_; simp only [impl_arr_numbers.l0]
   rw [List.take_of_length_le (by omega)]
   exact Ev.neg (by rw [List.length_map]; omega) (Ev.val rfl)
 | succ n ihn =>
   intro i h hi
   have hlt : i < t.parts.length := by omega
   have hm : t.parts[i] ∈ t.parts := List.getElem_mem hlt
   have hx := ih t.parts[i] (by have := nodes_part (d := d) hm; omega)
   have hg : rd_T84 (t.parts.map (cA d)) (i : Int) = cA d t.parts[i] := getD_map _ _ _ _ hlt
   have hf := flat_take_le (Q.nums d) t.parts (i + 1)
   rw [flat_snoc _ _ _ hlt, List.length_append] at hf
   have hnext := ihn (i + 1) (by omega) (by omega)
   rw [flat_snoc _ _ _ hlt] at hnext
   refine Ev.step' ?_; simp only [impl_arr_numbers.l0]
   refine Ev.pos (by rw [List.length_map]; omega) (Ev.pos (by omega) (Ev.pos (by rw [List.length_map]; omega) ?_))
   rw [hg, show wrap64 (((d + 1 : Nat) : Int) - 1) = (d : Int) by rw [wrapS (by omega) (by omega)]; omega, wrapS (a := (i : Int) + 1) (by omega) (by omega)]
   refine Ev.bind hx (Ev.pos (by rw [List.length_map, List.length_map]; omega) ?_)
   rw [ints, List.map_append] at hnext
   exact hnext
theorem numsA_is : ∀ d, d ≤ 1000 → NumsA d
 | 0, _ => by
   intro t hn
   refine Ev.step' ?_; simp only [impl_arr_numbers.f]
   exact Ev.pos (by first | trivial | rfl) (Ev.val rfl)
 | d + 1, hd => by
   intro t hn
   refine Ev.step' ?_; simp only [impl_arr_numbers.f]
   exact Ev.neg (by omega) (numsA_l0 d (by omega) (numsA_is d (by omega)) t hn _ 0 rfl (by omega))
theorem numOf_is {d : Nat} (hd : d ≤ 3) {l : By} {v : Tr} (h : readD d l = some v) : Ev (fun k => impl_NumbersOf.f k (BA l) (d : Int)) (ints (Q.nums d v), true) := by
 obtain ⟨t, h1, h2, h3, h4⟩ := arrOf_is d hd l
 obtain rfl := h4 v h
 rw [h] at h1
 have hn := numsA_is d (by omega) t (by have := nodes_le_text d t; omega)
 unfold impl_NumbersOf.f
 exact Ev.bind h1 (Ev.pos rfl (Ev.bind hn (Ev.now _)))
theorem faSame_l0 (l : List Int) (hl : l.length ≤ 1000000000) : ∀ (n i : Nat), l.length - i = n → i ≤ l.length → Ev (fun k => laws_faSame.l0 k l l (l.length : Int) (i : Int)) true := by
 intro n
 induction n with
 | zero =>
   intro i h hi
   refine Ev.step' ?_; simp only [laws_faSame.l0]
   exact Ev.neg (by omega) (Ev.val (by simp))
 | succ n ih =>
   intro i h hi
   refine Ev.step' ?_; simp only [laws_faSame.l0]
   refine Ev.pos (by omega) (Ev.pos (by omega) (Ev.pos (by omega) (Ev.pos (by omega) (Ev.pos (by first | trivial | rfl) ?_))))
   rw [wrapS (by omega) (by omega)]
   exact ih (i + 1) (by omega) (by omega)
theorem faSame_is (l : List Int) (hl : l.length ≤ 1000000000) : Ev (fun k => laws_faSame.f k l l) true := by
 unfold laws_faSame.f
 rw [show mn (l.length : Int) (l.length : Int) = (l.length : Int) by unfold mn; split <;> rfl]
 exact faSame_l0 l hl _ 0 rfl (by omega)
theorem validS_is (d : Nat) (hd : d ≤ 3) (l : By) : Ev (fun k => spec_ArrayValid.f k (BA l) (d : Int)) (readD d l).isSome := by
 have h1 := l1Read_is d hd l
 unfold spec_ArrayValid.f
 cases hq : readD d l with
 | none => rw [hq] at h1; exact Ev.bind h1 (Ev.now _)
 | some v => rw [hq] at h1; exact Ev.bind h1 (Ev.now _)
def leastR (l : By) : Nat → Nat → Int
 | 0, _ => -1
 | n + 1, i => if (readD i l).isSome = true then (i : Int) else leastR l n (i + 1)
theorem leastA_l0 (l : By) : ∀ (n i : Nat), n + i = 4 → Ev (fun k => impl_LeastDepth.l0 k (BA l) (i : Int)) (leastR l n i) := by
 intro n
 induction n with
 | zero =>
   intro i h
   refine Ev.step' ?_; simp only [impl_LeastDepth.l0]
   exact Ev.neg (by omega) (Ev.now _)
 | succ n ih =>
   intro i h
   refine Ev.step' ?_; simp only [impl_LeastDepth.l0]
   refine Ev.pos (by omega) (Ev.bind (validA_is i (by omega) l) ?_)
   unfold leastR
   by_cases hs : (readD i l).isSome = true
   · rw [if_pos hs]
     exact Ev.pos hs (Ev.now _)
   · rw [if_neg hs, wrapS (by omega) (by omega)]
     exact Ev.neg hs (ih (i + 1) (by omega))
theorem leastS_l0 (l : By) : ∀ (n i : Nat), n + i = 4 → Ev (fun k => spec_LeastDepth.l0 k (BA l) (i : Int)) (leastR l n i) := by
 intro n
 induction n with
 | zero =>
   intro i h
   refine Ev.step' ?_; simp only [spec_LeastDepth.l0]
   exact Ev.neg (by omega) (Ev.now _)
 | succ n ih =>
   intro i h
   refine Ev.step' ?_; simp only [spec_LeastDepth.l0]
   refine Ev.pos (by omega) (Ev.bind (validS_is i (by omega) l) ?_)
   unfold leastR
   by_cases hs : (readD i l).isSome = true
   · rw [if_pos hs]
     exact Ev.pos hs (Ev.now _)
   · rw [if_neg hs, wrapS (by omega) (by omega)]
     exact Ev.neg hs (ih (i + 1) (by omega))
theorem leastA_is (l : By) : Ev (fun k => impl_LeastDepth.f k (BA l)) (leastR l 4 0) := by
 unfold impl_LeastDepth.f
 exact leastA_l0 l 4 0 rfl
theorem leastS_is (l : By) : Ev (fun k => spec_LeastDepth.f k (BA l)) (leastR l 4 0) := by
 unfold spec_LeastDepth.f
 exact leastS_l0 l 4 0 rfl
theorem leastR_in (l : By) (e : Nat) (he : (readD e l).isSome = true) : ∀ (n i : Nat), i ≤ e → e < i + n → (i : Int) ≤ leastR l n i ∧ leastR l n i ≤ (e : Int) := by
 intro n
 induction n with
 | zero => intro i h1 h2; omega
 | succ n ih =>
   intro i h1 h2
   unfold leastR
   by_cases hs : (readD i l).isSome = true
   · rw [if_pos hs]
     omega
   · rw [if_neg hs]
     have hne : i ≠ e := fun h => hs (h ▸ he)
     have := ih (i + 1) (by omega) (by omega)
     omega
/-- An array of one level at least has no depth of 0. -/
theorem leastR_one {l : By} {e : Nat} (h1 : 1 ≤ e) (h3 : e ≤ 3) {v : Tr} (hv : readD e l = some v) : 1 ≤ leastR l 4 0 ∧ leastR l 4 0 ≤ (e : Int) := by
 have h0 : readD 0 l = none := by
   obtain ⟨hl, _, _⟩ := readD_ok hv
   obtain ⟨d, rfl⟩ : ∃ d, e = d + 1 := ⟨e - 1, by omega⟩
   cases hq : readD 0 l with
   | none => rfl
   | some u =>
     obtain ⟨hu, _, _⟩ := readD_ok hq
     have hd := dec_all u.n
     rw [hl] at hu
     have e1 : (91 :: (Lib.join (v.parts.map (text d)) [44] ++ [93]) : By) = Lib.decDigits u.n := hu
     rw [← e1] at hd
     simp [isD] at hd
 show 1 ≤ leastR l (3 + 1) 0 ∧ leastR l (3 + 1) 0 ≤ (e : Int)
 unfold leastR
 rw [if_neg (by rw [h0]; simp)]
 exact leastR_in l e (by rw [hv]; rfl) 3 1 h1 (by omega)
theorem xor_nn (a b : Nat) (ha : a < 4611686018427387904) (hb : b < 4611686018427387904) : 0 ≤ Go.bits .xor .i64 (a : Int) (b : Int) := by
 have hx : a ^^^ b < 2 ^ 62 := Nat.xor_lt_two_pow (by omega) (by omega)
 have e : ((BitVec.ofInt 64 (a : Int)) ^^^ (BitVec.ofInt 64 (b : Int))).toNat = a ^^^ b := by
   rw [BitVec.toNat_xor, BitVec.toNat_ofInt, BitVec.toNat_ofInt]
   have h1 : ((a : Int) % ((2 ^ 64 : Nat) : Int)).toNat = a := by omega
   have h2 : ((b : Int) % ((2 ^ 64 : Nat) : Int)).toNat = b := by omega
   rw [h1, h2]
 show 0 ≤ IntKind.wrap .i64 (((BitVec.ofInt 64 (a : Int)) ^^^ (BitVec.ofInt 64 (b : Int))).toNat : Int)
 rw [e, IntKind.wrap_i64]
 omega
def Bs (l : List Int) : Prop := l.length ≤ 2000 ∧ ∀ x ∈ l, 0 ≤ x ∧ x ≤ 255
theorem rd_in {l : List Int} (h : Bs l) (i : Int) : 0 ≤ rd l i ∧ rd l i ≤ 255 := by
 unfold rd
 rw [List.getD_eq_getElem?_getD]
 cases hg : l[i.toNat]? with
 | none => simp
 | some x => exact h.2 x (List.mem_of_getElem? hg)
theorem tmod_in {a n : Int} (ha : 0 ≤ a) (hn : 1 ≤ n) : 0 ≤ Int.tmod a n ∧ Int.tmod a n < n := by
 rw [Int.tmod_eq_emod_of_nonneg ha]
 exact ⟨Int.emod_nonneg _ (by omega), Int.emod_lt_of_pos _ (by omega)⟩
theorem tdiv_in {a n : Int} (ha : 0 ≤ a) (hn : 1 ≤ n) : 0 ≤ Int.tdiv a n ∧ Int.tdiv a n ≤ a := by
 rw [Int.tdiv_eq_ediv_of_nonneg ha]
 refine ⟨Int.ediv_nonneg ha (by omega), ?_⟩
 exact Int.ediv_le_self _ ha
theorem pick_is {l : List Int} (h : Bs l) (p : Nat) (hp : p ≤ 1000000000000) (n : Int) : ∃ v : Int, Ev (fun k => spec_l13Rd_pick.f k l (p : Int) n) (v, ((p + 1 : Nat) : Int)) ∧ (1 ≤ n → 0 ≤ v ∧ v < n) ∧ (n < 1 → v = 0) := by
 have hpp : wrap64 ((p : Int) + 1) = ((p + 1 : Nat) : Int) := by rw [wrapS (by omega) (by omega)]; omega
 have hj : Ev (fun k => spec_l13Rd_pick.j0 k n true l ((p + 1 : Nat) : Int)) (0, ((p + 1 : Nat) : Int)) := by
   refine Ev.step' ?_; simp only [spec_l13Rd_pick.j0]
   exact Ev.pos (by first | trivial | rfl) (Ev.now _)
 by_cases hn : n < 1
 · refine ⟨0, ?_, by omega, by omega⟩
   unfold spec_l13Rd_pick.f
   refine Ev.pos hn ?_
   rw [hpp]
   exact hj
 · by_cases hl : l.length = 0
   · refine ⟨0, ?_, by omega, by omega⟩
     unfold spec_l13Rd_pick.f
     refine Ev.neg hn ?_
     rw [hpp, hl]
     exact hj
   · have hlen := h.1
     have hm : wrap64 (((p + 1 : Nat) : Int) - 1) = (p : Int) := by rw [wrapS (by omega) (by omega)]; omega
     have hgo : ∀ v, Ev (fun k => spec_l13Rd_pick.j0 k n false l ((p + 1 : Nat) : Int)) (v, ((p + 1 : Nat) : Int)) → Ev (fun k => spec_l13Rd_pick.f k l (p : Int) n) (v, ((p + 1 : Nat) : Int)) := by
       intro v hv
       unfold spec_l13Rd_pick.f
       refine Ev.neg hn ?_
       rw [hpp, show ((l.length : Int) == 0) = false from beq_false_of_ne (by omega)]
       exact hv
     by_cases hlt : p < l.length
     · have hr := rd_in h (p : Int)
       have ht := tmod_in (a := rd l (p : Int)) hr.1 (n := n) (by omega)
       refine ⟨Int.tmod (rd l (p : Int)) n, hgo _ ?_, fun _ => ht, by omega⟩
       refine Ev.step' ?_; simp only [spec_l13Rd_pick.j0]
       refine Ev.neg (by simp) ?_
       simp only [hm]
       refine Ev.pos (by omega) (Ev.pos (by omega) (Ev.neg (by omega) (Ev.val ?_)))
       rw [wrapS (by omega) (by omega)]
     · have hr1 := rd_in h (Int.tmod (p : Int) (l.length : Int))
       have hr2 := rd_in h (Int.tmod (wrap64 (wrap64 ((p : Int) * 7) + 3)) (l.length : Int))
       have ht1 := tmod_in (a := (p : Int)) (by omega) (n := (l.length : Int)) (by omega)
       have e7 : wrap64 (wrap64 ((p : Int) * 7) + 3) = (p : Int) * 7 + 3 := by
         rw [wrapS (a := (p : Int) * 7) (by omega) (by omega), wrapS (by omega) (by omega)]
       have ht2 := tmod_in (a := (p : Int) * 7 + 3) (by omega) (n := (l.length : Int)) (by omega)
       have htd := tdiv_in (a := (p : Int)) (by omega) (n := (l.length : Int)) (by omega)
       rw [e7] at hr2
       generalize hA : rd l (Int.tmod (p : Int) (l.length : Int)) = A at *
       generalize hB : rd l (Int.tmod ((p : Int) * 7 + 3) (l.length : Int)) = B at *
       generalize hD : Int.tdiv (p : Int) (l.length : Int) = D at *
       have eH : wrap64 (wrap64 (wrap64 (wrap64 (wrap64 A * 131) + wrap64 (wrap64 B * 1117)) + wrap64 ((p : Int) * 29)) + wrap64 (wrap64 D * 53)) = A * 131 + B * 1117 + (p : Int) * 29 + D * 53 := by
         rw [wrapS (a := A) (by omega) (by omega), wrapS (a := B) (by omega) (by omega), wrapS (a := D) (by omega) (by omega), wrapS (a := A * 131) (by omega) (by omega), wrapS (a := B * 1117) (by omega) (by omega), wrapS (a := (p : Int) * 29) (by omega) (by omega), wrapS (a := D * 53) (by omega) (by omega), wrapS (a := A * 131 + B * 1117) (by omega) (by omega), wrapS (a := A * 131 + B * 1117 + (p : Int) * 29) (by omega) (by omega), wrapS (by omega) (by omega)]
       obtain ⟨H, hH⟩ : ∃ H : Nat, A * 131 + B * 1117 + (p : Int) * 29 + D * 53 = (H : Int) := ⟨(A * 131 + B * 1117 + (p : Int) * 29 + D * 53).toNat, by omega⟩
       have eT : wrap64 (Int.tdiv (H : Int) 64) = ((H / 64 : Nat) : Int) := by
         rw [Int.tdiv_eq_ediv_of_nonneg (by omega), wrapS (by omega) (by omega)]
         omega
       have hX := xor_nn H (H / 64) (by omega) (by omega)
       have ht3 := tmod_in hX (n := n) (by omega)
       refine ⟨Int.tmod (Go.bits .xor .i64 (H : Int) ((H / 64 : Nat) : Int)) n, hgo _ ?_, fun _ => ht3, by omega⟩
       refine Ev.step' ?_; simp only [spec_l13Rd_pick.j0]
       refine Ev.neg (by simp) ?_
       simp only [hm, e7, hA, hB, hD, eH, hH, eT]
       exact Ev.neg (by omega) (Ev.neg (by omega) (Ev.pos ht1.1 (Ev.pos ht1.2 (Ev.pos ht2.1 (Ev.pos ht2.2 (Ev.neg (by omega) (Ev.val rfl)))))))
theorem num_is {l : List Int} (h : Bs l) (p : Nat) (hp : p ≤ 1000000000000) (xs : List Int) (hx : 1 ≤ xs.length) : ∃ v ∈ xs, Ev (fun k => spec_l13Rd_num.f k l (p : Int) xs) (v, ((p + 1 : Nat) : Int)) := by
 obtain ⟨v, h1, h2, _⟩ := pick_is h p hp (xs.length : Int)
 have hv := h2 (by omega)
 obtain ⟨m, rfl⟩ : ∃ m : Nat, v = (m : Int) := ⟨v.toNat, by omega⟩
 have hm : m < xs.length := by omega
 refine ⟨xs[m], List.getElem_mem hm, ?_⟩
 unfold spec_l13Rd_num.f
 refine Ev.bind h1 (Ev.pos hv.1 (Ev.pos hv.2 (Ev.val ?_)))
 have : rd xs (m : Int) = xs[m] := by
   unfold rd
   rw [Int.toNat_natCast, List.getD_eq_getElem?_getD, List.getElem?_eq_getElem hm]
   rfl
 rw [this]
theorem of_is {l : List Int} (h : Bs l) (p : Nat) (hp : p ≤ 1000000000000) (xs : List ByteArray) (hx : 1 ≤ xs.length) : ∃ v ∈ xs, Ev (fun k => spec_l13Rd_of.f k l (p : Int) xs) (v, ((p + 1 : Nat) : Int)) := by
 obtain ⟨v, h1, h2, _⟩ := pick_is h p hp (xs.length : Int)
 have hv := h2 (by omega)
 obtain ⟨m, rfl⟩ : ∃ m : Nat, v = (m : Int) := ⟨v.toNat, by omega⟩
 have hm : m < xs.length := by omega
 refine ⟨xs[m], List.getElem_mem hm, ?_⟩
 unfold spec_l13Rd_of.f
 refine Ev.bind h1 (Ev.pos hv.1 (Ev.pos hv.2 (Ev.val ?_)))
 have : rdOf ByteArray.empty xs (m : Int) = xs[m] := by
   unfold rdOf
   rw [Int.toNat_natCast, List.getD_eq_getElem?_getD, List.getElem?_eq_getElem hm]
   rfl
 rw [this]
theorem depth_is {l : List Int} (h : Bs l) (p : Nat) (hp : p ≤ 1000000000000) : ∃ v : Int, Ev (fun k => spec_l1Depth.f k l (p : Int)) (v, ((p + 1 : Nat) : Int)) ∧ -1 ≤ v ∧ v ≤ 4 := by
 obtain ⟨v, hv, h1⟩ := num_is h p hp [2, 1, 3, 2, 1, 0, 4, -1] (by simp)
 refine ⟨v, ?_, ?_⟩
 · unfold spec_l1Depth.f
   exact Ev.bind h1 (Ev.now _)
 · simp at hv
   omega
def szD : Nat → Nat
 | 0 => 20
 | d + 1 => 2 + 4 * (szD d + 1)
def stD : Nat → Nat
 | 0 => 2
 | d + 1 => 1 + 4 * stD d
/-- The last place that a drawing of this depth may begin at. -/
def capD : Nat → Nat
 | 0 => 99999990000
 | d + 1 => capD d - 1000
theorem cap_ok {d : Nat} (hd : d ≤ 2) : capD (d + 1) + 1 + 4 * stD d ≤ capD d := by
 obtain rfl | rfl | rfl : d = 0 ∨ d = 1 ∨ d = 2 := by omega
 all_goals decide
theorem cap_in {d : Nat} (hd : d ≤ 3) : 99999980000 ≤ capD d ∧ capD d ≤ 99999990000 := by
 obtain rfl | rfl | rfl | rfl : d = 0 ∨ d = 1 ∨ d = 2 ∨ d = 3 := by omega
 all_goals decide
def DrawIs (d : Nat) : Prop := ∀ (l : List Int) (p : Nat), Bs l → p ≤ capD d → ∃ (t : ByteArray) (q : Nat), Ev (fun k => spec_l1Draw.f k l (p : Int) (d : Int)) (t, (q : Int)) ∧ 1 ≤ t.size ∧ t.size ≤ szD d ∧ p ≤ q ∧ q ≤ p + stD d
theorem szD_le {d : Nat} (hd : d ≤ 3) : szD d ≤ 1500 ∧ stD d ≤ 150 := by
 obtain rfl | rfl | rfl | rfl : d = 0 ∨ d = 1 ∨ d = 2 ∨ d = 3 := by omega
 all_goals decide
theorem BA_of (b : ByteArray) : ∃ l : By, b = BA l ∧ l.length = b.size := ⟨b.data.toList, (BA_data b).symm, by rw [Array.length_toList]; rfl⟩
theorem size_append (a b : ByteArray) : (a ++ b).size = a.size + b.size := by
 obtain ⟨x, rfl, h1⟩ := BA_of a
 obtain ⟨y, rfl, h2⟩ := BA_of b
 rw [BA_append, BA_size, BA_size, BA_size, List.length_append]
theorem size_one (c : UInt8) : (⟨#[c]⟩ : ByteArray).size = 1 := rfl
theorem mul_in {i Z : Nat} (hi : i ≤ 4) (hZ : Z ≤ 1500) : i * (Z + 1) ≤ 6004 := Nat.le_trans (Nat.mul_le_mul hi (Nat.add_le_add_right hZ 1)) (by decide)
theorem draw_l0 (d : Nat) (hd : d ≤ 2) (Z T C : Nat) (hC : C ≤ 99999990000) (hZ : Z ≤ 1500) (hT : T ≤ 150) (l : List Int) (hl : Bs l)
   (ih : ∀ (p : Nat), p ≤ C → ∃ (t : ByteArray) (q : Nat), Ev (fun k => spec_l1Draw.f k l (p : Int) (d : Int)) (t, (q : Int)) ∧ 1 ≤ t.size ∧ t.size ≤ Z ∧ p ≤ q ∧ q ≤ p + T) (m : Nat) (hm : m ≤ 4) (M : Nat) (hM : ∀ i, i = m → 2 + i * (Z + 1) ≤ M) :
   ∀ (n i : Nat) (x : ByteArray) (p : Nat), i + n = m → 1 ≤ x.size → x.size ≤ 1 + i * (Z + 1) → p + n * T ≤ C →
   ∃ (t : ByteArray) (q : Nat), Ev (fun k => spec_l1Draw.l0 k ((d + 1 : Nat) : Int) x (m : Int) (i : Int) l (p : Int)) (t, (q : Int)) ∧ 1 ≤ t.size ∧ t.size ≤ M ∧ p ≤ q ∧ q ≤ p + n * T := by
 have ed : wrap64 (((d + 1 : Nat) : Int) - 1) = (d : Int) := by rw [wrapS (by omega) (by omega)]; omega
 intro n
 induction n with
 | zero =>
   intro i x p h hx1 hx hp
   have him : i = m := by omega
   have hM1 := hM i him
   have hmul := mul_in (i := i) (by omega) hZ
   obtain ⟨A, hA⟩ : ∃ A, A = i * (Z + 1) := ⟨_, rfl⟩
   rw [← hA] at hmul hx hM1
   clear hA
   obtain ⟨y, hy⟩ : ∃ y, y = x ++ (⟨#[93]⟩ : ByteArray) := ⟨_, rfl⟩
   have hb : y.size = x.size + 1 := by rw [hy, size_append, size_one]
   refine ⟨y, p, ?_, by omega, by omega, Nat.le_refl _, Nat.le_add_right _ _⟩
   rw [hy]
   refine Ev.step' ?_; simp only [spec_l1Draw.l0]
   exact Ev.neg (by omega) (Ev.pos (by omega) (Ev.val rfl))
 | succ n ihn =>
   intro i x p h hx1 hx hp
   have him : i < m := by omega
   have him2 : i + 1 + n = m := by omega
   have hmul := mul_in (i := i) (by omega) hZ
   have hsz : (i + 1) * (Z + 1) = i * (Z + 1) + (Z + 1) := by rw [Nat.add_mul, Nat.one_mul]
   have hst : (n + 1) * T = n * T + T := by rw [Nat.add_mul, Nat.one_mul]
   obtain ⟨t, q, h1, h2, h3, h4, h5⟩ := ih p (Nat.le_trans (Nat.le_add_right _ _) hp)
   have ihn' := fun y => ihn (i + 1) y q him2
   rw [hsz] at ihn'
   rw [hst] at hp ⊢
   obtain ⟨A, hA⟩ : ∃ A, A = i * (Z + 1) := ⟨_, rfl⟩
   obtain ⟨B, hB⟩ : ∃ B, B = n * T := ⟨_, rfl⟩
   rw [← hA] at hmul hx ihn'
   rw [← hB] at ihn' hp ⊢
   clear hA hB hst hsz
   have ei : wrap64 ((i : Int) + 1) = ((i + 1 : Nat) : Int) := by rw [wrapS (by omega) (by omega)]; omega
   rcases Nat.eq_zero_or_pos i with hi0 | h0
   · obtain ⟨y, hy⟩ : ∃ y, y = x ++ t := ⟨_, rfl⟩
     have hb : y.size = x.size + t.size := by rw [hy]; exact size_append _ _
     obtain ⟨t', q', g1, g2, g3, g4, g5⟩ := ihn' y (by omega) (by omega) (by omega)
     rw [hy] at g1
     refine ⟨t', q', ?_, g2, g3, by omega, by omega⟩
     refine Ev.step' ?_; simp only [spec_l1Draw.l0]
     have hn0 : ¬ (i : Int) > 0 := by rw [hi0]; exact Int.lt_irrefl 0
     have hs1 : x.size + t.size ≤ 9223372036854775807 := by clear g1 h1 g3 g5 h5 hp hy; omega
     refine Ev.pos (Int.ofNat_lt.2 him) (Ev.neg hn0 ?_)
     rw [ed, ei]
     exact Ev.bind h1 (Ev.pos hs1 g1)
   · obtain ⟨y, hy⟩ : ∃ y, y = (x ++ (⟨#[44]⟩ : ByteArray)) ++ t := ⟨_, rfl⟩
     have hb : y.size = x.size + 1 + t.size := by rw [hy, size_append, size_append, size_one]
     obtain ⟨t', q', g1, g2, g3, g4, g5⟩ := ihn' y (by omega) (by omega) (by omega)
     rw [hy] at g1
     refine ⟨t', q', ?_, g2, g3, by omega, by omega⟩
     refine Ev.step' ?_; simp only [spec_l1Draw.l0]
     have hp0 : (i : Int) > 0 := Int.ofNat_lt.2 h0
     have hs0 : x.size + 1 ≤ 9223372036854775807 := by clear g1 h1 g3 g5 h5 hp hy; omega
     have hs1 : x.size + 1 + t.size ≤ 9223372036854775807 := by clear g1 h1 g3 g5 h5 hp hy; omega
     refine Ev.pos (Int.ofNat_lt.2 him) (Ev.pos hp0 (Ev.pos hs0 ?_))
     rw [ed, ei]
     exact Ev.bind h1 (Ev.pos hs1 g1)
theorem draw_is : ∀ d, d ≤ 3 → DrawIs d
 | 0, _ => by
   intro l p hl hp0
   have hp : p ≤ 99999990000 := hp0
   obtain ⟨v, h1, h2, _⟩ := pick_is hl p (by omega) 9
   obtain ⟨w, hw, h3⟩ := num_is hl (p + 1) (by omega) [1, 0, 2, 3, v, 5, 10006, 100] (by simp)
   have hv := h2 (by omega)
   have hw2 : 0 ≤ w ∧ w ≤ 10006 := by simp at hw; omega
   obtain ⟨m, rfl⟩ : ∃ m : Nat, w = (m : Int) := ⟨w.toNat, by omega⟩
   have hlen := dec_len 5 m (by omega) (by omega)
   have hpos := List.length_pos_iff.2 (dec_ne m)
   refine ⟨BA (Lib.decDigits m), p + 1 + 1, ?_, by rw [BA_size]; omega, by rw [BA_size]; show _ ≤ 20; omega, by omega, by show _ ≤ p + 2; omega⟩
   refine Ev.step' ?_; simp only [spec_l1Draw.f]
   exact Ev.pos (by first | trivial | rfl) (Ev.bind h1 (Ev.bind h3 (Ev.bind (l13Dec_is m (by omega)) (Ev.val rfl))))
 | d + 1, hd => by
   have ih := draw_is d (by omega)
   intro l p hl hp
   have hz := szD_le (d := d) (by omega)
   have hc1 := cap_ok (d := d) (by omega)
   have hc2 := cap_in (d := d) (by omega)
   obtain ⟨v, hv, h1⟩ := num_is hl p (by omega) [2, 0, 1, 3, 4] (by simp)
   have hv2 : 0 ≤ v ∧ v ≤ 4 := by simp at hv; omega
   obtain ⟨m, rfl⟩ : ∃ m : Nat, v = (m : Int) := ⟨v.toNat, by omega⟩
   have hm0 : m * stD d ≤ 4 * stD d := Nat.mul_le_mul_right _ (by omega)
   have hcap : p + 1 + m * stD d ≤ capD d := by omega
   obtain ⟨t, q, g1, g2, g3, g4, g5⟩ := draw_l0 d (by omega) (szD d) (stD d) (capD d) (cap_in (by omega)).2 hz.1 hz.2 l hl (fun p hp => ih l p hl hp) m (by omega) (2 + m * (szD d + 1)) (fun i hi => by rw [hi]; exact Nat.le_refl _) m 0 (⟨#[91]⟩ : ByteArray) (p + 1) (by omega) (Nat.le_refl 1) (Nat.le_add_right 1 _) hcap
   have hm1 : m * (szD d + 1) ≤ 4 * (szD d + 1) := Nat.mul_le_mul_right _ (by omega)
   have hm2 : m * stD d ≤ 4 * stD d := Nat.mul_le_mul_right _ (by omega)
   refine ⟨t, q, ?_, g2, by show _ ≤ 2 + 4 * (szD d + 1); omega, by omega, by show _ ≤ p + (1 + 4 * stD d); omega⟩
   refine Ev.step' ?_; simp only [spec_l1Draw.f]
   exact Ev.neg (by omega) (Ev.bind h1 g1)
theorem extract_size (b : ByteArray) (i j : Nat) (h : i ≤ j) (hj : j ≤ b.size) : (b.extract i j).size = j - i := by
 obtain ⟨x, rfl, h1⟩ := BA_of b
 rw [BA_size] at hj
 rw [BA_extract, BA_size, List.length_take, List.length_drop]
 omega
theorem some_j0 {l : List Int} (hl : Bs l) (dp : Int) (t : ByteArray) (ht : 1 ≤ t.size) (ht2 : t.size ≤ 1500) (p : Nat) (hp : p ≤ 100000000000) : ∃ (t' : ByteArray) (q : Nat), Ev (fun k => spec_l1Some.j0 k dp t l (p : Int)) (t', dp, (q : Int)) ∧ t'.size ≤ 2000 ∧ p ≤ q ∧ q ≤ p + 4 := by
 obtain ⟨v, h1, h2, _⟩ := pick_is hl p (by omega) 14
 by_cases hv : v > 0
 · refine ⟨t, p + 1, ?_, by omega, by omega, by omega⟩
   refine Ev.step' ?_; simp only [spec_l1Some.j0]
   exact Ev.bind h1 (Ev.pos hv (Ev.now _))
 · obtain ⟨a, g1, g2, _⟩ := pick_is hl (p + 1) (by omega) (t.size : Int)
   have ha := g2 (by omega)
   obtain ⟨a, rfl⟩ : ∃ m : Nat, a = (m : Int) := ⟨a.toNat, by omega⟩
   obtain ⟨s, hs, g3⟩ := of_is hl (p + 1 + 1) (by omega) [(⟨#[]⟩ : ByteArray), (⟨#[91]⟩ : ByteArray), (⟨#[93]⟩ : ByteArray), (⟨#[44]⟩ : ByteArray), (⟨#[48]⟩ : ByteArray), (⟨#[120]⟩ : ByteArray), (⟨#[57, 57, 57, 57, 57]⟩ : ByteArray)] (by simp)
   have hss : s.size ≤ 5 := by
     simp at hs
     rcases hs with rfl | rfl | rfl | rfl | rfl | rfl | rfl <;> decide
   obtain ⟨b, g4, g5, _⟩ := pick_is hl (p + 1 + 1 + 1) (by omega) 2
   have hb := g5 (by omega)
   obtain ⟨b, rfl⟩ : ∃ m : Nat, b = (m : Int) := ⟨b.toNat, by omega⟩
   have hab : wrap64 ((a : Int) + (b : Int)) = ((a + b : Nat) : Int) := by rw [wrapS (by omega) (by omega)]; omega
   have e1 := extract_size t 0 a (by omega) (by omega)
   have e2 := extract_size t (a + b) t.size (by omega) (by omega)
   refine ⟨(t.extract 0 a ++ s) ++ t.extract (a + b) t.size, p + 1 + 1 + 1 + 1, ?_, by rw [size_append, size_append]; omega, by omega, by omega⟩
   refine Ev.step' ?_; simp only [spec_l1Some.j0]
   refine Ev.bind h1 (Ev.neg hv (Ev.bind g1 (Ev.pos ha.1 (Ev.pos (by simp only; omega) (Ev.bind g3 ?_)))))
   simp only [Int.toNat_natCast]
   refine Ev.pos (by omega) (Ev.bind g4 ?_)
   simp only [hab, Int.toNat_natCast]
   exact Ev.pos (by omega) (Ev.pos (by omega) (Ev.pos (by omega) (Ev.now _)))
theorem some_is {l : List Int} (hl : Bs l) (p : Nat) (hp : p ≤ 10000000000) : ∃ (t : ByteArray) (dp : Int) (q : Nat), Ev (fun k => spec_l1Some.f k l (p : Int)) (t, dp, (q : Int)) ∧ -1 ≤ dp ∧ dp ≤ 4 ∧ t.size ≤ 2000 ∧ p ≤ q ∧ q ≤ p + 400 := by
 obtain ⟨dp, h1, h2, h3⟩ := depth_is hl p (by omega)
 obtain ⟨d, hd⟩ : ∃ d : Nat, mx (mn dp 3) 0 = (d : Int) := ⟨(mx (mn dp 3) 0).toNat, by unfold mx mn; split <;> split <;> omega⟩
 have hd3 : d ≤ 3 ∧ (2 ≤ d → 2 ≤ dp) := by unfold mx mn at hd; split at hd <;> split at hd <;> omega
 obtain ⟨t, q, g1, g2, g3, g4, g5⟩ := draw_is d hd3.1 l (p + 1) hl (by have := cap_in hd3.1; omega)
 have hz := szD_le hd3.1
 by_cases h100 : (t.size : Int) > 100
 · have hd2 : 2 ≤ d := by
     rcases Nat.lt_or_ge d 2 with h | h
     · have : szD d ≤ 86 := by
         obtain rfl | rfl : d = 0 ∨ d = 1 := by omega
         all_goals decide
       omega
     · exact h
   have hmn : mn dp 1 = ((1 : Nat) : Int) := by have := hd3.2 hd2; unfold mn; split <;> omega
   obtain ⟨t2, q2, f1, f2, f3, f4, f5⟩ := draw_is 1 (by omega) l q hl (by have := cap_in (d := 1) (by omega); omega)
   have hz1 := szD_le (d := 1) (by omega)
   obtain ⟨t3, q3, e1, e2, e3, e4⟩ := some_j0 hl dp t2 f2 (by omega) q2 (by omega)
   refine ⟨t3, dp, q3, ?_, h2, h3, e2, by omega, by omega⟩
   unfold spec_l1Some.f
   refine Ev.bind h1 ?_
   simp only [hd, hmn]
   exact Ev.bind g1 (Ev.pos h100 (Ev.bind f1 e1))
 · obtain ⟨t3, q3, e1, e2, e3, e4⟩ := some_j0 hl dp t g2 (by omega) q (by omega)
   refine ⟨t3, dp, q3, ?_, h2, h3, e2, by omega, by omega⟩
   unfold spec_l1Some.f
   refine Ev.bind h1 ?_
   simp only [hd]
   exact Ev.bind g1 (Ev.neg h100 e1)
theorem open_is (l : List Int) (h : ∀ x ∈ l, (Lit.int .u8 x).wf = true) : ∃ l', spec_l13Open.f l = some (l', 0) ∧ Bs l' := by
 have hb : ∀ x ∈ l, 0 ≤ x ∧ x ≤ 255 := by
   intro x hx
   have := h x hx
   simp [Lit.wf, IntKind.wrap] at this
   have e1 : IntKind.u8.min = 0 := rfl
   have e2 : IntKind.u8.max = 255 := rfl
   omega
 unfold spec_l13Open.f
 by_cases hl : (l.length : Int) > 2000
 · refine ⟨l.take 2000, ?_, ?_, ?_⟩
   · rw [if_pos hl, if_pos (by omega)]
   · rw [List.length_take]; omega
   · exact fun x hx => hb x (List.mem_of_mem_take hx)
 · exact ⟨l, by rw [if_neg hl], by omega, hb⟩
theorem numOf_fit {d : Nat} (hd : d ≤ 2) {vs : List Tr} (h : Fit d vs) : Ev (fun k => impl_NumbersOf.f k (BA (text (d + 1) ⟨0, vs⟩)) ((d + 1 : Nat) : Int)) (ints (Q.nums (d + 1) ⟨0, vs⟩), true) := numOf_is (by omega) (fit_read h)
theorem nums_fit {d : Nat} {vs : List Tr} (h : Fit d vs) : (ints (Q.nums (d + 1) ⟨0, vs⟩)).length ≤ 400 := by
 have h1 := nums_le (d + 1) ⟨0, vs⟩
 have h2 := nodes_le_text (d + 1) ⟨0, vs⟩
 have h3 := h.2
 rw [List.length_map]
 omega
theorem flat_cases (l : By) (dp : Int) : (Ev (fun k => impl_FlattenOnce.f k (BA l) dp) (BA [], false) ∧ Ev (fun k => spec_FlattenOnce.f k (BA l) dp) (BA [], false)) ∨
   ∃ (d : Nat) (vs : List Tr), d ≤ 1 ∧ dp = ((d + 1 + 1 : Nat) : Int) ∧ l = text (d + 2) ⟨0, vs⟩ ∧ Fit (d + 1) vs := by
 by_cases h : dp < 0 ∨ 3 < dp
 · exact .inl ⟨flatA_out dp h l, flatS_out dp h l⟩
 · obtain ⟨e, rfl⟩ : ∃ e : Nat, dp = (e : Int) := ⟨dp.toNat, by omega⟩
   by_cases h2 : e < 2
   · exact .inl ⟨flatA_none (by omega) (.inr h2), flatS_none (by omega) (.inr h2)⟩
   · cases hr : readD e l with
     | none => exact .inl ⟨flatA_none (by omega) (.inl hr), flatS_none (by omega) (.inl hr)⟩
     | some v =>
       obtain ⟨d, rfl⟩ : ∃ d, e = d + 1 + 1 := ⟨e - 2, by omega⟩
       obtain ⟨vs, rfl, rfl, hv⟩ := read_fit hr
       exact .inr ⟨d, vs, by omega, rfl, rfl, hv⟩
theorem turn_cases (l : By) (dp : Int) : (Ev (fun k => impl_TurnArray.f k (BA l) dp) (BA [], false) ∧ Ev (fun k => spec_TurnArray.f k (BA l) dp) (BA [], false)) ∨
   ∃ (d : Nat) (vs : List Tr), d ≤ 2 ∧ dp = ((d + 1 : Nat) : Int) ∧ l = text (d + 1) ⟨0, vs⟩ ∧ Fit d vs := by
 by_cases h : dp < 0 ∨ 3 < dp
 · exact .inl ⟨turnA_out dp (by omega) l, turnS_out dp h l⟩
 · by_cases h0 : dp = 0
   · subst h0
     exact .inl ⟨turnA_out 0 (by omega) l, turnS_none (d := 0) (by omega) (.inr rfl)⟩
   · obtain ⟨d, rfl⟩ : ∃ d : Nat, dp = ((d + 1 : Nat) : Int) := ⟨(dp - 1).toNat, by omega⟩
     cases hr : readD (d + 1) l with
     | none => exact .inl ⟨turnA_none (by omega) hr, turnS_none (by omega) (.inl hr)⟩
     | some v =>
       obtain ⟨vs, rfl, rfl, hv⟩ := read_fit hr
       exact .inr ⟨d, vs, by omega, rfl, rfl, hv⟩
/-- What is asked of the flattened array. -/
theorem flat_l0 {d : Nat} (hd : d ≤ 1) {vs : List Tr} (h : Fit (d + 1) vs) : ∀ (n i : Nat), vs.length - i = n → i ≤ vs.length →
   Ev (fun k => laws_FnFlatten.l0 k (BA (text (d + 2) ⟨0, vs⟩)) ((d + 1 + 1 : Nat) : Int) (BA (text (d + 1) ⟨0, fl vs⟩)) (ints (Q.nums (d + 2) ⟨0, vs⟩)) (ints (Q.nums (d + 1) ⟨0, fl vs⟩)) true ((fl (vs.take i)).length : Int) ((vs.map (text (d + 1))).map BA) (((vs.map (text (d + 1))).map BA).length : Int) (i : Int)) true := by
 have hl := fit_len h
 have hf := fit_fl h
 have hfl := fit_len hf
 have hn1 := nums_fit hf
 obtain ⟨hl1, hl2⟩ := leastR_one (e := d + 2) (by omega) (by omega) (fit_read h)
 intro n
 induction n with
 | zero =>
   intro i hn hi
   have hlen := lenA_fit (by omega) hf
   refine Ev.step' ?_; simp only [laws_FnFlatten.l0]
   rw [List.take_of_length_le (by omega), show wrap64 (((d + 1 + 1 : Nat) : Int) - 1) = ((d + 1 : Nat) : Int) by rw [wrapS (by omega) (by omega)]; omega, fl_nums]
   refine Ev.neg (by rw [List.length_map, List.length_map]; omega) (Ev.bind (leastA_is _) (Ev.pos (by first | trivial | rfl) (Ev.bind (faSame_is _ (by omega)) (Ev.pos (by first | trivial | rfl) (Ev.bind hlen (Ev.pos (by first | trivial | rfl) (Ev.pos hl1 (Ev.val ?_))))))))
   rw [decide_eq_true_iff]
   exact hl2
 | succ n ihn =>
   intro i hn hi
   have hlt : i < vs.length := by omega
   have hlt2 : i < (vs.map (text (d + 1))).length := by rw [List.length_map]; exact hlt
   have hm : vs[i] ∈ vs := List.getElem_mem hlt
   have hp := lenA_is d (by omega) (text (d + 1) vs[i])
   rw [partsR, fit_part h hm] at hp
   have hp2 : Ev (fun k => impl_LengthOf.f k (BA (text (d + 1) vs[i])) ((d + 1 : Nat) : Int)) ((vs[i].parts.length : Nat) : Int) := by
     refine evIs hp ?_
     show (((vs[i].parts.map (text d)).length : Nat) : Int) = _
     rw [List.length_map]
   have hnext := ihn (i + 1) (by omega) (by omega)
   have htk := fl_take_le vs (i + 1)
   rw [fl_snoc vs i hlt, List.length_append] at hnext htk
   refine Ev.step' ?_; simp only [laws_FnFlatten.l0]
   refine Ev.pos (by rw [List.length_map, List.length_map]; omega) (Ev.pos (by omega) (Ev.pos (by rw [List.length_map, List.length_map]; omega) ?_))
   rw [rdOf_at hlt2, List.getElem_map, show wrap64 (((d + 1 + 1 : Nat) : Int) - 1) = ((d + 1 : Nat) : Int) by rw [wrapS (by omega) (by omega)]; omega, wrapS (a := (i : Int) + 1) (by omega) (by omega)]
   refine Ev.bind hp2 ?_
   rw [wrapS (by omega) (by omega)]
   rw [Int.natCast_add] at hnext
   exact hnext
theorem flat_j2 (l : By) (dp : Int) : ∃ f ok, Ev (fun k => impl_FlattenOnce.f k (BA l) dp) (f, ok) ∧ Ev (fun k => spec_FlattenOnce.f k (BA l) dp) (f, ok) ∧ Ev (fun k => laws_FnFlatten.j2 k (BA l) dp f ok) true := by
 rcases flat_cases l dp with ⟨hA, hS⟩ | ⟨d, vs, hd, rfl, rfl, hv⟩
 · refine ⟨_, _, hA, hS, ?_⟩
   refine Ev.step' ?_; simp only [laws_FnFlatten.j2]
   exact Ev.neg (by simp) (Ev.val (by rw [toList_BA]; rfl))
 · refine ⟨_, _, flatA_fit hd hv, flatS_fit hd hv, ?_⟩
   refine Ev.step' ?_; simp only [laws_FnFlatten.j2]
   rw [show wrap64 (((d + 1 + 1 : Nat) : Int) - 1) = ((d + 1 : Nat) : Int) by rw [wrapS (by omega) (by omega)]; omega]
   exact Ev.pos (by first | trivial | rfl) (Ev.bind (numOf_fit (d := d + 1) (by omega) hv) (Ev.bind (numOf_fit (by omega) (fit_fl hv)) (Ev.bind (partsA_fit (d := d + 1) (by omega) hv) (flat_l0 hd hv _ 0 rfl (by omega)))))
theorem drawFlat_is (l : List Int) (h : ∀ x ∈ l, (Lit.int .u8 x).wf = true) : ∃ t dp, Ev (fun k => spec_DrawFlattenOnce.f k l) (t, dp) := by
 obtain ⟨l', ho, hl⟩ := open_is l h
 obtain ⟨t, dp, q, f1, _⟩ := some_is hl 0 (by omega)
 refine ⟨t, dp, ?_⟩
 unfold spec_DrawFlattenOnce.f
 exact Ev.call ho (Ev.bind f1 (Ev.now _))
theorem drawTurn_is (l : List Int) (h : ∀ x ∈ l, (Lit.int .u8 x).wf = true) : ∃ t dp, Ev (fun k => spec_DrawTurnArray.f k l) (t, dp) := by
 obtain ⟨l', ho, hl⟩ := open_is l h
 obtain ⟨t, dp, q, f1, _⟩ := some_is hl 0 (by omega)
 refine ⟨t, dp, ?_⟩
 unfold spec_DrawTurnArray.f
 exact Ev.call ho (Ev.bind f1 (Ev.now _))
theorem Pure_FnFlatten : laws_FnFlatten.Pure := by
 intro l0 l1 _ _ h0 _ _ h1
 refine Ev.rounds (r := true) ?_
 unfold laws_FnFlatten.f
 have hend : Ev (fun k => laws_FnFlatten.j0 k l0 l1 true) true := by
   refine Ev.step' ?_; simp only [laws_FnFlatten.j0]
   exact Ev.pos (by first | trivial | rfl) (Ev.now _)
 by_cases c0 : (l0.length : Int) > 1048576
 · exact Ev.pos c0 hend
 refine Ev.neg c0 ?_
 by_cases c1 : (l1.length : Int) > 1048576
 · rw [show decide ((l1.length : Int) > 1048576) = true from decide_eq_true c1]
   exact hend
 rw [show decide ((l1.length : Int) > 1048576) = false from decide_eq_false c1]
 obtain ⟨s, dp, hd1⟩ := drawFlat_is l0 h0
 obtain ⟨s, rfl, _⟩ := BA_of s
 obtain ⟨u, dn, hd2⟩ := drawTurn_is l1 h1
 obtain ⟨u, rfl, _⟩ := BA_of u
 obtain ⟨f, ok, fA, fS, hj2⟩ := flat_j2 s dp
 have key : ∃ t fine, Ev (fun k => impl_TurnArray.f k (BA u) dn) (t, fine) ∧ Ev (fun k => spec_TurnArray.f k (BA u) dn) (t, fine) ∧ Ev (fun k => laws_FnFlatten.j1 k (BA s) dp f ok (BA u) dn t fine false) true := by
   rcases turn_cases u dn with ⟨hA, hS⟩ | ⟨d, vs, hd, rfl, rfl, hv⟩
   · refine ⟨_, _, hA, hS, ?_⟩
     refine Ev.step' ?_; simp only [laws_FnFlatten.j1]
     exact Ev.neg (by simp) (Ev.neg (by simp) hj2)
   · refine ⟨_, _, turnA_fit hd hv, turnS_fit hd hv, ?_⟩
     have hb := turnA_fit hd (fit_rev hv)
     rw [List.reverse_reverse] at hb
     refine Ev.step' ?_; simp only [laws_FnFlatten.j1]
     exact Ev.neg (by simp) (Ev.pos (by first | trivial | rfl) (Ev.bind hb (Ev.pos (by first | trivial | rfl) (Ev.bind (lenA_fit hd (fit_rev hv)) (Ev.bind (lenA_fit hd hv) (Ev.pos (by rw [List.length_reverse]) hj2))))))
 obtain ⟨t, fine, tA, tS, hj1⟩ := key
 refine Ev.step' ?_; simp only [laws_FnFlatten.j0]
 refine Ev.neg (by simp) (Ev.bind hd1 (Ev.bind fA (Ev.bind fS (Ev.bind hd2 (Ev.bind tA (Ev.bind tS (Ev.pos (by first | trivial | rfl) (Ev.neg (by simp) (Ev.pos (by first | trivial | rfl) (Ev.neg (by simp) (Ev.bind (leastA_is u) (Ev.bind (leastS_is u) ?_))))))))))))
 rw [show (leastR u 4 0 != leastR u 4 0) = false by simp]
 exact hj1
end Go.Proofs.YtmjoigpnnechgaaDoor.D
