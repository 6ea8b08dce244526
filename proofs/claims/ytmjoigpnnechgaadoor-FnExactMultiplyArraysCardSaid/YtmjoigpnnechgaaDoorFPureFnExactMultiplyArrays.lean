/- The program's MultiplyArrays and the reference's answer alike, for all arguments. -/
import Derived.Test.YtmjoigpnnechgaaDoorFQbase
import Derived.Test.YtmjoigpnnechgaaDoorFx4
import Derived.Test.YtmjoigpnnechgaaDoorFx8
import Derived.Test.YtmjoigpnnechgaaDoorFx1
import Derived.Test.YtmjoigpnnechgaaDoorFx9
import Derived.Test.YtmjoigpnnechgaaDoorFGlay
import Derived.Test.YtmjoigpnnechgaaDoorFGlaid
import Derived.Test.YtmjoigpnnechgaaDoorFGl2lay
import Derived.Test.YtmjoigpnnechgaaDoorFx5
import Derived.Test.YtmjoigpnnechgaaDoorFx0
import Derived.Test.YtmjoigpnnechgaaDoorFx10
import Derived.Test.YtmjoigpnnechgaaDoorFx6
namespace Go.Proofs.YtmjoigpnnechgaaDoor.F
open Go.RowKit Go.Proofs.YtmjoigpnnechgaaDoorW.PrintWords Go.Proofs.YtmjoigpnnechgaaDoorW.PrintLast Go.Proofs.YtmjoigpnnechgaaDoorW.PrintMore Go.Proofs.YtmjoigpnnechgaaDoor.Q
set_option linter.unusedSimpArgs false
set_option linter.unusedVariables false

abbrev NA := S84
abbrev NS := S95
def cA : Nat → Tr → NA
 | 0, t => ⟨(t.n : Int), []⟩
 | d + 1, t => ⟨(t.n : Int), t.parts.map (cA d)⟩
def cS : Nat → Tr → NS
 | 0, t => ⟨(t.n : Int), []⟩
 | d + 1, t => ⟨(t.n : Int), t.parts.map (cS d)⟩
theorem mkA (t : NA) : (⟨t.f0, t.f1⟩ : NA) = t := by cases t; rfl
theorem mkS (t : NS) : (⟨t.f0, t.f1⟩ : NS) = t := by cases t; rfl
theorem cA_f0 (d : Nat) (t : Tr) : (cA d t).f0 = (t.n : Int) := by cases d <;> rfl
theorem cS_f0 (d : Nat) (t : Tr) : (cS d t).f0 = (t.n : Int) := by cases d <;> rfl

/-! ### impl.readArr -/
abbrev RA := Int × List NA × ByteArray × Bool
def badA : RA := (0, [], BA [], false)
def resA (d : Nat) : Option (Tr × By) → RA
 | none => badA
 | some (t, r) => ((cA d t).f0, (cA d t).f1, BA r, true)
theorem bt_at {l : By} {i : Nat} (h : i < l.length) : bt (BA l) (i : Int) = (l[i].toNat : Int) := by
 rw [bt_BA, Int.toNat_natCast, List.getD_eq_getElem?_getD, List.getElem?_eq_getElem h]
 rfl
theorem take_split {l : By} (i : Nat) (h : (l.take i).all isD = true) (hn : ∀ x : i < l.length, isD l[i] = false) : l.takeWhile isD = l.take i ∧ l.dropWhile isD = l.drop i := by
 have e : l = l.take i ++ l.drop i := (List.take_append_drop i l).symm
 have := takeWhile_digits (ds := l.take i) (r := l.drop i) h (by
   intro c r hr
   by_cases hi : i < l.length
   · rw [List.drop_eq_getElem_cons hi] at hr
     rw [← (List.cons.inj hr).1]
     exact hn hi
   · rw [List.drop_eq_nil_of_le (by omega)] at hr
     cases hr)
 rw [← e] at this
 exact this
theorem readArr_j1 (l : By) (hl : l.length ≤ 1000000) : Ev (fun k => impl_readArr.j1 k (BA l) ((l.takeWhile isD).length : Int)) (resA 0 (parse 0 l)) := by
 have ht : l.take (l.takeWhile isD).length = l.takeWhile isD := by
   have e := List.takeWhile_append_dropWhile (p := isD) (l := l)
   conv => lhs; arg 2; rw [← e]
   rw [List.take_left']
   rfl
 have hd : l.drop (l.takeWhile isD).length = l.dropWhile isD := by
   have e := List.takeWhile_append_dropWhile (p := isD) (l := l)
   conv => lhs; arg 2; rw [← e]
   rw [List.drop_left']
   rfl
 have hlen : (l.takeWhile isD).length ≤ l.length := by
   have := congrArg List.length (List.takeWhile_append_dropWhile (p := isD) (l := l))
   rw [List.length_append] at this
   omega
 have hall : (l.takeWhile isD).all isD = true := List.all_takeWhile
 have hx : (BA l).extract 0 (l.takeWhile isD).length = BA (l.takeWhile isD) := by
   rw [BA_extract]
   simp [ht]
 have hy : (BA l).extract (l.takeWhile isD).length (BA l).size = BA (l.dropWhile isD) := by
   rw [BA_extract, hd, BA_size, List.take_of_length_le]
   rw [← hd, List.length_drop]
   omega
 refine Ev.step' ?_; simp only [impl_readArr.j1]
 refine Ev.pos (by omega) (Ev.pos (by rw [BA_size]; omega) ?_)
 simp only [Int.toNat_natCast, hx, hy]
 have hs : (BA (l.takeWhile isD)).size ≤ 281474976710656 := by rw [BA_size]; omega
 by_cases hne : l.takeWhile isD = []
 · have ha : strconv_Atoi.f (BA (l.takeWhile isD)) = some (0, some 0) := by
     unfold strconv_Atoi.f
     rw [if_pos hs, data_BA, hne]
     rfl
   have hp : parse 0 l = none := by
     have : parseNum l = none := by
       unfold parseNum
       rw [hne]
       exact if_neg (fun h => dec_ne _ h.2)
     unfold parse
     rw [this]
     rfl
   rw [hp]
   refine Ev.call ha ?_
   exact Ev.neg (by simp) (Ev.now _)
 · rcases atoi_digits hall hne with e | ⟨e, hbig⟩
   · have ha : strconv_Atoi.f (BA (l.takeWhile isD)) = some ((valD 0 (l.takeWhile isD) : Int), none) := by
       unfold strconv_Atoi.f
       rw [if_pos hs, data_BA, e]
     refine Ev.call ha ?_
     refine Ev.pos (by first | trivial | rfl) ?_
     by_cases hb : valD 0 (l.takeWhile isD) < 10007
     · refine Ev.neg (by omega) ?_
       have hi : strconv_Itoa.f (valD 0 (l.takeWhile isD) : Int) = some (BA (Lib.decDigits (valD 0 (l.takeWhile isD)))) := by
         unfold strconv_Itoa.f
         rw [if_pos (by omega), if_pos (by omega), itoa_nat]
         rfl
       refine Ev.call hi ?_
       by_cases hq : Lib.decDigits (valD 0 (l.takeWhile isD)) = l.takeWhile isD
       · refine Ev.pos (by rw [toList_BA, toList_BA]; exact hq) (Ev.val ?_)
         have : parseNum l = some (valD 0 (l.takeWhile isD), l.dropWhile isD) := if_pos ⟨hb, hq⟩
         unfold parse
         rw [this]
         rfl
       · refine Ev.neg (by rw [toList_BA, toList_BA]; exact hq) (Ev.val ?_)
         have : parseNum l = none := if_neg (fun h => hq h.2)
         unfold parse
         rw [this]
         rfl
     · refine Ev.pos (by omega) (Ev.val ?_)
       have : parseNum l = none := if_neg (fun h => hb h.1)
       unfold parse
       rw [this]
       rfl
   · have ha : strconv_Atoi.f (BA (l.takeWhile isD)) = some (Lib.atoiSat (l.takeWhile isD), some 0) := by
       unfold strconv_Atoi.f
       rw [if_pos hs, data_BA, e]
     refine Ev.call ha ?_
     refine Ev.neg (by simp) (Ev.val ?_)
     have : parseNum l = none := if_neg (fun h => absurd h.1 (by omega))
     unfold parse
     rw [this]
     rfl
theorem readArr_l0 (l : By) (hl : l.length ≤ 1000000) : ∀ (n i : Nat), l.length - i = n → i ≤ l.length → (l.take i).all isD = true → Ev (fun k => impl_readArr.l0 k (BA l) (i : Int)) (resA 0 (parse 0 l)) := by
 intro n
 induction n with
 | zero =>
   intro i h hi hall
   obtain ⟨h1, _⟩ := take_split i hall (fun x => by omega)
   have he : (l.takeWhile isD).length = i := by rw [h1, List.length_take]; omega
   refine Ev.step' ?_; simp only [impl_readArr.l0]
   refine Ev.neg (by rw [BA_size]; omega) ?_
   rw [← he]
   exact readArr_j1 l hl
 | succ n ih =>
   intro i h hi hall
   have hlt : i < l.length := by omega
   refine Ev.step' ?_; simp only [impl_readArr.l0]
   refine Ev.pos (by rw [BA_size]; omega) (Ev.pos (by omega) ?_)
   simp only [bt_at hlt]
   by_cases hd : isD l[i] = true
   · obtain ⟨h1, h2⟩ := (isD_iff _).1 hd
     refine Ev.pos (by omega) (Ev.pos (by omega) ?_)
     rw [wrapS (by omega) (by omega)]
     exact ih (i + 1) (by omega) (by omega) (by rw [List.take_succ_eq_append_getElem hlt, List.all_append, hall]; simp [hd])
   · have hd' : isD l[i] = false := by simpa using hd
     obtain ⟨h1, _⟩ := take_split i hall (fun x => hd')
     have he : (l.takeWhile isD).length = i := by rw [h1, List.length_take]; omega
     have hj := readArr_j1 l hl
     rw [he] at hj
     by_cases h1 : (48 : Int) ≤ (l[i].toNat : Int)
     · refine Ev.pos h1 (Ev.neg ?_ hj)
       intro h2
       exact hd ((isD_iff _).2 ⟨by omega, by omega⟩)
     · exact Ev.neg h1 hj
theorem readArr_zero (l : By) (hl : l.length ≤ 1000000) : Ev (fun k => impl_readArr.f k (BA l) 0) (resA 0 (parse 0 l)) := by
 refine Ev.step' ?_; simp only [impl_readArr.f]
 exact Ev.pos (by first | trivial | rfl) (readArr_l0 l hl _ 0 rfl (by omega) rfl)


theorem parse_nil : ∀ d, parse d [] = none
 | 0 => by
   unfold parse
   have : parseNum [] = none := if_neg (fun h => dec_ne _ h.2)
   rw [this]
   rfl
 | d + 1 => rfl
theorem parse_93 : ∀ d (t : By), parse d (93 :: t) = none
 | 0, t => by
   unfold parse
   have : parseNum (93 :: t) = none := if_neg (fun h => dec_ne _ (h.2.trans (by simp [isD])))
   rw [this]
   rfl
 | d + 1, t => by
   unfold parse
   simp
theorem parse_len {d : Nat} {l : By} {v : Tr} {r : By} (h : parse d l = some (v, r)) : r.length ≤ l.length := by
 have := congrArg List.length (parse_sound d l v r h).1
 rw [List.length_append] at this
 omega
theorem BA_nil : BA [] = (⟨#[]⟩ : ByteArray) := rfl
theorem BA_tail (c : UInt8) (t : By) : (BA (c :: t)).extract 1 (BA (c :: t)).size = BA t := by
 rw [BA_extract]
 simp
theorem bt_zero (c : UInt8) (t : By) : bt (BA (c :: t)) 0 = (c.toNat : Int) := bt_BA _ _
theorem toNat_ne {c : UInt8} {n : Nat} (h : c ≠ UInt8.ofNat n) (hn : n < 256) : ((c.toNat : Int)) ≠ (n : Int) := by
 intro e
 apply h
 apply UInt8.toNat.inj
 rw [UInt8.toNat_ofNat']
 omega
/-- .. and what is left of the parts, at the loop's head. -/
def resL (d : Nat) (acc : List NA) : Option (List Tr × By) → RA
 | none => badA
 | some (vs, r) => (0, acc ++ vs.map (cA d), BA r, true)
theorem readArr_l1 (d : Nat) (hd : d ≤ 1000) (hf : ∀ l : By, l.length ≤ 1000000 → Ev (fun k => impl_readArr.f k (BA l) (d : Int)) (resA d (parse d l))) :
   ∀ (n : Nat) (l : By) (acc : List NA), l.length < n → acc.length + l.length ≤ 1000000 → (acc ≠ [] ∨ ∀ t, l ≠ 93 :: t) → Ev (fun k => impl_readArr.l1 k (BA l) ((d + 1 : Nat) : Int) 0 acc) (resL d acc (parseL (parse d) n l)) := by
 intro n
 induction n with
 | zero => intro l acc h; omega
 | succ n ih =>
   intro l acc hn hb hcase
   have hbad : Ev (fun k => impl_readArr.j5 k ((d + 1 : Nat) : Int) (BA []) true 0 acc 0 []) badA := by
     refine Ev.step' ?_; simp only [impl_readArr.j5]
     exact Ev.pos (by first | trivial | rfl) (Ev.now _)
   have hbad2 : ∀ (x : ByteArray) (m : Int) (ps : List NA), Ev (fun k => impl_readArr.j5 k ((d + 1 : Nat) : Int) x true 0 acc m ps) badA := by
     intro x m ps
     refine Ev.step' ?_; simp only [impl_readArr.j5]
     exact Ev.pos (by first | trivial | rfl) (Ev.now _)
   have hj4 : l ≠ [] → Ev (fun k => impl_readArr.j4 k (BA l) ((d + 1 : Nat) : Int) true 0 acc) (resL d acc (parseL (parse d) (n + 1) l)) := by
     intro hne
     refine Ev.step' ?_; simp only [impl_readArr.j4]
     refine Ev.pos (by first | trivial | rfl) ?_
     rw [show wrap64 (((d + 1 : Nat) : Int) - 1) = (d : Int) by rw [wrapS (by omega) (by omega)]; omega]
     refine Ev.bind (hf l (by omega)) ?_
     unfold parseL
     cases hp : parse d l with
     | none => exact Ev.neg (by simp [resA, badA]) (hbad2 _ _ _)
     | some q =>
       obtain ⟨v, r⟩ := q
       have hr := parse_len hp
       refine Ev.pos (by first | trivial | rfl) ?_
       cases r with
       | nil => exact Ev.pos (toList_BA []) (hbad2 _ _ _)
       | cons c r' =>
         simp only [List.length_cons] at hr
         have hj5 : ∀ b : Bool, b = false → (c = 44 ∨ c = 93) → Ev (fun k => impl_readArr.j5 k ((d + 1 : Nat) : Int) (BA (c :: r')) b 0 acc (cA d v).f0 (cA d v).f1) (if c = 93 then (0, acc ++ [cA d v], BA r', true) else resL d (acc ++ [cA d v]) (parseL (parse d) n r')) := by
           intro b hb0 hc
           subst hb0
           refine Ev.step' ?_; simp only [impl_readArr.j5]
           refine Ev.neg (by simp) (Ev.pos (by omega) ?_)
           refine Ev.call (a := acc ++ [cA d v]) (by rw [mkA]) ?_
           refine Ev.pos (by simp <;> omega) ?_
           by_cases h93 : c = 93
           · subst h93
             rw [if_pos rfl]
             refine Ev.pos (bt_zero _ _) (Ev.pos (by simp <;> omega) (Ev.val ?_))
             rw [BA_tail]
           · rw [if_neg h93]
             refine Ev.neg (by rw [bt_zero]; exact toNat_ne (n := 93) h93 (by omega)) (Ev.pos (by simp <;> omega) ?_)
             rw [BA_tail]
             exact ih r' _ (by omega) (by simp <;> omega) (.inl (by simp))
         refine Ev.neg (by show ¬ (BA (c :: r')).toList = []; rw [toList_BA]; simp) (Ev.pos (by show (0 : Int) < ((BA (c :: r')).size : Int); simp <;> omega) ?_)
         have hb0 : bt (resA d (some (v, c :: r'))).2.2.1 0 = (c.toNat : Int) := bt_zero _ _
         by_cases h44 : c = 44
         · subst h44
           refine Ev.pos (bt_zero _ _) (evIs (hj5 false rfl (.inl rfl)) ?_)
           simp only [if_true]
           rw [if_neg (by decide)]
           cases parseL (parse d) n r' with
           | none => rfl
           | some q => simp [resL]
         · refine Ev.neg (by rw [hb0]; exact toNat_ne (n := 44) h44 (by omega)) ?_
           by_cases h93 : c = 93
           · subst h93
             refine evIs (hj5 _ (by rw [hb0]; rfl) (.inr rfl)) ?_
             simp [resL]
           · have e : (bt (resA d (some (v, c :: r'))).2.2.1 0 != 93) = true := by
               rw [hb0]
               simpa using toNat_ne (n := 93) h93 (by omega)
             rw [e]
             refine evIs (hbad2 _ _ _) ?_
             simp [h44, h93, resL]
   refine Ev.step' ?_; simp only [impl_readArr.l1]
   cases l with
   | nil =>
     refine Ev.pos (toList_BA []) ?_
     refine Ev.step' ?_; simp only [impl_readArr.j4]
     refine Ev.neg (by simp) (Ev.pos (toList_BA []) (Ev.val ?_))
     unfold parseL
     rw [parse_nil]
     rfl
   | cons c t =>
     refine Ev.neg (by rw [toList_BA]; simp) (Ev.pos (by simp <;> omega) ?_)
     by_cases h93 : c = 93
     · subst h93
       refine Ev.pos (bt_zero _ _) ?_
       rcases hcase with hacc | hh
       · have hpos : 0 < acc.length := List.length_pos_iff.2 hacc
         rw [show decide ((acc.length : Int) > 0) = true by simp; exact hpos]
         exact hj4 (by simp)
       · exact absurd rfl (hh t)
     · refine Ev.neg (by rw [bt_zero]; exact toNat_ne (n := 93) h93 (by omega)) (hj4 (by simp))
theorem readArr_is : ∀ (d : Nat), d ≤ 1000 → ∀ l : By, l.length ≤ 1000000 → Ev (fun k => impl_readArr.f k (BA l) (d : Int)) (resA d (parse d l))
 | 0, _, l, hl => readArr_zero l hl
 | d + 1, hd, l, hl => by
   have ih := readArr_is d (by omega)
   refine Ev.step' ?_; simp only [impl_readArr.f]
   refine Ev.neg (by omega) ?_
   have hj2 : ∀ x : ByteArray, Ev (fun k => impl_readArr.j2 k x ((d + 1 : Nat) : Int) true) badA := by
     intro x
     refine Ev.step' ?_; simp only [impl_readArr.j2]
     exact Ev.pos (by first | trivial | rfl) (Ev.now _)
   cases l with
   | nil => exact Ev.pos (toList_BA []) (hj2 _)
   | cons c t =>
     refine Ev.neg (by rw [toList_BA]; simp) (Ev.pos (by simp <;> omega) ?_)
     by_cases h91 : c = 91
     · subst h91
       rw [show (bt (BA (91 :: t)) 0 != 91) = false by rw [bt_zero]; rfl]
       refine Ev.step' ?_; simp only [impl_readArr.j2]
       refine Ev.neg (by simp) (Ev.pos (by simp <;> omega) ?_)
       rw [BA_tail]
       simp only [List.length_cons] at hl
       cases t with
       | nil =>
         refine evIs (readArr_l1 d (by omega) ih 1 [] [] (by simp) (by simp) (.inr (by simp))) ?_
         unfold parse parseL
         rw [parse_nil]
         rfl
       | cons c' t' =>
         by_cases h93 : c' = 93
         · subst h93
           refine Ev.step' ?_; simp only [impl_readArr.l1]
           refine Ev.neg (by rw [toList_BA]; simp) (Ev.pos (by simp <;> omega) (Ev.pos (bt_zero _ _) ?_))
           rw [show decide ((([] : List NA).length : Int) > 0) = false from rfl]
           refine Ev.step' ?_; simp only [impl_readArr.j4]
           refine Ev.neg (by simp) (Ev.neg (by rw [toList_BA]; simp) (Ev.pos (by simp <;> omega) (Ev.val ?_)))
           rw [BA_tail]
           rfl
         · refine evIs (readArr_l1 d (by omega) ih _ (c' :: t') [] (Nat.lt_succ_self _) (by simp only [List.length_cons, List.length_nil] at hl ⊢; omega) (.inr (by intro t e; exact h93 (List.cons.inj e).1))) ?_
           unfold parse
           simp only [if_true, if_neg h93]
           cases parseL (parse d) ((c' :: t').length + 1) (c' :: t') with
           | none => rfl
           | some q => rfl
     · rw [show (bt (BA (c :: t)) 0 != 91) = true by rw [bt_zero]; simpa using toNat_ne (n := 91) h91 (by omega)]
       refine evIs (hj2 _) ?_
       unfold parse
       simp only [if_neg h91]
       rfl

/-! ### spec's reader -/
theorem drop_split {s : By} {p : Nat} (h : p < s.length) : s.drop p = s[p] :: s.drop (p + 1) := List.drop_eq_getElem_cons h
theorem numStop_is (s : By) : ∀ (n p : Nat), numStop (BA s) n (p : Int) = ((p + min n ((s.drop p).takeWhile isD).length : Nat) : Int) := by
 intro n
 induction n with
 | zero => intro p; simp [numStop]
 | succ n ih =>
   intro p
   unfold numStop
   by_cases hp : p < s.length
   · rw [drop_split hp, List.takeWhile_cons]
     by_cases hd : isD s[p] = true
     · have h := (isD_iff _).1 hd
       have : digitAt (BA s) (p : Int) = true := by
         simp [digitAt, bt_at hp, hp]
         omega
       rw [if_pos this, if_pos hd, show ((p : Int) + 1) = ((p + 1 : Nat) : Int) by omega, ih (p + 1), List.length_cons]
       omega
     · have : ¬ digitAt (BA s) (p : Int) = true := by
         intro h
         simp [digitAt, bt_at hp, hp] at h
         exact hd ((isD_iff _).2 (by omega))
       rw [if_neg this, if_neg hd]
       simp
   · have : ¬ digitAt (BA s) (p : Int) = true := by
       simp [digitAt]
       omega
     rw [if_neg this, List.drop_eq_nil_of_le (by omega)]
     simp
theorem valD_ltP : ∀ (l : By) (p a b : Nat), p = 10 ^ l.length → l.all isD = true → a < b → valD a l < b * p
 | [], p, a, b, hp, _, h => by
   have hp1 : p = 1 := hp
   have : valD a [] = a := rfl
   rw [this, hp1, Nat.mul_one]
   exact h
 | c :: r, p, a, b, hp, hall, h => by
   simp only [List.all_cons, Bool.and_eq_true] at hall
   have hc := (isD_iff _).1 hall.1
   have h1 := valD_ltP r (10 ^ r.length) (a * 10 + (c.toNat - 48)) (b * 10) rfl hall.2 (by omega)
   have h2 : p = 10 ^ r.length * 10 := hp
   have h4 : valD a (c :: r) = valD (a * 10 + (c.toNat - 48)) r := rfl
   generalize 10 ^ r.length = q at *
   rw [h4, h2, Nat.mul_comm q 10, ← Nat.mul_assoc]
   exact h1
theorem valD_lt (l : By) (a b : Nat) (hall : l.all isD = true) (h : a < b) : valD a l < b * 10 ^ l.length := valD_ltP l _ a b rfl hall h
theorem l13Num_l0 (ds : By) (hall : ds.all isD = true) (hl : ds.length ≤ 17) : ∀ (n i : Nat), ds.length - i = n → i ≤ ds.length → Ev (fun k => spec_l13Num.l0 k (BA ds) false (valD 0 (ds.take i) : Int) (i : Int)) ((valD 0 ds : Int), true) := by
 intro n
 induction n with
 | zero =>
   intro i h hi
   refine Ev.step' ?_; simp only [spec_l13Num.l0]
   refine Ev.neg (by simp <;> omega) (Ev.neg (by simp) (Ev.val ?_))
   rw [List.take_of_length_le (by omega)]
 | succ n ih =>
   intro i h hi
   have hlt : i < ds.length := by omega
   have hd : isD ds[i] = true := List.all_eq_true.1 hall _ (List.getElem_mem hlt)
   have hc := (isD_iff _).1 hd
   refine Ev.step' ?_; simp only [spec_l13Num.l0]
   simp only [bt_at hlt]
   refine Ev.pos (by simp <;> omega) (Ev.pos (by omega) (Ev.neg (by omega) (Ev.neg (by omega) ?_)))
   have hv : valD 0 (ds.take i) < 1 * 10 ^ (ds.take i).length := valD_lt _ _ _ (by
     rw [List.all_eq_true] at hall ⊢
     intro x hx
     exact hall x (List.mem_of_mem_take hx)) (by omega)
   have hpow : 10 ^ (ds.take i).length ≤ 10 ^ 17 := Nat.pow_le_pow_right (by omega) (by rw [List.length_take]; omega)
   have hv2 : valD 0 (ds.take i) < 100000000000000000 := by
     generalize 10 ^ (ds.take i).length = q at *
     omega
   have e1 : wrap64 (wrap64 ((valD 0 (ds.take i) : Int) * 10) + ((ds[i].toNat : Int) - 48) % 256) = (valD 0 (ds.take (i + 1)) : Int) := by
     rw [List.take_succ_eq_append_getElem hlt, valD_append, valD_one, wrapS (a := (valD 0 (ds.take i) : Int) * 10) (by omega) (by omega), wrapS (by omega) (by omega)]
     omega
   rw [e1, wrapS (by omega) (by omega)]
   exact ih (i + 1) (by omega) (by omega)
theorem l13_is (ds : By) (hall : ds.all isD = true) (hl : ds.length ≤ 17) : Ev (fun k => spec_l13Num.f k (BA ds)) (if Lib.decDigits (valD 0 ds) = ds then ((valD 0 ds : Int), true) else (0, false)) := by
 have hj2 : ∀ x : ByteArray, Ev (fun k => spec_l13Num.j2 k x false true) (0, false) := by
   intro x
   refine Ev.step' ?_; simp only [spec_l13Num.j2]
   exact Ev.pos (by first | trivial | rfl) (Ev.now _)
 unfold spec_l13Num.f
 cases ds with
 | nil =>
   refine Ev.neg (by simp) ?_
   refine Ev.step' ?_; simp only [spec_l13Num.j0]
   refine Ev.neg (by simp) ?_
   refine Ev.step' ?_; simp only [spec_l13Num.j1]
   refine Ev.pos (by simp) (evIs (hj2 _) ?_)
   rw [if_neg (dec_ne _)]
 | cons c r =>
   have hd : isD c = true := by
     simp only [List.all_cons, Bool.and_eq_true] at hall
     exact hall.1
   have hc := (isD_iff _).1 hd
   simp only [List.length_cons] at hl
   refine Ev.pos (by simp <;> omega) (Ev.pos (by simp <;> omega) ?_)
   rw [show (bt (BA (c :: r)) 0 == 45) = false by rw [bt_zero]; simp; omega]
   refine Ev.step' ?_; simp only [spec_l13Num.j0]
   refine Ev.neg (by simp) ?_
   refine Ev.step' ?_; simp only [spec_l13Num.j1]
   refine Ev.neg (by simp <;> omega) (Ev.neg (by simp <;> omega) (Ev.pos (by simp <;> omega) ?_))
   have hj2f : (c ≠ 48 ∨ r = []) → Ev (fun k => spec_l13Num.j2 k (BA (c :: r)) false false) (if Lib.decDigits (valD 0 (c :: r)) = c :: r then ((valD 0 (c :: r) : Int), true) else (0, false)) := by
     intro h
     refine Ev.step' ?_; simp only [spec_l13Num.j2]
     refine Ev.neg (by simp) (evIs (l13Num_l0 (c :: r) hall (by simp only [List.length_cons]; omega) _ 0 rfl (by omega)) ?_)
     rw [if_pos ((dec_val_iff hall).2 ⟨c, r, rfl, h⟩)]
   by_cases h48 : c = 48
   · subst h48
     refine Ev.pos (bt_zero _ _) ?_
     by_cases hr : r = []
     · subst hr
       exact Ev.neg (by simp) (hj2f (.inr rfl))
     · have := List.length_pos_iff.2 hr
       refine Ev.pos (by simp <;> omega) (evIs (hj2 _) ?_)
       rw [if_neg]
       intro h
       obtain ⟨c', r', e, h1⟩ := (dec_val_iff hall).1 h
       obtain ⟨rfl, rfl⟩ := List.cons.inj e
       rcases h1 with h1 | h1
       · exact h1 rfl
       · exact hr h1
   · exact Ev.neg (by rw [bt_zero]; exact toNat_ne (n := 48) h48 (by omega)) (hj2f (.inl h48))

abbrev RS := Int × List NS × ByteArray × Int × Bool
def OutS (d : Nat) (s : By) : Option (Tr × By) → RS → Prop
 | none, res => res.2.2.2.2 = true
 | some (v, r), res => res = ((cS d v).f0, (cS d v).f1, BA s, ((s.length - r.length : Nat) : Int), false)
theorem number_is (s : By) (p : Nat) (hp : p ≤ s.length) (hs : s.length ≤ 1000000) :
   ∃ res : Int × ByteArray × Int × Bool, Ev (fun k => spec_l1Reader_number.f k (BA s) (p : Int) false) res ∧ OutS 0 s (parse 0 (s.drop p)) (res.1, [], res.2.1, res.2.2.1, res.2.2.2) := by
 have hst := numStop_is s 6 p
 have hcnt : ((s.drop p).takeWhile isD).length + ((s.drop p).dropWhile isD).length = s.length - p := by
   have := congrArg List.length (List.takeWhile_append_dropWhile (p := isD) (l := s.drop p))
   rw [List.length_append, List.length_drop] at this
   exact this
 have hall : ((s.drop p).takeWhile isD).all isD = true := List.all_takeWhile
 have hx : (BA s).extract p (p + min 6 ((s.drop p).takeWhile isD).length) = BA (((s.drop p).takeWhile isD).take 6) := by
   rw [BA_extract]
   congr 1
   have e : s.drop p = (s.drop p).takeWhile isD ++ (s.drop p).dropWhile isD := List.takeWhile_append_dropWhile.symm
   generalize hW : (s.drop p).takeWhile isD = W at *
   generalize hR : (s.drop p).dropWhile isD = R at *
   rw [e, show p + min 6 W.length - p = min 6 W.length by omega, List.take_append_of_le_length (by omega)]
   by_cases h6 : 6 ≤ W.length
   · rw [show min 6 W.length = 6 by omega]
   · rw [List.take_of_length_le (by omega), List.take_of_length_le (by omega)]
 have hall6 : (((s.drop p).takeWhile isD).take 6).all isD = true := by
   rw [List.all_eq_true] at hall ⊢
   intro x hx
   exact hall x (List.mem_of_mem_take hx)
 have hE : ∀ q : Int × Bool, q = (if Lib.decDigits (valD 0 (((s.drop p).takeWhile isD).take 6)) = ((s.drop p).takeWhile isD).take 6 then ((valD 0 (((s.drop p).takeWhile isD).take 6) : Int), true) else (0, false)) →
     Ev (fun k => spec_l1Reader_number.f k (BA s) (p : Int) false) (q.1, BA s, ((p + min 6 ((s.drop p).takeWhile isD).length : Nat) : Int), false || !q.2 || !(decide (0 ≤ q.1) && decide (q.1 ≤ 10006))) := by
   intro q hq
   subst hq
   unfold spec_l1Reader_number.f
   refine Ev.pos (by omega) (Ev.pos (by rw [BA_size]; omega) (Ev.pos (by rw [BA_size]; omega) ?_))
   rw [hst]
   simp only [Int.toNat_natCast, hx]
   refine Ev.bind (l13_is _ hall6 (by rw [List.length_take]; omega)) ?_
   exact Ev.now _
 refine ⟨_, hE _ rfl, ?_⟩
 · unfold parse parseNum
   generalize hW : (s.drop p).takeWhile isD = W at *
   generalize hR : (s.drop p).dropWhile isD = R at *
   by_cases h6 : W.length ≤ 6
   · rw [List.take_of_length_le h6]
     by_cases hdec : Lib.decDigits (valD 0 W) = W
     · by_cases hv : valD 0 W < 10007
       · rw [if_pos ⟨hv, hdec⟩, if_pos hdec]
         show _ = _
         simp only [cS, Prod.mk.injEq, true_and, Bool.false_or]
         refine ⟨by omega, ?_⟩
         simp
         omega
       · rw [if_neg (fun h => hv h.1), if_pos hdec]
         show _ = _
         simp
         omega
     · rw [if_neg (fun h => hdec h.2), if_neg hdec]
       rfl
   · have hnone : ¬ (valD 0 W < 10007 ∧ Lib.decDigits (valD 0 W) = W) := by
       rintro ⟨hv, hdec⟩
       obtain ⟨c, r, e, h1⟩ := (dec_val_iff hall).1 hdec
       rw [e] at hall hv h6
       simp only [List.all_cons, Bool.and_eq_true] at hall
       simp only [List.length_cons] at h6
       rcases h1 with h1 | h1
       · have := six_big hall.1 h1 (r := r) (by omega)
         omega
       · rw [h1] at h6
         simp at h6
     rw [if_neg hnone]
     show _ = _
     split
     · next hdec =>
       obtain ⟨c, r, e, h1⟩ := (dec_val_iff hall6).1 hdec
       have hl6 : (W.take 6).length = 6 := by rw [List.length_take]; omega
       rw [e] at hall6 hl6 ⊢
       simp only [List.all_cons, Bool.and_eq_true] at hall6
       simp only [List.length_cons] at hl6
       rcases h1 with h1 | h1
       · have := six_big hall6.1 h1 (r := r) (by omega)
         simp
         omega
       · rw [h1] at hl6
         simp at hl6
     · rfl

theorem is_hit {s : By} {p : Nat} {c : UInt8} {t : By} (h : s.drop p = c :: t) (hs : s.length ≤ 1000000) (ch : Int) (e : (c.toNat : Int) = ch) : spec_l1Reader_is.f (BA s) (p : Int) false ch = some (true, BA s, ((p + 1 : Nat) : Int), false) := by
 have hp : p < s.length := by
   rcases Nat.lt_or_ge p s.length with h1 | h1
   · exact h1
   · rw [List.drop_eq_nil_of_le h1] at h; cases h
 rw [drop_split hp] at h
 obtain ⟨rfl, rfl⟩ := List.cons.inj h
 unfold spec_l1Reader_is.f
 rw [if_pos (by rw [BA_size]; omega), if_pos (by omega), bt_at hp, if_pos e, wrapS (by omega) (by omega)]
 rfl
theorem is_miss {s : By} {p : Nat} (ch : Int) (h : ∀ c t, s.drop p = c :: t → (c.toNat : Int) ≠ ch) : spec_l1Reader_is.f (BA s) (p : Int) false ch = some (false, BA s, (p : Int), false) := by
 unfold spec_l1Reader_is.f
 by_cases hp : p < s.length
 · rw [if_pos (by rw [BA_size]; omega), if_pos (by omega), bt_at hp, if_neg (h _ _ (drop_split hp))]
 · rw [if_neg (by rw [BA_size]; omega)]
def tailL (d n : Nat) : By → Option (List Tr × By)
 | [] => none
 | c :: r => if c = 44 then parseL (parse d) n r else if c = 93 then some ([], r) else none
theorem parseL_tail (d n : Nat) (s : By) : parseL (parse d) (n + 1) s = (parse d s).bind fun q => (tailL d n q.2).map fun z => (q.1 :: z.1, z.2) := by
 unfold parseL
 cases parse d s with
 | none => rfl
 | some q =>
   obtain ⟨v, r⟩ := q
   cases r with
   | nil => rfl
   | cons c r =>
     simp only [tailL, Option.bind_some]
     by_cases h44 : c = 44
     · subst h44
       rfl
     · rw [if_neg h44, if_neg h44]
       by_cases h93 : c = 93
       · rw [if_pos h93, if_pos h93]; rfl
       · rw [if_neg h93, if_neg h93]; rfl
def OutL (d : Nat) (s : By) (acc : List NS) : Option (List Tr × By) → RS → Prop
 | none, res => res.2.2.2.2 = true
 | some (vs, r), res => res = (0, acc ++ vs.map (cS d), BA s, ((s.length - r.length : Nat) : Int), false)
/-- What holds of each text at a depth. -/
def NodeIs (d : Nat) : Prop := ∀ (s : By) (p : Nat), p ≤ s.length → s.length ≤ 1000000 → ∃ res, Ev (fun k => spec_l1Reader_node.f k (BA s) (p : Int) false (d : Int)) res ∧ OutS d s (parse d (s.drop p)) res
theorem node_bad (x1 m : Int) (x : ByteArray) (y : Int) (ps : List NS) : Ev (fun k => spec_l1Reader_node.l0 k x1 x y true m ps) (m, ps, x, y, true) := by
 refine Ev.step' ?_; simp only [spec_l1Reader_node.l0]
 exact Ev.pos (by first | trivial | rfl) (Ev.now _)
theorem node_l0 (d : Nat) (hd : d ≤ 1000) (hf : NodeIs d) (s : By) (hs : s.length ≤ 1000000) : ∀ (n p : Nat) (acc : List NS), p ≤ s.length → (s.drop p).length ≤ n → acc.length + (s.drop p).length ≤ 1000000 →
   ∃ res, Ev (fun k => spec_l1Reader_node.l0 k ((d + 1 : Nat) : Int) (BA s) (p : Int) false 0 acc) res ∧ OutL d s acc (tailL d n (s.drop p)) res := by
 intro n
 induction n with
 | zero =>
   intro p acc hp hn hb
   have hnil : s.drop p = [] := List.length_eq_zero_iff.1 (by omega)
   have hm : ∀ ch, spec_l1Reader_is.f (BA s) (p : Int) false ch = some (false, BA s, (p : Int), false) := fun ch => is_miss ch (by rw [hnil]; intro c t e; cases e)
   refine ⟨(0, acc, BA s, (p : Int), true), ?_, by rw [hnil]; rfl⟩
   refine Ev.step' ?_; simp only [spec_l1Reader_node.l0]
   refine Ev.neg (by simp) (Ev.call (hm 44) (Ev.neg (by simp) (Ev.neg (by simp) (Ev.call (hm 93) (Ev.val rfl)))))
 | succ n ih =>
   intro p acc hp hn hb
   cases hdr : s.drop p with
   | nil =>
     have hm : ∀ ch, spec_l1Reader_is.f (BA s) (p : Int) false ch = some (false, BA s, (p : Int), false) := fun ch => is_miss ch (by rw [hdr]; intro c t e; cases e)
     refine ⟨(0, acc, BA s, (p : Int), true), ?_, rfl⟩
     refine Ev.step' ?_; simp only [spec_l1Reader_node.l0]
     refine Ev.neg (by simp) (Ev.call (hm 44) (Ev.neg (by simp) (Ev.neg (by simp) (Ev.call (hm 93) (Ev.val rfl)))))
   | cons c t =>
     have hp' : p < s.length := by
       rcases Nat.lt_or_ge p s.length with h1 | h1
       · exact h1
       · rw [List.drop_eq_nil_of_le h1] at hdr; cases hdr
     have ht : s.drop (p + 1) = t := by
       have := drop_split hp'
       rw [hdr] at this
       exact (List.cons.inj this).2.symm
     have htl : t.length = s.length - (p + 1) := by rw [← ht, List.length_drop]
     rw [hdr] at hn hb
     simp only [List.length_cons] at hn hb
     by_cases h44 : c = 44
     · subst h44
       obtain ⟨res, h1, h2⟩ := hf s (p + 1) (by omega) hs
       rw [ht] at h2
       have hgo : ∀ res', (Ev (fun k => spec_l1Reader_node.l0 k ((d + 1 : Nat) : Int) res.2.2.1 res.2.2.2.1 res.2.2.2.2 0 (acc ++ [⟨res.1, res.2.1⟩])) res') → Ev (fun k => spec_l1Reader_node.l0 k ((d + 1 : Nat) : Int) (BA s) (p : Int) false 0 acc) res' := by
         intro res' h
         refine Ev.step' ?_; simp only [spec_l1Reader_node.l0]
         refine Ev.neg (by simp) (Ev.call (is_hit hdr hs 44 rfl) (Ev.pos (by first | trivial | rfl) ?_))
         rw [show wrap64 (((d + 1 : Nat) : Int) - 1) = (d : Int) by rw [wrapS (by omega) (by omega)]; omega]
         exact Ev.bind h1 (Ev.pos (by omega) h)
       have htail : tailL d (n + 1) (44 :: t) = (parse d t).bind fun q => (tailL d n q.2).map fun z => (q.1 :: z.1, z.2) := parseL_tail d n t
       rw [htail]
       cases hq : parse d t with
       | none =>
         rw [hq] at h2
         have hb2 : res.2.2.2.2 = true := h2
         refine ⟨(0, acc ++ [⟨res.1, res.2.1⟩], res.2.2.1, res.2.2.2.1, true), hgo _ ?_, rfl⟩
         rw [hb2]
         exact node_bad _ _ _ _ _
       | some q =>
         obtain ⟨v, r⟩ := q
         rw [hq] at h2
         have hres : res = ((cS d v).f0, (cS d v).f1, BA s, ((s.length - r.length : Nat) : Int), false) := h2
         have hr := parse_len hq
         have hdrop : s.drop (s.length - r.length) = r := by
           obtain ⟨e, _⟩ := parse_sound d t v r hq
           have e2 : s = s.take (p + 1) ++ (text d v ++ r) := by rw [← e, ← ht, List.take_append_drop]
           have e3 : s.length - r.length = (s.take (p + 1) ++ text d v).length := by
             have := congrArg List.length e2
             simp only [List.length_append] at this ⊢
             omega
           conv => lhs; arg 2; rw [e2]
           rw [e3, ← List.append_assoc, List.drop_left]
         have hle : r.length ≤ s.length := by omega
         obtain ⟨res', h3, h4⟩ := ih (s.length - r.length) (acc ++ [cS d v]) (by omega) (by rw [hdrop]; omega) (by rw [hdrop]; simp; omega)
         rw [hdrop] at h4
         refine ⟨res', hgo _ ?_, ?_⟩
         · rw [hres]
           simp only [mkS]
           exact h3
         · simp only [Option.bind_some]
           cases hz : tailL d n r with
           | none => rw [hz] at h4; exact h4
           | some z =>
             rw [hz] at h4
             have h4' : res' = _ := h4
             show res' = _
             rw [h4']
             simp
     · have hm : spec_l1Reader_is.f (BA s) (p : Int) false 44 = some (false, BA s, (p : Int), false) := is_miss 44 (by
         rw [hdr]
         intro c' t' e
         rw [← (List.cons.inj e).1]
         exact toNat_ne (n := 44) h44 (by omega))
       by_cases h93 : c = 93
       · subst h93
         refine ⟨(0, acc, BA s, ((p + 1 : Nat) : Int), false), ?_, ?_⟩
         · refine Ev.step' ?_; simp only [spec_l1Reader_node.l0]
           exact Ev.neg (by simp) (Ev.call hm (Ev.neg (by simp) (Ev.neg (by simp) (Ev.call (is_hit hdr hs 93 rfl) (Ev.val rfl)))))
         · show _ = _
           rw [htl, List.map_nil, List.append_nil, show s.length - (s.length - (p + 1)) = p + 1 by omega]
       · refine ⟨(0, acc, BA s, (p : Int), true), ?_, ?_⟩
         · refine Ev.step' ?_; simp only [spec_l1Reader_node.l0]
           exact Ev.neg (by simp) (Ev.call hm (Ev.neg (by simp) (Ev.neg (by simp) (Ev.call (is_miss 93 (by
             rw [hdr]
             intro c' t' e
             rw [← (List.cons.inj e).1]
             exact toNat_ne (n := 93) h93 (by omega))) (Ev.val rfl)))))
         · simp only [tailL, if_neg h44, if_neg h93]
           rfl
theorem drop_rest {s t r u : By} {p : Nat} (ht : s.drop p = t) (e : t = u ++ r) (hp : p ≤ s.length) : s.drop (s.length - r.length) = r ∧ r.length ≤ s.length - p := by
 have e2 : s = s.take p ++ (u ++ r) := by rw [← e, ← ht, List.take_append_drop]
 have e3 : s.length - r.length = (s.take p ++ u).length := by
   have := congrArg List.length e2
   simp only [List.length_append] at this ⊢
   omega
 constructor
 · conv => lhs; arg 2; rw [e2]
   rw [e3, ← List.append_assoc, List.drop_left]
 · have := congrArg List.length e
   rw [← ht, List.length_append, List.length_drop] at this
   omega
theorem node_is : ∀ d, d ≤ 1000 → NodeIs d
 | 0, _ => by
   intro s p hp hs
   obtain ⟨res, h1, h2⟩ := number_is s p hp hs
   refine ⟨(res.1, [], res.2.1, res.2.2.1, res.2.2.2), ?_, h2⟩
   refine Ev.step' ?_; simp only [spec_l1Reader_node.f]
   refine Ev.call (a := ([] : List NS)) rfl (Ev.pos (by first | trivial | rfl) ?_)
   exact Ev.bind h1 (Ev.now _)
 | d + 1, hd => by
   have ih := node_is d (by omega)
   intro s p hp hs
   cases hdr : s.drop p with
   | nil =>
     refine ⟨(0, [], BA s, (p : Int), true), ?_, by rw [parse_nil]; rfl⟩
     refine Ev.step' ?_; simp only [spec_l1Reader_node.f]
     refine Ev.call (a := ([] : List NS)) rfl (Ev.neg (by omega) (Ev.call (is_miss 91 (by rw [hdr]; intro c t e; cases e)) (Ev.neg (by simp) (Ev.val rfl))))
   | cons c t =>
     have hp' : p < s.length := by
       rcases Nat.lt_or_ge p s.length with h1 | h1
       · exact h1
       · rw [List.drop_eq_nil_of_le h1] at hdr; cases hdr
     have ht : s.drop (p + 1) = t := by
       have := drop_split hp'
       rw [hdr] at this
       exact (List.cons.inj this).2.symm
     have htl : t.length = s.length - (p + 1) := by rw [← ht, List.length_drop]
     by_cases h91 : c = 91
     · subst h91
       have hgo : ∀ res, Ev (fun k => (spec_l1Reader_is.f (BA s) ((p + 1 : Nat) : Int) false 93).bind fun bt114 => (if bt114.1 = true then (some (0, ([] : List NS), bt114.2.1, bt114.2.2.1, bt114.2.2.2)) else ((spec_l1Reader_node.f k bt114.2.1 bt114.2.2.1 bt114.2.2.2 (d : Int)).bind fun bt118 => (if ([] : List NS).length < 4398046511104 then (spec_l1Reader_node.l0 k ((d + 1 : Nat) : Int) bt118.2.2.1 bt118.2.2.2.1 bt118.2.2.2.2 0 (([] : List NS) ++ [(⟨bt118.1, bt118.2.1⟩ : NS)])) else (none))))) res →
           Ev (fun k => spec_l1Reader_node.f k (BA s) (p : Int) false ((d + 1 : Nat) : Int)) res := by
         intro res h
         refine Ev.step' ?_; simp only [spec_l1Reader_node.f]
         refine Ev.call (a := ([] : List NS)) rfl (Ev.neg (by omega) (Ev.call (is_hit hdr hs 91 rfl) (Ev.pos (by first | trivial | rfl) ?_)))
         rw [show wrap64 (((d + 1 : Nat) : Int) - 1) = (d : Int) by rw [wrapS (by omega) (by omega)]; omega]
         exact h
       by_cases h93 : ∃ t', t = 93 :: t'
       · obtain ⟨t', rfl⟩ := h93
         simp only [List.length_cons] at htl
         refine ⟨_, hgo _ (Ev.call (is_hit ht hs 93 rfl) (Ev.pos (by first | trivial | rfl) (Ev.now _))), ?_⟩
         have : parse (d + 1) (91 :: 93 :: t') = some (⟨0, []⟩, t') := by unfold parse; simp
         rw [this]
         show _ = _
         rw [show s.length - t'.length = p + 1 + 1 by omega]
         rfl
       · have hm : spec_l1Reader_is.f (BA s) ((p + 1 : Nat) : Int) false 93 = some (false, BA s, ((p + 1 : Nat) : Int), false) := is_miss 93 (by
           rw [ht]
           intro c' t' e e2
           apply h93
           refine ⟨t', ?_⟩
           rw [e]
           congr 1
           apply UInt8.toNat.inj
           have h3 : (93 : UInt8).toNat = 93 := rfl
           omega)
         obtain ⟨res, h1, h2⟩ := ih s (p + 1) (by omega) hs
         rw [ht] at h2
         have hgo2 : ∀ res', (Ev (fun k => spec_l1Reader_node.l0 k ((d + 1 : Nat) : Int) res.2.2.1 res.2.2.2.1 res.2.2.2.2 0 [⟨res.1, res.2.1⟩]) res') → Ev (fun k => spec_l1Reader_node.f k (BA s) (p : Int) false ((d + 1 : Nat) : Int)) res' := by
           intro res' h
           exact hgo _ (Ev.call hm (Ev.neg (by simp) (Ev.bind h1 (Ev.pos (by simp) h))))
         have hpar : parse (d + 1) (91 :: t) = ((parse d t).bind fun q => (tailL d t.length q.2).map fun z => (q.1 :: z.1, z.2)).map fun q => ((⟨0, q.1⟩ : Tr), q.2) := by
           cases t with
           | nil => rw [parse_nil]; rfl
           | cons c' t' =>
             have h93' : c' ≠ 93 := fun e => h93 ⟨t', by rw [e]⟩
             have e0 : parse (d + 1) (91 :: c' :: t') = if c' = 93 then some (⟨0, []⟩, t') else (parseL (parse d) ((c' :: t').length + 1) (c' :: t')).map fun q => (⟨0, q.1⟩, q.2) := rfl
             rw [e0, if_neg h93', parseL_tail]
         rw [hpar]
         cases hq : parse d t with
         | none =>
           rw [hq] at h2
           have hb2 : res.2.2.2.2 = true := h2
           refine ⟨(0, [⟨res.1, res.2.1⟩], res.2.2.1, res.2.2.2.1, true), hgo2 _ ?_, rfl⟩
           rw [hb2]
           exact node_bad _ _ _ _ _
         | some q =>
           obtain ⟨v, r⟩ := q
           rw [hq] at h2
           have hres : res = ((cS d v).f0, (cS d v).f1, BA s, ((s.length - r.length : Nat) : Int), false) := h2
           obtain ⟨hdrop, hle⟩ := drop_rest ht (parse_sound d t v r hq).1 (by omega)
           have hr := parse_len hq
           obtain ⟨res', h3, h4⟩ := node_l0 d (by omega) ih s hs t.length (s.length - r.length) [cS d v] (by omega) (by rw [hdrop]; omega) (by rw [hdrop]; simp; omega)
           rw [hdrop] at h4
           refine ⟨res', hgo2 _ ?_, ?_⟩
           · rw [hres]
             simp only [mkS]
             exact h3
           · simp only [Option.bind_some]
             cases hz : tailL d t.length r with
             | none => rw [hz] at h4; exact h4
             | some z =>
               rw [hz] at h4
               have h4' : res' = _ := h4
               show res' = _
               rw [h4']
               simp [cS]
     · refine ⟨(0, [], BA s, (p : Int), true), ?_, ?_⟩
       · refine Ev.step' ?_; simp only [spec_l1Reader_node.f]
         refine Ev.call (a := ([] : List NS)) rfl (Ev.neg (by omega) (Ev.call (is_miss 91 (by
           rw [hdr]
           intro c' t' e
           rw [← (List.cons.inj e).1]
           exact toNat_ne (n := 91) h91 (by omega))) (Ev.neg (by simp) (Ev.val rfl))))
       · unfold parse
         simp only [if_neg h91]
         rfl

/-! ### the two readings -/
/-- The array that a text stands for. -/
def readD (d : Nat) (l : By) : Option Tr := if l.length ≤ 400 then (match parse d l with | some (v, []) => some v | _ => none) else none
theorem readD_ok {d : Nat} {l : By} {v : Tr} (h : readD d l = some v) : l = text d v ∧ Ok d v ∧ l.length ≤ 400 := by
 unfold readD at h
 split at h
 · next hl =>
   split at h
   · next v' hp =>
     obtain rfl := Option.some.inj h
     obtain ⟨h1, h2⟩ := parse_sound _ _ _ _ hp
     exact ⟨by simpa using h1, h2, hl⟩
   · cases h
 · cases h
theorem readD_text {d : Nat} {v : Tr} (h : Ok d v) (hl : (text d v).length ≤ 400) : readD d (text d v) = some v := by
 unfold readD
 have := parse_complete d v [] h (by intro c l e; cases e)
 rw [List.append_nil] at this
 rw [if_pos hl, this]
def resS (d : Nat) : Option Tr → Int × List NS × Bool
 | none => (0, [], false)
 | some v => ((cS d v).f0, (cS d v).f1, true)
theorem l1Read_is (d : Nat) (hd : d ≤ 3) (l : By) : Ev (fun k => spec_l1Read.f k (BA l) (d : Int)) (resS d (readD d l)) := by
 unfold spec_l1Read.f
 have hin : spec_l1In.f (d : Int) 0 3 = some true := by
   unfold spec_l1In.f
   rw [if_pos (by omega)]
   simp
   omega
 refine Ev.call hin (Ev.pos (by first | trivial | rfl) ?_)
 refine Ev.step' ?_; simp only [spec_l1Read.j0]
 unfold readD
 by_cases hl : l.length ≤ 400
 · rw [if_pos hl]
   refine Ev.neg (by simp; omega) ?_
   obtain ⟨res, h1, h2⟩ := node_is d (by omega) l 0 (by omega) (by omega)
   rw [List.drop_zero] at h2
   refine Ev.bind h1 ?_
   cases hq : parse d l with
   | none =>
     rw [hq] at h2
     exact Ev.pos h2 (Ev.now _)
   | some q =>
     obtain ⟨v, r⟩ := q
     rw [hq] at h2
     have hres : res = ((cS d v).f0, (cS d v).f1, BA l, ((l.length - r.length : Nat) : Int), false) := h2
     subst hres
     have hr := parse_len hq
     refine Ev.neg (by simp) ?_
     cases r with
     | nil => exact Ev.pos (by simp) (Ev.now _)
     | cons c r => exact Ev.neg (by simp only [List.length_cons] at hr ⊢; rw [BA_size]; omega) (Ev.now _)
 · rw [if_neg hl]
   exact Ev.pos (by simp; omega) (Ev.now _)
theorem l1Read_out (d : Int) (hd : d < 0 ∨ 3 < d) (s : ByteArray) : Ev (fun k => spec_l1Read.f k s d) (0, [], false) := by
 unfold spec_l1Read.f
 have hin : spec_l1In.f d 0 3 = some false := by
   unfold spec_l1In.f
   by_cases h0 : d ≥ 0
   · rw [if_pos h0]
     simp
     omega
   · rw [if_neg h0]
 refine Ev.call hin (Ev.neg (by simp) ?_)
 refine Ev.step' ?_; simp only [spec_l1Read.j0]
 exact Ev.pos (by first | trivial | rfl) (Ev.now _)
/-- .. and impl's: beside the sign, parts of some array. -/
theorem arrOf_is (d : Nat) (hd : d ≤ 3) (l : By) : ∃ t, Ev (fun k => impl_arrOf.f k (BA l) (d : Int)) ((cA d t).f0, (cA d t).f1, (readD d l).isSome) ∧ Ok d t ∧ (text d t).length ≤ 402 ∧ ∀ v, readD d l = some v → t = v := by
 have hz : (cA d ⟨0, []⟩).f0 = 0 ∧ (cA d ⟨0, []⟩).f1 = [] ∧ Ok d ⟨0, []⟩ ∧ (text d ⟨0, []⟩).length ≤ 402 := by
   cases d with
   | zero => exact ⟨rfl, rfl, ⟨by show 0 < 10007; omega, rfl⟩, by simp [text, dec_small]⟩
   | succ d => exact ⟨rfl, rfl, ⟨rfl, by intro x hx; cases hx⟩, by simp [text, Lib.join_nil]⟩
 obtain ⟨z1, z2, z3, z4⟩ := hz
 unfold impl_arrOf.f readD
 by_cases hl : l.length ≤ 400
 · rw [if_pos hl]
   have hr := readArr_is d (by omega) l (by omega)
   cases hq : parse d l with
   | none =>
     rw [hq] at hr
     refine ⟨⟨0, []⟩, ?_, z3, z4, by simp⟩
     refine Ev.neg (by omega) (Ev.neg (by omega) (Ev.neg (by rw [BA_size]; omega) (Ev.bind hr (Ev.neg (by simp [resA, badA]) (Ev.val ?_)))))
     rw [z1, z2]
     rfl
   | some q =>
     obtain ⟨v, r⟩ := q
     rw [hq] at hr
     obtain ⟨h1, h2⟩ := parse_sound _ _ _ _ hq
     refine ⟨v, ?_, h2, ?_, ?_⟩
     · refine Ev.neg (by omega) (Ev.neg (by omega) (Ev.neg (by rw [BA_size]; omega) (Ev.bind hr (Ev.pos (by first | trivial | rfl) (Ev.val ?_)))))
       simp only [resA, toList_BA]
       cases r <;> rfl
     · have := congrArg List.length h1
       rw [List.length_append] at this
       omega
     · intro v' hv
       cases r with
       | nil => exact Option.some.inj hv
       | cons c r => cases hv
 · rw [if_neg hl]
   refine ⟨⟨0, []⟩, ?_, z3, z4, by simp⟩
   refine Ev.neg (by omega) (Ev.neg (by omega) (Ev.pos (by rw [BA_size]; omega) (Ev.val ?_)))
   rw [z1, z2]
   rfl
theorem arrOf_out (d : Int) (hd : d < 0 ∨ 3 < d) (s : ByteArray) : Ev (fun k => impl_arrOf.f k s d) (0, [], false) := by
 unfold impl_arrOf.f
 by_cases h0 : d < 0
 · exact Ev.pos h0 (Ev.now _)
 · exact Ev.neg h0 (Ev.pos (by omega) (Ev.now _))
theorem strOne (m : Nat) (h : m < 256) : strOfNums [(m : Int)] = BA [UInt8.ofNat m] := by
 unfold strOfNums BA
 simp
theorem l13Dec_l0 : ∀ (n : Nat) (suf : By), n < 1000000000000000000 → suf.length ≤ 100 → Ev (fun k => spec_l13Dec.l0 k (n : Int) (BA suf)) (BA (Lib.decDigits n ++ suf)) := by
 have main : ∀ (b n : Nat) (suf : By), n < 10 ^ b → b ≤ 18 → suf.length + b ≤ 118 → Ev (fun k => spec_l13Dec.l0 k (n : Int) (BA suf)) (BA (Lib.decDigits n ++ suf)) := by
   intro b
   induction b with
   | zero =>
     intro n suf hn hb hs
     have hn1 : n < 1 := hn
     have : n = 0 := by omega
     subst this
     refine Ev.step' ?_; simp only [spec_l13Dec.l0]
     have e : (wrap64 (48 + ((0 : Nat) : Int))) % 256 = ((48 + 0 : Nat) : Int) := by
       rw [wrapS (by omega) (by omega)]
       omega
     refine Ev.neg (by omega) ?_
     rw [e]
     refine Ev.call (a := [((48 + 0 : Nat) : Int)]) rfl (Ev.pos (by rw [strOne _ (by omega), BA_size, BA_size]; simp; omega) (Ev.val ?_))
     rw [strOne _ (by omega), BA_append, dec_small (by omega)]
   | succ b ih =>
     intro n suf hn hb hs
     refine Ev.step' ?_; simp only [spec_l13Dec.l0]
     have hpow : 10 ^ (b + 1) ≤ 10 ^ 18 := Nat.pow_le_pow_right (by omega) hb
     have hnb : n < 1000000000000000000 := by
       have : (10 ^ 18 : Nat) = 1000000000000000000 := by decide
       omega
     by_cases h9 : n < 10
     · have e : (wrap64 (48 + (n : Int))) % 256 = ((48 + n : Nat) : Int) := by
         rw [wrapS (by omega) (by omega)]
         omega
       refine Ev.neg (by omega) ?_
       rw [e]
       refine Ev.call (a := [((48 + n : Nat) : Int)]) rfl (Ev.pos (by rw [strOne _ (by omega), BA_size, BA_size]; simp; omega) (Ev.val ?_))
       rw [strOne _ (by omega), BA_append, dec_small h9]
     · have e : (wrap64 (48 + Int.tmod (n : Int) 10)) % 256 = ((48 + n % 10 : Nat) : Int) := by
         rw [Int.tmod_eq_emod_of_nonneg (by omega), wrapS (by omega) (by omega)]
         omega
       have e2 : wrap64 (Int.tdiv (n : Int) 10) = ((n / 10 : Nat) : Int) := by
         rw [Int.tdiv_eq_ediv_of_nonneg (by omega), wrapS (by omega) (by omega)]
         omega
       refine Ev.pos (by omega) ?_
       rw [e, e2]
       refine Ev.call (a := [((48 + n % 10 : Nat) : Int)]) rfl (Ev.pos (by rw [strOne _ (by omega), BA_size, BA_size]; simp; omega) ?_)
       rw [strOne _ (by omega), BA_append]
       refine evIs (ih (n / 10) _ ?_ (by omega) (by simp; omega)) ?_
       · rw [Nat.pow_succ] at hn
         generalize 10 ^ b = q at *
         omega
       · rw [dec_big h9, List.append_assoc]
 intro n suf hn hs
 exact main 18 n suf (by have : (10 ^ 18 : Nat) = 1000000000000000000 := by decide
                         omega) (by omega) (by omega)
theorem l13Dec_is (n : Nat) (hn : n < 1000000000000000000) : Ev (fun k => spec_l13Dec.f k (n : Int)) (BA (Lib.decDigits n)) := by
 refine Ev.step' ?_; simp only [spec_l13Dec.f]
 refine Ev.neg (by omega) (Ev.neg (by omega) (evIs (l13Dec_l0 n [] hn (by simp)) ?_))
 rw [List.append_nil]

theorem dec_len : ∀ (b n : Nat), n < 10 ^ b → 1 ≤ b → (Lib.decDigits n).length ≤ b := by
 intro b
 induction b with
 | zero => intro n _ h; omega
 | succ b ih =>
   intro n hn _
   by_cases h9 : n < 10
   · rw [dec_small h9]; simp
   · rw [dec_big h9, List.length_append]
     have h1 : n / 10 < 10 ^ b := by
       rw [Nat.pow_succ] at hn
       generalize 10 ^ b = q at *
       omega
     have hb : 1 ≤ b := by
       rcases Nat.eq_zero_or_pos b with rfl | h
       · have : n / 10 < 1 := h1
         omega
       · exact h
     have := ih (n / 10) h1 hb
     simp
     omega
/-- Numbers that fit. -/
def Sh : Nat → Tr → Prop
 | 0, t => t.n < 1000000000
 | d + 1, t => ∀ x ∈ t.parts, Sh d x
theorem Sh.of : ∀ {d : Nat} {t : Tr}, Ok d t → Sh d t
 | 0, t, h => by have := h.1; show t.n < _; omega
 | d + 1, t, h => fun x hx => Sh.of (h.2 x hx)
def nodes : Nat → Tr → Nat
 | 0, _ => 1
 | d + 1, t => 1 + (t.parts.map (nodes d)).sum
theorem join_sum (f : Tr → By) (g : Tr → Nat) : ∀ xs : List Tr, (∀ x ∈ xs, (f x).length + 1 ≤ g x) → (Lib.join (xs.map f) [44]).length ≤ (xs.map g).sum
 | [], _ => by simp [Lib.join_nil]
 | [x], h => by
   have := h x (by simp)
   rw [List.map_cons, List.map_nil, join_one]
   simp
   omega
 | x :: y :: l, h => by
   have h1 := h x (by simp)
   have h2 := join_sum f g (y :: l) (fun z hz => h z (List.mem_cons_of_mem _ hz))
   rw [List.map_cons, List.map_cons, join_cons]
   rw [List.map_cons] at h2
   rw [List.map_cons, List.sum_cons]
   simp only [List.length_append, List.length_cons] at h2 ⊢
   omega
theorem join_len2 (f : Tr → By) (g : Tr → Nat) : ∀ xs : List Tr, (∀ x ∈ xs, g x ≤ (f x).length) → (xs.map g).sum ≤ (Lib.join (xs.map f) [44]).length
 | [], _ => by simp
 | [x], h => by
   have h1 := h x (by simp)
   have e1 : (([x] : List Tr).map g).sum = g x := by simp
   have e2 : Lib.join ([x].map f) [44] = f x := join_one _
   rw [e1, e2]
   exact h1
 | x :: y :: l, h => by
   have h1 := h x (by simp)
   have h2 := join_len2 f g (y :: l) (fun z hz => h z (List.mem_cons_of_mem _ hz))
   have e1 : ((x :: y :: l).map g).sum = g x + ((y :: l).map g).sum := by rw [List.map_cons, List.sum_cons]
   have e2 : Lib.join ((x :: y :: l).map f) [44] = f x ++ 44 :: Lib.join ((y :: l).map f) [44] := join_cons _ _ _
   rw [e1, e2, List.length_append, List.length_cons]
   omega
theorem sum_mul (c : Nat) (g : Tr → Nat) : ∀ xs : List Tr, (xs.map (fun x => c * g x)).sum = c * (xs.map g).sum
 | [] => rfl
 | x :: l => by rw [List.map_cons, List.sum_cons, sum_mul c g l, List.map_cons, List.sum_cons, Nat.mul_add]
theorem text_le : ∀ (d : Nat) (t : Tr), Sh d t → (text d t).length + 1 ≤ 12 * nodes d t
 | 0, t, h => by
   have := dec_len 9 t.n h (by omega)
   show (Lib.decDigits t.n).length + 1 ≤ 12
   omega
 | d + 1, t, h => by
   have := join_sum (text d) (fun x => 12 * nodes d x) t.parts (fun x hx => text_le d x (h x hx))
   rw [sum_mul] at this
   show (91 :: (Lib.join (t.parts.map (text d)) [44] ++ [93])).length + 1 ≤ 12 * (1 + (t.parts.map (nodes d)).sum)
   simp
   omega
theorem sum_mem (g : Tr → Nat) : ∀ (xs : List Tr) (x : Tr), x ∈ xs → g x ≤ (xs.map g).sum
 | y :: l, x, h => by
   rw [List.map_cons, List.sum_cons]
   rcases List.mem_cons.1 h with rfl | h
   · omega
   · have := sum_mem g l x h; omega
theorem nodes_part {d : Nat} {t x : Tr} (h : x ∈ t.parts) : nodes d x ≤ nodes (d + 1) t := by
 have := sum_mem (nodes d) t.parts x h
 show _ ≤ 1 + _
 omega
theorem nodes_pos : ∀ (d : Nat) (t : Tr), 1 ≤ nodes d t
 | 0, _ => Nat.le_refl _
 | d + 1, t => by show 1 ≤ 1 + _; omega
theorem sum_len (g : Tr → Nat) (h : ∀ x, 1 ≤ g x) : ∀ xs : List Tr, xs.length ≤ (xs.map g).sum
 | [] => by simp
 | x :: l => by
   have h1 := h x
   have h2 := sum_len g h l
   rw [List.map_cons, List.sum_cons, List.length_cons]
   omega
theorem parts_len (d : Nat) (t : Tr) : t.parts.length + 1 ≤ nodes (d + 1) t := by
 have := sum_len (nodes d) (nodes_pos d) t.parts
 show _ ≤ 1 + _
 omega
theorem getD_map {α : Type} (f : Tr → α) (xs : List Tr) (i : Nat) (z : α) (h : i < xs.length) : (xs.map f).getD i z = f xs[i] := by
 rw [List.getD_eq_getElem?_getD, List.getElem?_map, List.getElem?_eq_getElem h]
 rfl
theorem join_snoc : ∀ (xs : List By) (x : By), xs ≠ [] → Lib.join (xs ++ [x]) [44] = Lib.join xs [44] ++ 44 :: x
 | [], x, h => absurd rfl h
 | [y], x, _ => by rw [List.singleton_append, join_cons, join_one, join_one]
 | y :: z :: l, x, _ => by
   have := join_snoc (z :: l) x (by simp)
   rw [List.cons_append, List.cons_append, join_cons, join_cons, ← List.cons_append, this]
   simp
theorem take_snoc {α : Type} (xs : List α) (i : Nat) (h : i < xs.length) : xs.take (i + 1) = xs.take i ++ [xs[i]] := List.take_succ_eq_append_getElem h
theorem join_take (f : Tr → By) (xs : List Tr) (i : Nat) (h : i < xs.length) (h0 : 0 < i) : Lib.join ((xs.take (i + 1)).map f) [44] = Lib.join ((xs.take i).map f) [44] ++ 44 :: f xs[i] := by
 rw [take_snoc xs i h, List.map_append, List.map_cons, List.map_nil, join_snoc]
 intro e
 have := congrArg List.length e
 rw [List.length_map, List.length_take, List.length_nil] at this
 omega
theorem join_take_le (f : Tr → By) (xs : List Tr) : ∀ i, i ≤ xs.length → (Lib.join ((xs.take i).map f) [44]).length ≤ (Lib.join (xs.map f) [44]).length := by
 have main : ∀ n i, xs.length - i = n → i ≤ xs.length → (Lib.join ((xs.take i).map f) [44]).length ≤ (Lib.join (xs.map f) [44]).length := by
   intro n
   induction n with
   | zero => intro i h hi; rw [List.take_of_length_le (by omega)]; exact Nat.le_refl _
   | succ n ih =>
     intro i h hi
     refine Nat.le_trans ?_ (ih (i + 1) (by omega) (by omega))
     rcases Nat.eq_zero_or_pos i with rfl | h0
     · simp [Lib.join_nil]
     · rw [join_take f xs i (by omega) h0, List.length_append]
       omega
 exact fun i hi => main _ i rfl hi
def TextS (d : Nat) : Prop := ∀ t, Sh d t → nodes d t ≤ 1000000000 → Ev (fun k => spec_l1Text.f k (cS d t).f0 (cS d t).f1 (d : Int)) (BA (text d t))
theorem textS_l0 (d : Nat) (hd : d ≤ 1000) (ih : TextS d) (t : Tr) (hs : Sh (d + 1) t) (hn : nodes (d + 1) t ≤ 1000000000) :
   ∀ (n i : Nat), t.parts.length - i = n → i ≤ t.parts.length → Ev (fun k => spec_l1Text.l0 k ((d + 1 : Nat) : Int) (BA (91 :: Lib.join ((t.parts.take i).map (text d)) [44])) (t.parts.map (cS d)) ((t.parts.map (cS d)).length : Int) (i : Int)) (BA (text (d + 1) t)) := by
 have hpl := parts_len d t
 have htl := text_le (d + 1) t hs
 have hte : (text (d + 1) t).length = (Lib.join (t.parts.map (text d)) [44]).length + 2 := by simp [text]
 intro n
 induction n with
 | zero =>
   intro i h hi
   refine Ev.step' ?_; simp only [spec_l1Text.l0]
   rw [List.take_of_length_le (by omega)]
   refine Ev.neg (by rw [List.length_map]; omega) (Ev.pos (by simp; omega) (Ev.val ?_))
   show BA _ ++ BA [93] = _
   rw [BA_append]
   rfl
 | succ n ihn =>
   intro i h hi
   have hlt : i < t.parts.length := by omega
   have hjl := join_take_le (text d) t.parts i hi
   have hjl2 := join_take_le (text d) t.parts (i + 1) (by omega)
   have hm : t.parts[i] ∈ t.parts := List.getElem_mem hlt
   have hx := ih t.parts[i] (hs _ hm) (by have := nodes_part (d := d) hm; omega)
   have hg : rd_T95 (t.parts.map (cS d)) (i : Int) = cS d t.parts[i] := getD_map _ _ _ _ hlt
   refine Ev.step' ?_; simp only [spec_l1Text.l0]
   refine Ev.pos (by rw [List.length_map]; omega) (Ev.pos (by omega) (Ev.pos (by rw [List.length_map]; omega) ?_))
   rw [hg, show wrap64 (((d + 1 : Nat) : Int) - 1) = (d : Int) by rw [wrapS (by omega) (by omega)]; omega, wrapS (a := (i : Int) + 1) (by omega) (by omega)]
   have hnext := ihn (i + 1) (by omega) (by omega)
   rcases Nat.eq_zero_or_pos i with rfl | h0
   · refine Ev.neg (by simp) (Ev.bind hx ?_)
     rw [take_snoc _ 0 hlt] at hnext hjl2
     simp only [List.take_zero, List.nil_append, List.map_cons, List.map_nil, join_one] at hnext hjl2
     refine Ev.pos (by simp [Lib.join_nil]; omega) ?_
     rw [BA_append]
     exact hnext
   · rw [join_take _ _ _ hlt h0] at hnext hjl2
     rw [List.length_append, List.length_cons] at hjl2
     refine Ev.pos (by omega) (Ev.pos (by simp only [BA_size, List.length_cons]; omega) (Ev.bind hx (Ev.pos (by simp only [BA_size, List.length_cons]; omega) ?_)))
     have e : BA (91 :: Lib.join ((t.parts.take i).map (text d)) [44]) ++ (⟨#[44]⟩ : ByteArray) ++ BA (text d t.parts[i]) = BA (91 :: (Lib.join ((t.parts.take i).map (text d)) [44] ++ 44 :: text d t.parts[i])) := by
       show BA _ ++ BA [44] ++ BA _ = _
       rw [BA_append, BA_append]
       simp
     rw [e]
     exact hnext
theorem textS_is : ∀ d, d ≤ 1000 → TextS d
 | 0, _ => by
   intro t hs hn
   refine Ev.step' ?_; simp only [spec_l1Text.f]
   have h9 : t.n < 1000000000 := hs
   refine Ev.pos (by first | trivial | rfl) (Ev.bind (l13Dec_is t.n (by omega)) (Ev.val rfl))
 | d + 1, hd => by
   intro t hs hn
   refine Ev.step' ?_; simp only [spec_l1Text.f]
   exact Ev.neg (by omega) (textS_l0 d (by omega) (textS_is d (by omega)) t hs hn _ 0 rfl (by omega))

def TextA (d : Nat) : Prop := ∀ t, Sh d t → nodes d t ≤ 1000000000 → Ev (fun k => impl_arr_text.f k (cA d t).f0 (cA d t).f1 (d : Int)) (BA (text d t))
theorem textA_l0 (d : Nat) (hd : d ≤ 1000) (ih : TextA d) (t : Tr) (hs : Sh (d + 1) t) (hn : nodes (d + 1) t ≤ 1000000000) :
   ∀ (n i : Nat), t.parts.length - i = n → i ≤ t.parts.length → Ev (fun k => impl_arr_text.l0 k ((d + 1 : Nat) : Int) ((t.parts.take i).map fun x => BA (text d x)) (t.parts.map (cA d)) ((t.parts.map (cA d)).length : Int) (i : Int)) (BA (text (d + 1) t)) := by
 have hpl := parts_len d t
 have htl := text_le (d + 1) t hs
 have hte : (text (d + 1) t).length = (Lib.join (t.parts.map (text d)) [44]).length + 2 := by simp [text]
 intro n
 induction n with
 | zero =>
   intro i h hi
   refine Ev.step' ?_; simp only [impl_arr_text.l0]
   rw [List.take_of_length_le (by omega)]
   refine Ev.neg (by rw [List.length_map]; omega) ?_
   have hj : strings_Join.f (t.parts.map fun x => BA (text d x)) (⟨#[44]⟩ : ByteArray) = some (BA (Lib.join (t.parts.map (text d)) [44])) := by
     have e : (t.parts.map fun x => BA (text d x)).map (·.data.toList) = t.parts.map (text d) := by
       rw [List.map_map]
       apply List.map_congr_left
       intro x _
       exact data_BA _
     unfold strings_Join.f
     rw [e, if_pos (by rw [List.length_map]; omega), if_pos (by show (Lib.join (t.parts.map (text d)) [44]).length ≤ _; omega)]
     rfl
   refine Ev.call hj (Ev.pos (by simp; omega) (Ev.pos (by simp; omega) (Ev.val ?_)))
   show BA [91] ++ BA _ ++ BA [93] = _
   rw [BA_append, BA_append]
   rfl
 | succ n ihn =>
   intro i h hi
   have hlt : i < t.parts.length := by omega
   have hm : t.parts[i] ∈ t.parts := List.getElem_mem hlt
   have hx := ih t.parts[i] (hs _ hm) (by have := nodes_part (d := d) hm; omega)
   have hg : rd_T84 (t.parts.map (cA d)) (i : Int) = cA d t.parts[i] := getD_map _ _ _ _ hlt
   refine Ev.step' ?_; simp only [impl_arr_text.l0]
   refine Ev.pos (by rw [List.length_map]; omega) (Ev.pos (by omega) (Ev.pos (by rw [List.length_map]; omega) ?_))
   rw [hg, show wrap64 (((d + 1 : Nat) : Int) - 1) = (d : Int) by rw [wrapS (by omega) (by omega)]; omega, wrapS (a := (i : Int) + 1) (by omega) (by omega)]
   have hnext := ihn (i + 1) (by omega) (by omega)
   refine Ev.bind hx (Ev.pos (by rw [List.length_map, List.length_take]; omega) ?_)
   rw [take_snoc _ _ hlt, List.map_append] at hnext
   exact hnext
theorem textA_is : ∀ d, d ≤ 1000 → TextA d
 | 0, _ => by
   intro t hs hn
   refine Ev.step' ?_; simp only [impl_arr_text.f]
   have h9 : t.n < 1000000000 := hs
   have hi : strconv_Itoa.f (t.n : Int) = some (BA (Lib.decDigits t.n)) := by
     unfold strconv_Itoa.f
     rw [if_pos (by omega), if_pos (by omega), itoa_nat]
     rfl
   refine Ev.pos (by first | trivial | rfl) (Ev.call hi (Ev.val rfl))
 | d + 1, hd => by
   intro t hs hn
   refine Ev.step' ?_; simp only [impl_arr_text.f]
   exact Ev.neg (by omega) (textA_l0 d (by omega) (textA_is d (by omega)) t hs hn _ 0 rfl (by omega))

def told (l : By) : ByteArray × Bool := if l.length ≤ 400 then (BA l, true) else (BA [], false)
theorem nodes_le_text : ∀ (d : Nat) (t : Tr), nodes d t ≤ (text d t).length
 | 0, t => by
   have := List.length_pos_iff.2 (dec_ne t.n)
   exact this
 | d + 1, t => by
   have h := join_len2 (text d) (nodes d) t.parts (fun x _ => nodes_le_text d x)
   show 1 + _ ≤ (91 :: (Lib.join (t.parts.map (text d)) [44] ++ [93])).length
   simp
   omega
abbrev ints (l : List Nat) : List Int := l.map (fun n : Nat => (n : Int))
theorem nums_le : ∀ (d : Nat) (t : Tr), (Q.nums d t).length ≤ nodes d t
 | 0, t => Nat.le_refl _
 | d + 1, t => by
   show ((t.parts.map (Q.nums d)).flatten).length ≤ 1 + (t.parts.map (nodes d)).sum
   have : ∀ xs : List Tr, ((xs.map (Q.nums d)).flatten).length ≤ (xs.map (nodes d)).sum := by
     intro xs
     induction xs with
     | nil => exact Nat.le_refl _
     | cons x l ih =>
       have := nums_le d x
       rw [List.map_cons, List.flatten_cons, List.length_append, List.map_cons, List.sum_cons]
       omega
   have := this t.parts
   omega
theorem flat_take_le (f : Tr → List Nat) (xs : List Tr) (i : Nat) : (((xs.take i).map f).flatten).length ≤ ((xs.map f).flatten).length := by
 conv => rhs; rw [← List.take_append_drop i xs, List.map_append, List.flatten_append, List.length_append]
 omega
theorem flat_snoc (f : Tr → List Nat) (xs : List Tr) (i : Nat) (h : i < xs.length) : ((xs.take (i + 1)).map f).flatten = ((xs.take i).map f).flatten ++ f xs[i] := by
 rw [take_snoc _ _ h, List.map_append, List.flatten_append]
 simp
def NumsS (d : Nat) : Prop := ∀ t, nodes d t ≤ 1000000000 → Ev (fun k => spec_l1Numbers.f k (cS d t).f0 (cS d t).f1 (d : Int)) (ints (Q.nums d t))
theorem numsS_l0 (d : Nat) (hd : d ≤ 1000) (ih : NumsS d) (t : Tr) (hn : nodes (d + 1) t ≤ 1000000000) :
   ∀ (n i : Nat), t.parts.length - i = n → i ≤ t.parts.length → Ev (fun k => spec_l1Numbers.l0 k ((d + 1 : Nat) : Int) (ints ((t.parts.take i).map (Q.nums d)).flatten) (t.parts.map (cS d)) ((t.parts.map (cS d)).length : Int) (i : Int)) (ints (Q.nums (d + 1) t)) := by
 have hpl := parts_len d t
 have hnl := nums_le (d + 1) t
 have hnl' : ((t.parts.map (Q.nums d)).flatten).length ≤ nodes (d + 1) t := hnl
 intro n
 induction n with
 | zero =>
   intro i h hi
   refine Ev.step' ?_; simp only [spec_l1Numbers.l0]
   rw [List.take_of_length_le (by omega)]
   exact Ev.neg (by rw [List.length_map]; omega) (Ev.val rfl)
 | succ n ihn =>
   intro i h hi
   have hlt : i < t.parts.length := by omega
   have hm : t.parts[i] ∈ t.parts := List.getElem_mem hlt
   have hx := ih t.parts[i] (by have := nodes_part (d := d) hm; omega)
   have hg : rd_T95 (t.parts.map (cS d)) (i : Int) = cS d t.parts[i] := getD_map _ _ _ _ hlt
   have hf := flat_take_le (Q.nums d) t.parts (i + 1)
   rw [flat_snoc _ _ _ hlt, List.length_append] at hf
   have hnext := ihn (i + 1) (by omega) (by omega)
   rw [flat_snoc _ _ _ hlt] at hnext
   refine Ev.step' ?_; simp only [spec_l1Numbers.l0]
   refine Ev.pos (by rw [List.length_map]; omega) (Ev.pos (by omega) (Ev.pos (by rw [List.length_map]; omega) ?_))
   rw [hg, show wrap64 (((d + 1 : Nat) : Int) - 1) = (d : Int) by rw [wrapS (by omega) (by omega)]; omega, wrapS (a := (i : Int) + 1) (by omega) (by omega)]
   refine Ev.bind hx (Ev.pos (by rw [List.length_map, List.length_map]; omega) ?_)
   rw [ints, List.map_append] at hnext
   exact hnext
theorem numsS_is : ∀ d, d ≤ 1000 → NumsS d
 | 0, _ => by
   intro t hn
   refine Ev.step' ?_; simp only [spec_l1Numbers.f]
   exact Ev.pos (by first | trivial | rfl) (Ev.val rfl)
 | d + 1, hd => by
   intro t hn
   refine Ev.step' ?_; simp only [spec_l1Numbers.f]
   exact Ev.neg (by omega) (numsS_l0 d (by omega) (numsS_is d (by omega)) t hn _ 0 rfl (by omega))
def NumsA (d : Nat) : Prop := ∀ t, nodes d t ≤ 1000000000 → Ev (fun k => impl_arr_numbers.f k (cA d t).f0 (cA d t).f1 (d : Int)) (ints (Q.nums d t))
theorem numsA_l0 (d : Nat) (hd : d ≤ 1000) (ih : NumsA d) (t : Tr) (hn : nodes (d + 1) t ≤ 1000000000) :
   ∀ (n i : Nat), t.parts.length - i = n → i ≤ t.parts.length → Ev (fun k => impl_arr_numbers.l0 k ((d + 1 : Nat) : Int) (ints ((t.parts.take i).map (Q.nums d)).flatten) (t.parts.map (cA d)) ((t.parts.map (cA d)).length : Int) (i : Int)) (ints (Q.nums (d + 1) t)) := by
 have hpl := parts_len d t
 have hnl := nums_le (d + 1) t
 have hnl' : ((t.parts.map (Q.nums d)).flatten).length ≤ nodes (d + 1) t := hnl
 intro n
 induction n with
 | zero =>
   intro i h hi
   refine Ev.step' ?_; simp only [impl_arr_numbers.l0]
   rw [List.take_of_length_le (by omega)]
   exact Ev.neg (by rw [List.length_map]; omega) (Ev.val rfl)
 | succ n ihn =>
   intro i h hi
   have hlt : i < t.parts.length := by omega
   have hm : t.parts[i] ∈ t.parts := List.getElem_mem hlt
   have hx := ih t.parts[i] (by have := nodes_part (d := d) hm; omega)
   have hg : rd_T84 (t.parts.map (cA d)) (i : Int) = cA d t.parts[i] := getD_map _ _ _ _ hlt
   have hf := flat_take_le (Q.nums d) t.parts (i + 1)
   rw [flat_snoc _ _ _ hlt, List.length_append] at hf
   have hnext := ihn (i + 1) (by omega) (by omega)
   rw [flat_snoc _ _ _ hlt] at hnext
   refine Ev.step' ?_; simp only [impl_arr_numbers.l0]
   refine Ev.pos (by rw [List.length_map]; omega) (Ev.pos (by omega) (Ev.pos (by rw [List.length_map]; omega) ?_))
   rw [hg, show wrap64 (((d + 1 : Nat) : Int) - 1) = (d : Int) by rw [wrapS (by omega) (by omega)]; omega, wrapS (a := (i : Int) + 1) (by omega) (by omega)]
   refine Ev.bind hx (Ev.pos (by rw [List.length_map, List.length_map]; omega) ?_)
   rw [ints, List.map_append] at hnext
   exact hnext
theorem numsA_is : ∀ d, d ≤ 1000 → NumsA d
 | 0, _ => by
   intro t hn
   refine Ev.step' ?_; simp only [impl_arr_numbers.f]
   exact Ev.pos (by first | trivial | rfl) (Ev.val rfl)
 | d + 1, hd => by
   intro t hn
   refine Ev.step' ?_; simp only [impl_arr_numbers.f]
   exact Ev.neg (by omega) (numsA_l0 d (by omega) (numsA_is d (by omega)) t hn _ 0 rfl (by omega))
theorem toldS_is (d : Nat) (hd : d ≤ 1000) (t : Tr) (hs : Sh d t) (hn : nodes d t ≤ 1000000000) : Ev (fun k => spec_l1Told.f k (cS d t).f0 (cS d t).f1 (d : Int)) (told (text d t)) := by
 unfold spec_l1Told.f told
 refine Ev.bind (textS_is d hd t hs hn) ?_
 by_cases h : (text d t).length ≤ 400
 · rw [if_pos h]
   exact Ev.neg (by rw [BA_size]; omega) (Ev.now _)
 · rw [if_neg h]
   exact Ev.pos (by rw [BA_size]; omega) (Ev.now _)
theorem shortA_is (d : Nat) (hd : d ≤ 1000) (t : Tr) (hs : Sh d t) (hn : nodes d t ≤ 1000000000) : Ev (fun k => impl_arr_short.f k (cA d t).f0 (cA d t).f1 (d : Int)) (told (text d t)) := by
 unfold impl_arr_short.f told
 refine Ev.bind (textA_is d hd t hs hn) ?_
 by_cases h : (text d t).length ≤ 400
 · rw [if_pos h]
   exact Ev.neg (by rw [BA_size]; omega) (Ev.now _)
 · rw [if_neg h]
   exact Ev.pos (by rw [BA_size]; omega) (Ev.now _)
/-- The rows of an array of two levels. -/
def rowsN (t : Tr) : List (List Nat) := t.parts.map (Q.nums 1)
abbrev intsL (R : List (List Nat)) : List (List Int) := R.map ints
theorem rowsOf_l0 (t : Tr) (ok : Bool) (hn : nodes 2 t ≤ 1000000000) : ∀ (n i : Nat), t.parts.length - i = n → i ≤ t.parts.length →
   Ev (fun k => impl_rowsOf.l0 k ok (intsL ((t.parts.take i).map (Q.nums 1))) (t.parts.map (cA 1)) ((t.parts.map (cA 1)).length : Int) (i : Int)) (intsL (rowsN t), ok) := by
 have hpl : t.parts.length + 1 ≤ nodes 2 t := parts_len 1 t
 intro n
 induction n with
 | zero =>
   intro i h hi
   refine Ev.step' ?_; simp only [impl_rowsOf.l0]
   rw [List.take_of_length_le (by omega)]
   exact Ev.neg (by rw [List.length_map]; omega) (Ev.val rfl)
 | succ n ihn =>
   intro i h hi
   have hlt : i < t.parts.length := by omega
   have hm : t.parts[i] ∈ t.parts := List.getElem_mem hlt
   have hx := numsA_is 1 (by omega) t.parts[i] (by have : nodes 1 t.parts[i] ≤ nodes 2 t := nodes_part hm; omega)
   have hg : rd_T84 (t.parts.map (cA 1)) (i : Int) = cA 1 t.parts[i] := getD_map _ _ _ _ hlt
   have hnext := ihn (i + 1) (by omega) (by omega)
   rw [take_snoc _ _ hlt, List.map_append, intsL, List.map_append] at hnext
   refine Ev.step' ?_; simp only [impl_rowsOf.l0]
   refine Ev.pos (by rw [List.length_map]; omega) (Ev.pos (by omega) (Ev.pos (by rw [List.length_map]; omega) ?_))
   rw [hg, wrapS (a := (i : Int) + 1) (by omega) (by omega)]
   exact Ev.bind hx (Ev.pos (by rw [List.length_map, List.length_map, List.length_take]; omega) hnext)
/-- Rows within what a text of 402 bytes can hold. -/
def RowsOk (R : List (List Nat)) : Prop := R.length ≤ 500 ∧ ∀ r ∈ R, r.length ≤ 500 ∧ ∀ n ∈ r, n < 10007
theorem nums_ok : ∀ (d : Nat) (t : Tr), Ok d t → ∀ n ∈ Q.nums d t, n < 10007
 | 0, t, h, n, hn => by
   obtain rfl := List.mem_singleton.1 hn
   exact h.1
 | d + 1, t, h, n, hn => by
   obtain ⟨l, hl, hnl⟩ := List.mem_flatten.1 hn
   obtain ⟨x, hx, rfl⟩ := List.mem_map.1 hl
   exact nums_ok d x (h.2 x hx) n hnl
theorem rowsN_ok {t : Tr} (h : Ok 2 t) (hl : (text 2 t).length ≤ 402) : RowsOk (rowsN t) := by
 have hn := nodes_le_text 2 t
 have hp : t.parts.length + 1 ≤ nodes 2 t := parts_len 1 t
 refine ⟨by rw [rowsN, List.length_map]; omega, ?_⟩
 intro r hr
 obtain ⟨x, hx, rfl⟩ := List.mem_map.1 hr
 have h1 : nodes 1 x ≤ nodes 2 t := nodes_part hx
 have h2 := nums_le 1 x
 exact ⟨by omega, nums_ok 1 x (h.2 x hx)⟩
theorem rowsOf_is (l : By) : ∃ R, Ev (fun k => impl_rowsOf.f k (BA l)) (intsL R, (readD 2 l).isSome) ∧ RowsOk R ∧ ∀ v, readD 2 l = some v → R = rowsN v := by
 obtain ⟨t, h1, h2, h3, h4⟩ := arrOf_is 2 (by omega) l
 refine ⟨rowsN t, ?_, rowsN_ok h2 h3, fun v hv => by rw [h4 v hv]⟩
 unfold impl_rowsOf.f
 refine Ev.bind h1 ?_
 exact rowsOf_l0 t _ (by have := nodes_le_text 2 t; omega) _ 0 rfl (by omega)
def mkR (r : List Nat) : Tr := ⟨0, r.map fun n => ⟨n, []⟩⟩
def mkT (R : List (List Nat)) : Tr := ⟨0, R.map mkR⟩
theorem mkT_sh {R : List (List Nat)} (h : ∀ r ∈ R, ∀ n ∈ r, n < 1000000000) : Sh 2 (mkT R) := by
 intro x hx
 obtain ⟨r, hr, rfl⟩ := List.mem_map.1 hx
 intro y hy
 obtain ⟨n, hn, rfl⟩ := List.mem_map.1 hy
 exact h r hr n hn
theorem nodes_mkR (r : List Nat) : nodes 1 (mkR r) = 1 + r.length := by
 show 1 + ((r.map fun n => (⟨n, []⟩ : Tr)).map (nodes 0)).sum = _
 rw [List.map_map]
 congr 1
 induction r with
 | nil => rfl
 | cons n r ih => rw [List.map_cons, List.sum_cons, ih, List.length_cons]; show 1 + _ = _; omega
theorem nodes_mkT : ∀ (R : List (List Nat)) (m : Nat), (∀ r ∈ R, r.length ≤ m) → nodes 2 (mkT R) ≤ 1 + R.length * (1 + m) := by
 intro R m h
 show 1 + ((R.map mkR).map (nodes 1)).sum ≤ _
 have : ((R.map mkR).map (nodes 1)).sum ≤ R.length * (1 + m) := by
   induction R with
   | nil => simp
   | cons r R ih =>
     have h1 := h r (by simp)
     have h2 := ih (fun r hr => h r (List.mem_cons_of_mem _ hr))
     rw [List.map_cons, List.map_cons, List.sum_cons, nodes_mkR, List.length_cons, Nat.add_mul, Nat.one_mul]
     omega
 omega
theorem RowsOk.sh {R : List (List Nat)} (h : RowsOk R) : Sh 2 (mkT R) ∧ nodes 2 (mkT R) ≤ 1000000000 := by
 refine ⟨mkT_sh (fun r hr n hn => by have := (h.2 r hr).2 n hn; omega), ?_⟩
 have h1 := nodes_mkT R 500 (fun r hr => (h.2 r hr).1)
 have h2 := Nat.mul_le_mul_right (1 + 500) h.1
 omega
theorem getD_mapL {α β : Type} (f : β → α) (xs : List β) (i : Nat) (z : α) (h : i < xs.length) : (xs.map f).getD i z = f xs[i] := by
 rw [List.getD_eq_getElem?_getD, List.getElem?_map, List.getElem?_eq_getElem h]
 rfl
theorem rowedA_l1 (X : List (List Int)) (x13 : Int) (j : Nat) (hj : j ≤ 1000000) (r : List Nat) (hr : r.length ≤ 1000000) (acc : List NA) (hacc : acc.length ≤ 1000000) (res : ByteArray × Bool)
   (hgo : Ev (fun k => impl_rowed.l0 k X x13 ((j + 1 : Nat) : Int) 0 (acc ++ [cA 1 (mkR r)])) res) :
   ∀ (n i : Nat), r.length - i = n → i ≤ r.length → Ev (fun k => impl_rowed.l1 k X x13 (j : Int) (ints r) ((ints r).length : Int) (i : Int) 0 acc 0 ((r.take i).map fun m : Nat => (⟨(m : Int), []⟩ : NA))) res := by
 intro n
 induction n with
 | zero =>
   intro i h hi
   refine Ev.step' ?_; simp only [impl_rowed.l1]
   rw [List.take_of_length_le (by omega)]
   refine Ev.neg (by rw [List.length_map]; omega) (Ev.pos (by omega) ?_)
   rw [wrapS (a := (j : Int) + 1) (by omega) (by omega)]
   have e : cA 1 (mkR r) = ⟨0, r.map fun m : Nat => (⟨(m : Int), []⟩ : NA)⟩ := by
     show (⟨_, _⟩ : NA) = _
     congr 1
     rw [mkR, List.map_map]
     rfl
   rw [e] at hgo
   exact hgo
 | succ n ihn =>
   intro i h hi
   have hlt : i < r.length := by omega
   have hg : rd (ints r) (i : Int) = (r[i] : Int) := getD_mapL _ _ _ _ hlt
   have hnext := ihn (i + 1) (by omega) (by omega)
   rw [take_snoc _ _ hlt, List.map_append] at hnext
   refine Ev.step' ?_; simp only [impl_rowed.l1]
   refine Ev.pos (by rw [List.length_map]; omega) (Ev.pos (by omega) (Ev.pos (by rw [List.length_map]; omega) (Ev.pos (by rw [List.length_map, List.length_take]; omega) ?_)))
   rw [hg, wrapS (a := (i : Int) + 1) (by omega) (by omega)]
   exact hnext
theorem rowedA_l0 (R : List (List Nat)) (h : RowsOk R) : ∀ (n i : Nat), R.length - i = n → i ≤ R.length →
   Ev (fun k => impl_rowed.l0 k (intsL R) ((intsL R).length : Int) (i : Int) 0 ((R.take i).map fun r => cA 1 (mkR r))) (told (text 2 (mkT R))) := by
 obtain ⟨h1, h2⟩ := h.sh
 have hs := shortA_is 2 (by omega) (mkT R) h1 h2
 intro n
 induction n with
 | zero =>
   intro i hd hi
   refine Ev.step' ?_; simp only [impl_rowed.l0]
   rw [List.take_of_length_le (by omega)]
   refine Ev.neg (by rw [List.length_map]; omega) ?_
   have e : (cA 2 (mkT R)).f1 = R.map fun r => cA 1 (mkR r) := by
     show (R.map mkR).map (cA 1) = _
     rw [List.map_map]
     rfl
   rw [e] at hs
   exact Ev.bind hs (Ev.val rfl)
 | succ n ihn =>
   intro i hd hi
   have hlt : i < R.length := by omega
   have hg : rd_L3 (intsL R) (i : Int) = ints R[i] := getD_mapL _ _ _ _ hlt
   have hr := (h.2 R[i] (List.getElem_mem hlt)).1
   have hnext := ihn (i + 1) (by omega) (by omega)
   rw [take_snoc _ _ hlt, List.map_append] at hnext
   have hR := h.1
   refine Ev.step' ?_; simp only [impl_rowed.l0]
   refine Ev.pos (by rw [List.length_map]; omega) (Ev.pos (by omega) (Ev.pos (by rw [List.length_map]; omega) ?_))
   rw [hg]
   exact rowedA_l1 _ _ i (by omega) R[i] (by omega) _ (by rw [List.length_map, List.length_take]; omega) _ hnext _ 0 rfl (by omega)
theorem rowed_is (R : List (List Nat)) (h : RowsOk R) : Ev (fun k => impl_rowed.f k (intsL R)) (told (text 2 (mkT R))) := by
 unfold impl_rowed.f
 exact rowedA_l0 R h _ 0 rfl (by omega)
theorem rowsS_l1 (X : List (List Int)) (x13 : Int) (j : Nat) (hj : j ≤ 1000000) (r : List Nat) (hr : r.length ≤ 1000000) (acc : List NS) (hacc : acc.length ≤ 1000000) (res : ByteArray × Bool)
   (hgo : Ev (fun k => spec_l11Text.l0 k X x13 ((j + 1 : Nat) : Int) 0 (acc ++ [cS 1 (mkR r)])) res) :
   ∀ (n i : Nat), r.length - i = n → i ≤ r.length → Ev (fun k => spec_l11Text.l1 k X x13 (j : Int) (ints r) ((ints r).length : Int) (i : Int) 0 acc 0 ((r.take i).map fun m : Nat => (⟨(m : Int), []⟩ : NS))) res := by
 intro n
 induction n with
 | zero =>
   intro i h hi
   refine Ev.step' ?_; simp only [spec_l11Text.l1]
   rw [List.take_of_length_le (by omega)]
   refine Ev.neg (by rw [List.length_map]; omega) (Ev.pos (by omega) ?_)
   rw [wrapS (a := (j : Int) + 1) (by omega) (by omega)]
   have e : cS 1 (mkR r) = ⟨0, r.map fun m : Nat => (⟨(m : Int), []⟩ : NS)⟩ := by
     show (⟨_, _⟩ : NS) = _
     congr 1
     rw [mkR, List.map_map]
     rfl
   rw [e] at hgo
   exact hgo
 | succ n ihn =>
   intro i h hi
   have hlt : i < r.length := by omega
   have hg : rd (ints r) (i : Int) = (r[i] : Int) := getD_mapL _ _ _ _ hlt
   have hnext := ihn (i + 1) (by omega) (by omega)
   rw [take_snoc _ _ hlt, List.map_append] at hnext
   refine Ev.step' ?_; simp only [spec_l11Text.l1]
   refine Ev.pos (by rw [List.length_map]; omega) (Ev.pos (by omega) (Ev.pos (by rw [List.length_map]; omega) (Ev.pos (by rw [List.length_map, List.length_take]; omega) ?_)))
   rw [hg, wrapS (a := (i : Int) + 1) (by omega) (by omega)]
   exact hnext
theorem rowsS_l0 (R : List (List Nat)) (h : RowsOk R) : ∀ (n i : Nat), R.length - i = n → i ≤ R.length →
   Ev (fun k => spec_l11Text.l0 k (intsL R) ((intsL R).length : Int) (i : Int) 0 ((R.take i).map fun r => cS 1 (mkR r))) (told (text 2 (mkT R))) := by
 obtain ⟨h1, h2⟩ := h.sh
 have hs := toldS_is 2 (by omega) (mkT R) h1 h2
 intro n
 induction n with
 | zero =>
   intro i hd hi
   refine Ev.step' ?_; simp only [spec_l11Text.l0]
   rw [List.take_of_length_le (by omega)]
   refine Ev.neg (by rw [List.length_map]; omega) ?_
   have e : (cS 2 (mkT R)).f1 = R.map fun r => cS 1 (mkR r) := by
     show (R.map mkR).map (cS 1) = _
     rw [List.map_map]
     rfl
   rw [e] at hs
   exact Ev.bind hs (Ev.val rfl)
 | succ n ihn =>
   intro i hd hi
   have hlt : i < R.length := by omega
   have hg : rd_L3 (intsL R) (i : Int) = ints R[i] := getD_mapL _ _ _ _ hlt
   have hr := (h.2 R[i] (List.getElem_mem hlt)).1
   have hnext := ihn (i + 1) (by omega) (by omega)
   rw [take_snoc _ _ hlt, List.map_append] at hnext
   have hR := h.1
   refine Ev.step' ?_; simp only [spec_l11Text.l0]
   refine Ev.pos (by rw [List.length_map]; omega) (Ev.pos (by omega) (Ev.pos (by rw [List.length_map]; omega) ?_))
   rw [hg]
   exact rowsS_l1 _ _ i (by omega) R[i] (by omega) _ (by rw [List.length_map, List.length_take]; omega) _ hnext _ 0 rfl (by omega)
theorem textR_is (R : List (List Nat)) (h : RowsOk R) : Ev (fun k => spec_l11Text.f k (intsL R)) (told (text 2 (mkT R))) := by
 unfold spec_l11Text.f
 exact rowsS_l0 R h _ 0 rfl (by omega)
/-- An array put behind a layout, from a level on. -/
def layT : Nat → Tr → Nat → List (List Int) × List Int → List (List Int) × List Int
 | 0, t, _, s => (s.1, s.2 ++ [(t.n : Int)])
 | d + 1, t, j, s => t.parts.foldl (fun s x => layT d x (j + 1) s) (s.1.set j (s.1.getD j [] ++ [(t.parts.length : Int)]), s.2)
def Bd (B : Nat) (s : List (List Int) × List Int) : Prop := s.2.length ≤ B ∧ ∀ r ∈ s.1, r.length ≤ B
theorem Bd.mono {B C : Nat} {s : List (List Int) × List Int} (h : Bd B s) (hc : B ≤ C) : Bd C s := ⟨Nat.le_trans h.1 hc, fun r hr => Nat.le_trans (h.2 r hr) hc⟩
theorem getD_bd {B : Nat} {L : List (List Int)} (h : ∀ r ∈ L, r.length ≤ B) (j : Nat) : (L.getD j []).length ≤ B := by
 rw [List.getD_eq_getElem?_getD]
 by_cases hj : j < L.length
 · rw [List.getElem?_eq_getElem hj]
   exact h _ (List.getElem_mem hj)
 · rw [List.getElem?_eq_none (by omega)]
   exact Nat.zero_le _
theorem set_bd {B : Nat} {L : List (List Int)} {D : List Int} (h : Bd B (L, D)) (j : Nat) (x : Int) : Bd (B + 1) (L.set j (L.getD j [] ++ [x]), D) := by
 refine ⟨Nat.le_succ_of_le h.1, fun r hr => ?_⟩
 rcases List.mem_or_eq_of_mem_set hr with hr | rfl
 · exact Nat.le_succ_of_le (h.2 r hr)
 · have := getD_bd h.2 j
   rw [List.length_append]
   exact Nat.succ_le_succ this
theorem layT_bd : ∀ (d : Nat) (t : Tr) (j : Nat) (s : List (List Int) × List Int) (B : Nat), Bd B s → (layT d t j s).1.length = s.1.length ∧ Bd (B + nodes d t) (layT d t j s)
 | 0, t, j, s, B, h => by
   refine ⟨rfl, ?_, fun r hr => Nat.le_succ_of_le (h.2 r hr)⟩
   show (s.2 ++ [(t.n : Int)]).length ≤ B + 1
   rw [List.length_append]
   exact Nat.succ_le_succ h.1
 | d + 1, t, j, s, B, h => by
   have main : ∀ (xs : List Tr) (s : List (List Int) × List Int) (B : Nat), Bd B s → (xs.foldl (fun s x => layT d x (j + 1) s) s).1.length = s.1.length ∧ Bd (B + (xs.map (nodes d)).sum) (xs.foldl (fun s x => layT d x (j + 1) s) s) := by
     intro xs
     induction xs with
     | nil => intro s B h; exact ⟨rfl, h⟩
     | cons x xs ih =>
       intro s B h
       obtain ⟨h1, h2⟩ := layT_bd d x (j + 1) s B h
       obtain ⟨h3, h4⟩ := ih _ _ h2
       refine ⟨h3.trans h1, ?_⟩
       rw [List.map_cons, List.sum_cons, ← Nat.add_assoc]
       exact h4
   obtain ⟨h1, h2⟩ := main t.parts _ (B + 1) (set_bd h j (t.parts.length : Int))
   refine ⟨h1.trans (List.length_set), ?_⟩
   show Bd (B + (1 + (t.parts.map (nodes d)).sum)) _
   rw [← Nat.add_assoc]
   exact h2
def LayA (d : Nat) : Prop := ∀ (t : Tr) (j : Nat) (L : List (List Int)) (D : List Int) (B : Nat), L.length = j + d → j + d ≤ 10 → Bd B (L, D) → B + nodes d t ≤ 1000000000 → Ev (fun k => lay.f k L D (cA d t).f0 (cA d t).f1 (j : Int)) (layT d t j (L, D))
theorem layA_l0 (d : Nat) (ih : LayA d) (j : Nat) (hj : j + 1 + d ≤ 10) (xs : List Tr) (hxs : xs.length ≤ 1000000000) : ∀ (n i : Nat) (L : List (List Int)) (D : List Int) (B : Nat), xs.length - i = n → i ≤ xs.length → L.length = j + 1 + d → Bd B (L, D) → B + ((xs.drop i).map (nodes d)).sum ≤ 1000000000 →
   Ev (fun k => lay.l0 k L D (xs.map (cA d)) (j : Int) ((xs.map (cA d)).length : Int) (i : Int)) ((xs.drop i).foldl (fun s x => layT d x (j + 1) s) (L, D)) := by
 intro n
 induction n with
 | zero =>
   intro i L D B h hi hL hb hn
   refine Ev.step' ?_; simp only [lay.l0]
   refine Ev.neg (by rw [List.length_map]; omega) (Ev.val ?_)
   rw [List.drop_eq_nil_of_le (by omega)]
   rfl
 | succ n ihn =>
   intro i L D B h hi hL hb hn
   have hlt : i < xs.length := by omega
   have hg : rd_T84 (xs.map (cA d)) (i : Int) = cA d xs[i] := getD_map _ _ _ _ hlt
   rw [List.drop_eq_getElem_cons hlt] at hn ⊢
   rw [List.map_cons, List.sum_cons] at hn
   have hx := ih xs[i] (j + 1) L D B hL hj hb (by omega)
   obtain ⟨b1, b2⟩ := layT_bd d xs[i] (j + 1) (L, D) B hb
   have hnext := ihn (i + 1) (layT d xs[i] (j + 1) (L, D)).1 (layT d xs[i] (j + 1) (L, D)).2 _ (by omega) (by omega) (b1.trans hL) b2 (by omega)
   refine Ev.step' ?_; simp only [lay.l0]
   refine Ev.pos (by rw [List.length_map]; omega) (Ev.pos (by omega) (Ev.pos (by rw [List.length_map]; omega) ?_))
   rw [hg, wrapS (a := (j : Int) + 1) (by omega) (by omega), wrapS (a := (i : Int) + 1) (by omega) (by omega)]
   exact Ev.bind hx hnext
theorem layA_is : ∀ d, LayA d
 | 0 => by
   intro t j L D B hL hj hb hn
   have h1 : D.length ≤ B := hb.1
   have h2 : B + 1 ≤ 1000000000 := hn
   refine Ev.step' ?_; simp only [lay.f]
   exact Ev.pos (by omega) (Ev.pos (by omega) (Ev.val rfl))
 | d + 1 => by
   intro t j L D B hL hj hb hn
   have hp := parts_len d t
   have hn2 : B + (1 + (t.parts.map (nodes d)).sum) ≤ 1000000000 := hn
   have hgl : (L.getD j []).length ≤ B := getD_bd hb.2 j
   have h0 := layA_l0 d (layA_is d) j (by omega) t.parts (by omega) _ 0 (L.set j (L.getD j [] ++ [(t.parts.length : Int)])) D (B + 1) rfl (Nat.zero_le _) (by rw [List.length_set]; omega) (set_bd hb j _) (by rw [List.drop_zero]; omega)
   rw [List.drop_zero] at h0
   refine Ev.step' ?_; simp only [lay.f]
   refine Ev.neg (by omega) (Ev.pos (by omega) (Ev.pos (by omega) ?_))
   rw [Int.toNat_natCast]
   refine Ev.pos (by omega) ?_
   have e : ((cA (d + 1) t).f1.length : Int) = (t.parts.length : Int) := by
     show ((t.parts.map (cA d)).length : Int) = _
     rw [List.length_map]
   rw [e]
   rw [List.length_map] at h0
   exact h0
theorem rep_bd (d : Nat) : Bd 0 (List.replicate d ([] : List Int), ([] : List Int)) := ⟨Nat.le_refl _, fun r hr => by rw [List.eq_of_mem_replicate hr]; exact Nat.le_refl _⟩
theorem laid_is (d : Nat) (hd : d ≤ 3) (t : Tr) (hn : nodes d t ≤ 1000000) : Ev (fun k => impl_laid.f k [(⟨(cA d t).f0, (cA d t).f1⟩ : NA)] (d : Int)) (layT d t 0 (List.replicate d [], [])) := by
 have h := layA_is d t 0 (List.replicate d []) [] 0 (by rw [List.length_replicate]; omega) (by omega) (rep_bd d) (by omega)
 unfold impl_laid.f
 refine Ev.pos (by omega) (Ev.pos (by omega) ?_)
 rw [Int.toNat_natCast]
 refine Ev.step' ?_; simp only [impl_laid.l0]
 refine Ev.pos (by simp) (Ev.pos (by omega) (Ev.pos (by simp) ?_))
 refine Ev.bind h ?_
 refine Ev.step' ?_; simp only [impl_laid.l0]
 exact Ev.neg (by rw [wrapS (by omega) (by omega)]; simp) (Ev.val rfl)
def LayS (d : Nat) : Prop := ∀ (t : Tr) (j : Nat) (L : List (List Int)) (D : List Int) (B : Nat), L.length = j + d → j + d ≤ 10 → Bd B (L, D) → B + nodes d t ≤ 1000000000 → Ev (fun k => put.f k L D (cS d t).f0 (cS d t).f1 (j : Int)) (layT d t j (L, D))
theorem layS_l0 (d : Nat) (ih : LayS d) (j : Nat) (hj : j + 1 + d ≤ 10) (xs : List Tr) (hxs : xs.length ≤ 1000000000) : ∀ (n i : Nat) (L : List (List Int)) (D : List Int) (B : Nat), xs.length - i = n → i ≤ xs.length → L.length = j + 1 + d → Bd B (L, D) → B + ((xs.drop i).map (nodes d)).sum ≤ 1000000000 →
   Ev (fun k => put.l0 k L D (xs.map (cS d)) (j : Int) ((xs.map (cS d)).length : Int) (i : Int)) ((xs.drop i).foldl (fun s x => layT d x (j + 1) s) (L, D)) := by
 intro n
 induction n with
 | zero =>
   intro i L D B h hi hL hb hn
   refine Ev.step' ?_; simp only [put.l0]
   refine Ev.neg (by rw [List.length_map]; omega) (Ev.val ?_)
   rw [List.drop_eq_nil_of_le (by omega)]
   rfl
 | succ n ihn =>
   intro i L D B h hi hL hb hn
   have hlt : i < xs.length := by omega
   have hg : rd_T95 (xs.map (cS d)) (i : Int) = cS d xs[i] := getD_map _ _ _ _ hlt
   rw [List.drop_eq_getElem_cons hlt] at hn ⊢
   rw [List.map_cons, List.sum_cons] at hn
   have hx := ih xs[i] (j + 1) L D B hL hj hb (by omega)
   obtain ⟨b1, b2⟩ := layT_bd d xs[i] (j + 1) (L, D) B hb
   have hnext := ihn (i + 1) (layT d xs[i] (j + 1) (L, D)).1 (layT d xs[i] (j + 1) (L, D)).2 _ (by omega) (by omega) (b1.trans hL) b2 (by omega)
   refine Ev.step' ?_; simp only [put.l0]
   refine Ev.pos (by rw [List.length_map]; omega) (Ev.pos (by omega) (Ev.pos (by rw [List.length_map]; omega) ?_))
   rw [hg, wrapS (a := (j : Int) + 1) (by omega) (by omega), wrapS (a := (i : Int) + 1) (by omega) (by omega)]
   exact Ev.bind hx hnext
theorem layS_is : ∀ d, LayS d
 | 0 => by
   intro t j L D B hL hj hb hn
   have h1 : D.length ≤ B := hb.1
   have h2 : B + 1 ≤ 1000000000 := hn
   refine Ev.step' ?_; simp only [put.f]
   exact Ev.pos (by omega) (Ev.pos (by omega) (Ev.val rfl))
 | d + 1 => by
   intro t j L D B hL hj hb hn
   have hp := parts_len d t
   have hn2 : B + (1 + (t.parts.map (nodes d)).sum) ≤ 1000000000 := hn
   have hgl : (L.getD j []).length ≤ B := getD_bd hb.2 j
   have h0 := layS_l0 d (layS_is d) j (by omega) t.parts (by omega) _ 0 (L.set j (L.getD j [] ++ [(t.parts.length : Int)])) D (B + 1) rfl (Nat.zero_le _) (by rw [List.length_set]; omega) (set_bd hb j _) (by rw [List.drop_zero]; omega)
   rw [List.drop_zero] at h0
   refine Ev.step' ?_; simp only [put.f]
   refine Ev.neg (by omega) (Ev.pos (by omega) (Ev.pos (by omega) ?_))
   rw [Int.toNat_natCast]
   refine Ev.pos (by omega) ?_
   have e : ((cS (d + 1) t).f1.length : Int) = (t.parts.length : Int) := by
     show ((t.parts.map (cS d)).length : Int) = _
     rw [List.length_map]
   rw [e]
   rw [List.length_map] at h0
   exact h0
/-- What the layout of a text is. -/
def layR (d : Nat) : Option Tr → List (List Int) × List Int × Bool
 | none => ([], [], false)
 | some v => ((layT d v 0 (List.replicate d [], [])).1, (layT d v 0 (List.replicate d [], [])).2, true)
theorem rawLay_is (d : Nat) (hd : d ≤ 3) (l : By) : Ev (fun k => spec_l2RawLayOut.f k (BA l) (d : Int)) (layR d (readD d l)) := by
 have h1 := l1Read_is d hd l
 unfold spec_l2RawLayOut.f
 cases hr : readD d l with
 | none =>
   rw [hr] at h1
   exact Ev.bind h1 (Ev.neg (by simp [resS]) (Ev.now _))
 | some v =>
   rw [hr] at h1
   obtain ⟨e1, e2, e3⟩ := readD_ok hr
   have hn := nodes_le_text d v
   rw [← e1] at hn
   have h := layS_is d v 0 (List.replicate d []) [] 0 (by rw [List.length_replicate]; omega) (by omega) (rep_bd d) (by omega)
   refine Ev.bind h1 (Ev.pos rfl (Ev.pos (by omega) (Ev.pos (by omega) ?_)))
   rw [Int.toNat_natCast]
   exact Ev.bind h (Ev.now _)
theorem rawLay_out (dp : Int) (h : dp < 0 ∨ 3 < dp) (s : ByteArray) : Ev (fun k => spec_l2RawLayOut.f k s dp) ([], [], false) := by
 unfold spec_l2RawLayOut.f
 exact Ev.bind (l1Read_out dp h s) (Ev.neg (by simp) (Ev.now _))
theorem ownLL_l0 (L : List (List Int)) (hL : L.length ≤ 1000) (hb : ∀ r ∈ L, r.length ≤ 1000000) : ∀ (n i : Nat), L.length - i = n → i ≤ L.length → Ev (fun k => spec_l13OwnListListint.l0 k (L.take i) L (L.length : Int) (i : Int)) L := by
 intro n
 induction n with
 | zero =>
   intro i h hi
   refine Ev.step' ?_; simp only [spec_l13OwnListListint.l0]
   rw [List.take_of_length_le (by omega)]
   exact Ev.neg (by omega) (Ev.now _)
 | succ n ih =>
   intro i h hi
   have hlt : i < L.length := by omega
   have hm := hb L[i] (List.getElem_mem hlt)
   have hg : rd_L3 L (i : Int) = L[i] := by
     show L.getD i [] = _
     rw [List.getD_eq_getElem?_getD, List.getElem?_eq_getElem hlt]
     rfl
   have hnext := ih (i + 1) (by omega) (by omega)
   rw [take_snoc _ _ hlt] at hnext
   refine Ev.step' ?_; simp only [spec_l13OwnListListint.l0]
   refine Ev.pos (by omega) (Ev.pos (by omega) (Ev.pos (by omega) (Ev.bind (Ev.now _) ?_)))
   rw [hg, wrapS (by omega) (by omega)]
   refine Ev.pos (by simp; omega) (Ev.pos (by rw [List.length_take]; omega) ?_)
   rw [List.nil_append]
   exact hnext
theorem ownLay_is (L : List (List Int)) (D : List Int) (hL : L.length ≤ 1000) (hb : ∀ r ∈ L, r.length ≤ 1000000) (hD : D.length ≤ 1000000) : Ev (fun k => spec_l13OwnLayout.f k L D) (L, D) := by
 have h0 : Ev (fun k => spec_l13OwnListListint.f k L) L := by
   unfold spec_l13OwnListListint.f
   exact ownLL_l0 L hL hb _ 0 rfl (Nat.zero_le _)
 unfold spec_l13OwnLayout.f
 refine Ev.bind h0 (Ev.bind (Ev.now _) (Ev.pos (by simp; omega) (Ev.val ?_)))
 rw [List.nil_append]
theorem layR_bd (d : Nat) (hd : d ≤ 3) (l : By) : (layR d (readD d l)).1.length ≤ 3 ∧ (∀ r ∈ (layR d (readD d l)).1, r.length ≤ 400) ∧ (layR d (readD d l)).2.1.length ≤ 400 := by
 cases hr : readD d l with
 | none => exact ⟨Nat.zero_le _, fun r hr => (by cases hr), Nat.zero_le _⟩
 | some v =>
   obtain ⟨e1, e2, e3⟩ := readD_ok hr
   have hn := nodes_le_text d v
   rw [← e1] at hn
   obtain ⟨b1, b2, b3⟩ := layT_bd d v 0 (List.replicate d [], []) 0 (rep_bd d)
   refine ⟨?_, fun r hr => Nat.le_trans (b3 r hr) (by omega), Nat.le_trans b2 (by omega)⟩
   show (layT d v 0 (List.replicate d [], [])).1.length ≤ 3
   rw [b1, List.length_replicate]
   exact hd
theorem layS2_is (d : Nat) (hd : d ≤ 3) (l : By) : Ev (fun k => spec_LayOut.f k (BA l) (d : Int)) (layR d (readD d l)) := by
 obtain ⟨b1, b2, b3⟩ := layR_bd d hd l
 unfold spec_LayOut.f
 exact Ev.bind (rawLay_is d hd l) (Ev.bind (ownLay_is _ _ (by omega) (fun r hr => Nat.le_trans (b2 r hr) (by omega)) (by omega)) (Ev.now _))
theorem layS2_out (dp : Int) (h : dp < 0 ∨ 3 < dp) (s : ByteArray) : Ev (fun k => spec_LayOut.f k s dp) ([], [], false) := by
 unfold spec_LayOut.f
 exact Ev.bind (rawLay_out dp h s) (Ev.bind (ownLay_is [] [] (by simp) (fun r hr => by cases hr) (by simp)) (Ev.now _))
theorem rd_at {l : List Int} {i : Nat} (h : i < l.length) : rd l (i : Int) = l[i] := by
 unfold rd
 rw [Int.toNat_natCast, List.getD_eq_getElem?_getD, List.getElem?_eq_getElem h]
 rfl
def uni (r : List Int) : Bool := r.all (fun x => x == r.headD 0)
/-- The shape of levels, if each is regular. -/
def shapeL : List (List Int) → Option (List Int)
 | [] => some []
 | r :: L => if uni r = true then (shapeL L).map (fun s => r.headD 0 :: s) else none
def shR (acc : List Int) : Option (List Int) → List Int × Bool
 | none => ([], false)
 | some s => (acc ++ s, true)
theorem rdL_get {L : List (List Int)} {i : Nat} (h : i < L.length) : rd_L3 L (i : Int) = L[i] := by
 show L.getD i [] = _
 rw [List.getD_eq_getElem?_getD, List.getElem?_eq_getElem h]
 rfl
theorem head_get {r : List Int} (h : 0 < r.length) : r.headD 0 = r[0] := by
 cases r with
 | nil => simp at h
 | cons x l => rfl
theorem uni_all {r : List Int} (h : ∀ (j : Nat) (hj : j < r.length), r[j] = r.headD 0) : uni r = true := by
 rw [uni, List.all_eq_true]
 intro x hx
 obtain ⟨j, hj, rfl⟩ := List.mem_iff_getElem.1 hx
 rw [h j hj]
 exact beq_self_eq_true _
theorem uni_not {r : List Int} {i : Nat} (hi : i < r.length) (h : r[i] ≠ r.headD 0) : uni r = false := by
 rw [uni, List.all_eq_false]
 exact ⟨r[i], List.getElem_mem hi, by simpa using h⟩
theorem shapeA_l1 (acc : List Int) (hacc : acc.length ≤ 1000) (L : List (List Int)) (m2 ix : Int) (r : List Int) (hr : r.length ≤ 1000000) (R : List Int × Bool)
   (hgo : uni r = true → Ev (fun k => impl_shapeOf.l0 k (acc ++ [r.headD 0]) L m2 (wrap64 (ix + 1))) R) (hbad : uni r = false → R = ([], false)) :
   ∀ (n i : Nat) (m : Int), r.length - i = n → i ≤ r.length → (∀ (j : Nat) (hj : j < r.length), j < i → r[j] = r.headD 0) → (m = if i = 0 then 0 else r.headD 0) →
   Ev (fun k => impl_shapeOf.l1 k acc m L m2 ix r (r.length : Int) (i : Int)) R := by
 intro n
 induction n with
 | zero =>
   intro i m h hi ha hm
   have hu := uni_all (r := r) (fun j hj => ha j hj (by omega))
   have e : m = r.headD 0 := by
     rw [hm]
     split
     · next h0 =>
       have : r.length = 0 := by omega
       rw [List.length_eq_zero_iff.1 this]
       rfl
     · rfl
   rw [e]
   refine Ev.step' ?_; simp only [impl_shapeOf.l1]
   exact Ev.neg (by omega) (Ev.pos (by omega) (hgo hu))
 | succ n ih =>
   intro i m h hi ha hm
   have hlt : i < r.length := by omega
   refine Ev.step' ?_; simp only [impl_shapeOf.l1]
   refine Ev.pos (by omega) (Ev.pos (by omega) (Ev.pos (by omega) ?_))
   rw [rd_at hlt, wrapS (a := (i : Int) + 1) (by omega) (by omega)]
   rcases Nat.eq_zero_or_pos i with h0 | h0
   · have e0 : r[i] = r.headD 0 := by rw [head_get (by omega)]; congr 1
     refine Ev.neg (by omega) (ih (i + 1) _ (by omega) (by omega) ?_ (by rw [if_neg (by omega)]; exact e0))
     intro j hj hji
     have : j = i := by omega
     subst this
     exact e0
   · rw [if_neg (by omega)] at hm
     refine Ev.pos (by omega) ?_
     by_cases he : r[i] = m
     · refine Ev.pos he (ih (i + 1) _ (by omega) (by omega) ?_ (by rw [if_neg (by omega), he]; exact hm))
       intro j hj hji
       rcases Nat.lt_or_ge j i with h1 | h1
       · exact ha j hj h1
       · have : j = i := by omega
         subst this
         rw [he]
         exact hm
     · refine Ev.neg he (Ev.val ?_)
       rw [hbad (uni_not hlt (by rw [← hm]; exact he))]
theorem shapeA_l0 (L : List (List Int)) (hL : L.length ≤ 100) (hb : ∀ r ∈ L, r.length ≤ 1000000) : ∀ (n i : Nat) (acc : List Int), L.length - i = n → i ≤ L.length → acc.length ≤ i →
   Ev (fun k => impl_shapeOf.l0 k acc L (L.length : Int) (i : Int)) (shR acc (shapeL (L.drop i))) := by
 intro n
 induction n with
 | zero =>
   intro i acc h hi ha
   rw [List.drop_eq_nil_of_le (by omega)]
   refine Ev.step' ?_; simp only [impl_shapeOf.l0]
   refine Ev.neg (by omega) (Ev.val ?_)
   simp [shR, shapeL]
 | succ n ih =>
   intro i acc h hi ha
   have hlt : i < L.length := by omega
   rw [List.drop_eq_getElem_cons hlt]
   refine Ev.step' ?_; simp only [impl_shapeOf.l0]
   refine Ev.pos (by omega) (Ev.pos (by omega) (Ev.pos (by omega) ?_))
   rw [rdL_get hlt]
   refine shapeA_l1 acc (by omega) L _ (i : Int) L[i] (hb _ (List.getElem_mem hlt)) _ ?_ ?_ _ 0 0 rfl (by omega) (fun j hj hji => by omega) rfl
   · intro hu
     rw [wrapS (by omega) (by omega), shapeL, if_pos hu]
     have := ih (i + 1) (acc ++ [L[i].headD 0]) (by omega) (by omega) (by rw [List.length_append]; exact Nat.succ_le_succ ha)
     refine evIs this ?_
     cases shapeL (L.drop (i + 1)) with
     | none => rfl
     | some s => simp [shR]
   · intro hu
     rw [shapeL, if_neg (by rw [hu]; simp)]
     rfl
theorem shapeS_l1 (ok : Bool) (acc : List Int) (hacc : acc.length ≤ 1000) (L : List (List Int)) (m2 ix : Int) (r : List Int) (hr : r.length ≤ 1000000) (R : List Int × Bool)
   (hgo : uni r = true → Ev (fun k => spec_ShapeOf.l0 k ok (acc ++ [r.headD 0]) L m2 (wrap64 (ix + 1))) R) (hbad : uni r = false → R = ([], false)) :
   ∀ (n i : Nat), r.length - i = n → i ≤ r.length → (∀ (j : Nat) (hj : j < r.length), j < i → r[j] = r.headD 0) →
   Ev (fun k => spec_ShapeOf.l1 k ok acc r L m2 ix r (r.length : Int) (i : Int)) R := by
 intro n
 induction n with
 | zero =>
   intro i h hi ha
   have hu := uni_all (r := r) (fun j hj => ha j hj (by omega))
   have hg := hgo hu
   refine Ev.step' ?_; simp only [spec_ShapeOf.l1]
   refine Ev.neg (by omega) ?_
   by_cases h0 : r.length = 0
   · refine Ev.pos (by omega) (Ev.pos (by omega) ?_)
     rw [List.length_eq_zero_iff.1 h0] at hg
     exact hg
   · refine Ev.neg (by omega) (Ev.pos (by omega) (Ev.pos (by omega) ?_))
     have e : rd r 0 = r.headD 0 := by
       rw [head_get (by omega)]
       exact rd_at (i := 0) (by omega)
     rw [e]
     exact hg
 | succ n ih =>
   intro i h hi ha
   have hlt : i < r.length := by omega
   have e : rd r 0 = r.headD 0 := by
     rw [head_get (by omega)]
     exact rd_at (i := 0) (by omega)
   refine Ev.step' ?_; simp only [spec_ShapeOf.l1]
   refine Ev.pos (by omega) (Ev.pos (by omega) (Ev.pos (by omega) (Ev.pos (by omega) ?_)))
   rw [rd_at hlt, e, wrapS (a := (i : Int) + 1) (by omega) (by omega)]
   by_cases he : r[i] = r.headD 0
   · refine Ev.pos he (ih (i + 1) (by omega) (by omega) ?_)
     intro j hj hji
     rcases Nat.lt_or_ge j i with h1 | h1
     · exact ha j hj h1
     · have : j = i := by omega
       subst this
       exact he
   · refine Ev.neg he (Ev.val ?_)
     rw [hbad (uni_not hlt he)]
theorem shapeS_l0 (L : List (List Int)) (hL : L.length ≤ 100) (hb : ∀ r ∈ L, r.length ≤ 1000000) : ∀ (n i : Nat) (acc : List Int), L.length - i = n → i ≤ L.length → acc.length ≤ i →
   Ev (fun k => spec_ShapeOf.l0 k true acc L (L.length : Int) (i : Int)) (shR acc (shapeL (L.drop i))) := by
 intro n
 induction n with
 | zero =>
   intro i acc h hi ha
   rw [List.drop_eq_nil_of_le (by omega)]
   refine Ev.step' ?_; simp only [spec_ShapeOf.l0]
   refine Ev.neg (by omega) (Ev.val ?_)
   simp [shR, shapeL]
 | succ n ih =>
   intro i acc h hi ha
   have hlt : i < L.length := by omega
   rw [List.drop_eq_getElem_cons hlt]
   refine Ev.step' ?_; simp only [spec_ShapeOf.l0]
   refine Ev.pos (by omega) (Ev.pos (by omega) (Ev.pos (by omega) ?_))
   rw [rdL_get hlt]
   refine shapeS_l1 true acc (by omega) L _ (i : Int) L[i] (hb _ (List.getElem_mem hlt)) _ ?_ ?_ _ 0 rfl (by omega) (fun j hj hji => by omega)
   · intro hu
     rw [wrapS (by omega) (by omega), shapeL, if_pos hu]
     have := ih (i + 1) (acc ++ [L[i].headD 0]) (by omega) (by omega) (by rw [List.length_append]; exact Nat.succ_le_succ ha)
     refine evIs this ?_
     cases shapeL (L.drop (i + 1)) with
     | none => rfl
     | some s => simp [shR]
   · intro hu
     rw [shapeL, if_neg (by rw [hu]; simp)]
     rfl
/-- The shape that both answer. -/
def shapeR (d : Nat) : Option Tr → List Int × Bool
 | none => ([], false)
 | some v => shR [] (shapeL (layT d v 0 (List.replicate d [], [])).1)
theorem shapeA_is (d : Nat) (hd : d ≤ 3) (l : By) : Ev (fun k => impl_ShapeOf.f k (BA l) (d : Int)) (shapeR d (readD d l)) := by
 obtain ⟨t, h1, h2, h3, h4⟩ := arrOf_is d hd l
 unfold impl_ShapeOf.f
 refine Ev.bind h1 ?_
 cases hr : readD d l with
 | none => exact Ev.neg (by simp) (Ev.now _)
 | some v =>
   obtain rfl := h4 v hr
   have hn := nodes_le_text d t
   obtain ⟨b1, b2, b3⟩ := layR_bd d hd l
   rw [hr] at b1 b2 b3
   have hl := laid_is d hd t (by omega)
   refine Ev.pos rfl ?_
   have hs : Ev (fun k => impl_shapeOf.f k (cA d t).f0 (cA d t).f1 (d : Int)) (shapeR d (some t)) := by
     unfold impl_shapeOf.f
     refine Ev.bind hl ?_
     have := shapeA_l0 (layT d t 0 (List.replicate d [], [])).1 (Nat.le_trans b1 (by omega)) (fun r hr => Nat.le_trans (b2 r hr) (by omega)) _ 0 [] rfl (Nat.zero_le _) (Nat.le_refl _)
     rw [List.drop_zero] at this
     exact this
   exact Ev.bind hs (Ev.now _)
theorem shapeS_is (d : Nat) (hd : d ≤ 3) (l : By) : Ev (fun k => spec_ShapeOf.f k (BA l) (d : Int)) (shapeR d (readD d l)) := by
 obtain ⟨b1, b2, b3⟩ := layR_bd d hd l
 have hl := layS2_is d hd l
 unfold spec_ShapeOf.f
 refine Ev.bind hl ?_
 cases hr : readD d l with
 | none =>
   refine Ev.step' ?_; simp only [spec_ShapeOf.l0]
   exact Ev.neg (by simp [layR]) (Ev.now _)
 | some v =>
   rw [hr] at b1 b2 b3
   have := shapeS_l0 (layT d v 0 (List.replicate d [], [])).1 (Nat.le_trans b1 (by omega)) (fun r hr => Nat.le_trans (b2 r hr) (by omega)) _ 0 [] rfl (Nat.zero_le _) (Nat.le_refl _)
   rw [List.drop_zero] at this
   exact this
/-! ### two levels -/
theorem fold0 (j : Nat) : ∀ (xs : List Tr) (s : List (List Int) × List Int), (xs.foldl (fun s x => layT 0 x j s) s).1 = s.1
 | [], _ => rfl
 | x :: xs, s => fold0 j xs _
theorem fold1 : ∀ (xs : List Tr) (a b : List Int) (D : List Int), (xs.foldl (fun s x => layT 1 x 1 s) ([a, b], D)).1 = [a, b ++ xs.map (fun x => (x.parts.length : Int))]
 | [], a, b, D => by rw [List.map_nil, List.append_nil]; rfl
 | x :: xs, a, b, D => by
   have h1 : (layT 1 x 1 ([a, b], D)).1 = [a, b ++ [(x.parts.length : Int)]] := fold0 2 x.parts _
   have h2 := fold1 xs a (b ++ [(x.parts.length : Int)]) (layT 1 x 1 ([a, b], D)).2
   rw [← h1] at h2
   show (xs.foldl (fun s x => layT 1 x 1 s) (layT 1 x 1 ([a, b], D))).1 = _
   rw [show layT 1 x 1 ([a, b], D) = ((layT 1 x 1 ([a, b], D)).1, (layT 1 x 1 ([a, b], D)).2) from rfl, h2, List.map_cons, List.append_assoc]
   rfl
def lens (v : Tr) : List Int := v.parts.map (fun x => (x.parts.length : Int))
theorem shape2 (v : Tr) : shapeR 2 (some v) = if uni (lens v) = true then ([(v.parts.length : Int), (lens v).headD 0], true) else ([], false) := by
 have h : (layT 2 v 0 (List.replicate 2 [], [])).1 = [[(v.parts.length : Int)], lens v] := fold1 v.parts [(v.parts.length : Int)] [] []
 rw [shapeR, h, shapeL, if_pos (by simp [uni]), shapeL]
 by_cases hu : uni (lens v) = true
 · rw [if_pos hu, if_pos hu]
   rfl
 · rw [if_neg hu, if_neg hu]
   rfl
theorem nums1_len (x : Tr) : (Q.nums 1 x).length = x.parts.length := by
 show ((x.parts.map (Q.nums 0)).flatten).length = _
 induction x.parts with
 | nil => rfl
 | cons t l ih => rw [List.map_cons, List.flatten_cons, List.length_append, ih, List.length_cons]; show 1 + _ = _; omega
/-- The columns of an array of two levels. -/
def colN (v : Tr) : Nat := (v.parts.map (fun x => x.parts.length)).headD 0
theorem lens_head (v : Tr) : (lens v).headD 0 = ((colN v : Nat) : Int) := by
 unfold lens colN
 cases v.parts with
 | nil => rfl
 | cons x l => rfl
theorem rows_len {v : Tr} (hu : uni (lens v) = true) : ∀ r ∈ rowsN v, r.length = colN v := by
 intro r hr
 obtain ⟨x, hx, rfl⟩ := List.mem_map.1 hr
 rw [nums1_len]
 have := (List.all_eq_true.1 hu) (x.parts.length : Int) (List.mem_map.2 ⟨x, hx, rfl⟩)
 have e : (x.parts.length : Int) = (lens v).headD 0 := by simpa using this
 rw [lens_head] at e
 omega
theorem colN_le {v : Tr} (h : RowsOk (rowsN v)) : colN v ≤ 500 := by
 unfold colN
 have h2 := h.2
 unfold rowsN at h2
 cases hp : v.parts with
 | nil => simp
 | cons x l =>
   rw [hp] at h2
   have := (h2 (Q.nums 1 x) (by simp)).1
   rw [nums1_len] at this
   simpa using this
/-- The number in a row and a column of a product. -/
def cellAt (r : List Nat) (B : List (List Nat)) (j : Nat) : Nat → Nat
 | 0 => 0
 | i + 1 => (cellAt r B j i + r.getD i 0 * (B.getD i []).getD j 0) % 10007
theorem cellAt_lt (r : List Nat) (B : List (List Nat)) (j : Nat) : ∀ i, cellAt r B j i < 10007
 | 0 => by unfold cellAt; omega
 | i + 1 => by unfold cellAt; omega
def rowOut (B : List (List Nat)) (m : Nat) (r : List Nat) : List Nat := (List.range m).map (fun j => cellAt r B j r.length)
def mulR (A B : List (List Nat)) (m : Nat) : List (List Nat) := A.map (rowOut B m)
theorem mulR_ok {A B : List (List Nat)} {m : Nat} (hA : RowsOk A) (hm : m ≤ 500) : RowsOk (mulR A B m) := by
 refine ⟨by rw [mulR, List.length_map]; exact hA.1, ?_⟩
 intro r hr
 obtain ⟨x, hx, rfl⟩ := List.mem_map.1 hr
 refine ⟨by rw [rowOut, List.length_map, List.length_range]; exact hm, ?_⟩
 intro n hn
 obtain ⟨j, _, rfl⟩ := List.mem_map.1 hn
 exact cellAt_lt _ _ _ _
/-- Rows that can be multiplied. -/
structure Fits (r : List Nat) (B : List (List Nat)) (m : Nat) : Prop where
 len : r.length = B.length
 small : ∀ n ∈ r, n < 10007
 cols : ∀ q ∈ B, q.length = m
 smallB : ∀ q ∈ B, ∀ n ∈ q, n < 10007
 few : B.length ≤ 500
theorem tmodN (a : Nat) : Int.tmod (a : Int) 10007 = ((a % 10007 : Nat) : Int) := by
 rw [Int.tmod_eq_emod_of_nonneg (by omega)]
 omega
theorem prod_le {a b : Nat} (ha : a < 10007) (hb : b < 10007) : a * b ≤ 100200049 := by
 have := Nat.mul_le_mul (Nat.le_of_lt ha) (Nat.le_of_lt hb)
 omega
theorem ints_app (a b : List Nat) : ints (a ++ b) = ints a ++ ints b := List.map_append
theorem intsL_app (a b : List (List Nat)) : intsL (a ++ b) = intsL a ++ intsL b := List.map_append
theorem rdL_at {L : List (List Int)} {i : Nat} (h : i < L.length) : rd_L3 L (i : Int) = L[i] := rdL_get h
theorem Fits.read {r : List Nat} {B : List (List Nat)} {m j i : Nat} (h : Fits r B m) (hi : i < r.length) (hj : j < m) :
   rd (ints r) (i : Int) = (r.getD i 0 : Int) ∧ (rd_L3 (intsL B) (i : Int)).length = m ∧ rd (rd_L3 (intsL B) (i : Int)) (j : Int) = ((B.getD i []).getD j 0 : Int) ∧ r.getD i 0 < 10007 ∧ (B.getD i []).getD j 0 < 10007 := by
 have hiB : i < B.length := by have := h.len; omega
 have e1 : rd_L3 (intsL B) (i : Int) = ints B[i] := getD_mapL _ _ _ _ hiB
 have e2 : B.getD i [] = B[i] := by rw [List.getD_eq_getElem?_getD, List.getElem?_eq_getElem hiB]; rfl
 have e3 : r.getD i 0 = r[i] := by rw [List.getD_eq_getElem?_getD, List.getElem?_eq_getElem hi]; rfl
 have hl := h.cols _ (List.getElem_mem hiB)
 have hj' : j < B[i].length := by omega
 have e4 : B[i].getD j 0 = B[i][j] := by rw [List.getD_eq_getElem?_getD, List.getElem?_eq_getElem hj']; rfl
 rw [e1, e2, e3, e4]
 refine ⟨getD_mapL _ _ _ _ hi, by rw [List.length_map]; exact hl, getD_mapL _ _ _ _ hj', h.small _ (List.getElem_mem hi), h.smallB _ (List.getElem_mem hiB) _ (List.getElem_mem hj')⟩
theorem mulS_l2 (r : List Nat) (B : List (List Nat)) (m : Nat) (h : Fits r B m) (j : Nat) (hj : j < m) (hm : m ≤ 500) (x10 : Int) (x12 : List (List Int)) (x15 : List Int) (hx : x15.length ≤ 1000) (x45 : List (List Int)) (x46 x47 x52 : Int) (res : ByteArray × Bool)
   (hgo : Ev (fun k => spec_MultiplyArrays.l1 k (intsL B) x10 x12 (ints r) (x15 ++ [((cellAt r B j r.length : Nat) : Int)]) x45 x46 x47 x52 ((j + 1 : Nat) : Int)) res) :
   ∀ (n i : Nat), r.length - i = n → i ≤ r.length → Ev (fun k => spec_MultiplyArrays.l2 k (intsL B) x10 x12 (ints r) x15 (j : Int) ((cellAt r B j i : Nat) : Int) x45 x46 x47 x52 (j : Int) (ints r) ((ints r).length : Int) (i : Int)) res := by
 intro n
 have hB := h.few
 have hl := h.len
 induction n with
 | zero =>
   intro i hd hi
   have hi' : i = r.length := by omega
   subst hi'
   refine Ev.step' ?_; simp only [spec_MultiplyArrays.l2]
   refine Ev.neg (by rw [List.length_map]; omega) (Ev.pos (by omega) ?_)
   rw [wrapS (a := (j : Int) + 1) (by omega) (by omega)]
   exact hgo
 | succ n ihn =>
   intro i hd hi
   have hlt : i < r.length := by omega
   obtain ⟨e1, e2, e3, e4, e5⟩ := h.read hlt hj
   have hp := prod_le e4 e5
   have hc := cellAt_lt r B j i
   have hnext := ihn (i + 1) (by omega) (by omega)
   rw [cellAt] at hnext
   refine Ev.step' ?_; simp only [spec_MultiplyArrays.l2]
   refine Ev.pos (by rw [List.length_map]; omega) (Ev.pos (by omega) (Ev.pos (by rw [List.length_map]; omega) (Ev.pos (by rw [List.length_map]; omega) (Ev.pos (by omega) (Ev.pos (by rw [e2]; omega) ?_)))))
   rw [e1, e3, ← Int.natCast_mul, wrapS (a := (i : Int) + 1) (by omega) (by omega)]
   generalize r.getD i 0 * (B.getD i []).getD j 0 = p at *
   rw [wrapS (a := (p : Int)) (by omega) (by omega), tmodN]
   have hadd : Ev (fun _ => spec_l3Add.f ((cellAt r B j i : Nat) : Int) ((p % 10007 : Nat) : Int)) (((cellAt r B j i + p) % 10007 : Nat) : Int) := by
     unfold spec_l3Add.f
     refine Ev.val ?_
     rw [wrapS (by omega) (by omega), ← Int.natCast_add, tmodN, Nat.add_mod_mod]
   exact Ev.bind hadd hnext
theorem mulA_l2 (r : List Nat) (B : List (List Nat)) (m : Nat) (h : Fits r B m) (j : Nat) (hj : j < m) (hm : m ≤ 500) (x8 : List Int) (x12 : List (List Int)) (x15 : List Int) (hx : x15.length ≤ 1000) (x45 : List (List Int)) (x46 x47 x52 : Int) (res : ByteArray × Bool)
   (hgo : Ev (fun k => impl_MultiplyArrays.l1 k x8 (intsL B) x12 (ints r) (x15 ++ [((cellAt r B j r.length : Nat) : Int)]) x45 x46 x47 x52 ((j + 1 : Nat) : Int)) res) :
   ∀ (n i : Nat), r.length - i = n → i ≤ r.length → Ev (fun k => impl_MultiplyArrays.l2 k x8 (intsL B) x12 (ints r) x15 (j : Int) ((cellAt r B j i : Nat) : Int) x45 x46 x47 x52 (j : Int) (ints r) ((ints r).length : Int) (i : Int)) res := by
 intro n
 have hB := h.few
 have hl := h.len
 induction n with
 | zero =>
   intro i hd hi
   have hi' : i = r.length := by omega
   subst hi'
   refine Ev.step' ?_; simp only [impl_MultiplyArrays.l2]
   refine Ev.neg (by rw [List.length_map]; omega) (Ev.pos (by omega) ?_)
   rw [wrapS (a := (j : Int) + 1) (by omega) (by omega)]
   exact hgo
 | succ n ihn =>
   intro i hd hi
   have hlt : i < r.length := by omega
   obtain ⟨e1, e2, e3, e4, e5⟩ := h.read hlt hj
   have hp := prod_le e4 e5
   have hc := cellAt_lt r B j i
   have hnext := ihn (i + 1) (by omega) (by omega)
   rw [cellAt] at hnext
   refine Ev.step' ?_; simp only [impl_MultiplyArrays.l2]
   refine Ev.pos (by rw [List.length_map]; omega) (Ev.pos (by omega) (Ev.pos (by rw [List.length_map]; omega) (Ev.pos (by rw [List.length_map]; omega) (Ev.pos (by omega) (Ev.pos (by rw [e2]; omega) ?_)))))
   rw [e1, e3, ← Int.natCast_mul, wrapS (a := (i : Int) + 1) (by omega) (by omega)]
   generalize r.getD i 0 * (B.getD i []).getD j 0 = p at *
   rw [wrapS (a := (p : Int)) (by omega) (by omega), wrapS (by omega) (by omega), ← Int.natCast_add, tmodN]
   exact hnext
theorem range_snoc (f : Nat → Nat) (j : Nat) : ints ((List.range (j + 1)).map f) = ints ((List.range j).map f) ++ [((f j : Nat) : Int)] := by
 rw [List.range_succ, List.map_append, ints_app]
 rfl
theorem mulS_l1 (r : List Nat) (B : List (List Nat)) (m : Nat) (h : Fits r B m) (hm : m ≤ 500) (x12 : List (List Int)) (hx : x12.length ≤ 1000) (x45 : List (List Int)) (x46 : Int) (x47 : Nat) (h47 : x47 ≤ 1000) (res : ByteArray × Bool)
   (hgo : Ev (fun k => spec_MultiplyArrays.l0 k (intsL B) (m : Int) (x12 ++ [ints (rowOut B m r)]) x45 x46 ((x47 + 1 : Nat) : Int)) res) :
   ∀ (n j : Nat), m - j = n → j ≤ m → Ev (fun k => spec_MultiplyArrays.l1 k (intsL B) (m : Int) x12 (ints r) (ints ((List.range j).map (fun j => cellAt r B j r.length))) x45 x46 (x47 : Int) (m : Int) (j : Int)) res := by
 intro n
 induction n with
 | zero =>
   intro j hd hj
   have hj' : j = m := by omega
   subst hj'
   refine Ev.step' ?_; simp only [spec_MultiplyArrays.l1]
   refine Ev.neg (by omega) (Ev.pos (by omega) ?_)
   rw [wrapS (by omega) (by omega)]
   exact hgo
 | succ n ihn =>
   intro j hd hj
   have hnext := ihn (j + 1) (by omega) (by omega)
   rw [range_snoc] at hnext
   refine Ev.step' ?_; simp only [spec_MultiplyArrays.l1]
   exact Ev.pos (by omega) (mulS_l2 r B m h j (by omega) hm _ x12 _ (by rw [List.length_map, List.length_map, List.length_range]; omega) _ _ _ _ _ hnext _ 0 rfl (by omega))
theorem mulA_l1 (r : List Nat) (B : List (List Nat)) (m : Nat) (h : Fits r B m) (hm : m ≤ 500) (x8 : List Int) (x12 : List (List Int)) (hx : x12.length ≤ 1000) (x45 : List (List Int)) (x46 : Int) (x47 : Nat) (h47 : x47 ≤ 1000) (res : ByteArray × Bool)
   (hgo : Ev (fun k => impl_MultiplyArrays.l0 k x8 (intsL B) (x12 ++ [ints (rowOut B m r)]) x45 x46 ((x47 + 1 : Nat) : Int)) res) :
   ∀ (n j : Nat), m - j = n → j ≤ m → Ev (fun k => impl_MultiplyArrays.l1 k x8 (intsL B) x12 (ints r) (ints ((List.range j).map (fun j => cellAt r B j r.length))) x45 x46 (x47 : Int) (m : Int) (j : Int)) res := by
 intro n
 induction n with
 | zero =>
   intro j hd hj
   have hj' : j = m := by omega
   subst hj'
   refine Ev.step' ?_; simp only [impl_MultiplyArrays.l1]
   refine Ev.neg (by omega) (Ev.pos (by omega) ?_)
   rw [wrapS (by omega) (by omega)]
   exact hgo
 | succ n ihn =>
   intro j hd hj
   have hnext := ihn (j + 1) (by omega) (by omega)
   rw [range_snoc] at hnext
   refine Ev.step' ?_; simp only [impl_MultiplyArrays.l1]
   exact Ev.pos (by omega) (mulA_l2 r B m h j (by omega) hm _ x12 _ (by rw [List.length_map, List.length_map, List.length_range]; omega) _ _ _ _ _ hnext _ 0 rfl (by omega))
theorem mulS_l0 (A B : List (List Nat)) (m : Nat) (hA : RowsOk A) (h : ∀ r ∈ A, Fits r B m) (hm : m ≤ 500) : ∀ (n i : Nat), A.length - i = n → i ≤ A.length →
   Ev (fun k => spec_MultiplyArrays.l0 k (intsL B) (m : Int) (intsL ((A.take i).map (rowOut B m))) (intsL A) ((intsL A).length : Int) (i : Int)) (told (text 2 (mkT (mulR A B m)))) := by
 have ht := textR_is _ (mulR_ok (B := B) hA hm)
 have hAl := hA.1
 intro n
 induction n with
 | zero =>
   intro i hd hi
   refine Ev.step' ?_; simp only [spec_MultiplyArrays.l0]
   rw [List.take_of_length_le (by omega)]
   exact Ev.neg (by rw [List.length_map]; omega) (Ev.bind ht (Ev.val rfl))
 | succ n ihn =>
   intro i hd hi
   have hlt : i < A.length := by omega
   have hg : rd_L3 (intsL A) (i : Int) = ints A[i] := getD_mapL _ _ _ _ hlt
   have hnext := ihn (i + 1) (by omega) (by omega)
   rw [take_snoc _ _ hlt, List.map_append, intsL_app] at hnext
   refine Ev.step' ?_; simp only [spec_MultiplyArrays.l0]
   refine Ev.pos (by rw [List.length_map]; omega) (Ev.pos (by omega) (Ev.pos (by rw [List.length_map]; omega) ?_))
   rw [hg]
   exact mulS_l1 A[i] B m (h _ (List.getElem_mem hlt)) hm _ (by rw [List.length_map, List.length_map, List.length_take]; omega) _ _ i (by omega) _ hnext _ 0 rfl (by omega)
theorem mulA_l0 (x8 : List Int) (A B : List (List Nat)) (m : Nat) (h8 : 1 < x8.length) (h81 : rd x8 1 = (m : Int)) (hA : RowsOk A) (h : ∀ r ∈ A, Fits r B m) (hm : m ≤ 500) : ∀ (n i : Nat), A.length - i = n → i ≤ A.length →
   Ev (fun k => impl_MultiplyArrays.l0 k x8 (intsL B) (intsL ((A.take i).map (rowOut B m))) (intsL A) ((intsL A).length : Int) (i : Int)) (told (text 2 (mkT (mulR A B m)))) := by
 have ht := rowed_is _ (mulR_ok (B := B) hA hm)
 have hAl := hA.1
 intro n
 induction n with
 | zero =>
   intro i hd hi
   refine Ev.step' ?_; simp only [impl_MultiplyArrays.l0]
   rw [List.take_of_length_le (by omega)]
   exact Ev.neg (by rw [List.length_map]; omega) (Ev.bind ht (Ev.val rfl))
 | succ n ihn =>
   intro i hd hi
   have hlt : i < A.length := by omega
   have hg : rd_L3 (intsL A) (i : Int) = ints A[i] := getD_mapL _ _ _ _ hlt
   have hnext := ihn (i + 1) (by omega) (by omega)
   rw [take_snoc _ _ hlt, List.map_append, intsL_app] at hnext
   refine Ev.step' ?_; simp only [impl_MultiplyArrays.l0]
   refine Ev.pos (by rw [List.length_map]; omega) (Ev.pos (by omega) (Ev.pos (by rw [List.length_map]; omega) (Ev.pos (by omega) ?_)))
   rw [hg, h81]
   exact mulA_l1 A[i] B m (h _ (List.getElem_mem hlt)) hm _ _ (by rw [List.length_map, List.length_map, List.length_take]; omega) _ _ i (by omega) _ hnext _ 0 rfl (by omega)
/-- The rows of a text, if they are of one length. -/
def rowsR : Option Tr → List (List Int) × Int × Bool
 | none => ([], 0, false)
 | some v => if uni (lens v) = true then (intsL (rowsN v), ((colN v : Nat) : Int), true) else ([], 0, false)
theorem rowsS_l0' (x6 : List Int) (h6 : 1 < x6.length) (t : Tr) (hn : nodes 2 t ≤ 1000000000) : ∀ (n i : Nat), t.parts.length - i = n → i ≤ t.parts.length →
   Ev (fun k => spec_l11Rows.l0 k (intsL ((t.parts.take i).map (Q.nums 1))) x6 (t.parts.map (cS 1)) ((t.parts.map (cS 1)).length : Int) (i : Int)) (intsL (rowsN t), rd x6 1, true) := by
 have hpl : t.parts.length + 1 ≤ nodes 2 t := parts_len 1 t
 intro n
 induction n with
 | zero =>
   intro i h hi
   refine Ev.step' ?_; simp only [spec_l11Rows.l0]
   rw [List.take_of_length_le (by omega)]
   exact Ev.neg (by rw [List.length_map]; omega) (Ev.pos (by omega) (Ev.val rfl))
 | succ n ihn =>
   intro i h hi
   have hlt : i < t.parts.length := by omega
   have hm : t.parts[i] ∈ t.parts := List.getElem_mem hlt
   have hx := numsS_is 1 (by omega) t.parts[i] (by have : nodes 1 t.parts[i] ≤ nodes 2 t := nodes_part hm; omega)
   have hg : rd_T95 (t.parts.map (cS 1)) (i : Int) = cS 1 t.parts[i] := getD_map _ _ _ _ hlt
   have hnext := ihn (i + 1) (by omega) (by omega)
   rw [take_snoc _ _ hlt, List.map_append, intsL_app] at hnext
   refine Ev.step' ?_; simp only [spec_l11Rows.l0]
   refine Ev.pos (by rw [List.length_map]; omega) (Ev.pos (by omega) (Ev.pos (by rw [List.length_map]; omega) ?_))
   rw [hg, wrapS (a := (i : Int) + 1) (by omega) (by omega)]
   exact Ev.bind hx (Ev.pos (by rw [List.length_map, List.length_map, List.length_take]; omega) hnext)
theorem l11Rows_is (l : By) : Ev (fun k => spec_l11Rows.f k (BA l)) (rowsR (readD 2 l)) := by
 have h1 := l1Read_is 2 (by omega) l
 have h2 := shapeS_is 2 (by omega) l
 unfold spec_l11Rows.f
 refine Ev.bind (Ev.now _) (Ev.bind h2 ?_)
 cases hq : readD 2 l with
 | none => exact Ev.neg (by simp [shapeR]) (Ev.now _)
 | some v =>
   rw [hq] at h1
   obtain ⟨e, _, hl⟩ := readD_ok hq
   rw [shape2, rowsR]
   by_cases hu : uni (lens v) = true
   · rw [if_pos hu, if_pos hu, ← lens_head]
     exact Ev.pos rfl (Ev.bind h1 (rowsS_l0' [(v.parts.length : Int), (lens v).headD 0] (by simp) v (by have := nodes_le_text 2 v; rw [e] at hl; omega) _ 0 rfl (by omega)))
   · rw [if_neg hu, if_neg hu]
     exact Ev.neg (by simp) (Ev.now _)
/-- What multiplying two texts gives. -/
theorem mul_both (l l' : By) : ∃ r, Ev (fun k => impl_MultiplyArrays.f k (BA l) (BA l')) r ∧ Ev (fun k => spec_MultiplyArrays.f k (BA l) (BA l')) r := by
 have a1 := shapeA_is 2 (by omega) l
 have b1 := shapeA_is 2 (by omega) l'
 have a2 := l11Rows_is l
 have b2 := l11Rows_is l'
 obtain ⟨A, a3, hA, hA'⟩ := rowsOf_is l
 obtain ⟨B, b3, hB, hB'⟩ := rowsOf_is l'
 unfold impl_MultiplyArrays.f spec_MultiplyArrays.f
 have bad : (∃ p q, shapeR 2 (readD 2 l) = p ∧ rowsR (readD 2 l) = q ∧ p.2 = false ∧ q.2.2 = false) ∨ (∃ v, readD 2 l = some v ∧ uni (lens v) = true) := by
   cases readD 2 l with
   | none => exact .inl ⟨_, _, rfl, rfl, rfl, rfl⟩
   | some v =>
     by_cases hu : uni (lens v) = true
     · exact .inr ⟨v, rfl, hu⟩
     · exact .inl ⟨_, _, rfl, rfl, by rw [shape2, if_neg hu], by rw [rowsR, if_neg hu]⟩
 have bad' : (∃ p q, shapeR 2 (readD 2 l') = p ∧ rowsR (readD 2 l') = q ∧ p.2 = false ∧ q.2.2 = false) ∨ (∃ v, readD 2 l' = some v ∧ uni (lens v) = true) := by
   cases readD 2 l' with
   | none => exact .inl ⟨_, _, rfl, rfl, rfl, rfl⟩
   | some v =>
     by_cases hu : uni (lens v) = true
     · exact .inr ⟨v, rfl, hu⟩
     · exact .inl ⟨_, _, rfl, rfl, by rw [shape2, if_neg hu], by rw [rowsR, if_neg hu]⟩
 have jA : ∀ y, Ev (fun k => impl_MultiplyArrays.j0 k (BA l) (BA l') y true) ((⟨#[]⟩ : ByteArray), false) := by
   intro y
   refine Ev.step' ?_; simp only [impl_MultiplyArrays.j0]
   exact Ev.pos (by first | trivial | rfl) (Ev.now _)
 have jS : ∀ x y z, Ev (fun k => spec_MultiplyArrays.j0 k x y z true) ((⟨#[]⟩ : ByteArray), false) := by
   intro x y z
   refine Ev.step' ?_; simp only [spec_MultiplyArrays.j0]
   exact Ev.pos (by first | trivial | rfl) (Ev.now _)
 rcases bad with ⟨p, q, hp, hq, hp2, hq2⟩ | ⟨v, hv, hu⟩
 · refine ⟨_, Ev.bind a1 (Ev.bind b1 (Ev.neg (by rw [hp, hp2]; simp) (jA _))), Ev.bind a2 (Ev.bind b2 (Ev.neg (by rw [hq, hq2]; simp) (jS _ _ _)))⟩
 rcases bad' with ⟨p, q, hp, hq, hp2, hq2⟩ | ⟨w, hw, hu'⟩
 · refine ⟨_, Ev.bind a1 (Ev.bind b1 (Ev.pos (by rw [hv, shape2, if_pos hu]) (Ev.neg (by rw [hp, hp2]; simp) (jA _)))), Ev.bind a2 (Ev.bind b2 (Ev.pos (by rw [hv, rowsR, if_pos hu]) (Ev.neg (by rw [hq, hq2]; simp) (jS _ _ _))))⟩
 obtain rfl := hA' v hv
 obtain rfl := hB' w hw
 rw [hv, shape2, if_pos hu, lens_head] at a1
 rw [hw, shape2, if_pos hu', lens_head] at b1
 rw [hv, rowsR, if_pos hu] at a2
 rw [hw, rowsR, if_pos hu'] at b2
 have hlw : ((intsL (rowsN w)).length : Int) = (w.parts.length : Int) := by rw [List.length_map, rowsN, List.length_map]
 by_cases hin : ((colN v : Nat) : Int) = (w.parts.length : Int)
 · have hF : ∀ r ∈ rowsN v, Fits r (rowsN w) (colN w) := fun r hr =>
     ⟨by rw [rows_len hu r hr, rowsN, List.length_map]; omega, (hA.2 r hr).2, rows_len hu', fun q hq => (hB.2 q hq).2, hB.1⟩
   refine ⟨told (text 2 (mkT (mulR (rowsN v) (rowsN w) (colN w)))), Ev.bind a1 (Ev.bind b1 (Ev.pos rfl (Ev.pos rfl (Ev.pos (by simp) (Ev.pos (by simp) ?_))))), Ev.bind a2 (Ev.bind b2 (Ev.pos rfl (Ev.pos rfl ?_)))⟩
   · refine Ev.step' ?_; simp only [impl_MultiplyArrays.j0]
     refine Ev.neg ?_ (Ev.bind a3 (Ev.bind b3 (mulA_l0 [(w.parts.length : Int), ((colN w : Nat) : Int)] _ _ (colN w) (by simp) rfl hA hF (colN_le hB) _ 0 rfl (by omega))))
     show ¬ ((((colN v : Nat) : Int) != (w.parts.length : Int)) = true)
     rw [hin]
     simp
   · refine Ev.step' ?_; simp only [spec_MultiplyArrays.j0]
     refine Ev.neg ?_ (mulS_l0 _ _ (colN w) hA hF (colN_le hB) _ 0 rfl (by omega))
     show ¬ ((((colN v : Nat) : Int) != ((intsL (rowsN w)).length : Int)) = true)
     rw [hlw, hin]
     simp
 · refine ⟨((⟨#[]⟩ : ByteArray), false), Ev.bind a1 (Ev.bind b1 (Ev.pos rfl (Ev.pos rfl (Ev.pos (by simp) (Ev.pos (by simp) ?_))))), Ev.bind a2 (Ev.bind b2 (Ev.pos rfl (Ev.pos rfl ?_)))⟩
   · have := jA [(w.parts.length : Int), ((colN w : Nat) : Int)]
     rw [show (rd [(v.parts.length : Int), ((colN v : Nat) : Int)] 1 != rd [(w.parts.length : Int), ((colN w : Nat) : Int)] 0) = true from by
       show (((colN v : Nat) : Int) != (w.parts.length : Int)) = true
       simpa using hin]
     exact this
   · rw [hlw]
     rw [show (((colN v : Nat) : Int) != (w.parts.length : Int)) = true from by simpa using hin]
     exact jS _ _ _
theorem Pure_FnExactMultiplyArrays : laws_FnExactMultiplyArrays.Pure := by
 intro a0 a1 _ _
 refine Ev.rounds (r := true) ?_
 unfold laws_FnExactMultiplyArrays.f
 by_cases h0 : (a0.size : Int) > 1048576
 · exact Ev.pos h0 (Ev.now _)
 refine Ev.neg h0 ?_
 by_cases h1 : (a1.size : Int) > 1048576
 · exact Ev.pos h1 (Ev.now _)
 refine Ev.neg h1 ?_
 obtain ⟨r, hA, hS⟩ := mul_both a0.data.toList a1.data.toList
 rw [BA_data, BA_data] at hA hS
 refine Ev.bind hS (Ev.bind hA (Ev.pos rfl (Ev.neg ?_ (Ev.now _))))
 rw [show (r.2 != r.2) = false by simp]
 simp
end Go.Proofs.YtmjoigpnnechgaaDoor.F
