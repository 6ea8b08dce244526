/- The program's PackVector and the reference's answer alike, and what is made is marked and found marked: all that the law asks, with no program in sight. -/
import Derived.Test.YtoloblgjlnhioaaDoorPQbase
import Derived.Test.YtoloblgjlnhioaaDoorPx3
import Derived.Test.YtoloblgjlnhioaaDoorPx5
import Derived.Test.YtoloblgjlnhioaaDoorPx0
import Derived.Test.YtoloblgjlnhioaaDoorPGlay
import Derived.Test.YtoloblgjlnhioaaDoorPGlaid
import Derived.Test.YtoloblgjlnhioaaDoorPGpack
import Derived.Test.YtoloblgjlnhioaaDoorPx6
import Derived.Test.YtoloblgjlnhioaaDoorPx1
import Derived.Test.YtoloblgjlnhioaaDoorPGmark
import Derived.Test.YtoloblgjlnhioaaDoorPx7
namespace Go.Proofs.YtoloblgjlnhioaaDoor.P
open Go.RowKit Go.Proofs.YtoloblgjlnhioaaDoorW.PrintWords Go.Proofs.YtoloblgjlnhioaaDoorW.PrintLast Go.Proofs.YtoloblgjlnhioaaDoorW.PrintMore Go.Proofs.YtoloblgjlnhioaaDoor.Q
set_option linter.unusedSimpArgs false
set_option linter.unusedVariables false

abbrev NA := S62
abbrev NS := S77
def cA : Nat → Tr → NA
 | 0, t => ⟨(t.n : Int), []⟩
 | d + 1, t => ⟨(t.n : Int), t.parts.map (cA d)⟩
def cS : Nat → Tr → NS
 | 0, t => ⟨(t.n : Int), []⟩
 | d + 1, t => ⟨(t.n : Int), t.parts.map (cS d)⟩
theorem mkA (t : NA) : (⟨t.f0, t.f1⟩ : NA) = t := by cases t; rfl
theorem mkS (t : NS) : (⟨t.f0, t.f1⟩ : NS) = t := by cases t; rfl
theorem cA_f0 (d : Nat) (t : Tr) : (cA d t).f0 = (t.n : Int) := by cases d <;> rfl
theorem cS_f0 (d : Nat) (t : Tr) : (cS d t).f0 = (t.n : Int) := by cases d <;> rfl

/-! ### impl.readArr -/
abbrev RA := Int × List NA × ByteArray × Bool
def badA : RA := (0, [], BA [], false)
def resA (d : Nat) : Option (Tr × By) → RA
 | none => badA
 | some (t, r) => ((cA d t).f0, (cA d t).f1, BA r, true)
theorem bt_at {l : By} {i : Nat} (h : i < l.length) : bt (BA l) (i : Int) = (l[i].toNat : Int) := by
 rw [bt_BA, Int.toNat_natCast, List.getD_eq_getElem?_getD, List.getElem?_eq_getElem h]
 rfl
theorem take_split {l : By} (i : Nat) (h : (l.take i).all isD = true) (hn : ∀ x : i < l.length, isD l[i] = false) : l.takeWhile isD = l.take i ∧ l.dropWhile isD = l.drop i := by
 have e : l = l.take i ++ l.drop i := (List.take_append_drop i l).symm
 have := takeWhile_digits (ds := l.take i) (r := l.drop i) h (by
   intro c r hr
   by_cases hi : i < l.length
   · rw [List.drop_eq_getElem_cons hi] at hr
     rw [← (List.cons.inj hr).1]
     exact hn hi
   · rw [List.drop_eq_nil_of_le (by omega)] at hr
     cases hr)
 rw [← e] at this
 exact this
theorem readArr_j1 (l : By) (hl : l.length ≤ 1000000) : Ev (fun k => impl_readArr.j1 k (BA l) ((l.takeWhile isD).length : Int)) (resA 0 (parse 0 l)) := by
 have ht : l.take (l.takeWhile isD).length = l.takeWhile isD := by
   have e := List.takeWhile_append_dropWhile (p := isD) (l := l)
   conv => lhs; arg 2; rw [← e]
   rw [List.take_left']
   rfl
 have hd : l.drop (l.takeWhile isD).length = l.dropWhile isD := by
   have e := List.takeWhile_append_dropWhile (p := isD) (l := l)
   conv => lhs; arg 2; rw [← e]
   rw [List.drop_left']
   rfl
 have hlen : (l.takeWhile isD).length ≤ l.length := by
   have := congrArg List.length (List.takeWhile_append_dropWhile (p := isD) (l := l))
   rw [List.length_append] at this
   omega
 have hall : (l.takeWhile isD).all isD = true := List.all_takeWhile
 have hx : (BA l).extract 0 (l.takeWhile isD).length = BA (l.takeWhile isD) := by
   rw [BA_extract]
   simp [ht]
 have hy : (BA l).extract (l.takeWhile isD).length (BA l).size = BA (l.dropWhile isD) := by
   rw [BA_extract, hd, BA_size, List.take_of_length_le]
   rw [← hd, List.length_drop]
   omega
 refine Ev.step' ?_; simp only [impl_readArr.j1]
 refine Ev.pos (by omega) (Ev.pos (by rw [BA_size]; omega) ?_)
 simp only [Int.toNat_natCast, hx, hy]
 have hs : (BA (l.takeWhile isD)).size ≤ 281474976710656 := by rw [BA_size]; omega
 by_cases hne : l.takeWhile isD = []
 · have ha : strconv_Atoi.f (BA (l.takeWhile isD)) = some (0, some 0) := by
     unfold strconv_Atoi.f
     rw [if_pos hs, data_BA, hne]
     rfl
   have hp : parse 0 l = none := by
     have : parseNum l = none := by
       unfold parseNum
       rw [hne]
       exact if_neg (fun h => dec_ne _ h.2)
     unfold parse
     rw [this]
     rfl
   rw [hp]
   refine Ev.call ha ?_
   exact Ev.neg (by simp) (Ev.now _)
 · rcases atoi_digits hall hne with e | ⟨e, hbig⟩
   · have ha : strconv_Atoi.f (BA (l.takeWhile isD)) = some ((valD 0 (l.takeWhile isD) : Int), none) := by
       unfold strconv_Atoi.f
       rw [if_pos hs, data_BA, e]
     refine Ev.call ha ?_
     refine Ev.pos (by first | trivial | rfl) ?_
     by_cases hb : valD 0 (l.takeWhile isD) < 10007
     · refine Ev.neg (by omega) ?_
       have hi : strconv_Itoa.f (valD 0 (l.takeWhile isD) : Int) = some (BA (Lib.decDigits (valD 0 (l.takeWhile isD)))) := by
         unfold strconv_Itoa.f
         rw [if_pos (by omega), if_pos (by omega), itoa_nat]
         rfl
       refine Ev.call hi ?_
       by_cases hq : Lib.decDigits (valD 0 (l.takeWhile isD)) = l.takeWhile isD
       · refine Ev.pos (by rw [toList_BA, toList_BA]; exact hq) (Ev.val ?_)
         have : parseNum l = some (valD 0 (l.takeWhile isD), l.dropWhile isD) := if_pos ⟨hb, hq⟩
         unfold parse
         rw [this]
         rfl
       · refine Ev.neg (by rw [toList_BA, toList_BA]; exact hq) (Ev.val ?_)
         have : parseNum l = none := if_neg (fun h => hq h.2)
         unfold parse
         rw [this]
         rfl
     · refine Ev.pos (by omega) (Ev.val ?_)
       have : parseNum l = none := if_neg (fun h => hb h.1)
       unfold parse
       rw [this]
       rfl
   · have ha : strconv_Atoi.f (BA (l.takeWhile isD)) = some (Lib.atoiSat (l.takeWhile isD), some 0) := by
       unfold strconv_Atoi.f
       rw [if_pos hs, data_BA, e]
     refine Ev.call ha ?_
     refine Ev.neg (by simp) (Ev.val ?_)
     have : parseNum l = none := if_neg (fun h => absurd h.1 (by omega))
     unfold parse
     rw [this]
     rfl
theorem readArr_l0 (l : By) (hl : l.length ≤ 1000000) : ∀ (n i : Nat), l.length - i = n → i ≤ l.length → (l.take i).all isD = true → Ev (fun k => impl_readArr.l0 k (BA l) (i : Int)) (resA 0 (parse 0 l)) := by
 intro n
 induction n with
 | zero =>
   intro i h hi hall
   obtain ⟨h1, _⟩ := take_split i hall (fun x => by omega)
   have he : (l.takeWhile isD).length = i := by rw [h1, List.length_take]; omega
   refine Ev.step' ?_; simp only [impl_readArr.l0]
   refine Ev.neg (by rw [BA_size]; omega) ?_
   rw [← he]
   exact readArr_j1 l hl
 | succ n ih =>
   intro i h hi hall
   have hlt : i < l.length := by omega
   refine Ev.step' ?_; simp only [impl_readArr.l0]
   refine Ev.pos (by rw [BA_size]; omega) (Ev.pos (by omega) ?_)
   simp only [bt_at hlt]
   by_cases hd : isD l[i] = true
   · obtain ⟨h1, h2⟩ := (isD_iff _).1 hd
     refine Ev.pos (by omega) (Ev.pos (by omega) ?_)
     rw [wrapS (by omega) (by omega)]
     exact ih (i + 1) (by omega) (by omega) (by rw [List.take_succ_eq_append_getElem hlt, List.all_append, hall]; simp [hd])
   · have hd' : isD l[i] = false := by simpa using hd
     obtain ⟨h1, _⟩ := take_split i hall (fun x => hd')
     have he : (l.takeWhile isD).length = i := by rw [h1, List.length_take]; omega
     have hj := readArr_j1 l hl
     rw [he] at hj
     by_cases h1 : (48 : Int) ≤ (l[i].toNat : Int)
     · refine Ev.pos h1 (Ev.neg ?_ hj)
       intro h2
       exact hd ((isD_iff _).2 ⟨by omega, by omega⟩)
     · exact Ev.neg h1 hj
theorem readArr_zero (l : By) (hl : l.length ≤ 1000000) : Ev (fun k => impl_readArr.f k (BA l) 0) (resA 0 (parse 0 l)) := by
 refine Ev.step' ?_; simp only [impl_readArr.f]
 exact Ev.pos (by first | trivial | rfl) (readArr_l0 l hl _ 0 rfl (by omega) rfl)


theorem parse_nil : ∀ d, parse d [] = none
 | 0 => by
   unfold parse
   have : parseNum [] = none := if_neg (fun h => dec_ne _ h.2)
   rw [this]
   rfl
 | d + 1 => rfl
theorem parse_93 : ∀ d (t : By), parse d (93 :: t) = none
 | 0, t => by
   unfold parse
   have : parseNum (93 :: t) = none := if_neg (fun h => dec_ne _ (h.2.trans (by simp [isD])))
   rw [this]
   rfl
 | d + 1, t => by
   unfold parse
   simp
theorem parse_len {d : Nat} {l : By} {v : Tr} {r : By} (h : parse d l = some (v, r)) : r.length ≤ l.length := by
 have := congrArg List.length (parse_sound d l v r h).1
 rw [List.length_append] at this
 omega
theorem BA_nil : BA [] = (⟨#[]⟩ : ByteArray) := rfl
theorem BA_tail (c : UInt8) (t : By) : (BA (c :: t)).extract 1 (BA (c :: t)).size = BA t := by
 rw [BA_extract]
 simp
theorem bt_zero (c : UInt8) (t : By) : bt (BA (c :: t)) 0 = (c.toNat : Int) := bt_BA _ _
theorem toNat_ne {c : UInt8} {n : Nat} (h : c ≠ UInt8.ofNat n) (hn : n < 256) : ((c.toNat : Int)) ≠ (n : Int) := by
 intro e
 apply h
 apply UInt8.toNat.inj
 rw [UInt8.toNat_ofNat']
 omega
/-- .. and what is left of the parts, at the loop's head. -/
def resL (d : Nat) (acc : List NA) : Option (List Tr × By) → RA
 | none => badA
 | some (vs, r) => (0, acc ++ vs.map (cA d), BA r, true)
theorem readArr_l1 (d : Nat) (hd : d ≤ 1000) (hf : ∀ l : By, l.length ≤ 1000000 → Ev (fun k => impl_readArr.f k (BA l) (d : Int)) (resA d (parse d l))) :
   ∀ (n : Nat) (l : By) (acc : List NA), l.length < n → acc.length + l.length ≤ 1000000 → (acc ≠ [] ∨ ∀ t, l ≠ 93 :: t) → Ev (fun k => impl_readArr.l1 k (BA l) ((d + 1 : Nat) : Int) 0 acc) (resL d acc (parseL (parse d) n l)) := by
 intro n
 induction n with
 | zero => intro l acc h; omega
 | succ n ih =>
   intro l acc hn hb hcase
   have hbad : Ev (fun k => impl_readArr.j5 k ((d + 1 : Nat) : Int) (BA []) true 0 acc 0 []) badA := by
     refine Ev.step' ?_; simp only [impl_readArr.j5]
     exact Ev.pos (by first | trivial | rfl) (Ev.now _)
   have hbad2 : ∀ (x : ByteArray) (m : Int) (ps : List NA), Ev (fun k => impl_readArr.j5 k ((d + 1 : Nat) : Int) x true 0 acc m ps) badA := by
     intro x m ps
     refine Ev.step' ?_; simp only [impl_readArr.j5]
     exact Ev.pos (by first | trivial | rfl) (Ev.now _)
   have hj4 : l ≠ [] → Ev (fun k => impl_readArr.j4 k (BA l) ((d + 1 : Nat) : Int) true 0 acc) (resL d acc (parseL (parse d) (n + 1) l)) := by
     intro hne
     refine Ev.step' ?_; simp only [impl_readArr.j4]
     refine Ev.pos (by first | trivial | rfl) ?_
     rw [show wrap64 (((d + 1 : Nat) : Int) - 1) = (d : Int) by rw [wrapS (by omega) (by omega)]; omega]
     refine Ev.bind (hf l (by omega)) ?_
     unfold parseL
     cases hp : parse d l with
     | none => exact Ev.neg (by simp [resA, badA]) (hbad2 _ _ _)
     | some q =>
       obtain ⟨v, r⟩ := q
       have hr := parse_len hp
       refine Ev.pos (by first | trivial | rfl) ?_
       cases r with
       | nil => exact Ev.pos (toList_BA []) (hbad2 _ _ _)
       | cons c r' =>
         simp only [List.length_cons] at hr
         have hj5 : ∀ b : Bool, b = false → (c = 44 ∨ c = 93) → Ev (fun k => impl_readArr.j5 k ((d + 1 : Nat) : Int) (BA (c :: r')) b 0 acc (cA d v).f0 (cA d v).f1) (if c = 93 then (0, acc ++ [cA d v], BA r', true) else resL d (acc ++ [cA d v]) (parseL (parse d) n r')) := by
           intro b hb0 hc
           subst hb0
           refine Ev.step' ?_; simp only [impl_readArr.j5]
           refine Ev.neg (by simp) (Ev.pos (by omega) ?_)
           refine Ev.call (a := acc ++ [cA d v]) (by rw [mkA]) ?_
           refine Ev.pos (by simp <;> omega) ?_
           by_cases h93 : c = 93
           · subst h93
             rw [if_pos rfl]
             refine Ev.pos (bt_zero _ _) (Ev.pos (by simp <;> omega) (Ev.val ?_))
             rw [BA_tail]
           · rw [if_neg h93]
             refine Ev.neg (by rw [bt_zero]; exact toNat_ne (n := 93) h93 (by omega)) (Ev.pos (by simp <;> omega) ?_)
             rw [BA_tail]
             exact ih r' _ (by omega) (by simp <;> omega) (.inl (by simp))
         refine Ev.neg (by show ¬ (BA (c :: r')).toList = []; rw [toList_BA]; simp) (Ev.pos (by show (0 : Int) < ((BA (c :: r')).size : Int); simp <;> omega) ?_)
         have hb0 : bt (resA d (some (v, c :: r'))).2.2.1 0 = (c.toNat : Int) := bt_zero _ _
         by_cases h44 : c = 44
         · subst h44
           refine Ev.pos (bt_zero _ _) (evIs (hj5 false rfl (.inl rfl)) ?_)
           simp only [if_true]
           rw [if_neg (by decide)]
           cases parseL (parse d) n r' with
           | none => rfl
           | some q => simp [resL]
         · refine Ev.neg (by rw [hb0]; exact toNat_ne (n := 44) h44 (by omega)) ?_
           by_cases h93 : c = 93
           · subst h93
             refine evIs (hj5 _ (by rw [hb0]; rfl) (.inr rfl)) ?_
             simp [resL]
           · have e : (bt (resA d (some (v, c :: r'))).2.2.1 0 != 93) = true := by
               rw [hb0]
               simpa using toNat_ne (n := 93) h93 (by omega)
             rw [e]
             refine evIs (hbad2 _ _ _) ?_
             simp [h44, h93, resL]
   refine Ev.step' ?_; simp only [impl_readArr.l1]
   cases l with
   | nil =>
     refine Ev.pos (toList_BA []) ?_
     refine Ev.step' ?_; simp only [impl_readArr.j4]
     refine Ev.neg (by simp) (Ev.pos (toList_BA []) (Ev.val ?_))
     unfold parseL
     rw [parse_nil]
     rfl
   | cons c t =>
     refine Ev.neg (by rw [toList_BA]; simp) (Ev.pos (by simp <;> omega) ?_)
     by_cases h93 : c = 93
     · subst h93
       refine Ev.pos (bt_zero _ _) ?_
       rcases hcase with hacc | hh
       · have hpos : 0 < acc.length := List.length_pos_iff.2 hacc
         rw [show decide ((acc.length : Int) > 0) = true by simp; exact hpos]
         exact hj4 (by simp)
       · exact absurd rfl (hh t)
     · refine Ev.neg (by rw [bt_zero]; exact toNat_ne (n := 93) h93 (by omega)) (hj4 (by simp))
theorem readArr_is : ∀ (d : Nat), d ≤ 1000 → ∀ l : By, l.length ≤ 1000000 → Ev (fun k => impl_readArr.f k (BA l) (d : Int)) (resA d (parse d l))
 | 0, _, l, hl => readArr_zero l hl
 | d + 1, hd, l, hl => by
   have ih := readArr_is d (by omega)
   refine Ev.step' ?_; simp only [impl_readArr.f]
   refine Ev.neg (by omega) ?_
   have hj2 : ∀ x : ByteArray, Ev (fun k => impl_readArr.j2 k x ((d + 1 : Nat) : Int) true) badA := by
     intro x
     refine Ev.step' ?_; simp only [impl_readArr.j2]
     exact Ev.pos (by first | trivial | rfl) (Ev.now _)
   cases l with
   | nil => exact Ev.pos (toList_BA []) (hj2 _)
   | cons c t =>
     refine Ev.neg (by rw [toList_BA]; simp) (Ev.pos (by simp <;> omega) ?_)
     by_cases h91 : c = 91
     · subst h91
       rw [show (bt (BA (91 :: t)) 0 != 91) = false by rw [bt_zero]; rfl]
       refine Ev.step' ?_; simp only [impl_readArr.j2]
       refine Ev.neg (by simp) (Ev.pos (by simp <;> omega) ?_)
       rw [BA_tail]
       simp only [List.length_cons] at hl
       cases t with
       | nil =>
         refine evIs (readArr_l1 d (by omega) ih 1 [] [] (by simp) (by simp) (.inr (by simp))) ?_
         unfold parse parseL
         rw [parse_nil]
         rfl
       | cons c' t' =>
         by_cases h93 : c' = 93
         · subst h93
           refine Ev.step' ?_; simp only [impl_readArr.l1]
           refine Ev.neg (by rw [toList_BA]; simp) (Ev.pos (by simp <;> omega) (Ev.pos (bt_zero _ _) ?_))
           rw [show decide ((([] : List NA).length : Int) > 0) = false from rfl]
           refine Ev.step' ?_; simp only [impl_readArr.j4]
           refine Ev.neg (by simp) (Ev.neg (by rw [toList_BA]; simp) (Ev.pos (by simp <;> omega) (Ev.val ?_)))
           rw [BA_tail]
           rfl
         · refine evIs (readArr_l1 d (by omega) ih _ (c' :: t') [] (Nat.lt_succ_self _) (by simp only [List.length_cons, List.length_nil] at hl ⊢; omega) (.inr (by intro t e; exact h93 (List.cons.inj e).1))) ?_
           unfold parse
           simp only [if_true, if_neg h93]
           cases parseL (parse d) ((c' :: t').length + 1) (c' :: t') with
           | none => rfl
           | some q => rfl
     · rw [show (bt (BA (c :: t)) 0 != 91) = true by rw [bt_zero]; simpa using toNat_ne (n := 91) h91 (by omega)]
       refine evIs (hj2 _) ?_
       unfold parse
       simp only [if_neg h91]
       rfl

/-! ### spec's reader -/
theorem drop_split {s : By} {p : Nat} (h : p < s.length) : s.drop p = s[p] :: s.drop (p + 1) := List.drop_eq_getElem_cons h
theorem numStop_is (s : By) : ∀ (n p : Nat), numStop (BA s) n (p : Int) = ((p + min n ((s.drop p).takeWhile isD).length : Nat) : Int) := by
 intro n
 induction n with
 | zero => intro p; simp [numStop]
 | succ n ih =>
   intro p
   unfold numStop
   by_cases hp : p < s.length
   · rw [drop_split hp, List.takeWhile_cons]
     by_cases hd : isD s[p] = true
     · have h := (isD_iff _).1 hd
       have : digitAt (BA s) (p : Int) = true := by
         simp [digitAt, bt_at hp, hp]
         omega
       rw [if_pos this, if_pos hd, show ((p : Int) + 1) = ((p + 1 : Nat) : Int) by omega, ih (p + 1), List.length_cons]
       omega
     · have : ¬ digitAt (BA s) (p : Int) = true := by
         intro h
         simp [digitAt, bt_at hp, hp] at h
         exact hd ((isD_iff _).2 (by omega))
       rw [if_neg this, if_neg hd]
       simp
   · have : ¬ digitAt (BA s) (p : Int) = true := by
       simp [digitAt]
       omega
     rw [if_neg this, List.drop_eq_nil_of_le (by omega)]
     simp
theorem valD_ltP : ∀ (l : By) (p a b : Nat), p = 10 ^ l.length → l.all isD = true → a < b → valD a l < b * p
 | [], p, a, b, hp, _, h => by
   have hp1 : p = 1 := hp
   have : valD a [] = a := rfl
   rw [this, hp1, Nat.mul_one]
   exact h
 | c :: r, p, a, b, hp, hall, h => by
   simp only [List.all_cons, Bool.and_eq_true] at hall
   have hc := (isD_iff _).1 hall.1
   have h1 := valD_ltP r (10 ^ r.length) (a * 10 + (c.toNat - 48)) (b * 10) rfl hall.2 (by omega)
   have h2 : p = 10 ^ r.length * 10 := hp
   have h4 : valD a (c :: r) = valD (a * 10 + (c.toNat - 48)) r := rfl
   generalize 10 ^ r.length = q at *
   rw [h4, h2, Nat.mul_comm q 10, ← Nat.mul_assoc]
   exact h1
theorem valD_lt (l : By) (a b : Nat) (hall : l.all isD = true) (h : a < b) : valD a l < b * 10 ^ l.length := valD_ltP l _ a b rfl hall h
theorem l13Num_l0 (ds : By) (hall : ds.all isD = true) (hl : ds.length ≤ 17) : ∀ (n i : Nat), ds.length - i = n → i ≤ ds.length → Ev (fun k => spec_l13Num.l0 k (BA ds) false (valD 0 (ds.take i) : Int) (i : Int)) ((valD 0 ds : Int), true) := by
 intro n
 induction n with
 | zero =>
   intro i h hi
   refine Ev.step' ?_; simp only [spec_l13Num.l0]
   refine Ev.neg (by simp <;> omega) (Ev.neg (by simp) (Ev.val ?_))
   rw [List.take_of_length_le (by omega)]
 | succ n ih =>
   intro i h hi
   have hlt : i < ds.length := by omega
   have hd : isD ds[i] = true := List.all_eq_true.1 hall _ (List.getElem_mem hlt)
   have hc := (isD_iff _).1 hd
   refine Ev.step' ?_; simp only [spec_l13Num.l0]
   simp only [bt_at hlt]
   refine Ev.pos (by simp <;> omega) (Ev.pos (by omega) (Ev.neg (by omega) (Ev.neg (by omega) ?_)))
   have hv : valD 0 (ds.take i) < 1 * 10 ^ (ds.take i).length := valD_lt _ _ _ (by
     rw [List.all_eq_true] at hall ⊢
     intro x hx
     exact hall x (List.mem_of_mem_take hx)) (by omega)
   have hpow : 10 ^ (ds.take i).length ≤ 10 ^ 17 := Nat.pow_le_pow_right (by omega) (by rw [List.length_take]; omega)
   have hv2 : valD 0 (ds.take i) < 100000000000000000 := by
     generalize 10 ^ (ds.take i).length = q at *
     omega
   have e1 : wrap64 (wrap64 ((valD 0 (ds.take i) : Int) * 10) + ((ds[i].toNat : Int) - 48) % 256) = (valD 0 (ds.take (i + 1)) : Int) := by
     rw [List.take_succ_eq_append_getElem hlt, valD_append, valD_one, wrapS (a := (valD 0 (ds.take i) : Int) * 10) (by omega) (by omega), wrapS (by omega) (by omega)]
     omega
   rw [e1, wrapS (by omega) (by omega)]
   exact ih (i + 1) (by omega) (by omega)
theorem l13_is (ds : By) (hall : ds.all isD = true) (hl : ds.length ≤ 17) : Ev (fun k => spec_l13Num.f k (BA ds)) (if Lib.decDigits (valD 0 ds) = ds then ((valD 0 ds : Int), true) else (0, false)) := by
 have hj2 : ∀ x : ByteArray, Ev (fun k => spec_l13Num.j2 k x false true) (0, false) := by
   intro x
   refine Ev.step' ?_; simp only [spec_l13Num.j2]
   exact Ev.pos (by first | trivial | rfl) (Ev.now _)
 unfold spec_l13Num.f
 cases ds with
 | nil =>
   refine Ev.neg (by simp) ?_
   refine Ev.step' ?_; simp only [spec_l13Num.j0]
   refine Ev.neg (by simp) ?_
   refine Ev.step' ?_; simp only [spec_l13Num.j1]
   refine Ev.pos (by simp) (evIs (hj2 _) ?_)
   rw [if_neg (dec_ne _)]
 | cons c r =>
   have hd : isD c = true := by
     simp only [List.all_cons, Bool.and_eq_true] at hall
     exact hall.1
   have hc := (isD_iff _).1 hd
   simp only [List.length_cons] at hl
   refine Ev.pos (by simp <;> omega) (Ev.pos (by simp <;> omega) ?_)
   rw [show (bt (BA (c :: r)) 0 == 45) = false by rw [bt_zero]; simp; omega]
   refine Ev.step' ?_; simp only [spec_l13Num.j0]
   refine Ev.neg (by simp) ?_
   refine Ev.step' ?_; simp only [spec_l13Num.j1]
   refine Ev.neg (by simp <;> omega) (Ev.neg (by simp <;> omega) (Ev.pos (by simp <;> omega) ?_))
   have hj2f : (c ≠ 48 ∨ r = []) → Ev (fun k => spec_l13Num.j2 k (BA (c :: r)) false false) (if Lib.decDigits (valD 0 (c :: r)) = c :: r then ((valD 0 (c :: r) : Int), true) else (0, false)) := by
     intro h
     refine Ev.step' ?_; simp only [spec_l13Num.j2]
     refine Ev.neg (by simp) (evIs (l13Num_l0 (c :: r) hall (by simp only [List.length_cons]; omega) _ 0 rfl (by omega)) ?_)
     rw [if_pos ((dec_val_iff hall).2 ⟨c, r, rfl, h⟩)]
   by_cases h48 : c = 48
   · subst h48
     refine Ev.pos (bt_zero _ _) ?_
     by_cases hr : r = []
     · subst hr
       exact Ev.neg (by simp) (hj2f (.inr rfl))
     · have := List.length_pos_iff.2 hr
       refine Ev.pos (by simp <;> omega) (evIs (hj2 _) ?_)
       rw [if_neg]
       intro h
       obtain ⟨c', r', e, h1⟩ := (dec_val_iff hall).1 h
       obtain ⟨rfl, rfl⟩ := List.cons.inj e
       rcases h1 with h1 | h1
       · exact h1 rfl
       · exact hr h1
   · exact Ev.neg (by rw [bt_zero]; exact toNat_ne (n := 48) h48 (by omega)) (hj2f (.inl h48))

abbrev RS := Int × List NS × ByteArray × Int × Bool
def OutS (d : Nat) (s : By) : Option (Tr × By) → RS → Prop
 | none, res => res.2.2.2.2 = true
 | some (v, r), res => res = ((cS d v).f0, (cS d v).f1, BA s, ((s.length - r.length : Nat) : Int), false)
theorem number_is (s : By) (p : Nat) (hp : p ≤ s.length) (hs : s.length ≤ 1000000) :
   ∃ res : Int × ByteArray × Int × Bool, Ev (fun k => spec_l1Reader_number.f k (BA s) (p : Int) false) res ∧ OutS 0 s (parse 0 (s.drop p)) (res.1, [], res.2.1, res.2.2.1, res.2.2.2) := by
 have hst := numStop_is s 6 p
 have hcnt : ((s.drop p).takeWhile isD).length + ((s.drop p).dropWhile isD).length = s.length - p := by
   have := congrArg List.length (List.takeWhile_append_dropWhile (p := isD) (l := s.drop p))
   rw [List.length_append, List.length_drop] at this
   exact this
 have hall : ((s.drop p).takeWhile isD).all isD = true := List.all_takeWhile
 have hx : (BA s).extract p (p + min 6 ((s.drop p).takeWhile isD).length) = BA (((s.drop p).takeWhile isD).take 6) := by
   rw [BA_extract]
   congr 1
   have e : s.drop p = (s.drop p).takeWhile isD ++ (s.drop p).dropWhile isD := List.takeWhile_append_dropWhile.symm
   generalize hW : (s.drop p).takeWhile isD = W at *
   generalize hR : (s.drop p).dropWhile isD = R at *
   rw [e, show p + min 6 W.length - p = min 6 W.length by omega, List.take_append_of_le_length (by omega)]
   by_cases h6 : 6 ≤ W.length
   · rw [show min 6 W.length = 6 by omega]
   · rw [List.take_of_length_le (by omega), List.take_of_length_le (by omega)]
 have hall6 : (((s.drop p).takeWhile isD).take 6).all isD = true := by
   rw [List.all_eq_true] at hall ⊢
   intro x hx
   exact hall x (List.mem_of_mem_take hx)
 have hE : ∀ q : Int × Bool, q = (if Lib.decDigits (valD 0 (((s.drop p).takeWhile isD).take 6)) = ((s.drop p).takeWhile isD).take 6 then ((valD 0 (((s.drop p).takeWhile isD).take 6) : Int), true) else (0, false)) →
     Ev (fun k => spec_l1Reader_number.f k (BA s) (p : Int) false) (q.1, BA s, ((p + min 6 ((s.drop p).takeWhile isD).length : Nat) : Int), false || !q.2 || !(decide (0 ≤ q.1) && decide (q.1 ≤ 10006))) := by
   intro q hq
   subst hq
   unfold spec_l1Reader_number.f
   refine Ev.pos (by omega) (Ev.pos (by rw [BA_size]; omega) (Ev.pos (by rw [BA_size]; omega) ?_))
   rw [hst]
   simp only [Int.toNat_natCast, hx]
   refine Ev.bind (l13_is _ hall6 (by rw [List.length_take]; omega)) ?_
   exact Ev.now _
 refine ⟨_, hE _ rfl, ?_⟩
 · unfold parse parseNum
   generalize hW : (s.drop p).takeWhile isD = W at *
   generalize hR : (s.drop p).dropWhile isD = R at *
   by_cases h6 : W.length ≤ 6
   · rw [List.take_of_length_le h6]
     by_cases hdec : Lib.decDigits (valD 0 W) = W
     · by_cases hv : valD 0 W < 10007
       · rw [if_pos ⟨hv, hdec⟩, if_pos hdec]
         show _ = _
         simp only [cS, Prod.mk.injEq, true_and, Bool.false_or]
         refine ⟨by omega, ?_⟩
         simp
         omega
       · rw [if_neg (fun h => hv h.1), if_pos hdec]
         show _ = _
         simp
         omega
     · rw [if_neg (fun h => hdec h.2), if_neg hdec]
       rfl
   · have hnone : ¬ (valD 0 W < 10007 ∧ Lib.decDigits (valD 0 W) = W) := by
       rintro ⟨hv, hdec⟩
       obtain ⟨c, r, e, h1⟩ := (dec_val_iff hall).1 hdec
       rw [e] at hall hv h6
       simp only [List.all_cons, Bool.and_eq_true] at hall
       simp only [List.length_cons] at h6
       rcases h1 with h1 | h1
       · have := six_big hall.1 h1 (r := r) (by omega)
         omega
       · rw [h1] at h6
         simp at h6
     rw [if_neg hnone]
     show _ = _
     split
     · next hdec =>
       obtain ⟨c, r, e, h1⟩ := (dec_val_iff hall6).1 hdec
       have hl6 : (W.take 6).length = 6 := by rw [List.length_take]; omega
       rw [e] at hall6 hl6 ⊢
       simp only [List.all_cons, Bool.and_eq_true] at hall6
       simp only [List.length_cons] at hl6
       rcases h1 with h1 | h1
       · have := six_big hall6.1 h1 (r := r) (by omega)
         simp
         omega
       · rw [h1] at hl6
         simp at hl6
     · rfl

theorem is_hit {s : By} {p : Nat} {c : UInt8} {t : By} (h : s.drop p = c :: t) (hs : s.length ≤ 1000000) (ch : Int) (e : (c.toNat : Int) = ch) : spec_l1Reader_is.f (BA s) (p : Int) false ch = some (true, BA s, ((p + 1 : Nat) : Int), false) := by
 have hp : p < s.length := by
   rcases Nat.lt_or_ge p s.length with h1 | h1
   · exact h1
   · rw [List.drop_eq_nil_of_le h1] at h; cases h
 rw [drop_split hp] at h
 obtain ⟨rfl, rfl⟩ := List.cons.inj h
 unfold spec_l1Reader_is.f
 rw [if_pos (by rw [BA_size]; omega), if_pos (by omega), bt_at hp, if_pos e, wrapS (by omega) (by omega)]
 rfl
theorem is_miss {s : By} {p : Nat} (ch : Int) (h : ∀ c t, s.drop p = c :: t → (c.toNat : Int) ≠ ch) : spec_l1Reader_is.f (BA s) (p : Int) false ch = some (false, BA s, (p : Int), false) := by
 unfold spec_l1Reader_is.f
 by_cases hp : p < s.length
 · rw [if_pos (by rw [BA_size]; omega), if_pos (by omega), bt_at hp, if_neg (h _ _ (drop_split hp))]
 · rw [if_neg (by rw [BA_size]; omega)]
def tailL (d n : Nat) : By → Option (List Tr × By)
 | [] => none
 | c :: r => if c = 44 then parseL (parse d) n r else if c = 93 then some ([], r) else none
theorem parseL_tail (d n : Nat) (s : By) : parseL (parse d) (n + 1) s = (parse d s).bind fun q => (tailL d n q.2).map fun z => (q.1 :: z.1, z.2) := by
 unfold parseL
 cases parse d s with
 | none => rfl
 | some q =>
   obtain ⟨v, r⟩ := q
   cases r with
   | nil => rfl
   | cons c r =>
     simp only [tailL, Option.bind_some]
     by_cases h44 : c = 44
     · subst h44
       rfl
     · rw [if_neg h44, if_neg h44]
       by_cases h93 : c = 93
       · rw [if_pos h93, if_pos h93]; rfl
       · rw [if_neg h93, if_neg h93]; rfl
def OutL (d : Nat) (s : By) (acc : List NS) : Option (List Tr × By) → RS → Prop
 | none, res => res.2.2.2.2 = true
 | some (vs, r), res => res = (0, acc ++ vs.map (cS d), BA s, ((s.length - r.length : Nat) : Int), false)
/-- What holds of each text at a depth. -/
def NodeIs (d : Nat) : Prop := ∀ (s : By) (p : Nat), p ≤ s.length → s.length ≤ 1000000 → ∃ res, Ev (fun k => spec_l1Reader_node.f k (BA s) (p : Int) false (d : Int)) res ∧ OutS d s (parse d (s.drop p)) res
theorem node_bad (x1 m : Int) (x : ByteArray) (y : Int) (ps : List NS) : Ev (fun k => spec_l1Reader_node.l0 k x1 x y true m ps) (m, ps, x, y, true) := by
 refine Ev.step' ?_; simp only [spec_l1Reader_node.l0]
 exact Ev.pos (by first | trivial | rfl) (Ev.now _)
theorem node_l0 (d : Nat) (hd : d ≤ 1000) (hf : NodeIs d) (s : By) (hs : s.length ≤ 1000000) : ∀ (n p : Nat) (acc : List NS), p ≤ s.length → (s.drop p).length ≤ n → acc.length + (s.drop p).length ≤ 1000000 →
   ∃ res, Ev (fun k => spec_l1Reader_node.l0 k ((d + 1 : Nat) : Int) (BA s) (p : Int) false 0 acc) res ∧ OutL d s acc (tailL d n (s.drop p)) res := by
 intro n
 induction n with
 | zero =>
   intro p acc hp hn hb
   have hnil : s.drop p = [] := List.length_eq_zero_iff.1 (by omega)
   have hm : ∀ ch, spec_l1Reader_is.f (BA s) (p : Int) false ch = some (false, BA s, (p : Int), false) := fun ch => is_miss ch (by rw [hnil]; intro c t e; cases e)
   refine ⟨(0, acc, BA s, (p : Int), true), ?_, by rw [hnil]; rfl⟩
   refine Ev.step' ?_; simp only [spec_l1Reader_node.l0]
   refine Ev.neg (by simp) (Ev.call (hm 44) (Ev.neg (by simp) (Ev.neg (by simp) (Ev.call (hm 93) (Ev.val rfl)))))
 | succ n ih =>
   intro p acc hp hn hb
   cases hdr : s.drop p with
   | nil =>
     have hm : ∀ ch, spec_l1Reader_is.f (BA s) (p : Int) false ch = some (false, BA s, (p : Int), false) := fun ch => is_miss ch (by rw [hdr]; intro c t e; cases e)
     refine ⟨(0, acc, BA s, (p : Int), true), ?_, rfl⟩
     refine Ev.step' ?_; simp only [spec_l1Reader_node.l0]
     refine Ev.neg (by simp) (Ev.call (hm 44) (Ev.neg (by simp) (Ev.neg (by simp) (Ev.call (hm 93) (Ev.val rfl)))))
   | cons c t =>
     have hp' : p < s.length := by
       rcases Nat.lt_or_ge p s.length with h1 | h1
       · exact h1
       · rw [List.drop_eq_nil_of_le h1] at hdr; cases hdr
     have ht : s.drop (p + 1) = t := by
       have := drop_split hp'
       rw [hdr] at this
       exact (List.cons.inj this).2.symm
     have htl : t.length = s.length - (p + 1) := by rw [← ht, List.length_drop]
     rw [hdr] at hn hb
     simp only [List.length_cons] at hn hb
     by_cases h44 : c = 44
     · subst h44
       obtain ⟨res, h1, h2⟩ := hf s (p + 1) (by omega) hs
       rw [ht] at h2
       have hgo : ∀ res', (Ev (fun k => spec_l1Reader_node.l0 k ((d + 1 : Nat) : Int) res.2.2.1 res.2.2.2.1 res.2.2.2.2 0 (acc ++ [⟨res.1, res.2.1⟩])) res') → Ev (fun k => spec_l1Reader_node.l0 k ((d + 1 : Nat) : Int) (BA s) (p : Int) false 0 acc) res' := by
         intro res' h
         refine Ev.step' ?_; simp only [spec_l1Reader_node.l0]
         refine Ev.neg (by simp) (Ev.call (is_hit hdr hs 44 rfl) (Ev.pos (by first | trivial | rfl) ?_))
         rw [show wrap64 (((d + 1 : Nat) : Int) - 1) = (d : Int) by rw [wrapS (by omega) (by omega)]; omega]
         exact Ev.bind h1 (Ev.pos (by omega) h)
       have htail : tailL d (n + 1) (44 :: t) = (parse d t).bind fun q => (tailL d n q.2).map fun z => (q.1 :: z.1, z.2) := parseL_tail d n t
       rw [htail]
       cases hq : parse d t with
       | none =>
         rw [hq] at h2
         have hb2 : res.2.2.2.2 = true := h2
         refine ⟨(0, acc ++ [⟨res.1, res.2.1⟩], res.2.2.1, res.2.2.2.1, true), hgo _ ?_, rfl⟩
         rw [hb2]
         exact node_bad _ _ _ _ _
       | some q =>
         obtain ⟨v, r⟩ := q
         rw [hq] at h2
         have hres : res = ((cS d v).f0, (cS d v).f1, BA s, ((s.length - r.length : Nat) : Int), false) := h2
         have hr := parse_len hq
         have hdrop : s.drop (s.length - r.length) = r := by
           obtain ⟨e, _⟩ := parse_sound d t v r hq
           have e2 : s = s.take (p + 1) ++ (text d v ++ r) := by rw [← e, ← ht, List.take_append_drop]
           have e3 : s.length - r.length = (s.take (p + 1) ++ text d v).length := by
             have := congrArg List.length e2
             simp only [List.length_append] at this ⊢
             omega
           conv => lhs; arg 2; rw [e2]
           rw [e3, ← List.append_assoc, List.drop_left]
         have hle : r.length ≤ s.length := by omega
         obtain ⟨res', h3, h4⟩ := ih (s.length - r.length) (acc ++ [cS d v]) (by omega) (by rw [hdrop]; omega) (by rw [hdrop]; simp; omega)
         rw [hdrop] at h4
         refine ⟨res', hgo _ ?_, ?_⟩
         · rw [hres]
           simp only [mkS]
           exact h3
         · simp only [Option.bind_some]
           cases hz : tailL d n r with
           | none => rw [hz] at h4; exact h4
           | some z =>
             rw [hz] at h4
             have h4' : res' = _ := h4
             show res' = _
             rw [h4']
             simp
     · have hm : spec_l1Reader_is.f (BA s) (p : Int) false 44 = some (false, BA s, (p : Int), false) := is_miss 44 (by
         rw [hdr]
         intro c' t' e
         rw [← (List.cons.inj e).1]
         exact toNat_ne (n := 44) h44 (by omega))
       by_cases h93 : c = 93
       · subst h93
         refine ⟨(0, acc, BA s, ((p + 1 : Nat) : Int), false), ?_, ?_⟩
         · refine Ev.step' ?_; simp only [spec_l1Reader_node.l0]
           exact Ev.neg (by simp) (Ev.call hm (Ev.neg (by simp) (Ev.neg (by simp) (Ev.call (is_hit hdr hs 93 rfl) (Ev.val rfl)))))
         · show _ = _
           rw [htl, List.map_nil, List.append_nil, show s.length - (s.length - (p + 1)) = p + 1 by omega]
       · refine ⟨(0, acc, BA s, (p : Int), true), ?_, ?_⟩
         · refine Ev.step' ?_; simp only [spec_l1Reader_node.l0]
           exact Ev.neg (by simp) (Ev.call hm (Ev.neg (by simp) (Ev.neg (by simp) (Ev.call (is_miss 93 (by
             rw [hdr]
             intro c' t' e
             rw [← (List.cons.inj e).1]
             exact toNat_ne (n := 93) h93 (by omega))) (Ev.val rfl)))))
         · simp only [tailL, if_neg h44, if_neg h93]
           rfl
theorem drop_rest {s t r u : By} {p : Nat} (ht : s.drop p = t) (e : t = u ++ r) (hp : p ≤ s.length) : s.drop (s.length - r.length) = r ∧ r.length ≤ s.length - p := by
 have e2 : s = s.take p ++ (u ++ r) := by rw [← e, ← ht, List.take_append_drop]
 have e3 : s.length - r.length = (s.take p ++ u).length := by
   have := congrArg List.length e2
   simp only [List.length_append] at this ⊢
   omega
 constructor
 · conv => lhs; arg 2; rw [e2]
   rw [e3, ← List.append_assoc, List.drop_left]
 · have := congrArg List.length e
   rw [← ht, List.length_append, List.length_drop] at this
   omega
theorem node_is : ∀ d, d ≤ 1000 → NodeIs d
 | 0, _ => by
   intro s p hp hs
   obtain ⟨res, h1, h2⟩ := number_is s p hp hs
   refine ⟨(res.1, [], res.2.1, res.2.2.1, res.2.2.2), ?_, h2⟩
   refine Ev.step' ?_; simp only [spec_l1Reader_node.f]
   refine Ev.call (a := ([] : List NS)) rfl (Ev.pos (by first | trivial | rfl) ?_)
   exact Ev.bind h1 (Ev.now _)
 | d + 1, hd => by
   have ih := node_is d (by omega)
   intro s p hp hs
   cases hdr : s.drop p with
   | nil =>
     refine ⟨(0, [], BA s, (p : Int), true), ?_, by rw [parse_nil]; rfl⟩
     refine Ev.step' ?_; simp only [spec_l1Reader_node.f]
     refine Ev.call (a := ([] : List NS)) rfl (Ev.neg (by omega) (Ev.call (is_miss 91 (by rw [hdr]; intro c t e; cases e)) (Ev.neg (by simp) (Ev.val rfl))))
   | cons c t =>
     have hp' : p < s.length := by
       rcases Nat.lt_or_ge p s.length with h1 | h1
       · exact h1
       · rw [List.drop_eq_nil_of_le h1] at hdr; cases hdr
     have ht : s.drop (p + 1) = t := by
       have := drop_split hp'
       rw [hdr] at this
       exact (List.cons.inj this).2.symm
     have htl : t.length = s.length - (p + 1) := by rw [← ht, List.length_drop]
     by_cases h91 : c = 91
     · subst h91
       have hgo : ∀ res, Ev (fun k => (spec_l1Reader_is.f (BA s) ((p + 1 : Nat) : Int) false 93).bind fun bt114 => (if bt114.1 = true then (some (0, ([] : List NS), bt114.2.1, bt114.2.2.1, bt114.2.2.2)) else ((spec_l1Reader_node.f k bt114.2.1 bt114.2.2.1 bt114.2.2.2 (d : Int)).bind fun bt118 => (if ([] : List NS).length < 4398046511104 then (spec_l1Reader_node.l0 k ((d + 1 : Nat) : Int) bt118.2.2.1 bt118.2.2.2.1 bt118.2.2.2.2 0 (([] : List NS) ++ [(⟨bt118.1, bt118.2.1⟩ : NS)])) else (none))))) res →
           Ev (fun k => spec_l1Reader_node.f k (BA s) (p : Int) false ((d + 1 : Nat) : Int)) res := by
         intro res h
         refine Ev.step' ?_; simp only [spec_l1Reader_node.f]
         refine Ev.call (a := ([] : List NS)) rfl (Ev.neg (by omega) (Ev.call (is_hit hdr hs 91 rfl) (Ev.pos (by first | trivial | rfl) ?_)))
         rw [show wrap64 (((d + 1 : Nat) : Int) - 1) = (d : Int) by rw [wrapS (by omega) (by omega)]; omega]
         exact h
       by_cases h93 : ∃ t', t = 93 :: t'
       · obtain ⟨t', rfl⟩ := h93
         simp only [List.length_cons] at htl
         refine ⟨_, hgo _ (Ev.call (is_hit ht hs 93 rfl) (Ev.pos (by first | trivial | rfl) (Ev.now _))), ?_⟩
         have : parse (d + 1) (91 :: 93 :: t') = some (⟨0, []⟩, t') := by unfold parse; simp
         rw [this]
         show _ = _
         rw [show s.length - t'.length = p + 1 + 1 by omega]
         rfl
       · have hm : spec_l1Reader_is.f (BA s) ((p + 1 : Nat) : Int) false 93 = some (false, BA s, ((p + 1 : Nat) : Int), false) := is_miss 93 (by
           rw [ht]
           intro c' t' e e2
           apply h93
           refine ⟨t', ?_⟩
           rw [e]
           congr 1
           apply UInt8.toNat.inj
           have h3 : (93 : UInt8).toNat = 93 := rfl
           omega)
         obtain ⟨res, h1, h2⟩ := ih s (p + 1) (by omega) hs
         rw [ht] at h2
         have hgo2 : ∀ res', (Ev (fun k => spec_l1Reader_node.l0 k ((d + 1 : Nat) : Int) res.2.2.1 res.2.2.2.1 res.2.2.2.2 0 [⟨res.1, res.2.1⟩]) res') → Ev (fun k => spec_l1Reader_node.f k (BA s) (p : Int) false ((d + 1 : Nat) : Int)) res' := by
           intro res' h
           exact hgo _ (Ev.call hm (Ev.neg (by simp) (Ev.bind h1 (Ev.pos (by simp) h))))
         have hpar : parse (d + 1) (91 :: t) = ((parse d t).bind fun q => (tailL d t.length q.2).map fun z => (q.1 :: z.1, z.2)).map fun q => ((⟨0, q.1⟩ : Tr), q.2) := by
           cases t with
           | nil => rw [parse_nil]; rfl
           | cons c' t' =>
             have h93' : c' ≠ 93 := fun e => h93 ⟨t', by rw [e]⟩
             have e0 : parse (d + 1) (91 :: c' :: t') = if c' = 93 then some (⟨0, []⟩, t') else (parseL (parse d) ((c' :: t').length + 1) (c' :: t')).map fun q => (⟨0, q.1⟩, q.2) := rfl
             rw [e0, if_neg h93', parseL_tail]
         rw [hpar]
         cases hq : parse d t with
         | none =>
           rw [hq] at h2
           have hb2 : res.2.2.2.2 = true := h2
           refine ⟨(0, [⟨res.1, res.2.1⟩], res.2.2.1, res.2.2.2.1, true), hgo2 _ ?_, rfl⟩
           rw [hb2]
           exact node_bad _ _ _ _ _
         | some q =>
           obtain ⟨v, r⟩ := q
           rw [hq] at h2
           have hres : res = ((cS d v).f0, (cS d v).f1, BA s, ((s.length - r.length : Nat) : Int), false) := h2
           obtain ⟨hdrop, hle⟩ := drop_rest ht (parse_sound d t v r hq).1 (by omega)
           have hr := parse_len hq
           obtain ⟨res', h3, h4⟩ := node_l0 d (by omega) ih s hs t.length (s.length - r.length) [cS d v] (by omega) (by rw [hdrop]; omega) (by rw [hdrop]; simp; omega)
           rw [hdrop] at h4
           refine ⟨res', hgo2 _ ?_, ?_⟩
           · rw [hres]
             simp only [mkS]
             exact h3
           · simp only [Option.bind_some]
             cases hz : tailL d t.length r with
             | none => rw [hz] at h4; exact h4
             | some z =>
               rw [hz] at h4
               have h4' : res' = _ := h4
               show res' = _
               rw [h4']
               simp [cS]
     · refine ⟨(0, [], BA s, (p : Int), true), ?_, ?_⟩
       · refine Ev.step' ?_; simp only [spec_l1Reader_node.f]
         refine Ev.call (a := ([] : List NS)) rfl (Ev.neg (by omega) (Ev.call (is_miss 91 (by
           rw [hdr]
           intro c' t' e
           rw [← (List.cons.inj e).1]
           exact toNat_ne (n := 91) h91 (by omega))) (Ev.neg (by simp) (Ev.val rfl))))
       · unfold parse
         simp only [if_neg h91]
         rfl

/-! ### the two readings -/
/-- The array that a text stands for. -/
def readD (d : Nat) (l : By) : Option Tr := if l.length ≤ 400 then (match parse d l with | some (v, []) => some v | _ => none) else none
theorem readD_ok {d : Nat} {l : By} {v : Tr} (h : readD d l = some v) : l = text d v ∧ Ok d v ∧ l.length ≤ 400 := by
 unfold readD at h
 split at h
 · next hl =>
   split at h
   · next v' hp =>
     obtain rfl := Option.some.inj h
     obtain ⟨h1, h2⟩ := parse_sound _ _ _ _ hp
     exact ⟨by simpa using h1, h2, hl⟩
   · cases h
 · cases h
theorem readD_text {d : Nat} {v : Tr} (h : Ok d v) (hl : (text d v).length ≤ 400) : readD d (text d v) = some v := by
 unfold readD
 have := parse_complete d v [] h (by intro c l e; cases e)
 rw [List.append_nil] at this
 rw [if_pos hl, this]
def resS (d : Nat) : Option Tr → Int × List NS × Bool
 | none => (0, [], false)
 | some v => ((cS d v).f0, (cS d v).f1, true)
theorem l1Read_is (d : Nat) (hd : d ≤ 3) (l : By) : Ev (fun k => spec_l1Read.f k (BA l) (d : Int)) (resS d (readD d l)) := by
 unfold spec_l1Read.f
 have hin : spec_l1In.f (d : Int) 0 3 = some true := by
   unfold spec_l1In.f
   rw [if_pos (by omega)]
   simp
   omega
 refine Ev.call hin (Ev.pos (by first | trivial | rfl) ?_)
 refine Ev.step' ?_; simp only [spec_l1Read.j0]
 unfold readD
 by_cases hl : l.length ≤ 400
 · rw [if_pos hl]
   refine Ev.neg (by simp; omega) ?_
   obtain ⟨res, h1, h2⟩ := node_is d (by omega) l 0 (by omega) (by omega)
   rw [List.drop_zero] at h2
   refine Ev.bind h1 ?_
   cases hq : parse d l with
   | none =>
     rw [hq] at h2
     exact Ev.pos h2 (Ev.now _)
   | some q =>
     obtain ⟨v, r⟩ := q
     rw [hq] at h2
     have hres : res = ((cS d v).f0, (cS d v).f1, BA l, ((l.length - r.length : Nat) : Int), false) := h2
     subst hres
     have hr := parse_len hq
     refine Ev.neg (by simp) ?_
     cases r with
     | nil => exact Ev.pos (by simp) (Ev.now _)
     | cons c r => exact Ev.neg (by simp only [List.length_cons] at hr ⊢; rw [BA_size]; omega) (Ev.now _)
 · rw [if_neg hl]
   exact Ev.pos (by simp; omega) (Ev.now _)
theorem l1Read_out (d : Int) (hd : d < 0 ∨ 3 < d) (s : ByteArray) : Ev (fun k => spec_l1Read.f k s d) (0, [], false) := by
 unfold spec_l1Read.f
 have hin : spec_l1In.f d 0 3 = some false := by
   unfold spec_l1In.f
   by_cases h0 : d ≥ 0
   · rw [if_pos h0]
     simp
     omega
   · rw [if_neg h0]
 refine Ev.call hin (Ev.neg (by simp) ?_)
 refine Ev.step' ?_; simp only [spec_l1Read.j0]
 exact Ev.pos (by first | trivial | rfl) (Ev.now _)
/-- .. and impl's: beside the sign, parts of some array. -/
theorem arrOf_is (d : Nat) (hd : d ≤ 3) (l : By) : ∃ t, Ev (fun k => impl_arrOf.f k (BA l) (d : Int)) ((cA d t).f0, (cA d t).f1, (readD d l).isSome) ∧ Ok d t ∧ (text d t).length ≤ 402 ∧ ∀ v, readD d l = some v → t = v := by
 have hz : (cA d ⟨0, []⟩).f0 = 0 ∧ (cA d ⟨0, []⟩).f1 = [] ∧ Ok d ⟨0, []⟩ ∧ (text d ⟨0, []⟩).length ≤ 402 := by
   cases d with
   | zero => exact ⟨rfl, rfl, ⟨by show 0 < 10007; omega, rfl⟩, by simp [text, dec_small]⟩
   | succ d => exact ⟨rfl, rfl, ⟨rfl, by intro x hx; cases hx⟩, by simp [text, Lib.join_nil]⟩
 obtain ⟨z1, z2, z3, z4⟩ := hz
 unfold impl_arrOf.f readD
 by_cases hl : l.length ≤ 400
 · rw [if_pos hl]
   have hr := readArr_is d (by omega) l (by omega)
   cases hq : parse d l with
   | none =>
     rw [hq] at hr
     refine ⟨⟨0, []⟩, ?_, z3, z4, by simp⟩
     refine Ev.neg (by omega) (Ev.neg (by omega) (Ev.neg (by rw [BA_size]; omega) (Ev.bind hr (Ev.neg (by simp [resA, badA]) (Ev.val ?_)))))
     rw [z1, z2]
     rfl
   | some q =>
     obtain ⟨v, r⟩ := q
     rw [hq] at hr
     obtain ⟨h1, h2⟩ := parse_sound _ _ _ _ hq
     refine ⟨v, ?_, h2, ?_, ?_⟩
     · refine Ev.neg (by omega) (Ev.neg (by omega) (Ev.neg (by rw [BA_size]; omega) (Ev.bind hr (Ev.pos (by first | trivial | rfl) (Ev.val ?_)))))
       simp only [resA, toList_BA]
       cases r <;> rfl
     · have := congrArg List.length h1
       rw [List.length_append] at this
       omega
     · intro v' hv
       cases r with
       | nil => exact Option.some.inj hv
       | cons c r => cases hv
 · rw [if_neg hl]
   refine ⟨⟨0, []⟩, ?_, z3, z4, by simp⟩
   refine Ev.neg (by omega) (Ev.neg (by omega) (Ev.pos (by rw [BA_size]; omega) (Ev.val ?_)))
   rw [z1, z2]
   rfl
theorem arrOf_out (d : Int) (hd : d < 0 ∨ 3 < d) (s : ByteArray) : Ev (fun k => impl_arrOf.f k s d) (0, [], false) := by
 unfold impl_arrOf.f
 by_cases h0 : d < 0
 · exact Ev.pos h0 (Ev.now _)
 · exact Ev.neg h0 (Ev.pos (by omega) (Ev.now _))
theorem strOne (m : Nat) (h : m < 256) : strOfNums [(m : Int)] = BA [UInt8.ofNat m] := by
 unfold strOfNums BA
 simp
theorem dec_len : ∀ (b n : Nat), n < 10 ^ b → 1 ≤ b → (Lib.decDigits n).length ≤ b := by
 intro b
 induction b with
 | zero => intro n _ h; omega
 | succ b ih =>
   intro n hn _
   by_cases h9 : n < 10
   · rw [dec_small h9]; simp
   · rw [dec_big h9, List.length_append]
     have h1 : n / 10 < 10 ^ b := by
       rw [Nat.pow_succ] at hn
       generalize 10 ^ b = q at *
       omega
     have hb : 1 ≤ b := by
       rcases Nat.eq_zero_or_pos b with rfl | h
       · have : n / 10 < 1 := h1
         omega
       · exact h
     have := ih (n / 10) h1 hb
     simp
     omega
/-- Numbers that fit. -/
def Sh : Nat → Tr → Prop
 | 0, t => t.n < 1000000000
 | d + 1, t => ∀ x ∈ t.parts, Sh d x
theorem Sh.of : ∀ {d : Nat} {t : Tr}, Ok d t → Sh d t
 | 0, t, h => by have := h.1; show t.n < _; omega
 | d + 1, t, h => fun x hx => Sh.of (h.2 x hx)
def nodes : Nat → Tr → Nat
 | 0, _ => 1
 | d + 1, t => 1 + (t.parts.map (nodes d)).sum
theorem join_sum (f : Tr → By) (g : Tr → Nat) : ∀ xs : List Tr, (∀ x ∈ xs, (f x).length + 1 ≤ g x) → (Lib.join (xs.map f) [44]).length ≤ (xs.map g).sum
 | [], _ => by simp [Lib.join_nil]
 | [x], h => by
   have := h x (by simp)
   rw [List.map_cons, List.map_nil, join_one]
   simp
   omega
 | x :: y :: l, h => by
   have h1 := h x (by simp)
   have h2 := join_sum f g (y :: l) (fun z hz => h z (List.mem_cons_of_mem _ hz))
   rw [List.map_cons, List.map_cons, join_cons]
   rw [List.map_cons] at h2
   rw [List.map_cons, List.sum_cons]
   simp only [List.length_append, List.length_cons] at h2 ⊢
   omega
theorem join_len2 (f : Tr → By) (g : Tr → Nat) : ∀ xs : List Tr, (∀ x ∈ xs, g x ≤ (f x).length) → (xs.map g).sum ≤ (Lib.join (xs.map f) [44]).length
 | [], _ => by simp
 | [x], h => by
   have h1 := h x (by simp)
   have e1 : (([x] : List Tr).map g).sum = g x := by simp
   have e2 : Lib.join ([x].map f) [44] = f x := join_one _
   rw [e1, e2]
   exact h1
 | x :: y :: l, h => by
   have h1 := h x (by simp)
   have h2 := join_len2 f g (y :: l) (fun z hz => h z (List.mem_cons_of_mem _ hz))
   have e1 : ((x :: y :: l).map g).sum = g x + ((y :: l).map g).sum := by rw [List.map_cons, List.sum_cons]
   have e2 : Lib.join ((x :: y :: l).map f) [44] = f x ++ 44 :: Lib.join ((y :: l).map f) [44] := join_cons _ _ _
   rw [e1, e2, List.length_append, List.length_cons]
   omega
theorem sum_mul (c : Nat) (g : Tr → Nat) : ∀ xs : List Tr, (xs.map (fun x => c * g x)).sum = c * (xs.map g).sum
 | [] => rfl
 | x :: l => by rw [List.map_cons, List.sum_cons, sum_mul c g l, List.map_cons, List.sum_cons, Nat.mul_add]
theorem text_le : ∀ (d : Nat) (t : Tr), Sh d t → (text d t).length + 1 ≤ 12 * nodes d t
 | 0, t, h => by
   have := dec_len 9 t.n h (by omega)
   show (Lib.decDigits t.n).length + 1 ≤ 12
   omega
 | d + 1, t, h => by
   have := join_sum (text d) (fun x => 12 * nodes d x) t.parts (fun x hx => text_le d x (h x hx))
   rw [sum_mul] at this
   show (91 :: (Lib.join (t.parts.map (text d)) [44] ++ [93])).length + 1 ≤ 12 * (1 + (t.parts.map (nodes d)).sum)
   simp
   omega
theorem sum_mem (g : Tr → Nat) : ∀ (xs : List Tr) (x : Tr), x ∈ xs → g x ≤ (xs.map g).sum
 | y :: l, x, h => by
   rw [List.map_cons, List.sum_cons]
   rcases List.mem_cons.1 h with rfl | h
   · omega
   · have := sum_mem g l x h; omega
theorem nodes_part {d : Nat} {t x : Tr} (h : x ∈ t.parts) : nodes d x ≤ nodes (d + 1) t := by
 have := sum_mem (nodes d) t.parts x h
 show _ ≤ 1 + _
 omega
theorem nodes_pos : ∀ (d : Nat) (t : Tr), 1 ≤ nodes d t
 | 0, _ => Nat.le_refl _
 | d + 1, t => by show 1 ≤ 1 + _; omega
theorem sum_len (g : Tr → Nat) (h : ∀ x, 1 ≤ g x) : ∀ xs : List Tr, xs.length ≤ (xs.map g).sum
 | [] => by simp
 | x :: l => by
   have h1 := h x
   have h2 := sum_len g h l
   rw [List.map_cons, List.sum_cons, List.length_cons]
   omega
theorem parts_len (d : Nat) (t : Tr) : t.parts.length + 1 ≤ nodes (d + 1) t := by
 have := sum_len (nodes d) (nodes_pos d) t.parts
 show _ ≤ 1 + _
 omega
theorem getD_map {α : Type} (f : Tr → α) (xs : List Tr) (i : Nat) (z : α) (h : i < xs.length) : (xs.map f).getD i z = f xs[i] := by
 rw [List.getD_eq_getElem?_getD, List.getElem?_map, List.getElem?_eq_getElem h]
 rfl
theorem join_snoc : ∀ (xs : List By) (x : By), xs ≠ [] → Lib.join (xs ++ [x]) [44] = Lib.join xs [44] ++ 44 :: x
 | [], x, h => absurd rfl h
 | [y], x, _ => by rw [List.singleton_append, join_cons, join_one, join_one]
 | y :: z :: l, x, _ => by
   have := join_snoc (z :: l) x (by simp)
   rw [List.cons_append, List.cons_append, join_cons, join_cons, ← List.cons_append, this]
   simp
theorem take_snoc {α : Type} (xs : List α) (i : Nat) (h : i < xs.length) : xs.take (i + 1) = xs.take i ++ [xs[i]] := List.take_succ_eq_append_getElem h
theorem join_take (f : Tr → By) (xs : List Tr) (i : Nat) (h : i < xs.length) (h0 : 0 < i) : Lib.join ((xs.take (i + 1)).map f) [44] = Lib.join ((xs.take i).map f) [44] ++ 44 :: f xs[i] := by
 rw [take_snoc xs i h, List.map_append, List.map_cons, List.map_nil, join_snoc]
 intro e
 have := congrArg List.length e
 rw [List.length_map, List.length_take, List.length_nil] at this
 omega
theorem join_take_le (f : Tr → By) (xs : List Tr) : ∀ i, i ≤ xs.length → (Lib.join ((xs.take i).map f) [44]).length ≤ (Lib.join (xs.map f) [44]).length := by
 have main : ∀ n i, xs.length - i = n → i ≤ xs.length → (Lib.join ((xs.take i).map f) [44]).length ≤ (Lib.join (xs.map f) [44]).length := by
   intro n
   induction n with
   | zero => intro i h hi; rw [List.take_of_length_le (by omega)]; exact Nat.le_refl _
   | succ n ih =>
     intro i h hi
     refine Nat.le_trans ?_ (ih (i + 1) (by omega) (by omega))
     rcases Nat.eq_zero_or_pos i with rfl | h0
     · simp [Lib.join_nil]
     · rw [join_take f xs i (by omega) h0, List.length_append]
       omega
 exact fun i hi => main _ i rfl hi
def told (l : By) : ByteArray × Bool := if l.length ≤ 400 then (BA l, true) else (BA [], false)
theorem nodes_le_text : ∀ (d : Nat) (t : Tr), nodes d t ≤ (text d t).length
 | 0, t => by
   have := List.length_pos_iff.2 (dec_ne t.n)
   exact this
 | d + 1, t => by
   have h := join_len2 (text d) (nodes d) t.parts (fun x _ => nodes_le_text d x)
   show 1 + _ ≤ (91 :: (Lib.join (t.parts.map (text d)) [44] ++ [93])).length
   simp
   omega
abbrev ints (l : List Nat) : List Int := l.map (fun n : Nat => (n : Int))
theorem nums_le : ∀ (d : Nat) (t : Tr), (Q.nums d t).length ≤ nodes d t
 | 0, t => Nat.le_refl _
 | d + 1, t => by
   show ((t.parts.map (Q.nums d)).flatten).length ≤ 1 + (t.parts.map (nodes d)).sum
   have : ∀ xs : List Tr, ((xs.map (Q.nums d)).flatten).length ≤ (xs.map (nodes d)).sum := by
     intro xs
     induction xs with
     | nil => exact Nat.le_refl _
     | cons x l ih =>
       have := nums_le d x
       rw [List.map_cons, List.flatten_cons, List.length_append, List.map_cons, List.sum_cons]
       omega
   have := this t.parts
   omega
theorem flat_take_le (f : Tr → List Nat) (xs : List Tr) (i : Nat) : (((xs.take i).map f).flatten).length ≤ ((xs.map f).flatten).length := by
 conv => rhs; rw [← List.take_append_drop i xs, List.map_append, List.flatten_append, List.length_append]
 omega
theorem flat_snoc (f : Tr → List Nat) (xs : List Tr) (i : Nat) (h : i < xs.length) : ((xs.take (i + 1)).map f).flatten = ((xs.take i).map f).flatten ++ f xs[i] := by
 rw [take_snoc _ _ h, List.map_append, List.flatten_append]
 simp
/-- An array put behind a layout, from a level on. -/
def layT : Nat → Tr → Nat → List (List Int) × List Int → List (List Int) × List Int
 | 0, t, _, s => (s.1, s.2 ++ [(t.n : Int)])
 | d + 1, t, j, s => t.parts.foldl (fun s x => layT d x (j + 1) s) (s.1.set j (s.1.getD j [] ++ [(t.parts.length : Int)]), s.2)
def Bd (B : Nat) (s : List (List Int) × List Int) : Prop := s.2.length ≤ B ∧ ∀ r ∈ s.1, r.length ≤ B
theorem Bd.mono {B C : Nat} {s : List (List Int) × List Int} (h : Bd B s) (hc : B ≤ C) : Bd C s := ⟨Nat.le_trans h.1 hc, fun r hr => Nat.le_trans (h.2 r hr) hc⟩
theorem getD_bd {B : Nat} {L : List (List Int)} (h : ∀ r ∈ L, r.length ≤ B) (j : Nat) : (L.getD j []).length ≤ B := by
 rw [List.getD_eq_getElem?_getD]
 by_cases hj : j < L.length
 · rw [List.getElem?_eq_getElem hj]
   exact h _ (List.getElem_mem hj)
 · rw [List.getElem?_eq_none (by omega)]
   exact Nat.zero_le _
theorem set_bd {B : Nat} {L : List (List Int)} {D : List Int} (h : Bd B (L, D)) (j : Nat) (x : Int) : Bd (B + 1) (L.set j (L.getD j [] ++ [x]), D) := by
 refine ⟨Nat.le_succ_of_le h.1, fun r hr => ?_⟩
 rcases List.mem_or_eq_of_mem_set hr with hr | rfl
 · exact Nat.le_succ_of_le (h.2 r hr)
 · have := getD_bd h.2 j
   rw [List.length_append]
   exact Nat.succ_le_succ this
theorem layT_bd : ∀ (d : Nat) (t : Tr) (j : Nat) (s : List (List Int) × List Int) (B : Nat), Bd B s → (layT d t j s).1.length = s.1.length ∧ Bd (B + nodes d t) (layT d t j s)
 | 0, t, j, s, B, h => by
   refine ⟨rfl, ?_, fun r hr => Nat.le_succ_of_le (h.2 r hr)⟩
   show (s.2 ++ [(t.n : Int)]).length ≤ B + 1
   rw [List.length_append]
   exact Nat.succ_le_succ h.1
 | d + 1, t, j, s, B, h => by
   have main : ∀ (xs : List Tr) (s : List (List Int) × List Int) (B : Nat), Bd B s → (xs.foldl (fun s x => layT d x (j + 1) s) s).1.length = s.1.length ∧ Bd (B + (xs.map (nodes d)).sum) (xs.foldl (fun s x => layT d x (j + 1) s) s) := by
     intro xs
     induction xs with
     | nil => intro s B h; exact ⟨rfl, h⟩
     | cons x xs ih =>
       intro s B h
       obtain ⟨h1, h2⟩ := layT_bd d x (j + 1) s B h
       obtain ⟨h3, h4⟩ := ih _ _ h2
       refine ⟨h3.trans h1, ?_⟩
       rw [List.map_cons, List.sum_cons, ← Nat.add_assoc]
       exact h4
   obtain ⟨h1, h2⟩ := main t.parts _ (B + 1) (set_bd h j (t.parts.length : Int))
   refine ⟨h1.trans (List.length_set), ?_⟩
   show Bd (B + (1 + (t.parts.map (nodes d)).sum)) _
   rw [← Nat.add_assoc]
   exact h2
def LayA (d : Nat) : Prop := ∀ (t : Tr) (j : Nat) (L : List (List Int)) (D : List Int) (B : Nat), L.length = j + d → j + d ≤ 10 → Bd B (L, D) → B + nodes d t ≤ 1000000000 → Ev (fun k => lay.f k L D (cA d t).f0 (cA d t).f1 (j : Int)) (layT d t j (L, D))
theorem layA_l0 (d : Nat) (ih : LayA d) (j : Nat) (hj : j + 1 + d ≤ 10) (xs : List Tr) (hxs : xs.length ≤ 1000000000) : ∀ (n i : Nat) (L : List (List Int)) (D : List Int) (B : Nat), xs.length - i = n → i ≤ xs.length → L.length = j + 1 + d → Bd B (L, D) → B + ((xs.drop i).map (nodes d)).sum ≤ 1000000000 →
   Ev (fun k => lay.l0 k L D (xs.map (cA d)) (j : Int) ((xs.map (cA d)).length : Int) (i : Int)) ((xs.drop i).foldl (fun s x => layT d x (j + 1) s) (L, D)) := by
 intro n
 induction n with
 | zero =>
   intro i L D B h hi hL hb hn
   refine Ev.step' ?_; simp only [lay.l0]
   refine Ev.neg (by rw [List.length_map]; omega) (Ev.val ?_)
   rw [List.drop_eq_nil_of_le (by omega)]
   rfl
 | succ n ihn =>
   intro i L D B h hi hL hb hn
   have hlt : i < xs.length := by omega
   have hg : rd_T62 (xs.map (cA d)) (i : Int) = cA d xs[i] := getD_map _ _ _ _ hlt
   rw [List.drop_eq_getElem_cons hlt] at hn ⊢
   rw [List.map_cons, List.sum_cons] at hn
   have hx := ih xs[i] (j + 1) L D B hL hj hb (by omega)
   obtain ⟨b1, b2⟩ := layT_bd d xs[i] (j + 1) (L, D) B hb
   have hnext := ihn (i + 1) (layT d xs[i] (j + 1) (L, D)).1 (layT d xs[i] (j + 1) (L, D)).2 _ (by omega) (by omega) (b1.trans hL) b2 (by omega)
   refine Ev.step' ?_; simp only [lay.l0]
   refine Ev.pos (by rw [List.length_map]; omega) (Ev.pos (by omega) (Ev.pos (by rw [List.length_map]; omega) ?_))
   rw [hg, wrapS (a := (j : Int) + 1) (by omega) (by omega), wrapS (a := (i : Int) + 1) (by omega) (by omega)]
   exact Ev.bind hx hnext
theorem layA_is : ∀ d, LayA d
 | 0 => by
   intro t j L D B hL hj hb hn
   have h1 : D.length ≤ B := hb.1
   have h2 : B + 1 ≤ 1000000000 := hn
   refine Ev.step' ?_; simp only [lay.f]
   exact Ev.pos (by omega) (Ev.pos (by omega) (Ev.val rfl))
 | d + 1 => by
   intro t j L D B hL hj hb hn
   have hp := parts_len d t
   have hn2 : B + (1 + (t.parts.map (nodes d)).sum) ≤ 1000000000 := hn
   have hgl : (L.getD j []).length ≤ B := getD_bd hb.2 j
   have h0 := layA_l0 d (layA_is d) j (by omega) t.parts (by omega) _ 0 (L.set j (L.getD j [] ++ [(t.parts.length : Int)])) D (B + 1) rfl (Nat.zero_le _) (by rw [List.length_set]; omega) (set_bd hb j _) (by rw [List.drop_zero]; omega)
   rw [List.drop_zero] at h0
   refine Ev.step' ?_; simp only [lay.f]
   refine Ev.neg (by omega) (Ev.pos (by omega) (Ev.pos (by omega) ?_))
   rw [Int.toNat_natCast]
   refine Ev.pos (by omega) ?_
   have e : ((cA (d + 1) t).f1.length : Int) = (t.parts.length : Int) := by
     show ((t.parts.map (cA d)).length : Int) = _
     rw [List.length_map]
   rw [e]
   rw [List.length_map] at h0
   exact h0
theorem rep_bd (d : Nat) : Bd 0 (List.replicate d ([] : List Int), ([] : List Int)) := ⟨Nat.le_refl _, fun r hr => by rw [List.eq_of_mem_replicate hr]; exact Nat.le_refl _⟩
def layR (d : Nat) : Option Tr → List (List Int) × List Int × Bool
 | none => ([], [], false)
 | some v => ((layT d v 0 (List.replicate d [], [])).1, (layT d v 0 (List.replicate d [], [])).2, true)
theorem layR_bd (d : Nat) (hd : d ≤ 3) (l : By) : (layR d (readD d l)).1.length ≤ 3 ∧ (∀ r ∈ (layR d (readD d l)).1, r.length ≤ 400) ∧ (layR d (readD d l)).2.1.length ≤ 400 := by
 cases hr : readD d l with
 | none => exact ⟨Nat.zero_le _, fun r hr => (by cases hr), Nat.zero_le _⟩
 | some v =>
   obtain ⟨e1, e2, e3⟩ := readD_ok hr
   have hn := nodes_le_text d v
   rw [← e1] at hn
   obtain ⟨b1, b2, b3⟩ := layT_bd d v 0 (List.replicate d [], []) 0 (rep_bd d)
   refine ⟨?_, fun r hr => Nat.le_trans (b3 r hr) (by omega), Nat.le_trans b2 (by omega)⟩
   show (layT d v 0 (List.replicate d [], [])).1.length ≤ 3
   rw [b1, List.length_replicate]
   exact hd
def plen (t : Tr) : Nat := t.parts.length
def prts (ts : List Tr) : List Tr := (ts.map Tr.parts).flatten
def lvl : Nat → List Tr → List (List Nat)
 | 0, _ => []
 | d + 1, ts => ts.map plen :: lvl d (prts ts)
def gen : Nat → List Tr → List Tr
 | 0, ts => ts
 | i + 1, ts => gen i (prts ts)
def datN (d : Nat) (ts : List Tr) : List Nat := (gen d ts).map Tr.n
theorem prts_app (a b : List Tr) : prts (a ++ b) = prts a ++ prts b := by simp [prts]
theorem prts_one (t : Tr) : prts [t] = t.parts := by simp [prts]
theorem gen_app : ∀ (i : Nat) (a b : List Tr), gen i (a ++ b) = gen i a ++ gen i b
 | 0, a, b => rfl
 | i + 1, a, b => by show gen i (prts (a ++ b)) = _; rw [prts_app, gen_app i]; rfl
theorem gen_succ : ∀ (i : Nat) (ts : List Tr), gen (i + 1) ts = prts (gen i ts)
 | 0, ts => rfl
 | i + 1, ts => by show gen (i + 1) (prts ts) = _; rw [gen_succ i]; rfl
theorem lvl_len : ∀ (d : Nat) (ts : List Tr), (lvl d ts).length = d
 | 0, _ => rfl
 | d + 1, ts => by show (lvl d (prts ts)).length + 1 = _; rw [lvl_len d]
theorem lvl_get : ∀ (d i : Nat) (ts : List Tr), i < d → (lvl d ts)[i]? = some ((gen i ts).map plen)
 | 0, i, ts, h => absurd h (Nat.not_lt_zero _)
 | d + 1, 0, ts, _ => rfl
 | d + 1, i + 1, ts, h => by
   show (lvl d (prts ts))[i]? = some ((gen i (prts ts)).map plen)
   exact lvl_get d i _ (by omega)
abbrev zap (A B : List (List Int)) : List (List Int) := List.zipWith (· ++ ·) A B
theorem zap_nil : ∀ (A : List (List Int)), zap A (List.replicate A.length []) = A
 | [] => rfl
 | x :: A => by
   show (x ++ []) :: zap A (List.replicate A.length []) = _
   rw [zap_nil A, List.append_nil]
theorem nil_zap : ∀ (A : List (List Int)), zap (List.replicate A.length []) A = A
 | [] => rfl
 | x :: A => by
   show ([] ++ x) :: zap (List.replicate A.length []) A = _
   rw [nil_zap A, List.nil_append]
theorem zap_assoc : ∀ (A B C : List (List Int)), zap (zap A B) C = zap A (zap B C)
 | [], _, _ => by simp [zap]
 | _ :: _, [], _ => by simp [zap]
 | _ :: _, _ :: _, [] => by simp [zap]
 | a :: A, b :: B, c :: C => by
   show (a ++ b ++ c) :: zap (zap A B) C = (a ++ (b ++ c)) :: zap A (zap B C)
   rw [zap_assoc A B C, List.append_assoc]
theorem lvl_app : ∀ (d : Nat) (a b : List Tr), (lvl d (a ++ b)).map ints = zap ((lvl d a).map ints) ((lvl d b).map ints)
 | 0, _, _ => rfl
 | d + 1, a, b => by
   show ints ((a ++ b).map plen) :: (lvl d (prts (a ++ b))).map ints = (ints (a.map plen) ++ ints (b.map plen)) :: zap ((lvl d (prts a)).map ints) ((lvl d (prts b)).map ints)
   rw [prts_app, lvl_app d, List.map_append]
   simp
theorem lvl_none : ∀ (d : Nat), lvl d [] = List.replicate d []
 | 0 => rfl
 | d + 1 => by show [] :: lvl d [] = _; rw [lvl_none d]; rfl
theorem zap_len (A B : List (List Int)) (h : A.length = B.length) : (zap A B).length = A.length := by simp [zap, h]
def LayL (d : Nat) : Prop := ∀ (ts : List Tr) (j : Nat) (S : List (List Int)) (D : List Int), S.length = j + d → ts.foldl (fun s x => layT d x j s) (S, D) = (S.take j ++ zap (S.drop j) ((lvl d ts).map ints), D ++ ints (datN d ts))
theorem layL_of {d : Nat} (h1 : ∀ (t : Tr) (j : Nat) (S : List (List Int)) (D : List Int), S.length = j + d → layT d t j (S, D) = (S.take j ++ zap (S.drop j) ((lvl d [t]).map ints), D ++ ints (datN d [t]))) : LayL d := by
 intro ts
 induction ts with
 | nil =>
   intro j S D hS
   have hd : (S.drop j).length = d := by rw [List.length_drop]; omega
   show (S, D) = _
   rw [lvl_none, List.map_replicate]
   have : zap (S.drop j) (List.replicate d (ints [])) = S.drop j := by
     have := zap_nil (S.drop j)
     rw [hd] at this
     exact this
   rw [this, List.take_append_drop]
   have h0 : datN d [] = [] := by
     unfold datN
     have : gen d [] = [] := by
       clear h1 hS hd this
       induction d with
       | zero => rfl
       | succ d ih => exact ih
     rw [this]; rfl
   rw [h0]
   simp
 | cons t ts ih =>
   intro j S D hS
   have hd : (S.drop j).length = d := by rw [List.length_drop]; omega
   have hz : (zap (S.drop j) ((lvl d [t]).map ints)).length = d := by rw [zap_len _ _ (by rw [hd, List.length_map, lvl_len]), hd]
   have htk : (S.take j).length = j := by rw [List.length_take]; omega
   show ts.foldl _ (layT d t j (S, D)) = _
   rw [h1 t j S D hS, ih j _ _ (by rw [List.length_append, htk, hz])]
   rw [List.take_left' htk, List.drop_left' htk, zap_assoc]
   have e : t :: ts = [t] ++ ts := rfl
   rw [e, lvl_app]
   unfold datN
   rw [gen_app, List.map_append, List.append_assoc]
   simp
theorem layT_one : ∀ (d : Nat) (t : Tr) (j : Nat) (S : List (List Int)) (D : List Int), S.length = j + d → layT d t j (S, D) = (S.take j ++ zap (S.drop j) ((lvl d [t]).map ints), D ++ ints (datN d [t]))
 | 0, t, j, S, D, hS => by
   show (S, D ++ [(t.n : Int)]) = _
   rw [List.take_of_length_le (by omega), List.drop_eq_nil_of_le (by omega)]
   simp [zap, lvl, datN, gen]
 | d + 1, t, j, S, D, hS => by
   have hL := layL_of (layT_one d)
   have hj : j < S.length := by omega
   have hgd : S.getD j [] = S[j] := by rw [List.getD_eq_getElem?_getD, List.getElem?_eq_getElem hj]; rfl
   show t.parts.foldl (fun s x => layT d x (j + 1) s) (S.set j (S.getD j [] ++ [(t.parts.length : Int)]), D) = _
   rw [hL t.parts (j + 1) _ D (by rw [List.length_set]; omega), hgd]
   have e1 : (S.set j (S[j] ++ [(t.parts.length : Int)])).take (j + 1) = S.take j ++ [S[j] ++ [(t.parts.length : Int)]] := by
     rw [take_snoc _ _ (by rw [List.length_set]; exact hj), List.take_set, List.getElem_set_self, List.set_eq_of_length_le (by rw [List.length_take]; omega)]
   have e2 : (S.set j (S[j] ++ [(t.parts.length : Int)])).drop (j + 1) = S.drop (j + 1) := by
     rw [List.drop_set_of_lt (by omega)]
   have e3 : S.drop j = S[j] :: S.drop (j + 1) := List.drop_eq_getElem_cons hj
   rw [e1, e2, e3, List.append_assoc]
   have e4 : (lvl (d + 1) [t]).map ints = [(t.parts.length : Int)] :: (lvl d t.parts).map ints := by
     show ints [plen t] :: (lvl d (prts [t])).map ints = _
     rw [prts_one]
     rfl
   have e5 : datN (d + 1) [t] = datN d t.parts := by
     show (gen d (prts [t])).map Tr.n = _
     rw [prts_one]
     rfl
   rw [e4, e5]
   rfl
/-- The layout of one array, by its levels. -/
theorem layT_lvl (d : Nat) (v : Tr) : layT d v 0 (List.replicate d [], []) = ((lvl d [v]).map ints, ints (datN d [v])) := by
 rw [layT_one d v 0 _ _ (by rw [List.length_replicate]; omega)]
 rw [List.take_zero, List.drop_zero, List.nil_append, List.nil_append]
 have := nil_zap ((lvl d [v]).map ints)
 rw [List.length_map, lvl_len] at this
 rw [this]
theorem datN_nums : ∀ (d : Nat) (ts : List Tr), datN d ts = (ts.map (Q.nums d)).flatten
 | 0, ts => by
   show ts.map Tr.n = _
   induction ts with
   | nil => rfl
   | cons t ts ih => rw [List.map_cons, List.map_cons, List.flatten_cons, ← ih]; rfl
 | d + 1, ts => by
   have h := datN_nums d (prts ts)
   show datN d (prts ts) = _
   rw [h]
   induction ts with
   | nil => rfl
   | cons t ts ih =>
     have e : prts (t :: ts) = t.parts ++ prts ts := by simp [prts]
     rw [e, List.map_append, List.flatten_append, ih (datN_nums d _)]
     rfl
theorem prts_nodes (e : Nat) : ∀ ts : List Tr, ((prts ts).map (nodes e)).sum ≤ (ts.map (nodes (e + 1))).sum
 | [] => Nat.le_refl _
 | t :: ts => by
   have h := prts_nodes e ts
   have e1 : prts (t :: ts) = t.parts ++ prts ts := by simp [prts]
   rw [e1, List.map_append, List.sum_append, List.map_cons, List.sum_cons]
   show _ ≤ 1 + (t.parts.map (nodes e)).sum + _
   omega
theorem gen_nodes : ∀ (i e : Nat) (ts : List Tr), ((gen i ts).map (nodes e)).sum ≤ (ts.map (nodes (e + i))).sum
 | 0, e, ts => Nat.le_refl _
 | i + 1, e, ts => by
   have h1 := gen_nodes i e (prts ts)
   have h2 := prts_nodes (e + i) ts
   show ((gen i (prts ts)).map (nodes e)).sum ≤ _
   exact Nat.le_trans h1 h2
theorem gen_ok : ∀ (i e : Nat) (ts : List Tr), (∀ t ∈ ts, Ok (e + i) t) → ∀ t ∈ gen i ts, Ok e t
 | 0, e, ts, h => h
 | i + 1, e, ts, h => gen_ok i e (prts ts) (fun t ht => by
   obtain ⟨l, hl, htl⟩ := List.mem_flatten.1 ht
   obtain ⟨u, hu, rfl⟩ := List.mem_map.1 hl
   exact (h u hu).2 t htl)
theorem sum_cnt (f : Tr → Nat) (hf : ∀ t, 1 ≤ f t) : ∀ (ts : List Tr), ts.length ≤ (ts.map f).sum
 | [] => Nat.le_refl _
 | u :: ts => by
   have := sum_cnt f hf ts
   have := hf u
   rw [List.map_cons, List.sum_cons, List.length_cons]
   omega
theorem prts_cnt : ∀ (ts : List Tr), (prts ts).length = (ts.map plen).sum
 | [] => rfl
 | t :: ts => by
   have e1 : prts (t :: ts) = t.parts ++ prts ts := by simp [prts]
   rw [e1, List.length_append, prts_cnt ts, List.map_cons, List.sum_cons]
   rfl
section
variable {d N : Nat} {v : Tr} (hd : d ≤ 3) (hv : Ok d v) (hn : nodes d v ≤ N)
include hd hv hn
theorem gen_small {i : Nat} (hi : i ≤ d) : (gen i [v]).length ≤ N ∧ ∀ t ∈ gen i [v], Ok (d - i) t ∧ plen t ≤ N := by
 obtain ⟨e, rfl⟩ : ∃ e, d = e + i := ⟨d - i, by omega⟩
 have h1 := gen_nodes i e [v]
 rw [List.map_singleton, List.sum_singleton] at h1
 have h2 := sum_cnt (nodes e) (nodes_pos e) (gen i [v])
 refine ⟨by omega, fun t ht => ⟨?_, ?_⟩⟩
 · rw [Nat.add_sub_cancel]
   exact gen_ok i e [v] (fun u hu => by rw [List.mem_singleton.1 hu]; exact hv) t ht
 · have h3 := sum_mem (nodes e) _ t ht
   cases e with
   | zero =>
     have := gen_ok i 0 [v] (fun u hu => by rw [List.mem_singleton.1 hu]; exact hv) t ht
     show t.parts.length ≤ N
     rw [this.2]
     exact Nat.zero_le _
   | succ e =>
     have := parts_len e t
     show t.parts.length ≤ N
     omega
end
theorem rd_at {l : List Int} {i : Nat} (h : i < l.length) : rd l (i : Int) = l[i] := by
 unfold rd
 rw [Int.toNat_natCast, List.getD_eq_getElem?_getD, List.getElem?_eq_getElem h]
 rfl
theorem rdN_at {l : List Nat} {i : Nat} (h : i < l.length) : rd (ints l) (i : Int) = (l[i] : Int) := by
 rw [rd_at (by rw [List.length_map]; exact h), List.getElem_map]
theorem rdL_at {L : List (List Nat)} {i : Nat} {r : List Nat} (h : L[i]? = some r) : rd_L5 (L.map ints) (i : Int) = ints r := by
 show (L.map ints).getD i [] = _
 rw [List.getD_eq_getElem?_getD, List.getElem?_map, h]
 rfl
section
variable {d N : Nat} {v : Tr} (hd : d ≤ 3) (hv : Ok d v) (hn : nodes d v ≤ N) (hN : N ≤ 1000000)
include hd hv hn hN
end
def splitBy : List Nat → List Tr → List Tr
 | [], _ => []
 | n :: r, ts => ⟨0, ts.take n⟩ :: splitBy r (ts.drop n)
def up : List (List Nat) → List Nat → List Tr
 | [], D => D.map (fun n => ⟨n, []⟩)
 | r :: Ls, D => splitBy r (up Ls D)
/-- Levels that fit, from a count on. -/
def Val : Nat → List (List Nat) → List Nat → Prop
 | c, [], D => D.length = c
 | c, r :: Ls, D => r.length = c ∧ Val r.sum Ls D
theorem splitBy_len : ∀ (r : List Nat) (ts : List Tr), (splitBy r ts).length = r.length
 | [], _ => rfl
 | n :: r, ts => by
   show (splitBy r (ts.drop n)).length + 1 = _
   rw [splitBy_len r]
   rfl
theorem splitBy_plen : ∀ (r : List Nat) (ts : List Tr), r.sum ≤ ts.length → (splitBy r ts).map plen = r
 | [], _, _ => rfl
 | n :: r, ts, h => by
   rw [List.sum_cons] at h
   have ih := splitBy_plen r (ts.drop n) (by rw [List.length_drop]; omega)
   show (ts.take n).length :: (splitBy r (ts.drop n)).map plen = _
   rw [ih, List.length_take]
   congr 1
   omega
theorem splitBy_prts : ∀ (r : List Nat) (ts : List Tr), r.sum = ts.length → prts (splitBy r ts) = ts
 | [], ts, h => by
   have : ts = [] := List.eq_nil_of_length_eq_zero (by simpa using h.symm)
   rw [this]
   rfl
 | n :: r, ts, h => by
   rw [List.sum_cons] at h
   have ih := splitBy_prts r (ts.drop n) (by rw [List.length_drop]; omega)
   have e : prts (splitBy (n :: r) ts) = ts.take n ++ prts (splitBy r (ts.drop n)) := by simp [prts, splitBy]
   rw [e, ih, List.take_append_drop]
theorem splitBy_ok {d : Nat} : ∀ (r : List Nat) (ts : List Tr), (∀ t ∈ ts, Ok d t) → ∀ t ∈ splitBy r ts, Ok (d + 1) t
 | [], _, _ => fun t ht => by cases ht
 | n :: r, ts, h => fun t ht => by
   rcases List.mem_cons.1 ht with rfl | ht
   · exact ⟨rfl, fun x hx => h x (List.mem_of_mem_take hx)⟩
   · exact splitBy_ok r _ (fun x hx => h x (List.mem_of_mem_drop hx)) t ht
theorem up_is : ∀ (Ls : List (List Nat)) (D : List Nat) (c : Nat), Val c Ls D → (∀ n ∈ D, n < 10007) → (up Ls D).length = c ∧ lvl Ls.length (up Ls D) = Ls ∧ datN Ls.length (up Ls D) = D ∧ ∀ t ∈ up Ls D, Ok Ls.length t
 | [], D, c, h, hD => by
   refine ⟨by show (D.map _).length = c; rw [List.length_map]; exact h, rfl, ?_, fun t ht => ?_⟩
   · show (D.map (fun n => (⟨n, []⟩ : Tr))).map Tr.n = D
     rw [List.map_map]
     conv => rhs; rw [← List.map_id D]
     rfl
   · obtain ⟨n, hn, rfl⟩ := List.mem_map.1 ht
     exact ⟨hD n hn, rfl⟩
 | r :: Ls, D, c, h, hD => by
   obtain ⟨h1, h2⟩ := h
   obtain ⟨e1, e2, e3, e4⟩ := up_is Ls D r.sum h2 hD
   have hp := splitBy_prts r (up Ls D) e1.symm
   refine ⟨by show (splitBy r (up Ls D)).length = c; rw [splitBy_len]; exact h1, ?_, ?_, splitBy_ok r _ e4⟩
   · show (splitBy r (up Ls D)).map plen :: lvl Ls.length (prts (splitBy r (up Ls D))) = r :: Ls
     rw [hp, e2, splitBy_plen r _ (by omega)]
   · show datN Ls.length (prts (splitBy r (up Ls D))) = D
     rw [hp, e3]
/-- The array of a valid layout. -/
theorem up_one {Ls : List (List Nat)} {D : List Nat} (h : Val 1 Ls D) (hD : ∀ n ∈ D, n < 10007) : ∃ v, Ok Ls.length v ∧ lvl Ls.length [v] = Ls ∧ datN Ls.length [v] = D := by
 obtain ⟨e1, e2, e3, e4⟩ := up_is Ls D 1 h hD
 obtain ⟨v, hv⟩ := List.length_eq_one_iff.1 e1
 rw [hv] at e2 e3 e4
 exact ⟨v, e4 v (by simp), e2, e3⟩
/-- All that an array has, level by level. -/
theorem nodes_gen : ∀ (d : Nat) (ts : List Tr), (ts.map (nodes d)).sum = ((lvl d ts).map List.length).sum + (datN d ts).length
 | 0, ts => by
   show (ts.map (fun _ => 1)).sum = 0 + (ts.map Tr.n).length
   rw [List.length_map]
   induction ts with
   | nil => rfl
   | cons t ts ih => rw [List.map_cons, List.sum_cons, ih, List.length_cons]; omega
 | d + 1, ts => by
   have ih := nodes_gen d (prts ts)
   have e : (ts.map (nodes (d + 1))).sum = ts.length + ((prts ts).map (nodes d)).sum := by
     clear ih
     induction ts with
     | nil => rfl
     | cons t ts iht =>
       have e1 : prts (t :: ts) = t.parts ++ prts ts := by simp [prts]
       rw [e1, List.map_append, List.sum_append, List.map_cons, List.sum_cons, iht, List.length_cons]
       show 1 + (t.parts.map (nodes d)).sum + _ = _
       omega
   rw [e, ih]
   show _ = (((ts.map plen) :: lvl d (prts ts)).map List.length).sum + (datN d (prts ts)).length
   rw [List.map_cons, List.sum_cons, List.length_map]
   omega
section
variable {d N : Nat} {ts : List Tr} (hv : ∀ t ∈ ts, Ok d t) (hn : (ts.map (nodes d)).sum ≤ N)
include hv hn
theorem gen_smallL {i : Nat} (hi : i ≤ d) : (gen i ts).length ≤ N ∧ ∀ t ∈ gen i ts, Ok (d - i) t ∧ plen t ≤ N := by
 obtain ⟨e, rfl⟩ : ∃ e, d = e + i := ⟨d - i, by omega⟩
 have h1 := gen_nodes i e ts
 have h2 := sum_cnt (nodes e) (nodes_pos e) (gen i ts)
 refine ⟨by omega, fun t ht => ⟨?_, ?_⟩⟩
 · rw [Nat.add_sub_cancel]
   exact gen_ok i e ts hv t ht
 · have h3 := sum_mem (nodes e) _ t ht
   cases e with
   | zero =>
     have := gen_ok i 0 ts hv t ht
     show t.parts.length ≤ N
     rw [this.2]
     exact Nat.zero_le _
   | succ e =>
     have := parts_len e t
     show t.parts.length ≤ N
     omega
variable (hd : d ≤ 3) (hN : N ≤ 1000000)
include hd hN
end
/-- Arrays laid out one behind the other, by their levels. -/
theorem layTs_lvl (d : Nat) (ts : List Tr) : ts.foldl (fun s x => layT d x 0 s) (List.replicate d [], []) = ((lvl d ts).map ints, ints (datN d ts)) := by
 rw [layL_of (layT_one d) ts 0 _ _ (by rw [List.length_replicate]; omega)]
 rw [List.take_zero, List.drop_zero, List.nil_append, List.nil_append]
 have := nil_zap ((lvl d ts).map ints)
 rw [List.length_map, lvl_len] at this
 rw [this]
theorem layTs_bd (d : Nat) : ∀ (ts : List Tr) (s : List (List Int) × List Int) (B : Nat), Bd B s → (ts.foldl (fun s x => layT d x 0 s) s).1.length = s.1.length ∧ Bd (B + (ts.map (nodes d)).sum) (ts.foldl (fun s x => layT d x 0 s) s)
 | [], s, B, h => ⟨rfl, h⟩
 | t :: ts, s, B, h => by
   obtain ⟨h1, h2⟩ := layT_bd d t 0 s B h
   obtain ⟨h3, h4⟩ := layTs_bd d ts _ _ h2
   refine ⟨h3.trans h1, ?_⟩
   rw [List.map_cons, List.sum_cons, ← Nat.add_assoc]
   exact h4
theorem laidL_l0 (d : Nat) (hd : d ≤ 3) (xs : List Tr) (hxs : xs.length ≤ 1000000) : ∀ (n i : Nat) (L : List (List Int)) (D : List Int) (B : Nat), xs.length - i = n → i ≤ xs.length → L.length = d → Bd B (L, D) → B + ((xs.drop i).map (nodes d)).sum ≤ 1000000000 →
   Ev (fun k => impl_laid.l0 k (xs.map (cA d)) L D ((xs.map (cA d)).length : Int) (i : Int)) ((xs.drop i).foldl (fun s x => layT d x 0 s) (L, D)) := by
 intro n
 induction n with
 | zero =>
   intro i L D B h hi hL hb hn
   refine Ev.step' ?_; simp only [impl_laid.l0]
   refine Ev.neg (by rw [List.length_map]; omega) (Ev.val ?_)
   rw [List.drop_eq_nil_of_le (by omega)]
   rfl
 | succ n ihn =>
   intro i L D B h hi hL hb hn
   have hlt : i < xs.length := by omega
   have hg : rd_T62 (xs.map (cA d)) (i : Int) = cA d xs[i] := getD_map _ _ _ _ hlt
   rw [List.drop_eq_getElem_cons hlt] at hn ⊢
   rw [List.map_cons, List.sum_cons] at hn
   have hx := layA_is d xs[i] 0 L D B (by omega) (by omega) hb (by omega)
   obtain ⟨b1, b2⟩ := layT_bd d xs[i] 0 (L, D) B hb
   have hnext := ihn (i + 1) (layT d xs[i] 0 (L, D)).1 (layT d xs[i] 0 (L, D)).2 _ (by omega) (by omega) (b1.trans hL) b2 (by omega)
   refine Ev.step' ?_; simp only [impl_laid.l0]
   refine Ev.pos (by rw [List.length_map]; omega) (Ev.pos (by omega) (Ev.pos (by rw [List.length_map]; omega) ?_))
   rw [hg, wrapS (a := (i : Int) + 1) (by omega) (by omega)]
   exact Ev.bind hx hnext
theorem laidL_is (d : Nat) (hd : d ≤ 3) (xs : List Tr) (hxs : xs.length ≤ 1000000) (hn : (xs.map (nodes d)).sum ≤ 1000000) : Ev (fun k => impl_laid.f k (xs.map (cA d)) (d : Int)) ((lvl d xs).map ints, ints (datN d xs)) := by
 have h := laidL_l0 d hd xs hxs _ 0 (List.replicate d []) [] 0 rfl (Nat.zero_le _) List.length_replicate (rep_bd d) (by rw [List.drop_zero]; omega)
 rw [List.drop_zero, layTs_lvl] at h
 unfold impl_laid.f
 refine Ev.pos (by omega) (Ev.pos (by omega) ?_)
 rw [Int.toNat_natCast]
 exact h
def LayP (d : Nat) : Prop := ∀ (t : Tr) (j : Nat) (L : List (List Int)) (D : List Int) (B : Nat), L.length = j + d → j + d ≤ 10 → Bd B (L, D) → B + nodes d t ≤ 1000000000 → Ev (fun k => pv.f k L D (cS d t).f0 (cS d t).f1 (j : Int)) (layT d t j (L, D))
theorem layP_l0 (d : Nat) (ih : LayP d) (j : Nat) (hj : j + 1 + d ≤ 10) (xs : List Tr) (hxs : xs.length ≤ 1000000000) : ∀ (n i : Nat) (L : List (List Int)) (D : List Int) (B : Nat), xs.length - i = n → i ≤ xs.length → L.length = j + 1 + d → Bd B (L, D) → B + ((xs.drop i).map (nodes d)).sum ≤ 1000000000 →
   Ev (fun k => pv.l0 k L D (xs.map (cS d)) (j : Int) ((xs.map (cS d)).length : Int) (i : Int)) ((xs.drop i).foldl (fun s x => layT d x (j + 1) s) (L, D)) := by
 intro n
 induction n with
 | zero =>
   intro i L D B h hi hL hb hn
   refine Ev.step' ?_; simp only [pv.l0]
   refine Ev.neg (by rw [List.length_map]; omega) (Ev.val ?_)
   rw [List.drop_eq_nil_of_le (by omega)]
   rfl
 | succ n ihn =>
   intro i L D B h hi hL hb hn
   have hlt : i < xs.length := by omega
   have hg : rd_T77 (xs.map (cS d)) (i : Int) = cS d xs[i] := getD_map _ _ _ _ hlt
   rw [List.drop_eq_getElem_cons hlt] at hn ⊢
   rw [List.map_cons, List.sum_cons] at hn
   have hx := ih xs[i] (j + 1) L D B hL hj hb (by omega)
   obtain ⟨b1, b2⟩ := layT_bd d xs[i] (j + 1) (L, D) B hb
   have hnext := ihn (i + 1) (layT d xs[i] (j + 1) (L, D)).1 (layT d xs[i] (j + 1) (L, D)).2 _ (by omega) (by omega) (b1.trans hL) b2 (by omega)
   refine Ev.step' ?_; simp only [pv.l0]
   refine Ev.pos (by rw [List.length_map]; omega) (Ev.pos (by omega) (Ev.pos (by rw [List.length_map]; omega) ?_))
   rw [hg, wrapS (a := (j : Int) + 1) (by omega) (by omega), wrapS (a := (i : Int) + 1) (by omega) (by omega)]
   exact Ev.bind hx hnext
theorem layP_is : ∀ d, LayP d
 | 0 => by
   intro t j L D B hL hj hb hn
   have h1 : D.length ≤ B := hb.1
   have h2 : B + 1 ≤ 1000000000 := hn
   refine Ev.step' ?_; simp only [pv.f]
   exact Ev.pos (by omega) (Ev.pos (by omega) (Ev.val rfl))
 | d + 1 => by
   intro t j L D B hL hj hb hn
   have hp := parts_len d t
   have hn2 : B + (1 + (t.parts.map (nodes d)).sum) ≤ 1000000000 := hn
   have hgl : (L.getD j []).length ≤ B := getD_bd hb.2 j
   have h0 := layP_l0 d (layP_is d) j (by omega) t.parts (by omega) _ 0 (L.set j (L.getD j [] ++ [(t.parts.length : Int)])) D (B + 1) rfl (Nat.zero_le _) (by rw [List.length_set]; omega) (set_bd hb j _) (by rw [List.drop_zero]; omega)
   rw [List.drop_zero] at h0
   refine Ev.step' ?_; simp only [pv.f]
   refine Ev.neg (by omega) (Ev.pos (by omega) (Ev.pos (by omega) ?_))
   rw [Int.toNat_natCast]
   refine Ev.pos (by omega) ?_
   have e : ((cS (d + 1) t).f1.length : Int) = (t.parts.length : Int) := by
     show ((t.parts.map (cS d)).length : Int) = _
     rw [List.length_map]
   rw [e]
   rw [List.length_map] at h0
   exact h0
theorem packN_l0 (d : Nat) (hd : d ≤ 3) (xs : List Tr) (hxs : xs.length ≤ 1000000) : ∀ (n i : Nat) (L : List (List Int)) (D : List Int) (B : Nat), xs.length - i = n → i ≤ xs.length → L.length = d → Bd B (L, D) → B + ((xs.drop i).map (nodes d)).sum ≤ 1000000000 →
   Ev (fun k => spec_l8Pack.l0 k (xs.map (cS d)) L D ((xs.map (cS d)).length : Int) (i : Int)) (((xs.map (cS d)).length : Int), (xs.drop i).foldl (fun s x => layT d x 0 s) (L, D)) := by
 intro n
 induction n with
 | zero =>
   intro i L D B h hi hL hb hn
   refine Ev.step' ?_; simp only [spec_l8Pack.l0]
   refine Ev.neg (by rw [List.length_map]; omega) (Ev.val ?_)
   rw [List.drop_eq_nil_of_le (by omega)]
   rfl
 | succ n ihn =>
   intro i L D B h hi hL hb hn
   have hlt : i < xs.length := by omega
   have hg : rd_T77 (xs.map (cS d)) (i : Int) = cS d xs[i] := getD_map _ _ _ _ hlt
   rw [List.drop_eq_getElem_cons hlt] at hn ⊢
   rw [List.map_cons, List.sum_cons] at hn
   have hx := layP_is d xs[i] 0 L D B (by omega) (by omega) hb (by omega)
   obtain ⟨b1, b2⟩ := layT_bd d xs[i] 0 (L, D) B hb
   have hnext := ihn (i + 1) (layT d xs[i] 0 (L, D)).1 (layT d xs[i] 0 (L, D)).2 _ (by omega) (by omega) (b1.trans hL) b2 (by omega)
   refine Ev.step' ?_; simp only [spec_l8Pack.l0]
   refine Ev.pos (by rw [List.length_map]; omega) (Ev.pos (by omega) (Ev.pos (by rw [List.length_map]; omega) ?_))
   rw [hg, wrapS (a := (i : Int) + 1) (by omega) (by omega)]
   exact Ev.bind hx hnext
theorem packN_is (d : Nat) (hd : d ≤ 3) (xs : List Tr) (hxs : xs.length ≤ 1000000) (hn : (xs.map (nodes d)).sum ≤ 1000000) : Ev (fun k => spec_l8Pack.f k (xs.map (cS d)) (d : Int)) ((xs.length : Int), (lvl d xs).map ints, ints (datN d xs)) := by
 have h := packN_l0 d hd xs hxs _ 0 (List.replicate d []) [] 0 rfl (Nat.zero_le _) List.length_replicate (rep_bd d) (by rw [List.drop_zero]; omega)
 rw [List.drop_zero, layTs_lvl] at h
 unfold spec_l8Pack.f
 refine Ev.pos (by omega) (Ev.pos (by omega) ?_)
 rw [Int.toNat_natCast]
 refine evIs h ?_
 rw [List.length_map]
theorem ownLL_l0 (L : List (List Int)) (hL : L.length ≤ 1000) (hb : ∀ r ∈ L, r.length ≤ 1000000) : ∀ (n i : Nat), L.length - i = n → i ≤ L.length → Ev (fun k => spec_l13OwnListListint.l0 k (L.take i) L (L.length : Int) (i : Int)) L := by
 intro n
 induction n with
 | zero =>
   intro i h hi
   refine Ev.step' ?_; simp only [spec_l13OwnListListint.l0]
   rw [List.take_of_length_le (by omega)]
   exact Ev.neg (by omega) (Ev.now _)
 | succ n ih =>
   intro i h hi
   have hlt : i < L.length := by omega
   have hm := hb L[i] (List.getElem_mem hlt)
   have hg : rd_L5 L (i : Int) = L[i] := by
     show L.getD i [] = _
     rw [List.getD_eq_getElem?_getD, List.getElem?_eq_getElem hlt]
     rfl
   have hnext := ih (i + 1) (by omega) (by omega)
   rw [take_snoc _ _ hlt] at hnext
   refine Ev.step' ?_; simp only [spec_l13OwnListListint.l0]
   refine Ev.pos (by omega) (Ev.pos (by omega) (Ev.pos (by omega) (Ev.bind (Ev.now _) ?_)))
   rw [hg, wrapS (by omega) (by omega)]
   refine Ev.pos (by simp; omega) (Ev.pos (by rw [List.length_take]; omega) ?_)
   rw [List.nil_append]
   exact hnext
theorem ownLay_is (L : List (List Int)) (D : List Int) (hL : L.length ≤ 1000) (hb : ∀ r ∈ L, r.length ≤ 1000000) (hD : D.length ≤ 1000000) : Ev (fun k => spec_l13OwnLayout.f k L D) (L, D) := by
 have h0 : Ev (fun k => spec_l13OwnListListint.f k L) L := by
   unfold spec_l13OwnListListint.f
   exact ownLL_l0 L hL hb _ 0 rfl (Nat.zero_le _)
 unfold spec_l13OwnLayout.f
 refine Ev.bind h0 (Ev.bind (Ev.now _) (Ev.pos (by simp; omega) (Ev.val ?_)))
 rw [List.nil_append]
def readAll (d : Nat) : List By → Option (List Tr)
 | [] => some []
 | p :: ps => (readD d p).bind fun t => (readAll d ps).map fun ts => t :: ts
theorem inN_is (n a b : Int) : spec_l1In.f n a b = some (decide (a ≤ n ∧ n ≤ b)) := by
 unfold spec_l1In.f
 by_cases h1 : a ≤ n
 · by_cases h2 : n ≤ b <;> simp [h1, h2]
 · simp [h1]
theorem readAll_app (d : Nat) : ∀ (a b : List By), readAll d (a ++ b) = (readAll d a).bind fun x => (readAll d b).map fun y => x ++ y
 | [], b => by
   show readAll d b = (some ([] : List Tr)).bind _
   cases readAll d b <;> rfl
 | p :: a, b => by
   show (readD d p).bind (fun t => (readAll d (a ++ b)).map fun ts => t :: ts) = ((readD d p).bind fun t => (readAll d a).map fun ts => t :: ts).bind _
   rw [readAll_app d a b]
   cases readD d p with
   | none => rfl
   | some t =>
     cases readAll d a with
     | none => rfl
     | some x => cases readAll d b <;> rfl
theorem readAll_ok (d : Nat) : ∀ (ps : List By) (ts : List Tr), readAll d ps = some ts → ps = ts.map (text d) ∧ ts.length = ps.length ∧ ∀ t ∈ ts, Ok d t ∧ (text d t).length ≤ 400
 | [], ts, h => by
   have h2 : ts = [] := (Option.some.inj h).symm
   subst h2
   exact ⟨rfl, rfl, fun t ht => by cases ht⟩
 | p :: ps, ts, h => by
   obtain ⟨t, h1, h2⟩ := Option.bind_eq_some_iff.1 (show (readD d p).bind (fun t => (readAll d ps).map fun ts => t :: ts) = some ts from h)
   obtain ⟨us, h3, h4⟩ := Option.map_eq_some_iff.1 h2
   subst h4
   obtain ⟨e1, e2, e3⟩ := readD_ok h1
   obtain ⟨f1, f2, f3⟩ := readAll_ok d ps us h3
   refine ⟨by rw [List.map_cons, ← f1, ← e1], by rw [List.length_cons, List.length_cons, f2], fun x hx => ?_⟩
   rcases List.mem_cons.1 hx with rfl | hx
   · exact ⟨e2, by rw [← e1]; exact e3⟩
   · exact f3 x hx
theorem readAll_text (d : Nat) : ∀ (ts : List Tr), (∀ t ∈ ts, Ok d t ∧ (text d t).length ≤ 400) → readAll d (ts.map (text d)) = some ts
 | [], _ => rfl
 | t :: ts, h => by
   have h1 := h t (by simp)
   have ih := readAll_text d ts (fun x hx => h x (List.mem_cons_of_mem _ hx))
   show (readD d (text d t)).bind (fun t => (readAll d (ts.map (text d))).map fun ts => t :: ts) = _
   rw [readD_text h1.1 h1.2, ih]
   rfl
theorem sum_of_small (d : Nat) : ∀ (ts : List Tr), (∀ t ∈ ts, (text d t).length ≤ 400) → (ts.map (nodes d)).sum ≤ 400 * ts.length
 | [], _ => by simp
 | t :: ts, h => by
   have h1 := h t (by simp)
   have h2 := nodes_le_text d t
   have ih := sum_of_small d ts (fun x hx => h x (List.mem_cons_of_mem _ hx))
   rw [List.map_cons, List.sum_cons, List.length_cons]
   omega
abbrev Vec := Int × List (List Int) × List Int × Bool
def packR (d : Nat) : Option (List Tr) → Vec
 | none => (0, [], [], false)
 | some ts => ((ts.length : Int), (lvl d ts).map ints, ints (datN d ts), true)
theorem naEta (x : NA) : (⟨x.f0, x.f1⟩ : NA) = x := by cases x; rfl
theorem nsEta2 (x : NS) : (⟨x.f0, x.f1⟩ : NS) = x := by cases x; rfl
theorem rdB_at {ps : List By} {i : Nat} {p : By} (h : ps[i]? = some p) : rdOf ByteArray.empty (ps.map BA) (i : Int) = BA p := by
 unfold rdOf
 rw [Int.toNat_natCast, List.getD_eq_getElem?_getD, List.getElem?_map, h]
 rfl
theorem readAll_stop {d : Nat} {done rest : List By} {p : By} (h : readD d p = none) : readAll d (done ++ p :: rest) = none := by
 rw [readAll_app]
 show (readAll d done).bind (fun x => ((readD d p).bind _).map _) = none
 rw [h]
 cases readAll d done <;> rfl
theorem readAll_snoc {d : Nat} {done : List By} {p : By} {ts : List Tr} {v : Tr} (h1 : readAll d done = some ts) (h2 : readD d p = some v) : readAll d (done ++ [p]) = some (ts ++ [v]) := by
 rw [readAll_app, h1]
 show ((readD d p).bind (fun t => (some ([] : List Tr)).map fun ts => t :: ts)).map _ = _
 rw [h2]
 rfl
theorem packA_l0 (d : Nat) (hd : d ≤ 3) (ps : List By) (hps : ps.length ≤ 2000) : ∀ (rest done : List By) (ts : List Tr), ps = done ++ rest → readAll d done = some ts →
   Ev (fun k => impl_PackVector.l0 k (d : Int) (ts.map (cA d)) (ps.map BA) ((ps.map BA).length : Int) (done.length : Int)) (packR d (readAll d ps)) := by
 intro rest
 induction rest with
 | nil =>
   intro done ts h hr
   rw [List.append_nil] at h
   subst h
   obtain ⟨_, f2, f3⟩ := readAll_ok d ps ts hr
   have hs := sum_of_small d ts (fun t ht => (f3 t ht).2)
   rw [hr]
   refine Ev.step' ?_; simp only [impl_PackVector.l0]
   refine Ev.neg (by rw [List.length_map]; omega) (Ev.bind (laidL_is d hd ts (by omega) (by omega)) (Ev.val ?_))
   rw [List.length_map]
   rfl
 | cons p rest ih =>
   intro done ts h hr
   have hlt : done.length < ps.length := by rw [h]; simp
   have hg : ps[done.length]? = some p := by rw [h]; simp
   obtain ⟨_, f2, f3⟩ := readAll_ok d done ts hr
   obtain ⟨t, h1, h2, h3, h4⟩ := arrOf_is d hd p
   refine Ev.step' ?_; simp only [impl_PackVector.l0]
   refine Ev.pos (by rw [List.length_map]; omega) (Ev.pos (by omega) (Ev.pos (by rw [List.length_map]; omega) ?_))
   rw [rdB_at hg, wrapS (by omega) (by omega)]
   cases hq : readD d p with
   | none =>
     rw [hq] at h1
     rw [h, readAll_stop hq]
     exact Ev.bind h1 (Ev.neg (by simp) (Ev.now _))
   | some v =>
     obtain rfl := h4 v hq
     rw [hq] at h1
     have hnext := ih (done ++ [p]) (ts ++ [t]) (by rw [h, List.append_assoc]; rfl) (readAll_snoc hr hq)
     rw [List.map_append, List.map_singleton, List.length_append, List.length_singleton] at hnext
     refine Ev.bind h1 (Ev.pos rfl (Ev.pos (by rw [List.length_map]; omega) ?_))
     rw [naEta]
     exact hnext
theorem packA_is (d : Nat) (hd : d ≤ 3) (ps : List By) (hps : ps.length ≤ 2000) : Ev (fun k => impl_PackVector.f k (ps.map BA) (d : Int)) (packR d (readAll d ps)) := by
 have h := packA_l0 d hd ps hps ps [] [] rfl rfl
 unfold impl_PackVector.f
 refine Ev.neg (by omega) (Ev.neg (by omega) ?_)
 refine Ev.step' ?_; simp only [impl_PackVector.j0]
 refine Ev.neg ?_ h
 rw [decide_eq_true_eq, List.length_map]
 omega
theorem packA_out (dp : Int) (h : dp < 0 ∨ 3 < dp) (ps : List ByteArray) : Ev (fun k => impl_PackVector.f k ps dp) (packR 0 none) := by
 have hj : Ev (fun k => impl_PackVector.j0 k ps dp true) (packR 0 none) := by
   refine Ev.step' ?_; simp only [impl_PackVector.j0]
   exact Ev.pos (by first | trivial | rfl) (Ev.now _)
 unfold impl_PackVector.f
 by_cases h0 : dp < 0
 · exact Ev.pos h0 hj
 · exact Ev.neg h0 (Ev.pos (by omega) hj)
theorem packS_l0 (d : Nat) (hd : d ≤ 3) (ps : List By) (hps : ps.length ≤ 2000) : ∀ (rest done : List By) (ts : List Tr), ps = done ++ rest → readAll d done = some ts →
   Ev (fun k => spec_l8RawPackVector.l0 k (d : Int) (ts.map (cS d)) (ps.map BA) ((ps.map BA).length : Int) (done.length : Int)) (packR d (readAll d ps)) := by
 intro rest
 induction rest with
 | nil =>
   intro done ts h hr
   rw [List.append_nil] at h
   subst h
   obtain ⟨_, f2, f3⟩ := readAll_ok d ps ts hr
   have hs := sum_of_small d ts (fun t ht => (f3 t ht).2)
   rw [hr]
   refine Ev.step' ?_; simp only [spec_l8RawPackVector.l0]
   exact Ev.neg (by rw [List.length_map]; omega) (Ev.bind (packN_is d hd ts (by omega) (by omega)) (Ev.val rfl))
 | cons p rest ih =>
   intro done ts h hr
   have hlt : done.length < ps.length := by rw [h]; simp
   have hg : ps[done.length]? = some p := by rw [h]; simp
   obtain ⟨_, f2, f3⟩ := readAll_ok d done ts hr
   have h1 := l1Read_is d hd p
   refine Ev.step' ?_; simp only [spec_l8RawPackVector.l0]
   refine Ev.pos (by rw [List.length_map]; omega) (Ev.pos (by omega) (Ev.pos (by rw [List.length_map]; omega) ?_))
   rw [rdB_at hg, wrapS (by omega) (by omega)]
   cases hq : readD d p with
   | none =>
     rw [hq] at h1
     rw [h, readAll_stop hq]
     exact Ev.bind h1 (Ev.neg (by simp [resS]) (Ev.now _))
   | some v =>
     rw [hq] at h1
     have hnext := ih (done ++ [p]) (ts ++ [v]) (by rw [h, List.append_assoc]; rfl) (readAll_snoc hr hq)
     rw [List.map_append, List.map_singleton, List.length_append, List.length_singleton] at hnext
     refine Ev.bind h1 (Ev.pos rfl (Ev.pos (by rw [List.length_map]; omega) ?_))
     show Ev (fun k => spec_l8RawPackVector.l0 k (d : Int) (ts.map (cS d) ++ [(⟨(cS d v).f0, (cS d v).f1⟩ : NS)]) (ps.map BA) ((ps.map BA).length : Int) ((done.length : Int) + 1)) _
     rw [nsEta2]
     exact hnext
theorem packR_bd (d : Nat) (ps : List By) (hps : ps.length ≤ 2000) : (packR d (readAll d ps)).2.1.length ≤ d ∧ (∀ r ∈ (packR d (readAll d ps)).2.1, r.length ≤ 400 * ps.length) ∧ (packR d (readAll d ps)).2.2.1.length ≤ 400 * ps.length := by
 cases hr : readAll d ps with
 | none => exact ⟨Nat.zero_le _, fun r hr => (by cases hr), Nat.zero_le _⟩
 | some ts =>
   obtain ⟨_, f2, f3⟩ := readAll_ok d ps ts hr
   have hs := sum_of_small d ts (fun t ht => (f3 t ht).2)
   obtain ⟨b1, b2, b3⟩ := layTs_bd d ts (List.replicate d [], []) 0 (rep_bd d)
   rw [layTs_lvl] at b1 b2 b3
   refine ⟨?_, fun r hr => Nat.le_trans (b3 r hr) (by omega), Nat.le_trans b2 (by omega)⟩
   show ((lvl d ts).map ints).length ≤ d
   rw [List.length_map, lvl_len]
   exact Nat.le_refl _
theorem packS_is (d : Nat) (hd : d ≤ 3) (ps : List By) (hps : ps.length ≤ 2000) : Ev (fun k => spec_PackVector.f k (ps.map BA) (d : Int)) (packR d (readAll d ps)) := by
 have h := packS_l0 d hd ps hps ps [] [] rfl rfl
 have hraw : Ev (fun k => spec_l8RawPackVector.f k (ps.map BA) (d : Int)) (packR d (readAll d ps)) := by
   unfold spec_l8RawPackVector.f
   rw [inN_is]
   refine Ev.call rfl (Ev.bind (Ev.now _) (Ev.pos (by rw [decide_eq_true_eq]; omega) ?_))
   refine Ev.step' ?_; simp only [spec_l8RawPackVector.j0]
   refine Ev.neg ?_ h
   rw [decide_eq_true_eq, List.length_map]
   omega
 obtain ⟨b1, b2, b3⟩ := packR_bd d ps hps
 unfold spec_PackVector.f spec_l13OwnVector.f
 exact Ev.bind hraw (Ev.bind (Ev.bind (ownLay_is _ _ (by omega) (fun r hr => Nat.le_trans (b2 r hr) (by omega)) (by omega)) (Ev.now _)) (Ev.now _))
theorem packS_out (dp : Int) (h : dp < 0 ∨ 3 < dp) (ps : List ByteArray) : Ev (fun k => spec_PackVector.f k ps dp) (packR 0 none) := by
 have hraw : Ev (fun k => spec_l8RawPackVector.f k ps dp) (packR 0 none) := by
   unfold spec_l8RawPackVector.f
   rw [inN_is]
   refine Ev.call rfl (Ev.bind (Ev.now _) (Ev.neg (by rw [decide_eq_true_eq]; omega) ?_))
   refine Ev.step' ?_; simp only [spec_l8RawPackVector.j0]
   exact Ev.pos (by first | trivial | rfl) (Ev.now _)
 unfold spec_PackVector.f spec_l13OwnVector.f
 exact Ev.bind hraw (Ev.bind (Ev.bind (ownLay_is [] [] (by simp) (fun r hr => by cases hr) (by simp)) (Ev.now _)) (Ev.now _))
theorem rdBA_at {l : List ByteArray} {i : Nat} (h : i < l.length) : rdOf ByteArray.empty l (i : Int) = l[i] := by
 unfold rdOf
 rw [Int.toNat_natCast, List.getD_eq_getElem?_getD, List.getElem?_eq_getElem h]
 rfl
theorem toStringS_l0 (l : List ByteArray) (hl : l.length ≤ 1000000000) : ∀ (n i : Nat), l.length - i = n → i ≤ l.length → Ev (fun k => laws_toStringS.l0 k l (l.take i ++ List.replicate (l.length - i) (⟨#[]⟩ : ByteArray)) (i : Int)) l := by
 intro n
 induction n with
 | zero =>
   intro i h hi
   have : i = l.length := by omega
   subst this
   refine Ev.step' ?_; simp only [laws_toStringS.l0]
   refine Ev.neg (by omega) (Ev.val ?_)
   simp
 | succ n ih =>
   intro i h hi
   have hlt : i < l.length := by omega
   refine Ev.step' ?_; simp only [laws_toStringS.l0]
   refine Ev.pos (by omega) (Ev.pos (by omega) (Ev.pos ?_ ?_))
   · rw [List.length_append, List.length_take, List.length_replicate]; omega
   · rw [rdBA_at hlt, wrapS (by omega) (by omega), Int.toNat_natCast]
     have e : (l.take i ++ List.replicate (l.length - i) (⟨#[]⟩ : ByteArray)).set i l[i] = l.take (i + 1) ++ List.replicate (l.length - (i + 1)) (⟨#[]⟩ : ByteArray) := by
       rw [List.take_succ_eq_append_getElem hlt, List.set_append_right _ _ (by rw [List.length_take]; omega), List.length_take, show i - min i l.length = 0 by omega, show l.length - i = (l.length - (i + 1)) + 1 by omega, List.replicate_succ, List.append_assoc]
       rfl
     rw [e]
     exact ih (i + 1) (by omega) (by omega)
theorem toStringS_is (l : List ByteArray) (hl : l.length ≤ 1000000000) : Ev (fun k => laws_toStringS.f k l) l := by
 unfold laws_toStringS.f
 refine Ev.pos (by omega) (Ev.pos (by omega) ?_)
 have := toStringS_l0 l hl _ 0 rfl (by omega)
 rw [Int.toNat_natCast]
 exact this
theorem eqStringS_l0 (l : List ByteArray) (hl : l.length ≤ 1000000000) : ∀ (n i : Nat), l.length - i = n → i ≤ l.length → Ev (fun k => laws_eqStringS.l0 k l l (i : Int)) true := by
 intro n
 induction n with
 | zero =>
   intro i h hi
   refine Ev.step' ?_; simp only [laws_eqStringS.l0]
   exact Ev.neg (by omega) (Ev.val rfl)
 | succ n ih =>
   intro i h hi
   refine Ev.step' ?_; simp only [laws_eqStringS.l0]
   refine Ev.pos (by omega) (Ev.pos (by omega) (Ev.pos (by omega) (Ev.pos (by first | trivial | rfl) ?_)))
   rw [wrapS (by omega) (by omega)]
   exact ih (i + 1) (by omega) (by omega)
theorem eqStringS_is (l : List ByteArray) (hl : l.length ≤ 1000000000) : Ev (fun k => laws_eqStringS.f k l l) true := by
 unfold laws_eqStringS.f
 exact Ev.pos rfl (eqStringS_l0 l hl _ 0 rfl (by omega))
theorem sz_l0 (l : List ByteArray) (hl : l.length ≤ 1048576) (hs : ∀ x ∈ l, x.size ≤ 9223372036854775807) : ∀ (n i : Nat) (a : Int), l.length - i = n → i ≤ l.length → 0 ≤ a → a ≤ 1048576 → ∃ v, Ev (fun k => laws_szStringS.l0 k l a (i : Int)) v := by
 intro n
 induction n with
 | zero =>
   intro i a h hi h0 h1
   refine ⟨a, ?_⟩
   refine Ev.step' ?_; simp only [laws_szStringS.l0]
   exact Ev.neg (by omega) (Ev.now _)
 | succ n ih =>
   intro i a h hi h0 h1
   have hlt : i < l.length := by omega
   have hx := hs _ (List.getElem_mem hlt)
   have hw : wrap64 (a - (l[i].size : Int)) = a - (l[i].size : Int) := by unfold wrap64; omega
   by_cases hn : a - (l[i].size : Int) < 0
   · refine ⟨-1, ?_⟩
     refine Ev.step' ?_; simp only [laws_szStringS.l0]
     refine Ev.pos (by omega) (Ev.pos (by omega) (Ev.pos ?_ (Ev.now _)))
     rw [rdBA_at hlt, hw]
     exact hn
   · obtain ⟨v, hv⟩ := ih (i + 1) (a - (l[i].size : Int)) (by omega) (by omega) (by omega) (by omega)
     refine ⟨v, ?_⟩
     refine Ev.step' ?_; simp only [laws_szStringS.l0]
     rw [rdBA_at hlt, hw]
     refine Ev.pos (by omega) (Ev.pos (by omega) (Ev.neg hn ?_))
     rw [wrapS (by omega) (by omega)]
     exact hv
theorem sz_is (l : List ByteArray) (hl : l.length ≤ 9223372036854775807) (hs : ∀ x ∈ l, x.size ≤ 9223372036854775807) : ∃ v : Int, Ev (fun k => laws_szStringS.f k l 1048576) v ∧ (¬ v < 0 → l.length ≤ 1048576) := by
 have hw : wrap64 (1048576 - (l.length : Int)) = 1048576 - (l.length : Int) := by unfold wrap64; omega
 unfold laws_szStringS.f
 rw [hw]
 by_cases h : (1048576 : Int) - (l.length : Int) < 0
 · exact ⟨-1, Ev.pos h (Ev.now _), fun h => absurd (by decide) h⟩
 · obtain ⟨v, hv⟩ := sz_l0 l (by omega) hs _ 0 (1048576 - (l.length : Int)) rfl (Nat.zero_le _) (by omega) (by omega)
   exact ⟨v, Ev.neg h hv, fun _ => by omega⟩
/-! #### marks -/
/-- So many numbers from a on. -/
def mk (a : Int) : Nat → List Int
 | 0 => []
 | n + 1 => a :: mk (a + 1) n
theorem mk_len (a : Int) (n : Nat) : (mk a n).length = n := by
 induction n generalizing a with
 | zero => rfl
 | succ n ih => simp [mk, ih]
theorem mk_snoc (a : Int) (n : Nat) : mk a (n + 1) = mk a n ++ [a + n] := by
 induction n generalizing a with
 | zero => simp [mk]
 | succ n ih =>
   rw [mk, ih, mk, List.cons_append, show a + 1 + (n : Int) = a + ((n + 1 : Nat) : Int) by omega]
theorem mk_at (a : Int) (n i : Nat) (h : i < n) : (mk a n)[i]'(by rw [mk_len]; exact h) = a + i := by
 induction n generalizing a i with
 | zero => omega
 | succ n ih =>
   cases i with
   | zero => simp [mk]
   | succ i =>
     simp only [mk, List.getElem_cons_succ]
     rw [ih (a + 1) i (by omega)]
     omega
theorem wrapI {a : Int} (h0 : 0 ≤ a) (h1 : a ≤ 9000000000000000000) : wrap64 a = a := by unfold wrap64; omega
theorem markI_l0 (l : List Int) (hl : l.length ≤ 1000000000) (a : Int) (h0 : 0 ≤ a) (h1 : a ≤ 1000000000000000) : ∀ (n i : Nat), l.length - i = n → i ≤ l.length → Ev (fun k => laws_markIntS.l0 k (mk a i ++ l.drop i) (a + i) (i : Int)) (a + (l.length : Int), mk a l.length) := by
 intro n
 induction n with
 | zero =>
   intro i h hi
   have : i = l.length := by omega
   subst this
   refine Ev.step' ?_; simp only [laws_markIntS.l0]
   refine Ev.neg (by rw [List.length_append, mk_len, List.length_drop]; omega) (Ev.val ?_)
   simp
 | succ n ih =>
   intro i h hi
   have hlt : i < l.length := by omega
   refine Ev.step' ?_; simp only [laws_markIntS.l0]
   refine Ev.pos (by rw [List.length_append, mk_len, List.length_drop]; omega) (Ev.pos (by omega) ?_)
   rw [wrapS (by omega) (by omega), wrapI (by omega) (by omega), Int.toNat_natCast]
   have e : (mk a i ++ l.drop i).set i (a + i) = mk a (i + 1) ++ l.drop (i + 1) := by
     rw [List.set_append_right _ _ (by rw [mk_len]; omega), mk_len, Nat.sub_self, List.drop_eq_getElem_cons hlt, List.set_cons_zero, mk_snoc, List.append_assoc]
     rfl
   rw [e, show a + (i : Int) + 1 = a + ((i + 1 : Nat) : Int) by omega]
   exact ih (i + 1) (by omega) (by omega)
theorem markI_is (l : List Int) (hl : l.length ≤ 1000000000) (a : Int) (h0 : 0 ≤ a) (h1 : a ≤ 1000000000000000) : Ev (fun k => laws_markIntS.f k l a) (a + (l.length : Int), mk a l.length) := by
 unfold laws_markIntS.f
 have := markI_l0 l hl a h0 h1 _ 0 rfl (by omega)
 simpa [mk] using this
theorem heldI_l0 (N : Nat) (hN : N ≤ 1000000000) (a : Int) (h0 : 0 ≤ a) (h1 : a ≤ 1000000000000000) : ∀ (n i : Nat), N - i = n → i ≤ N → Ev (fun k => laws_heldIntS.l0 k (mk a N) (a + i) (i : Int)) (a + (N : Int)) := by
 intro n
 induction n with
 | zero =>
   intro i h hi
   have : i = N := by omega
   subst this
   refine Ev.step' ?_; simp only [laws_heldIntS.l0]
   exact Ev.neg (by rw [mk_len]; omega) (Ev.val rfl)
 | succ n ih =>
   intro i h hi
   have hlt : i < N := by omega
   refine Ev.step' ?_; simp only [laws_heldIntS.l0]
   refine Ev.pos (by rw [mk_len]; omega) (Ev.pos (by omega) (Ev.pos ?_ ?_))
   · rw [rd_at (by rw [mk_len]; exact hlt), mk_at a N i hlt]
   · rw [wrapS (by omega) (by omega), wrapI (by omega) (by omega), show a + (i : Int) + 1 = a + ((i + 1 : Nat) : Int) by omega]
     exact ih (i + 1) (by omega) (by omega)
theorem heldI_is (N : Nat) (hN : N ≤ 1000000000) (a : Int) (h0 : 0 ≤ a) (h1 : a ≤ 1000000000000000) : Ev (fun k => laws_heldIntS.f k (mk a N) a) (a + (N : Int)) := by
 unfold laws_heldIntS.f
 have := heldI_l0 N hN a h0 h1 _ 0 rfl (by omega)
 simpa using this
/-- So many marks in rows of these lengths, and what follows. -/
def mks : Int → List (List Int) → List (List Int)
 | _, [] => []
 | a, r :: rs => mk a r.length :: mks (a + r.length) rs
def tot : List (List Int) → Nat
 | [] => 0
 | r :: rs => r.length + tot rs
theorem tot_app (a b : List (List Int)) : tot (a ++ b) = tot a + tot b := by
 induction a with
 | nil => simp [tot]
 | cons r rs ih => simp [tot, ih]; omega
theorem mks_len (a : Int) (L : List (List Int)) : (mks a L).length = L.length := by
 induction L generalizing a with
 | nil => rfl
 | cons r rs ih => simp [mks, ih]
theorem mks_snoc (a : Int) (L : List (List Int)) (r : List Int) : mks a (L ++ [r]) = mks a L ++ [mk (a + tot L) r.length] := by
 induction L generalizing a with
 | nil => simp [mks, tot]
 | cons q rs ih =>
   rw [List.cons_append, mks, ih, mks, tot, List.cons_append, show a + (q.length : Int) + (tot rs : Int) = a + ((q.length + tot rs : Nat) : Int) by omega]
theorem tot_bd (B : Nat) : ∀ L : List (List Int), (∀ r ∈ L, r.length ≤ B) → tot L ≤ L.length * B
 | [], _ => by simp [tot]
 | r :: rs, h => by
   have h1 := tot_bd B rs (fun x hx => h x (List.mem_cons_of_mem _ hx))
   have h2 := h r List.mem_cons_self
   simp only [tot, List.length_cons, Nat.add_mul, Nat.one_mul]
   omega
theorem tot_take (L : List (List Int)) (i : Nat) : tot (L.take i) ≤ tot L := by
 have := tot_app (L.take i) (L.drop i)
 rw [List.take_append_drop] at this
 omega
section
variable (L : List (List Int)) (hL : L.length ≤ 1000000) (hb : ∀ r ∈ L, r.length ≤ 1000000000) (ht : tot L ≤ 100000000000000) (a : Int) (h0 : 0 ≤ a) (h1 : a ≤ 100000000000000)
include hL hb ht h0 h1
theorem markL_l0 : ∀ (n i : Nat), L.length - i = n → i ≤ L.length → Ev (fun k => laws_markIntSS.l0 k (mks a (L.take i) ++ L.drop i) (a + tot (L.take i)) (i : Int)) (a + (tot L : Int), mks a L) := by
 intro n
 induction n with
 | zero =>
   intro i h hi
   have : i = L.length := by omega
   subst this
   refine Ev.step' ?_; simp only [laws_markIntSS.l0]
   refine Ev.neg (by rw [List.length_append, mks_len, List.length_take, List.length_drop]; omega) (Ev.val ?_)
   simp
 | succ n ih =>
   intro i h hi
   have hlt : i < L.length := by omega
   have htk := tot_take L i
   have hg : (mks a (L.take i) ++ L.drop i).getD (i : Int).toNat [] = L[i] := by
     rw [Int.toNat_natCast, List.getD_eq_getElem?_getD, List.getElem?_append_right (by rw [mks_len, List.length_take]; omega), mks_len, List.length_take, show i - min i L.length = 0 by omega, List.drop_eq_getElem_cons hlt]
     rfl
   have hm := markI_is L[i] (hb _ (List.getElem_mem hlt)) (a + tot (L.take i)) (by omega) (by omega)
   refine Ev.step' ?_; simp only [laws_markIntSS.l0]
   refine Ev.pos (by rw [List.length_append, mks_len, List.length_take, List.length_drop]; omega) (Ev.pos (by omega) ?_)
   rw [hg]
   refine Ev.bind hm ?_
   rw [wrapS (by omega) (by omega), Int.toNat_natCast]
   have e2 : L.take (i + 1) = L.take i ++ [L[i]] := List.take_succ_eq_append_getElem hlt
   have e : (mks a (L.take i) ++ L.drop i).set i (mk (a + tot (L.take i)) L[i].length) = mks a (L.take (i + 1)) ++ L.drop (i + 1) := by
     rw [List.set_append_right _ _ (by rw [mks_len, List.length_take]; omega), mks_len, List.length_take, show i - min i L.length = 0 by omega, List.drop_eq_getElem_cons hlt, List.set_cons_zero, e2, mks_snoc, List.append_assoc]
     rfl
   have e3 : a + (tot (L.take i) : Int) + (L[i].length : Int) = a + (tot (L.take (i + 1)) : Int) := by
     rw [e2, tot_app]
     simp [tot]
     omega
   show Ev (fun k => laws_markIntSS.l0 k ((mks a (L.take i) ++ L.drop i).set i (mk (a + tot (L.take i)) L[i].length)) (a + (tot (L.take i) : Int) + (L[i].length : Int)) ((i + 1 : Nat) : Int)) _
   rw [e, e3]
   exact ih (i + 1) (by omega) (by omega)
theorem markL_is : Ev (fun k => laws_markIntSS.f k L a) (a + (tot L : Int), mks a L) := by
 unfold laws_markIntSS.f
 have := markL_l0 L hL hb ht a h0 h1 _ 0 rfl (by omega)
 simpa [mks, tot] using this
theorem heldL_l0 : ∀ (n i : Nat), L.length - i = n → i ≤ L.length → Ev (fun k => laws_heldIntSS.l0 k (mks a L) (a + tot (L.take i)) (i : Int)) (a + (tot L : Int)) := by
 intro n
 induction n with
 | zero =>
   intro i h hi
   have : i = L.length := by omega
   subst this
   refine Ev.step' ?_; simp only [laws_heldIntSS.l0]
   refine Ev.neg (by rw [mks_len]; omega) (Ev.val ?_)
   simp
 | succ n ih =>
   intro i h hi
   have hlt : i < L.length := by omega
   have htk := tot_take L i
   have e2 : L.take (i + 1) = L.take i ++ [L[i]] := List.take_succ_eq_append_getElem hlt
   have hg : rd_L5 (mks a L) (i : Int) = mk (a + tot (L.take i)) L[i].length := by
     have e : mks a L = mks a (L.take i) ++ mks (a + tot (L.take i)) (L.drop i) := by
       have key : ∀ (p q : List (List Int)) (b : Int), mks b (p ++ q) = mks b p ++ mks (b + tot p) q := by
         intro p q
         induction p with
         | nil => intro b; simp [mks, tot]
         | cons r rs ihp =>
           intro b
           rw [List.cons_append, mks, ihp, mks, tot, List.cons_append, show b + (r.length : Int) + (tot rs : Int) = b + ((r.length + tot rs : Nat) : Int) by omega]
       conv => lhs; rw [← List.take_append_drop i L]
       rw [key]
     unfold rd_L5
     rw [Int.toNat_natCast, List.getD_eq_getElem?_getD, e, List.getElem?_append_right (by rw [mks_len, List.length_take]; omega), mks_len, List.length_take, show i - min i L.length = 0 by omega, List.drop_eq_getElem_cons hlt]
     rfl
   have hm := heldI_is L[i].length (hb _ (List.getElem_mem hlt)) (a + tot (L.take i)) (by omega) (by omega)
   have e3 : a + (tot (L.take i) : Int) + (L[i].length : Int) = a + (tot (L.take (i + 1)) : Int) := by
     rw [e2, tot_app]
     simp [tot]
     omega
   refine Ev.step' ?_; simp only [laws_heldIntSS.l0]
   refine Ev.pos (by rw [mks_len]; omega) (Ev.pos (by omega) ?_)
   rw [hg]
   refine Ev.bind hm (Ev.neg (by omega) ?_)
   rw [wrapS (by omega) (by omega), e3]
   exact ih (i + 1) (by omega) (by omega)
theorem heldL_is : Ev (fun k => laws_heldIntSS.f k (mks a L) a) (a + (tot L : Int)) := by
 unfold laws_heldIntSS.f
 have := heldL_l0 L hL hb ht a h0 h1 _ 0 rfl (by omega)
 simpa [mks, tot] using this
end
theorem markV_is (L : List (List Int)) (D : List Int) (hL : L.length ≤ 1000000) (hb : ∀ r ∈ L, r.length ≤ 1000000000) (ht : tot L ≤ 100000000000000) (hD : D.length ≤ 1000000000) : Ev (fun k => laws_markVector.f k L D 1) (1 + (tot L : Int) + (D.length : Int), mks 1 L, mk (1 + tot L) D.length) := by
 unfold laws_markVector.f
 exact Ev.bind (markL_is L hL hb ht 1 (by omega) (by omega)) (Ev.bind (markI_is D hD (1 + tot L) (by omega) (by omega)) (Ev.now _))
theorem heldV_is (c : Int) (L : List (List Int)) (D : List Int) (hL : L.length ≤ 1000000) (hb : ∀ r ∈ L, r.length ≤ 1000000000) (ht : tot L ≤ 100000000000000) (hD : D.length ≤ 1000000000) : Ev (fun k => laws_heldVector.f k c (mks 1 L) (mk (1 + tot L) D.length) 1) (1 + (tot L : Int) + (D.length : Int)) := by
 unfold laws_heldVector.f laws_heldLayout.f
 exact Ev.bind (Ev.bind (heldL_is L hL hb ht 1 (by omega) (by omega)) (Ev.neg (by omega) (Ev.bind (heldI_is D.length hD (1 + tot L) (by omega) (by omega)) (Ev.neg (by omega) (Ev.now _))))) (Ev.neg (by omega) (Ev.now _))
/-! #### equal -/
theorem eqI_l0 (l : List Int) (hl : l.length ≤ 1000000000) : ∀ (n i : Nat), l.length - i = n → i ≤ l.length → Ev (fun k => laws_eqIntS.l0 k l l (i : Int)) true := by
 intro n
 induction n with
 | zero =>
   intro i h hi
   refine Ev.step' ?_; simp only [laws_eqIntS.l0]
   exact Ev.neg (by omega) (Ev.val rfl)
 | succ n ih =>
   intro i h hi
   refine Ev.step' ?_; simp only [laws_eqIntS.l0]
   refine Ev.pos (by omega) (Ev.pos (by omega) (Ev.pos (by omega) (Ev.pos (by first | trivial | rfl) ?_)))
   rw [wrapS (by omega) (by omega)]
   exact ih (i + 1) (by omega) (by omega)
theorem eqI_is (l : List Int) (hl : l.length ≤ 1000000000) : Ev (fun k => laws_eqIntS.f k l l) true := by
 unfold laws_eqIntS.f
 exact Ev.pos rfl (eqI_l0 l hl _ 0 rfl (by omega))
theorem eqL_l0 (L : List (List Int)) (hL : L.length ≤ 1000000) (hb : ∀ r ∈ L, r.length ≤ 1000000000) : ∀ (n i : Nat), L.length - i = n → i ≤ L.length → Ev (fun k => laws_eqIntSS.l0 k L L (i : Int)) true := by
 intro n
 induction n with
 | zero =>
   intro i h hi
   refine Ev.step' ?_; simp only [laws_eqIntSS.l0]
   exact Ev.neg (by omega) (Ev.val rfl)
 | succ n ih =>
   intro i h hi
   have hlt : i < L.length := by omega
   have hg : rd_L5 L (i : Int) = L[i] := by
     unfold rd_L5
     rw [Int.toNat_natCast, List.getD_eq_getElem?_getD, List.getElem?_eq_getElem hlt]
     rfl
   refine Ev.step' ?_; simp only [laws_eqIntSS.l0]
   refine Ev.pos (by omega) (Ev.pos (by omega) (Ev.pos (by omega) ?_))
   rw [hg]
   refine Ev.bind (eqI_is L[i] (hb _ (List.getElem_mem hlt))) (Ev.pos (by first | trivial | rfl) ?_)
   rw [wrapS (by omega) (by omega)]
   exact ih (i + 1) (by omega) (by omega)
theorem eqV_is (c : Int) (L : List (List Int)) (D : List Int) (hL : L.length ≤ 1000000) (hb : ∀ r ∈ L, r.length ≤ 1000000000) (hD : D.length ≤ 1000000000) : Ev (fun k => laws_eqVector.f k c L D c L D) true := by
 unfold laws_eqVector.f laws_eqLayout.f laws_eqIntSS.f
 exact Ev.pos rfl (Ev.bind (Ev.bind (Ev.pos rfl (eqL_l0 L hL hb _ 0 rfl (by omega))) (Ev.pos (by first | trivial | rfl) (Ev.bind (eqI_is D hD) (Ev.pos (by first | trivial | rfl) (Ev.now _))))) (Ev.pos (by first | trivial | rfl) (Ev.now _)))
/-! #### marks in texts -/
theorem markT_l0 : ∀ (n : Nat) (a : Int) (x : ByteArray), a.toNat ≤ n → 0 ≤ a → a ≤ 9000000000000000000 → x.size + n ≤ 1000000000000 → ∃ y, Ev (fun k => laws_markText.l0 k a x) y := by
 intro n
 induction n with
 | zero =>
   intro a x h1 h0 h2 h3
   refine ⟨(⟨#[109]⟩ : ByteArray) ++ x, ?_⟩
   refine Ev.step' ?_; simp only [laws_markText.l0]
   exact Ev.neg (by omega) (Ev.pos (by omega) (Ev.now _))
 | succ n ih =>
   intro a x h1 h0 h2 h3
   by_cases hp : a > 0
   · have hs : (strOfNums [(wrap64 (48 + (Int.tmod a 10))) % 256]).size = 1 := rfl
     obtain ⟨y, hy⟩ := ih (wrap64 (Int.tdiv a 10)) (strOfNums [(wrap64 (48 + (Int.tmod a 10))) % 256] ++ x) (by
       have h4 := Int.tdiv_eq_ediv_of_nonneg (a := a) (b := 10) h0
       rw [h4, wrapI (by omega) (by omega)]
       omega) (by
       have h4 := Int.tdiv_eq_ediv_of_nonneg (a := a) (b := 10) h0
       rw [h4, wrapI (by omega) (by omega)]
       omega) (by
       have h4 := Int.tdiv_eq_ediv_of_nonneg (a := a) (b := 10) h0
       rw [h4, wrapI (by omega) (by omega)]
       omega) (by rw [ByteArray.size_append, hs]; omega)
     refine ⟨y, ?_⟩
     refine Ev.step' ?_; simp only [laws_markText.l0]
     exact Ev.pos hp (Ev.bind (Ev.now _) (Ev.pos (by rw [hs]; omega) hy))
   · refine ⟨(⟨#[109]⟩ : ByteArray) ++ x, ?_⟩
     refine Ev.step' ?_; simp only [laws_markText.l0]
     exact Ev.neg hp (Ev.pos (by omega) (Ev.now _))
theorem markT_is (a : Int) (h0 : 0 ≤ a) (h1 : a ≤ 100000000000) : ∃ y, Ev (fun k => laws_markText.f k a) y := by
 by_cases h : a ≤ 0
 · exact ⟨_, Ev.pos h (Ev.now _)⟩
 · obtain ⟨y, hy⟩ := markT_l0 a.toNat a ⟨#[]⟩ (by omega) h0 (by omega) (by
     show 0 + a.toNat ≤ _
     omega)
   exact ⟨y, Ev.neg h hy⟩
theorem markS_l0 (N : Nat) (hN : N ≤ 1000000000) : ∀ (n i : Nat) (l : List ByteArray), l.length = N → N - i = n → i ≤ N → ∃ l2, Ev (fun k => laws_markStringS.l0 k l (1 + i) (i : Int)) (1 + (N : Int), l2) := by
 intro n
 induction n with
 | zero =>
   intro i l hl h hi
   have : i = N := by omega
   subst this
   refine ⟨l, ?_⟩
   refine Ev.step' ?_; simp only [laws_markStringS.l0]
   exact Ev.neg (by omega) (Ev.val rfl)
 | succ n ih =>
   intro i l hl h hi
   obtain ⟨y, hy⟩ := markT_is (1 + i) (by omega) (by omega)
   obtain ⟨l2, h2⟩ := ih (i + 1) (l.set i y) (by rw [List.length_set]; exact hl) (by omega) (by omega)
   refine ⟨l2, ?_⟩
   refine Ev.step' ?_; simp only [laws_markStringS.l0]
   refine Ev.pos (by omega) (Ev.bind hy (Ev.pos (by omega) ?_))
   rw [wrapS (by omega) (by omega), wrapI (by omega) (by omega), Int.toNat_natCast, show (1 : Int) + (i : Int) + 1 = 1 + ((i + 1 : Nat) : Int) by omega]
   exact h2
theorem markS_is (l : List ByteArray) (hl : l.length ≤ 1000000000) : ∃ l2, Ev (fun k => laws_markStringS.f k l 1) (1 + (l.length : Int), l2) := by
 obtain ⟨l2, h2⟩ := markS_l0 l.length hl _ 0 l rfl rfl (by omega)
 refine ⟨l2, ?_⟩
 unfold laws_markStringS.f
 simpa using h2
theorem packA_many (d : Int) (ps : List ByteArray) (hp : 2000 < ps.length) : Ev (fun k => impl_PackVector.f k ps d) (packR 0 none) := by
 have hj : ∀ b, b = true → Ev (fun k => impl_PackVector.j0 k ps d b) (packR 0 none) := by
   intro b hb
   refine Ev.step' ?_; simp only [impl_PackVector.j0]
   exact Ev.pos hb (Ev.now _)
 unfold impl_PackVector.f
 by_cases h0 : d < 0
 · exact Ev.pos h0 (hj _ rfl)
 · refine Ev.neg h0 ?_
   by_cases h1 : d > 3
   · exact Ev.pos h1 (hj _ rfl)
   · exact Ev.neg h1 (hj _ (by rw [decide_eq_true_eq]; omega))
theorem packS_many (d : Int) (ps : List ByteArray) (hp : 2000 < ps.length) : Ev (fun k => spec_PackVector.f k ps d) (packR 0 none) := by
 have hj : ∀ x b, b = true → Ev (fun k => spec_l8RawPackVector.j0 k ps d x b) (packR 0 none) := by
   intro x b hb
   refine Ev.step' ?_; simp only [spec_l8RawPackVector.j0]
   exact Ev.pos hb (Ev.now _)
 have hraw : Ev (fun k => spec_l8RawPackVector.f k ps d) (packR 0 none) := by
   unfold spec_l8RawPackVector.f
   rw [inN_is]
   refine Ev.call rfl (Ev.bind (Ev.now _) ?_)
   by_cases h : decide (0 ≤ d ∧ d ≤ 3) = true
   · exact Ev.pos h (hj _ _ (by rw [decide_eq_true_eq]; omega))
   · exact Ev.neg h (hj _ _ rfl)
 unfold spec_PackVector.f spec_l13OwnVector.f
 exact Ev.bind hraw (Ev.bind (Ev.bind (ownLay_is [] [] (by simp) (fun r hr => by cases hr) (by simp)) (Ev.now _)) (Ev.now _))
/-- Both pack alike, and what they make is small. -/
theorem pack_both (ps : List By) (d : Int) : ∃ V : Vec, Ev (fun k => impl_PackVector.f k (ps.map BA) d) V ∧ Ev (fun k => spec_PackVector.f k (ps.map BA) d) V ∧ V.2.1.length ≤ 3 ∧ (∀ r ∈ V.2.1, r.length ≤ 800000) ∧ V.2.2.1.length ≤ 800000 := by
 by_cases h0 : d < 0 ∨ 3 < d
 · exact ⟨_, packA_out d h0 _, packS_out d h0 _, Nat.zero_le _, fun r hr => (by cases hr), Nat.zero_le _⟩
 by_cases hp : ps.length ≤ 2000
 · obtain ⟨n, rfl⟩ : ∃ n : Nat, d = (n : Int) := ⟨d.toNat, by omega⟩
   obtain ⟨b1, b2, b3⟩ := packR_bd n ps hp
   exact ⟨_, packA_is n (by omega) ps hp, packS_is n (by omega) ps hp, by omega, fun r hr => Nat.le_trans (b2 r hr) (by omega), by omega⟩
 · exact ⟨_, packA_many d _ (by rw [List.length_map]; omega), packS_many d _ (by rw [List.length_map]; omega), Nat.zero_le _, fun r hr => (by cases hr), Nat.zero_le _⟩
/-- The one statement that is left, with no program in sight. -/
def laws_FnExactPackVector.Pure : Prop := ∀ (l : List ByteArray) (d : Int), l.length ≤ maxLen → (∀ x ∈ l, x.size ≤ maxLen) → ∃ (k : Nat) (t : Int), laws_szStringS.f k l 1048576 = some t ∧ (¬ t < 0 → ∃ (c m1 m2 : Int) (ok : Bool) (L : List (List Int)) (D : List Int) (l2 : List ByteArray) (L2 : List (List Int)) (D2 : List Int),
   laws_toStringS.f k l = some l ∧ spec_PackVector.f k l d = some (c, L, D, ok) ∧ impl_PackVector.f k l d = some (c, L, D, ok) ∧ laws_eqVector.f k c L D c L D = some true ∧ laws_eqStringS.f k l l = some true ∧
   laws_markStringS.f k l 1 = some (m1, l2) ∧ ¬ m1 < 0 ∧ laws_markVector.f k L D 1 = some (m2, L2, D2) ∧ ¬ m2 < 0 ∧ laws_heldVector.f k c L2 D2 1 = some m2)
theorem Pure_FnExactPackVector : laws_FnExactPackVector.Pure := by
 intro l d hl hs
 simp only [maxLen] at hl hs
 obtain ⟨t, ⟨K1, e1⟩, hvl⟩ := sz_is l (by omega) (fun x hx => Nat.le_trans (hs x hx) (by omega))
 by_cases ht : t < 0
 · exact ⟨K1, t, e1 K1 (Nat.le_refl _), fun h => absurd ht h⟩
 have hlen := hvl ht
 obtain ⟨V, hA, hS, v1, v2, v3⟩ := pack_both (l.map (·.data.toList)) d
 have e : (l.map (·.data.toList)).map BA = l := by
   rw [List.map_map]
   exact (List.map_congr_left (fun x _ => BA_data x)).trans (List.map_id l)
 rw [e] at hA hS
 obtain ⟨c, L, D, ok⟩ := V
 have v1' : L.length ≤ 3 := v1
 have v2' : ∀ r ∈ L, r.length ≤ 800000 := v2
 have v3' : D.length ≤ 800000 := v3
 have htot := tot_bd 800000 L v2'
 have ht2 : tot L ≤ 100000000000000 := by omega
 obtain ⟨K2, e2⟩ := toStringS_is l (by omega)
 obtain ⟨K3, e3⟩ := hS
 obtain ⟨K4, e4⟩ := hA
 obtain ⟨K5, e5⟩ := eqV_is c L D (by omega) (fun r hr => Nat.le_trans (v2' r hr) (by omega)) (by omega)
 obtain ⟨K6, e6⟩ := eqStringS_is l (by omega)
 obtain ⟨l2, K7, e7⟩ := markS_is l (by omega)
 obtain ⟨K8, e8⟩ := markV_is L D (by omega) (fun r hr => Nat.le_trans (v2' r hr) (by omega)) ht2 (by omega)
 obtain ⟨K9, e9⟩ := heldV_is c L D (by omega) (fun r hr => Nat.le_trans (v2' r hr) (by omega)) ht2 (by omega)
 exact ⟨K1 + K2 + K3 + K4 + K5 + K6 + K7 + K8 + K9, t, e1 _ (by omega), fun _ => ⟨c, _, _, ok, L, D, l2, _, _, e2 _ (by omega), e3 _ (by omega), e4 _ (by omega), e5 _ (by omega), e6 _ (by omega), e7 _ (by omega), by omega, e8 _ (by omega), by omega, e9 _ (by omega)⟩⟩
end Go.Proofs.YtoloblgjlnhioaaDoor.P
