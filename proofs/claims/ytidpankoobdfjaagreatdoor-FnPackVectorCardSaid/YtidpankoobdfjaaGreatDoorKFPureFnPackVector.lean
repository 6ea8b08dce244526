/- Packed texts are unpacked, and an unpacked vector is packed again: both sides alike. -/
import Derived.Test.YtidpankoobdfjaaGreatDoorKFQbase
import Derived.Test.YtidpankoobdfjaaGreatDoorKFx3
import Derived.Test.YtidpankoobdfjaaGreatDoorKFx2
import Derived.Test.YtidpankoobdfjaaGreatDoorKFx1
import Derived.Test.YtidpankoobdfjaaGreatDoorKFx5
import Derived.Test.YtidpankoobdfjaaGreatDoorKFSgy
import Derived.Test.YtidpankoobdfjaaGreatDoorKFx0
import Derived.Test.YtidpankoobdfjaaGreatDoorKFx4
import Derived.Test.YtidpankoobdfjaaGreatDoorKFSgw
import Derived.Test.YtidpankoobdfjaaGreatDoorKFx6
import Derived.Test.YtidpankoobdfjaaGreatDoorKFSgz
import Derived.Test.YtidpankoobdfjaaGreatDoorKFSgm
import Derived.Test.YtidpankoobdfjaaGreatDoorKFSgc
import Derived.Test.YtidpankoobdfjaaGreatDoorKFx7
namespace Go.Proofs.YtidpankoobdfjaaGreatDoor.K
open Go.RowKit Go.Proofs.YtidpankoobdfjaaGreatDoorW.PrintWords Go.Proofs.YtidpankoobdfjaaGreatDoorW.PrintLast Go.Proofs.YtidpankoobdfjaaGreatDoorW.PrintMore Go.Proofs.YtidpankoobdfjaaGreatDoor.Q
set_option linter.unusedSimpArgs false
set_option linter.unusedVariables false

abbrev NA := S68
abbrev NS := S79
def cA : Nat → Tr → NA
 | 0, t => ⟨(t.n : Int), []⟩
 | d + 1, t => ⟨(t.n : Int), t.parts.map (cA d)⟩
def cS : Nat → Tr → NS
 | 0, t => ⟨(t.n : Int), []⟩
 | d + 1, t => ⟨(t.n : Int), t.parts.map (cS d)⟩
theorem mkA (t : NA) : (⟨t.f0, t.f1⟩ : NA) = t := by cases t; rfl
theorem mkS (t : NS) : (⟨t.f0, t.f1⟩ : NS) = t := by cases t; rfl
theorem cA_f0 (d : Nat) (t : Tr) : (cA d t).f0 = (t.n : Int) := by cases d <;> rfl
theorem cS_f0 (d : Nat) (t : Tr) : (cS d t).f0 = (t.n : Int) := by cases d <;> rfl

/-! ### impl.readArr -/
abbrev RA := Int × List NA × ByteArray × Bool
def badA : RA := (0, [], BA [], false)
def resA (d : Nat) : Option (Tr × By) → RA
 | none => badA
 | some (t, r) => ((cA d t).f0, (cA d t).f1, BA r, true)
theorem bt_at {l : By} {i : Nat} (h : i < l.length) : bt (BA l) (i : Int) = (l[i].toNat : Int) := by
 rw [bt_BA, Int.toNat_natCast, List.getD_eq_getElem?_getD, List.getElem?_eq_getElem h]
 rfl
theorem take_split {l : By} (i : Nat) (h : (l.take i).all isD = true) (hn : ∀ x : i < l.length, isD l[i] = false) : l.takeWhile isD = l.take i ∧ l.dropWhile isD = l.drop i := by
 have e : l = l.take i ++ l.drop i := (List.take_append_drop i l).symm
 have := takeWhile_digits (ds := l.take i) (r := l.drop i) h (by
   intro c r hr
   by_cases hi : i < l.length
   · rw [List.drop_eq_getElem_cons hi] at hr
     rw [← (List.cons.inj hr).1]
     exact hn hi
   · rw [List.drop_eq_nil_of_le (by omega)] at hr
     cases hr)
 rw [← e] at this
 exact this
theorem readArr_j1 (l : By) (hl : l.length ≤ 1000000) : Ev (fun k => impl_readArr.j1 k (BA l) ((l.takeWhile isD).length : Int)) (resA 0 (parse 0 l)) := by
 have ht : l.take (l.takeWhile isD).length = l.takeWhile isD := by
   have e := List.takeWhile_append_dropWhile (p := isD) (l := l)
   conv => lhs; arg 2; rw [← e]
   rw [List.take_left']
   rfl
 have hd : l.drop (l.takeWhile isD).length = l.dropWhile isD := by
   have e := List.takeWhile_append_dropWhile (p := isD) (l := l)
   conv => lhs; arg 2; rw [← e]
   rw [List.drop_left']
   rfl
 have hlen : (l.takeWhile isD).length ≤ l.length := by
   have := congrArg List.length (List.takeWhile_append_dropWhile (p := isD) (l := l))
   rw [List.length_append] at this
   omega
 have hall : (l.takeWhile isD).all isD = true := List.all_takeWhile
 have hx : (BA l).extract 0 (l.takeWhile isD).length = BA (l.takeWhile isD) := by
   rw [BA_extract]
   simp [ht]
 have hy : (BA l).extract (l.takeWhile isD).length (BA l).size = BA (l.dropWhile isD) := by
   rw [BA_extract, hd, BA_size, List.take_of_length_le]
   rw [← hd, List.length_drop]
   omega
 refine Ev.step' ?_; simp only [impl_readArr.j1]
 refine Ev.pos (by omega) (Ev.pos (by rw [BA_size]; omega) ?_)
 simp only [Int.toNat_natCast, hx, hy]
 have hs : (BA (l.takeWhile isD)).size ≤ 281474976710656 := by rw [BA_size]; omega
 by_cases hne : l.takeWhile isD = []
 · have ha : strconv_Atoi.f (BA (l.takeWhile isD)) = some (0, some 0) := by
     unfold strconv_Atoi.f
     rw [if_pos hs, data_BA, hne]
     rfl
   have hp : parse 0 l = none := by
     have : parseNum l = none := by
       unfold parseNum
       rw [hne]
       exact if_neg (fun h => dec_ne _ h.2)
     unfold parse
     rw [this]
     rfl
   rw [hp]
   refine Ev.call ha ?_
   exact Ev.neg (by simp) (Ev.now _)
 · rcases atoi_digits hall hne with e | ⟨e, hbig⟩
   · have ha : strconv_Atoi.f (BA (l.takeWhile isD)) = some ((valD 0 (l.takeWhile isD) : Int), none) := by
       unfold strconv_Atoi.f
       rw [if_pos hs, data_BA, e]
     refine Ev.call ha ?_
     refine Ev.pos (by first | trivial | rfl) ?_
     by_cases hb : valD 0 (l.takeWhile isD) < 10007
     · refine Ev.neg (by omega) ?_
       have hi : strconv_Itoa.f (valD 0 (l.takeWhile isD) : Int) = some (BA (Lib.decDigits (valD 0 (l.takeWhile isD)))) := by
         unfold strconv_Itoa.f
         rw [if_pos (by omega), if_pos (by omega), itoa_nat]
         rfl
       refine Ev.call hi ?_
       by_cases hq : Lib.decDigits (valD 0 (l.takeWhile isD)) = l.takeWhile isD
       · refine Ev.pos (by rw [toList_BA, toList_BA]; exact hq) (Ev.val ?_)
         have : parseNum l = some (valD 0 (l.takeWhile isD), l.dropWhile isD) := if_pos ⟨hb, hq⟩
         unfold parse
         rw [this]
         rfl
       · refine Ev.neg (by rw [toList_BA, toList_BA]; exact hq) (Ev.val ?_)
         have : parseNum l = none := if_neg (fun h => hq h.2)
         unfold parse
         rw [this]
         rfl
     · refine Ev.pos (by omega) (Ev.val ?_)
       have : parseNum l = none := if_neg (fun h => hb h.1)
       unfold parse
       rw [this]
       rfl
   · have ha : strconv_Atoi.f (BA (l.takeWhile isD)) = some (Lib.atoiSat (l.takeWhile isD), some 0) := by
       unfold strconv_Atoi.f
       rw [if_pos hs, data_BA, e]
     refine Ev.call ha ?_
     refine Ev.neg (by simp) (Ev.val ?_)
     have : parseNum l = none := if_neg (fun h => absurd h.1 (by omega))
     unfold parse
     rw [this]
     rfl
theorem readArr_l0 (l : By) (hl : l.length ≤ 1000000) : ∀ (n i : Nat), l.length - i = n → i ≤ l.length → (l.take i).all isD = true → Ev (fun k => impl_readArr.l0 k (BA l) (i : Int)) (resA 0 (parse 0 l)) := by
 intro n
 induction n with
 | zero =>
   intro i h hi hall
   obtain ⟨h1, _⟩ := take_split i hall (fun x => by omega)
   have he : (l.takeWhile isD).length = i := by rw [h1, List.length_take]; omega
   refine Ev.step' ?_; simp only [impl_readArr.l0]
   refine Ev.neg (by rw [BA_size]; omega) ?_
   rw [← he]
   exact readArr_j1 l hl
 | succ n ih =>
   intro i h hi hall
   have hlt : i < l.length := by omega
   refine Ev.step' ?_; simp only [impl_readArr.l0]
   refine Ev.pos (by rw [BA_size]; omega) (Ev.pos (by omega) ?_)
   simp only [bt_at hlt]
   by_cases hd : isD l[i] = true
   · obtain ⟨h1, h2⟩ := (isD_iff _).1 hd
     refine Ev.pos (by omega) (Ev.pos (by omega) ?_)
     rw [wrapS (by omega) (by omega)]
     exact ih (i + 1) (by omega) (by omega) (by rw [List.take_succ_eq_append_getElem hlt, List.all_append, hall]; simp [hd])
   · have hd' : isD l[i] = false := by simpa using hd
     obtain ⟨h1, _⟩ := take_split i hall (fun x => hd')
     have he : (l.takeWhile isD).length = i := by rw [h1, List.length_take]; omega
     have hj := readArr_j1 l hl
     rw [he] at hj
     by_cases h1 : (48 : Int) ≤ (l[i].toNat : Int)
     · refine Ev.pos h1 (Ev.neg ?_ hj)
       intro h2
       exact hd ((isD_iff _).2 ⟨by omega, by omega⟩)
     · exact Ev.neg h1 hj
theorem readArr_zero (l : By) (hl : l.length ≤ 1000000) : Ev (fun k => impl_readArr.f k (BA l) 0) (resA 0 (parse 0 l)) := by
 refine Ev.step' ?_; simp only [impl_readArr.f]
 exact Ev.pos (by first | trivial | rfl) (readArr_l0 l hl _ 0 rfl (by omega) rfl)


theorem parse_nil : ∀ d, parse d [] = none
 | 0 => by
   unfold parse
   have : parseNum [] = none := if_neg (fun h => dec_ne _ h.2)
   rw [this]
   rfl
 | d + 1 => rfl
theorem parse_93 : ∀ d (t : By), parse d (93 :: t) = none
 | 0, t => by
   unfold parse
   have : parseNum (93 :: t) = none := if_neg (fun h => dec_ne _ (h.2.trans (by simp [isD])))
   rw [this]
   rfl
 | d + 1, t => by
   unfold parse
   simp
theorem parse_len {d : Nat} {l : By} {v : Tr} {r : By} (h : parse d l = some (v, r)) : r.length ≤ l.length := by
 have := congrArg List.length (parse_sound d l v r h).1
 rw [List.length_append] at this
 omega
theorem BA_nil : BA [] = (⟨#[]⟩ : ByteArray) := rfl
theorem BA_tail (c : UInt8) (t : By) : (BA (c :: t)).extract 1 (BA (c :: t)).size = BA t := by
 rw [BA_extract]
 simp
theorem bt_zero (c : UInt8) (t : By) : bt (BA (c :: t)) 0 = (c.toNat : Int) := bt_BA _ _
theorem toNat_ne {c : UInt8} {n : Nat} (h : c ≠ UInt8.ofNat n) (hn : n < 256) : ((c.toNat : Int)) ≠ (n : Int) := by
 intro e
 apply h
 apply UInt8.toNat.inj
 rw [UInt8.toNat_ofNat']
 omega
/-- .. and what is left of the parts, at the loop's head. -/
def resL (d : Nat) (acc : List NA) : Option (List Tr × By) → RA
 | none => badA
 | some (vs, r) => (0, acc ++ vs.map (cA d), BA r, true)
theorem readArr_l1 (d : Nat) (hd : d ≤ 1000) (hf : ∀ l : By, l.length ≤ 1000000 → Ev (fun k => impl_readArr.f k (BA l) (d : Int)) (resA d (parse d l))) :
   ∀ (n : Nat) (l : By) (acc : List NA), l.length < n → acc.length + l.length ≤ 1000000 → (acc ≠ [] ∨ ∀ t, l ≠ 93 :: t) → Ev (fun k => impl_readArr.l1 k (BA l) ((d + 1 : Nat) : Int) 0 acc) (resL d acc (parseL (parse d) n l)) := by
 intro n
 induction n with
 | zero => intro l acc h; omega
 | succ n ih =>
   intro l acc hn hb hcase
   have hbad : Ev (fun k => impl_readArr.j5 k ((d + 1 : Nat) : Int) (BA []) true 0 acc 0 []) badA := by
     refine Ev.step' ?_; simp only [impl_readArr.j5]
     exact Ev.pos (by first | trivial | rfl) (Ev.now _)
   have hbad2 : ∀ (x : ByteArray) (m : Int) (ps : List NA), Ev (fun k => impl_readArr.j5 k ((d + 1 : Nat) : Int) x true 0 acc m ps) badA := by
     intro x m ps
     refine Ev.step' ?_; simp only [impl_readArr.j5]
     exact Ev.pos (by first | trivial | rfl) (Ev.now _)
   have hj4 : l ≠ [] → Ev (fun k => impl_readArr.j4 k (BA l) ((d + 1 : Nat) : Int) true 0 acc) (resL d acc (parseL (parse d) (n + 1) l)) := by
     intro hne
     refine Ev.step' ?_; simp only [impl_readArr.j4]
     refine Ev.pos (by first | trivial | rfl) ?_
     rw [show wrap64 (((d + 1 : Nat) : Int) - 1) = (d : Int) by rw [wrapS (by omega) (by omega)]; omega]
     refine Ev.bind (hf l (by omega)) ?_
     unfold parseL
     cases hp : parse d l with
     | none => exact Ev.neg (by simp [resA, badA]) (hbad2 _ _ _)
     | some q =>
       obtain ⟨v, r⟩ := q
       have hr := parse_len hp
       refine Ev.pos (by first | trivial | rfl) ?_
       cases r with
       | nil => exact Ev.pos (toList_BA []) (hbad2 _ _ _)
       | cons c r' =>
         simp only [List.length_cons] at hr
         have hj5 : ∀ b : Bool, b = false → (c = 44 ∨ c = 93) → Ev (fun k => impl_readArr.j5 k ((d + 1 : Nat) : Int) (BA (c :: r')) b 0 acc (cA d v).f0 (cA d v).f1) (if c = 93 then (0, acc ++ [cA d v], BA r', true) else resL d (acc ++ [cA d v]) (parseL (parse d) n r')) := by
           intro b hb0 hc
           subst hb0
           refine Ev.step' ?_; simp only [impl_readArr.j5]
           refine Ev.neg (by simp) (Ev.pos (by omega) ?_)
           refine Ev.call (a := acc ++ [cA d v]) (by rw [mkA]) ?_
           refine Ev.pos (by simp <;> omega) ?_
           by_cases h93 : c = 93
           · subst h93
             rw [if_pos rfl]
             refine Ev.pos (bt_zero _ _) (Ev.pos (by simp <;> omega) (Ev.val ?_))
             rw [BA_tail]
           · rw [if_neg h93]
             refine Ev.neg (by rw [bt_zero]; exact toNat_ne (n := 93) h93 (by omega)) (Ev.pos (by simp <;> omega) ?_)
             rw [BA_tail]
             exact ih r' _ (by omega) (by simp <;> omega) (.inl (by simp))
         refine Ev.neg (by show ¬ (BA (c :: r')).toList = []; rw [toList_BA]; simp) (Ev.pos (by show (0 : Int) < ((BA (c :: r')).size : Int); simp <;> omega) ?_)
         have hb0 : bt (resA d (some (v, c :: r'))).2.2.1 0 = (c.toNat : Int) := bt_zero _ _
         by_cases h44 : c = 44
         · subst h44
           refine Ev.pos (bt_zero _ _) (evIs (hj5 false rfl (.inl rfl)) ?_)
           simp only [if_true]
           rw [if_neg (by decide)]
           cases parseL (parse d) n r' with
           | none => rfl
           | some q => simp [resL]
         · refine Ev.neg (by rw [hb0]; exact toNat_ne (n := 44) h44 (by omega)) ?_
           by_cases h93 : c = 93
           · subst h93
             refine evIs (hj5 _ (by rw [hb0]; rfl) (.inr rfl)) ?_
             simp [resL]
           · have e : (bt (resA d (some (v, c :: r'))).2.2.1 0 != 93) = true := by
               rw [hb0]
               simpa using toNat_ne (n := 93) h93 (by omega)
             rw [e]
             refine evIs (hbad2 _ _ _) ?_
             simp [h44, h93, resL]
   refine Ev.step' ?_; simp only [impl_readArr.l1]
   cases l with
   | nil =>
     refine Ev.pos (toList_BA []) ?_
     refine Ev.step' ?_; simp only [impl_readArr.j4]
     refine Ev.neg (by simp) (Ev.pos (toList_BA []) (Ev.val ?_))
     unfold parseL
     rw [parse_nil]
     rfl
   | cons c t =>
     refine Ev.neg (by rw [toList_BA]; simp) (Ev.pos (by simp <;> omega) ?_)
     by_cases h93 : c = 93
     · subst h93
       refine Ev.pos (bt_zero _ _) ?_
       rcases hcase with hacc | hh
       · have hpos : 0 < acc.length := List.length_pos_iff.2 hacc
         rw [show decide ((acc.length : Int) > 0) = true by simp; exact hpos]
         exact hj4 (by simp)
       · exact absurd rfl (hh t)
     · refine Ev.neg (by rw [bt_zero]; exact toNat_ne (n := 93) h93 (by omega)) (hj4 (by simp))
theorem readArr_is : ∀ (d : Nat), d ≤ 1000 → ∀ l : By, l.length ≤ 1000000 → Ev (fun k => impl_readArr.f k (BA l) (d : Int)) (resA d (parse d l))
 | 0, _, l, hl => readArr_zero l hl
 | d + 1, hd, l, hl => by
   have ih := readArr_is d (by omega)
   refine Ev.step' ?_; simp only [impl_readArr.f]
   refine Ev.neg (by omega) ?_
   have hj2 : ∀ x : ByteArray, Ev (fun k => impl_readArr.j2 k x ((d + 1 : Nat) : Int) true) badA := by
     intro x
     refine Ev.step' ?_; simp only [impl_readArr.j2]
     exact Ev.pos (by first | trivial | rfl) (Ev.now _)
   cases l with
   | nil => exact Ev.pos (toList_BA []) (hj2 _)
   | cons c t =>
     refine Ev.neg (by rw [toList_BA]; simp) (Ev.pos (by simp <;> omega) ?_)
     by_cases h91 : c = 91
     · subst h91
       rw [show (bt (BA (91 :: t)) 0 != 91) = false by rw [bt_zero]; rfl]
       refine Ev.step' ?_; simp only [impl_readArr.j2]
       refine Ev.neg (by simp) (Ev.pos (by simp <;> omega) ?_)
       rw [BA_tail]
       simp only [List.length_cons] at hl
       cases t with
       | nil =>
         refine evIs (readArr_l1 d (by omega) ih 1 [] [] (by simp) (by simp) (.inr (by simp))) ?_
         unfold parse parseL
         rw [parse_nil]
         rfl
       | cons c' t' =>
         by_cases h93 : c' = 93
         · subst h93
           refine Ev.step' ?_; simp only [impl_readArr.l1]
           refine Ev.neg (by rw [toList_BA]; simp) (Ev.pos (by simp <;> omega) (Ev.pos (bt_zero _ _) ?_))
           rw [show decide ((([] : List NA).length : Int) > 0) = false from rfl]
           refine Ev.step' ?_; simp only [impl_readArr.j4]
           refine Ev.neg (by simp) (Ev.neg (by rw [toList_BA]; simp) (Ev.pos (by simp <;> omega) (Ev.val ?_)))
           rw [BA_tail]
           rfl
         · refine evIs (readArr_l1 d (by omega) ih _ (c' :: t') [] (Nat.lt_succ_self _) (by simp only [List.length_cons, List.length_nil] at hl ⊢; omega) (.inr (by intro t e; exact h93 (List.cons.inj e).1))) ?_
           unfold parse
           simp only [if_true, if_neg h93]
           cases parseL (parse d) ((c' :: t').length + 1) (c' :: t') with
           | none => rfl
           | some q => rfl
     · rw [show (bt (BA (c :: t)) 0 != 91) = true by rw [bt_zero]; simpa using toNat_ne (n := 91) h91 (by omega)]
       refine evIs (hj2 _) ?_
       unfold parse
       simp only [if_neg h91]
       rfl

/-! ### spec's reader -/
theorem drop_split {s : By} {p : Nat} (h : p < s.length) : s.drop p = s[p] :: s.drop (p + 1) := List.drop_eq_getElem_cons h
theorem valD_ltP : ∀ (l : By) (p a b : Nat), p = 10 ^ l.length → l.all isD = true → a < b → valD a l < b * p
 | [], p, a, b, hp, _, h => by
   have hp1 : p = 1 := hp
   have : valD a [] = a := rfl
   rw [this, hp1, Nat.mul_one]
   exact h
 | c :: r, p, a, b, hp, hall, h => by
   simp only [List.all_cons, Bool.and_eq_true] at hall
   have hc := (isD_iff _).1 hall.1
   have h1 := valD_ltP r (10 ^ r.length) (a * 10 + (c.toNat - 48)) (b * 10) rfl hall.2 (by omega)
   have h2 : p = 10 ^ r.length * 10 := hp
   have h4 : valD a (c :: r) = valD (a * 10 + (c.toNat - 48)) r := rfl
   generalize 10 ^ r.length = q at *
   rw [h4, h2, Nat.mul_comm q 10, ← Nat.mul_assoc]
   exact h1
theorem valD_lt (l : By) (a b : Nat) (hall : l.all isD = true) (h : a < b) : valD a l < b * 10 ^ l.length := valD_ltP l _ a b rfl hall h
theorem l13Num_l0 (ds : By) (hall : ds.all isD = true) (hl : ds.length ≤ 17) : ∀ (n i : Nat), ds.length - i = n → i ≤ ds.length → Ev (fun k => spec_l13Num.l0 k (BA ds) false (valD 0 (ds.take i) : Int) (i : Int)) ((valD 0 ds : Int), true) := by
 intro n
 induction n with
 | zero =>
   intro i h hi
   refine Ev.step' ?_; simp only [spec_l13Num.l0]
   refine Ev.neg (by simp <;> omega) (Ev.neg (by simp) (Ev.val ?_))
   rw [List.take_of_length_le (by omega)]
 | succ n ih =>
   intro i h hi
   have hlt : i < ds.length := by omega
   have hd : isD ds[i] = true := List.all_eq_true.1 hall _ (List.getElem_mem hlt)
   have hc := (isD_iff _).1 hd
   refine Ev.step' ?_; simp only [spec_l13Num.l0]
   simp only [bt_at hlt]
   refine Ev.pos (by simp <;> omega) (Ev.pos (by omega) (Ev.neg (by omega) (Ev.neg (by omega) ?_)))
   have hv : valD 0 (ds.take i) < 1 * 10 ^ (ds.take i).length := valD_lt _ _ _ (by
     rw [List.all_eq_true] at hall ⊢
     intro x hx
     exact hall x (List.mem_of_mem_take hx)) (by omega)
   have hpow : 10 ^ (ds.take i).length ≤ 10 ^ 17 := Nat.pow_le_pow_right (by omega) (by rw [List.length_take]; omega)
   have hv2 : valD 0 (ds.take i) < 100000000000000000 := by
     generalize 10 ^ (ds.take i).length = q at *
     omega
   have e1 : wrap64 (wrap64 ((valD 0 (ds.take i) : Int) * 10) + ((ds[i].toNat : Int) - 48) % 256) = (valD 0 (ds.take (i + 1)) : Int) := by
     rw [List.take_succ_eq_append_getElem hlt, valD_append, valD_one, wrapS (a := (valD 0 (ds.take i) : Int) * 10) (by omega) (by omega), wrapS (by omega) (by omega)]
     omega
   rw [e1, wrapS (by omega) (by omega)]
   exact ih (i + 1) (by omega) (by omega)
theorem l13_is (ds : By) (hall : ds.all isD = true) (hl : ds.length ≤ 17) : Ev (fun k => spec_l13Num.f k (BA ds)) (if Lib.decDigits (valD 0 ds) = ds then ((valD 0 ds : Int), true) else (0, false)) := by
 have hj2 : ∀ x : ByteArray, Ev (fun k => spec_l13Num.j2 k x false true) (0, false) := by
   intro x
   refine Ev.step' ?_; simp only [spec_l13Num.j2]
   exact Ev.pos (by first | trivial | rfl) (Ev.now _)
 unfold spec_l13Num.f
 cases ds with
 | nil =>
   refine Ev.neg (by simp) ?_
   refine Ev.step' ?_; simp only [spec_l13Num.j0]
   refine Ev.neg (by simp) ?_
   refine Ev.step' ?_; simp only [spec_l13Num.j1]
   refine Ev.pos (by simp) (evIs (hj2 _) ?_)
   rw [if_neg (dec_ne _)]
 | cons c r =>
   have hd : isD c = true := by
     simp only [List.all_cons, Bool.and_eq_true] at hall
     exact hall.1
   have hc := (isD_iff _).1 hd
   simp only [List.length_cons] at hl
   refine Ev.pos (by simp <;> omega) (Ev.pos (by simp <;> omega) ?_)
   rw [show (bt (BA (c :: r)) 0 == 45) = false by rw [bt_zero]; simp; omega]
   refine Ev.step' ?_; simp only [spec_l13Num.j0]
   refine Ev.neg (by simp) ?_
   refine Ev.step' ?_; simp only [spec_l13Num.j1]
   refine Ev.neg (by simp <;> omega) (Ev.neg (by simp <;> omega) (Ev.pos (by simp <;> omega) ?_))
   have hj2f : (c ≠ 48 ∨ r = []) → Ev (fun k => spec_l13Num.j2 k (BA (c :: r)) false false) (if Lib.decDigits (valD 0 (c :: r)) = c :: r then ((valD 0 (c :: r) : Int), true) else (0, false)) := by
     intro h
     refine Ev.step' ?_; simp only [spec_l13Num.j2]
     refine Ev.neg (by simp) (evIs (l13Num_l0 (c :: r) hall (by simp only [List.length_cons]; omega) _ 0 rfl (by omega)) ?_)
     rw [if_pos ((dec_val_iff hall).2 ⟨c, r, rfl, h⟩)]
   by_cases h48 : c = 48
   · subst h48
     refine Ev.pos (bt_zero _ _) ?_
     by_cases hr : r = []
     · subst hr
       exact Ev.neg (by simp) (hj2f (.inr rfl))
     · have := List.length_pos_iff.2 hr
       refine Ev.pos (by simp <;> omega) (evIs (hj2 _) ?_)
       rw [if_neg]
       intro h
       obtain ⟨c', r', e, h1⟩ := (dec_val_iff hall).1 h
       obtain ⟨rfl, rfl⟩ := List.cons.inj e
       rcases h1 with h1 | h1
       · exact h1 rfl
       · exact hr h1
   · exact Ev.neg (by rw [bt_zero]; exact toNat_ne (n := 48) h48 (by omega)) (hj2f (.inl h48))

abbrev RS := Int × List NS × ByteArray × Int × Bool
def OutS (d : Nat) (s : By) : Option (Tr × By) → RS → Prop
 | none, res => res.2.2.2.2 = true
 | some (v, r), res => res = ((cS d v).f0, (cS d v).f1, BA s, ((s.length - r.length : Nat) : Int), false)
theorem inN_is (n a b : Int) : spec_l1In.f n a b = some (decide (a ≤ n ∧ n ≤ b)) := by
 unfold spec_l1In.f
 by_cases h1 : a ≤ n
 · by_cases h2 : n ≤ b <;> simp [h1, h2]
 · simp [h1]
theorem number_end (x : ByteArray) (a b : Nat) (hab : a ≤ b) (hb : b ≤ x.size) (q : Int × Bool) (hq : Ev (fun k => spec_l13Num.f k (x.extract a b)) q) :
   Ev (fun k => if 0 ≤ (a : Int) then (if (a : Int) ≤ (b : Int) then (if (b : Int) ≤ (x.size : Int) then ((spec_l13Num.f k (x.extract (a : Int).toNat (b : Int).toNat)).bind fun bt152 => (if (false = true) then (some (bt152.1, x, (b : Int), true)) else (if bt152.2 = true then ((spec_l1In.f bt152.1 0 10006).bind fun t154 => (some (bt152.1, x, (b : Int), !t154))) else (some (bt152.1, x, (b : Int), true))))) else (none)) else (none)) else (none)) (q.1, x, (b : Int), false || !q.2 || !(decide (0 ≤ q.1) && decide (q.1 ≤ 10006))) := by
 refine Ev.pos (by omega) (Ev.pos (by omega) (Ev.pos (by omega) (Ev.bind hq (Ev.neg (by simp) ?_))))
 by_cases h : q.2 = true
 · refine Ev.pos h ?_
   rw [inN_is]
   refine Ev.val ?_
   rw [h]
   simp only [Bool.false_or, Bool.not_true, Bool.decide_and]
 · refine Ev.neg h (Ev.val ?_)
   simp [h]
theorem number_l0 (s : By) (p : Nat) (hp : p ≤ s.length) (hs : s.length ≤ 1000000) (J : Nat) (hJ : J = min 6 ((s.drop p).takeWhile isD).length) (q : Int × Bool) (hq : Ev (fun k => spec_l13Num.f k ((BA s).extract p (p + J))) q) : ∀ (n j : Nat), J - j = n → j ≤ J →
   Ev (fun k => spec_l1Reader_number.l0 k (p : Int) (BA s) ((p + j : Nat) : Int) false) (q.1, BA s, ((p + J : Nat) : Int), false || !q.2 || !(decide (0 ≤ q.1) && decide (q.1 ≤ 10006))) := by
 have hcnt : ((s.drop p).takeWhile isD).length ≤ s.length - p := by
   have := congrArg List.length (List.takeWhile_append_dropWhile (p := isD) (l := s.drop p))
   rw [List.length_append, List.length_drop] at this
   omega
 have hdig : ∀ j, (hj : j < ((s.drop p).takeWhile isD).length) → (h : p + j < s.length) → isD s[p + j] = true := by
   intro j hj h
   have h1 : ((s.drop p).takeWhile isD)[j] = s[p + j] := by
     have e : s.drop p = (s.drop p).takeWhile isD ++ (s.drop p).dropWhile isD := List.takeWhile_append_dropWhile.symm
     have h2 : (s.drop p)[j]? = some s[p + j] := by rw [List.getElem?_drop, List.getElem?_eq_getElem h]
     rw [e, List.getElem?_append_left hj, List.getElem?_eq_getElem hj] at h2
     exact Option.some.inj h2
   have := List.all_eq_true.1 (List.all_takeWhile (p := isD) (l := s.drop p)) _ (List.getElem_mem hj)
   rwa [h1] at this
 have hnot : ∀ (h : p + ((s.drop p).takeWhile isD).length < s.length), isD (s[p + ((s.drop p).takeWhile isD).length]'h) = false := by
   intro h
   have e : s.drop p = (s.drop p).takeWhile isD ++ (s.drop p).dropWhile isD := List.takeWhile_append_dropWhile.symm
   have h2 : (s.drop p)[((s.drop p).takeWhile isD).length]? = some (s[p + ((s.drop p).takeWhile isD).length]'h) := by rw [List.getElem?_drop, List.getElem?_eq_getElem h]
   generalize hW : (s.drop p).takeWhile isD = W at *
   have h3 : (W ++ (s.drop p).dropWhile isD)[W.length]? = some (s[p + W.length]'h) := by rw [← e]; exact h2
   rw [List.getElem?_append_right (Nat.le_refl _), Nat.sub_self] at h3
   cases hR : (s.drop p).dropWhile isD with
   | nil => rw [hR] at h3; simp at h3
   | cons c t =>
     rw [hR] at h3
     simp only [List.getElem?_cons_zero, Option.some.injEq] at h3
     rw [← h3]
     have := List.head?_dropWhile_not (p := isD) (l := s.drop p)
     rw [hR] at this
     simpa using this
 intro n
 induction n with
 | zero =>
   intro j h1 h2
   obtain rfl : j = J := by omega
   have hend := number_end (BA s) p (p + j) (by omega) (by rw [BA_size]; omega) q hq
   refine Ev.step' ?_; simp only [spec_l1Reader_number.l0]
   by_cases hlt : p + j < s.length
   · refine Ev.pos (by rw [BA_size]; omega) (Ev.pos (by omega) ?_)
     rw [inN_is, bt_at hlt, wrapS (by have := s[p + j].toNat_lt; omega) (by have := s[p + j].toNat_lt; omega)]
     by_cases h6 : ((s.drop p).takeWhile isD).length ≤ 6
     · obtain rfl : j = ((s.drop p).takeWhile isD).length := by omega
       have := hnot hlt
       refine Ev.bind (Ev.now _) (Ev.neg ?_ hend)
       rw [decide_eq_true_eq]
       intro hh
       have e : isD (s[p + ((s.drop p).takeWhile isD).length]'hlt) = true := (isD_iff _).2 ⟨by omega, by omega⟩
       rw [this] at e
       cases e
     · by_cases hd : (48 : Int) ≤ (s[p + j].toNat : Int) ∧ (s[p + j].toNat : Int) ≤ 57
       · refine Ev.bind (Ev.now _) (Ev.pos (by rw [decide_eq_true_eq]; exact hd) (Ev.neg ?_ hend))
         rw [wrapS (by omega) (by omega)]
         omega
       · exact Ev.bind (Ev.now _) (Ev.neg (by rw [decide_eq_true_eq]; exact hd) hend)
   · exact Ev.neg (by rw [BA_size]; omega) hend
 | succ n ih =>
   intro j h1 h2
   have hlt : p + j < s.length := by omega
   have hd := (isD_iff _).1 (hdig j (by omega) hlt)
   have hnext := ih (j + 1) (by omega) (by omega)
   refine Ev.step' ?_; simp only [spec_l1Reader_number.l0]
   refine Ev.pos (by rw [BA_size]; omega) (Ev.pos (by omega) ?_)
   rw [inN_is, bt_at hlt, wrapS (by omega) (by omega)]
   refine Ev.bind (Ev.now _) (Ev.pos (by rw [decide_eq_true_eq]; omega) (Ev.pos ?_ ?_))
   · rw [wrapS (by omega) (by omega)]
     omega
   · rw [show wrap64 (((p + j : Nat) : Int) + 1) = ((p + (j + 1) : Nat) : Int) by rw [wrapS (by omega) (by omega)]; omega]
     exact hnext
theorem number_is (s : By) (p : Nat) (hp : p ≤ s.length) (hs : s.length ≤ 1000000) :
   ∃ res : Int × ByteArray × Int × Bool, Ev (fun k => spec_l1Reader_number.f k (BA s) (p : Int) false) res ∧ OutS 0 s (parse 0 (s.drop p)) (res.1, [], res.2.1, res.2.2.1, res.2.2.2) := by
 have hcnt : ((s.drop p).takeWhile isD).length + ((s.drop p).dropWhile isD).length = s.length - p := by
   have := congrArg List.length (List.takeWhile_append_dropWhile (p := isD) (l := s.drop p))
   rw [List.length_append, List.length_drop] at this
   exact this
 have hall : ((s.drop p).takeWhile isD).all isD = true := List.all_takeWhile
 have hx : (BA s).extract p (p + min 6 ((s.drop p).takeWhile isD).length) = BA (((s.drop p).takeWhile isD).take 6) := by
   rw [BA_extract]
   congr 1
   have e : s.drop p = (s.drop p).takeWhile isD ++ (s.drop p).dropWhile isD := List.takeWhile_append_dropWhile.symm
   generalize hW : (s.drop p).takeWhile isD = W at *
   generalize hR : (s.drop p).dropWhile isD = R at *
   rw [e, show p + min 6 W.length - p = min 6 W.length by omega, List.take_append_of_le_length (by omega)]
   by_cases h6 : 6 ≤ W.length
   · rw [show min 6 W.length = 6 by omega]
   · rw [List.take_of_length_le (by omega), List.take_of_length_le (by omega)]
 have hall6 : (((s.drop p).takeWhile isD).take 6).all isD = true := by
   rw [List.all_eq_true] at hall ⊢
   intro x hx
   exact hall x (List.mem_of_mem_take hx)
 have hE : ∀ q : Int × Bool, q = (if Lib.decDigits (valD 0 (((s.drop p).takeWhile isD).take 6)) = ((s.drop p).takeWhile isD).take 6 then ((valD 0 (((s.drop p).takeWhile isD).take 6) : Int), true) else (0, false)) →
     Ev (fun k => spec_l1Reader_number.f k (BA s) (p : Int) false) (q.1, BA s, ((p + min 6 ((s.drop p).takeWhile isD).length : Nat) : Int), false || !q.2 || !(decide (0 ≤ q.1) && decide (q.1 ≤ 10006))) := by
   intro q hq
   subst hq
   have hl := l13_is _ hall6 (by rw [List.length_take]; omega)
   rw [← hx] at hl
   unfold spec_l1Reader_number.f
   exact number_l0 s p hp hs _ rfl _ hl _ 0 rfl (Nat.zero_le _)
 refine ⟨_, hE _ rfl, ?_⟩
 · unfold parse parseNum
   generalize hW : (s.drop p).takeWhile isD = W at *
   generalize hR : (s.drop p).dropWhile isD = R at *
   by_cases h6 : W.length ≤ 6
   · rw [List.take_of_length_le h6]
     by_cases hdec : Lib.decDigits (valD 0 W) = W
     · by_cases hv : valD 0 W < 10007
       · rw [if_pos ⟨hv, hdec⟩, if_pos hdec]
         show _ = _
         simp only [cS, Prod.mk.injEq, true_and, Bool.false_or]
         refine ⟨by omega, ?_⟩
         simp
         omega
       · rw [if_neg (fun h => hv h.1), if_pos hdec]
         show _ = _
         simp
         omega
     · rw [if_neg (fun h => hdec h.2), if_neg hdec]
       rfl
   · have hnone : ¬ (valD 0 W < 10007 ∧ Lib.decDigits (valD 0 W) = W) := by
       rintro ⟨hv, hdec⟩
       obtain ⟨c, r, e, h1⟩ := (dec_val_iff hall).1 hdec
       rw [e] at hall hv h6
       simp only [List.all_cons, Bool.and_eq_true] at hall
       simp only [List.length_cons] at h6
       rcases h1 with h1 | h1
       · have := six_big hall.1 h1 (r := r) (by omega)
         omega
       · rw [h1] at h6
         simp at h6
     rw [if_neg hnone]
     show _ = _
     split
     · next hdec =>
       obtain ⟨c, r, e, h1⟩ := (dec_val_iff hall6).1 hdec
       have hl6 : (W.take 6).length = 6 := by rw [List.length_take]; omega
       rw [e] at hall6 hl6 ⊢
       simp only [List.all_cons, Bool.and_eq_true] at hall6
       simp only [List.length_cons] at hl6
       rcases h1 with h1 | h1
       · have := six_big hall6.1 h1 (r := r) (by omega)
         simp
         omega
       · rw [h1] at hl6
         simp at hl6
     · rfl

theorem is_hit {s : By} {p : Nat} {c : UInt8} {t : By} (h : s.drop p = c :: t) (hs : s.length ≤ 1000000) (ch : Int) (e : (c.toNat : Int) = ch) : spec_l1Reader_is.f (BA s) (p : Int) false ch = some (true, BA s, ((p + 1 : Nat) : Int), false) := by
 have hp : p < s.length := by
   rcases Nat.lt_or_ge p s.length with h1 | h1
   · exact h1
   · rw [List.drop_eq_nil_of_le h1] at h; cases h
 rw [drop_split hp] at h
 obtain ⟨rfl, rfl⟩ := List.cons.inj h
 unfold spec_l1Reader_is.f
 rw [if_pos (by rw [BA_size]; omega), if_pos (by omega), bt_at hp, if_pos e, wrapS (by omega) (by omega)]
 rfl
theorem is_miss {s : By} {p : Nat} (ch : Int) (h : ∀ c t, s.drop p = c :: t → (c.toNat : Int) ≠ ch) : spec_l1Reader_is.f (BA s) (p : Int) false ch = some (false, BA s, (p : Int), false) := by
 unfold spec_l1Reader_is.f
 by_cases hp : p < s.length
 · rw [if_pos (by rw [BA_size]; omega), if_pos (by omega), bt_at hp, if_neg (h _ _ (drop_split hp))]
 · rw [if_neg (by rw [BA_size]; omega)]
def tailL (d n : Nat) : By → Option (List Tr × By)
 | [] => none
 | c :: r => if c = 44 then parseL (parse d) n r else if c = 93 then some ([], r) else none
theorem parseL_tail (d n : Nat) (s : By) : parseL (parse d) (n + 1) s = (parse d s).bind fun q => (tailL d n q.2).map fun z => (q.1 :: z.1, z.2) := by
 unfold parseL
 cases parse d s with
 | none => rfl
 | some q =>
   obtain ⟨v, r⟩ := q
   cases r with
   | nil => rfl
   | cons c r =>
     simp only [tailL, Option.bind_some]
     by_cases h44 : c = 44
     · subst h44
       rfl
     · rw [if_neg h44, if_neg h44]
       by_cases h93 : c = 93
       · rw [if_pos h93, if_pos h93]; rfl
       · rw [if_neg h93, if_neg h93]; rfl
def OutL (d : Nat) (s : By) (acc : List NS) : Option (List Tr × By) → RS → Prop
 | none, res => res.2.2.2.2 = true
 | some (vs, r), res => res = (0, acc ++ vs.map (cS d), BA s, ((s.length - r.length : Nat) : Int), false)
/-- What holds of each text at a depth. -/
def NodeIs (d : Nat) : Prop := ∀ (s : By) (p : Nat), p ≤ s.length → s.length ≤ 1000000 → ∃ res, Ev (fun k => spec_l1Reader_node.f k (BA s) (p : Int) false (d : Int)) res ∧ OutS d s (parse d (s.drop p)) res
theorem node_bad (x1 m : Int) (x : ByteArray) (y : Int) (ps : List NS) : Ev (fun k => spec_l1Reader_node.l0 k x1 x y true m ps) (m, ps, x, y, true) := by
 refine Ev.step' ?_; simp only [spec_l1Reader_node.l0]
 exact Ev.pos (by first | trivial | rfl) (Ev.now _)
theorem node_l0 (d : Nat) (hd : d ≤ 1000) (hf : NodeIs d) (s : By) (hs : s.length ≤ 1000000) : ∀ (n p : Nat) (acc : List NS), p ≤ s.length → (s.drop p).length ≤ n → acc.length + (s.drop p).length ≤ 1000000 →
   ∃ res, Ev (fun k => spec_l1Reader_node.l0 k ((d + 1 : Nat) : Int) (BA s) (p : Int) false 0 acc) res ∧ OutL d s acc (tailL d n (s.drop p)) res := by
 intro n
 induction n with
 | zero =>
   intro p acc hp hn hb
   have hnil : s.drop p = [] := List.length_eq_zero_iff.1 (by omega)
   have hm : ∀ ch, spec_l1Reader_is.f (BA s) (p : Int) false ch = some (false, BA s, (p : Int), false) := fun ch => is_miss ch (by rw [hnil]; intro c t e; cases e)
   refine ⟨(0, acc, BA s, (p : Int), true), ?_, by rw [hnil]; rfl⟩
   refine Ev.step' ?_; simp only [spec_l1Reader_node.l0]
   refine Ev.neg (by simp) (Ev.call (hm 44) (Ev.neg (by simp) (Ev.neg (by simp) (Ev.call (hm 93) (Ev.val rfl)))))
 | succ n ih =>
   intro p acc hp hn hb
   cases hdr : s.drop p with
   | nil =>
     have hm : ∀ ch, spec_l1Reader_is.f (BA s) (p : Int) false ch = some (false, BA s, (p : Int), false) := fun ch => is_miss ch (by rw [hdr]; intro c t e; cases e)
     refine ⟨(0, acc, BA s, (p : Int), true), ?_, rfl⟩
     refine Ev.step' ?_; simp only [spec_l1Reader_node.l0]
     refine Ev.neg (by simp) (Ev.call (hm 44) (Ev.neg (by simp) (Ev.neg (by simp) (Ev.call (hm 93) (Ev.val rfl)))))
   | cons c t =>
     have hp' : p < s.length := by
       rcases Nat.lt_or_ge p s.length with h1 | h1
       · exact h1
       · rw [List.drop_eq_nil_of_le h1] at hdr; cases hdr
     have ht : s.drop (p + 1) = t := by
       have := drop_split hp'
       rw [hdr] at this
       exact (List.cons.inj this).2.symm
     have htl : t.length = s.length - (p + 1) := by rw [← ht, List.length_drop]
     rw [hdr] at hn hb
     simp only [List.length_cons] at hn hb
     by_cases h44 : c = 44
     · subst h44
       obtain ⟨res, h1, h2⟩ := hf s (p + 1) (by omega) hs
       rw [ht] at h2
       have hgo : ∀ res', (Ev (fun k => spec_l1Reader_node.l0 k ((d + 1 : Nat) : Int) res.2.2.1 res.2.2.2.1 res.2.2.2.2 0 (acc ++ [⟨res.1, res.2.1⟩])) res') → Ev (fun k => spec_l1Reader_node.l0 k ((d + 1 : Nat) : Int) (BA s) (p : Int) false 0 acc) res' := by
         intro res' h
         refine Ev.step' ?_; simp only [spec_l1Reader_node.l0]
         refine Ev.neg (by simp) (Ev.call (is_hit hdr hs 44 rfl) (Ev.pos (by first | trivial | rfl) ?_))
         rw [show wrap64 (((d + 1 : Nat) : Int) - 1) = (d : Int) by rw [wrapS (by omega) (by omega)]; omega]
         exact Ev.bind h1 (Ev.pos (by omega) h)
       have htail : tailL d (n + 1) (44 :: t) = (parse d t).bind fun q => (tailL d n q.2).map fun z => (q.1 :: z.1, z.2) := parseL_tail d n t
       rw [htail]
       cases hq : parse d t with
       | none =>
         rw [hq] at h2
         have hb2 : res.2.2.2.2 = true := h2
         refine ⟨(0, acc ++ [⟨res.1, res.2.1⟩], res.2.2.1, res.2.2.2.1, true), hgo _ ?_, rfl⟩
         rw [hb2]
         exact node_bad _ _ _ _ _
       | some q =>
         obtain ⟨v, r⟩ := q
         rw [hq] at h2
         have hres : res = ((cS d v).f0, (cS d v).f1, BA s, ((s.length - r.length : Nat) : Int), false) := h2
         have hr := parse_len hq
         have hdrop : s.drop (s.length - r.length) = r := by
           obtain ⟨e, _⟩ := parse_sound d t v r hq
           have e2 : s = s.take (p + 1) ++ (text d v ++ r) := by rw [← e, ← ht, List.take_append_drop]
           have e3 : s.length - r.length = (s.take (p + 1) ++ text d v).length := by
             have := congrArg List.length e2
             simp only [List.length_append] at this ⊢
             omega
           conv => lhs; arg 2; rw [e2]
           rw [e3, ← List.append_assoc, List.drop_left]
         have hle : r.length ≤ s.length := by omega
         obtain ⟨res', h3, h4⟩ := ih (s.length - r.length) (acc ++ [cS d v]) (by omega) (by rw [hdrop]; omega) (by rw [hdrop]; simp; omega)
         rw [hdrop] at h4
         refine ⟨res', hgo _ ?_, ?_⟩
         · rw [hres]
           simp only [mkS]
           exact h3
         · simp only [Option.bind_some]
           cases hz : tailL d n r with
           | none => rw [hz] at h4; exact h4
           | some z =>
             rw [hz] at h4
             have h4' : res' = _ := h4
             show res' = _
             rw [h4']
             simp
     · have hm : spec_l1Reader_is.f (BA s) (p : Int) false 44 = some (false, BA s, (p : Int), false) := is_miss 44 (by
         rw [hdr]
         intro c' t' e
         rw [← (List.cons.inj e).1]
         exact toNat_ne (n := 44) h44 (by omega))
       by_cases h93 : c = 93
       · subst h93
         refine ⟨(0, acc, BA s, ((p + 1 : Nat) : Int), false), ?_, ?_⟩
         · refine Ev.step' ?_; simp only [spec_l1Reader_node.l0]
           exact Ev.neg (by simp) (Ev.call hm (Ev.neg (by simp) (Ev.neg (by simp) (Ev.call (is_hit hdr hs 93 rfl) (Ev.val rfl)))))
         · show _ = _
           rw [htl, List.map_nil, List.append_nil, show s.length - (s.length - (p + 1)) = p + 1 by omega]
       · refine ⟨(0, acc, BA s, (p : Int), true), ?_, ?_⟩
         · refine Ev.step' ?_; simp only [spec_l1Reader_node.l0]
           exact Ev.neg (by simp) (Ev.call hm (Ev.neg (by simp) (Ev.neg (by simp) (Ev.call (is_miss 93 (by
             rw [hdr]
             intro c' t' e
             rw [← (List.cons.inj e).1]
             exact toNat_ne (n := 93) h93 (by omega))) (Ev.val rfl)))))
         · simp only [tailL, if_neg h44, if_neg h93]
           rfl
theorem drop_rest {s t r u : By} {p : Nat} (ht : s.drop p = t) (e : t = u ++ r) (hp : p ≤ s.length) : s.drop (s.length - r.length) = r ∧ r.length ≤ s.length - p := by
 have e2 : s = s.take p ++ (u ++ r) := by rw [← e, ← ht, List.take_append_drop]
 have e3 : s.length - r.length = (s.take p ++ u).length := by
   have := congrArg List.length e2
   simp only [List.length_append] at this ⊢
   omega
 constructor
 · conv => lhs; arg 2; rw [e2]
   rw [e3, ← List.append_assoc, List.drop_left]
 · have := congrArg List.length e
   rw [← ht, List.length_append, List.length_drop] at this
   omega
theorem node_is : ∀ d, d ≤ 1000 → NodeIs d
 | 0, _ => by
   intro s p hp hs
   obtain ⟨res, h1, h2⟩ := number_is s p hp hs
   refine ⟨(res.1, [], res.2.1, res.2.2.1, res.2.2.2), ?_, h2⟩
   refine Ev.step' ?_; simp only [spec_l1Reader_node.f]
   refine Ev.call (a := ([] : List NS)) rfl (Ev.pos (by first | trivial | rfl) ?_)
   exact Ev.bind h1 (Ev.now _)
 | d + 1, hd => by
   have ih := node_is d (by omega)
   intro s p hp hs
   cases hdr : s.drop p with
   | nil =>
     refine ⟨(0, [], BA s, (p : Int), true), ?_, by rw [parse_nil]; rfl⟩
     refine Ev.step' ?_; simp only [spec_l1Reader_node.f]
     refine Ev.call (a := ([] : List NS)) rfl (Ev.neg (by omega) (Ev.call (is_miss 91 (by rw [hdr]; intro c t e; cases e)) (Ev.neg (by simp) (Ev.val rfl))))
   | cons c t =>
     have hp' : p < s.length := by
       rcases Nat.lt_or_ge p s.length with h1 | h1
       · exact h1
       · rw [List.drop_eq_nil_of_le h1] at hdr; cases hdr
     have ht : s.drop (p + 1) = t := by
       have := drop_split hp'
       rw [hdr] at this
       exact (List.cons.inj this).2.symm
     have htl : t.length = s.length - (p + 1) := by rw [← ht, List.length_drop]
     by_cases h91 : c = 91
     · subst h91
       have hgo : ∀ res, Ev (fun k => (spec_l1Reader_is.f (BA s) ((p + 1 : Nat) : Int) false 93).bind fun bt114 => (if bt114.1 = true then (some (0, ([] : List NS), bt114.2.1, bt114.2.2.1, bt114.2.2.2)) else ((spec_l1Reader_node.f k bt114.2.1 bt114.2.2.1 bt114.2.2.2 (d : Int)).bind fun bt118 => (if ([] : List NS).length < 4398046511104 then (spec_l1Reader_node.l0 k ((d + 1 : Nat) : Int) bt118.2.2.1 bt118.2.2.2.1 bt118.2.2.2.2 0 (([] : List NS) ++ [(⟨bt118.1, bt118.2.1⟩ : NS)])) else (none))))) res →
           Ev (fun k => spec_l1Reader_node.f k (BA s) (p : Int) false ((d + 1 : Nat) : Int)) res := by
         intro res h
         refine Ev.step' ?_; simp only [spec_l1Reader_node.f]
         refine Ev.call (a := ([] : List NS)) rfl (Ev.neg (by omega) (Ev.call (is_hit hdr hs 91 rfl) (Ev.pos (by first | trivial | rfl) ?_)))
         rw [show wrap64 (((d + 1 : Nat) : Int) - 1) = (d : Int) by rw [wrapS (by omega) (by omega)]; omega]
         exact h
       by_cases h93 : ∃ t', t = 93 :: t'
       · obtain ⟨t', rfl⟩ := h93
         simp only [List.length_cons] at htl
         refine ⟨_, hgo _ (Ev.call (is_hit ht hs 93 rfl) (Ev.pos (by first | trivial | rfl) (Ev.now _))), ?_⟩
         have : parse (d + 1) (91 :: 93 :: t') = some (⟨0, []⟩, t') := by unfold parse; simp
         rw [this]
         show _ = _
         rw [show s.length - t'.length = p + 1 + 1 by omega]
         rfl
       · have hm : spec_l1Reader_is.f (BA s) ((p + 1 : Nat) : Int) false 93 = some (false, BA s, ((p + 1 : Nat) : Int), false) := is_miss 93 (by
           rw [ht]
           intro c' t' e e2
           apply h93
           refine ⟨t', ?_⟩
           rw [e]
           congr 1
           apply UInt8.toNat.inj
           have h3 : (93 : UInt8).toNat = 93 := rfl
           omega)
         obtain ⟨res, h1, h2⟩ := ih s (p + 1) (by omega) hs
         rw [ht] at h2
         have hgo2 : ∀ res', (Ev (fun k => spec_l1Reader_node.l0 k ((d + 1 : Nat) : Int) res.2.2.1 res.2.2.2.1 res.2.2.2.2 0 [⟨res.1, res.2.1⟩]) res') → Ev (fun k => spec_l1Reader_node.f k (BA s) (p : Int) false ((d + 1 : Nat) : Int)) res' := by
           intro res' h
           exact hgo _ (Ev.call hm (Ev.neg (by simp) (Ev.bind h1 (Ev.pos (by simp) h))))
         have hpar : parse (d + 1) (91 :: t) = ((parse d t).bind fun q => (tailL d t.length q.2).map fun z => (q.1 :: z.1, z.2)).map fun q => ((⟨0, q.1⟩ : Tr), q.2) := by
           cases t with
           | nil => rw [parse_nil]; rfl
           | cons c' t' =>
             have h93' : c' ≠ 93 := fun e => h93 ⟨t', by rw [e]⟩
             have e0 : parse (d + 1) (91 :: c' :: t') = if c' = 93 then some (⟨0, []⟩, t') else (parseL (parse d) ((c' :: t').length + 1) (c' :: t')).map fun q => (⟨0, q.1⟩, q.2) := rfl
             rw [e0, if_neg h93', parseL_tail]
         rw [hpar]
         cases hq : parse d t with
         | none =>
           rw [hq] at h2
           have hb2 : res.2.2.2.2 = true := h2
           refine ⟨(0, [⟨res.1, res.2.1⟩], res.2.2.1, res.2.2.2.1, true), hgo2 _ ?_, rfl⟩
           rw [hb2]
           exact node_bad _ _ _ _ _
         | some q =>
           obtain ⟨v, r⟩ := q
           rw [hq] at h2
           have hres : res = ((cS d v).f0, (cS d v).f1, BA s, ((s.length - r.length : Nat) : Int), false) := h2
           obtain ⟨hdrop, hle⟩ := drop_rest ht (parse_sound d t v r hq).1 (by omega)
           have hr := parse_len hq
           obtain ⟨res', h3, h4⟩ := node_l0 d (by omega) ih s hs t.length (s.length - r.length) [cS d v] (by omega) (by rw [hdrop]; omega) (by rw [hdrop]; simp; omega)
           rw [hdrop] at h4
           refine ⟨res', hgo2 _ ?_, ?_⟩
           · rw [hres]
             simp only [mkS]
             exact h3
           · simp only [Option.bind_some]
             cases hz : tailL d t.length r with
             | none => rw [hz] at h4; exact h4
             | some z =>
               rw [hz] at h4
               have h4' : res' = _ := h4
               show res' = _
               rw [h4']
               simp [cS]
     · refine ⟨(0, [], BA s, (p : Int), true), ?_, ?_⟩
       · refine Ev.step' ?_; simp only [spec_l1Reader_node.f]
         refine Ev.call (a := ([] : List NS)) rfl (Ev.neg (by omega) (Ev.call (is_miss 91 (by
           rw [hdr]
           intro c' t' e
           rw [← (List.cons.inj e).1]
           exact toNat_ne (n := 91) h91 (by omega))) (Ev.neg (by simp) (Ev.val rfl))))
       · unfold parse
         simp only [if_neg h91]
         rfl

/-! ### the two readings -/
/-- The array that a text stands for. -/
def readD (d : Nat) (l : By) : Option Tr := if l.length ≤ 400 then (match parse d l with | some (v, []) => some v | _ => none) else none
theorem readD_ok {d : Nat} {l : By} {v : Tr} (h : readD d l = some v) : l = text d v ∧ Ok d v ∧ l.length ≤ 400 := by
 unfold readD at h
 split at h
 · next hl =>
   split at h
   · next v' hp =>
     obtain rfl := Option.some.inj h
     obtain ⟨h1, h2⟩ := parse_sound _ _ _ _ hp
     exact ⟨by simpa using h1, h2, hl⟩
   · cases h
 · cases h
theorem readD_text {d : Nat} {v : Tr} (h : Ok d v) (hl : (text d v).length ≤ 400) : readD d (text d v) = some v := by
 unfold readD
 have := parse_complete d v [] h (by intro c l e; cases e)
 rw [List.append_nil] at this
 rw [if_pos hl, this]
def resS (d : Nat) : Option Tr → Int × List NS × Bool
 | none => (0, [], false)
 | some v => ((cS d v).f0, (cS d v).f1, true)
theorem l1Read_is (d : Nat) (hd : d ≤ 3) (l : By) : Ev (fun k => spec_l1Read.f k (BA l) (d : Int)) (resS d (readD d l)) := by
 unfold spec_l1Read.f
 have hin : spec_l1In.f (d : Int) 0 3 = some true := by
   unfold spec_l1In.f
   rw [if_pos (by omega)]
   simp
   omega
 refine Ev.call hin (Ev.pos (by first | trivial | rfl) ?_)
 refine Ev.step' ?_; simp only [spec_l1Read.j0]
 unfold readD
 by_cases hl : l.length ≤ 400
 · rw [if_pos hl]
   refine Ev.neg (by simp; omega) ?_
   obtain ⟨res, h1, h2⟩ := node_is d (by omega) l 0 (by omega) (by omega)
   rw [List.drop_zero] at h2
   refine Ev.bind h1 ?_
   cases hq : parse d l with
   | none =>
     rw [hq] at h2
     exact Ev.pos h2 (Ev.now _)
   | some q =>
     obtain ⟨v, r⟩ := q
     rw [hq] at h2
     have hres : res = ((cS d v).f0, (cS d v).f1, BA l, ((l.length - r.length : Nat) : Int), false) := h2
     subst hres
     have hr := parse_len hq
     refine Ev.neg (by simp) ?_
     cases r with
     | nil => exact Ev.pos (by simp) (Ev.now _)
     | cons c r => exact Ev.neg (by simp only [List.length_cons] at hr ⊢; rw [BA_size]; omega) (Ev.now _)
 · rw [if_neg hl]
   exact Ev.pos (by simp; omega) (Ev.now _)
theorem l1Read_out (d : Int) (hd : d < 0 ∨ 3 < d) (s : ByteArray) : Ev (fun k => spec_l1Read.f k s d) (0, [], false) := by
 unfold spec_l1Read.f
 have hin : spec_l1In.f d 0 3 = some false := by
   unfold spec_l1In.f
   by_cases h0 : d ≥ 0
   · rw [if_pos h0]
     simp
     omega
   · rw [if_neg h0]
 refine Ev.call hin (Ev.neg (by simp) ?_)
 refine Ev.step' ?_; simp only [spec_l1Read.j0]
 exact Ev.pos (by first | trivial | rfl) (Ev.now _)
/-- .. and impl's: beside the sign, parts of some array. -/
theorem arrOf_is (d : Nat) (hd : d ≤ 3) (l : By) : ∃ t, Ev (fun k => impl_arrOf.f k (BA l) (d : Int)) ((cA d t).f0, (cA d t).f1, (readD d l).isSome) ∧ Ok d t ∧ (text d t).length ≤ 402 ∧ ∀ v, readD d l = some v → t = v := by
 have hz : (cA d ⟨0, []⟩).f0 = 0 ∧ (cA d ⟨0, []⟩).f1 = [] ∧ Ok d ⟨0, []⟩ ∧ (text d ⟨0, []⟩).length ≤ 402 := by
   cases d with
   | zero => exact ⟨rfl, rfl, ⟨by show 0 < 10007; omega, rfl⟩, by simp [text, dec_small]⟩
   | succ d => exact ⟨rfl, rfl, ⟨rfl, by intro x hx; cases hx⟩, by simp [text, Lib.join_nil]⟩
 obtain ⟨z1, z2, z3, z4⟩ := hz
 unfold impl_arrOf.f readD
 by_cases hl : l.length ≤ 400
 · rw [if_pos hl]
   have hr := readArr_is d (by omega) l (by omega)
   cases hq : parse d l with
   | none =>
     rw [hq] at hr
     refine ⟨⟨0, []⟩, ?_, z3, z4, by simp⟩
     refine Ev.neg (by omega) (Ev.neg (by omega) (Ev.neg (by rw [BA_size]; omega) (Ev.bind hr (Ev.neg (by simp [resA, badA]) (Ev.val ?_)))))
     rw [z1, z2]
     rfl
   | some q =>
     obtain ⟨v, r⟩ := q
     rw [hq] at hr
     obtain ⟨h1, h2⟩ := parse_sound _ _ _ _ hq
     refine ⟨v, ?_, h2, ?_, ?_⟩
     · refine Ev.neg (by omega) (Ev.neg (by omega) (Ev.neg (by rw [BA_size]; omega) (Ev.bind hr (Ev.pos (by first | trivial | rfl) (Ev.val ?_)))))
       simp only [resA, toList_BA]
       cases r <;> rfl
     · have := congrArg List.length h1
       rw [List.length_append] at this
       omega
     · intro v' hv
       cases r with
       | nil => exact Option.some.inj hv
       | cons c r => cases hv
 · rw [if_neg hl]
   refine ⟨⟨0, []⟩, ?_, z3, z4, by simp⟩
   refine Ev.neg (by omega) (Ev.neg (by omega) (Ev.pos (by rw [BA_size]; omega) (Ev.val ?_)))
   rw [z1, z2]
   rfl
theorem arrOf_out (d : Int) (hd : d < 0 ∨ 3 < d) (s : ByteArray) : Ev (fun k => impl_arrOf.f k s d) (0, [], false) := by
 unfold impl_arrOf.f
 by_cases h0 : d < 0
 · exact Ev.pos h0 (Ev.now _)
 · exact Ev.neg h0 (Ev.pos (by omega) (Ev.now _))
end Go.Proofs.YtidpankoobdfjaaGreatDoor.K
namespace Go.Proofs.YtidpankoobdfjaaGreatDoor.K
open Go.RowKit Go.Proofs.YtidpankoobdfjaaGreatDoorW.PrintWords Go.Proofs.YtidpankoobdfjaaGreatDoorW.PrintLast Go.Proofs.YtidpankoobdfjaaGreatDoorW.PrintMore Go.Proofs.YtidpankoobdfjaaGreatDoor.Q
set_option linter.unusedSimpArgs false
set_option linter.unusedVariables false

theorem strOne (m : Nat) (h : m < 256) : strOfNums [(m : Int)] = BA [UInt8.ofNat m] := by
 unfold strOfNums BA
 simp
theorem l13Dec_l0 : ∀ (n : Nat) (suf : By), n < 1000000000000000000 → suf.length ≤ 100 → Ev (fun k => spec_l13Dec.l0 k (n : Int) (BA suf)) (BA (Lib.decDigits n ++ suf)) := by
 have main : ∀ (b n : Nat) (suf : By), n < 10 ^ b → b ≤ 18 → suf.length + b ≤ 118 → Ev (fun k => spec_l13Dec.l0 k (n : Int) (BA suf)) (BA (Lib.decDigits n ++ suf)) := by
   intro b
   induction b with
   | zero =>
     intro n suf hn hb hs
     have hn1 : n < 1 := hn
     have : n = 0 := by omega
     subst this
     refine Ev.step' ?_; simp only [spec_l13Dec.l0]
     have e : (wrap64 (48 + ((0 : Nat) : Int))) % 256 = ((48 + 0 : Nat) : Int) := by
       rw [wrapS (by omega) (by omega)]
       omega
     refine Ev.neg (by omega) ?_
     rw [e]
     refine Ev.call (a := [((48 + 0 : Nat) : Int)]) rfl (Ev.pos (by rw [strOne _ (by omega), BA_size, BA_size]; simp; omega) (Ev.val ?_))
     rw [strOne _ (by omega), BA_append, dec_small (by omega)]
   | succ b ih =>
     intro n suf hn hb hs
     refine Ev.step' ?_; simp only [spec_l13Dec.l0]
     have hpow : 10 ^ (b + 1) ≤ 10 ^ 18 := Nat.pow_le_pow_right (by omega) hb
     have hnb : n < 1000000000000000000 := by
       have : (10 ^ 18 : Nat) = 1000000000000000000 := by decide
       omega
     by_cases h9 : n < 10
     · have e : (wrap64 (48 + (n : Int))) % 256 = ((48 + n : Nat) : Int) := by
         rw [wrapS (by omega) (by omega)]
         omega
       refine Ev.neg (by omega) ?_
       rw [e]
       refine Ev.call (a := [((48 + n : Nat) : Int)]) rfl (Ev.pos (by rw [strOne _ (by omega), BA_size, BA_size]; simp; omega) (Ev.val ?_))
       rw [strOne _ (by omega), BA_append, dec_small h9]
     · have e : (wrap64 (48 + Int.tmod (n : Int) 10)) % 256 = ((48 + n % 10 : Nat) : Int) := by
         rw [Int.tmod_eq_emod_of_nonneg (by omega), wrapS (by omega) (by omega)]
         omega
       have e2 : wrap64 (Int.tdiv (n : Int) 10) = ((n / 10 : Nat) : Int) := by
         rw [Int.tdiv_eq_ediv_of_nonneg (by omega), wrapS (by omega) (by omega)]
         omega
       refine Ev.pos (by omega) ?_
       rw [e, e2]
       refine Ev.call (a := [((48 + n % 10 : Nat) : Int)]) rfl (Ev.pos (by rw [strOne _ (by omega), BA_size, BA_size]; simp; omega) ?_)
       rw [strOne _ (by omega), BA_append]
       refine evIs (ih (n / 10) _ ?_ (by omega) (by simp; omega)) ?_
       · rw [Nat.pow_succ] at hn
         generalize 10 ^ b = q at *
         omega
       · rw [dec_big h9, List.append_assoc]
 intro n suf hn hs
 exact main 18 n suf (by have : (10 ^ 18 : Nat) = 1000000000000000000 := by decide
                         omega) (by omega) (by omega)
theorem l13Dec_is (n : Nat) (hn : n < 1000000000000000000) : Ev (fun k => spec_l13Dec.f k (n : Int)) (BA (Lib.decDigits n)) := by
 refine Ev.step' ?_; simp only [spec_l13Dec.f]
 refine Ev.neg (by omega) (Ev.neg (by omega) (evIs (l13Dec_l0 n [] hn (by simp)) ?_))
 rw [List.append_nil]

theorem dec_len : ∀ (b n : Nat), n < 10 ^ b → 1 ≤ b → (Lib.decDigits n).length ≤ b := by
 intro b
 induction b with
 | zero => intro n _ h; omega
 | succ b ih =>
   intro n hn _
   by_cases h9 : n < 10
   · rw [dec_small h9]; simp
   · rw [dec_big h9, List.length_append]
     have h1 : n / 10 < 10 ^ b := by
       rw [Nat.pow_succ] at hn
       generalize 10 ^ b = q at *
       omega
     have hb : 1 ≤ b := by
       rcases Nat.eq_zero_or_pos b with rfl | h
       · have : n / 10 < 1 := h1
         omega
       · exact h
     have := ih (n / 10) h1 hb
     simp
     omega
end Go.Proofs.YtidpankoobdfjaaGreatDoor.K
namespace Go.Proofs.YtidpankoobdfjaaGreatDoor.K
open Go.RowKit Go.Proofs.YtidpankoobdfjaaGreatDoorW.PrintWords Go.Proofs.YtidpankoobdfjaaGreatDoorW.PrintLast Go.Proofs.YtidpankoobdfjaaGreatDoorW.PrintMore Go.Proofs.YtidpankoobdfjaaGreatDoor.Q
set_option linter.unusedSimpArgs false
set_option linter.unusedVariables false

/-- Numbers that fit. -/
def Sh : Nat → Tr → Prop
 | 0, t => t.n < 1000000000
 | d + 1, t => ∀ x ∈ t.parts, Sh d x
theorem Sh.of : ∀ {d : Nat} {t : Tr}, Ok d t → Sh d t
 | 0, t, h => by have := h.1; show t.n < _; omega
 | d + 1, t, h => fun x hx => Sh.of (h.2 x hx)
def nodes : Nat → Tr → Nat
 | 0, _ => 1
 | d + 1, t => 1 + (t.parts.map (nodes d)).sum
theorem join_sum (f : Tr → By) (g : Tr → Nat) : ∀ xs : List Tr, (∀ x ∈ xs, (f x).length + 1 ≤ g x) → (Lib.join (xs.map f) [44]).length ≤ (xs.map g).sum
 | [], _ => by simp [Lib.join_nil]
 | [x], h => by
   have := h x (by simp)
   rw [List.map_cons, List.map_nil, join_one]
   simp
   omega
 | x :: y :: l, h => by
   have h1 := h x (by simp)
   have h2 := join_sum f g (y :: l) (fun z hz => h z (List.mem_cons_of_mem _ hz))
   rw [List.map_cons, List.map_cons, join_cons]
   rw [List.map_cons] at h2
   rw [List.map_cons, List.sum_cons]
   simp only [List.length_append, List.length_cons] at h2 ⊢
   omega
theorem join_len2 (f : Tr → By) (g : Tr → Nat) : ∀ xs : List Tr, (∀ x ∈ xs, g x ≤ (f x).length) → (xs.map g).sum ≤ (Lib.join (xs.map f) [44]).length
 | [], _ => by simp
 | [x], h => by
   have h1 := h x (by simp)
   have e1 : (([x] : List Tr).map g).sum = g x := by simp
   have e2 : Lib.join ([x].map f) [44] = f x := join_one _
   rw [e1, e2]
   exact h1
 | x :: y :: l, h => by
   have h1 := h x (by simp)
   have h2 := join_len2 f g (y :: l) (fun z hz => h z (List.mem_cons_of_mem _ hz))
   have e1 : ((x :: y :: l).map g).sum = g x + ((y :: l).map g).sum := by rw [List.map_cons, List.sum_cons]
   have e2 : Lib.join ((x :: y :: l).map f) [44] = f x ++ 44 :: Lib.join ((y :: l).map f) [44] := join_cons _ _ _
   rw [e1, e2, List.length_append, List.length_cons]
   omega
theorem sum_mul (c : Nat) (g : Tr → Nat) : ∀ xs : List Tr, (xs.map (fun x => c * g x)).sum = c * (xs.map g).sum
 | [] => rfl
 | x :: l => by rw [List.map_cons, List.sum_cons, sum_mul c g l, List.map_cons, List.sum_cons, Nat.mul_add]
theorem text_le : ∀ (d : Nat) (t : Tr), Sh d t → (text d t).length + 1 ≤ 12 * nodes d t
 | 0, t, h => by
   have := dec_len 9 t.n h (by omega)
   show (Lib.decDigits t.n).length + 1 ≤ 12
   omega
 | d + 1, t, h => by
   have := join_sum (text d) (fun x => 12 * nodes d x) t.parts (fun x hx => text_le d x (h x hx))
   rw [sum_mul] at this
   show (91 :: (Lib.join (t.parts.map (text d)) [44] ++ [93])).length + 1 ≤ 12 * (1 + (t.parts.map (nodes d)).sum)
   simp
   omega
theorem sum_mem (g : Tr → Nat) : ∀ (xs : List Tr) (x : Tr), x ∈ xs → g x ≤ (xs.map g).sum
 | y :: l, x, h => by
   rw [List.map_cons, List.sum_cons]
   rcases List.mem_cons.1 h with rfl | h
   · omega
   · have := sum_mem g l x h; omega
theorem nodes_part {d : Nat} {t x : Tr} (h : x ∈ t.parts) : nodes d x ≤ nodes (d + 1) t := by
 have := sum_mem (nodes d) t.parts x h
 show _ ≤ 1 + _
 omega
theorem nodes_pos : ∀ (d : Nat) (t : Tr), 1 ≤ nodes d t
 | 0, _ => Nat.le_refl _
 | d + 1, t => by show 1 ≤ 1 + _; omega
theorem sum_len (g : Tr → Nat) (h : ∀ x, 1 ≤ g x) : ∀ xs : List Tr, xs.length ≤ (xs.map g).sum
 | [] => by simp
 | x :: l => by
   have h1 := h x
   have h2 := sum_len g h l
   rw [List.map_cons, List.sum_cons, List.length_cons]
   omega
theorem parts_len (d : Nat) (t : Tr) : t.parts.length + 1 ≤ nodes (d + 1) t := by
 have := sum_len (nodes d) (nodes_pos d) t.parts
 show _ ≤ 1 + _
 omega
theorem getD_map {α : Type} (f : Tr → α) (xs : List Tr) (i : Nat) (z : α) (h : i < xs.length) : (xs.map f).getD i z = f xs[i] := by
 rw [List.getD_eq_getElem?_getD, List.getElem?_map, List.getElem?_eq_getElem h]
 rfl
theorem join_snoc : ∀ (xs : List By) (x : By), xs ≠ [] → Lib.join (xs ++ [x]) [44] = Lib.join xs [44] ++ 44 :: x
 | [], x, h => absurd rfl h
 | [y], x, _ => by rw [List.singleton_append, join_cons, join_one, join_one]
 | y :: z :: l, x, _ => by
   have := join_snoc (z :: l) x (by simp)
   rw [List.cons_append, List.cons_append, join_cons, join_cons, ← List.cons_append, this]
   simp
theorem take_snoc {α : Type} (xs : List α) (i : Nat) (h : i < xs.length) : xs.take (i + 1) = xs.take i ++ [xs[i]] := List.take_succ_eq_append_getElem h
theorem join_take (f : Tr → By) (xs : List Tr) (i : Nat) (h : i < xs.length) (h0 : 0 < i) : Lib.join ((xs.take (i + 1)).map f) [44] = Lib.join ((xs.take i).map f) [44] ++ 44 :: f xs[i] := by
 rw [take_snoc xs i h, List.map_append, List.map_cons, List.map_nil, join_snoc]
 intro e
 have := congrArg List.length e
 rw [List.length_map, List.length_take, List.length_nil] at this
 omega
theorem join_take_le (f : Tr → By) (xs : List Tr) : ∀ i, i ≤ xs.length → (Lib.join ((xs.take i).map f) [44]).length ≤ (Lib.join (xs.map f) [44]).length := by
 have main : ∀ n i, xs.length - i = n → i ≤ xs.length → (Lib.join ((xs.take i).map f) [44]).length ≤ (Lib.join (xs.map f) [44]).length := by
   intro n
   induction n with
   | zero => intro i h hi; rw [List.take_of_length_le (by omega)]; exact Nat.le_refl _
   | succ n ih =>
     intro i h hi
     refine Nat.le_trans ?_ (ih (i + 1) (by omega) (by omega))
     rcases Nat.eq_zero_or_pos i with rfl | h0
     · simp [Lib.join_nil]
     · rw [join_take f xs i (by omega) h0, List.length_append]
       omega
 exact fun i hi => main _ i rfl hi
def TextA (d : Nat) : Prop := ∀ t, Sh d t → nodes d t ≤ 1000000000 → Ev (fun k => impl_arr_text.f k (cA d t).f0 (cA d t).f1 (d : Int)) (BA (text d t))
theorem textA_l0 (d : Nat) (hd : d ≤ 1000) (ih : TextA d) (t : Tr) (hs : Sh (d + 1) t) (hn : nodes (d + 1) t ≤ 1000000000) :
   ∀ (n i : Nat), t.parts.length - i = n → i ≤ t.parts.length → Ev (fun k => impl_arr_text.l0 k ((d + 1 : Nat) : Int) ((t.parts.take i).map fun x => BA (text d x)) (t.parts.map (cA d)) ((t.parts.map (cA d)).length : Int) (i : Int)) (BA (text (d + 1) t)) := by
 have hpl := parts_len d t
 have htl := text_le (d + 1) t hs
 have hte : (text (d + 1) t).length = (Lib.join (t.parts.map (text d)) [44]).length + 2 := by simp [text]
 intro n
 induction n with
 | zero =>
   intro i h hi
   refine Ev.step' ?_; simp only [impl_arr_text.l0]
   rw [List.take_of_length_le (by omega)]
   refine Ev.neg (by rw [List.length_map]; omega) ?_
   have hj : strings_Join.f (t.parts.map fun x => BA (text d x)) (⟨#[44]⟩ : ByteArray) = some (BA (Lib.join (t.parts.map (text d)) [44])) := by
     have e : (t.parts.map fun x => BA (text d x)).map (·.data.toList) = t.parts.map (text d) := by
       rw [List.map_map]
       apply List.map_congr_left
       intro x _
       exact data_BA _
     unfold strings_Join.f
     rw [e, if_pos (by rw [List.length_map]; omega), if_pos (by show (Lib.join (t.parts.map (text d)) [44]).length ≤ _; omega)]
     rfl
   refine Ev.call hj (Ev.pos (by simp; omega) (Ev.pos (by simp; omega) (Ev.val ?_)))
   show BA [91] ++ BA _ ++ BA [93] = _
   rw [BA_append, BA_append]
   rfl
 | succ n ihn =>
   intro i h hi
   have hlt : i < t.parts.length := by omega
   have hm : t.parts[i] ∈ t.parts := List.getElem_mem hlt
   have hx := ih t.parts[i] (hs _ hm) (by have := nodes_part (d := d) hm; omega)
   have hg : rd_T68 (t.parts.map (cA d)) (i : Int) = cA d t.parts[i] := getD_map _ _ _ _ hlt
   refine Ev.step' ?_; simp only [impl_arr_text.l0]
   refine Ev.pos (by rw [List.length_map]; omega) (Ev.pos (by omega) (Ev.pos (by rw [List.length_map]; omega) ?_))
   rw [hg, show wrap64 (((d + 1 : Nat) : Int) - 1) = (d : Int) by rw [wrapS (by omega) (by omega)]; omega, wrapS (a := (i : Int) + 1) (by omega) (by omega)]
   have hnext := ihn (i + 1) (by omega) (by omega)
   refine Ev.bind hx (Ev.pos (by rw [List.length_map, List.length_take]; omega) ?_)
   rw [take_snoc _ _ hlt, List.map_append] at hnext
   exact hnext
theorem textA_is : ∀ d, d ≤ 1000 → TextA d
 | 0, _ => by
   intro t hs hn
   refine Ev.step' ?_; simp only [impl_arr_text.f]
   have h9 : t.n < 1000000000 := hs
   have hi : strconv_Itoa.f (t.n : Int) = some (BA (Lib.decDigits t.n)) := by
     unfold strconv_Itoa.f
     rw [if_pos (by omega), if_pos (by omega), itoa_nat]
     rfl
   refine Ev.pos (by first | trivial | rfl) (Ev.call hi (Ev.val rfl))
 | d + 1, hd => by
   intro t hs hn
   refine Ev.step' ?_; simp only [impl_arr_text.f]
   exact Ev.neg (by omega) (textA_l0 d (by omega) (textA_is d (by omega)) t hs hn _ 0 rfl (by omega))

def told (l : By) : ByteArray × Bool := if l.length ≤ 400 then (BA l, true) else (BA [], false)
theorem nodes_le_text : ∀ (d : Nat) (t : Tr), nodes d t ≤ (text d t).length
 | 0, t => by
   have := List.length_pos_iff.2 (dec_ne t.n)
   exact this
 | d + 1, t => by
   have h := join_len2 (text d) (nodes d) t.parts (fun x _ => nodes_le_text d x)
   show 1 + _ ≤ (91 :: (Lib.join (t.parts.map (text d)) [44] ++ [93])).length
   simp
   omega
end Go.Proofs.YtidpankoobdfjaaGreatDoor.K
namespace Go.Proofs.YtidpankoobdfjaaGreatDoor.K
open Go.RowKit Go.Proofs.YtidpankoobdfjaaGreatDoorW.PrintWords Go.Proofs.YtidpankoobdfjaaGreatDoorW.PrintLast Go.Proofs.YtidpankoobdfjaaGreatDoorW.PrintMore Go.Proofs.YtidpankoobdfjaaGreatDoor.Q
set_option linter.unusedSimpArgs false
set_option linter.unusedVariables false

abbrev ints (l : List Nat) : List Int := l.map (fun n : Nat => (n : Int))
theorem nums_le : ∀ (d : Nat) (t : Tr), (Q.nums d t).length ≤ nodes d t
 | 0, t => Nat.le_refl _
 | d + 1, t => by
   show ((t.parts.map (Q.nums d)).flatten).length ≤ 1 + (t.parts.map (nodes d)).sum
   have : ∀ xs : List Tr, ((xs.map (Q.nums d)).flatten).length ≤ (xs.map (nodes d)).sum := by
     intro xs
     induction xs with
     | nil => exact Nat.le_refl _
     | cons x l ih =>
       have := nums_le d x
       rw [List.map_cons, List.flatten_cons, List.length_append, List.map_cons, List.sum_cons]
       omega
   have := this t.parts
   omega
theorem flat_take_le (f : Tr → List Nat) (xs : List Tr) (i : Nat) : (((xs.take i).map f).flatten).length ≤ ((xs.map f).flatten).length := by
 conv => rhs; rw [← List.take_append_drop i xs, List.map_append, List.flatten_append, List.length_append]
 omega
theorem flat_snoc (f : Tr → List Nat) (xs : List Tr) (i : Nat) (h : i < xs.length) : ((xs.take (i + 1)).map f).flatten = ((xs.take i).map f).flatten ++ f xs[i] := by
 rw [take_snoc _ _ h, List.map_append, List.flatten_append]
 simp
end Go.Proofs.YtidpankoobdfjaaGreatDoor.K
namespace Go.Proofs.YtidpankoobdfjaaGreatDoor.K
open Go.RowKit Go.Proofs.YtidpankoobdfjaaGreatDoorW.PrintWords Go.Proofs.YtidpankoobdfjaaGreatDoorW.PrintLast Go.Proofs.YtidpankoobdfjaaGreatDoorW.PrintMore Go.Proofs.YtidpankoobdfjaaGreatDoor.Q
set_option linter.unusedSimpArgs false
set_option linter.unusedVariables false

/-- An array put behind a layout, from a level on. -/
def layT : Nat → Tr → Nat → List (List Int) × List Int → List (List Int) × List Int
 | 0, t, _, s => (s.1, s.2 ++ [(t.n : Int)])
 | d + 1, t, j, s => t.parts.foldl (fun s x => layT d x (j + 1) s) (s.1.set j (s.1.getD j [] ++ [(t.parts.length : Int)]), s.2)
def Bd (B : Nat) (s : List (List Int) × List Int) : Prop := s.2.length ≤ B ∧ ∀ r ∈ s.1, r.length ≤ B
theorem Bd.mono {B C : Nat} {s : List (List Int) × List Int} (h : Bd B s) (hc : B ≤ C) : Bd C s := ⟨Nat.le_trans h.1 hc, fun r hr => Nat.le_trans (h.2 r hr) hc⟩
theorem getD_bd {B : Nat} {L : List (List Int)} (h : ∀ r ∈ L, r.length ≤ B) (j : Nat) : (L.getD j []).length ≤ B := by
 rw [List.getD_eq_getElem?_getD]
 by_cases hj : j < L.length
 · rw [List.getElem?_eq_getElem hj]
   exact h _ (List.getElem_mem hj)
 · rw [List.getElem?_eq_none (by omega)]
   exact Nat.zero_le _
theorem set_bd {B : Nat} {L : List (List Int)} {D : List Int} (h : Bd B (L, D)) (j : Nat) (x : Int) : Bd (B + 1) (L.set j (L.getD j [] ++ [x]), D) := by
 refine ⟨Nat.le_succ_of_le h.1, fun r hr => ?_⟩
 rcases List.mem_or_eq_of_mem_set hr with hr | rfl
 · exact Nat.le_succ_of_le (h.2 r hr)
 · have := getD_bd h.2 j
   rw [List.length_append]
   exact Nat.succ_le_succ this
theorem layT_bd : ∀ (d : Nat) (t : Tr) (j : Nat) (s : List (List Int) × List Int) (B : Nat), Bd B s → (layT d t j s).1.length = s.1.length ∧ Bd (B + nodes d t) (layT d t j s)
 | 0, t, j, s, B, h => by
   refine ⟨rfl, ?_, fun r hr => Nat.le_succ_of_le (h.2 r hr)⟩
   show (s.2 ++ [(t.n : Int)]).length ≤ B + 1
   rw [List.length_append]
   exact Nat.succ_le_succ h.1
 | d + 1, t, j, s, B, h => by
   have main : ∀ (xs : List Tr) (s : List (List Int) × List Int) (B : Nat), Bd B s → (xs.foldl (fun s x => layT d x (j + 1) s) s).1.length = s.1.length ∧ Bd (B + (xs.map (nodes d)).sum) (xs.foldl (fun s x => layT d x (j + 1) s) s) := by
     intro xs
     induction xs with
     | nil => intro s B h; exact ⟨rfl, h⟩
     | cons x xs ih =>
       intro s B h
       obtain ⟨h1, h2⟩ := layT_bd d x (j + 1) s B h
       obtain ⟨h3, h4⟩ := ih _ _ h2
       refine ⟨h3.trans h1, ?_⟩
       rw [List.map_cons, List.sum_cons, ← Nat.add_assoc]
       exact h4
   obtain ⟨h1, h2⟩ := main t.parts _ (B + 1) (set_bd h j (t.parts.length : Int))
   refine ⟨h1.trans (List.length_set), ?_⟩
   show Bd (B + (1 + (t.parts.map (nodes d)).sum)) _
   rw [← Nat.add_assoc]
   exact h2
def LayA (d : Nat) : Prop := ∀ (t : Tr) (j : Nat) (L : List (List Int)) (D : List Int) (B : Nat), L.length = j + d → j + d ≤ 10 → Bd B (L, D) → B + nodes d t ≤ 1000000000 → Ev (fun k => lay.f k L D (cA d t).f0 (cA d t).f1 (j : Int)) (layT d t j (L, D))
theorem layA_l0 (d : Nat) (ih : LayA d) (j : Nat) (hj : j + 1 + d ≤ 10) (xs : List Tr) (hxs : xs.length ≤ 1000000000) : ∀ (n i : Nat) (L : List (List Int)) (D : List Int) (B : Nat), xs.length - i = n → i ≤ xs.length → L.length = j + 1 + d → Bd B (L, D) → B + ((xs.drop i).map (nodes d)).sum ≤ 1000000000 →
   Ev (fun k => lay.l0 k L D (xs.map (cA d)) (j : Int) ((xs.map (cA d)).length : Int) (i : Int)) ((xs.drop i).foldl (fun s x => layT d x (j + 1) s) (L, D)) := by
 intro n
 induction n with
 | zero =>
   intro i L D B h hi hL hb hn
   refine Ev.step' ?_; simp only [lay.l0]
   refine Ev.neg (by rw [List.length_map]; omega) (Ev.val ?_)
   rw [List.drop_eq_nil_of_le (by omega)]
   rfl
 | succ n ihn =>
   intro i L D B h hi hL hb hn
   have hlt : i < xs.length := by omega
   have hg : rd_T68 (xs.map (cA d)) (i : Int) = cA d xs[i] := getD_map _ _ _ _ hlt
   rw [List.drop_eq_getElem_cons hlt] at hn ⊢
   rw [List.map_cons, List.sum_cons] at hn
   have hx := ih xs[i] (j + 1) L D B hL hj hb (by omega)
   obtain ⟨b1, b2⟩ := layT_bd d xs[i] (j + 1) (L, D) B hb
   have hnext := ihn (i + 1) (layT d xs[i] (j + 1) (L, D)).1 (layT d xs[i] (j + 1) (L, D)).2 _ (by omega) (by omega) (b1.trans hL) b2 (by omega)
   refine Ev.step' ?_; simp only [lay.l0]
   refine Ev.pos (by rw [List.length_map]; omega) (Ev.pos (by omega) (Ev.pos (by rw [List.length_map]; omega) ?_))
   rw [hg, wrapS (a := (j : Int) + 1) (by omega) (by omega), wrapS (a := (i : Int) + 1) (by omega) (by omega)]
   exact Ev.bind hx hnext
theorem layA_is : ∀ d, LayA d
 | 0 => by
   intro t j L D B hL hj hb hn
   have h1 : D.length ≤ B := hb.1
   have h2 : B + 1 ≤ 1000000000 := hn
   refine Ev.step' ?_; simp only [lay.f]
   exact Ev.pos (by omega) (Ev.pos (by omega) (Ev.val rfl))
 | d + 1 => by
   intro t j L D B hL hj hb hn
   have hp := parts_len d t
   have hn2 : B + (1 + (t.parts.map (nodes d)).sum) ≤ 1000000000 := hn
   have hgl : (L.getD j []).length ≤ B := getD_bd hb.2 j
   have h0 := layA_l0 d (layA_is d) j (by omega) t.parts (by omega) _ 0 (L.set j (L.getD j [] ++ [(t.parts.length : Int)])) D (B + 1) rfl (Nat.zero_le _) (by rw [List.length_set]; omega) (set_bd hb j _) (by rw [List.drop_zero]; omega)
   rw [List.drop_zero] at h0
   refine Ev.step' ?_; simp only [lay.f]
   refine Ev.neg (by omega) (Ev.pos (by omega) (Ev.pos (by omega) ?_))
   rw [Int.toNat_natCast]
   refine Ev.pos (by omega) ?_
   have e : ((cA (d + 1) t).f1.length : Int) = (t.parts.length : Int) := by
     show ((t.parts.map (cA d)).length : Int) = _
     rw [List.length_map]
   rw [e]
   rw [List.length_map] at h0
   exact h0
theorem rep_bd (d : Nat) : Bd 0 (List.replicate d ([] : List Int), ([] : List Int)) := ⟨Nat.le_refl _, fun r hr => by rw [List.eq_of_mem_replicate hr]; exact Nat.le_refl _⟩
def layR (d : Nat) : Option Tr → List (List Int) × List Int × Bool
 | none => ([], [], false)
 | some v => ((layT d v 0 (List.replicate d [], [])).1, (layT d v 0 (List.replicate d [], [])).2, true)
theorem layR_bd (d : Nat) (hd : d ≤ 3) (l : By) : (layR d (readD d l)).1.length ≤ 3 ∧ (∀ r ∈ (layR d (readD d l)).1, r.length ≤ 400) ∧ (layR d (readD d l)).2.1.length ≤ 400 := by
 cases hr : readD d l with
 | none => exact ⟨Nat.zero_le _, fun r hr => (by cases hr), Nat.zero_le _⟩
 | some v =>
   obtain ⟨e1, e2, e3⟩ := readD_ok hr
   have hn := nodes_le_text d v
   rw [← e1] at hn
   obtain ⟨b1, b2, b3⟩ := layT_bd d v 0 (List.replicate d [], []) 0 (rep_bd d)
   refine ⟨?_, fun r hr => Nat.le_trans (b3 r hr) (by omega), Nat.le_trans b2 (by omega)⟩
   show (layT d v 0 (List.replicate d [], [])).1.length ≤ 3
   rw [b1, List.length_replicate]
   exact hd
end Go.Proofs.YtidpankoobdfjaaGreatDoor.K
namespace Go.Proofs.YtidpankoobdfjaaGreatDoor.K
open Go.RowKit Go.Proofs.YtidpankoobdfjaaGreatDoorW.PrintWords Go.Proofs.YtidpankoobdfjaaGreatDoorW.PrintLast Go.Proofs.YtidpankoobdfjaaGreatDoorW.PrintMore Go.Proofs.YtidpankoobdfjaaGreatDoor.Q
set_option linter.unusedSimpArgs false
set_option linter.unusedVariables false

def plen (t : Tr) : Nat := t.parts.length
def prts (ts : List Tr) : List Tr := (ts.map Tr.parts).flatten
def lvl : Nat → List Tr → List (List Nat)
 | 0, _ => []
 | d + 1, ts => ts.map plen :: lvl d (prts ts)
def gen : Nat → List Tr → List Tr
 | 0, ts => ts
 | i + 1, ts => gen i (prts ts)
def datN (d : Nat) (ts : List Tr) : List Nat := (gen d ts).map Tr.n
theorem prts_app (a b : List Tr) : prts (a ++ b) = prts a ++ prts b := by simp [prts]
theorem prts_one (t : Tr) : prts [t] = t.parts := by simp [prts]
theorem gen_app : ∀ (i : Nat) (a b : List Tr), gen i (a ++ b) = gen i a ++ gen i b
 | 0, a, b => rfl
 | i + 1, a, b => by show gen i (prts (a ++ b)) = _; rw [prts_app, gen_app i]; rfl
theorem gen_succ : ∀ (i : Nat) (ts : List Tr), gen (i + 1) ts = prts (gen i ts)
 | 0, ts => rfl
 | i + 1, ts => by show gen (i + 1) (prts ts) = _; rw [gen_succ i]; rfl
theorem lvl_len : ∀ (d : Nat) (ts : List Tr), (lvl d ts).length = d
 | 0, _ => rfl
 | d + 1, ts => by show (lvl d (prts ts)).length + 1 = _; rw [lvl_len d]
theorem lvl_get : ∀ (d i : Nat) (ts : List Tr), i < d → (lvl d ts)[i]? = some ((gen i ts).map plen)
 | 0, i, ts, h => absurd h (Nat.not_lt_zero _)
 | d + 1, 0, ts, _ => rfl
 | d + 1, i + 1, ts, h => by
   show (lvl d (prts ts))[i]? = some ((gen i (prts ts)).map plen)
   exact lvl_get d i _ (by omega)
abbrev zap (A B : List (List Int)) : List (List Int) := List.zipWith (· ++ ·) A B
theorem zap_nil : ∀ (A : List (List Int)), zap A (List.replicate A.length []) = A
 | [] => rfl
 | x :: A => by
   show (x ++ []) :: zap A (List.replicate A.length []) = _
   rw [zap_nil A, List.append_nil]
theorem nil_zap : ∀ (A : List (List Int)), zap (List.replicate A.length []) A = A
 | [] => rfl
 | x :: A => by
   show ([] ++ x) :: zap (List.replicate A.length []) A = _
   rw [nil_zap A, List.nil_append]
theorem zap_assoc : ∀ (A B C : List (List Int)), zap (zap A B) C = zap A (zap B C)
 | [], _, _ => by simp [zap]
 | _ :: _, [], _ => by simp [zap]
 | _ :: _, _ :: _, [] => by simp [zap]
 | a :: A, b :: B, c :: C => by
   show (a ++ b ++ c) :: zap (zap A B) C = (a ++ (b ++ c)) :: zap A (zap B C)
   rw [zap_assoc A B C, List.append_assoc]
theorem lvl_app : ∀ (d : Nat) (a b : List Tr), (lvl d (a ++ b)).map ints = zap ((lvl d a).map ints) ((lvl d b).map ints)
 | 0, _, _ => rfl
 | d + 1, a, b => by
   show ints ((a ++ b).map plen) :: (lvl d (prts (a ++ b))).map ints = (ints (a.map plen) ++ ints (b.map plen)) :: zap ((lvl d (prts a)).map ints) ((lvl d (prts b)).map ints)
   rw [prts_app, lvl_app d, List.map_append]
   simp
theorem lvl_none : ∀ (d : Nat), lvl d [] = List.replicate d []
 | 0 => rfl
 | d + 1 => by show [] :: lvl d [] = _; rw [lvl_none d]; rfl
theorem zap_len (A B : List (List Int)) (h : A.length = B.length) : (zap A B).length = A.length := by simp [zap, h]
def LayL (d : Nat) : Prop := ∀ (ts : List Tr) (j : Nat) (S : List (List Int)) (D : List Int), S.length = j + d → ts.foldl (fun s x => layT d x j s) (S, D) = (S.take j ++ zap (S.drop j) ((lvl d ts).map ints), D ++ ints (datN d ts))
theorem layL_of {d : Nat} (h1 : ∀ (t : Tr) (j : Nat) (S : List (List Int)) (D : List Int), S.length = j + d → layT d t j (S, D) = (S.take j ++ zap (S.drop j) ((lvl d [t]).map ints), D ++ ints (datN d [t]))) : LayL d := by
 intro ts
 induction ts with
 | nil =>
   intro j S D hS
   have hd : (S.drop j).length = d := by rw [List.length_drop]; omega
   show (S, D) = _
   rw [lvl_none, List.map_replicate]
   have : zap (S.drop j) (List.replicate d (ints [])) = S.drop j := by
     have := zap_nil (S.drop j)
     rw [hd] at this
     exact this
   rw [this, List.take_append_drop]
   have h0 : datN d [] = [] := by
     unfold datN
     have : gen d [] = [] := by
       clear h1 hS hd this
       induction d with
       | zero => rfl
       | succ d ih => exact ih
     rw [this]; rfl
   rw [h0]
   simp
 | cons t ts ih =>
   intro j S D hS
   have hd : (S.drop j).length = d := by rw [List.length_drop]; omega
   have hz : (zap (S.drop j) ((lvl d [t]).map ints)).length = d := by rw [zap_len _ _ (by rw [hd, List.length_map, lvl_len]), hd]
   have htk : (S.take j).length = j := by rw [List.length_take]; omega
   show ts.foldl _ (layT d t j (S, D)) = _
   rw [h1 t j S D hS, ih j _ _ (by rw [List.length_append, htk, hz])]
   rw [List.take_left' htk, List.drop_left' htk, zap_assoc]
   have e : t :: ts = [t] ++ ts := rfl
   rw [e, lvl_app]
   unfold datN
   rw [gen_app, List.map_append, List.append_assoc]
   simp
theorem layT_one : ∀ (d : Nat) (t : Tr) (j : Nat) (S : List (List Int)) (D : List Int), S.length = j + d → layT d t j (S, D) = (S.take j ++ zap (S.drop j) ((lvl d [t]).map ints), D ++ ints (datN d [t]))
 | 0, t, j, S, D, hS => by
   show (S, D ++ [(t.n : Int)]) = _
   rw [List.take_of_length_le (by omega), List.drop_eq_nil_of_le (by omega)]
   simp [zap, lvl, datN, gen]
 | d + 1, t, j, S, D, hS => by
   have hL := layL_of (layT_one d)
   have hj : j < S.length := by omega
   have hgd : S.getD j [] = S[j] := by rw [List.getD_eq_getElem?_getD, List.getElem?_eq_getElem hj]; rfl
   show t.parts.foldl (fun s x => layT d x (j + 1) s) (S.set j (S.getD j [] ++ [(t.parts.length : Int)]), D) = _
   rw [hL t.parts (j + 1) _ D (by rw [List.length_set]; omega), hgd]
   have e1 : (S.set j (S[j] ++ [(t.parts.length : Int)])).take (j + 1) = S.take j ++ [S[j] ++ [(t.parts.length : Int)]] := by
     rw [take_snoc _ _ (by rw [List.length_set]; exact hj), List.take_set, List.getElem_set_self, List.set_eq_of_length_le (by rw [List.length_take]; omega)]
   have e2 : (S.set j (S[j] ++ [(t.parts.length : Int)])).drop (j + 1) = S.drop (j + 1) := by
     rw [List.drop_set_of_lt (by omega)]
   have e3 : S.drop j = S[j] :: S.drop (j + 1) := List.drop_eq_getElem_cons hj
   rw [e1, e2, e3, List.append_assoc]
   have e4 : (lvl (d + 1) [t]).map ints = [(t.parts.length : Int)] :: (lvl d t.parts).map ints := by
     show ints [plen t] :: (lvl d (prts [t])).map ints = _
     rw [prts_one]
     rfl
   have e5 : datN (d + 1) [t] = datN d t.parts := by
     show (gen d (prts [t])).map Tr.n = _
     rw [prts_one]
     rfl
   rw [e4, e5]
   rfl
/-- The layout of one array, by its levels. -/
theorem layT_lvl (d : Nat) (v : Tr) : layT d v 0 (List.replicate d [], []) = ((lvl d [v]).map ints, ints (datN d [v])) := by
 rw [layT_one d v 0 _ _ (by rw [List.length_replicate]; omega)]
 rw [List.take_zero, List.drop_zero, List.nil_append, List.nil_append]
 have := nil_zap ((lvl d [v]).map ints)
 rw [List.length_map, lvl_len] at this
 rw [this]
theorem datN_nums : ∀ (d : Nat) (ts : List Tr), datN d ts = (ts.map (Q.nums d)).flatten
 | 0, ts => by
   show ts.map Tr.n = _
   induction ts with
   | nil => rfl
   | cons t ts ih => rw [List.map_cons, List.map_cons, List.flatten_cons, ← ih]; rfl
 | d + 1, ts => by
   have h := datN_nums d (prts ts)
   show datN d (prts ts) = _
   rw [h]
   induction ts with
   | nil => rfl
   | cons t ts ih =>
     have e : prts (t :: ts) = t.parts ++ prts ts := by simp [prts]
     rw [e, List.map_append, List.flatten_append, ih (datN_nums d _)]
     rfl
theorem prts_nodes (e : Nat) : ∀ ts : List Tr, ((prts ts).map (nodes e)).sum ≤ (ts.map (nodes (e + 1))).sum
 | [] => Nat.le_refl _
 | t :: ts => by
   have h := prts_nodes e ts
   have e1 : prts (t :: ts) = t.parts ++ prts ts := by simp [prts]
   rw [e1, List.map_append, List.sum_append, List.map_cons, List.sum_cons]
   show _ ≤ 1 + (t.parts.map (nodes e)).sum + _
   omega
theorem gen_nodes : ∀ (i e : Nat) (ts : List Tr), ((gen i ts).map (nodes e)).sum ≤ (ts.map (nodes (e + i))).sum
 | 0, e, ts => Nat.le_refl _
 | i + 1, e, ts => by
   have h1 := gen_nodes i e (prts ts)
   have h2 := prts_nodes (e + i) ts
   show ((gen i (prts ts)).map (nodes e)).sum ≤ _
   exact Nat.le_trans h1 h2
theorem gen_ok : ∀ (i e : Nat) (ts : List Tr), (∀ t ∈ ts, Ok (e + i) t) → ∀ t ∈ gen i ts, Ok e t
 | 0, e, ts, h => h
 | i + 1, e, ts, h => gen_ok i e (prts ts) (fun t ht => by
   obtain ⟨l, hl, htl⟩ := List.mem_flatten.1 ht
   obtain ⟨u, hu, rfl⟩ := List.mem_map.1 hl
   exact (h u hu).2 t htl)
theorem sum_cnt (f : Tr → Nat) (hf : ∀ t, 1 ≤ f t) : ∀ (ts : List Tr), ts.length ≤ (ts.map f).sum
 | [] => Nat.le_refl _
 | u :: ts => by
   have := sum_cnt f hf ts
   have := hf u
   rw [List.map_cons, List.sum_cons, List.length_cons]
   omega
theorem prts_cnt : ∀ (ts : List Tr), (prts ts).length = (ts.map plen).sum
 | [] => rfl
 | t :: ts => by
   have e1 : prts (t :: ts) = t.parts ++ prts ts := by simp [prts]
   rw [e1, List.length_append, prts_cnt ts, List.map_cons, List.sum_cons]
   rfl
section
variable {d N : Nat} {v : Tr} (hd : d ≤ 3) (hv : Ok d v) (hn : nodes d v ≤ N)
include hd hv hn
theorem gen_small {i : Nat} (hi : i ≤ d) : (gen i [v]).length ≤ N ∧ ∀ t ∈ gen i [v], Ok (d - i) t ∧ plen t ≤ N := by
 obtain ⟨e, rfl⟩ : ∃ e, d = e + i := ⟨d - i, by omega⟩
 have h1 := gen_nodes i e [v]
 rw [List.map_singleton, List.sum_singleton] at h1
 have h2 := sum_cnt (nodes e) (nodes_pos e) (gen i [v])
 refine ⟨by omega, fun t ht => ⟨?_, ?_⟩⟩
 · rw [Nat.add_sub_cancel]
   exact gen_ok i e [v] (fun u hu => by rw [List.mem_singleton.1 hu]; exact hv) t ht
 · have h3 := sum_mem (nodes e) _ t ht
   cases e with
   | zero =>
     have := gen_ok i 0 [v] (fun u hu => by rw [List.mem_singleton.1 hu]; exact hv) t ht
     show t.parts.length ≤ N
     rw [this.2]
     exact Nat.zero_le _
   | succ e =>
     have := parts_len e t
     show t.parts.length ≤ N
     omega
end
end Go.Proofs.YtidpankoobdfjaaGreatDoor.K
namespace Go.Proofs.YtidpankoobdfjaaGreatDoor.K
open Go.RowKit Go.Proofs.YtidpankoobdfjaaGreatDoorW.PrintWords Go.Proofs.YtidpankoobdfjaaGreatDoorW.PrintLast Go.Proofs.YtidpankoobdfjaaGreatDoorW.PrintMore Go.Proofs.YtidpankoobdfjaaGreatDoor.Q
set_option linter.unusedSimpArgs false
set_option linter.unusedVariables false

theorem rd_at {l : List Int} {i : Nat} (h : i < l.length) : rd l (i : Int) = l[i] := by
 unfold rd
 rw [Int.toNat_natCast, List.getD_eq_getElem?_getD, List.getElem?_eq_getElem h]
 rfl
end Go.Proofs.YtidpankoobdfjaaGreatDoor.K
namespace Go.Proofs.YtidpankoobdfjaaGreatDoor.K
open Go.RowKit Go.Proofs.YtidpankoobdfjaaGreatDoorW.PrintWords Go.Proofs.YtidpankoobdfjaaGreatDoorW.PrintLast Go.Proofs.YtidpankoobdfjaaGreatDoorW.PrintMore Go.Proofs.YtidpankoobdfjaaGreatDoor.Q
set_option linter.unusedSimpArgs false
set_option linter.unusedVariables false

theorem rdN_at {l : List Nat} {i : Nat} (h : i < l.length) : rd (ints l) (i : Int) = (l[i] : Int) := by
 rw [rd_at (by rw [List.length_map]; exact h), List.getElem_map]
theorem rdL_at {L : List (List Nat)} {i : Nat} {r : List Nat} (h : L[i]? = some r) : rd_L3 (L.map ints) (i : Int) = ints r := by
 show (L.map ints).getD i [] = _
 rw [List.getD_eq_getElem?_getD, List.getElem?_map, h]
 rfl
theorem within_ok (xs : List Nat) (M : Nat) (h : ∀ x ∈ xs, x ≤ M) (hl : xs.length ≤ 1000000) : impl_within.f (ints xs) (M : Int) = some true := by
 unfold impl_within.f
 rw [if_pos (by rw [List.length_map]; omega)]
 have : (ints xs).any (outR (M : Int)) = false := by
   rw [List.any_eq_false]
   intro z hz
   obtain ⟨x, hxm, rfl⟩ := List.mem_map.1 hz
   have := h x hxm
   simp [outR]
   omega
 rw [this]
 rfl
theorem total_l0 (xs : List Nat) (hs : xs.sum ≤ 1000000) (hl : xs.length ≤ 1000000) : ∀ (n i acc : Nat), xs.length - i = n → i ≤ xs.length → acc + (xs.drop i).sum = xs.sum → Ev (fun k => impl_total.l0 k (acc : Int) (ints xs) ((ints xs).length : Int) (i : Int)) ((xs.sum : Nat) : Int) := by
 intro n
 induction n with
 | zero =>
   intro i acc h1 h2 h3
   rw [List.drop_eq_nil_of_le (by omega)] at h3
   refine Ev.step' ?_; simp only [impl_total.l0]
   refine Ev.neg (by rw [List.length_map]; omega) (Ev.val ?_)
   simp at h3
   omega
 | succ n ih =>
   intro i acc h1 h2 h3
   have hi : i < xs.length := by omega
   rw [List.drop_eq_getElem_cons hi, List.sum_cons] at h3
   have hnext := ih (i + 1) (acc + xs[i]) (by omega) (by omega) (by omega)
   refine Ev.step' ?_; simp only [impl_total.l0]
   refine Ev.pos (by rw [List.length_map]; omega) (Ev.pos (by omega) (Ev.pos (by rw [List.length_map]; omega) ?_))
   rw [rdN_at hi, wrapS (by omega) (by omega), wrapS (by omega) (by omega)]
   exact hnext
theorem total_is (xs : List Nat) (hs : xs.sum ≤ 1000000) (hl : xs.length ≤ 1000000) : Ev (fun k => impl_total.f k (ints xs)) ((xs.sum : Nat) : Int) := by
 unfold impl_total.f
 exact total_l0 xs hs hl _ 0 0 rfl (Nat.zero_le _) (by simp)
theorem raised_l2 (e : Nat) (x8 : Int) (L : List (List Int)) (D : List Int) (R : List NA) (all : List Tr) (h0 : ∀ t ∈ all, t.n = 0) (hl : all.length ≤ 1000000) (hp : ∀ t ∈ all, plen t ≤ 1000000)
   (hgo : Ev (fun k => impl_raised.l1 k (all.map (cA (e + 1))) (wrap64 (x8 - 1)) L D) R) : ∀ (rest done : List Tr), all = done ++ rest →
   Ev (fun k => impl_raised.l2 k ((prts rest).map (cA e)) x8 (done.map (cA (e + 1))) (ints (all.map plen)) ((ints (all.map plen)).length : Int) ((done.length : Nat) : Int) L D) R := by
 intro rest
 induction rest with
 | nil =>
   intro done h
   rw [List.append_nil] at h
   subst h
   refine Ev.step' ?_; simp only [impl_raised.l2]
   exact Ev.neg (by simp) hgo
 | cons t rest ih =>
   intro done h
   have hlt : done.length < all.length := by rw [h]; simp
   have hm : t ∈ all := by rw [h]; simp
   have hrd : rd (ints (all.map plen)) ((done.length : Nat) : Int) = ((t.parts.length : Nat) : Int) := by
     rw [rdN_at (by rw [List.length_map]; exact hlt), List.getElem_map]
     have : all[done.length] = t := by simp [h]
     rw [this]
     rfl
   have e1 : prts (t :: rest) = t.parts ++ prts rest := by simp [prts]
   have e2 : ((prts (t :: rest)).map (cA e)).drop t.parts.length = (prts rest).map (cA e) := by
     rw [e1, List.map_append, List.drop_left' (by rw [List.length_map])]
   have e3 : ((prts (t :: rest)).map (cA e)).take t.parts.length = t.parts.map (cA e) := by
     rw [e1, List.map_append, List.take_left' (by rw [List.length_map])]
   have e4 : (⟨0, t.parts.map (cA e)⟩ : NA) = cA (e + 1) t := by
     show _ = (⟨(t.n : Int), t.parts.map (cA e)⟩ : NA)
     rw [h0 t hm]
     rfl
   have hnext := ih (done ++ [t]) (by rw [h, List.append_assoc]; rfl)
   rw [List.map_append, List.map_singleton, List.length_append, List.length_singleton] at hnext
   refine Ev.step' ?_; simp only [impl_raised.l2]
   refine Ev.pos (by rw [List.length_map, List.length_map]; omega) (Ev.pos (by omega) (Ev.pos (by rw [List.length_map, List.length_map]; omega) ?_))
   rw [hrd]
   refine Ev.pos (by omega) (Ev.pos (by rw [e1, List.length_map, List.length_append]; omega) (Ev.pos (by rw [List.length_map]; omega) ?_))
   rw [Int.toNat_natCast, e2, e3, e4, wrapS (by omega) (by omega)]
   exact hnext
theorem raised_l0 (xs : List Nat) (hx : xs.length ≤ 1000000) (L : List (List Int)) (D : List Int) (R : List NA) (hgo : Ev (fun k => impl_raised.l1 k (xs.map (fun n : Nat => (⟨(n : Int), []⟩ : NA))) (wrap64 ((L.length : Int) - 1)) L D) R) : ∀ (n i : Nat), xs.length - i = n → i ≤ xs.length →
   Ev (fun k => impl_raised.l0 k ((xs.take i).map (fun n : Nat => (⟨(n : Int), []⟩ : NA))) (ints xs) ((ints xs).length : Int) (i : Int) L D) R := by
 intro n
 induction n with
 | zero =>
   intro i h1 h2
   rw [List.take_of_length_le (by omega)]
   refine Ev.step' ?_; simp only [impl_raised.l0]
   exact Ev.neg (by rw [List.length_map]; omega) hgo
 | succ n ih =>
   intro i h1 h2
   have hi : i < xs.length := by omega
   have hnext := ih (i + 1) (by omega) (by omega)
   rw [take_snoc _ _ hi, List.map_append, List.map_singleton] at hnext
   refine Ev.step' ?_; simp only [impl_raised.l0]
   refine Ev.pos (by rw [List.length_map]; omega) (Ev.pos (by omega) (Ev.pos (by rw [List.length_map]; omega) (Ev.pos (by rw [List.length_map, List.length_take]; omega) ?_)))
   rw [rdN_at hi, wrapS (by omega) (by omega)]
   exact hnext
section
variable {d N : Nat} {v : Tr} (hd : d ≤ 3) (hv : Ok d v) (hn : nodes d v ≤ N) (hN : N ≤ 1000000)
include hd hv hn hN
theorem raised_l1 : ∀ (i : Nat), i ≤ d → Ev (fun k => impl_raised.l1 k ((gen i [v]).map (cA (d - i))) ((i : Int) - 1) ((lvl d [v]).map ints) (ints (datN d [v]))) [cA d v]
 | 0, _ => by
   refine Ev.step' ?_; simp only [impl_raised.l1]
   exact Ev.neg (by omega) (Ev.val rfl)
 | i + 1, hi => by
   have ih := raised_l1 i (by omega)
   have hL : ((lvl d [v]).map ints).length = d := by rw [List.length_map, lvl_len]
   obtain ⟨g1, g2⟩ := gen_small hd hv hn (i := i) (by omega)
   have hr := rdL_at (lvl_get d i [v] (by omega))
   have ei : ((i + 1 : Nat) : Int) - 1 = (i : Int) := by omega
   have h2 := raised_l2 (d - (i + 1)) (i : Int) ((lvl d [v]).map ints) (ints (datN d [v])) [cA d v] (gen i [v]) (fun t ht => by
     have := (g2 t ht).1
     rw [show d - i = d - (i + 1) + 1 by omega] at this
     exact this.1) (by omega) (fun t ht => by have := (g2 t ht).2; omega) (by
     rw [wrapS (by omega) (by omega), show d - (i + 1) + 1 = d - i by omega]
     exact ih) (gen i [v]) [] rfl
   rw [gen_succ, ei]
   refine Ev.step' ?_; simp only [impl_raised.l1]
   refine Ev.pos (by omega) (Ev.pos (by omega) (Ev.pos (by rw [hL]; omega) ?_))
   rw [hr]
   exact h2
theorem raised_is : Ev (fun k => impl_raised.f k ((lvl d [v]).map ints) (ints (datN d [v])) 1) [cA d v] := by
 obtain ⟨g1, g2⟩ := gen_small hd hv hn (i := d) (Nat.le_refl _)
 have hL : ((lvl d [v]).map ints).length = d := by rw [List.length_map, lvl_len]
 have hD : (datN d [v]).length ≤ N := by simp [datN]; exact g1
 have h1 := raised_l1 hd hv hn hN d (Nat.le_refl _)
 have e : (gen d [v]).map (cA (d - d)) = (datN d [v]).map (fun n : Nat => (⟨(n : Int), []⟩ : NA)) := by
   rw [Nat.sub_self]
   unfold datN
   rw [List.map_map]
   rfl
 rw [e] at h1
 have h0 := raised_l0 (datN d [v]) (by omega) ((lvl d [v]).map ints) (ints (datN d [v])) [cA d v] (by rw [hL, wrapS (by omega) (by omega)]; exact h1) _ 0 rfl (Nat.zero_le _)
 unfold impl_raised.f
 refine Ev.pos (by omega) (Ev.pos (by rw [List.length_map]; omega) ?_)
 exact h0
end
end Go.Proofs.YtidpankoobdfjaaGreatDoor.K
namespace Go.Proofs.YtidpankoobdfjaaGreatDoor.K
open Go.RowKit Go.Proofs.YtidpankoobdfjaaGreatDoorW.PrintWords Go.Proofs.YtidpankoobdfjaaGreatDoorW.PrintLast Go.Proofs.YtidpankoobdfjaaGreatDoorW.PrintMore Go.Proofs.YtidpankoobdfjaaGreatDoor.Q
set_option linter.unusedSimpArgs false
set_option linter.unusedVariables false

def splitBy : List Nat → List Tr → List Tr
 | [], _ => []
 | n :: r, ts => ⟨0, ts.take n⟩ :: splitBy r (ts.drop n)
def up : List (List Nat) → List Nat → List Tr
 | [], D => D.map (fun n => ⟨n, []⟩)
 | r :: Ls, D => splitBy r (up Ls D)
/-- Levels that fit, from a count on. -/
def Val : Nat → List (List Nat) → List Nat → Prop
 | c, [], D => D.length = c
 | c, r :: Ls, D => r.length = c ∧ Val r.sum Ls D
theorem splitBy_len : ∀ (r : List Nat) (ts : List Tr), (splitBy r ts).length = r.length
 | [], _ => rfl
 | n :: r, ts => by
   show (splitBy r (ts.drop n)).length + 1 = _
   rw [splitBy_len r]
   rfl
theorem splitBy_plen : ∀ (r : List Nat) (ts : List Tr), r.sum ≤ ts.length → (splitBy r ts).map plen = r
 | [], _, _ => rfl
 | n :: r, ts, h => by
   rw [List.sum_cons] at h
   have ih := splitBy_plen r (ts.drop n) (by rw [List.length_drop]; omega)
   show (ts.take n).length :: (splitBy r (ts.drop n)).map plen = _
   rw [ih, List.length_take]
   congr 1
   omega
theorem splitBy_prts : ∀ (r : List Nat) (ts : List Tr), r.sum = ts.length → prts (splitBy r ts) = ts
 | [], ts, h => by
   have : ts = [] := List.eq_nil_of_length_eq_zero (by simpa using h.symm)
   rw [this]
   rfl
 | n :: r, ts, h => by
   rw [List.sum_cons] at h
   have ih := splitBy_prts r (ts.drop n) (by rw [List.length_drop]; omega)
   have e : prts (splitBy (n :: r) ts) = ts.take n ++ prts (splitBy r (ts.drop n)) := by simp [prts, splitBy]
   rw [e, ih, List.take_append_drop]
theorem splitBy_ok {d : Nat} : ∀ (r : List Nat) (ts : List Tr), (∀ t ∈ ts, Ok d t) → ∀ t ∈ splitBy r ts, Ok (d + 1) t
 | [], _, _ => fun t ht => by cases ht
 | n :: r, ts, h => fun t ht => by
   rcases List.mem_cons.1 ht with rfl | ht
   · exact ⟨rfl, fun x hx => h x (List.mem_of_mem_take hx)⟩
   · exact splitBy_ok r _ (fun x hx => h x (List.mem_of_mem_drop hx)) t ht
theorem up_is : ∀ (Ls : List (List Nat)) (D : List Nat) (c : Nat), Val c Ls D → (∀ n ∈ D, n < 10007) → (up Ls D).length = c ∧ lvl Ls.length (up Ls D) = Ls ∧ datN Ls.length (up Ls D) = D ∧ ∀ t ∈ up Ls D, Ok Ls.length t
 | [], D, c, h, hD => by
   refine ⟨by show (D.map _).length = c; rw [List.length_map]; exact h, rfl, ?_, fun t ht => ?_⟩
   · show (D.map (fun n => (⟨n, []⟩ : Tr))).map Tr.n = D
     rw [List.map_map]
     conv => rhs; rw [← List.map_id D]
     rfl
   · obtain ⟨n, hn, rfl⟩ := List.mem_map.1 ht
     exact ⟨hD n hn, rfl⟩
 | r :: Ls, D, c, h, hD => by
   obtain ⟨h1, h2⟩ := h
   obtain ⟨e1, e2, e3, e4⟩ := up_is Ls D r.sum h2 hD
   have hp := splitBy_prts r (up Ls D) e1.symm
   refine ⟨by show (splitBy r (up Ls D)).length = c; rw [splitBy_len]; exact h1, ?_, ?_, splitBy_ok r _ e4⟩
   · show (splitBy r (up Ls D)).map plen :: lvl Ls.length (prts (splitBy r (up Ls D))) = r :: Ls
     rw [hp, e2, splitBy_plen r _ (by omega)]
   · show datN Ls.length (prts (splitBy r (up Ls D))) = D
     rw [hp, e3]
/-- The array of a valid layout. -/
theorem up_one {Ls : List (List Nat)} {D : List Nat} (h : Val 1 Ls D) (hD : ∀ n ∈ D, n < 10007) : ∃ v, Ok Ls.length v ∧ lvl Ls.length [v] = Ls ∧ datN Ls.length [v] = D := by
 obtain ⟨e1, e2, e3, e4⟩ := up_is Ls D 1 h hD
 obtain ⟨v, hv⟩ := List.length_eq_one_iff.1 e1
 rw [hv] at e2 e3 e4
 exact ⟨v, e4 v (by simp), e2, e3⟩
/-- All that an array has, level by level. -/
theorem nodes_gen : ∀ (d : Nat) (ts : List Tr), (ts.map (nodes d)).sum = ((lvl d ts).map List.length).sum + (datN d ts).length
 | 0, ts => by
   show (ts.map (fun _ => 1)).sum = 0 + (ts.map Tr.n).length
   rw [List.length_map]
   induction ts with
   | nil => rfl
   | cons t ts ih => rw [List.map_cons, List.sum_cons, ih, List.length_cons]; omega
 | d + 1, ts => by
   have ih := nodes_gen d (prts ts)
   have e : (ts.map (nodes (d + 1))).sum = ts.length + ((prts ts).map (nodes d)).sum := by
     clear ih
     induction ts with
     | nil => rfl
     | cons t ts iht =>
       have e1 : prts (t :: ts) = t.parts ++ prts ts := by simp [prts]
       rw [e1, List.map_append, List.sum_append, List.map_cons, List.sum_cons, iht, List.length_cons]
       show 1 + (t.parts.map (nodes d)).sum + _ = _
       omega
   rw [e, ih]
   show _ = (((ts.map plen) :: lvl d (prts ts)).map List.length).sum + (datN d (prts ts)).length
   rw [List.map_cons, List.sum_cons, List.length_map]
   omega
end Go.Proofs.YtidpankoobdfjaaGreatDoor.K
namespace Go.Proofs.YtidpankoobdfjaaGreatDoor.K
open Go.RowKit Go.Proofs.YtidpankoobdfjaaGreatDoorW.PrintWords Go.Proofs.YtidpankoobdfjaaGreatDoorW.PrintLast Go.Proofs.YtidpankoobdfjaaGreatDoorW.PrintMore Go.Proofs.YtidpankoobdfjaaGreatDoor.Q
set_option linter.unusedSimpArgs false
set_option linter.unusedVariables false

def In (M : Nat) (r : List Int) : Prop := ∀ z ∈ r, 0 ≤ z ∧ z ≤ (M : Int)
instance (M : Nat) (r : List Int) : Decidable (In M r) := by unfold In; infer_instance
def isum (r : List Int) : Int := (r.map Int.toNat).sum
def wrongV (d : Nat) (D : List Int) : Nat → Int → List (List Int) → Int
 | _, c, [] => if (D.length : Int) = c ∧ In 10006 D then -1 else (d : Int)
 | i, c, r :: Ls => if i < 3 ∧ (r.length : Int) = c ∧ In 400 r then wrongV d D (i + 1) (isum r) Ls else (i : Int)
theorem wrongV_ok {d : Nat} {D : List Int} {i : Nat} {c : Int} (h : (D.length : Int) = c ∧ In 10006 D) : wrongV d D i c [] = -1 := if_pos h
theorem wrongV_no {d : Nat} {D : List Int} {i : Nat} {c : Int} (h : ¬ ((D.length : Int) = c ∧ In 10006 D)) : wrongV d D i c [] = (d : Int) := if_neg h
theorem wrongV_on {d : Nat} {D : List Int} {i : Nat} {c : Int} {r : List Int} {Ls : List (List Int)} (h : i < 3 ∧ (r.length : Int) = c ∧ In 400 r) : wrongV d D i c (r :: Ls) = wrongV d D (i + 1) (isum r) Ls := if_pos h
theorem wrongV_at {d : Nat} {D : List Int} {i : Nat} {c : Int} {r : List Int} {Ls : List (List Int)} (h : ¬ (i < 3 ∧ (r.length : Int) = c ∧ In 400 r)) : wrongV d D i c (r :: Ls) = (i : Int) := if_neg h
theorem in_ints {M : Nat} {r : List Int} (h : In M r) : r = ints (r.map Int.toNat) ∧ ∀ x ∈ r.map Int.toNat, x ≤ M := by
 constructor
 · show r = (r.map Int.toNat).map (fun n : Nat => (n : Int))
   rw [List.map_map]
   conv => lhs; rw [← List.map_id r]
   refine List.map_congr_left (fun z hz => ?_)
   have := h z hz
   show z = ((z.toNat : Nat) : Int)
   omega
 · intro x hx
   obtain ⟨z, hz, rfl⟩ := List.mem_map.1 hx
   have := h z hz
   omega
theorem within_dec (r : List Int) (M : Nat) (hl : r.length ≤ 1000000) : impl_within.f r (M : Int) = some (decide (In M r)) := by
 unfold impl_within.f
 rw [if_pos (by omega)]
 congr 1
 by_cases h : In M r
 · rw [decide_eq_true h]
   have : r.any (outR (M : Int)) = false := by
     rw [List.any_eq_false]
     intro z hz
     have := h z hz
     simp [outR]
     omega
   rw [this]
   rfl
 · rw [decide_eq_false h]
   have : r.any (outR (M : Int)) = true := by
     rw [List.any_eq_true]
     by_cases hc : ∃ z ∈ r, outR (M : Int) z = true
     · exact hc
     · exfalso
       refine h (fun z hz => ?_)
       have hz2 : ¬ outR (M : Int) z = true := fun e => hc ⟨z, hz, e⟩
       simp [outR] at hz2
       omega
   rw [this]
   rfl
theorem sum_bd (M : Nat) : ∀ (xs : List Nat), (∀ x ∈ xs, x ≤ M) → xs.sum ≤ xs.length * M
 | [], _ => by simp
 | x :: xs, h => by
   have h1 := h x (by simp)
   have h2 := sum_bd M xs (fun y hy => h y (List.mem_cons_of_mem _ hy))
   rw [List.sum_cons, List.length_cons, Nat.succ_mul]
   omega
theorem total_in {r : List Int} (h : In 400 r) (hl : r.length ≤ 2000) : Ev (fun k => impl_total.f k r) (isum r) := by
 obtain ⟨e1, e2⟩ := in_ints h
 have hs := sum_bd 400 (r.map Int.toNat) e2
 have := total_is (r.map Int.toNat) (by rw [List.length_map] at hs; omega) (by rw [List.length_map]; omega)
 rw [← e1] at this
 exact this
theorem in_nil {M : Nat} : In M [] := fun z hz => by cases hz
theorem in_cons {M : Nat} {z : Int} {r : List Int} : In M (z :: r) ↔ (0 ≤ z ∧ z ≤ (M : Int)) ∧ In M r := by
 unfold In
 simp
theorem isum_nn (r : List Int) : 0 ≤ isum r := by unfold isum; omega
theorem getL {L : List (List Int)} {i : Nat} (h : i < L.length) : rd_L3 L (i : Int) = L[i] := by
 show L.getD i [] = _
 rw [List.getD_eq_getElem?_getD, List.getElem?_eq_getElem h]
 rfl
theorem wrongA_l0 (L : List (List Int)) (D : List Int) (hL : L.length ≤ 1000) (hb : ∀ r ∈ L, r.length ≤ 2000) (hD : D.length ≤ 2000) : ∀ (n i : Nat) (c : Int), L.length - i = n → i ≤ L.length → i ≤ 3 → Ev (fun k => impl_wrong.l0 k c L (L.length : Int) (i : Int) L D) (wrongV L.length D i c (L.drop i)) := by
 intro n
 induction n with
 | zero =>
   intro i c h1 h2 h3
   rw [List.drop_eq_nil_of_le (by omega)]
   have hw := within_dec D 10006 (by omega)
   refine Ev.step' ?_; simp only [impl_wrong.l0]
   refine Ev.neg (by omega) ?_
   by_cases hc : (D.length : Int) = c
   · refine Ev.pos hc (Ev.call hw ?_)
     by_cases hI : In 10006 D
     · rw [wrongV_ok ⟨hc, hI⟩]
       exact Ev.pos (decide_eq_true hI) (Ev.now _)
     · rw [wrongV_no (fun h => hI h.2)]
       exact Ev.neg (by simpa using hI) (Ev.now _)
   · rw [wrongV_no (fun h => hc h.1)]
     exact Ev.neg hc (Ev.now _)
 | succ n ih =>
   intro i c h1 h2 h3
   have hi : i < L.length := by omega
   rw [List.drop_eq_getElem_cons hi]
   have hw := within_dec L[i] 400 (Nat.le_trans (hb _ (List.getElem_mem hi)) (by omega))
   refine Ev.step' ?_; simp only [impl_wrong.l0]
   refine Ev.pos (by omega) (Ev.pos (by omega) (Ev.pos (by omega) ?_))
   by_cases h3' : (i : Int) = 3
   · rw [wrongV_at (fun h => by omega)]
     exact Ev.pos h3' (Ev.now _)
   · refine Ev.neg h3' ?_
     rw [getL hi]
     by_cases hc : (L[i].length : Int) = c
     · refine Ev.pos hc (Ev.call hw ?_)
       by_cases hI : In 400 L[i]
       · rw [wrongV_on ⟨by omega, hc, hI⟩]
         refine Ev.pos (decide_eq_true hI) (Ev.bind (total_in hI (hb _ (List.getElem_mem hi))) ?_)
         rw [wrapS (by omega) (by omega)]
         exact ih (i + 1) _ (by omega) (by omega) (by omega)
       · rw [wrongV_at (fun h => hI h.2.2)]
         exact Ev.neg (by simpa using hI) (Ev.now _)
     · rw [wrongV_at (fun h => hc h.2.1)]
       exact Ev.neg hc (Ev.now _)
theorem wrongV_le (D : List Int) : ∀ (Ls : List (List Int)) (d i : Nat) (c : Int), i + Ls.length = d → wrongV d D i c Ls = -1 ∨ (0 ≤ wrongV d D i c Ls ∧ wrongV d D i c Ls ≤ (d : Int))
 | [], d, i, c, h => by
   unfold wrongV
   split
   · exact .inl rfl
   · exact .inr ⟨by omega, by omega⟩
 | r :: Ls, d, i, c, h => by
   rw [List.length_cons] at h
   unfold wrongV
   split
   · exact wrongV_le D Ls d (i + 1) _ (by omega)
   · exact .inr ⟨by omega, by omega⟩
/-- What is not wrong: levels of whole numbers that fit. -/
theorem wrongV_val (D : List Int) : ∀ (Ls : List (List Int)) (d i c : Nat), wrongV d D i (c : Int) Ls = -1 → ∃ (Ns : List (List Nat)) (Dn : List Nat), Ls = Ns.map ints ∧ D = ints Dn ∧ Val c Ns Dn ∧ (∀ n ∈ Dn, n < 10007) ∧ (Ls = [] ∨ i + Ls.length ≤ 3)
 | [], d, i, c, h => by
   unfold wrongV at h
   split at h
   · next hc =>
     obtain ⟨e1, e2⟩ := in_ints hc.2
     refine ⟨[], D.map Int.toNat, rfl, e1, ?_, fun n hn => by have := e2 n hn; omega, .inl rfl⟩
     show (D.map Int.toNat).length = c
     rw [List.length_map]
     omega
   · omega
 | r :: Ls, d, i, c, h => by
   unfold wrongV at h
   split at h
   · next hc =>
     obtain ⟨h3, hl, hI⟩ := hc
     obtain ⟨e1, e2⟩ := in_ints hI
     obtain ⟨Ns, Dn, q1, q2, q3, q4, q5⟩ := wrongV_val D Ls d (i + 1) (r.map Int.toNat).sum h
     refine ⟨r.map Int.toNat :: Ns, Dn, by rw [List.map_cons, ← e1, ← q1], q2, ⟨by rw [List.length_map]; omega, q3⟩, q4, .inr ?_⟩
     rw [List.length_cons]
     rcases q5 with rfl | q5
     · simp; omega
     · omega
   · omega
end Go.Proofs.YtidpankoobdfjaaGreatDoor.K
namespace Go.Proofs.YtidpankoobdfjaaGreatDoor.K
open Go.RowKit Go.Proofs.YtidpankoobdfjaaGreatDoorW.PrintWords Go.Proofs.YtidpankoobdfjaaGreatDoorW.PrintLast Go.Proofs.YtidpankoobdfjaaGreatDoorW.PrintMore Go.Proofs.YtidpankoobdfjaaGreatDoor.Q
set_option linter.unusedSimpArgs false
set_option linter.unusedVariables false

def vok (c : Int) (L : List (List Int)) (D : List Int) : Bool := decide (0 ≤ c ∧ c ≤ 2000 ∧ wrongV L.length D 0 c L = -1)
theorem validA (c : Int) (L : List (List Int)) (D : List Int) (hL : L.length ≤ 1000) (hb : ∀ r ∈ L, r.length ≤ 2000) (hD : D.length ≤ 2000) : Ev (fun k => impl_VectorValid.f k c L D) (vok c L D) := by
 unfold impl_VectorValid.f vok
 by_cases h0 : 0 ≤ c
 · by_cases h1 : c ≤ 2000
   · have hA := wrongA_l0 L D hL hb hD _ 0 c rfl (Nat.zero_le _) (by omega)
     rw [List.drop_zero] at hA
     have hw : Ev (fun k => impl_wrong.f k L D c) (wrongV L.length D 0 c L) := by unfold impl_wrong.f; exact hA
     refine Ev.pos h0 (Ev.pos h1 (Ev.bind hw (Ev.val ?_)))
     rcases wrongV_le D L L.length 0 c (by omega) with e | ⟨e, _⟩
     · rw [e]
       simp [h0, h1]
     · rw [decide_eq_false (by omega), decide_eq_false (by omega)]
   · refine Ev.pos h0 (Ev.neg h1 (Ev.val ?_))
     rw [decide_eq_false (fun h => h1 h.2.1)]
 · refine Ev.neg h0 (Ev.val ?_)
   rw [decide_eq_false (fun h => h0 h.1)]
theorem l3Num_l0 (D : List Int) (hD : D.length ≤ 2000) : ∀ (n i : Nat), D.length - i = n → i ≤ D.length → Ev (fun k => spec_l3Numbers.l0 k D (D.length : Int) (i : Int)) (decide (In 10006 (D.drop i))) := by
 intro n
 induction n with
 | zero =>
   intro i h1 h2
   rw [List.drop_eq_nil_of_le (by omega)]
   refine Ev.step' ?_; simp only [spec_l3Numbers.l0]
   exact Ev.neg (by omega) (Ev.val (by rw [decide_eq_true in_nil]))
 | succ n ih =>
   intro i h1 h2
   have hi : i < D.length := by omega
   have hnext := ih (i + 1) (by omega) (by omega)
   rw [List.drop_eq_getElem_cons hi]
   refine Ev.step' ?_; simp only [spec_l3Numbers.l0]
   refine Ev.pos (by omega) (Ev.pos (by omega) (Ev.pos (by omega) ?_))
   rw [rd_at hi, inN_is, wrapS (by omega) (by omega)]
   by_cases hc : 0 ≤ D[i] ∧ D[i] ≤ 10006
   · refine Ev.bind (Ev.now _) (Ev.pos (decide_eq_true hc) ?_)
     have e : decide (In 10006 (D[i] :: D.drop (i + 1))) = decide (In 10006 (D.drop (i + 1))) := by
       by_cases h : In 10006 (D.drop (i + 1))
       · rw [decide_eq_true h, decide_eq_true (in_cons.2 ⟨hc, h⟩)]
       · rw [decide_eq_false h, decide_eq_false (fun h' => h (in_cons.1 h').2)]
     rw [e]
     exact hnext
   · refine Ev.bind (Ev.now _) (Ev.neg (by rw [decide_eq_true_eq]; exact hc) (Ev.val ?_))
     rw [decide_eq_false (fun h' => hc (in_cons.1 h').1)]
theorem l3Num_is (D : List Int) (hD : D.length ≤ 2000) : Ev (fun k => spec_l3Numbers.f k D) (decide (In 10006 D)) := by
 unfold spec_l3Numbers.f
 have := l3Num_l0 D hD _ 0 rfl (Nat.zero_le _)
 rw [List.drop_zero] at this
 exact this
theorem validS_l1 (c : Int) (L : List (List Int)) (D : List Int) (r : List Int) (hr : r.length ≤ 2000) (i : Nat) (hi : i ≤ 1000) (R : Bool)
   (hgo : In 400 r → Ev (fun k => spec_VectorValid.l0 k (isum r) L (L.length : Int) (wrap64 ((i : Int) + 1)) c L D) R) (hno : ¬ In 400 r → R = false) : ∀ (n j : Nat) (s : Int), r.length - j = n → j ≤ r.length → 0 ≤ s → s ≤ 400 * (j : Int) → (In 400 r → s + isum (r.drop j) = isum r) → (In 400 (r.drop j) → In 400 r) →
   Ev (fun k => spec_VectorValid.l1 k s L (L.length : Int) (i : Int) r (r.length : Int) (j : Int) c L D) R := by
 intro n
 induction n with
 | zero =>
   intro j s h1 h2 h3 h4 h5 h6
   rw [List.drop_eq_nil_of_le (by omega)] at h5 h6
   have hI : In 400 r := h6 (fun z hz => by cases hz)
   have e : s = isum r := by
     have := h5 hI
     simp [isum] at this ⊢
     omega
   refine Ev.step' ?_; simp only [spec_VectorValid.l1]
   rw [e]
   exact Ev.neg (by omega) (hgo hI)
 | succ n ih =>
   intro j s h1 h2 h3 h4 h5 h6
   have hj : j < r.length := by omega
   rw [List.drop_eq_getElem_cons hj] at h5 h6
   refine Ev.step' ?_; simp only [spec_VectorValid.l1]
   refine Ev.pos (by omega) (Ev.pos (by omega) (Ev.pos (by omega) ?_))
   rw [rd_at hj, inN_is]
   by_cases hc : 0 ≤ r[j] ∧ r[j] ≤ 400
   · have hnext := ih (j + 1) (s + r[j]) (by omega) (by omega) (by omega) (by omega) (fun hI => by
       have := h5 hI
       simp only [isum, List.map_cons, List.sum_cons] at this ⊢
       omega) (fun hI => h6 (in_cons.2 ⟨hc, hI⟩))
     refine Ev.bind (Ev.now _) (Ev.pos (decide_eq_true hc) ?_)
     rw [wrapS (by omega) (by omega), wrapS (by omega) (by omega)]
     exact hnext
   · refine Ev.bind (Ev.now _) (Ev.neg (by rw [decide_eq_true_eq]; exact hc) (Ev.val ?_))
     exact (hno (fun hI => hc (hI _ (List.getElem_mem hj)))).symm
theorem validS_l0 (c0 : Int) (L : List (List Int)) (D : List Int) (hL : L.length ≤ 3) (hb : ∀ r ∈ L, r.length ≤ 2000) (hD : D.length ≤ 2000) : ∀ (n i : Nat) (c : Int), L.length - i = n → i ≤ L.length → Ev (fun k => spec_VectorValid.l0 k c L (L.length : Int) (i : Int) c0 L D) (decide (wrongV L.length D i c (L.drop i) = -1)) := by
 intro n
 induction n with
 | zero =>
   intro i c h1 h2
   rw [List.drop_eq_nil_of_le (by omega)]
   have hw := l3Num_is D hD
   refine Ev.step' ?_; simp only [spec_VectorValid.l0]
   refine Ev.neg (by omega) ?_
   by_cases hc : (D.length : Int) = c
   · refine Ev.pos hc (Ev.bind hw (Ev.val ?_))
     by_cases hI : In 10006 D
     · rw [wrongV_ok ⟨hc, hI⟩, decide_eq_true hI]
       rfl
     · rw [wrongV_no (fun h => hI h.2), decide_eq_false hI, decide_eq_false (by omega)]
   · rw [wrongV_no (fun h => hc h.1)]
     exact Ev.neg hc (Ev.val (by rw [decide_eq_false (by omega)]))
 | succ n ih =>
   intro i c h1 h2
   have hi : i < L.length := by omega
   rw [List.drop_eq_getElem_cons hi]
   have hbi := hb _ (List.getElem_mem hi)
   refine Ev.step' ?_; simp only [spec_VectorValid.l0]
   refine Ev.pos (by omega) (Ev.pos (by omega) (Ev.pos (by omega) ?_))
   rw [getL hi]
   by_cases hc : (L[i].length : Int) = c
   · refine Ev.pos hc ?_
     refine validS_l1 c0 L D L[i] hbi i (by omega) _ (fun hI => ?_) (fun hI => ?_) _ 0 0 rfl (Nat.zero_le _) (by omega) (by omega) (fun _ => by rw [List.drop_zero, Int.zero_add]) (fun h => by rw [List.drop_zero] at h; exact h)
     · rw [wrongV_on ⟨by omega, hc, hI⟩, wrapS (by omega) (by omega)]
       exact ih (i + 1) _ (by omega) (by omega)
     · rw [wrongV_at (fun h => hI h.2.2), decide_eq_false (by omega)]
   · rw [wrongV_at (fun h => hc h.2.1)]
     exact Ev.neg hc (Ev.val (by rw [decide_eq_false (by omega)]))
theorem validS (c : Int) (L : List (List Int)) (D : List Int) (hL : L.length ≤ 1000) (hb : ∀ r ∈ L, r.length ≤ 2000) (hD : D.length ≤ 2000) : Ev (fun k => spec_VectorValid.f k c L D) (vok c L D) := by
 unfold spec_VectorValid.f vok
 rw [inN_is]
 refine Ev.bind (Ev.now _) ?_
 by_cases hc : 0 ≤ c ∧ c ≤ 2000
 · refine Ev.pos (decide_eq_true hc) ?_
   refine Ev.step' ?_; simp only [spec_VectorValid.j0]
   by_cases h3 : (L.length : Int) > 3
   · refine Ev.pos (decide_eq_true h3) (Ev.val ?_)
     rw [decide_eq_false]
     rintro ⟨_, _, hw⟩
     rcases (wrongV_val D L L.length 0 c.toNat (by rw [Int.toNat_of_nonneg hc.1]; exact hw)) with ⟨Ns, Dn, e1, e2, e3, e4, e5 | e5⟩
     · rw [e5] at h3; simp at h3
     · omega
   · have h := validS_l0 c L D (by omega) hb hD _ 0 c rfl (Nat.zero_le _)
     rw [List.drop_zero] at h
     refine Ev.neg (by rw [decide_eq_true_eq]; exact h3) ?_
     have e : decide (0 ≤ c ∧ c ≤ 2000 ∧ wrongV L.length D 0 c L = -1) = decide (wrongV L.length D 0 c L = -1) := by simp [hc.1, hc.2]
     rw [e]
     exact h
 · refine Ev.neg (by rw [decide_eq_true_eq]; exact hc) ?_
   refine Ev.step' ?_; simp only [spec_VectorValid.j0]
   refine Ev.pos (by first | trivial | rfl) (Ev.val ?_)
   rw [decide_eq_false (fun h => hc ⟨h.1, h.2.1⟩)]
/-- A valid vector is that of arrays. -/
theorem vok_trees {c : Int} {L : List (List Int)} {D : List Int} (h : vok c L D = true) : ∃ ts : List Tr, (∀ t ∈ ts, Ok L.length t) ∧ c = (ts.length : Int) ∧ L = (lvl L.length ts).map ints ∧ D = ints (datN L.length ts) ∧ L.length ≤ 3 ∧ ts.length ≤ 2000 ∧ (ts.map (nodes L.length)).sum = (L.map List.length).sum + D.length := by
 unfold vok at h
 rw [decide_eq_true_eq] at h
 obtain ⟨h0, h1, hw⟩ := h
 obtain ⟨n, rfl⟩ : ∃ n : Nat, c = (n : Int) := ⟨c.toNat, by omega⟩
 obtain ⟨Ns, Dn, e1, e2, e3, e4, e5⟩ := wrongV_val D L L.length 0 n hw
 obtain ⟨u1, u2, u3, u4⟩ := up_is Ns Dn n e3 e4
 have hlen : L.length = Ns.length := by rw [e1, List.length_map]
 have hn := nodes_gen Ns.length (up Ns Dn)
 rw [u2, u3] at hn
 refine ⟨up Ns Dn, by rw [hlen]; exact u4, by rw [u1], by rw [hlen, u2]; exact e1, by rw [hlen, u3]; exact e2, ?_, by omega, ?_⟩
 · rcases e5 with e5 | e5
   · rw [e5]; simp
   · omega
 · rw [hlen, hn, e1, e2, List.length_map, List.map_map]
   congr 2
   refine List.map_congr_left (fun r _ => ?_)
   exact (List.length_map _).symm
end Go.Proofs.YtidpankoobdfjaaGreatDoor.K
namespace Go.Proofs.YtidpankoobdfjaaGreatDoor.K
open Go.RowKit Go.Proofs.YtidpankoobdfjaaGreatDoorW.PrintWords Go.Proofs.YtidpankoobdfjaaGreatDoorW.PrintLast Go.Proofs.YtidpankoobdfjaaGreatDoorW.PrintMore Go.Proofs.YtidpankoobdfjaaGreatDoor.Q
set_option linter.unusedSimpArgs false
set_option linter.unusedVariables false

section
variable {d N : Nat} {ts : List Tr} (hv : ∀ t ∈ ts, Ok d t) (hn : (ts.map (nodes d)).sum ≤ N)
include hv hn
theorem gen_smallL {i : Nat} (hi : i ≤ d) : (gen i ts).length ≤ N ∧ ∀ t ∈ gen i ts, Ok (d - i) t ∧ plen t ≤ N := by
 obtain ⟨e, rfl⟩ : ∃ e, d = e + i := ⟨d - i, by omega⟩
 have h1 := gen_nodes i e ts
 have h2 := sum_cnt (nodes e) (nodes_pos e) (gen i ts)
 refine ⟨by omega, fun t ht => ⟨?_, ?_⟩⟩
 · rw [Nat.add_sub_cancel]
   exact gen_ok i e ts hv t ht
 · have h3 := sum_mem (nodes e) _ t ht
   cases e with
   | zero =>
     have := gen_ok i 0 ts hv t ht
     show t.parts.length ≤ N
     rw [this.2]
     exact Nat.zero_le _
   | succ e =>
     have := parts_len e t
     show t.parts.length ≤ N
     omega
variable (hd : d ≤ 3) (hN : N ≤ 1000000)
include hd hN
theorem raised_l1L : ∀ (i : Nat), i ≤ d → Ev (fun k => impl_raised.l1 k ((gen i ts).map (cA (d - i))) ((i : Int) - 1) ((lvl d ts).map ints) (ints (datN d ts))) (ts.map (cA d))
 | 0, _ => by
   refine Ev.step' ?_; simp only [impl_raised.l1]
   exact Ev.neg (by omega) (Ev.val rfl)
 | i + 1, hi => by
   have ih := raised_l1L i (by omega)
   have hL : ((lvl d ts).map ints).length = d := by rw [List.length_map, lvl_len]
   obtain ⟨g1, g2⟩ := gen_smallL hv hn (i := i) (by omega)
   have hr := rdL_at (lvl_get d i ts (by omega))
   have ei : ((i + 1 : Nat) : Int) - 1 = (i : Int) := by omega
   have h2 := raised_l2 (d - (i + 1)) (i : Int) ((lvl d ts).map ints) (ints (datN d ts)) (ts.map (cA d)) (gen i ts) (fun t ht => by
     have := (g2 t ht).1
     rw [show d - i = d - (i + 1) + 1 by omega] at this
     exact this.1) (by omega) (fun t ht => by have := (g2 t ht).2; omega) (by
     rw [wrapS (by omega) (by omega), show d - (i + 1) + 1 = d - i by omega]
     exact ih) (gen i ts) [] rfl
   rw [gen_succ, ei]
   refine Ev.step' ?_; simp only [impl_raised.l1]
   refine Ev.pos (by omega) (Ev.pos (by omega) (Ev.pos (by rw [hL]; omega) ?_))
   rw [hr]
   exact h2
theorem raised_isL (c : Int) : Ev (fun k => impl_raised.f k ((lvl d ts).map ints) (ints (datN d ts)) c) (ts.map (cA d)) := by
 obtain ⟨g1, g2⟩ := gen_smallL hv hn (i := d) (Nat.le_refl _)
 have hL : ((lvl d ts).map ints).length = d := by rw [List.length_map, lvl_len]
 have hD : (datN d ts).length ≤ N := by simp [datN]; exact g1
 have h1 := raised_l1L hv hn hd hN d (Nat.le_refl _)
 have e : (gen d ts).map (cA (d - d)) = (datN d ts).map (fun n : Nat => (⟨(n : Int), []⟩ : NA)) := by
   rw [Nat.sub_self]
   unfold datN
   rw [List.map_map]
   rfl
 rw [e] at h1
 have h0 := raised_l0 (datN d ts) (by omega) ((lvl d ts).map ints) (ints (datN d ts)) (ts.map (cA d)) (by rw [hL, wrapS (by omega) (by omega)]; exact h1) _ 0 rfl (Nat.zero_le _)
 unfold impl_raised.f
 refine Ev.pos (by omega) (Ev.pos (by rw [List.length_map]; omega) ?_)
 exact h0
end
/-- Arrays laid out one behind the other, by their levels. -/
theorem layTs_lvl (d : Nat) (ts : List Tr) : ts.foldl (fun s x => layT d x 0 s) (List.replicate d [], []) = ((lvl d ts).map ints, ints (datN d ts)) := by
 rw [layL_of (layT_one d) ts 0 _ _ (by rw [List.length_replicate]; omega)]
 rw [List.take_zero, List.drop_zero, List.nil_append, List.nil_append]
 have := nil_zap ((lvl d ts).map ints)
 rw [List.length_map, lvl_len] at this
 rw [this]
theorem layTs_bd (d : Nat) : ∀ (ts : List Tr) (s : List (List Int) × List Int) (B : Nat), Bd B s → (ts.foldl (fun s x => layT d x 0 s) s).1.length = s.1.length ∧ Bd (B + (ts.map (nodes d)).sum) (ts.foldl (fun s x => layT d x 0 s) s)
 | [], s, B, h => ⟨rfl, h⟩
 | t :: ts, s, B, h => by
   obtain ⟨h1, h2⟩ := layT_bd d t 0 s B h
   obtain ⟨h3, h4⟩ := layTs_bd d ts _ _ h2
   refine ⟨h3.trans h1, ?_⟩
   rw [List.map_cons, List.sum_cons, ← Nat.add_assoc]
   exact h4
end Go.Proofs.YtidpankoobdfjaaGreatDoor.K
namespace Go.Proofs.YtidpankoobdfjaaGreatDoor.K
open Go.RowKit Go.Proofs.YtidpankoobdfjaaGreatDoorW.PrintWords Go.Proofs.YtidpankoobdfjaaGreatDoorW.PrintLast Go.Proofs.YtidpankoobdfjaaGreatDoorW.PrintMore Go.Proofs.YtidpankoobdfjaaGreatDoor.Q
set_option linter.unusedSimpArgs false
set_option linter.unusedVariables false

theorem nsEta (x : NS) : (⟨x.f0, x.f1⟩ : NS) = x := by cases x; rfl
def upd (a : Nat → Nat) (j x : Nat) (i : Nat) : Nat := if i = j then x else a i
def pre (ts : List Tr) (m : Nat) : Nat := (prts (ts.take m)).length
theorem prts_split {ts : List Tr} {m : Nat} {T : Tr} (h : ts[m]? = some T) : prts ts = prts (ts.take m) ++ (T.parts ++ prts (ts.drop (m + 1))) := by
 obtain ⟨hm, rfl⟩ := List.getElem?_eq_some_iff.1 h
 have e : ts = ts.take m ++ (ts[m] :: ts.drop (m + 1)) := by rw [← List.drop_eq_getElem_cons hm, List.take_append_drop]
 conv => lhs; rw [e]
 rw [prts_app]
 rfl
theorem pre_succ {ts : List Tr} {m : Nat} {T : Tr} (h : ts[m]? = some T) : pre ts (m + 1) = pre ts m + plen T := by
 obtain ⟨hm, rfl⟩ := List.getElem?_eq_some_iff.1 h
 unfold pre
 rw [take_snoc _ _ hm, prts_app, prts_one, List.length_append]
 rfl
theorem prts_at {ts : List Tr} {m t : Nat} {T x : Tr} (h : ts[m]? = some T) (hx : T.parts[t]? = some x) : (prts ts)[pre ts m + t]? = some x := by
 have ht := (List.getElem?_eq_some_iff.1 hx).1
 rw [prts_split h]
 unfold pre
 rw [List.getElem?_append_right (by omega), Nat.add_sub_cancel_left, List.getElem?_append_left ht]
 exact hx
theorem next_leaf (L : List (List Int)) (D : List Int) (a : Nat → Nat) (j : Nat) (hj : j ≤ 3) (hL : L.length = j) (hm : a j < D.length) (hb : a j ≤ 1000000) :
   Ev (fun k => spec_l2Folder_next.f k L D (a 0 : Int) (a 1 : Int) (a 2 : Int) (a 3 : Int) (j : Int)) (rd D (a j : Int), [], ((upd a j (a j + 1) 0 : Nat) : Int), ((upd a j (a j + 1) 1 : Nat) : Int), ((upd a j (a j + 1) 2 : Nat) : Int), ((upd a j (a j + 1) 3 : Nat) : Int)) := by
 have ew : wrap64 ((a j : Int) + 1) = ((a j + 1 : Nat) : Int) := by rw [wrapS (by omega) (by omega)]; omega
 obtain rfl | rfl | rfl | rfl : j = 0 ∨ j = 1 ∨ j = 2 ∨ j = 3 := by omega
 · refine Ev.step' ?_; simp only [spec_l2Folder_next.f]
   refine Ev.call rfl (Ev.pos (by omega) (Ev.pos (by omega) (Ev.pos (by omega) (Ev.pos (by omega) ?_))))
   rw [ew]
   exact Ev.now _
 · refine Ev.step' ?_; simp only [spec_l2Folder_next.f]
   refine Ev.call rfl (Ev.neg (by omega) (Ev.pos (by omega) (Ev.pos (by omega) (Ev.pos (by omega) (Ev.pos (by omega) ?_)))))
   rw [ew]
   exact Ev.now _
 · refine Ev.step' ?_; simp only [spec_l2Folder_next.f]
   refine Ev.call rfl (Ev.neg (by omega) (Ev.neg (by omega) (Ev.pos (by omega) (Ev.pos (by omega) (Ev.pos (by omega) (Ev.pos (by omega) ?_))))))
   rw [ew]
   exact Ev.now _
 · refine Ev.step' ?_; simp only [spec_l2Folder_next.f]
   refine Ev.call rfl (Ev.neg (by omega) (Ev.neg (by omega) (Ev.neg (by omega) (Ev.pos (by omega) (Ev.pos (by omega) (Ev.pos (by omega) (Ev.pos (by omega) ?_)))))))
   rw [ew]
   exact Ev.now _
theorem next_step (L : List (List Int)) (D : List Int) (a : Nat → Nat) (j : Nat) (hj : j ≤ 2) (hL : j < L.length) {r : List Int} (hr : rd_L3 L (j : Int) = r) (hm : a j < r.length) (hb : a j ≤ 1000000) {R : Int × List NS × Int × Int × Int × Int}
   (h : Ev (fun k => spec_l2Folder_next.l0 k (j : Int) (rd r (a j : Int)) 0 L D ((upd a j (a j + 1) 0 : Nat) : Int) ((upd a j (a j + 1) 1 : Nat) : Int) ((upd a j (a j + 1) 2 : Nat) : Int) ((upd a j (a j + 1) 3 : Nat) : Int) 0 []) R) :
   Ev (fun k => spec_l2Folder_next.f k L D (a 0 : Int) (a 1 : Int) (a 2 : Int) (a 3 : Int) (j : Int)) R := by
 have ew : wrap64 ((a j : Int) + 1) = ((a j + 1 : Nat) : Int) := by rw [wrapS (by omega) (by omega)]; omega
 obtain rfl | rfl | rfl : j = 0 ∨ j = 1 ∨ j = 2 := by omega
 · refine Ev.step' ?_; simp only [spec_l2Folder_next.f]
   rw [hr]
   refine Ev.call rfl (Ev.pos (by omega) (Ev.neg (by omega) (Ev.pos (by omega) (Ev.pos (by omega) (Ev.pos (by omega) (Ev.pos (by omega) ?_))))))
   rw [ew]
   exact h
 · refine Ev.step' ?_; simp only [spec_l2Folder_next.f]
   rw [hr]
   refine Ev.call rfl (Ev.neg (by omega) (Ev.pos (by omega) (Ev.neg (by omega) (Ev.pos (by omega) (Ev.pos (by omega) (Ev.pos (by omega) (Ev.pos (by omega) ?_)))))))
   rw [ew]
   exact h
 · refine Ev.step' ?_; simp only [spec_l2Folder_next.f]
   rw [hr]
   refine Ev.call rfl (Ev.neg (by omega) (Ev.neg (by omega) (Ev.pos (by omega) (Ev.neg (by omega) (Ev.pos (by omega) (Ev.pos (by omega) (Ev.pos (by omega) (Ev.pos (by omega) ?_))))))))
   rw [ew]
   exact h
/-- The counters of the levels below, as they follow from a level's. -/
def dn (us : List Tr) (j m : Nat) : Nat → Nat
 | 0 => m
 | s + 1 => pre (gen (j + s) us) (dn us j m s)
def cv (us : List Tr) (d j m : Nat) (c : Nat → Nat) (i : Nat) : Nat := if i < j ∨ d < i then c i else dn us j m (i - j)
theorem dn_shift (us : List Tr) (j m : Nat) : ∀ s, dn us (j + 1) (pre (gen j us) m) s = dn us j m (s + 1)
 | 0 => rfl
 | s + 1 => by
   show pre (gen (j + 1 + s) us) (dn us (j + 1) (pre (gen j us) m) s) = pre (gen (j + (s + 1)) us) (dn us j m (s + 1))
   rw [dn_shift us j m s, show j + 1 + s = j + (s + 1) by omega]
theorem cv_next {us : List Tr} {d j : Nat} (hj : j < d) (m x : Nat) (c : Nat → Nat) (i : Nat) : cv us d (j + 1) (pre (gen j us) m) (upd c j x) i = upd (cv us d j m c) j x i := by
 unfold cv upd
 by_cases h1 : i = j
 · subst h1
   rw [if_pos (by omega), if_pos rfl, if_pos rfl]
 · rw [if_neg h1, if_neg h1]
   by_cases h2 : i < j ∨ d < i
   · rw [if_pos (by omega)]
     show c i = (if i < j ∨ d < i then c i else dn us j m (i - j))
     rw [if_pos h2]
   · rw [if_neg (by omega)]
     show _ = (if i < j ∨ d < i then c i else dn us j m (i - j))
     rw [if_neg h2, dn_shift]
     congr 1
     omega
theorem cv_self {us : List Tr} {d j : Nat} (hj : j ≤ d) (m : Nat) (c : Nat → Nat) : cv us d j m c j = m := by
 unfold cv
 rw [if_neg (by omega), Nat.sub_self]
 rfl
theorem upd_cv {us : List Tr} {d j : Nat} (hj : j < d) (m : Nat) (c : Nat → Nat) (i : Nat) : upd (cv us d j (m + 1) c) j (m + 1) i = cv us d j (m + 1) c i := by
 unfold upd
 by_cases h : i = j
 · subst h
   rw [if_pos rfl, cv_self (by omega)]
 · rw [if_neg h]
theorem cv_leaf {us : List Tr} {d : Nat} (m : Nat) (c : Nat → Nat) (i : Nat) : upd (cv us d d m c) d (m + 1) i = cv us d d (m + 1) c i := by
 unfold upd cv
 by_cases h : i = d
 · subst h
   rw [if_pos rfl, if_neg (by omega), Nat.sub_self]
   rfl
 · rw [if_neg h, if_pos (by omega), if_pos (by omega)]
def NextIs (us : List Tr) (d j : Nat) : Prop := ∀ (m : Nat) (T : Tr) (c : Nat → Nat), (gen j us)[m]? = some T →
 Ev (fun k => spec_l2Folder_next.f k ((lvl d us).map ints) (ints (datN d us)) (cv us d j m c 0 : Int) (cv us d j m c 1 : Int) (cv us d j m c 2 : Int) (cv us d j m c 3 : Int) (j : Int))
   ((cS (d - j) T).f0, (cS (d - j) T).f1, (cv us d j (m + 1) c 0 : Int), (cv us d j (m + 1) c 1 : Int), (cv us d j (m + 1) c 2 : Int), (cv us d j (m + 1) c 3 : Int))
section
variable {d N : Nat} {us : List Tr} (hd : d ≤ 3) (hv : ∀ t ∈ us, Ok d t) (hn : (us.map (nodes d)).sum ≤ N) (hN : N ≤ 100000)
include hd hv hn hN
theorem next_d : NextIs us d d := by
 intro m T c hT
 obtain ⟨hm, rfl⟩ := List.getElem?_eq_some_iff.1 hT
 obtain ⟨g1, g2⟩ := gen_smallL hv hn (i := d) (Nat.le_refl _)
 have hL : ((lvl d us).map ints).length = d := by rw [List.length_map, lvl_len]
 have hs := cv_self (us := us) (d := d) (j := d) (Nat.le_refl _) m c
 have hD : m < (datN d us).length := by simp [datN]; exact hm
 have h := next_leaf ((lvl d us).map ints) (ints (datN d us)) (cv us d d m c) d hd hL (by rw [hs, List.length_map]; exact hD) (by rw [hs]; omega)
 rw [hs] at h
 simp only [cv_leaf] at h
 rw [rdN_at hD] at h
 have e : ((datN d us)[m] : Int) = (cS (d - d) (gen d us)[m]).f0 := by
   rw [cS_f0]
   simp [datN]
 rw [e] at h
 rw [show (cS (d - d) (gen d us)[m]).f1 = [] by rw [Nat.sub_self]; rfl]
 exact h
theorem next_l0 {j : Nat} (hj : j < d) (ih : NextIs us d (j + 1)) {m : Nat} {T : Tr} (hT : (gen j us)[m]? = some T) (c : Nat → Nat) : ∀ (n t : Nat), T.parts.length - t = n → t ≤ T.parts.length →
   Ev (fun k => spec_l2Folder_next.l0 k (j : Int) ((T.parts.length : Nat) : Int) (t : Int) ((lvl d us).map ints) (ints (datN d us)) (cv us d (j + 1) (pre (gen j us) m + t) c 0 : Int) (cv us d (j + 1) (pre (gen j us) m + t) c 1 : Int) (cv us d (j + 1) (pre (gen j us) m + t) c 2 : Int) (cv us d (j + 1) (pre (gen j us) m + t) c 3 : Int) 0 ((T.parts.take t).map (cS (d - (j + 1)))))
     (0, T.parts.map (cS (d - (j + 1))), (cv us d (j + 1) (pre (gen j us) m + T.parts.length) c 0 : Int), (cv us d (j + 1) (pre (gen j us) m + T.parts.length) c 1 : Int), (cv us d (j + 1) (pre (gen j us) m + T.parts.length) c 2 : Int), (cv us d (j + 1) (pre (gen j us) m + T.parts.length) c 3 : Int)) := by
 obtain ⟨g1, g2⟩ := gen_smallL hv hn (i := j) (by omega)
 have hpl : T.parts.length ≤ N := (g2 T (List.mem_of_getElem? hT)).2
 intro n
 induction n with
 | zero =>
   intro t h1 h2
   obtain rfl : t = T.parts.length := by omega
   rw [List.take_length]
   refine Ev.step' ?_; simp only [spec_l2Folder_next.l0]
   exact Ev.neg (by omega) (Ev.now _)
 | succ n ihn =>
   intro t h1 h2
   have ht : t < T.parts.length := by omega
   have hx : T.parts[t]? = some T.parts[t] := List.getElem?_eq_getElem ht
   have hg : (gen (j + 1) us)[pre (gen j us) m + t]? = some T.parts[t] := by rw [gen_succ]; exact prts_at hT hx
   have b1 : (t : Int) < ((T.parts.length : Nat) : Int) := by omega
   have b2 : ((T.parts.take t).map (cS (d - (j + 1)))).length < 4398046511104 := by rw [List.length_map, List.length_take]; omega
   have ej : wrap64 ((j : Int) + 1) = ((j + 1 : Nat) : Int) := by rw [wrapS (by omega) (by omega)]; omega
   have et : wrap64 ((t : Int) + 1) = ((t + 1 : Nat) : Int) := by rw [wrapS (by omega) (by omega)]; omega
   have a1 : T.parts.length - (t + 1) = n := by rw [Nat.sub_succ, h1]; rfl
   have hnext := ihn (t + 1) a1 ht
   have h := ih (pre (gen j us) m + t) T.parts[t] c hg
   rw [take_snoc _ _ ht, List.map_append, List.map_singleton, show pre (gen j us) m + (t + 1) = pre (gen j us) m + t + 1 from rfl] at hnext
   refine Ev.step' ?_; simp only [spec_l2Folder_next.l0]
   rw [ej, et]
   refine Ev.pos b1 (Ev.bind h ?_)
   dsimp only
   refine Ev.pos b2 ?_
   rw [nsEta]
   exact hnext
theorem next_is : ∀ (e j : Nat), j + e = d → NextIs us d j
 | 0, j, h => by
   obtain rfl : j = d := by omega
   exact next_d hd hv hn hN
 | e + 1, j, h => by
   have ih := next_is e (j + 1) (by omega)
   intro m T c hT
   obtain ⟨hm, hTm⟩ := List.getElem?_eq_some_iff.1 hT
   obtain ⟨g1, g2⟩ := gen_smallL hv hn (i := j) (by omega)
   have hL : ((lvl d us).map ints).length = d := by rw [List.length_map, lvl_len]
   have hs := cv_self (us := us) (d := d) (j := j) (by omega) m c
   have hr := rdL_at (lvl_get d j us (by omega))
   have h0 : T.n = 0 := by
     have := (g2 T (List.mem_of_getElem? hT)).1
     rw [show d - j = d - (j + 1) + 1 by omega] at this
     exact this.1
   have hrd : rd (ints ((gen j us).map plen)) (m : Int) = ((T.parts.length : Nat) : Int) := by
     rw [rdN_at (by rw [List.length_map]; exact hm), List.getElem_map, hTm]
     rfl
   have hl := next_l0 hd hv hn hN (j := j) (by omega) ih hT (upd c j (m + 1)) _ 0 rfl (Nat.zero_le _)
   simp only [Nat.add_zero, cv_next (show j < d by omega)] at hl
   have ep : pre (gen j us) m + T.parts.length = pre (gen j us) (m + 1) := (pre_succ hT).symm
   rw [ep] at hl
   simp only [cv_next (show j < d by omega), upd_cv (show j < d by omega)] at hl
   have ec : cS (d - j) T = ⟨0, T.parts.map (cS (d - (j + 1)))⟩ := by
     rw [show d - j = d - (j + 1) + 1 by omega]
     show (⟨(T.n : Int), T.parts.map (cS (d - (j + 1)))⟩ : NS) = _
     rw [h0]
     rfl
   rw [ec]
   refine next_step ((lvl d us).map ints) (ints (datN d us)) (cv us d j m c) j (by omega) (by omega) hr (by rw [hs, List.length_map, List.length_map]; exact hm) (by rw [hs]; omega) ?_
   rw [hs, hrd]
   exact hl
end
theorem cv_zero (us : List Tr) (d : Nat) (i : Nat) : cv us d 0 0 (fun _ => 0) i = 0 := by
 have h : ∀ s, dn us 0 0 s = 0 := by
   intro s
   induction s with
   | zero => rfl
   | succ s ih =>
     show pre (gen (0 + s) us) (dn us 0 0 s) = 0
     rw [ih]
     rfl
 unfold cv
 split
 · rfl
 · exact h _
end Go.Proofs.YtidpankoobdfjaaGreatDoor.K
namespace Go.Proofs.YtidpankoobdfjaaGreatDoor.K
open Go.RowKit Go.Proofs.YtidpankoobdfjaaGreatDoorW.PrintWords Go.Proofs.YtidpankoobdfjaaGreatDoorW.PrintLast Go.Proofs.YtidpankoobdfjaaGreatDoorW.PrintMore Go.Proofs.YtidpankoobdfjaaGreatDoor.Q
set_option linter.unusedSimpArgs false
set_option linter.unusedVariables false

theorem shortA_is (d : Nat) (hd : d ≤ 1000) (t : Tr) (hs : Sh d t) (hn : nodes d t ≤ 1000000000) : Ev (fun k => impl_arr_short.f k (cA d t).f0 (cA d t).f1 (d : Int)) (told (text d t)) := by
 unfold impl_arr_short.f told
 refine Ev.bind (textA_is d hd t hs hn) ?_
 by_cases h : (text d t).length ≤ 400
 · rw [if_pos h]
   exact Ev.neg (by rw [BA_size]; omega) (Ev.now _)
 · rw [if_neg h]
   exact Ev.pos (by rw [BA_size]; omega) (Ev.now _)
end Go.Proofs.YtidpankoobdfjaaGreatDoor.K
namespace Go.Proofs.YtidpankoobdfjaaGreatDoor.K
open Go.RowKit Go.Proofs.YtidpankoobdfjaaGreatDoorW.PrintWords Go.Proofs.YtidpankoobdfjaaGreatDoorW.PrintLast Go.Proofs.YtidpankoobdfjaaGreatDoorW.PrintMore Go.Proofs.YtidpankoobdfjaaGreatDoor.Q
set_option linter.unusedSimpArgs false
set_option linter.unusedVariables false
def TextS (d : Nat) : Prop := ∀ t, Sh d t → nodes d t ≤ 1000000000 → Ev (fun k => spec_l1Text.f k (cS d t).f0 (cS d t).f1 (d : Int)) (BA (text d t))
theorem textS_l0 (d : Nat) (hd : d ≤ 1000) (ih : TextS d) (t : Tr) (hs : Sh (d + 1) t) (hn : nodes (d + 1) t ≤ 1000000000) :
   ∀ (n i : Nat), t.parts.length - i = n → i ≤ t.parts.length → Ev (fun k => spec_l1Text.l0 k ((d + 1 : Nat) : Int) (BA (91 :: Lib.join ((t.parts.take i).map (text d)) [44])) (t.parts.map (cS d)) ((t.parts.map (cS d)).length : Int) (i : Int)) (BA (text (d + 1) t)) := by
 have hpl := parts_len d t
 have htl := text_le (d + 1) t hs
 have hte : (text (d + 1) t).length = (Lib.join (t.parts.map (text d)) [44]).length + 2 := by simp [text]
 intro n
 induction n with
 | zero =>
   intro i h hi
   refine Ev.step' ?_; simp only [spec_l1Text.l0]
   rw [List.take_of_length_le (by omega)]
   refine Ev.neg (by rw [List.length_map]; omega) (Ev.pos (by simp; omega) (Ev.val ?_))
   show BA _ ++ BA [93] = _
   rw [BA_append]
   rfl
 | succ n ihn =>
   intro i h hi
   have hlt : i < t.parts.length := by omega
   have hjl := join_take_le (text d) t.parts i hi
   have hjl2 := join_take_le (text d) t.parts (i + 1) (by omega)
   have hm : t.parts[i] ∈ t.parts := List.getElem_mem hlt
   have hx := ih t.parts[i] (hs _ hm) (by have := nodes_part (d := d) hm; omega)
   have hg : rd_T79 (t.parts.map (cS d)) (i : Int) = cS d t.parts[i] := getD_map _ _ _ _ hlt
   refine Ev.step' ?_; simp only [spec_l1Text.l0]
   refine Ev.pos (by rw [List.length_map]; omega) (Ev.pos (by omega) (Ev.pos (by rw [List.length_map]; omega) ?_))
   rw [hg, show wrap64 (((d + 1 : Nat) : Int) - 1) = (d : Int) by rw [wrapS (by omega) (by omega)]; omega, wrapS (a := (i : Int) + 1) (by omega) (by omega)]
   have hnext := ihn (i + 1) (by omega) (by omega)
   rcases Nat.eq_zero_or_pos i with rfl | h0
   · refine Ev.neg (by simp) (Ev.bind hx ?_)
     rw [take_snoc _ 0 hlt] at hnext hjl2
     simp only [List.take_zero, List.nil_append, List.map_cons, List.map_nil, join_one] at hnext hjl2
     refine Ev.pos (by simp [Lib.join_nil]; omega) ?_
     rw [BA_append]
     exact hnext
   · rw [join_take _ _ _ hlt h0] at hnext hjl2
     rw [List.length_append, List.length_cons] at hjl2
     refine Ev.pos (by omega) (Ev.pos (by simp only [BA_size, List.length_cons]; omega) (Ev.bind hx (Ev.pos (by simp only [BA_size, List.length_cons]; omega) ?_)))
     have e : BA (91 :: Lib.join ((t.parts.take i).map (text d)) [44]) ++ (⟨#[44]⟩ : ByteArray) ++ BA (text d t.parts[i]) = BA (91 :: (Lib.join ((t.parts.take i).map (text d)) [44] ++ 44 :: text d t.parts[i])) := by
       show BA _ ++ BA [44] ++ BA _ = _
       rw [BA_append, BA_append]
       simp
     rw [e]
     exact hnext
theorem textS_is : ∀ d, d ≤ 1000 → TextS d
 | 0, _ => by
   intro t hs hn
   refine Ev.step' ?_; simp only [spec_l1Text.f]
   have h9 : t.n < 1000000000 := hs
   refine Ev.pos (by first | trivial | rfl) (Ev.bind (l13Dec_is t.n (by omega)) (Ev.val rfl))
 | d + 1, hd => by
   intro t hs hn
   refine Ev.step' ?_; simp only [spec_l1Text.f]
   exact Ev.neg (by omega) (textS_l0 d (by omega) (textS_is d (by omega)) t hs hn _ 0 rfl (by omega))

end Go.Proofs.YtidpankoobdfjaaGreatDoor.K
namespace Go.Proofs.YtidpankoobdfjaaGreatDoor.K
open Go.RowKit Go.Proofs.YtidpankoobdfjaaGreatDoorW.PrintWords Go.Proofs.YtidpankoobdfjaaGreatDoorW.PrintLast Go.Proofs.YtidpankoobdfjaaGreatDoorW.PrintMore Go.Proofs.YtidpankoobdfjaaGreatDoor.Q
set_option linter.unusedSimpArgs false
set_option linter.unusedVariables false

theorem toldS_is (d : Nat) (hd : d ≤ 1000) (t : Tr) (hs : Sh d t) (hn : nodes d t ≤ 1000000000) : Ev (fun k => spec_l1Told.f k (cS d t).f0 (cS d t).f1 (d : Int)) (told (text d t)) := by
 unfold spec_l1Told.f told
 refine Ev.bind (textS_is d hd t hs hn) ?_
 by_cases h : (text d t).length ≤ 400
 · rw [if_pos h]
   exact Ev.neg (by rw [BA_size]; omega) (Ev.now _)
 · rw [if_neg h]
   exact Ev.pos (by rw [BA_size]; omega) (Ev.now _)
end Go.Proofs.YtidpankoobdfjaaGreatDoor.K
namespace Go.Proofs.YtidpankoobdfjaaGreatDoor.K
open Go.RowKit Go.Proofs.YtidpankoobdfjaaGreatDoorW.PrintWords Go.Proofs.YtidpankoobdfjaaGreatDoorW.PrintLast Go.Proofs.YtidpankoobdfjaaGreatDoorW.PrintMore Go.Proofs.YtidpankoobdfjaaGreatDoor.Q
set_option linter.unusedSimpArgs false
set_option linter.unusedVariables false

def unpR (d : Nat) (ts : List Tr) : List ByteArray × Bool := if ∀ t ∈ ts, (text d t).length ≤ 400 then (ts.map (fun t => BA (text d t)), true) else ([], false)
theorem told_yes {l : By} (h : l.length ≤ 400) : told l = (BA l, true) := by rw [told, if_pos h]
theorem told_no {l : By} (h : ¬ l.length ≤ 400) : told l = (BA [], false) := by rw [told, if_neg h]
theorem unpR_no {d : Nat} {ts : List Tr} {t : Tr} (ht : t ∈ ts) (h : ¬ (text d t).length ≤ 400) : unpR d ts = ([], false) := by
 unfold unpR
 rw [if_neg (fun h' => h (h' t ht))]
section
variable {d : Nat} {ts : List Tr} (hd : d ≤ 3) (hv : ∀ t ∈ ts, Ok d t) (hn : (ts.map (nodes d)).sum ≤ 100000) (hc : ts.length ≤ 2000) (c : Int) (L : List (List Int)) (D : List Int) (hL : (L.length : Int) = (d : Int))
include hd hv hn hc hL
theorem unpA_l0 : ∀ (n i : Nat), ts.length - i = n → i ≤ ts.length → (∀ t ∈ ts.take i, (text d t).length ≤ 400) →
   Ev (fun k => impl_UnpackVector.l0 k ((ts.take i).map fun t => BA (text d t)) (ts.map (cA d)) ((ts.map (cA d)).length : Int) (i : Int) c L D) (unpR d ts) := by
 intro n
 induction n with
 | zero =>
   intro i h1 h2 h3
   rw [List.take_of_length_le (by omega)] at h3 ⊢
   refine Ev.step' ?_; simp only [impl_UnpackVector.l0]
   refine Ev.neg (by rw [List.length_map]; omega) (Ev.val ?_)
   unfold unpR
   rw [if_pos h3]
 | succ n ihn =>
   intro i h1 h2 h3
   have hlt : i < ts.length := by omega
   have hm := List.getElem_mem hlt
   have hs := sum_mem (nodes d) ts ts[i] hm
   have hx := shortA_is d (by omega) ts[i] (Sh.of (hv _ hm)) (by omega)
   have hg : rd_T68 (ts.map (cA d)) (i : Int) = cA d ts[i] := getD_map _ _ _ _ hlt
   refine Ev.step' ?_; simp only [impl_UnpackVector.l0]
   refine Ev.pos (by rw [List.length_map]; omega) (Ev.pos (by omega) (Ev.pos (by rw [List.length_map]; omega) ?_))
   rw [hg, hL, wrapS (by omega) (by omega)]
   by_cases h4 : (text d ts[i]).length ≤ 400
   · rw [told_yes h4] at hx
     have hnext := ihn (i + 1) (by omega) (by omega) (fun t ht => by
       rw [take_snoc _ _ hlt] at ht
       rcases List.mem_append.1 ht with ht | ht
       · exact h3 t ht
       · rw [List.mem_singleton.1 ht]; exact h4)
     rw [take_snoc _ _ hlt, List.map_append, List.map_singleton] at hnext
     exact Ev.bind hx (Ev.pos rfl (Ev.pos (by rw [List.length_map, List.length_take]; omega) hnext))
   · rw [told_no h4] at hx
     rw [unpR_no hm h4]
     exact Ev.bind hx (Ev.neg (by simp) (Ev.now _))
theorem unpS_l0 : ∀ (n i : Nat), ts.length - i = n → i ≤ ts.length → (∀ t ∈ ts.take i, (text d t).length ≤ 400) →
   Ev (fun k => spec_UnpackVector.l0 k ((ts.take i).map fun t => BA (text d t)) (ts.map (cS d)) ((ts.map (cS d)).length : Int) (i : Int) c L D) (unpR d ts) := by
 intro n
 induction n with
 | zero =>
   intro i h1 h2 h3
   rw [List.take_of_length_le (by omega)] at h3 ⊢
   refine Ev.step' ?_; simp only [spec_UnpackVector.l0]
   refine Ev.neg (by rw [List.length_map]; omega) (Ev.val ?_)
   unfold unpR
   rw [if_pos h3]
 | succ n ihn =>
   intro i h1 h2 h3
   have hlt : i < ts.length := by omega
   have hm := List.getElem_mem hlt
   have hs := sum_mem (nodes d) ts ts[i] hm
   have hx := toldS_is d (by omega) ts[i] (Sh.of (hv _ hm)) (by omega)
   have hg : rd_T79 (ts.map (cS d)) (i : Int) = cS d ts[i] := getD_map _ _ _ _ hlt
   refine Ev.step' ?_; simp only [spec_UnpackVector.l0]
   refine Ev.pos (by rw [List.length_map]; omega) (Ev.pos (by omega) (Ev.pos (by rw [List.length_map]; omega) ?_))
   rw [hg, hL, wrapS (by omega) (by omega)]
   by_cases h4 : (text d ts[i]).length ≤ 400
   · rw [told_yes h4] at hx
     have hnext := ihn (i + 1) (by omega) (by omega) (fun t ht => by
       rw [take_snoc _ _ hlt] at ht
       rcases List.mem_append.1 ht with ht | ht
       · exact h3 t ht
       · rw [List.mem_singleton.1 ht]; exact h4)
     rw [take_snoc _ _ hlt, List.map_append, List.map_singleton] at hnext
     exact Ev.bind hx (Ev.pos rfl (Ev.pos (by rw [List.length_map, List.length_take]; omega) hnext))
   · rw [told_no h4] at hx
     rw [unpR_no hm h4]
     exact Ev.bind hx (Ev.neg (by simp) (Ev.now _))
end
section
variable {d : Nat} {ts : List Tr} (hd : d ≤ 3) (hv : ∀ t ∈ ts, Ok d t) (hn : (ts.map (nodes d)).sum ≤ 100000) (hc : ts.length ≤ 2000)
include hd hv hn hc
theorem l8U_l0 : ∀ (n i : Nat), ts.length - i = n → i ≤ ts.length →
   Ev (fun k => spec_l8Unpack.l0 k ((ts.take i).map (cS d)) (ts.length : Int) (i : Int) ((lvl d ts).map ints) (ints (datN d ts)) (cv ts d 0 i (fun _ => 0) 0 : Int) (cv ts d 0 i (fun _ => 0) 1 : Int) (cv ts d 0 i (fun _ => 0) 2 : Int) (cv ts d 0 i (fun _ => 0) 3 : Int)) (ts.map (cS d)) := by
 intro n
 induction n with
 | zero =>
   intro i h1 h2
   have hi : i = ts.length := by omega
   subst hi
   rw [List.take_length]
   refine Ev.step' ?_; simp only [spec_l8Unpack.l0]
   exact Ev.neg (Int.lt_irrefl _) (Ev.now _)
 | succ n ihn =>
   intro i h1 h2
   have hlt : i < ts.length := by omega
   have b1 : (i : Int) < (ts.length : Int) := by omega
   have b2 : ((ts.take i).map (cS d)).length < 4398046511104 := by rw [List.length_map, List.length_take]; omega
   have ei : wrap64 ((i : Int) + 1) = ((i + 1 : Nat) : Int) := by rw [wrapS (by omega) (by omega)]; omega
   have a1 : ts.length - (i + 1) = n := by rw [Nat.sub_succ, h1]; rfl
   have hnext := ihn (i + 1) a1 hlt
   rw [take_snoc _ _ hlt, List.map_append, List.map_singleton] at hnext
   have hg : (gen 0 ts)[i]? = some ts[i] := List.getElem?_eq_getElem hlt
   have h := next_is (us := ts) hd hv hn (Nat.le_refl _) d 0 (Nat.zero_add d) i ts[i] (fun _ => 0) hg
   rw [Nat.sub_zero] at h
   refine Ev.step' ?_; simp only [spec_l8Unpack.l0]
   rw [ei]
   refine Ev.pos b1 (Ev.bind h ?_)
   dsimp only
   refine Ev.pos b2 ?_
   rw [nsEta]
   exact hnext
theorem l8U_is : Ev (fun k => spec_l8Unpack.f k (ts.length : Int) ((lvl d ts).map ints) (ints (datN d ts))) (ts.map (cS d)) := by
 have h := l8U_l0 hd hv hn hc _ 0 rfl (Nat.zero_le _)
 simp only [cv_zero] at h
 unfold spec_l8Unpack.f
 exact h
theorem unp_trees (hval : vok (ts.length : Int) ((lvl d ts).map ints) (ints (datN d ts)) = true) (hb : ∀ r ∈ (lvl d ts).map ints, r.length ≤ 2000) (hD : (ints (datN d ts)).length ≤ 2000) :
   Ev (fun k => impl_UnpackVector.f k (ts.length : Int) ((lvl d ts).map ints) (ints (datN d ts))) (unpR d ts) ∧ Ev (fun k => spec_UnpackVector.f k (ts.length : Int) ((lvl d ts).map ints) (ints (datN d ts))) (unpR d ts) := by
 have hL : (((lvl d ts).map ints).length : Int) = (d : Int) := by rw [List.length_map, lvl_len]
 have hL2 : ((lvl d ts).map ints).length ≤ 1000 := by rw [List.length_map, lvl_len]; omega
 have vA := validA (ts.length : Int) _ _ hL2 hb hD
 have vS := validS (ts.length : Int) _ _ hL2 hb hD
 rw [hval] at vA vS
 have rA := raised_isL hv hn hd (by omega) (ts.length : Int)
 have rS := l8U_is hd hv hn hc
 have uA := unpA_l0 hd hv hn hc (ts.length : Int) _ (ints (datN d ts)) hL _ 0 rfl (Nat.zero_le _) (fun t ht => by cases ht)
 have uS := unpS_l0 hd hv hn hc (ts.length : Int) _ (ints (datN d ts)) hL _ 0 rfl (Nat.zero_le _) (fun t ht => by cases ht)
 constructor
 · unfold impl_UnpackVector.f impl_Vector_arrays.f
   exact Ev.bind vA (Ev.pos rfl (Ev.bind (Ev.bind rA (Ev.now _)) uA))
 · unfold spec_UnpackVector.f
   exact Ev.call rfl (Ev.bind vS (Ev.pos rfl (Ev.bind rS uS)))
end
theorem unp_not (c : Int) (L : List (List Int)) (D : List Int) (hL : L.length ≤ 1000) (hb : ∀ r ∈ L, r.length ≤ 2000) (hD : D.length ≤ 2000) (hval : vok c L D = false) :
   Ev (fun k => impl_UnpackVector.f k c L D) ([], false) ∧ Ev (fun k => spec_UnpackVector.f k c L D) ([], false) := by
 have vA := validA c L D hL hb hD
 have vS := validS c L D hL hb hD
 rw [hval] at vA vS
 constructor
 · unfold impl_UnpackVector.f
   exact Ev.bind vA (Ev.neg (by simp) (Ev.now _))
 · unfold spec_UnpackVector.f
   exact Ev.call rfl (Ev.bind vS (Ev.neg (by simp) (Ev.now _)))
/-- What arrays of short texts are laid out as is valid. -/
theorem wrongV_of : ∀ (d i dd : Nat) (ts : List Tr), (∀ t ∈ ts, Ok d t ∧ nodes d t ≤ 400) → i + d ≤ 3 → wrongV dd (ints (datN d ts)) i (ts.length : Int) ((lvl d ts).map ints) = -1
 | 0, i, dd, ts, h, hi => by
   refine wrongV_ok ⟨by simp [datN, gen], fun z hz => ?_⟩
   obtain ⟨n, hn, rfl⟩ := List.mem_map.1 hz
   obtain ⟨t, ht, rfl⟩ := List.mem_map.1 hn
   have := (h t ht).1.1
   constructor <;> omega
 | d + 1, i, dd, ts, h, hi => by
   have ih := wrongV_of d (i + 1) dd (prts ts) (fun x hx => by
     obtain ⟨l, hl, hxl⟩ := List.mem_flatten.1 hx
     obtain ⟨t, ht, rfl⟩ := List.mem_map.1 hl
     have h1 := h t ht
     have h2 := nodes_part (d := d) hxl
     exact ⟨h1.1.2 x hxl, by omega⟩) (by omega)
   show wrongV dd (ints (datN d (prts ts))) i (ts.length : Int) (ints (ts.map plen) :: (lvl d (prts ts)).map ints) = -1
   rw [wrongV_on ⟨by omega, by rw [List.length_map, List.length_map], fun z hz => by
     obtain ⟨n, hn, rfl⟩ := List.mem_map.1 hz
     obtain ⟨t, ht, rfl⟩ := List.mem_map.1 hn
     have h1 := (h t ht).2
     have h2 := parts_len d t
     show 0 ≤ ((t.parts.length : Nat) : Int) ∧ ((t.parts.length : Nat) : Int) ≤ ((400 : Nat) : Int)
     omega⟩]
   have e : isum (ints (ts.map plen)) = ((prts ts).length : Int) := by
     rw [prts_cnt]
     unfold isum
     rw [List.map_map]
     congr 1
     congr 1
     conv => rhs; rw [← List.map_id (ts.map plen)]
     refine List.map_congr_left (fun n _ => ?_)
     exact Int.toNat_natCast n
   rw [e]
   exact ih
theorem vok_of {d : Nat} {ts : List Tr} (hd : d ≤ 3) (h : ∀ t ∈ ts, Ok d t ∧ nodes d t ≤ 400) (hc : ts.length ≤ 2000) : vok (ts.length : Int) ((lvl d ts).map ints) (ints (datN d ts)) = true := by
 unfold vok
 rw [decide_eq_true_eq]
 exact ⟨by omega, by omega, wrongV_of d 0 _ ts h (by omega)⟩
end Go.Proofs.YtidpankoobdfjaaGreatDoor.K
namespace Go.Proofs.YtidpankoobdfjaaGreatDoor.K
open Go.RowKit Go.Proofs.YtidpankoobdfjaaGreatDoorW.PrintWords Go.Proofs.YtidpankoobdfjaaGreatDoorW.PrintLast Go.Proofs.YtidpankoobdfjaaGreatDoorW.PrintMore Go.Proofs.YtidpankoobdfjaaGreatDoor.Q
set_option linter.unusedSimpArgs false
set_option linter.unusedVariables false

theorem xor_nn (a b : Nat) (ha : a < 4611686018427387904) (hb : b < 4611686018427387904) : 0 ≤ Go.bits .xor .i64 (a : Int) (b : Int) := by
 have hx : a ^^^ b < 2 ^ 62 := Nat.xor_lt_two_pow (by omega) (by omega)
 have e : ((BitVec.ofInt 64 (a : Int)) ^^^ (BitVec.ofInt 64 (b : Int))).toNat = a ^^^ b := by
   rw [BitVec.toNat_xor, BitVec.toNat_ofInt, BitVec.toNat_ofInt]
   have h1 : ((a : Int) % ((2 ^ 64 : Nat) : Int)).toNat = a := by omega
   have h2 : ((b : Int) % ((2 ^ 64 : Nat) : Int)).toNat = b := by omega
   rw [h1, h2]
 show 0 ≤ IntKind.wrap .i64 (((BitVec.ofInt 64 (a : Int)) ^^^ (BitVec.ofInt 64 (b : Int))).toNat : Int)
 rw [e, IntKind.wrap_i64]
 omega
def Bs (l : List Int) : Prop := l.length ≤ 2000 ∧ ∀ x ∈ l, 0 ≤ x ∧ x ≤ 255
theorem rd_in {l : List Int} (h : Bs l) (i : Int) : 0 ≤ rd l i ∧ rd l i ≤ 255 := by
 unfold rd
 rw [List.getD_eq_getElem?_getD]
 cases hg : l[i.toNat]? with
 | none => simp
 | some x => exact h.2 x (List.mem_of_getElem? hg)
theorem tmod_in {a n : Int} (ha : 0 ≤ a) (hn : 1 ≤ n) : 0 ≤ Int.tmod a n ∧ Int.tmod a n < n := by
 rw [Int.tmod_eq_emod_of_nonneg ha]
 exact ⟨Int.emod_nonneg _ (by omega), Int.emod_lt_of_pos _ (by omega)⟩
theorem tdiv_in {a n : Int} (ha : 0 ≤ a) (hn : 1 ≤ n) : 0 ≤ Int.tdiv a n ∧ Int.tdiv a n ≤ a := by
 rw [Int.tdiv_eq_ediv_of_nonneg ha]
 refine ⟨Int.ediv_nonneg ha (by omega), ?_⟩
 exact Int.ediv_le_self _ ha
theorem pick_is {l : List Int} (h : Bs l) (p : Nat) (hp : p ≤ 1000000000000) (n : Int) : ∃ v : Int, Ev (fun k => spec_l13Rd_pick.f k l (p : Int) n) (v, ((p + 1 : Nat) : Int)) ∧ (1 ≤ n → 0 ≤ v ∧ v < n) ∧ (n < 1 → v = 0) := by
 have hpp : wrap64 ((p : Int) + 1) = ((p + 1 : Nat) : Int) := by rw [wrapS (by omega) (by omega)]; omega
 have hj : Ev (fun k => spec_l13Rd_pick.j0 k n true l ((p + 1 : Nat) : Int)) (0, ((p + 1 : Nat) : Int)) := by
   refine Ev.step' ?_; simp only [spec_l13Rd_pick.j0]
   exact Ev.pos (by first | trivial | rfl) (Ev.now _)
 by_cases hn : n < 1
 · refine ⟨0, ?_, by omega, by omega⟩
   unfold spec_l13Rd_pick.f
   refine Ev.pos hn ?_
   rw [hpp]
   exact hj
 · by_cases hl : l.length = 0
   · refine ⟨0, ?_, by omega, by omega⟩
     unfold spec_l13Rd_pick.f
     refine Ev.neg hn ?_
     rw [hpp, hl]
     exact hj
   · have hlen := h.1
     have hm : wrap64 (((p + 1 : Nat) : Int) - 1) = (p : Int) := by rw [wrapS (by omega) (by omega)]; omega
     have hgo : ∀ v, Ev (fun k => spec_l13Rd_pick.j0 k n false l ((p + 1 : Nat) : Int)) (v, ((p + 1 : Nat) : Int)) → Ev (fun k => spec_l13Rd_pick.f k l (p : Int) n) (v, ((p + 1 : Nat) : Int)) := by
       intro v hv
       unfold spec_l13Rd_pick.f
       refine Ev.neg hn ?_
       rw [hpp, show ((l.length : Int) == 0) = false from beq_false_of_ne (by omega)]
       exact hv
     by_cases hlt : p < l.length
     · have hr := rd_in h (p : Int)
       have ht := tmod_in (a := rd l (p : Int)) hr.1 (n := n) (by omega)
       refine ⟨Int.tmod (rd l (p : Int)) n, hgo _ ?_, fun _ => ht, by omega⟩
       refine Ev.step' ?_; simp only [spec_l13Rd_pick.j0]
       refine Ev.neg (by simp) ?_
       simp only [hm]
       refine Ev.pos (by omega) (Ev.pos (by omega) (Ev.neg (by omega) (Ev.val ?_)))
       rw [wrapS (by omega) (by omega)]
     · have hr1 := rd_in h (Int.tmod (p : Int) (l.length : Int))
       have hr2 := rd_in h (Int.tmod (wrap64 (wrap64 ((p : Int) * 7) + 3)) (l.length : Int))
       have ht1 := tmod_in (a := (p : Int)) (by omega) (n := (l.length : Int)) (by omega)
       have e7 : wrap64 (wrap64 ((p : Int) * 7) + 3) = (p : Int) * 7 + 3 := by
         rw [wrapS (a := (p : Int) * 7) (by omega) (by omega), wrapS (by omega) (by omega)]
       have ht2 := tmod_in (a := (p : Int) * 7 + 3) (by omega) (n := (l.length : Int)) (by omega)
       have htd := tdiv_in (a := (p : Int)) (by omega) (n := (l.length : Int)) (by omega)
       rw [e7] at hr2
       generalize hA : rd l (Int.tmod (p : Int) (l.length : Int)) = A at *
       generalize hB : rd l (Int.tmod ((p : Int) * 7 + 3) (l.length : Int)) = B at *
       generalize hD : Int.tdiv (p : Int) (l.length : Int) = D at *
       have eH : wrap64 (wrap64 (wrap64 (wrap64 (wrap64 A * 131) + wrap64 (wrap64 B * 1117)) + wrap64 ((p : Int) * 29)) + wrap64 (wrap64 D * 53)) = A * 131 + B * 1117 + (p : Int) * 29 + D * 53 := by
         rw [wrapS (a := A) (by omega) (by omega), wrapS (a := B) (by omega) (by omega), wrapS (a := D) (by omega) (by omega), wrapS (a := A * 131) (by omega) (by omega), wrapS (a := B * 1117) (by omega) (by omega), wrapS (a := (p : Int) * 29) (by omega) (by omega), wrapS (a := D * 53) (by omega) (by omega), wrapS (a := A * 131 + B * 1117) (by omega) (by omega), wrapS (a := A * 131 + B * 1117 + (p : Int) * 29) (by omega) (by omega), wrapS (by omega) (by omega)]
       obtain ⟨H, hH⟩ : ∃ H : Nat, A * 131 + B * 1117 + (p : Int) * 29 + D * 53 = (H : Int) := ⟨(A * 131 + B * 1117 + (p : Int) * 29 + D * 53).toNat, by omega⟩
       have eT : wrap64 (Int.tdiv (H : Int) 64) = ((H / 64 : Nat) : Int) := by
         rw [Int.tdiv_eq_ediv_of_nonneg (by omega), wrapS (by omega) (by omega)]
         omega
       have hX := xor_nn H (H / 64) (by omega) (by omega)
       have ht3 := tmod_in hX (n := n) (by omega)
       refine ⟨Int.tmod (Go.bits .xor .i64 (H : Int) ((H / 64 : Nat) : Int)) n, hgo _ ?_, fun _ => ht3, by omega⟩
       refine Ev.step' ?_; simp only [spec_l13Rd_pick.j0]
       refine Ev.neg (by simp) ?_
       simp only [hm, e7, hA, hB, hD, eH, hH, eT]
       exact Ev.neg (by omega) (Ev.neg (by omega) (Ev.pos ht1.1 (Ev.pos ht1.2 (Ev.pos ht2.1 (Ev.pos ht2.2 (Ev.neg (by omega) (Ev.val rfl)))))))
end Go.Proofs.YtidpankoobdfjaaGreatDoor.K
namespace Go.Proofs.YtidpankoobdfjaaGreatDoor.K
open Go.RowKit Go.Proofs.YtidpankoobdfjaaGreatDoorW.PrintWords Go.Proofs.YtidpankoobdfjaaGreatDoorW.PrintLast Go.Proofs.YtidpankoobdfjaaGreatDoorW.PrintMore Go.Proofs.YtidpankoobdfjaaGreatDoor.Q
set_option linter.unusedSimpArgs false
set_option linter.unusedVariables false
theorem num_is {l : List Int} (h : Bs l) (p : Nat) (hp : p ≤ 1000000000000) (xs : List Int) (hx : 1 ≤ xs.length) : ∃ v ∈ xs, Ev (fun k => spec_l13Rd_num.f k l (p : Int) xs) (v, ((p + 1 : Nat) : Int)) := by
 obtain ⟨v, h1, h2, _⟩ := pick_is h p hp (xs.length : Int)
 have hv := h2 (by omega)
 obtain ⟨m, rfl⟩ : ∃ m : Nat, v = (m : Int) := ⟨v.toNat, by omega⟩
 have hm : m < xs.length := by omega
 refine ⟨xs[m], List.getElem_mem hm, ?_⟩
 unfold spec_l13Rd_num.f
 refine Ev.bind h1 (Ev.pos hv.1 (Ev.pos hv.2 (Ev.val ?_)))
 have : rd xs (m : Int) = xs[m] := by
   unfold rd
   rw [Int.toNat_natCast, List.getD_eq_getElem?_getD, List.getElem?_eq_getElem hm]
   rfl
 rw [this]
theorem BA_of (b : ByteArray) : ∃ l : By, b = BA l ∧ l.length = b.size := ⟨b.data.toList, (BA_data b).symm, by rw [Array.length_toList]; rfl⟩
theorem open_is (l : List Int) (h : ∀ x ∈ l, (Lit.int .u8 x).wf = true) : ∃ l', spec_l13Open.f l = some (l', 0) ∧ Bs l' := by
 have hb : ∀ x ∈ l, 0 ≤ x ∧ x ≤ 255 := by
   intro x hx
   have := h x hx
   simp [Lit.wf, IntKind.wrap] at this
   have e1 : IntKind.u8.min = 0 := rfl
   have e2 : IntKind.u8.max = 255 := rfl
   omega
 unfold spec_l13Open.f
 by_cases hl : (l.length : Int) > 2000
 · refine ⟨l.take 2000, ?_, ?_, ?_⟩
   · rw [if_pos hl, if_pos (by omega)]
   · rw [List.length_take]; omega
   · exact fun x hx => hb x (List.mem_of_mem_take hx)
 · exact ⟨l, by rw [if_neg hl], by omega, hb⟩
end Go.Proofs.YtidpankoobdfjaaGreatDoor.K
namespace Go.Proofs.YtidpankoobdfjaaGreatDoor.K
open Go.RowKit Go.Proofs.YtidpankoobdfjaaGreatDoorW.PrintWords Go.Proofs.YtidpankoobdfjaaGreatDoorW.PrintLast Go.Proofs.YtidpankoobdfjaaGreatDoorW.PrintMore Go.Proofs.YtidpankoobdfjaaGreatDoor.Q
set_option linter.unusedSimpArgs false
set_option linter.unusedVariables false
def szD : Nat → Nat
 | 0 => 5
 | d + 1 => 2 + 4 * (szD d + 1)
def stD : Nat → Nat
 | 0 => 2
 | d + 1 => 1 + 4 * stD d
/-- The last place that a drawing of this depth may begin at. -/
def capD : Nat → Nat
 | 0 => 99999990000
 | d + 1 => capD d - 1000
theorem cap_ok {d : Nat} (hd : d ≤ 2) : capD (d + 1) + 1 + 4 * stD d ≤ capD d := by
 obtain rfl | rfl | rfl : d = 0 ∨ d = 1 ∨ d = 2 := by omega
 all_goals decide
theorem cap_in {d : Nat} (hd : d ≤ 3) : 99999980000 ≤ capD d ∧ capD d ≤ 99999990000 := by
 obtain rfl | rfl | rfl | rfl : d = 0 ∨ d = 1 ∨ d = 2 ∨ d = 3 := by omega
 all_goals decide
def DrawIs (d : Nat) : Prop := ∀ (l : List Int) (p : Nat), Bs l → p ≤ capD d → ∃ (t : ByteArray) (q : Nat), Ev (fun k => spec_l1Draw.f k l (p : Int) (d : Int)) (t, (q : Int)) ∧ 1 ≤ t.size ∧ t.size ≤ szD d ∧ p ≤ q ∧ q ≤ p + stD d
theorem szD_le {d : Nat} (hd : d ≤ 3) : szD d ≤ 1500 ∧ stD d ≤ 150 := by
 obtain rfl | rfl | rfl | rfl : d = 0 ∨ d = 1 ∨ d = 2 ∨ d = 3 := by omega
 all_goals decide
theorem size_append (a b : ByteArray) : (a ++ b).size = a.size + b.size := by
 obtain ⟨x, rfl, h1⟩ := BA_of a
 obtain ⟨y, rfl, h2⟩ := BA_of b
 rw [BA_append, BA_size, BA_size, BA_size, List.length_append]
theorem size_one (c : UInt8) : (⟨#[c]⟩ : ByteArray).size = 1 := rfl
theorem mul_in {i Z : Nat} (hi : i ≤ 4) (hZ : Z ≤ 1500) : i * (Z + 1) ≤ 6004 := Nat.le_trans (Nat.mul_le_mul hi (Nat.add_le_add_right hZ 1)) (by decide)
theorem draw_l0 (d : Nat) (hd : d ≤ 2) (Z T C : Nat) (hC : C ≤ 99999990000) (hZ : Z ≤ 1500) (hT : T ≤ 150) (l : List Int) (hl : Bs l)
   (ih : ∀ (p : Nat), p ≤ C → ∃ (t : ByteArray) (q : Nat), Ev (fun k => spec_l1Draw.f k l (p : Int) (d : Int)) (t, (q : Int)) ∧ 1 ≤ t.size ∧ t.size ≤ Z ∧ p ≤ q ∧ q ≤ p + T) (m : Nat) (hm : m ≤ 4) (M : Nat) (hM : ∀ i, i = m → 2 + i * (Z + 1) ≤ M) :
   ∀ (n i : Nat) (x : ByteArray) (p : Nat), i + n = m → 1 ≤ x.size → x.size ≤ 1 + i * (Z + 1) → p + n * T ≤ C →
   ∃ (t : ByteArray) (q : Nat), Ev (fun k => spec_l1Draw.l0 k ((d + 1 : Nat) : Int) x (m : Int) (i : Int) l (p : Int)) (t, (q : Int)) ∧ 1 ≤ t.size ∧ t.size ≤ M ∧ p ≤ q ∧ q ≤ p + n * T := by
 have ed : wrap64 (((d + 1 : Nat) : Int) - 1) = (d : Int) := by rw [wrapS (by omega) (by omega)]; omega
 intro n
 induction n with
 | zero =>
   intro i x p h hx1 hx hp
   have him : i = m := by omega
   have hM1 := hM i him
   have hmul := mul_in (i := i) (by omega) hZ
   obtain ⟨A, hA⟩ : ∃ A, A = i * (Z + 1) := ⟨_, rfl⟩
   rw [← hA] at hmul hx hM1
   clear hA
   obtain ⟨y, hy⟩ : ∃ y, y = x ++ (⟨#[93]⟩ : ByteArray) := ⟨_, rfl⟩
   have hb : y.size = x.size + 1 := by rw [hy, size_append, size_one]
   refine ⟨y, p, ?_, by omega, by omega, Nat.le_refl _, Nat.le_add_right _ _⟩
   rw [hy]
   refine Ev.step' ?_; simp only [spec_l1Draw.l0]
   exact Ev.neg (by omega) (Ev.pos (by omega) (Ev.val rfl))
 | succ n ihn =>
   intro i x p h hx1 hx hp
   have him : i < m := by omega
   have him2 : i + 1 + n = m := by omega
   have hmul := mul_in (i := i) (by omega) hZ
   have hsz : (i + 1) * (Z + 1) = i * (Z + 1) + (Z + 1) := by rw [Nat.add_mul, Nat.one_mul]
   have hst : (n + 1) * T = n * T + T := by rw [Nat.add_mul, Nat.one_mul]
   obtain ⟨t, q, h1, h2, h3, h4, h5⟩ := ih p (Nat.le_trans (Nat.le_add_right _ _) hp)
   have ihn' := fun y => ihn (i + 1) y q him2
   rw [hsz] at ihn'
   rw [hst] at hp ⊢
   obtain ⟨A, hA⟩ : ∃ A, A = i * (Z + 1) := ⟨_, rfl⟩
   obtain ⟨B, hB⟩ : ∃ B, B = n * T := ⟨_, rfl⟩
   rw [← hA] at hmul hx ihn'
   rw [← hB] at ihn' hp ⊢
   clear hA hB hst hsz
   have ei : wrap64 ((i : Int) + 1) = ((i + 1 : Nat) : Int) := by rw [wrapS (by omega) (by omega)]; omega
   rcases Nat.eq_zero_or_pos i with hi0 | h0
   · obtain ⟨y, hy⟩ : ∃ y, y = x ++ t := ⟨_, rfl⟩
     have hb : y.size = x.size + t.size := by rw [hy]; exact size_append _ _
     obtain ⟨t', q', g1, g2, g3, g4, g5⟩ := ihn' y (by omega) (by omega) (by omega)
     rw [hy] at g1
     refine ⟨t', q', ?_, g2, g3, by omega, by omega⟩
     refine Ev.step' ?_; simp only [spec_l1Draw.l0]
     have hn0 : ¬ (i : Int) > 0 := by rw [hi0]; exact Int.lt_irrefl 0
     have hs1 : x.size + t.size ≤ 9223372036854775807 := by clear g1 h1 g3 g5 h5 hp hy; omega
     refine Ev.pos (Int.ofNat_lt.2 him) (Ev.neg hn0 ?_)
     rw [ed, ei]
     exact Ev.bind h1 (Ev.pos hs1 g1)
   · obtain ⟨y, hy⟩ : ∃ y, y = (x ++ (⟨#[44]⟩ : ByteArray)) ++ t := ⟨_, rfl⟩
     have hb : y.size = x.size + 1 + t.size := by rw [hy, size_append, size_append, size_one]
     obtain ⟨t', q', g1, g2, g3, g4, g5⟩ := ihn' y (by omega) (by omega) (by omega)
     rw [hy] at g1
     refine ⟨t', q', ?_, g2, g3, by omega, by omega⟩
     refine Ev.step' ?_; simp only [spec_l1Draw.l0]
     have hp0 : (i : Int) > 0 := Int.ofNat_lt.2 h0
     have hs0 : x.size + 1 ≤ 9223372036854775807 := by clear g1 h1 g3 g5 h5 hp hy; omega
     have hs1 : x.size + 1 + t.size ≤ 9223372036854775807 := by clear g1 h1 g3 g5 h5 hp hy; omega
     refine Ev.pos (Int.ofNat_lt.2 him) (Ev.pos hp0 (Ev.pos hs0 ?_))
     rw [ed, ei]
     exact Ev.bind h1 (Ev.pos hs1 g1)
theorem draw_is : ∀ d, d ≤ 3 → DrawIs d
 | 0, _ => by
   intro l p hl hp0
   have hp : p ≤ 99999990000 := hp0
   obtain ⟨v, h1, h2, _⟩ := pick_is hl p (by omega) 9
   obtain ⟨w, hw, h3⟩ := num_is hl (p + 1) (by omega) [1, 0, 2, 3, v, 5, 10006, 100] (by simp)
   have hv := h2 (by omega)
   have hw2 : 0 ≤ w ∧ w ≤ 10006 := by simp at hw; omega
   obtain ⟨m, rfl⟩ : ∃ m : Nat, w = (m : Int) := ⟨w.toNat, by omega⟩
   have hlen := dec_len 5 m (by omega) (by omega)
   have hpos := List.length_pos_iff.2 (dec_ne m)
   refine ⟨BA (Lib.decDigits m), p + 1 + 1, ?_, by rw [BA_size]; omega, by rw [BA_size]; show _ ≤ 5; omega, by omega, by show _ ≤ p + 2; omega⟩
   refine Ev.step' ?_; simp only [spec_l1Draw.f]
   exact Ev.pos (by first | trivial | rfl) (Ev.bind h1 (Ev.bind h3 (Ev.bind (l13Dec_is m (by omega)) (Ev.val rfl))))
 | d + 1, hd => by
   have ih := draw_is d (by omega)
   intro l p hl hp
   have hz := szD_le (d := d) (by omega)
   have hc1 := cap_ok (d := d) (by omega)
   have hc2 := cap_in (d := d) (by omega)
   obtain ⟨v, hv, h1⟩ := num_is hl p (by omega) [2, 0, 1, 3, 4] (by simp)
   have hv2 : 0 ≤ v ∧ v ≤ 4 := by simp at hv; omega
   obtain ⟨m, rfl⟩ : ∃ m : Nat, v = (m : Int) := ⟨v.toNat, by omega⟩
   have hm0 : m * stD d ≤ 4 * stD d := Nat.mul_le_mul_right _ (by omega)
   have hcap : p + 1 + m * stD d ≤ capD d := by omega
   obtain ⟨t, q, g1, g2, g3, g4, g5⟩ := draw_l0 d (by omega) (szD d) (stD d) (capD d) (cap_in (by omega)).2 hz.1 hz.2 l hl (fun p hp => ih l p hl hp) m (by omega) (2 + m * (szD d + 1)) (fun i hi => by rw [hi]; exact Nat.le_refl _) m 0 (⟨#[91]⟩ : ByteArray) (p + 1) (by omega) (Nat.le_refl 1) (Nat.le_add_right 1 _) hcap
   have hm1 : m * (szD d + 1) ≤ 4 * (szD d + 1) := Nat.mul_le_mul_right _ (by omega)
   have hm2 : m * stD d ≤ 4 * stD d := Nat.mul_le_mul_right _ (by omega)
   refine ⟨t, q, ?_, g2, by show _ ≤ 2 + 4 * (szD d + 1); omega, by omega, by show _ ≤ p + (1 + 4 * stD d); omega⟩
   refine Ev.step' ?_; simp only [spec_l1Draw.f]
   exact Ev.neg (by omega) (Ev.bind h1 g1)
end Go.Proofs.YtidpankoobdfjaaGreatDoor.K
namespace Go.Proofs.YtidpankoobdfjaaGreatDoor.K
open Go.RowKit Go.Proofs.YtidpankoobdfjaaGreatDoorW.PrintWords Go.Proofs.YtidpankoobdfjaaGreatDoorW.PrintLast Go.Proofs.YtidpankoobdfjaaGreatDoorW.PrintMore Go.Proofs.YtidpankoobdfjaaGreatDoor.Q
set_option linter.unusedSimpArgs false
set_option linter.unusedVariables false
theorem of_is {l : List Int} (h : Bs l) (p : Nat) (hp : p ≤ 1000000000000) (xs : List ByteArray) (hx : 1 ≤ xs.length) : ∃ v ∈ xs, Ev (fun k => spec_l13Rd_of.f k l (p : Int) xs) (v, ((p + 1 : Nat) : Int)) := by
 obtain ⟨v, h1, h2, _⟩ := pick_is h p hp (xs.length : Int)
 have hv := h2 (by omega)
 obtain ⟨m, rfl⟩ : ∃ m : Nat, v = (m : Int) := ⟨v.toNat, by omega⟩
 have hm : m < xs.length := by omega
 refine ⟨xs[m], List.getElem_mem hm, ?_⟩
 unfold spec_l13Rd_of.f
 refine Ev.bind h1 (Ev.pos hv.1 (Ev.pos hv.2 (Ev.val ?_)))
 have : rdOf ByteArray.empty xs (m : Int) = xs[m] := by
   unfold rdOf
   rw [Int.toNat_natCast, List.getD_eq_getElem?_getD, List.getElem?_eq_getElem hm]
   rfl
 rw [this]
end Go.Proofs.YtidpankoobdfjaaGreatDoor.K
namespace Go.Proofs.YtidpankoobdfjaaGreatDoor.K
open Go.RowKit Go.Proofs.YtidpankoobdfjaaGreatDoorW.PrintWords Go.Proofs.YtidpankoobdfjaaGreatDoorW.PrintLast Go.Proofs.YtidpankoobdfjaaGreatDoorW.PrintMore Go.Proofs.YtidpankoobdfjaaGreatDoor.Q
set_option linter.unusedSimpArgs false
set_option linter.unusedVariables false

theorem laidL_l0 (d : Nat) (hd : d ≤ 3) (xs : List Tr) (hxs : xs.length ≤ 1000000) : ∀ (n i : Nat) (L : List (List Int)) (D : List Int) (B : Nat), xs.length - i = n → i ≤ xs.length → L.length = d → Bd B (L, D) → B + ((xs.drop i).map (nodes d)).sum ≤ 1000000000 →
   Ev (fun k => impl_laid.l0 k (xs.map (cA d)) L D ((xs.map (cA d)).length : Int) (i : Int)) ((xs.drop i).foldl (fun s x => layT d x 0 s) (L, D)) := by
 intro n
 induction n with
 | zero =>
   intro i L D B h hi hL hb hn
   refine Ev.step' ?_; simp only [impl_laid.l0]
   refine Ev.neg (by rw [List.length_map]; omega) (Ev.val ?_)
   rw [List.drop_eq_nil_of_le (by omega)]
   rfl
 | succ n ihn =>
   intro i L D B h hi hL hb hn
   have hlt : i < xs.length := by omega
   have hg : rd_T68 (xs.map (cA d)) (i : Int) = cA d xs[i] := getD_map _ _ _ _ hlt
   rw [List.drop_eq_getElem_cons hlt] at hn ⊢
   rw [List.map_cons, List.sum_cons] at hn
   have hx := layA_is d xs[i] 0 L D B (by omega) (by omega) hb (by omega)
   obtain ⟨b1, b2⟩ := layT_bd d xs[i] 0 (L, D) B hb
   have hnext := ihn (i + 1) (layT d xs[i] 0 (L, D)).1 (layT d xs[i] 0 (L, D)).2 _ (by omega) (by omega) (b1.trans hL) b2 (by omega)
   refine Ev.step' ?_; simp only [impl_laid.l0]
   refine Ev.pos (by rw [List.length_map]; omega) (Ev.pos (by omega) (Ev.pos (by rw [List.length_map]; omega) ?_))
   rw [hg, wrapS (a := (i : Int) + 1) (by omega) (by omega)]
   exact Ev.bind hx hnext
theorem laidL_is (d : Nat) (hd : d ≤ 3) (xs : List Tr) (hxs : xs.length ≤ 1000000) (hn : (xs.map (nodes d)).sum ≤ 1000000) : Ev (fun k => impl_laid.f k (xs.map (cA d)) (d : Int)) ((lvl d xs).map ints, ints (datN d xs)) := by
 have h := laidL_l0 d hd xs hxs _ 0 (List.replicate d []) [] 0 rfl (Nat.zero_le _) List.length_replicate (rep_bd d) (by rw [List.drop_zero]; omega)
 rw [List.drop_zero, layTs_lvl] at h
 unfold impl_laid.f
 refine Ev.pos (by omega) (Ev.pos (by omega) ?_)
 rw [Int.toNat_natCast]
 exact h
end Go.Proofs.YtidpankoobdfjaaGreatDoor.K
namespace Go.Proofs.YtidpankoobdfjaaGreatDoor.K
open Go.RowKit Go.Proofs.YtidpankoobdfjaaGreatDoorW.PrintWords Go.Proofs.YtidpankoobdfjaaGreatDoorW.PrintLast Go.Proofs.YtidpankoobdfjaaGreatDoorW.PrintMore Go.Proofs.YtidpankoobdfjaaGreatDoor.Q
set_option linter.unusedSimpArgs false
set_option linter.unusedVariables false

def LayP (d : Nat) : Prop := ∀ (t : Tr) (j : Nat) (L : List (List Int)) (D : List Int) (B : Nat), L.length = j + d → j + d ≤ 10 → Bd B (L, D) → B + nodes d t ≤ 1000000000 → Ev (fun k => pv.f k L D (cS d t).f0 (cS d t).f1 (j : Int)) (layT d t j (L, D))
theorem layP_l0 (d : Nat) (ih : LayP d) (j : Nat) (hj : j + 1 + d ≤ 10) (xs : List Tr) (hxs : xs.length ≤ 1000000000) : ∀ (n i : Nat) (L : List (List Int)) (D : List Int) (B : Nat), xs.length - i = n → i ≤ xs.length → L.length = j + 1 + d → Bd B (L, D) → B + ((xs.drop i).map (nodes d)).sum ≤ 1000000000 →
   Ev (fun k => pv.l0 k L D (xs.map (cS d)) (j : Int) ((xs.map (cS d)).length : Int) (i : Int)) ((xs.drop i).foldl (fun s x => layT d x (j + 1) s) (L, D)) := by
 intro n
 induction n with
 | zero =>
   intro i L D B h hi hL hb hn
   refine Ev.step' ?_; simp only [pv.l0]
   refine Ev.neg (by rw [List.length_map]; omega) (Ev.val ?_)
   rw [List.drop_eq_nil_of_le (by omega)]
   rfl
 | succ n ihn =>
   intro i L D B h hi hL hb hn
   have hlt : i < xs.length := by omega
   have hg : rd_T79 (xs.map (cS d)) (i : Int) = cS d xs[i] := getD_map _ _ _ _ hlt
   rw [List.drop_eq_getElem_cons hlt] at hn ⊢
   rw [List.map_cons, List.sum_cons] at hn
   have hx := ih xs[i] (j + 1) L D B hL hj hb (by omega)
   obtain ⟨b1, b2⟩ := layT_bd d xs[i] (j + 1) (L, D) B hb
   have hnext := ihn (i + 1) (layT d xs[i] (j + 1) (L, D)).1 (layT d xs[i] (j + 1) (L, D)).2 _ (by omega) (by omega) (b1.trans hL) b2 (by omega)
   refine Ev.step' ?_; simp only [pv.l0]
   refine Ev.pos (by rw [List.length_map]; omega) (Ev.pos (by omega) (Ev.pos (by rw [List.length_map]; omega) ?_))
   rw [hg, wrapS (a := (j : Int) + 1) (by omega) (by omega), wrapS (a := (i : Int) + 1) (by omega) (by omega)]
   exact Ev.bind hx hnext
theorem layP_is : ∀ d, LayP d
 | 0 => by
   intro t j L D B hL hj hb hn
   have h1 : D.length ≤ B := hb.1
   have h2 : B + 1 ≤ 1000000000 := hn
   refine Ev.step' ?_; simp only [pv.f]
   exact Ev.pos (by omega) (Ev.pos (by omega) (Ev.val rfl))
 | d + 1 => by
   intro t j L D B hL hj hb hn
   have hp := parts_len d t
   have hn2 : B + (1 + (t.parts.map (nodes d)).sum) ≤ 1000000000 := hn
   have hgl : (L.getD j []).length ≤ B := getD_bd hb.2 j
   have h0 := layP_l0 d (layP_is d) j (by omega) t.parts (by omega) _ 0 (L.set j (L.getD j [] ++ [(t.parts.length : Int)])) D (B + 1) rfl (Nat.zero_le _) (by rw [List.length_set]; omega) (set_bd hb j _) (by rw [List.drop_zero]; omega)
   rw [List.drop_zero] at h0
   refine Ev.step' ?_; simp only [pv.f]
   refine Ev.neg (by omega) (Ev.pos (by omega) (Ev.pos (by omega) ?_))
   rw [Int.toNat_natCast]
   refine Ev.pos (by omega) ?_
   have e : ((cS (d + 1) t).f1.length : Int) = (t.parts.length : Int) := by
     show ((t.parts.map (cS d)).length : Int) = _
     rw [List.length_map]
   rw [e]
   rw [List.length_map] at h0
   exact h0
theorem packN_l0 (d : Nat) (hd : d ≤ 3) (xs : List Tr) (hxs : xs.length ≤ 1000000) : ∀ (n i : Nat) (L : List (List Int)) (D : List Int) (B : Nat), xs.length - i = n → i ≤ xs.length → L.length = d → Bd B (L, D) → B + ((xs.drop i).map (nodes d)).sum ≤ 1000000000 →
   Ev (fun k => spec_l8Pack.l0 k (xs.map (cS d)) L D ((xs.map (cS d)).length : Int) (i : Int)) (((xs.map (cS d)).length : Int), (xs.drop i).foldl (fun s x => layT d x 0 s) (L, D)) := by
 intro n
 induction n with
 | zero =>
   intro i L D B h hi hL hb hn
   refine Ev.step' ?_; simp only [spec_l8Pack.l0]
   refine Ev.neg (by rw [List.length_map]; omega) (Ev.val ?_)
   rw [List.drop_eq_nil_of_le (by omega)]
   rfl
 | succ n ihn =>
   intro i L D B h hi hL hb hn
   have hlt : i < xs.length := by omega
   have hg : rd_T79 (xs.map (cS d)) (i : Int) = cS d xs[i] := getD_map _ _ _ _ hlt
   rw [List.drop_eq_getElem_cons hlt] at hn ⊢
   rw [List.map_cons, List.sum_cons] at hn
   have hx := layP_is d xs[i] 0 L D B (by omega) (by omega) hb (by omega)
   obtain ⟨b1, b2⟩ := layT_bd d xs[i] 0 (L, D) B hb
   have hnext := ihn (i + 1) (layT d xs[i] 0 (L, D)).1 (layT d xs[i] 0 (L, D)).2 _ (by omega) (by omega) (b1.trans hL) b2 (by omega)
   refine Ev.step' ?_; simp only [spec_l8Pack.l0]
   refine Ev.pos (by rw [List.length_map]; omega) (Ev.pos (by omega) (Ev.pos (by rw [List.length_map]; omega) ?_))
   rw [hg, wrapS (a := (i : Int) + 1) (by omega) (by omega)]
   exact Ev.bind hx hnext
theorem packN_is (d : Nat) (hd : d ≤ 3) (xs : List Tr) (hxs : xs.length ≤ 1000000) (hn : (xs.map (nodes d)).sum ≤ 1000000) : Ev (fun k => spec_l8Pack.f k (xs.map (cS d)) (d : Int)) ((xs.length : Int), (lvl d xs).map ints, ints (datN d xs)) := by
 have h := packN_l0 d hd xs hxs _ 0 (List.replicate d []) [] 0 rfl (Nat.zero_le _) List.length_replicate (rep_bd d) (by rw [List.drop_zero]; omega)
 rw [List.drop_zero, layTs_lvl] at h
 unfold spec_l8Pack.f
 refine Ev.pos (by omega) (Ev.pos (by omega) ?_)
 rw [Int.toNat_natCast]
 refine evIs h ?_
 rw [List.length_map]
end Go.Proofs.YtidpankoobdfjaaGreatDoor.K
namespace Go.Proofs.YtidpankoobdfjaaGreatDoor.K
open Go.RowKit Go.Proofs.YtidpankoobdfjaaGreatDoorW.PrintWords Go.Proofs.YtidpankoobdfjaaGreatDoorW.PrintLast Go.Proofs.YtidpankoobdfjaaGreatDoorW.PrintMore Go.Proofs.YtidpankoobdfjaaGreatDoor.Q
set_option linter.unusedSimpArgs false
set_option linter.unusedVariables false

theorem ownLL_l0 (L : List (List Int)) (hL : L.length ≤ 1000) (hb : ∀ r ∈ L, r.length ≤ 1000000) : ∀ (n i : Nat), L.length - i = n → i ≤ L.length → Ev (fun k => spec_l13OwnListListint.l0 k (L.take i) L (L.length : Int) (i : Int)) L := by
 intro n
 induction n with
 | zero =>
   intro i h hi
   refine Ev.step' ?_; simp only [spec_l13OwnListListint.l0]
   rw [List.take_of_length_le (by omega)]
   exact Ev.neg (by omega) (Ev.now _)
 | succ n ih =>
   intro i h hi
   have hlt : i < L.length := by omega
   have hm := hb L[i] (List.getElem_mem hlt)
   have hg : rd_L3 L (i : Int) = L[i] := by
     show L.getD i [] = _
     rw [List.getD_eq_getElem?_getD, List.getElem?_eq_getElem hlt]
     rfl
   have hnext := ih (i + 1) (by omega) (by omega)
   rw [take_snoc _ _ hlt] at hnext
   refine Ev.step' ?_; simp only [spec_l13OwnListListint.l0]
   refine Ev.pos (by omega) (Ev.pos (by omega) (Ev.pos (by omega) (Ev.bind (Ev.now _) ?_)))
   rw [hg, wrapS (by omega) (by omega)]
   refine Ev.pos (by simp; omega) (Ev.pos (by rw [List.length_take]; omega) ?_)
   rw [List.nil_append]
   exact hnext
theorem ownLay_is (L : List (List Int)) (D : List Int) (hL : L.length ≤ 1000) (hb : ∀ r ∈ L, r.length ≤ 1000000) (hD : D.length ≤ 1000000) : Ev (fun k => spec_l13OwnLayout.f k L D) (L, D) := by
 have h0 : Ev (fun k => spec_l13OwnListListint.f k L) L := by
   unfold spec_l13OwnListListint.f
   exact ownLL_l0 L hL hb _ 0 rfl (Nat.zero_le _)
 unfold spec_l13OwnLayout.f
 refine Ev.bind h0 (Ev.bind (Ev.now _) (Ev.pos (by simp; omega) (Ev.val ?_)))
 rw [List.nil_append]
end Go.Proofs.YtidpankoobdfjaaGreatDoor.K
namespace Go.Proofs.YtidpankoobdfjaaGreatDoor.K
open Go.RowKit Go.Proofs.YtidpankoobdfjaaGreatDoorW.PrintWords Go.Proofs.YtidpankoobdfjaaGreatDoorW.PrintLast Go.Proofs.YtidpankoobdfjaaGreatDoorW.PrintMore Go.Proofs.YtidpankoobdfjaaGreatDoor.Q
set_option linter.unusedSimpArgs false
set_option linter.unusedVariables false

def readAll (d : Nat) : List By → Option (List Tr)
 | [] => some []
 | p :: ps => (readD d p).bind fun t => (readAll d ps).map fun ts => t :: ts
theorem readAll_app (d : Nat) : ∀ (a b : List By), readAll d (a ++ b) = (readAll d a).bind fun x => (readAll d b).map fun y => x ++ y
 | [], b => by
   show readAll d b = (some ([] : List Tr)).bind _
   cases readAll d b <;> rfl
 | p :: a, b => by
   show (readD d p).bind (fun t => (readAll d (a ++ b)).map fun ts => t :: ts) = ((readD d p).bind fun t => (readAll d a).map fun ts => t :: ts).bind _
   rw [readAll_app d a b]
   cases readD d p with
   | none => rfl
   | some t =>
     cases readAll d a with
     | none => rfl
     | some x => cases readAll d b <;> rfl
theorem readAll_ok (d : Nat) : ∀ (ps : List By) (ts : List Tr), readAll d ps = some ts → ps = ts.map (text d) ∧ ts.length = ps.length ∧ ∀ t ∈ ts, Ok d t ∧ (text d t).length ≤ 400
 | [], ts, h => by
   have h2 : ts = [] := (Option.some.inj h).symm
   subst h2
   exact ⟨rfl, rfl, fun t ht => by cases ht⟩
 | p :: ps, ts, h => by
   obtain ⟨t, h1, h2⟩ := Option.bind_eq_some_iff.1 (show (readD d p).bind (fun t => (readAll d ps).map fun ts => t :: ts) = some ts from h)
   obtain ⟨us, h3, h4⟩ := Option.map_eq_some_iff.1 h2
   subst h4
   obtain ⟨e1, e2, e3⟩ := readD_ok h1
   obtain ⟨f1, f2, f3⟩ := readAll_ok d ps us h3
   refine ⟨by rw [List.map_cons, ← f1, ← e1], by rw [List.length_cons, List.length_cons, f2], fun x hx => ?_⟩
   rcases List.mem_cons.1 hx with rfl | hx
   · exact ⟨e2, by rw [← e1]; exact e3⟩
   · exact f3 x hx
theorem readAll_text (d : Nat) : ∀ (ts : List Tr), (∀ t ∈ ts, Ok d t ∧ (text d t).length ≤ 400) → readAll d (ts.map (text d)) = some ts
 | [], _ => rfl
 | t :: ts, h => by
   have h1 := h t (by simp)
   have ih := readAll_text d ts (fun x hx => h x (List.mem_cons_of_mem _ hx))
   show (readD d (text d t)).bind (fun t => (readAll d (ts.map (text d))).map fun ts => t :: ts) = _
   rw [readD_text h1.1 h1.2, ih]
   rfl
theorem sum_of_small (d : Nat) : ∀ (ts : List Tr), (∀ t ∈ ts, (text d t).length ≤ 400) → (ts.map (nodes d)).sum ≤ 400 * ts.length
 | [], _ => by simp
 | t :: ts, h => by
   have h1 := h t (by simp)
   have h2 := nodes_le_text d t
   have ih := sum_of_small d ts (fun x hx => h x (List.mem_cons_of_mem _ hx))
   rw [List.map_cons, List.sum_cons, List.length_cons]
   omega
abbrev Vec := Int × List (List Int) × List Int × Bool
def packR (d : Nat) : Option (List Tr) → Vec
 | none => (0, [], [], false)
 | some ts => ((ts.length : Int), (lvl d ts).map ints, ints (datN d ts), true)
theorem naEta (x : NA) : (⟨x.f0, x.f1⟩ : NA) = x := by cases x; rfl
theorem nsEta2 (x : NS) : (⟨x.f0, x.f1⟩ : NS) = x := by cases x; rfl
theorem rdB_at {ps : List By} {i : Nat} {p : By} (h : ps[i]? = some p) : rdOf ByteArray.empty (ps.map BA) (i : Int) = BA p := by
 unfold rdOf
 rw [Int.toNat_natCast, List.getD_eq_getElem?_getD, List.getElem?_map, h]
 rfl
theorem readAll_stop {d : Nat} {done rest : List By} {p : By} (h : readD d p = none) : readAll d (done ++ p :: rest) = none := by
 rw [readAll_app]
 show (readAll d done).bind (fun x => ((readD d p).bind _).map _) = none
 rw [h]
 cases readAll d done <;> rfl
theorem readAll_snoc {d : Nat} {done : List By} {p : By} {ts : List Tr} {v : Tr} (h1 : readAll d done = some ts) (h2 : readD d p = some v) : readAll d (done ++ [p]) = some (ts ++ [v]) := by
 rw [readAll_app, h1]
 show ((readD d p).bind (fun t => (some ([] : List Tr)).map fun ts => t :: ts)).map _ = _
 rw [h2]
 rfl
theorem packA_l0 (d : Nat) (hd : d ≤ 3) (ps : List By) (hps : ps.length ≤ 2000) : ∀ (rest done : List By) (ts : List Tr), ps = done ++ rest → readAll d done = some ts →
   Ev (fun k => impl_PackVector.l0 k (d : Int) (ts.map (cA d)) (ps.map BA) ((ps.map BA).length : Int) (done.length : Int)) (packR d (readAll d ps)) := by
 intro rest
 induction rest with
 | nil =>
   intro done ts h hr
   rw [List.append_nil] at h
   subst h
   obtain ⟨_, f2, f3⟩ := readAll_ok d ps ts hr
   have hs := sum_of_small d ts (fun t ht => (f3 t ht).2)
   rw [hr]
   refine Ev.step' ?_; simp only [impl_PackVector.l0]
   refine Ev.neg (by rw [List.length_map]; omega) (Ev.bind (laidL_is d hd ts (by omega) (by omega)) (Ev.val ?_))
   rw [List.length_map]
   rfl
 | cons p rest ih =>
   intro done ts h hr
   have hlt : done.length < ps.length := by rw [h]; simp
   have hg : ps[done.length]? = some p := by rw [h]; simp
   obtain ⟨_, f2, f3⟩ := readAll_ok d done ts hr
   obtain ⟨t, h1, h2, h3, h4⟩ := arrOf_is d hd p
   refine Ev.step' ?_; simp only [impl_PackVector.l0]
   refine Ev.pos (by rw [List.length_map]; omega) (Ev.pos (by omega) (Ev.pos (by rw [List.length_map]; omega) ?_))
   rw [rdB_at hg, wrapS (by omega) (by omega)]
   cases hq : readD d p with
   | none =>
     rw [hq] at h1
     rw [h, readAll_stop hq]
     exact Ev.bind h1 (Ev.neg (by simp) (Ev.now _))
   | some v =>
     obtain rfl := h4 v hq
     rw [hq] at h1
     have hnext := ih (done ++ [p]) (ts ++ [t]) (by rw [h, List.append_assoc]; rfl) (readAll_snoc hr hq)
     rw [List.map_append, List.map_singleton, List.length_append, List.length_singleton] at hnext
     refine Ev.bind h1 (Ev.pos rfl (Ev.pos (by rw [List.length_map]; omega) ?_))
     rw [naEta]
     exact hnext
theorem packA_is (d : Nat) (hd : d ≤ 3) (ps : List By) (hps : ps.length ≤ 2000) : Ev (fun k => impl_PackVector.f k (ps.map BA) (d : Int)) (packR d (readAll d ps)) := by
 have h := packA_l0 d hd ps hps ps [] [] rfl rfl
 unfold impl_PackVector.f
 refine Ev.neg (by omega) (Ev.neg (by omega) ?_)
 refine Ev.step' ?_; simp only [impl_PackVector.j0]
 refine Ev.neg ?_ h
 rw [decide_eq_true_eq, List.length_map]
 omega
theorem packA_out (dp : Int) (h : dp < 0 ∨ 3 < dp) (ps : List ByteArray) : Ev (fun k => impl_PackVector.f k ps dp) (packR 0 none) := by
 have hj : Ev (fun k => impl_PackVector.j0 k ps dp true) (packR 0 none) := by
   refine Ev.step' ?_; simp only [impl_PackVector.j0]
   exact Ev.pos (by first | trivial | rfl) (Ev.now _)
 unfold impl_PackVector.f
 by_cases h0 : dp < 0
 · exact Ev.pos h0 hj
 · exact Ev.neg h0 (Ev.pos (by omega) hj)
theorem packS_l0 (d : Nat) (hd : d ≤ 3) (ps : List By) (hps : ps.length ≤ 2000) : ∀ (rest done : List By) (ts : List Tr), ps = done ++ rest → readAll d done = some ts →
   Ev (fun k => spec_l8RawPackVector.l0 k (d : Int) (ts.map (cS d)) (ps.map BA) ((ps.map BA).length : Int) (done.length : Int)) (packR d (readAll d ps)) := by
 intro rest
 induction rest with
 | nil =>
   intro done ts h hr
   rw [List.append_nil] at h
   subst h
   obtain ⟨_, f2, f3⟩ := readAll_ok d ps ts hr
   have hs := sum_of_small d ts (fun t ht => (f3 t ht).2)
   rw [hr]
   refine Ev.step' ?_; simp only [spec_l8RawPackVector.l0]
   exact Ev.neg (by rw [List.length_map]; omega) (Ev.bind (packN_is d hd ts (by omega) (by omega)) (Ev.val rfl))
 | cons p rest ih =>
   intro done ts h hr
   have hlt : done.length < ps.length := by rw [h]; simp
   have hg : ps[done.length]? = some p := by rw [h]; simp
   obtain ⟨_, f2, f3⟩ := readAll_ok d done ts hr
   have h1 := l1Read_is d hd p
   refine Ev.step' ?_; simp only [spec_l8RawPackVector.l0]
   refine Ev.pos (by rw [List.length_map]; omega) (Ev.pos (by omega) (Ev.pos (by rw [List.length_map]; omega) ?_))
   rw [rdB_at hg, wrapS (by omega) (by omega)]
   cases hq : readD d p with
   | none =>
     rw [hq] at h1
     rw [h, readAll_stop hq]
     exact Ev.bind h1 (Ev.neg (by simp [resS]) (Ev.now _))
   | some v =>
     rw [hq] at h1
     have hnext := ih (done ++ [p]) (ts ++ [v]) (by rw [h, List.append_assoc]; rfl) (readAll_snoc hr hq)
     rw [List.map_append, List.map_singleton, List.length_append, List.length_singleton] at hnext
     refine Ev.bind h1 (Ev.pos rfl (Ev.pos (by rw [List.length_map]; omega) ?_))
     show Ev (fun k => spec_l8RawPackVector.l0 k (d : Int) (ts.map (cS d) ++ [(⟨(cS d v).f0, (cS d v).f1⟩ : NS)]) (ps.map BA) ((ps.map BA).length : Int) ((done.length : Int) + 1)) _
     rw [nsEta2]
     exact hnext
theorem packR_bd (d : Nat) (ps : List By) (hps : ps.length ≤ 2000) : (packR d (readAll d ps)).2.1.length ≤ d ∧ (∀ r ∈ (packR d (readAll d ps)).2.1, r.length ≤ 400 * ps.length) ∧ (packR d (readAll d ps)).2.2.1.length ≤ 400 * ps.length := by
 cases hr : readAll d ps with
 | none => exact ⟨Nat.zero_le _, fun r hr => (by cases hr), Nat.zero_le _⟩
 | some ts =>
   obtain ⟨_, f2, f3⟩ := readAll_ok d ps ts hr
   have hs := sum_of_small d ts (fun t ht => (f3 t ht).2)
   obtain ⟨b1, b2, b3⟩ := layTs_bd d ts (List.replicate d [], []) 0 (rep_bd d)
   rw [layTs_lvl] at b1 b2 b3
   refine ⟨?_, fun r hr => Nat.le_trans (b3 r hr) (by omega), Nat.le_trans b2 (by omega)⟩
   show ((lvl d ts).map ints).length ≤ d
   rw [List.length_map, lvl_len]
   exact Nat.le_refl _
theorem packS_is (d : Nat) (hd : d ≤ 3) (ps : List By) (hps : ps.length ≤ 2000) : Ev (fun k => spec_PackVector.f k (ps.map BA) (d : Int)) (packR d (readAll d ps)) := by
 have h := packS_l0 d hd ps hps ps [] [] rfl rfl
 have hraw : Ev (fun k => spec_l8RawPackVector.f k (ps.map BA) (d : Int)) (packR d (readAll d ps)) := by
   unfold spec_l8RawPackVector.f
   rw [inN_is]
   refine Ev.call rfl (Ev.bind (Ev.now _) (Ev.pos (by rw [decide_eq_true_eq]; omega) ?_))
   refine Ev.step' ?_; simp only [spec_l8RawPackVector.j0]
   refine Ev.neg ?_ h
   rw [decide_eq_true_eq, List.length_map]
   omega
 obtain ⟨b1, b2, b3⟩ := packR_bd d ps hps
 unfold spec_PackVector.f spec_l13OwnVector.f
 exact Ev.bind hraw (Ev.bind (Ev.bind (ownLay_is _ _ (by omega) (fun r hr => Nat.le_trans (b2 r hr) (by omega)) (by omega)) (Ev.now _)) (Ev.now _))
theorem packS_out (dp : Int) (h : dp < 0 ∨ 3 < dp) (ps : List ByteArray) : Ev (fun k => spec_PackVector.f k ps dp) (packR 0 none) := by
 have hraw : Ev (fun k => spec_l8RawPackVector.f k ps dp) (packR 0 none) := by
   unfold spec_l8RawPackVector.f
   rw [inN_is]
   refine Ev.call rfl (Ev.bind (Ev.now _) (Ev.neg (by rw [decide_eq_true_eq]; omega) ?_))
   refine Ev.step' ?_; simp only [spec_l8RawPackVector.j0]
   exact Ev.pos (by first | trivial | rfl) (Ev.now _)
 unfold spec_PackVector.f spec_l13OwnVector.f
 exact Ev.bind hraw (Ev.bind (Ev.bind (ownLay_is [] [] (by simp) (fun r hr => by cases hr) (by simp)) (Ev.now _)) (Ev.now _))
end Go.Proofs.YtidpankoobdfjaaGreatDoor.K
namespace Go.Proofs.YtidpankoobdfjaaGreatDoor.K
open Go.RowKit Go.Proofs.YtidpankoobdfjaaGreatDoorW.PrintWords Go.Proofs.YtidpankoobdfjaaGreatDoorW.PrintLast Go.Proofs.YtidpankoobdfjaaGreatDoorW.PrintMore Go.Proofs.YtidpankoobdfjaaGreatDoor.Q
set_option linter.unusedSimpArgs false
set_option linter.unusedVariables false

def Dz (z : Int) : Prop := -9223372036854775807 ≤ z ∧ z ≤ 9223372036854775807
theorem l13Dec_nat (n : Nat) (hn : n ≤ 9223372036854775807) : Ev (fun k => spec_l13Dec.l0 k (n : Int) (BA [])) (BA (Lib.decDigits n)) := by
 by_cases hs : n < 1000000000000000000
 · have := l13Dec_l0 n [] hs (by simp)
   rw [List.append_nil] at this
   exact this
 · have h9 : ¬ n < 10 := by omega
   have e : (wrap64 (48 + Int.tmod (n : Int) 10)) % 256 = ((48 + n % 10 : Nat) : Int) := by
     rw [Int.tmod_eq_emod_of_nonneg (by omega), wrapS (by omega) (by omega)]
     omega
   have e2 : wrap64 (Int.tdiv (n : Int) 10) = ((n / 10 : Nat) : Int) := by
     rw [Int.tdiv_eq_ediv_of_nonneg (by omega), wrapS (by omega) (by omega)]
     omega
   refine Ev.step' ?_; simp only [spec_l13Dec.l0]
   refine Ev.pos (by omega) ?_
   rw [e, e2]
   refine Ev.call (a := [((48 + n % 10 : Nat) : Int)]) rfl (Ev.pos (by rw [strOne _ (by omega), BA_size, BA_size]; show 1 + 0 ≤ 9223372036854775807; omega) ?_)
   rw [strOne _ (by omega), BA_append]
   refine evIs (l13Dec_l0 (n / 10) _ (by omega) (by simp)) ?_
   rw [dec_big h9, List.append_nil]
theorem l13Dec_natf (n : Nat) (hn : n ≤ 9223372036854775807) : Ev (fun k => spec_l13Dec.f k (n : Int)) (BA (Lib.decDigits n)) := by
 refine Ev.step' ?_; simp only [spec_l13Dec.f]
 exact Ev.neg (by omega) (Ev.neg (by omega) (l13Dec_nat n hn))
theorem dec_len19 (n : Nat) (hn : n ≤ 9223372036854775807) : (Lib.decDigits n).length ≤ 19 :=
 dec_len 19 n (by have : (10 ^ 19 : Nat) = 10000000000000000000 := by decide
                  omega) (by omega)
theorem itoa_neg (n : Nat) (hn : 0 < n) : Lib.itoa (-(n : Int)) = 45 :: Lib.decDigits n := by
 unfold Lib.itoa
 rw [if_pos (by omega), Int.natAbs_neg, Int.natAbs_natCast]
theorem l13Dec_any {z : Int} (hz : Dz z) : Ev (fun k => spec_l13Dec.f k z) (BA (Lib.itoa z)) ∧ (Lib.itoa z).length ≤ 20 ∧ strconv_Itoa.f z = some (BA (Lib.itoa z)) := by
 obtain ⟨h1, h2⟩ := hz
 have hI : strconv_Itoa.f z = some (BA (Lib.itoa z)) := by
   unfold strconv_Itoa.f
   rw [if_pos (by omega), if_pos (by omega)]
   rfl
 by_cases hn : z < 0
 · obtain ⟨n, rfl⟩ : ∃ n : Nat, z = -(n : Int) := ⟨(-z).toNat, by omega⟩
   have e : wrap64 (-(-(n : Int))) = (n : Int) := by
     rw [Int.neg_neg]
     unfold wrap64
     omega
   have hl := dec_len19 n (by omega)
   rw [itoa_neg n (by omega)] at hI ⊢
   refine ⟨?_, by rw [List.length_cons]; omega, hI⟩
   refine Ev.step' ?_; simp only [spec_l13Dec.f]
   refine Ev.neg (by omega) (Ev.pos hn ?_)
   rw [e]
   refine Ev.bind (l13Dec_natf n (by omega)) (Ev.pos (by rw [BA_size]; omega) (Ev.val ?_))
   show BA [45] ++ BA _ = _
   rw [BA_append]
   rfl
 · obtain ⟨n, rfl⟩ : ∃ n : Nat, z = (n : Int) := ⟨z.toNat, by omega⟩
   have hl := dec_len19 n (by omega)
   rw [itoa_nat] at hI ⊢
   exact ⟨l13Dec_natf n (by omega), by omega, hI⟩
end Go.Proofs.YtidpankoobdfjaaGreatDoor.K
namespace Go.Proofs.YtidpankoobdfjaaGreatDoor.K
open Go.RowKit Go.Proofs.YtidpankoobdfjaaGreatDoorW.PrintWords Go.Proofs.YtidpankoobdfjaaGreatDoorW.PrintLast Go.Proofs.YtidpankoobdfjaaGreatDoorW.PrintMore Go.Proofs.YtidpankoobdfjaaGreatDoor.Q
set_option linter.unusedSimpArgs false
set_option linter.unusedVariables false

theorem depthV {l : List Int} (h : Bs l) (p : Nat) (hp : p ≤ 1000000000000) : ∃ v : Int, Ev (fun k => spec_l1Depth.f k l (p : Int)) (v, ((p + 1 : Nat) : Int)) ∧ -1 ≤ v ∧ v ≤ 4 := by
 obtain ⟨v, hv, h1⟩ := num_is h p hp [2, 1, 3, 2, 1, 0, 4, -1] (by simp)
 refine ⟨v, ?_, ?_⟩
 · unfold spec_l1Depth.f
   exact Ev.bind h1 (Ev.now _)
 · simp at hv
   omega
theorem dep_in (dp : Int) (h1 : -1 ≤ dp) (h2 : dp ≤ 4) : ∃ e : Nat, e ≤ 2 ∧ mx (mn dp 2) 0 = (e : Int) := by
 refine ⟨(mx (mn dp 2) 0).toNat, ?_, ?_⟩
 · unfold mx mn
   split <;> split <;> omega
 · unfold mx mn
   split <;> split <;> omega
theorem ei_is (i : Nat) (h : i ≤ 1000) : wrap64 ((i : Int) + 1) = ((i + 1 : Nat) : Int) := by rw [wrapS (by omega) (by omega)]; omega
theorem drawPack_l0 {l : List Int} (hl : Bs l) (dp : Int) (h1 : -1 ≤ dp) (h2 : dp ≤ 4) (m : Nat) (hm : m ≤ 4) : ∀ (n i : Nat) (ps : List By) (p : Nat), i + n = m → ps.length = i → p + 400 * n ≤ 10000000 →
   ∃ (qs : List By), qs.length ≤ m + 1 ∧ Ev (fun k => spec_DrawPackVector.l0 k dp (ps.map BA) (m : Int) (i : Int) l (p : Int)) (qs.map BA, dp)
 | 0, i, ps, p, him, hps, hp => by
   obtain ⟨v, g1, _⟩ := pick_is hl p (by omega) 12
   have hn : ¬ (i : Int) < (m : Int) := by omega
   by_cases hv : v = 0
   · obtain ⟨t, ht, g2⟩ := of_is hl (p + 1) (by omega) [(⟨#[]⟩ : ByteArray), (⟨#[120]⟩ : ByteArray), (⟨#[91, 49, 93]⟩ : ByteArray), (⟨#[49]⟩ : ByteArray)] (by simp)
     obtain ⟨s, rfl, _⟩ := BA_of t
     refine ⟨ps ++ [s], by rw [List.length_append, List.length_singleton]; omega, ?_⟩
     have hb : (ps.map BA).length < 8796093022208 := by rw [List.length_map]; omega
     refine Ev.step' ?_; simp only [spec_DrawPackVector.l0]
     refine Ev.neg hn (Ev.bind g1 (Ev.pos hv (Ev.bind g2 (Ev.pos hb (Ev.val ?_)))))
     rw [List.map_append, List.map_singleton]
   · refine ⟨ps, by omega, ?_⟩
     refine Ev.step' ?_; simp only [spec_DrawPackVector.l0]
     exact Ev.neg hn (Ev.bind g1 (Ev.neg hv (Ev.now _)))
 | n + 1, i, ps, p, him, hps, hp => by
   obtain ⟨e, he, ee⟩ := dep_in dp h1 h2
   have hz := szD_le (d := e) (by omega)
   have hcap := cap_in (d := e) (by omega)
   have hlt : (i : Int) < (m : Int) := by omega
   have hb : (ps.map BA).length < 8796093022208 := by rw [List.length_map]; omega
   have ei := ei_is i (by omega)
   obtain ⟨t, q, g1, g2, g3, g4, g5⟩ := draw_is e (by omega) l p hl (by omega)
   obtain ⟨s, rfl, _⟩ := BA_of t
   obtain ⟨qs, hq, hnext⟩ := drawPack_l0 hl dp h1 h2 m hm n (i + 1) (ps ++ [s]) q (by omega) (by rw [List.length_append, List.length_singleton, hps]) (by omega)
   rw [List.map_append, List.map_singleton] at hnext
   refine ⟨qs, hq, ?_⟩
   refine Ev.step' ?_; simp only [spec_DrawPackVector.l0]
   rw [ee, ei]
   exact Ev.pos hlt (Ev.bind g1 (Ev.pos hb hnext))
theorem drawPack_is (l : List Int) (h : ∀ x ∈ l, (Lit.int .u8 x).wf = true) : ∃ (ps : List By) (dp : Int), Ev (fun k => spec_DrawPackVector.f k l) (ps.map BA, dp) ∧ ps.length ≤ 5 ∧ -1 ≤ dp ∧ dp ≤ 4 := by
 obtain ⟨l', ho, hl⟩ := open_is l h
 obtain ⟨dp, g1, h1, h2⟩ := depthV hl 0 (by omega)
 obtain ⟨v, g2, hv, _⟩ := pick_is hl 1 (by omega) 4
 have hv2 := hv (by omega)
 obtain ⟨m, rfl⟩ : ∃ m : Nat, v = (m : Int) := ⟨v.toNat, by omega⟩
 obtain ⟨ps, hq, g3⟩ := drawPack_l0 hl dp h1 h2 m (by omega) m 0 [] 2 (by omega) rfl (by omega)
 refine ⟨ps, dp, ?_, by omega, h1, h2⟩
 unfold spec_DrawPackVector.f
 exact Ev.call ho (Ev.bind g1 (Ev.bind g2 g3))
/-- What a drawn vector is. -/
def drawV (d : Nat) (ps : List By) : Vec := if (packR d (readAll d ps)).2.2.2 = true then packR d (readAll d ps) else packR d (some [])
theorem l8Draw_l0 {l : List Int} (hl : Bs l) (d : Nat) (hd : d ≤ 3) (m : Nat) (hm : m ≤ 4) : ∀ (n i : Nat) (ps : List By) (p : Nat), i + n = m → ps.length = i → p + 400 * n ≤ 10000000 →
   ∃ (qs : List By) (q : Nat), qs.length ≤ m ∧ q ≤ p + 400 * n ∧ Ev (fun k => spec_l8Draw.l0 k (d : Int) (ps.map BA) (m : Int) (i : Int) l (p : Int)) ((drawV d qs).1, (drawV d qs).2.1, (drawV d qs).2.2.1, (q : Int))
 | 0, i, ps, p, him, hps, hp => by
   have hn : ¬ (i : Int) < (m : Int) := by omega
   have h1 := packS_is d hd ps (by omega)
   have h2 := packS_is d hd [] (by simp)
   refine ⟨ps, p, by omega, by omega, ?_⟩
   refine Ev.step' ?_; simp only [spec_l8Draw.l0]
   refine Ev.neg hn (Ev.bind h1 ?_)
   unfold drawV
   by_cases hok : (packR d (readAll d ps)).2.2.2 = true
   · rw [if_pos hok]
     exact Ev.pos hok (Ev.now _)
   · rw [if_neg hok]
     exact Ev.neg hok (Ev.bind h2 (Ev.now _))
 | n + 1, i, ps, p, him, hps, hp => by
   have hz := szD_le (d := d) (by omega)
   have hcap := cap_in (d := d) (by omega)
   have hlt : (i : Int) < (m : Int) := by omega
   have hb : (ps.map BA).length < 8796093022208 := by rw [List.length_map]; omega
   have ei := ei_is i (by omega)
   obtain ⟨t, q, g1, g2, g3, g4, g5⟩ := draw_is d (by omega) l p hl (by omega)
   obtain ⟨s, rfl, _⟩ := BA_of t
   obtain ⟨qs, q', hq, hq', hnext⟩ := l8Draw_l0 hl d hd m hm n (i + 1) (ps ++ [s]) q (by omega) (by rw [List.length_append, List.length_singleton, hps]) (by omega)
   rw [List.map_append, List.map_singleton] at hnext
   refine ⟨qs, q', hq, by omega, ?_⟩
   refine Ev.step' ?_; simp only [spec_l8Draw.l0]
   rw [ei]
   exact Ev.pos hlt (Ev.bind g1 (Ev.pos hb hnext))
/-- The bounds of a drawn vector. -/
def VB (m : Nat) (c : Int) (L : List (List Int)) (D : List Int) : Prop := L.length ≤ 3 ∧ (∀ r ∈ L, r.length ≤ 1600 ∧ ∀ z ∈ r, Dz z) ∧ D.length ≤ m ∧ (∀ z ∈ D, Dz z) ∧ Dz c
theorem lvl_dz {d N : Nat} {ts : List Tr} (hv : ∀ t ∈ ts, Ok d t) (hn : (ts.map (nodes d)).sum ≤ N) (hN : N ≤ 1000000) : (∀ r ∈ (lvl d ts).map ints, r.length ≤ N ∧ ∀ z ∈ r, Dz z) ∧ (ints (datN d ts)).length ≤ N ∧ ∀ z ∈ ints (datN d ts), Dz z := by
 refine ⟨fun r hr => ?_, ?_, fun z hz => ?_⟩
 · obtain ⟨s, hs, rfl⟩ := List.mem_map.1 hr
   obtain ⟨i, hi, rfl⟩ := List.mem_iff_getElem.1 hs
   have hid : i < d := by rw [lvl_len] at hi; exact hi
   have e := lvl_get d i ts hid
   rw [List.getElem?_eq_getElem hi] at e
   have e2 := Option.some.inj e
   obtain ⟨g1, g2⟩ := gen_smallL hv hn (i := i) (by omega)
   rw [e2]
   refine ⟨by rw [List.length_map, List.length_map]; exact g1, fun z hz => ?_⟩
   obtain ⟨n, hn', rfl⟩ := List.mem_map.1 hz
   obtain ⟨t, ht, rfl⟩ := List.mem_map.1 hn'
   have := (g2 t ht).2
   unfold Dz
   omega
 · obtain ⟨g1, g2⟩ := gen_smallL hv hn (i := d) (Nat.le_refl _)
   rw [List.length_map]
   unfold datN
   rw [List.length_map]
   exact g1
 · obtain ⟨n, hn', rfl⟩ := List.mem_map.1 hz
   obtain ⟨t, ht, rfl⟩ := List.mem_map.1 hn'
   obtain ⟨g1, g2⟩ := gen_smallL hv hn (i := d) (Nat.le_refl _)
   have h1 := (g2 t ht).1
   rw [Nat.sub_self] at h1
   have := h1.1
   unfold Dz
   omega
theorem packR_vb (d : Nat) (hd : d ≤ 3) (ts : List Tr) (hc : ts.length ≤ 4) (h : ∀ t ∈ ts, Ok d t ∧ (text d t).length ≤ 400) : VB 1600 (packR d (some ts)).1 (packR d (some ts)).2.1 (packR d (some ts)).2.2.1 ∧ (packR d (some ts)).1 ≤ 4 ∧ 0 ≤ (packR d (some ts)).1 := by
 have hs := sum_of_small d ts (fun t ht => (h t ht).2)
 obtain ⟨b1, b2, b3⟩ := lvl_dz (N := 1600) (fun t ht => (h t ht).1) (by omega) (by omega)
 refine ⟨⟨?_, b1, b2, b3, ?_⟩, ?_, ?_⟩
 · show ((lvl d ts).map ints).length ≤ 3
   rw [List.length_map, lvl_len]
   exact hd
 · show Dz (ts.length : Int)
   unfold Dz
   omega
 · show (ts.length : Int) ≤ 4
   omega
 · show 0 ≤ (ts.length : Int)
   omega
theorem drawV_vb (d : Nat) (hd : d ≤ 3) (ps : List By) (hps : ps.length ≤ 4) : VB 1600 (drawV d ps).1 (drawV d ps).2.1 (drawV d ps).2.2.1 ∧ (drawV d ps).1 ≤ 4 ∧ 0 ≤ (drawV d ps).1 := by
 unfold drawV
 cases hr : readAll d ps with
 | none =>
   rw [if_neg (by simp [packR])]
   exact packR_vb d hd [] (by simp) (fun t ht => by cases ht)
 | some ts =>
   obtain ⟨_, f2, f3⟩ := readAll_ok d ps ts hr
   rw [if_pos (show (packR d (some ts)).2.2.2 = true from rfl)]
   exact packR_vb d hd ts (by omega) f3
theorem l8Some_is {l : List Int} (hl : Bs l) : ∃ (c : Int) (L : List (List Int)) (D : List Int) (q : Int), Ev (fun k => spec_l8Some.f k l ((0 : Nat) : Int)) (c, L, D, q) ∧ VB 1601 c L D := by
 obtain ⟨v, hv, g1⟩ := num_is hl 0 (by omega) [1, 0, 2, 1, 3] (by simp)
 have hv2 : 0 ≤ v ∧ v ≤ 3 := by simp at hv; omega
 obtain ⟨d, rfl⟩ : ∃ d : Nat, v = (d : Int) := ⟨v.toNat, by omega⟩
 obtain ⟨m, g2, hm, _⟩ := pick_is hl 1 (by omega) 4
 have hm2 := hm (by omega)
 obtain ⟨m, rfl⟩ : ∃ j : Nat, m = (j : Int) := ⟨m.toNat, by omega⟩
 obtain ⟨qs, q, hq, hq', g3⟩ := l8Draw_l0 hl d (by omega) m (by omega) m 0 [] 2 (by omega) rfl (by omega)
 have g3' : Ev (fun k => spec_l8Draw.f k l ((2 : Nat) : Int) (d : Int) (m : Int)) ((drawV d qs).1, (drawV d qs).2.1, (drawV d qs).2.2.1, (q : Int)) := by
   unfold spec_l8Draw.f
   exact g3
 obtain ⟨⟨w1, w2, w3, w4, w5⟩, w6, w7⟩ := drawV_vb d (by omega) qs (by omega)
 generalize drawV d qs = V at *
 obtain ⟨x, g4, _⟩ := pick_is hl q (by omega) 24
 by_cases x0 : x = 0
 · have ec : wrap64 (V.1 + 1) = V.1 + 1 := wrapS (by omega) (by omega)
   obtain ⟨c, hc, g5⟩ := num_is hl (q + 1) (by omega) [-1, 2001, wrap64 (V.1 + 1), 9223372036854775807] (by simp)
   refine ⟨c, V.2.1, V.2.2.1, ((q + 1 + 1 : Nat) : Int), ?_, w1, w2, Nat.le_succ_of_le w3, w4, ?_⟩
   · unfold spec_l8Some.f
     exact Ev.bind g1 (Ev.bind g2 (Ev.bind g3' (Ev.bind g4 (Ev.pos x0 (Ev.bind g5 (Ev.now _))))))
   · rw [ec] at hc
     simp at hc
     unfold Dz
     omega
 · by_cases x1 : x = 1
   · obtain ⟨y, hy, g5⟩ := num_is hl (q + 1) (by omega) [0, -1, 10007] (by simp)
     have hyz : Dz y := by
       simp at hy
       unfold Dz
       omega
     have n1 : ([] : List Int).length + V.2.2.1.length < 17592186044416 := by rw [List.length_nil]; omega
     have n2 : ([] ++ V.2.2.1 : List Int).length < 17592186044416 := by rw [List.nil_append]; omega
     refine ⟨V.1, V.2.1, ([] ++ V.2.2.1) ++ [y], ((q + 1 + 1 : Nat) : Int), ?_, w1, w2, ?_, ?_, w5⟩
     · unfold spec_l8Some.f
       exact Ev.bind g1 (Ev.bind g2 (Ev.bind g3' (Ev.bind g4 (Ev.neg x0 (Ev.pos x1 (Ev.call rfl (Ev.pos n1 (Ev.call rfl (Ev.bind g5 (Ev.pos n2 (Ev.now _)))))))))))
     · rw [List.nil_append, List.length_append, List.length_singleton]; omega
     · intro z hz
       rw [List.nil_append] at hz
       rcases List.mem_append.1 hz with hz | hz
       · exact w4 z hz
       · rw [List.mem_singleton.1 hz]; exact hyz
   · refine ⟨V.1, V.2.1, V.2.2.1, ((q + 1 : Nat) : Int), ?_, w1, w2, Nat.le_succ_of_le w3, w4, w5⟩
     unfold spec_l8Some.f
     exact Ev.bind g1 (Ev.bind g2 (Ev.bind g3' (Ev.bind g4 (Ev.neg x0 (Ev.neg x1 (Ev.now _))))))
theorem drawUnpack_is (l : List Int) (h : ∀ x ∈ l, (Lit.int .u8 x).wf = true) : ∃ (c : Int) (L : List (List Int)) (D : List Int), Ev (fun k => spec_DrawUnpackVector.f k l) (c, L, D) ∧ VB 1601 c L D := by
 obtain ⟨l', ho, hl⟩ := open_is l h
 obtain ⟨c, L, D, q, g1, g2⟩ := l8Some_is hl
 refine ⟨c, L, D, ?_, g2⟩
 unfold spec_DrawUnpackVector.f
 exact Ev.call ho (Ev.bind g1 (Ev.now _))
end Go.Proofs.YtidpankoobdfjaaGreatDoor.K
namespace Go.Proofs.YtidpankoobdfjaaGreatDoor.K
open Go.RowKit Go.Proofs.YtidpankoobdfjaaGreatDoorW.PrintWords Go.Proofs.YtidpankoobdfjaaGreatDoorW.PrintLast Go.Proofs.YtidpankoobdfjaaGreatDoorW.PrintMore Go.Proofs.YtidpankoobdfjaaGreatDoor.Q
set_option linter.unusedSimpArgs false
set_option linter.unusedVariables false

theorem joinW_cons (x y : By) (l : List By) : Lib.join (x :: y :: l) [32] = x ++ 32 :: Lib.join (y :: l) [32] := by
 simp [Lib.join, List.intercalate, List.intersperse]
theorem joinW_one (x : By) : Lib.join [x] [32] = x := by simp [Lib.join, List.intercalate]
theorem joinW_nil : Lib.join [] [32] = [] := rfl
theorem joinW_snoc : ∀ (xs : List By) (x : By), xs ≠ [] → Lib.join (xs ++ [x]) [32] = Lib.join xs [32] ++ 32 :: x
 | [], x, h => absurd rfl h
 | [y], x, _ => by rw [List.singleton_append, joinW_cons, joinW_one, joinW_one]
 | y :: z :: l, x, _ => by
   have := joinW_snoc (z :: l) x (by simp)
   rw [List.cons_append, List.cons_append, joinW_cons, joinW_cons, ← List.cons_append, this]
   simp
abbrev tks (xs : List Int) : List By := xs.map Lib.itoa
def wds (xs : List Int) : By := Lib.join (tks xs) [32]
def spT (xs : List Int) : By := if xs = [] then [45] else wds xs
theorem wds_len : ∀ (xs : List Int), (∀ z ∈ xs, Dz z) → (wds xs).length ≤ 21 * xs.length
 | [], _ => by simp [wds, tks, joinW_nil]
 | [x], h => by
   have h1 := (l13Dec_any (h x (by simp))).2.1
   show (Lib.join [Lib.itoa x] [32]).length ≤ _
   rw [joinW_one]
   simp
   omega
 | x :: y :: l, h => by
   have h1 := (l13Dec_any (h x (by simp))).2.1
   have ih := wds_len (y :: l) (fun z hz => h z (List.mem_cons_of_mem _ hz))
   show (Lib.join (Lib.itoa x :: Lib.itoa y :: tks l) [32]).length ≤ _
   rw [joinW_cons, List.length_append, List.length_cons]
   have e : (Lib.join (Lib.itoa y :: tks l) [32]).length = (wds (y :: l)).length := rfl
   rw [e]
   simp at ih ⊢
   omega
theorem wds_take (xs : List Int) (i : Nat) (h : i < xs.length) (h0 : 0 < i) : wds (xs.take (i + 1)) = wds (xs.take i) ++ 32 :: Lib.itoa xs[i] := by
 unfold wds tks
 rw [List.take_succ_eq_append_getElem h, List.map_append, List.map_cons, List.map_nil, joinW_snoc]
 intro e
 have := congrArg List.length e
 rw [List.length_map, List.length_take, List.length_nil] at this
 omega
theorem itoa_ne (z : Int) : Lib.itoa z ≠ [] := by
 unfold Lib.itoa
 split
 · simp
 · exact dec_ne _
theorem wds_ne {xs : List Int} (h : xs ≠ []) : wds xs ≠ [] := by
 match xs, h with
 | [x], _ =>
   show Lib.join [Lib.itoa x] [32] ≠ []
   rw [joinW_one]
   exact itoa_ne x
 | x :: y :: l, _ =>
   show Lib.join (Lib.itoa x :: Lib.itoa y :: tks l) [32] ≠ []
   rw [joinW_cons]
   simp
theorem spT_len (xs : List Int) (h : ∀ z ∈ xs, Dz z) : (spT xs).length ≤ 21 * xs.length + 1 := by
 unfold spT
 split
 · simp
 · have := wds_len xs h
   omega
theorem spaced_l0 (xs : List Int) (hx : ∀ z ∈ xs, Dz z) (hl : xs.length ≤ 1000000) : ∀ (n i : Nat), xs.length - i = n → i ≤ xs.length → Ev (fun k => impl_spaced.l0 k ((tks (xs.take i)).map BA) xs (xs.length : Int) (i : Int)) (BA (wds xs)) := by
 intro n
 induction n with
 | zero =>
   intro i h1 h2
   rw [List.take_of_length_le (by omega)]
   refine Ev.step' ?_; simp only [impl_spaced.l0]
   refine Ev.neg (by omega) ?_
   have hj : strings_Join.f ((tks xs).map BA) (⟨#[32]⟩ : ByteArray) = some (BA (wds xs)) := by
     have e : ((tks xs).map BA).map (·.data.toList) = tks xs := by
       rw [List.map_map]
       conv => rhs; rw [← List.map_id (tks xs)]
       refine List.map_congr_left (fun x _ => ?_)
       exact data_BA _
     have hw := wds_len xs hx
     unfold strings_Join.f
     rw [e, if_pos (by rw [List.length_map, List.length_map]; omega), if_pos (by show (wds xs).length ≤ _; omega)]
     rfl
   exact Ev.call hj (Ev.now _)
 | succ n ih =>
   intro i h1 h2
   have hi : i < xs.length := by omega
   have hnext := ih (i + 1) (by omega) (by omega)
   have e1 : (tks (xs.take (i + 1))).map BA = (tks (xs.take i)).map BA ++ [BA (Lib.itoa xs[i])] := by
     unfold tks
     rw [List.take_succ_eq_append_getElem hi, List.map_append, List.map_append]
     rfl
   rw [e1] at hnext
   refine Ev.step' ?_; simp only [impl_spaced.l0]
   refine Ev.pos (by omega) (Ev.pos (by omega) (Ev.pos (by omega) ?_))
   rw [rd_at hi, wrapS (by omega) (by omega)]
   exact Ev.call (l13Dec_any (hx _ (List.getElem_mem hi))).2.2 (Ev.pos (by rw [List.length_map, List.length_map, List.length_take]; omega) hnext)
theorem spaced_is (xs : List Int) (hx : ∀ z ∈ xs, Dz z) (hl : xs.length ≤ 1000000) : Ev (fun k => impl_spaced.f k xs) (BA (spT xs)) := by
 unfold impl_spaced.f spT
 by_cases h0 : xs = []
 · subst h0
   rw [if_pos rfl]
   exact Ev.pos rfl (Ev.now _)
 · have hp := List.length_pos_iff.2 h0
   rw [if_neg h0]
   exact Ev.neg (by omega) (spaced_l0 xs hx hl _ 0 rfl (Nat.zero_le _))
theorem l2Numbers_l0 (xs : List Int) (hx : ∀ z ∈ xs, Dz z) (hl : xs.length ≤ 1000000) : ∀ (n i : Nat), xs.length - i = n → i ≤ xs.length → Ev (fun k => spec_l2Numbers.l0 k (BA (wds (xs.take i))) xs (xs.length : Int) (i : Int)) (BA (spT xs)) := by
 intro n
 induction n with
 | zero =>
   intro i h1 h2
   rw [List.take_of_length_le (by omega)]
   refine Ev.step' ?_; simp only [spec_l2Numbers.l0]
   refine Ev.neg (by omega) ?_
   rw [toList_BA]
   unfold spT
   by_cases h0 : xs = []
   · subst h0
     rw [if_pos rfl]
     exact Ev.pos rfl (Ev.now _)
   · rw [if_neg h0]
     exact Ev.neg (wds_ne h0) (Ev.now _)
 | succ n ih =>
   intro i h1 h2
   have hi : i < xs.length := by omega
   have hnext := ih (i + 1) (by omega) (by omega)
   obtain ⟨hd, hdl, _⟩ := l13Dec_any (hx _ (List.getElem_mem hi))
   have hw := wds_len (xs.take i) (fun z hz => hx z (List.mem_of_mem_take hz))
   rw [List.length_take, Nat.min_eq_left (by omega)] at hw
   refine Ev.step' ?_; simp only [spec_l2Numbers.l0]
   refine Ev.pos (by omega) (Ev.pos (by omega) (Ev.pos (by omega) ?_))
   rw [rd_at hi, wrapS (by omega) (by omega)]
   rcases Nat.eq_zero_or_pos i with rfl | h0
   · refine Ev.neg (by omega) (Ev.bind hd (Ev.pos (by rw [BA_size, BA_size]; omega) ?_))
     rw [BA_append]
     have e : wds (xs.take 0) ++ Lib.itoa xs[0] = wds (xs.take (0 + 1)) := by
       rw [List.take_succ_eq_append_getElem hi]
       show [] ++ _ = Lib.join [Lib.itoa xs[0]] [32]
       rw [joinW_one]
       rfl
     rw [e]
     exact hnext
   · refine Ev.pos (by omega) (Ev.pos (by rw [BA_size]; omega) (Ev.bind hd (Ev.pos (by rw [BA_size, BA_size]; omega) ?_)))
     have e : BA (wds (xs.take i)) ++ (⟨#[32]⟩ : ByteArray) ++ BA (Lib.itoa xs[i]) = BA (wds (xs.take (i + 1))) := by
       show BA _ ++ BA [32] ++ BA _ = _
       rw [BA_append, BA_append, wds_take xs i hi h0, List.append_assoc]
       rfl
     rw [e]
     exact hnext
theorem l2Numbers_is (xs : List Int) (hx : ∀ z ∈ xs, Dz z) (hl : xs.length ≤ 1000000) : Ev (fun k => spec_l2Numbers.f k xs) (BA (spT xs)) := by
 unfold spec_l2Numbers.f
 exact l2Numbers_l0 xs hx hl _ 0 rfl (Nat.zero_le _)
/-- The text of a layout's levels. -/
def lvT (L : List (List Int)) : By := (L.map (fun r => spT r ++ [124])).flatten
def layTx (L : List (List Int)) (D : List Int) : By := lvT L ++ spT D
def Dzs (L : List (List Int)) (D : List Int) : Prop := L.length ≤ 1000 ∧ (∀ r ∈ L, r.length ≤ 1000000 ∧ ∀ z ∈ r, Dz z) ∧ D.length ≤ 1000000 ∧ ∀ z ∈ D, Dz z
theorem lvT_len : ∀ (L : List (List Int)), (∀ r ∈ L, r.length ≤ 1000000 ∧ ∀ z ∈ r, Dz z) → (lvT L).length ≤ 21000002 * L.length
 | [], _ => by simp [lvT]
 | r :: L, h => by
   have h1 := h r (by simp)
   have h2 := spT_len r h1.2
   have ih := lvT_len L (fun x hx => h x (List.mem_cons_of_mem _ hx))
   have e : lvT (r :: L) = (spT r ++ [124]) ++ lvT L := by simp [lvT]
   rw [e, List.length_append, List.length_append]
   have h3 := h1.1
   simp at ih ⊢
   omega
theorem lvT_take (L : List (List Int)) (i : Nat) (h : i < L.length) : lvT (L.take (i + 1)) = lvT (L.take i) ++ (spT L[i] ++ [124]) := by
 unfold lvT
 rw [List.take_succ_eq_append_getElem h, List.map_append, List.flatten_append]
 congr 1
 simp
theorem getLv {L : List (List Int)} {i : Nat} (h : i < L.length) : rd_L3 L (i : Int) = L[i] := by
 show L.getD i [] = _
 rw [List.getD_eq_getElem?_getD, List.getElem?_eq_getElem h]
 rfl
theorem fmt_l0 (L : List (List Int)) (D : List Int) (hD : Dzs L D) : ∀ (n i : Nat), L.length - i = n → i ≤ L.length →
   Ev (fun k => impl_FormatLayout.l0 k (BA (lvT (L.take i))) L (L.length : Int) (i : Int) L D) (BA (layTx L D)) ∧ Ev (fun k => spec_FormatLayout.l0 k (BA (lvT (L.take i))) L (L.length : Int) (i : Int) L D) (BA (layTx L D)) := by
 obtain ⟨d1, d2, d3, d4⟩ := hD
 intro n
 induction n with
 | zero =>
   intro i h1 h2
   have hlv := lvT_len L d2
   have hsp := spT_len D d4
   rw [List.take_of_length_le (by omega)]
   have hb : (BA (lvT L)).size + (BA (spT D)).size ≤ 9223372036854775807 := by rw [BA_size, BA_size]; omega
   constructor
   · refine Ev.step' ?_; simp only [impl_FormatLayout.l0]
     refine Ev.neg (by omega) (Ev.bind (spaced_is D d4 d3) (Ev.pos hb (Ev.val ?_)))
     rw [BA_append]
     rfl
   · refine Ev.step' ?_; simp only [spec_FormatLayout.l0]
     refine Ev.neg (by omega) (Ev.bind (l2Numbers_is D d4 d3) (Ev.pos hb (Ev.val ?_)))
     rw [BA_append]
     rfl
 | succ n ih =>
   intro i h1 h2
   have hi : i < L.length := by omega
   obtain ⟨n1, n2⟩ := ih (i + 1) (by omega) (by omega)
   obtain ⟨r1, r2⟩ := d2 _ (List.getElem_mem hi)
   have hlv := lvT_len (L.take i) (fun r hr => d2 r (List.mem_of_mem_take hr))
   rw [List.length_take, Nat.min_eq_left (by omega)] at hlv
   have hsp := spT_len L[i] r2
   have e1 : BA (lvT (L.take i)) ++ (BA (spT L[i]) ++ (⟨#[124]⟩ : ByteArray)) = BA (lvT (L.take (i + 1))) := by
     show BA _ ++ (BA _ ++ BA [124]) = _
     rw [BA_append, BA_append, lvT_take L i hi]
   have e2 : BA (lvT (L.take i)) ++ BA (spT L[i]) ++ (⟨#[124]⟩ : ByteArray) = BA (lvT (L.take (i + 1))) := by
     show BA _ ++ BA _ ++ BA [124] = _
     rw [BA_append, BA_append, lvT_take L i hi, List.append_assoc]
   constructor
   · refine Ev.step' ?_; simp only [impl_FormatLayout.l0]
     refine Ev.pos (by omega) (Ev.pos (by omega) (Ev.pos (by omega) ?_))
     rw [getLv hi, wrapS (by omega) (by omega)]
     refine Ev.bind (spaced_is L[i] r2 r1) (Ev.pos (by rw [BA_size]; omega) (Ev.pos (by rw [BA_size, BA_size]; omega) ?_))
     rw [e1]
     exact n1
   · refine Ev.step' ?_; simp only [spec_FormatLayout.l0]
     refine Ev.pos (by omega) (Ev.pos (by omega) (Ev.pos (by omega) ?_))
     rw [getLv hi, wrapS (by omega) (by omega)]
     refine Ev.bind (l2Numbers_is L[i] r2 r1) (Ev.pos (by rw [BA_size, BA_size]; omega) (Ev.pos (by rw [BA_size, BA_size]; omega) ?_))
     rw [e2]
     exact n2
theorem fmt_is (L : List (List Int)) (D : List Int) (hD : Dzs L D) : Ev (fun k => impl_FormatLayout.f k L D) (BA (layTx L D)) ∧ Ev (fun k => spec_FormatLayout.f k L D) (BA (layTx L D)) := by
 obtain ⟨h1, h2⟩ := fmt_l0 L D hD _ 0 rfl (Nat.zero_le _)
 unfold impl_FormatLayout.f spec_FormatLayout.f
 exact ⟨h1, h2⟩
theorem layTx_len (L : List (List Int)) (D : List Int) (hD : Dzs L D) : (layTx L D).length ≤ 100000000000 := by
 obtain ⟨d1, d2, d3, d4⟩ := hD
 have h1 := lvT_len L d2
 have h2 := spT_len D d4
 unfold layTx
 rw [List.length_append]
 omega
end Go.Proofs.YtidpankoobdfjaaGreatDoor.K
namespace Go.Proofs.YtidpankoobdfjaaGreatDoor.K
open Go.RowKit Go.Proofs.YtidpankoobdfjaaGreatDoorW.PrintWords Go.Proofs.YtidpankoobdfjaaGreatDoorW.PrintLast Go.Proofs.YtidpankoobdfjaaGreatDoorW.PrintMore Go.Proofs.YtidpankoobdfjaaGreatDoor.Q
set_option linter.unusedSimpArgs false
set_option linter.unusedVariables false

theorem faSame_l0 (l : List Int) (hl : l.length ≤ 1000000000) : ∀ (n i : Nat), l.length - i = n → i ≤ l.length → Ev (fun k => laws_faSame.l0 k l l (l.length : Int) (i : Int)) true := by
 intro n
 induction n with
 | zero =>
   intro i h hi
   refine Ev.step' ?_; simp only [laws_faSame.l0]
   exact Ev.neg (by omega) (Ev.val (by simp))
 | succ n ih =>
   intro i h hi
   refine Ev.step' ?_; simp only [laws_faSame.l0]
   refine Ev.pos (by omega) (Ev.pos (by omega) (Ev.pos (by omega) (Ev.pos (by omega) (Ev.pos (by first | trivial | rfl) ?_))))
   rw [wrapS (by omega) (by omega)]
   exact ih (i + 1) (by omega) (by omega)
theorem faSame_is (l : List Int) (hl : l.length ≤ 1000000000) : Ev (fun k => laws_faSame.f k l l) true := by
 unfold laws_faSame.f
 rw [show mn (l.length : Int) (l.length : Int) = (l.length : Int) by unfold mn; split <;> rfl]
 exact faSame_l0 l hl _ 0 rfl (by omega)
end Go.Proofs.YtidpankoobdfjaaGreatDoor.K
namespace Go.Proofs.YtidpankoobdfjaaGreatDoor.K
open Go.RowKit Go.Proofs.YtidpankoobdfjaaGreatDoorW.PrintWords Go.Proofs.YtidpankoobdfjaaGreatDoorW.PrintLast Go.Proofs.YtidpankoobdfjaaGreatDoorW.PrintMore Go.Proofs.YtidpankoobdfjaaGreatDoor.Q
set_option linter.unusedSimpArgs false
set_option linter.unusedVariables false

theorem faLists_l0 (L : List (List Int)) (hL : L.length ≤ 1000) (hb : ∀ r ∈ L, r.length ≤ 1000000) : ∀ (n i : Nat), L.length - i = n → i ≤ L.length → Ev (fun k => laws_faLists.l0 k L L (L.length : Int) (i : Int)) true := by
 intro n
 induction n with
 | zero =>
   intro i h1 h2
   refine Ev.step' ?_; simp only [laws_faLists.l0]
   exact Ev.neg (by omega) (Ev.val (by simp))
 | succ n ih =>
   intro i h1 h2
   have hi : i < L.length := by omega
   have hg : rd_L3 L (i : Int) = L[i] := by
     show L.getD i [] = _
     rw [List.getD_eq_getElem?_getD, List.getElem?_eq_getElem hi]
     rfl
   have hnext := ih (i + 1) (by omega) (by omega)
   have hs := faSame_is L[i] (Nat.le_trans (hb _ (List.getElem_mem hi)) (by omega))
   refine Ev.step' ?_; simp only [laws_faLists.l0]
   refine Ev.pos (by omega) (Ev.pos (by omega) (Ev.pos (by omega) (Ev.pos (by omega) ?_)))
   rw [hg]
   refine Ev.bind hs (Ev.pos rfl ?_)
   rw [wrapS (by omega) (by omega)]
   exact hnext
theorem faLay_is (L : List (List Int)) (D : List Int) (hL : L.length ≤ 1000) (hb : ∀ r ∈ L, r.length ≤ 1000000) (hD : D.length ≤ 1000000) : Ev (fun k => laws_faLayout.f k L D L D) true := by
 have h0 : Ev (fun k => laws_faLists.f k L L) true := by
   unfold laws_faLists.f
   have e : mn (L.length : Int) (L.length : Int) = (L.length : Int) := by unfold mn; split <;> rfl
   rw [e]
   exact faLists_l0 L hL hb _ 0 rfl (Nat.zero_le _)
 unfold laws_faLayout.f
 exact Ev.bind h0 (Ev.pos rfl (Ev.bind (faSame_is D (by omega)) (Ev.now _)))
end Go.Proofs.YtidpankoobdfjaaGreatDoor.K
namespace Go.Proofs.YtidpankoobdfjaaGreatDoor.K
open Go.RowKit Go.Proofs.YtidpankoobdfjaaGreatDoorW.PrintWords Go.Proofs.YtidpankoobdfjaaGreatDoorW.PrintLast Go.Proofs.YtidpankoobdfjaaGreatDoorW.PrintMore Go.Proofs.YtidpankoobdfjaaGreatDoor.Q
set_option linter.unusedSimpArgs false
set_option linter.unusedVariables false

theorem faTexts_l0 (l : List ByteArray) (hl : l.length ≤ 1000000000) : ∀ (n i : Nat), l.length - i = n → i ≤ l.length → Ev (fun k => laws_faTexts.l0 k l l (l.length : Int) (i : Int)) true := by
 intro n
 induction n with
 | zero =>
   intro i h hi
   refine Ev.step' ?_; simp only [laws_faTexts.l0]
   exact Ev.neg (by omega) (Ev.val (by simp))
 | succ n ih =>
   intro i h hi
   refine Ev.step' ?_; simp only [laws_faTexts.l0]
   refine Ev.pos (by omega) (Ev.pos (by omega) (Ev.pos (by omega) (Ev.pos (by omega) (Ev.pos (by first | trivial | rfl) ?_))))
   rw [wrapS (by omega) (by omega)]
   exact ih (i + 1) (by omega) (by omega)
theorem faTexts_is (l : List ByteArray) (hl : l.length ≤ 1000000000) : Ev (fun k => laws_faTexts.f k l l) true := by
 unfold laws_faTexts.f
 rw [show mn (l.length : Int) (l.length : Int) = (l.length : Int) by unfold mn; split <;> rfl]
 exact faTexts_l0 l hl _ 0 rfl (by omega)
end Go.Proofs.YtidpankoobdfjaaGreatDoor.K
namespace Go.Proofs.YtidpankoobdfjaaGreatDoor.K
open Go.RowKit Go.Proofs.YtidpankoobdfjaaGreatDoorW.PrintWords Go.Proofs.YtidpankoobdfjaaGreatDoorW.PrintLast Go.Proofs.YtidpankoobdfjaaGreatDoorW.PrintMore Go.Proofs.YtidpankoobdfjaaGreatDoor.Q
set_option linter.unusedSimpArgs false
set_option linter.unusedVariables false

theorem fmtV_is (c : Int) (L : List (List Int)) (D : List Int) (hc : Dz c) (hD : Dzs L D) : ∃ T, Ev (fun k => impl_FormatVector.f k c L D) T ∧ Ev (fun k => spec_FormatVector.f k c L D) T := by
 obtain ⟨f1, f2⟩ := fmt_is L D hD
 have hl := layTx_len L D hD
 obtain ⟨g1, g2, g3⟩ := l13Dec_any hc
 have b1 : (BA (Lib.itoa c)).size + 1 ≤ 9223372036854775807 := by rw [BA_size]; omega
 have b2 : (BA (Lib.itoa c)).size + 1 + (BA (layTx L D)).size ≤ 9223372036854775807 := by rw [BA_size, BA_size]; omega
 refine ⟨BA (Lib.itoa c) ++ (⟨#[42]⟩ : ByteArray) ++ BA (layTx L D), ?_, ?_⟩
 · unfold impl_FormatVector.f
   exact Ev.call g3 (Ev.pos b1 (Ev.bind f1 (Ev.pos b2 (Ev.now _))))
 · unfold spec_FormatVector.f
   exact Ev.bind g1 (Ev.pos b1 (Ev.bind f2 (Ev.pos b2 (Ev.now _))))
theorem faVec_is (c : Int) (L : List (List Int)) (D : List Int) (hL : L.length ≤ 1000) (hb : ∀ r ∈ L, r.length ≤ 1000000) (hD : D.length ≤ 1000000) : Ev (fun k => laws_faVector.f k c L D c L D) true := by
 unfold laws_faVector.f
 exact Ev.pos rfl (Ev.bind (faLay_is L D hL hb hD) (Ev.now _))
/-- What the law asks of a drawn vector. -/
theorem law_u (c : Int) (L : List (List Int)) (D : List Int) (hvb : VB 1601 c L D) : ∃ (r : List ByteArray × Bool) (b : Bool), Ev (fun k => impl_UnpackVector.f k c L D) r ∧ Ev (fun k => spec_UnpackVector.f k c L D) r ∧
   Ev (fun k => impl_VectorValid.f k c L D) b ∧ Ev (fun k => spec_VectorValid.f k c L D) b ∧ r.1.length ≤ 2000 ∧ (r.2 = true → Ev (fun k => impl_PackVector.f k r.1 (L.length : Int)) (c, L, D, true)) := by
 obtain ⟨v1, v2, v3, v4, v5⟩ := hvb
 have hb : ∀ r ∈ L, r.length ≤ 2000 := fun r hr => Nat.le_trans (v2 r hr).1 (by omega)
 have vA := validA c L D (by omega) hb (by omega)
 have vS := validS c L D (by omega) hb (by omega)
 cases hval : vok c L D with
 | false =>
   obtain ⟨u1, u2⟩ := unp_not c L D (by omega) hb (by omega) hval
   rw [hval] at vA vS
   exact ⟨([], false), false, u1, u2, vA, vS, by simp, fun h => by cases h⟩
 | true =>
   rw [hval] at vA vS
   obtain ⟨ts, t1, t2, t3, t4, t5, t6, t7⟩ := vok_trees hval
   have hs := sum_bd 1600 (L.map List.length) (fun x hx => by
     obtain ⟨r, hr, rfl⟩ := List.mem_map.1 hx
     exact (v2 r hr).1)
   rw [List.length_map] at hs
   obtain ⟨d, hd⟩ : ∃ d, d = L.length := ⟨_, rfl⟩
   rw [← hd] at t1 t3 t4 t5 t7 hs
   have hd3 : d ≤ 3 := t5
   subst t2
   have hLd : (L.length : Int) = (d : Int) := by rw [hd]
   clear hd v1
   subst t3
   subst t4
   obtain ⟨u1, u2⟩ := unp_trees hd3 t1 (by omega) t6 hval hb (by omega)
   refine ⟨unpR d ts, true, u1, u2, vA, vS, ?_, fun h => ?_⟩
   · unfold unpR
     split
     · rw [List.length_map]; exact t6
     · simp
   · have hall : ∀ t ∈ ts, (text d t).length ≤ 400 := by
       unfold unpR at h
       split at h
       · assumption
       · cases h
     have e : (unpR d ts).1 = (ts.map (text d)).map BA := by
       unfold unpR
       rw [if_pos hall, List.map_map]
       rfl
     have hp := packA_is d hd3 (ts.map (text d)) (by rw [List.length_map]; exact t6)
     rw [readAll_text d ts (fun t ht => ⟨t1 t ht, hall t ht⟩)] at hp
     rw [e, hLd]
     exact hp
/-- What the law asks of packed texts. -/
theorem law_p (ps : List By) (hps : ps.length ≤ 5) (dp : Int) : ∃ V : Vec, Ev (fun k => impl_PackVector.f k (ps.map BA) dp) V ∧ Ev (fun k => spec_PackVector.f k (ps.map BA) dp) V ∧
   Ev (fun k => laws_faVector.f k V.1 V.2.1 V.2.2.1 V.1 V.2.1 V.2.2.1) true ∧ Ev (fun k => laws_FnPackVector.j2 k (ps.map BA) dp V.2.2.2 V.1 V.2.1 V.2.2.1) true := by
 have hno : Ev (fun k => laws_FnPackVector.j2 k (ps.map BA) dp false 0 [] []) true := by
   refine Ev.step' ?_; simp only [laws_FnPackVector.j2]
   exact Ev.neg (by simp) (Ev.now _)
 by_cases h0 : dp < 0 ∨ 3 < dp
 · exact ⟨packR 0 none, packA_out dp h0 _, packS_out dp h0 _, faVec_is 0 [] [] (by simp) (fun r hr => by cases hr) (by simp), hno⟩
 obtain ⟨d, rfl⟩ : ∃ d : Nat, dp = (d : Int) := ⟨dp.toNat, by omega⟩
 have hd : d ≤ 3 := by omega
 obtain ⟨b1, b2, b3⟩ := packR_bd d ps (by omega)
 refine ⟨packR d (readAll d ps), packA_is d hd ps (by omega), packS_is d hd ps (by omega), faVec_is _ _ _ (by omega) (fun r hr => Nat.le_trans (b2 r hr) (by omega)) (by omega), ?_⟩
 cases hr : readAll d ps with
 | none => exact hno
 | some ts =>
   rw [hr] at b1 b2 b3
   obtain ⟨e1, e2, e3⟩ := readAll_ok d ps ts hr
   have hs := sum_of_small d ts (fun t ht => (e3 t ht).2)
   have hval := vok_of hd (ts := ts) (fun t ht => ⟨(e3 t ht).1, Nat.le_trans (nodes_le_text d t) (e3 t ht).2⟩) (by omega)
   have hb : ∀ r ∈ (lvl d ts).map ints, r.length ≤ 2000 := fun r hr => Nat.le_trans (b2 r hr) (by omega)
   have hD : (ints (datN d ts)).length ≤ 2000 := Nat.le_trans b3 (by omega)
   obtain ⟨u1, _⟩ := unp_trees hd (fun t ht => (e3 t ht).1) (by omega) (by omega) hval hb hD
   have vA := validA (ts.length : Int) ((lvl d ts).map ints) (ints (datN d ts)) (by rw [List.length_map, lvl_len]; omega) hb hD
   rw [hval] at vA
   have eU : unpR d ts = (ps.map BA, true) := by
     unfold unpR
     rw [if_pos (fun t ht => (e3 t ht).2)]
     conv => rhs; rw [e1, List.map_map]
     rfl
   rw [eU] at u1
   show Ev (fun k => laws_FnPackVector.j2 k (ps.map BA) (d : Int) true (ts.length : Int) ((lvl d ts).map ints) (ints (datN d ts))) true
   refine Ev.step' ?_; simp only [laws_FnPackVector.j2]
   refine Ev.pos (by first | trivial | rfl) (Ev.bind u1 (Ev.pos rfl (Ev.bind (faTexts_is _ (by rw [List.length_map]; omega)) (Ev.pos rfl (Ev.bind vA (Ev.pos rfl (Ev.pos (by rw [List.length_map]; omega) (Ev.val ?_))))))))
   rw [List.length_map, lvl_len]
   simp
theorem Pure_FnPackVector : laws_FnPackVector.Pure := by
 intro l0 l1 _ _ h0 _ _ h1
 refine Ev.rounds (r := true) ?_
 have ht : Ev (fun k => laws_FnPackVector.j0 k l0 l1 true) true := by
   refine Ev.step' ?_; simp only [laws_FnPackVector.j0]
   exact Ev.pos (by first | trivial | rfl) (Ev.now _)
 unfold laws_FnPackVector.f
 by_cases c0 : (l0.length : Int) > 1048576
 · exact Ev.pos c0 ht
 refine Ev.neg c0 ?_
 by_cases c1 : (l1.length : Int) > 1048576
 · rw [decide_eq_true c1]
   exact ht
 rw [decide_eq_false c1]
 obtain ⟨ps, dp, g1, g2, g3, g4⟩ := drawPack_is l0 h0
 obtain ⟨c, L, D, u1, hvb⟩ := drawUnpack_is l1 h1
 obtain ⟨V, p1, p2, p3, p4⟩ := law_p ps g2 dp
 obtain ⟨r, b, r1, r2, r3, r4, r5, r6⟩ := law_u c L D hvb
 have hT := faTexts_is r.1 (by omega)
 obtain ⟨v1, v2, v3, v4, v5⟩ := hvb
 obtain ⟨T, f1, f2⟩ := fmtV_is c L D v5 ⟨by omega, fun x hx => ⟨Nat.le_trans (v2 x hx).1 (by omega), (v2 x hx).2⟩, by omega, v4⟩
 have hj : Ev (fun k => laws_FnPackVector.j1 k (ps.map BA) dp V.2.2.2 r.1 r.2 false V.1 V.2.1 V.2.2.1 c L D) true := by
   refine Ev.step' ?_; simp only [laws_FnPackVector.j1]
   refine Ev.neg (by simp) ?_
   by_cases hr : r.2 = true
   · exact Ev.pos hr (Ev.bind (r6 hr) (Ev.pos rfl (Ev.bind (faVec_is c L D (by omega) (fun x hx => Nat.le_trans (v2 x hx).1 (by omega)) (by omega)) (Ev.pos rfl p4))))
   · exact Ev.neg hr p4
 refine Ev.step' ?_; simp only [laws_FnPackVector.j0]
 refine Ev.neg (by simp) (Ev.bind g1 (Ev.bind p1 (Ev.bind p2 (Ev.bind u1 (Ev.bind r1 (Ev.bind r2 (Ev.bind p3 (Ev.pos rfl (Ev.neg (by simp) (Ev.bind hT (Ev.pos rfl (Ev.neg (by simp) (Ev.bind r3 (Ev.bind r4 (Ev.neg (by simp) (Ev.bind f1 (Ev.bind f2 ?_)))))))))))))))))
 rw [show (T.toList != T.toList) = false by simp]
 exact hj
end Go.Proofs.YtidpankoobdfjaaGreatDoor.K
