/- Signs are those of segments: sums, greatest numbers, scans, lengths, turned and flattened arrays are the same. -/
import Derived.Test.YtoloblgjlnhioaaGreatDoorIFQbase
import Derived.Test.YtoloblgjlnhioaaGreatDoorIFx5
import Derived.Test.YtoloblgjlnhioaaGreatDoorIFx2
import Derived.Test.YtoloblgjlnhioaaGreatDoorIFx1
import Derived.Test.YtoloblgjlnhioaaGreatDoorIFx0
import Derived.Test.YtoloblgjlnhioaaGreatDoorIFx3
import Derived.Test.YtoloblgjlnhioaaGreatDoorIFx6
import Derived.Test.YtoloblgjlnhioaaGreatDoorIFx4
import Derived.Test.YtoloblgjlnhioaaGreatDoorIFx7
import Derived.Test.YtoloblgjlnhioaaGreatDoorIFx8
import Derived.Test.YtoloblgjlnhioaaGreatDoorIFSgw
namespace Go.Proofs.YtoloblgjlnhioaaGreatDoor.I
open Go.RowKit Go.Proofs.YtoloblgjlnhioaaGreatDoorW.PrintWords Go.Proofs.YtoloblgjlnhioaaGreatDoorW.PrintLast Go.Proofs.YtoloblgjlnhioaaGreatDoorW.PrintMore Go.Proofs.YtoloblgjlnhioaaGreatDoor.Q
set_option linter.unusedSimpArgs false
set_option linter.unusedVariables false

abbrev NA := S68
abbrev NS := S79
def cA : Nat → Tr → NA
 | 0, t => ⟨(t.n : Int), []⟩
 | d + 1, t => ⟨(t.n : Int), t.parts.map (cA d)⟩
def cS : Nat → Tr → NS
 | 0, t => ⟨(t.n : Int), []⟩
 | d + 1, t => ⟨(t.n : Int), t.parts.map (cS d)⟩
theorem mkA (t : NA) : (⟨t.f0, t.f1⟩ : NA) = t := by cases t; rfl
theorem mkS (t : NS) : (⟨t.f0, t.f1⟩ : NS) = t := by cases t; rfl
theorem cA_f0 (d : Nat) (t : Tr) : (cA d t).f0 = (t.n : Int) := by cases d <;> rfl
theorem cS_f0 (d : Nat) (t : Tr) : (cS d t).f0 = (t.n : Int) := by cases d <;> rfl

/-! ### impl.readArr -/
abbrev RA := Int × List NA × ByteArray × Bool
def badA : RA := (0, [], BA [], false)
def resA (d : Nat) : Option (Tr × By) → RA
 | none => badA
 | some (t, r) => ((cA d t).f0, (cA d t).f1, BA r, true)
theorem bt_at {l : By} {i : Nat} (h : i < l.length) : bt (BA l) (i : Int) = (l[i].toNat : Int) := by
 rw [bt_BA, Int.toNat_natCast, List.getD_eq_getElem?_getD, List.getElem?_eq_getElem h]
 rfl
theorem take_split {l : By} (i : Nat) (h : (l.take i).all isD = true) (hn : ∀ x : i < l.length, isD l[i] = false) : l.takeWhile isD = l.take i ∧ l.dropWhile isD = l.drop i := by
 have e : l = l.take i ++ l.drop i := (List.take_append_drop i l).symm
 have := takeWhile_digits (ds := l.take i) (r := l.drop i) h (by
   intro c r hr
   by_cases hi : i < l.length
   · rw [List.drop_eq_getElem_cons hi] at hr
     rw [← (List.cons.inj hr).1]
     exact hn hi
   · rw [List.drop_eq_nil_of_le (by omega)] at hr
     cases hr)
 rw [← e] at this
 exact this
theorem readArr_j1 (l : By) (hl : l.length ≤ 1000000) : Ev (fun k => impl_readArr.j1 k (BA l) ((l.takeWhile isD).length : Int)) (resA 0 (parse 0 l)) := by
 have ht : l.take (l.takeWhile isD).length = l.takeWhile isD := by
   have e := List.takeWhile_append_dropWhile (p := isD) (l := l)
   conv => lhs; arg 2; rw [← e]
   rw [List.take_left']
   rfl
 have hd : l.drop (l.takeWhile isD).length = l.dropWhile isD := by
   have e := List.takeWhile_append_dropWhile (p := isD) (l := l)
   conv => lhs; arg 2; rw [← e]
   rw [List.drop_left']
   rfl
 have hlen : (l.takeWhile isD).length ≤ l.length := by
   have := congrArg List.length (List.takeWhile_append_dropWhile (p := isD) (l := l))
   rw [List.length_append] at this
   omega
 have hall : (l.takeWhile isD).all isD = true := List.all_takeWhile
 have hx : (BA l).extract 0 (l.takeWhile isD).length = BA (l.takeWhile isD) := by
   rw [BA_extract]
   simp [ht]
 have hy : (BA l).extract (l.takeWhile isD).length (BA l).size = BA (l.dropWhile isD) := by
   rw [BA_extract, hd, BA_size, List.take_of_length_le]
   rw [← hd, List.length_drop]
   omega
 refine Ev.step' ?_; simp only [impl_readArr.j1]
 refine Ev.pos (by omega) (Ev.pos (by rw [BA_size]; omega) ?_)
 simp only [Int.toNat_natCast, hx, hy]
 have hs : (BA (l.takeWhile isD)).size ≤ 281474976710656 := by rw [BA_size]; omega
 by_cases hne : l.takeWhile isD = []
 · have ha : strconv_Atoi.f (BA (l.takeWhile isD)) = some (0, some 0) := by
     unfold strconv_Atoi.f
     rw [if_pos hs, data_BA, hne]
     rfl
   have hp : parse 0 l = none := by
     have : parseNum l = none := by
       unfold parseNum
       rw [hne]
       exact if_neg (fun h => dec_ne _ h.2)
     unfold parse
     rw [this]
     rfl
   rw [hp]
   refine Ev.call ha ?_
   exact Ev.neg (by simp) (Ev.now _)
 · rcases atoi_digits hall hne with e | ⟨e, hbig⟩
   · have ha : strconv_Atoi.f (BA (l.takeWhile isD)) = some ((valD 0 (l.takeWhile isD) : Int), none) := by
       unfold strconv_Atoi.f
       rw [if_pos hs, data_BA, e]
     refine Ev.call ha ?_
     refine Ev.pos (by first | trivial | rfl) ?_
     by_cases hb : valD 0 (l.takeWhile isD) < 10007
     · refine Ev.neg (by omega) ?_
       have hi : strconv_Itoa.f (valD 0 (l.takeWhile isD) : Int) = some (BA (Lib.decDigits (valD 0 (l.takeWhile isD)))) := by
         unfold strconv_Itoa.f
         rw [if_pos (by omega), if_pos (by omega), itoa_nat]
         rfl
       refine Ev.call hi ?_
       by_cases hq : Lib.decDigits (valD 0 (l.takeWhile isD)) = l.takeWhile isD
       · refine Ev.pos (by rw [toList_BA, toList_BA]; exact hq) (Ev.val ?_)
         have : parseNum l = some (valD 0 (l.takeWhile isD), l.dropWhile isD) := if_pos ⟨hb, hq⟩
         unfold parse
         rw [this]
         rfl
       · refine Ev.neg (by rw [toList_BA, toList_BA]; exact hq) (Ev.val ?_)
         have : parseNum l = none := if_neg (fun h => hq h.2)
         unfold parse
         rw [this]
         rfl
     · refine Ev.pos (by omega) (Ev.val ?_)
       have : parseNum l = none := if_neg (fun h => hb h.1)
       unfold parse
       rw [this]
       rfl
   · have ha : strconv_Atoi.f (BA (l.takeWhile isD)) = some (Lib.atoiSat (l.takeWhile isD), some 0) := by
       unfold strconv_Atoi.f
       rw [if_pos hs, data_BA, e]
     refine Ev.call ha ?_
     refine Ev.neg (by simp) (Ev.val ?_)
     have : parseNum l = none := if_neg (fun h => absurd h.1 (by omega))
     unfold parse
     rw [this]
     rfl
theorem readArr_l0 (l : By) (hl : l.length ≤ 1000000) : ∀ (n i : Nat), l.length - i = n → i ≤ l.length → (l.take i).all isD = true → Ev (fun k => impl_readArr.l0 k (BA l) (i : Int)) (resA 0 (parse 0 l)) := by
 intro n
 induction n with
 | zero =>
   intro i h hi hall
   obtain ⟨h1, _⟩ := take_split i hall (fun x => by omega)
   have he : (l.takeWhile isD).length = i := by rw [h1, List.length_take]; omega
   refine Ev.step' ?_; simp only [impl_readArr.l0]
   refine Ev.neg (by rw [BA_size]; omega) ?_
   rw [← he]
   exact readArr_j1 l hl
 | succ n ih =>
   intro i h hi hall
   have hlt : i < l.length := by omega
   refine Ev.step' ?_; simp only [impl_readArr.l0]
   refine Ev.pos (by rw [BA_size]; omega) (Ev.pos (by omega) ?_)
   simp only [bt_at hlt]
   by_cases hd : isD l[i] = true
   · obtain ⟨h1, h2⟩ := (isD_iff _).1 hd
     refine Ev.pos (by omega) (Ev.pos (by omega) ?_)
     rw [wrapS (by omega) (by omega)]
     exact ih (i + 1) (by omega) (by omega) (by rw [List.take_succ_eq_append_getElem hlt, List.all_append, hall]; simp [hd])
   · have hd' : isD l[i] = false := by simpa using hd
     obtain ⟨h1, _⟩ := take_split i hall (fun x => hd')
     have he : (l.takeWhile isD).length = i := by rw [h1, List.length_take]; omega
     have hj := readArr_j1 l hl
     rw [he] at hj
     by_cases h1 : (48 : Int) ≤ (l[i].toNat : Int)
     · refine Ev.pos h1 (Ev.neg ?_ hj)
       intro h2
       exact hd ((isD_iff _).2 ⟨by omega, by omega⟩)
     · exact Ev.neg h1 hj
theorem readArr_zero (l : By) (hl : l.length ≤ 1000000) : Ev (fun k => impl_readArr.f k (BA l) 0) (resA 0 (parse 0 l)) := by
 refine Ev.step' ?_; simp only [impl_readArr.f]
 exact Ev.pos (by first | trivial | rfl) (readArr_l0 l hl _ 0 rfl (by omega) rfl)


theorem parse_nil : ∀ d, parse d [] = none
 | 0 => by
   unfold parse
   have : parseNum [] = none := if_neg (fun h => dec_ne _ h.2)
   rw [this]
   rfl
 | d + 1 => rfl
theorem parse_93 : ∀ d (t : By), parse d (93 :: t) = none
 | 0, t => by
   unfold parse
   have : parseNum (93 :: t) = none := if_neg (fun h => dec_ne _ (h.2.trans (by simp [isD])))
   rw [this]
   rfl
 | d + 1, t => by
   unfold parse
   simp
theorem parse_len {d : Nat} {l : By} {v : Tr} {r : By} (h : parse d l = some (v, r)) : r.length ≤ l.length := by
 have := congrArg List.length (parse_sound d l v r h).1
 rw [List.length_append] at this
 omega
theorem BA_nil : BA [] = (⟨#[]⟩ : ByteArray) := rfl
theorem BA_tail (c : UInt8) (t : By) : (BA (c :: t)).extract 1 (BA (c :: t)).size = BA t := by
 rw [BA_extract]
 simp
theorem bt_zero (c : UInt8) (t : By) : bt (BA (c :: t)) 0 = (c.toNat : Int) := bt_BA _ _
theorem toNat_ne {c : UInt8} {n : Nat} (h : c ≠ UInt8.ofNat n) (hn : n < 256) : ((c.toNat : Int)) ≠ (n : Int) := by
 intro e
 apply h
 apply UInt8.toNat.inj
 rw [UInt8.toNat_ofNat']
 omega
/-- .. and what is left of the parts, at the loop's head. -/
def resL (d : Nat) (acc : List NA) : Option (List Tr × By) → RA
 | none => badA
 | some (vs, r) => (0, acc ++ vs.map (cA d), BA r, true)
theorem readArr_l1 (d : Nat) (hd : d ≤ 1000) (hf : ∀ l : By, l.length ≤ 1000000 → Ev (fun k => impl_readArr.f k (BA l) (d : Int)) (resA d (parse d l))) :
   ∀ (n : Nat) (l : By) (acc : List NA), l.length < n → acc.length + l.length ≤ 1000000 → (acc ≠ [] ∨ ∀ t, l ≠ 93 :: t) → Ev (fun k => impl_readArr.l1 k (BA l) ((d + 1 : Nat) : Int) 0 acc) (resL d acc (parseL (parse d) n l)) := by
 intro n
 induction n with
 | zero => intro l acc h; omega
 | succ n ih =>
   intro l acc hn hb hcase
   have hbad : Ev (fun k => impl_readArr.j5 k ((d + 1 : Nat) : Int) (BA []) true 0 acc 0 []) badA := by
     refine Ev.step' ?_; simp only [impl_readArr.j5]
     exact Ev.pos (by first | trivial | rfl) (Ev.now _)
   have hbad2 : ∀ (x : ByteArray) (m : Int) (ps : List NA), Ev (fun k => impl_readArr.j5 k ((d + 1 : Nat) : Int) x true 0 acc m ps) badA := by
     intro x m ps
     refine Ev.step' ?_; simp only [impl_readArr.j5]
     exact Ev.pos (by first | trivial | rfl) (Ev.now _)
   have hj4 : l ≠ [] → Ev (fun k => impl_readArr.j4 k (BA l) ((d + 1 : Nat) : Int) true 0 acc) (resL d acc (parseL (parse d) (n + 1) l)) := by
     intro hne
     refine Ev.step' ?_; simp only [impl_readArr.j4]
     refine Ev.pos (by first | trivial | rfl) ?_
     rw [show wrap64 (((d + 1 : Nat) : Int) - 1) = (d : Int) by rw [wrapS (by omega) (by omega)]; omega]
     refine Ev.bind (hf l (by omega)) ?_
     unfold parseL
     cases hp : parse d l with
     | none => exact Ev.neg (by simp [resA, badA]) (hbad2 _ _ _)
     | some q =>
       obtain ⟨v, r⟩ := q
       have hr := parse_len hp
       refine Ev.pos (by first | trivial | rfl) ?_
       cases r with
       | nil => exact Ev.pos (toList_BA []) (hbad2 _ _ _)
       | cons c r' =>
         simp only [List.length_cons] at hr
         have hj5 : ∀ b : Bool, b = false → (c = 44 ∨ c = 93) → Ev (fun k => impl_readArr.j5 k ((d + 1 : Nat) : Int) (BA (c :: r')) b 0 acc (cA d v).f0 (cA d v).f1) (if c = 93 then (0, acc ++ [cA d v], BA r', true) else resL d (acc ++ [cA d v]) (parseL (parse d) n r')) := by
           intro b hb0 hc
           subst hb0
           refine Ev.step' ?_; simp only [impl_readArr.j5]
           refine Ev.neg (by simp) (Ev.pos (by omega) ?_)
           refine Ev.call (a := acc ++ [cA d v]) (by rw [mkA]) ?_
           refine Ev.pos (by simp <;> omega) ?_
           by_cases h93 : c = 93
           · subst h93
             rw [if_pos rfl]
             refine Ev.pos (bt_zero _ _) (Ev.pos (by simp <;> omega) (Ev.val ?_))
             rw [BA_tail]
           · rw [if_neg h93]
             refine Ev.neg (by rw [bt_zero]; exact toNat_ne (n := 93) h93 (by omega)) (Ev.pos (by simp <;> omega) ?_)
             rw [BA_tail]
             exact ih r' _ (by omega) (by simp <;> omega) (.inl (by simp))
         refine Ev.neg (by show ¬ (BA (c :: r')).toList = []; rw [toList_BA]; simp) (Ev.pos (by show (0 : Int) < ((BA (c :: r')).size : Int); simp <;> omega) ?_)
         have hb0 : bt (resA d (some (v, c :: r'))).2.2.1 0 = (c.toNat : Int) := bt_zero _ _
         by_cases h44 : c = 44
         · subst h44
           refine Ev.pos (bt_zero _ _) (evIs (hj5 false rfl (.inl rfl)) ?_)
           simp only [if_true]
           rw [if_neg (by decide)]
           cases parseL (parse d) n r' with
           | none => rfl
           | some q => simp [resL]
         · refine Ev.neg (by rw [hb0]; exact toNat_ne (n := 44) h44 (by omega)) ?_
           by_cases h93 : c = 93
           · subst h93
             refine evIs (hj5 _ (by rw [hb0]; rfl) (.inr rfl)) ?_
             simp [resL]
           · have e : (bt (resA d (some (v, c :: r'))).2.2.1 0 != 93) = true := by
               rw [hb0]
               simpa using toNat_ne (n := 93) h93 (by omega)
             rw [e]
             refine evIs (hbad2 _ _ _) ?_
             simp [h44, h93, resL]
   refine Ev.step' ?_; simp only [impl_readArr.l1]
   cases l with
   | nil =>
     refine Ev.pos (toList_BA []) ?_
     refine Ev.step' ?_; simp only [impl_readArr.j4]
     refine Ev.neg (by simp) (Ev.pos (toList_BA []) (Ev.val ?_))
     unfold parseL
     rw [parse_nil]
     rfl
   | cons c t =>
     refine Ev.neg (by rw [toList_BA]; simp) (Ev.pos (by simp <;> omega) ?_)
     by_cases h93 : c = 93
     · subst h93
       refine Ev.pos (bt_zero _ _) ?_
       rcases hcase with hacc | hh
       · have hpos : 0 < acc.length := List.length_pos_iff.2 hacc
         rw [show decide ((acc.length : Int) > 0) = true by simp; exact hpos]
         exact hj4 (by simp)
       · exact absurd rfl (hh t)
     · refine Ev.neg (by rw [bt_zero]; exact toNat_ne (n := 93) h93 (by omega)) (hj4 (by simp))
theorem readArr_is : ∀ (d : Nat), d ≤ 1000 → ∀ l : By, l.length ≤ 1000000 → Ev (fun k => impl_readArr.f k (BA l) (d : Int)) (resA d (parse d l))
 | 0, _, l, hl => readArr_zero l hl
 | d + 1, hd, l, hl => by
   have ih := readArr_is d (by omega)
   refine Ev.step' ?_; simp only [impl_readArr.f]
   refine Ev.neg (by omega) ?_
   have hj2 : ∀ x : ByteArray, Ev (fun k => impl_readArr.j2 k x ((d + 1 : Nat) : Int) true) badA := by
     intro x
     refine Ev.step' ?_; simp only [impl_readArr.j2]
     exact Ev.pos (by first | trivial | rfl) (Ev.now _)
   cases l with
   | nil => exact Ev.pos (toList_BA []) (hj2 _)
   | cons c t =>
     refine Ev.neg (by rw [toList_BA]; simp) (Ev.pos (by simp <;> omega) ?_)
     by_cases h91 : c = 91
     · subst h91
       rw [show (bt (BA (91 :: t)) 0 != 91) = false by rw [bt_zero]; rfl]
       refine Ev.step' ?_; simp only [impl_readArr.j2]
       refine Ev.neg (by simp) (Ev.pos (by simp <;> omega) ?_)
       rw [BA_tail]
       simp only [List.length_cons] at hl
       cases t with
       | nil =>
         refine evIs (readArr_l1 d (by omega) ih 1 [] [] (by simp) (by simp) (.inr (by simp))) ?_
         unfold parse parseL
         rw [parse_nil]
         rfl
       | cons c' t' =>
         by_cases h93 : c' = 93
         · subst h93
           refine Ev.step' ?_; simp only [impl_readArr.l1]
           refine Ev.neg (by rw [toList_BA]; simp) (Ev.pos (by simp <;> omega) (Ev.pos (bt_zero _ _) ?_))
           rw [show decide ((([] : List NA).length : Int) > 0) = false from rfl]
           refine Ev.step' ?_; simp only [impl_readArr.j4]
           refine Ev.neg (by simp) (Ev.neg (by rw [toList_BA]; simp) (Ev.pos (by simp <;> omega) (Ev.val ?_)))
           rw [BA_tail]
           rfl
         · refine evIs (readArr_l1 d (by omega) ih _ (c' :: t') [] (Nat.lt_succ_self _) (by simp only [List.length_cons, List.length_nil] at hl ⊢; omega) (.inr (by intro t e; exact h93 (List.cons.inj e).1))) ?_
           unfold parse
           simp only [if_true, if_neg h93]
           cases parseL (parse d) ((c' :: t').length + 1) (c' :: t') with
           | none => rfl
           | some q => rfl
     · rw [show (bt (BA (c :: t)) 0 != 91) = true by rw [bt_zero]; simpa using toNat_ne (n := 91) h91 (by omega)]
       refine evIs (hj2 _) ?_
       unfold parse
       simp only [if_neg h91]
       rfl

/-! ### spec's reader -/
theorem drop_split {s : By} {p : Nat} (h : p < s.length) : s.drop p = s[p] :: s.drop (p + 1) := List.drop_eq_getElem_cons h
theorem valD_ltP : ∀ (l : By) (p a b : Nat), p = 10 ^ l.length → l.all isD = true → a < b → valD a l < b * p
 | [], p, a, b, hp, _, h => by
   have hp1 : p = 1 := hp
   have : valD a [] = a := rfl
   rw [this, hp1, Nat.mul_one]
   exact h
 | c :: r, p, a, b, hp, hall, h => by
   simp only [List.all_cons, Bool.and_eq_true] at hall
   have hc := (isD_iff _).1 hall.1
   have h1 := valD_ltP r (10 ^ r.length) (a * 10 + (c.toNat - 48)) (b * 10) rfl hall.2 (by omega)
   have h2 : p = 10 ^ r.length * 10 := hp
   have h4 : valD a (c :: r) = valD (a * 10 + (c.toNat - 48)) r := rfl
   generalize 10 ^ r.length = q at *
   rw [h4, h2, Nat.mul_comm q 10, ← Nat.mul_assoc]
   exact h1
theorem valD_lt (l : By) (a b : Nat) (hall : l.all isD = true) (h : a < b) : valD a l < b * 10 ^ l.length := valD_ltP l _ a b rfl hall h
theorem l13Num_l0 (ds : By) (hall : ds.all isD = true) (hl : ds.length ≤ 17) : ∀ (n i : Nat), ds.length - i = n → i ≤ ds.length → Ev (fun k => spec_l13Num.l0 k (BA ds) false (valD 0 (ds.take i) : Int) (i : Int)) ((valD 0 ds : Int), true) := by
 intro n
 induction n with
 | zero =>
   intro i h hi
   refine Ev.step' ?_; simp only [spec_l13Num.l0]
   refine Ev.neg (by simp <;> omega) (Ev.neg (by simp) (Ev.val ?_))
   rw [List.take_of_length_le (by omega)]
 | succ n ih =>
   intro i h hi
   have hlt : i < ds.length := by omega
   have hd : isD ds[i] = true := List.all_eq_true.1 hall _ (List.getElem_mem hlt)
   have hc := (isD_iff _).1 hd
   refine Ev.step' ?_; simp only [spec_l13Num.l0]
   simp only [bt_at hlt]
   refine Ev.pos (by simp <;> omega) (Ev.pos (by omega) (Ev.neg (by omega) (Ev.neg (by omega) ?_)))
   have hv : valD 0 (ds.take i) < 1 * 10 ^ (ds.take i).length := valD_lt _ _ _ (by
     rw [List.all_eq_true] at hall ⊢
     intro x hx
     exact hall x (List.mem_of_mem_take hx)) (by omega)
   have hpow : 10 ^ (ds.take i).length ≤ 10 ^ 17 := Nat.pow_le_pow_right (by omega) (by rw [List.length_take]; omega)
   have hv2 : valD 0 (ds.take i) < 100000000000000000 := by
     generalize 10 ^ (ds.take i).length = q at *
     omega
   have e1 : wrap64 (wrap64 ((valD 0 (ds.take i) : Int) * 10) + ((ds[i].toNat : Int) - 48) % 256) = (valD 0 (ds.take (i + 1)) : Int) := by
     rw [List.take_succ_eq_append_getElem hlt, valD_append, valD_one, wrapS (a := (valD 0 (ds.take i) : Int) * 10) (by omega) (by omega), wrapS (by omega) (by omega)]
     omega
   rw [e1, wrapS (by omega) (by omega)]
   exact ih (i + 1) (by omega) (by omega)
theorem l13_is (ds : By) (hall : ds.all isD = true) (hl : ds.length ≤ 17) : Ev (fun k => spec_l13Num.f k (BA ds)) (if Lib.decDigits (valD 0 ds) = ds then ((valD 0 ds : Int), true) else (0, false)) := by
 have hj2 : ∀ x : ByteArray, Ev (fun k => spec_l13Num.j2 k x false true) (0, false) := by
   intro x
   refine Ev.step' ?_; simp only [spec_l13Num.j2]
   exact Ev.pos (by first | trivial | rfl) (Ev.now _)
 unfold spec_l13Num.f
 cases ds with
 | nil =>
   refine Ev.neg (by simp) ?_
   refine Ev.step' ?_; simp only [spec_l13Num.j0]
   refine Ev.neg (by simp) ?_
   refine Ev.step' ?_; simp only [spec_l13Num.j1]
   refine Ev.pos (by simp) (evIs (hj2 _) ?_)
   rw [if_neg (dec_ne _)]
 | cons c r =>
   have hd : isD c = true := by
     simp only [List.all_cons, Bool.and_eq_true] at hall
     exact hall.1
   have hc := (isD_iff _).1 hd
   simp only [List.length_cons] at hl
   refine Ev.pos (by simp <;> omega) (Ev.pos (by simp <;> omega) ?_)
   rw [show (bt (BA (c :: r)) 0 == 45) = false by rw [bt_zero]; simp; omega]
   refine Ev.step' ?_; simp only [spec_l13Num.j0]
   refine Ev.neg (by simp) ?_
   refine Ev.step' ?_; simp only [spec_l13Num.j1]
   refine Ev.neg (by simp <;> omega) (Ev.neg (by simp <;> omega) (Ev.pos (by simp <;> omega) ?_))
   have hj2f : (c ≠ 48 ∨ r = []) → Ev (fun k => spec_l13Num.j2 k (BA (c :: r)) false false) (if Lib.decDigits (valD 0 (c :: r)) = c :: r then ((valD 0 (c :: r) : Int), true) else (0, false)) := by
     intro h
     refine Ev.step' ?_; simp only [spec_l13Num.j2]
     refine Ev.neg (by simp) (evIs (l13Num_l0 (c :: r) hall (by simp only [List.length_cons]; omega) _ 0 rfl (by omega)) ?_)
     rw [if_pos ((dec_val_iff hall).2 ⟨c, r, rfl, h⟩)]
   by_cases h48 : c = 48
   · subst h48
     refine Ev.pos (bt_zero _ _) ?_
     by_cases hr : r = []
     · subst hr
       exact Ev.neg (by simp) (hj2f (.inr rfl))
     · have := List.length_pos_iff.2 hr
       refine Ev.pos (by simp <;> omega) (evIs (hj2 _) ?_)
       rw [if_neg]
       intro h
       obtain ⟨c', r', e, h1⟩ := (dec_val_iff hall).1 h
       obtain ⟨rfl, rfl⟩ := List.cons.inj e
       rcases h1 with h1 | h1
       · exact h1 rfl
       · exact hr h1
   · exact Ev.neg (by rw [bt_zero]; exact toNat_ne (n := 48) h48 (by omega)) (hj2f (.inl h48))

abbrev RS := Int × List NS × ByteArray × Int × Bool
def OutS (d : Nat) (s : By) : Option (Tr × By) → RS → Prop
 | none, res => res.2.2.2.2 = true
 | some (v, r), res => res = ((cS d v).f0, (cS d v).f1, BA s, ((s.length - r.length : Nat) : Int), false)
theorem inN_is (n a b : Int) : spec_l1In.f n a b = some (decide (a ≤ n ∧ n ≤ b)) := by
 unfold spec_l1In.f
 by_cases h1 : a ≤ n
 · by_cases h2 : n ≤ b <;> simp [h1, h2]
 · simp [h1]
theorem number_end (x : ByteArray) (a b : Nat) (hab : a ≤ b) (hb : b ≤ x.size) (q : Int × Bool) (hq : Ev (fun k => spec_l13Num.f k (x.extract a b)) q) :
   Ev (fun k => if 0 ≤ (a : Int) then (if (a : Int) ≤ (b : Int) then (if (b : Int) ≤ (x.size : Int) then ((spec_l13Num.f k (x.extract (a : Int).toNat (b : Int).toNat)).bind fun bt152 => (if (false = true) then (some (bt152.1, x, (b : Int), true)) else (if bt152.2 = true then ((spec_l1In.f bt152.1 0 10006).bind fun t154 => (some (bt152.1, x, (b : Int), !t154))) else (some (bt152.1, x, (b : Int), true))))) else (none)) else (none)) else (none)) (q.1, x, (b : Int), false || !q.2 || !(decide (0 ≤ q.1) && decide (q.1 ≤ 10006))) := by
 refine Ev.pos (by omega) (Ev.pos (by omega) (Ev.pos (by omega) (Ev.bind hq (Ev.neg (by simp) ?_))))
 by_cases h : q.2 = true
 · refine Ev.pos h ?_
   rw [inN_is]
   refine Ev.val ?_
   rw [h]
   simp only [Bool.false_or, Bool.not_true, Bool.decide_and]
 · refine Ev.neg h (Ev.val ?_)
   simp [h]
theorem number_l0 (s : By) (p : Nat) (hp : p ≤ s.length) (hs : s.length ≤ 1000000) (J : Nat) (hJ : J = min 6 ((s.drop p).takeWhile isD).length) (q : Int × Bool) (hq : Ev (fun k => spec_l13Num.f k ((BA s).extract p (p + J))) q) : ∀ (n j : Nat), J - j = n → j ≤ J →
   Ev (fun k => spec_l1Reader_number.l0 k (p : Int) (BA s) ((p + j : Nat) : Int) false) (q.1, BA s, ((p + J : Nat) : Int), false || !q.2 || !(decide (0 ≤ q.1) && decide (q.1 ≤ 10006))) := by
 have hcnt : ((s.drop p).takeWhile isD).length ≤ s.length - p := by
   have := congrArg List.length (List.takeWhile_append_dropWhile (p := isD) (l := s.drop p))
   rw [List.length_append, List.length_drop] at this
   omega
 have hdig : ∀ j, (hj : j < ((s.drop p).takeWhile isD).length) → (h : p + j < s.length) → isD s[p + j] = true := by
   intro j hj h
   have h1 : ((s.drop p).takeWhile isD)[j] = s[p + j] := by
     have e : s.drop p = (s.drop p).takeWhile isD ++ (s.drop p).dropWhile isD := List.takeWhile_append_dropWhile.symm
     have h2 : (s.drop p)[j]? = some s[p + j] := by rw [List.getElem?_drop, List.getElem?_eq_getElem h]
     rw [e, List.getElem?_append_left hj, List.getElem?_eq_getElem hj] at h2
     exact Option.some.inj h2
   have := List.all_eq_true.1 (List.all_takeWhile (p := isD) (l := s.drop p)) _ (List.getElem_mem hj)
   rwa [h1] at this
 have hnot : ∀ (h : p + ((s.drop p).takeWhile isD).length < s.length), isD (s[p + ((s.drop p).takeWhile isD).length]'h) = false := by
   intro h
   have e : s.drop p = (s.drop p).takeWhile isD ++ (s.drop p).dropWhile isD := List.takeWhile_append_dropWhile.symm
   have h2 : (s.drop p)[((s.drop p).takeWhile isD).length]? = some (s[p + ((s.drop p).takeWhile isD).length]'h) := by rw [List.getElem?_drop, List.getElem?_eq_getElem h]
   generalize hW : (s.drop p).takeWhile isD = W at *
   have h3 : (W ++ (s.drop p).dropWhile isD)[W.length]? = some (s[p + W.length]'h) := by rw [← e]; exact h2
   rw [List.getElem?_append_right (Nat.le_refl _), Nat.sub_self] at h3
   cases hR : (s.drop p).dropWhile isD with
   | nil => rw [hR] at h3; simp at h3
   | cons c t =>
     rw [hR] at h3
     simp only [List.getElem?_cons_zero, Option.some.injEq] at h3
     rw [← h3]
     have := List.head?_dropWhile_not (p := isD) (l := s.drop p)
     rw [hR] at this
     simpa using this
 intro n
 induction n with
 | zero =>
   intro j h1 h2
   obtain rfl : j = J := by omega
   have hend := number_end (BA s) p (p + j) (by omega) (by rw [BA_size]; omega) q hq
   refine Ev.step' ?_; simp only [spec_l1Reader_number.l0]
   by_cases hlt : p + j < s.length
   · refine Ev.pos (by rw [BA_size]; omega) (Ev.pos (by omega) ?_)
     rw [inN_is, bt_at hlt, wrapS (by have := s[p + j].toNat_lt; omega) (by have := s[p + j].toNat_lt; omega)]
     by_cases h6 : ((s.drop p).takeWhile isD).length ≤ 6
     · obtain rfl : j = ((s.drop p).takeWhile isD).length := by omega
       have := hnot hlt
       refine Ev.bind (Ev.now _) (Ev.neg ?_ hend)
       rw [decide_eq_true_eq]
       intro hh
       have e : isD (s[p + ((s.drop p).takeWhile isD).length]'hlt) = true := (isD_iff _).2 ⟨by omega, by omega⟩
       rw [this] at e
       cases e
     · by_cases hd : (48 : Int) ≤ (s[p + j].toNat : Int) ∧ (s[p + j].toNat : Int) ≤ 57
       · refine Ev.bind (Ev.now _) (Ev.pos (by rw [decide_eq_true_eq]; exact hd) (Ev.neg ?_ hend))
         rw [wrapS (by omega) (by omega)]
         omega
       · exact Ev.bind (Ev.now _) (Ev.neg (by rw [decide_eq_true_eq]; exact hd) hend)
   · exact Ev.neg (by rw [BA_size]; omega) hend
 | succ n ih =>
   intro j h1 h2
   have hlt : p + j < s.length := by omega
   have hd := (isD_iff _).1 (hdig j (by omega) hlt)
   have hnext := ih (j + 1) (by omega) (by omega)
   refine Ev.step' ?_; simp only [spec_l1Reader_number.l0]
   refine Ev.pos (by rw [BA_size]; omega) (Ev.pos (by omega) ?_)
   rw [inN_is, bt_at hlt, wrapS (by omega) (by omega)]
   refine Ev.bind (Ev.now _) (Ev.pos (by rw [decide_eq_true_eq]; omega) (Ev.pos ?_ ?_))
   · rw [wrapS (by omega) (by omega)]
     omega
   · rw [show wrap64 (((p + j : Nat) : Int) + 1) = ((p + (j + 1) : Nat) : Int) by rw [wrapS (by omega) (by omega)]; omega]
     exact hnext
theorem number_is (s : By) (p : Nat) (hp : p ≤ s.length) (hs : s.length ≤ 1000000) :
   ∃ res : Int × ByteArray × Int × Bool, Ev (fun k => spec_l1Reader_number.f k (BA s) (p : Int) false) res ∧ OutS 0 s (parse 0 (s.drop p)) (res.1, [], res.2.1, res.2.2.1, res.2.2.2) := by
 have hcnt : ((s.drop p).takeWhile isD).length + ((s.drop p).dropWhile isD).length = s.length - p := by
   have := congrArg List.length (List.takeWhile_append_dropWhile (p := isD) (l := s.drop p))
   rw [List.length_append, List.length_drop] at this
   exact this
 have hall : ((s.drop p).takeWhile isD).all isD = true := List.all_takeWhile
 have hx : (BA s).extract p (p + min 6 ((s.drop p).takeWhile isD).length) = BA (((s.drop p).takeWhile isD).take 6) := by
   rw [BA_extract]
   congr 1
   have e : s.drop p = (s.drop p).takeWhile isD ++ (s.drop p).dropWhile isD := List.takeWhile_append_dropWhile.symm
   generalize hW : (s.drop p).takeWhile isD = W at *
   generalize hR : (s.drop p).dropWhile isD = R at *
   rw [e, show p + min 6 W.length - p = min 6 W.length by omega, List.take_append_of_le_length (by omega)]
   by_cases h6 : 6 ≤ W.length
   · rw [show min 6 W.length = 6 by omega]
   · rw [List.take_of_length_le (by omega), List.take_of_length_le (by omega)]
 have hall6 : (((s.drop p).takeWhile isD).take 6).all isD = true := by
   rw [List.all_eq_true] at hall ⊢
   intro x hx
   exact hall x (List.mem_of_mem_take hx)
 have hE : ∀ q : Int × Bool, q = (if Lib.decDigits (valD 0 (((s.drop p).takeWhile isD).take 6)) = ((s.drop p).takeWhile isD).take 6 then ((valD 0 (((s.drop p).takeWhile isD).take 6) : Int), true) else (0, false)) →
     Ev (fun k => spec_l1Reader_number.f k (BA s) (p : Int) false) (q.1, BA s, ((p + min 6 ((s.drop p).takeWhile isD).length : Nat) : Int), false || !q.2 || !(decide (0 ≤ q.1) && decide (q.1 ≤ 10006))) := by
   intro q hq
   subst hq
   have hl := l13_is _ hall6 (by rw [List.length_take]; omega)
   rw [← hx] at hl
   unfold spec_l1Reader_number.f
   exact number_l0 s p hp hs _ rfl _ hl _ 0 rfl (Nat.zero_le _)
 refine ⟨_, hE _ rfl, ?_⟩
 · unfold parse parseNum
   generalize hW : (s.drop p).takeWhile isD = W at *
   generalize hR : (s.drop p).dropWhile isD = R at *
   by_cases h6 : W.length ≤ 6
   · rw [List.take_of_length_le h6]
     by_cases hdec : Lib.decDigits (valD 0 W) = W
     · by_cases hv : valD 0 W < 10007
       · rw [if_pos ⟨hv, hdec⟩, if_pos hdec]
         show _ = _
         simp only [cS, Prod.mk.injEq, true_and, Bool.false_or]
         refine ⟨by omega, ?_⟩
         simp
         omega
       · rw [if_neg (fun h => hv h.1), if_pos hdec]
         show _ = _
         simp
         omega
     · rw [if_neg (fun h => hdec h.2), if_neg hdec]
       rfl
   · have hnone : ¬ (valD 0 W < 10007 ∧ Lib.decDigits (valD 0 W) = W) := by
       rintro ⟨hv, hdec⟩
       obtain ⟨c, r, e, h1⟩ := (dec_val_iff hall).1 hdec
       rw [e] at hall hv h6
       simp only [List.all_cons, Bool.and_eq_true] at hall
       simp only [List.length_cons] at h6
       rcases h1 with h1 | h1
       · have := six_big hall.1 h1 (r := r) (by omega)
         omega
       · rw [h1] at h6
         simp at h6
     rw [if_neg hnone]
     show _ = _
     split
     · next hdec =>
       obtain ⟨c, r, e, h1⟩ := (dec_val_iff hall6).1 hdec
       have hl6 : (W.take 6).length = 6 := by rw [List.length_take]; omega
       rw [e] at hall6 hl6 ⊢
       simp only [List.all_cons, Bool.and_eq_true] at hall6
       simp only [List.length_cons] at hl6
       rcases h1 with h1 | h1
       · have := six_big hall6.1 h1 (r := r) (by omega)
         simp
         omega
       · rw [h1] at hl6
         simp at hl6
     · rfl

theorem is_hit {s : By} {p : Nat} {c : UInt8} {t : By} (h : s.drop p = c :: t) (hs : s.length ≤ 1000000) (ch : Int) (e : (c.toNat : Int) = ch) : spec_l1Reader_is.f (BA s) (p : Int) false ch = some (true, BA s, ((p + 1 : Nat) : Int), false) := by
 have hp : p < s.length := by
   rcases Nat.lt_or_ge p s.length with h1 | h1
   · exact h1
   · rw [List.drop_eq_nil_of_le h1] at h; cases h
 rw [drop_split hp] at h
 obtain ⟨rfl, rfl⟩ := List.cons.inj h
 unfold spec_l1Reader_is.f
 rw [if_pos (by rw [BA_size]; omega), if_pos (by omega), bt_at hp, if_pos e, wrapS (by omega) (by omega)]
 rfl
theorem is_miss {s : By} {p : Nat} (ch : Int) (h : ∀ c t, s.drop p = c :: t → (c.toNat : Int) ≠ ch) : spec_l1Reader_is.f (BA s) (p : Int) false ch = some (false, BA s, (p : Int), false) := by
 unfold spec_l1Reader_is.f
 by_cases hp : p < s.length
 · rw [if_pos (by rw [BA_size]; omega), if_pos (by omega), bt_at hp, if_neg (h _ _ (drop_split hp))]
 · rw [if_neg (by rw [BA_size]; omega)]
def tailL (d n : Nat) : By → Option (List Tr × By)
 | [] => none
 | c :: r => if c = 44 then parseL (parse d) n r else if c = 93 then some ([], r) else none
theorem parseL_tail (d n : Nat) (s : By) : parseL (parse d) (n + 1) s = (parse d s).bind fun q => (tailL d n q.2).map fun z => (q.1 :: z.1, z.2) := by
 unfold parseL
 cases parse d s with
 | none => rfl
 | some q =>
   obtain ⟨v, r⟩ := q
   cases r with
   | nil => rfl
   | cons c r =>
     simp only [tailL, Option.bind_some]
     by_cases h44 : c = 44
     · subst h44
       rfl
     · rw [if_neg h44, if_neg h44]
       by_cases h93 : c = 93
       · rw [if_pos h93, if_pos h93]; rfl
       · rw [if_neg h93, if_neg h93]; rfl
def OutL (d : Nat) (s : By) (acc : List NS) : Option (List Tr × By) → RS → Prop
 | none, res => res.2.2.2.2 = true
 | some (vs, r), res => res = (0, acc ++ vs.map (cS d), BA s, ((s.length - r.length : Nat) : Int), false)
/-- What holds of each text at a depth. -/
def NodeIs (d : Nat) : Prop := ∀ (s : By) (p : Nat), p ≤ s.length → s.length ≤ 1000000 → ∃ res, Ev (fun k => spec_l1Reader_node.f k (BA s) (p : Int) false (d : Int)) res ∧ OutS d s (parse d (s.drop p)) res
theorem node_bad (x1 m : Int) (x : ByteArray) (y : Int) (ps : List NS) : Ev (fun k => spec_l1Reader_node.l0 k x1 x y true m ps) (m, ps, x, y, true) := by
 refine Ev.step' ?_; simp only [spec_l1Reader_node.l0]
 exact Ev.pos (by first | trivial | rfl) (Ev.now _)
theorem node_l0 (d : Nat) (hd : d ≤ 1000) (hf : NodeIs d) (s : By) (hs : s.length ≤ 1000000) : ∀ (n p : Nat) (acc : List NS), p ≤ s.length → (s.drop p).length ≤ n → acc.length + (s.drop p).length ≤ 1000000 →
   ∃ res, Ev (fun k => spec_l1Reader_node.l0 k ((d + 1 : Nat) : Int) (BA s) (p : Int) false 0 acc) res ∧ OutL d s acc (tailL d n (s.drop p)) res := by
 intro n
 induction n with
 | zero =>
   intro p acc hp hn hb
   have hnil : s.drop p = [] := List.length_eq_zero_iff.1 (by omega)
   have hm : ∀ ch, spec_l1Reader_is.f (BA s) (p : Int) false ch = some (false, BA s, (p : Int), false) := fun ch => is_miss ch (by rw [hnil]; intro c t e; cases e)
   refine ⟨(0, acc, BA s, (p : Int), true), ?_, by rw [hnil]; rfl⟩
   refine Ev.step' ?_; simp only [spec_l1Reader_node.l0]
   refine Ev.neg (by simp) (Ev.call (hm 44) (Ev.neg (by simp) (Ev.neg (by simp) (Ev.call (hm 93) (Ev.val rfl)))))
 | succ n ih =>
   intro p acc hp hn hb
   cases hdr : s.drop p with
   | nil =>
     have hm : ∀ ch, spec_l1Reader_is.f (BA s) (p : Int) false ch = some (false, BA s, (p : Int), false) := fun ch => is_miss ch (by rw [hdr]; intro c t e; cases e)
     refine ⟨(0, acc, BA s, (p : Int), true), ?_, rfl⟩
     refine Ev.step' ?_; simp only [spec_l1Reader_node.l0]
     refine Ev.neg (by simp) (Ev.call (hm 44) (Ev.neg (by simp) (Ev.neg (by simp) (Ev.call (hm 93) (Ev.val rfl)))))
   | cons c t =>
     have hp' : p < s.length := by
       rcases Nat.lt_or_ge p s.length with h1 | h1
       · exact h1
       · rw [List.drop_eq_nil_of_le h1] at hdr; cases hdr
     have ht : s.drop (p + 1) = t := by
       have := drop_split hp'
       rw [hdr] at this
       exact (List.cons.inj this).2.symm
     have htl : t.length = s.length - (p + 1) := by rw [← ht, List.length_drop]
     rw [hdr] at hn hb
     simp only [List.length_cons] at hn hb
     by_cases h44 : c = 44
     · subst h44
       obtain ⟨res, h1, h2⟩ := hf s (p + 1) (by omega) hs
       rw [ht] at h2
       have hgo : ∀ res', (Ev (fun k => spec_l1Reader_node.l0 k ((d + 1 : Nat) : Int) res.2.2.1 res.2.2.2.1 res.2.2.2.2 0 (acc ++ [⟨res.1, res.2.1⟩])) res') → Ev (fun k => spec_l1Reader_node.l0 k ((d + 1 : Nat) : Int) (BA s) (p : Int) false 0 acc) res' := by
         intro res' h
         refine Ev.step' ?_; simp only [spec_l1Reader_node.l0]
         refine Ev.neg (by simp) (Ev.call (is_hit hdr hs 44 rfl) (Ev.pos (by first | trivial | rfl) ?_))
         rw [show wrap64 (((d + 1 : Nat) : Int) - 1) = (d : Int) by rw [wrapS (by omega) (by omega)]; omega]
         exact Ev.bind h1 (Ev.pos (by omega) h)
       have htail : tailL d (n + 1) (44 :: t) = (parse d t).bind fun q => (tailL d n q.2).map fun z => (q.1 :: z.1, z.2) := parseL_tail d n t
       rw [htail]
       cases hq : parse d t with
       | none =>
         rw [hq] at h2
         have hb2 : res.2.2.2.2 = true := h2
         refine ⟨(0, acc ++ [⟨res.1, res.2.1⟩], res.2.2.1, res.2.2.2.1, true), hgo _ ?_, rfl⟩
         rw [hb2]
         exact node_bad _ _ _ _ _
       | some q =>
         obtain ⟨v, r⟩ := q
         rw [hq] at h2
         have hres : res = ((cS d v).f0, (cS d v).f1, BA s, ((s.length - r.length : Nat) : Int), false) := h2
         have hr := parse_len hq
         have hdrop : s.drop (s.length - r.length) = r := by
           obtain ⟨e, _⟩ := parse_sound d t v r hq
           have e2 : s = s.take (p + 1) ++ (text d v ++ r) := by rw [← e, ← ht, List.take_append_drop]
           have e3 : s.length - r.length = (s.take (p + 1) ++ text d v).length := by
             have := congrArg List.length e2
             simp only [List.length_append] at this ⊢
             omega
           conv => lhs; arg 2; rw [e2]
           rw [e3, ← List.append_assoc, List.drop_left]
         have hle : r.length ≤ s.length := by omega
         obtain ⟨res', h3, h4⟩ := ih (s.length - r.length) (acc ++ [cS d v]) (by omega) (by rw [hdrop]; omega) (by rw [hdrop]; simp; omega)
         rw [hdrop] at h4
         refine ⟨res', hgo _ ?_, ?_⟩
         · rw [hres]
           simp only [mkS]
           exact h3
         · simp only [Option.bind_some]
           cases hz : tailL d n r with
           | none => rw [hz] at h4; exact h4
           | some z =>
             rw [hz] at h4
             have h4' : res' = _ := h4
             show res' = _
             rw [h4']
             simp
     · have hm : spec_l1Reader_is.f (BA s) (p : Int) false 44 = some (false, BA s, (p : Int), false) := is_miss 44 (by
         rw [hdr]
         intro c' t' e
         rw [← (List.cons.inj e).1]
         exact toNat_ne (n := 44) h44 (by omega))
       by_cases h93 : c = 93
       · subst h93
         refine ⟨(0, acc, BA s, ((p + 1 : Nat) : Int), false), ?_, ?_⟩
         · refine Ev.step' ?_; simp only [spec_l1Reader_node.l0]
           exact Ev.neg (by simp) (Ev.call hm (Ev.neg (by simp) (Ev.neg (by simp) (Ev.call (is_hit hdr hs 93 rfl) (Ev.val rfl)))))
         · show _ = _
           rw [htl, List.map_nil, List.append_nil, show s.length - (s.length - (p + 1)) = p + 1 by omega]
       · refine ⟨(0, acc, BA s, (p : Int), true), ?_, ?_⟩
         · refine Ev.step' ?_; simp only [spec_l1Reader_node.l0]
           exact Ev.neg (by simp) (Ev.call hm (Ev.neg (by simp) (Ev.neg (by simp) (Ev.call (is_miss 93 (by
             rw [hdr]
             intro c' t' e
             rw [← (List.cons.inj e).1]
             exact toNat_ne (n := 93) h93 (by omega))) (Ev.val rfl)))))
         · simp only [tailL, if_neg h44, if_neg h93]
           rfl
theorem drop_rest {s t r u : By} {p : Nat} (ht : s.drop p = t) (e : t = u ++ r) (hp : p ≤ s.length) : s.drop (s.length - r.length) = r ∧ r.length ≤ s.length - p := by
 have e2 : s = s.take p ++ (u ++ r) := by rw [← e, ← ht, List.take_append_drop]
 have e3 : s.length - r.length = (s.take p ++ u).length := by
   have := congrArg List.length e2
   simp only [List.length_append] at this ⊢
   omega
 constructor
 · conv => lhs; arg 2; rw [e2]
   rw [e3, ← List.append_assoc, List.drop_left]
 · have := congrArg List.length e
   rw [← ht, List.length_append, List.length_drop] at this
   omega
theorem node_is : ∀ d, d ≤ 1000 → NodeIs d
 | 0, _ => by
   intro s p hp hs
   obtain ⟨res, h1, h2⟩ := number_is s p hp hs
   refine ⟨(res.1, [], res.2.1, res.2.2.1, res.2.2.2), ?_, h2⟩
   refine Ev.step' ?_; simp only [spec_l1Reader_node.f]
   refine Ev.call (a := ([] : List NS)) rfl (Ev.pos (by first | trivial | rfl) ?_)
   exact Ev.bind h1 (Ev.now _)
 | d + 1, hd => by
   have ih := node_is d (by omega)
   intro s p hp hs
   cases hdr : s.drop p with
   | nil =>
     refine ⟨(0, [], BA s, (p : Int), true), ?_, by rw [parse_nil]; rfl⟩
     refine Ev.step' ?_; simp only [spec_l1Reader_node.f]
     refine Ev.call (a := ([] : List NS)) rfl (Ev.neg (by omega) (Ev.call (is_miss 91 (by rw [hdr]; intro c t e; cases e)) (Ev.neg (by simp) (Ev.val rfl))))
   | cons c t =>
     have hp' : p < s.length := by
       rcases Nat.lt_or_ge p s.length with h1 | h1
       · exact h1
       · rw [List.drop_eq_nil_of_le h1] at hdr; cases hdr
     have ht : s.drop (p + 1) = t := by
       have := drop_split hp'
       rw [hdr] at this
       exact (List.cons.inj this).2.symm
     have htl : t.length = s.length - (p + 1) := by rw [← ht, List.length_drop]
     by_cases h91 : c = 91
     · subst h91
       have hgo : ∀ res, Ev (fun k => (spec_l1Reader_is.f (BA s) ((p + 1 : Nat) : Int) false 93).bind fun bt114 => (if bt114.1 = true then (some (0, ([] : List NS), bt114.2.1, bt114.2.2.1, bt114.2.2.2)) else ((spec_l1Reader_node.f k bt114.2.1 bt114.2.2.1 bt114.2.2.2 (d : Int)).bind fun bt118 => (if ([] : List NS).length < 4398046511104 then (spec_l1Reader_node.l0 k ((d + 1 : Nat) : Int) bt118.2.2.1 bt118.2.2.2.1 bt118.2.2.2.2 0 (([] : List NS) ++ [(⟨bt118.1, bt118.2.1⟩ : NS)])) else (none))))) res →
           Ev (fun k => spec_l1Reader_node.f k (BA s) (p : Int) false ((d + 1 : Nat) : Int)) res := by
         intro res h
         refine Ev.step' ?_; simp only [spec_l1Reader_node.f]
         refine Ev.call (a := ([] : List NS)) rfl (Ev.neg (by omega) (Ev.call (is_hit hdr hs 91 rfl) (Ev.pos (by first | trivial | rfl) ?_)))
         rw [show wrap64 (((d + 1 : Nat) : Int) - 1) = (d : Int) by rw [wrapS (by omega) (by omega)]; omega]
         exact h
       by_cases h93 : ∃ t', t = 93 :: t'
       · obtain ⟨t', rfl⟩ := h93
         simp only [List.length_cons] at htl
         refine ⟨_, hgo _ (Ev.call (is_hit ht hs 93 rfl) (Ev.pos (by first | trivial | rfl) (Ev.now _))), ?_⟩
         have : parse (d + 1) (91 :: 93 :: t') = some (⟨0, []⟩, t') := by unfold parse; simp
         rw [this]
         show _ = _
         rw [show s.length - t'.length = p + 1 + 1 by omega]
         rfl
       · have hm : spec_l1Reader_is.f (BA s) ((p + 1 : Nat) : Int) false 93 = some (false, BA s, ((p + 1 : Nat) : Int), false) := is_miss 93 (by
           rw [ht]
           intro c' t' e e2
           apply h93
           refine ⟨t', ?_⟩
           rw [e]
           congr 1
           apply UInt8.toNat.inj
           have h3 : (93 : UInt8).toNat = 93 := rfl
           omega)
         obtain ⟨res, h1, h2⟩ := ih s (p + 1) (by omega) hs
         rw [ht] at h2
         have hgo2 : ∀ res', (Ev (fun k => spec_l1Reader_node.l0 k ((d + 1 : Nat) : Int) res.2.2.1 res.2.2.2.1 res.2.2.2.2 0 [⟨res.1, res.2.1⟩]) res') → Ev (fun k => spec_l1Reader_node.f k (BA s) (p : Int) false ((d + 1 : Nat) : Int)) res' := by
           intro res' h
           exact hgo _ (Ev.call hm (Ev.neg (by simp) (Ev.bind h1 (Ev.pos (by simp) h))))
         have hpar : parse (d + 1) (91 :: t) = ((parse d t).bind fun q => (tailL d t.length q.2).map fun z => (q.1 :: z.1, z.2)).map fun q => ((⟨0, q.1⟩ : Tr), q.2) := by
           cases t with
           | nil => rw [parse_nil]; rfl
           | cons c' t' =>
             have h93' : c' ≠ 93 := fun e => h93 ⟨t', by rw [e]⟩
             have e0 : parse (d + 1) (91 :: c' :: t') = if c' = 93 then some (⟨0, []⟩, t') else (parseL (parse d) ((c' :: t').length + 1) (c' :: t')).map fun q => (⟨0, q.1⟩, q.2) := rfl
             rw [e0, if_neg h93', parseL_tail]
         rw [hpar]
         cases hq : parse d t with
         | none =>
           rw [hq] at h2
           have hb2 : res.2.2.2.2 = true := h2
           refine ⟨(0, [⟨res.1, res.2.1⟩], res.2.2.1, res.2.2.2.1, true), hgo2 _ ?_, rfl⟩
           rw [hb2]
           exact node_bad _ _ _ _ _
         | some q =>
           obtain ⟨v, r⟩ := q
           rw [hq] at h2
           have hres : res = ((cS d v).f0, (cS d v).f1, BA s, ((s.length - r.length : Nat) : Int), false) := h2
           obtain ⟨hdrop, hle⟩ := drop_rest ht (parse_sound d t v r hq).1 (by omega)
           have hr := parse_len hq
           obtain ⟨res', h3, h4⟩ := node_l0 d (by omega) ih s hs t.length (s.length - r.length) [cS d v] (by omega) (by rw [hdrop]; omega) (by rw [hdrop]; simp; omega)
           rw [hdrop] at h4
           refine ⟨res', hgo2 _ ?_, ?_⟩
           · rw [hres]
             simp only [mkS]
             exact h3
           · simp only [Option.bind_some]
             cases hz : tailL d t.length r with
             | none => rw [hz] at h4; exact h4
             | some z =>
               rw [hz] at h4
               have h4' : res' = _ := h4
               show res' = _
               rw [h4']
               simp [cS]
     · refine ⟨(0, [], BA s, (p : Int), true), ?_, ?_⟩
       · refine Ev.step' ?_; simp only [spec_l1Reader_node.f]
         refine Ev.call (a := ([] : List NS)) rfl (Ev.neg (by omega) (Ev.call (is_miss 91 (by
           rw [hdr]
           intro c' t' e
           rw [← (List.cons.inj e).1]
           exact toNat_ne (n := 91) h91 (by omega))) (Ev.neg (by simp) (Ev.val rfl))))
       · unfold parse
         simp only [if_neg h91]
         rfl

/-! ### the two readings -/
/-- The array that a text stands for. -/
def readD (d : Nat) (l : By) : Option Tr := if l.length ≤ 400 then (match parse d l with | some (v, []) => some v | _ => none) else none
theorem readD_ok {d : Nat} {l : By} {v : Tr} (h : readD d l = some v) : l = text d v ∧ Ok d v ∧ l.length ≤ 400 := by
 unfold readD at h
 split at h
 · next hl =>
   split at h
   · next v' hp =>
     obtain rfl := Option.some.inj h
     obtain ⟨h1, h2⟩ := parse_sound _ _ _ _ hp
     exact ⟨by simpa using h1, h2, hl⟩
   · cases h
 · cases h
theorem readD_text {d : Nat} {v : Tr} (h : Ok d v) (hl : (text d v).length ≤ 400) : readD d (text d v) = some v := by
 unfold readD
 have := parse_complete d v [] h (by intro c l e; cases e)
 rw [List.append_nil] at this
 rw [if_pos hl, this]
def resS (d : Nat) : Option Tr → Int × List NS × Bool
 | none => (0, [], false)
 | some v => ((cS d v).f0, (cS d v).f1, true)
theorem l1Read_is (d : Nat) (hd : d ≤ 3) (l : By) : Ev (fun k => spec_l1Read.f k (BA l) (d : Int)) (resS d (readD d l)) := by
 unfold spec_l1Read.f
 have hin : spec_l1In.f (d : Int) 0 3 = some true := by
   unfold spec_l1In.f
   rw [if_pos (by omega)]
   simp
   omega
 refine Ev.call hin (Ev.pos (by first | trivial | rfl) ?_)
 refine Ev.step' ?_; simp only [spec_l1Read.j0]
 unfold readD
 by_cases hl : l.length ≤ 400
 · rw [if_pos hl]
   refine Ev.neg (by simp; omega) ?_
   obtain ⟨res, h1, h2⟩ := node_is d (by omega) l 0 (by omega) (by omega)
   rw [List.drop_zero] at h2
   refine Ev.bind h1 ?_
   cases hq : parse d l with
   | none =>
     rw [hq] at h2
     exact Ev.pos h2 (Ev.now _)
   | some q =>
     obtain ⟨v, r⟩ := q
     rw [hq] at h2
     have hres : res = ((cS d v).f0, (cS d v).f1, BA l, ((l.length - r.length : Nat) : Int), false) := h2
     subst hres
     have hr := parse_len hq
     refine Ev.neg (by simp) ?_
     cases r with
     | nil => exact Ev.pos (by simp) (Ev.now _)
     | cons c r => exact Ev.neg (by simp only [List.length_cons] at hr ⊢; rw [BA_size]; omega) (Ev.now _)
 · rw [if_neg hl]
   exact Ev.pos (by simp; omega) (Ev.now _)
theorem l1Read_out (d : Int) (hd : d < 0 ∨ 3 < d) (s : ByteArray) : Ev (fun k => spec_l1Read.f k s d) (0, [], false) := by
 unfold spec_l1Read.f
 have hin : spec_l1In.f d 0 3 = some false := by
   unfold spec_l1In.f
   by_cases h0 : d ≥ 0
   · rw [if_pos h0]
     simp
     omega
   · rw [if_neg h0]
 refine Ev.call hin (Ev.neg (by simp) ?_)
 refine Ev.step' ?_; simp only [spec_l1Read.j0]
 exact Ev.pos (by first | trivial | rfl) (Ev.now _)
/-- .. and impl's: beside the sign, parts of some array. -/
theorem arrOf_is (d : Nat) (hd : d ≤ 3) (l : By) : ∃ t, Ev (fun k => impl_arrOf.f k (BA l) (d : Int)) ((cA d t).f0, (cA d t).f1, (readD d l).isSome) ∧ Ok d t ∧ (text d t).length ≤ 402 ∧ ∀ v, readD d l = some v → t = v := by
 have hz : (cA d ⟨0, []⟩).f0 = 0 ∧ (cA d ⟨0, []⟩).f1 = [] ∧ Ok d ⟨0, []⟩ ∧ (text d ⟨0, []⟩).length ≤ 402 := by
   cases d with
   | zero => exact ⟨rfl, rfl, ⟨by show 0 < 10007; omega, rfl⟩, by simp [text, dec_small]⟩
   | succ d => exact ⟨rfl, rfl, ⟨rfl, by intro x hx; cases hx⟩, by simp [text, Lib.join_nil]⟩
 obtain ⟨z1, z2, z3, z4⟩ := hz
 unfold impl_arrOf.f readD
 by_cases hl : l.length ≤ 400
 · rw [if_pos hl]
   have hr := readArr_is d (by omega) l (by omega)
   cases hq : parse d l with
   | none =>
     rw [hq] at hr
     refine ⟨⟨0, []⟩, ?_, z3, z4, by simp⟩
     refine Ev.neg (by omega) (Ev.neg (by omega) (Ev.neg (by rw [BA_size]; omega) (Ev.bind hr (Ev.neg (by simp [resA, badA]) (Ev.val ?_)))))
     rw [z1, z2]
     rfl
   | some q =>
     obtain ⟨v, r⟩ := q
     rw [hq] at hr
     obtain ⟨h1, h2⟩ := parse_sound _ _ _ _ hq
     refine ⟨v, ?_, h2, ?_, ?_⟩
     · refine Ev.neg (by omega) (Ev.neg (by omega) (Ev.neg (by rw [BA_size]; omega) (Ev.bind hr (Ev.pos (by first | trivial | rfl) (Ev.val ?_)))))
       simp only [resA, toList_BA]
       cases r <;> rfl
     · have := congrArg List.length h1
       rw [List.length_append] at this
       omega
     · intro v' hv
       cases r with
       | nil => exact Option.some.inj hv
       | cons c r => cases hv
 · rw [if_neg hl]
   refine ⟨⟨0, []⟩, ?_, z3, z4, by simp⟩
   refine Ev.neg (by omega) (Ev.neg (by omega) (Ev.pos (by rw [BA_size]; omega) (Ev.val ?_)))
   rw [z1, z2]
   rfl
theorem arrOf_out (d : Int) (hd : d < 0 ∨ 3 < d) (s : ByteArray) : Ev (fun k => impl_arrOf.f k s d) (0, [], false) := by
 unfold impl_arrOf.f
 by_cases h0 : d < 0
 · exact Ev.pos h0 (Ev.now _)
 · exact Ev.neg h0 (Ev.pos (by omega) (Ev.now _))
end Go.Proofs.YtoloblgjlnhioaaGreatDoor.I
namespace Go.Proofs.YtoloblgjlnhioaaGreatDoor.I
open Go.RowKit Go.Proofs.YtoloblgjlnhioaaGreatDoorW.PrintWords Go.Proofs.YtoloblgjlnhioaaGreatDoorW.PrintLast Go.Proofs.YtoloblgjlnhioaaGreatDoorW.PrintMore Go.Proofs.YtoloblgjlnhioaaGreatDoor.Q
set_option linter.unusedSimpArgs false
set_option linter.unusedVariables false

theorem strOne (m : Nat) (h : m < 256) : strOfNums [(m : Int)] = BA [UInt8.ofNat m] := by
 unfold strOfNums BA
 simp
theorem l13Dec_l0 : ∀ (n : Nat) (suf : By), n < 1000000000000000000 → suf.length ≤ 100 → Ev (fun k => spec_l13Dec.l0 k (n : Int) (BA suf)) (BA (Lib.decDigits n ++ suf)) := by
 have main : ∀ (b n : Nat) (suf : By), n < 10 ^ b → b ≤ 18 → suf.length + b ≤ 118 → Ev (fun k => spec_l13Dec.l0 k (n : Int) (BA suf)) (BA (Lib.decDigits n ++ suf)) := by
   intro b
   induction b with
   | zero =>
     intro n suf hn hb hs
     have hn1 : n < 1 := hn
     have : n = 0 := by omega
     subst this
     refine Ev.step' ?_; simp only [spec_l13Dec.l0]
     have e : (wrap64 (48 + ((0 : Nat) : Int))) % 256 = ((48 + 0 : Nat) : Int) := by
       rw [wrapS (by omega) (by omega)]
       omega
     refine Ev.neg (by omega) ?_
     rw [e]
     refine Ev.call (a := [((48 + 0 : Nat) : Int)]) rfl (Ev.pos (by rw [strOne _ (by omega), BA_size, BA_size]; simp; omega) (Ev.val ?_))
     rw [strOne _ (by omega), BA_append, dec_small (by omega)]
   | succ b ih =>
     intro n suf hn hb hs
     refine Ev.step' ?_; simp only [spec_l13Dec.l0]
     have hpow : 10 ^ (b + 1) ≤ 10 ^ 18 := Nat.pow_le_pow_right (by omega) hb
     have hnb : n < 1000000000000000000 := by
       have : (10 ^ 18 : Nat) = 1000000000000000000 := by decide
       omega
     by_cases h9 : n < 10
     · have e : (wrap64 (48 + (n : Int))) % 256 = ((48 + n : Nat) : Int) := by
         rw [wrapS (by omega) (by omega)]
         omega
       refine Ev.neg (by omega) ?_
       rw [e]
       refine Ev.call (a := [((48 + n : Nat) : Int)]) rfl (Ev.pos (by rw [strOne _ (by omega), BA_size, BA_size]; simp; omega) (Ev.val ?_))
       rw [strOne _ (by omega), BA_append, dec_small h9]
     · have e : (wrap64 (48 + Int.tmod (n : Int) 10)) % 256 = ((48 + n % 10 : Nat) : Int) := by
         rw [Int.tmod_eq_emod_of_nonneg (by omega), wrapS (by omega) (by omega)]
         omega
       have e2 : wrap64 (Int.tdiv (n : Int) 10) = ((n / 10 : Nat) : Int) := by
         rw [Int.tdiv_eq_ediv_of_nonneg (by omega), wrapS (by omega) (by omega)]
         omega
       refine Ev.pos (by omega) ?_
       rw [e, e2]
       refine Ev.call (a := [((48 + n % 10 : Nat) : Int)]) rfl (Ev.pos (by rw [strOne _ (by omega), BA_size, BA_size]; simp; omega) ?_)
       rw [strOne _ (by omega), BA_append]
       refine evIs (ih (n / 10) _ ?_ (by omega) (by simp; omega)) ?_
       · rw [Nat.pow_succ] at hn
         generalize 10 ^ b = q at *
         omega
       · rw [dec_big h9, List.append_assoc]
 intro n suf hn hs
 exact main 18 n suf (by have : (10 ^ 18 : Nat) = 1000000000000000000 := by decide
                         omega) (by omega) (by omega)
theorem l13Dec_is (n : Nat) (hn : n < 1000000000000000000) : Ev (fun k => spec_l13Dec.f k (n : Int)) (BA (Lib.decDigits n)) := by
 refine Ev.step' ?_; simp only [spec_l13Dec.f]
 refine Ev.neg (by omega) (Ev.neg (by omega) (evIs (l13Dec_l0 n [] hn (by simp)) ?_))
 rw [List.append_nil]

theorem dec_len : ∀ (b n : Nat), n < 10 ^ b → 1 ≤ b → (Lib.decDigits n).length ≤ b := by
 intro b
 induction b with
 | zero => intro n _ h; omega
 | succ b ih =>
   intro n hn _
   by_cases h9 : n < 10
   · rw [dec_small h9]; simp
   · rw [dec_big h9, List.length_append]
     have h1 : n / 10 < 10 ^ b := by
       rw [Nat.pow_succ] at hn
       generalize 10 ^ b = q at *
       omega
     have hb : 1 ≤ b := by
       rcases Nat.eq_zero_or_pos b with rfl | h
       · have : n / 10 < 1 := h1
         omega
       · exact h
     have := ih (n / 10) h1 hb
     simp
     omega
end Go.Proofs.YtoloblgjlnhioaaGreatDoor.I
namespace Go.Proofs.YtoloblgjlnhioaaGreatDoor.I
open Go.RowKit Go.Proofs.YtoloblgjlnhioaaGreatDoorW.PrintWords Go.Proofs.YtoloblgjlnhioaaGreatDoorW.PrintLast Go.Proofs.YtoloblgjlnhioaaGreatDoorW.PrintMore Go.Proofs.YtoloblgjlnhioaaGreatDoor.Q
set_option linter.unusedSimpArgs false
set_option linter.unusedVariables false

/-- Numbers that fit. -/
def Sh : Nat → Tr → Prop
 | 0, t => t.n < 1000000000
 | d + 1, t => ∀ x ∈ t.parts, Sh d x
theorem Sh.of : ∀ {d : Nat} {t : Tr}, Ok d t → Sh d t
 | 0, t, h => by have := h.1; show t.n < _; omega
 | d + 1, t, h => fun x hx => Sh.of (h.2 x hx)
def nodes : Nat → Tr → Nat
 | 0, _ => 1
 | d + 1, t => 1 + (t.parts.map (nodes d)).sum
theorem join_sum (f : Tr → By) (g : Tr → Nat) : ∀ xs : List Tr, (∀ x ∈ xs, (f x).length + 1 ≤ g x) → (Lib.join (xs.map f) [44]).length ≤ (xs.map g).sum
 | [], _ => by simp [Lib.join_nil]
 | [x], h => by
   have := h x (by simp)
   rw [List.map_cons, List.map_nil, join_one]
   simp
   omega
 | x :: y :: l, h => by
   have h1 := h x (by simp)
   have h2 := join_sum f g (y :: l) (fun z hz => h z (List.mem_cons_of_mem _ hz))
   rw [List.map_cons, List.map_cons, join_cons]
   rw [List.map_cons] at h2
   rw [List.map_cons, List.sum_cons]
   simp only [List.length_append, List.length_cons] at h2 ⊢
   omega
theorem join_len2 (f : Tr → By) (g : Tr → Nat) : ∀ xs : List Tr, (∀ x ∈ xs, g x ≤ (f x).length) → (xs.map g).sum ≤ (Lib.join (xs.map f) [44]).length
 | [], _ => by simp
 | [x], h => by
   have h1 := h x (by simp)
   have e1 : (([x] : List Tr).map g).sum = g x := by simp
   have e2 : Lib.join ([x].map f) [44] = f x := join_one _
   rw [e1, e2]
   exact h1
 | x :: y :: l, h => by
   have h1 := h x (by simp)
   have h2 := join_len2 f g (y :: l) (fun z hz => h z (List.mem_cons_of_mem _ hz))
   have e1 : ((x :: y :: l).map g).sum = g x + ((y :: l).map g).sum := by rw [List.map_cons, List.sum_cons]
   have e2 : Lib.join ((x :: y :: l).map f) [44] = f x ++ 44 :: Lib.join ((y :: l).map f) [44] := join_cons _ _ _
   rw [e1, e2, List.length_append, List.length_cons]
   omega
theorem sum_mul (c : Nat) (g : Tr → Nat) : ∀ xs : List Tr, (xs.map (fun x => c * g x)).sum = c * (xs.map g).sum
 | [] => rfl
 | x :: l => by rw [List.map_cons, List.sum_cons, sum_mul c g l, List.map_cons, List.sum_cons, Nat.mul_add]
theorem text_le : ∀ (d : Nat) (t : Tr), Sh d t → (text d t).length + 1 ≤ 12 * nodes d t
 | 0, t, h => by
   have := dec_len 9 t.n h (by omega)
   show (Lib.decDigits t.n).length + 1 ≤ 12
   omega
 | d + 1, t, h => by
   have := join_sum (text d) (fun x => 12 * nodes d x) t.parts (fun x hx => text_le d x (h x hx))
   rw [sum_mul] at this
   show (91 :: (Lib.join (t.parts.map (text d)) [44] ++ [93])).length + 1 ≤ 12 * (1 + (t.parts.map (nodes d)).sum)
   simp
   omega
theorem sum_mem (g : Tr → Nat) : ∀ (xs : List Tr) (x : Tr), x ∈ xs → g x ≤ (xs.map g).sum
 | y :: l, x, h => by
   rw [List.map_cons, List.sum_cons]
   rcases List.mem_cons.1 h with rfl | h
   · omega
   · have := sum_mem g l x h; omega
theorem nodes_part {d : Nat} {t x : Tr} (h : x ∈ t.parts) : nodes d x ≤ nodes (d + 1) t := by
 have := sum_mem (nodes d) t.parts x h
 show _ ≤ 1 + _
 omega
theorem nodes_pos : ∀ (d : Nat) (t : Tr), 1 ≤ nodes d t
 | 0, _ => Nat.le_refl _
 | d + 1, t => by show 1 ≤ 1 + _; omega
theorem sum_len (g : Tr → Nat) (h : ∀ x, 1 ≤ g x) : ∀ xs : List Tr, xs.length ≤ (xs.map g).sum
 | [] => by simp
 | x :: l => by
   have h1 := h x
   have h2 := sum_len g h l
   rw [List.map_cons, List.sum_cons, List.length_cons]
   omega
theorem parts_len (d : Nat) (t : Tr) : t.parts.length + 1 ≤ nodes (d + 1) t := by
 have := sum_len (nodes d) (nodes_pos d) t.parts
 show _ ≤ 1 + _
 omega
theorem getD_map {α : Type} (f : Tr → α) (xs : List Tr) (i : Nat) (z : α) (h : i < xs.length) : (xs.map f).getD i z = f xs[i] := by
 rw [List.getD_eq_getElem?_getD, List.getElem?_map, List.getElem?_eq_getElem h]
 rfl
theorem join_snoc : ∀ (xs : List By) (x : By), xs ≠ [] → Lib.join (xs ++ [x]) [44] = Lib.join xs [44] ++ 44 :: x
 | [], x, h => absurd rfl h
 | [y], x, _ => by rw [List.singleton_append, join_cons, join_one, join_one]
 | y :: z :: l, x, _ => by
   have := join_snoc (z :: l) x (by simp)
   rw [List.cons_append, List.cons_append, join_cons, join_cons, ← List.cons_append, this]
   simp
theorem take_snoc {α : Type} (xs : List α) (i : Nat) (h : i < xs.length) : xs.take (i + 1) = xs.take i ++ [xs[i]] := List.take_succ_eq_append_getElem h
theorem join_take (f : Tr → By) (xs : List Tr) (i : Nat) (h : i < xs.length) (h0 : 0 < i) : Lib.join ((xs.take (i + 1)).map f) [44] = Lib.join ((xs.take i).map f) [44] ++ 44 :: f xs[i] := by
 rw [take_snoc xs i h, List.map_append, List.map_cons, List.map_nil, join_snoc]
 intro e
 have := congrArg List.length e
 rw [List.length_map, List.length_take, List.length_nil] at this
 omega
theorem join_take_le (f : Tr → By) (xs : List Tr) : ∀ i, i ≤ xs.length → (Lib.join ((xs.take i).map f) [44]).length ≤ (Lib.join (xs.map f) [44]).length := by
 have main : ∀ n i, xs.length - i = n → i ≤ xs.length → (Lib.join ((xs.take i).map f) [44]).length ≤ (Lib.join (xs.map f) [44]).length := by
   intro n
   induction n with
   | zero => intro i h hi; rw [List.take_of_length_le (by omega)]; exact Nat.le_refl _
   | succ n ih =>
     intro i h hi
     refine Nat.le_trans ?_ (ih (i + 1) (by omega) (by omega))
     rcases Nat.eq_zero_or_pos i with rfl | h0
     · simp [Lib.join_nil]
     · rw [join_take f xs i (by omega) h0, List.length_append]
       omega
 exact fun i hi => main _ i rfl hi
def TextA (d : Nat) : Prop := ∀ t, Sh d t → nodes d t ≤ 1000000000 → Ev (fun k => impl_arr_text.f k (cA d t).f0 (cA d t).f1 (d : Int)) (BA (text d t))
theorem textA_l0 (d : Nat) (hd : d ≤ 1000) (ih : TextA d) (t : Tr) (hs : Sh (d + 1) t) (hn : nodes (d + 1) t ≤ 1000000000) :
   ∀ (n i : Nat), t.parts.length - i = n → i ≤ t.parts.length → Ev (fun k => impl_arr_text.l0 k ((d + 1 : Nat) : Int) ((t.parts.take i).map fun x => BA (text d x)) (t.parts.map (cA d)) ((t.parts.map (cA d)).length : Int) (i : Int)) (BA (text (d + 1) t)) := by
 have hpl := parts_len d t
 have htl := text_le (d + 1) t hs
 have hte : (text (d + 1) t).length = (Lib.join (t.parts.map (text d)) [44]).length + 2 := by simp [text]
 intro n
 induction n with
 | zero =>
   intro i h hi
   refine Ev.step' ?_; simp only [impl_arr_text.l0]
   rw [List.take_of_length_le (by omega)]
   refine Ev.neg (by rw [List.length_map]; omega) ?_
   have hj : strings_Join.f (t.parts.map fun x => BA (text d x)) (⟨#[44]⟩ : ByteArray) = some (BA (Lib.join (t.parts.map (text d)) [44])) := by
     have e : (t.parts.map fun x => BA (text d x)).map (·.data.toList) = t.parts.map (text d) := by
       rw [List.map_map]
       apply List.map_congr_left
       intro x _
       exact data_BA _
     unfold strings_Join.f
     rw [e, if_pos (by rw [List.length_map]; omega), if_pos (by show (Lib.join (t.parts.map (text d)) [44]).length ≤ _; omega)]
     rfl
   refine Ev.call hj (Ev.pos (by simp; omega) (Ev.pos (by simp; omega) (Ev.val ?_)))
   show BA [91] ++ BA _ ++ BA [93] = _
   rw [BA_append, BA_append]
   rfl
 | succ n ihn =>
   intro i h hi
   have hlt : i < t.parts.length := by omega
   have hm : t.parts[i] ∈ t.parts := List.getElem_mem hlt
   have hx := ih t.parts[i] (hs _ hm) (by have := nodes_part (d := d) hm; omega)
   have hg : rd_T68 (t.parts.map (cA d)) (i : Int) = cA d t.parts[i] := getD_map _ _ _ _ hlt
   refine Ev.step' ?_; simp only [impl_arr_text.l0]
   refine Ev.pos (by rw [List.length_map]; omega) (Ev.pos (by omega) (Ev.pos (by rw [List.length_map]; omega) ?_))
   rw [hg, show wrap64 (((d + 1 : Nat) : Int) - 1) = (d : Int) by rw [wrapS (by omega) (by omega)]; omega, wrapS (a := (i : Int) + 1) (by omega) (by omega)]
   have hnext := ihn (i + 1) (by omega) (by omega)
   refine Ev.bind hx (Ev.pos (by rw [List.length_map, List.length_take]; omega) ?_)
   rw [take_snoc _ _ hlt, List.map_append] at hnext
   exact hnext
theorem textA_is : ∀ d, d ≤ 1000 → TextA d
 | 0, _ => by
   intro t hs hn
   refine Ev.step' ?_; simp only [impl_arr_text.f]
   have h9 : t.n < 1000000000 := hs
   have hi : strconv_Itoa.f (t.n : Int) = some (BA (Lib.decDigits t.n)) := by
     unfold strconv_Itoa.f
     rw [if_pos (by omega), if_pos (by omega), itoa_nat]
     rfl
   refine Ev.pos (by first | trivial | rfl) (Ev.call hi (Ev.val rfl))
 | d + 1, hd => by
   intro t hs hn
   refine Ev.step' ?_; simp only [impl_arr_text.f]
   exact Ev.neg (by omega) (textA_l0 d (by omega) (textA_is d (by omega)) t hs hn _ 0 rfl (by omega))

def told (l : By) : ByteArray × Bool := if l.length ≤ 400 then (BA l, true) else (BA [], false)
theorem nodes_le_text : ∀ (d : Nat) (t : Tr), nodes d t ≤ (text d t).length
 | 0, t => by
   have := List.length_pos_iff.2 (dec_ne t.n)
   exact this
 | d + 1, t => by
   have h := join_len2 (text d) (nodes d) t.parts (fun x _ => nodes_le_text d x)
   show 1 + _ ≤ (91 :: (Lib.join (t.parts.map (text d)) [44] ++ [93])).length
   simp
   omega
end Go.Proofs.YtoloblgjlnhioaaGreatDoor.I
namespace Go.Proofs.YtoloblgjlnhioaaGreatDoor.I
open Go.RowKit Go.Proofs.YtoloblgjlnhioaaGreatDoorW.PrintWords Go.Proofs.YtoloblgjlnhioaaGreatDoorW.PrintLast Go.Proofs.YtoloblgjlnhioaaGreatDoorW.PrintMore Go.Proofs.YtoloblgjlnhioaaGreatDoor.Q
set_option linter.unusedSimpArgs false
set_option linter.unusedVariables false

abbrev ints (l : List Nat) : List Int := l.map (fun n : Nat => (n : Int))
theorem nums_le : ∀ (d : Nat) (t : Tr), (Q.nums d t).length ≤ nodes d t
 | 0, t => Nat.le_refl _
 | d + 1, t => by
   show ((t.parts.map (Q.nums d)).flatten).length ≤ 1 + (t.parts.map (nodes d)).sum
   have : ∀ xs : List Tr, ((xs.map (Q.nums d)).flatten).length ≤ (xs.map (nodes d)).sum := by
     intro xs
     induction xs with
     | nil => exact Nat.le_refl _
     | cons x l ih =>
       have := nums_le d x
       rw [List.map_cons, List.flatten_cons, List.length_append, List.map_cons, List.sum_cons]
       omega
   have := this t.parts
   omega
theorem flat_take_le (f : Tr → List Nat) (xs : List Tr) (i : Nat) : (((xs.take i).map f).flatten).length ≤ ((xs.map f).flatten).length := by
 conv => rhs; rw [← List.take_append_drop i xs, List.map_append, List.flatten_append, List.length_append]
 omega
theorem flat_snoc (f : Tr → List Nat) (xs : List Tr) (i : Nat) (h : i < xs.length) : ((xs.take (i + 1)).map f).flatten = ((xs.take i).map f).flatten ++ f xs[i] := by
 rw [take_snoc _ _ h, List.map_append, List.flatten_append]
 simp
end Go.Proofs.YtoloblgjlnhioaaGreatDoor.I
namespace Go.Proofs.YtoloblgjlnhioaaGreatDoor.I
open Go.RowKit Go.Proofs.YtoloblgjlnhioaaGreatDoorW.PrintWords Go.Proofs.YtoloblgjlnhioaaGreatDoorW.PrintLast Go.Proofs.YtoloblgjlnhioaaGreatDoorW.PrintMore Go.Proofs.YtoloblgjlnhioaaGreatDoor.Q
set_option linter.unusedSimpArgs false
set_option linter.unusedVariables false

theorem rd_at {l : List Int} {i : Nat} (h : i < l.length) : rd l (i : Int) = l[i] := by
 unfold rd
 rw [Int.toNat_natCast, List.getD_eq_getElem?_getD, List.getElem?_eq_getElem h]
 rfl
end Go.Proofs.YtoloblgjlnhioaaGreatDoor.I
namespace Go.Proofs.YtoloblgjlnhioaaGreatDoor.I
open Go.RowKit Go.Proofs.YtoloblgjlnhioaaGreatDoorW.PrintWords Go.Proofs.YtoloblgjlnhioaaGreatDoorW.PrintLast Go.Proofs.YtoloblgjlnhioaaGreatDoorW.PrintMore Go.Proofs.YtoloblgjlnhioaaGreatDoor.Q
set_option linter.unusedSimpArgs false
set_option linter.unusedVariables false

/-- Something comes of it. -/
def ExE {α : Type} (f : Nat → Option α) : Prop := ∃ g, Ev f g
theorem ExE.now {α : Type} (a : α) : ExE (fun _ => some a) := ⟨a, Ev.now a⟩
theorem ExE.ite {α : Type} {c : Prop} [Decidable c] {f g : Nat → Option α} (h1 : c → ExE f) (h2 : ¬ c → ExE g) : ExE (fun k => if c then f k else g k) := by
 by_cases h : c
 · obtain ⟨r, hr⟩ := h1 h
   exact ⟨r, Ev.pos h hr⟩
 · obtain ⟨r, hr⟩ := h2 h
   exact ⟨r, Ev.neg h hr⟩
theorem ExE.pos {α : Type} {c : Prop} [Decidable c] {f g : Nat → Option α} (hc : c) (h1 : ExE f) : ExE (fun k => if c then f k else g k) := .ite (fun _ => h1) (fun h => absurd hc h)
theorem ExE.step {α : Type} {g : Nat → Option α} (k : ExE (fun k => g (k + 1))) : ExE g := by
 obtain ⟨r, hr⟩ := k
 exact ⟨r, Ev.step' hr⟩
theorem ExE.call {α β : Type} {g : Option α} {f : Nat → α → Option β} {a : α} (h : g = some a) (k : ExE (fun n => f n a)) : ExE (fun n => g.bind (f n)) := by
 obtain ⟨r, hr⟩ := k
 exact ⟨r, Ev.call h hr⟩
section
variable {s : ByteArray} {x : List Int} (hx : 0 < (x.length : Int))
include hx
theorem sj7 (b : Bool) : ExE (fun k => impl_signDepth.j7 k s x b) := by
 refine .step ?_
 simp only [impl_signDepth.j7]
 exact .ite (fun _ => .pos hx (.now _)) (fun _ => .ite (fun _ => .pos hx (.ite (fun _ => .now _) (fun _ => .now _))) (fun _ => .now _))
theorem sj6 (b : Bool) : ExE (fun k => impl_signDepth.j6 k s x b) := by
 refine .step ?_
 simp only [impl_signDepth.j6]
 exact .ite (fun _ => .now _) (fun _ => .ite (fun _ => .pos hx (sj7 hx _)) (fun _ => sj7 hx _))
theorem sj5 (b : Bool) : ExE (fun k => impl_signDepth.j5 k s x b) := by
 refine .step ?_
 simp only [impl_signDepth.j5]
 exact .ite (fun _ => sj6 hx _) (fun _ => .ite (fun _ => .pos hx (sj6 hx _)) (fun _ => sj6 hx _))
theorem sj4 (b : Bool) : ExE (fun k => impl_signDepth.j4 k s x b) := by
 refine .step ?_
 simp only [impl_signDepth.j4]
 exact .ite (fun _ => .now _) (fun _ => .ite (fun _ => .pos hx (sj5 hx _)) (fun _ => sj5 hx _))
theorem sj3 (b : Bool) : ExE (fun k => impl_signDepth.j3 k s x b) := by
 refine .step ?_
 simp only [impl_signDepth.j3]
 exact .ite (fun _ => sj4 hx _) (fun _ => .ite (fun _ => .pos hx (sj4 hx _)) (fun _ => sj4 hx _))
theorem sj2 (a b : Bool) : ExE (fun k => impl_signDepth.j2 k s x a b) := by
 refine .step ?_
 simp only [impl_signDepth.j2]
 exact .ite (fun _ => .now _) (fun _ => .ite (fun _ => .now _) (fun _ => .ite (fun _ => .pos hx (sj3 hx _)) (fun _ => .ite (fun _ => .pos hx (sj3 hx _)) (fun _ => sj3 hx _))))
theorem sj1 (a b : Bool) : ExE (fun k => impl_signDepth.j1 k s x a b) := by
 refine .step ?_
 simp only [impl_signDepth.j1]
 exact .ite (fun _ => sj2 hx _ _) (fun _ => .ite (fun _ => .ite (fun _ => .pos hx (sj2 hx _ _)) (fun _ => sj2 hx _ _)) (fun _ => sj2 hx _ _))
end
theorem cont_is (s : ByteArray) : strings_Contains.f (⟨#[43, 42, 94, 45, 61, 60]⟩ : ByteArray) s = some (Lib.contains [43, 42, 94, 45, 61, 60] s.data.toList) := by
 unfold strings_Contains.f
 rw [if_pos (by decide)]
theorem sj0 {s : ByteArray} {x : List Int} (a b : Bool) (hx : b = false → 0 < (x.length : Int)) : ExE (fun k => impl_signDepth.j0 k s x a b) := by
 refine .step ?_
 simp only [impl_signDepth.j0]
 refine .ite (fun _ => .now _) (fun hb => ?_)
 have hx := hx (by simpa using hb)
 exact .ite (fun _ => .call (cont_is s) (.ite (fun _ => .pos hx (sj1 hx _ _)) (fun _ => sj1 hx _ _))) (fun _ => sj1 hx _ _)
theorem sd_any (s : ByteArray) (x : List Int) : ExE (fun k => impl_signDepth.f k s x) := by
 unfold impl_signDepth.f
 refine .ite (fun _ => sj0 _ _ (by simp)) (fun h0 => .ite (fun _ => sj0 _ _ (by simp)) (fun _ => ?_))
 have hx : 0 < (x.length : Int) := by omega
 exact .pos hx (.ite (fun _ => sj0 _ _ (by simp)) (fun _ => .ite (fun h2 => .pos (by omega) (sj0 _ _ (fun _ => hx))) (fun _ => sj0 _ _ (fun _ => hx))))
theorem sd_wrong (s : ByteArray) (x : List Int) (h : x.length = 0 ∨ 2 < x.length) : Ev (fun k => impl_signDepth.f k s x) (-1) := by
 unfold impl_signDepth.f
 have hj : ∀ a, Ev (fun k => impl_signDepth.j0 k s x a true) (-1) := fun a => by
   refine Ev.step' ?_; simp only [impl_signDepth.j0]
   exact Ev.pos (by first | trivial | rfl) (Ev.now _)
 rcases h with h | h
 · exact Ev.pos (by omega) (hj _)
 · exact Ev.neg (by omega) (Ev.pos (by omega) (hj _))
/-- The depth of what a sign with one part gives. -/
def sg1 (c : UInt8) (d : Int) : Int :=
 if c = 83 then (if d = 1 then 0 else -1) else if c = 77 then (if d = 1 then 0 else -1) else if c = 78 then (if d ≥ 1 then 0 else -1) else if c = 73 then (if d = 0 then 1 else -1) else if c = 80 then (if d = 1 then 1 else -1) else
 if c = 82 then (if d ≥ 1 then d else -1) else if c = 67 then (if d ≥ 2 then d - 1 else -1) else -1
theorem tl_one (c : UInt8) : (BA [c]).toList = [c] := by rw [toList_eq]; rfl
theorem sd_one (c : UInt8) (d : Nat) (hd : d ≤ 3) : impl_signDepth.f 20 (BA [c]) [(d : Int)] = some (sg1 c (d : Int)) := by
 have e0 : rd [(d : Int)] 0 = (d : Int) := rfl
 have hn : ¬ (d : Int) < 0 := by omega
 have hw : wrap64 ((d : Int) - 1) = (d : Int) - 1 := by unfold wrap64; omega
 simp only [impl_signDepth.f, impl_signDepth.j0, impl_signDepth.j1, impl_signDepth.j2, impl_signDepth.j3, impl_signDepth.j4, impl_signDepth.j5, impl_signDepth.j6, impl_signDepth.j7, tl_one, e0, hn, hw, sg1, List.length_cons, List.length_nil, List.cons.injEq, and_true]
 by_cases h1 : c = 83
 · by_cases h : (d : Int) = 1 <;> simp [h1, h]
 by_cases h2 : c = 77
 · by_cases h : (d : Int) = 1 <;> simp [h2, h]
 by_cases h3 : c = 78
 · by_cases h : (d : Int) ≥ 1 <;> simp [h3, h]
 by_cases h4 : c = 73
 · by_cases h : d = 0 <;> simp [h4, h]
 by_cases h5 : c = 80
 · by_cases h : (d : Int) = 1 <;> simp [h5, h]
 by_cases h6 : c = 82
 · by_cases h : (d : Int) ≥ 1 <;> simp [h6, h]
 by_cases h7 : c = 67
 · by_cases h : (d : Int) ≥ 2 <;> simp [h7, h]
 simp [h1, h2, h3, h4, h5, h6, h7]
/-- .. with two parts, the second one a number. -/
def sg2 (c : UInt8) (d : Int) : Int := if (c = 43 ∨ c = 42 ∨ c = 94 ∨ c = 45 ∨ c = 61 ∨ c = 60) ∧ d = 0 ∨ c = 64 ∧ d = 1 then 0 else -1
theorem cont_one (c : UInt8) : Lib.contains [43, 42, 94, 45, 61, 60] [c] = decide (c = 43 ∨ c = 42 ∨ c = 94 ∨ c = 45 ∨ c = 61 ∨ c = 60) := by
 by_cases h1 : c = 43
 · subst h1; decide
 by_cases h2 : c = 42
 · subst h2; decide
 by_cases h3 : c = 94
 · subst h3; decide
 by_cases h4 : c = 45
 · subst h4; decide
 by_cases h5 : c = 61
 · subst h5; decide
 by_cases h6 : c = 60
 · subst h6; decide
 have e1 : (c == 43) = false := by simpa using h1
 have e2 : (c == 42) = false := by simpa using h2
 have e3 : (c == 94) = false := by simpa using h3
 have e4 : (c == 45) = false := by simpa using h4
 have e5 : (c == 61) = false := by simpa using h5
 have e6 : (c == 60) = false := by simpa using h6
 simp [Lib.contains, Lib.index, List.isPrefixOf, h1, h2, h3, h4, h5, h6]
theorem sd_two (c : UInt8) (d : Nat) (hd : d ≤ 3) : impl_signDepth.f 20 (BA [c]) [(d : Int), 0] = some (sg2 c (d : Int)) := by
 have e0 : rd [(d : Int), 0] 0 = (d : Int) := rfl
 have e1 : rd [(d : Int), 0] 1 = 0 := rfl
 have hn : ¬ (d : Int) < 0 := by omega
 have hc := cont_one c
 have hb : (BA [c]).data.toList = [c] := rfl
 simp only [impl_signDepth.f, impl_signDepth.j0, impl_signDepth.j1, impl_signDepth.j2, tl_one, e0, e1, hn, sg2, List.length_cons, List.length_nil, List.cons.injEq, and_true, cont_is, hb, hc]
 by_cases h1 : c = 43 ∨ c = 42 ∨ c = 94 ∨ c = 45 ∨ c = 61 ∨ c = 60
 · have h7 : c ≠ 64 := by rintro rfl; simp at h1
   by_cases h : d = 0 <;> simp [h1, h, h7]
 · by_cases h7 : c = 64
   · by_cases h : (d : Int) = 1 <;> simp [h7, h]
   · simp [h1, h7]
theorem cn (c : UInt8) (n : Nat) (hn : n < 256) : (c.toNat : Int) = (n : Int) ↔ c = UInt8.ofNat n := by
 constructor
 · intro h
   apply UInt8.toNat.inj
   rw [UInt8.toNat_ofNat']
   omega
 · rintro rfl
   rw [UInt8.toNat_ofNat']
   omega
theorem one_is (c : UInt8) (d : Nat) (hd : d ≤ 3) : spec_l5One.f 20 (c.toNat : Int) (d : Int) = some (sg1 c (d : Int)) := by
 have k1 : (c.toNat : Int) = 83 ↔ c = 83 := cn c 83 (by omega)
 have k2 : (c.toNat : Int) = 77 ↔ c = 77 := cn c 77 (by omega)
 have k3 : (c.toNat : Int) = 78 ↔ c = 78 := cn c 78 (by omega)
 have k4 : (c.toNat : Int) = 73 ↔ c = 73 := cn c 73 (by omega)
 have k5 : (c.toNat : Int) = 80 ↔ c = 80 := cn c 80 (by omega)
 have k6 : (c.toNat : Int) = 82 ↔ c = 82 := cn c 82 (by omega)
 have k7 : (c.toNat : Int) = 67 ↔ c = 67 := cn c 67 (by omega)
 have hw : wrap64 ((d : Int) - 1) = (d : Int) - 1 := by unfold wrap64; omega
 have hb : ∀ n : Int, ((c.toNat : Int) == n) = decide ((c.toNat : Int) = n) := fun n => rfl
 simp only [spec_l5One.f, spec_l5One.j0, hb, decide_eq_true_eq, k1, k2, k3, k4, k5, k6, k7, hw, sg1]
 by_cases h1 : c = 83
 · by_cases h : (d : Int) = 1 <;> simp [h1, h]
 by_cases h2 : c = 77
 · by_cases h : (d : Int) = 1 <;> simp [h2, h]
 by_cases h3 : c = 78
 · by_cases h : (d : Int) ≥ 1 <;> simp [h3, h]
 by_cases h4 : c = 73
 · by_cases h : d = 0 <;> simp [h4, h]
 by_cases h5 : c = 80
 · by_cases h : (d : Int) = 1 <;> simp [h5, h]
 by_cases h6 : c = 82
 · by_cases h : (d : Int) ≥ 1 <;> simp [h6, h]
 by_cases h7 : c = 67
 · by_cases h : (d : Int) ≥ 2 <;> simp [h7, h]
 simp [h1, h2, h3, h4, h5, h6, h7]
theorem two_is (c : UInt8) (d : Nat) : spec_l5Two.f 20 (c.toNat : Int) (d : Int) 0 = some (if c = 64 then (if (d : Int) = 1 then 0 else -1) else if (d : Int) = 0 then 0 else -1) := by
 have k1 : (c.toNat : Int) = 64 ↔ c = 64 := cn c 64 (by omega)
 simp only [spec_l5Two.f, spec_l5Two.j0, k1]
 by_cases h1 : c = 64
 · by_cases h : (d : Int) = 1 <;> simp [h1, h]
 · by_cases h : d = 0 <;> simp [h1, h]
/-- A byte within a text. -/
theorem find_l0 (l : By) (hl : l.length ≤ 100) (c : UInt8) : ∀ (n i : Nat), l.length - i = n → i ≤ l.length → ∃ r, Ev (fun k => spec_l13Find.l0 k (BA l) (c.toNat : Int) (i : Int)) r ∧ (r < 0 ↔ c ∉ l.drop i) := by
 intro n
 induction n with
 | zero =>
   intro i h hi
   refine ⟨-1, ?_, ?_⟩
   · refine Ev.step' ?_; simp only [spec_l13Find.l0]
     exact Ev.neg (by rw [BA_size]; omega) (Ev.now _)
   · rw [List.drop_eq_nil_of_le (by omega)]
     simp
 | succ n ih =>
   intro i h hi
   have hlt : i < l.length := by omega
   have hb : bt (BA l) (i : Int) = (l[i].toNat : Int) := by
     rw [bt_BA, Int.toNat_natCast, List.getD_eq_getElem?_getD, List.getElem?_eq_getElem hlt]
     rfl
   have hd : l.drop i = l[i] :: l.drop (i + 1) := List.drop_eq_getElem_cons hlt
   by_cases hc : l[i] = c
   · refine ⟨(i : Int), ?_, ?_⟩
     · refine Ev.step' ?_; simp only [spec_l13Find.l0]
       exact Ev.pos (by rw [BA_size]; omega) (Ev.pos (by omega) (Ev.pos (by rw [hb, hc]) (Ev.now _)))
     · rw [hd, hc]
       simp
   · obtain ⟨r, h1, h2⟩ := ih (i + 1) (by omega) (by omega)
     refine ⟨r, ?_, ?_⟩
     · refine Ev.step' ?_; simp only [spec_l13Find.l0]
       refine Ev.pos (by rw [BA_size]; omega) (Ev.pos (by omega) (Ev.neg (fun e => hc ?_) ?_))
       · rw [hb] at e
         exact UInt8.toNat.inj (by omega)
       · rw [wrapS (by omega) (by omega)]
         exact h1
     · rw [h2, hd]
       have hne : ¬ c = l[i] := fun e => hc e.symm
       simp only [List.mem_cons, hne, false_or]
theorem find_is (l : By) (hl : l.length ≤ 100) (c : UInt8) : ∃ r, Ev (fun k => spec_l13Find.f k (BA l) (c.toNat : Int)) r ∧ (r < 0 ↔ c ∉ l) := by
 unfold spec_l13Find.f
 exact find_l0 l hl c _ 0 rfl (Nat.zero_le _)
end Go.Proofs.YtoloblgjlnhioaaGreatDoor.I
namespace Go.Proofs.YtoloblgjlnhioaaGreatDoor.I
open Go.RowKit Go.Proofs.YtoloblgjlnhioaaGreatDoorW.PrintWords Go.Proofs.YtoloblgjlnhioaaGreatDoorW.PrintLast Go.Proofs.YtoloblgjlnhioaaGreatDoorW.PrintMore Go.Proofs.YtoloblgjlnhioaaGreatDoor.Q
set_option linter.unusedSimpArgs false
set_option linter.unusedVariables false

/-- A number as an array. -/
abbrev n0 (v : Nat) : Tr := ⟨v, []⟩
/-- The running sums ahead of each number. -/
def pre : Nat → List Nat → List Nat
 | _, [] => []
 | a, n :: ns => a :: pre ((a + n) % 10007) ns
theorem pre_len : ∀ (a : Nat) (ns : List Nat), (pre a ns).length = ns.length
 | _, [] => rfl
 | a, n :: ns => by simp [pre, pre_len]
theorem pre_lt : ∀ (a : Nat) (ns : List Nat), a < 10007 → ∀ x ∈ pre a ns, x < 10007
 | _, [], _, x, h => by cases h
 | a, n :: ns, ha, x, h => by
   rcases List.mem_cons.1 h with rfl | h
   · exact ha
   · exact pre_lt _ ns (Nat.mod_lt _ (by omega)) x h
/-- The numbers of an array of numbers. -/
abbrev vals (t : Tr) : List Nat := t.parts.map (·.n)
/-! ### impl.give's closures -/
theorem rdA_at {ps : List NA} {i : Nat} (h : i < ps.length) : rd_T68 ps (i : Int) = ps[i] := by
 show ps.getD i _ = _
 rw [List.getD_eq_getElem?_getD, List.getElem?_eq_getElem h]
 rfl
theorem list_l0 (ps : List NA) (hp : ps.length ≤ 1000000) (x y : Int) (z : List NA) : ∀ (n i : Nat), ps.length - i = n → i ≤ ps.length → Ev (fun k => impl_give_1.l0 k ((ps.take i).map (·.f0)) ps (ps.length : Int) (i : Int) y z) (ps.map (·.f0), y) := by
 intro n
 induction n with
 | zero =>
   intro i h hi
   refine Ev.step' ?_; simp only [impl_give_1.l0]
   rw [List.take_of_length_le (by omega)]
   exact Ev.neg (by omega) (Ev.now _)
 | succ n ih =>
   intro i h hi
   have hlt : i < ps.length := by omega
   have hnext := ih (i + 1) (by omega) (by omega)
   rw [List.take_succ_eq_append_getElem hlt, List.map_append] at hnext
   refine Ev.step' ?_; simp only [impl_give_1.l0]
   refine Ev.pos (by omega) (Ev.pos (by omega) (Ev.pos (by omega) (Ev.pos (by rw [List.length_map, List.length_take]; omega) ?_)))
   rw [rdA_at hlt, wrapS (by omega) (by omega)]
   exact hnext
theorem list_is (ps : List NA) (hp : ps.length ≤ 1000000) (y : Int) : Ev (fun k => impl_give_1.f k y ps) (ps.map (·.f0), y) := by
 unfold impl_give_1.f
 exact list_l0 ps hp 0 y ps _ 0 rfl (Nat.zero_le _)
theorem flat_l0 (l : List Int) (hl : l.length ≤ 1000000) : ∀ (n i : Nat), l.length - i = n → i ≤ l.length → Ev (fun k => impl_give_2.l0 k l (l.length : Int) (i : Int) 0 ((l.take i).map fun z => (⟨z, []⟩ : NA))) (0, l.map fun z => (⟨z, []⟩ : NA)) := by
 intro n
 induction n with
 | zero =>
   intro i h hi
   refine Ev.step' ?_; simp only [impl_give_2.l0]
   rw [List.take_of_length_le (by omega)]
   exact Ev.neg (by omega) (Ev.now _)
 | succ n ih =>
   intro i h hi
   have hlt : i < l.length := by omega
   have hnext := ih (i + 1) (by omega) (by omega)
   rw [List.take_succ_eq_append_getElem hlt, List.map_append] at hnext
   refine Ev.step' ?_; simp only [impl_give_2.l0]
   refine Ev.pos (by omega) (Ev.pos (by omega) (Ev.pos (by omega) (Ev.pos (by rw [List.length_map, List.length_take]; omega) ?_)))
   rw [rd_at hlt, wrapS (by omega) (by omega)]
   exact hnext
theorem flat_is (l : List Int) (hl : l.length ≤ 1000000) : Ev (fun k => impl_give_2.f k l) (0, l.map fun z => (⟨z, []⟩ : NA)) := by
 unfold impl_give_2.f
 exact flat_l0 l hl _ 0 rfl (Nat.zero_le _)
theorem cA_vals (t : Tr) : ((cA 1 t).f1).map (·.f0) = ints (vals t) := by
 show (t.parts.map (cA 0)).map _ = _
 rw [List.map_map, ints, vals, List.map_map]
 rfl
theorem flat_cA (l : List Nat) : ((ints l).map fun z => (⟨z, []⟩ : NA)) = (cA 1 ⟨0, l.map n0⟩).f1 := by
 show _ = (l.map n0).map (cA 0)
 rw [ints, List.map_map, List.map_map]
 rfl
/-! ### sums, greatest numbers -/
theorem rdN_at {l : List Nat} {i : Nat} (h : i < l.length) : rd (ints l) (i : Int) = (l[i] : Int) := by
 rw [rd_at (by rw [List.length_map]; exact h), List.getElem_map]
theorem totalS_l0 (xs : List Nat) (hs : xs.sum ≤ 1000000000000) (hl : xs.length ≤ 1000000) : ∀ (n i acc : Nat), xs.length - i = n → i ≤ xs.length → acc + (xs.drop i).sum = xs.sum → Ev (fun k => impl_total.l0 k (acc : Int) (ints xs) ((ints xs).length : Int) (i : Int)) ((xs.sum : Nat) : Int) := by
 intro n
 induction n with
 | zero =>
   intro i acc h1 h2 h3
   rw [List.drop_eq_nil_of_le (by omega)] at h3
   refine Ev.step' ?_; simp only [impl_total.l0]
   refine Ev.neg (by rw [List.length_map]; omega) (Ev.val ?_)
   simp at h3
   omega
 | succ n ih =>
   intro i acc h1 h2 h3
   have hi : i < xs.length := by omega
   rw [List.drop_eq_getElem_cons hi, List.sum_cons] at h3
   have hnext := ih (i + 1) (acc + xs[i]) (by omega) (by omega) (by omega)
   refine Ev.step' ?_; simp only [impl_total.l0]
   refine Ev.pos (by rw [List.length_map]; omega) (Ev.pos (by omega) (Ev.pos (by rw [List.length_map]; omega) ?_))
   rw [rdN_at hi, wrapS (by omega) (by omega), wrapS (by omega) (by omega)]
   exact hnext
theorem sum_le : ∀ (ns : List Nat), (∀ x ∈ ns, x < 10007) → ns.sum ≤ 10007 * ns.length
 | [], _ => by simp
 | n :: ns, h => by
   have h1 := sum_le ns (fun x hx => h x (List.mem_cons_of_mem _ hx))
   have h2 := h n (by simp)
   rw [List.sum_cons, List.length_cons]
   omega
theorem tmodN (a b : Nat) : Int.tmod (a : Int) (b : Int) = ((a % b : Nat) : Int) := by
 rw [Int.tmod_eq_emod_of_nonneg (by omega)]
 omega
theorem tmodM (a : Nat) : Int.tmod (a : Int) 10007 = ((a % 10007 : Nat) : Int) := tmodN a 10007
theorem sumA_is (xs : List Nat) (hx : ∀ x ∈ xs, x < 10007) (hl : xs.length ≤ 1000000) : Ev (fun k => impl_sum.f k (ints xs)) ((xs.sum % 10007 : Nat) : Int) := by
 have hs := sum_le xs hx
 unfold impl_sum.f impl_total.f
 exact Ev.bind (totalS_l0 xs (by omega) hl _ 0 0 rfl (Nat.zero_le _) (by simp)) (Ev.val (tmodM _))
theorem fold_max (xs : List Nat) : ∀ a : Nat, (ints xs).foldl max (a : Int) = ((xs.foldl max a : Nat) : Int) := by
 induction xs with
 | nil => intro a; rfl
 | cons x xs ih =>
   intro a
   rw [ints, List.map_cons, List.foldl_cons, List.foldl_cons, show max (a : Int) (x : Int) = ((max a x : Nat) : Int) by omega]
   exact ih _
theorem mostA_is (xs : List Nat) (hl : xs.length ≤ 1000000) : impl_most.f (ints xs) = some ((xs.foldl max 0 : Nat) : Int) := by
 unfold impl_most.f slices_Max_int.f
 have e : Lib.maxOf ([0] ++ ints xs) = ((xs.foldl max 0 : Nat) : Int) := by
   unfold Lib.maxOf
   show (ints xs).foldl max (max 0 0) = _
   exact fold_max xs 0
 show (if ([0] : List Int).length + (ints xs).length < 17592186044416 then _ else _) = _
 rw [if_pos (by simp; omega), if_pos (by simp; omega), if_pos (by simp), e]
 rfl
theorem foldmax_lt (xs : List Nat) : ∀ a : Nat, a < 10007 → (∀ x ∈ xs, x < 10007) → xs.foldl max a < 10007 := by
 induction xs with
 | nil => intro a h _; exact h
 | cons x xs ih =>
   intro a h hx
   have := hx x (by simp)
   exact ih _ (by omega) (fun y hy => hx y (List.mem_cons_of_mem _ hy))
/-! ### impl.give, sign by sign -/
theorem gl0 (m : Nat) (hm : m ≤ 12) : ∀ (n i : Nat), m - i = n → i ≤ m → Ev (fun k => impl_give.l0 k (ints (List.range i)) (m : Int) (i : Int)) (0, (cA 1 ⟨0, (List.range m).map n0⟩).f1) := by
 intro n
 induction n with
 | zero =>
   intro i h hi
   obtain rfl : i = m := by omega
   refine Ev.step' ?_; simp only [impl_give.l0]
   refine Ev.neg (by omega) (Ev.bind (flat_is _ (by rw [List.length_map, List.length_range]; omega)) (Ev.val ?_))
   rw [flat_cA]
 | succ n ih =>
   intro i h hi
   have hnext := ih (i + 1) (by omega) (by omega)
   rw [List.range_succ, ints, List.map_append] at hnext
   refine Ev.step' ?_; simp only [impl_give.l0]
   refine Ev.pos (by omega) (Ev.pos (by rw [List.length_map, List.length_range]; omega) ?_)
   rw [wrapS (by omega) (by omega)]
   exact hnext
theorem gl2 (ns : List Nat) (hns : ∀ x ∈ ns, x < 10007) (hl : ns.length ≤ 1000000) : ∀ (rest done : List Nat) (acc : List Nat) (a : Nat), ns = done ++ rest → a < 10007 → acc.length = done.length →
   Ev (fun k => impl_give.l2 k (ints acc) (a : Int) (ints ns) ((ints ns).length : Int) ((done.length : Nat) : Int)) (0, (cA 1 ⟨0, (acc ++ pre a rest).map n0⟩).f1) := by
 intro rest
 induction rest with
 | nil =>
   intro done acc a h ha hc
   have hd : ns.length = done.length := by rw [h]; simp
   refine Ev.step' ?_; simp only [impl_give.l2]
   refine Ev.neg (by rw [List.length_map]; omega) (Ev.bind (flat_is _ (by rw [List.length_map]; omega)) (Ev.val ?_))
   rw [flat_cA, pre, List.append_nil]
 | cons x rest ih =>
   intro done acc a h ha hc
   have hx : x < 10007 := hns x (by rw [h]; simp)
   have hlen : done.length < ns.length := by rw [h]; simp
   have hat : ns[done.length] = x := by simp [h]
   have hnext := ih (done ++ [x]) (acc ++ [a]) ((a + x) % 10007) (by rw [h]; simp) (Nat.mod_lt _ (by omega)) (by simp [hc])
   rw [List.append_assoc, List.length_append, ints, List.map_append] at hnext
   refine Ev.step' ?_; simp only [impl_give.l2]
   refine Ev.pos (by rw [List.length_map]; omega) (Ev.pos (by omega) (Ev.pos (by rw [List.length_map]; omega) (Ev.pos (by rw [List.length_map]; omega) ?_)))
   rw [rdN_at hlen, hat, wrapS (a := (a : Int) + (x : Int)) (by omega) (by omega), wrapS (by omega) (by omega), show (a : Int) + (x : Int) = ((a + x : Nat) : Int) by omega, tmodM _]
   exact hnext
theorem gl1 {d : Nat} (vs : List Tr) (hl : vs.length ≤ 1000000) (hf : ((vs.map (·.parts)).flatten).length ≤ 1000000) : ∀ (n i : Nat), vs.length - i = n → i ≤ vs.length →
   Ev (fun k => impl_give.l1 k (vs.map (cA (d + 1))) ((vs.map (cA (d + 1))).length : Int) (i : Int) 0 ((((vs.take i).map (·.parts)).flatten).map (cA d))) (0, (((vs.map (·.parts)).flatten).map (cA d))) := by
 intro n
 induction n with
 | zero =>
   intro i h hi
   refine Ev.step' ?_; simp only [impl_give.l1]
   rw [List.take_of_length_le (by omega)]
   exact Ev.neg (by rw [List.length_map]; omega) (Ev.now _)
 | succ n ih =>
   intro i h hi
   have hlt : i < vs.length := by omega
   have hg : rd_T68 (vs.map (cA (d + 1))) (i : Int) = cA (d + 1) vs[i] := getD_map _ _ _ _ hlt
   have hnext := ih (i + 1) (by omega) (by omega)
   have hsn : ((vs.take (i + 1)).map (·.parts)).flatten = ((vs.take i).map (·.parts)).flatten ++ vs[i].parts := by
     rw [take_snoc _ _ hlt, List.map_append, List.flatten_append]
     simp
   have hle : (((vs.take (i + 1)).map (·.parts)).flatten).length ≤ ((vs.map (·.parts)).flatten).length := by
     conv => rhs; rw [← List.take_append_drop (i + 1) vs, List.map_append, List.flatten_append, List.length_append]
     exact Nat.le_add_right _ _
   rw [hsn, List.length_append] at hle
   rw [hsn, List.map_append] at hnext
   refine Ev.step' ?_; simp only [impl_give.l1]
   refine Ev.pos (by rw [List.length_map]; omega) (Ev.pos (by omega) (Ev.pos (by rw [List.length_map]; omega) ?_))
   rw [hg, wrapS (by omega) (by omega)]
   refine Ev.pos ?_ hnext
   show ((((vs.take i).map (·.parts)).flatten).map (cA d)).length + (vs[i].parts.map (cA d)).length < _
   rw [List.length_map, List.length_map]
   omega
theorem tlne {c d : UInt8} (h : c ≠ d) : ¬ (BA [c]).toList = ([d] : List UInt8) := by
 rw [tl_one]
 simpa using h
abbrev giveE (c : UInt8) (xs : List NA) (r : Int × List NA) : Prop := Ev (fun k => impl_give.f k (BA [c]) xs) r
theorem giveS (t : Tr) (h : ∀ x ∈ vals t, x < 10007) (hl : t.parts.length ≤ 1000000) : giveE 83 [cA 1 t] (((vals t).sum % 10007 : Nat), []) := by
 unfold giveE impl_give.f
 refine Ev.pos (by simp) (Ev.pos (tl_one _) (Ev.bind (list_is (cA 1 t).f1 (by show (t.parts.map (cA 0)).length ≤ _; rw [List.length_map]; omega) _) (Ev.bind ?_ (Ev.now _))))
 rw [cA_vals]
 exact sumA_is _ h (by rw [List.length_map]; exact hl)
theorem giveM (t : Tr) (hl : t.parts.length ≤ 1000000) : giveE 77 [cA 1 t] (((vals t).foldl max 0 : Nat), []) := by
 unfold giveE impl_give.f
 refine Ev.pos (by simp) (Ev.neg (tlne (by decide)) (Ev.pos (tl_one _) (Ev.bind (list_is (cA 1 t).f1 (by show (t.parts.map (cA 0)).length ≤ _; rw [List.length_map]; omega) _) ?_)))
 rw [cA_vals]
 exact Ev.call (mostA_is _ (by rw [List.length_map]; exact hl)) (Ev.now _)
theorem giveI (v : Nat) : giveE 73 [cA 0 (n0 v)] (0, (cA 1 ⟨0, (List.range (min v 12)).map n0⟩).f1) := by
 unfold giveE impl_give.f
 refine Ev.pos (by simp) (Ev.neg (tlne (by decide)) (Ev.neg (tlne (by decide)) (Ev.pos (tl_one _) ?_)))
 have e : mn ((rd_T68 [cA 0 (n0 v)] 0).f0) 12 = ((min v 12 : Nat) : Int) := by
   show mn (v : Int) 12 = _
   unfold mn
   split <;> omega
 rw [e]
 exact gl0 _ (by omega) _ 0 rfl (Nat.zero_le _)
theorem giveN (d : Nat) (t : Tr) : giveE 78 [cA (d + 1) t] (((t.parts.length % 10007 : Nat) : Int), []) := by
 unfold giveE impl_give.f
 refine Ev.pos (by simp) (Ev.neg (tlne (by decide)) (Ev.neg (tlne (by decide)) (Ev.neg (tlne (by decide)) (Ev.pos (tl_one _) (Ev.val ?_)))))
 show (((t.parts.map (cA d)).length : Int) % 10007, _) = _
 rw [List.length_map]
 rfl
theorem giveR (d : Nat) (t : Tr) (hl : t.parts.length ≤ 1000000) : giveE 82 [cA (d + 1) t] (0, (cA (d + 1) ⟨0, t.parts.reverse⟩).f1) := by
 unfold giveE impl_give.f
 refine Ev.pos (by simp) (Ev.neg (tlne (by decide)) (Ev.neg (tlne (by decide)) (Ev.neg (tlne (by decide)) (Ev.neg (tlne (by decide)) (Ev.pos (tl_one _) (Ev.call (a := t.parts.map (cA d)) ?_ (Ev.val ?_)))))))
 · show slices_Clone_arr.f (t.parts.map (cA d)) = _
   unfold slices_Clone_arr.f
   rw [if_pos (by rw [List.length_map]; omega)]
 · show (0, (t.parts.map (cA d)).reverse) = (0, t.parts.reverse.map (cA d))
   rw [List.map_reverse]
theorem giveC (d : Nat) (t : Tr) (hl : t.parts.length ≤ 1000000) (hf : ((t.parts.map (·.parts)).flatten).length ≤ 1000000) : giveE 67 [cA (d + 2) t] (0, (cA (d + 1) ⟨0, (t.parts.map (·.parts)).flatten⟩).f1) := by
 unfold giveE impl_give.f
 refine Ev.pos (by simp) (Ev.neg (tlne (by decide)) (Ev.neg (tlne (by decide)) (Ev.neg (tlne (by decide)) (Ev.neg (tlne (by decide)) (Ev.neg (tlne (by decide)) (Ev.pos (tl_one _) ?_))))))
 exact gl1 (d := d) t.parts hl hf _ 0 rfl (Nat.zero_le _)
theorem giveP (t : Tr) (h : ∀ x ∈ vals t, x < 10007) (hl : t.parts.length ≤ 1000000) : giveE 80 [cA 1 t] (0, (cA 1 ⟨0, (pre 0 (vals t)).map n0⟩).f1) := by
 unfold giveE impl_give.f
 refine Ev.pos (by simp) (Ev.neg (tlne (by decide)) (Ev.neg (tlne (by decide)) (Ev.neg (tlne (by decide)) (Ev.neg (tlne (by decide)) (Ev.neg (tlne (by decide)) (Ev.neg (tlne (by decide)) (Ev.pos (tl_one _) (Ev.bind (list_is (cA 1 t).f1 (by show (t.parts.map (cA 0)).length ≤ _; rw [List.length_map]; omega) _) ?_))))))))
 rw [cA_vals]
 have := gl2 (vals t) h (by rw [List.length_map]; exact hl) (vals t) [] [] 0 rfl (by omega) rfl
 exact this
/-- What a sign between two numbers gives. -/
def op2 (c : UInt8) (a b : Nat) : Nat := if c = 43 then (a + b) % 10007 else if c = 42 then a * b % 10007 else if c = 94 then max a b else if c = 45 then a - b else if c = 61 then (if a = b then 1 else 0) else (if a < b then 1 else 0)
theorem give2 (c : UInt8) (a b : Nat) (x y : NA) (hx : x.f0 = a) (hy : y.f0 = b) (ha : a < 10007) (hb : b < 10007) (hc : c = 43 ∨ c = 42 ∨ c = 94 ∨ c = 45 ∨ c = 61 ∨ c = 60) : giveE c [x, y] ((op2 c a b : Nat), []) := by
 have e0 : (rd_T68 [x, y] 0).f0 = (a : Int) := hx
 have e1 : (rd_T68 [x, y] 1).f0 = (b : Int) := hy
 have hab : (a : Int) * (b : Int) ≤ 100140049 := by
   have := Nat.mul_le_mul (Nat.le_of_lt_succ (Nat.lt_succ_of_lt ha)) (Nat.le_of_lt_succ (Nat.lt_succ_of_lt hb))
   have e : (a : Int) * (b : Int) = ((a * b : Nat) : Int) := by push_cast; rfl
   omega
 have hab0 : 0 ≤ (a : Int) * (b : Int) := Int.mul_nonneg (by omega) (by omega)
 unfold giveE impl_give.f
 rw [e0, e1]
 refine Ev.pos (by simp) ?_
 have hne : ∀ z : UInt8, z = 83 ∨ z = 77 ∨ z = 73 ∨ z = 78 ∨ z = 82 ∨ z = 67 ∨ z = 80 → c ≠ z := by
   rintro z hz rfl
   rcases hc with rfl | rfl | rfl | rfl | rfl | rfl <;> simp at hz
 refine Ev.neg (tlne (hne _ (by simp))) (Ev.neg (tlne (hne _ (by simp))) (Ev.neg (tlne (hne _ (by simp))) (Ev.neg (tlne (hne _ (by simp))) (Ev.neg (tlne (hne _ (by simp))) (Ev.neg (tlne (hne _ (by simp))) (Ev.neg (tlne (hne _ (by simp))) (Ev.pos (by simp) ?_)))))))
 rcases hc with rfl | rfl | rfl | rfl | rfl | rfl
 · refine Ev.pos (tl_one _) (Ev.val ?_)
   rw [wrapS (by omega) (by omega), show (a : Int) + (b : Int) = ((a + b : Nat) : Int) by omega, tmodM _]
   rfl
 · refine Ev.neg (tlne (by decide)) (Ev.pos (tl_one _) (Ev.val ?_))
   rw [wrapS (by omega) (by omega), show (a : Int) * (b : Int) = ((a * b : Nat) : Int) by push_cast; rfl, tmodM _]
   rfl
 · refine Ev.neg (tlne (by decide)) (Ev.neg (tlne (by decide)) (Ev.pos (tl_one _) (Ev.val ?_)))
   show (mx (a : Int) (b : Int), _) = (((max a b : Nat) : Int), _)
   congr 1
   unfold mx
   split <;> omega
 · refine Ev.neg (tlne (by decide)) (Ev.neg (tlne (by decide)) (Ev.neg (tlne (by decide)) (Ev.pos (tl_one _) (Ev.val ?_))))
   show (mx 0 (wrap64 ((a : Int) - (b : Int))), _) = (((a - b : Nat) : Int), _)
   rw [wrapS (by omega) (by omega)]
   congr 1
   unfold mx
   split <;> omega
 · refine Ev.neg (tlne (by decide)) (Ev.neg (tlne (by decide)) (Ev.neg (tlne (by decide)) (Ev.neg (tlne (by decide)) (Ev.pos (tl_one _) ?_))))
   by_cases h : a = b
   · refine Ev.call (a := (1, [])) (by subst h; simp [impl_give_3.f]) (Ev.val ?_)
     simp [op2, h]
   · refine Ev.call (a := (0, [])) (by simp [impl_give_3.f, h]; omega) (Ev.val ?_)
     simp [op2, h]
 · refine Ev.neg (tlne (by decide)) (Ev.neg (tlne (by decide)) (Ev.neg (tlne (by decide)) (Ev.neg (tlne (by decide)) (Ev.neg (tlne (by decide)) (Ev.pos (tl_one _) ?_)))))
   by_cases h : a < b
   · refine Ev.call (a := (1, [])) (by simp [impl_give_3.f, h]) (Ev.val ?_)
     simp [op2, h]
   · refine Ev.call (a := (0, [])) (by simp [impl_give_3.f, h]) (Ev.val ?_)
     simp [op2, h]
/-- What '@' gives: a part's number, 0 if there is none. -/
def pickN (t : Tr) (i : Nat) : Nat := (t.parts.map (·.n)).getD i 0
theorem giveAt (t : Tr) (v : Nat) (u : Tr) : giveE 64 [cA 1 t, cA 0 (n0 v)] (((pickN t v : Nat) : Int), []) := by
 have e1 : (rd_T68 [cA 1 t, cA 0 (n0 v)] 1).f0 = (v : Int) := rfl
 have e0 : (rd_T68 [cA 1 t, cA 0 (n0 v)] 0).f1 = t.parts.map (cA 0) := rfl
 unfold giveE impl_give.f
 rw [e0, e1]
 refine Ev.pos (by simp) (Ev.neg (tlne (by decide)) (Ev.neg (tlne (by decide)) (Ev.neg (tlne (by decide)) (Ev.neg (tlne (by decide)) (Ev.neg (tlne (by decide)) (Ev.neg (tlne (by decide)) (Ev.neg (tlne (by decide)) (Ev.pos (by simp) ?_))))))))
 refine Ev.neg (tlne (by decide)) (Ev.neg (tlne (by decide)) (Ev.neg (tlne (by decide)) (Ev.neg (tlne (by decide)) (Ev.neg (tlne (by decide)) (Ev.neg (tlne (by decide)) ?_)))))
 by_cases h : v < t.parts.length
 · have hg : rd_T68 (t.parts.map (cA 0)) (v : Int) = cA 0 t.parts[v] := getD_map _ _ _ _ h
   refine Ev.pos (by rw [List.length_map]; omega) (Ev.pos (by omega) (Ev.val ?_))
   rw [hg]
   simp [pickN, cA, List.getD_eq_getElem?_getD, h]
 · refine Ev.neg (by rw [List.length_map]; omega) (Ev.val ?_)
   simp [pickN, List.getD_eq_getElem?_getD, h]
end Go.Proofs.YtoloblgjlnhioaaGreatDoor.I
namespace Go.Proofs.YtoloblgjlnhioaaGreatDoor.I
open Go.RowKit Go.Proofs.YtoloblgjlnhioaaGreatDoorW.PrintWords Go.Proofs.YtoloblgjlnhioaaGreatDoorW.PrintLast Go.Proofs.YtoloblgjlnhioaaGreatDoorW.PrintMore Go.Proofs.YtoloblgjlnhioaaGreatDoor.Q
set_option linter.unusedSimpArgs false
set_option linter.unusedVariables false

theorem addS (a b : Nat) (ha : a ≤ 1000000000) (hb : b ≤ 1000000000) : spec_l3Add.f (a : Int) (b : Int) = some (((a + b) % 10007 : Nat) : Int) := by
 unfold spec_l3Add.f
 rw [wrapS (by omega) (by omega), show (a : Int) + (b : Int) = ((a + b : Nat) : Int) by omega, tmodM _]
theorem nodeN {vs : List Tr} {i : Nat} (d : Nat) (h : i < vs.length) : rd_T79 (vs.map (cS d)) (i : Int) = cS d vs[i] := getD_map _ _ _ _ h
theorem sl0 (vs : List Tr) (hv : ∀ x ∈ vs.map (·.n), x < 10007) (hl : vs.length ≤ 1000000) (z : List NS) : ∀ (n i acc : Nat), vs.length - i = n → i ≤ vs.length → acc < 10007 →
   Ev (fun k => spec_l6One.l0 k (vs.map (cS 0)) ((vs.map (cS 0)).length : Int) (i : Int) (acc : Int) z) ((((acc + ((vs.drop i).map (·.n)).sum) % 10007 : Nat) : Int), z) := by
 intro n
 induction n with
 | zero =>
   intro i acc h hi ha
   refine Ev.step' ?_; simp only [spec_l6One.l0]
   rw [List.drop_eq_nil_of_le (by omega)]
   refine Ev.neg (by rw [List.length_map]; omega) (Ev.val ?_)
   rw [List.map_nil, List.sum_nil, Nat.add_zero, Nat.mod_eq_of_lt ha]
 | succ n ih =>
   intro i acc h hi ha
   have hlt : i < vs.length := by omega
   have hx : vs[i].n < 10007 := hv _ (List.mem_map.2 ⟨_, List.getElem_mem hlt, rfl⟩)
   have hnext := ih (i + 1) ((acc + vs[i].n) % 10007) (by omega) (by omega) (Nat.mod_lt _ (by omega))
   refine Ev.step' ?_; simp only [spec_l6One.l0]
   refine Ev.pos (by rw [List.length_map]; omega) (Ev.pos (by omega) (Ev.pos (by rw [List.length_map]; omega) ?_))
   rw [nodeN 0 hlt, wrapS (by omega) (by omega)]
   refine Ev.call (addS acc vs[i].n (by omega) (by omega)) (evIs hnext ?_)
   rw [List.drop_eq_getElem_cons hlt, List.map_cons, List.sum_cons]
   congr 2
   omega
theorem sl1 (vs : List Tr) (hl : vs.length ≤ 1000000) (z : List NS) : ∀ (n i acc : Nat), vs.length - i = n → i ≤ vs.length →
   Ev (fun k => spec_l6One.l1 k (vs.map (cS 0)) ((vs.map (cS 0)).length : Int) (i : Int) (acc : Int) z) (((((vs.drop i).map (·.n)).foldl max acc : Nat) : Int), z) := by
 intro n
 induction n with
 | zero =>
   intro i acc h hi
   refine Ev.step' ?_; simp only [spec_l6One.l1]
   rw [List.drop_eq_nil_of_le (by omega)]
   exact Ev.neg (by rw [List.length_map]; omega) (Ev.now _)
 | succ n ih =>
   intro i acc h hi
   have hlt : i < vs.length := by omega
   have hnext := ih (i + 1) (max acc vs[i].n) (by omega) (by omega)
   have e : mx (acc : Int) (vs[i].n : Int) = ((max acc vs[i].n : Nat) : Int) := by
     unfold mx
     split <;> omega
   refine Ev.step' ?_; simp only [spec_l6One.l1]
   refine Ev.pos (by rw [List.length_map]; omega) (Ev.pos (by omega) (Ev.pos (by rw [List.length_map]; omega) ?_))
   rw [nodeN 0 hlt, wrapS (by omega) (by omega), List.drop_eq_getElem_cons hlt, List.map_cons, List.foldl_cons]
   show Ev (fun k => spec_l6One.l1 k _ _ _ (mx (acc : Int) (vs[i].n : Int)) z) _
   rw [e]
   exact hnext
theorem sl2 (m : Nat) (hm : m ≤ 12) : ∀ (n i : Nat), m - i = n → i ≤ m → Ev (fun k => spec_l6One.l2 k (m : Int) (i : Int) 0 (((List.range i).map n0).map (cS 0))) (0, ((List.range m).map n0).map (cS 0)) := by
 intro n
 induction n with
 | zero =>
   intro i h hi
   obtain rfl : i = m := by omega
   refine Ev.step' ?_; simp only [spec_l6One.l2]
   exact Ev.neg (by omega) (Ev.now _)
 | succ n ih =>
   intro i h hi
   have hnext := ih (i + 1) (by omega) (by omega)
   rw [List.range_succ, List.map_append, List.map_append] at hnext
   refine Ev.step' ?_; simp only [spec_l6One.l2]
   refine Ev.pos (by omega) (Ev.pos (by rw [List.length_map, List.length_map, List.length_range]; omega) ?_)
   rw [wrapS (by omega) (by omega)]
   exact hnext
theorem sl3 {d : Nat} (vs : List Tr) (hl : vs.length ≤ 1000000) (v : Int) : ∀ (j : Nat), j ≤ vs.length →
   Ev (fun k => spec_l6One.l3 k ((j : Int) - 1) v (vs.map (cS d)) 0 (((vs.drop j).reverse).map (cS d))) (0, vs.reverse.map (cS d)) := by
 intro j
 induction j with
 | zero =>
   intro hj
   refine Ev.step' ?_; simp only [spec_l6One.l3]
   exact Ev.neg (by omega) (Ev.now _)
 | succ j ih =>
   intro hj
   have hlt : j < vs.length := by omega
   have hnext := ih (by omega)
   rw [List.drop_eq_getElem_cons hlt, List.reverse_cons, List.map_append] at hnext
   have ej : ((j + 1 : Nat) : Int) - 1 = (j : Int) := by omega
   refine Ev.step' ?_; simp only [spec_l6One.l3]
   rw [ej]
   refine Ev.pos (by omega) (Ev.pos (by omega) (Ev.pos (by rw [List.length_map]; omega) (Ev.pos (by rw [List.length_map, List.length_reverse, List.length_drop]; omega) ?_)))
   rw [nodeN d hlt, mkS, wrapS (by omega) (by omega)]
   exact hnext
theorem sl4 {d : Nat} (vs : List Tr) (hl : vs.length ≤ 1000000) (hf : ((vs.map (·.parts)).flatten).length ≤ 1000000) : ∀ (n i : Nat), vs.length - i = n → i ≤ vs.length →
   Ev (fun k => spec_l6One.l4 k (vs.map (cS (d + 1))) ((vs.map (cS (d + 1))).length : Int) (i : Int) 0 ((((vs.take i).map (·.parts)).flatten).map (cS d))) (0, (((vs.map (·.parts)).flatten).map (cS d))) := by
 intro n
 induction n with
 | zero =>
   intro i h hi
   refine Ev.step' ?_; simp only [spec_l6One.l4]
   rw [List.take_of_length_le (by omega)]
   exact Ev.neg (by rw [List.length_map]; omega) (Ev.now _)
 | succ n ih =>
   intro i h hi
   have hlt : i < vs.length := by omega
   have hnext := ih (i + 1) (by omega) (by omega)
   have hsn : ((vs.take (i + 1)).map (·.parts)).flatten = ((vs.take i).map (·.parts)).flatten ++ vs[i].parts := by
     rw [take_snoc _ _ hlt, List.map_append, List.flatten_append]
     simp
   have hle : (((vs.take (i + 1)).map (·.parts)).flatten).length ≤ ((vs.map (·.parts)).flatten).length := by
     conv => rhs; rw [← List.take_append_drop (i + 1) vs, List.map_append, List.flatten_append, List.length_append]
     exact Nat.le_add_right _ _
   rw [hsn, List.length_append] at hle
   rw [hsn, List.map_append] at hnext
   refine Ev.step' ?_; simp only [spec_l6One.l4]
   refine Ev.pos (by rw [List.length_map]; omega) (Ev.pos (by omega) (Ev.pos (by rw [List.length_map]; omega) ?_))
   rw [nodeN (d + 1) hlt, wrapS (by omega) (by omega)]
   refine Ev.pos ?_ hnext
   show ((((vs.take i).map (·.parts)).flatten).map (cS d)).length + (vs[i].parts.map (cS d)).length < _
   rw [List.length_map, List.length_map]
   omega
theorem sl5 (vs : List Tr) (hv : ∀ x ∈ vs.map (·.n), x < 10007) (hl : vs.length ≤ 1000000) : ∀ (rest done : List Tr) (acc : List Nat) (a : Nat), vs = done ++ rest → a < 10007 → acc.length = done.length →
   Ev (fun k => spec_l6One.l5 k (a : Int) (vs.map (cS 0)) ((vs.map (cS 0)).length : Int) ((done.length : Nat) : Int) 0 ((acc.map n0).map (cS 0))) (0, (((acc ++ pre a (rest.map (·.n))).map n0).map (cS 0))) := by
 intro rest
 induction rest with
 | nil =>
   intro done acc a h ha hc
   have hd : vs.length = done.length := by rw [h]; simp
   refine Ev.step' ?_; simp only [spec_l6One.l5]
   refine Ev.neg (by rw [List.length_map]; omega) (Ev.val ?_)
   rw [List.map_nil, pre, List.append_nil]
 | cons x rest ih =>
   intro done acc a h ha hc
   have hx : x.n < 10007 := hv _ (List.mem_map.2 ⟨x, by rw [h]; simp, rfl⟩)
   have hlen : done.length < vs.length := by rw [h]; simp
   have hat : vs[done.length] = x := by simp [h]
   have hnext := ih (done ++ [x]) (acc ++ [a]) ((a + x.n) % 10007) (by rw [h]; simp) (Nat.mod_lt _ (by omega)) (by simp [hc])
   rw [List.append_assoc, List.length_append, List.map_append, List.map_append] at hnext
   refine Ev.step' ?_; simp only [spec_l6One.l5]
   refine Ev.pos (by rw [List.length_map]; omega) (Ev.pos (by omega) (Ev.pos (by rw [List.length_map]; omega) (Ev.pos (by rw [List.length_map, List.length_map]; omega) ?_)))
   rw [nodeN 0 hlen, hat, wrapS (by omega) (by omega)]
   exact Ev.call (addS a x.n (by omega) (by omega)) hnext
abbrev oneE (c : UInt8) (x : NS) (r : Int × List NS) : Prop := Ev (fun k => spec_l6One.f k (c.toNat : Int) x.f0 x.f1) r
theorem oneS (t : Tr) (h : ∀ x ∈ vals t, x < 10007) (hl : t.parts.length ≤ 1000000) : oneE 83 (cS 1 t) (((vals t).sum % 10007 : Nat), []) := by
 unfold oneE spec_l6One.f
 refine Ev.call rfl (Ev.pos rfl ?_)
 have := sl0 t.parts h hl [] _ 0 0 rfl (Nat.zero_le _) (by omega)
 rw [List.drop_zero, Nat.zero_add] at this
 exact this
theorem oneM (t : Tr) (hl : t.parts.length ≤ 1000000) : oneE 77 (cS 1 t) (((vals t).foldl max 0 : Nat), []) := by
 unfold oneE spec_l6One.f
 refine Ev.call rfl (Ev.neg (by decide) (Ev.pos rfl ?_))
 exact sl1 t.parts hl [] _ 0 0 rfl (Nat.zero_le _)
theorem oneI (v : Nat) : oneE 73 (cS 0 (n0 v)) (0, (cS 1 ⟨0, (List.range (min v 12)).map n0⟩).f1) := by
 unfold oneE spec_l6One.f
 have e : mn ((cS 0 (n0 v)).f0) 12 = ((min v 12 : Nat) : Int) := by
   show mn (v : Int) 12 = _
   unfold mn
   split <;> omega
 rw [e]
 exact Ev.call rfl (Ev.neg (by decide) (Ev.neg (by decide) (Ev.pos rfl (sl2 _ (by omega) _ 0 rfl (Nat.zero_le _)))))
theorem oneN (d : Nat) (t : Tr) : oneE 78 (cS (d + 1) t) (((t.parts.length % 10007 : Nat) : Int), []) := by
 unfold oneE spec_l6One.f
 refine Ev.call rfl (Ev.neg (by decide) (Ev.neg (by decide) (Ev.neg (by decide) (Ev.pos rfl (Ev.val ?_)))))
 show (((t.parts.map (cS d)).length : Int) % 10007, _) = _
 rw [List.length_map]
 rfl
theorem oneR (d : Nat) (t : Tr) (hl : t.parts.length ≤ 1000000) : oneE 82 (cS (d + 1) t) (0, (cS (d + 1) ⟨0, t.parts.reverse⟩).f1) := by
 unfold oneE spec_l6One.f
 refine Ev.call rfl (Ev.neg (by decide) (Ev.neg (by decide) (Ev.neg (by decide) (Ev.neg (by decide) (Ev.pos rfl ?_)))))
 have h0 := sl3 (d := d) t.parts hl (cS (d + 1) t).f0 t.parts.length (Nat.le_refl _)
 rw [List.drop_length] at h0
 have e : wrap64 ((((cS (d + 1) t).f1).length : Int) - 1) = (t.parts.length : Int) - 1 := by
   show wrap64 (((t.parts.map (cS d)).length : Int) - 1) = _
   rw [List.length_map, wrapS (by omega) (by omega)]
 rw [e]
 exact h0
theorem oneC (d : Nat) (t : Tr) (hl : t.parts.length ≤ 1000000) (hf : ((t.parts.map (·.parts)).flatten).length ≤ 1000000) : oneE 67 (cS (d + 2) t) (0, (cS (d + 1) ⟨0, (t.parts.map (·.parts)).flatten⟩).f1) := by
 unfold oneE spec_l6One.f
 refine Ev.call rfl (Ev.neg (by decide) (Ev.neg (by decide) (Ev.neg (by decide) (Ev.neg (by decide) (Ev.neg (by decide) (Ev.pos rfl ?_))))))
 exact sl4 (d := d) t.parts hl hf _ 0 rfl (Nat.zero_le _)
theorem oneP (t : Tr) (h : ∀ x ∈ vals t, x < 10007) (hl : t.parts.length ≤ 1000000) : oneE 80 (cS 1 t) (0, (cS 1 ⟨0, (pre 0 (vals t)).map n0⟩).f1) := by
 unfold oneE spec_l6One.f
 refine Ev.call rfl (Ev.neg (by decide) (Ev.neg (by decide) (Ev.neg (by decide) (Ev.neg (by decide) (Ev.neg (by decide) (Ev.neg (by decide) (Ev.pos rfl ?_)))))))
 exact sl5 t.parts h hl t.parts [] [] 0 rfl (by omega) rfl
theorem num2 (c : UInt8) (a b : Nat) (ha : a < 10007) (hb : b < 10007) (hc : c = 43 ∨ c = 42 ∨ c = 94 ∨ c = 45 ∨ c = 61 ∨ c = 60) : spec_l6Number.f (c.toNat : Int) (a : Int) (b : Int) = some ((op2 c a b : Nat) : Int) := by
 have hab : (a : Int) * (b : Int) ≤ 100140049 := by
   have := Nat.mul_le_mul (Nat.le_of_lt_succ (Nat.lt_succ_of_lt ha)) (Nat.le_of_lt_succ (Nat.lt_succ_of_lt hb))
   have e : (a : Int) * (b : Int) = ((a * b : Nat) : Int) := by push_cast; rfl
   omega
 have hab0 : 0 ≤ (a : Int) * (b : Int) := Int.mul_nonneg (by omega) (by omega)
 unfold spec_l6Number.f
 rcases hc with rfl | rfl | rfl | rfl | rfl | rfl
 · rw [if_pos (by decide), addS a b (by omega) (by omega)]
   rfl
 · rw [if_neg (by decide), if_pos (by decide), wrapS (by omega) (by omega), show (a : Int) * (b : Int) = ((a * b : Nat) : Int) by push_cast; rfl, tmodM _]
   rfl
 · rw [if_neg (by decide), if_neg (by decide), if_pos (by decide)]
   show some (mx (a : Int) (b : Int)) = some ((max a b : Nat) : Int)
   congr 1
   unfold mx
   split <;> omega
 · rw [if_neg (by decide), if_neg (by decide), if_neg (by decide), if_pos (by decide)]
   show some (mx (wrap64 ((a : Int) - (b : Int))) 0) = some ((a - b : Nat) : Int)
   rw [wrapS (by omega) (by omega)]
   congr 1
   unfold mx
   split <;> omega
 · rw [if_neg (by decide), if_neg (by decide), if_neg (by decide), if_neg (by decide), if_pos (by decide)]
   by_cases h : a = b
   · subst h
     simp [spec_l6Truth.f, op2]
   · have : ((a : Int) == (b : Int)) = false := by simpa using fun e : (a : Int) = b => h (by omega)
     simp [spec_l6Truth.f, op2, this, h]
 · rw [if_neg (by decide), if_neg (by decide), if_neg (by decide), if_neg (by decide), if_neg (by decide)]
   by_cases h : a < b
   · simp [spec_l6Truth.f, op2, h]
   · simp [spec_l6Truth.f, op2, h]
theorem two2 (c : UInt8) (a b : Nat) (ps qs : List NS) (ha : a < 10007) (hb : b < 10007) (hc : c = 43 ∨ c = 42 ∨ c = 94 ∨ c = 45 ∨ c = 61 ∨ c = 60) : spec_l6Two.f (c.toNat : Int) (a : Int) ps (b : Int) qs = some (((op2 c a b : Nat) : Int), []) := by
 have hne : ¬ (c.toNat : Int) = 64 := by
   rcases hc with rfl | rfl | rfl | rfl | rfl | rfl <;> decide
 unfold spec_l6Two.f
 rw [Option.bind_some, if_neg hne, num2 c a b ha hb hc]
 rfl
theorem twoAt (t : Tr) (v : Nat) (qs : List NS) : spec_l6Two.f ((64 : UInt8).toNat : Int) (cS 1 t).f0 (cS 1 t).f1 (v : Int) qs = some (((pickN t v : Nat) : Int), []) := by
 unfold spec_l6Two.f
 rw [Option.bind_some, if_pos (by decide)]
 by_cases h : v < t.parts.length
 · have hg : rd_T79 (t.parts.map (cS 0)) (v : Int) = cS 0 t.parts[v] := getD_map _ _ _ _ h
   rw [if_pos (by show (v : Int) < ((t.parts.map (cS 0)).length : Int); rw [List.length_map]; omega), if_pos (by omega)]
   show some ((rd_T79 (t.parts.map (cS 0)) (v : Int)).f0, _) = _
   rw [hg]
   simp [pickN, cS, List.getD_eq_getElem?_getD, h]
 · rw [if_neg (by show ¬ (v : Int) < ((t.parts.map (cS 0)).length : Int); rw [List.length_map]; omega)]
   simp [pickN, List.getD_eq_getElem?_getD, h]
end Go.Proofs.YtoloblgjlnhioaaGreatDoor.I
namespace Go.Proofs.YtoloblgjlnhioaaGreatDoor.I
open Go.RowKit Go.Proofs.YtoloblgjlnhioaaGreatDoorW.PrintWords Go.Proofs.YtoloblgjlnhioaaGreatDoorW.PrintLast Go.Proofs.YtoloblgjlnhioaaGreatDoorW.PrintMore Go.Proofs.YtoloblgjlnhioaaGreatDoor.Q
set_option linter.unusedSimpArgs false
set_option linter.unusedVariables false
def TextS (d : Nat) : Prop := ∀ t, Sh d t → nodes d t ≤ 1000000000 → Ev (fun k => spec_l1Text.f k (cS d t).f0 (cS d t).f1 (d : Int)) (BA (text d t))
theorem textS_l0 (d : Nat) (hd : d ≤ 1000) (ih : TextS d) (t : Tr) (hs : Sh (d + 1) t) (hn : nodes (d + 1) t ≤ 1000000000) :
   ∀ (n i : Nat), t.parts.length - i = n → i ≤ t.parts.length → Ev (fun k => spec_l1Text.l0 k ((d + 1 : Nat) : Int) (BA (91 :: Lib.join ((t.parts.take i).map (text d)) [44])) (t.parts.map (cS d)) ((t.parts.map (cS d)).length : Int) (i : Int)) (BA (text (d + 1) t)) := by
 have hpl := parts_len d t
 have htl := text_le (d + 1) t hs
 have hte : (text (d + 1) t).length = (Lib.join (t.parts.map (text d)) [44]).length + 2 := by simp [text]
 intro n
 induction n with
 | zero =>
   intro i h hi
   refine Ev.step' ?_; simp only [spec_l1Text.l0]
   rw [List.take_of_length_le (by omega)]
   refine Ev.neg (by rw [List.length_map]; omega) (Ev.pos (by simp; omega) (Ev.val ?_))
   show BA _ ++ BA [93] = _
   rw [BA_append]
   rfl
 | succ n ihn =>
   intro i h hi
   have hlt : i < t.parts.length := by omega
   have hjl := join_take_le (text d) t.parts i hi
   have hjl2 := join_take_le (text d) t.parts (i + 1) (by omega)
   have hm : t.parts[i] ∈ t.parts := List.getElem_mem hlt
   have hx := ih t.parts[i] (hs _ hm) (by have := nodes_part (d := d) hm; omega)
   have hg : rd_T79 (t.parts.map (cS d)) (i : Int) = cS d t.parts[i] := getD_map _ _ _ _ hlt
   refine Ev.step' ?_; simp only [spec_l1Text.l0]
   refine Ev.pos (by rw [List.length_map]; omega) (Ev.pos (by omega) (Ev.pos (by rw [List.length_map]; omega) ?_))
   rw [hg, show wrap64 (((d + 1 : Nat) : Int) - 1) = (d : Int) by rw [wrapS (by omega) (by omega)]; omega, wrapS (a := (i : Int) + 1) (by omega) (by omega)]
   have hnext := ihn (i + 1) (by omega) (by omega)
   rcases Nat.eq_zero_or_pos i with rfl | h0
   · refine Ev.neg (by simp) (Ev.bind hx ?_)
     rw [take_snoc _ 0 hlt] at hnext hjl2
     simp only [List.take_zero, List.nil_append, List.map_cons, List.map_nil, join_one] at hnext hjl2
     refine Ev.pos (by simp [Lib.join_nil]; omega) ?_
     rw [BA_append]
     exact hnext
   · rw [join_take _ _ _ hlt h0] at hnext hjl2
     rw [List.length_append, List.length_cons] at hjl2
     refine Ev.pos (by omega) (Ev.pos (by simp only [BA_size, List.length_cons]; omega) (Ev.bind hx (Ev.pos (by simp only [BA_size, List.length_cons]; omega) ?_)))
     have e : BA (91 :: Lib.join ((t.parts.take i).map (text d)) [44]) ++ (⟨#[44]⟩ : ByteArray) ++ BA (text d t.parts[i]) = BA (91 :: (Lib.join ((t.parts.take i).map (text d)) [44] ++ 44 :: text d t.parts[i])) := by
       show BA _ ++ BA [44] ++ BA _ = _
       rw [BA_append, BA_append]
       simp
     rw [e]
     exact hnext
theorem textS_is : ∀ d, d ≤ 1000 → TextS d
 | 0, _ => by
   intro t hs hn
   refine Ev.step' ?_; simp only [spec_l1Text.f]
   have h9 : t.n < 1000000000 := hs
   refine Ev.pos (by first | trivial | rfl) (Ev.bind (l13Dec_is t.n (by omega)) (Ev.val rfl))
 | d + 1, hd => by
   intro t hs hn
   refine Ev.step' ?_; simp only [spec_l1Text.f]
   exact Ev.neg (by omega) (textS_l0 d (by omega) (textS_is d (by omega)) t hs hn _ 0 rfl (by omega))

end Go.Proofs.YtoloblgjlnhioaaGreatDoor.I
namespace Go.Proofs.YtoloblgjlnhioaaGreatDoor.I
open Go.RowKit Go.Proofs.YtoloblgjlnhioaaGreatDoorW.PrintWords Go.Proofs.YtoloblgjlnhioaaGreatDoorW.PrintLast Go.Proofs.YtoloblgjlnhioaaGreatDoorW.PrintMore Go.Proofs.YtoloblgjlnhioaaGreatDoor.Q
set_option linter.unusedSimpArgs false
set_option linter.unusedVariables false

theorem toldS_is (d : Nat) (hd : d ≤ 1000) (t : Tr) (hs : Sh d t) (hn : nodes d t ≤ 1000000000) : Ev (fun k => spec_l1Told.f k (cS d t).f0 (cS d t).f1 (d : Int)) (told (text d t)) := by
 unfold spec_l1Told.f told
 refine Ev.bind (textS_is d hd t hs hn) ?_
 by_cases h : (text d t).length ≤ 400
 · rw [if_pos h]
   exact Ev.neg (by rw [BA_size]; omega) (Ev.now _)
 · rw [if_neg h]
   exact Ev.pos (by rw [BA_size]; omega) (Ev.now _)
end Go.Proofs.YtoloblgjlnhioaaGreatDoor.I
namespace Go.Proofs.YtoloblgjlnhioaaGreatDoor.I
open Go.RowKit Go.Proofs.YtoloblgjlnhioaaGreatDoorW.PrintWords Go.Proofs.YtoloblgjlnhioaaGreatDoorW.PrintLast Go.Proofs.YtoloblgjlnhioaaGreatDoorW.PrintMore Go.Proofs.YtoloblgjlnhioaaGreatDoor.Q
set_option linter.unusedSimpArgs false
set_option linter.unusedVariables false

theorem shortA_is (d : Nat) (hd : d ≤ 1000) (t : Tr) (hs : Sh d t) (hn : nodes d t ≤ 1000000000) : Ev (fun k => impl_arr_short.f k (cA d t).f0 (cA d t).f1 (d : Int)) (told (text d t)) := by
 unfold impl_arr_short.f told
 refine Ev.bind (textA_is d hd t hs hn) ?_
 by_cases h : (text d t).length ≤ 400
 · rw [if_pos h]
   exact Ev.neg (by rw [BA_size]; omega) (Ev.now _)
 · rw [if_neg h]
   exact Ev.pos (by rw [BA_size]; omega) (Ev.now _)
end Go.Proofs.YtoloblgjlnhioaaGreatDoor.I
namespace Go.Proofs.YtoloblgjlnhioaaGreatDoor.I
open Go.RowKit Go.Proofs.YtoloblgjlnhioaaGreatDoorW.PrintWords Go.Proofs.YtoloblgjlnhioaaGreatDoorW.PrintLast Go.Proofs.YtoloblgjlnhioaaGreatDoorW.PrintMore Go.Proofs.YtoloblgjlnhioaaGreatDoor.Q
set_option linter.unusedSimpArgs false
set_option linter.unusedVariables false

theorem sumRev : ∀ (l : List Nat), l.reverse.sum = l.sum
 | [] => rfl
 | x :: l => by rw [List.reverse_cons, List.sum_append, sumRev l, List.sum_cons]; simp; omega
theorem sumOnes : ∀ (l : List Nat), ((l.map n0).map (nodes 0)).sum = l.length
 | [] => rfl
 | x :: l => by
   have := sumOnes l
   rw [List.map_cons, List.map_cons, List.sum_cons, this, List.length_cons]
   show 1 + _ = _
   omega
theorem nodesFl (d : Nat) : ∀ (vs : List Tr), (((vs.map (·.parts)).flatten).map (nodes d)).sum ≤ (vs.map (nodes (d + 1))).sum
 | [] => Nat.le_refl _
 | x :: vs => by
   have := nodesFl d vs
   rw [List.map_cons, List.flatten_cons, List.map_append, List.sum_append, List.map_cons, List.sum_cons]
   have e : nodes (d + 1) x = 1 + (x.parts.map (nodes d)).sum := rfl
   omega
/-- What is known of an array that was read. -/
theorem read_facts {d : Nat} {l : By} {t : Tr} (h : readD d l = some t) : Ok d t ∧ nodes d t ≤ 400 := by
 obtain ⟨h1, h2, h3⟩ := readD_ok h
 have := nodes_le_text d t
 rw [← h1] at this
 exact ⟨h2, by omega⟩
theorem vals_lt {t : Tr} (h : Ok 1 t) : ∀ x ∈ vals t, x < 10007 := by
 intro x hx
 obtain ⟨y, hy, rfl⟩ := List.mem_map.1 hx
 exact (h.2 y hy).1
theorem shN {v : Nat} (h : v < 10007) : Sh 0 (n0 v) := by show v < 1000000000; omega
theorem sg1_mem {c : UInt8} {d : Int} (h : ¬ sg1 c d < 0) : c ∈ ([83, 77, 73, 78, 82, 67, 80] : By) := by
 unfold sg1 at h
 by_cases h1 : c = 83
 · simp [h1]
 by_cases h2 : c = 77
 · simp [h2]
 by_cases h3 : c = 78
 · simp [h3]
 by_cases h4 : c = 73
 · simp [h4]
 by_cases h5 : c = 80
 · simp [h5]
 by_cases h6 : c = 82
 · simp [h6]
 by_cases h7 : c = 67
 · simp [h7]
 simp [h1, h2, h3, h4, h5, h6, h7] at h
/-- What a sign with one part gives, told by both. -/
theorem one_gives {c : UInt8} {d : Nat} {l : By} {t : Tr} (h : readD d l = some t) (hg : ¬ sg1 c (d : Int) < 0) :
   ∃ (e : Nat) (u : Tr), sg1 c (d : Int) = (e : Int) ∧ e ≤ d + 1 ∧ Sh e u ∧ nodes e u ≤ 1000000000 ∧ giveE c [cA d t] ((cA e u).f0, (cA e u).f1) ∧ oneE c (cS d t) ((cS e u).f0, (cS e u).f1) := by
 obtain ⟨hok, hn⟩ := read_facts h
 have hm := sg1_mem hg
 simp only [List.mem_cons, List.not_mem_nil, or_false] at hm
 rcases hm with rfl | rfl | rfl | rfl | rfl | rfl | rfl
 · -- S
   have hd : d = 1 := by
     by_cases h1 : d = 1
     · exact h1
     · exfalso
       have h2 : ¬ (d : Int) = 1 := by omega
       simp [sg1, h1, h2] at hg
   subst hd
   have hp : t.parts.length + 1 ≤ nodes 1 t := parts_len 0 t
   have hv : (vals t).sum % 10007 < 10007 := Nat.mod_lt _ (by omega)
   exact ⟨0, n0 ((vals t).sum % 10007), rfl, by omega, shN hv, by show 1 ≤ _; omega, giveS t (vals_lt hok) (by omega), oneS t (vals_lt hok) (by omega)⟩
 · -- M
   have hd : d = 1 := by
     by_cases h1 : d = 1
     · exact h1
     · exfalso
       have h2 : ¬ (d : Int) = 1 := by omega
       simp [sg1, h1, h2] at hg
   subst hd
   have hp : t.parts.length + 1 ≤ nodes 1 t := parts_len 0 t
   exact ⟨0, n0 ((vals t).foldl max 0), rfl, by omega, shN (foldmax_lt _ _ (by omega) (vals_lt hok)), by show 1 ≤ _; omega, giveM t (by omega), oneM t (by omega)⟩
 · -- I
   have hd : d = 0 := by
     by_cases h1 : d = 0
     · exact h1
     · exfalso
       have h2 : ¬ (d : Int) = 0 := by omega
       simp [sg1, h1, h2] at hg
   subst hd
   obtain ⟨v, ps⟩ := t
   obtain ⟨h1, h2⟩ := hok
   simp only at h1 h2
   subst h2
   refine ⟨1, ⟨0, (List.range (min v 12)).map n0⟩, rfl, by omega, ?_, ?_, giveI v, oneI v⟩
   · intro x hx
     obtain ⟨y, hy, rfl⟩ := List.mem_map.1 hx
     rw [List.mem_range] at hy
     exact shN (by omega)
   · show 1 + (((List.range (min v 12)).map n0).map (nodes 0)).sum ≤ _
     rw [sumOnes, List.length_range]
     omega
 · -- N
   obtain ⟨d, rfl⟩ : ∃ d', d = d' + 1 := by
     cases d with
     | zero => simp [sg1] at hg
     | succ d => exact ⟨d, rfl⟩
   have e : sg1 78 ((d + 1 : Nat) : Int) = 0 := by
     simp [sg1]
     omega
   exact ⟨0, n0 (t.parts.length % 10007), e, by omega, shN (Nat.mod_lt _ (by omega)), by show 1 ≤ _; omega, giveN d t, oneN d t⟩
 · -- R
   obtain ⟨d, rfl⟩ : ∃ d', d = d' + 1 := by
     cases d with
     | zero => simp [sg1] at hg
     | succ d => exact ⟨d, rfl⟩
   have e : sg1 82 ((d + 1 : Nat) : Int) = ((d + 1 : Nat) : Int) := by
     simp [sg1]
     omega
   have hp := parts_len d t
   refine ⟨d + 1, ⟨0, t.parts.reverse⟩, e, by omega, fun x hx => Sh.of (hok.2 x (List.mem_reverse.1 hx)), ?_, giveR d t (by omega), oneR d t (by omega)⟩
   show 1 + (t.parts.reverse.map (nodes d)).sum ≤ _
   rw [List.map_reverse, sumRev]
   have : nodes (d + 1) t = 1 + (t.parts.map (nodes d)).sum := rfl
   omega
 · -- C
   obtain ⟨d, rfl⟩ : ∃ d', d = d' + 2 := by
     cases d with
     | zero => simp [sg1] at hg
     | succ d =>
       cases d with
       | zero => simp [sg1] at hg
       | succ d => exact ⟨d, rfl⟩
   have e : sg1 67 ((d + 2 : Nat) : Int) = ((d + 1 : Nat) : Int) := by
     simp [sg1]
     rw [if_pos (by omega)]
     omega
   have hp : t.parts.length + 1 ≤ nodes (d + 2) t := parts_len (d + 1) t
   have hfl := nodesFl d t.parts
   have hnt : nodes (d + 2) t = 1 + (t.parts.map (nodes (d + 1))).sum := rfl
   have hnu : nodes (d + 1) ⟨0, (t.parts.map (·.parts)).flatten⟩ = 1 + (((t.parts.map (·.parts)).flatten).map (nodes d)).sum := rfl
   have hpu := parts_len d ⟨0, (t.parts.map (·.parts)).flatten⟩
   simp only at hpu
   refine ⟨d + 1, ⟨0, (t.parts.map (fun x : Tr => x.parts)).flatten⟩, e, by omega, fun x hx => ?_, by omega, giveC d t (by omega) (by omega), oneC d t (by omega) (by omega)⟩
   obtain ⟨q, hq, hxq⟩ := List.mem_flatten.1 hx
   obtain ⟨y, hy, rfl⟩ := List.mem_map.1 hq
   exact Sh.of ((hok.2 y hy).2 x hxq)
 · -- P
   have hd : d = 1 := by
     by_cases h1 : d = 1
     · exact h1
     · exfalso
       have h2 : ¬ (d : Int) = 1 := by omega
       simp [sg1, h1, h2] at hg
   subst hd
   have hp : t.parts.length + 1 ≤ nodes 1 t := parts_len 0 t
   refine ⟨1, ⟨0, (pre 0 (vals t)).map n0⟩, rfl, by omega, fun x hx => ?_, ?_, giveP t (vals_lt hok) (by omega), oneP t (vals_lt hok) (by omega)⟩
   · obtain ⟨y, hy, rfl⟩ := List.mem_map.1 hx
     exact shN (pre_lt 0 _ (by omega) y hy)
   · show 1 + (((pre 0 (vals t)).map n0).map (nodes 0)).sum ≤ _
     rw [sumOnes, pre_len, List.length_map]
     omega
theorem op2_lt (c : UInt8) (a b : Nat) (ha : a < 10007) (hb : b < 10007) : op2 c a b < 10007 := by
 unfold op2
 split
 · exact Nat.mod_lt _ (by omega)
 split
 · exact Nat.mod_lt _ (by omega)
 split
 · omega
 split
 · omega
 split
 · split <;> omega
 · split <;> omega
theorem pick_lt {t : Tr} (h : Ok 1 t) (i : Nat) : pickN t i < 10007 := by
 unfold pickN
 rw [List.getD_eq_getElem?_getD]
 cases hi : (t.parts.map (·.n))[i]? with
 | none => show 0 < _; omega
 | some v => exact vals_lt h v (List.mem_of_getElem? hi)
/-- .. with two parts. -/
theorem two_gives {c : UInt8} {d : Nat} {l l2 : By} {t t2 : Tr} (h : readD d l = some t) (h2 : readD 0 l2 = some t2) (hg : ¬ sg2 c (d : Int) < 0) :
   ∃ v, v < 10007 ∧ giveE c [cA d t, cA 0 t2] ((v : Nat), []) ∧ spec_l6Two.f (c.toNat : Int) (cS d t).f0 (cS d t).f1 (cS 0 t2).f0 (cS 0 t2).f1 = some (((v : Nat) : Int), []) ∧ c ∈ ([43, 42, 94, 45, 61, 60, 64] : By) ∧ (if c = 64 then (if (d : Int) = 1 then (0 : Int) else -1) else if (d : Int) = 0 then 0 else -1) = 0 := by
 obtain ⟨hok, hn⟩ := read_facts h
 obtain ⟨hok2, hn2⟩ := read_facts h2
 obtain ⟨v2, ps2⟩ := t2
 obtain ⟨q1, q2⟩ := hok2
 simp only at q1 q2
 subst q2
 unfold sg2 at hg
 split at hg
 · next hc =>
   rcases hc with ⟨hc, hd⟩ | ⟨rfl, hd⟩
   · have hd0 : d = 0 := by omega
     subst hd0
     have hne : c ≠ 64 := by rintro rfl; simp at hc
     refine ⟨op2 c t.n v2, op2_lt c _ _ hok.1 q1, give2 c t.n v2 _ _ rfl rfl hok.1 q1 hc, two2 c t.n v2 _ _ hok.1 q1 hc, ?_, ?_⟩
     · rcases hc with rfl | rfl | rfl | rfl | rfl | rfl <;> simp
     · rw [if_neg hne]
       rfl
   · have hd1 : d = 1 := by omega
     subst hd1
     exact ⟨pickN t v2, pick_lt hok v2, giveAt t v2 t, twoAt t v2 _, by simp, by simp⟩
 · exact absurd (by decide) hg
/-! ### reading -/
def rdZ (dp : Int) (l : By) : Option Tr := if 0 ≤ dp ∧ dp ≤ 3 then readD dp.toNat l else none
theorem rdZ_nat {d : Nat} (hd : d ≤ 3) (l : By) : rdZ (d : Int) l = readD d l := by
 unfold rdZ
 rw [if_pos (by omega), Int.toNat_natCast]
theorem arrZ_none {dp : Int} {l : By} (h : rdZ dp l = none) : ∃ f0 f1, Ev (fun k => impl_arrOf.f k (BA l) dp) (f0, f1, false) := by
 by_cases hd : 0 ≤ dp ∧ dp ≤ 3
 · obtain ⟨d, rfl⟩ : ∃ d : Nat, dp = (d : Int) := ⟨dp.toNat, by omega⟩
   rw [rdZ_nat (by omega)] at h
   obtain ⟨t, h1, _⟩ := arrOf_is d (by omega) l
   rw [h] at h1
   exact ⟨_, _, h1⟩
 · exact ⟨_, _, arrOf_out dp (by omega) _⟩
theorem readZ_none {dp : Int} {l : By} (h : rdZ dp l = none) : Ev (fun k => spec_l1Read.f k (BA l) dp) (0, [], false) := by
 by_cases hd : 0 ≤ dp ∧ dp ≤ 3
 · obtain ⟨d, rfl⟩ : ∃ d : Nat, dp = (d : Int) := ⟨dp.toNat, by omega⟩
   rw [rdZ_nat (by omega)] at h
   have := l1Read_is d (by omega) l
   rw [h] at this
   exact this
 · exact l1Read_out dp (by omega) _
theorem rdZ_some {dp : Int} {l : By} {t : Tr} (h : rdZ dp l = some t) : ∃ d : Nat, dp = (d : Int) ∧ d ≤ 3 ∧ readD d l = some t := by
 unfold rdZ at h
 split at h
 · next hd => exact ⟨dp.toNat, by omega, by omega, h⟩
 · cases h
theorem arrZ {d : Nat} (hd : d ≤ 3) {l : By} {t : Tr} (h : readD d l = some t) : Ev (fun k => impl_arrOf.f k (BA l) (d : Int)) ((cA d t).f0, (cA d t).f1, true) := by
 obtain ⟨t', h1, _, _, h2⟩ := arrOf_is d hd l
 obtain rfl := h2 t h
 rw [h] at h1
 exact h1
theorem readZ {d : Nat} (hd : d ≤ 3) {l : By} {t : Tr} (h : readD d l = some t) : Ev (fun k => spec_l1Read.f k (BA l) (d : Int)) ((cS d t).f0, (cS d t).f1, true) := by
 have := l1Read_is d hd l
 rw [h] at this
 exact this
theorem arr_any (dp : Int) (l : By) : ∃ f0 f1 b, Ev (fun k => impl_arrOf.f k (BA l) dp) (f0, f1, b) := by
 cases h : rdZ dp l with
 | none =>
   obtain ⟨f0, f1, h1⟩ := arrZ_none h
   exact ⟨f0, f1, false, h1⟩
 | some t =>
   obtain ⟨d, rfl, hd, h1⟩ := rdZ_some h
   exact ⟨_, _, true, arrZ hd h1⟩
/-! ### what is refused -/
abbrev bad : ByteArray × Bool := (BA [], false)
theorem j1_bad (s : ByteArray) (x8 : List NA) (g : Int) : Ev (fun k => impl_ApplySign.j1 k s x8 g true) bad := by
 refine Ev.step' ?_; simp only [impl_ApplySign.j1]
 exact Ev.pos (by first | trivial | rfl) (Ev.now _)
theorem rdBA {ts : List By} {i : Nat} (h : i < ts.length) : rdOf ByteArray.empty (ts.map BA) (i : Int) = BA ts[i] := by
 unfold rdOf
 rw [Int.toNat_natCast, List.getD_eq_getElem?_getD, List.getElem?_map, List.getElem?_eq_getElem h]
 rfl
def endA (s : By) (x8 : List NA) (x9 : List Int) (k : Nat) : Option (ByteArray × Bool) := (impl_signDepth.f k (BA s) x9).bind fun g => (if ((BA s).size : Int) = 1 then (impl_ApplySign.j1 k (BA s) x8 g (decide (g < 0))) else (impl_ApplySign.j1 k (BA s) x8 g true))
theorem loop_bad (s : By) (dp : Int) (ts : List By) (hl : ts.length ≤ 2000000) (hend : ∀ (x8 : List NA) (x9 : List Int), x9.length = ts.length → Ev (endA s x8 x9) bad) : ∀ (n i : Nat) (x8 : List NA) (x9 : List Int), ts.length - i = n → i ≤ ts.length → x8.length = i → x9.length = i →
   Ev (fun k => impl_ApplySign.l0 k (BA s) dp x8 x9 (ts.map BA) ((ts.map BA).length : Int) (i : Int)) bad := by
 intro n
 induction n with
 | zero =>
   intro i x8 x9 h hi h8 h9
   refine Ev.step' ?_; simp only [impl_ApplySign.l0]
   exact Ev.neg (by rw [List.length_map]; omega) (hend x8 x9 (by omega))
 | succ n ih =>
   intro i x8 x9 h hi h8 h9
   have hlt : i < ts.length := by omega
   refine Ev.step' ?_; simp only [impl_ApplySign.l0]
   refine Ev.pos (by rw [List.length_map]; omega) (Ev.pos (by omega) (Ev.pos (by rw [List.length_map]; omega) ?_))
   rw [rdBA hlt, wrapS (by omega) (by omega)]
   by_cases h0 : (i : Int) > 0
   · obtain ⟨f0, f1, b, hb⟩ := arr_any 0 ts[i]
     refine Ev.pos h0 (Ev.bind hb ?_)
     cases b with
     | false => exact Ev.neg (by simp) (Ev.now _)
     | true => exact Ev.pos rfl (Ev.pos (by omega) (Ev.pos (by omega) (ih (i + 1) _ _ (by omega) (by omega) (by simp [h8]) (by simp [h9]))))
   · obtain ⟨f0, f1, b, hb⟩ := arr_any dp ts[i]
     refine Ev.neg h0 (Ev.bind hb ?_)
     cases b with
     | false => exact Ev.neg (by simp) (Ev.now _)
     | true => exact Ev.pos rfl (Ev.pos (by omega) (Ev.pos (by omega) (ih (i + 1) _ _ (by omega) (by omega) (by simp [h8]) (by simp [h9]))))
theorem implBad {s : By} {dp : Int} {ts : List By} (hl : ts.length ≤ 2000000) (h : s.length ≠ 1 ∨ ts.length = 0 ∨ 2 < ts.length) : Ev (fun k => impl_ApplySign.f k (BA s) (ts.map BA) dp) bad := by
 unfold impl_ApplySign.f
 refine loop_bad s dp ts hl (fun x8 x9 h9 => ?_) _ 0 [] [] rfl (Nat.zero_le _) rfl rfl
 rcases h with h | h
 · obtain ⟨g, hg⟩ := sd_any (BA s) x9
   exact Ev.bind hg (Ev.neg (by rw [BA_size]; omega) (j1_bad _ _ _))
 · refine Ev.bind (sd_wrong (BA s) x9 (by omega)) ?_
   by_cases hs : ((BA s).size : Int) = 1
   · exact Ev.pos hs (j1_bad _ _ _)
   · exact Ev.neg hs (j1_bad _ _ _)
theorem specBad {s : By} {dp : Int} {ts : List By} (h : s.length ≠ 1 ∨ ts.length = 0 ∨ 2 < ts.length) : Ev (fun k => spec_ApplySign.f k (BA s) (ts.map BA) dp) bad := by
 have hj : Ev (fun k => spec_ApplySign.j0 k (BA s) (ts.map BA) dp true) bad := by
   refine Ev.step' ?_; simp only [spec_ApplySign.j0]
   exact Ev.pos (by first | trivial | rfl) (Ev.now _)
 unfold spec_ApplySign.f
 by_cases hs : ((BA s).size : Int) = 1
 · refine Ev.pos hs ?_
   rw [BA_size] at hs
   by_cases h0 : ((ts.map BA).length : Int) < 1
   · exact Ev.pos h0 hj
   · refine Ev.neg h0 ?_
     rw [List.length_map] at h0 ⊢
     rw [show decide ((ts.length : Int) > 2) = true by rw [decide_eq_true_iff]; omega]
     exact hj
 · exact Ev.neg hs hj
theorem ev_of {α : Type} {g : Nat → Option α} (hg : ∀ k, LeO (g k) (g (k + 1))) {k : Nat} {r : α} (h : g k = some r) : Ev g r := Ev.of hg h
theorem sd1_ev (c : UInt8) (d : Nat) (hd : d ≤ 3) : Ev (fun k => impl_signDepth.f k (BA [c]) [(d : Int)]) (sg1 c (d : Int)) := Ev.of (fun k => impl_signDepth.mono _ _ k) (sd_one c d hd)
theorem sd2_ev (c : UInt8) (d : Nat) (hd : d ≤ 3) : Ev (fun k => impl_signDepth.f k (BA [c]) [(d : Int), 0]) (sg2 c (d : Int)) := Ev.of (fun k => impl_signDepth.mono _ _ k) (sd_two c d hd)
theorem one_ev (c : UInt8) (d : Nat) (hd : d ≤ 3) : Ev (fun k => spec_l5One.f k (c.toNat : Int) (d : Int)) (sg1 c (d : Int)) := Ev.of (fun k => spec_l5One.mono _ _ k) (one_is c d hd)
theorem two_ev (c : UInt8) (d : Nat) : Ev (fun k => spec_l5Two.f k (c.toNat : Int) (d : Int) 0) (if c = 64 then (if (d : Int) = 1 then 0 else -1) else if (d : Int) = 0 then 0 else -1) := Ev.of (fun k => spec_l5Two.mono _ _ _ k) (two_is c d)
theorem bt_c (c : UInt8) : bt (BA [c]) 0 = (c.toNat : Int) := bt_BA _ _
theorem w1 : wrap64 (0 + 1) = 1 := by rw [wrapS (by omega) (by omega)]; rfl
theorem w2 : wrap64 (1 + 1) = 2 := by rw [wrapS (by omega) (by omega)]; rfl
/-! ### one part -/
theorem implOne (c : UInt8) (dp : Int) (l : By) {r : ByteArray × Bool} (h0 : rdZ dp l = none → r = bad) (h1 : ∀ (d : Nat) t, dp = (d : Int) → d ≤ 3 → readD d l = some t → Ev (endA [c] [cA d t] [(d : Int)]) r) : Ev (fun k => impl_ApplySign.f k (BA [c]) [BA l] dp) r := by
 unfold impl_ApplySign.f
 refine Ev.step' ?_; simp only [impl_ApplySign.l0]
 refine Ev.pos (by simp) (Ev.pos (by omega) (Ev.pos (by simp) (Ev.neg (by omega) ?_)))
 show Ev (fun k => (impl_arrOf.f k (BA l) dp).bind _) r
 cases h : rdZ dp l with
 | none =>
   obtain ⟨f0, f1, hf⟩ := arrZ_none h
   rw [h0 h]
   exact Ev.bind hf (Ev.neg (by simp) (Ev.now _))
 | some t =>
   obtain ⟨d, rfl, hd, hr⟩ := rdZ_some h
   refine Ev.bind (arrZ hd hr) (Ev.pos rfl (Ev.pos (by simp) (Ev.pos (by simp) ?_)))
   rw [mkA, w1]
   refine Ev.step' ?_; simp only [impl_ApplySign.l0]
   exact Ev.neg (by simp) (h1 d t rfl hd hr)
/-- What one part comes to. -/
def OneR (c : UInt8) (dp : Int) (l : By) (r : ByteArray × Bool) : Prop := ∃ (d e : Nat) (t u : Tr), dp = (d : Int) ∧ d ≤ 3 ∧ readD d l = some t ∧ sg1 c (d : Int) = (e : Int) ∧ giveE c [cA d t] ((cA e u).f0, (cA e u).f1) ∧ r = told (text e u)
theorem app_one (c : UInt8) (dp : Int) (l : By) : ∃ r, Ev (fun k => impl_ApplySign.f k (BA [c]) [BA l] dp) r ∧ Ev (fun k => spec_ApplySign.f k (BA [c]) [BA l] dp) r ∧ (r = bad ∨ OneR c dp l r) := by
 have spec0 : ∀ r, Ev (fun k => spec_ApplySign.j0 k (BA [c]) [BA l] dp false) r → Ev (fun k => spec_ApplySign.f k (BA [c]) [BA l] dp) r := fun r h => by
   unfold spec_ApplySign.f
   exact Ev.pos (by simp) (Ev.neg (by simp) h)
 cases h : rdZ dp l with
 | none =>
   refine ⟨bad, implOne c dp l (fun _ => rfl) (fun d t e hd hr => ?_), spec0 _ ?_, .inl rfl⟩
   · subst e
     rw [rdZ_nat hd, hr] at h
     cases h
   · refine Ev.step' ?_; simp only [spec_ApplySign.j0]
     exact Ev.neg (by simp) (Ev.pos (by simp) (Ev.bind (readZ_none h) (Ev.neg (by simp) (Ev.now _))))
 | some t =>
   obtain ⟨d, rfl, hd, hr⟩ := rdZ_some h
   by_cases hg : sg1 c (d : Int) < 0
   · refine ⟨bad, implOne c _ l (fun e => absurd (h.symm.trans e) (by simp)) (fun d' t' e hd' hr' => ?_), spec0 _ ?_, .inl rfl⟩
     · obtain rfl : d = d' := by omega
       refine Ev.bind (sd1_ev c d hd) (Ev.pos (by simp) ?_)
       rw [decide_eq_true hg]
       exact j1_bad _ _ _
     · refine Ev.step' ?_; simp only [spec_ApplySign.j0]
       refine Ev.neg (by simp) (Ev.pos (by simp) (Ev.bind (readZ hd hr) (Ev.pos rfl (Ev.pos (by simp) (Ev.pos (by simp) ?_)))))
       rw [bt_c]
       refine Ev.bind (one_ev c d hd) (Ev.pos hg ?_)
       refine Ev.step' ?_; simp only [spec_ApplySign.j1]
       exact Ev.pos (by first | trivial | rfl) (Ev.now _)
   · obtain ⟨e, u, he, hed, hsh, hnd, hA, hS⟩ := one_gives hr hg
     refine ⟨told (text e u), implOne c _ l (fun e => absurd (h.symm.trans e) (by simp)) (fun d' t' ee hd' hr' => ?_), spec0 _ ?_, .inr ⟨d, e, t, u, rfl, hd, hr, he, hA, rfl⟩⟩
     · obtain rfl : d = d' := by omega
       obtain rfl : t = t' := Option.some.inj (hr.symm.trans hr')
       refine Ev.bind (sd1_ev c d hd) (Ev.pos (by simp) ?_)
       rw [decide_eq_false hg, he]
       refine Ev.step' ?_; simp only [impl_ApplySign.j1]
       exact Ev.neg (by simp) (Ev.bind hA (Ev.bind (shortA_is e (by omega) u hsh hnd) (Ev.now _)))
     · obtain ⟨q, hq1, hq2⟩ := find_is [83, 77, 73, 78, 82, 67, 80] (by decide) c
       have hq : ¬ q < 0 := fun e => hq2.1 e (sg1_mem hg)
       refine Ev.step' ?_; simp only [spec_ApplySign.j0]
       refine Ev.neg (by simp) (Ev.pos (by simp) (Ev.bind (readZ hd hr) (Ev.pos rfl (Ev.pos (by simp) (Ev.pos (by simp) ?_)))))
       rw [bt_c]
       refine Ev.bind (one_ev c d hd) (Ev.neg hg (Ev.bind hq1 ?_))
       rw [decide_eq_false hq, he]
       refine Ev.step' ?_; simp only [spec_ApplySign.j1]
       refine Ev.neg (by simp) (Ev.pos (by simp) ?_)
       rw [bt_c]
       exact Ev.bind hS (Ev.bind (toldS_is e (by omega) u hsh hnd) (Ev.now _))
/-! ### two parts -/
theorem implTwo (c : UInt8) (dp : Int) (l l2 : By) {r : ByteArray × Bool} (h0 : rdZ dp l = none ∨ readD 0 l2 = none → r = bad) (h1 : ∀ (d : Nat) t t2, dp = (d : Int) → d ≤ 3 → readD d l = some t → readD 0 l2 = some t2 → Ev (endA [c] [cA d t, cA 0 t2] [(d : Int), 0]) r) : Ev (fun k => impl_ApplySign.f k (BA [c]) [BA l, BA l2] dp) r := by
 unfold impl_ApplySign.f
 refine Ev.step' ?_; simp only [impl_ApplySign.l0]
 refine Ev.pos (by simp) (Ev.pos (by omega) (Ev.pos (by simp) (Ev.neg (by omega) ?_)))
 show Ev (fun k => (impl_arrOf.f k (BA l) dp).bind _) r
 cases h : rdZ dp l with
 | none =>
   obtain ⟨f0, f1, hf⟩ := arrZ_none h
   rw [h0 (.inl h)]
   exact Ev.bind hf (Ev.neg (by simp) (Ev.now _))
 | some t =>
   obtain ⟨d, rfl, hd, hr⟩ := rdZ_some h
   refine Ev.bind (arrZ hd hr) (Ev.pos rfl (Ev.pos (by simp) (Ev.pos (by simp) ?_)))
   rw [mkA, w1]
   refine Ev.step' ?_; simp only [impl_ApplySign.l0]
   refine Ev.pos (by simp) (Ev.pos (by decide) (Ev.pos (by simp) (Ev.pos (by decide) ?_)))
   show Ev (fun k => (impl_arrOf.f k (BA l2) ((0 : Nat) : Int)).bind _) r
   cases h2 : readD 0 l2 with
   | none =>
     obtain ⟨f0, f1, hf⟩ := arrZ_none (dp := ((0 : Nat) : Int)) (l := l2) (by rw [rdZ_nat (by omega)]; exact h2)
     rw [h0 (.inr h2)]
     exact Ev.bind hf (Ev.neg (by simp) (Ev.now _))
   | some t2 =>
     refine Ev.bind (arrZ (by omega) h2) (Ev.pos rfl (Ev.pos (by simp) (Ev.pos (by simp) ?_)))
     rw [mkA, w2]
     refine Ev.step' ?_; simp only [impl_ApplySign.l0]
     exact Ev.neg (by simp) (h1 d t t2 rfl hd hr h2)
theorem app_two (c : UInt8) (dp : Int) (l l2 : By) : ∃ r, Ev (fun k => impl_ApplySign.f k (BA [c]) [BA l, BA l2] dp) r ∧ Ev (fun k => spec_ApplySign.f k (BA [c]) [BA l, BA l2] dp) r ∧ (r = bad ∨ c ∈ ([43, 42, 94, 45, 61, 60, 64] : By) ∧ ∃ x, r = told x) := by
 have spec0 : ∀ r, Ev (fun k => spec_ApplySign.j0 k (BA [c]) [BA l, BA l2] dp false) r → Ev (fun k => spec_ApplySign.f k (BA [c]) [BA l, BA l2] dp) r := fun r h => by
   unfold spec_ApplySign.f
   exact Ev.pos (by simp) (Ev.neg (by simp) h)
 have badJ2 : ∀ x y z w, Ev (fun k => spec_ApplySign.j2 k (BA [c]) true x y z w) bad := fun x y z w => by
   refine Ev.step' ?_; simp only [spec_ApplySign.j2]
   exact Ev.pos (by first | trivial | rfl) (Ev.now _)
 cases h : rdZ dp l with
 | none =>
   refine ⟨bad, implTwo c dp l l2 (fun _ => rfl) (fun d t t2 e hd hr _ => ?_), spec0 _ ?_, .inl rfl⟩
   · subst e
     rw [rdZ_nat hd, hr] at h
     cases h
   · refine Ev.step' ?_; simp only [spec_ApplySign.j0]
     exact Ev.neg (by simp) (Ev.pos (by simp) (Ev.bind (readZ_none h) (Ev.neg (by simp) (Ev.now _))))
 | some t =>
   obtain ⟨d, rfl, hd, hr⟩ := rdZ_some h
   have specA : ∀ r x y b, Ev (fun k => spec_l1Read.f k (BA l2) ((0 : Nat) : Int)) (x, y, b) → Ev (fun k => if b = true then (if 0 < ((BA [c]).size : Int) then ((spec_l13Find.f k (⟨#[43, 42, 94, 45, 61, 60, 64]⟩ : ByteArray) (bt (BA [c]) 0)).bind fun q => (if q < 0 then (spec_ApplySign.j2 k (BA [c]) true (cS d t).f0 (cS d t).f1 x y) else ((spec_l5Two.f k (bt (BA [c]) 0) (d : Int) 0).bind fun z => (spec_ApplySign.j2 k (BA [c]) (decide (z < 0)) (cS d t).f0 (cS d t).f1 x y)))) else none) else (spec_ApplySign.j2 k (BA [c]) true (cS d t).f0 (cS d t).f1 x y)) r → Ev (fun k => spec_ApplySign.j0 k (BA [c]) [BA l, BA l2] (d : Int) false) r := fun r x y b hb hk => by
     refine Ev.step' ?_; simp only [spec_ApplySign.j0]
     exact Ev.neg (by simp) (Ev.pos (by simp) (Ev.bind (readZ hd hr) (Ev.pos rfl (Ev.neg (by simp) (Ev.pos (by simp) (Ev.bind hb hk))))))
   cases h2 : readD 0 l2 with
   | none =>
     refine ⟨bad, implTwo c _ l l2 (fun _ => rfl) (fun d' t' t2 e hd' hr' h2' => by rw [h2] at h2'; cases h2'), spec0 _ (specA _ _ _ _ (readZ_none (by rw [rdZ_nat (by omega)]; exact h2)) (Ev.neg (by simp) (badJ2 _ _ _ _))), .inl rfl⟩
   | some t2 =>
     obtain ⟨q, hq1, hq2⟩ := find_is [43, 42, 94, 45, 61, 60, 64] (by decide) c
     by_cases hg : sg2 c (d : Int) < 0
     · refine ⟨bad, implTwo c _ l l2 (fun e => e.elim (fun e => absurd (h.symm.trans e) (by simp)) (fun e => absurd (h2.symm.trans e) (by simp))) (fun d' t' t2' e hd' hr' h2' => ?_), spec0 _ (specA _ _ _ _ (readZ (by omega) h2) (Ev.pos rfl (Ev.pos (by simp) ?_))), .inl rfl⟩
       · obtain rfl : d = d' := by omega
         refine Ev.bind (sd2_ev c d hd) (Ev.pos (by simp) ?_)
         rw [decide_eq_true hg]
         exact j1_bad _ _ _
       · rw [bt_c]
         refine Ev.bind hq1 ?_
         by_cases hq : q < 0
         · exact Ev.pos hq (badJ2 _ _ _ _)
         · refine Ev.neg hq (Ev.bind (two_ev c d) ?_)
           have hm : c ∈ ([43, 42, 94, 45, 61, 60, 64] : By) := Classical.byContradiction fun hm => hq (hq2.2 hm)
           have hv : (if c = 64 then (if (d : Int) = 1 then (0 : Int) else -1) else if (d : Int) = 0 then 0 else -1) < 0 := by
             unfold sg2 at hg
             simp only [List.mem_cons, List.not_mem_nil, or_false] at hm
             by_cases h64 : c = 64
             · rw [if_pos h64]
               by_cases hd1 : (d : Int) = 1
               · rw [if_pos (Or.inr ⟨h64, hd1⟩)] at hg
                 exact absurd hg (by decide)
               · rw [if_neg hd1]; decide
             · rw [if_neg h64]
               by_cases hd0 : (d : Int) = 0
               · rw [if_pos (Or.inl ⟨by rcases hm with hm | hm | hm | hm | hm | hm | hm <;> simp_all, hd0⟩)] at hg
                 exact absurd hg (by decide)
               · rw [if_neg hd0]; decide
           rw [decide_eq_true hv]
           exact badJ2 _ _ _ _
     · obtain ⟨v, hv, hA, hS, hm, hz⟩ := two_gives hr h2 hg
       have hsh : Sh 0 (n0 v) := shN hv
       have hsg : sg2 c (d : Int) = ((0 : Nat) : Int) := by
         unfold sg2 at hg ⊢
         split at hg
         · next hc => rw [if_pos hc]; rfl
         · exact absurd (by decide) hg
       refine ⟨told (text 0 (n0 v)), implTwo c _ l l2 (fun e => e.elim (fun e => absurd (h.symm.trans e) (by simp)) (fun e => absurd (h2.symm.trans e) (by simp))) (fun d' t' t2' e hd' hr' h2' => ?_), spec0 _ (specA _ _ _ _ (readZ (by omega) h2) (Ev.pos rfl (Ev.pos (by simp) ?_))), .inr ⟨hm, _, rfl⟩⟩
       · obtain rfl : d = d' := by omega
         obtain rfl : t = t' := Option.some.inj (hr.symm.trans hr')
         obtain rfl : t2 = t2' := Option.some.inj (h2.symm.trans h2')
         refine Ev.bind (sd2_ev c d hd) (Ev.pos (by simp) ?_)
         rw [decide_eq_false hg, hsg]
         refine Ev.step' ?_; simp only [impl_ApplySign.j1]
         exact Ev.neg (by simp) (Ev.bind hA (Ev.bind (shortA_is 0 (by omega) (n0 v) hsh (by show 1 ≤ _; omega)) (Ev.now _)))
       · rw [bt_c]
         have hq : ¬ q < 0 := fun e => hq2.1 e hm
         refine Ev.bind hq1 (Ev.neg hq (Ev.bind (two_ev c d) ?_))
         rw [hz, show decide ((0 : Int) < 0) = false by decide]
         refine Ev.step' ?_; simp only [spec_ApplySign.j2]
         refine Ev.neg (by simp) (Ev.pos (by simp) ?_)
         rw [bt_c]
         exact Ev.call hS (Ev.bind (toldS_is 0 (by omega) (n0 v) hsh (by show 1 ≤ _; omega)) (Ev.now _))
/-- The program's ApplySign and the reference's: alike, and what they tell. -/
theorem sign_bothX (s : By) (ts : List By) (dp : Int) (hl : ts.length ≤ 2000000) : ∃ r, Ev (fun k => impl_ApplySign.f k (BA s) (ts.map BA) dp) r ∧ Ev (fun k => spec_ApplySign.f k (BA s) (ts.map BA) dp) r ∧
   (r = bad ∨ (∃ c l, s = [c] ∧ ts = [l] ∧ OneR c dp l r) ∨ ∃ c l l2, s = [c] ∧ ts = [l, l2] ∧ c ∈ ([43, 42, 94, 45, 61, 60, 64] : By) ∧ ∃ x, r = told x) := by
 by_cases h : s.length ≠ 1 ∨ ts.length = 0 ∨ 2 < ts.length
 · exact ⟨bad, implBad hl h, specBad h, .inl rfl⟩
 · match s, ts with
   | [c], [l] =>
     obtain ⟨r, h1, h2, h3⟩ := app_one c dp l
     exact ⟨r, h1, h2, h3.imp id fun h => .inl ⟨c, l, rfl, rfl, h⟩⟩
   | [c], [l, l2] =>
     obtain ⟨r, h1, h2, h3⟩ := app_two c dp l l2
     exact ⟨r, h1, h2, h3.imp id fun h => .inr ⟨c, l, l2, rfl, rfl, h⟩⟩
   | [c], [] => simp at h
   | [c], _ :: _ :: _ :: _ => simp at h
   | [], _ => simp at h
   | _ :: _ :: _, _ => simp at h
theorem sign_both (s : By) (ts : List By) (dp : Int) (hl : ts.length ≤ 2000000) : ∃ r, Ev (fun k => impl_ApplySign.f k (BA s) (ts.map BA) dp) r ∧ Ev (fun k => spec_ApplySign.f k (BA s) (ts.map BA) dp) r := by
 obtain ⟨r, h1, h2, _⟩ := sign_bothX s ts dp hl
 exact ⟨r, h1, h2⟩
end Go.Proofs.YtoloblgjlnhioaaGreatDoor.I
namespace Go.Proofs.YtoloblgjlnhioaaGreatDoor.I
open Go.RowKit Go.Proofs.YtoloblgjlnhioaaGreatDoorW.PrintWords Go.Proofs.YtoloblgjlnhioaaGreatDoorW.PrintLast Go.Proofs.YtoloblgjlnhioaaGreatDoorW.PrintMore Go.Proofs.YtoloblgjlnhioaaGreatDoor.Q
set_option linter.unusedSimpArgs false
set_option linter.unusedVariables false

theorem within_okS (xs : List Nat) (M : Nat) (h : ∀ x ∈ xs, x ≤ M) (hl : xs.length ≤ 1000000) : impl_within.f (ints xs) (M : Int) = some true := by
 unfold impl_within.f
 rw [if_pos (by rw [List.length_map]; omega)]
 have : (ints xs).any (outR (M : Int)) = false := by
   rw [List.any_eq_false]
   intro z hz
   obtain ⟨x, hxm, rfl⟩ := List.mem_map.1 hz
   have := h x hxm
   simp [outR]
   omega
 rw [this]
 rfl
/-- Data of one segment. -/
structure Dat (ns : List Nat) : Prop where
 len : ns.length ≤ 400
 lt : ∀ x ∈ ns, x < 10007
theorem tot1 (n : Nat) (hn : n ≤ 400) : Ev (fun k => impl_total.f k [(n : Int)]) (n : Int) := by
 have := totalS_l0 [n] (by simp; omega) (by simp) _ 0 0 rfl (Nat.zero_le _) (by simp)
 unfold impl_total.f
 rw [show ([n] : List Nat).sum = n by simp] at this
 exact this
theorem valid1 {ns : List Nat} (h : Dat ns) : Ev (fun k => impl_SegmentsValid.f k [(ns.length : Int)] (ints ns)) true := by
 have h1 := h.len
 have ht := tot1 ns.length h1
 have hw : impl_within.f [(ns.length : Int)] 400 = some true := within_okS [ns.length] 400 (by simp; exact h1) (by simp)
 have hw2 : impl_within.f (ints ns) 10006 = some true := within_okS ns 10006 (fun x hx => by have := h.lt x hx; omega) (by omega)
 unfold impl_SegmentsValid.f impl_lengthsOk.f
 refine Ev.bind (a := true) (Ev.pos (by simp) (Ev.call hw (Ev.pos rfl (Ev.bind ht (Ev.val (by simp; omega)))))) (Ev.pos rfl (Ev.call (a := true) ?_ (Ev.pos rfl (Ev.bind ht (Ev.val (by simp))))))
 unfold impl_dataOk.f
 rw [if_pos (by rw [List.length_map]; omega), hw2]
 rfl
theorem segs1 {ns : List Nat} (h : Dat ns) : Ev (fun k => impl_segments.f k [(ns.length : Int)] (ints ns)) [ints ns] := by
 have h1 := h.len
 have e : rd [(ns.length : Int)] 0 = (ns.length : Int) := rfl
 unfold impl_segments.f
 refine Ev.step' ?_; simp only [impl_segments.l0]
 rw [e]
 refine Ev.pos (by simp) (Ev.pos (by omega) (Ev.pos (by simp) (Ev.pos (by omega) (Ev.pos (by simp) (Ev.pos (by simp) ?_)))))
 rw [wrapS (by omega) (by omega)]
 refine Ev.step' ?_; simp only [impl_segments.l0]
 refine Ev.neg (by simp) (Ev.val ?_)
 rw [Int.toNat_natCast, List.take_of_length_le (by rw [List.length_map]; omega)]
 rfl
theorem sumSeg {ns : List Nat} (h : Dat ns) : Ev (fun k => impl_SumSegments.f k [(ns.length : Int)] (ints ns)) ([((ns.sum % 10007 : Nat) : Int)], true) := by
 unfold impl_SumSegments.f impl_each_1.f
 refine Ev.bind (a := ([((ns.sum % 10007 : Nat) : Int)], true)) (Ev.bind (valid1 h) (Ev.pos rfl (Ev.bind (segs1 h) ?_))) (Ev.now _)
 refine Ev.step' ?_; simp only [impl_each_1.l0]
 refine Ev.pos (by simp) (Ev.pos (by omega) (Ev.pos (by simp) (Ev.bind (a := [((ns.sum % 10007 : Nat) : Int)]) ?_ (Ev.pos (by simp) ?_))))
 · unfold impl_SumSegments_1.f
   exact Ev.bind (sumA_is ns h.lt (by have := h.len; omega)) (Ev.now _)
 · rw [wrapS (by omega) (by omega)]
   refine Ev.step' ?_; simp only [impl_each_1.l0]
   exact Ev.neg (by simp) (Ev.now _)
theorem mostSeg {ns : List Nat} (h : Dat ns) : Ev (fun k => impl_MostSegments.f k [(ns.length : Int)] (ints ns)) ([((ns.foldl max 0 : Nat) : Int)], true) := by
 unfold impl_MostSegments.f impl_each_2.f
 refine Ev.bind (a := ([((ns.foldl max 0 : Nat) : Int)], true)) (Ev.bind (valid1 h) (Ev.pos rfl (Ev.bind (segs1 h) ?_))) (Ev.now _)
 refine Ev.step' ?_; simp only [impl_each_2.l0]
 refine Ev.pos (by simp) (Ev.pos (by omega) (Ev.pos (by simp) (Ev.call (a := [((ns.foldl max 0 : Nat) : Int)]) ?_ (Ev.pos (by simp) ?_))))
 · show impl_MostSegments_1.f (ints ns) = _
   unfold impl_MostSegments_1.f
   rw [mostA_is ns (by have := h.len; omega)]
   rfl
 · rw [wrapS (by omega) (by omega)]
   refine Ev.step' ?_; simp only [impl_each_2.l0]
   exact Ev.neg (by simp) (Ev.now _)
theorem pre_at : ∀ (ns : List Nat) (a i : Nat), i < ns.length → a < 10007 → (pre a ns)[i]? = some ((a + (ns.take i).sum) % 10007)
 | [], _, _, h, _ => by simp at h
 | n :: ns, a, 0, _, ha => by simp [pre, Nat.mod_eq_of_lt ha]
 | n :: ns, a, i + 1, h, ha => by
   have := pre_at ns ((a + n) % 10007) i (by simpa using h) (Nat.mod_lt _ (by omega))
   simp only [pre, List.getElem?_cons_succ, List.take_succ_cons, List.sum_cons]
   rw [this]
   congr 1
   omega
theorem scan_l0 {ns : List Nat} (h : Dat ns) : ∀ (n i : Nat), ns.length - i = n → i ≤ ns.length → Ev (fun k => impl_scan.l0 k (ints ns) (ints ((pre 0 ns).take i)) ((ints ns).length : Int) (i : Int)) (ints (pre 0 ns)) := by
 have hl := h.len
 have hpl := pre_len 0 ns
 intro n
 induction n with
 | zero =>
   intro i h1 hi
   refine Ev.step' ?_; simp only [impl_scan.l0]
   rw [show (pre 0 ns).take i = pre 0 ns from List.take_of_length_le (by omega)]
   exact Ev.neg (by rw [List.length_map]; omega) (Ev.now _)
 | succ n ih =>
   intro i h1 hi
   have hlt : i < ns.length := by omega
   have hnext := ih (i + 1) (by omega) (by omega)
   have hp := pre_at ns 0 i hlt (by omega)
   rw [Nat.zero_add] at hp
   obtain ⟨hp1, hp2⟩ := List.getElem?_eq_some_iff.1 hp
   have e : ints ((pre 0 ns).take (i + 1)) = ints ((pre 0 ns).take i) ++ [(((ns.take i).sum % 10007 : Nat) : Int)] := by
     rw [List.take_succ_eq_append_getElem hp1, hp2, ints, List.map_append]
     rfl
   rw [e] at hnext
   refine Ev.step' ?_; simp only [impl_scan.l0]
   refine Ev.pos (by rw [List.length_map]; omega) (Ev.pos (by omega) (Ev.pos (by rw [List.length_map]; omega) ?_))
   have hs := sumA_is (ns.take i) (fun x hx => h.lt x (List.mem_of_mem_take hx)) (by rw [List.length_take]; omega)
   rw [ints, List.map_take] at hs
   rw [Int.toNat_natCast]
   refine Ev.bind hs (Ev.pos (by rw [List.length_map, List.length_take]; omega) ?_)
   rw [wrapS (by omega) (by omega)]
   exact hnext
theorem scanSeg {ns : List Nat} (h : Dat ns) : Ev (fun k => impl_ScanSegments.f k [(ns.length : Int)] (ints ns)) (ints (pre 0 ns), true) := by
 have hl := h.len
 have hpl := pre_len 0 ns
 unfold impl_ScanSegments.f impl_each_3.f
 refine Ev.bind (a := (ints (pre 0 ns), true)) (Ev.bind (valid1 h) (Ev.pos rfl (Ev.bind (segs1 h) ?_))) (Ev.now _)
 refine Ev.step' ?_; simp only [impl_each_3.l0]
 refine Ev.pos (by simp) (Ev.pos (by omega) (Ev.pos (by simp) (Ev.bind (a := ints (pre 0 ns)) ?_ (Ev.pos ?_ ?_))))
 · show Ev (fun k => impl_scan.f k (ints ns)) _
   unfold impl_scan.f
   exact scan_l0 h _ 0 rfl (Nat.zero_le _)
 · simp only [List.length_nil, List.length_map]
   omega
 · rw [wrapS (by omega) (by omega)]
   refine Ev.step' ?_; simp only [impl_each_3.l0]
   exact Ev.neg (by simp) (Ev.now _)
end Go.Proofs.YtoloblgjlnhioaaGreatDoor.I
namespace Go.Proofs.YtoloblgjlnhioaaGreatDoor.I
open Go.RowKit Go.Proofs.YtoloblgjlnhioaaGreatDoorW.PrintWords Go.Proofs.YtoloblgjlnhioaaGreatDoorW.PrintLast Go.Proofs.YtoloblgjlnhioaaGreatDoorW.PrintMore Go.Proofs.YtoloblgjlnhioaaGreatDoor.Q
set_option linter.unusedSimpArgs false
set_option linter.unusedVariables false

theorem xor_nn (a b : Nat) (ha : a < 4611686018427387904) (hb : b < 4611686018427387904) : 0 ≤ Go.bits .xor .i64 (a : Int) (b : Int) := by
 have hx : a ^^^ b < 2 ^ 62 := Nat.xor_lt_two_pow (by omega) (by omega)
 have e : ((BitVec.ofInt 64 (a : Int)) ^^^ (BitVec.ofInt 64 (b : Int))).toNat = a ^^^ b := by
   rw [BitVec.toNat_xor, BitVec.toNat_ofInt, BitVec.toNat_ofInt]
   have h1 : ((a : Int) % ((2 ^ 64 : Nat) : Int)).toNat = a := by omega
   have h2 : ((b : Int) % ((2 ^ 64 : Nat) : Int)).toNat = b := by omega
   rw [h1, h2]
 show 0 ≤ IntKind.wrap .i64 (((BitVec.ofInt 64 (a : Int)) ^^^ (BitVec.ofInt 64 (b : Int))).toNat : Int)
 rw [e, IntKind.wrap_i64]
 omega
def Bs (l : List Int) : Prop := l.length ≤ 2000 ∧ ∀ x ∈ l, 0 ≤ x ∧ x ≤ 255
theorem rd_in {l : List Int} (h : Bs l) (i : Int) : 0 ≤ rd l i ∧ rd l i ≤ 255 := by
 unfold rd
 rw [List.getD_eq_getElem?_getD]
 cases hg : l[i.toNat]? with
 | none => simp
 | some x => exact h.2 x (List.mem_of_getElem? hg)
theorem tmod_in {a n : Int} (ha : 0 ≤ a) (hn : 1 ≤ n) : 0 ≤ Int.tmod a n ∧ Int.tmod a n < n := by
 rw [Int.tmod_eq_emod_of_nonneg ha]
 exact ⟨Int.emod_nonneg _ (by omega), Int.emod_lt_of_pos _ (by omega)⟩
theorem tdiv_in {a n : Int} (ha : 0 ≤ a) (hn : 1 ≤ n) : 0 ≤ Int.tdiv a n ∧ Int.tdiv a n ≤ a := by
 rw [Int.tdiv_eq_ediv_of_nonneg ha]
 refine ⟨Int.ediv_nonneg ha (by omega), ?_⟩
 exact Int.ediv_le_self _ ha
theorem pick_is {l : List Int} (h : Bs l) (p : Nat) (hp : p ≤ 1000000000000) (n : Int) : ∃ v : Int, Ev (fun k => spec_l13Rd_pick.f k l (p : Int) n) (v, ((p + 1 : Nat) : Int)) ∧ (1 ≤ n → 0 ≤ v ∧ v < n) ∧ (n < 1 → v = 0) := by
 have hpp : wrap64 ((p : Int) + 1) = ((p + 1 : Nat) : Int) := by rw [wrapS (by omega) (by omega)]; omega
 have hj : Ev (fun k => spec_l13Rd_pick.j0 k n true l ((p + 1 : Nat) : Int)) (0, ((p + 1 : Nat) : Int)) := by
   refine Ev.step' ?_; simp only [spec_l13Rd_pick.j0]
   exact Ev.pos (by first | trivial | rfl) (Ev.now _)
 by_cases hn : n < 1
 · refine ⟨0, ?_, by omega, by omega⟩
   unfold spec_l13Rd_pick.f
   refine Ev.pos hn ?_
   rw [hpp]
   exact hj
 · by_cases hl : l.length = 0
   · refine ⟨0, ?_, by omega, by omega⟩
     unfold spec_l13Rd_pick.f
     refine Ev.neg hn ?_
     rw [hpp, hl]
     exact hj
   · have hlen := h.1
     have hm : wrap64 (((p + 1 : Nat) : Int) - 1) = (p : Int) := by rw [wrapS (by omega) (by omega)]; omega
     have hgo : ∀ v, Ev (fun k => spec_l13Rd_pick.j0 k n false l ((p + 1 : Nat) : Int)) (v, ((p + 1 : Nat) : Int)) → Ev (fun k => spec_l13Rd_pick.f k l (p : Int) n) (v, ((p + 1 : Nat) : Int)) := by
       intro v hv
       unfold spec_l13Rd_pick.f
       refine Ev.neg hn ?_
       rw [hpp, show ((l.length : Int) == 0) = false from beq_false_of_ne (by omega)]
       exact hv
     by_cases hlt : p < l.length
     · have hr := rd_in h (p : Int)
       have ht := tmod_in (a := rd l (p : Int)) hr.1 (n := n) (by omega)
       refine ⟨Int.tmod (rd l (p : Int)) n, hgo _ ?_, fun _ => ht, by omega⟩
       refine Ev.step' ?_; simp only [spec_l13Rd_pick.j0]
       refine Ev.neg (by simp) ?_
       simp only [hm]
       refine Ev.pos (by omega) (Ev.pos (by omega) (Ev.neg (by omega) (Ev.val ?_)))
       rw [wrapS (by omega) (by omega)]
     · have hr1 := rd_in h (Int.tmod (p : Int) (l.length : Int))
       have hr2 := rd_in h (Int.tmod (wrap64 (wrap64 ((p : Int) * 7) + 3)) (l.length : Int))
       have ht1 := tmod_in (a := (p : Int)) (by omega) (n := (l.length : Int)) (by omega)
       have e7 : wrap64 (wrap64 ((p : Int) * 7) + 3) = (p : Int) * 7 + 3 := by
         rw [wrapS (a := (p : Int) * 7) (by omega) (by omega), wrapS (by omega) (by omega)]
       have ht2 := tmod_in (a := (p : Int) * 7 + 3) (by omega) (n := (l.length : Int)) (by omega)
       have htd := tdiv_in (a := (p : Int)) (by omega) (n := (l.length : Int)) (by omega)
       rw [e7] at hr2
       generalize hA : rd l (Int.tmod (p : Int) (l.length : Int)) = A at *
       generalize hB : rd l (Int.tmod ((p : Int) * 7 + 3) (l.length : Int)) = B at *
       generalize hD : Int.tdiv (p : Int) (l.length : Int) = D at *
       have eH : wrap64 (wrap64 (wrap64 (wrap64 (wrap64 A * 131) + wrap64 (wrap64 B * 1117)) + wrap64 ((p : Int) * 29)) + wrap64 (wrap64 D * 53)) = A * 131 + B * 1117 + (p : Int) * 29 + D * 53 := by
         rw [wrapS (a := A) (by omega) (by omega), wrapS (a := B) (by omega) (by omega), wrapS (a := D) (by omega) (by omega), wrapS (a := A * 131) (by omega) (by omega), wrapS (a := B * 1117) (by omega) (by omega), wrapS (a := (p : Int) * 29) (by omega) (by omega), wrapS (a := D * 53) (by omega) (by omega), wrapS (a := A * 131 + B * 1117) (by omega) (by omega), wrapS (a := A * 131 + B * 1117 + (p : Int) * 29) (by omega) (by omega), wrapS (by omega) (by omega)]
       obtain ⟨H, hH⟩ : ∃ H : Nat, A * 131 + B * 1117 + (p : Int) * 29 + D * 53 = (H : Int) := ⟨(A * 131 + B * 1117 + (p : Int) * 29 + D * 53).toNat, by omega⟩
       have eT : wrap64 (Int.tdiv (H : Int) 64) = ((H / 64 : Nat) : Int) := by
         rw [Int.tdiv_eq_ediv_of_nonneg (by omega), wrapS (by omega) (by omega)]
         omega
       have hX := xor_nn H (H / 64) (by omega) (by omega)
       have ht3 := tmod_in hX (n := n) (by omega)
       refine ⟨Int.tmod (Go.bits .xor .i64 (H : Int) ((H / 64 : Nat) : Int)) n, hgo _ ?_, fun _ => ht3, by omega⟩
       refine Ev.step' ?_; simp only [spec_l13Rd_pick.j0]
       refine Ev.neg (by simp) ?_
       simp only [hm, e7, hA, hB, hD, eH, hH, eT]
       exact Ev.neg (by omega) (Ev.neg (by omega) (Ev.pos ht1.1 (Ev.pos ht1.2 (Ev.pos ht2.1 (Ev.pos ht2.2 (Ev.neg (by omega) (Ev.val rfl)))))))
end Go.Proofs.YtoloblgjlnhioaaGreatDoor.I
namespace Go.Proofs.YtoloblgjlnhioaaGreatDoor.I
open Go.RowKit Go.Proofs.YtoloblgjlnhioaaGreatDoorW.PrintWords Go.Proofs.YtoloblgjlnhioaaGreatDoorW.PrintLast Go.Proofs.YtoloblgjlnhioaaGreatDoorW.PrintMore Go.Proofs.YtoloblgjlnhioaaGreatDoor.Q
set_option linter.unusedSimpArgs false
set_option linter.unusedVariables false
theorem num_is {l : List Int} (h : Bs l) (p : Nat) (hp : p ≤ 1000000000000) (xs : List Int) (hx : 1 ≤ xs.length) : ∃ v ∈ xs, Ev (fun k => spec_l13Rd_num.f k l (p : Int) xs) (v, ((p + 1 : Nat) : Int)) := by
 obtain ⟨v, h1, h2, _⟩ := pick_is h p hp (xs.length : Int)
 have hv := h2 (by omega)
 obtain ⟨m, rfl⟩ : ∃ m : Nat, v = (m : Int) := ⟨v.toNat, by omega⟩
 have hm : m < xs.length := by omega
 refine ⟨xs[m], List.getElem_mem hm, ?_⟩
 unfold spec_l13Rd_num.f
 refine Ev.bind h1 (Ev.pos hv.1 (Ev.pos hv.2 (Ev.val ?_)))
 have : rd xs (m : Int) = xs[m] := by
   unfold rd
   rw [Int.toNat_natCast, List.getD_eq_getElem?_getD, List.getElem?_eq_getElem hm]
   rfl
 rw [this]
theorem BA_of (b : ByteArray) : ∃ l : By, b = BA l ∧ l.length = b.size := ⟨b.data.toList, (BA_data b).symm, by rw [Array.length_toList]; rfl⟩
theorem open_is (l : List Int) (h : ∀ x ∈ l, (Lit.int .u8 x).wf = true) : ∃ l', spec_l13Open.f l = some (l', 0) ∧ Bs l' := by
 have hb : ∀ x ∈ l, 0 ≤ x ∧ x ≤ 255 := by
   intro x hx
   have := h x hx
   simp [Lit.wf, IntKind.wrap] at this
   have e1 : IntKind.u8.min = 0 := rfl
   have e2 : IntKind.u8.max = 255 := rfl
   omega
 unfold spec_l13Open.f
 by_cases hl : (l.length : Int) > 2000
 · refine ⟨l.take 2000, ?_, ?_, ?_⟩
   · rw [if_pos hl, if_pos (by omega)]
   · rw [List.length_take]; omega
   · exact fun x hx => hb x (List.mem_of_mem_take hx)
 · exact ⟨l, by rw [if_neg hl], by omega, hb⟩
end Go.Proofs.YtoloblgjlnhioaaGreatDoor.I
namespace Go.Proofs.YtoloblgjlnhioaaGreatDoor.I
open Go.RowKit Go.Proofs.YtoloblgjlnhioaaGreatDoorW.PrintWords Go.Proofs.YtoloblgjlnhioaaGreatDoorW.PrintLast Go.Proofs.YtoloblgjlnhioaaGreatDoorW.PrintMore Go.Proofs.YtoloblgjlnhioaaGreatDoor.Q
set_option linter.unusedSimpArgs false
set_option linter.unusedVariables false
def szD : Nat → Nat
 | 0 => 5
 | d + 1 => 2 + 4 * (szD d + 1)
def stD : Nat → Nat
 | 0 => 2
 | d + 1 => 1 + 4 * stD d
/-- The last place that a drawing of this depth may begin at. -/
def capD : Nat → Nat
 | 0 => 99999990000
 | d + 1 => capD d - 1000
theorem cap_ok {d : Nat} (hd : d ≤ 2) : capD (d + 1) + 1 + 4 * stD d ≤ capD d := by
 obtain rfl | rfl | rfl : d = 0 ∨ d = 1 ∨ d = 2 := by omega
 all_goals decide
theorem cap_in {d : Nat} (hd : d ≤ 3) : 99999980000 ≤ capD d ∧ capD d ≤ 99999990000 := by
 obtain rfl | rfl | rfl | rfl : d = 0 ∨ d = 1 ∨ d = 2 ∨ d = 3 := by omega
 all_goals decide
def DrawIs (d : Nat) : Prop := ∀ (l : List Int) (p : Nat), Bs l → p ≤ capD d → ∃ (t : ByteArray) (q : Nat), Ev (fun k => spec_l1Draw.f k l (p : Int) (d : Int)) (t, (q : Int)) ∧ 1 ≤ t.size ∧ t.size ≤ szD d ∧ p ≤ q ∧ q ≤ p + stD d
theorem szD_le {d : Nat} (hd : d ≤ 3) : szD d ≤ 1500 ∧ stD d ≤ 150 := by
 obtain rfl | rfl | rfl | rfl : d = 0 ∨ d = 1 ∨ d = 2 ∨ d = 3 := by omega
 all_goals decide
theorem size_append (a b : ByteArray) : (a ++ b).size = a.size + b.size := by
 obtain ⟨x, rfl, h1⟩ := BA_of a
 obtain ⟨y, rfl, h2⟩ := BA_of b
 rw [BA_append, BA_size, BA_size, BA_size, List.length_append]
theorem size_one (c : UInt8) : (⟨#[c]⟩ : ByteArray).size = 1 := rfl
theorem mul_in {i Z : Nat} (hi : i ≤ 4) (hZ : Z ≤ 1500) : i * (Z + 1) ≤ 6004 := Nat.le_trans (Nat.mul_le_mul hi (Nat.add_le_add_right hZ 1)) (by decide)
theorem draw_l0 (d : Nat) (hd : d ≤ 2) (Z T C : Nat) (hC : C ≤ 99999990000) (hZ : Z ≤ 1500) (hT : T ≤ 150) (l : List Int) (hl : Bs l)
   (ih : ∀ (p : Nat), p ≤ C → ∃ (t : ByteArray) (q : Nat), Ev (fun k => spec_l1Draw.f k l (p : Int) (d : Int)) (t, (q : Int)) ∧ 1 ≤ t.size ∧ t.size ≤ Z ∧ p ≤ q ∧ q ≤ p + T) (m : Nat) (hm : m ≤ 4) (M : Nat) (hM : ∀ i, i = m → 2 + i * (Z + 1) ≤ M) :
   ∀ (n i : Nat) (x : ByteArray) (p : Nat), i + n = m → 1 ≤ x.size → x.size ≤ 1 + i * (Z + 1) → p + n * T ≤ C →
   ∃ (t : ByteArray) (q : Nat), Ev (fun k => spec_l1Draw.l0 k ((d + 1 : Nat) : Int) x (m : Int) (i : Int) l (p : Int)) (t, (q : Int)) ∧ 1 ≤ t.size ∧ t.size ≤ M ∧ p ≤ q ∧ q ≤ p + n * T := by
 have ed : wrap64 (((d + 1 : Nat) : Int) - 1) = (d : Int) := by rw [wrapS (by omega) (by omega)]; omega
 intro n
 induction n with
 | zero =>
   intro i x p h hx1 hx hp
   have him : i = m := by omega
   have hM1 := hM i him
   have hmul := mul_in (i := i) (by omega) hZ
   obtain ⟨A, hA⟩ : ∃ A, A = i * (Z + 1) := ⟨_, rfl⟩
   rw [← hA] at hmul hx hM1
   clear hA
   obtain ⟨y, hy⟩ : ∃ y, y = x ++ (⟨#[93]⟩ : ByteArray) := ⟨_, rfl⟩
   have hb : y.size = x.size + 1 := by rw [hy, size_append, size_one]
   refine ⟨y, p, ?_, by omega, by omega, Nat.le_refl _, Nat.le_add_right _ _⟩
   rw [hy]
   refine Ev.step' ?_; simp only [spec_l1Draw.l0]
   exact Ev.neg (by omega) (Ev.pos (by omega) (Ev.val rfl))
 | succ n ihn =>
   intro i x p h hx1 hx hp
   have him : i < m := by omega
   have him2 : i + 1 + n = m := by omega
   have hmul := mul_in (i := i) (by omega) hZ
   have hsz : (i + 1) * (Z + 1) = i * (Z + 1) + (Z + 1) := by rw [Nat.add_mul, Nat.one_mul]
   have hst : (n + 1) * T = n * T + T := by rw [Nat.add_mul, Nat.one_mul]
   obtain ⟨t, q, h1, h2, h3, h4, h5⟩ := ih p (Nat.le_trans (Nat.le_add_right _ _) hp)
   have ihn' := fun y => ihn (i + 1) y q him2
   rw [hsz] at ihn'
   rw [hst] at hp ⊢
   obtain ⟨A, hA⟩ : ∃ A, A = i * (Z + 1) := ⟨_, rfl⟩
   obtain ⟨B, hB⟩ : ∃ B, B = n * T := ⟨_, rfl⟩
   rw [← hA] at hmul hx ihn'
   rw [← hB] at ihn' hp ⊢
   clear hA hB hst hsz
   have ei : wrap64 ((i : Int) + 1) = ((i + 1 : Nat) : Int) := by rw [wrapS (by omega) (by omega)]; omega
   rcases Nat.eq_zero_or_pos i with hi0 | h0
   · obtain ⟨y, hy⟩ : ∃ y, y = x ++ t := ⟨_, rfl⟩
     have hb : y.size = x.size + t.size := by rw [hy]; exact size_append _ _
     obtain ⟨t', q', g1, g2, g3, g4, g5⟩ := ihn' y (by omega) (by omega) (by omega)
     rw [hy] at g1
     refine ⟨t', q', ?_, g2, g3, by omega, by omega⟩
     refine Ev.step' ?_; simp only [spec_l1Draw.l0]
     have hn0 : ¬ (i : Int) > 0 := by rw [hi0]; exact Int.lt_irrefl 0
     have hs1 : x.size + t.size ≤ 9223372036854775807 := by clear g1 h1 g3 g5 h5 hp hy; omega
     refine Ev.pos (Int.ofNat_lt.2 him) (Ev.neg hn0 ?_)
     rw [ed, ei]
     exact Ev.bind h1 (Ev.pos hs1 g1)
   · obtain ⟨y, hy⟩ : ∃ y, y = (x ++ (⟨#[44]⟩ : ByteArray)) ++ t := ⟨_, rfl⟩
     have hb : y.size = x.size + 1 + t.size := by rw [hy, size_append, size_append, size_one]
     obtain ⟨t', q', g1, g2, g3, g4, g5⟩ := ihn' y (by omega) (by omega) (by omega)
     rw [hy] at g1
     refine ⟨t', q', ?_, g2, g3, by omega, by omega⟩
     refine Ev.step' ?_; simp only [spec_l1Draw.l0]
     have hp0 : (i : Int) > 0 := Int.ofNat_lt.2 h0
     have hs0 : x.size + 1 ≤ 9223372036854775807 := by clear g1 h1 g3 g5 h5 hp hy; omega
     have hs1 : x.size + 1 + t.size ≤ 9223372036854775807 := by clear g1 h1 g3 g5 h5 hp hy; omega
     refine Ev.pos (Int.ofNat_lt.2 him) (Ev.pos hp0 (Ev.pos hs0 ?_))
     rw [ed, ei]
     exact Ev.bind h1 (Ev.pos hs1 g1)
theorem draw_is : ∀ d, d ≤ 3 → DrawIs d
 | 0, _ => by
   intro l p hl hp0
   have hp : p ≤ 99999990000 := hp0
   obtain ⟨v, h1, h2, _⟩ := pick_is hl p (by omega) 9
   obtain ⟨w, hw, h3⟩ := num_is hl (p + 1) (by omega) [1, 0, 2, 3, v, 5, 10006, 100] (by simp)
   have hv := h2 (by omega)
   have hw2 : 0 ≤ w ∧ w ≤ 10006 := by simp at hw; omega
   obtain ⟨m, rfl⟩ : ∃ m : Nat, w = (m : Int) := ⟨w.toNat, by omega⟩
   have hlen := dec_len 5 m (by omega) (by omega)
   have hpos := List.length_pos_iff.2 (dec_ne m)
   refine ⟨BA (Lib.decDigits m), p + 1 + 1, ?_, by rw [BA_size]; omega, by rw [BA_size]; show _ ≤ 5; omega, by omega, by show _ ≤ p + 2; omega⟩
   refine Ev.step' ?_; simp only [spec_l1Draw.f]
   exact Ev.pos (by first | trivial | rfl) (Ev.bind h1 (Ev.bind h3 (Ev.bind (l13Dec_is m (by omega)) (Ev.val rfl))))
 | d + 1, hd => by
   have ih := draw_is d (by omega)
   intro l p hl hp
   have hz := szD_le (d := d) (by omega)
   have hc1 := cap_ok (d := d) (by omega)
   have hc2 := cap_in (d := d) (by omega)
   obtain ⟨v, hv, h1⟩ := num_is hl p (by omega) [2, 0, 1, 3, 4] (by simp)
   have hv2 : 0 ≤ v ∧ v ≤ 4 := by simp at hv; omega
   obtain ⟨m, rfl⟩ : ∃ m : Nat, v = (m : Int) := ⟨v.toNat, by omega⟩
   have hm0 : m * stD d ≤ 4 * stD d := Nat.mul_le_mul_right _ (by omega)
   have hcap : p + 1 + m * stD d ≤ capD d := by omega
   obtain ⟨t, q, g1, g2, g3, g4, g5⟩ := draw_l0 d (by omega) (szD d) (stD d) (capD d) (cap_in (by omega)).2 hz.1 hz.2 l hl (fun p hp => ih l p hl hp) m (by omega) (2 + m * (szD d + 1)) (fun i hi => by rw [hi]; exact Nat.le_refl _) m 0 (⟨#[91]⟩ : ByteArray) (p + 1) (by omega) (Nat.le_refl 1) (Nat.le_add_right 1 _) hcap
   have hm1 : m * (szD d + 1) ≤ 4 * (szD d + 1) := Nat.mul_le_mul_right _ (by omega)
   have hm2 : m * stD d ≤ 4 * stD d := Nat.mul_le_mul_right _ (by omega)
   refine ⟨t, q, ?_, g2, by show _ ≤ 2 + 4 * (szD d + 1); omega, by omega, by show _ ≤ p + (1 + 4 * stD d); omega⟩
   refine Ev.step' ?_; simp only [spec_l1Draw.f]
   exact Ev.neg (by omega) (Ev.bind h1 g1)
end Go.Proofs.YtoloblgjlnhioaaGreatDoor.I
namespace Go.Proofs.YtoloblgjlnhioaaGreatDoor.I
open Go.RowKit Go.Proofs.YtoloblgjlnhioaaGreatDoorW.PrintWords Go.Proofs.YtoloblgjlnhioaaGreatDoorW.PrintLast Go.Proofs.YtoloblgjlnhioaaGreatDoorW.PrintMore Go.Proofs.YtoloblgjlnhioaaGreatDoor.Q
set_option linter.unusedSimpArgs false
set_option linter.unusedVariables false

theorem of_is {l : List Int} (h : Bs l) (p : Nat) (hp : p ≤ 1000000000000) (xs : List ByteArray) (hx : 1 ≤ xs.length) : ∃ v ∈ xs, Ev (fun k => spec_l13Rd_of.f k l (p : Int) xs) (v, ((p + 1 : Nat) : Int)) := by
 obtain ⟨v, h1, h2, _⟩ := pick_is h p hp (xs.length : Int)
 have hv := h2 (by omega)
 obtain ⟨m, rfl⟩ : ∃ m : Nat, v = (m : Int) := ⟨v.toNat, by omega⟩
 have hm : m < xs.length := by omega
 refine ⟨xs[m], List.getElem_mem hm, ?_⟩
 unfold spec_l13Rd_of.f
 refine Ev.bind h1 (Ev.pos hv.1 (Ev.pos hv.2 (Ev.val ?_)))
 have : rdOf ByteArray.empty xs (m : Int) = xs[m] := by
   unfold rdOf
   rw [Int.toNat_natCast, List.getD_eq_getElem?_getD, List.getElem?_eq_getElem hm]
   rfl
 rw [this]
theorem dep_inS (dp : Int) (h1 : -1 ≤ dp) (h2 : dp ≤ 4) : ∃ e : Nat, e ≤ 2 ∧ mx (mn dp 2) 0 = (e : Int) := by
 refine ⟨(mx (mn dp 2) 0).toNat, ?_, ?_⟩
 · unfold mx mn
   split <;> split <;> omega
 · unfold mx mn
   split <;> split <;> omega
/-- A sign, some parts, a depth. -/
def DrawnS (r : ByteArray × List ByteArray × Int) : Prop := ∃ (s : By) (ts : List By) (dp : Int), r = (BA s, ts.map BA, dp) ∧ ts.length ≤ 2
theorem drawS_j1 {l : List Int} (hl : Bs l) (s : By) (dp : Int) (ts : List By) (ht : ts.length ≤ 2) (ht1 : 1 ≤ ts.length) (p : Nat) (hp : p ≤ 1000000) : ∃ r, Ev (fun k => spec_DrawApplySign.j1 k (BA s) dp (ts.map BA) l (p : Int)) r ∧ DrawnS r := by
 obtain ⟨v, h1, h2, _⟩ := pick_is hl p (by omega) 20
 obtain ⟨v2, h3, h4, _⟩ := pick_is hl (p + 1) (by omega) 2
 have hv2 := h4 (by omega)
 by_cases h0 : v = 0
 · refine ⟨(BA s, (ts.take v2.toNat).map BA, dp), ?_, s, ts.take v2.toNat, dp, rfl, by rw [List.length_take]; omega⟩
   refine Ev.step' ?_; simp only [spec_DrawApplySign.j1]
   refine Ev.bind h1 (Ev.pos h0 (Ev.bind h3 (Ev.pos hv2.1 (Ev.pos ?_ (Ev.val ?_)))))
   · rw [List.length_map]; omega
   · rw [List.map_take]
 · refine ⟨(BA s, ts.map BA, dp), ?_, s, ts, dp, rfl, ht⟩
   refine Ev.step' ?_; simp only [spec_DrawApplySign.j1]
   exact Ev.bind h1 (Ev.neg h0 (Ev.now _))
theorem drawS_j0 {l : List Int} (hl : Bs l) (s : By) (dp : Int) (t : By) (b : Bool) (p : Nat) (hp : p ≤ 10000) : ∃ r, Ev (fun k => spec_DrawApplySign.j0 k (BA s) dp [BA t] b l (p : Int)) r ∧ DrawnS r := by
 cases b with
 | false =>
   obtain ⟨r, h1, h2⟩ := drawS_j1 hl s dp [t] (by simp) (by simp) p (by omega)
   refine ⟨r, ?_, h2⟩
   refine Ev.step' ?_; simp only [spec_DrawApplySign.j0]
   exact Ev.neg (by simp) h1
 | true =>
   obtain ⟨v, hv, h1⟩ := num_is hl p (by omega) [0, 0, 0, 0, 1] (by simp)
   obtain ⟨e, he, rfl⟩ : ∃ e : Nat, e ≤ 1 ∧ v = (e : Int) := by
     simp at hv
     exact ⟨v.toNat, by omega, by omega⟩
   have hc := cap_in (d := e) (by omega)
   obtain ⟨t2, q, h2, _, _, hq1, hq2⟩ := draw_is e (by omega) l (p + 1) hl (by omega)
   have hst := (szD_le (d := e) (by omega)).2
   obtain ⟨t2', rfl, _⟩ := BA_of t2
   obtain ⟨r, h3, h4⟩ := drawS_j1 hl s dp [t, t2'] (by simp) (by simp) q (by omega)
   refine ⟨r, ?_, h4⟩
   refine Ev.step' ?_; simp only [spec_DrawApplySign.j0]
   exact Ev.pos (by first | trivial | rfl) (Ev.bind h1 (Ev.bind h2 (Ev.pos (by simp) h3)))
theorem drawS_is (l : List Int) (h : ∀ x ∈ l, (Lit.int .u8 x).wf = true) : ∃ (s : By) (ts : List By) (dp : Int), Ev (fun k => spec_DrawApplySign.f k l) (BA s, ts.map BA, dp) ∧ ts.length ≤ 2 := by
 obtain ⟨l', ho, hl⟩ := open_is l h
 obtain ⟨sb, hsb, h1⟩ := of_is hl 0 (by omega) [(⟨#[83]⟩ : ByteArray), (⟨#[77]⟩ : ByteArray), (⟨#[73]⟩ : ByteArray), (⟨#[78]⟩ : ByteArray), (⟨#[82]⟩ : ByteArray), (⟨#[67]⟩ : ByteArray), (⟨#[80]⟩ : ByteArray), (⟨#[43]⟩ : ByteArray), (⟨#[42]⟩ : ByteArray), (⟨#[94]⟩ : ByteArray), (⟨#[45]⟩ : ByteArray), (⟨#[61]⟩ : ByteArray), (⟨#[60]⟩ : ByteArray), (⟨#[64]⟩ : ByteArray), (⟨#[91]⟩ : ByteArray), (⟨#[]⟩ : ByteArray), (⟨#[113]⟩ : ByteArray)] (by simp)
 have hsz : sb.size ≤ 1 := by
   simp only [List.mem_cons, List.not_mem_nil, or_false] at hsb
   rcases hsb with rfl | rfl | rfl | rfl | rfl | rfl | rfl | rfl | rfl | rfl | rfl | rfl | rfl | rfl | rfl | rfl | rfl <;> decide
 obtain ⟨s, rfl, hs⟩ := BA_of sb
 obtain ⟨v, hv, h2⟩ := num_is hl 1 (by omega) [1, 0, 2, 1, 3, 0, 4, -1] (by simp)
 have hv' : -1 ≤ v ∧ v ≤ 4 := by
   simp at hv
   omega
 obtain ⟨e, he, hee⟩ := dep_inS v hv'.1 hv'.2
 have hc := cap_in (d := e) (by omega)
 obtain ⟨tb, q, h3, _, _, hq1, hq2⟩ := draw_is e (by omega) l' 2 hl (by omega)
 have hst := (szD_le (d := e) (by omega)).2
 obtain ⟨t, rfl, _⟩ := BA_of tb
 have hbt : bt (BA s ++ (⟨#[83]⟩ : ByteArray)) 0 = (((s ++ [83]).getD 0 0).toNat : Int) := by
   rw [show (⟨#[83]⟩ : ByteArray) = BA [83] from rfl, BA_append]
   exact bt_BA _ _
 obtain ⟨f, hf, _⟩ := find_is [43, 42, 94, 45, 61, 60, 64] (by decide) ((s ++ [83]).getD 0 0)
 rw [← hbt] at hf
 suffices hh : ∃ r, Ev (fun k => if (f : Int) ≥ 0 then (spec_DrawApplySign.j0 k (BA s) v [BA t] true l' (q : Int)) else ((spec_l13Rd_pick.f k l' (q : Int) 12).bind fun b => (spec_DrawApplySign.j0 k (BA s) v [BA t] (b.1 == 0) l' b.2))) r ∧ DrawnS r by
   obtain ⟨r, hr, s', ts, dp, rfl, ht⟩ := hh
   refine ⟨s', ts, dp, ?_, ht⟩
   unfold spec_DrawApplySign.f
   refine Ev.call ho (Ev.bind h1 (Ev.bind h2 (Ev.bind (a := (BA t, (q : Int))) ?_ (Ev.call rfl (Ev.pos (by show (BA s).size + 1 ≤ _; omega) (Ev.pos (by show 0 < ((BA s).size : Int) + 1; omega) (Ev.bind hf hr)))))))
   rw [hee]
   exact h3
 by_cases h0 : f ≥ 0
 · obtain ⟨r, hr, hd⟩ := drawS_j0 hl s v t true q (by omega)
   exact ⟨r, Ev.pos h0 hr, hd⟩
 · obtain ⟨z, h4, _⟩ := pick_is hl q (by omega) 12
   obtain ⟨r, hr, hd⟩ := drawS_j0 hl s v t (z == 0) (q + 1) (by omega)
   exact ⟨r, Ev.neg h0 (Ev.bind h4 hr), hd⟩
end Go.Proofs.YtoloblgjlnhioaaGreatDoor.I
namespace Go.Proofs.YtoloblgjlnhioaaGreatDoor.I
open Go.RowKit Go.Proofs.YtoloblgjlnhioaaGreatDoorW.PrintWords Go.Proofs.YtoloblgjlnhioaaGreatDoorW.PrintLast Go.Proofs.YtoloblgjlnhioaaGreatDoorW.PrintMore Go.Proofs.YtoloblgjlnhioaaGreatDoor.Q
set_option linter.unusedSimpArgs false
set_option linter.unusedVariables false

/-! ### plain -/
theorem join_mem (f : Tr → By) : ∀ (xs : List Tr) (x : Tr), x ∈ xs → (f x).length ≤ (Lib.join (xs.map f) [44]).length
 | [y], x, h => by
   obtain rfl := List.mem_singleton.1 h
   rw [List.map_cons, List.map_nil, join_one]
   exact Nat.le_refl _
 | y :: z :: l, x, h => by
   rw [List.map_cons, List.map_cons, join_cons, List.length_append, List.length_cons]
   rcases List.mem_cons.1 h with rfl | h
   · omega
   · have := join_mem f (z :: l) x h
     rw [List.map_cons] at this
     omega
theorem text_part {d : Nat} {t x : Tr} (h : x ∈ t.parts) : (text d x).length ≤ (text (d + 1) t).length := by
 have := join_mem (text d) t.parts x h
 show _ ≤ (91 :: (Lib.join (t.parts.map (text d)) [44] ++ [93])).length
 rw [List.length_cons, List.length_append]
 omega
theorem part_read {d : Nat} {t x : Tr} (ht : Ok (d + 1) t) (hl : (text (d + 1) t).length ≤ 400) (h : x ∈ t.parts) : readD d (text d x) = some x :=
 readD_text (ht.2 x h) (Nat.le_trans (text_part h) hl)
/-- The text of an array of parts. -/
def joined (ts : List By) : By := 91 :: (Lib.join ts [44] ++ [93])
theorem text_mk (d : Nat) (vs : List Tr) : text (d + 1) ⟨0, vs⟩ = joined (vs.map (text d)) := rfl
def allR (d : Nat) (ts : List By) : Bool := ts.all fun t => (readD d t).isSome
def vsOf (d : Nat) (ts : List By) : List Tr := ts.filterMap (readD d)
theorem vsOf_text {d : Nat} : ∀ {ts : List By}, allR d ts = true → (vsOf d ts).map (text d) = ts
 | [], _ => rfl
 | t :: ts, h => by
   simp only [allR, List.all_cons, Bool.and_eq_true] at h
   obtain ⟨v, hv⟩ := Option.isSome_iff_exists.1 h.1
   have ih := vsOf_text (ts := ts) h.2
   rw [vsOf, List.filterMap_cons, hv]
   show text d v :: (vsOf d ts).map (text d) = _
   rw [ih, ← (readD_ok hv).1]
theorem vsOf_ok {d : Nat} {ts : List By} {x : Tr} (h : x ∈ vsOf d ts) : Ok d x ∧ (text d x).length ≤ 400 := by
 obtain ⟨t, _, ht⟩ := List.mem_filterMap.1 h
 obtain ⟨h1, h2, h3⟩ := readD_ok ht
 exact ⟨h2, by rw [← h1]; exact h3⟩
theorem vsOf_map {d : Nat} : ∀ {vs : List Tr}, (∀ x ∈ vs, readD d (text d x) = some x) → allR d (vs.map (text d)) = true ∧ vsOf d (vs.map (text d)) = vs
 | [], _ => ⟨rfl, rfl⟩
 | x :: vs, h => by
   have h1 := h x (by simp)
   obtain ⟨h2, h3⟩ := vsOf_map (vs := vs) (fun y hy => h y (List.mem_cons_of_mem _ hy))
   constructor
   · simp only [allR, List.map_cons, List.all_cons, h1, Option.isSome_some, Bool.true_and]
     exact h2
   · rw [vsOf, List.map_cons, List.filterMap_cons, h1]
     show x :: vsOf d _ = _
     rw [h3]
theorem mk_ok {d : Nat} {vs : List Tr} (h : ∀ x ∈ vs, Ok d x) : Ok (d + 1) ⟨0, vs⟩ := ⟨rfl, h⟩
theorem mk_nodes {d : Nat} {vs : List Tr} (h : ∀ x ∈ vs, (text d x).length ≤ 400) (hv : vs.length ≤ 1000000) : nodes (d + 1) ⟨0, vs⟩ ≤ 1000000000 := by
 have : ∀ xs : List Tr, (∀ x ∈ xs, (text d x).length ≤ 400) → (xs.map (nodes d)).sum ≤ xs.length * 400 := by
   intro xs
   induction xs with
   | nil => intro _; simp
   | cons x l ih =>
     intro h
     have h1 := h x (by simp)
     have h2 := ih (fun y hy => h y (List.mem_cons_of_mem _ hy))
     have h3 := nodes_le_text d x
     rw [List.map_cons, List.sum_cons, List.length_cons, Nat.add_mul]
     omega
 have h1 := this vs h
 show 1 + (vs.map (nodes d)).sum ≤ _
 have h2 := Nat.mul_le_mul_right 400 hv
 omega
/-- What an array of parts is told as. -/
def makeR (d : Nat) (ts : List By) : ByteArray × Bool := if allR d ts = true then told (joined ts) else (BA [], false)
theorem makeR_map {d : Nat} {vs : List Tr} (h : ∀ x ∈ vs, readD d (text d x) = some x) : makeR d (vs.map (text d)) = told (text (d + 1) ⟨0, vs⟩) := by
 rw [makeR, if_pos (vsOf_map h).1, text_mk]
theorem makeR_parts {d : Nat} {l : By} {v : Tr} (h : readD (d + 1) l = some v) : makeR d (v.parts.map (text d)) = (BA l, true) := by
 obtain ⟨h1, h2, h3⟩ := readD_ok h
 have h4 : (⟨0, v.parts⟩ : Tr) = v := by
   have := h2.1
   cases v
   simp only at this
   subst this
   rfl
 rw [makeR_map (fun x hx => part_read h2 (by rw [← h1]; exact h3) hx), h4, ← h1, told, if_pos h3]
/-- The parts of an array, as the document says. -/
def partsR (d : Nat) (l : By) : Option (List By) := (readD (d + 1) l).map fun v => v.parts.map (text d)
theorem makeR_read {d : Nat} {ts : List By} {m : ByteArray} (h : makeR d ts = (m, true)) : m = BA (joined ts) ∧ partsR d (joined ts) = some ts := by
 unfold makeR told at h
 split at h
 · next ha =>
   split at h
   · next hl =>
     simp only [Prod.mk.injEq, and_true] at h
     refine ⟨h.symm, ?_⟩
     have e := vsOf_text ha
     have e2 : joined ts = text (d + 1) ⟨0, vsOf d ts⟩ := by rw [text_mk, e]
     rw [partsR, e2, readD_text (mk_ok (fun x hx => (vsOf_ok hx).1)) (by rw [← e2]; exact hl)]
     exact congrArg some e
   · cases h
 · cases h
def resP : Option (List By) → List ByteArray × Bool
 | none => ([], false)
 | some ts => (ts.map BA, true)

/-! ### PartsOf -/
theorem partsA_l0 (d : Nat) (hd : d ≤ 2) (t : Tr) (hs : Sh (d + 1) t) (hn : nodes (d + 1) t ≤ 1000000000) :
   ∀ (n i : Nat), t.parts.length - i = n → i ≤ t.parts.length → Ev (fun k => impl_PartsOf.l0 k ((d + 1 : Nat) : Int) ((t.parts.take i).map fun x => BA (text d x)) (t.parts.map (cA d)) ((t.parts.map (cA d)).length : Int) (i : Int)) (t.parts.map (fun x => BA (text d x)), true) := by
 have hpl := parts_len d t
 intro n
 induction n with
 | zero =>
   intro i h hi
   refine Ev.step' ?_; simp only [impl_PartsOf.l0]
   rw [List.take_of_length_le (by omega)]
   exact Ev.neg (by rw [List.length_map]; omega) (Ev.val rfl)
 | succ n ihn =>
   intro i h hi
   have hlt : i < t.parts.length := by omega
   have hm : t.parts[i] ∈ t.parts := List.getElem_mem hlt
   have hx := textA_is d (by omega) t.parts[i] (hs _ hm) (by have := nodes_part (d := d) hm; omega)
   have hg : rd_T68 (t.parts.map (cA d)) (i : Int) = cA d t.parts[i] := getD_map _ _ _ _ hlt
   have hnext := ihn (i + 1) (by omega) (by omega)
   rw [take_snoc _ _ hlt, List.map_append] at hnext
   refine Ev.step' ?_; simp only [impl_PartsOf.l0]
   refine Ev.pos (by rw [List.length_map]; omega) (Ev.pos (by omega) (Ev.pos (by rw [List.length_map]; omega) ?_))
   rw [hg, show wrap64 (((d + 1 : Nat) : Int) - 1) = (d : Int) by rw [wrapS (by omega) (by omega)]; omega, wrapS (a := (i : Int) + 1) (by omega) (by omega)]
   exact Ev.bind hx (Ev.pos (by rw [List.length_map, List.length_take]; omega) hnext)
theorem map_BA (d : Nat) (xs : List Tr) : (xs.map fun x => BA (text d x)) = (xs.map (text d)).map BA := by rw [List.map_map]; rfl
theorem partsA_bad (x1 : Int) (m : Int) (ps : List NA) : Ev (fun k => impl_PartsOf.j0 k x1 true m ps) (([] : List ByteArray), false) := by
 refine Ev.step' ?_; simp only [impl_PartsOf.j0]
 exact Ev.pos (by first | trivial | rfl) (Ev.now _)
theorem partsA_is (d : Nat) (hd : d ≤ 2) (l : By) : Ev (fun k => impl_PartsOf.f k (BA l) ((d + 1 : Nat) : Int)) (resP (partsR d l)) := by
 obtain ⟨t, h1, h2, h3, h4⟩ := arrOf_is (d + 1) (by omega) l
 unfold impl_PartsOf.f partsR
 refine Ev.bind h1 ?_
 cases hq : readD (d + 1) l with
 | none => exact Ev.neg (by simp) (partsA_bad _ _ _)
 | some v =>
   obtain rfl := h4 v hq
   refine Ev.pos (by first | trivial | rfl) ?_
   rw [show (((d + 1 : Nat) : Int) == 0) = false by simp; omega]
   refine Ev.step' ?_; simp only [impl_PartsOf.j0]
   have := partsA_l0 d hd t (Sh.of h2) (by have := nodes_le_text (d + 1) t; omega) _ 0 rfl (by omega)
   rw [map_BA d t.parts] at this
   exact Ev.neg (by simp) this
theorem partsA_out (dp : Int) (h : dp < 1 ∨ 3 < dp) (l : By) : Ev (fun k => impl_PartsOf.f k (BA l) dp) (([] : List ByteArray), false) := by
 unfold impl_PartsOf.f
 by_cases h0 : dp = 0
 · subst h0
   obtain ⟨t, h1, h2, h3, h4⟩ := arrOf_is 0 (by omega) l
   refine Ev.bind h1 ?_
   cases hq : readD 0 l with
   | none => exact Ev.neg (by simp) (partsA_bad _ _ _)
   | some v => exact Ev.pos (by first | trivial | rfl) (partsA_bad _ _ _)
 · exact Ev.bind (arrOf_out dp (by omega) _) (Ev.neg (by simp) (partsA_bad _ _ _))
/-! ### LengthOf -/
def lenR : Option (List By) → Int
 | none => -1
 | some ts => (ts.length : Int)
theorem lenA_is (d : Nat) (hd : d ≤ 2) (l : By) : Ev (fun k => impl_LengthOf.f k (BA l) ((d + 1 : Nat) : Int)) (lenR (partsR d l)) := by
 have h := partsA_is d hd l
 unfold impl_LengthOf.f
 cases hp : partsR d l with
 | none =>
   rw [hp] at h
   exact Ev.bind h (Ev.neg (by simp [resP]) (Ev.now _))
 | some ts =>
   rw [hp] at h
   refine Ev.bind h (Ev.pos (by first | trivial | rfl) (Ev.val ?_))
   show ((ts.map BA).length : Int) = _
   rw [List.length_map]
   rfl
theorem lenA_out (dp : Int) (h : dp < 1 ∨ 3 < dp) (l : By) : Ev (fun k => impl_LengthOf.f k (BA l) dp) (-1) := by
 unfold impl_LengthOf.f
 exact Ev.bind (partsA_out dp h l) (Ev.neg (by simp) (Ev.now _))
end Go.Proofs.YtoloblgjlnhioaaGreatDoor.I
namespace Go.Proofs.YtoloblgjlnhioaaGreatDoor.I
open Go.RowKit Go.Proofs.YtoloblgjlnhioaaGreatDoorW.PrintWords Go.Proofs.YtoloblgjlnhioaaGreatDoorW.PrintLast Go.Proofs.YtoloblgjlnhioaaGreatDoorW.PrintMore Go.Proofs.YtoloblgjlnhioaaGreatDoor.Q
set_option linter.unusedSimpArgs false
set_option linter.unusedVariables false

theorem rdOf_at {ts : List By} {i : Nat} (h : i < ts.length) : rdOf ByteArray.empty (ts.map BA) (i : Int) = BA ts[i] := by
 unfold rdOf
 rw [Int.toNat_natCast, List.getD_eq_getElem?_getD, List.getElem?_map, List.getElem?_eq_getElem h]
 rfl
theorem allR_snoc {d : Nat} {ts : List By} {i : Nat} (h : i < ts.length) : allR d (ts.take (i + 1)) = (allR d (ts.take i) && (readD d ts[i]).isSome) := by
 rw [allR, take_snoc _ _ h, List.all_append]
 simp [allR]
theorem allR_at {d : Nat} {ts : List By} {i : Nat} (h : i < ts.length) (hn : (readD d ts[i]).isSome = false) : allR d ts = false := by
 by_cases ha : allR d ts = true
 · have := List.all_eq_true.1 ha ts[i] (List.getElem_mem h)
   rw [hn] at this
   cases this
 · simpa using ha
theorem join_bound : ∀ (ts : List By), (∀ t ∈ ts, t.length ≤ 400) → (Lib.join ts [44]).length ≤ ts.length * 401
 | [], _ => by simp [join_nil]
 | [x], h => by
   have := h x (by simp)
   rw [join_one]
   simp
   omega
 | x :: y :: l, h => by
   have h1 := h x (by simp)
   have h2 := join_bound (y :: l) (fun z hz => h z (List.mem_cons_of_mem _ hz))
   rw [join_cons, List.length_append, List.length_cons, List.length_cons, Nat.add_mul]
   omega
theorem allR_len {d : Nat} {ts : List By} (h : allR d ts = true) : ∀ t ∈ ts, t.length ≤ 400 := by
 intro t ht
 obtain ⟨v, hv⟩ := Option.isSome_iff_exists.1 (List.all_eq_true.1 h t ht)
 exact (readD_ok hv).2.2
theorem join_call {ts : List By} (hl : ts.length ≤ 1000000) (h : ∀ t ∈ ts, t.length ≤ 400) : strings_Join.f (ts.map BA) (⟨#[44]⟩ : ByteArray) = some (BA (Lib.join ts [44])) := by
 have e : (ts.map BA).map (·.data.toList) = ts := by
   rw [List.map_map]
   conv => rhs; rw [← List.map_id ts]
   apply List.map_congr_left
   intro x _
   exact data_BA _
 have h1 := join_bound ts h
 have h2 := Nat.mul_le_mul_right 401 hl
 unfold strings_Join.f
 rw [e, if_pos (by rw [List.length_map]; omega), if_pos (by show (Lib.join ts [44]).length ≤ _; omega)]
 rfl
theorem validA_is (d : Nat) (hd : d ≤ 3) (l : By) : Ev (fun k => impl_ArrayValid.f k (BA l) (d : Int)) (readD d l).isSome := by
 obtain ⟨t, h1, _⟩ := arrOf_is d hd l
 unfold impl_ArrayValid.f
 exact Ev.bind h1 (Ev.now _)
theorem validA_out (dp : Int) (h : dp < 0 ∨ 3 < dp) (s : ByteArray) : Ev (fun k => impl_ArrayValid.f k s dp) false := by
 unfold impl_ArrayValid.f
 exact Ev.bind (arrOf_out dp h s) (Ev.now _)
theorem joined_is (ts : List By) : ((⟨#[91]⟩ : ByteArray) ++ BA (Lib.join ts [44])) ++ (⟨#[93]⟩ : ByteArray) = BA (joined ts) := by
 show (BA [91] ++ BA _) ++ BA [93] = _
 rw [BA_append, BA_append]
 rfl
theorem makeA_l0 (d : Nat) (hd : d ≤ 2) (ts : List By) (hl : ts.length ≤ 1000000) : ∀ (n i : Nat), ts.length - i = n → i ≤ ts.length → allR d (ts.take i) = true →
   Ev (fun k => impl_MakeArray.l0 k (ts.map BA) ((d + 1 : Nat) : Int) (ts.map BA) ((ts.map BA).length : Int) (i : Int)) (makeR d ts) := by
 intro n
 induction n with
 | zero =>
   intro i h hi ha
   rw [List.take_of_length_le (by omega)] at ha
   have hj := allR_len ha
   have h1 := join_bound ts hj
   have h2 := Nat.mul_le_mul_right 401 hl
   have h3 : (joined ts).length = (Lib.join ts [44]).length + 2 := by simp [joined]
   refine Ev.step' ?_; simp only [impl_MakeArray.l0]
   refine Ev.neg (by rw [List.length_map]; omega) (Ev.call (join_call hl hj) ?_)
   rw [joined_is, makeR, if_pos ha, told]
   refine Ev.pos (by rw [BA_size]; omega) (Ev.pos (by rw [BA_size]; omega) ?_)
   by_cases h4 : (joined ts).length ≤ 400
   · rw [if_pos h4]
     exact Ev.neg (by rw [BA_size]; omega) (Ev.now _)
   · rw [if_neg h4]
     exact Ev.pos (by rw [BA_size]; omega) (Ev.now _)
 | succ n ihn =>
   intro i h hi ha
   have hlt : i < ts.length := by omega
   have hv := validA_is d (by omega) ts[i]
   refine Ev.step' ?_; simp only [impl_MakeArray.l0]
   refine Ev.pos (by rw [List.length_map]; omega) (Ev.pos (by omega) (Ev.pos (by rw [List.length_map]; omega) ?_))
   rw [rdOf_at hlt, show wrap64 (((d + 1 : Nat) : Int) - 1) = (d : Int) by rw [wrapS (by omega) (by omega)]; omega, wrapS (a := (i : Int) + 1) (by omega) (by omega)]
   refine Ev.bind hv ?_
   by_cases hs : (readD d ts[i]).isSome = true
   · exact Ev.pos hs (ihn (i + 1) (by omega) (by omega) (by rw [allR_snoc hlt, ha, hs]; rfl))
   · refine Ev.neg hs (Ev.val ?_)
     rw [makeR, if_neg (by rw [allR_at hlt (by simpa using hs)]; simp)]
     rfl
theorem makeA_is (d : Nat) (hd : d ≤ 2) (ts : List By) (hl : ts.length ≤ 1000000) : Ev (fun k => impl_MakeArray.f k (ts.map BA) ((d + 1 : Nat) : Int)) (makeR d ts) := by
 unfold impl_MakeArray.f
 refine Ev.neg (by omega) ?_
 rw [show decide (((d + 1 : Nat) : Int) > 3) = false by rw [decide_eq_false_iff_not]; omega]
 refine Ev.step' ?_; simp only [impl_MakeArray.j0]
 exact Ev.neg (by simp) (makeA_l0 d hd ts hl _ 0 rfl (by omega) rfl)
theorem makeA_out (dp : Int) (h : dp < 1 ∨ 3 < dp) (xs : List ByteArray) : Ev (fun k => impl_MakeArray.f k xs dp) (BA [], false) := by
 have hbad : Ev (fun k => impl_MakeArray.j0 k xs dp true) (BA [], false) := by
   refine Ev.step' ?_; simp only [impl_MakeArray.j0]
   exact Ev.pos (by first | trivial | rfl) (Ev.now _)
 unfold impl_MakeArray.f
 by_cases h1 : dp < 1
 · exact Ev.pos h1 hbad
 · refine Ev.neg h1 ?_
   rw [show decide (dp > 3) = true by rw [decide_eq_true_iff]; omega]
   exact hbad
end Go.Proofs.YtoloblgjlnhioaaGreatDoor.I
namespace Go.Proofs.YtoloblgjlnhioaaGreatDoor.I
open Go.RowKit Go.Proofs.YtoloblgjlnhioaaGreatDoorW.PrintWords Go.Proofs.YtoloblgjlnhioaaGreatDoorW.PrintLast Go.Proofs.YtoloblgjlnhioaaGreatDoorW.PrintMore Go.Proofs.YtoloblgjlnhioaaGreatDoor.Q
set_option linter.unusedSimpArgs false
set_option linter.unusedVariables false

/-- Parts whose array's text is not too long. -/
def Fit (d : Nat) (vs : List Tr) : Prop := (∀ x ∈ vs, Ok d x) ∧ (text (d + 1) ⟨0, vs⟩).length ≤ 400
theorem fit_read {d : Nat} {vs : List Tr} (h : Fit d vs) : readD (d + 1) (text (d + 1) ⟨0, vs⟩) = some ⟨0, vs⟩ := readD_text (mk_ok h.1) h.2
theorem read_fit {d : Nat} {l : By} {v : Tr} (h : readD (d + 1) l = some v) : ∃ vs, v = ⟨0, vs⟩ ∧ l = text (d + 1) ⟨0, vs⟩ ∧ Fit d vs := by
 obtain ⟨h1, h2, h3⟩ := readD_ok h
 obtain ⟨n, vs⟩ := v
 obtain rfl : n = 0 := h2.1
 exact ⟨vs, rfl, h1, h2.2, by rw [← h1]; exact h3⟩
theorem fit_parts {d : Nat} {vs : List Tr} (h : Fit d vs) : partsR d (text (d + 1) ⟨0, vs⟩) = some (vs.map (text d)) := by
 rw [partsR, fit_read h]
 rfl
theorem fit_part {d : Nat} {vs : List Tr} (h : Fit d vs) {x : Tr} (hx : x ∈ vs) : readD d (text d x) = some x := part_read (t := ⟨0, vs⟩) (mk_ok h.1) h.2 hx
theorem fit_len {d : Nat} {vs : List Tr} (h : Fit d vs) : vs.length ≤ 400 := by
 have h1 := parts_len d ⟨0, vs⟩
 have h2 := nodes_le_text (d + 1) ⟨0, vs⟩
 have h3 := h.2
 simp only at h1
 omega
theorem join_len1 : ∀ (x : By) (xs : List By), (Lib.join (x :: xs) [44]).length + 1 = ((x :: xs).map (fun y => y.length + 1)).sum
 | x, [] => by rw [join_one]; simp
 | x, y :: l => by
   have := join_len1 y l
   rw [join_cons, List.length_append, List.length_cons, List.map_cons, List.sum_cons, ← this]
   omega
theorem sum_rev : ∀ (l : List Nat), l.reverse.sum = l.sum
 | [] => rfl
 | x :: l => by rw [List.reverse_cons, List.sum_append, sum_rev l, List.sum_cons]; simp; omega
theorem join_rev (ts : List By) : (Lib.join ts.reverse [44]).length = (Lib.join ts [44]).length := by
 cases ts with
 | nil => rfl
 | cons x xs =>
   have h1 := join_len1 x xs
   obtain ⟨y, ys, hy⟩ : ∃ y ys, (x :: xs).reverse = y :: ys := by
     cases h : (x :: xs).reverse with
     | nil => simp at h
     | cons y ys => exact ⟨y, ys, rfl⟩
   have h2 := join_len1 y ys
   rw [← hy] at h2
   rw [List.map_reverse, sum_rev] at h2
   omega
theorem text_rev (d : Nat) (vs : List Tr) : (text (d + 1) ⟨0, vs.reverse⟩).length = (text (d + 1) ⟨0, vs⟩).length := by
 rw [text_mk, text_mk, List.map_reverse, joined, joined, List.length_cons, List.length_cons, List.length_append, List.length_append, join_rev]
theorem fit_rev {d : Nat} {vs : List Tr} (h : Fit d vs) : Fit d vs.reverse := ⟨fun x hx => h.1 x (List.mem_reverse.1 hx), by rw [text_rev]; exact h.2⟩
theorem fit_make {d : Nat} {vs : List Tr} (h : Fit d vs) : makeR d (vs.map (text d)) = (BA (text (d + 1) ⟨0, vs⟩), true) := by
 rw [makeR_map (fun x hx => fit_part h hx), told, if_pos h.2]
theorem partsA_fit {d : Nat} (hd : d ≤ 2) {vs : List Tr} (h : Fit d vs) : Ev (fun k => impl_PartsOf.f k (BA (text (d + 1) ⟨0, vs⟩)) ((d + 1 : Nat) : Int)) ((vs.map (text d)).map BA, true) := by
 have := partsA_is d hd (text (d + 1) ⟨0, vs⟩)
 rw [fit_parts h] at this
 exact this
theorem lenA_fit {d : Nat} (hd : d ≤ 2) {vs : List Tr} (h : Fit d vs) : Ev (fun k => impl_LengthOf.f k (BA (text (d + 1) ⟨0, vs⟩)) ((d + 1 : Nat) : Int)) (vs.length : Int) := by
 have := lenA_is d hd (text (d + 1) ⟨0, vs⟩)
 rw [fit_parts h, lenR, List.length_map] at this
 exact this
end Go.Proofs.YtoloblgjlnhioaaGreatDoor.I
namespace Go.Proofs.YtoloblgjlnhioaaGreatDoor.I
open Go.RowKit Go.Proofs.YtoloblgjlnhioaaGreatDoorW.PrintWords Go.Proofs.YtoloblgjlnhioaaGreatDoorW.PrintLast Go.Proofs.YtoloblgjlnhioaaGreatDoorW.PrintMore Go.Proofs.YtoloblgjlnhioaaGreatDoor.Q
set_option linter.unusedSimpArgs false
set_option linter.unusedVariables false

def fl (vs : List Tr) : List Tr := (vs.map (fun x => x.parts)).flatten
theorem join_S : ∀ (L : List By), (Lib.join L [44]).length = (L.map (fun y => y.length + 1)).sum - 1
 | [] => rfl
 | x :: xs => by
   have := join_len1 x xs
   omega
theorem sum_flat : ∀ (R : List (List By)), (R.flatten.map (fun y => y.length + 1)).sum ≤ ((R.map joined).map (fun y => y.length + 1)).sum
 | [] => Nat.le_refl _
 | r :: R => by
   have h1 := sum_flat R
   have h2 := join_S r
   have h3 : (joined r).length = (Lib.join r [44]).length + 2 := by simp [joined]
   rw [List.flatten_cons, List.map_append, List.sum_append, List.map_cons, List.map_cons, List.sum_cons]
   omega
theorem fl_text (d : Nat) (vs : List Tr) : (fl vs).map (text d) = (vs.map (fun x => x.parts.map (text d))).flatten := by
 rw [fl, List.map_flatten, List.map_map]
 rfl
theorem fl_le (d : Nat) (vs : List Tr) : (text (d + 1) ⟨0, fl vs⟩).length ≤ (text (d + 2) ⟨0, vs⟩).length := by
 have e : vs.map (text (d + 1)) = (vs.map (fun x => x.parts.map (text d))).map joined := by
   rw [List.map_map]
   rfl
 have h1 := join_S ((fl vs).map (text d))
 have h2 := join_S (vs.map (text (d + 1)))
 have h3 := sum_flat (vs.map (fun x => x.parts.map (text d)))
 rw [← fl_text, ← e] at h3
 rw [text_mk, text_mk (d + 1), joined, joined, List.length_cons, List.length_cons, List.length_append, List.length_append]
 omega
theorem fit_fl {d : Nat} {vs : List Tr} (h : Fit (d + 1) vs) : Fit d (fl vs) := by
 refine ⟨fun x hx => ?_, Nat.le_trans (fl_le d vs) h.2⟩
 obtain ⟨l, hl, hxl⟩ := List.mem_flatten.1 hx
 obtain ⟨y, hy, rfl⟩ := List.mem_map.1 hl
 exact (h.1 y hy).2 x hxl
theorem fl_nums (d : Nat) : ∀ (vs : List Tr), Q.nums (d + 2) ⟨0, vs⟩ = Q.nums (d + 1) ⟨0, fl vs⟩
 | [] => rfl
 | x :: vs => by
   have ih := fl_nums d vs
   show Q.nums (d + 1) x ++ Q.nums (d + 2) ⟨0, vs⟩ = ((x.parts ++ fl vs).map (Q.nums d)).flatten
   rw [ih, List.map_append, List.flatten_append]
   rfl
theorem fl_snoc (vs : List Tr) (i : Nat) (h : i < vs.length) : fl (vs.take (i + 1)) = fl (vs.take i) ++ vs[i].parts := by
 rw [fl, take_snoc _ _ h, List.map_append, List.flatten_append]
 simp [fl]
theorem fl_take_le (vs : List Tr) (i : Nat) : (fl (vs.take i)).length ≤ (fl vs).length := by
 conv => rhs; rw [fl, ← List.take_append_drop i vs, List.map_append, List.flatten_append, List.length_append]
 exact Nat.le_add_right _ _
theorem fit_nodes {d : Nat} {vs : List Tr} (h : Fit d vs) : Sh (d + 1) ⟨0, vs⟩ ∧ nodes (d + 1) ⟨0, vs⟩ ≤ 1000000000 := by
 have := nodes_le_text (d + 1) ⟨0, vs⟩
 have := h.2
 exact ⟨Sh.of (mk_ok h.1), by omega⟩
theorem flatA_l0 {d : Nat} (hd : d ≤ 1) {vs : List Tr} (h : Fit (d + 1) vs) : ∀ (n i : Nat), vs.length - i = n → i ≤ vs.length →
   Ev (fun k => impl_FlattenOnce.l0 k ((d + 1 + 1 : Nat) : Int) (vs.map (cA (d + 1))) ((vs.map (cA (d + 1))).length : Int) (i : Int) 0 ((fl (vs.take i)).map (cA d))) (BA (text (d + 1) ⟨0, fl vs⟩), true) := by
 have hl := fit_len h
 have hf := fit_fl h
 have hfl := fit_len hf
 obtain ⟨s1, s2⟩ := fit_nodes hf
 have hs := shortA_is (d + 1) (by omega) ⟨0, fl vs⟩ s1 s2
 rw [told, if_pos hf.2] at hs
 intro n
 induction n with
 | zero =>
   intro i hn hi
   refine Ev.step' ?_; simp only [impl_FlattenOnce.l0]
   rw [List.take_of_length_le (by omega), show wrap64 (((d + 1 + 1 : Nat) : Int) - 1) = ((d + 1 : Nat) : Int) by rw [wrapS (by omega) (by omega)]; omega]
   exact Ev.neg (by rw [List.length_map]; omega) (Ev.bind hs (Ev.now _))
 | succ n ihn =>
   intro i hn hi
   have hlt : i < vs.length := by omega
   have hg : rd_T68 (vs.map (cA (d + 1))) (i : Int) = cA (d + 1) vs[i] := getD_map _ _ _ _ hlt
   have hnext := ihn (i + 1) (by omega) (by omega)
   have htk := fl_take_le vs (i + 1)
   rw [fl_snoc vs i hlt, List.length_append] at htk
   rw [fl_snoc vs i hlt, List.map_append] at hnext
   refine Ev.step' ?_; simp only [impl_FlattenOnce.l0]
   refine Ev.pos (by rw [List.length_map]; omega) (Ev.pos (by omega) (Ev.pos (by rw [List.length_map]; omega) ?_))
   rw [hg, wrapS (a := (i : Int) + 1) (by omega) (by omega)]
   refine Ev.pos ?_ hnext
   show ((fl (vs.take i)).map (cA d)).length + (vs[i].parts.map (cA d)).length < _
   rw [List.length_map, List.length_map]
   omega
theorem flatA_fit {d : Nat} (hd : d ≤ 1) {vs : List Tr} (h : Fit (d + 1) vs) : Ev (fun k => impl_FlattenOnce.f k (BA (text (d + 2) ⟨0, vs⟩)) ((d + 1 + 1 : Nat) : Int)) (BA (text (d + 1) ⟨0, fl vs⟩), true) := by
 obtain ⟨t, h1, h2, h3, h4⟩ := arrOf_is (d + 1 + 1) (by omega) (text (d + 2) ⟨0, vs⟩)
 obtain rfl := h4 _ (fit_read h)
 rw [fit_read h] at h1
 unfold impl_FlattenOnce.f
 refine Ev.bind h1 (Ev.pos rfl ?_)
 rw [show decide (((d + 1 + 1 : Nat) : Int) < 2) = false by rw [decide_eq_false_iff_not]; omega]
 refine Ev.step' ?_; simp only [impl_FlattenOnce.j0]
 exact Ev.neg (by simp) (flatA_l0 hd h _ 0 rfl (by omega))
theorem flatA_bad (x1 m : Int) (ps : List NA) : Ev (fun k => impl_FlattenOnce.j0 k x1 true m ps) (BA [], false) := by
 refine Ev.step' ?_; simp only [impl_FlattenOnce.j0]
 exact Ev.pos (by first | trivial | rfl) (Ev.now _)
theorem flatA_none {d : Nat} (hd : d ≤ 3) {l : By} (h : readD d l = none ∨ d < 2) : Ev (fun k => impl_FlattenOnce.f k (BA l) (d : Int)) (BA [], false) := by
 obtain ⟨t, h1, h2, h3, h4⟩ := arrOf_is d hd l
 unfold impl_FlattenOnce.f
 refine Ev.bind h1 ?_
 cases hq : readD d l with
 | none => exact Ev.neg (by simp) (flatA_bad _ _ _)
 | some v =>
   rcases h with h | h
   · rw [h] at hq; cases hq
   · refine Ev.pos rfl ?_
     rw [show decide ((d : Int) < 2) = true by rw [decide_eq_true_iff]; omega]
     exact flatA_bad _ _ _
theorem flatA_out (dp : Int) (h : dp < 0 ∨ 3 < dp) (l : By) : Ev (fun k => impl_FlattenOnce.f k (BA l) dp) (BA [], false) := by
 unfold impl_FlattenOnce.f
 exact Ev.bind (arrOf_out dp h _) (Ev.neg (by simp) (flatA_bad _ _ _))
end Go.Proofs.YtoloblgjlnhioaaGreatDoor.I
namespace Go.Proofs.YtoloblgjlnhioaaGreatDoor.I
open Go.RowKit Go.Proofs.YtoloblgjlnhioaaGreatDoorW.PrintWords Go.Proofs.YtoloblgjlnhioaaGreatDoorW.PrintLast Go.Proofs.YtoloblgjlnhioaaGreatDoorW.PrintMore Go.Proofs.YtoloblgjlnhioaaGreatDoor.Q
set_option linter.unusedSimpArgs false
set_option linter.unusedVariables false

theorem faSame_l0 (l : List Int) (hl : l.length ≤ 1000000000) : ∀ (n i : Nat), l.length - i = n → i ≤ l.length → Ev (fun k => laws_faSame.l0 k l l (l.length : Int) (i : Int)) true := by
 intro n
 induction n with
 | zero =>
   intro i h hi
   refine Ev.step' ?_; simp only [laws_faSame.l0]
   exact Ev.neg (by omega) (Ev.val (by simp))
 | succ n ih =>
   intro i h hi
   refine Ev.step' ?_; simp only [laws_faSame.l0]
   refine Ev.pos (by omega) (Ev.pos (by omega) (Ev.pos (by omega) (Ev.pos (by omega) (Ev.pos (by first | trivial | rfl) ?_))))
   rw [wrapS (by omega) (by omega)]
   exact ih (i + 1) (by omega) (by omega)
theorem faSame_is (l : List Int) (hl : l.length ≤ 1000000000) : Ev (fun k => laws_faSame.f k l l) true := by
 unfold laws_faSame.f
 rw [show mn (l.length : Int) (l.length : Int) = (l.length : Int) by unfold mn; split <;> rfl]
 exact faSame_l0 l hl _ 0 rfl (by omega)
end Go.Proofs.YtoloblgjlnhioaaGreatDoor.I
namespace Go.Proofs.YtoloblgjlnhioaaGreatDoor.I
open Go.RowKit Go.Proofs.YtoloblgjlnhioaaGreatDoorW.PrintWords Go.Proofs.YtoloblgjlnhioaaGreatDoorW.PrintLast Go.Proofs.YtoloblgjlnhioaaGreatDoorW.PrintMore Go.Proofs.YtoloblgjlnhioaaGreatDoor.Q
set_option linter.unusedSimpArgs false
set_option linter.unusedVariables false

def NumsA (d : Nat) : Prop := ∀ t, nodes d t ≤ 1000000000 → Ev (fun k => impl_arr_numbers.f k (cA d t).f0 (cA d t).f1 (d : Int)) (ints (Q.nums d t))
theorem numsA_l0 (d : Nat) (hd : d ≤ 1000) (ih : NumsA d) (t : Tr) (hn : nodes (d + 1) t ≤ 1000000000) :
   ∀ (n i : Nat), t.parts.length - i = n → i ≤ t.parts.length → Ev (fun k => impl_arr_numbers.l0 k ((d + 1 : Nat) : Int) (ints ((t.parts.take i).map (Q.nums d)).flatten) (t.parts.map (cA d)) ((t.parts.map (cA d)).length : Int) (i : Int)) (ints (Q.nums (d + 1) t)) := by
 have hpl := parts_len d t
 have hnl := nums_le (d + 1) t
 have hnl' : ((t.parts.map (Q.nums d)).flatten).length ≤ nodes (d + 1) t := hnl
 intro n
 induction n with
 | zero =>
   intro i h hi
   refine Ev.step' ?_; simp only [impl_arr_numbers.l0]
   rw [List.take_of_length_le (by omega)]
   exact Ev.neg (by rw [List.length_map]; omega) (Ev.val rfl)
 | succ n ihn =>
   intro i h hi
   have hlt : i < t.parts.length := by omega
   have hm : t.parts[i] ∈ t.parts := List.getElem_mem hlt
   have hx := ih t.parts[i] (by have := nodes_part (d := d) hm; omega)
   have hg : rd_T68 (t.parts.map (cA d)) (i : Int) = cA d t.parts[i] := getD_map _ _ _ _ hlt
   have hf := flat_take_le (Q.nums d) t.parts (i + 1)
   rw [flat_snoc _ _ _ hlt, List.length_append] at hf
   have hnext := ihn (i + 1) (by omega) (by omega)
   rw [flat_snoc _ _ _ hlt] at hnext
   refine Ev.step' ?_; simp only [impl_arr_numbers.l0]
   refine Ev.pos (by rw [List.length_map]; omega) (Ev.pos (by omega) (Ev.pos (by rw [List.length_map]; omega) ?_))
   rw [hg, show wrap64 (((d + 1 : Nat) : Int) - 1) = (d : Int) by rw [wrapS (by omega) (by omega)]; omega, wrapS (a := (i : Int) + 1) (by omega) (by omega)]
   refine Ev.bind hx (Ev.pos (by rw [List.length_map, List.length_map]; omega) ?_)
   rw [ints, List.map_append] at hnext
   exact hnext
theorem numsA_is : ∀ d, d ≤ 1000 → NumsA d
 | 0, _ => by
   intro t hn
   refine Ev.step' ?_; simp only [impl_arr_numbers.f]
   exact Ev.pos (by first | trivial | rfl) (Ev.val rfl)
 | d + 1, hd => by
   intro t hn
   refine Ev.step' ?_; simp only [impl_arr_numbers.f]
   exact Ev.neg (by omega) (numsA_l0 d (by omega) (numsA_is d (by omega)) t hn _ 0 rfl (by omega))
end Go.Proofs.YtoloblgjlnhioaaGreatDoor.I
namespace Go.Proofs.YtoloblgjlnhioaaGreatDoor.I
open Go.RowKit Go.Proofs.YtoloblgjlnhioaaGreatDoorW.PrintWords Go.Proofs.YtoloblgjlnhioaaGreatDoorW.PrintLast Go.Proofs.YtoloblgjlnhioaaGreatDoorW.PrintMore Go.Proofs.YtoloblgjlnhioaaGreatDoor.Q
set_option linter.unusedSimpArgs false
set_option linter.unusedVariables false

theorem uniq {α : Type} {g : Nat → Option α} {a b : α} (h : Ev g a) (k : Ev g b) : a = b := by
 obtain ⟨K, h⟩ := h
 obtain ⟨K', k⟩ := k
 exact Option.some.inj ((h (max K K') (by omega)).symm.trans (k (max K K') (by omega)))
mutual
theorem text_cA : ∀ (e : Nat) (x y : Tr), cA e x = cA e y → text e x = text e y
 | 0, x, y, h => by
   have : (x.n : Int) = (y.n : Int) := congrArg (fun z : NA => z.f0) h
   show Lib.decDigits x.n = Lib.decDigits y.n
   rw [show x.n = y.n by omega]
 | e + 1, x, y, h => by
   have h1 : x.parts.map (cA e) = y.parts.map (cA e) := congrArg (fun z : NA => z.f1) h
   show 91 :: (Lib.join (x.parts.map (text e)) [44] ++ [93]) = 91 :: (Lib.join (y.parts.map (text e)) [44] ++ [93])
   rw [texts_cA e x.parts y.parts h1]
theorem texts_cA : ∀ (e : Nat) (xs ys : List Tr), xs.map (cA e) = ys.map (cA e) → xs.map (text e) = ys.map (text e)
 | e, [], [], _ => rfl
 | e, [], y :: ys, h => by simp at h
 | e, x :: xs, [], h => by simp at h
 | e, x :: xs, y :: ys, h => by
   rw [List.map_cons, List.map_cons, List.cons.injEq] at h
   rw [List.map_cons, List.map_cons, text_cA e x y h.1, texts_cA e xs ys h.2]
end
/-- What was told is the text of what was given. -/
theorem text_of0 {u : Tr} {v : Nat} {z : List NA} (h : ((cA 0 u).f0, (cA 0 u).f1) = (((v : Nat) : Int), z)) : text 0 u = text 0 (n0 v) := by
 have : (u.n : Int) = (v : Int) := congrArg Prod.fst h
 show Lib.decDigits u.n = Lib.decDigits v
 rw [show u.n = v by omega]
theorem text_of1 {e : Nat} {u u' : Tr} {a : Int} (h : ((cA (e + 1) u).f0, (cA (e + 1) u).f1) = (a, (cA (e + 1) u').f1)) : text (e + 1) u = text (e + 1) u' := by
 have h1 : u.parts.map (cA e) = u'.parts.map (cA e) := congrArg Prod.snd h
 show 91 :: (Lib.join (u.parts.map (text e)) [44] ++ [93]) = 91 :: (Lib.join (u'.parts.map (text e)) [44] ++ [93])
 rw [texts_cA e _ _ h1]
theorem told_true {l : By} (h : (told l).2 = true) : told l = (BA l, true) ∧ l.length ≤ 400 := by
 unfold told at h ⊢
 split
 · next hl => exact ⟨rfl, hl⟩
 · next hl => rw [if_neg hl] at h; cases h
theorem told_false {l : By} (h : (told l).2 = false) : (told l).1 = BA [] := by
 unfold told at h ⊢
 split
 · next hl => rw [if_pos hl] at h; cases h
 · rfl
theorem nums1 {t : Tr} : Q.nums 1 t = vals t := by
 show (t.parts.map (Q.nums 0)).flatten = t.parts.map (·.n)
 induction t.parts with
 | nil => rfl
 | cons x xs ih =>
   rw [List.map_cons, List.flatten_cons, ih]
   rfl
theorem numsOf {d : Nat} (hd : d ≤ 3) {l : By} {t : Tr} (h : readD d l = some t) : Ev (fun k => impl_NumbersOf.f k (BA l) (d : Int)) (ints (Q.nums d t), true) := by
 have hn := (read_facts h).2
 unfold impl_NumbersOf.f
 exact Ev.bind (arrZ hd h) (Ev.pos rfl (Ev.bind (numsA_is d (by omega) t (by omega)) (Ev.now _)))
theorem nums_any (dp : Int) (l : By) : ∃ xs b, Ev (fun k => impl_NumbersOf.f k (BA l) dp) (xs, b) := by
 cases h : rdZ dp l with
 | none =>
   obtain ⟨f0, f1, h1⟩ := arrZ_none h
   refine ⟨[], false, ?_⟩
   unfold impl_NumbersOf.f
   exact Ev.bind h1 (Ev.neg (by simp) (Ev.now _))
 | some t =>
   obtain ⟨d, rfl, hd, h1⟩ := rdZ_some h
   exact ⟨_, _, numsOf hd h1⟩
theorem ok0 {v : Nat} (h : v < 10007) : Ok 0 (n0 v) := ⟨h, rfl⟩
theorem turnX_fit {d : Nat} (hd : d ≤ 2) {vs : List Tr} (h : Fit d vs) : Ev (fun k => impl_TurnArray.f k (BA (text (d + 1) ⟨0, vs⟩)) ((d + 1 : Nat) : Int)) (BA (text (d + 1) ⟨0, vs.reverse⟩), true) := by
 have hl := fit_len h
 have hm := makeA_is d hd (vs.reverse.map (text d)) (by rw [List.length_map, List.length_reverse]; omega)
 rw [fit_make (fit_rev h)] at hm
 unfold impl_TurnArray.f
 refine Ev.bind (partsA_fit hd h) (Ev.pos rfl (Ev.bind (a := (BA (text (d + 1) ⟨0, vs.reverse⟩), true)) ?_ (Ev.now _)))
 have e : ((vs.map (text d)).map BA).reverse = (vs.reverse.map (text d)).map BA := by rw [← List.map_reverse, ← List.map_reverse]
 show Ev (fun k => impl_MakeArray.f k ((vs.map (text d)).map BA).reverse _) _
 rw [e]
 exact hm
theorem tlB (l : By) : (BA l).toList = l := by rw [toList_eq]; rfl
theorem beq_refl_list (l : By) : (l == l) = true := by simp
/-- What the law asks behind the answers, one part. -/
theorem rest_one (c : UInt8) (dp : Int) (l : By) (r : ByteArray × Bool) (hr : OneR c dp l r) (hb : r.2 = true) : Ev (fun k => laws_FnApplySign.j0 k (BA [c]) [BA l] dp r.1 r.2 r.1 r.2 (!r.2)) true := by
 obtain ⟨d, e, t, u, rfl, hd, hrd, hsg, hgv, rfl⟩ := hr
 obtain ⟨ht, hlen⟩ := told_true hb
 rw [ht]
 obtain ⟨hok, hn⟩ := read_facts hrd
 have hnum := numsOf hd hrd
 have hm := sg1_mem (c := c) (d := (d : Int)) (by omega)
 have hlr : (l.length : Nat) ≤ 400 := (readD_ok hrd).2.2
 refine Ev.step' ?_; simp only [laws_FnApplySign.j0]
 refine Ev.neg (by simp) (Ev.pos (by simp) ?_)
 show Ev (fun k => (impl_NumbersOf.f k (BA l) (d : Int)).bind _) _
 refine Ev.bind hnum (Ev.call rfl ?_)
 simp only [List.mem_cons, List.not_mem_nil, or_false] at hm
 have dat : d = 1 → Dat (vals t) := fun h1 => by
   subst h1
   have hp : t.parts.length + 1 ≤ nodes 1 t := parts_len 0 t
   exact ⟨by rw [List.length_map]; omega, vals_lt hok⟩
 have d1 : ∀ z : UInt8, z = 83 ∨ z = 77 ∨ z = 80 → c = z → d = 1 := fun z hz hc => by
   apply Classical.byContradiction
   intro h1
   have h2 : ¬ (d : Int) = 1 := by omega
   rw [hc] at hsg
   rcases hz with rfl | rfl | rfl <;> simp [sg1, h1, h2] at hsg <;> omega
 rcases hm with rfl | rfl | rfl | rfl | rfl | rfl | rfl
 · -- S
   obtain rfl := d1 83 (by simp) rfl
   have D := dat rfl
   obtain rfl : e = 0 := by simp [sg1] at hsg; omega
   have hx := text_of0 (uniq hgv (giveS t (vals_lt hok) (by have := D.len; rw [List.length_map] at this; omega)))
   have hv : (vals t).sum % 10007 < 10007 := Nat.mod_lt _ (by omega)
   refine Ev.pos (tl_one _) ?_
   rw [nums1]
   have hss := sumSeg D
   refine Ev.bind (a := ([(((vals t).sum % 10007 : Nat) : Int)], true)) (by
     show Ev (fun k => impl_SumSegments.f k [((ints (vals t)).length : Int)] (ints (vals t))) _
     rw [List.length_map]
     exact hss) ?_
   have hq := numsOf (d := 0) (by omega) (readD_text (d := 0) (ok0 hv) (by rw [← hx]; exact hlen))
   rw [hx]
   refine Ev.bind (a := ([(((vals t).sum % 10007 : Nat) : Int)], true)) hq (Ev.bind (faSame_is _ (by simp)) (Ev.now _))
 · -- M
   obtain rfl := d1 77 (by simp) rfl
   have D := dat rfl
   obtain rfl : e = 0 := by simp [sg1] at hsg; omega
   have hx := text_of0 (uniq hgv (giveM t (by have := D.len; rw [List.length_map] at this; omega)))
   have hv : (vals t).foldl max 0 < 10007 := foldmax_lt _ _ (by omega) (vals_lt hok)
   refine Ev.neg (tlne (by decide)) (Ev.pos (tl_one _) ?_)
   rw [nums1]
   have hss := mostSeg D
   refine Ev.bind (a := ([(((vals t).foldl max 0 : Nat) : Int)], true)) (by
     show Ev (fun k => impl_MostSegments.f k [((ints (vals t)).length : Int)] (ints (vals t))) _
     rw [List.length_map]
     exact hss) ?_
   have hq := numsOf (d := 0) (by omega) (readD_text (d := 0) (ok0 hv) (by rw [← hx]; exact hlen))
   rw [hx]
   refine Ev.bind (a := ([(((vals t).foldl max 0 : Nat) : Int)], true)) hq (Ev.bind (faSame_is _ (by simp)) (Ev.now _))
 · -- I
   exact Ev.neg (tlne (by decide)) (Ev.neg (tlne (by decide)) (Ev.neg (tlne (by decide)) (Ev.neg (tlne (by decide)) (Ev.neg (tlne (by decide)) (Ev.neg (tlne (by decide)) (Ev.now _))))))
 · -- N
   obtain ⟨d, rfl⟩ : ∃ d', d = d' + 1 := by
     cases d with
     | zero => simp [sg1] at hsg
     | succ d => exact ⟨d, rfl⟩
   obtain rfl : e = 0 := by
     have : (sg1 78 ((d + 1 : Nat) : Int)) = 0 := by simp [sg1]; omega
     omega
   have hx := text_of0 (uniq hgv (giveN d t))
   obtain ⟨vs, rfl, rfl, hf⟩ := read_fit hrd
   have hvl := fit_len hf
   have hv : vs.length % 10007 < 10007 := Nat.mod_lt _ (by omega)
   refine Ev.neg (tlne (by decide)) (Ev.neg (tlne (by decide)) (Ev.neg (tlne (by decide)) (Ev.neg (tlne (by decide)) (Ev.neg (tlne (by decide)) (Ev.pos (tl_one _) ?_)))))
   have hq := numsOf (d := 0) (by omega) (readD_text (d := 0) (ok0 hv) (by rw [← hx]; exact hlen))
   rw [hx]
   refine Ev.bind (a := ([((vs.length % 10007 : Nat) : Int)], true)) hq (Ev.pos (by simp) ?_)
   refine Ev.bind (a := (vs.length : Int)) (lenA_fit (by omega) hf) (Ev.val ?_)
   rw [Nat.mod_eq_of_lt (by omega)]
   show ((vs.length : Int) == (vs.length : Int)) = true
   simp
 · -- R
   obtain ⟨d, rfl⟩ : ∃ d', d = d' + 1 := by
     cases d with
     | zero => simp [sg1] at hsg
     | succ d => exact ⟨d, rfl⟩
   obtain rfl : e = d + 1 := by
     have : (sg1 82 ((d + 1 : Nat) : Int)) = ((d + 1 : Nat) : Int) := by simp [sg1]; omega
     omega
   have hp := parts_len d t
   have hx := text_of1 (uniq hgv (giveR d t (by omega)))
   obtain ⟨vs, rfl, rfl, hf⟩ := read_fit hrd
   refine Ev.neg (tlne (by decide)) (Ev.neg (tlne (by decide)) (Ev.neg (tlne (by decide)) (Ev.pos (tl_one _) ?_)))
   refine Ev.bind (a := (BA (text (d + 1) ⟨0, vs.reverse⟩), true)) (turnX_fit (by omega) hf) (Ev.val ?_)
   rw [hx]
   simp
 · -- C
   obtain ⟨d, rfl⟩ : ∃ d', d = d' + 2 := by
     cases d with
     | zero => simp [sg1] at hsg
     | succ d =>
       cases d with
       | zero => simp [sg1] at hsg
       | succ d => exact ⟨d, rfl⟩
   obtain rfl : e = d + 1 := by
     have : (sg1 67 ((d + 2 : Nat) : Int)) = ((d + 1 : Nat) : Int) := by
       simp [sg1]
       rw [if_pos (by omega)]
       omega
     omega
   have hp : t.parts.length + 1 ≤ nodes (d + 2) t := parts_len (d + 1) t
   have hfl := nodesFl d t.parts
   have hnt : nodes (d + 2) t = 1 + (t.parts.map (nodes (d + 1))).sum := rfl
   have hnu : nodes (d + 1) ⟨0, (t.parts.map (·.parts)).flatten⟩ = 1 + (((t.parts.map (·.parts)).flatten).map (nodes d)).sum := rfl
   have hpu := parts_len d ⟨0, (t.parts.map (·.parts)).flatten⟩
   simp only at hpu
   have hx := text_of1 (uniq hgv (giveC d t (by omega) (by omega)))
   obtain ⟨vs, rfl, rfl, hf⟩ := read_fit (d := d + 1) hrd
   refine Ev.neg (tlne (by decide)) (Ev.neg (tlne (by decide)) (Ev.neg (tlne (by decide)) (Ev.neg (tlne (by decide)) (Ev.pos (tl_one _) ?_))))
   refine Ev.bind (a := (BA (text (d + 1) ⟨0, fl vs⟩), true)) (flatA_fit (by omega) hf) (Ev.val ?_)
   rw [hx]
   exact beq_refl_list _
 · -- P
   obtain rfl := d1 80 (by simp) rfl
   have D := dat rfl
   obtain rfl : e = 1 := by simp [sg1] at hsg; omega
   have hx := text_of1 (e := 0) (uniq hgv (giveP t (vals_lt hok) (by have := D.len; rw [List.length_map] at this; omega)))
   refine Ev.neg (tlne (by decide)) (Ev.neg (tlne (by decide)) (Ev.pos (tl_one _) ?_))
   rw [nums1]
   have hss := scanSeg D
   refine Ev.bind (a := (ints (pre 0 (vals t)), true)) (by
     show Ev (fun k => impl_ScanSegments.f k [((ints (vals t)).length : Int)] (ints (vals t))) _
     rw [List.length_map]
     exact hss) ?_
   have hokp : Ok 1 ⟨0, (pre 0 (vals t)).map n0⟩ := ⟨rfl, fun x hx => by
     obtain ⟨y, hy, rfl⟩ := List.mem_map.1 hx
     exact ok0 (pre_lt 0 _ (by omega) y hy)⟩
   have hq := numsOf (d := 1) (by omega) (readD_text (d := 1) hokp (by rw [← hx]; exact hlen))
   have hvv : Q.nums 1 ⟨0, (pre 0 (vals t)).map n0⟩ = pre 0 (vals t) := by
     rw [nums1]
     show ((pre 0 (vals t)).map n0).map (·.n) = _
     rw [List.map_map]
     exact List.map_id' _
   rw [hvv] at hq
   rw [hx]
   have hpl := pre_len 0 (vals t)
   have hdl := D.len
   refine Ev.bind (a := (ints (pre 0 (vals t)), true)) hq (Ev.bind (faSame_is _ (by rw [List.length_map]; omega)) (Ev.now _))
/-- .. two parts. -/
theorem rest_two (c : UInt8) (dp : Int) (l l2 : By) (r : ByteArray × Bool) (hc : c ∈ ([43, 42, 94, 45, 61, 60, 64] : By)) (hb : r.2 = true) : Ev (fun k => laws_FnApplySign.j0 k (BA [c]) [BA l, BA l2] dp r.1 r.2 r.1 r.2 (!r.2)) true := by
 obtain ⟨xs, b, hn⟩ := nums_any dp l
 have hne : ∀ z : UInt8, z ∈ ([83, 77, 80, 82, 67, 78] : By) → c ≠ z := by
   rintro z hz rfl
   simp only [List.mem_cons, List.not_mem_nil, or_false] at hc hz
   rcases hc with rfl | rfl | rfl | rfl | rfl | rfl | rfl <;> simp at hz
 rw [hb]
 refine Ev.step' ?_; simp only [laws_FnApplySign.j0]
 refine Ev.neg (by simp) (Ev.pos (by simp) ?_)
 show Ev (fun k => (impl_NumbersOf.f k (BA l) dp).bind _) _
 exact Ev.bind hn (Ev.call rfl (Ev.neg (tlne (hne _ (by simp))) (Ev.neg (tlne (hne _ (by simp))) (Ev.neg (tlne (hne _ (by simp))) (Ev.neg (tlne (hne _ (by simp))) (Ev.neg (tlne (hne _ (by simp))) (Ev.neg (tlne (hne _ (by simp))) (Ev.now _))))))))
theorem rest_bad (s : ByteArray) (ts : List ByteArray) (dp : Int) (r : ByteArray × Bool) (h1 : r.2 = false) (h2 : r.1 = BA []) : Ev (fun k => laws_FnApplySign.j0 k s ts dp r.1 r.2 r.1 r.2 (!r.2)) true := by
 rw [h1, h2]
 refine Ev.step' ?_; simp only [laws_FnApplySign.j0]
 refine Ev.pos (by simp) (Ev.pos (by first | trivial | rfl) (Ev.pos (by simp) (Ev.val ?_)))
 rw [tlB]
 rfl
theorem Pure_FnApplySign : laws_FnApplySign.Pure := by
 intro l0 _ _ hwf
 refine Ev.rounds (r := true) ?_
 unfold laws_FnApplySign.f
 by_cases h0 : (l0.length : Int) > 1048576
 · exact Ev.pos h0 (Ev.now _)
 refine Ev.neg h0 ?_
 obtain ⟨s, ts, dp, hd, ht⟩ := drawS_is l0 hwf
 obtain ⟨r, hA, hS, hr⟩ := sign_bothX s ts dp (by omega)
 refine Ev.bind hd (Ev.bind hA (Ev.bind hS (Ev.pos rfl (Ev.neg (by simp) ?_))))
 by_cases hb : r.2 = true
 · rcases hr with rfl | ⟨c, l, rfl, rfl, h1⟩ | ⟨c, l, l2, rfl, rfl, hc, x, rfl⟩
   · cases hb
   · exact rest_one c dp l r h1 hb
   · exact rest_two c dp l l2 _ hc hb
 · have hb' : r.2 = false := by simpa using hb
   refine rest_bad _ _ _ r hb' ?_
   rcases hr with rfl | ⟨c, l, rfl, rfl, d, e, t, u, _, _, _, _, _, rfl⟩ | ⟨c, l, l2, rfl, rfl, hc, x, rfl⟩
   · rfl
   · exact told_false hb'
   · exact told_false hb'
end Go.Proofs.YtoloblgjlnhioaaGreatDoor.I
