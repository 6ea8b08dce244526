/- Padded and cut arrays: both alike; padded ones are regular, cut back they are themselves, regular ones stay. -/
import Derived.Test.YtoloblgjlnhioaaDoorJFQbase
import Derived.Test.YtoloblgjlnhioaaDoorJFx4
import Derived.Test.YtoloblgjlnhioaaDoorJFx3
import Derived.Test.YtoloblgjlnhioaaDoorJFx1
import Derived.Test.YtoloblgjlnhioaaDoorJFx5
import Derived.Test.YtoloblgjlnhioaaDoorJFSgq
import Derived.Test.YtoloblgjlnhioaaDoorJFx0
import Derived.Test.YtoloblgjlnhioaaDoorJFx2
import Derived.Test.YtoloblgjlnhioaaDoorJFSgy
import Derived.Test.YtoloblgjlnhioaaDoorJFSgz
import Derived.Test.YtoloblgjlnhioaaDoorJFx6
import Derived.Test.YtoloblgjlnhioaaDoorJFx7
namespace Go.Proofs.YtoloblgjlnhioaaDoor.J
open Go.RowKit Go.Proofs.YtoloblgjlnhioaaDoorW.PrintWords Go.Proofs.YtoloblgjlnhioaaDoorW.PrintLast Go.Proofs.YtoloblgjlnhioaaDoorW.PrintMore Go.Proofs.YtoloblgjlnhioaaDoor.Q
set_option linter.unusedSimpArgs false
set_option linter.unusedVariables false

abbrev NA := S62
abbrev NS := S77
def cA : Nat → Tr → NA
 | 0, t => ⟨(t.n : Int), []⟩
 | d + 1, t => ⟨(t.n : Int), t.parts.map (cA d)⟩
def cS : Nat → Tr → NS
 | 0, t => ⟨(t.n : Int), []⟩
 | d + 1, t => ⟨(t.n : Int), t.parts.map (cS d)⟩
theorem mkA (t : NA) : (⟨t.f0, t.f1⟩ : NA) = t := by cases t; rfl
theorem mkS (t : NS) : (⟨t.f0, t.f1⟩ : NS) = t := by cases t; rfl
theorem cA_f0 (d : Nat) (t : Tr) : (cA d t).f0 = (t.n : Int) := by cases d <;> rfl
theorem cS_f0 (d : Nat) (t : Tr) : (cS d t).f0 = (t.n : Int) := by cases d <;> rfl

/-! ### impl.readArr -/
abbrev RA := Int × List NA × ByteArray × Bool
def badA : RA := (0, [], BA [], false)
def resA (d : Nat) : Option (Tr × By) → RA
 | none => badA
 | some (t, r) => ((cA d t).f0, (cA d t).f1, BA r, true)
theorem bt_at {l : By} {i : Nat} (h : i < l.length) : bt (BA l) (i : Int) = (l[i].toNat : Int) := by
 rw [bt_BA, Int.toNat_natCast, List.getD_eq_getElem?_getD, List.getElem?_eq_getElem h]
 rfl
theorem take_split {l : By} (i : Nat) (h : (l.take i).all isD = true) (hn : ∀ x : i < l.length, isD l[i] = false) : l.takeWhile isD = l.take i ∧ l.dropWhile isD = l.drop i := by
 have e : l = l.take i ++ l.drop i := (List.take_append_drop i l).symm
 have := takeWhile_digits (ds := l.take i) (r := l.drop i) h (by
   intro c r hr
   by_cases hi : i < l.length
   · rw [List.drop_eq_getElem_cons hi] at hr
     rw [← (List.cons.inj hr).1]
     exact hn hi
   · rw [List.drop_eq_nil_of_le (by omega)] at hr
     cases hr)
 rw [← e] at this
 exact this
theorem readArr_j1 (l : By) (hl : l.length ≤ 1000000) : Ev (fun k => impl_readArr.j1 k (BA l) ((l.takeWhile isD).length : Int)) (resA 0 (parse 0 l)) := by
 have ht : l.take (l.takeWhile isD).length = l.takeWhile isD := by
   have e := List.takeWhile_append_dropWhile (p := isD) (l := l)
   conv => lhs; arg 2; rw [← e]
   rw [List.take_left']
   rfl
 have hd : l.drop (l.takeWhile isD).length = l.dropWhile isD := by
   have e := List.takeWhile_append_dropWhile (p := isD) (l := l)
   conv => lhs; arg 2; rw [← e]
   rw [List.drop_left']
   rfl
 have hlen : (l.takeWhile isD).length ≤ l.length := by
   have := congrArg List.length (List.takeWhile_append_dropWhile (p := isD) (l := l))
   rw [List.length_append] at this
   omega
 have hall : (l.takeWhile isD).all isD = true := List.all_takeWhile
 have hx : (BA l).extract 0 (l.takeWhile isD).length = BA (l.takeWhile isD) := by
   rw [BA_extract]
   simp [ht]
 have hy : (BA l).extract (l.takeWhile isD).length (BA l).size = BA (l.dropWhile isD) := by
   rw [BA_extract, hd, BA_size, List.take_of_length_le]
   rw [← hd, List.length_drop]
   omega
 refine Ev.step' ?_; simp only [impl_readArr.j1]
 refine Ev.pos (by omega) (Ev.pos (by rw [BA_size]; omega) ?_)
 simp only [Int.toNat_natCast, hx, hy]
 have hs : (BA (l.takeWhile isD)).size ≤ 281474976710656 := by rw [BA_size]; omega
 by_cases hne : l.takeWhile isD = []
 · have ha : strconv_Atoi.f (BA (l.takeWhile isD)) = some (0, some 0) := by
     unfold strconv_Atoi.f
     rw [if_pos hs, data_BA, hne]
     rfl
   have hp : parse 0 l = none := by
     have : parseNum l = none := by
       unfold parseNum
       rw [hne]
       exact if_neg (fun h => dec_ne _ h.2)
     unfold parse
     rw [this]
     rfl
   rw [hp]
   refine Ev.call ha ?_
   exact Ev.neg (by simp) (Ev.now _)
 · rcases atoi_digits hall hne with e | ⟨e, hbig⟩
   · have ha : strconv_Atoi.f (BA (l.takeWhile isD)) = some ((valD 0 (l.takeWhile isD) : Int), none) := by
       unfold strconv_Atoi.f
       rw [if_pos hs, data_BA, e]
     refine Ev.call ha ?_
     refine Ev.pos (by first | trivial | rfl) ?_
     by_cases hb : valD 0 (l.takeWhile isD) < 10007
     · refine Ev.neg (by omega) ?_
       have hi : strconv_Itoa.f (valD 0 (l.takeWhile isD) : Int) = some (BA (Lib.decDigits (valD 0 (l.takeWhile isD)))) := by
         unfold strconv_Itoa.f
         rw [if_pos (by omega), if_pos (by omega), itoa_nat]
         rfl
       refine Ev.call hi ?_
       by_cases hq : Lib.decDigits (valD 0 (l.takeWhile isD)) = l.takeWhile isD
       · refine Ev.pos (by rw [toList_BA, toList_BA]; exact hq) (Ev.val ?_)
         have : parseNum l = some (valD 0 (l.takeWhile isD), l.dropWhile isD) := if_pos ⟨hb, hq⟩
         unfold parse
         rw [this]
         rfl
       · refine Ev.neg (by rw [toList_BA, toList_BA]; exact hq) (Ev.val ?_)
         have : parseNum l = none := if_neg (fun h => hq h.2)
         unfold parse
         rw [this]
         rfl
     · refine Ev.pos (by omega) (Ev.val ?_)
       have : parseNum l = none := if_neg (fun h => hb h.1)
       unfold parse
       rw [this]
       rfl
   · have ha : strconv_Atoi.f (BA (l.takeWhile isD)) = some (Lib.atoiSat (l.takeWhile isD), some 0) := by
       unfold strconv_Atoi.f
       rw [if_pos hs, data_BA, e]
     refine Ev.call ha ?_
     refine Ev.neg (by simp) (Ev.val ?_)
     have : parseNum l = none := if_neg (fun h => absurd h.1 (by omega))
     unfold parse
     rw [this]
     rfl
theorem readArr_l0 (l : By) (hl : l.length ≤ 1000000) : ∀ (n i : Nat), l.length - i = n → i ≤ l.length → (l.take i).all isD = true → Ev (fun k => impl_readArr.l0 k (BA l) (i : Int)) (resA 0 (parse 0 l)) := by
 intro n
 induction n with
 | zero =>
   intro i h hi hall
   obtain ⟨h1, _⟩ := take_split i hall (fun x => by omega)
   have he : (l.takeWhile isD).length = i := by rw [h1, List.length_take]; omega
   refine Ev.step' ?_; simp only [impl_readArr.l0]
   refine Ev.neg (by rw [BA_size]; omega) ?_
   rw [← he]
   exact readArr_j1 l hl
 | succ n ih =>
   intro i h hi hall
   have hlt : i < l.length := by omega
   refine Ev.step' ?_; simp only [impl_readArr.l0]
   refine Ev.pos (by rw [BA_size]; omega) (Ev.pos (by omega) ?_)
   simp only [bt_at hlt]
   by_cases hd : isD l[i] = true
   · obtain ⟨h1, h2⟩ := (isD_iff _).1 hd
     refine Ev.pos (by omega) (Ev.pos (by omega) ?_)
     rw [wrapS (by omega) (by omega)]
     exact ih (i + 1) (by omega) (by omega) (by rw [List.take_succ_eq_append_getElem hlt, List.all_append, hall]; simp [hd])
   · have hd' : isD l[i] = false := by simpa using hd
     obtain ⟨h1, _⟩ := take_split i hall (fun x => hd')
     have he : (l.takeWhile isD).length = i := by rw [h1, List.length_take]; omega
     have hj := readArr_j1 l hl
     rw [he] at hj
     by_cases h1 : (48 : Int) ≤ (l[i].toNat : Int)
     · refine Ev.pos h1 (Ev.neg ?_ hj)
       intro h2
       exact hd ((isD_iff _).2 ⟨by omega, by omega⟩)
     · exact Ev.neg h1 hj
theorem readArr_zero (l : By) (hl : l.length ≤ 1000000) : Ev (fun k => impl_readArr.f k (BA l) 0) (resA 0 (parse 0 l)) := by
 refine Ev.step' ?_; simp only [impl_readArr.f]
 exact Ev.pos (by first | trivial | rfl) (readArr_l0 l hl _ 0 rfl (by omega) rfl)


theorem parse_nil : ∀ d, parse d [] = none
 | 0 => by
   unfold parse
   have : parseNum [] = none := if_neg (fun h => dec_ne _ h.2)
   rw [this]
   rfl
 | d + 1 => rfl
theorem parse_93 : ∀ d (t : By), parse d (93 :: t) = none
 | 0, t => by
   unfold parse
   have : parseNum (93 :: t) = none := if_neg (fun h => dec_ne _ (h.2.trans (by simp [isD])))
   rw [this]
   rfl
 | d + 1, t => by
   unfold parse
   simp
theorem parse_len {d : Nat} {l : By} {v : Tr} {r : By} (h : parse d l = some (v, r)) : r.length ≤ l.length := by
 have := congrArg List.length (parse_sound d l v r h).1
 rw [List.length_append] at this
 omega
theorem BA_nil : BA [] = (⟨#[]⟩ : ByteArray) := rfl
theorem BA_tail (c : UInt8) (t : By) : (BA (c :: t)).extract 1 (BA (c :: t)).size = BA t := by
 rw [BA_extract]
 simp
theorem bt_zero (c : UInt8) (t : By) : bt (BA (c :: t)) 0 = (c.toNat : Int) := bt_BA _ _
theorem toNat_ne {c : UInt8} {n : Nat} (h : c ≠ UInt8.ofNat n) (hn : n < 256) : ((c.toNat : Int)) ≠ (n : Int) := by
 intro e
 apply h
 apply UInt8.toNat.inj
 rw [UInt8.toNat_ofNat']
 omega
/-- .. and what is left of the parts, at the loop's head. -/
def resL (d : Nat) (acc : List NA) : Option (List Tr × By) → RA
 | none => badA
 | some (vs, r) => (0, acc ++ vs.map (cA d), BA r, true)
theorem readArr_l1 (d : Nat) (hd : d ≤ 1000) (hf : ∀ l : By, l.length ≤ 1000000 → Ev (fun k => impl_readArr.f k (BA l) (d : Int)) (resA d (parse d l))) :
   ∀ (n : Nat) (l : By) (acc : List NA), l.length < n → acc.length + l.length ≤ 1000000 → (acc ≠ [] ∨ ∀ t, l ≠ 93 :: t) → Ev (fun k => impl_readArr.l1 k (BA l) ((d + 1 : Nat) : Int) 0 acc) (resL d acc (parseL (parse d) n l)) := by
 intro n
 induction n with
 | zero => intro l acc h; omega
 | succ n ih =>
   intro l acc hn hb hcase
   have hbad : Ev (fun k => impl_readArr.j5 k ((d + 1 : Nat) : Int) (BA []) true 0 acc 0 []) badA := by
     refine Ev.step' ?_; simp only [impl_readArr.j5]
     exact Ev.pos (by first | trivial | rfl) (Ev.now _)
   have hbad2 : ∀ (x : ByteArray) (m : Int) (ps : List NA), Ev (fun k => impl_readArr.j5 k ((d + 1 : Nat) : Int) x true 0 acc m ps) badA := by
     intro x m ps
     refine Ev.step' ?_; simp only [impl_readArr.j5]
     exact Ev.pos (by first | trivial | rfl) (Ev.now _)
   have hj4 : l ≠ [] → Ev (fun k => impl_readArr.j4 k (BA l) ((d + 1 : Nat) : Int) true 0 acc) (resL d acc (parseL (parse d) (n + 1) l)) := by
     intro hne
     refine Ev.step' ?_; simp only [impl_readArr.j4]
     refine Ev.pos (by first | trivial | rfl) ?_
     rw [show wrap64 (((d + 1 : Nat) : Int) - 1) = (d : Int) by rw [wrapS (by omega) (by omega)]; omega]
     refine Ev.bind (hf l (by omega)) ?_
     unfold parseL
     cases hp : parse d l with
     | none => exact Ev.neg (by simp [resA, badA]) (hbad2 _ _ _)
     | some q =>
       obtain ⟨v, r⟩ := q
       have hr := parse_len hp
       refine Ev.pos (by first | trivial | rfl) ?_
       cases r with
       | nil => exact Ev.pos (toList_BA []) (hbad2 _ _ _)
       | cons c r' =>
         simp only [List.length_cons] at hr
         have hj5 : ∀ b : Bool, b = false → (c = 44 ∨ c = 93) → Ev (fun k => impl_readArr.j5 k ((d + 1 : Nat) : Int) (BA (c :: r')) b 0 acc (cA d v).f0 (cA d v).f1) (if c = 93 then (0, acc ++ [cA d v], BA r', true) else resL d (acc ++ [cA d v]) (parseL (parse d) n r')) := by
           intro b hb0 hc
           subst hb0
           refine Ev.step' ?_; simp only [impl_readArr.j5]
           refine Ev.neg (by simp) (Ev.pos (by omega) ?_)
           refine Ev.call (a := acc ++ [cA d v]) (by rw [mkA]) ?_
           refine Ev.pos (by simp <;> omega) ?_
           by_cases h93 : c = 93
           · subst h93
             rw [if_pos rfl]
             refine Ev.pos (bt_zero _ _) (Ev.pos (by simp <;> omega) (Ev.val ?_))
             rw [BA_tail]
           · rw [if_neg h93]
             refine Ev.neg (by rw [bt_zero]; exact toNat_ne (n := 93) h93 (by omega)) (Ev.pos (by simp <;> omega) ?_)
             rw [BA_tail]
             exact ih r' _ (by omega) (by simp <;> omega) (.inl (by simp))
         refine Ev.neg (by show ¬ (BA (c :: r')).toList = []; rw [toList_BA]; simp) (Ev.pos (by show (0 : Int) < ((BA (c :: r')).size : Int); simp <;> omega) ?_)
         have hb0 : bt (resA d (some (v, c :: r'))).2.2.1 0 = (c.toNat : Int) := bt_zero _ _
         by_cases h44 : c = 44
         · subst h44
           refine Ev.pos (bt_zero _ _) (evIs (hj5 false rfl (.inl rfl)) ?_)
           simp only [if_true]
           rw [if_neg (by decide)]
           cases parseL (parse d) n r' with
           | none => rfl
           | some q => simp [resL]
         · refine Ev.neg (by rw [hb0]; exact toNat_ne (n := 44) h44 (by omega)) ?_
           by_cases h93 : c = 93
           · subst h93
             refine evIs (hj5 _ (by rw [hb0]; rfl) (.inr rfl)) ?_
             simp [resL]
           · have e : (bt (resA d (some (v, c :: r'))).2.2.1 0 != 93) = true := by
               rw [hb0]
               simpa using toNat_ne (n := 93) h93 (by omega)
             rw [e]
             refine evIs (hbad2 _ _ _) ?_
             simp [h44, h93, resL]
   refine Ev.step' ?_; simp only [impl_readArr.l1]
   cases l with
   | nil =>
     refine Ev.pos (toList_BA []) ?_
     refine Ev.step' ?_; simp only [impl_readArr.j4]
     refine Ev.neg (by simp) (Ev.pos (toList_BA []) (Ev.val ?_))
     unfold parseL
     rw [parse_nil]
     rfl
   | cons c t =>
     refine Ev.neg (by rw [toList_BA]; simp) (Ev.pos (by simp <;> omega) ?_)
     by_cases h93 : c = 93
     · subst h93
       refine Ev.pos (bt_zero _ _) ?_
       rcases hcase with hacc | hh
       · have hpos : 0 < acc.length := List.length_pos_iff.2 hacc
         rw [show decide ((acc.length : Int) > 0) = true by simp; exact hpos]
         exact hj4 (by simp)
       · exact absurd rfl (hh t)
     · refine Ev.neg (by rw [bt_zero]; exact toNat_ne (n := 93) h93 (by omega)) (hj4 (by simp))
theorem readArr_is : ∀ (d : Nat), d ≤ 1000 → ∀ l : By, l.length ≤ 1000000 → Ev (fun k => impl_readArr.f k (BA l) (d : Int)) (resA d (parse d l))
 | 0, _, l, hl => readArr_zero l hl
 | d + 1, hd, l, hl => by
   have ih := readArr_is d (by omega)
   refine Ev.step' ?_; simp only [impl_readArr.f]
   refine Ev.neg (by omega) ?_
   have hj2 : ∀ x : ByteArray, Ev (fun k => impl_readArr.j2 k x ((d + 1 : Nat) : Int) true) badA := by
     intro x
     refine Ev.step' ?_; simp only [impl_readArr.j2]
     exact Ev.pos (by first | trivial | rfl) (Ev.now _)
   cases l with
   | nil => exact Ev.pos (toList_BA []) (hj2 _)
   | cons c t =>
     refine Ev.neg (by rw [toList_BA]; simp) (Ev.pos (by simp <;> omega) ?_)
     by_cases h91 : c = 91
     · subst h91
       rw [show (bt (BA (91 :: t)) 0 != 91) = false by rw [bt_zero]; rfl]
       refine Ev.step' ?_; simp only [impl_readArr.j2]
       refine Ev.neg (by simp) (Ev.pos (by simp <;> omega) ?_)
       rw [BA_tail]
       simp only [List.length_cons] at hl
       cases t with
       | nil =>
         refine evIs (readArr_l1 d (by omega) ih 1 [] [] (by simp) (by simp) (.inr (by simp))) ?_
         unfold parse parseL
         rw [parse_nil]
         rfl
       | cons c' t' =>
         by_cases h93 : c' = 93
         · subst h93
           refine Ev.step' ?_; simp only [impl_readArr.l1]
           refine Ev.neg (by rw [toList_BA]; simp) (Ev.pos (by simp <;> omega) (Ev.pos (bt_zero _ _) ?_))
           rw [show decide ((([] : List NA).length : Int) > 0) = false from rfl]
           refine Ev.step' ?_; simp only [impl_readArr.j4]
           refine Ev.neg (by simp) (Ev.neg (by rw [toList_BA]; simp) (Ev.pos (by simp <;> omega) (Ev.val ?_)))
           rw [BA_tail]
           rfl
         · refine evIs (readArr_l1 d (by omega) ih _ (c' :: t') [] (Nat.lt_succ_self _) (by simp only [List.length_cons, List.length_nil] at hl ⊢; omega) (.inr (by intro t e; exact h93 (List.cons.inj e).1))) ?_
           unfold parse
           simp only [if_true, if_neg h93]
           cases parseL (parse d) ((c' :: t').length + 1) (c' :: t') with
           | none => rfl
           | some q => rfl
     · rw [show (bt (BA (c :: t)) 0 != 91) = true by rw [bt_zero]; simpa using toNat_ne (n := 91) h91 (by omega)]
       refine evIs (hj2 _) ?_
       unfold parse
       simp only [if_neg h91]
       rfl

/-! ### spec's reader -/
theorem drop_split {s : By} {p : Nat} (h : p < s.length) : s.drop p = s[p] :: s.drop (p + 1) := List.drop_eq_getElem_cons h
theorem valD_ltP : ∀ (l : By) (p a b : Nat), p = 10 ^ l.length → l.all isD = true → a < b → valD a l < b * p
 | [], p, a, b, hp, _, h => by
   have hp1 : p = 1 := hp
   have : valD a [] = a := rfl
   rw [this, hp1, Nat.mul_one]
   exact h
 | c :: r, p, a, b, hp, hall, h => by
   simp only [List.all_cons, Bool.and_eq_true] at hall
   have hc := (isD_iff _).1 hall.1
   have h1 := valD_ltP r (10 ^ r.length) (a * 10 + (c.toNat - 48)) (b * 10) rfl hall.2 (by omega)
   have h2 : p = 10 ^ r.length * 10 := hp
   have h4 : valD a (c :: r) = valD (a * 10 + (c.toNat - 48)) r := rfl
   generalize 10 ^ r.length = q at *
   rw [h4, h2, Nat.mul_comm q 10, ← Nat.mul_assoc]
   exact h1
theorem valD_lt (l : By) (a b : Nat) (hall : l.all isD = true) (h : a < b) : valD a l < b * 10 ^ l.length := valD_ltP l _ a b rfl hall h
theorem l13Num_l0 (ds : By) (hall : ds.all isD = true) (hl : ds.length ≤ 17) : ∀ (n i : Nat), ds.length - i = n → i ≤ ds.length → Ev (fun k => spec_l13Num.l0 k (BA ds) false (valD 0 (ds.take i) : Int) (i : Int)) ((valD 0 ds : Int), true) := by
 intro n
 induction n with
 | zero =>
   intro i h hi
   refine Ev.step' ?_; simp only [spec_l13Num.l0]
   refine Ev.neg (by simp <;> omega) (Ev.neg (by simp) (Ev.val ?_))
   rw [List.take_of_length_le (by omega)]
 | succ n ih =>
   intro i h hi
   have hlt : i < ds.length := by omega
   have hd : isD ds[i] = true := List.all_eq_true.1 hall _ (List.getElem_mem hlt)
   have hc := (isD_iff _).1 hd
   refine Ev.step' ?_; simp only [spec_l13Num.l0]
   simp only [bt_at hlt]
   refine Ev.pos (by simp <;> omega) (Ev.pos (by omega) (Ev.neg (by omega) (Ev.neg (by omega) ?_)))
   have hv : valD 0 (ds.take i) < 1 * 10 ^ (ds.take i).length := valD_lt _ _ _ (by
     rw [List.all_eq_true] at hall ⊢
     intro x hx
     exact hall x (List.mem_of_mem_take hx)) (by omega)
   have hpow : 10 ^ (ds.take i).length ≤ 10 ^ 17 := Nat.pow_le_pow_right (by omega) (by rw [List.length_take]; omega)
   have hv2 : valD 0 (ds.take i) < 100000000000000000 := by
     generalize 10 ^ (ds.take i).length = q at *
     omega
   have e1 : wrap64 (wrap64 ((valD 0 (ds.take i) : Int) * 10) + ((ds[i].toNat : Int) - 48) % 256) = (valD 0 (ds.take (i + 1)) : Int) := by
     rw [List.take_succ_eq_append_getElem hlt, valD_append, valD_one, wrapS (a := (valD 0 (ds.take i) : Int) * 10) (by omega) (by omega), wrapS (by omega) (by omega)]
     omega
   rw [e1, wrapS (by omega) (by omega)]
   exact ih (i + 1) (by omega) (by omega)
theorem l13_is (ds : By) (hall : ds.all isD = true) (hl : ds.length ≤ 17) : Ev (fun k => spec_l13Num.f k (BA ds)) (if Lib.decDigits (valD 0 ds) = ds then ((valD 0 ds : Int), true) else (0, false)) := by
 have hj2 : ∀ x : ByteArray, Ev (fun k => spec_l13Num.j2 k x false true) (0, false) := by
   intro x
   refine Ev.step' ?_; simp only [spec_l13Num.j2]
   exact Ev.pos (by first | trivial | rfl) (Ev.now _)
 unfold spec_l13Num.f
 cases ds with
 | nil =>
   refine Ev.neg (by simp) ?_
   refine Ev.step' ?_; simp only [spec_l13Num.j0]
   refine Ev.neg (by simp) ?_
   refine Ev.step' ?_; simp only [spec_l13Num.j1]
   refine Ev.pos (by simp) (evIs (hj2 _) ?_)
   rw [if_neg (dec_ne _)]
 | cons c r =>
   have hd : isD c = true := by
     simp only [List.all_cons, Bool.and_eq_true] at hall
     exact hall.1
   have hc := (isD_iff _).1 hd
   simp only [List.length_cons] at hl
   refine Ev.pos (by simp <;> omega) (Ev.pos (by simp <;> omega) ?_)
   rw [show (bt (BA (c :: r)) 0 == 45) = false by rw [bt_zero]; simp; omega]
   refine Ev.step' ?_; simp only [spec_l13Num.j0]
   refine Ev.neg (by simp) ?_
   refine Ev.step' ?_; simp only [spec_l13Num.j1]
   refine Ev.neg (by simp <;> omega) (Ev.neg (by simp <;> omega) (Ev.pos (by simp <;> omega) ?_))
   have hj2f : (c ≠ 48 ∨ r = []) → Ev (fun k => spec_l13Num.j2 k (BA (c :: r)) false false) (if Lib.decDigits (valD 0 (c :: r)) = c :: r then ((valD 0 (c :: r) : Int), true) else (0, false)) := by
     intro h
     refine Ev.step' ?_; simp only [spec_l13Num.j2]
     refine Ev.neg (by simp) (evIs (l13Num_l0 (c :: r) hall (by simp only [List.length_cons]; omega) _ 0 rfl (by omega)) ?_)
     rw [if_pos ((dec_val_iff hall).2 ⟨c, r, rfl, h⟩)]
   by_cases h48 : c = 48
   · subst h48
     refine Ev.pos (bt_zero _ _) ?_
     by_cases hr : r = []
     · subst hr
       exact Ev.neg (by simp) (hj2f (.inr rfl))
     · have := List.length_pos_iff.2 hr
       refine Ev.pos (by simp <;> omega) (evIs (hj2 _) ?_)
       rw [if_neg]
       intro h
       obtain ⟨c', r', e, h1⟩ := (dec_val_iff hall).1 h
       obtain ⟨rfl, rfl⟩ := List.cons.inj e
       rcases h1 with h1 | h1
       · exact h1 rfl
       · exact hr h1
   · exact Ev.neg (by rw [bt_zero]; exact toNat_ne (n := 48) h48 (by omega)) (hj2f (.inl h48))

abbrev RS := Int × List NS × ByteArray × Int × Bool
def OutS (d : Nat) (s : By) : Option (Tr × By) → RS → Prop
 | none, res => res.2.2.2.2 = true
 | some (v, r), res => res = ((cS d v).f0, (cS d v).f1, BA s, ((s.length - r.length : Nat) : Int), false)
theorem inN_is (n a b : Int) : spec_l1In.f n a b = some (decide (a ≤ n ∧ n ≤ b)) := by
 unfold spec_l1In.f
 by_cases h1 : a ≤ n
 · by_cases h2 : n ≤ b <;> simp [h1, h2]
 · simp [h1]
theorem number_end (x : ByteArray) (a b : Nat) (hab : a ≤ b) (hb : b ≤ x.size) (q : Int × Bool) (hq : Ev (fun k => spec_l13Num.f k (x.extract a b)) q) :
   Ev (fun k => if 0 ≤ (a : Int) then (if (a : Int) ≤ (b : Int) then (if (b : Int) ≤ (x.size : Int) then ((spec_l13Num.f k (x.extract (a : Int).toNat (b : Int).toNat)).bind fun bt152 => (if (false = true) then (some (bt152.1, x, (b : Int), true)) else (if bt152.2 = true then ((spec_l1In.f bt152.1 0 10006).bind fun t154 => (some (bt152.1, x, (b : Int), !t154))) else (some (bt152.1, x, (b : Int), true))))) else (none)) else (none)) else (none)) (q.1, x, (b : Int), false || !q.2 || !(decide (0 ≤ q.1) && decide (q.1 ≤ 10006))) := by
 refine Ev.pos (by omega) (Ev.pos (by omega) (Ev.pos (by omega) (Ev.bind hq (Ev.neg (by simp) ?_))))
 by_cases h : q.2 = true
 · refine Ev.pos h ?_
   rw [inN_is]
   refine Ev.val ?_
   rw [h]
   simp only [Bool.false_or, Bool.not_true, Bool.decide_and]
 · refine Ev.neg h (Ev.val ?_)
   simp [h]
theorem number_l0 (s : By) (p : Nat) (hp : p ≤ s.length) (hs : s.length ≤ 1000000) (J : Nat) (hJ : J = min 6 ((s.drop p).takeWhile isD).length) (q : Int × Bool) (hq : Ev (fun k => spec_l13Num.f k ((BA s).extract p (p + J))) q) : ∀ (n j : Nat), J - j = n → j ≤ J →
   Ev (fun k => spec_l1Reader_number.l0 k (p : Int) (BA s) ((p + j : Nat) : Int) false) (q.1, BA s, ((p + J : Nat) : Int), false || !q.2 || !(decide (0 ≤ q.1) && decide (q.1 ≤ 10006))) := by
 have hcnt : ((s.drop p).takeWhile isD).length ≤ s.length - p := by
   have := congrArg List.length (List.takeWhile_append_dropWhile (p := isD) (l := s.drop p))
   rw [List.length_append, List.length_drop] at this
   omega
 have hdig : ∀ j, (hj : j < ((s.drop p).takeWhile isD).length) → (h : p + j < s.length) → isD s[p + j] = true := by
   intro j hj h
   have h1 : ((s.drop p).takeWhile isD)[j] = s[p + j] := by
     have e : s.drop p = (s.drop p).takeWhile isD ++ (s.drop p).dropWhile isD := List.takeWhile_append_dropWhile.symm
     have h2 : (s.drop p)[j]? = some s[p + j] := by rw [List.getElem?_drop, List.getElem?_eq_getElem h]
     rw [e, List.getElem?_append_left hj, List.getElem?_eq_getElem hj] at h2
     exact Option.some.inj h2
   have := List.all_eq_true.1 (List.all_takeWhile (p := isD) (l := s.drop p)) _ (List.getElem_mem hj)
   rwa [h1] at this
 have hnot : ∀ (h : p + ((s.drop p).takeWhile isD).length < s.length), isD (s[p + ((s.drop p).takeWhile isD).length]'h) = false := by
   intro h
   have e : s.drop p = (s.drop p).takeWhile isD ++ (s.drop p).dropWhile isD := List.takeWhile_append_dropWhile.symm
   have h2 : (s.drop p)[((s.drop p).takeWhile isD).length]? = some (s[p + ((s.drop p).takeWhile isD).length]'h) := by rw [List.getElem?_drop, List.getElem?_eq_getElem h]
   generalize hW : (s.drop p).takeWhile isD = W at *
   have h3 : (W ++ (s.drop p).dropWhile isD)[W.length]? = some (s[p + W.length]'h) := by rw [← e]; exact h2
   rw [List.getElem?_append_right (Nat.le_refl _), Nat.sub_self] at h3
   cases hR : (s.drop p).dropWhile isD with
   | nil => rw [hR] at h3; simp at h3
   | cons c t =>
     rw [hR] at h3
     simp only [List.getElem?_cons_zero, Option.some.injEq] at h3
     rw [← h3]
     have := List.head?_dropWhile_not (p := isD) (l := s.drop p)
     rw [hR] at this
     simpa using this
 intro n
 induction n with
 | zero =>
   intro j h1 h2
   obtain rfl : j = J := by omega
   have hend := number_end (BA s) p (p + j) (by omega) (by rw [BA_size]; omega) q hq
   refine Ev.step' ?_; simp only [spec_l1Reader_number.l0]
   by_cases hlt : p + j < s.length
   · refine Ev.pos (by rw [BA_size]; omega) (Ev.pos (by omega) ?_)
     rw [inN_is, bt_at hlt, wrapS (by have := s[p + j].toNat_lt; omega) (by have := s[p + j].toNat_lt; omega)]
     by_cases h6 : ((s.drop p).takeWhile isD).length ≤ 6
     · obtain rfl : j = ((s.drop p).takeWhile isD).length := by omega
       have := hnot hlt
       refine Ev.bind (Ev.now _) (Ev.neg ?_ hend)
       rw [decide_eq_true_eq]
       intro hh
       have e : isD (s[p + ((s.drop p).takeWhile isD).length]'hlt) = true := (isD_iff _).2 ⟨by omega, by omega⟩
       rw [this] at e
       cases e
     · by_cases hd : (48 : Int) ≤ (s[p + j].toNat : Int) ∧ (s[p + j].toNat : Int) ≤ 57
       · refine Ev.bind (Ev.now _) (Ev.pos (by rw [decide_eq_true_eq]; exact hd) (Ev.neg ?_ hend))
         rw [wrapS (by omega) (by omega)]
         omega
       · exact Ev.bind (Ev.now _) (Ev.neg (by rw [decide_eq_true_eq]; exact hd) hend)
   · exact Ev.neg (by rw [BA_size]; omega) hend
 | succ n ih =>
   intro j h1 h2
   have hlt : p + j < s.length := by omega
   have hd := (isD_iff _).1 (hdig j (by omega) hlt)
   have hnext := ih (j + 1) (by omega) (by omega)
   refine Ev.step' ?_; simp only [spec_l1Reader_number.l0]
   refine Ev.pos (by rw [BA_size]; omega) (Ev.pos (by omega) ?_)
   rw [inN_is, bt_at hlt, wrapS (by omega) (by omega)]
   refine Ev.bind (Ev.now _) (Ev.pos (by rw [decide_eq_true_eq]; omega) (Ev.pos ?_ ?_))
   · rw [wrapS (by omega) (by omega)]
     omega
   · rw [show wrap64 (((p + j : Nat) : Int) + 1) = ((p + (j + 1) : Nat) : Int) by rw [wrapS (by omega) (by omega)]; omega]
     exact hnext
theorem number_is (s : By) (p : Nat) (hp : p ≤ s.length) (hs : s.length ≤ 1000000) :
   ∃ res : Int × ByteArray × Int × Bool, Ev (fun k => spec_l1Reader_number.f k (BA s) (p : Int) false) res ∧ OutS 0 s (parse 0 (s.drop p)) (res.1, [], res.2.1, res.2.2.1, res.2.2.2) := by
 have hcnt : ((s.drop p).takeWhile isD).length + ((s.drop p).dropWhile isD).length = s.length - p := by
   have := congrArg List.length (List.takeWhile_append_dropWhile (p := isD) (l := s.drop p))
   rw [List.length_append, List.length_drop] at this
   exact this
 have hall : ((s.drop p).takeWhile isD).all isD = true := List.all_takeWhile
 have hx : (BA s).extract p (p + min 6 ((s.drop p).takeWhile isD).length) = BA (((s.drop p).takeWhile isD).take 6) := by
   rw [BA_extract]
   congr 1
   have e : s.drop p = (s.drop p).takeWhile isD ++ (s.drop p).dropWhile isD := List.takeWhile_append_dropWhile.symm
   generalize hW : (s.drop p).takeWhile isD = W at *
   generalize hR : (s.drop p).dropWhile isD = R at *
   rw [e, show p + min 6 W.length - p = min 6 W.length by omega, List.take_append_of_le_length (by omega)]
   by_cases h6 : 6 ≤ W.length
   · rw [show min 6 W.length = 6 by omega]
   · rw [List.take_of_length_le (by omega), List.take_of_length_le (by omega)]
 have hall6 : (((s.drop p).takeWhile isD).take 6).all isD = true := by
   rw [List.all_eq_true] at hall ⊢
   intro x hx
   exact hall x (List.mem_of_mem_take hx)
 have hE : ∀ q : Int × Bool, q = (if Lib.decDigits (valD 0 (((s.drop p).takeWhile isD).take 6)) = ((s.drop p).takeWhile isD).take 6 then ((valD 0 (((s.drop p).takeWhile isD).take 6) : Int), true) else (0, false)) →
     Ev (fun k => spec_l1Reader_number.f k (BA s) (p : Int) false) (q.1, BA s, ((p + min 6 ((s.drop p).takeWhile isD).length : Nat) : Int), false || !q.2 || !(decide (0 ≤ q.1) && decide (q.1 ≤ 10006))) := by
   intro q hq
   subst hq
   have hl := l13_is _ hall6 (by rw [List.length_take]; omega)
   rw [← hx] at hl
   unfold spec_l1Reader_number.f
   exact number_l0 s p hp hs _ rfl _ hl _ 0 rfl (Nat.zero_le _)
 refine ⟨_, hE _ rfl, ?_⟩
 · unfold parse parseNum
   generalize hW : (s.drop p).takeWhile isD = W at *
   generalize hR : (s.drop p).dropWhile isD = R at *
   by_cases h6 : W.length ≤ 6
   · rw [List.take_of_length_le h6]
     by_cases hdec : Lib.decDigits (valD 0 W) = W
     · by_cases hv : valD 0 W < 10007
       · rw [if_pos ⟨hv, hdec⟩, if_pos hdec]
         show _ = _
         simp only [cS, Prod.mk.injEq, true_and, Bool.false_or]
         refine ⟨by omega, ?_⟩
         simp
         omega
       · rw [if_neg (fun h => hv h.1), if_pos hdec]
         show _ = _
         simp
         omega
     · rw [if_neg (fun h => hdec h.2), if_neg hdec]
       rfl
   · have hnone : ¬ (valD 0 W < 10007 ∧ Lib.decDigits (valD 0 W) = W) := by
       rintro ⟨hv, hdec⟩
       obtain ⟨c, r, e, h1⟩ := (dec_val_iff hall).1 hdec
       rw [e] at hall hv h6
       simp only [List.all_cons, Bool.and_eq_true] at hall
       simp only [List.length_cons] at h6
       rcases h1 with h1 | h1
       · have := six_big hall.1 h1 (r := r) (by omega)
         omega
       · rw [h1] at h6
         simp at h6
     rw [if_neg hnone]
     show _ = _
     split
     · next hdec =>
       obtain ⟨c, r, e, h1⟩ := (dec_val_iff hall6).1 hdec
       have hl6 : (W.take 6).length = 6 := by rw [List.length_take]; omega
       rw [e] at hall6 hl6 ⊢
       simp only [List.all_cons, Bool.and_eq_true] at hall6
       simp only [List.length_cons] at hl6
       rcases h1 with h1 | h1
       · have := six_big hall6.1 h1 (r := r) (by omega)
         simp
         omega
       · rw [h1] at hl6
         simp at hl6
     · rfl

theorem is_hit {s : By} {p : Nat} {c : UInt8} {t : By} (h : s.drop p = c :: t) (hs : s.length ≤ 1000000) (ch : Int) (e : (c.toNat : Int) = ch) : spec_l1Reader_is.f (BA s) (p : Int) false ch = some (true, BA s, ((p + 1 : Nat) : Int), false) := by
 have hp : p < s.length := by
   rcases Nat.lt_or_ge p s.length with h1 | h1
   · exact h1
   · rw [List.drop_eq_nil_of_le h1] at h; cases h
 rw [drop_split hp] at h
 obtain ⟨rfl, rfl⟩ := List.cons.inj h
 unfold spec_l1Reader_is.f
 rw [if_pos (by rw [BA_size]; omega), if_pos (by omega), bt_at hp, if_pos e, wrapS (by omega) (by omega)]
 rfl
theorem is_miss {s : By} {p : Nat} (ch : Int) (h : ∀ c t, s.drop p = c :: t → (c.toNat : Int) ≠ ch) : spec_l1Reader_is.f (BA s) (p : Int) false ch = some (false, BA s, (p : Int), false) := by
 unfold spec_l1Reader_is.f
 by_cases hp : p < s.length
 · rw [if_pos (by rw [BA_size]; omega), if_pos (by omega), bt_at hp, if_neg (h _ _ (drop_split hp))]
 · rw [if_neg (by rw [BA_size]; omega)]
def tailL (d n : Nat) : By → Option (List Tr × By)
 | [] => none
 | c :: r => if c = 44 then parseL (parse d) n r else if c = 93 then some ([], r) else none
theorem parseL_tail (d n : Nat) (s : By) : parseL (parse d) (n + 1) s = (parse d s).bind fun q => (tailL d n q.2).map fun z => (q.1 :: z.1, z.2) := by
 unfold parseL
 cases parse d s with
 | none => rfl
 | some q =>
   obtain ⟨v, r⟩ := q
   cases r with
   | nil => rfl
   | cons c r =>
     simp only [tailL, Option.bind_some]
     by_cases h44 : c = 44
     · subst h44
       rfl
     · rw [if_neg h44, if_neg h44]
       by_cases h93 : c = 93
       · rw [if_pos h93, if_pos h93]; rfl
       · rw [if_neg h93, if_neg h93]; rfl
def OutL (d : Nat) (s : By) (acc : List NS) : Option (List Tr × By) → RS → Prop
 | none, res => res.2.2.2.2 = true
 | some (vs, r), res => res = (0, acc ++ vs.map (cS d), BA s, ((s.length - r.length : Nat) : Int), false)
/-- What holds of each text at a depth. -/
def NodeIs (d : Nat) : Prop := ∀ (s : By) (p : Nat), p ≤ s.length → s.length ≤ 1000000 → ∃ res, Ev (fun k => spec_l1Reader_node.f k (BA s) (p : Int) false (d : Int)) res ∧ OutS d s (parse d (s.drop p)) res
theorem node_bad (x1 m : Int) (x : ByteArray) (y : Int) (ps : List NS) : Ev (fun k => spec_l1Reader_node.l0 k x1 x y true m ps) (m, ps, x, y, true) := by
 refine Ev.step' ?_; simp only [spec_l1Reader_node.l0]
 exact Ev.pos (by first | trivial | rfl) (Ev.now _)
theorem node_l0 (d : Nat) (hd : d ≤ 1000) (hf : NodeIs d) (s : By) (hs : s.length ≤ 1000000) : ∀ (n p : Nat) (acc : List NS), p ≤ s.length → (s.drop p).length ≤ n → acc.length + (s.drop p).length ≤ 1000000 →
   ∃ res, Ev (fun k => spec_l1Reader_node.l0 k ((d + 1 : Nat) : Int) (BA s) (p : Int) false 0 acc) res ∧ OutL d s acc (tailL d n (s.drop p)) res := by
 intro n
 induction n with
 | zero =>
   intro p acc hp hn hb
   have hnil : s.drop p = [] := List.length_eq_zero_iff.1 (by omega)
   have hm : ∀ ch, spec_l1Reader_is.f (BA s) (p : Int) false ch = some (false, BA s, (p : Int), false) := fun ch => is_miss ch (by rw [hnil]; intro c t e; cases e)
   refine ⟨(0, acc, BA s, (p : Int), true), ?_, by rw [hnil]; rfl⟩
   refine Ev.step' ?_; simp only [spec_l1Reader_node.l0]
   refine Ev.neg (by simp) (Ev.call (hm 44) (Ev.neg (by simp) (Ev.neg (by simp) (Ev.call (hm 93) (Ev.val rfl)))))
 | succ n ih =>
   intro p acc hp hn hb
   cases hdr : s.drop p with
   | nil =>
     have hm : ∀ ch, spec_l1Reader_is.f (BA s) (p : Int) false ch = some (false, BA s, (p : Int), false) := fun ch => is_miss ch (by rw [hdr]; intro c t e; cases e)
     refine ⟨(0, acc, BA s, (p : Int), true), ?_, rfl⟩
     refine Ev.step' ?_; simp only [spec_l1Reader_node.l0]
     refine Ev.neg (by simp) (Ev.call (hm 44) (Ev.neg (by simp) (Ev.neg (by simp) (Ev.call (hm 93) (Ev.val rfl)))))
   | cons c t =>
     have hp' : p < s.length := by
       rcases Nat.lt_or_ge p s.length with h1 | h1
       · exact h1
       · rw [List.drop_eq_nil_of_le h1] at hdr; cases hdr
     have ht : s.drop (p + 1) = t := by
       have := drop_split hp'
       rw [hdr] at this
       exact (List.cons.inj this).2.symm
     have htl : t.length = s.length - (p + 1) := by rw [← ht, List.length_drop]
     rw [hdr] at hn hb
     simp only [List.length_cons] at hn hb
     by_cases h44 : c = 44
     · subst h44
       obtain ⟨res, h1, h2⟩ := hf s (p + 1) (by omega) hs
       rw [ht] at h2
       have hgo : ∀ res', (Ev (fun k => spec_l1Reader_node.l0 k ((d + 1 : Nat) : Int) res.2.2.1 res.2.2.2.1 res.2.2.2.2 0 (acc ++ [⟨res.1, res.2.1⟩])) res') → Ev (fun k => spec_l1Reader_node.l0 k ((d + 1 : Nat) : Int) (BA s) (p : Int) false 0 acc) res' := by
         intro res' h
         refine Ev.step' ?_; simp only [spec_l1Reader_node.l0]
         refine Ev.neg (by simp) (Ev.call (is_hit hdr hs 44 rfl) (Ev.pos (by first | trivial | rfl) ?_))
         rw [show wrap64 (((d + 1 : Nat) : Int) - 1) = (d : Int) by rw [wrapS (by omega) (by omega)]; omega]
         exact Ev.bind h1 (Ev.pos (by omega) h)
       have htail : tailL d (n + 1) (44 :: t) = (parse d t).bind fun q => (tailL d n q.2).map fun z => (q.1 :: z.1, z.2) := parseL_tail d n t
       rw [htail]
       cases hq : parse d t with
       | none =>
         rw [hq] at h2
         have hb2 : res.2.2.2.2 = true := h2
         refine ⟨(0, acc ++ [⟨res.1, res.2.1⟩], res.2.2.1, res.2.2.2.1, true), hgo _ ?_, rfl⟩
         rw [hb2]
         exact node_bad _ _ _ _ _
       | some q =>
         obtain ⟨v, r⟩ := q
         rw [hq] at h2
         have hres : res = ((cS d v).f0, (cS d v).f1, BA s, ((s.length - r.length : Nat) : Int), false) := h2
         have hr := parse_len hq
         have hdrop : s.drop (s.length - r.length) = r := by
           obtain ⟨e, _⟩ := parse_sound d t v r hq
           have e2 : s = s.take (p + 1) ++ (text d v ++ r) := by rw [← e, ← ht, List.take_append_drop]
           have e3 : s.length - r.length = (s.take (p + 1) ++ text d v).length := by
             have := congrArg List.length e2
             simp only [List.length_append] at this ⊢
             omega
           conv => lhs; arg 2; rw [e2]
           rw [e3, ← List.append_assoc, List.drop_left]
         have hle : r.length ≤ s.length := by omega
         obtain ⟨res', h3, h4⟩ := ih (s.length - r.length) (acc ++ [cS d v]) (by omega) (by rw [hdrop]; omega) (by rw [hdrop]; simp; omega)
         rw [hdrop] at h4
         refine ⟨res', hgo _ ?_, ?_⟩
         · rw [hres]
           simp only [mkS]
           exact h3
         · simp only [Option.bind_some]
           cases hz : tailL d n r with
           | none => rw [hz] at h4; exact h4
           | some z =>
             rw [hz] at h4
             have h4' : res' = _ := h4
             show res' = _
             rw [h4']
             simp
     · have hm : spec_l1Reader_is.f (BA s) (p : Int) false 44 = some (false, BA s, (p : Int), false) := is_miss 44 (by
         rw [hdr]
         intro c' t' e
         rw [← (List.cons.inj e).1]
         exact toNat_ne (n := 44) h44 (by omega))
       by_cases h93 : c = 93
       · subst h93
         refine ⟨(0, acc, BA s, ((p + 1 : Nat) : Int), false), ?_, ?_⟩
         · refine Ev.step' ?_; simp only [spec_l1Reader_node.l0]
           exact Ev.neg (by simp) (Ev.call hm (Ev.neg (by simp) (Ev.neg (by simp) (Ev.call (is_hit hdr hs 93 rfl) (Ev.val rfl)))))
         · show _ = _
           rw [htl, List.map_nil, List.append_nil, show s.length - (s.length - (p + 1)) = p + 1 by omega]
       · refine ⟨(0, acc, BA s, (p : Int), true), ?_, ?_⟩
         · refine Ev.step' ?_; simp only [spec_l1Reader_node.l0]
           exact Ev.neg (by simp) (Ev.call hm (Ev.neg (by simp) (Ev.neg (by simp) (Ev.call (is_miss 93 (by
             rw [hdr]
             intro c' t' e
             rw [← (List.cons.inj e).1]
             exact toNat_ne (n := 93) h93 (by omega))) (Ev.val rfl)))))
         · simp only [tailL, if_neg h44, if_neg h93]
           rfl
theorem drop_rest {s t r u : By} {p : Nat} (ht : s.drop p = t) (e : t = u ++ r) (hp : p ≤ s.length) : s.drop (s.length - r.length) = r ∧ r.length ≤ s.length - p := by
 have e2 : s = s.take p ++ (u ++ r) := by rw [← e, ← ht, List.take_append_drop]
 have e3 : s.length - r.length = (s.take p ++ u).length := by
   have := congrArg List.length e2
   simp only [List.length_append] at this ⊢
   omega
 constructor
 · conv => lhs; arg 2; rw [e2]
   rw [e3, ← List.append_assoc, List.drop_left]
 · have := congrArg List.length e
   rw [← ht, List.length_append, List.length_drop] at this
   omega
theorem node_is : ∀ d, d ≤ 1000 → NodeIs d
 | 0, _ => by
   intro s p hp hs
   obtain ⟨res, h1, h2⟩ := number_is s p hp hs
   refine ⟨(res.1, [], res.2.1, res.2.2.1, res.2.2.2), ?_, h2⟩
   refine Ev.step' ?_; simp only [spec_l1Reader_node.f]
   refine Ev.call (a := ([] : List NS)) rfl (Ev.pos (by first | trivial | rfl) ?_)
   exact Ev.bind h1 (Ev.now _)
 | d + 1, hd => by
   have ih := node_is d (by omega)
   intro s p hp hs
   cases hdr : s.drop p with
   | nil =>
     refine ⟨(0, [], BA s, (p : Int), true), ?_, by rw [parse_nil]; rfl⟩
     refine Ev.step' ?_; simp only [spec_l1Reader_node.f]
     refine Ev.call (a := ([] : List NS)) rfl (Ev.neg (by omega) (Ev.call (is_miss 91 (by rw [hdr]; intro c t e; cases e)) (Ev.neg (by simp) (Ev.val rfl))))
   | cons c t =>
     have hp' : p < s.length := by
       rcases Nat.lt_or_ge p s.length with h1 | h1
       · exact h1
       · rw [List.drop_eq_nil_of_le h1] at hdr; cases hdr
     have ht : s.drop (p + 1) = t := by
       have := drop_split hp'
       rw [hdr] at this
       exact (List.cons.inj this).2.symm
     have htl : t.length = s.length - (p + 1) := by rw [← ht, List.length_drop]
     by_cases h91 : c = 91
     · subst h91
       have hgo : ∀ res, Ev (fun k => (spec_l1Reader_is.f (BA s) ((p + 1 : Nat) : Int) false 93).bind fun bt114 => (if bt114.1 = true then (some (0, ([] : List NS), bt114.2.1, bt114.2.2.1, bt114.2.2.2)) else ((spec_l1Reader_node.f k bt114.2.1 bt114.2.2.1 bt114.2.2.2 (d : Int)).bind fun bt118 => (if ([] : List NS).length < 4398046511104 then (spec_l1Reader_node.l0 k ((d + 1 : Nat) : Int) bt118.2.2.1 bt118.2.2.2.1 bt118.2.2.2.2 0 (([] : List NS) ++ [(⟨bt118.1, bt118.2.1⟩ : NS)])) else (none))))) res →
           Ev (fun k => spec_l1Reader_node.f k (BA s) (p : Int) false ((d + 1 : Nat) : Int)) res := by
         intro res h
         refine Ev.step' ?_; simp only [spec_l1Reader_node.f]
         refine Ev.call (a := ([] : List NS)) rfl (Ev.neg (by omega) (Ev.call (is_hit hdr hs 91 rfl) (Ev.pos (by first | trivial | rfl) ?_)))
         rw [show wrap64 (((d + 1 : Nat) : Int) - 1) = (d : Int) by rw [wrapS (by omega) (by omega)]; omega]
         exact h
       by_cases h93 : ∃ t', t = 93 :: t'
       · obtain ⟨t', rfl⟩ := h93
         simp only [List.length_cons] at htl
         refine ⟨_, hgo _ (Ev.call (is_hit ht hs 93 rfl) (Ev.pos (by first | trivial | rfl) (Ev.now _))), ?_⟩
         have : parse (d + 1) (91 :: 93 :: t') = some (⟨0, []⟩, t') := by unfold parse; simp
         rw [this]
         show _ = _
         rw [show s.length - t'.length = p + 1 + 1 by omega]
         rfl
       · have hm : spec_l1Reader_is.f (BA s) ((p + 1 : Nat) : Int) false 93 = some (false, BA s, ((p + 1 : Nat) : Int), false) := is_miss 93 (by
           rw [ht]
           intro c' t' e e2
           apply h93
           refine ⟨t', ?_⟩
           rw [e]
           congr 1
           apply UInt8.toNat.inj
           have h3 : (93 : UInt8).toNat = 93 := rfl
           omega)
         obtain ⟨res, h1, h2⟩ := ih s (p + 1) (by omega) hs
         rw [ht] at h2
         have hgo2 : ∀ res', (Ev (fun k => spec_l1Reader_node.l0 k ((d + 1 : Nat) : Int) res.2.2.1 res.2.2.2.1 res.2.2.2.2 0 [⟨res.1, res.2.1⟩]) res') → Ev (fun k => spec_l1Reader_node.f k (BA s) (p : Int) false ((d + 1 : Nat) : Int)) res' := by
           intro res' h
           exact hgo _ (Ev.call hm (Ev.neg (by simp) (Ev.bind h1 (Ev.pos (by simp) h))))
         have hpar : parse (d + 1) (91 :: t) = ((parse d t).bind fun q => (tailL d t.length q.2).map fun z => (q.1 :: z.1, z.2)).map fun q => ((⟨0, q.1⟩ : Tr), q.2) := by
           cases t with
           | nil => rw [parse_nil]; rfl
           | cons c' t' =>
             have h93' : c' ≠ 93 := fun e => h93 ⟨t', by rw [e]⟩
             have e0 : parse (d + 1) (91 :: c' :: t') = if c' = 93 then some (⟨0, []⟩, t') else (parseL (parse d) ((c' :: t').length + 1) (c' :: t')).map fun q => (⟨0, q.1⟩, q.2) := rfl
             rw [e0, if_neg h93', parseL_tail]
         rw [hpar]
         cases hq : parse d t with
         | none =>
           rw [hq] at h2
           have hb2 : res.2.2.2.2 = true := h2
           refine ⟨(0, [⟨res.1, res.2.1⟩], res.2.2.1, res.2.2.2.1, true), hgo2 _ ?_, rfl⟩
           rw [hb2]
           exact node_bad _ _ _ _ _
         | some q =>
           obtain ⟨v, r⟩ := q
           rw [hq] at h2
           have hres : res = ((cS d v).f0, (cS d v).f1, BA s, ((s.length - r.length : Nat) : Int), false) := h2
           obtain ⟨hdrop, hle⟩ := drop_rest ht (parse_sound d t v r hq).1 (by omega)
           have hr := parse_len hq
           obtain ⟨res', h3, h4⟩ := node_l0 d (by omega) ih s hs t.length (s.length - r.length) [cS d v] (by omega) (by rw [hdrop]; omega) (by rw [hdrop]; simp; omega)
           rw [hdrop] at h4
           refine ⟨res', hgo2 _ ?_, ?_⟩
           · rw [hres]
             simp only [mkS]
             exact h3
           · simp only [Option.bind_some]
             cases hz : tailL d t.length r with
             | none => rw [hz] at h4; exact h4
             | some z =>
               rw [hz] at h4
               have h4' : res' = _ := h4
               show res' = _
               rw [h4']
               simp [cS]
     · refine ⟨(0, [], BA s, (p : Int), true), ?_, ?_⟩
       · refine Ev.step' ?_; simp only [spec_l1Reader_node.f]
         refine Ev.call (a := ([] : List NS)) rfl (Ev.neg (by omega) (Ev.call (is_miss 91 (by
           rw [hdr]
           intro c' t' e
           rw [← (List.cons.inj e).1]
           exact toNat_ne (n := 91) h91 (by omega))) (Ev.neg (by simp) (Ev.val rfl))))
       · unfold parse
         simp only [if_neg h91]
         rfl

/-! ### the two readings -/
/-- The array that a text stands for. -/
def readD (d : Nat) (l : By) : Option Tr := if l.length ≤ 400 then (match parse d l with | some (v, []) => some v | _ => none) else none
theorem readD_ok {d : Nat} {l : By} {v : Tr} (h : readD d l = some v) : l = text d v ∧ Ok d v ∧ l.length ≤ 400 := by
 unfold readD at h
 split at h
 · next hl =>
   split at h
   · next v' hp =>
     obtain rfl := Option.some.inj h
     obtain ⟨h1, h2⟩ := parse_sound _ _ _ _ hp
     exact ⟨by simpa using h1, h2, hl⟩
   · cases h
 · cases h
theorem readD_text {d : Nat} {v : Tr} (h : Ok d v) (hl : (text d v).length ≤ 400) : readD d (text d v) = some v := by
 unfold readD
 have := parse_complete d v [] h (by intro c l e; cases e)
 rw [List.append_nil] at this
 rw [if_pos hl, this]
def resS (d : Nat) : Option Tr → Int × List NS × Bool
 | none => (0, [], false)
 | some v => ((cS d v).f0, (cS d v).f1, true)
theorem l1Read_is (d : Nat) (hd : d ≤ 3) (l : By) : Ev (fun k => spec_l1Read.f k (BA l) (d : Int)) (resS d (readD d l)) := by
 unfold spec_l1Read.f
 have hin : spec_l1In.f (d : Int) 0 3 = some true := by
   unfold spec_l1In.f
   rw [if_pos (by omega)]
   simp
   omega
 refine Ev.call hin (Ev.pos (by first | trivial | rfl) ?_)
 refine Ev.step' ?_; simp only [spec_l1Read.j0]
 unfold readD
 by_cases hl : l.length ≤ 400
 · rw [if_pos hl]
   refine Ev.neg (by simp; omega) ?_
   obtain ⟨res, h1, h2⟩ := node_is d (by omega) l 0 (by omega) (by omega)
   rw [List.drop_zero] at h2
   refine Ev.bind h1 ?_
   cases hq : parse d l with
   | none =>
     rw [hq] at h2
     exact Ev.pos h2 (Ev.now _)
   | some q =>
     obtain ⟨v, r⟩ := q
     rw [hq] at h2
     have hres : res = ((cS d v).f0, (cS d v).f1, BA l, ((l.length - r.length : Nat) : Int), false) := h2
     subst hres
     have hr := parse_len hq
     refine Ev.neg (by simp) ?_
     cases r with
     | nil => exact Ev.pos (by simp) (Ev.now _)
     | cons c r => exact Ev.neg (by simp only [List.length_cons] at hr ⊢; rw [BA_size]; omega) (Ev.now _)
 · rw [if_neg hl]
   exact Ev.pos (by simp; omega) (Ev.now _)
theorem l1Read_out (d : Int) (hd : d < 0 ∨ 3 < d) (s : ByteArray) : Ev (fun k => spec_l1Read.f k s d) (0, [], false) := by
 unfold spec_l1Read.f
 have hin : spec_l1In.f d 0 3 = some false := by
   unfold spec_l1In.f
   by_cases h0 : d ≥ 0
   · rw [if_pos h0]
     simp
     omega
   · rw [if_neg h0]
 refine Ev.call hin (Ev.neg (by simp) ?_)
 refine Ev.step' ?_; simp only [spec_l1Read.j0]
 exact Ev.pos (by first | trivial | rfl) (Ev.now _)
/-- .. and impl's: beside the sign, parts of some array. -/
theorem arrOf_is (d : Nat) (hd : d ≤ 3) (l : By) : ∃ t, Ev (fun k => impl_arrOf.f k (BA l) (d : Int)) ((cA d t).f0, (cA d t).f1, (readD d l).isSome) ∧ Ok d t ∧ (text d t).length ≤ 402 ∧ ∀ v, readD d l = some v → t = v := by
 have hz : (cA d ⟨0, []⟩).f0 = 0 ∧ (cA d ⟨0, []⟩).f1 = [] ∧ Ok d ⟨0, []⟩ ∧ (text d ⟨0, []⟩).length ≤ 402 := by
   cases d with
   | zero => exact ⟨rfl, rfl, ⟨by show 0 < 10007; omega, rfl⟩, by simp [text, dec_small]⟩
   | succ d => exact ⟨rfl, rfl, ⟨rfl, by intro x hx; cases hx⟩, by simp [text, Lib.join_nil]⟩
 obtain ⟨z1, z2, z3, z4⟩ := hz
 unfold impl_arrOf.f readD
 by_cases hl : l.length ≤ 400
 · rw [if_pos hl]
   have hr := readArr_is d (by omega) l (by omega)
   cases hq : parse d l with
   | none =>
     rw [hq] at hr
     refine ⟨⟨0, []⟩, ?_, z3, z4, by simp⟩
     refine Ev.neg (by omega) (Ev.neg (by omega) (Ev.neg (by rw [BA_size]; omega) (Ev.bind hr (Ev.neg (by simp [resA, badA]) (Ev.val ?_)))))
     rw [z1, z2]
     rfl
   | some q =>
     obtain ⟨v, r⟩ := q
     rw [hq] at hr
     obtain ⟨h1, h2⟩ := parse_sound _ _ _ _ hq
     refine ⟨v, ?_, h2, ?_, ?_⟩
     · refine Ev.neg (by omega) (Ev.neg (by omega) (Ev.neg (by rw [BA_size]; omega) (Ev.bind hr (Ev.pos (by first | trivial | rfl) (Ev.val ?_)))))
       simp only [resA, toList_BA]
       cases r <;> rfl
     · have := congrArg List.length h1
       rw [List.length_append] at this
       omega
     · intro v' hv
       cases r with
       | nil => exact Option.some.inj hv
       | cons c r => cases hv
 · rw [if_neg hl]
   refine ⟨⟨0, []⟩, ?_, z3, z4, by simp⟩
   refine Ev.neg (by omega) (Ev.neg (by omega) (Ev.pos (by rw [BA_size]; omega) (Ev.val ?_)))
   rw [z1, z2]
   rfl
theorem arrOf_out (d : Int) (hd : d < 0 ∨ 3 < d) (s : ByteArray) : Ev (fun k => impl_arrOf.f k s d) (0, [], false) := by
 unfold impl_arrOf.f
 by_cases h0 : d < 0
 · exact Ev.pos h0 (Ev.now _)
 · exact Ev.neg h0 (Ev.pos (by omega) (Ev.now _))
end Go.Proofs.YtoloblgjlnhioaaDoor.J
namespace Go.Proofs.YtoloblgjlnhioaaDoor.J
open Go.RowKit Go.Proofs.YtoloblgjlnhioaaDoorW.PrintWords Go.Proofs.YtoloblgjlnhioaaDoorW.PrintLast Go.Proofs.YtoloblgjlnhioaaDoorW.PrintMore Go.Proofs.YtoloblgjlnhioaaDoor.Q
set_option linter.unusedSimpArgs false
set_option linter.unusedVariables false

theorem strOne (m : Nat) (h : m < 256) : strOfNums [(m : Int)] = BA [UInt8.ofNat m] := by
 unfold strOfNums BA
 simp
theorem l13Dec_l0 : ∀ (n : Nat) (suf : By), n < 1000000000000000000 → suf.length ≤ 100 → Ev (fun k => spec_l13Dec.l0 k (n : Int) (BA suf)) (BA (Lib.decDigits n ++ suf)) := by
 have main : ∀ (b n : Nat) (suf : By), n < 10 ^ b → b ≤ 18 → suf.length + b ≤ 118 → Ev (fun k => spec_l13Dec.l0 k (n : Int) (BA suf)) (BA (Lib.decDigits n ++ suf)) := by
   intro b
   induction b with
   | zero =>
     intro n suf hn hb hs
     have hn1 : n < 1 := hn
     have : n = 0 := by omega
     subst this
     refine Ev.step' ?_; simp only [spec_l13Dec.l0]
     have e : (wrap64 (48 + ((0 : Nat) : Int))) % 256 = ((48 + 0 : Nat) : Int) := by
       rw [wrapS (by omega) (by omega)]
       omega
     refine Ev.neg (by omega) ?_
     rw [e]
     refine Ev.call (a := [((48 + 0 : Nat) : Int)]) rfl (Ev.pos (by rw [strOne _ (by omega), BA_size, BA_size]; simp; omega) (Ev.val ?_))
     rw [strOne _ (by omega), BA_append, dec_small (by omega)]
   | succ b ih =>
     intro n suf hn hb hs
     refine Ev.step' ?_; simp only [spec_l13Dec.l0]
     have hpow : 10 ^ (b + 1) ≤ 10 ^ 18 := Nat.pow_le_pow_right (by omega) hb
     have hnb : n < 1000000000000000000 := by
       have : (10 ^ 18 : Nat) = 1000000000000000000 := by decide
       omega
     by_cases h9 : n < 10
     · have e : (wrap64 (48 + (n : Int))) % 256 = ((48 + n : Nat) : Int) := by
         rw [wrapS (by omega) (by omega)]
         omega
       refine Ev.neg (by omega) ?_
       rw [e]
       refine Ev.call (a := [((48 + n : Nat) : Int)]) rfl (Ev.pos (by rw [strOne _ (by omega), BA_size, BA_size]; simp; omega) (Ev.val ?_))
       rw [strOne _ (by omega), BA_append, dec_small h9]
     · have e : (wrap64 (48 + Int.tmod (n : Int) 10)) % 256 = ((48 + n % 10 : Nat) : Int) := by
         rw [Int.tmod_eq_emod_of_nonneg (by omega), wrapS (by omega) (by omega)]
         omega
       have e2 : wrap64 (Int.tdiv (n : Int) 10) = ((n / 10 : Nat) : Int) := by
         rw [Int.tdiv_eq_ediv_of_nonneg (by omega), wrapS (by omega) (by omega)]
         omega
       refine Ev.pos (by omega) ?_
       rw [e, e2]
       refine Ev.call (a := [((48 + n % 10 : Nat) : Int)]) rfl (Ev.pos (by rw [strOne _ (by omega), BA_size, BA_size]; simp; omega) ?_)
       rw [strOne _ (by omega), BA_append]
       refine evIs (ih (n / 10) _ ?_ (by omega) (by simp; omega)) ?_
       · rw [Nat.pow_succ] at hn
         generalize 10 ^ b = q at *
         omega
       · rw [dec_big h9, List.append_assoc]
 intro n suf hn hs
 exact main 18 n suf (by have : (10 ^ 18 : Nat) = 1000000000000000000 := by decide
                         omega) (by omega) (by omega)
theorem l13Dec_is (n : Nat) (hn : n < 1000000000000000000) : Ev (fun k => spec_l13Dec.f k (n : Int)) (BA (Lib.decDigits n)) := by
 refine Ev.step' ?_; simp only [spec_l13Dec.f]
 refine Ev.neg (by omega) (Ev.neg (by omega) (evIs (l13Dec_l0 n [] hn (by simp)) ?_))
 rw [List.append_nil]

theorem dec_len : ∀ (b n : Nat), n < 10 ^ b → 1 ≤ b → (Lib.decDigits n).length ≤ b := by
 intro b
 induction b with
 | zero => intro n _ h; omega
 | succ b ih =>
   intro n hn _
   by_cases h9 : n < 10
   · rw [dec_small h9]; simp
   · rw [dec_big h9, List.length_append]
     have h1 : n / 10 < 10 ^ b := by
       rw [Nat.pow_succ] at hn
       generalize 10 ^ b = q at *
       omega
     have hb : 1 ≤ b := by
       rcases Nat.eq_zero_or_pos b with rfl | h
       · have : n / 10 < 1 := h1
         omega
       · exact h
     have := ih (n / 10) h1 hb
     simp
     omega
end Go.Proofs.YtoloblgjlnhioaaDoor.J
namespace Go.Proofs.YtoloblgjlnhioaaDoor.J
open Go.RowKit Go.Proofs.YtoloblgjlnhioaaDoorW.PrintWords Go.Proofs.YtoloblgjlnhioaaDoorW.PrintLast Go.Proofs.YtoloblgjlnhioaaDoorW.PrintMore Go.Proofs.YtoloblgjlnhioaaDoor.Q
set_option linter.unusedSimpArgs false
set_option linter.unusedVariables false

/-- Numbers that fit. -/
def Sh : Nat → Tr → Prop
 | 0, t => t.n < 1000000000
 | d + 1, t => ∀ x ∈ t.parts, Sh d x
theorem Sh.of : ∀ {d : Nat} {t : Tr}, Ok d t → Sh d t
 | 0, t, h => by have := h.1; show t.n < _; omega
 | d + 1, t, h => fun x hx => Sh.of (h.2 x hx)
def nodes : Nat → Tr → Nat
 | 0, _ => 1
 | d + 1, t => 1 + (t.parts.map (nodes d)).sum
theorem join_sum (f : Tr → By) (g : Tr → Nat) : ∀ xs : List Tr, (∀ x ∈ xs, (f x).length + 1 ≤ g x) → (Lib.join (xs.map f) [44]).length ≤ (xs.map g).sum
 | [], _ => by simp [Lib.join_nil]
 | [x], h => by
   have := h x (by simp)
   rw [List.map_cons, List.map_nil, join_one]
   simp
   omega
 | x :: y :: l, h => by
   have h1 := h x (by simp)
   have h2 := join_sum f g (y :: l) (fun z hz => h z (List.mem_cons_of_mem _ hz))
   rw [List.map_cons, List.map_cons, join_cons]
   rw [List.map_cons] at h2
   rw [List.map_cons, List.sum_cons]
   simp only [List.length_append, List.length_cons] at h2 ⊢
   omega
theorem join_len2 (f : Tr → By) (g : Tr → Nat) : ∀ xs : List Tr, (∀ x ∈ xs, g x ≤ (f x).length) → (xs.map g).sum ≤ (Lib.join (xs.map f) [44]).length
 | [], _ => by simp
 | [x], h => by
   have h1 := h x (by simp)
   have e1 : (([x] : List Tr).map g).sum = g x := by simp
   have e2 : Lib.join ([x].map f) [44] = f x := join_one _
   rw [e1, e2]
   exact h1
 | x :: y :: l, h => by
   have h1 := h x (by simp)
   have h2 := join_len2 f g (y :: l) (fun z hz => h z (List.mem_cons_of_mem _ hz))
   have e1 : ((x :: y :: l).map g).sum = g x + ((y :: l).map g).sum := by rw [List.map_cons, List.sum_cons]
   have e2 : Lib.join ((x :: y :: l).map f) [44] = f x ++ 44 :: Lib.join ((y :: l).map f) [44] := join_cons _ _ _
   rw [e1, e2, List.length_append, List.length_cons]
   omega
theorem sum_mul (c : Nat) (g : Tr → Nat) : ∀ xs : List Tr, (xs.map (fun x => c * g x)).sum = c * (xs.map g).sum
 | [] => rfl
 | x :: l => by rw [List.map_cons, List.sum_cons, sum_mul c g l, List.map_cons, List.sum_cons, Nat.mul_add]
theorem text_le : ∀ (d : Nat) (t : Tr), Sh d t → (text d t).length + 1 ≤ 12 * nodes d t
 | 0, t, h => by
   have := dec_len 9 t.n h (by omega)
   show (Lib.decDigits t.n).length + 1 ≤ 12
   omega
 | d + 1, t, h => by
   have := join_sum (text d) (fun x => 12 * nodes d x) t.parts (fun x hx => text_le d x (h x hx))
   rw [sum_mul] at this
   show (91 :: (Lib.join (t.parts.map (text d)) [44] ++ [93])).length + 1 ≤ 12 * (1 + (t.parts.map (nodes d)).sum)
   simp
   omega
theorem sum_mem (g : Tr → Nat) : ∀ (xs : List Tr) (x : Tr), x ∈ xs → g x ≤ (xs.map g).sum
 | y :: l, x, h => by
   rw [List.map_cons, List.sum_cons]
   rcases List.mem_cons.1 h with rfl | h
   · omega
   · have := sum_mem g l x h; omega
theorem nodes_part {d : Nat} {t x : Tr} (h : x ∈ t.parts) : nodes d x ≤ nodes (d + 1) t := by
 have := sum_mem (nodes d) t.parts x h
 show _ ≤ 1 + _
 omega
theorem nodes_pos : ∀ (d : Nat) (t : Tr), 1 ≤ nodes d t
 | 0, _ => Nat.le_refl _
 | d + 1, t => by show 1 ≤ 1 + _; omega
theorem sum_len (g : Tr → Nat) (h : ∀ x, 1 ≤ g x) : ∀ xs : List Tr, xs.length ≤ (xs.map g).sum
 | [] => by simp
 | x :: l => by
   have h1 := h x
   have h2 := sum_len g h l
   rw [List.map_cons, List.sum_cons, List.length_cons]
   omega
theorem parts_len (d : Nat) (t : Tr) : t.parts.length + 1 ≤ nodes (d + 1) t := by
 have := sum_len (nodes d) (nodes_pos d) t.parts
 show _ ≤ 1 + _
 omega
theorem getD_map {α : Type} (f : Tr → α) (xs : List Tr) (i : Nat) (z : α) (h : i < xs.length) : (xs.map f).getD i z = f xs[i] := by
 rw [List.getD_eq_getElem?_getD, List.getElem?_map, List.getElem?_eq_getElem h]
 rfl
theorem join_snoc : ∀ (xs : List By) (x : By), xs ≠ [] → Lib.join (xs ++ [x]) [44] = Lib.join xs [44] ++ 44 :: x
 | [], x, h => absurd rfl h
 | [y], x, _ => by rw [List.singleton_append, join_cons, join_one, join_one]
 | y :: z :: l, x, _ => by
   have := join_snoc (z :: l) x (by simp)
   rw [List.cons_append, List.cons_append, join_cons, join_cons, ← List.cons_append, this]
   simp
theorem take_snoc {α : Type} (xs : List α) (i : Nat) (h : i < xs.length) : xs.take (i + 1) = xs.take i ++ [xs[i]] := List.take_succ_eq_append_getElem h
theorem join_take (f : Tr → By) (xs : List Tr) (i : Nat) (h : i < xs.length) (h0 : 0 < i) : Lib.join ((xs.take (i + 1)).map f) [44] = Lib.join ((xs.take i).map f) [44] ++ 44 :: f xs[i] := by
 rw [take_snoc xs i h, List.map_append, List.map_cons, List.map_nil, join_snoc]
 intro e
 have := congrArg List.length e
 rw [List.length_map, List.length_take, List.length_nil] at this
 omega
theorem join_take_le (f : Tr → By) (xs : List Tr) : ∀ i, i ≤ xs.length → (Lib.join ((xs.take i).map f) [44]).length ≤ (Lib.join (xs.map f) [44]).length := by
 have main : ∀ n i, xs.length - i = n → i ≤ xs.length → (Lib.join ((xs.take i).map f) [44]).length ≤ (Lib.join (xs.map f) [44]).length := by
   intro n
   induction n with
   | zero => intro i h hi; rw [List.take_of_length_le (by omega)]; exact Nat.le_refl _
   | succ n ih =>
     intro i h hi
     refine Nat.le_trans ?_ (ih (i + 1) (by omega) (by omega))
     rcases Nat.eq_zero_or_pos i with rfl | h0
     · simp [Lib.join_nil]
     · rw [join_take f xs i (by omega) h0, List.length_append]
       omega
 exact fun i hi => main _ i rfl hi
def TextA (d : Nat) : Prop := ∀ t, Sh d t → nodes d t ≤ 1000000000 → Ev (fun k => impl_arr_text.f k (cA d t).f0 (cA d t).f1 (d : Int)) (BA (text d t))
theorem textA_l0 (d : Nat) (hd : d ≤ 1000) (ih : TextA d) (t : Tr) (hs : Sh (d + 1) t) (hn : nodes (d + 1) t ≤ 1000000000) :
   ∀ (n i : Nat), t.parts.length - i = n → i ≤ t.parts.length → Ev (fun k => impl_arr_text.l0 k ((d + 1 : Nat) : Int) ((t.parts.take i).map fun x => BA (text d x)) (t.parts.map (cA d)) ((t.parts.map (cA d)).length : Int) (i : Int)) (BA (text (d + 1) t)) := by
 have hpl := parts_len d t
 have htl := text_le (d + 1) t hs
 have hte : (text (d + 1) t).length = (Lib.join (t.parts.map (text d)) [44]).length + 2 := by simp [text]
 intro n
 induction n with
 | zero =>
   intro i h hi
   refine Ev.step' ?_; simp only [impl_arr_text.l0]
   rw [List.take_of_length_le (by omega)]
   refine Ev.neg (by rw [List.length_map]; omega) ?_
   have hj : strings_Join.f (t.parts.map fun x => BA (text d x)) (⟨#[44]⟩ : ByteArray) = some (BA (Lib.join (t.parts.map (text d)) [44])) := by
     have e : (t.parts.map fun x => BA (text d x)).map (·.data.toList) = t.parts.map (text d) := by
       rw [List.map_map]
       apply List.map_congr_left
       intro x _
       exact data_BA _
     unfold strings_Join.f
     rw [e, if_pos (by rw [List.length_map]; omega), if_pos (by show (Lib.join (t.parts.map (text d)) [44]).length ≤ _; omega)]
     rfl
   refine Ev.call hj (Ev.pos (by simp; omega) (Ev.pos (by simp; omega) (Ev.val ?_)))
   show BA [91] ++ BA _ ++ BA [93] = _
   rw [BA_append, BA_append]
   rfl
 | succ n ihn =>
   intro i h hi
   have hlt : i < t.parts.length := by omega
   have hm : t.parts[i] ∈ t.parts := List.getElem_mem hlt
   have hx := ih t.parts[i] (hs _ hm) (by have := nodes_part (d := d) hm; omega)
   have hg : rd_T62 (t.parts.map (cA d)) (i : Int) = cA d t.parts[i] := getD_map _ _ _ _ hlt
   refine Ev.step' ?_; simp only [impl_arr_text.l0]
   refine Ev.pos (by rw [List.length_map]; omega) (Ev.pos (by omega) (Ev.pos (by rw [List.length_map]; omega) ?_))
   rw [hg, show wrap64 (((d + 1 : Nat) : Int) - 1) = (d : Int) by rw [wrapS (by omega) (by omega)]; omega, wrapS (a := (i : Int) + 1) (by omega) (by omega)]
   have hnext := ihn (i + 1) (by omega) (by omega)
   refine Ev.bind hx (Ev.pos (by rw [List.length_map, List.length_take]; omega) ?_)
   rw [take_snoc _ _ hlt, List.map_append] at hnext
   exact hnext
theorem textA_is : ∀ d, d ≤ 1000 → TextA d
 | 0, _ => by
   intro t hs hn
   refine Ev.step' ?_; simp only [impl_arr_text.f]
   have h9 : t.n < 1000000000 := hs
   have hi : strconv_Itoa.f (t.n : Int) = some (BA (Lib.decDigits t.n)) := by
     unfold strconv_Itoa.f
     rw [if_pos (by omega), if_pos (by omega), itoa_nat]
     rfl
   refine Ev.pos (by first | trivial | rfl) (Ev.call hi (Ev.val rfl))
 | d + 1, hd => by
   intro t hs hn
   refine Ev.step' ?_; simp only [impl_arr_text.f]
   exact Ev.neg (by omega) (textA_l0 d (by omega) (textA_is d (by omega)) t hs hn _ 0 rfl (by omega))

def told (l : By) : ByteArray × Bool := if l.length ≤ 400 then (BA l, true) else (BA [], false)
theorem nodes_le_text : ∀ (d : Nat) (t : Tr), nodes d t ≤ (text d t).length
 | 0, t => by
   have := List.length_pos_iff.2 (dec_ne t.n)
   exact this
 | d + 1, t => by
   have h := join_len2 (text d) (nodes d) t.parts (fun x _ => nodes_le_text d x)
   show 1 + _ ≤ (91 :: (Lib.join (t.parts.map (text d)) [44] ++ [93])).length
   simp
   omega
end Go.Proofs.YtoloblgjlnhioaaDoor.J
namespace Go.Proofs.YtoloblgjlnhioaaDoor.J
open Go.RowKit Go.Proofs.YtoloblgjlnhioaaDoorW.PrintWords Go.Proofs.YtoloblgjlnhioaaDoorW.PrintLast Go.Proofs.YtoloblgjlnhioaaDoorW.PrintMore Go.Proofs.YtoloblgjlnhioaaDoor.Q
set_option linter.unusedSimpArgs false
set_option linter.unusedVariables false

abbrev ints (l : List Nat) : List Int := l.map (fun n : Nat => (n : Int))
theorem nums_le : ∀ (d : Nat) (t : Tr), (Q.nums d t).length ≤ nodes d t
 | 0, t => Nat.le_refl _
 | d + 1, t => by
   show ((t.parts.map (Q.nums d)).flatten).length ≤ 1 + (t.parts.map (nodes d)).sum
   have : ∀ xs : List Tr, ((xs.map (Q.nums d)).flatten).length ≤ (xs.map (nodes d)).sum := by
     intro xs
     induction xs with
     | nil => exact Nat.le_refl _
     | cons x l ih =>
       have := nums_le d x
       rw [List.map_cons, List.flatten_cons, List.length_append, List.map_cons, List.sum_cons]
       omega
   have := this t.parts
   omega
theorem flat_take_le (f : Tr → List Nat) (xs : List Tr) (i : Nat) : (((xs.take i).map f).flatten).length ≤ ((xs.map f).flatten).length := by
 conv => rhs; rw [← List.take_append_drop i xs, List.map_append, List.flatten_append, List.length_append]
 omega
theorem flat_snoc (f : Tr → List Nat) (xs : List Tr) (i : Nat) (h : i < xs.length) : ((xs.take (i + 1)).map f).flatten = ((xs.take i).map f).flatten ++ f xs[i] := by
 rw [take_snoc _ _ h, List.map_append, List.flatten_append]
 simp
end Go.Proofs.YtoloblgjlnhioaaDoor.J
namespace Go.Proofs.YtoloblgjlnhioaaDoor.J
open Go.RowKit Go.Proofs.YtoloblgjlnhioaaDoorW.PrintWords Go.Proofs.YtoloblgjlnhioaaDoorW.PrintLast Go.Proofs.YtoloblgjlnhioaaDoorW.PrintMore Go.Proofs.YtoloblgjlnhioaaDoor.Q
set_option linter.unusedSimpArgs false
set_option linter.unusedVariables false

def NumsS (d : Nat) : Prop := ∀ t, nodes d t ≤ 1000000000 → Ev (fun k => spec_l1Numbers.f k (cS d t).f0 (cS d t).f1 (d : Int)) (ints (Q.nums d t))
theorem numsS_l0 (d : Nat) (hd : d ≤ 1000) (ih : NumsS d) (t : Tr) (hn : nodes (d + 1) t ≤ 1000000000) :
   ∀ (n i : Nat), t.parts.length - i = n → i ≤ t.parts.length → Ev (fun k => spec_l1Numbers.l0 k ((d + 1 : Nat) : Int) (ints ((t.parts.take i).map (Q.nums d)).flatten) (t.parts.map (cS d)) ((t.parts.map (cS d)).length : Int) (i : Int)) (ints (Q.nums (d + 1) t)) := by
 have hpl := parts_len d t
 have hnl := nums_le (d + 1) t
 have hnl' : ((t.parts.map (Q.nums d)).flatten).length ≤ nodes (d + 1) t := hnl
 intro n
 induction n with
 | zero =>
   intro i h hi
   refine Ev.step' ?_; simp only [spec_l1Numbers.l0]
   rw [List.take_of_length_le (by omega)]
   exact Ev.neg (by rw [List.length_map]; omega) (Ev.val rfl)
 | succ n ihn =>
   intro i h hi
   have hlt : i < t.parts.length := by omega
   have hm : t.parts[i] ∈ t.parts := List.getElem_mem hlt
   have hx := ih t.parts[i] (by have := nodes_part (d := d) hm; omega)
   have hg : rd_T77 (t.parts.map (cS d)) (i : Int) = cS d t.parts[i] := getD_map _ _ _ _ hlt
   have hf := flat_take_le (Q.nums d) t.parts (i + 1)
   rw [flat_snoc _ _ _ hlt, List.length_append] at hf
   have hnext := ihn (i + 1) (by omega) (by omega)
   rw [flat_snoc _ _ _ hlt] at hnext
   refine Ev.step' ?_; simp only [spec_l1Numbers.l0]
   refine Ev.pos (by rw [List.length_map]; omega) (Ev.pos (by omega) (Ev.pos (by rw [List.length_map]; omega) ?_))
   rw [hg, show wrap64 (((d + 1 : Nat) : Int) - 1) = (d : Int) by rw [wrapS (by omega) (by omega)]; omega, wrapS (a := (i : Int) + 1) (by omega) (by omega)]
   refine Ev.bind hx (Ev.pos (by rw [List.length_map, List.length_map]; omega) ?_)
   rw [ints, List.map_append] at hnext
   exact hnext
theorem numsS_is : ∀ d, d ≤ 1000 → NumsS d
 | 0, _ => by
   intro t hn
   refine Ev.step' ?_; simp only [spec_l1Numbers.f]
   exact Ev.pos (by first | trivial | rfl) (Ev.val rfl)
 | d + 1, hd => by
   intro t hn
   refine Ev.step' ?_; simp only [spec_l1Numbers.f]
   exact Ev.neg (by omega) (numsS_l0 d (by omega) (numsS_is d (by omega)) t hn _ 0 rfl (by omega))
end Go.Proofs.YtoloblgjlnhioaaDoor.J
namespace Go.Proofs.YtoloblgjlnhioaaDoor.J
open Go.RowKit Go.Proofs.YtoloblgjlnhioaaDoorW.PrintWords Go.Proofs.YtoloblgjlnhioaaDoorW.PrintLast Go.Proofs.YtoloblgjlnhioaaDoorW.PrintMore Go.Proofs.YtoloblgjlnhioaaDoor.Q
set_option linter.unusedSimpArgs false
set_option linter.unusedVariables false

def NumsA (d : Nat) : Prop := ∀ t, nodes d t ≤ 1000000000 → Ev (fun k => impl_arr_numbers.f k (cA d t).f0 (cA d t).f1 (d : Int)) (ints (Q.nums d t))
theorem numsA_l0 (d : Nat) (hd : d ≤ 1000) (ih : NumsA d) (t : Tr) (hn : nodes (d + 1) t ≤ 1000000000) :
   ∀ (n i : Nat), t.parts.length - i = n → i ≤ t.parts.length → Ev (fun k => impl_arr_numbers.l0 k ((d + 1 : Nat) : Int) (ints ((t.parts.take i).map (Q.nums d)).flatten) (t.parts.map (cA d)) ((t.parts.map (cA d)).length : Int) (i : Int)) (ints (Q.nums (d + 1) t)) := by
 have hpl := parts_len d t
 have hnl := nums_le (d + 1) t
 have hnl' : ((t.parts.map (Q.nums d)).flatten).length ≤ nodes (d + 1) t := hnl
 intro n
 induction n with
 | zero =>
   intro i h hi
   refine Ev.step' ?_; simp only [impl_arr_numbers.l0]
   rw [List.take_of_length_le (by omega)]
   exact Ev.neg (by rw [List.length_map]; omega) (Ev.val rfl)
 | succ n ihn =>
   intro i h hi
   have hlt : i < t.parts.length := by omega
   have hm : t.parts[i] ∈ t.parts := List.getElem_mem hlt
   have hx := ih t.parts[i] (by have := nodes_part (d := d) hm; omega)
   have hg : rd_T62 (t.parts.map (cA d)) (i : Int) = cA d t.parts[i] := getD_map _ _ _ _ hlt
   have hf := flat_take_le (Q.nums d) t.parts (i + 1)
   rw [flat_snoc _ _ _ hlt, List.length_append] at hf
   have hnext := ihn (i + 1) (by omega) (by omega)
   rw [flat_snoc _ _ _ hlt] at hnext
   refine Ev.step' ?_; simp only [impl_arr_numbers.l0]
   refine Ev.pos (by rw [List.length_map]; omega) (Ev.pos (by omega) (Ev.pos (by rw [List.length_map]; omega) ?_))
   rw [hg, show wrap64 (((d + 1 : Nat) : Int) - 1) = (d : Int) by rw [wrapS (by omega) (by omega)]; omega, wrapS (a := (i : Int) + 1) (by omega) (by omega)]
   refine Ev.bind hx (Ev.pos (by rw [List.length_map, List.length_map]; omega) ?_)
   rw [ints, List.map_append] at hnext
   exact hnext
theorem numsA_is : ∀ d, d ≤ 1000 → NumsA d
 | 0, _ => by
   intro t hn
   refine Ev.step' ?_; simp only [impl_arr_numbers.f]
   exact Ev.pos (by first | trivial | rfl) (Ev.val rfl)
 | d + 1, hd => by
   intro t hn
   refine Ev.step' ?_; simp only [impl_arr_numbers.f]
   exact Ev.neg (by omega) (numsA_l0 d (by omega) (numsA_is d (by omega)) t hn _ 0 rfl (by omega))
end Go.Proofs.YtoloblgjlnhioaaDoor.J
namespace Go.Proofs.YtoloblgjlnhioaaDoor.J
open Go.RowKit Go.Proofs.YtoloblgjlnhioaaDoorW.PrintWords Go.Proofs.YtoloblgjlnhioaaDoorW.PrintLast Go.Proofs.YtoloblgjlnhioaaDoorW.PrintMore Go.Proofs.YtoloblgjlnhioaaDoor.Q
set_option linter.unusedSimpArgs false
set_option linter.unusedVariables false
def TextS (d : Nat) : Prop := ∀ t, Sh d t → nodes d t ≤ 1000000000 → Ev (fun k => spec_l1Text.f k (cS d t).f0 (cS d t).f1 (d : Int)) (BA (text d t))
theorem textS_l0 (d : Nat) (hd : d ≤ 1000) (ih : TextS d) (t : Tr) (hs : Sh (d + 1) t) (hn : nodes (d + 1) t ≤ 1000000000) :
   ∀ (n i : Nat), t.parts.length - i = n → i ≤ t.parts.length → Ev (fun k => spec_l1Text.l0 k ((d + 1 : Nat) : Int) (BA (91 :: Lib.join ((t.parts.take i).map (text d)) [44])) (t.parts.map (cS d)) ((t.parts.map (cS d)).length : Int) (i : Int)) (BA (text (d + 1) t)) := by
 have hpl := parts_len d t
 have htl := text_le (d + 1) t hs
 have hte : (text (d + 1) t).length = (Lib.join (t.parts.map (text d)) [44]).length + 2 := by simp [text]
 intro n
 induction n with
 | zero =>
   intro i h hi
   refine Ev.step' ?_; simp only [spec_l1Text.l0]
   rw [List.take_of_length_le (by omega)]
   refine Ev.neg (by rw [List.length_map]; omega) (Ev.pos (by simp; omega) (Ev.val ?_))
   show BA _ ++ BA [93] = _
   rw [BA_append]
   rfl
 | succ n ihn =>
   intro i h hi
   have hlt : i < t.parts.length := by omega
   have hjl := join_take_le (text d) t.parts i hi
   have hjl2 := join_take_le (text d) t.parts (i + 1) (by omega)
   have hm : t.parts[i] ∈ t.parts := List.getElem_mem hlt
   have hx := ih t.parts[i] (hs _ hm) (by have := nodes_part (d := d) hm; omega)
   have hg : rd_T77 (t.parts.map (cS d)) (i : Int) = cS d t.parts[i] := getD_map _ _ _ _ hlt
   refine Ev.step' ?_; simp only [spec_l1Text.l0]
   refine Ev.pos (by rw [List.length_map]; omega) (Ev.pos (by omega) (Ev.pos (by rw [List.length_map]; omega) ?_))
   rw [hg, show wrap64 (((d + 1 : Nat) : Int) - 1) = (d : Int) by rw [wrapS (by omega) (by omega)]; omega, wrapS (a := (i : Int) + 1) (by omega) (by omega)]
   have hnext := ihn (i + 1) (by omega) (by omega)
   rcases Nat.eq_zero_or_pos i with rfl | h0
   · refine Ev.neg (by simp) (Ev.bind hx ?_)
     rw [take_snoc _ 0 hlt] at hnext hjl2
     simp only [List.take_zero, List.nil_append, List.map_cons, List.map_nil, join_one] at hnext hjl2
     refine Ev.pos (by simp [Lib.join_nil]; omega) ?_
     rw [BA_append]
     exact hnext
   · rw [join_take _ _ _ hlt h0] at hnext hjl2
     rw [List.length_append, List.length_cons] at hjl2
     refine Ev.pos (by omega) (Ev.pos (by simp only [BA_size, List.length_cons]; omega) (Ev.bind hx (Ev.pos (by simp only [BA_size, List.length_cons]; omega) ?_)))
     have e : BA (91 :: Lib.join ((t.parts.take i).map (text d)) [44]) ++ (⟨#[44]⟩ : ByteArray) ++ BA (text d t.parts[i]) = BA (91 :: (Lib.join ((t.parts.take i).map (text d)) [44] ++ 44 :: text d t.parts[i])) := by
       show BA _ ++ BA [44] ++ BA _ = _
       rw [BA_append, BA_append]
       simp
     rw [e]
     exact hnext
theorem textS_is : ∀ d, d ≤ 1000 → TextS d
 | 0, _ => by
   intro t hs hn
   refine Ev.step' ?_; simp only [spec_l1Text.f]
   have h9 : t.n < 1000000000 := hs
   refine Ev.pos (by first | trivial | rfl) (Ev.bind (l13Dec_is t.n (by omega)) (Ev.val rfl))
 | d + 1, hd => by
   intro t hs hn
   refine Ev.step' ?_; simp only [spec_l1Text.f]
   exact Ev.neg (by omega) (textS_l0 d (by omega) (textS_is d (by omega)) t hs hn _ 0 rfl (by omega))

end Go.Proofs.YtoloblgjlnhioaaDoor.J
namespace Go.Proofs.YtoloblgjlnhioaaDoor.J
open Go.RowKit Go.Proofs.YtoloblgjlnhioaaDoorW.PrintWords Go.Proofs.YtoloblgjlnhioaaDoorW.PrintLast Go.Proofs.YtoloblgjlnhioaaDoorW.PrintMore Go.Proofs.YtoloblgjlnhioaaDoor.Q
set_option linter.unusedSimpArgs false
set_option linter.unusedVariables false

theorem toldS_is (d : Nat) (hd : d ≤ 1000) (t : Tr) (hs : Sh d t) (hn : nodes d t ≤ 1000000000) : Ev (fun k => spec_l1Told.f k (cS d t).f0 (cS d t).f1 (d : Int)) (told (text d t)) := by
 unfold spec_l1Told.f told
 refine Ev.bind (textS_is d hd t hs hn) ?_
 by_cases h : (text d t).length ≤ 400
 · rw [if_pos h]
   exact Ev.neg (by rw [BA_size]; omega) (Ev.now _)
 · rw [if_neg h]
   exact Ev.pos (by rw [BA_size]; omega) (Ev.now _)
end Go.Proofs.YtoloblgjlnhioaaDoor.J
namespace Go.Proofs.YtoloblgjlnhioaaDoor.J
open Go.RowKit Go.Proofs.YtoloblgjlnhioaaDoorW.PrintWords Go.Proofs.YtoloblgjlnhioaaDoorW.PrintLast Go.Proofs.YtoloblgjlnhioaaDoorW.PrintMore Go.Proofs.YtoloblgjlnhioaaDoor.Q
set_option linter.unusedSimpArgs false
set_option linter.unusedVariables false

theorem shortA_is (d : Nat) (hd : d ≤ 1000) (t : Tr) (hs : Sh d t) (hn : nodes d t ≤ 1000000000) : Ev (fun k => impl_arr_short.f k (cA d t).f0 (cA d t).f1 (d : Int)) (told (text d t)) := by
 unfold impl_arr_short.f told
 refine Ev.bind (textA_is d hd t hs hn) ?_
 by_cases h : (text d t).length ≤ 400
 · rw [if_pos h]
   exact Ev.neg (by rw [BA_size]; omega) (Ev.now _)
 · rw [if_neg h]
   exact Ev.pos (by rw [BA_size]; omega) (Ev.now _)
end Go.Proofs.YtoloblgjlnhioaaDoor.J
namespace Go.Proofs.YtoloblgjlnhioaaDoor.J
open Go.RowKit Go.Proofs.YtoloblgjlnhioaaDoorW.PrintWords Go.Proofs.YtoloblgjlnhioaaDoorW.PrintLast Go.Proofs.YtoloblgjlnhioaaDoorW.PrintMore Go.Proofs.YtoloblgjlnhioaaDoor.Q
set_option linter.unusedSimpArgs false
set_option linter.unusedVariables false

/-- The rows of an array of two levels. -/
def rowsN (t : Tr) : List (List Nat) := t.parts.map (Q.nums 1)
abbrev intsL (R : List (List Nat)) : List (List Int) := R.map ints
theorem rowsOf_l0 (t : Tr) (ok : Bool) (hn : nodes 2 t ≤ 1000000000) : ∀ (n i : Nat), t.parts.length - i = n → i ≤ t.parts.length →
   Ev (fun k => impl_rowsOf.l0 k ok (intsL ((t.parts.take i).map (Q.nums 1))) (t.parts.map (cA 1)) ((t.parts.map (cA 1)).length : Int) (i : Int)) (intsL (rowsN t), ok) := by
 have hpl : t.parts.length + 1 ≤ nodes 2 t := parts_len 1 t
 intro n
 induction n with
 | zero =>
   intro i h hi
   refine Ev.step' ?_; simp only [impl_rowsOf.l0]
   rw [List.take_of_length_le (by omega)]
   exact Ev.neg (by rw [List.length_map]; omega) (Ev.val rfl)
 | succ n ihn =>
   intro i h hi
   have hlt : i < t.parts.length := by omega
   have hm : t.parts[i] ∈ t.parts := List.getElem_mem hlt
   have hx := numsA_is 1 (by omega) t.parts[i] (by have : nodes 1 t.parts[i] ≤ nodes 2 t := nodes_part hm; omega)
   have hg : rd_T62 (t.parts.map (cA 1)) (i : Int) = cA 1 t.parts[i] := getD_map _ _ _ _ hlt
   have hnext := ihn (i + 1) (by omega) (by omega)
   rw [take_snoc _ _ hlt, List.map_append, intsL, List.map_append] at hnext
   refine Ev.step' ?_; simp only [impl_rowsOf.l0]
   refine Ev.pos (by rw [List.length_map]; omega) (Ev.pos (by omega) (Ev.pos (by rw [List.length_map]; omega) ?_))
   rw [hg, wrapS (a := (i : Int) + 1) (by omega) (by omega)]
   exact Ev.bind hx (Ev.pos (by rw [List.length_map, List.length_map, List.length_take]; omega) hnext)
/-- Rows within what a text of 402 bytes can hold. -/
def RowsOk (R : List (List Nat)) : Prop := R.length ≤ 500 ∧ ∀ r ∈ R, r.length ≤ 500 ∧ ∀ n ∈ r, n < 10007
theorem nums_okR : ∀ (d : Nat) (t : Tr), Ok d t → ∀ n ∈ Q.nums d t, n < 10007
 | 0, t, h, n, hn => by
   obtain rfl := List.mem_singleton.1 hn
   exact h.1
 | d + 1, t, h, n, hn => by
   obtain ⟨l, hl, hnl⟩ := List.mem_flatten.1 hn
   obtain ⟨x, hx, rfl⟩ := List.mem_map.1 hl
   exact nums_okR d x (h.2 x hx) n hnl
theorem rowsN_ok {t : Tr} (h : Ok 2 t) (hl : (text 2 t).length ≤ 402) : RowsOk (rowsN t) := by
 have hn := nodes_le_text 2 t
 have hp : t.parts.length + 1 ≤ nodes 2 t := parts_len 1 t
 refine ⟨by rw [rowsN, List.length_map]; omega, ?_⟩
 intro r hr
 obtain ⟨x, hx, rfl⟩ := List.mem_map.1 hr
 have h1 : nodes 1 x ≤ nodes 2 t := nodes_part hx
 have h2 := nums_le 1 x
 exact ⟨by omega, nums_okR 1 x (h.2 x hx)⟩
theorem rowsOf_is (l : By) : ∃ R, Ev (fun k => impl_rowsOf.f k (BA l)) (intsL R, (readD 2 l).isSome) ∧ RowsOk R ∧ ∀ v, readD 2 l = some v → R = rowsN v := by
 obtain ⟨t, h1, h2, h3, h4⟩ := arrOf_is 2 (by omega) l
 refine ⟨rowsN t, ?_, rowsN_ok h2 h3, fun v hv => by rw [h4 v hv]⟩
 unfold impl_rowsOf.f
 refine Ev.bind h1 ?_
 exact rowsOf_l0 t _ (by have := nodes_le_text 2 t; omega) _ 0 rfl (by omega)
def mkR (r : List Nat) : Tr := ⟨0, r.map fun n => ⟨n, []⟩⟩
def mkT (R : List (List Nat)) : Tr := ⟨0, R.map mkR⟩
theorem mkT_sh {R : List (List Nat)} (h : ∀ r ∈ R, ∀ n ∈ r, n < 1000000000) : Sh 2 (mkT R) := by
 intro x hx
 obtain ⟨r, hr, rfl⟩ := List.mem_map.1 hx
 intro y hy
 obtain ⟨n, hn, rfl⟩ := List.mem_map.1 hy
 exact h r hr n hn
theorem nodes_mkR (r : List Nat) : nodes 1 (mkR r) = 1 + r.length := by
 show 1 + ((r.map fun n => (⟨n, []⟩ : Tr)).map (nodes 0)).sum = _
 rw [List.map_map]
 congr 1
 induction r with
 | nil => rfl
 | cons n r ih => rw [List.map_cons, List.sum_cons, ih, List.length_cons]; show 1 + _ = _; omega
theorem nodes_mkT : ∀ (R : List (List Nat)) (m : Nat), (∀ r ∈ R, r.length ≤ m) → nodes 2 (mkT R) ≤ 1 + R.length * (1 + m) := by
 intro R m h
 show 1 + ((R.map mkR).map (nodes 1)).sum ≤ _
 have : ((R.map mkR).map (nodes 1)).sum ≤ R.length * (1 + m) := by
   induction R with
   | nil => simp
   | cons r R ih =>
     have h1 := h r (by simp)
     have h2 := ih (fun r hr => h r (List.mem_cons_of_mem _ hr))
     rw [List.map_cons, List.map_cons, List.sum_cons, nodes_mkR, List.length_cons, Nat.add_mul, Nat.one_mul]
     omega
 omega
theorem RowsOk.sh {R : List (List Nat)} (h : RowsOk R) : Sh 2 (mkT R) ∧ nodes 2 (mkT R) ≤ 1000000000 := by
 refine ⟨mkT_sh (fun r hr n hn => by have := (h.2 r hr).2 n hn; omega), ?_⟩
 have h1 := nodes_mkT R 500 (fun r hr => (h.2 r hr).1)
 have h2 := Nat.mul_le_mul_right (1 + 500) h.1
 omega
theorem getD_mapL {α β : Type} (f : β → α) (xs : List β) (i : Nat) (z : α) (h : i < xs.length) : (xs.map f).getD i z = f xs[i] := by
 rw [List.getD_eq_getElem?_getD, List.getElem?_map, List.getElem?_eq_getElem h]
 rfl
theorem rowedA_l1 (X : List (List Int)) (x13 : Int) (j : Nat) (hj : j ≤ 1000000) (r : List Nat) (hr : r.length ≤ 1000000) (acc : List NA) (hacc : acc.length ≤ 1000000) (res : ByteArray × Bool)
   (hgo : Ev (fun k => impl_rowed.l0 k X x13 ((j + 1 : Nat) : Int) 0 (acc ++ [cA 1 (mkR r)])) res) :
   ∀ (n i : Nat), r.length - i = n → i ≤ r.length → Ev (fun k => impl_rowed.l1 k X x13 (j : Int) (ints r) ((ints r).length : Int) (i : Int) 0 acc 0 ((r.take i).map fun m : Nat => (⟨(m : Int), []⟩ : NA))) res := by
 intro n
 induction n with
 | zero =>
   intro i h hi
   refine Ev.step' ?_; simp only [impl_rowed.l1]
   rw [List.take_of_length_le (by omega)]
   refine Ev.neg (by rw [List.length_map]; omega) (Ev.pos (by omega) ?_)
   rw [wrapS (a := (j : Int) + 1) (by omega) (by omega)]
   have e : cA 1 (mkR r) = ⟨0, r.map fun m : Nat => (⟨(m : Int), []⟩ : NA)⟩ := by
     show (⟨_, _⟩ : NA) = _
     congr 1
     rw [mkR, List.map_map]
     rfl
   rw [e] at hgo
   exact hgo
 | succ n ihn =>
   intro i h hi
   have hlt : i < r.length := by omega
   have hg : rd (ints r) (i : Int) = (r[i] : Int) := getD_mapL _ _ _ _ hlt
   have hnext := ihn (i + 1) (by omega) (by omega)
   rw [take_snoc _ _ hlt, List.map_append] at hnext
   refine Ev.step' ?_; simp only [impl_rowed.l1]
   refine Ev.pos (by rw [List.length_map]; omega) (Ev.pos (by omega) (Ev.pos (by rw [List.length_map]; omega) (Ev.pos (by rw [List.length_map, List.length_take]; omega) ?_)))
   rw [hg, wrapS (a := (i : Int) + 1) (by omega) (by omega)]
   exact hnext
theorem rowedA_l0 (R : List (List Nat)) (h : RowsOk R) : ∀ (n i : Nat), R.length - i = n → i ≤ R.length →
   Ev (fun k => impl_rowed.l0 k (intsL R) ((intsL R).length : Int) (i : Int) 0 ((R.take i).map fun r => cA 1 (mkR r))) (told (text 2 (mkT R))) := by
 obtain ⟨h1, h2⟩ := h.sh
 have hs := shortA_is 2 (by omega) (mkT R) h1 h2
 intro n
 induction n with
 | zero =>
   intro i hd hi
   refine Ev.step' ?_; simp only [impl_rowed.l0]
   rw [List.take_of_length_le (by omega)]
   refine Ev.neg (by rw [List.length_map]; omega) ?_
   have e : (cA 2 (mkT R)).f1 = R.map fun r => cA 1 (mkR r) := by
     show (R.map mkR).map (cA 1) = _
     rw [List.map_map]
     rfl
   rw [e] at hs
   exact Ev.bind hs (Ev.val rfl)
 | succ n ihn =>
   intro i hd hi
   have hlt : i < R.length := by omega
   have hg : rd_L5 (intsL R) (i : Int) = ints R[i] := getD_mapL _ _ _ _ hlt
   have hr := (h.2 R[i] (List.getElem_mem hlt)).1
   have hnext := ihn (i + 1) (by omega) (by omega)
   rw [take_snoc _ _ hlt, List.map_append] at hnext
   have hR := h.1
   refine Ev.step' ?_; simp only [impl_rowed.l0]
   refine Ev.pos (by rw [List.length_map]; omega) (Ev.pos (by omega) (Ev.pos (by rw [List.length_map]; omega) ?_))
   rw [hg]
   exact rowedA_l1 _ _ i (by omega) R[i] (by omega) _ (by rw [List.length_map, List.length_take]; omega) _ hnext _ 0 rfl (by omega)
theorem rowed_is (R : List (List Nat)) (h : RowsOk R) : Ev (fun k => impl_rowed.f k (intsL R)) (told (text 2 (mkT R))) := by
 unfold impl_rowed.f
 exact rowedA_l0 R h _ 0 rfl (by omega)
theorem rowsS_l1 (X : List (List Int)) (x13 : Int) (j : Nat) (hj : j ≤ 1000000) (r : List Nat) (hr : r.length ≤ 1000000) (acc : List NS) (hacc : acc.length ≤ 1000000) (res : ByteArray × Bool)
   (hgo : Ev (fun k => spec_l11Text.l0 k X x13 ((j + 1 : Nat) : Int) 0 (acc ++ [cS 1 (mkR r)])) res) :
   ∀ (n i : Nat), r.length - i = n → i ≤ r.length → Ev (fun k => spec_l11Text.l1 k X x13 (j : Int) (ints r) ((ints r).length : Int) (i : Int) 0 acc 0 ((r.take i).map fun m : Nat => (⟨(m : Int), []⟩ : NS))) res := by
 intro n
 induction n with
 | zero =>
   intro i h hi
   refine Ev.step' ?_; simp only [spec_l11Text.l1]
   rw [List.take_of_length_le (by omega)]
   refine Ev.neg (by rw [List.length_map]; omega) (Ev.pos (by omega) ?_)
   rw [wrapS (a := (j : Int) + 1) (by omega) (by omega)]
   have e : cS 1 (mkR r) = ⟨0, r.map fun m : Nat => (⟨(m : Int), []⟩ : NS)⟩ := by
     show (⟨_, _⟩ : NS) = _
     congr 1
     rw [mkR, List.map_map]
     rfl
   rw [e] at hgo
   exact hgo
 | succ n ihn =>
   intro i h hi
   have hlt : i < r.length := by omega
   have hg : rd (ints r) (i : Int) = (r[i] : Int) := getD_mapL _ _ _ _ hlt
   have hnext := ihn (i + 1) (by omega) (by omega)
   rw [take_snoc _ _ hlt, List.map_append] at hnext
   refine Ev.step' ?_; simp only [spec_l11Text.l1]
   refine Ev.pos (by rw [List.length_map]; omega) (Ev.pos (by omega) (Ev.pos (by rw [List.length_map]; omega) (Ev.pos (by rw [List.length_map, List.length_take]; omega) ?_)))
   rw [hg, wrapS (a := (i : Int) + 1) (by omega) (by omega)]
   exact hnext
theorem rowsS_l0 (R : List (List Nat)) (h : RowsOk R) : ∀ (n i : Nat), R.length - i = n → i ≤ R.length →
   Ev (fun k => spec_l11Text.l0 k (intsL R) ((intsL R).length : Int) (i : Int) 0 ((R.take i).map fun r => cS 1 (mkR r))) (told (text 2 (mkT R))) := by
 obtain ⟨h1, h2⟩ := h.sh
 have hs := toldS_is 2 (by omega) (mkT R) h1 h2
 intro n
 induction n with
 | zero =>
   intro i hd hi
   refine Ev.step' ?_; simp only [spec_l11Text.l0]
   rw [List.take_of_length_le (by omega)]
   refine Ev.neg (by rw [List.length_map]; omega) ?_
   have e : (cS 2 (mkT R)).f1 = R.map fun r => cS 1 (mkR r) := by
     show (R.map mkR).map (cS 1) = _
     rw [List.map_map]
     rfl
   rw [e] at hs
   exact Ev.bind hs (Ev.val rfl)
 | succ n ihn =>
   intro i hd hi
   have hlt : i < R.length := by omega
   have hg : rd_L5 (intsL R) (i : Int) = ints R[i] := getD_mapL _ _ _ _ hlt
   have hr := (h.2 R[i] (List.getElem_mem hlt)).1
   have hnext := ihn (i + 1) (by omega) (by omega)
   rw [take_snoc _ _ hlt, List.map_append] at hnext
   have hR := h.1
   refine Ev.step' ?_; simp only [spec_l11Text.l0]
   refine Ev.pos (by rw [List.length_map]; omega) (Ev.pos (by omega) (Ev.pos (by rw [List.length_map]; omega) ?_))
   rw [hg]
   exact rowsS_l1 _ _ i (by omega) R[i] (by omega) _ (by rw [List.length_map, List.length_take]; omega) _ hnext _ 0 rfl (by omega)
theorem textR_is (R : List (List Nat)) (h : RowsOk R) : Ev (fun k => spec_l11Text.f k (intsL R)) (told (text 2 (mkT R))) := by
 unfold spec_l11Text.f
 exact rowsS_l0 R h _ 0 rfl (by omega)
end Go.Proofs.YtoloblgjlnhioaaDoor.J
namespace Go.Proofs.YtoloblgjlnhioaaDoor.J
open Go.RowKit Go.Proofs.YtoloblgjlnhioaaDoorW.PrintWords Go.Proofs.YtoloblgjlnhioaaDoorW.PrintLast Go.Proofs.YtoloblgjlnhioaaDoorW.PrintMore Go.Proofs.YtoloblgjlnhioaaDoor.Q
set_option linter.unusedSimpArgs false
set_option linter.unusedVariables false

theorem any_l0 (t : Tr) (ok : Bool) (hn : nodes 2 t ≤ 1000000000) : ∀ (n i : Nat), t.parts.length - i = n → i ≤ t.parts.length →
   Ev (fun k => spec_l11Any.l0 k (intsL ((t.parts.take i).map (Q.nums 1))) ok (t.parts.map (cS 1)) ((t.parts.map (cS 1)).length : Int) (i : Int)) (intsL (rowsN t), ok) := by
 have hpl : t.parts.length + 1 ≤ nodes 2 t := parts_len 1 t
 intro n
 induction n with
 | zero =>
   intro i h hi
   refine Ev.step' ?_; simp only [spec_l11Any.l0]
   rw [List.take_of_length_le (by omega)]
   exact Ev.neg (by rw [List.length_map]; omega) (Ev.val rfl)
 | succ n ihn =>
   intro i h hi
   have hlt : i < t.parts.length := by omega
   have hm : t.parts[i] ∈ t.parts := List.getElem_mem hlt
   have hx := numsS_is 1 (by omega) t.parts[i] (by have : nodes 1 t.parts[i] ≤ nodes 2 t := nodes_part hm; omega)
   have hg : rd_T77 (t.parts.map (cS 1)) (i : Int) = cS 1 t.parts[i] := getD_map _ _ _ _ hlt
   have hnext := ihn (i + 1) (by omega) (by omega)
   rw [take_snoc _ _ hlt, List.map_append, intsL, List.map_append] at hnext
   refine Ev.step' ?_; simp only [spec_l11Any.l0]
   refine Ev.pos (by rw [List.length_map]; omega) (Ev.pos (by omega) (Ev.pos (by rw [List.length_map]; omega) ?_))
   rw [hg, wrapS (a := (i : Int) + 1) (by omega) (by omega)]
   exact Ev.bind hx (Ev.pos (by rw [List.length_map, List.length_map, List.length_take]; omega) hnext)
theorem any_is (l : By) : Ev (fun k => spec_l11Any.f k (BA l)) (match readD 2 l with | none => ([], false) | some v => (intsL (rowsN v), true)) := by
 have h1 := l1Read_is 2 (by omega) l
 unfold spec_l11Any.f
 cases hq : readD 2 l with
 | none =>
   rw [hq] at h1
   refine Ev.bind h1 ?_
   exact any_l0 ⟨0, []⟩ false (by decide) _ 0 rfl (by simp)
 | some v =>
   rw [hq] at h1
   obtain ⟨e, _, hl⟩ := readD_ok hq
   refine Ev.bind h1 ?_
   exact any_l0 v true (by have := nodes_le_text 2 v; rw [e] at hl; omega) _ 0 rfl (by omega)

end Go.Proofs.YtoloblgjlnhioaaDoor.J
namespace Go.Proofs.YtoloblgjlnhioaaDoor.J
open Go.RowKit Go.Proofs.YtoloblgjlnhioaaDoorW.PrintWords Go.Proofs.YtoloblgjlnhioaaDoorW.PrintLast Go.Proofs.YtoloblgjlnhioaaDoorW.PrintMore Go.Proofs.YtoloblgjlnhioaaDoor.Q
set_option linter.unusedSimpArgs false
set_option linter.unusedVariables false

/-! ### plain -/
def mxF : Nat → List (List Nat) → Nat
 | m, [] => m
 | m, r :: R => mxF (max m r.length) R
theorem mxF_ge : ∀ (R : List (List Nat)) (m : Nat), m ≤ mxF m R ∧ ∀ r ∈ R, r.length ≤ mxF m R
 | [], m => ⟨Nat.le_refl _, fun _ h => by cases h⟩
 | r :: R, m => by
   obtain ⟨h1, h2⟩ := mxF_ge R (max m r.length)
   refine ⟨by show m ≤ mxF _ R; omega, fun x hx => ?_⟩
   rcases List.mem_cons.1 hx with rfl | hx
   · show _ ≤ mxF _ R; omega
   · exact h2 x hx
theorem mxF_le : ∀ (R : List (List Nat)) (m B : Nat), m ≤ B → (∀ r ∈ R, r.length ≤ B) → mxF m R ≤ B
 | [], m, B, h, _ => h
 | r :: R, m, B, h, hR => mxF_le R _ B (by have := hR r (List.mem_cons_self); omega) (fun x hx => hR x (List.mem_cons_of_mem _ hx))
def padr (M : Nat) (r : List Nat) : List Nat := r ++ List.replicate (M - r.length) 0
def padR (R : List (List Nat)) : List (List Nat) := R.map (padr (mxF 0 R))
theorem padr_len {M : Nat} {r : List Nat} (h : r.length ≤ M) : (padr M r).length = M := by rw [padr, List.length_append, List.length_replicate]; omega
theorem padr_id {M : Nat} {r : List Nat} (h : M ≤ r.length) : padr M r = r := by rw [padr, show M - r.length = 0 by omega]; exact List.append_nil r
theorem padR_len (R : List (List Nat)) : ∀ r ∈ padR R, r.length = mxF 0 R := by
 intro r hr
 obtain ⟨x, hx, rfl⟩ := List.mem_map.1 hr
 exact padr_len ((mxF_ge R 0).2 x hx)
theorem padR_id {R : List (List Nat)} (h : ∀ r ∈ R, mxF 0 R ≤ r.length) : padR R = R := by
 show R.map (padr (mxF 0 R)) = R
 conv => rhs; rw [← List.map_id R]
 exact List.map_congr_left (fun r hr => padr_id (h r hr))
theorem padR_same {R : List (List Nat)} {c : Nat} (h : ∀ r ∈ R, r.length = c) : padR R = R := padR_id (fun r hr => by rw [h r hr]; exact mxF_le R 0 c (Nat.zero_le _) (fun x hx => Nat.le_of_eq (h x hx)))
theorem padR_padR (R : List (List Nat)) : padR (padR R) = padR R := padR_same (padR_len R)
theorem padR_ok {R : List (List Nat)} (h : RowsOk R) : RowsOk (padR R) := by
 have hm := mxF_le R 0 500 (by omega) (fun r hr => (h.2 r hr).1)
 refine ⟨by unfold padR; rw [List.length_map]; exact h.1, fun r hr => ?_⟩
 refine ⟨by rw [padR_len R r hr]; exact hm, fun n hn => ?_⟩
 obtain ⟨x, hx, rfl⟩ := List.mem_map.1 hr
 rcases List.mem_append.1 hn with hn | hn
 · exact (h.2 x hx).2 n hn
 · rw [List.eq_of_mem_replicate hn]; omega
theorem ints_padr (M : Nat) (r : List Nat) : ints (padr M r) = ints r ++ List.replicate (M - r.length) 0 := by
 show (r ++ List.replicate (M - r.length) 0).map (fun n : Nat => (n : Int)) = _
 rw [List.map_append, List.map_replicate]
 rfl
/-! ### a row in the midst -/
theorem rdL_mid (A B : List (List Int)) (r : List Int) : rd_L5 (A ++ r :: B) (A.length : Int) = r := by
 unfold rd_L5
 rw [Int.toNat_natCast, List.getD_eq_getElem?_getD, List.getElem?_append_right (Nat.le_refl _), Nat.sub_self]
 rfl
theorem set_mid (A B : List (List Int)) (r r' : List Int) : (A ++ r :: B).set A.length r' = A ++ r' :: B := by
 rw [List.set_append_right _ _ (Nat.le_refl _), Nat.sub_self]
 rfl
theorem len_mid (A B : List (List Int)) (r : List Int) : (A ++ r :: B).length = A.length + 1 + B.length := by rw [List.length_append, List.length_cons]; omega
theorem mx_nat (a b : Nat) : mx (a : Int) (b : Int) = ((max a b : Nat) : Int) := by
 unfold mx
 split
 · next h => rw [Nat.max_eq_right (by omega)]
 · next h => rw [Nat.max_eq_left (by omega)]
/-! ### the reference's -/
theorem padS_l2 (A B : List (List Int)) (M : Nat) (hM : M ≤ 1000) (hA : A.length + 1 + B.length ≤ 1000) (res : ByteArray × Bool) : ∀ (n : Nat) (r : List Int), M - r.length = n → r.length ≤ M →
   Ev (fun k => spec_PadArray.l1 k (A ++ (r ++ List.replicate (M - r.length) 0) :: B) (M : Int) ((A.length + 1 + B.length : Nat) : Int) ((A.length + 1 : Nat) : Int)) res →
   Ev (fun k => spec_PadArray.l2 k (A ++ r :: B) (M : Int) (A.length : Int) ((A.length + 1 + B.length : Nat) : Int) (A.length : Int)) res := by
 intro n
 induction n with
 | zero =>
   intro r hn hr h
   refine Ev.step' ?_; simp only [spec_PadArray.l2]
   refine Ev.pos (by omega) (Ev.pos (by rw [len_mid]; omega) ?_)
   rw [rdL_mid, wrapS (a := (A.length : Int) + 1) (by omega) (by omega)]
   rw [show M - r.length = 0 by omega, List.replicate_zero, List.append_nil] at h
   exact Ev.neg (by omega) h
 | succ n ih =>
   intro r hn hr h
   refine Ev.step' ?_; simp only [spec_PadArray.l2]
   refine Ev.pos (by omega) (Ev.pos (by rw [len_mid]; omega) ?_)
   rw [rdL_mid, Int.toNat_natCast, set_mid]
   refine Ev.pos (by omega) (Ev.pos (by omega) (ih (r ++ [0]) (by rw [List.length_append]; simp only [List.length_singleton]; omega) (by rw [List.length_append]; simp only [List.length_singleton]; omega) ?_))
   have e1 : M - (r ++ [(0 : Int)]).length = n := by rw [List.length_append]; simp only [List.length_singleton]; omega
   rw [e1, List.append_assoc, show ([0] : List Int) ++ List.replicate n 0 = List.replicate (n + 1) 0 from rfl, ← hn]
   exact h
theorem padS_l1 (M : Nat) (hM : M ≤ 1000) (res : ByteArray × Bool) : ∀ (R : List (List Nat)) (A : List (List Int)), A.length + R.length ≤ 1000 → (∀ r ∈ R, r.length ≤ M) →
   Ev (fun k => spec_l11Text.f k (A ++ intsL (R.map (padr M)))) res →
   Ev (fun k => spec_PadArray.l1 k (A ++ intsL R) (M : Int) ((A.length + R.length : Nat) : Int) (A.length : Int)) res := by
 intro R
 induction R with
 | nil =>
   intro A hA hR h
   refine Ev.step' ?_; simp only [spec_PadArray.l1]
   exact Ev.neg (by rw [List.length_nil]; omega) (Ev.bind h (Ev.val rfl))
 | cons r R ih =>
   intro A hA hR h
   rw [List.length_cons] at hA
   have h2 := ih (A ++ [ints (padr M r)]) (by rw [List.length_append]; simp only [List.length_singleton]; omega) (fun x hx => hR x (List.mem_cons_of_mem _ hx)) (by rw [List.append_assoc]; exact h)
   have hl := hR r (List.mem_cons_self)
   have e1 : (A ++ [ints (padr M r)]).length = A.length + 1 := by rw [List.length_append]; rfl
   rw [e1, List.append_assoc] at h2
   refine Ev.step' ?_; simp only [spec_PadArray.l1]
   refine Ev.pos (by rw [List.length_cons]; omega) ?_
   have h3 := padS_l2 A (intsL R) M hM (by rw [List.length_map]; omega) res (M - (ints r).length) (ints r) rfl (by rw [List.length_map]; exact hl) (by
     rw [List.length_map, List.length_map, ← ints_padr]
     exact h2)
   rw [List.length_map] at h3
   rw [List.length_cons, show A.length + (R.length + 1) = A.length + 1 + R.length by omega]
   exact h3
theorem padS_l0 (R : List (List Nat)) (hR : R.length ≤ 1000) (hr : ∀ r ∈ R, r.length ≤ 1000) (res : ByteArray × Bool) : ∀ (n i m : Nat), R.length - i = n → i ≤ R.length → m ≤ 1000 →
   Ev (fun k => spec_PadArray.l1 k (intsL R) ((mxF m (R.drop i) : Nat) : Int) ((intsL R).length : Int) 0) res →
   Ev (fun k => spec_PadArray.l0 k (intsL R) (m : Int) (intsL R) ((intsL R).length : Int) (i : Int)) res := by
 intro n
 induction n with
 | zero =>
   intro i m hn hi hm h
   rw [List.drop_of_length_le (by omega)] at h
   refine Ev.step' ?_; simp only [spec_PadArray.l0]
   exact Ev.neg (by rw [List.length_map]; omega) h
 | succ n ih =>
   intro i m hn hi hm h
   have hlt : i < R.length := by omega
   rw [List.drop_eq_getElem_cons hlt] at h
   have hrr := hr R[i] (List.getElem_mem hlt)
   refine Ev.step' ?_; simp only [spec_PadArray.l0]
   refine Ev.pos (by rw [List.length_map]; omega) (Ev.pos (by omega) (Ev.pos (by rw [List.length_map]; omega) ?_))
   rw [show rd_L5 (intsL R) (i : Int) = ints R[i] from getD_mapL _ _ _ _ hlt, List.length_map, mx_nat, wrapS (a := (i : Int) + 1) (by omega) (by omega)]
   exact ih (i + 1) (max m R[i].length) (by omega) (by omega) (by omega) h
/-! ### the program's -/
theorem padA_l1 (M : Nat) (hM : M ≤ 1000) (res : ByteArray × Bool) : ∀ (R : List (List Nat)) (A : List (List Int)), A.length + R.length ≤ 1000 → (∀ r ∈ R, r.length ≤ M) →
   Ev (fun k => impl_rowed.f k (A ++ intsL (R.map (padr M)))) res →
   Ev (fun k => impl_PadArray.l1 k (A ++ intsL R) (M : Int) ((A.length + R.length : Nat) : Int) (A.length : Int)) res := by
 intro R
 induction R with
 | nil =>
   intro A hA hR h
   refine Ev.step' ?_; simp only [impl_PadArray.l1]
   exact Ev.neg (by rw [List.length_nil]; omega) (Ev.bind h (Ev.val rfl))
 | cons r R ih =>
   intro A hA hR h
   rw [List.length_cons] at hA
   have h2 := ih (A ++ [ints (padr M r)]) (by rw [List.length_append]; simp only [List.length_singleton]; omega) (fun x hx => hR x (List.mem_cons_of_mem _ hx)) (by rw [List.append_assoc]; exact h)
   have hl := hR r (List.mem_cons_self)
   have e1 : (A ++ [ints (padr M r)]).length = A.length + 1 := by rw [List.length_append]; rfl
   rw [e1, List.append_assoc] at h2
   have e3 : A ++ intsL (r :: R) = A ++ ints r :: intsL R := rfl
   rw [e3]
   refine Ev.step' ?_; simp only [impl_PadArray.l1]
   refine Ev.pos (by rw [List.length_cons]; omega) (Ev.pos (by omega) (Ev.pos (by rw [len_mid]; omega) ?_))
   rw [rdL_mid, Int.toNat_natCast, set_mid, List.length_map, wrapS (a := (A.length : Int) + 1) (by omega) (by omega)]
   refine Ev.pos (by omega) (Ev.pos (by omega) ?_)
   rw [show ((M : Int) - (r.length : Int)).toNat = M - r.length by omega, ← ints_padr, List.length_cons, show A.length + (R.length + 1) = A.length + 1 + R.length by omega]
   exact h2
theorem padA_l0 (R : List (List Nat)) (hR : R.length ≤ 1000) (hr : ∀ r ∈ R, r.length ≤ 1000) (res : ByteArray × Bool) : ∀ (n i m : Nat), R.length - i = n → i ≤ R.length → m ≤ 1000 →
   Ev (fun k => impl_PadArray.l1 k (intsL R) ((mxF m (R.drop i) : Nat) : Int) ((intsL R).length : Int) 0) res →
   Ev (fun k => impl_PadArray.l0 k (intsL R) (m : Int) (intsL R) ((intsL R).length : Int) (i : Int)) res := by
 intro n
 induction n with
 | zero =>
   intro i m hn hi hm h
   rw [List.drop_of_length_le (by omega)] at h
   refine Ev.step' ?_; simp only [impl_PadArray.l0]
   exact Ev.neg (by rw [List.length_map]; omega) h
 | succ n ih =>
   intro i m hn hi hm h
   have hlt : i < R.length := by omega
   rw [List.drop_eq_getElem_cons hlt] at h
   have hrr := hr R[i] (List.getElem_mem hlt)
   refine Ev.step' ?_; simp only [impl_PadArray.l0]
   refine Ev.pos (by rw [List.length_map]; omega) (Ev.pos (by omega) (Ev.pos (by rw [List.length_map]; omega) ?_))
   rw [show rd_L5 (intsL R) (i : Int) = ints R[i] from getD_mapL _ _ _ _ hlt, List.length_map, mx_nat, wrapS (a := (i : Int) + 1) (by omega) (by omega)]
   exact ih (i + 1) (max m R[i].length) (by omega) (by omega) (by omega) h
/-! ### both -/
def padV : Option Tr → ByteArray × Bool
 | none => (BA [], false)
 | some v => told (text 2 (mkT (padR (rowsN v))))
theorem padS_is (l : By) : Ev (fun k => spec_PadArray.f k (BA l)) (padV (readD 2 l)) := by
 have ha := any_is l
 unfold spec_PadArray.f
 refine Ev.bind ha ?_
 cases hq : readD 2 l with
 | none => exact Ev.neg (by simp) (Ev.val rfl)
 | some v =>
   obtain ⟨e, hok, hl⟩ := readD_ok hq
   have hR := rowsN_ok hok (by rw [← e]; omega)
   refine Ev.pos (by first | trivial | rfl) ?_
   have hm := mxF_le (rowsN v) 0 500 (by omega) (fun r hr => (hR.2 r hr).1)
   refine padS_l0 (rowsN v) (by have := hR.1; omega) (fun r hr => by have := (hR.2 r hr).1; omega) _ _ 0 0 rfl (Nat.zero_le _) (by omega) ?_
   rw [List.drop_zero]
   have := padS_l1 (mxF 0 (rowsN v)) (by omega) (told (text 2 (mkT (padR (rowsN v))))) (rowsN v) [] (by have := hR.1; simp only [List.length_nil]; omega) (mxF_ge (rowsN v) 0).2 (textR_is _ (padR_ok hR))
   rw [List.length_nil, Nat.zero_add] at this
   rw [List.length_map]
   exact this
theorem padA_is (l : By) : Ev (fun k => impl_PadArray.f k (BA l)) (padV (readD 2 l)) := by
 obtain ⟨R, ha, hR, hv⟩ := rowsOf_is l
 unfold impl_PadArray.f
 refine Ev.bind ha ?_
 cases hq : readD 2 l with
 | none => exact Ev.neg (by simp) (Ev.val rfl)
 | some v =>
   obtain rfl := hv v hq
   refine Ev.pos (by first | trivial | rfl) ?_
   have hm := mxF_le (rowsN v) 0 500 (by omega) (fun r hr => (hR.2 r hr).1)
   refine padA_l0 (rowsN v) (by have := hR.1; omega) (fun r hr => by have := (hR.2 r hr).1; omega) _ _ 0 0 rfl (Nat.zero_le _) (by omega) ?_
   rw [List.drop_zero]
   have := padA_l1 (mxF 0 (rowsN v)) (by omega) (told (text 2 (mkT (padR (rowsN v))))) (rowsN v) [] (by have := hR.1; simp only [List.length_nil]; omega) (mxF_ge (rowsN v) 0).2 (rowed_is _ (padR_ok hR))
   rw [List.length_nil, Nat.zero_add] at this
   rw [List.length_map]
   exact this
end Go.Proofs.YtoloblgjlnhioaaDoor.J
namespace Go.Proofs.YtoloblgjlnhioaaDoor.J
open Go.RowKit Go.Proofs.YtoloblgjlnhioaaDoorW.PrintWords Go.Proofs.YtoloblgjlnhioaaDoorW.PrintLast Go.Proofs.YtoloblgjlnhioaaDoorW.PrintMore Go.Proofs.YtoloblgjlnhioaaDoor.Q
set_option linter.unusedSimpArgs false
set_option linter.unusedVariables false

theorem rd_at {l : List Int} {i : Nat} (h : i < l.length) : rd l (i : Int) = l[i] := by
 unfold rd
 rw [Int.toNat_natCast, List.getD_eq_getElem?_getD, List.getElem?_eq_getElem h]
 rfl
end Go.Proofs.YtoloblgjlnhioaaDoor.J
namespace Go.Proofs.YtoloblgjlnhioaaDoor.J
open Go.RowKit Go.Proofs.YtoloblgjlnhioaaDoorW.PrintWords Go.Proofs.YtoloblgjlnhioaaDoorW.PrintLast Go.Proofs.YtoloblgjlnhioaaDoorW.PrintMore Go.Proofs.YtoloblgjlnhioaaDoor.Q
set_option linter.unusedSimpArgs false
set_option linter.unusedVariables false

/-- Each row cut, one after the other. -/
def cutFrom : List Int → Nat → List (List Nat) → Option (List (List Nat))
 | [], _, R => some R
 | c :: cs, i, R => if 0 ≤ c ∧ c ≤ ((R.getD i []).length : Int) then cutFrom cs (i + 1) (R.set i ((R.getD i []).take c.toNat)) else none
def cutRes : Option (List (List Nat)) → ByteArray × Bool
 | none => (BA [], false)
 | some R => told (text 2 (mkT R))
theorem set_ok {R : List (List Nat)} (h : RowsOk R) (i m : Nat) : RowsOk (R.set i ((R.getD i []).take m)) := by
 refine ⟨by rw [List.length_set]; exact h.1, ?_⟩
 intro r hr
 rcases List.mem_or_eq_of_mem_set hr with hr | rfl
 · exact h.2 r hr
 · by_cases hi : i < R.length
   · have e : R.getD i [] = R[i] := by rw [List.getD_eq_getElem?_getD, List.getElem?_eq_getElem hi]; rfl
     rw [e]
     have hm := h.2 R[i] (List.getElem_mem hi)
     refine ⟨by rw [List.length_take]; omega, fun n hn => hm.2 n (List.mem_of_mem_take hn)⟩
   · have e : R.getD i [] = [] := by rw [List.getD_eq_getElem?_getD, List.getElem?_eq_none (by omega)]; rfl
     rw [e]
     simp
theorem rdL_at {R : List (List Nat)} {i : Nat} (h : i < R.length) : rd_L5 (intsL R) (i : Int) = ints (R.getD i []) := by
 rw [List.getD_eq_getElem?_getD, List.getElem?_eq_getElem h]
 exact getD_mapL _ _ _ _ h
theorem set_map {R : List (List Nat)} (i m : Nat) : (intsL R).set i ((ints (R.getD i [])).take m) = intsL (R.set i ((R.getD i []).take m)) := by
 rw [intsL, intsL, List.map_set]
 congr 1
 exact List.map_take.symm
theorem drop_cons {α : Type} {l : List α} {i : Nat} {c : α} {cs : List α} (h : l.drop i = c :: cs) : ∃ hi : i < l.length, l[i] = c ∧ l.drop (i + 1) = cs := by
 rcases Nat.lt_or_ge i l.length with h1 | h1
 · rw [List.drop_eq_getElem_cons h1] at h
   exact ⟨h1, (List.cons.inj h).1, (List.cons.inj h).2⟩
 · rw [List.drop_eq_nil_of_le h1] at h; cases h
theorem cutS_l0 (C : List Int) (hC : C.length ≤ 500) : ∀ (cs : List Int) (i : Nat) (R : List (List Nat)), C.drop i = cs → i ≤ C.length → C.length = R.length → RowsOk R →
   Ev (fun k => spec_CutArray.l0 k (intsL R) C (C.length : Int) (i : Int)) (cutRes (cutFrom cs i R)) := by
 intro cs
 induction cs with
 | nil =>
   intro i R hd hi hl hR
   have := congrArg List.length hd
   rw [List.length_drop, List.length_nil] at this
   refine Ev.step' ?_; simp only [spec_CutArray.l0]
   refine Ev.neg (by omega) ?_
   exact Ev.bind (textR_is R hR) (Ev.now _)
 | cons c cs ih =>
   intro i R hd hi hl hR
   obtain ⟨hlt, hc, hdn⟩ := drop_cons hd
   refine Ev.step' ?_; simp only [spec_CutArray.l0]
   refine Ev.pos (by omega) (Ev.pos (by omega) (Ev.pos (by omega) (Ev.pos (by rw [List.length_map]; omega) ?_)))
   rw [rd_at hlt, hc, rdL_at (by omega), wrapS (a := (i : Int) + 1) (by omega) (by omega), List.length_map]
   by_cases hok : 0 ≤ c ∧ c ≤ ((R.getD i []).length : Int)
   · have hin : spec_l1In.f c 0 ((R.getD i []).length : Int) = some true := by
       unfold spec_l1In.f
       rw [if_pos (by omega)]
       simp only [hok.2, decide_true]
     have hnext := ih (i + 1) (R.set i ((R.getD i []).take c.toNat)) hdn (by omega) (by rw [List.length_set]; omega) (set_ok hR i _)
     refine Ev.call hin (Ev.pos (by first | trivial | rfl) (Ev.pos hok.1 (Ev.pos hok.2 ?_)))
     rw [Int.toNat_natCast, set_map, cutFrom, if_pos hok]
     exact hnext
   · have hin : spec_l1In.f c 0 ((R.getD i []).length : Int) = some false := by
       unfold spec_l1In.f
       by_cases h0 : c ≥ 0
       · rw [if_pos h0]
         have : ¬ c ≤ ((R.getD i []).length : Int) := fun h => hok ⟨h0, h⟩
         simp only [this, decide_false]
       · rw [if_neg h0]
     refine Ev.call hin (Ev.neg (by simp) (Ev.val ?_))
     rw [cutFrom, if_neg hok]
     rfl
theorem cutA_l0 (C : List Int) (hC : C.length ≤ 500) : ∀ (cs : List Int) (i : Nat) (R : List (List Nat)), C.drop i = cs → i ≤ C.length → C.length = R.length → RowsOk R →
   Ev (fun k => impl_CutArray.l0 k (intsL R) C (C.length : Int) (i : Int)) (cutRes (cutFrom cs i R)) := by
 intro cs
 induction cs with
 | nil =>
   intro i R hd hi hl hR
   have := congrArg List.length hd
   rw [List.length_drop, List.length_nil] at this
   refine Ev.step' ?_; simp only [impl_CutArray.l0]
   refine Ev.neg (by omega) ?_
   exact Ev.bind (rowed_is R hR) (Ev.now _)
 | cons c cs ih =>
   intro i R hd hi hl hR
   obtain ⟨hlt, hc, hdn⟩ := drop_cons hd
   refine Ev.step' ?_; simp only [impl_CutArray.l0]
   refine Ev.pos (by omega) (Ev.pos (by omega) (Ev.pos (by omega) ?_))
   rw [rd_at hlt, hc, rdL_at (by omega), wrapS (a := (i : Int) + 1) (by omega) (by omega)]
   simp only [List.length_map]
   by_cases h0 : c < 0
   · refine Ev.pos h0 (Ev.val ?_)
     rw [cutFrom, if_neg (by omega)]
     rfl
   · refine Ev.neg h0 (Ev.pos (by omega) ?_)
     by_cases h1 : c > ((R.getD i []).length : Int)
     · refine Ev.pos h1 (Ev.val ?_)
       rw [cutFrom, if_neg (by omega)]
       rfl
     · have hok : 0 ≤ c ∧ c ≤ ((R.getD i []).length : Int) := by omega
       have hnext := ih (i + 1) (R.set i ((R.getD i []).take c.toNat)) hdn (by omega) (by rw [List.length_set]; omega) (set_ok hR i _)
       refine Ev.neg h1 (Ev.pos hok.1 (Ev.pos hok.2 ?_))
       rw [Int.toNat_natCast, set_map, cutFrom, if_pos hok]
       exact hnext
/-- What both answer. -/
def cutR (l : By) (C : List Int) : ByteArray × Bool := match readD 2 l with
 | none => (BA [], false)
 | some v => if C.length = (rowsN v).length then cutRes (cutFrom C 0 (rowsN v)) else (BA [], false)
theorem cutS_is (l : By) (C : List Int) : Ev (fun k => spec_CutArray.f k (BA l) C) (cutR l C) := by
 have hbad : ∀ X, Ev (fun k => spec_CutArray.j0 k C X true) (BA [], false) := by
   intro X
   refine Ev.step' ?_; simp only [spec_CutArray.j0]
   exact Ev.pos (by first | trivial | rfl) (Ev.now _)
 have ha := any_is l
 unfold spec_CutArray.f cutR
 refine Ev.bind ha ?_
 cases hq : readD 2 l with
 | none => exact Ev.neg (by simp) (hbad _)
 | some v =>
   obtain ⟨e, hok, hl⟩ := readD_ok hq
   have hR := rowsN_ok hok (by rw [← e]; omega)
   refine Ev.pos (by first | trivial | rfl) ?_
   dsimp only
   by_cases hC : C.length = (rowsN v).length
   · rw [if_pos hC]
     rw [show ((C.length : Int) != ((intsL (rowsN v)).length : Int)) = false by rw [List.length_map, hC]; simp]
     refine Ev.step' ?_; simp only [spec_CutArray.j0]
     have := hR.1
     exact Ev.neg (by simp) (cutS_l0 C (by omega) C 0 _ rfl (by omega) hC hR)
   · rw [if_neg hC]
     rw [show ((C.length : Int) != ((intsL (rowsN v)).length : Int)) = true by rw [List.length_map]; simpa using fun h => hC (by omega)]
     exact hbad _
theorem cutA_is (l : By) (C : List Int) : Ev (fun k => impl_CutArray.f k (BA l) C) (cutR l C) := by
 have hbad : ∀ X, Ev (fun k => impl_CutArray.j0 k C X true) (BA [], false) := by
   intro X
   refine Ev.step' ?_; simp only [impl_CutArray.j0]
   exact Ev.pos (by first | trivial | rfl) (Ev.now _)
 obtain ⟨R, ha, hR, hv⟩ := rowsOf_is l
 unfold impl_CutArray.f cutR
 refine Ev.bind ha ?_
 cases hq : readD 2 l with
 | none => exact Ev.neg (by simp) (hbad _)
 | some v =>
   obtain rfl := hv v hq
   refine Ev.pos (by first | trivial | rfl) ?_
   dsimp only
   by_cases hC : C.length = (rowsN v).length
   · rw [if_pos hC]
     rw [show ((C.length : Int) != ((intsL (rowsN v)).length : Int)) = false by rw [List.length_map, hC]; simp]
     refine Ev.step' ?_; simp only [impl_CutArray.j0]
     have := hR.1
     exact Ev.neg (by simp) (cutA_l0 C (by omega) C 0 _ rfl (by omega) hC hR)
   · rw [if_neg hC]
     rw [show ((C.length : Int) != ((intsL (rowsN v)).length : Int)) = true by rw [List.length_map]; simpa using fun h => hC (by omega)]
     exact hbad _
end Go.Proofs.YtoloblgjlnhioaaDoor.J
namespace Go.Proofs.YtoloblgjlnhioaaDoor.J
open Go.RowKit Go.Proofs.YtoloblgjlnhioaaDoorW.PrintWords Go.Proofs.YtoloblgjlnhioaaDoorW.PrintLast Go.Proofs.YtoloblgjlnhioaaDoorW.PrintMore Go.Proofs.YtoloblgjlnhioaaDoor.Q
set_option linter.unusedSimpArgs false
set_option linter.unusedVariables false
theorem nums_ok : ∀ (d : Nat) (t : Tr), Ok d t → ∀ n ∈ Q.nums d t, n < 10007
 | 0, t, h, n, hn => by
   obtain rfl := List.mem_singleton.1 hn
   exact h.1
 | d + 1, t, h, n, hn => by
   obtain ⟨l, hl, hnl⟩ := List.mem_flatten.1 hn
   obtain ⟨x, hx, rfl⟩ := List.mem_map.1 hl
   exact nums_ok d x (h.2 x hx) n hnl
def fillN (f : List Nat → Tr × List Nat) : Nat → List Nat → List Tr × List Nat
 | 0, xs => ([], xs)
 | n + 1, xs => ((f xs).1 :: (fillN f n (f xs).2).1, (fillN f n (f xs).2).2)
/-- The array of a shape with numbers, and those that are left. -/
def fillT : List Nat → List Nat → Tr × List Nat
 | [], xs => (⟨xs.headD 0, []⟩, xs.tail)
 | m :: sh, xs => (⟨0, (fillN (fillT sh) m xs).1⟩, (fillN (fillT sh) m xs).2)
def prN : List Nat → Nat
 | [] => 1
 | m :: sh => m * prN sh
theorem prN_append (b : List Nat) : ∀ a, prN (a ++ b) = prN a * prN b
 | [] => (Nat.one_mul _).symm
 | m :: a => by
   show m * prN (a ++ b) = m * prN a * prN b
   rw [prN_append b a, Nat.mul_assoc]
theorem prN_snoc {sh : List Nat} {i : Nat} (h : i < sh.length) : prN (sh.take (i + 1)) = prN (sh.take i) * sh[i] := by
 rw [take_snoc _ _ h, prN_append]
 show _ * (sh[i] * 1) = _
 rw [Nat.mul_one]
theorem prN_le : ∀ (l : List Nat), (∀ x ∈ l, x ≤ 400) → prN l ≤ 400 ^ l.length
 | [], _ => Nat.le_refl _
 | m :: l, h => by
   have h1 := prN_le l (fun x hx => h x (List.mem_cons_of_mem _ hx))
   have h2 := h m (by simp)
   show m * prN l ≤ 400 ^ (l.length + 1)
   rw [Nat.pow_succ, Nat.mul_comm (400 ^ l.length)]
   exact Nat.mul_le_mul h2 h1
theorem prN_in {l : List Nat} (h : ∀ x ∈ l, x ≤ 400) (hl : l.length ≤ 3) : prN l ≤ 64000000 :=
 Nat.le_trans (prN_le l h) (Nat.le_trans (Nat.pow_le_pow_right (by omega) hl) (by decide))
theorem fillN_rest (f : List Nat → Tr × List Nat) (P : Nat) (hf : ∀ xs, P ≤ xs.length → (f xs).2.length + P = xs.length) : ∀ (n : Nat) (xs : List Nat), n * P ≤ xs.length → (fillN f n xs).2.length + n * P = xs.length
 | 0, xs, _ => by rw [Nat.zero_mul]; rfl
 | n + 1, xs, h => by
   rw [Nat.succ_mul] at h ⊢
   have h1 := hf xs (by omega)
   have h2 := fillN_rest f P hf n (f xs).2 (by omega)
   show (fillN f n (f xs).2).2.length + (n * P + P) = _
   omega
theorem fillT_rest : ∀ (sh : List Nat) (xs : List Nat), prN sh ≤ xs.length → (fillT sh xs).2.length + prN sh = xs.length
 | [], xs, h => by
   have h1 : 1 ≤ xs.length := h
   show xs.tail.length + 1 = _
   rw [List.length_tail]
   omega
 | m :: sh, xs, h => fillN_rest (fillT sh) (prN sh) (fillT_rest sh) m xs h
theorem fillN_len (f : List Nat → Tr × List Nat) : ∀ (n : Nat) (xs : List Nat), (fillN f n xs).1.length = n
 | 0, _ => rfl
 | n + 1, xs => by
   show (fillN f n (f xs).2).1.length + 1 = _
   rw [fillN_len f n]
def capN : Nat → Nat
 | 0 => 1
 | d + 1 => 1 + 400 * capN d
theorem capN_in {d : Nat} (h : d ≤ 3) : capN d ≤ 1000000000 := by
 obtain rfl | rfl | rfl | rfl : d = 0 ∨ d = 1 ∨ d = 2 ∨ d = 3 := by omega
 all_goals decide
theorem fillN_all (f : List Nat → Tr × List Nat) (K : List Nat → Prop) (G : Tr → Prop) (hf : ∀ xs, K xs → G (f xs).1 ∧ K (f xs).2) : ∀ (n : Nat) (xs : List Nat), K xs → (∀ t ∈ (fillN f n xs).1, G t) ∧ K (fillN f n xs).2
 | 0, xs, h => ⟨fun t ht => (by cases ht), h⟩
 | n + 1, xs, h => by
   obtain ⟨h1, h2⟩ := hf xs h
   obtain ⟨h3, h4⟩ := fillN_all f K G hf n _ h2
   refine ⟨fun t ht => ?_, h4⟩
   rcases List.mem_cons.1 ht with rfl | ht
   · exact h1
   · exact h3 t ht
abbrev Small (xs : List Nat) : Prop := ∀ x ∈ xs, x < 10007
theorem sum_cap (c : Nat) (g : Tr → Nat) : ∀ (ts : List Tr), (∀ t ∈ ts, g t ≤ c) → (ts.map g).sum ≤ ts.length * c
 | [], _ => by simp
 | t :: ts, h => by
   have h1 := h t (by simp)
   have h2 := sum_cap c g ts (fun x hx => h x (List.mem_cons_of_mem _ hx))
   rw [List.map_cons, List.sum_cons, List.length_cons, Nat.succ_mul]
   omega
theorem fillT_ok : ∀ (sh : List Nat) (xs : List Nat), (∀ x ∈ sh, x ≤ 400) → Small xs → (Sh sh.length (fillT sh xs).1 ∧ nodes sh.length (fillT sh xs).1 ≤ capN sh.length) ∧ Small (fillT sh xs).2
 | [], xs, _, h => by
   refine ⟨⟨?_, Nat.le_refl _⟩, fun x hx => h x (List.mem_of_mem_tail hx)⟩
   show xs.headD 0 < 1000000000
   cases xs with
   | nil => show 0 < _; omega
   | cons x l => have := h x (by simp); show x < _; omega
 | m :: sh, xs, hs, h => by
   have ih := fun ys (hy : Small ys) => fillT_ok sh ys (fun x hx => hs x (List.mem_cons_of_mem _ hx)) hy
   obtain ⟨h1, h2⟩ := fillN_all (fillT sh) Small (fun t => Sh sh.length t ∧ nodes sh.length t ≤ capN sh.length) ih m xs h
   refine ⟨⟨fun x hx => (h1 x hx).1, ?_⟩, h2⟩
   have hm := hs m (by simp)
   have h3 := sum_cap (capN sh.length) (nodes sh.length) (fillN (fillT sh) m xs).1 (fun t ht => (h1 t ht).2)
   rw [fillN_len] at h3
   have h4 := Nat.mul_le_mul_right (capN sh.length) hm
   show 1 + ((fillN (fillT sh) m xs).1.map (nodes sh.length)).sum ≤ 1 + 400 * capN sh.length
   omega
theorem rdI_at {l : List Nat} {i : Nat} (h : i < l.length) : rd (ints l) (i : Int) = (l[i] : Int) := by
 rw [rd_at (by rw [List.length_map]; exact h), List.getElem_map]
theorem rd_head {xs : List Nat} (h : 1 ≤ xs.length) : rd (ints xs) 0 = ((xs.headD 0 : Nat) : Int) := by
 cases xs with
 | nil => simp at h
 | cons x l => rfl
theorem ints_drop (l : List Nat) : (ints l).drop 1 = ints l.tail := by
 cases l <;> rfl
def fillR (sh xs : List Nat) : ByteArray × Bool := if prN sh = xs.length then told (text sh.length (fillT sh xs).1) else (BA [], false)
theorem shape_cases (S : List Int) : (∃ sh : List Nat, S = ints sh ∧ ∀ x ∈ sh, x ≤ 400) ∨ ∃ z ∈ S, ¬ (0 ≤ z ∧ z ≤ 400) := by
 by_cases h : ∀ z ∈ S, 0 ≤ z ∧ z ≤ 400
 · refine .inl ⟨S.map Int.toNat, ?_, ?_⟩
   · rw [ints, List.map_map]
     conv => lhs; rw [← List.map_id S]
     apply List.map_congr_left
     intro z hz
     have := h z hz
     show z = ((z.toNat : Nat) : Int)
     omega
   · intro x hx
     obtain ⟨z, hz, rfl⟩ := List.mem_map.1 hx
     have := h z hz
     omega
 · refine .inr ?_
   apply Classical.byContradiction
   intro hn
   exact h (fun z hz => Classical.byContradiction fun hc => hn ⟨z, hz, hc⟩)
end Go.Proofs.YtoloblgjlnhioaaDoor.J
namespace Go.Proofs.YtoloblgjlnhioaaDoor.J
open Go.RowKit Go.Proofs.YtoloblgjlnhioaaDoorW.PrintWords Go.Proofs.YtoloblgjlnhioaaDoorW.PrintLast Go.Proofs.YtoloblgjlnhioaaDoorW.PrintMore Go.Proofs.YtoloblgjlnhioaaDoor.Q
set_option linter.unusedSimpArgs false
set_option linter.unusedVariables false

def FillS (sh : List Nat) : Prop := ∀ xs : List Nat, prN sh ≤ xs.length → Ev (fun k => spec_l11Fill.f k (ints sh) (ints xs)) ((cS sh.length (fillT sh xs).1).f0, (cS sh.length (fillT sh xs).1).f1, ints (fillT sh xs).2)
theorem fillS_l0 (m : Nat) (hm : m ≤ 400) (sh : List Nat) (ih : FillS sh) : ∀ (n i : Nat) (xs : List Nat) (acc : List Tr), i + n = m → acc.length ≤ i → n * prN sh ≤ xs.length →
   Ev (fun k => spec_l11Fill.l0 k (ints (m :: sh)) (ints xs) (m : Int) (i : Int) 0 (acc.map (cS sh.length))) (0, (acc ++ (fillN (fillT sh) n xs).1).map (cS sh.length), ints (fillN (fillT sh) n xs).2) := by
 intro n
 induction n with
 | zero =>
   intro i xs acc h ha hx
   refine Ev.step' ?_; simp only [spec_l11Fill.l0]
   refine Ev.neg (by omega) (Ev.val ?_)
   simp only [fillN, List.append_nil]
 | succ n ihn =>
   intro i xs acc h ha hx
   rw [Nat.succ_mul] at hx
   have hf := ih xs (by omega)
   have hr := fillT_rest sh xs (by omega)
   have hnext := ihn (i + 1) (fillT sh xs).2 (acc ++ [(fillT sh xs).1]) (by omega) (by rw [List.length_append]; exact Nat.add_le_add_right ha 1) (by omega)
   rw [List.map_append, List.append_assoc] at hnext
   have ed : (ints (m :: sh)).drop 1 = ints sh := ints_drop (m :: sh)
   refine Ev.step' ?_; simp only [spec_l11Fill.l0]
   refine Ev.pos (by omega) (Ev.pos (by rw [List.length_map, List.length_cons]; omega) ?_)
   rw [ed, wrapS (by omega) (by omega)]
   refine Ev.bind hf (Ev.pos (by rw [List.length_map]; omega) ?_)
   dsimp only
   simp only [fillN, mkS]
   rw [List.singleton_append, List.map_cons, List.map_nil] at hnext
   exact hnext
theorem fillS_is : ∀ (sh : List Nat), (∀ x ∈ sh, x ≤ 400) → FillS sh
 | [], _ => by
   intro xs h
   have h1 : 1 ≤ xs.length := h
   refine Ev.step' ?_; simp only [spec_l11Fill.f]
   refine Ev.bind (Ev.now _) (Ev.pos (by first | trivial | rfl) (Ev.pos (by rw [List.length_map]; omega) (Ev.pos (by rw [List.length_map]; omega) (Ev.val ?_))))
   rw [rd_head h1, ints_drop]
   rfl
 | m :: sh, hs => by
   intro xs h
   have hm := hs m (by simp)
   have h0 := fillS_l0 m hm sh (fillS_is sh (fun x hx => hs x (List.mem_cons_of_mem _ hx))) m 0 xs [] (by omega) (Nat.le_refl _) h
   refine Ev.step' ?_; simp only [spec_l11Fill.f]
   exact Ev.bind (Ev.now _) (Ev.neg (by rw [List.length_map, List.length_cons]; omega) (Ev.pos (by rw [List.length_map, List.length_cons]; omega) h0))
theorem cap_mul (A s : Nat) : min (min A 401 * s) 401 = min (A * s) 401 := by
 rcases Nat.le_total A 401 with h | h
 · rw [Nat.min_eq_left h]
 · rw [Nat.min_eq_right h]
   rcases Nat.eq_zero_or_pos s with rfl | hs
   · rw [Nat.mul_zero, Nat.mul_zero]
   · have h1 : 401 ≤ 401 * s := Nat.le_mul_of_pos_right _ hs
     have h2 : 401 * s ≤ A * s := Nat.mul_le_mul_right _ h
     rw [Nat.min_eq_right h1, Nat.min_eq_right (Nat.le_trans h1 h2)]
theorem product_l0 (sh : List Nat) (hs : ∀ x ∈ sh, x ≤ 400) (hl : sh.length ≤ 3) : ∀ (n i : Nat), sh.length - i = n → i ≤ sh.length →
   Ev (fun k => spec_l11Product.l0 k ((min (prN (sh.take i)) 401 : Nat) : Int) (ints sh) ((ints sh).length : Int) (i : Int)) ((min (prN sh) 401 : Nat) : Int) := by
 intro n
 induction n with
 | zero =>
   intro i h hi
   rw [List.take_of_length_le (by omega)]
   refine Ev.step' ?_; simp only [spec_l11Product.l0]
   exact Ev.neg (by rw [List.length_map]; omega) (Ev.now _)
 | succ n ihn =>
   intro i h hi
   have hlt : i < sh.length := by omega
   have hnext := ihn (i + 1) (by omega) (by omega)
   have h400 := hs sh[i] (List.getElem_mem hlt)
   have e := prN_snoc hlt
   obtain ⟨M, hM⟩ : ∃ M, M = min (prN (sh.take i)) 401 := ⟨_, rfl⟩
   have hM2 : M ≤ 401 := by rw [hM]; exact Nat.min_le_right _ _
   have hb : M * sh[i] ≤ 401 * 400 := Nat.mul_le_mul hM2 h400
   have hc := cap_mul (prN (sh.take i)) sh[i]
   rw [← hM] at hc ⊢
   refine Ev.step' ?_; simp only [spec_l11Product.l0]
   refine Ev.pos (by rw [List.length_map]; omega) (Ev.pos (by omega) (Ev.pos (by rw [List.length_map]; omega) ?_))
   rw [rdI_at hlt, ← Int.natCast_mul, wrapS (a := ((M * sh[i] : Nat) : Int)) (by omega) (by omega), wrapS (a := (i : Int) + 1) (by omega) (by omega)]
   have em : mn ((M * sh[i] : Nat) : Int) 401 = ((min (prN (sh.take (i + 1))) 401 : Nat) : Int) := by
     rw [e, ← hc]
     unfold mn
     split <;> omega
   rw [em]
   exact hnext
theorem product_is (sh : List Nat) (hs : ∀ x ∈ sh, x ≤ 400) (hl : sh.length ≤ 3) : Ev (fun k => spec_l11Product.f k (ints sh)) ((min (prN sh) 401 : Nat) : Int) := by
 unfold spec_l11Product.f
 exact product_l0 sh hs hl _ 0 rfl (by omega)
theorem inS_is (n a b : Int) : spec_l1In.f n a b = some (decide (a ≤ n ∧ n ≤ b)) := by
 unfold spec_l1In.f
 by_cases h : n ≥ a
 · rw [if_pos h]
   congr 1
   simp
   omega
 · rw [if_neg h]
   congr 1
   simp
   omega
theorem l3Numbers_l0 (xs : List Nat) (hx : Small xs) (hxl : xs.length ≤ 400) : ∀ (n i : Nat), xs.length - i = n → i ≤ xs.length → Ev (fun k => spec_l3Numbers.l0 k (ints xs) ((ints xs).length : Int) (i : Int)) true := by
 intro n
 induction n with
 | zero =>
   intro i h hi
   refine Ev.step' ?_; simp only [spec_l3Numbers.l0]
   exact Ev.neg (by rw [List.length_map]; omega) (Ev.now _)
 | succ n ihn =>
   intro i h hi
   have hlt : i < xs.length := by omega
   have hm := hx xs[i] (List.getElem_mem hlt)
   refine Ev.step' ?_; simp only [spec_l3Numbers.l0]
   refine Ev.pos (by rw [List.length_map]; omega) (Ev.pos (by omega) (Ev.pos (by rw [List.length_map]; omega) ?_))
   rw [rdI_at hlt, wrapS (a := (i : Int) + 1) (by omega) (by omega)]
   exact Ev.call (inS_is _ _ _) (Ev.pos (by rw [decide_eq_true_iff]; omega) (ihn (i + 1) (by omega) (by omega)))
theorem l4Data_is (xs : List Nat) (hx : Small xs) (hxl : xs.length ≤ 400) : Ev (fun k => spec_l4Data.f k (ints xs)) true := by
 have h0 : Ev (fun k => spec_l3Numbers.f k (ints xs)) true := by
   unfold spec_l3Numbers.f
   exact l3Numbers_l0 xs hx hxl _ 0 rfl (by omega)
 unfold spec_l4Data.f
 refine Ev.bind h0 (Ev.pos (by first | trivial | rfl) (Ev.val ?_))
 rw [decide_eq_true_iff, List.length_map]
 omega
theorem fillShS_l0 (sh xs : List Nat) (hs : ∀ x ∈ sh, x ≤ 400) (hl : sh.length ≤ 3) (hx : Small xs) (hxl : xs.length ≤ 400) : ∀ (n i : Nat), sh.length - i = n → i ≤ sh.length →
   Ev (fun k => spec_FillShape.l0 k (ints sh) (ints xs) (ints sh) ((ints sh).length : Int) (i : Int)) (fillR sh xs) := by
 intro n
 induction n with
 | zero =>
   intro i h hi
   refine Ev.step' ?_; simp only [spec_FillShape.l0]
   refine Ev.neg (by rw [List.length_map]; omega) (Ev.bind (product_is sh hs hl) ?_)
   unfold fillR
   by_cases he : prN sh = xs.length
   · obtain ⟨⟨o1, o2⟩, _⟩ := fillT_ok sh xs hs hx
     have hc := capN_in hl
     have ht := toldS_is sh.length (by omega) (fillT sh xs).1 o1 (by omega)
     rw [if_pos he]
     refine Ev.pos (by rw [List.length_map, he, Nat.min_eq_left (by omega)]) (Ev.bind (fillS_is sh hs xs (by omega)) ?_)
     rw [List.length_map]
     exact Ev.bind ht (Ev.now _)
   · rw [if_neg he]
     refine Ev.neg ?_ (Ev.now _)
     rw [List.length_map]
     rcases Nat.le_total (prN sh) 401 with h4 | h4
     · rw [Nat.min_eq_left h4]; omega
     · rw [Nat.min_eq_right h4]; omega
 | succ n ihn =>
   intro i h hi
   have hlt : i < sh.length := by omega
   have h400 := hs sh[i] (List.getElem_mem hlt)
   refine Ev.step' ?_; simp only [spec_FillShape.l0]
   refine Ev.pos (by rw [List.length_map]; omega) (Ev.pos (by omega) (Ev.pos (by rw [List.length_map]; omega) ?_))
   rw [rdI_at hlt, wrapS (a := (i : Int) + 1) (by omega) (by omega)]
   exact Ev.call (inS_is _ _ _) (Ev.pos (by rw [decide_eq_true_iff]; omega) (ihn (i + 1) (by omega) (by omega)))
theorem fillShS_bad (X0 X1 : List Int) : Ev (fun k => spec_FillShape.j0 k X0 X1 true) (BA [], false) := by
 refine Ev.step' ?_; simp only [spec_FillShape.j0]
 exact Ev.pos (by first | trivial | rfl) (Ev.now _)
theorem fillShS_long (S : List Int) (X : List Int) (h : 3 < S.length) : Ev (fun k => spec_FillShape.f k S X) (BA [], false) := by
 unfold spec_FillShape.f
 exact Ev.pos (by omega) (fillShS_bad _ _)
theorem fillShS_l0bad (S X : List Int) (hl : S.length ≤ 3) : ∀ (n i : Nat), S.length - i = n → i ≤ S.length → (∃ z ∈ S.drop i, ¬ (0 ≤ z ∧ z ≤ 400)) →
   Ev (fun k => spec_FillShape.l0 k S X S (S.length : Int) (i : Int)) (BA [], false) := by
 intro n
 induction n with
 | zero =>
   intro i h hi hz
   obtain ⟨z, hz, _⟩ := hz
   rw [List.drop_eq_nil_of_le (by omega)] at hz
   cases hz
 | succ n ihn =>
   intro i h hi hz
   have hlt : i < S.length := by omega
   refine Ev.step' ?_; simp only [spec_FillShape.l0]
   refine Ev.pos (by omega) (Ev.pos (by omega) (Ev.pos (by omega) ?_))
   rw [rd_at hlt, wrapS (a := (i : Int) + 1) (by omega) (by omega)]
   by_cases hin : 0 ≤ S[i] ∧ S[i] ≤ 400
   · refine Ev.call (inS_is _ _ _) (Ev.pos (by rw [decide_eq_true_iff]; exact hin) (ihn (i + 1) (by omega) (by omega) ?_))
     obtain ⟨z, hz, hn⟩ := hz
     rw [List.drop_eq_getElem_cons hlt] at hz
     rcases List.mem_cons.1 hz with rfl | hz
     · exact absurd hin hn
     · exact ⟨z, hz, hn⟩
   · exact Ev.call (inS_is _ _ _) (Ev.neg (by rw [decide_eq_true_iff]; exact hin) (Ev.now _))
theorem fillShS_out (S : List Int) (xs : List Nat) (hx : Small xs) (hxl : xs.length ≤ 400) (h : S.length ≤ 3) {z : Int} (hz : z ∈ S) (hn : ¬ (0 ≤ z ∧ z ≤ 400)) : Ev (fun k => spec_FillShape.f k S (ints xs)) (BA [], false) := by
 unfold spec_FillShape.f
 refine Ev.neg (by omega) (Ev.bind (l4Data_is xs hx hxl) ?_)
 rw [show (!true) = false from rfl]
 refine Ev.step' ?_; simp only [spec_FillShape.j0]
 exact Ev.neg (by simp) (fillShS_l0bad S _ h _ 0 rfl (by omega) ⟨z, hz, hn⟩)
theorem fillShS_is (sh xs : List Nat) (hs : ∀ x ∈ sh, x ≤ 400) (hl : sh.length ≤ 3) (hx : Small xs) (hxl : xs.length ≤ 400) : Ev (fun k => spec_FillShape.f k (ints sh) (ints xs)) (fillR sh xs) := by
 unfold spec_FillShape.f
 refine Ev.neg (by rw [List.length_map]; omega) (Ev.bind (l4Data_is xs hx hxl) ?_)
 rw [show (!true) = false from rfl]
 refine Ev.step' ?_; simp only [spec_FillShape.j0]
 exact Ev.neg (by simp) (fillShS_l0 sh xs hs hl hx hxl _ 0 rfl (by omega))
end Go.Proofs.YtoloblgjlnhioaaDoor.J
namespace Go.Proofs.YtoloblgjlnhioaaDoor.J
open Go.RowKit Go.Proofs.YtoloblgjlnhioaaDoorW.PrintWords Go.Proofs.YtoloblgjlnhioaaDoorW.PrintLast Go.Proofs.YtoloblgjlnhioaaDoorW.PrintMore Go.Proofs.YtoloblgjlnhioaaDoor.Q
set_option linter.unusedSimpArgs false
set_option linter.unusedVariables false

theorem xor_nn (a b : Nat) (ha : a < 4611686018427387904) (hb : b < 4611686018427387904) : 0 ≤ Go.bits .xor .i64 (a : Int) (b : Int) := by
 have hx : a ^^^ b < 2 ^ 62 := Nat.xor_lt_two_pow (by omega) (by omega)
 have e : ((BitVec.ofInt 64 (a : Int)) ^^^ (BitVec.ofInt 64 (b : Int))).toNat = a ^^^ b := by
   rw [BitVec.toNat_xor, BitVec.toNat_ofInt, BitVec.toNat_ofInt]
   have h1 : ((a : Int) % ((2 ^ 64 : Nat) : Int)).toNat = a := by omega
   have h2 : ((b : Int) % ((2 ^ 64 : Nat) : Int)).toNat = b := by omega
   rw [h1, h2]
 show 0 ≤ IntKind.wrap .i64 (((BitVec.ofInt 64 (a : Int)) ^^^ (BitVec.ofInt 64 (b : Int))).toNat : Int)
 rw [e, IntKind.wrap_i64]
 omega
def Bs (l : List Int) : Prop := l.length ≤ 2000 ∧ ∀ x ∈ l, 0 ≤ x ∧ x ≤ 255
theorem rd_in {l : List Int} (h : Bs l) (i : Int) : 0 ≤ rd l i ∧ rd l i ≤ 255 := by
 unfold rd
 rw [List.getD_eq_getElem?_getD]
 cases hg : l[i.toNat]? with
 | none => simp
 | some x => exact h.2 x (List.mem_of_getElem? hg)
theorem tmod_in {a n : Int} (ha : 0 ≤ a) (hn : 1 ≤ n) : 0 ≤ Int.tmod a n ∧ Int.tmod a n < n := by
 rw [Int.tmod_eq_emod_of_nonneg ha]
 exact ⟨Int.emod_nonneg _ (by omega), Int.emod_lt_of_pos _ (by omega)⟩
theorem tdiv_in {a n : Int} (ha : 0 ≤ a) (hn : 1 ≤ n) : 0 ≤ Int.tdiv a n ∧ Int.tdiv a n ≤ a := by
 rw [Int.tdiv_eq_ediv_of_nonneg ha]
 refine ⟨Int.ediv_nonneg ha (by omega), ?_⟩
 exact Int.ediv_le_self _ ha
theorem pick_is {l : List Int} (h : Bs l) (p : Nat) (hp : p ≤ 1000000000000) (n : Int) : ∃ v : Int, Ev (fun k => spec_l13Rd_pick.f k l (p : Int) n) (v, ((p + 1 : Nat) : Int)) ∧ (1 ≤ n → 0 ≤ v ∧ v < n) ∧ (n < 1 → v = 0) := by
 have hpp : wrap64 ((p : Int) + 1) = ((p + 1 : Nat) : Int) := by rw [wrapS (by omega) (by omega)]; omega
 have hj : Ev (fun k => spec_l13Rd_pick.j0 k n true l ((p + 1 : Nat) : Int)) (0, ((p + 1 : Nat) : Int)) := by
   refine Ev.step' ?_; simp only [spec_l13Rd_pick.j0]
   exact Ev.pos (by first | trivial | rfl) (Ev.now _)
 by_cases hn : n < 1
 · refine ⟨0, ?_, by omega, by omega⟩
   unfold spec_l13Rd_pick.f
   refine Ev.pos hn ?_
   rw [hpp]
   exact hj
 · by_cases hl : l.length = 0
   · refine ⟨0, ?_, by omega, by omega⟩
     unfold spec_l13Rd_pick.f
     refine Ev.neg hn ?_
     rw [hpp, hl]
     exact hj
   · have hlen := h.1
     have hm : wrap64 (((p + 1 : Nat) : Int) - 1) = (p : Int) := by rw [wrapS (by omega) (by omega)]; omega
     have hgo : ∀ v, Ev (fun k => spec_l13Rd_pick.j0 k n false l ((p + 1 : Nat) : Int)) (v, ((p + 1 : Nat) : Int)) → Ev (fun k => spec_l13Rd_pick.f k l (p : Int) n) (v, ((p + 1 : Nat) : Int)) := by
       intro v hv
       unfold spec_l13Rd_pick.f
       refine Ev.neg hn ?_
       rw [hpp, show ((l.length : Int) == 0) = false from beq_false_of_ne (by omega)]
       exact hv
     by_cases hlt : p < l.length
     · have hr := rd_in h (p : Int)
       have ht := tmod_in (a := rd l (p : Int)) hr.1 (n := n) (by omega)
       refine ⟨Int.tmod (rd l (p : Int)) n, hgo _ ?_, fun _ => ht, by omega⟩
       refine Ev.step' ?_; simp only [spec_l13Rd_pick.j0]
       refine Ev.neg (by simp) ?_
       simp only [hm]
       refine Ev.pos (by omega) (Ev.pos (by omega) (Ev.neg (by omega) (Ev.val ?_)))
       rw [wrapS (by omega) (by omega)]
     · have hr1 := rd_in h (Int.tmod (p : Int) (l.length : Int))
       have hr2 := rd_in h (Int.tmod (wrap64 (wrap64 ((p : Int) * 7) + 3)) (l.length : Int))
       have ht1 := tmod_in (a := (p : Int)) (by omega) (n := (l.length : Int)) (by omega)
       have e7 : wrap64 (wrap64 ((p : Int) * 7) + 3) = (p : Int) * 7 + 3 := by
         rw [wrapS (a := (p : Int) * 7) (by omega) (by omega), wrapS (by omega) (by omega)]
       have ht2 := tmod_in (a := (p : Int) * 7 + 3) (by omega) (n := (l.length : Int)) (by omega)
       have htd := tdiv_in (a := (p : Int)) (by omega) (n := (l.length : Int)) (by omega)
       rw [e7] at hr2
       generalize hA : rd l (Int.tmod (p : Int) (l.length : Int)) = A at *
       generalize hB : rd l (Int.tmod ((p : Int) * 7 + 3) (l.length : Int)) = B at *
       generalize hD : Int.tdiv (p : Int) (l.length : Int) = D at *
       have eH : wrap64 (wrap64 (wrap64 (wrap64 (wrap64 A * 131) + wrap64 (wrap64 B * 1117)) + wrap64 ((p : Int) * 29)) + wrap64 (wrap64 D * 53)) = A * 131 + B * 1117 + (p : Int) * 29 + D * 53 := by
         rw [wrapS (a := A) (by omega) (by omega), wrapS (a := B) (by omega) (by omega), wrapS (a := D) (by omega) (by omega), wrapS (a := A * 131) (by omega) (by omega), wrapS (a := B * 1117) (by omega) (by omega), wrapS (a := (p : Int) * 29) (by omega) (by omega), wrapS (a := D * 53) (by omega) (by omega), wrapS (a := A * 131 + B * 1117) (by omega) (by omega), wrapS (a := A * 131 + B * 1117 + (p : Int) * 29) (by omega) (by omega), wrapS (by omega) (by omega)]
       obtain ⟨H, hH⟩ : ∃ H : Nat, A * 131 + B * 1117 + (p : Int) * 29 + D * 53 = (H : Int) := ⟨(A * 131 + B * 1117 + (p : Int) * 29 + D * 53).toNat, by omega⟩
       have eT : wrap64 (Int.tdiv (H : Int) 64) = ((H / 64 : Nat) : Int) := by
         rw [Int.tdiv_eq_ediv_of_nonneg (by omega), wrapS (by omega) (by omega)]
         omega
       have hX := xor_nn H (H / 64) (by omega) (by omega)
       have ht3 := tmod_in hX (n := n) (by omega)
       refine ⟨Int.tmod (Go.bits .xor .i64 (H : Int) ((H / 64 : Nat) : Int)) n, hgo _ ?_, fun _ => ht3, by omega⟩
       refine Ev.step' ?_; simp only [spec_l13Rd_pick.j0]
       refine Ev.neg (by simp) ?_
       simp only [hm, e7, hA, hB, hD, eH, hH, eT]
       exact Ev.neg (by omega) (Ev.neg (by omega) (Ev.pos ht1.1 (Ev.pos ht1.2 (Ev.pos ht2.1 (Ev.pos ht2.2 (Ev.neg (by omega) (Ev.val rfl)))))))
end Go.Proofs.YtoloblgjlnhioaaDoor.J
namespace Go.Proofs.YtoloblgjlnhioaaDoor.J
open Go.RowKit Go.Proofs.YtoloblgjlnhioaaDoorW.PrintWords Go.Proofs.YtoloblgjlnhioaaDoorW.PrintLast Go.Proofs.YtoloblgjlnhioaaDoorW.PrintMore Go.Proofs.YtoloblgjlnhioaaDoor.Q
set_option linter.unusedSimpArgs false
set_option linter.unusedVariables false
theorem num_is {l : List Int} (h : Bs l) (p : Nat) (hp : p ≤ 1000000000000) (xs : List Int) (hx : 1 ≤ xs.length) : ∃ v ∈ xs, Ev (fun k => spec_l13Rd_num.f k l (p : Int) xs) (v, ((p + 1 : Nat) : Int)) := by
 obtain ⟨v, h1, h2, _⟩ := pick_is h p hp (xs.length : Int)
 have hv := h2 (by omega)
 obtain ⟨m, rfl⟩ : ∃ m : Nat, v = (m : Int) := ⟨v.toNat, by omega⟩
 have hm : m < xs.length := by omega
 refine ⟨xs[m], List.getElem_mem hm, ?_⟩
 unfold spec_l13Rd_num.f
 refine Ev.bind h1 (Ev.pos hv.1 (Ev.pos hv.2 (Ev.val ?_)))
 have : rd xs (m : Int) = xs[m] := by
   unfold rd
   rw [Int.toNat_natCast, List.getD_eq_getElem?_getD, List.getElem?_eq_getElem hm]
   rfl
 rw [this]
theorem BA_of (b : ByteArray) : ∃ l : By, b = BA l ∧ l.length = b.size := ⟨b.data.toList, (BA_data b).symm, by rw [Array.length_toList]; rfl⟩
theorem open_is (l : List Int) (h : ∀ x ∈ l, (Lit.int .u8 x).wf = true) : ∃ l', spec_l13Open.f l = some (l', 0) ∧ Bs l' := by
 have hb : ∀ x ∈ l, 0 ≤ x ∧ x ≤ 255 := by
   intro x hx
   have := h x hx
   simp [Lit.wf, IntKind.wrap] at this
   have e1 : IntKind.u8.min = 0 := rfl
   have e2 : IntKind.u8.max = 255 := rfl
   omega
 unfold spec_l13Open.f
 by_cases hl : (l.length : Int) > 2000
 · refine ⟨l.take 2000, ?_, ?_, ?_⟩
   · rw [if_pos hl, if_pos (by omega)]
   · rw [List.length_take]; omega
   · exact fun x hx => hb x (List.mem_of_mem_take hx)
 · exact ⟨l, by rw [if_neg hl], by omega, hb⟩
end Go.Proofs.YtoloblgjlnhioaaDoor.J
namespace Go.Proofs.YtoloblgjlnhioaaDoor.J
open Go.RowKit Go.Proofs.YtoloblgjlnhioaaDoorW.PrintWords Go.Proofs.YtoloblgjlnhioaaDoorW.PrintLast Go.Proofs.YtoloblgjlnhioaaDoorW.PrintMore Go.Proofs.YtoloblgjlnhioaaDoor.Q
set_option linter.unusedSimpArgs false
set_option linter.unusedVariables false
theorem fillT_ok0 : ∀ (sh : List Nat) (xs : List Nat), Small xs → Ok sh.length (fillT sh xs).1 ∧ Small (fillT sh xs).2
 | [], xs, h => by
   refine ⟨⟨?_, rfl⟩, fun x hx => h x (List.mem_of_mem_tail hx)⟩
   show xs.headD 0 < 10007
   cases xs with
   | nil => show 0 < _; omega
   | cons x l => exact h x (by simp)
 | m :: sh, xs, h => by
   obtain ⟨h1, h2⟩ := fillN_all (fillT sh) Small (fun t => Ok sh.length t) (fun ys hy => fillT_ok0 sh ys hy) m xs h
   exact ⟨⟨rfl, h1⟩, h2⟩
theorem dec_five {n : Nat} (h : n < 10007) : (Lib.decDigits n).length ≤ 5 := by
 rcases Nat.lt_or_ge 5 (Lib.decDigits n).length with h5 | h5
 · exfalso
   by_cases h0 : n = 0
   · subst h0
     rw [dec_small (by omega)] at h5
     simp at h5
   · obtain ⟨c, r, e, hc⟩ := dec_head n (by omega)
     have hv := val_dec n
     have ha := dec_all n
     rw [e] at h5 hv ha
     simp only [List.all_cons, Bool.and_eq_true] at ha
     simp only [List.length_cons] at h5
     have := six_big ha.1 hc (r := r) (by omega)
     omega
 · exact h5
theorem join_up : ∀ (xs : List By) (m : Nat), (∀ x ∈ xs, x.length ≤ m) → (Lib.join xs [44]).length ≤ xs.length * (m + 1)
 | [], m, _ => by simp [Lib.join_nil]
 | [x], m, h => by
   have := h x (by simp)
   rw [join_one]
   simp
   omega
 | x :: y :: l, m, h => by
   have h1 := h x (by simp)
   have h2 := join_up (y :: l) m (fun z hz => h z (List.mem_cons_of_mem _ hz))
   rw [join_cons, List.length_append, List.length_cons, List.length_cons, Nat.succ_mul]
   omega
theorem fillR_size (rows cols : Nat) (ys : List Nat) (hy : Small ys) : (fillR [rows, cols] ys).1.size ≤ 2 + rows * (cols * 6 + 3) := by
 unfold fillR
 split
 · unfold told
   split
   · rw [BA_size]
     have h0 := (fillT_ok0 [rows, cols] ys hy).1
     have hl : (fillT [rows, cols] ys).1.parts.length = rows := fillN_len _ _ _
     have hl2 : ∀ x ∈ (fillT [rows, cols] ys).1.parts, x.parts.length = cols := by
       intro x hx
       have := (fillN_all (fillT [cols]) (fun _ => True) (fun t => t.parts.length = cols) (fun xs _ => ⟨fillN_len _ _ _, trivial⟩) rows ys trivial).1 x hx
       exact this
     have t1 : ∀ x ∈ (fillT [rows, cols] ys).1.parts, (text 1 x).length ≤ cols * 6 + 2 := by
       intro x hx
       have hj := join_up (x.parts.map (text 0)) 5 (by
         intro z hz
         obtain ⟨y, hy, rfl⟩ := List.mem_map.1 hz
         exact dec_five ((h0.2 x hx).2 y hy).1)
       rw [List.length_map, hl2 x hx] at hj
       show (91 :: (Lib.join (x.parts.map (text 0)) [44] ++ [93])).length ≤ _
       rw [List.length_cons, List.length_append, List.length_singleton]
       omega
     have hj := join_up ((fillT [rows, cols] ys).1.parts.map (text 1)) (cols * 6 + 2) (by
       intro z hz
       obtain ⟨y, hy, rfl⟩ := List.mem_map.1 hz
       exact t1 y hy)
     rw [List.length_map, hl, show cols * 6 + 2 + 1 = cols * 6 + 3 from rfl] at hj
     show (91 :: (Lib.join ((fillT [rows, cols] ys).1.parts.map (text 1)) [44] ++ [93])).length ≤ _
     rw [List.length_cons, List.length_append, List.length_singleton]
     omega
   · show (BA []).size ≤ _
     rw [BA_size]
     exact Nat.zero_le _
 · show (BA []).size ≤ _
   rw [BA_size]
   exact Nat.zero_le _
theorem l11Draw_l0y {l : List Int} (hb : Bs l) (rows cols m : Nat) (hr : rows ≤ 400) (hc : cols ≤ 400) (hm : m ≤ 400) : ∀ (n i p : Nat) (ys : List Nat), i + n = m → ys.length = i → Small ys → p + 2 * n ≤ 1000000 →
   ∃ zs : List Nat, Ev (fun k => spec_l11Draw.l0 k (rows : Int) (cols : Int) (ints ys) (m : Int) (i : Int) l (p : Int)) ((fillR [rows, cols] zs).1, ((p + 2 * n : Nat) : Int)) ∧ Small zs := by
 intro n
 induction n with
 | zero =>
   intro i p ys h1 h2 h3 h4
   refine ⟨ys, ?_, h3⟩
   refine Ev.step' ?_; simp only [spec_l11Draw.l0]
   exact Ev.neg (by omega) (Ev.bind (fillShS_is [rows, cols] ys (by intro x hx; simp at hx; omega) (by simp) h3 (by omega)) (Ev.now _))
 | succ n ihn =>
   intro i p ys h1 h2 h3 h4
   obtain ⟨v, g1, g2, _⟩ := pick_is hb p (by omega) 50
   have hv := g2 (by omega)
   obtain ⟨z, hz, g3⟩ := num_is hb (p + 1) (by omega) [1, 0, 2, 3, 10006, v] (by simp)
   obtain ⟨y, rfl, hy⟩ : ∃ y : Nat, z = (y : Int) ∧ y < 10007 := by
     simp only [List.mem_cons, List.not_mem_nil, or_false] at hz
     exact ⟨z.toNat, by omega, by omega⟩
   obtain ⟨t, e, et⟩ := ihn (i + 1) (p + 1 + 1) (ys ++ [y]) (by omega) (by simp [h2]) (fun x hx => by
     rcases List.mem_append.1 hx with hx | hx
     · exact h3 x hx
     · obtain rfl := List.mem_singleton.1 hx
       exact hy) (by omega)
   refine ⟨t, ?_, et⟩
   have ei : wrap64 ((i : Int) + 1) = ((i + 1 : Nat) : Int) := by rw [wrapS (by omega) (by omega)]; omega
   have ey : ints (ys ++ [y]) = ints ys ++ [(y : Int)] := by simp
   rw [ey] at e
   refine Ev.step' ?_; simp only [spec_l11Draw.l0]
   rw [ei]
   rw [show p + 2 * (n + 1) = p + 1 + 1 + 2 * n by omega]
   have hlt : (i : Int) < (m : Int) := by clear e g1 g3 et; omega
   have hys : (ints ys).length < 17592186044416 := by clear e g1 g3 et; rw [List.length_map]; omega
   exact Ev.pos hlt (Ev.bind g1 (Ev.bind g3 (Ev.pos hys e)))
theorem l11Draw_ys {l : List Int} (hb : Bs l) (rows cols p : Nat) (hr : rows ≤ 20) (hc : cols ≤ 20) (hp : p ≤ 1000) : ∃ zs : List Nat, Ev (fun k => spec_l11Draw.f k l (p : Int) (rows : Int) (cols : Int)) ((fillR [rows, cols] zs).1, ((p + 2 * (rows * cols) : Nat) : Int)) ∧ Small zs := by
 have hm : rows * cols ≤ 400 := Nat.mul_le_mul hr hc
 have em : wrap64 ((rows : Int) * (cols : Int)) = ((rows * cols : Nat) : Int) := by
   rw [← Int.natCast_mul, wrapS (by omega) (by omega)]
 unfold spec_l11Draw.f
 rw [em]
 exact l11Draw_l0y hb rows cols (rows * cols) (by omega) (by omega) hm (rows * cols) 0 p [] (by omega) rfl (fun x hx => by cases hx) (by omega)
theorem l11Draw_is {l : List Int} (hb : Bs l) (rows cols p : Nat) (hr : rows ≤ 20) (hc : cols ≤ 20) (hp : p ≤ 1000) : ∃ t, Ev (fun k => spec_l11Draw.f k l (p : Int) (rows : Int) (cols : Int)) (t, ((p + 2 * (rows * cols) : Nat) : Int)) ∧ t.size ≤ 2 + rows * (cols * 6 + 3) := by
 obtain ⟨zs, h1, h2⟩ := l11Draw_ys hb rows cols p hr hc hp
 exact ⟨_, h1, fillR_size rows cols zs h2⟩
end Go.Proofs.YtoloblgjlnhioaaDoor.J
namespace Go.Proofs.YtoloblgjlnhioaaDoor.J
open Go.RowKit Go.Proofs.YtoloblgjlnhioaaDoorW.PrintWords Go.Proofs.YtoloblgjlnhioaaDoorW.PrintLast Go.Proofs.YtoloblgjlnhioaaDoorW.PrintMore Go.Proofs.YtoloblgjlnhioaaDoor.Q
set_option linter.unusedSimpArgs false
set_option linter.unusedVariables false
def szD : Nat → Nat
 | 0 => 5
 | d + 1 => 2 + 4 * (szD d + 1)
def stD : Nat → Nat
 | 0 => 2
 | d + 1 => 1 + 4 * stD d
/-- The last place that a drawing of this depth may begin at. -/
def capD : Nat → Nat
 | 0 => 99999990000
 | d + 1 => capD d - 1000
theorem cap_ok {d : Nat} (hd : d ≤ 2) : capD (d + 1) + 1 + 4 * stD d ≤ capD d := by
 obtain rfl | rfl | rfl : d = 0 ∨ d = 1 ∨ d = 2 := by omega
 all_goals decide
theorem cap_in {d : Nat} (hd : d ≤ 3) : 99999980000 ≤ capD d ∧ capD d ≤ 99999990000 := by
 obtain rfl | rfl | rfl | rfl : d = 0 ∨ d = 1 ∨ d = 2 ∨ d = 3 := by omega
 all_goals decide
def DrawIs (d : Nat) : Prop := ∀ (l : List Int) (p : Nat), Bs l → p ≤ capD d → ∃ (t : ByteArray) (q : Nat), Ev (fun k => spec_l1Draw.f k l (p : Int) (d : Int)) (t, (q : Int)) ∧ 1 ≤ t.size ∧ t.size ≤ szD d ∧ p ≤ q ∧ q ≤ p + stD d
theorem szD_le {d : Nat} (hd : d ≤ 3) : szD d ≤ 1500 ∧ stD d ≤ 150 := by
 obtain rfl | rfl | rfl | rfl : d = 0 ∨ d = 1 ∨ d = 2 ∨ d = 3 := by omega
 all_goals decide
theorem size_append (a b : ByteArray) : (a ++ b).size = a.size + b.size := by
 obtain ⟨x, rfl, h1⟩ := BA_of a
 obtain ⟨y, rfl, h2⟩ := BA_of b
 rw [BA_append, BA_size, BA_size, BA_size, List.length_append]
theorem size_one (c : UInt8) : (⟨#[c]⟩ : ByteArray).size = 1 := rfl
theorem mul_in {i Z : Nat} (hi : i ≤ 4) (hZ : Z ≤ 1500) : i * (Z + 1) ≤ 6004 := Nat.le_trans (Nat.mul_le_mul hi (Nat.add_le_add_right hZ 1)) (by decide)
theorem draw_l0 (d : Nat) (hd : d ≤ 2) (Z T C : Nat) (hC : C ≤ 99999990000) (hZ : Z ≤ 1500) (hT : T ≤ 150) (l : List Int) (hl : Bs l)
   (ih : ∀ (p : Nat), p ≤ C → ∃ (t : ByteArray) (q : Nat), Ev (fun k => spec_l1Draw.f k l (p : Int) (d : Int)) (t, (q : Int)) ∧ 1 ≤ t.size ∧ t.size ≤ Z ∧ p ≤ q ∧ q ≤ p + T) (m : Nat) (hm : m ≤ 4) (M : Nat) (hM : ∀ i, i = m → 2 + i * (Z + 1) ≤ M) :
   ∀ (n i : Nat) (x : ByteArray) (p : Nat), i + n = m → 1 ≤ x.size → x.size ≤ 1 + i * (Z + 1) → p + n * T ≤ C →
   ∃ (t : ByteArray) (q : Nat), Ev (fun k => spec_l1Draw.l0 k ((d + 1 : Nat) : Int) x (m : Int) (i : Int) l (p : Int)) (t, (q : Int)) ∧ 1 ≤ t.size ∧ t.size ≤ M ∧ p ≤ q ∧ q ≤ p + n * T := by
 have ed : wrap64 (((d + 1 : Nat) : Int) - 1) = (d : Int) := by rw [wrapS (by omega) (by omega)]; omega
 intro n
 induction n with
 | zero =>
   intro i x p h hx1 hx hp
   have him : i = m := by omega
   have hM1 := hM i him
   have hmul := mul_in (i := i) (by omega) hZ
   obtain ⟨A, hA⟩ : ∃ A, A = i * (Z + 1) := ⟨_, rfl⟩
   rw [← hA] at hmul hx hM1
   clear hA
   obtain ⟨y, hy⟩ : ∃ y, y = x ++ (⟨#[93]⟩ : ByteArray) := ⟨_, rfl⟩
   have hb : y.size = x.size + 1 := by rw [hy, size_append, size_one]
   refine ⟨y, p, ?_, by omega, by omega, Nat.le_refl _, Nat.le_add_right _ _⟩
   rw [hy]
   refine Ev.step' ?_; simp only [spec_l1Draw.l0]
   exact Ev.neg (by omega) (Ev.pos (by omega) (Ev.val rfl))
 | succ n ihn =>
   intro i x p h hx1 hx hp
   have him : i < m := by omega
   have him2 : i + 1 + n = m := by omega
   have hmul := mul_in (i := i) (by omega) hZ
   have hsz : (i + 1) * (Z + 1) = i * (Z + 1) + (Z + 1) := by rw [Nat.add_mul, Nat.one_mul]
   have hst : (n + 1) * T = n * T + T := by rw [Nat.add_mul, Nat.one_mul]
   obtain ⟨t, q, h1, h2, h3, h4, h5⟩ := ih p (Nat.le_trans (Nat.le_add_right _ _) hp)
   have ihn' := fun y => ihn (i + 1) y q him2
   rw [hsz] at ihn'
   rw [hst] at hp ⊢
   obtain ⟨A, hA⟩ : ∃ A, A = i * (Z + 1) := ⟨_, rfl⟩
   obtain ⟨B, hB⟩ : ∃ B, B = n * T := ⟨_, rfl⟩
   rw [← hA] at hmul hx ihn'
   rw [← hB] at ihn' hp ⊢
   clear hA hB hst hsz
   have ei : wrap64 ((i : Int) + 1) = ((i + 1 : Nat) : Int) := by rw [wrapS (by omega) (by omega)]; omega
   rcases Nat.eq_zero_or_pos i with hi0 | h0
   · obtain ⟨y, hy⟩ : ∃ y, y = x ++ t := ⟨_, rfl⟩
     have hb : y.size = x.size + t.size := by rw [hy]; exact size_append _ _
     obtain ⟨t', q', g1, g2, g3, g4, g5⟩ := ihn' y (by omega) (by omega) (by omega)
     rw [hy] at g1
     refine ⟨t', q', ?_, g2, g3, by omega, by omega⟩
     refine Ev.step' ?_; simp only [spec_l1Draw.l0]
     have hn0 : ¬ (i : Int) > 0 := by rw [hi0]; exact Int.lt_irrefl 0
     have hs1 : x.size + t.size ≤ 9223372036854775807 := by clear g1 h1 g3 g5 h5 hp hy; omega
     refine Ev.pos (Int.ofNat_lt.2 him) (Ev.neg hn0 ?_)
     rw [ed, ei]
     exact Ev.bind h1 (Ev.pos hs1 g1)
   · obtain ⟨y, hy⟩ : ∃ y, y = (x ++ (⟨#[44]⟩ : ByteArray)) ++ t := ⟨_, rfl⟩
     have hb : y.size = x.size + 1 + t.size := by rw [hy, size_append, size_append, size_one]
     obtain ⟨t', q', g1, g2, g3, g4, g5⟩ := ihn' y (by omega) (by omega) (by omega)
     rw [hy] at g1
     refine ⟨t', q', ?_, g2, g3, by omega, by omega⟩
     refine Ev.step' ?_; simp only [spec_l1Draw.l0]
     have hp0 : (i : Int) > 0 := Int.ofNat_lt.2 h0
     have hs0 : x.size + 1 ≤ 9223372036854775807 := by clear g1 h1 g3 g5 h5 hp hy; omega
     have hs1 : x.size + 1 + t.size ≤ 9223372036854775807 := by clear g1 h1 g3 g5 h5 hp hy; omega
     refine Ev.pos (Int.ofNat_lt.2 him) (Ev.pos hp0 (Ev.pos hs0 ?_))
     rw [ed, ei]
     exact Ev.bind h1 (Ev.pos hs1 g1)
theorem draw_is : ∀ d, d ≤ 3 → DrawIs d
 | 0, _ => by
   intro l p hl hp0
   have hp : p ≤ 99999990000 := hp0
   obtain ⟨v, h1, h2, _⟩ := pick_is hl p (by omega) 9
   obtain ⟨w, hw, h3⟩ := num_is hl (p + 1) (by omega) [1, 0, 2, 3, v, 5, 10006, 100] (by simp)
   have hv := h2 (by omega)
   have hw2 : 0 ≤ w ∧ w ≤ 10006 := by simp at hw; omega
   obtain ⟨m, rfl⟩ : ∃ m : Nat, w = (m : Int) := ⟨w.toNat, by omega⟩
   have hlen := dec_len 5 m (by omega) (by omega)
   have hpos := List.length_pos_iff.2 (dec_ne m)
   refine ⟨BA (Lib.decDigits m), p + 1 + 1, ?_, by rw [BA_size]; omega, by rw [BA_size]; show _ ≤ 5; omega, by omega, by show _ ≤ p + 2; omega⟩
   refine Ev.step' ?_; simp only [spec_l1Draw.f]
   exact Ev.pos (by first | trivial | rfl) (Ev.bind h1 (Ev.bind h3 (Ev.bind (l13Dec_is m (by omega)) (Ev.val rfl))))
 | d + 1, hd => by
   have ih := draw_is d (by omega)
   intro l p hl hp
   have hz := szD_le (d := d) (by omega)
   have hc1 := cap_ok (d := d) (by omega)
   have hc2 := cap_in (d := d) (by omega)
   obtain ⟨v, hv, h1⟩ := num_is hl p (by omega) [2, 0, 1, 3, 4] (by simp)
   have hv2 : 0 ≤ v ∧ v ≤ 4 := by simp at hv; omega
   obtain ⟨m, rfl⟩ : ∃ m : Nat, v = (m : Int) := ⟨v.toNat, by omega⟩
   have hm0 : m * stD d ≤ 4 * stD d := Nat.mul_le_mul_right _ (by omega)
   have hcap : p + 1 + m * stD d ≤ capD d := by omega
   obtain ⟨t, q, g1, g2, g3, g4, g5⟩ := draw_l0 d (by omega) (szD d) (stD d) (capD d) (cap_in (by omega)).2 hz.1 hz.2 l hl (fun p hp => ih l p hl hp) m (by omega) (2 + m * (szD d + 1)) (fun i hi => by rw [hi]; exact Nat.le_refl _) m 0 (⟨#[91]⟩ : ByteArray) (p + 1) (by omega) (Nat.le_refl 1) (Nat.le_add_right 1 _) hcap
   have hm1 : m * (szD d + 1) ≤ 4 * (szD d + 1) := Nat.mul_le_mul_right _ (by omega)
   have hm2 : m * stD d ≤ 4 * stD d := Nat.mul_le_mul_right _ (by omega)
   refine ⟨t, q, ?_, g2, by show _ ≤ 2 + 4 * (szD d + 1); omega, by omega, by show _ ≤ p + (1 + 4 * stD d); omega⟩
   refine Ev.step' ?_; simp only [spec_l1Draw.f]
   exact Ev.neg (by omega) (Ev.bind h1 g1)
end Go.Proofs.YtoloblgjlnhioaaDoor.J
namespace Go.Proofs.YtoloblgjlnhioaaDoor.J
open Go.RowKit Go.Proofs.YtoloblgjlnhioaaDoorW.PrintWords Go.Proofs.YtoloblgjlnhioaaDoorW.PrintLast Go.Proofs.YtoloblgjlnhioaaDoorW.PrintMore Go.Proofs.YtoloblgjlnhioaaDoor.Q
set_option linter.unusedSimpArgs false
set_option linter.unusedVariables false
theorem of_is {l : List Int} (h : Bs l) (p : Nat) (hp : p ≤ 1000000000000) (xs : List ByteArray) (hx : 1 ≤ xs.length) : ∃ v ∈ xs, Ev (fun k => spec_l13Rd_of.f k l (p : Int) xs) (v, ((p + 1 : Nat) : Int)) := by
 obtain ⟨v, h1, h2, _⟩ := pick_is h p hp (xs.length : Int)
 have hv := h2 (by omega)
 obtain ⟨m, rfl⟩ : ∃ m : Nat, v = (m : Int) := ⟨v.toNat, by omega⟩
 have hm : m < xs.length := by omega
 refine ⟨xs[m], List.getElem_mem hm, ?_⟩
 unfold spec_l13Rd_of.f
 refine Ev.bind h1 (Ev.pos hv.1 (Ev.pos hv.2 (Ev.val ?_)))
 have : rdOf ByteArray.empty xs (m : Int) = xs[m] := by
   unfold rdOf
   rw [Int.toNat_natCast, List.getD_eq_getElem?_getD, List.getElem?_eq_getElem hm]
   rfl
 rw [this]
end Go.Proofs.YtoloblgjlnhioaaDoor.J
namespace Go.Proofs.YtoloblgjlnhioaaDoor.J
open Go.RowKit Go.Proofs.YtoloblgjlnhioaaDoorW.PrintWords Go.Proofs.YtoloblgjlnhioaaDoorW.PrintLast Go.Proofs.YtoloblgjlnhioaaDoorW.PrintMore Go.Proofs.YtoloblgjlnhioaaDoor.Q
set_option linter.unusedSimpArgs false
set_option linter.unusedVariables false

theorem l11Some_is {l : List Int} (hb : Bs l) (p : Nat) (hp : p ≤ 900) : ∃ t q, Ev (fun k => spec_l11Some.f k l (p : Int)) (t, q) ∧ t.size ≤ 150 := by
 obtain ⟨a, g1, g2, _⟩ := pick_is hb p (by omega) 4
 have ha := g2 (by omega)
 have hs2 : szD 2 ≤ 150 := by decide
 have hq2 : stD 2 ≤ 1000 := by decide
 have hcap := (cap_in (d := 2) (by omega)).1
 by_cases h0 : a = 0
 · obtain ⟨t1, q1, d1, d2, d3, d4, d5⟩ := draw_is 2 (by omega) l (p + 1) hb (by omega)
   obtain ⟨t2, q2, e1, e2, e3, e4, e5⟩ := draw_is 2 (by omega) l q1 hb (by omega)
   obtain ⟨v, hv, f1⟩ := of_is hb q2 (by omega) [t1, t2, (⟨#[91, 49, 93]⟩ : ByteArray), (⟨#[]⟩ : ByteArray)] (by simp)
   refine ⟨v, ((q2 + 1 : Nat) : Int), ?_, ?_⟩
   · unfold spec_l11Some.f
     exact Ev.bind g1 (Ev.pos h0 (Ev.bind d1 (Ev.bind e1 (Ev.bind f1 (Ev.now _)))))
   · simp only [List.mem_cons, List.not_mem_nil, or_false] at hv
     rcases hv with rfl | rfl | rfl | rfl
     · omega
     · omega
     · show 3 ≤ 150; omega
     · show 0 ≤ 150; omega
 · obtain ⟨b, b1, b2, _⟩ := pick_is hb (p + 1) (by omega) 4
   obtain ⟨c, c1, c2, _⟩ := pick_is hb (p + 1 + 1) (by omega) 4
   have hb' := b2 (by omega)
   have hc' := c2 (by omega)
   obtain ⟨b, rfl⟩ : ∃ n : Nat, b = (n : Int) := ⟨b.toNat, by omega⟩
   obtain ⟨c, rfl⟩ : ∃ n : Nat, c = (n : Int) := ⟨c.toNat, by omega⟩
   obtain ⟨t, e1, e2⟩ := l11Draw_is hb b c (p + 1 + 1 + 1) (by omega) (by omega) (by omega)
   refine ⟨t, ((p + 1 + 1 + 1 + 2 * (b * c) : Nat) : Int), ?_, ?_⟩
   · unfold spec_l11Some.f
     exact Ev.bind g1 (Ev.neg h0 (Ev.bind b1 (Ev.bind c1 (Ev.bind e1 (Ev.now _)))))
   · have : b * (c * 6 + 3) ≤ 3 * 21 := Nat.mul_le_mul (by omega) (by omega)
     omega
end Go.Proofs.YtoloblgjlnhioaaDoor.J
namespace Go.Proofs.YtoloblgjlnhioaaDoor.J
open Go.RowKit Go.Proofs.YtoloblgjlnhioaaDoorW.PrintWords Go.Proofs.YtoloblgjlnhioaaDoorW.PrintLast Go.Proofs.YtoloblgjlnhioaaDoorW.PrintMore Go.Proofs.YtoloblgjlnhioaaDoor.Q
set_option linter.unusedSimpArgs false
set_option linter.unusedVariables false

/-- An array put behind a layout, from a level on. -/
def layT : Nat → Tr → Nat → List (List Int) × List Int → List (List Int) × List Int
 | 0, t, _, s => (s.1, s.2 ++ [(t.n : Int)])
 | d + 1, t, j, s => t.parts.foldl (fun s x => layT d x (j + 1) s) (s.1.set j (s.1.getD j [] ++ [(t.parts.length : Int)]), s.2)
def Bd (B : Nat) (s : List (List Int) × List Int) : Prop := s.2.length ≤ B ∧ ∀ r ∈ s.1, r.length ≤ B
theorem Bd.mono {B C : Nat} {s : List (List Int) × List Int} (h : Bd B s) (hc : B ≤ C) : Bd C s := ⟨Nat.le_trans h.1 hc, fun r hr => Nat.le_trans (h.2 r hr) hc⟩
theorem getD_bd {B : Nat} {L : List (List Int)} (h : ∀ r ∈ L, r.length ≤ B) (j : Nat) : (L.getD j []).length ≤ B := by
 rw [List.getD_eq_getElem?_getD]
 by_cases hj : j < L.length
 · rw [List.getElem?_eq_getElem hj]
   exact h _ (List.getElem_mem hj)
 · rw [List.getElem?_eq_none (by omega)]
   exact Nat.zero_le _
theorem set_bd {B : Nat} {L : List (List Int)} {D : List Int} (h : Bd B (L, D)) (j : Nat) (x : Int) : Bd (B + 1) (L.set j (L.getD j [] ++ [x]), D) := by
 refine ⟨Nat.le_succ_of_le h.1, fun r hr => ?_⟩
 rcases List.mem_or_eq_of_mem_set hr with hr | rfl
 · exact Nat.le_succ_of_le (h.2 r hr)
 · have := getD_bd h.2 j
   rw [List.length_append]
   exact Nat.succ_le_succ this
theorem layT_bd : ∀ (d : Nat) (t : Tr) (j : Nat) (s : List (List Int) × List Int) (B : Nat), Bd B s → (layT d t j s).1.length = s.1.length ∧ Bd (B + nodes d t) (layT d t j s)
 | 0, t, j, s, B, h => by
   refine ⟨rfl, ?_, fun r hr => Nat.le_succ_of_le (h.2 r hr)⟩
   show (s.2 ++ [(t.n : Int)]).length ≤ B + 1
   rw [List.length_append]
   exact Nat.succ_le_succ h.1
 | d + 1, t, j, s, B, h => by
   have main : ∀ (xs : List Tr) (s : List (List Int) × List Int) (B : Nat), Bd B s → (xs.foldl (fun s x => layT d x (j + 1) s) s).1.length = s.1.length ∧ Bd (B + (xs.map (nodes d)).sum) (xs.foldl (fun s x => layT d x (j + 1) s) s) := by
     intro xs
     induction xs with
     | nil => intro s B h; exact ⟨rfl, h⟩
     | cons x xs ih =>
       intro s B h
       obtain ⟨h1, h2⟩ := layT_bd d x (j + 1) s B h
       obtain ⟨h3, h4⟩ := ih _ _ h2
       refine ⟨h3.trans h1, ?_⟩
       rw [List.map_cons, List.sum_cons, ← Nat.add_assoc]
       exact h4
   obtain ⟨h1, h2⟩ := main t.parts _ (B + 1) (set_bd h j (t.parts.length : Int))
   refine ⟨h1.trans (List.length_set), ?_⟩
   show Bd (B + (1 + (t.parts.map (nodes d)).sum)) _
   rw [← Nat.add_assoc]
   exact h2
def LayA (d : Nat) : Prop := ∀ (t : Tr) (j : Nat) (L : List (List Int)) (D : List Int) (B : Nat), L.length = j + d → j + d ≤ 10 → Bd B (L, D) → B + nodes d t ≤ 1000000000 → Ev (fun k => lay.f k L D (cA d t).f0 (cA d t).f1 (j : Int)) (layT d t j (L, D))
theorem layA_l0 (d : Nat) (ih : LayA d) (j : Nat) (hj : j + 1 + d ≤ 10) (xs : List Tr) (hxs : xs.length ≤ 1000000000) : ∀ (n i : Nat) (L : List (List Int)) (D : List Int) (B : Nat), xs.length - i = n → i ≤ xs.length → L.length = j + 1 + d → Bd B (L, D) → B + ((xs.drop i).map (nodes d)).sum ≤ 1000000000 →
   Ev (fun k => lay.l0 k L D (xs.map (cA d)) (j : Int) ((xs.map (cA d)).length : Int) (i : Int)) ((xs.drop i).foldl (fun s x => layT d x (j + 1) s) (L, D)) := by
 intro n
 induction n with
 | zero =>
   intro i L D B h hi hL hb hn
   refine Ev.step' ?_; simp only [lay.l0]
   refine Ev.neg (by rw [List.length_map]; omega) (Ev.val ?_)
   rw [List.drop_eq_nil_of_le (by omega)]
   rfl
 | succ n ihn =>
   intro i L D B h hi hL hb hn
   have hlt : i < xs.length := by omega
   have hg : rd_T62 (xs.map (cA d)) (i : Int) = cA d xs[i] := getD_map _ _ _ _ hlt
   rw [List.drop_eq_getElem_cons hlt] at hn ⊢
   rw [List.map_cons, List.sum_cons] at hn
   have hx := ih xs[i] (j + 1) L D B hL hj hb (by omega)
   obtain ⟨b1, b2⟩ := layT_bd d xs[i] (j + 1) (L, D) B hb
   have hnext := ihn (i + 1) (layT d xs[i] (j + 1) (L, D)).1 (layT d xs[i] (j + 1) (L, D)).2 _ (by omega) (by omega) (b1.trans hL) b2 (by omega)
   refine Ev.step' ?_; simp only [lay.l0]
   refine Ev.pos (by rw [List.length_map]; omega) (Ev.pos (by omega) (Ev.pos (by rw [List.length_map]; omega) ?_))
   rw [hg, wrapS (a := (j : Int) + 1) (by omega) (by omega), wrapS (a := (i : Int) + 1) (by omega) (by omega)]
   exact Ev.bind hx hnext
theorem layA_is : ∀ d, LayA d
 | 0 => by
   intro t j L D B hL hj hb hn
   have h1 : D.length ≤ B := hb.1
   have h2 : B + 1 ≤ 1000000000 := hn
   refine Ev.step' ?_; simp only [lay.f]
   exact Ev.pos (by omega) (Ev.pos (by omega) (Ev.val rfl))
 | d + 1 => by
   intro t j L D B hL hj hb hn
   have hp := parts_len d t
   have hn2 : B + (1 + (t.parts.map (nodes d)).sum) ≤ 1000000000 := hn
   have hgl : (L.getD j []).length ≤ B := getD_bd hb.2 j
   have h0 := layA_l0 d (layA_is d) j (by omega) t.parts (by omega) _ 0 (L.set j (L.getD j [] ++ [(t.parts.length : Int)])) D (B + 1) rfl (Nat.zero_le _) (by rw [List.length_set]; omega) (set_bd hb j _) (by rw [List.drop_zero]; omega)
   rw [List.drop_zero] at h0
   refine Ev.step' ?_; simp only [lay.f]
   refine Ev.neg (by omega) (Ev.pos (by omega) (Ev.pos (by omega) ?_))
   rw [Int.toNat_natCast]
   refine Ev.pos (by omega) ?_
   have e : ((cA (d + 1) t).f1.length : Int) = (t.parts.length : Int) := by
     show ((t.parts.map (cA d)).length : Int) = _
     rw [List.length_map]
   rw [e]
   rw [List.length_map] at h0
   exact h0
theorem rep_bd (d : Nat) : Bd 0 (List.replicate d ([] : List Int), ([] : List Int)) := ⟨Nat.le_refl _, fun r hr => by rw [List.eq_of_mem_replicate hr]; exact Nat.le_refl _⟩
def layR (d : Nat) : Option Tr → List (List Int) × List Int × Bool
 | none => ([], [], false)
 | some v => ((layT d v 0 (List.replicate d [], [])).1, (layT d v 0 (List.replicate d [], [])).2, true)
theorem layR_bd (d : Nat) (hd : d ≤ 3) (l : By) : (layR d (readD d l)).1.length ≤ 3 ∧ (∀ r ∈ (layR d (readD d l)).1, r.length ≤ 400) ∧ (layR d (readD d l)).2.1.length ≤ 400 := by
 cases hr : readD d l with
 | none => exact ⟨Nat.zero_le _, fun r hr => (by cases hr), Nat.zero_le _⟩
 | some v =>
   obtain ⟨e1, e2, e3⟩ := readD_ok hr
   have hn := nodes_le_text d v
   rw [← e1] at hn
   obtain ⟨b1, b2, b3⟩ := layT_bd d v 0 (List.replicate d [], []) 0 (rep_bd d)
   refine ⟨?_, fun r hr => Nat.le_trans (b3 r hr) (by omega), Nat.le_trans b2 (by omega)⟩
   show (layT d v 0 (List.replicate d [], [])).1.length ≤ 3
   rw [b1, List.length_replicate]
   exact hd
end Go.Proofs.YtoloblgjlnhioaaDoor.J
namespace Go.Proofs.YtoloblgjlnhioaaDoor.J
open Go.RowKit Go.Proofs.YtoloblgjlnhioaaDoorW.PrintWords Go.Proofs.YtoloblgjlnhioaaDoorW.PrintLast Go.Proofs.YtoloblgjlnhioaaDoorW.PrintMore Go.Proofs.YtoloblgjlnhioaaDoor.Q
set_option linter.unusedSimpArgs false
set_option linter.unusedVariables false

theorem laid_is (d : Nat) (hd : d ≤ 3) (t : Tr) (hn : nodes d t ≤ 1000000) : Ev (fun k => impl_laid.f k [(⟨(cA d t).f0, (cA d t).f1⟩ : NA)] (d : Int)) (layT d t 0 (List.replicate d [], [])) := by
 have h := layA_is d t 0 (List.replicate d []) [] 0 (by rw [List.length_replicate]; omega) (by omega) (rep_bd d) (by omega)
 unfold impl_laid.f
 refine Ev.pos (by omega) (Ev.pos (by omega) ?_)
 rw [Int.toNat_natCast]
 refine Ev.step' ?_; simp only [impl_laid.l0]
 refine Ev.pos (by simp) (Ev.pos (by omega) (Ev.pos (by simp) ?_))
 refine Ev.bind h ?_
 refine Ev.step' ?_; simp only [impl_laid.l0]
 exact Ev.neg (by rw [wrapS (by omega) (by omega)]; simp) (Ev.val rfl)
end Go.Proofs.YtoloblgjlnhioaaDoor.J
namespace Go.Proofs.YtoloblgjlnhioaaDoor.J
open Go.RowKit Go.Proofs.YtoloblgjlnhioaaDoorW.PrintWords Go.Proofs.YtoloblgjlnhioaaDoorW.PrintLast Go.Proofs.YtoloblgjlnhioaaDoorW.PrintMore Go.Proofs.YtoloblgjlnhioaaDoor.Q
set_option linter.unusedSimpArgs false
set_option linter.unusedVariables false
def uni (r : List Int) : Bool := r.all (fun x => x == r.headD 0)
/-- The shape of levels, if each is regular. -/
def shapeL : List (List Int) → Option (List Int)
 | [] => some []
 | r :: L => if uni r = true then (shapeL L).map (fun s => r.headD 0 :: s) else none
def shR (acc : List Int) : Option (List Int) → List Int × Bool
 | none => ([], false)
 | some s => (acc ++ s, true)
theorem rdL_get {L : List (List Int)} {i : Nat} (h : i < L.length) : rd_L5 L (i : Int) = L[i] := by
 show L.getD i [] = _
 rw [List.getD_eq_getElem?_getD, List.getElem?_eq_getElem h]
 rfl
theorem head_get {r : List Int} (h : 0 < r.length) : r.headD 0 = r[0] := by
 cases r with
 | nil => simp at h
 | cons x l => rfl
theorem uni_all {r : List Int} (h : ∀ (j : Nat) (hj : j < r.length), r[j] = r.headD 0) : uni r = true := by
 rw [uni, List.all_eq_true]
 intro x hx
 obtain ⟨j, hj, rfl⟩ := List.mem_iff_getElem.1 hx
 rw [h j hj]
 exact beq_self_eq_true _
theorem uni_not {r : List Int} {i : Nat} (hi : i < r.length) (h : r[i] ≠ r.headD 0) : uni r = false := by
 rw [uni, List.all_eq_false]
 exact ⟨r[i], List.getElem_mem hi, by simpa using h⟩
theorem shapeA_l1 (acc : List Int) (hacc : acc.length ≤ 1000) (L : List (List Int)) (m2 ix : Int) (r : List Int) (hr : r.length ≤ 1000000) (R : List Int × Bool)
   (hgo : uni r = true → Ev (fun k => impl_shapeOf.l0 k (acc ++ [r.headD 0]) L m2 (wrap64 (ix + 1))) R) (hbad : uni r = false → R = ([], false)) :
   ∀ (n i : Nat) (m : Int), r.length - i = n → i ≤ r.length → (∀ (j : Nat) (hj : j < r.length), j < i → r[j] = r.headD 0) → (m = if i = 0 then 0 else r.headD 0) →
   Ev (fun k => impl_shapeOf.l1 k acc m L m2 ix r (r.length : Int) (i : Int)) R := by
 intro n
 induction n with
 | zero =>
   intro i m h hi ha hm
   have hu := uni_all (r := r) (fun j hj => ha j hj (by omega))
   have e : m = r.headD 0 := by
     rw [hm]
     split
     · next h0 =>
       have : r.length = 0 := by omega
       rw [List.length_eq_zero_iff.1 this]
       rfl
     · rfl
   rw [e]
   refine Ev.step' ?_; simp only [impl_shapeOf.l1]
   exact Ev.neg (by omega) (Ev.pos (by omega) (hgo hu))
 | succ n ih =>
   intro i m h hi ha hm
   have hlt : i < r.length := by omega
   refine Ev.step' ?_; simp only [impl_shapeOf.l1]
   refine Ev.pos (by omega) (Ev.pos (by omega) (Ev.pos (by omega) ?_))
   rw [rd_at hlt, wrapS (a := (i : Int) + 1) (by omega) (by omega)]
   rcases Nat.eq_zero_or_pos i with h0 | h0
   · have e0 : r[i] = r.headD 0 := by rw [head_get (by omega)]; congr 1
     refine Ev.neg (by omega) (ih (i + 1) _ (by omega) (by omega) ?_ (by rw [if_neg (by omega)]; exact e0))
     intro j hj hji
     have : j = i := by omega
     subst this
     exact e0
   · rw [if_neg (by omega)] at hm
     refine Ev.pos (by omega) ?_
     by_cases he : r[i] = m
     · refine Ev.pos he (ih (i + 1) _ (by omega) (by omega) ?_ (by rw [if_neg (by omega), he]; exact hm))
       intro j hj hji
       rcases Nat.lt_or_ge j i with h1 | h1
       · exact ha j hj h1
       · have : j = i := by omega
         subst this
         rw [he]
         exact hm
     · refine Ev.neg he (Ev.val ?_)
       rw [hbad (uni_not hlt (by rw [← hm]; exact he))]
theorem shapeA_l0 (L : List (List Int)) (hL : L.length ≤ 100) (hb : ∀ r ∈ L, r.length ≤ 1000000) : ∀ (n i : Nat) (acc : List Int), L.length - i = n → i ≤ L.length → acc.length ≤ i →
   Ev (fun k => impl_shapeOf.l0 k acc L (L.length : Int) (i : Int)) (shR acc (shapeL (L.drop i))) := by
 intro n
 induction n with
 | zero =>
   intro i acc h hi ha
   rw [List.drop_eq_nil_of_le (by omega)]
   refine Ev.step' ?_; simp only [impl_shapeOf.l0]
   refine Ev.neg (by omega) (Ev.val ?_)
   simp [shR, shapeL]
 | succ n ih =>
   intro i acc h hi ha
   have hlt : i < L.length := by omega
   rw [List.drop_eq_getElem_cons hlt]
   refine Ev.step' ?_; simp only [impl_shapeOf.l0]
   refine Ev.pos (by omega) (Ev.pos (by omega) (Ev.pos (by omega) ?_))
   rw [rdL_get hlt]
   refine shapeA_l1 acc (by omega) L _ (i : Int) L[i] (hb _ (List.getElem_mem hlt)) _ ?_ ?_ _ 0 0 rfl (by omega) (fun j hj hji => by omega) rfl
   · intro hu
     rw [wrapS (by omega) (by omega), shapeL, if_pos hu]
     have := ih (i + 1) (acc ++ [L[i].headD 0]) (by omega) (by omega) (by rw [List.length_append]; exact Nat.succ_le_succ ha)
     refine evIs this ?_
     cases shapeL (L.drop (i + 1)) with
     | none => rfl
     | some s => simp [shR]
   · intro hu
     rw [shapeL, if_neg (by rw [hu]; simp)]
     rfl
def shapeR (d : Nat) : Option Tr → List Int × Bool
 | none => ([], false)
 | some v => shR [] (shapeL (layT d v 0 (List.replicate d [], [])).1)
theorem shapeA_is (d : Nat) (hd : d ≤ 3) (l : By) : Ev (fun k => impl_ShapeOf.f k (BA l) (d : Int)) (shapeR d (readD d l)) := by
 obtain ⟨t, h1, h2, h3, h4⟩ := arrOf_is d hd l
 unfold impl_ShapeOf.f
 refine Ev.bind h1 ?_
 cases hr : readD d l with
 | none => exact Ev.neg (by simp) (Ev.now _)
 | some v =>
   obtain rfl := h4 v hr
   have hn := nodes_le_text d t
   obtain ⟨b1, b2, b3⟩ := layR_bd d hd l
   rw [hr] at b1 b2 b3
   have hl := laid_is d hd t (by omega)
   refine Ev.pos rfl ?_
   have hs : Ev (fun k => impl_shapeOf.f k (cA d t).f0 (cA d t).f1 (d : Int)) (shapeR d (some t)) := by
     unfold impl_shapeOf.f
     refine Ev.bind hl ?_
     have := shapeA_l0 (layT d t 0 (List.replicate d [], [])).1 (Nat.le_trans b1 (by omega)) (fun r hr => Nat.le_trans (b2 r hr) (by omega)) _ 0 [] rfl (Nat.zero_le _) (Nat.le_refl _)
     rw [List.drop_zero] at this
     exact this
   exact Ev.bind hs (Ev.now _)
theorem fold0 (j : Nat) : ∀ (xs : List Tr) (s : List (List Int) × List Int), (xs.foldl (fun s x => layT 0 x j s) s).1 = s.1
 | [], _ => rfl
 | x :: xs, s => fold0 j xs _
theorem fold1 : ∀ (xs : List Tr) (a b : List Int) (D : List Int), (xs.foldl (fun s x => layT 1 x 1 s) ([a, b], D)).1 = [a, b ++ xs.map (fun x => (x.parts.length : Int))]
 | [], a, b, D => by rw [List.map_nil, List.append_nil]; rfl
 | x :: xs, a, b, D => by
   have h1 : (layT 1 x 1 ([a, b], D)).1 = [a, b ++ [(x.parts.length : Int)]] := fold0 2 x.parts _
   have h2 := fold1 xs a (b ++ [(x.parts.length : Int)]) (layT 1 x 1 ([a, b], D)).2
   rw [← h1] at h2
   show (xs.foldl (fun s x => layT 1 x 1 s) (layT 1 x 1 ([a, b], D))).1 = _
   rw [show layT 1 x 1 ([a, b], D) = ((layT 1 x 1 ([a, b], D)).1, (layT 1 x 1 ([a, b], D)).2) from rfl, h2, List.map_cons, List.append_assoc]
   rfl
def lens (v : Tr) : List Int := v.parts.map (fun x => (x.parts.length : Int))
theorem shape2 (v : Tr) : shapeR 2 (some v) = if uni (lens v) = true then ([(v.parts.length : Int), (lens v).headD 0], true) else ([], false) := by
 have h : (layT 2 v 0 (List.replicate 2 [], [])).1 = [[(v.parts.length : Int)], lens v] := fold1 v.parts [(v.parts.length : Int)] [] []
 rw [shapeR, h, shapeL, if_pos (by simp [uni]), shapeL]
 by_cases hu : uni (lens v) = true
 · rw [if_pos hu, if_pos hu]
   rfl
 · rw [if_neg hu, if_neg hu]
   rfl
end Go.Proofs.YtoloblgjlnhioaaDoor.J
namespace Go.Proofs.YtoloblgjlnhioaaDoor.J
open Go.RowKit Go.Proofs.YtoloblgjlnhioaaDoorW.PrintWords Go.Proofs.YtoloblgjlnhioaaDoorW.PrintLast Go.Proofs.YtoloblgjlnhioaaDoorW.PrintMore Go.Proofs.YtoloblgjlnhioaaDoor.Q
set_option linter.unusedSimpArgs false
set_option linter.unusedVariables false

theorem nums1_len (x : Tr) : (Q.nums 1 x).length = x.parts.length := by
 show ((x.parts.map (Q.nums 0)).flatten).length = _
 induction x.parts with
 | nil => rfl
 | cons t l ih => rw [List.map_cons, List.flatten_cons, List.length_append, ih, List.length_cons]; show 1 + _ = _; omega
theorem nums_mkR (r : List Nat) : Q.nums 1 (mkR r) = r := by
 show ((r.map fun n => (⟨n, []⟩ : Tr)).map (Q.nums 0)).flatten = r
 induction r with
 | nil => rfl
 | cons n l ih => rw [List.map_cons, List.map_cons, List.flatten_cons, ih]; rfl
theorem rowsN_mkT (R : List (List Nat)) : rowsN (mkT R) = R := by
 show (R.map mkR).map (Q.nums 1) = R
 rw [List.map_map]
 conv => rhs; rw [← List.map_id R]
 exact List.map_congr_left (fun r _ => nums_mkR r)
theorem mkR_nums {x : Tr} (h : Ok 1 x) : mkR (Q.nums 1 x) = x := by
 obtain ⟨n, ps⟩ := x
 obtain ⟨h0, h1⟩ := h
 have h0' : n = 0 := h0
 subst h0'
 have h1' : ∀ y ∈ ps, Ok 0 y := h1
 clear h0 h1
 show (⟨0, (Q.nums 1 ⟨0, ps⟩).map fun n => (⟨n, []⟩ : Tr)⟩ : Tr) = ⟨0, ps⟩
 congr 1
 show ((ps.map (Q.nums 0)).flatten).map (fun n => (⟨n, []⟩ : Tr)) = ps
 induction ps with
 | nil => rfl
 | cons y l ih =>
   obtain ⟨m, qs⟩ := y
   obtain rfl : qs = [] := (h1' ⟨m, qs⟩ (by simp)).2
   rw [List.map_cons, List.flatten_cons, List.map_append, ih (fun z hz => h1' z (List.mem_cons_of_mem _ hz))]
   rfl
theorem mkT_rows {v : Tr} (h : Ok 2 v) : mkT (rowsN v) = v := by
 obtain ⟨n, ps⟩ := v
 obtain ⟨h0, h1⟩ := h
 have h0' : n = 0 := h0
 subst h0'
 show (⟨0, (ps.map (Q.nums 1)).map mkR⟩ : Tr) = ⟨0, ps⟩
 congr 1
 rw [List.map_map]
 conv => rhs; rw [← List.map_id ps]
 exact List.map_congr_left (fun x hx => mkR_nums (h1 x hx))
theorem mkT_ok {R : List (List Nat)} (h : ∀ r ∈ R, ∀ n ∈ r, n < 10007) : Ok 2 (mkT R) := by
 refine ⟨rfl, fun x hx => ?_⟩
 obtain ⟨r, hr, rfl⟩ := List.mem_map.1 hx
 refine ⟨rfl, fun y hy => ?_⟩
 obtain ⟨n, hn, rfl⟩ := List.mem_map.1 hy
 exact ⟨h r hr n hn, rfl⟩
theorem lens_mkT (R : List (List Nat)) : lens (mkT R) = R.map (fun r => (r.length : Int)) := by
 show (R.map mkR).map (fun x => (x.parts.length : Int)) = _
 rw [List.map_map]
 refine List.map_congr_left (fun r _ => ?_)
 show (((r.map fun n => (⟨n, []⟩ : Tr)).length : Nat) : Int) = _
 rw [List.length_map]
end Go.Proofs.YtoloblgjlnhioaaDoor.J
namespace Go.Proofs.YtoloblgjlnhioaaDoor.J
open Go.RowKit Go.Proofs.YtoloblgjlnhioaaDoorW.PrintWords Go.Proofs.YtoloblgjlnhioaaDoorW.PrintLast Go.Proofs.YtoloblgjlnhioaaDoorW.PrintMore Go.Proofs.YtoloblgjlnhioaaDoor.Q
set_option linter.unusedSimpArgs false
set_option linter.unusedVariables false

/-! ### plain -/
theorem join_mem (f : Tr → By) : ∀ (xs : List Tr) (x : Tr), x ∈ xs → (f x).length ≤ (Lib.join (xs.map f) [44]).length
 | [y], x, h => by
   obtain rfl := List.mem_singleton.1 h
   rw [List.map_cons, List.map_nil, join_one]
   exact Nat.le_refl _
 | y :: z :: l, x, h => by
   rw [List.map_cons, List.map_cons, join_cons, List.length_append, List.length_cons]
   rcases List.mem_cons.1 h with rfl | h
   · omega
   · have := join_mem f (z :: l) x h
     rw [List.map_cons] at this
     omega
theorem text_part {d : Nat} {t x : Tr} (h : x ∈ t.parts) : (text d x).length ≤ (text (d + 1) t).length := by
 have := join_mem (text d) t.parts x h
 show _ ≤ (91 :: (Lib.join (t.parts.map (text d)) [44] ++ [93])).length
 rw [List.length_cons, List.length_append]
 omega
theorem part_read {d : Nat} {t x : Tr} (ht : Ok (d + 1) t) (hl : (text (d + 1) t).length ≤ 400) (h : x ∈ t.parts) : readD d (text d x) = some x :=
 readD_text (ht.2 x h) (Nat.le_trans (text_part h) hl)
/-- The text of an array of parts. -/
def joined (ts : List By) : By := 91 :: (Lib.join ts [44] ++ [93])
theorem text_mk (d : Nat) (vs : List Tr) : text (d + 1) ⟨0, vs⟩ = joined (vs.map (text d)) := rfl
def allR (d : Nat) (ts : List By) : Bool := ts.all fun t => (readD d t).isSome
def vsOf (d : Nat) (ts : List By) : List Tr := ts.filterMap (readD d)
theorem vsOf_text {d : Nat} : ∀ {ts : List By}, allR d ts = true → (vsOf d ts).map (text d) = ts
 | [], _ => rfl
 | t :: ts, h => by
   simp only [allR, List.all_cons, Bool.and_eq_true] at h
   obtain ⟨v, hv⟩ := Option.isSome_iff_exists.1 h.1
   have ih := vsOf_text (ts := ts) h.2
   rw [vsOf, List.filterMap_cons, hv]
   show text d v :: (vsOf d ts).map (text d) = _
   rw [ih, ← (readD_ok hv).1]
theorem vsOf_ok {d : Nat} {ts : List By} {x : Tr} (h : x ∈ vsOf d ts) : Ok d x ∧ (text d x).length ≤ 400 := by
 obtain ⟨t, _, ht⟩ := List.mem_filterMap.1 h
 obtain ⟨h1, h2, h3⟩ := readD_ok ht
 exact ⟨h2, by rw [← h1]; exact h3⟩
theorem vsOf_map {d : Nat} : ∀ {vs : List Tr}, (∀ x ∈ vs, readD d (text d x) = some x) → allR d (vs.map (text d)) = true ∧ vsOf d (vs.map (text d)) = vs
 | [], _ => ⟨rfl, rfl⟩
 | x :: vs, h => by
   have h1 := h x (by simp)
   obtain ⟨h2, h3⟩ := vsOf_map (vs := vs) (fun y hy => h y (List.mem_cons_of_mem _ hy))
   constructor
   · simp only [allR, List.map_cons, List.all_cons, h1, Option.isSome_some, Bool.true_and]
     exact h2
   · rw [vsOf, List.map_cons, List.filterMap_cons, h1]
     show x :: vsOf d _ = _
     rw [h3]
theorem mk_ok {d : Nat} {vs : List Tr} (h : ∀ x ∈ vs, Ok d x) : Ok (d + 1) ⟨0, vs⟩ := ⟨rfl, h⟩
theorem mk_nodes {d : Nat} {vs : List Tr} (h : ∀ x ∈ vs, (text d x).length ≤ 400) (hv : vs.length ≤ 1000000) : nodes (d + 1) ⟨0, vs⟩ ≤ 1000000000 := by
 have : ∀ xs : List Tr, (∀ x ∈ xs, (text d x).length ≤ 400) → (xs.map (nodes d)).sum ≤ xs.length * 400 := by
   intro xs
   induction xs with
   | nil => intro _; simp
   | cons x l ih =>
     intro h
     have h1 := h x (by simp)
     have h2 := ih (fun y hy => h y (List.mem_cons_of_mem _ hy))
     have h3 := nodes_le_text d x
     rw [List.map_cons, List.sum_cons, List.length_cons, Nat.add_mul]
     omega
 have h1 := this vs h
 show 1 + (vs.map (nodes d)).sum ≤ _
 have h2 := Nat.mul_le_mul_right 400 hv
 omega
/-- What an array of parts is told as. -/
def makeR (d : Nat) (ts : List By) : ByteArray × Bool := if allR d ts = true then told (joined ts) else (BA [], false)
theorem makeR_map {d : Nat} {vs : List Tr} (h : ∀ x ∈ vs, readD d (text d x) = some x) : makeR d (vs.map (text d)) = told (text (d + 1) ⟨0, vs⟩) := by
 rw [makeR, if_pos (vsOf_map h).1, text_mk]
theorem makeR_parts {d : Nat} {l : By} {v : Tr} (h : readD (d + 1) l = some v) : makeR d (v.parts.map (text d)) = (BA l, true) := by
 obtain ⟨h1, h2, h3⟩ := readD_ok h
 have h4 : (⟨0, v.parts⟩ : Tr) = v := by
   have := h2.1
   cases v
   simp only at this
   subst this
   rfl
 rw [makeR_map (fun x hx => part_read h2 (by rw [← h1]; exact h3) hx), h4, ← h1, told, if_pos h3]
/-- The parts of an array, as the document says. -/
def partsR (d : Nat) (l : By) : Option (List By) := (readD (d + 1) l).map fun v => v.parts.map (text d)
theorem makeR_read {d : Nat} {ts : List By} {m : ByteArray} (h : makeR d ts = (m, true)) : m = BA (joined ts) ∧ partsR d (joined ts) = some ts := by
 unfold makeR told at h
 split at h
 · next ha =>
   split at h
   · next hl =>
     simp only [Prod.mk.injEq, and_true] at h
     refine ⟨h.symm, ?_⟩
     have e := vsOf_text ha
     have e2 : joined ts = text (d + 1) ⟨0, vsOf d ts⟩ := by rw [text_mk, e]
     rw [partsR, e2, readD_text (mk_ok (fun x hx => (vsOf_ok hx).1)) (by rw [← e2]; exact hl)]
     exact congrArg some e
   · cases h
 · cases h
def resP : Option (List By) → List ByteArray × Bool
 | none => ([], false)
 | some ts => (ts.map BA, true)

/-! ### PartsOf -/
theorem partsA_l0 (d : Nat) (hd : d ≤ 2) (t : Tr) (hs : Sh (d + 1) t) (hn : nodes (d + 1) t ≤ 1000000000) :
   ∀ (n i : Nat), t.parts.length - i = n → i ≤ t.parts.length → Ev (fun k => impl_PartsOf.l0 k ((d + 1 : Nat) : Int) ((t.parts.take i).map fun x => BA (text d x)) (t.parts.map (cA d)) ((t.parts.map (cA d)).length : Int) (i : Int)) (t.parts.map (fun x => BA (text d x)), true) := by
 have hpl := parts_len d t
 intro n
 induction n with
 | zero =>
   intro i h hi
   refine Ev.step' ?_; simp only [impl_PartsOf.l0]
   rw [List.take_of_length_le (by omega)]
   exact Ev.neg (by rw [List.length_map]; omega) (Ev.val rfl)
 | succ n ihn =>
   intro i h hi
   have hlt : i < t.parts.length := by omega
   have hm : t.parts[i] ∈ t.parts := List.getElem_mem hlt
   have hx := textA_is d (by omega) t.parts[i] (hs _ hm) (by have := nodes_part (d := d) hm; omega)
   have hg : rd_T62 (t.parts.map (cA d)) (i : Int) = cA d t.parts[i] := getD_map _ _ _ _ hlt
   have hnext := ihn (i + 1) (by omega) (by omega)
   rw [take_snoc _ _ hlt, List.map_append] at hnext
   refine Ev.step' ?_; simp only [impl_PartsOf.l0]
   refine Ev.pos (by rw [List.length_map]; omega) (Ev.pos (by omega) (Ev.pos (by rw [List.length_map]; omega) ?_))
   rw [hg, show wrap64 (((d + 1 : Nat) : Int) - 1) = (d : Int) by rw [wrapS (by omega) (by omega)]; omega, wrapS (a := (i : Int) + 1) (by omega) (by omega)]
   exact Ev.bind hx (Ev.pos (by rw [List.length_map, List.length_take]; omega) hnext)
theorem map_BA (d : Nat) (xs : List Tr) : (xs.map fun x => BA (text d x)) = (xs.map (text d)).map BA := by rw [List.map_map]; rfl
theorem partsA_bad (x1 : Int) (m : Int) (ps : List NA) : Ev (fun k => impl_PartsOf.j0 k x1 true m ps) (([] : List ByteArray), false) := by
 refine Ev.step' ?_; simp only [impl_PartsOf.j0]
 exact Ev.pos (by first | trivial | rfl) (Ev.now _)
theorem partsA_is (d : Nat) (hd : d ≤ 2) (l : By) : Ev (fun k => impl_PartsOf.f k (BA l) ((d + 1 : Nat) : Int)) (resP (partsR d l)) := by
 obtain ⟨t, h1, h2, h3, h4⟩ := arrOf_is (d + 1) (by omega) l
 unfold impl_PartsOf.f partsR
 refine Ev.bind h1 ?_
 cases hq : readD (d + 1) l with
 | none => exact Ev.neg (by simp) (partsA_bad _ _ _)
 | some v =>
   obtain rfl := h4 v hq
   refine Ev.pos (by first | trivial | rfl) ?_
   rw [show (((d + 1 : Nat) : Int) == 0) = false by simp; omega]
   refine Ev.step' ?_; simp only [impl_PartsOf.j0]
   have := partsA_l0 d hd t (Sh.of h2) (by have := nodes_le_text (d + 1) t; omega) _ 0 rfl (by omega)
   rw [map_BA d t.parts] at this
   exact Ev.neg (by simp) this
theorem partsA_out (dp : Int) (h : dp < 1 ∨ 3 < dp) (l : By) : Ev (fun k => impl_PartsOf.f k (BA l) dp) (([] : List ByteArray), false) := by
 unfold impl_PartsOf.f
 by_cases h0 : dp = 0
 · subst h0
   obtain ⟨t, h1, h2, h3, h4⟩ := arrOf_is 0 (by omega) l
   refine Ev.bind h1 ?_
   cases hq : readD 0 l with
   | none => exact Ev.neg (by simp) (partsA_bad _ _ _)
   | some v => exact Ev.pos (by first | trivial | rfl) (partsA_bad _ _ _)
 · exact Ev.bind (arrOf_out dp (by omega) _) (Ev.neg (by simp) (partsA_bad _ _ _))
/-! ### LengthOf -/
def lenR : Option (List By) → Int
 | none => -1
 | some ts => (ts.length : Int)
theorem lenA_is (d : Nat) (hd : d ≤ 2) (l : By) : Ev (fun k => impl_LengthOf.f k (BA l) ((d + 1 : Nat) : Int)) (lenR (partsR d l)) := by
 have h := partsA_is d hd l
 unfold impl_LengthOf.f
 cases hp : partsR d l with
 | none =>
   rw [hp] at h
   exact Ev.bind h (Ev.neg (by simp [resP]) (Ev.now _))
 | some ts =>
   rw [hp] at h
   refine Ev.bind h (Ev.pos (by first | trivial | rfl) (Ev.val ?_))
   show ((ts.map BA).length : Int) = _
   rw [List.length_map]
   rfl
theorem lenA_out (dp : Int) (h : dp < 1 ∨ 3 < dp) (l : By) : Ev (fun k => impl_LengthOf.f k (BA l) dp) (-1) := by
 unfold impl_LengthOf.f
 exact Ev.bind (partsA_out dp h l) (Ev.neg (by simp) (Ev.now _))
end Go.Proofs.YtoloblgjlnhioaaDoor.J
namespace Go.Proofs.YtoloblgjlnhioaaDoor.J
open Go.RowKit Go.Proofs.YtoloblgjlnhioaaDoorW.PrintWords Go.Proofs.YtoloblgjlnhioaaDoorW.PrintLast Go.Proofs.YtoloblgjlnhioaaDoorW.PrintMore Go.Proofs.YtoloblgjlnhioaaDoor.Q
set_option linter.unusedSimpArgs false
set_option linter.unusedVariables false

theorem isReg_is (l : By) : Ev (fun k => impl_IsRegular.f k (BA l) 2) (shapeR 2 (readD 2 l)).2 := by
 unfold impl_IsRegular.f
 exact Ev.bind (shapeA_is 2 (by omega) l) (Ev.now _)
theorem drawPad_is (l : List Int) (h : ∀ x ∈ l, (Lit.int .u8 x).wf = true) : ∃ t : ByteArray, Ev (fun k => spec_DrawPadArray.f k l) t := by
 obtain ⟨l', ho, hl⟩ := open_is l h
 obtain ⟨a, g1, g2, _⟩ := pick_is hl 0 (by omega) 3
 have hcap := (cap_in (d := 2) (by omega)).1
 by_cases c : a > 0
 · obtain ⟨t, q, d1, _⟩ := draw_is 2 (by omega) l' (0 + 1) hl (by omega)
   refine ⟨t, ?_⟩
   unfold spec_DrawPadArray.f
   exact Ev.call ho (Ev.bind g1 (Ev.pos c (Ev.bind d1 (Ev.now _))))
 · obtain ⟨t, q, e1, e2⟩ := l11Some_is hl (0 + 1) (by omega)
   refine ⟨t, ?_⟩
   unfold spec_DrawPadArray.f
   exact Ev.call ho (Ev.bind g1 (Ev.neg c (Ev.bind e1 (Ev.now _))))
theorem drawCut_l0 {l : List Int} (hb : Bs l) (s : ByteArray) (R : List (List Nat)) (hR : RowsOk R) : ∀ (n i : Nat) (acc : List Int), R.length - i = n → i ≤ R.length → acc.length ≤ i →
   ∃ C, Ev (fun k => spec_DrawCutArray.l0 k s acc (intsL R) ((intsL R).length : Int) (i : Int) l (i : Int)) (s, C) := by
 have hR1 := hR.1
 intro n
 induction n with
 | zero =>
   intro i acc hn hi ha
   obtain ⟨a, g1, g2, _⟩ := pick_is hb i (by omega) 10
   by_cases c : a = 0
   · obtain ⟨b, hb', f1⟩ := num_is hb (i + 1) (by omega) [0, (-1)] (by simp)
     refine ⟨acc ++ [b], ?_⟩
     refine Ev.step' ?_; simp only [spec_DrawCutArray.l0]
     exact Ev.neg (by rw [List.length_map]; omega) (Ev.bind g1 (Ev.pos c (Ev.bind f1 (Ev.pos (by omega) (Ev.now _)))))
   · refine ⟨acc, ?_⟩
     refine Ev.step' ?_; simp only [spec_DrawCutArray.l0]
     exact Ev.neg (by rw [List.length_map]; omega) (Ev.bind g1 (Ev.neg c (Ev.now _)))
 | succ n ih =>
   intro i acc hn hi ha
   have hlt : i < R.length := by omega
   have hrr := (hR.2 R[i] (List.getElem_mem hlt)).1
   obtain ⟨a, g1, _⟩ := pick_is hb i (by omega) ((R[i].length : Int) + 1)
   obtain ⟨C, hC⟩ := ih (i + 1) (acc ++ [a]) (by omega) (by omega) (by rw [List.length_append, List.length_singleton]; omega)
   refine ⟨C, ?_⟩
   refine Ev.step' ?_; simp only [spec_DrawCutArray.l0]
   refine Ev.pos (by rw [List.length_map]; omega) (Ev.pos (by omega) (Ev.pos (by rw [List.length_map]; omega) ?_))
   rw [show rd_L5 (intsL R) (i : Int) = ints R[i] from getD_mapL _ _ _ _ hlt, List.length_map, wrapS (a := (R[i].length : Int) + 1) (by omega) (by omega), wrapS (a := (i : Int) + 1) (by omega) (by omega)]
   exact Ev.bind g1 (Ev.pos (by omega) hC)
theorem drawCut_is (l : List Int) (h : ∀ x ∈ l, (Lit.int .u8 x).wf = true) : ∃ (t : By) (C : List Int), Ev (fun k => spec_DrawCutArray.f k l) (BA t, C) := by
 obtain ⟨l', ho, hl⟩ := open_is l h
 obtain ⟨t, ht⟩ := drawPad_is l h
 obtain ⟨t, rfl, _⟩ := BA_of t
 have ha := any_is t
 have hR : ∃ R ok, RowsOk R ∧ Ev (fun k => spec_l11Any.f k (BA t)) (intsL R, ok) := by
   cases hq : readD 2 t with
   | none => rw [hq] at ha; exact ⟨[], false, ⟨by simp, fun _ h => by cases h⟩, ha⟩
   | some v =>
     rw [hq] at ha
     obtain ⟨e, hok, hl⟩ := readD_ok hq
     exact ⟨_, _, rowsN_ok hok (by rw [← e]; omega), ha⟩
 obtain ⟨R, ok, hR, ha'⟩ := hR
 obtain ⟨C, hC⟩ := drawCut_l0 hl (BA t) R hR _ 0 [] rfl (by omega) (by simp)
 refine ⟨t, C, ?_⟩
 unfold spec_DrawCutArray.f
 exact Ev.call ho (Ev.bind ht (Ev.bind ha' hC))
theorem cut_back (M : Nat) : ∀ (R A : List (List Nat)), (∀ r ∈ R, r.length ≤ M) → cutFrom (R.map fun r => (r.length : Int)) A.length (A ++ R.map (padr M)) = some (A ++ R)
 | [], A, _ => rfl
 | r :: R, A, h => by
   have hg : (A ++ padr M r :: R.map (padr M)).getD A.length [] = padr M r := by
     rw [List.getD_eq_getElem?_getD, List.getElem?_append_right (Nat.le_refl _), Nat.sub_self]
     rfl
   have hs : (A ++ padr M r :: R.map (padr M)).set A.length r = A ++ r :: R.map (padr M) := by
     rw [List.set_append_right _ _ (Nat.le_refl _), Nat.sub_self]
     rfl
   have hl := h r (List.mem_cons_self)
   have ih := cut_back M R (A ++ [r]) (fun x hx => h x (List.mem_cons_of_mem _ hx))
   rw [show (A ++ [r]).length = A.length + 1 by rw [List.length_append]; rfl, List.append_assoc, List.append_assoc] at ih
   rw [List.map_cons, List.map_cons, cutFrom, hg, if_pos ⟨by omega, by rw [padr_len hl]; omega⟩, Int.toNat_natCast, show (padr M r).take r.length = r from List.take_left' rfl, hs]
   exact ih
theorem uni_const {L : List Int} {c : Int} (h : ∀ x ∈ L, x = c) : uni L = true := by
 unfold uni
 rw [List.all_eq_true]
 intro x hx
 cases L with
 | nil => cases hx
 | cons y l => rw [List.headD_cons, h x hx, h y (List.mem_cons_self)]; exact beq_self_eq_true c
theorem own_l0 (l p : By) (v : Tr) (hok : Ok 2 v) (hl : (text 2 v).length ≤ 400) (R : Bool) : ∀ (n i : Nat) (acc : List Int), v.parts.length - i = n → i ≤ v.parts.length → acc = (v.parts.take i).map (fun x => (x.parts.length : Int)) →
   Ev (fun k => laws_FnPadCut.l0 k (BA l) (BA p) (v.parts.map (fun x => (x.parts.length : Int))) ((v.parts.map (text 1)).map BA) (((v.parts.map (text 1)).map BA).length : Int) (v.parts.length : Int)) R →
   Ev (fun k => laws_FnPadCut.l0 k (BA l) (BA p) acc ((v.parts.map (text 1)).map BA) (((v.parts.map (text 1)).map BA).length : Int) (i : Int)) R := by
 have hpl : v.parts.length + 1 ≤ nodes 2 v := parts_len 1 v
 have hnt := nodes_le_text 2 v
 intro n
 induction n with
 | zero =>
   intro i acc hn hi ha h
   obtain rfl : i = v.parts.length := by omega
   rw [ha, List.take_of_length_le (Nat.le_refl _)]
   exact h
 | succ n ih =>
   intro i acc hn hi ha h
   have hlt : i < v.parts.length := by omega
   have hm : v.parts[i] ∈ v.parts := List.getElem_mem hlt
   have hrd : rdOf ByteArray.empty ((v.parts.map (text 1)).map BA) (i : Int) = BA (text 1 v.parts[i]) := by
     unfold rdOf
     rw [Int.toNat_natCast, List.map_map, List.getD_eq_getElem?_getD, List.getElem?_map, List.getElem?_eq_getElem hlt]
     rfl
   have hlen := lenA_is 0 (by omega) (text 1 v.parts[i])
   rw [partsR, part_read (t := v) hok hl hm] at hlen
   have hlen' : Ev (fun k => impl_LengthOf.f k (BA (text 1 v.parts[i])) 1) (v.parts[i].parts.length : Int) := by
     have e : lenR (Option.map (fun t : Tr => t.parts.map (text 0)) (some v.parts[i])) = (v.parts[i].parts.length : Int) := by
       show (((v.parts[i].parts.map (text 0)).length : Nat) : Int) = _
       rw [List.length_map]
     rw [← e]
     exact hlen
   have hnx := ih (i + 1) (acc ++ [(v.parts[i].parts.length : Int)]) (by omega) (by omega) (by rw [take_snoc _ _ hlt, List.map_append, ← ha]; rfl) h
   refine Ev.step' ?_; simp only [laws_FnPadCut.l0]
   refine Ev.pos (by rw [List.length_map, List.length_map]; omega) (Ev.pos (by omega) (Ev.pos (by rw [List.length_map, List.length_map]; omega) ?_))
   rw [hrd, wrapS (a := (i : Int) + 1) (by omega) (by omega)]
   exact Ev.bind hlen' (Ev.pos (by rw [ha, List.length_map, List.length_take]; omega) hnx)
theorem pad_j1 (l : By) (c : ByteArray) (b : Bool) : Ev (fun k => laws_FnPadCut.j1 k (BA l) (padV (readD 2 l)).1 (padV (readD 2 l)).2 (padV (readD 2 l)).1 (padV (readD 2 l)).2 c b c b (!(padV (readD 2 l)).2)) true := by
 cases h2 : (padV (readD 2 l)).2 with
 | false =>
   refine Ev.step' ?_; simp only [laws_FnPadCut.j1]
   exact Ev.pos (by first | trivial | rfl) (Ev.pos (by first | trivial | rfl) (Ev.pos (by simp) (Ev.pos (by first | trivial | rfl) (Ev.val (by simp)))))
 | true =>
   cases hq : readD 2 l with
   | none => rw [hq] at h2; cases h2
   | some v =>
     rw [hq] at h2
     obtain ⟨e, hok, hl⟩ := readD_ok hq
     have hR := rowsN_ok hok (by rw [← e]; omega)
     have hP := padR_ok hR
     have hsh : (text 2 (mkT (padR (rowsN v)))).length ≤ 400 := by
       by_cases hx : (text 2 (mkT (padR (rowsN v)))).length ≤ 400
       · exact hx
       · have h3 : (told (text 2 (mkT (padR (rowsN v))))).2 = true := h2
         unfold told at h3
         rw [if_neg hx] at h3
         cases h3
     have hV : padV (some v) = (BA (text 2 (mkT (padR (rowsN v)))), true) := if_pos hsh
     have hrd : readD 2 (text 2 (mkT (padR (rowsN v)))) = some (mkT (padR (rowsN v))) := readD_text (mkT_ok (fun r hr n hn => (hP.2 r hr).2 n hn)) hsh
     rw [hV]
     refine Ev.step' ?_; simp only [laws_FnPadCut.j1]
     refine Ev.neg (by simp) ?_
     have hpa := partsA_is 1 (by omega) l
     rw [partsR, hq] at hpa
     refine Ev.bind hpa ?_
     have hown := own_l0 l (text 2 (mkT (padR (rowsN v)))) v hok (by rw [← e]; exact hl) true v.parts.length 0 [] (by omega) (by omega) rfl
     refine hown ?_
     have hlens : (v.parts.map fun x => (x.parts.length : Int)) = (rowsN v).map (fun r => (r.length : Int)) := by
       unfold rowsN
       rw [List.map_map]
       exact List.map_congr_left (fun x _ => by show _ = (((Q.nums 1 x).length : Nat) : Int); rw [nums1_len])
     refine Ev.step' ?_; simp only [laws_FnPadCut.l0]
     refine Ev.neg (by rw [List.length_map, List.length_map]; omega) ?_
     have hcut := cutA_is (text 2 (mkT (padR (rowsN v)))) (v.parts.map fun x => (x.parts.length : Int))
     have hcv : cutR (text 2 (mkT (padR (rowsN v)))) (v.parts.map fun x => (x.parts.length : Int)) = (BA l, true) := by
       unfold cutR
       rw [hrd]
       show (if _ then cutRes (cutFrom _ 0 (rowsN (mkT (padR (rowsN v))))) else _) = _
       rw [rowsN_mkT, hlens, if_pos (by unfold padR; rw [List.length_map, List.length_map])]
       have := cut_back (mxF 0 (rowsN v)) (rowsN v) [] (mxF_ge (rowsN v) 0).2
       rw [List.length_nil, List.nil_append, List.nil_append] at this
       rw [padR, this]
       show told (text 2 (mkT (rowsN v))) = _
       rw [mkT_rows hok, ← e]
       exact if_pos hl
     rw [hcv] at hcut
     have hpad := padA_is (text 2 (mkT (padR (rowsN v))))
     have hpv : padV (readD 2 (text 2 (mkT (padR (rowsN v))))) = (BA (text 2 (mkT (padR (rowsN v)))), true) := by
       rw [hrd]
       show told (text 2 (mkT (padR (rowsN (mkT (padR (rowsN v))))))) = _
       rw [rowsN_mkT, padR_padR]
       exact if_pos hsh
     rw [hpv] at hpad
     have hr1 := isReg_is (text 2 (mkT (padR (rowsN v))))
     have hu1 : (shapeR 2 (readD 2 (text 2 (mkT (padR (rowsN v)))))).2 = true := by
       rw [hrd, shape2, if_pos]
       rw [lens_mkT]
       refine uni_const (c := ((mxF 0 (rowsN v) : Nat) : Int)) (fun x hx => ?_)
       obtain ⟨r, hr, rfl⟩ := List.mem_map.1 hx
       rw [padR_len _ r hr]
     rw [hu1] at hr1
     have hr2 := isReg_is l
     refine Ev.bind hcut (Ev.bind hpad (Ev.pos rfl (Ev.pos rfl (Ev.pos rfl (Ev.bind hr1 (Ev.pos rfl (Ev.bind hr2 ?_)))))))
     by_cases hu : uni (lens v) = true
     · rw [hq, shape2, if_pos hu]
       refine Ev.pos (by first | trivial | rfl) (Ev.val ?_)
       have hall : ∀ r ∈ rowsN v, ∃ c : Nat, True := fun _ _ => ⟨0, trivial⟩
       have hsame : padR (rowsN v) = rowsN v := by
         refine padR_same (c := ((lens v).headD 0).toNat) (fun r hr => ?_)
         obtain ⟨x, hx, rfl⟩ := List.mem_map.1 hr
         rw [nums1_len]
         have := (List.all_eq_true.1 hu) (x.parts.length : Int) (List.mem_map.2 ⟨x, hx, rfl⟩)
         have := beq_iff_eq.1 this
         omega
       rw [hsame, mkT_rows hok, ← e]
       exact beq_self_eq_true _
     · rw [hq, shape2, if_neg hu]
       exact Ev.neg (by simp) (Ev.now _)
theorem Pure_FnPadCut : laws_FnPadCut.Pure := by
 intro l0 l1 _ _ h0 _ _ h1
 refine Ev.rounds (r := true) ?_
 unfold laws_FnPadCut.f
 have stop : ∀ X Y, Ev (fun k => laws_FnPadCut.j0 k X Y true) true := by
   intro X Y
   refine Ev.step' ?_; simp only [laws_FnPadCut.j0]
   exact Ev.pos (by first | trivial | rfl) (Ev.now _)
 by_cases c0 : (l0.length : Int) > 1048576
 · exact Ev.pos c0 (stop _ _)
 refine Ev.neg c0 ?_
 by_cases c1 : (l1.length : Int) > 1048576
 · rw [decide_eq_true c1]
   exact stop _ _
 rw [decide_eq_false c1]
 obtain ⟨s, hd⟩ := drawPad_is l0 h0
 obtain ⟨s, rfl, _⟩ := BA_of s
 obtain ⟨u, C, hc⟩ := drawCut_is l1 h1
 refine Ev.step' ?_; simp only [laws_FnPadCut.j0]
 exact Ev.neg (by simp) (Ev.bind hd (Ev.bind (padA_is s) (Ev.bind (padS_is s) (Ev.bind hc (Ev.bind (cutA_is u C) (Ev.bind (cutS_is u C) (Ev.pos rfl (Ev.neg (by simp) (Ev.pos rfl (Ev.neg (by simp) (pad_j1 s _ _)))))))))))
end Go.Proofs.YtoloblgjlnhioaaDoor.J
