/- The program's ApplySign and the reference's answer alike, for all arguments: the law. -/
import Derived.Test.YtoloblgjlnhioaaDoorHFQbase
import Derived.Test.YtoloblgjlnhioaaDoorHFx2
import Derived.Test.YtoloblgjlnhioaaDoorHFx4
import Derived.Test.YtoloblgjlnhioaaDoorHFx1
import Derived.Test.YtoloblgjlnhioaaDoorHFx0
import Derived.Test.YtoloblgjlnhioaaDoorHFx5
import Derived.Test.YtoloblgjlnhioaaDoorHFx3
import Derived.Test.YtoloblgjlnhioaaDoorHFx6
namespace Go.Proofs.YtoloblgjlnhioaaDoor.H
open Go.RowKit Go.Proofs.YtoloblgjlnhioaaDoorW.PrintWords Go.Proofs.YtoloblgjlnhioaaDoorW.PrintLast Go.Proofs.YtoloblgjlnhioaaDoorW.PrintMore Go.Proofs.YtoloblgjlnhioaaDoor.Q
set_option linter.unusedSimpArgs false
set_option linter.unusedVariables false

abbrev NA := S62
abbrev NS := S77
def cA : Nat → Tr → NA
 | 0, t => ⟨(t.n : Int), []⟩
 | d + 1, t => ⟨(t.n : Int), t.parts.map (cA d)⟩
def cS : Nat → Tr → NS
 | 0, t => ⟨(t.n : Int), []⟩
 | d + 1, t => ⟨(t.n : Int), t.parts.map (cS d)⟩
theorem mkA (t : NA) : (⟨t.f0, t.f1⟩ : NA) = t := by cases t; rfl
theorem mkS (t : NS) : (⟨t.f0, t.f1⟩ : NS) = t := by cases t; rfl
theorem cA_f0 (d : Nat) (t : Tr) : (cA d t).f0 = (t.n : Int) := by cases d <;> rfl
theorem cS_f0 (d : Nat) (t : Tr) : (cS d t).f0 = (t.n : Int) := by cases d <;> rfl

/-! ### impl.readArr -/
abbrev RA := Int × List NA × ByteArray × Bool
def badA : RA := (0, [], BA [], false)
def resA (d : Nat) : Option (Tr × By) → RA
 | none => badA
 | some (t, r) => ((cA d t).f0, (cA d t).f1, BA r, true)
theorem bt_at {l : By} {i : Nat} (h : i < l.length) : bt (BA l) (i : Int) = (l[i].toNat : Int) := by
 rw [bt_BA, Int.toNat_natCast, List.getD_eq_getElem?_getD, List.getElem?_eq_getElem h]
 rfl
theorem take_split {l : By} (i : Nat) (h : (l.take i).all isD = true) (hn : ∀ x : i < l.length, isD l[i] = false) : l.takeWhile isD = l.take i ∧ l.dropWhile isD = l.drop i := by
 have e : l = l.take i ++ l.drop i := (List.take_append_drop i l).symm
 have := takeWhile_digits (ds := l.take i) (r := l.drop i) h (by
   intro c r hr
   by_cases hi : i < l.length
   · rw [List.drop_eq_getElem_cons hi] at hr
     rw [← (List.cons.inj hr).1]
     exact hn hi
   · rw [List.drop_eq_nil_of_le (by omega)] at hr
     cases hr)
 rw [← e] at this
 exact this
theorem readArr_j1 (l : By) (hl : l.length ≤ 1000000) : Ev (fun k => impl_readArr.j1 k (BA l) ((l.takeWhile isD).length : Int)) (resA 0 (parse 0 l)) := by
 have ht : l.take (l.takeWhile isD).length = l.takeWhile isD := by
   have e := List.takeWhile_append_dropWhile (p := isD) (l := l)
   conv => lhs; arg 2; rw [← e]
   rw [List.take_left']
   rfl
 have hd : l.drop (l.takeWhile isD).length = l.dropWhile isD := by
   have e := List.takeWhile_append_dropWhile (p := isD) (l := l)
   conv => lhs; arg 2; rw [← e]
   rw [List.drop_left']
   rfl
 have hlen : (l.takeWhile isD).length ≤ l.length := by
   have := congrArg List.length (List.takeWhile_append_dropWhile (p := isD) (l := l))
   rw [List.length_append] at this
   omega
 have hall : (l.takeWhile isD).all isD = true := List.all_takeWhile
 have hx : (BA l).extract 0 (l.takeWhile isD).length = BA (l.takeWhile isD) := by
   rw [BA_extract]
   simp [ht]
 have hy : (BA l).extract (l.takeWhile isD).length (BA l).size = BA (l.dropWhile isD) := by
   rw [BA_extract, hd, BA_size, List.take_of_length_le]
   rw [← hd, List.length_drop]
   omega
 refine Ev.step' ?_; simp only [impl_readArr.j1]
 refine Ev.pos (by omega) (Ev.pos (by rw [BA_size]; omega) ?_)
 simp only [Int.toNat_natCast, hx, hy]
 have hs : (BA (l.takeWhile isD)).size ≤ 281474976710656 := by rw [BA_size]; omega
 by_cases hne : l.takeWhile isD = []
 · have ha : strconv_Atoi.f (BA (l.takeWhile isD)) = some (0, some 0) := by
     unfold strconv_Atoi.f
     rw [if_pos hs, data_BA, hne]
     rfl
   have hp : parse 0 l = none := by
     have : parseNum l = none := by
       unfold parseNum
       rw [hne]
       exact if_neg (fun h => dec_ne _ h.2)
     unfold parse
     rw [this]
     rfl
   rw [hp]
   refine Ev.call ha ?_
   exact Ev.neg (by simp) (Ev.now _)
 · rcases atoi_digits hall hne with e | ⟨e, hbig⟩
   · have ha : strconv_Atoi.f (BA (l.takeWhile isD)) = some ((valD 0 (l.takeWhile isD) : Int), none) := by
       unfold strconv_Atoi.f
       rw [if_pos hs, data_BA, e]
     refine Ev.call ha ?_
     refine Ev.pos (by first | trivial | rfl) ?_
     by_cases hb : valD 0 (l.takeWhile isD) < 10007
     · refine Ev.neg (by omega) ?_
       have hi : strconv_Itoa.f (valD 0 (l.takeWhile isD) : Int) = some (BA (Lib.decDigits (valD 0 (l.takeWhile isD)))) := by
         unfold strconv_Itoa.f
         rw [if_pos (by omega), if_pos (by omega), itoa_nat]
         rfl
       refine Ev.call hi ?_
       by_cases hq : Lib.decDigits (valD 0 (l.takeWhile isD)) = l.takeWhile isD
       · refine Ev.pos (by rw [toList_BA, toList_BA]; exact hq) (Ev.val ?_)
         have : parseNum l = some (valD 0 (l.takeWhile isD), l.dropWhile isD) := if_pos ⟨hb, hq⟩
         unfold parse
         rw [this]
         rfl
       · refine Ev.neg (by rw [toList_BA, toList_BA]; exact hq) (Ev.val ?_)
         have : parseNum l = none := if_neg (fun h => hq h.2)
         unfold parse
         rw [this]
         rfl
     · refine Ev.pos (by omega) (Ev.val ?_)
       have : parseNum l = none := if_neg (fun h => hb h.1)
       unfold parse
       rw [this]
       rfl
   · have ha : strconv_Atoi.f (BA (l.takeWhile isD)) = some (Lib.atoiSat (l.takeWhile isD), some 0) := by
       unfold strconv_Atoi.f
       rw [if_pos hs, data_BA, e]
     refine Ev.call ha ?_
     refine Ev.neg (by simp) (Ev.val ?_)
     have : parseNum l = none := if_neg (fun h => absurd h.1 (by omega))
     unfold parse
     rw [this]
     rfl
theorem readArr_l0 (l : By) (hl : l.length ≤ 1000000) : ∀ (n i : Nat), l.length - i = n → i ≤ l.length → (l.take i).all isD = true → Ev (fun k => impl_readArr.l0 k (BA l) (i : Int)) (resA 0 (parse 0 l)) := by
 intro n
 induction n with
 | zero =>
   intro i h hi hall
   obtain ⟨h1, _⟩ := take_split i hall (fun x => by omega)
   have he : (l.takeWhile isD).length = i := by rw [h1, List.length_take]; omega
   refine Ev.step' ?_; simp only [impl_readArr.l0]
   refine Ev.neg (by rw [BA_size]; omega) ?_
   rw [← he]
   exact readArr_j1 l hl
 | succ n ih =>
   intro i h hi hall
   have hlt : i < l.length := by omega
   refine Ev.step' ?_; simp only [impl_readArr.l0]
   refine Ev.pos (by rw [BA_size]; omega) (Ev.pos (by omega) ?_)
   simp only [bt_at hlt]
   by_cases hd : isD l[i] = true
   · obtain ⟨h1, h2⟩ := (isD_iff _).1 hd
     refine Ev.pos (by omega) (Ev.pos (by omega) ?_)
     rw [wrapS (by omega) (by omega)]
     exact ih (i + 1) (by omega) (by omega) (by rw [List.take_succ_eq_append_getElem hlt, List.all_append, hall]; simp [hd])
   · have hd' : isD l[i] = false := by simpa using hd
     obtain ⟨h1, _⟩ := take_split i hall (fun x => hd')
     have he : (l.takeWhile isD).length = i := by rw [h1, List.length_take]; omega
     have hj := readArr_j1 l hl
     rw [he] at hj
     by_cases h1 : (48 : Int) ≤ (l[i].toNat : Int)
     · refine Ev.pos h1 (Ev.neg ?_ hj)
       intro h2
       exact hd ((isD_iff _).2 ⟨by omega, by omega⟩)
     · exact Ev.neg h1 hj
theorem readArr_zero (l : By) (hl : l.length ≤ 1000000) : Ev (fun k => impl_readArr.f k (BA l) 0) (resA 0 (parse 0 l)) := by
 refine Ev.step' ?_; simp only [impl_readArr.f]
 exact Ev.pos (by first | trivial | rfl) (readArr_l0 l hl _ 0 rfl (by omega) rfl)


theorem parse_nil : ∀ d, parse d [] = none
 | 0 => by
   unfold parse
   have : parseNum [] = none := if_neg (fun h => dec_ne _ h.2)
   rw [this]
   rfl
 | d + 1 => rfl
theorem parse_93 : ∀ d (t : By), parse d (93 :: t) = none
 | 0, t => by
   unfold parse
   have : parseNum (93 :: t) = none := if_neg (fun h => dec_ne _ (h.2.trans (by simp [isD])))
   rw [this]
   rfl
 | d + 1, t => by
   unfold parse
   simp
theorem parse_len {d : Nat} {l : By} {v : Tr} {r : By} (h : parse d l = some (v, r)) : r.length ≤ l.length := by
 have := congrArg List.length (parse_sound d l v r h).1
 rw [List.length_append] at this
 omega
theorem BA_nil : BA [] = (⟨#[]⟩ : ByteArray) := rfl
theorem BA_tail (c : UInt8) (t : By) : (BA (c :: t)).extract 1 (BA (c :: t)).size = BA t := by
 rw [BA_extract]
 simp
theorem bt_zero (c : UInt8) (t : By) : bt (BA (c :: t)) 0 = (c.toNat : Int) := bt_BA _ _
theorem toNat_ne {c : UInt8} {n : Nat} (h : c ≠ UInt8.ofNat n) (hn : n < 256) : ((c.toNat : Int)) ≠ (n : Int) := by
 intro e
 apply h
 apply UInt8.toNat.inj
 rw [UInt8.toNat_ofNat']
 omega
/-- .. and what is left of the parts, at the loop's head. -/
def resL (d : Nat) (acc : List NA) : Option (List Tr × By) → RA
 | none => badA
 | some (vs, r) => (0, acc ++ vs.map (cA d), BA r, true)
theorem readArr_l1 (d : Nat) (hd : d ≤ 1000) (hf : ∀ l : By, l.length ≤ 1000000 → Ev (fun k => impl_readArr.f k (BA l) (d : Int)) (resA d (parse d l))) :
   ∀ (n : Nat) (l : By) (acc : List NA), l.length < n → acc.length + l.length ≤ 1000000 → (acc ≠ [] ∨ ∀ t, l ≠ 93 :: t) → Ev (fun k => impl_readArr.l1 k (BA l) ((d + 1 : Nat) : Int) 0 acc) (resL d acc (parseL (parse d) n l)) := by
 intro n
 induction n with
 | zero => intro l acc h; omega
 | succ n ih =>
   intro l acc hn hb hcase
   have hbad : Ev (fun k => impl_readArr.j5 k ((d + 1 : Nat) : Int) (BA []) true 0 acc 0 []) badA := by
     refine Ev.step' ?_; simp only [impl_readArr.j5]
     exact Ev.pos (by first | trivial | rfl) (Ev.now _)
   have hbad2 : ∀ (x : ByteArray) (m : Int) (ps : List NA), Ev (fun k => impl_readArr.j5 k ((d + 1 : Nat) : Int) x true 0 acc m ps) badA := by
     intro x m ps
     refine Ev.step' ?_; simp only [impl_readArr.j5]
     exact Ev.pos (by first | trivial | rfl) (Ev.now _)
   have hj4 : l ≠ [] → Ev (fun k => impl_readArr.j4 k (BA l) ((d + 1 : Nat) : Int) true 0 acc) (resL d acc (parseL (parse d) (n + 1) l)) := by
     intro hne
     refine Ev.step' ?_; simp only [impl_readArr.j4]
     refine Ev.pos (by first | trivial | rfl) ?_
     rw [show wrap64 (((d + 1 : Nat) : Int) - 1) = (d : Int) by rw [wrapS (by omega) (by omega)]; omega]
     refine Ev.bind (hf l (by omega)) ?_
     unfold parseL
     cases hp : parse d l with
     | none => exact Ev.neg (by simp [resA, badA]) (hbad2 _ _ _)
     | some q =>
       obtain ⟨v, r⟩ := q
       have hr := parse_len hp
       refine Ev.pos (by first | trivial | rfl) ?_
       cases r with
       | nil => exact Ev.pos (toList_BA []) (hbad2 _ _ _)
       | cons c r' =>
         simp only [List.length_cons] at hr
         have hj5 : ∀ b : Bool, b = false → (c = 44 ∨ c = 93) → Ev (fun k => impl_readArr.j5 k ((d + 1 : Nat) : Int) (BA (c :: r')) b 0 acc (cA d v).f0 (cA d v).f1) (if c = 93 then (0, acc ++ [cA d v], BA r', true) else resL d (acc ++ [cA d v]) (parseL (parse d) n r')) := by
           intro b hb0 hc
           subst hb0
           refine Ev.step' ?_; simp only [impl_readArr.j5]
           refine Ev.neg (by simp) (Ev.pos (by omega) ?_)
           refine Ev.call (a := acc ++ [cA d v]) (by rw [mkA]) ?_
           refine Ev.pos (by simp <;> omega) ?_
           by_cases h93 : c = 93
           · subst h93
             rw [if_pos rfl]
             refine Ev.pos (bt_zero _ _) (Ev.pos (by simp <;> omega) (Ev.val ?_))
             rw [BA_tail]
           · rw [if_neg h93]
             refine Ev.neg (by rw [bt_zero]; exact toNat_ne (n := 93) h93 (by omega)) (Ev.pos (by simp <;> omega) ?_)
             rw [BA_tail]
             exact ih r' _ (by omega) (by simp <;> omega) (.inl (by simp))
         refine Ev.neg (by show ¬ (BA (c :: r')).toList = []; rw [toList_BA]; simp) (Ev.pos (by show (0 : Int) < ((BA (c :: r')).size : Int); simp <;> omega) ?_)
         have hb0 : bt (resA d (some (v, c :: r'))).2.2.1 0 = (c.toNat : Int) := bt_zero _ _
         by_cases h44 : c = 44
         · subst h44
           refine Ev.pos (bt_zero _ _) (evIs (hj5 false rfl (.inl rfl)) ?_)
           simp only [if_true]
           rw [if_neg (by decide)]
           cases parseL (parse d) n r' with
           | none => rfl
           | some q => simp [resL]
         · refine Ev.neg (by rw [hb0]; exact toNat_ne (n := 44) h44 (by omega)) ?_
           by_cases h93 : c = 93
           · subst h93
             refine evIs (hj5 _ (by rw [hb0]; rfl) (.inr rfl)) ?_
             simp [resL]
           · have e : (bt (resA d (some (v, c :: r'))).2.2.1 0 != 93) = true := by
               rw [hb0]
               simpa using toNat_ne (n := 93) h93 (by omega)
             rw [e]
             refine evIs (hbad2 _ _ _) ?_
             simp [h44, h93, resL]
   refine Ev.step' ?_; simp only [impl_readArr.l1]
   cases l with
   | nil =>
     refine Ev.pos (toList_BA []) ?_
     refine Ev.step' ?_; simp only [impl_readArr.j4]
     refine Ev.neg (by simp) (Ev.pos (toList_BA []) (Ev.val ?_))
     unfold parseL
     rw [parse_nil]
     rfl
   | cons c t =>
     refine Ev.neg (by rw [toList_BA]; simp) (Ev.pos (by simp <;> omega) ?_)
     by_cases h93 : c = 93
     · subst h93
       refine Ev.pos (bt_zero _ _) ?_
       rcases hcase with hacc | hh
       · have hpos : 0 < acc.length := List.length_pos_iff.2 hacc
         rw [show decide ((acc.length : Int) > 0) = true by simp; exact hpos]
         exact hj4 (by simp)
       · exact absurd rfl (hh t)
     · refine Ev.neg (by rw [bt_zero]; exact toNat_ne (n := 93) h93 (by omega)) (hj4 (by simp))
theorem readArr_is : ∀ (d : Nat), d ≤ 1000 → ∀ l : By, l.length ≤ 1000000 → Ev (fun k => impl_readArr.f k (BA l) (d : Int)) (resA d (parse d l))
 | 0, _, l, hl => readArr_zero l hl
 | d + 1, hd, l, hl => by
   have ih := readArr_is d (by omega)
   refine Ev.step' ?_; simp only [impl_readArr.f]
   refine Ev.neg (by omega) ?_
   have hj2 : ∀ x : ByteArray, Ev (fun k => impl_readArr.j2 k x ((d + 1 : Nat) : Int) true) badA := by
     intro x
     refine Ev.step' ?_; simp only [impl_readArr.j2]
     exact Ev.pos (by first | trivial | rfl) (Ev.now _)
   cases l with
   | nil => exact Ev.pos (toList_BA []) (hj2 _)
   | cons c t =>
     refine Ev.neg (by rw [toList_BA]; simp) (Ev.pos (by simp <;> omega) ?_)
     by_cases h91 : c = 91
     · subst h91
       rw [show (bt (BA (91 :: t)) 0 != 91) = false by rw [bt_zero]; rfl]
       refine Ev.step' ?_; simp only [impl_readArr.j2]
       refine Ev.neg (by simp) (Ev.pos (by simp <;> omega) ?_)
       rw [BA_tail]
       simp only [List.length_cons] at hl
       cases t with
       | nil =>
         refine evIs (readArr_l1 d (by omega) ih 1 [] [] (by simp) (by simp) (.inr (by simp))) ?_
         unfold parse parseL
         rw [parse_nil]
         rfl
       | cons c' t' =>
         by_cases h93 : c' = 93
         · subst h93
           refine Ev.step' ?_; simp only [impl_readArr.l1]
           refine Ev.neg (by rw [toList_BA]; simp) (Ev.pos (by simp <;> omega) (Ev.pos (bt_zero _ _) ?_))
           rw [show decide ((([] : List NA).length : Int) > 0) = false from rfl]
           refine Ev.step' ?_; simp only [impl_readArr.j4]
           refine Ev.neg (by simp) (Ev.neg (by rw [toList_BA]; simp) (Ev.pos (by simp <;> omega) (Ev.val ?_)))
           rw [BA_tail]
           rfl
         · refine evIs (readArr_l1 d (by omega) ih _ (c' :: t') [] (Nat.lt_succ_self _) (by simp only [List.length_cons, List.length_nil] at hl ⊢; omega) (.inr (by intro t e; exact h93 (List.cons.inj e).1))) ?_
           unfold parse
           simp only [if_true, if_neg h93]
           cases parseL (parse d) ((c' :: t').length + 1) (c' :: t') with
           | none => rfl
           | some q => rfl
     · rw [show (bt (BA (c :: t)) 0 != 91) = true by rw [bt_zero]; simpa using toNat_ne (n := 91) h91 (by omega)]
       refine evIs (hj2 _) ?_
       unfold parse
       simp only [if_neg h91]
       rfl

/-! ### spec's reader -/
theorem drop_split {s : By} {p : Nat} (h : p < s.length) : s.drop p = s[p] :: s.drop (p + 1) := List.drop_eq_getElem_cons h
theorem valD_ltP : ∀ (l : By) (p a b : Nat), p = 10 ^ l.length → l.all isD = true → a < b → valD a l < b * p
 | [], p, a, b, hp, _, h => by
   have hp1 : p = 1 := hp
   have : valD a [] = a := rfl
   rw [this, hp1, Nat.mul_one]
   exact h
 | c :: r, p, a, b, hp, hall, h => by
   simp only [List.all_cons, Bool.and_eq_true] at hall
   have hc := (isD_iff _).1 hall.1
   have h1 := valD_ltP r (10 ^ r.length) (a * 10 + (c.toNat - 48)) (b * 10) rfl hall.2 (by omega)
   have h2 : p = 10 ^ r.length * 10 := hp
   have h4 : valD a (c :: r) = valD (a * 10 + (c.toNat - 48)) r := rfl
   generalize 10 ^ r.length = q at *
   rw [h4, h2, Nat.mul_comm q 10, ← Nat.mul_assoc]
   exact h1
theorem valD_lt (l : By) (a b : Nat) (hall : l.all isD = true) (h : a < b) : valD a l < b * 10 ^ l.length := valD_ltP l _ a b rfl hall h
theorem l13Num_l0 (ds : By) (hall : ds.all isD = true) (hl : ds.length ≤ 17) : ∀ (n i : Nat), ds.length - i = n → i ≤ ds.length → Ev (fun k => spec_l13Num.l0 k (BA ds) false (valD 0 (ds.take i) : Int) (i : Int)) ((valD 0 ds : Int), true) := by
 intro n
 induction n with
 | zero =>
   intro i h hi
   refine Ev.step' ?_; simp only [spec_l13Num.l0]
   refine Ev.neg (by simp <;> omega) (Ev.neg (by simp) (Ev.val ?_))
   rw [List.take_of_length_le (by omega)]
 | succ n ih =>
   intro i h hi
   have hlt : i < ds.length := by omega
   have hd : isD ds[i] = true := List.all_eq_true.1 hall _ (List.getElem_mem hlt)
   have hc := (isD_iff _).1 hd
   refine Ev.step' ?_; simp only [spec_l13Num.l0]
   simp only [bt_at hlt]
   refine Ev.pos (by simp <;> omega) (Ev.pos (by omega) (Ev.neg (by omega) (Ev.neg (by omega) ?_)))
   have hv : valD 0 (ds.take i) < 1 * 10 ^ (ds.take i).length := valD_lt _ _ _ (by
     rw [List.all_eq_true] at hall ⊢
     intro x hx
     exact hall x (List.mem_of_mem_take hx)) (by omega)
   have hpow : 10 ^ (ds.take i).length ≤ 10 ^ 17 := Nat.pow_le_pow_right (by omega) (by rw [List.length_take]; omega)
   have hv2 : valD 0 (ds.take i) < 100000000000000000 := by
     generalize 10 ^ (ds.take i).length = q at *
     omega
   have e1 : wrap64 (wrap64 ((valD 0 (ds.take i) : Int) * 10) + ((ds[i].toNat : Int) - 48) % 256) = (valD 0 (ds.take (i + 1)) : Int) := by
     rw [List.take_succ_eq_append_getElem hlt, valD_append, valD_one, wrapS (a := (valD 0 (ds.take i) : Int) * 10) (by omega) (by omega), wrapS (by omega) (by omega)]
     omega
   rw [e1, wrapS (by omega) (by omega)]
   exact ih (i + 1) (by omega) (by omega)
theorem l13_is (ds : By) (hall : ds.all isD = true) (hl : ds.length ≤ 17) : Ev (fun k => spec_l13Num.f k (BA ds)) (if Lib.decDigits (valD 0 ds) = ds then ((valD 0 ds : Int), true) else (0, false)) := by
 have hj2 : ∀ x : ByteArray, Ev (fun k => spec_l13Num.j2 k x false true) (0, false) := by
   intro x
   refine Ev.step' ?_; simp only [spec_l13Num.j2]
   exact Ev.pos (by first | trivial | rfl) (Ev.now _)
 unfold spec_l13Num.f
 cases ds with
 | nil =>
   refine Ev.neg (by simp) ?_
   refine Ev.step' ?_; simp only [spec_l13Num.j0]
   refine Ev.neg (by simp) ?_
   refine Ev.step' ?_; simp only [spec_l13Num.j1]
   refine Ev.pos (by simp) (evIs (hj2 _) ?_)
   rw [if_neg (dec_ne _)]
 | cons c r =>
   have hd : isD c = true := by
     simp only [List.all_cons, Bool.and_eq_true] at hall
     exact hall.1
   have hc := (isD_iff _).1 hd
   simp only [List.length_cons] at hl
   refine Ev.pos (by simp <;> omega) (Ev.pos (by simp <;> omega) ?_)
   rw [show (bt (BA (c :: r)) 0 == 45) = false by rw [bt_zero]; simp; omega]
   refine Ev.step' ?_; simp only [spec_l13Num.j0]
   refine Ev.neg (by simp) ?_
   refine Ev.step' ?_; simp only [spec_l13Num.j1]
   refine Ev.neg (by simp <;> omega) (Ev.neg (by simp <;> omega) (Ev.pos (by simp <;> omega) ?_))
   have hj2f : (c ≠ 48 ∨ r = []) → Ev (fun k => spec_l13Num.j2 k (BA (c :: r)) false false) (if Lib.decDigits (valD 0 (c :: r)) = c :: r then ((valD 0 (c :: r) : Int), true) else (0, false)) := by
     intro h
     refine Ev.step' ?_; simp only [spec_l13Num.j2]
     refine Ev.neg (by simp) (evIs (l13Num_l0 (c :: r) hall (by simp only [List.length_cons]; omega) _ 0 rfl (by omega)) ?_)
     rw [if_pos ((dec_val_iff hall).2 ⟨c, r, rfl, h⟩)]
   by_cases h48 : c = 48
   · subst h48
     refine Ev.pos (bt_zero _ _) ?_
     by_cases hr : r = []
     · subst hr
       exact Ev.neg (by simp) (hj2f (.inr rfl))
     · have := List.length_pos_iff.2 hr
       refine Ev.pos (by simp <;> omega) (evIs (hj2 _) ?_)
       rw [if_neg]
       intro h
       obtain ⟨c', r', e, h1⟩ := (dec_val_iff hall).1 h
       obtain ⟨rfl, rfl⟩ := List.cons.inj e
       rcases h1 with h1 | h1
       · exact h1 rfl
       · exact hr h1
   · exact Ev.neg (by rw [bt_zero]; exact toNat_ne (n := 48) h48 (by omega)) (hj2f (.inl h48))

abbrev RS := Int × List NS × ByteArray × Int × Bool
def OutS (d : Nat) (s : By) : Option (Tr × By) → RS → Prop
 | none, res => res.2.2.2.2 = true
 | some (v, r), res => res = ((cS d v).f0, (cS d v).f1, BA s, ((s.length - r.length : Nat) : Int), false)
theorem inN_is (n a b : Int) : spec_l1In.f n a b = some (decide (a ≤ n ∧ n ≤ b)) := by
 unfold spec_l1In.f
 by_cases h1 : a ≤ n
 · by_cases h2 : n ≤ b <;> simp [h1, h2]
 · simp [h1]
theorem number_end (x : ByteArray) (a b : Nat) (hab : a ≤ b) (hb : b ≤ x.size) (q : Int × Bool) (hq : Ev (fun k => spec_l13Num.f k (x.extract a b)) q) :
   Ev (fun k => if 0 ≤ (a : Int) then (if (a : Int) ≤ (b : Int) then (if (b : Int) ≤ (x.size : Int) then ((spec_l13Num.f k (x.extract (a : Int).toNat (b : Int).toNat)).bind fun bt152 => (if (false = true) then (some (bt152.1, x, (b : Int), true)) else (if bt152.2 = true then ((spec_l1In.f bt152.1 0 10006).bind fun t154 => (some (bt152.1, x, (b : Int), !t154))) else (some (bt152.1, x, (b : Int), true))))) else (none)) else (none)) else (none)) (q.1, x, (b : Int), false || !q.2 || !(decide (0 ≤ q.1) && decide (q.1 ≤ 10006))) := by
 refine Ev.pos (by omega) (Ev.pos (by omega) (Ev.pos (by omega) (Ev.bind hq (Ev.neg (by simp) ?_))))
 by_cases h : q.2 = true
 · refine Ev.pos h ?_
   rw [inN_is]
   refine Ev.val ?_
   rw [h]
   simp only [Bool.false_or, Bool.not_true, Bool.decide_and]
 · refine Ev.neg h (Ev.val ?_)
   simp [h]
theorem number_l0 (s : By) (p : Nat) (hp : p ≤ s.length) (hs : s.length ≤ 1000000) (J : Nat) (hJ : J = min 6 ((s.drop p).takeWhile isD).length) (q : Int × Bool) (hq : Ev (fun k => spec_l13Num.f k ((BA s).extract p (p + J))) q) : ∀ (n j : Nat), J - j = n → j ≤ J →
   Ev (fun k => spec_l1Reader_number.l0 k (p : Int) (BA s) ((p + j : Nat) : Int) false) (q.1, BA s, ((p + J : Nat) : Int), false || !q.2 || !(decide (0 ≤ q.1) && decide (q.1 ≤ 10006))) := by
 have hcnt : ((s.drop p).takeWhile isD).length ≤ s.length - p := by
   have := congrArg List.length (List.takeWhile_append_dropWhile (p := isD) (l := s.drop p))
   rw [List.length_append, List.length_drop] at this
   omega
 have hdig : ∀ j, (hj : j < ((s.drop p).takeWhile isD).length) → (h : p + j < s.length) → isD s[p + j] = true := by
   intro j hj h
   have h1 : ((s.drop p).takeWhile isD)[j] = s[p + j] := by
     have e : s.drop p = (s.drop p).takeWhile isD ++ (s.drop p).dropWhile isD := List.takeWhile_append_dropWhile.symm
     have h2 : (s.drop p)[j]? = some s[p + j] := by rw [List.getElem?_drop, List.getElem?_eq_getElem h]
     rw [e, List.getElem?_append_left hj, List.getElem?_eq_getElem hj] at h2
     exact Option.some.inj h2
   have := List.all_eq_true.1 (List.all_takeWhile (p := isD) (l := s.drop p)) _ (List.getElem_mem hj)
   rwa [h1] at this
 have hnot : ∀ (h : p + ((s.drop p).takeWhile isD).length < s.length), isD (s[p + ((s.drop p).takeWhile isD).length]'h) = false := by
   intro h
   have e : s.drop p = (s.drop p).takeWhile isD ++ (s.drop p).dropWhile isD := List.takeWhile_append_dropWhile.symm
   have h2 : (s.drop p)[((s.drop p).takeWhile isD).length]? = some (s[p + ((s.drop p).takeWhile isD).length]'h) := by rw [List.getElem?_drop, List.getElem?_eq_getElem h]
   generalize hW : (s.drop p).takeWhile isD = W at *
   have h3 : (W ++ (s.drop p).dropWhile isD)[W.length]? = some (s[p + W.length]'h) := by rw [← e]; exact h2
   rw [List.getElem?_append_right (Nat.le_refl _), Nat.sub_self] at h3
   cases hR : (s.drop p).dropWhile isD with
   | nil => rw [hR] at h3; simp at h3
   | cons c t =>
     rw [hR] at h3
     simp only [List.getElem?_cons_zero, Option.some.injEq] at h3
     rw [← h3]
     have := List.head?_dropWhile_not (p := isD) (l := s.drop p)
     rw [hR] at this
     simpa using this
 intro n
 induction n with
 | zero =>
   intro j h1 h2
   obtain rfl : j = J := by omega
   have hend := number_end (BA s) p (p + j) (by omega) (by rw [BA_size]; omega) q hq
   refine Ev.step' ?_; simp only [spec_l1Reader_number.l0]
   by_cases hlt : p + j < s.length
   · refine Ev.pos (by rw [BA_size]; omega) (Ev.pos (by omega) ?_)
     rw [inN_is, bt_at hlt, wrapS (by have := s[p + j].toNat_lt; omega) (by have := s[p + j].toNat_lt; omega)]
     by_cases h6 : ((s.drop p).takeWhile isD).length ≤ 6
     · obtain rfl : j = ((s.drop p).takeWhile isD).length := by omega
       have := hnot hlt
       refine Ev.bind (Ev.now _) (Ev.neg ?_ hend)
       rw [decide_eq_true_eq]
       intro hh
       have e : isD (s[p + ((s.drop p).takeWhile isD).length]'hlt) = true := (isD_iff _).2 ⟨by omega, by omega⟩
       rw [this] at e
       cases e
     · by_cases hd : (48 : Int) ≤ (s[p + j].toNat : Int) ∧ (s[p + j].toNat : Int) ≤ 57
       · refine Ev.bind (Ev.now _) (Ev.pos (by rw [decide_eq_true_eq]; exact hd) (Ev.neg ?_ hend))
         rw [wrapS (by omega) (by omega)]
         omega
       · exact Ev.bind (Ev.now _) (Ev.neg (by rw [decide_eq_true_eq]; exact hd) hend)
   · exact Ev.neg (by rw [BA_size]; omega) hend
 | succ n ih =>
   intro j h1 h2
   have hlt : p + j < s.length := by omega
   have hd := (isD_iff _).1 (hdig j (by omega) hlt)
   have hnext := ih (j + 1) (by omega) (by omega)
   refine Ev.step' ?_; simp only [spec_l1Reader_number.l0]
   refine Ev.pos (by rw [BA_size]; omega) (Ev.pos (by omega) ?_)
   rw [inN_is, bt_at hlt, wrapS (by omega) (by omega)]
   refine Ev.bind (Ev.now _) (Ev.pos (by rw [decide_eq_true_eq]; omega) (Ev.pos ?_ ?_))
   · rw [wrapS (by omega) (by omega)]
     omega
   · rw [show wrap64 (((p + j : Nat) : Int) + 1) = ((p + (j + 1) : Nat) : Int) by rw [wrapS (by omega) (by omega)]; omega]
     exact hnext
theorem number_is (s : By) (p : Nat) (hp : p ≤ s.length) (hs : s.length ≤ 1000000) :
   ∃ res : Int × ByteArray × Int × Bool, Ev (fun k => spec_l1Reader_number.f k (BA s) (p : Int) false) res ∧ OutS 0 s (parse 0 (s.drop p)) (res.1, [], res.2.1, res.2.2.1, res.2.2.2) := by
 have hcnt : ((s.drop p).takeWhile isD).length + ((s.drop p).dropWhile isD).length = s.length - p := by
   have := congrArg List.length (List.takeWhile_append_dropWhile (p := isD) (l := s.drop p))
   rw [List.length_append, List.length_drop] at this
   exact this
 have hall : ((s.drop p).takeWhile isD).all isD = true := List.all_takeWhile
 have hx : (BA s).extract p (p + min 6 ((s.drop p).takeWhile isD).length) = BA (((s.drop p).takeWhile isD).take 6) := by
   rw [BA_extract]
   congr 1
   have e : s.drop p = (s.drop p).takeWhile isD ++ (s.drop p).dropWhile isD := List.takeWhile_append_dropWhile.symm
   generalize hW : (s.drop p).takeWhile isD = W at *
   generalize hR : (s.drop p).dropWhile isD = R at *
   rw [e, show p + min 6 W.length - p = min 6 W.length by omega, List.take_append_of_le_length (by omega)]
   by_cases h6 : 6 ≤ W.length
   · rw [show min 6 W.length = 6 by omega]
   · rw [List.take_of_length_le (by omega), List.take_of_length_le (by omega)]
 have hall6 : (((s.drop p).takeWhile isD).take 6).all isD = true := by
   rw [List.all_eq_true] at hall ⊢
   intro x hx
   exact hall x (List.mem_of_mem_take hx)
 have hE : ∀ q : Int × Bool, q = (if Lib.decDigits (valD 0 (((s.drop p).takeWhile isD).take 6)) = ((s.drop p).takeWhile isD).take 6 then ((valD 0 (((s.drop p).takeWhile isD).take 6) : Int), true) else (0, false)) →
     Ev (fun k => spec_l1Reader_number.f k (BA s) (p : Int) false) (q.1, BA s, ((p + min 6 ((s.drop p).takeWhile isD).length : Nat) : Int), false || !q.2 || !(decide (0 ≤ q.1) && decide (q.1 ≤ 10006))) := by
   intro q hq
   subst hq
   have hl := l13_is _ hall6 (by rw [List.length_take]; omega)
   rw [← hx] at hl
   unfold spec_l1Reader_number.f
   exact number_l0 s p hp hs _ rfl _ hl _ 0 rfl (Nat.zero_le _)
 refine ⟨_, hE _ rfl, ?_⟩
 · unfold parse parseNum
   generalize hW : (s.drop p).takeWhile isD = W at *
   generalize hR : (s.drop p).dropWhile isD = R at *
   by_cases h6 : W.length ≤ 6
   · rw [List.take_of_length_le h6]
     by_cases hdec : Lib.decDigits (valD 0 W) = W
     · by_cases hv : valD 0 W < 10007
       · rw [if_pos ⟨hv, hdec⟩, if_pos hdec]
         show _ = _
         simp only [cS, Prod.mk.injEq, true_and, Bool.false_or]
         refine ⟨by omega, ?_⟩
         simp
         omega
       · rw [if_neg (fun h => hv h.1), if_pos hdec]
         show _ = _
         simp
         omega
     · rw [if_neg (fun h => hdec h.2), if_neg hdec]
       rfl
   · have hnone : ¬ (valD 0 W < 10007 ∧ Lib.decDigits (valD 0 W) = W) := by
       rintro ⟨hv, hdec⟩
       obtain ⟨c, r, e, h1⟩ := (dec_val_iff hall).1 hdec
       rw [e] at hall hv h6
       simp only [List.all_cons, Bool.and_eq_true] at hall
       simp only [List.length_cons] at h6
       rcases h1 with h1 | h1
       · have := six_big hall.1 h1 (r := r) (by omega)
         omega
       · rw [h1] at h6
         simp at h6
     rw [if_neg hnone]
     show _ = _
     split
     · next hdec =>
       obtain ⟨c, r, e, h1⟩ := (dec_val_iff hall6).1 hdec
       have hl6 : (W.take 6).length = 6 := by rw [List.length_take]; omega
       rw [e] at hall6 hl6 ⊢
       simp only [List.all_cons, Bool.and_eq_true] at hall6
       simp only [List.length_cons] at hl6
       rcases h1 with h1 | h1
       · have := six_big hall6.1 h1 (r := r) (by omega)
         simp
         omega
       · rw [h1] at hl6
         simp at hl6
     · rfl

theorem is_hit {s : By} {p : Nat} {c : UInt8} {t : By} (h : s.drop p = c :: t) (hs : s.length ≤ 1000000) (ch : Int) (e : (c.toNat : Int) = ch) : spec_l1Reader_is.f (BA s) (p : Int) false ch = some (true, BA s, ((p + 1 : Nat) : Int), false) := by
 have hp : p < s.length := by
   rcases Nat.lt_or_ge p s.length with h1 | h1
   · exact h1
   · rw [List.drop_eq_nil_of_le h1] at h; cases h
 rw [drop_split hp] at h
 obtain ⟨rfl, rfl⟩ := List.cons.inj h
 unfold spec_l1Reader_is.f
 rw [if_pos (by rw [BA_size]; omega), if_pos (by omega), bt_at hp, if_pos e, wrapS (by omega) (by omega)]
 rfl
theorem is_miss {s : By} {p : Nat} (ch : Int) (h : ∀ c t, s.drop p = c :: t → (c.toNat : Int) ≠ ch) : spec_l1Reader_is.f (BA s) (p : Int) false ch = some (false, BA s, (p : Int), false) := by
 unfold spec_l1Reader_is.f
 by_cases hp : p < s.length
 · rw [if_pos (by rw [BA_size]; omega), if_pos (by omega), bt_at hp, if_neg (h _ _ (drop_split hp))]
 · rw [if_neg (by rw [BA_size]; omega)]
def tailL (d n : Nat) : By → Option (List Tr × By)
 | [] => none
 | c :: r => if c = 44 then parseL (parse d) n r else if c = 93 then some ([], r) else none
theorem parseL_tail (d n : Nat) (s : By) : parseL (parse d) (n + 1) s = (parse d s).bind fun q => (tailL d n q.2).map fun z => (q.1 :: z.1, z.2) := by
 unfold parseL
 cases parse d s with
 | none => rfl
 | some q =>
   obtain ⟨v, r⟩ := q
   cases r with
   | nil => rfl
   | cons c r =>
     simp only [tailL, Option.bind_some]
     by_cases h44 : c = 44
     · subst h44
       rfl
     · rw [if_neg h44, if_neg h44]
       by_cases h93 : c = 93
       · rw [if_pos h93, if_pos h93]; rfl
       · rw [if_neg h93, if_neg h93]; rfl
def OutL (d : Nat) (s : By) (acc : List NS) : Option (List Tr × By) → RS → Prop
 | none, res => res.2.2.2.2 = true
 | some (vs, r), res => res = (0, acc ++ vs.map (cS d), BA s, ((s.length - r.length : Nat) : Int), false)
/-- What holds of each text at a depth. -/
def NodeIs (d : Nat) : Prop := ∀ (s : By) (p : Nat), p ≤ s.length → s.length ≤ 1000000 → ∃ res, Ev (fun k => spec_l1Reader_node.f k (BA s) (p : Int) false (d : Int)) res ∧ OutS d s (parse d (s.drop p)) res
theorem node_bad (x1 m : Int) (x : ByteArray) (y : Int) (ps : List NS) : Ev (fun k => spec_l1Reader_node.l0 k x1 x y true m ps) (m, ps, x, y, true) := by
 refine Ev.step' ?_; simp only [spec_l1Reader_node.l0]
 exact Ev.pos (by first | trivial | rfl) (Ev.now _)
theorem node_l0 (d : Nat) (hd : d ≤ 1000) (hf : NodeIs d) (s : By) (hs : s.length ≤ 1000000) : ∀ (n p : Nat) (acc : List NS), p ≤ s.length → (s.drop p).length ≤ n → acc.length + (s.drop p).length ≤ 1000000 →
   ∃ res, Ev (fun k => spec_l1Reader_node.l0 k ((d + 1 : Nat) : Int) (BA s) (p : Int) false 0 acc) res ∧ OutL d s acc (tailL d n (s.drop p)) res := by
 intro n
 induction n with
 | zero =>
   intro p acc hp hn hb
   have hnil : s.drop p = [] := List.length_eq_zero_iff.1 (by omega)
   have hm : ∀ ch, spec_l1Reader_is.f (BA s) (p : Int) false ch = some (false, BA s, (p : Int), false) := fun ch => is_miss ch (by rw [hnil]; intro c t e; cases e)
   refine ⟨(0, acc, BA s, (p : Int), true), ?_, by rw [hnil]; rfl⟩
   refine Ev.step' ?_; simp only [spec_l1Reader_node.l0]
   refine Ev.neg (by simp) (Ev.call (hm 44) (Ev.neg (by simp) (Ev.neg (by simp) (Ev.call (hm 93) (Ev.val rfl)))))
 | succ n ih =>
   intro p acc hp hn hb
   cases hdr : s.drop p with
   | nil =>
     have hm : ∀ ch, spec_l1Reader_is.f (BA s) (p : Int) false ch = some (false, BA s, (p : Int), false) := fun ch => is_miss ch (by rw [hdr]; intro c t e; cases e)
     refine ⟨(0, acc, BA s, (p : Int), true), ?_, rfl⟩
     refine Ev.step' ?_; simp only [spec_l1Reader_node.l0]
     refine Ev.neg (by simp) (Ev.call (hm 44) (Ev.neg (by simp) (Ev.neg (by simp) (Ev.call (hm 93) (Ev.val rfl)))))
   | cons c t =>
     have hp' : p < s.length := by
       rcases Nat.lt_or_ge p s.length with h1 | h1
       · exact h1
       · rw [List.drop_eq_nil_of_le h1] at hdr; cases hdr
     have ht : s.drop (p + 1) = t := by
       have := drop_split hp'
       rw [hdr] at this
       exact (List.cons.inj this).2.symm
     have htl : t.length = s.length - (p + 1) := by rw [← ht, List.length_drop]
     rw [hdr] at hn hb
     simp only [List.length_cons] at hn hb
     by_cases h44 : c = 44
     · subst h44
       obtain ⟨res, h1, h2⟩ := hf s (p + 1) (by omega) hs
       rw [ht] at h2
       have hgo : ∀ res', (Ev (fun k => spec_l1Reader_node.l0 k ((d + 1 : Nat) : Int) res.2.2.1 res.2.2.2.1 res.2.2.2.2 0 (acc ++ [⟨res.1, res.2.1⟩])) res') → Ev (fun k => spec_l1Reader_node.l0 k ((d + 1 : Nat) : Int) (BA s) (p : Int) false 0 acc) res' := by
         intro res' h
         refine Ev.step' ?_; simp only [spec_l1Reader_node.l0]
         refine Ev.neg (by simp) (Ev.call (is_hit hdr hs 44 rfl) (Ev.pos (by first | trivial | rfl) ?_))
         rw [show wrap64 (((d + 1 : Nat) : Int) - 1) = (d : Int) by rw [wrapS (by omega) (by omega)]; omega]
         exact Ev.bind h1 (Ev.pos (by omega) h)
       have htail : tailL d (n + 1) (44 :: t) = (parse d t).bind fun q => (tailL d n q.2).map fun z => (q.1 :: z.1, z.2) := parseL_tail d n t
       rw [htail]
       cases hq : parse d t with
       | none =>
         rw [hq] at h2
         have hb2 : res.2.2.2.2 = true := h2
         refine ⟨(0, acc ++ [⟨res.1, res.2.1⟩], res.2.2.1, res.2.2.2.1, true), hgo _ ?_, rfl⟩
         rw [hb2]
         exact node_bad _ _ _ _ _
       | some q =>
         obtain ⟨v, r⟩ := q
         rw [hq] at h2
         have hres : res = ((cS d v).f0, (cS d v).f1, BA s, ((s.length - r.length : Nat) : Int), false) := h2
         have hr := parse_len hq
         have hdrop : s.drop (s.length - r.length) = r := by
           obtain ⟨e, _⟩ := parse_sound d t v r hq
           have e2 : s = s.take (p + 1) ++ (text d v ++ r) := by rw [← e, ← ht, List.take_append_drop]
           have e3 : s.length - r.length = (s.take (p + 1) ++ text d v).length := by
             have := congrArg List.length e2
             simp only [List.length_append] at this ⊢
             omega
           conv => lhs; arg 2; rw [e2]
           rw [e3, ← List.append_assoc, List.drop_left]
         have hle : r.length ≤ s.length := by omega
         obtain ⟨res', h3, h4⟩ := ih (s.length - r.length) (acc ++ [cS d v]) (by omega) (by rw [hdrop]; omega) (by rw [hdrop]; simp; omega)
         rw [hdrop] at h4
         refine ⟨res', hgo _ ?_, ?_⟩
         · rw [hres]
           simp only [mkS]
           exact h3
         · simp only [Option.bind_some]
           cases hz : tailL d n r with
           | none => rw [hz] at h4; exact h4
           | some z =>
             rw [hz] at h4
             have h4' : res' = _ := h4
             show res' = _
             rw [h4']
             simp
     · have hm : spec_l1Reader_is.f (BA s) (p : Int) false 44 = some (false, BA s, (p : Int), false) := is_miss 44 (by
         rw [hdr]
         intro c' t' e
         rw [← (List.cons.inj e).1]
         exact toNat_ne (n := 44) h44 (by omega))
       by_cases h93 : c = 93
       · subst h93
         refine ⟨(0, acc, BA s, ((p + 1 : Nat) : Int), false), ?_, ?_⟩
         · refine Ev.step' ?_; simp only [spec_l1Reader_node.l0]
           exact Ev.neg (by simp) (Ev.call hm (Ev.neg (by simp) (Ev.neg (by simp) (Ev.call (is_hit hdr hs 93 rfl) (Ev.val rfl)))))
         · show _ = _
           rw [htl, List.map_nil, List.append_nil, show s.length - (s.length - (p + 1)) = p + 1 by omega]
       · refine ⟨(0, acc, BA s, (p : Int), true), ?_, ?_⟩
         · refine Ev.step' ?_; simp only [spec_l1Reader_node.l0]
           exact Ev.neg (by simp) (Ev.call hm (Ev.neg (by simp) (Ev.neg (by simp) (Ev.call (is_miss 93 (by
             rw [hdr]
             intro c' t' e
             rw [← (List.cons.inj e).1]
             exact toNat_ne (n := 93) h93 (by omega))) (Ev.val rfl)))))
         · simp only [tailL, if_neg h44, if_neg h93]
           rfl
theorem drop_rest {s t r u : By} {p : Nat} (ht : s.drop p = t) (e : t = u ++ r) (hp : p ≤ s.length) : s.drop (s.length - r.length) = r ∧ r.length ≤ s.length - p := by
 have e2 : s = s.take p ++ (u ++ r) := by rw [← e, ← ht, List.take_append_drop]
 have e3 : s.length - r.length = (s.take p ++ u).length := by
   have := congrArg List.length e2
   simp only [List.length_append] at this ⊢
   omega
 constructor
 · conv => lhs; arg 2; rw [e2]
   rw [e3, ← List.append_assoc, List.drop_left]
 · have := congrArg List.length e
   rw [← ht, List.length_append, List.length_drop] at this
   omega
theorem node_is : ∀ d, d ≤ 1000 → NodeIs d
 | 0, _ => by
   intro s p hp hs
   obtain ⟨res, h1, h2⟩ := number_is s p hp hs
   refine ⟨(res.1, [], res.2.1, res.2.2.1, res.2.2.2), ?_, h2⟩
   refine Ev.step' ?_; simp only [spec_l1Reader_node.f]
   refine Ev.call (a := ([] : List NS)) rfl (Ev.pos (by first | trivial | rfl) ?_)
   exact Ev.bind h1 (Ev.now _)
 | d + 1, hd => by
   have ih := node_is d (by omega)
   intro s p hp hs
   cases hdr : s.drop p with
   | nil =>
     refine ⟨(0, [], BA s, (p : Int), true), ?_, by rw [parse_nil]; rfl⟩
     refine Ev.step' ?_; simp only [spec_l1Reader_node.f]
     refine Ev.call (a := ([] : List NS)) rfl (Ev.neg (by omega) (Ev.call (is_miss 91 (by rw [hdr]; intro c t e; cases e)) (Ev.neg (by simp) (Ev.val rfl))))
   | cons c t =>
     have hp' : p < s.length := by
       rcases Nat.lt_or_ge p s.length with h1 | h1
       · exact h1
       · rw [List.drop_eq_nil_of_le h1] at hdr; cases hdr
     have ht : s.drop (p + 1) = t := by
       have := drop_split hp'
       rw [hdr] at this
       exact (List.cons.inj this).2.symm
     have htl : t.length = s.length - (p + 1) := by rw [← ht, List.length_drop]
     by_cases h91 : c = 91
     · subst h91
       have hgo : ∀ res, Ev (fun k => (spec_l1Reader_is.f (BA s) ((p + 1 : Nat) : Int) false 93).bind fun bt114 => (if bt114.1 = true then (some (0, ([] : List NS), bt114.2.1, bt114.2.2.1, bt114.2.2.2)) else ((spec_l1Reader_node.f k bt114.2.1 bt114.2.2.1 bt114.2.2.2 (d : Int)).bind fun bt118 => (if ([] : List NS).length < 4398046511104 then (spec_l1Reader_node.l0 k ((d + 1 : Nat) : Int) bt118.2.2.1 bt118.2.2.2.1 bt118.2.2.2.2 0 (([] : List NS) ++ [(⟨bt118.1, bt118.2.1⟩ : NS)])) else (none))))) res →
           Ev (fun k => spec_l1Reader_node.f k (BA s) (p : Int) false ((d + 1 : Nat) : Int)) res := by
         intro res h
         refine Ev.step' ?_; simp only [spec_l1Reader_node.f]
         refine Ev.call (a := ([] : List NS)) rfl (Ev.neg (by omega) (Ev.call (is_hit hdr hs 91 rfl) (Ev.pos (by first | trivial | rfl) ?_)))
         rw [show wrap64 (((d + 1 : Nat) : Int) - 1) = (d : Int) by rw [wrapS (by omega) (by omega)]; omega]
         exact h
       by_cases h93 : ∃ t', t = 93 :: t'
       · obtain ⟨t', rfl⟩ := h93
         simp only [List.length_cons] at htl
         refine ⟨_, hgo _ (Ev.call (is_hit ht hs 93 rfl) (Ev.pos (by first | trivial | rfl) (Ev.now _))), ?_⟩
         have : parse (d + 1) (91 :: 93 :: t') = some (⟨0, []⟩, t') := by unfold parse; simp
         rw [this]
         show _ = _
         rw [show s.length - t'.length = p + 1 + 1 by omega]
         rfl
       · have hm : spec_l1Reader_is.f (BA s) ((p + 1 : Nat) : Int) false 93 = some (false, BA s, ((p + 1 : Nat) : Int), false) := is_miss 93 (by
           rw [ht]
           intro c' t' e e2
           apply h93
           refine ⟨t', ?_⟩
           rw [e]
           congr 1
           apply UInt8.toNat.inj
           have h3 : (93 : UInt8).toNat = 93 := rfl
           omega)
         obtain ⟨res, h1, h2⟩ := ih s (p + 1) (by omega) hs
         rw [ht] at h2
         have hgo2 : ∀ res', (Ev (fun k => spec_l1Reader_node.l0 k ((d + 1 : Nat) : Int) res.2.2.1 res.2.2.2.1 res.2.2.2.2 0 [⟨res.1, res.2.1⟩]) res') → Ev (fun k => spec_l1Reader_node.f k (BA s) (p : Int) false ((d + 1 : Nat) : Int)) res' := by
           intro res' h
           exact hgo _ (Ev.call hm (Ev.neg (by simp) (Ev.bind h1 (Ev.pos (by simp) h))))
         have hpar : parse (d + 1) (91 :: t) = ((parse d t).bind fun q => (tailL d t.length q.2).map fun z => (q.1 :: z.1, z.2)).map fun q => ((⟨0, q.1⟩ : Tr), q.2) := by
           cases t with
           | nil => rw [parse_nil]; rfl
           | cons c' t' =>
             have h93' : c' ≠ 93 := fun e => h93 ⟨t', by rw [e]⟩
             have e0 : parse (d + 1) (91 :: c' :: t') = if c' = 93 then some (⟨0, []⟩, t') else (parseL (parse d) ((c' :: t').length + 1) (c' :: t')).map fun q => (⟨0, q.1⟩, q.2) := rfl
             rw [e0, if_neg h93', parseL_tail]
         rw [hpar]
         cases hq : parse d t with
         | none =>
           rw [hq] at h2
           have hb2 : res.2.2.2.2 = true := h2
           refine ⟨(0, [⟨res.1, res.2.1⟩], res.2.2.1, res.2.2.2.1, true), hgo2 _ ?_, rfl⟩
           rw [hb2]
           exact node_bad _ _ _ _ _
         | some q =>
           obtain ⟨v, r⟩ := q
           rw [hq] at h2
           have hres : res = ((cS d v).f0, (cS d v).f1, BA s, ((s.length - r.length : Nat) : Int), false) := h2
           obtain ⟨hdrop, hle⟩ := drop_rest ht (parse_sound d t v r hq).1 (by omega)
           have hr := parse_len hq
           obtain ⟨res', h3, h4⟩ := node_l0 d (by omega) ih s hs t.length (s.length - r.length) [cS d v] (by omega) (by rw [hdrop]; omega) (by rw [hdrop]; simp; omega)
           rw [hdrop] at h4
           refine ⟨res', hgo2 _ ?_, ?_⟩
           · rw [hres]
             simp only [mkS]
             exact h3
           · simp only [Option.bind_some]
             cases hz : tailL d t.length r with
             | none => rw [hz] at h4; exact h4
             | some z =>
               rw [hz] at h4
               have h4' : res' = _ := h4
               show res' = _
               rw [h4']
               simp [cS]
     · refine ⟨(0, [], BA s, (p : Int), true), ?_, ?_⟩
       · refine Ev.step' ?_; simp only [spec_l1Reader_node.f]
         refine Ev.call (a := ([] : List NS)) rfl (Ev.neg (by omega) (Ev.call (is_miss 91 (by
           rw [hdr]
           intro c' t' e
           rw [← (List.cons.inj e).1]
           exact toNat_ne (n := 91) h91 (by omega))) (Ev.neg (by simp) (Ev.val rfl))))
       · unfold parse
         simp only [if_neg h91]
         rfl

/-! ### the two readings -/
/-- The array that a text stands for. -/
def readD (d : Nat) (l : By) : Option Tr := if l.length ≤ 400 then (match parse d l with | some (v, []) => some v | _ => none) else none
theorem readD_ok {d : Nat} {l : By} {v : Tr} (h : readD d l = some v) : l = text d v ∧ Ok d v ∧ l.length ≤ 400 := by
 unfold readD at h
 split at h
 · next hl =>
   split at h
   · next v' hp =>
     obtain rfl := Option.some.inj h
     obtain ⟨h1, h2⟩ := parse_sound _ _ _ _ hp
     exact ⟨by simpa using h1, h2, hl⟩
   · cases h
 · cases h
theorem readD_text {d : Nat} {v : Tr} (h : Ok d v) (hl : (text d v).length ≤ 400) : readD d (text d v) = some v := by
 unfold readD
 have := parse_complete d v [] h (by intro c l e; cases e)
 rw [List.append_nil] at this
 rw [if_pos hl, this]
def resS (d : Nat) : Option Tr → Int × List NS × Bool
 | none => (0, [], false)
 | some v => ((cS d v).f0, (cS d v).f1, true)
theorem l1Read_is (d : Nat) (hd : d ≤ 3) (l : By) : Ev (fun k => spec_l1Read.f k (BA l) (d : Int)) (resS d (readD d l)) := by
 unfold spec_l1Read.f
 have hin : spec_l1In.f (d : Int) 0 3 = some true := by
   unfold spec_l1In.f
   rw [if_pos (by omega)]
   simp
   omega
 refine Ev.call hin (Ev.pos (by first | trivial | rfl) ?_)
 refine Ev.step' ?_; simp only [spec_l1Read.j0]
 unfold readD
 by_cases hl : l.length ≤ 400
 · rw [if_pos hl]
   refine Ev.neg (by simp; omega) ?_
   obtain ⟨res, h1, h2⟩ := node_is d (by omega) l 0 (by omega) (by omega)
   rw [List.drop_zero] at h2
   refine Ev.bind h1 ?_
   cases hq : parse d l with
   | none =>
     rw [hq] at h2
     exact Ev.pos h2 (Ev.now _)
   | some q =>
     obtain ⟨v, r⟩ := q
     rw [hq] at h2
     have hres : res = ((cS d v).f0, (cS d v).f1, BA l, ((l.length - r.length : Nat) : Int), false) := h2
     subst hres
     have hr := parse_len hq
     refine Ev.neg (by simp) ?_
     cases r with
     | nil => exact Ev.pos (by simp) (Ev.now _)
     | cons c r => exact Ev.neg (by simp only [List.length_cons] at hr ⊢; rw [BA_size]; omega) (Ev.now _)
 · rw [if_neg hl]
   exact Ev.pos (by simp; omega) (Ev.now _)
theorem l1Read_out (d : Int) (hd : d < 0 ∨ 3 < d) (s : ByteArray) : Ev (fun k => spec_l1Read.f k s d) (0, [], false) := by
 unfold spec_l1Read.f
 have hin : spec_l1In.f d 0 3 = some false := by
   unfold spec_l1In.f
   by_cases h0 : d ≥ 0
   · rw [if_pos h0]
     simp
     omega
   · rw [if_neg h0]
 refine Ev.call hin (Ev.neg (by simp) ?_)
 refine Ev.step' ?_; simp only [spec_l1Read.j0]
 exact Ev.pos (by first | trivial | rfl) (Ev.now _)
/-- .. and impl's: beside the sign, parts of some array. -/
theorem arrOf_is (d : Nat) (hd : d ≤ 3) (l : By) : ∃ t, Ev (fun k => impl_arrOf.f k (BA l) (d : Int)) ((cA d t).f0, (cA d t).f1, (readD d l).isSome) ∧ Ok d t ∧ (text d t).length ≤ 402 ∧ ∀ v, readD d l = some v → t = v := by
 have hz : (cA d ⟨0, []⟩).f0 = 0 ∧ (cA d ⟨0, []⟩).f1 = [] ∧ Ok d ⟨0, []⟩ ∧ (text d ⟨0, []⟩).length ≤ 402 := by
   cases d with
   | zero => exact ⟨rfl, rfl, ⟨by show 0 < 10007; omega, rfl⟩, by simp [text, dec_small]⟩
   | succ d => exact ⟨rfl, rfl, ⟨rfl, by intro x hx; cases hx⟩, by simp [text, Lib.join_nil]⟩
 obtain ⟨z1, z2, z3, z4⟩ := hz
 unfold impl_arrOf.f readD
 by_cases hl : l.length ≤ 400
 · rw [if_pos hl]
   have hr := readArr_is d (by omega) l (by omega)
   cases hq : parse d l with
   | none =>
     rw [hq] at hr
     refine ⟨⟨0, []⟩, ?_, z3, z4, by simp⟩
     refine Ev.neg (by omega) (Ev.neg (by omega) (Ev.neg (by rw [BA_size]; omega) (Ev.bind hr (Ev.neg (by simp [resA, badA]) (Ev.val ?_)))))
     rw [z1, z2]
     rfl
   | some q =>
     obtain ⟨v, r⟩ := q
     rw [hq] at hr
     obtain ⟨h1, h2⟩ := parse_sound _ _ _ _ hq
     refine ⟨v, ?_, h2, ?_, ?_⟩
     · refine Ev.neg (by omega) (Ev.neg (by omega) (Ev.neg (by rw [BA_size]; omega) (Ev.bind hr (Ev.pos (by first | trivial | rfl) (Ev.val ?_)))))
       simp only [resA, toList_BA]
       cases r <;> rfl
     · have := congrArg List.length h1
       rw [List.length_append] at this
       omega
     · intro v' hv
       cases r with
       | nil => exact Option.some.inj hv
       | cons c r => cases hv
 · rw [if_neg hl]
   refine ⟨⟨0, []⟩, ?_, z3, z4, by simp⟩
   refine Ev.neg (by omega) (Ev.neg (by omega) (Ev.pos (by rw [BA_size]; omega) (Ev.val ?_)))
   rw [z1, z2]
   rfl
theorem arrOf_out (d : Int) (hd : d < 0 ∨ 3 < d) (s : ByteArray) : Ev (fun k => impl_arrOf.f k s d) (0, [], false) := by
 unfold impl_arrOf.f
 by_cases h0 : d < 0
 · exact Ev.pos h0 (Ev.now _)
 · exact Ev.neg h0 (Ev.pos (by omega) (Ev.now _))
end Go.Proofs.YtoloblgjlnhioaaDoor.H
namespace Go.Proofs.YtoloblgjlnhioaaDoor.H
open Go.RowKit Go.Proofs.YtoloblgjlnhioaaDoorW.PrintWords Go.Proofs.YtoloblgjlnhioaaDoorW.PrintLast Go.Proofs.YtoloblgjlnhioaaDoorW.PrintMore Go.Proofs.YtoloblgjlnhioaaDoor.Q
set_option linter.unusedSimpArgs false
set_option linter.unusedVariables false

theorem strOne (m : Nat) (h : m < 256) : strOfNums [(m : Int)] = BA [UInt8.ofNat m] := by
 unfold strOfNums BA
 simp
theorem l13Dec_l0 : ∀ (n : Nat) (suf : By), n < 1000000000000000000 → suf.length ≤ 100 → Ev (fun k => spec_l13Dec.l0 k (n : Int) (BA suf)) (BA (Lib.decDigits n ++ suf)) := by
 have main : ∀ (b n : Nat) (suf : By), n < 10 ^ b → b ≤ 18 → suf.length + b ≤ 118 → Ev (fun k => spec_l13Dec.l0 k (n : Int) (BA suf)) (BA (Lib.decDigits n ++ suf)) := by
   intro b
   induction b with
   | zero =>
     intro n suf hn hb hs
     have hn1 : n < 1 := hn
     have : n = 0 := by omega
     subst this
     refine Ev.step' ?_; simp only [spec_l13Dec.l0]
     have e : (wrap64 (48 + ((0 : Nat) : Int))) % 256 = ((48 + 0 : Nat) : Int) := by
       rw [wrapS (by omega) (by omega)]
       omega
     refine Ev.neg (by omega) ?_
     rw [e]
     refine Ev.call (a := [((48 + 0 : Nat) : Int)]) rfl (Ev.pos (by rw [strOne _ (by omega), BA_size, BA_size]; simp; omega) (Ev.val ?_))
     rw [strOne _ (by omega), BA_append, dec_small (by omega)]
   | succ b ih =>
     intro n suf hn hb hs
     refine Ev.step' ?_; simp only [spec_l13Dec.l0]
     have hpow : 10 ^ (b + 1) ≤ 10 ^ 18 := Nat.pow_le_pow_right (by omega) hb
     have hnb : n < 1000000000000000000 := by
       have : (10 ^ 18 : Nat) = 1000000000000000000 := by decide
       omega
     by_cases h9 : n < 10
     · have e : (wrap64 (48 + (n : Int))) % 256 = ((48 + n : Nat) : Int) := by
         rw [wrapS (by omega) (by omega)]
         omega
       refine Ev.neg (by omega) ?_
       rw [e]
       refine Ev.call (a := [((48 + n : Nat) : Int)]) rfl (Ev.pos (by rw [strOne _ (by omega), BA_size, BA_size]; simp; omega) (Ev.val ?_))
       rw [strOne _ (by omega), BA_append, dec_small h9]
     · have e : (wrap64 (48 + Int.tmod (n : Int) 10)) % 256 = ((48 + n % 10 : Nat) : Int) := by
         rw [Int.tmod_eq_emod_of_nonneg (by omega), wrapS (by omega) (by omega)]
         omega
       have e2 : wrap64 (Int.tdiv (n : Int) 10) = ((n / 10 : Nat) : Int) := by
         rw [Int.tdiv_eq_ediv_of_nonneg (by omega), wrapS (by omega) (by omega)]
         omega
       refine Ev.pos (by omega) ?_
       rw [e, e2]
       refine Ev.call (a := [((48 + n % 10 : Nat) : Int)]) rfl (Ev.pos (by rw [strOne _ (by omega), BA_size, BA_size]; simp; omega) ?_)
       rw [strOne _ (by omega), BA_append]
       refine evIs (ih (n / 10) _ ?_ (by omega) (by simp; omega)) ?_
       · rw [Nat.pow_succ] at hn
         generalize 10 ^ b = q at *
         omega
       · rw [dec_big h9, List.append_assoc]
 intro n suf hn hs
 exact main 18 n suf (by have : (10 ^ 18 : Nat) = 1000000000000000000 := by decide
                         omega) (by omega) (by omega)
theorem l13Dec_is (n : Nat) (hn : n < 1000000000000000000) : Ev (fun k => spec_l13Dec.f k (n : Int)) (BA (Lib.decDigits n)) := by
 refine Ev.step' ?_; simp only [spec_l13Dec.f]
 refine Ev.neg (by omega) (Ev.neg (by omega) (evIs (l13Dec_l0 n [] hn (by simp)) ?_))
 rw [List.append_nil]

theorem dec_len : ∀ (b n : Nat), n < 10 ^ b → 1 ≤ b → (Lib.decDigits n).length ≤ b := by
 intro b
 induction b with
 | zero => intro n _ h; omega
 | succ b ih =>
   intro n hn _
   by_cases h9 : n < 10
   · rw [dec_small h9]; simp
   · rw [dec_big h9, List.length_append]
     have h1 : n / 10 < 10 ^ b := by
       rw [Nat.pow_succ] at hn
       generalize 10 ^ b = q at *
       omega
     have hb : 1 ≤ b := by
       rcases Nat.eq_zero_or_pos b with rfl | h
       · have : n / 10 < 1 := h1
         omega
       · exact h
     have := ih (n / 10) h1 hb
     simp
     omega
end Go.Proofs.YtoloblgjlnhioaaDoor.H
namespace Go.Proofs.YtoloblgjlnhioaaDoor.H
open Go.RowKit Go.Proofs.YtoloblgjlnhioaaDoorW.PrintWords Go.Proofs.YtoloblgjlnhioaaDoorW.PrintLast Go.Proofs.YtoloblgjlnhioaaDoorW.PrintMore Go.Proofs.YtoloblgjlnhioaaDoor.Q
set_option linter.unusedSimpArgs false
set_option linter.unusedVariables false

/-- Numbers that fit. -/
def Sh : Nat → Tr → Prop
 | 0, t => t.n < 1000000000
 | d + 1, t => ∀ x ∈ t.parts, Sh d x
theorem Sh.of : ∀ {d : Nat} {t : Tr}, Ok d t → Sh d t
 | 0, t, h => by have := h.1; show t.n < _; omega
 | d + 1, t, h => fun x hx => Sh.of (h.2 x hx)
def nodes : Nat → Tr → Nat
 | 0, _ => 1
 | d + 1, t => 1 + (t.parts.map (nodes d)).sum
theorem join_sum (f : Tr → By) (g : Tr → Nat) : ∀ xs : List Tr, (∀ x ∈ xs, (f x).length + 1 ≤ g x) → (Lib.join (xs.map f) [44]).length ≤ (xs.map g).sum
 | [], _ => by simp [Lib.join_nil]
 | [x], h => by
   have := h x (by simp)
   rw [List.map_cons, List.map_nil, join_one]
   simp
   omega
 | x :: y :: l, h => by
   have h1 := h x (by simp)
   have h2 := join_sum f g (y :: l) (fun z hz => h z (List.mem_cons_of_mem _ hz))
   rw [List.map_cons, List.map_cons, join_cons]
   rw [List.map_cons] at h2
   rw [List.map_cons, List.sum_cons]
   simp only [List.length_append, List.length_cons] at h2 ⊢
   omega
theorem join_len2 (f : Tr → By) (g : Tr → Nat) : ∀ xs : List Tr, (∀ x ∈ xs, g x ≤ (f x).length) → (xs.map g).sum ≤ (Lib.join (xs.map f) [44]).length
 | [], _ => by simp
 | [x], h => by
   have h1 := h x (by simp)
   have e1 : (([x] : List Tr).map g).sum = g x := by simp
   have e2 : Lib.join ([x].map f) [44] = f x := join_one _
   rw [e1, e2]
   exact h1
 | x :: y :: l, h => by
   have h1 := h x (by simp)
   have h2 := join_len2 f g (y :: l) (fun z hz => h z (List.mem_cons_of_mem _ hz))
   have e1 : ((x :: y :: l).map g).sum = g x + ((y :: l).map g).sum := by rw [List.map_cons, List.sum_cons]
   have e2 : Lib.join ((x :: y :: l).map f) [44] = f x ++ 44 :: Lib.join ((y :: l).map f) [44] := join_cons _ _ _
   rw [e1, e2, List.length_append, List.length_cons]
   omega
theorem sum_mul (c : Nat) (g : Tr → Nat) : ∀ xs : List Tr, (xs.map (fun x => c * g x)).sum = c * (xs.map g).sum
 | [] => rfl
 | x :: l => by rw [List.map_cons, List.sum_cons, sum_mul c g l, List.map_cons, List.sum_cons, Nat.mul_add]
theorem text_le : ∀ (d : Nat) (t : Tr), Sh d t → (text d t).length + 1 ≤ 12 * nodes d t
 | 0, t, h => by
   have := dec_len 9 t.n h (by omega)
   show (Lib.decDigits t.n).length + 1 ≤ 12
   omega
 | d + 1, t, h => by
   have := join_sum (text d) (fun x => 12 * nodes d x) t.parts (fun x hx => text_le d x (h x hx))
   rw [sum_mul] at this
   show (91 :: (Lib.join (t.parts.map (text d)) [44] ++ [93])).length + 1 ≤ 12 * (1 + (t.parts.map (nodes d)).sum)
   simp
   omega
theorem sum_mem (g : Tr → Nat) : ∀ (xs : List Tr) (x : Tr), x ∈ xs → g x ≤ (xs.map g).sum
 | y :: l, x, h => by
   rw [List.map_cons, List.sum_cons]
   rcases List.mem_cons.1 h with rfl | h
   · omega
   · have := sum_mem g l x h; omega
theorem nodes_part {d : Nat} {t x : Tr} (h : x ∈ t.parts) : nodes d x ≤ nodes (d + 1) t := by
 have := sum_mem (nodes d) t.parts x h
 show _ ≤ 1 + _
 omega
theorem nodes_pos : ∀ (d : Nat) (t : Tr), 1 ≤ nodes d t
 | 0, _ => Nat.le_refl _
 | d + 1, t => by show 1 ≤ 1 + _; omega
theorem sum_len (g : Tr → Nat) (h : ∀ x, 1 ≤ g x) : ∀ xs : List Tr, xs.length ≤ (xs.map g).sum
 | [] => by simp
 | x :: l => by
   have h1 := h x
   have h2 := sum_len g h l
   rw [List.map_cons, List.sum_cons, List.length_cons]
   omega
theorem parts_len (d : Nat) (t : Tr) : t.parts.length + 1 ≤ nodes (d + 1) t := by
 have := sum_len (nodes d) (nodes_pos d) t.parts
 show _ ≤ 1 + _
 omega
theorem getD_map {α : Type} (f : Tr → α) (xs : List Tr) (i : Nat) (z : α) (h : i < xs.length) : (xs.map f).getD i z = f xs[i] := by
 rw [List.getD_eq_getElem?_getD, List.getElem?_map, List.getElem?_eq_getElem h]
 rfl
theorem join_snoc : ∀ (xs : List By) (x : By), xs ≠ [] → Lib.join (xs ++ [x]) [44] = Lib.join xs [44] ++ 44 :: x
 | [], x, h => absurd rfl h
 | [y], x, _ => by rw [List.singleton_append, join_cons, join_one, join_one]
 | y :: z :: l, x, _ => by
   have := join_snoc (z :: l) x (by simp)
   rw [List.cons_append, List.cons_append, join_cons, join_cons, ← List.cons_append, this]
   simp
theorem take_snoc {α : Type} (xs : List α) (i : Nat) (h : i < xs.length) : xs.take (i + 1) = xs.take i ++ [xs[i]] := List.take_succ_eq_append_getElem h
theorem join_take (f : Tr → By) (xs : List Tr) (i : Nat) (h : i < xs.length) (h0 : 0 < i) : Lib.join ((xs.take (i + 1)).map f) [44] = Lib.join ((xs.take i).map f) [44] ++ 44 :: f xs[i] := by
 rw [take_snoc xs i h, List.map_append, List.map_cons, List.map_nil, join_snoc]
 intro e
 have := congrArg List.length e
 rw [List.length_map, List.length_take, List.length_nil] at this
 omega
theorem join_take_le (f : Tr → By) (xs : List Tr) : ∀ i, i ≤ xs.length → (Lib.join ((xs.take i).map f) [44]).length ≤ (Lib.join (xs.map f) [44]).length := by
 have main : ∀ n i, xs.length - i = n → i ≤ xs.length → (Lib.join ((xs.take i).map f) [44]).length ≤ (Lib.join (xs.map f) [44]).length := by
   intro n
   induction n with
   | zero => intro i h hi; rw [List.take_of_length_le (by omega)]; exact Nat.le_refl _
   | succ n ih =>
     intro i h hi
     refine Nat.le_trans ?_ (ih (i + 1) (by omega) (by omega))
     rcases Nat.eq_zero_or_pos i with rfl | h0
     · simp [Lib.join_nil]
     · rw [join_take f xs i (by omega) h0, List.length_append]
       omega
 exact fun i hi => main _ i rfl hi
def TextA (d : Nat) : Prop := ∀ t, Sh d t → nodes d t ≤ 1000000000 → Ev (fun k => impl_arr_text.f k (cA d t).f0 (cA d t).f1 (d : Int)) (BA (text d t))
theorem textA_l0 (d : Nat) (hd : d ≤ 1000) (ih : TextA d) (t : Tr) (hs : Sh (d + 1) t) (hn : nodes (d + 1) t ≤ 1000000000) :
   ∀ (n i : Nat), t.parts.length - i = n → i ≤ t.parts.length → Ev (fun k => impl_arr_text.l0 k ((d + 1 : Nat) : Int) ((t.parts.take i).map fun x => BA (text d x)) (t.parts.map (cA d)) ((t.parts.map (cA d)).length : Int) (i : Int)) (BA (text (d + 1) t)) := by
 have hpl := parts_len d t
 have htl := text_le (d + 1) t hs
 have hte : (text (d + 1) t).length = (Lib.join (t.parts.map (text d)) [44]).length + 2 := by simp [text]
 intro n
 induction n with
 | zero =>
   intro i h hi
   refine Ev.step' ?_; simp only [impl_arr_text.l0]
   rw [List.take_of_length_le (by omega)]
   refine Ev.neg (by rw [List.length_map]; omega) ?_
   have hj : strings_Join.f (t.parts.map fun x => BA (text d x)) (⟨#[44]⟩ : ByteArray) = some (BA (Lib.join (t.parts.map (text d)) [44])) := by
     have e : (t.parts.map fun x => BA (text d x)).map (·.data.toList) = t.parts.map (text d) := by
       rw [List.map_map]
       apply List.map_congr_left
       intro x _
       exact data_BA _
     unfold strings_Join.f
     rw [e, if_pos (by rw [List.length_map]; omega), if_pos (by show (Lib.join (t.parts.map (text d)) [44]).length ≤ _; omega)]
     rfl
   refine Ev.call hj (Ev.pos (by simp; omega) (Ev.pos (by simp; omega) (Ev.val ?_)))
   show BA [91] ++ BA _ ++ BA [93] = _
   rw [BA_append, BA_append]
   rfl
 | succ n ihn =>
   intro i h hi
   have hlt : i < t.parts.length := by omega
   have hm : t.parts[i] ∈ t.parts := List.getElem_mem hlt
   have hx := ih t.parts[i] (hs _ hm) (by have := nodes_part (d := d) hm; omega)
   have hg : rd_T62 (t.parts.map (cA d)) (i : Int) = cA d t.parts[i] := getD_map _ _ _ _ hlt
   refine Ev.step' ?_; simp only [impl_arr_text.l0]
   refine Ev.pos (by rw [List.length_map]; omega) (Ev.pos (by omega) (Ev.pos (by rw [List.length_map]; omega) ?_))
   rw [hg, show wrap64 (((d + 1 : Nat) : Int) - 1) = (d : Int) by rw [wrapS (by omega) (by omega)]; omega, wrapS (a := (i : Int) + 1) (by omega) (by omega)]
   have hnext := ihn (i + 1) (by omega) (by omega)
   refine Ev.bind hx (Ev.pos (by rw [List.length_map, List.length_take]; omega) ?_)
   rw [take_snoc _ _ hlt, List.map_append] at hnext
   exact hnext
theorem textA_is : ∀ d, d ≤ 1000 → TextA d
 | 0, _ => by
   intro t hs hn
   refine Ev.step' ?_; simp only [impl_arr_text.f]
   have h9 : t.n < 1000000000 := hs
   have hi : strconv_Itoa.f (t.n : Int) = some (BA (Lib.decDigits t.n)) := by
     unfold strconv_Itoa.f
     rw [if_pos (by omega), if_pos (by omega), itoa_nat]
     rfl
   refine Ev.pos (by first | trivial | rfl) (Ev.call hi (Ev.val rfl))
 | d + 1, hd => by
   intro t hs hn
   refine Ev.step' ?_; simp only [impl_arr_text.f]
   exact Ev.neg (by omega) (textA_l0 d (by omega) (textA_is d (by omega)) t hs hn _ 0 rfl (by omega))

def told (l : By) : ByteArray × Bool := if l.length ≤ 400 then (BA l, true) else (BA [], false)
theorem nodes_le_text : ∀ (d : Nat) (t : Tr), nodes d t ≤ (text d t).length
 | 0, t => by
   have := List.length_pos_iff.2 (dec_ne t.n)
   exact this
 | d + 1, t => by
   have h := join_len2 (text d) (nodes d) t.parts (fun x _ => nodes_le_text d x)
   show 1 + _ ≤ (91 :: (Lib.join (t.parts.map (text d)) [44] ++ [93])).length
   simp
   omega
end Go.Proofs.YtoloblgjlnhioaaDoor.H
namespace Go.Proofs.YtoloblgjlnhioaaDoor.H
open Go.RowKit Go.Proofs.YtoloblgjlnhioaaDoorW.PrintWords Go.Proofs.YtoloblgjlnhioaaDoorW.PrintLast Go.Proofs.YtoloblgjlnhioaaDoorW.PrintMore Go.Proofs.YtoloblgjlnhioaaDoor.Q
set_option linter.unusedSimpArgs false
set_option linter.unusedVariables false

abbrev ints (l : List Nat) : List Int := l.map (fun n : Nat => (n : Int))
theorem nums_le : ∀ (d : Nat) (t : Tr), (Q.nums d t).length ≤ nodes d t
 | 0, t => Nat.le_refl _
 | d + 1, t => by
   show ((t.parts.map (Q.nums d)).flatten).length ≤ 1 + (t.parts.map (nodes d)).sum
   have : ∀ xs : List Tr, ((xs.map (Q.nums d)).flatten).length ≤ (xs.map (nodes d)).sum := by
     intro xs
     induction xs with
     | nil => exact Nat.le_refl _
     | cons x l ih =>
       have := nums_le d x
       rw [List.map_cons, List.flatten_cons, List.length_append, List.map_cons, List.sum_cons]
       omega
   have := this t.parts
   omega
theorem flat_take_le (f : Tr → List Nat) (xs : List Tr) (i : Nat) : (((xs.take i).map f).flatten).length ≤ ((xs.map f).flatten).length := by
 conv => rhs; rw [← List.take_append_drop i xs, List.map_append, List.flatten_append, List.length_append]
 omega
theorem flat_snoc (f : Tr → List Nat) (xs : List Tr) (i : Nat) (h : i < xs.length) : ((xs.take (i + 1)).map f).flatten = ((xs.take i).map f).flatten ++ f xs[i] := by
 rw [take_snoc _ _ h, List.map_append, List.flatten_append]
 simp
end Go.Proofs.YtoloblgjlnhioaaDoor.H
namespace Go.Proofs.YtoloblgjlnhioaaDoor.H
open Go.RowKit Go.Proofs.YtoloblgjlnhioaaDoorW.PrintWords Go.Proofs.YtoloblgjlnhioaaDoorW.PrintLast Go.Proofs.YtoloblgjlnhioaaDoorW.PrintMore Go.Proofs.YtoloblgjlnhioaaDoor.Q
set_option linter.unusedSimpArgs false
set_option linter.unusedVariables false

theorem rd_at {l : List Int} {i : Nat} (h : i < l.length) : rd l (i : Int) = l[i] := by
 unfold rd
 rw [Int.toNat_natCast, List.getD_eq_getElem?_getD, List.getElem?_eq_getElem h]
 rfl
end Go.Proofs.YtoloblgjlnhioaaDoor.H
namespace Go.Proofs.YtoloblgjlnhioaaDoor.H
open Go.RowKit Go.Proofs.YtoloblgjlnhioaaDoorW.PrintWords Go.Proofs.YtoloblgjlnhioaaDoorW.PrintLast Go.Proofs.YtoloblgjlnhioaaDoorW.PrintMore Go.Proofs.YtoloblgjlnhioaaDoor.Q
set_option linter.unusedSimpArgs false
set_option linter.unusedVariables false

/-- Something comes of it. -/
def ExE {α : Type} (f : Nat → Option α) : Prop := ∃ g, Ev f g
theorem ExE.now {α : Type} (a : α) : ExE (fun _ => some a) := ⟨a, Ev.now a⟩
theorem ExE.ite {α : Type} {c : Prop} [Decidable c] {f g : Nat → Option α} (h1 : c → ExE f) (h2 : ¬ c → ExE g) : ExE (fun k => if c then f k else g k) := by
 by_cases h : c
 · obtain ⟨r, hr⟩ := h1 h
   exact ⟨r, Ev.pos h hr⟩
 · obtain ⟨r, hr⟩ := h2 h
   exact ⟨r, Ev.neg h hr⟩
theorem ExE.pos {α : Type} {c : Prop} [Decidable c] {f g : Nat → Option α} (hc : c) (h1 : ExE f) : ExE (fun k => if c then f k else g k) := .ite (fun _ => h1) (fun h => absurd hc h)
theorem ExE.step {α : Type} {g : Nat → Option α} (k : ExE (fun k => g (k + 1))) : ExE g := by
 obtain ⟨r, hr⟩ := k
 exact ⟨r, Ev.step' hr⟩
theorem ExE.call {α β : Type} {g : Option α} {f : Nat → α → Option β} {a : α} (h : g = some a) (k : ExE (fun n => f n a)) : ExE (fun n => g.bind (f n)) := by
 obtain ⟨r, hr⟩ := k
 exact ⟨r, Ev.call h hr⟩
section
variable {s : ByteArray} {x : List Int} (hx : 0 < (x.length : Int))
include hx
theorem sj7 (b : Bool) : ExE (fun k => impl_signDepth.j7 k s x b) := by
 refine .step ?_
 simp only [impl_signDepth.j7]
 exact .ite (fun _ => .pos hx (.now _)) (fun _ => .ite (fun _ => .pos hx (.ite (fun _ => .now _) (fun _ => .now _))) (fun _ => .now _))
theorem sj6 (b : Bool) : ExE (fun k => impl_signDepth.j6 k s x b) := by
 refine .step ?_
 simp only [impl_signDepth.j6]
 exact .ite (fun _ => .now _) (fun _ => .ite (fun _ => .pos hx (sj7 hx _)) (fun _ => sj7 hx _))
theorem sj5 (b : Bool) : ExE (fun k => impl_signDepth.j5 k s x b) := by
 refine .step ?_
 simp only [impl_signDepth.j5]
 exact .ite (fun _ => sj6 hx _) (fun _ => .ite (fun _ => .pos hx (sj6 hx _)) (fun _ => sj6 hx _))
theorem sj4 (b : Bool) : ExE (fun k => impl_signDepth.j4 k s x b) := by
 refine .step ?_
 simp only [impl_signDepth.j4]
 exact .ite (fun _ => .now _) (fun _ => .ite (fun _ => .pos hx (sj5 hx _)) (fun _ => sj5 hx _))
theorem sj3 (b : Bool) : ExE (fun k => impl_signDepth.j3 k s x b) := by
 refine .step ?_
 simp only [impl_signDepth.j3]
 exact .ite (fun _ => sj4 hx _) (fun _ => .ite (fun _ => .pos hx (sj4 hx _)) (fun _ => sj4 hx _))
theorem sj2 (a b : Bool) : ExE (fun k => impl_signDepth.j2 k s x a b) := by
 refine .step ?_
 simp only [impl_signDepth.j2]
 exact .ite (fun _ => .now _) (fun _ => .ite (fun _ => .now _) (fun _ => .ite (fun _ => .pos hx (sj3 hx _)) (fun _ => .ite (fun _ => .pos hx (sj3 hx _)) (fun _ => sj3 hx _))))
theorem sj1 (a b : Bool) : ExE (fun k => impl_signDepth.j1 k s x a b) := by
 refine .step ?_
 simp only [impl_signDepth.j1]
 exact .ite (fun _ => sj2 hx _ _) (fun _ => .ite (fun _ => .ite (fun _ => .pos hx (sj2 hx _ _)) (fun _ => sj2 hx _ _)) (fun _ => sj2 hx _ _))
end
theorem cont_is (s : ByteArray) : strings_Contains.f (⟨#[43, 42, 94, 45, 61, 60]⟩ : ByteArray) s = some (Lib.contains [43, 42, 94, 45, 61, 60] s.data.toList) := by
 unfold strings_Contains.f
 rw [if_pos (by decide)]
theorem sj0 {s : ByteArray} {x : List Int} (a b : Bool) (hx : b = false → 0 < (x.length : Int)) : ExE (fun k => impl_signDepth.j0 k s x a b) := by
 refine .step ?_
 simp only [impl_signDepth.j0]
 refine .ite (fun _ => .now _) (fun hb => ?_)
 have hx := hx (by simpa using hb)
 exact .ite (fun _ => .call (cont_is s) (.ite (fun _ => .pos hx (sj1 hx _ _)) (fun _ => sj1 hx _ _))) (fun _ => sj1 hx _ _)
theorem sd_any (s : ByteArray) (x : List Int) : ExE (fun k => impl_signDepth.f k s x) := by
 unfold impl_signDepth.f
 refine .ite (fun _ => sj0 _ _ (by simp)) (fun h0 => .ite (fun _ => sj0 _ _ (by simp)) (fun _ => ?_))
 have hx : 0 < (x.length : Int) := by omega
 exact .pos hx (.ite (fun _ => sj0 _ _ (by simp)) (fun _ => .ite (fun h2 => .pos (by omega) (sj0 _ _ (fun _ => hx))) (fun _ => sj0 _ _ (fun _ => hx))))
theorem sd_wrong (s : ByteArray) (x : List Int) (h : x.length = 0 ∨ 2 < x.length) : Ev (fun k => impl_signDepth.f k s x) (-1) := by
 unfold impl_signDepth.f
 have hj : ∀ a, Ev (fun k => impl_signDepth.j0 k s x a true) (-1) := fun a => by
   refine Ev.step' ?_; simp only [impl_signDepth.j0]
   exact Ev.pos (by first | trivial | rfl) (Ev.now _)
 rcases h with h | h
 · exact Ev.pos (by omega) (hj _)
 · exact Ev.neg (by omega) (Ev.pos (by omega) (hj _))
/-- The depth of what a sign with one part gives. -/
def sg1 (c : UInt8) (d : Int) : Int :=
 if c = 83 then (if d = 1 then 0 else -1) else if c = 77 then (if d = 1 then 0 else -1) else if c = 78 then (if d ≥ 1 then 0 else -1) else if c = 73 then (if d = 0 then 1 else -1) else if c = 80 then (if d = 1 then 1 else -1) else
 if c = 82 then (if d ≥ 1 then d else -1) else if c = 67 then (if d ≥ 2 then d - 1 else -1) else -1
theorem tl_one (c : UInt8) : (BA [c]).toList = [c] := by rw [toList_eq]; rfl
theorem sd_one (c : UInt8) (d : Nat) (hd : d ≤ 3) : impl_signDepth.f 20 (BA [c]) [(d : Int)] = some (sg1 c (d : Int)) := by
 have e0 : rd [(d : Int)] 0 = (d : Int) := rfl
 have hn : ¬ (d : Int) < 0 := by omega
 have hw : wrap64 ((d : Int) - 1) = (d : Int) - 1 := by unfold wrap64; omega
 simp only [impl_signDepth.f, impl_signDepth.j0, impl_signDepth.j1, impl_signDepth.j2, impl_signDepth.j3, impl_signDepth.j4, impl_signDepth.j5, impl_signDepth.j6, impl_signDepth.j7, tl_one, e0, hn, hw, sg1, List.length_cons, List.length_nil, List.cons.injEq, and_true]
 by_cases h1 : c = 83
 · by_cases h : (d : Int) = 1 <;> simp [h1, h]
 by_cases h2 : c = 77
 · by_cases h : (d : Int) = 1 <;> simp [h2, h]
 by_cases h3 : c = 78
 · by_cases h : (d : Int) ≥ 1 <;> simp [h3, h]
 by_cases h4 : c = 73
 · by_cases h : d = 0 <;> simp [h4, h]
 by_cases h5 : c = 80
 · by_cases h : (d : Int) = 1 <;> simp [h5, h]
 by_cases h6 : c = 82
 · by_cases h : (d : Int) ≥ 1 <;> simp [h6, h]
 by_cases h7 : c = 67
 · by_cases h : (d : Int) ≥ 2 <;> simp [h7, h]
 simp [h1, h2, h3, h4, h5, h6, h7]
/-- .. with two parts, the second one a number. -/
def sg2 (c : UInt8) (d : Int) : Int := if (c = 43 ∨ c = 42 ∨ c = 94 ∨ c = 45 ∨ c = 61 ∨ c = 60) ∧ d = 0 ∨ c = 64 ∧ d = 1 then 0 else -1
theorem cont_one (c : UInt8) : Lib.contains [43, 42, 94, 45, 61, 60] [c] = decide (c = 43 ∨ c = 42 ∨ c = 94 ∨ c = 45 ∨ c = 61 ∨ c = 60) := by
 by_cases h1 : c = 43
 · subst h1; decide
 by_cases h2 : c = 42
 · subst h2; decide
 by_cases h3 : c = 94
 · subst h3; decide
 by_cases h4 : c = 45
 · subst h4; decide
 by_cases h5 : c = 61
 · subst h5; decide
 by_cases h6 : c = 60
 · subst h6; decide
 have e1 : (c == 43) = false := by simpa using h1
 have e2 : (c == 42) = false := by simpa using h2
 have e3 : (c == 94) = false := by simpa using h3
 have e4 : (c == 45) = false := by simpa using h4
 have e5 : (c == 61) = false := by simpa using h5
 have e6 : (c == 60) = false := by simpa using h6
 simp [Lib.contains, Lib.index, List.isPrefixOf, h1, h2, h3, h4, h5, h6]
theorem sd_two (c : UInt8) (d : Nat) (hd : d ≤ 3) : impl_signDepth.f 20 (BA [c]) [(d : Int), 0] = some (sg2 c (d : Int)) := by
 have e0 : rd [(d : Int), 0] 0 = (d : Int) := rfl
 have e1 : rd [(d : Int), 0] 1 = 0 := rfl
 have hn : ¬ (d : Int) < 0 := by omega
 have hc := cont_one c
 have hb : (BA [c]).data.toList = [c] := rfl
 simp only [impl_signDepth.f, impl_signDepth.j0, impl_signDepth.j1, impl_signDepth.j2, tl_one, e0, e1, hn, sg2, List.length_cons, List.length_nil, List.cons.injEq, and_true, cont_is, hb, hc]
 by_cases h1 : c = 43 ∨ c = 42 ∨ c = 94 ∨ c = 45 ∨ c = 61 ∨ c = 60
 · have h7 : c ≠ 64 := by rintro rfl; simp at h1
   by_cases h : d = 0 <;> simp [h1, h, h7]
 · by_cases h7 : c = 64
   · by_cases h : (d : Int) = 1 <;> simp [h7, h]
   · simp [h1, h7]
theorem cn (c : UInt8) (n : Nat) (hn : n < 256) : (c.toNat : Int) = (n : Int) ↔ c = UInt8.ofNat n := by
 constructor
 · intro h
   apply UInt8.toNat.inj
   rw [UInt8.toNat_ofNat']
   omega
 · rintro rfl
   rw [UInt8.toNat_ofNat']
   omega
theorem one_is (c : UInt8) (d : Nat) (hd : d ≤ 3) : spec_l5One.f 20 (c.toNat : Int) (d : Int) = some (sg1 c (d : Int)) := by
 have k1 : (c.toNat : Int) = 83 ↔ c = 83 := cn c 83 (by omega)
 have k2 : (c.toNat : Int) = 77 ↔ c = 77 := cn c 77 (by omega)
 have k3 : (c.toNat : Int) = 78 ↔ c = 78 := cn c 78 (by omega)
 have k4 : (c.toNat : Int) = 73 ↔ c = 73 := cn c 73 (by omega)
 have k5 : (c.toNat : Int) = 80 ↔ c = 80 := cn c 80 (by omega)
 have k6 : (c.toNat : Int) = 82 ↔ c = 82 := cn c 82 (by omega)
 have k7 : (c.toNat : Int) = 67 ↔ c = 67 := cn c 67 (by omega)
 have hw : wrap64 ((d : Int) - 1) = (d : Int) - 1 := by unfold wrap64; omega
 have hb : ∀ n : Int, ((c.toNat : Int) == n) = decide ((c.toNat : Int) = n) := fun n => rfl
 simp only [spec_l5One.f, spec_l5One.j0, hb, decide_eq_true_eq, k1, k2, k3, k4, k5, k6, k7, hw, sg1]
 by_cases h1 : c = 83
 · by_cases h : (d : Int) = 1 <;> simp [h1, h]
 by_cases h2 : c = 77
 · by_cases h : (d : Int) = 1 <;> simp [h2, h]
 by_cases h3 : c = 78
 · by_cases h : (d : Int) ≥ 1 <;> simp [h3, h]
 by_cases h4 : c = 73
 · by_cases h : d = 0 <;> simp [h4, h]
 by_cases h5 : c = 80
 · by_cases h : (d : Int) = 1 <;> simp [h5, h]
 by_cases h6 : c = 82
 · by_cases h : (d : Int) ≥ 1 <;> simp [h6, h]
 by_cases h7 : c = 67
 · by_cases h : (d : Int) ≥ 2 <;> simp [h7, h]
 simp [h1, h2, h3, h4, h5, h6, h7]
theorem two_is (c : UInt8) (d : Nat) : spec_l5Two.f 20 (c.toNat : Int) (d : Int) 0 = some (if c = 64 then (if (d : Int) = 1 then 0 else -1) else if (d : Int) = 0 then 0 else -1) := by
 have k1 : (c.toNat : Int) = 64 ↔ c = 64 := cn c 64 (by omega)
 simp only [spec_l5Two.f, spec_l5Two.j0, k1]
 by_cases h1 : c = 64
 · by_cases h : (d : Int) = 1 <;> simp [h1, h]
 · by_cases h : d = 0 <;> simp [h1, h]
/-- A byte within a text. -/
theorem find_l0 (l : By) (hl : l.length ≤ 100) (c : UInt8) : ∀ (n i : Nat), l.length - i = n → i ≤ l.length → ∃ r, Ev (fun k => spec_l13Find.l0 k (BA l) (c.toNat : Int) (i : Int)) r ∧ (r < 0 ↔ c ∉ l.drop i) := by
 intro n
 induction n with
 | zero =>
   intro i h hi
   refine ⟨-1, ?_, ?_⟩
   · refine Ev.step' ?_; simp only [spec_l13Find.l0]
     exact Ev.neg (by rw [BA_size]; omega) (Ev.now _)
   · rw [List.drop_eq_nil_of_le (by omega)]
     simp
 | succ n ih =>
   intro i h hi
   have hlt : i < l.length := by omega
   have hb : bt (BA l) (i : Int) = (l[i].toNat : Int) := by
     rw [bt_BA, Int.toNat_natCast, List.getD_eq_getElem?_getD, List.getElem?_eq_getElem hlt]
     rfl
   have hd : l.drop i = l[i] :: l.drop (i + 1) := List.drop_eq_getElem_cons hlt
   by_cases hc : l[i] = c
   · refine ⟨(i : Int), ?_, ?_⟩
     · refine Ev.step' ?_; simp only [spec_l13Find.l0]
       exact Ev.pos (by rw [BA_size]; omega) (Ev.pos (by omega) (Ev.pos (by rw [hb, hc]) (Ev.now _)))
     · rw [hd, hc]
       simp
   · obtain ⟨r, h1, h2⟩ := ih (i + 1) (by omega) (by omega)
     refine ⟨r, ?_, ?_⟩
     · refine Ev.step' ?_; simp only [spec_l13Find.l0]
       refine Ev.pos (by rw [BA_size]; omega) (Ev.pos (by omega) (Ev.neg (fun e => hc ?_) ?_))
       · rw [hb] at e
         exact UInt8.toNat.inj (by omega)
       · rw [wrapS (by omega) (by omega)]
         exact h1
     · rw [h2, hd]
       have hne : ¬ c = l[i] := fun e => hc e.symm
       simp only [List.mem_cons, hne, false_or]
theorem find_is (l : By) (hl : l.length ≤ 100) (c : UInt8) : ∃ r, Ev (fun k => spec_l13Find.f k (BA l) (c.toNat : Int)) r ∧ (r < 0 ↔ c ∉ l) := by
 unfold spec_l13Find.f
 exact find_l0 l hl c _ 0 rfl (Nat.zero_le _)
end Go.Proofs.YtoloblgjlnhioaaDoor.H
namespace Go.Proofs.YtoloblgjlnhioaaDoor.H
open Go.RowKit Go.Proofs.YtoloblgjlnhioaaDoorW.PrintWords Go.Proofs.YtoloblgjlnhioaaDoorW.PrintLast Go.Proofs.YtoloblgjlnhioaaDoorW.PrintMore Go.Proofs.YtoloblgjlnhioaaDoor.Q
set_option linter.unusedSimpArgs false
set_option linter.unusedVariables false

/-- A number as an array. -/
abbrev n0 (v : Nat) : Tr := ⟨v, []⟩
/-- The running sums ahead of each number. -/
def pre : Nat → List Nat → List Nat
 | _, [] => []
 | a, n :: ns => a :: pre ((a + n) % 10007) ns
theorem pre_len : ∀ (a : Nat) (ns : List Nat), (pre a ns).length = ns.length
 | _, [] => rfl
 | a, n :: ns => by simp [pre, pre_len]
theorem pre_lt : ∀ (a : Nat) (ns : List Nat), a < 10007 → ∀ x ∈ pre a ns, x < 10007
 | _, [], _, x, h => by cases h
 | a, n :: ns, ha, x, h => by
   rcases List.mem_cons.1 h with rfl | h
   · exact ha
   · exact pre_lt _ ns (Nat.mod_lt _ (by omega)) x h
/-- The numbers of an array of numbers. -/
abbrev vals (t : Tr) : List Nat := t.parts.map (·.n)
/-! ### impl.give's closures -/
theorem rdA_at {ps : List NA} {i : Nat} (h : i < ps.length) : rd_T62 ps (i : Int) = ps[i] := by
 show ps.getD i _ = _
 rw [List.getD_eq_getElem?_getD, List.getElem?_eq_getElem h]
 rfl
theorem list_l0 (ps : List NA) (hp : ps.length ≤ 1000000) (x y : Int) (z : List NA) : ∀ (n i : Nat), ps.length - i = n → i ≤ ps.length → Ev (fun k => impl_give_1.l0 k ((ps.take i).map (·.f0)) ps (ps.length : Int) (i : Int) y z) (ps.map (·.f0), y) := by
 intro n
 induction n with
 | zero =>
   intro i h hi
   refine Ev.step' ?_; simp only [impl_give_1.l0]
   rw [List.take_of_length_le (by omega)]
   exact Ev.neg (by omega) (Ev.now _)
 | succ n ih =>
   intro i h hi
   have hlt : i < ps.length := by omega
   have hnext := ih (i + 1) (by omega) (by omega)
   rw [List.take_succ_eq_append_getElem hlt, List.map_append] at hnext
   refine Ev.step' ?_; simp only [impl_give_1.l0]
   refine Ev.pos (by omega) (Ev.pos (by omega) (Ev.pos (by omega) (Ev.pos (by rw [List.length_map, List.length_take]; omega) ?_)))
   rw [rdA_at hlt, wrapS (by omega) (by omega)]
   exact hnext
theorem list_is (ps : List NA) (hp : ps.length ≤ 1000000) (y : Int) : Ev (fun k => impl_give_1.f k y ps) (ps.map (·.f0), y) := by
 unfold impl_give_1.f
 exact list_l0 ps hp 0 y ps _ 0 rfl (Nat.zero_le _)
theorem flat_l0 (l : List Int) (hl : l.length ≤ 1000000) : ∀ (n i : Nat), l.length - i = n → i ≤ l.length → Ev (fun k => impl_give_2.l0 k l (l.length : Int) (i : Int) 0 ((l.take i).map fun z => (⟨z, []⟩ : NA))) (0, l.map fun z => (⟨z, []⟩ : NA)) := by
 intro n
 induction n with
 | zero =>
   intro i h hi
   refine Ev.step' ?_; simp only [impl_give_2.l0]
   rw [List.take_of_length_le (by omega)]
   exact Ev.neg (by omega) (Ev.now _)
 | succ n ih =>
   intro i h hi
   have hlt : i < l.length := by omega
   have hnext := ih (i + 1) (by omega) (by omega)
   rw [List.take_succ_eq_append_getElem hlt, List.map_append] at hnext
   refine Ev.step' ?_; simp only [impl_give_2.l0]
   refine Ev.pos (by omega) (Ev.pos (by omega) (Ev.pos (by omega) (Ev.pos (by rw [List.length_map, List.length_take]; omega) ?_)))
   rw [rd_at hlt, wrapS (by omega) (by omega)]
   exact hnext
theorem flat_is (l : List Int) (hl : l.length ≤ 1000000) : Ev (fun k => impl_give_2.f k l) (0, l.map fun z => (⟨z, []⟩ : NA)) := by
 unfold impl_give_2.f
 exact flat_l0 l hl _ 0 rfl (Nat.zero_le _)
theorem cA_vals (t : Tr) : ((cA 1 t).f1).map (·.f0) = ints (vals t) := by
 show (t.parts.map (cA 0)).map _ = _
 rw [List.map_map, ints, vals, List.map_map]
 rfl
theorem flat_cA (l : List Nat) : ((ints l).map fun z => (⟨z, []⟩ : NA)) = (cA 1 ⟨0, l.map n0⟩).f1 := by
 show _ = (l.map n0).map (cA 0)
 rw [ints, List.map_map, List.map_map]
 rfl
/-! ### sums, greatest numbers -/
theorem rdN_at {l : List Nat} {i : Nat} (h : i < l.length) : rd (ints l) (i : Int) = (l[i] : Int) := by
 rw [rd_at (by rw [List.length_map]; exact h), List.getElem_map]
theorem totalS_l0 (xs : List Nat) (hs : xs.sum ≤ 1000000000000) (hl : xs.length ≤ 1000000) : ∀ (n i acc : Nat), xs.length - i = n → i ≤ xs.length → acc + (xs.drop i).sum = xs.sum → Ev (fun k => impl_total.l0 k (acc : Int) (ints xs) ((ints xs).length : Int) (i : Int)) ((xs.sum : Nat) : Int) := by
 intro n
 induction n with
 | zero =>
   intro i acc h1 h2 h3
   rw [List.drop_eq_nil_of_le (by omega)] at h3
   refine Ev.step' ?_; simp only [impl_total.l0]
   refine Ev.neg (by rw [List.length_map]; omega) (Ev.val ?_)
   simp at h3
   omega
 | succ n ih =>
   intro i acc h1 h2 h3
   have hi : i < xs.length := by omega
   rw [List.drop_eq_getElem_cons hi, List.sum_cons] at h3
   have hnext := ih (i + 1) (acc + xs[i]) (by omega) (by omega) (by omega)
   refine Ev.step' ?_; simp only [impl_total.l0]
   refine Ev.pos (by rw [List.length_map]; omega) (Ev.pos (by omega) (Ev.pos (by rw [List.length_map]; omega) ?_))
   rw [rdN_at hi, wrapS (by omega) (by omega), wrapS (by omega) (by omega)]
   exact hnext
theorem sum_le : ∀ (ns : List Nat), (∀ x ∈ ns, x < 10007) → ns.sum ≤ 10007 * ns.length
 | [], _ => by simp
 | n :: ns, h => by
   have h1 := sum_le ns (fun x hx => h x (List.mem_cons_of_mem _ hx))
   have h2 := h n (by simp)
   rw [List.sum_cons, List.length_cons]
   omega
theorem tmodN (a b : Nat) : Int.tmod (a : Int) (b : Int) = ((a % b : Nat) : Int) := by
 rw [Int.tmod_eq_emod_of_nonneg (by omega)]
 omega
theorem tmodM (a : Nat) : Int.tmod (a : Int) 10007 = ((a % 10007 : Nat) : Int) := tmodN a 10007
theorem sumA_is (xs : List Nat) (hx : ∀ x ∈ xs, x < 10007) (hl : xs.length ≤ 1000000) : Ev (fun k => impl_sum.f k (ints xs)) ((xs.sum % 10007 : Nat) : Int) := by
 have hs := sum_le xs hx
 unfold impl_sum.f impl_total.f
 exact Ev.bind (totalS_l0 xs (by omega) hl _ 0 0 rfl (Nat.zero_le _) (by simp)) (Ev.val (tmodM _))
theorem fold_max (xs : List Nat) : ∀ a : Nat, (ints xs).foldl max (a : Int) = ((xs.foldl max a : Nat) : Int) := by
 induction xs with
 | nil => intro a; rfl
 | cons x xs ih =>
   intro a
   rw [ints, List.map_cons, List.foldl_cons, List.foldl_cons, show max (a : Int) (x : Int) = ((max a x : Nat) : Int) by omega]
   exact ih _
theorem mostA_is (xs : List Nat) (hl : xs.length ≤ 1000000) : impl_most.f (ints xs) = some ((xs.foldl max 0 : Nat) : Int) := by
 unfold impl_most.f slices_Max_int.f
 have e : Lib.maxOf ([0] ++ ints xs) = ((xs.foldl max 0 : Nat) : Int) := by
   unfold Lib.maxOf
   show (ints xs).foldl max (max 0 0) = _
   exact fold_max xs 0
 show (if ([0] : List Int).length + (ints xs).length < 17592186044416 then _ else _) = _
 rw [if_pos (by simp; omega), if_pos (by simp; omega), if_pos (by simp), e]
 rfl
theorem foldmax_lt (xs : List Nat) : ∀ a : Nat, a < 10007 → (∀ x ∈ xs, x < 10007) → xs.foldl max a < 10007 := by
 induction xs with
 | nil => intro a h _; exact h
 | cons x xs ih =>
   intro a h hx
   have := hx x (by simp)
   exact ih _ (by omega) (fun y hy => hx y (List.mem_cons_of_mem _ hy))
/-! ### impl.give, sign by sign -/
theorem gl0 (m : Nat) (hm : m ≤ 12) : ∀ (n i : Nat), m - i = n → i ≤ m → Ev (fun k => impl_give.l0 k (ints (List.range i)) (m : Int) (i : Int)) (0, (cA 1 ⟨0, (List.range m).map n0⟩).f1) := by
 intro n
 induction n with
 | zero =>
   intro i h hi
   obtain rfl : i = m := by omega
   refine Ev.step' ?_; simp only [impl_give.l0]
   refine Ev.neg (by omega) (Ev.bind (flat_is _ (by rw [List.length_map, List.length_range]; omega)) (Ev.val ?_))
   rw [flat_cA]
 | succ n ih =>
   intro i h hi
   have hnext := ih (i + 1) (by omega) (by omega)
   rw [List.range_succ, ints, List.map_append] at hnext
   refine Ev.step' ?_; simp only [impl_give.l0]
   refine Ev.pos (by omega) (Ev.pos (by rw [List.length_map, List.length_range]; omega) ?_)
   rw [wrapS (by omega) (by omega)]
   exact hnext
theorem gl2 (ns : List Nat) (hns : ∀ x ∈ ns, x < 10007) (hl : ns.length ≤ 1000000) : ∀ (rest done : List Nat) (acc : List Nat) (a : Nat), ns = done ++ rest → a < 10007 → acc.length = done.length →
   Ev (fun k => impl_give.l2 k (ints acc) (a : Int) (ints ns) ((ints ns).length : Int) ((done.length : Nat) : Int)) (0, (cA 1 ⟨0, (acc ++ pre a rest).map n0⟩).f1) := by
 intro rest
 induction rest with
 | nil =>
   intro done acc a h ha hc
   have hd : ns.length = done.length := by rw [h]; simp
   refine Ev.step' ?_; simp only [impl_give.l2]
   refine Ev.neg (by rw [List.length_map]; omega) (Ev.bind (flat_is _ (by rw [List.length_map]; omega)) (Ev.val ?_))
   rw [flat_cA, pre, List.append_nil]
 | cons x rest ih =>
   intro done acc a h ha hc
   have hx : x < 10007 := hns x (by rw [h]; simp)
   have hlen : done.length < ns.length := by rw [h]; simp
   have hat : ns[done.length] = x := by simp [h]
   have hnext := ih (done ++ [x]) (acc ++ [a]) ((a + x) % 10007) (by rw [h]; simp) (Nat.mod_lt _ (by omega)) (by simp [hc])
   rw [List.append_assoc, List.length_append, ints, List.map_append] at hnext
   refine Ev.step' ?_; simp only [impl_give.l2]
   refine Ev.pos (by rw [List.length_map]; omega) (Ev.pos (by omega) (Ev.pos (by rw [List.length_map]; omega) (Ev.pos (by rw [List.length_map]; omega) ?_)))
   rw [rdN_at hlen, hat, wrapS (a := (a : Int) + (x : Int)) (by omega) (by omega), wrapS (by omega) (by omega), show (a : Int) + (x : Int) = ((a + x : Nat) : Int) by omega, tmodM _]
   exact hnext
theorem gl1 {d : Nat} (vs : List Tr) (hl : vs.length ≤ 1000000) (hf : ((vs.map (·.parts)).flatten).length ≤ 1000000) : ∀ (n i : Nat), vs.length - i = n → i ≤ vs.length →
   Ev (fun k => impl_give.l1 k (vs.map (cA (d + 1))) ((vs.map (cA (d + 1))).length : Int) (i : Int) 0 ((((vs.take i).map (·.parts)).flatten).map (cA d))) (0, (((vs.map (·.parts)).flatten).map (cA d))) := by
 intro n
 induction n with
 | zero =>
   intro i h hi
   refine Ev.step' ?_; simp only [impl_give.l1]
   rw [List.take_of_length_le (by omega)]
   exact Ev.neg (by rw [List.length_map]; omega) (Ev.now _)
 | succ n ih =>
   intro i h hi
   have hlt : i < vs.length := by omega
   have hg : rd_T62 (vs.map (cA (d + 1))) (i : Int) = cA (d + 1) vs[i] := getD_map _ _ _ _ hlt
   have hnext := ih (i + 1) (by omega) (by omega)
   have hsn : ((vs.take (i + 1)).map (·.parts)).flatten = ((vs.take i).map (·.parts)).flatten ++ vs[i].parts := by
     rw [take_snoc _ _ hlt, List.map_append, List.flatten_append]
     simp
   have hle : (((vs.take (i + 1)).map (·.parts)).flatten).length ≤ ((vs.map (·.parts)).flatten).length := by
     conv => rhs; rw [← List.take_append_drop (i + 1) vs, List.map_append, List.flatten_append, List.length_append]
     exact Nat.le_add_right _ _
   rw [hsn, List.length_append] at hle
   rw [hsn, List.map_append] at hnext
   refine Ev.step' ?_; simp only [impl_give.l1]
   refine Ev.pos (by rw [List.length_map]; omega) (Ev.pos (by omega) (Ev.pos (by rw [List.length_map]; omega) ?_))
   rw [hg, wrapS (by omega) (by omega)]
   refine Ev.pos ?_ hnext
   show ((((vs.take i).map (·.parts)).flatten).map (cA d)).length + (vs[i].parts.map (cA d)).length < _
   rw [List.length_map, List.length_map]
   omega
theorem tlne {c d : UInt8} (h : c ≠ d) : ¬ (BA [c]).toList = ([d] : List UInt8) := by
 rw [tl_one]
 simpa using h
abbrev giveE (c : UInt8) (xs : List NA) (r : Int × List NA) : Prop := Ev (fun k => impl_give.f k (BA [c]) xs) r
theorem giveS (t : Tr) (h : ∀ x ∈ vals t, x < 10007) (hl : t.parts.length ≤ 1000000) : giveE 83 [cA 1 t] (((vals t).sum % 10007 : Nat), []) := by
 unfold giveE impl_give.f
 refine Ev.pos (by simp) (Ev.pos (tl_one _) (Ev.bind (list_is (cA 1 t).f1 (by show (t.parts.map (cA 0)).length ≤ _; rw [List.length_map]; omega) _) (Ev.bind ?_ (Ev.now _))))
 rw [cA_vals]
 exact sumA_is _ h (by rw [List.length_map]; exact hl)
theorem giveM (t : Tr) (hl : t.parts.length ≤ 1000000) : giveE 77 [cA 1 t] (((vals t).foldl max 0 : Nat), []) := by
 unfold giveE impl_give.f
 refine Ev.pos (by simp) (Ev.neg (tlne (by decide)) (Ev.pos (tl_one _) (Ev.bind (list_is (cA 1 t).f1 (by show (t.parts.map (cA 0)).length ≤ _; rw [List.length_map]; omega) _) ?_)))
 rw [cA_vals]
 exact Ev.call (mostA_is _ (by rw [List.length_map]; exact hl)) (Ev.now _)
theorem giveI (v : Nat) : giveE 73 [cA 0 (n0 v)] (0, (cA 1 ⟨0, (List.range (min v 12)).map n0⟩).f1) := by
 unfold giveE impl_give.f
 refine Ev.pos (by simp) (Ev.neg (tlne (by decide)) (Ev.neg (tlne (by decide)) (Ev.pos (tl_one _) ?_)))
 have e : mn ((rd_T62 [cA 0 (n0 v)] 0).f0) 12 = ((min v 12 : Nat) : Int) := by
   show mn (v : Int) 12 = _
   unfold mn
   split <;> omega
 rw [e]
 exact gl0 _ (by omega) _ 0 rfl (Nat.zero_le _)
theorem giveN (d : Nat) (t : Tr) : giveE 78 [cA (d + 1) t] (((t.parts.length % 10007 : Nat) : Int), []) := by
 unfold giveE impl_give.f
 refine Ev.pos (by simp) (Ev.neg (tlne (by decide)) (Ev.neg (tlne (by decide)) (Ev.neg (tlne (by decide)) (Ev.pos (tl_one _) (Ev.val ?_)))))
 show (((t.parts.map (cA d)).length : Int) % 10007, _) = _
 rw [List.length_map]
 rfl
theorem giveR (d : Nat) (t : Tr) (hl : t.parts.length ≤ 1000000) : giveE 82 [cA (d + 1) t] (0, (cA (d + 1) ⟨0, t.parts.reverse⟩).f1) := by
 unfold giveE impl_give.f
 refine Ev.pos (by simp) (Ev.neg (tlne (by decide)) (Ev.neg (tlne (by decide)) (Ev.neg (tlne (by decide)) (Ev.neg (tlne (by decide)) (Ev.pos (tl_one _) (Ev.call (a := t.parts.map (cA d)) ?_ (Ev.val ?_)))))))
 · show slices_Clone_arr.f (t.parts.map (cA d)) = _
   unfold slices_Clone_arr.f
   rw [if_pos (by rw [List.length_map]; omega)]
 · show (0, (t.parts.map (cA d)).reverse) = (0, t.parts.reverse.map (cA d))
   rw [List.map_reverse]
theorem giveC (d : Nat) (t : Tr) (hl : t.parts.length ≤ 1000000) (hf : ((t.parts.map (·.parts)).flatten).length ≤ 1000000) : giveE 67 [cA (d + 2) t] (0, (cA (d + 1) ⟨0, (t.parts.map (·.parts)).flatten⟩).f1) := by
 unfold giveE impl_give.f
 refine Ev.pos (by simp) (Ev.neg (tlne (by decide)) (Ev.neg (tlne (by decide)) (Ev.neg (tlne (by decide)) (Ev.neg (tlne (by decide)) (Ev.neg (tlne (by decide)) (Ev.pos (tl_one _) ?_))))))
 exact gl1 (d := d) t.parts hl hf _ 0 rfl (Nat.zero_le _)
theorem giveP (t : Tr) (h : ∀ x ∈ vals t, x < 10007) (hl : t.parts.length ≤ 1000000) : giveE 80 [cA 1 t] (0, (cA 1 ⟨0, (pre 0 (vals t)).map n0⟩).f1) := by
 unfold giveE impl_give.f
 refine Ev.pos (by simp) (Ev.neg (tlne (by decide)) (Ev.neg (tlne (by decide)) (Ev.neg (tlne (by decide)) (Ev.neg (tlne (by decide)) (Ev.neg (tlne (by decide)) (Ev.neg (tlne (by decide)) (Ev.pos (tl_one _) (Ev.bind (list_is (cA 1 t).f1 (by show (t.parts.map (cA 0)).length ≤ _; rw [List.length_map]; omega) _) ?_))))))))
 rw [cA_vals]
 have := gl2 (vals t) h (by rw [List.length_map]; exact hl) (vals t) [] [] 0 rfl (by omega) rfl
 exact this
/-- What a sign between two numbers gives. -/
def op2 (c : UInt8) (a b : Nat) : Nat := if c = 43 then (a + b) % 10007 else if c = 42 then a * b % 10007 else if c = 94 then max a b else if c = 45 then a - b else if c = 61 then (if a = b then 1 else 0) else (if a < b then 1 else 0)
theorem give2 (c : UInt8) (a b : Nat) (x y : NA) (hx : x.f0 = a) (hy : y.f0 = b) (ha : a < 10007) (hb : b < 10007) (hc : c = 43 ∨ c = 42 ∨ c = 94 ∨ c = 45 ∨ c = 61 ∨ c = 60) : giveE c [x, y] ((op2 c a b : Nat), []) := by
 have e0 : (rd_T62 [x, y] 0).f0 = (a : Int) := hx
 have e1 : (rd_T62 [x, y] 1).f0 = (b : Int) := hy
 have hab : (a : Int) * (b : Int) ≤ 100140049 := by
   have := Nat.mul_le_mul (Nat.le_of_lt_succ (Nat.lt_succ_of_lt ha)) (Nat.le_of_lt_succ (Nat.lt_succ_of_lt hb))
   have e : (a : Int) * (b : Int) = ((a * b : Nat) : Int) := by push_cast; rfl
   omega
 have hab0 : 0 ≤ (a : Int) * (b : Int) := Int.mul_nonneg (by omega) (by omega)
 unfold giveE impl_give.f
 rw [e0, e1]
 refine Ev.pos (by simp) ?_
 have hne : ∀ z : UInt8, z = 83 ∨ z = 77 ∨ z = 73 ∨ z = 78 ∨ z = 82 ∨ z = 67 ∨ z = 80 → c ≠ z := by
   rintro z hz rfl
   rcases hc with rfl | rfl | rfl | rfl | rfl | rfl <;> simp at hz
 refine Ev.neg (tlne (hne _ (by simp))) (Ev.neg (tlne (hne _ (by simp))) (Ev.neg (tlne (hne _ (by simp))) (Ev.neg (tlne (hne _ (by simp))) (Ev.neg (tlne (hne _ (by simp))) (Ev.neg (tlne (hne _ (by simp))) (Ev.neg (tlne (hne _ (by simp))) (Ev.pos (by simp) ?_)))))))
 rcases hc with rfl | rfl | rfl | rfl | rfl | rfl
 · refine Ev.pos (tl_one _) (Ev.val ?_)
   rw [wrapS (by omega) (by omega), show (a : Int) + (b : Int) = ((a + b : Nat) : Int) by omega, tmodM _]
   rfl
 · refine Ev.neg (tlne (by decide)) (Ev.pos (tl_one _) (Ev.val ?_))
   rw [wrapS (by omega) (by omega), show (a : Int) * (b : Int) = ((a * b : Nat) : Int) by push_cast; rfl, tmodM _]
   rfl
 · refine Ev.neg (tlne (by decide)) (Ev.neg (tlne (by decide)) (Ev.pos (tl_one _) (Ev.val ?_)))
   show (mx (a : Int) (b : Int), _) = (((max a b : Nat) : Int), _)
   congr 1
   unfold mx
   split <;> omega
 · refine Ev.neg (tlne (by decide)) (Ev.neg (tlne (by decide)) (Ev.neg (tlne (by decide)) (Ev.pos (tl_one _) (Ev.val ?_))))
   show (mx 0 (wrap64 ((a : Int) - (b : Int))), _) = (((a - b : Nat) : Int), _)
   rw [wrapS (by omega) (by omega)]
   congr 1
   unfold mx
   split <;> omega
 · refine Ev.neg (tlne (by decide)) (Ev.neg (tlne (by decide)) (Ev.neg (tlne (by decide)) (Ev.neg (tlne (by decide)) (Ev.pos (tl_one _) ?_))))
   by_cases h : a = b
   · refine Ev.call (a := (1, [])) (by subst h; simp [impl_give_3.f]) (Ev.val ?_)
     simp [op2, h]
   · refine Ev.call (a := (0, [])) (by simp [impl_give_3.f, h]; omega) (Ev.val ?_)
     simp [op2, h]
 · refine Ev.neg (tlne (by decide)) (Ev.neg (tlne (by decide)) (Ev.neg (tlne (by decide)) (Ev.neg (tlne (by decide)) (Ev.neg (tlne (by decide)) (Ev.pos (tl_one _) ?_)))))
   by_cases h : a < b
   · refine Ev.call (a := (1, [])) (by simp [impl_give_3.f, h]) (Ev.val ?_)
     simp [op2, h]
   · refine Ev.call (a := (0, [])) (by simp [impl_give_3.f, h]) (Ev.val ?_)
     simp [op2, h]
/-- What '@' gives: a part's number, 0 if there is none. -/
def pickN (t : Tr) (i : Nat) : Nat := (t.parts.map (·.n)).getD i 0
theorem giveAt (t : Tr) (v : Nat) (u : Tr) : giveE 64 [cA 1 t, cA 0 (n0 v)] (((pickN t v : Nat) : Int), []) := by
 have e1 : (rd_T62 [cA 1 t, cA 0 (n0 v)] 1).f0 = (v : Int) := rfl
 have e0 : (rd_T62 [cA 1 t, cA 0 (n0 v)] 0).f1 = t.parts.map (cA 0) := rfl
 unfold giveE impl_give.f
 rw [e0, e1]
 refine Ev.pos (by simp) (Ev.neg (tlne (by decide)) (Ev.neg (tlne (by decide)) (Ev.neg (tlne (by decide)) (Ev.neg (tlne (by decide)) (Ev.neg (tlne (by decide)) (Ev.neg (tlne (by decide)) (Ev.neg (tlne (by decide)) (Ev.pos (by simp) ?_))))))))
 refine Ev.neg (tlne (by decide)) (Ev.neg (tlne (by decide)) (Ev.neg (tlne (by decide)) (Ev.neg (tlne (by decide)) (Ev.neg (tlne (by decide)) (Ev.neg (tlne (by decide)) ?_)))))
 by_cases h : v < t.parts.length
 · have hg : rd_T62 (t.parts.map (cA 0)) (v : Int) = cA 0 t.parts[v] := getD_map _ _ _ _ h
   refine Ev.pos (by rw [List.length_map]; omega) (Ev.pos (by omega) (Ev.val ?_))
   rw [hg]
   simp [pickN, cA, List.getD_eq_getElem?_getD, h]
 · refine Ev.neg (by rw [List.length_map]; omega) (Ev.val ?_)
   simp [pickN, List.getD_eq_getElem?_getD, h]
end Go.Proofs.YtoloblgjlnhioaaDoor.H
namespace Go.Proofs.YtoloblgjlnhioaaDoor.H
open Go.RowKit Go.Proofs.YtoloblgjlnhioaaDoorW.PrintWords Go.Proofs.YtoloblgjlnhioaaDoorW.PrintLast Go.Proofs.YtoloblgjlnhioaaDoorW.PrintMore Go.Proofs.YtoloblgjlnhioaaDoor.Q
set_option linter.unusedSimpArgs false
set_option linter.unusedVariables false

theorem addS (a b : Nat) (ha : a ≤ 1000000000) (hb : b ≤ 1000000000) : spec_l3Add.f (a : Int) (b : Int) = some (((a + b) % 10007 : Nat) : Int) := by
 unfold spec_l3Add.f
 rw [wrapS (by omega) (by omega), show (a : Int) + (b : Int) = ((a + b : Nat) : Int) by omega, tmodM _]
theorem nodeN {vs : List Tr} {i : Nat} (d : Nat) (h : i < vs.length) : rd_T77 (vs.map (cS d)) (i : Int) = cS d vs[i] := getD_map _ _ _ _ h
theorem sl0 (vs : List Tr) (hv : ∀ x ∈ vs.map (·.n), x < 10007) (hl : vs.length ≤ 1000000) (z : List NS) : ∀ (n i acc : Nat), vs.length - i = n → i ≤ vs.length → acc < 10007 →
   Ev (fun k => spec_l6One.l0 k (vs.map (cS 0)) ((vs.map (cS 0)).length : Int) (i : Int) (acc : Int) z) ((((acc + ((vs.drop i).map (·.n)).sum) % 10007 : Nat) : Int), z) := by
 intro n
 induction n with
 | zero =>
   intro i acc h hi ha
   refine Ev.step' ?_; simp only [spec_l6One.l0]
   rw [List.drop_eq_nil_of_le (by omega)]
   refine Ev.neg (by rw [List.length_map]; omega) (Ev.val ?_)
   rw [List.map_nil, List.sum_nil, Nat.add_zero, Nat.mod_eq_of_lt ha]
 | succ n ih =>
   intro i acc h hi ha
   have hlt : i < vs.length := by omega
   have hx : vs[i].n < 10007 := hv _ (List.mem_map.2 ⟨_, List.getElem_mem hlt, rfl⟩)
   have hnext := ih (i + 1) ((acc + vs[i].n) % 10007) (by omega) (by omega) (Nat.mod_lt _ (by omega))
   refine Ev.step' ?_; simp only [spec_l6One.l0]
   refine Ev.pos (by rw [List.length_map]; omega) (Ev.pos (by omega) (Ev.pos (by rw [List.length_map]; omega) ?_))
   rw [nodeN 0 hlt, wrapS (by omega) (by omega)]
   refine Ev.call (addS acc vs[i].n (by omega) (by omega)) (evIs hnext ?_)
   rw [List.drop_eq_getElem_cons hlt, List.map_cons, List.sum_cons]
   congr 2
   omega
theorem sl1 (vs : List Tr) (hl : vs.length ≤ 1000000) (z : List NS) : ∀ (n i acc : Nat), vs.length - i = n → i ≤ vs.length →
   Ev (fun k => spec_l6One.l1 k (vs.map (cS 0)) ((vs.map (cS 0)).length : Int) (i : Int) (acc : Int) z) (((((vs.drop i).map (·.n)).foldl max acc : Nat) : Int), z) := by
 intro n
 induction n with
 | zero =>
   intro i acc h hi
   refine Ev.step' ?_; simp only [spec_l6One.l1]
   rw [List.drop_eq_nil_of_le (by omega)]
   exact Ev.neg (by rw [List.length_map]; omega) (Ev.now _)
 | succ n ih =>
   intro i acc h hi
   have hlt : i < vs.length := by omega
   have hnext := ih (i + 1) (max acc vs[i].n) (by omega) (by omega)
   have e : mx (acc : Int) (vs[i].n : Int) = ((max acc vs[i].n : Nat) : Int) := by
     unfold mx
     split <;> omega
   refine Ev.step' ?_; simp only [spec_l6One.l1]
   refine Ev.pos (by rw [List.length_map]; omega) (Ev.pos (by omega) (Ev.pos (by rw [List.length_map]; omega) ?_))
   rw [nodeN 0 hlt, wrapS (by omega) (by omega), List.drop_eq_getElem_cons hlt, List.map_cons, List.foldl_cons]
   show Ev (fun k => spec_l6One.l1 k _ _ _ (mx (acc : Int) (vs[i].n : Int)) z) _
   rw [e]
   exact hnext
theorem sl2 (m : Nat) (hm : m ≤ 12) : ∀ (n i : Nat), m - i = n → i ≤ m → Ev (fun k => spec_l6One.l2 k (m : Int) (i : Int) 0 (((List.range i).map n0).map (cS 0))) (0, ((List.range m).map n0).map (cS 0)) := by
 intro n
 induction n with
 | zero =>
   intro i h hi
   obtain rfl : i = m := by omega
   refine Ev.step' ?_; simp only [spec_l6One.l2]
   exact Ev.neg (by omega) (Ev.now _)
 | succ n ih =>
   intro i h hi
   have hnext := ih (i + 1) (by omega) (by omega)
   rw [List.range_succ, List.map_append, List.map_append] at hnext
   refine Ev.step' ?_; simp only [spec_l6One.l2]
   refine Ev.pos (by omega) (Ev.pos (by rw [List.length_map, List.length_map, List.length_range]; omega) ?_)
   rw [wrapS (by omega) (by omega)]
   exact hnext
theorem sl3 {d : Nat} (vs : List Tr) (hl : vs.length ≤ 1000000) (v : Int) : ∀ (j : Nat), j ≤ vs.length →
   Ev (fun k => spec_l6One.l3 k ((j : Int) - 1) v (vs.map (cS d)) 0 (((vs.drop j).reverse).map (cS d))) (0, vs.reverse.map (cS d)) := by
 intro j
 induction j with
 | zero =>
   intro hj
   refine Ev.step' ?_; simp only [spec_l6One.l3]
   exact Ev.neg (by omega) (Ev.now _)
 | succ j ih =>
   intro hj
   have hlt : j < vs.length := by omega
   have hnext := ih (by omega)
   rw [List.drop_eq_getElem_cons hlt, List.reverse_cons, List.map_append] at hnext
   have ej : ((j + 1 : Nat) : Int) - 1 = (j : Int) := by omega
   refine Ev.step' ?_; simp only [spec_l6One.l3]
   rw [ej]
   refine Ev.pos (by omega) (Ev.pos (by omega) (Ev.pos (by rw [List.length_map]; omega) (Ev.pos (by rw [List.length_map, List.length_reverse, List.length_drop]; omega) ?_)))
   rw [nodeN d hlt, mkS, wrapS (by omega) (by omega)]
   exact hnext
theorem sl4 {d : Nat} (vs : List Tr) (hl : vs.length ≤ 1000000) (hf : ((vs.map (·.parts)).flatten).length ≤ 1000000) : ∀ (n i : Nat), vs.length - i = n → i ≤ vs.length →
   Ev (fun k => spec_l6One.l4 k (vs.map (cS (d + 1))) ((vs.map (cS (d + 1))).length : Int) (i : Int) 0 ((((vs.take i).map (·.parts)).flatten).map (cS d))) (0, (((vs.map (·.parts)).flatten).map (cS d))) := by
 intro n
 induction n with
 | zero =>
   intro i h hi
   refine Ev.step' ?_; simp only [spec_l6One.l4]
   rw [List.take_of_length_le (by omega)]
   exact Ev.neg (by rw [List.length_map]; omega) (Ev.now _)
 | succ n ih =>
   intro i h hi
   have hlt : i < vs.length := by omega
   have hnext := ih (i + 1) (by omega) (by omega)
   have hsn : ((vs.take (i + 1)).map (·.parts)).flatten = ((vs.take i).map (·.parts)).flatten ++ vs[i].parts := by
     rw [take_snoc _ _ hlt, List.map_append, List.flatten_append]
     simp
   have hle : (((vs.take (i + 1)).map (·.parts)).flatten).length ≤ ((vs.map (·.parts)).flatten).length := by
     conv => rhs; rw [← List.take_append_drop (i + 1) vs, List.map_append, List.flatten_append, List.length_append]
     exact Nat.le_add_right _ _
   rw [hsn, List.length_append] at hle
   rw [hsn, List.map_append] at hnext
   refine Ev.step' ?_; simp only [spec_l6One.l4]
   refine Ev.pos (by rw [List.length_map]; omega) (Ev.pos (by omega) (Ev.pos (by rw [List.length_map]; omega) ?_))
   rw [nodeN (d + 1) hlt, wrapS (by omega) (by omega)]
   refine Ev.pos ?_ hnext
   show ((((vs.take i).map (·.parts)).flatten).map (cS d)).length + (vs[i].parts.map (cS d)).length < _
   rw [List.length_map, List.length_map]
   omega
theorem sl5 (vs : List Tr) (hv : ∀ x ∈ vs.map (·.n), x < 10007) (hl : vs.length ≤ 1000000) : ∀ (rest done : List Tr) (acc : List Nat) (a : Nat), vs = done ++ rest → a < 10007 → acc.length = done.length →
   Ev (fun k => spec_l6One.l5 k (a : Int) (vs.map (cS 0)) ((vs.map (cS 0)).length : Int) ((done.length : Nat) : Int) 0 ((acc.map n0).map (cS 0))) (0, (((acc ++ pre a (rest.map (·.n))).map n0).map (cS 0))) := by
 intro rest
 induction rest with
 | nil =>
   intro done acc a h ha hc
   have hd : vs.length = done.length := by rw [h]; simp
   refine Ev.step' ?_; simp only [spec_l6One.l5]
   refine Ev.neg (by rw [List.length_map]; omega) (Ev.val ?_)
   rw [List.map_nil, pre, List.append_nil]
 | cons x rest ih =>
   intro done acc a h ha hc
   have hx : x.n < 10007 := hv _ (List.mem_map.2 ⟨x, by rw [h]; simp, rfl⟩)
   have hlen : done.length < vs.length := by rw [h]; simp
   have hat : vs[done.length] = x := by simp [h]
   have hnext := ih (done ++ [x]) (acc ++ [a]) ((a + x.n) % 10007) (by rw [h]; simp) (Nat.mod_lt _ (by omega)) (by simp [hc])
   rw [List.append_assoc, List.length_append, List.map_append, List.map_append] at hnext
   refine Ev.step' ?_; simp only [spec_l6One.l5]
   refine Ev.pos (by rw [List.length_map]; omega) (Ev.pos (by omega) (Ev.pos (by rw [List.length_map]; omega) (Ev.pos (by rw [List.length_map, List.length_map]; omega) ?_)))
   rw [nodeN 0 hlen, hat, wrapS (by omega) (by omega)]
   exact Ev.call (addS a x.n (by omega) (by omega)) hnext
abbrev oneE (c : UInt8) (x : NS) (r : Int × List NS) : Prop := Ev (fun k => spec_l6One.f k (c.toNat : Int) x.f0 x.f1) r
theorem oneS (t : Tr) (h : ∀ x ∈ vals t, x < 10007) (hl : t.parts.length ≤ 1000000) : oneE 83 (cS 1 t) (((vals t).sum % 10007 : Nat), []) := by
 unfold oneE spec_l6One.f
 refine Ev.call rfl (Ev.pos rfl ?_)
 have := sl0 t.parts h hl [] _ 0 0 rfl (Nat.zero_le _) (by omega)
 rw [List.drop_zero, Nat.zero_add] at this
 exact this
theorem oneM (t : Tr) (hl : t.parts.length ≤ 1000000) : oneE 77 (cS 1 t) (((vals t).foldl max 0 : Nat), []) := by
 unfold oneE spec_l6One.f
 refine Ev.call rfl (Ev.neg (by decide) (Ev.pos rfl ?_))
 exact sl1 t.parts hl [] _ 0 0 rfl (Nat.zero_le _)
theorem oneI (v : Nat) : oneE 73 (cS 0 (n0 v)) (0, (cS 1 ⟨0, (List.range (min v 12)).map n0⟩).f1) := by
 unfold oneE spec_l6One.f
 have e : mn ((cS 0 (n0 v)).f0) 12 = ((min v 12 : Nat) : Int) := by
   show mn (v : Int) 12 = _
   unfold mn
   split <;> omega
 rw [e]
 exact Ev.call rfl (Ev.neg (by decide) (Ev.neg (by decide) (Ev.pos rfl (sl2 _ (by omega) _ 0 rfl (Nat.zero_le _)))))
theorem oneN (d : Nat) (t : Tr) : oneE 78 (cS (d + 1) t) (((t.parts.length % 10007 : Nat) : Int), []) := by
 unfold oneE spec_l6One.f
 refine Ev.call rfl (Ev.neg (by decide) (Ev.neg (by decide) (Ev.neg (by decide) (Ev.pos rfl (Ev.val ?_)))))
 show (((t.parts.map (cS d)).length : Int) % 10007, _) = _
 rw [List.length_map]
 rfl
theorem oneR (d : Nat) (t : Tr) (hl : t.parts.length ≤ 1000000) : oneE 82 (cS (d + 1) t) (0, (cS (d + 1) ⟨0, t.parts.reverse⟩).f1) := by
 unfold oneE spec_l6One.f
 refine Ev.call rfl (Ev.neg (by decide) (Ev.neg (by decide) (Ev.neg (by decide) (Ev.neg (by decide) (Ev.pos rfl ?_)))))
 have h0 := sl3 (d := d) t.parts hl (cS (d + 1) t).f0 t.parts.length (Nat.le_refl _)
 rw [List.drop_length] at h0
 have e : wrap64 ((((cS (d + 1) t).f1).length : Int) - 1) = (t.parts.length : Int) - 1 := by
   show wrap64 (((t.parts.map (cS d)).length : Int) - 1) = _
   rw [List.length_map, wrapS (by omega) (by omega)]
 rw [e]
 exact h0
theorem oneC (d : Nat) (t : Tr) (hl : t.parts.length ≤ 1000000) (hf : ((t.parts.map (·.parts)).flatten).length ≤ 1000000) : oneE 67 (cS (d + 2) t) (0, (cS (d + 1) ⟨0, (t.parts.map (·.parts)).flatten⟩).f1) := by
 unfold oneE spec_l6One.f
 refine Ev.call rfl (Ev.neg (by decide) (Ev.neg (by decide) (Ev.neg (by decide) (Ev.neg (by decide) (Ev.neg (by decide) (Ev.pos rfl ?_))))))
 exact sl4 (d := d) t.parts hl hf _ 0 rfl (Nat.zero_le _)
theorem oneP (t : Tr) (h : ∀ x ∈ vals t, x < 10007) (hl : t.parts.length ≤ 1000000) : oneE 80 (cS 1 t) (0, (cS 1 ⟨0, (pre 0 (vals t)).map n0⟩).f1) := by
 unfold oneE spec_l6One.f
 refine Ev.call rfl (Ev.neg (by decide) (Ev.neg (by decide) (Ev.neg (by decide) (Ev.neg (by decide) (Ev.neg (by decide) (Ev.neg (by decide) (Ev.pos rfl ?_)))))))
 exact sl5 t.parts h hl t.parts [] [] 0 rfl (by omega) rfl
theorem num2 (c : UInt8) (a b : Nat) (ha : a < 10007) (hb : b < 10007) (hc : c = 43 ∨ c = 42 ∨ c = 94 ∨ c = 45 ∨ c = 61 ∨ c = 60) : spec_l6Number.f (c.toNat : Int) (a : Int) (b : Int) = some ((op2 c a b : Nat) : Int) := by
 have hab : (a : Int) * (b : Int) ≤ 100140049 := by
   have := Nat.mul_le_mul (Nat.le_of_lt_succ (Nat.lt_succ_of_lt ha)) (Nat.le_of_lt_succ (Nat.lt_succ_of_lt hb))
   have e : (a : Int) * (b : Int) = ((a * b : Nat) : Int) := by push_cast; rfl
   omega
 have hab0 : 0 ≤ (a : Int) * (b : Int) := Int.mul_nonneg (by omega) (by omega)
 unfold spec_l6Number.f
 rcases hc with rfl | rfl | rfl | rfl | rfl | rfl
 · rw [if_pos (by decide), addS a b (by omega) (by omega)]
   rfl
 · rw [if_neg (by decide), if_pos (by decide), wrapS (by omega) (by omega), show (a : Int) * (b : Int) = ((a * b : Nat) : Int) by push_cast; rfl, tmodM _]
   rfl
 · rw [if_neg (by decide), if_neg (by decide), if_pos (by decide)]
   show some (mx (a : Int) (b : Int)) = some ((max a b : Nat) : Int)
   congr 1
   unfold mx
   split <;> omega
 · rw [if_neg (by decide), if_neg (by decide), if_neg (by decide), if_pos (by decide)]
   show some (mx (wrap64 ((a : Int) - (b : Int))) 0) = some ((a - b : Nat) : Int)
   rw [wrapS (by omega) (by omega)]
   congr 1
   unfold mx
   split <;> omega
 · rw [if_neg (by decide), if_neg (by decide), if_neg (by decide), if_neg (by decide), if_pos (by decide)]
   by_cases h : a = b
   · subst h
     simp [spec_l6Truth.f, op2]
   · have : ((a : Int) == (b : Int)) = false := by simpa using fun e : (a : Int) = b => h (by omega)
     simp [spec_l6Truth.f, op2, this, h]
 · rw [if_neg (by decide), if_neg (by decide), if_neg (by decide), if_neg (by decide), if_neg (by decide)]
   by_cases h : a < b
   · simp [spec_l6Truth.f, op2, h]
   · simp [spec_l6Truth.f, op2, h]
theorem two2 (c : UInt8) (a b : Nat) (ps qs : List NS) (ha : a < 10007) (hb : b < 10007) (hc : c = 43 ∨ c = 42 ∨ c = 94 ∨ c = 45 ∨ c = 61 ∨ c = 60) : spec_l6Two.f (c.toNat : Int) (a : Int) ps (b : Int) qs = some (((op2 c a b : Nat) : Int), []) := by
 have hne : ¬ (c.toNat : Int) = 64 := by
   rcases hc with rfl | rfl | rfl | rfl | rfl | rfl <;> decide
 unfold spec_l6Two.f
 rw [Option.bind_some, if_neg hne, num2 c a b ha hb hc]
 rfl
theorem twoAt (t : Tr) (v : Nat) (qs : List NS) : spec_l6Two.f ((64 : UInt8).toNat : Int) (cS 1 t).f0 (cS 1 t).f1 (v : Int) qs = some (((pickN t v : Nat) : Int), []) := by
 unfold spec_l6Two.f
 rw [Option.bind_some, if_pos (by decide)]
 by_cases h : v < t.parts.length
 · have hg : rd_T77 (t.parts.map (cS 0)) (v : Int) = cS 0 t.parts[v] := getD_map _ _ _ _ h
   rw [if_pos (by show (v : Int) < ((t.parts.map (cS 0)).length : Int); rw [List.length_map]; omega), if_pos (by omega)]
   show some ((rd_T77 (t.parts.map (cS 0)) (v : Int)).f0, _) = _
   rw [hg]
   simp [pickN, cS, List.getD_eq_getElem?_getD, h]
 · rw [if_neg (by show ¬ (v : Int) < ((t.parts.map (cS 0)).length : Int); rw [List.length_map]; omega)]
   simp [pickN, List.getD_eq_getElem?_getD, h]
end Go.Proofs.YtoloblgjlnhioaaDoor.H
namespace Go.Proofs.YtoloblgjlnhioaaDoor.H
open Go.RowKit Go.Proofs.YtoloblgjlnhioaaDoorW.PrintWords Go.Proofs.YtoloblgjlnhioaaDoorW.PrintLast Go.Proofs.YtoloblgjlnhioaaDoorW.PrintMore Go.Proofs.YtoloblgjlnhioaaDoor.Q
set_option linter.unusedSimpArgs false
set_option linter.unusedVariables false
def TextS (d : Nat) : Prop := ∀ t, Sh d t → nodes d t ≤ 1000000000 → Ev (fun k => spec_l1Text.f k (cS d t).f0 (cS d t).f1 (d : Int)) (BA (text d t))
theorem textS_l0 (d : Nat) (hd : d ≤ 1000) (ih : TextS d) (t : Tr) (hs : Sh (d + 1) t) (hn : nodes (d + 1) t ≤ 1000000000) :
   ∀ (n i : Nat), t.parts.length - i = n → i ≤ t.parts.length → Ev (fun k => spec_l1Text.l0 k ((d + 1 : Nat) : Int) (BA (91 :: Lib.join ((t.parts.take i).map (text d)) [44])) (t.parts.map (cS d)) ((t.parts.map (cS d)).length : Int) (i : Int)) (BA (text (d + 1) t)) := by
 have hpl := parts_len d t
 have htl := text_le (d + 1) t hs
 have hte : (text (d + 1) t).length = (Lib.join (t.parts.map (text d)) [44]).length + 2 := by simp [text]
 intro n
 induction n with
 | zero =>
   intro i h hi
   refine Ev.step' ?_; simp only [spec_l1Text.l0]
   rw [List.take_of_length_le (by omega)]
   refine Ev.neg (by rw [List.length_map]; omega) (Ev.pos (by simp; omega) (Ev.val ?_))
   show BA _ ++ BA [93] = _
   rw [BA_append]
   rfl
 | succ n ihn =>
   intro i h hi
   have hlt : i < t.parts.length := by omega
   have hjl := join_take_le (text d) t.parts i hi
   have hjl2 := join_take_le (text d) t.parts (i + 1) (by omega)
   have hm : t.parts[i] ∈ t.parts := List.getElem_mem hlt
   have hx := ih t.parts[i] (hs _ hm) (by have := nodes_part (d := d) hm; omega)
   have hg : rd_T77 (t.parts.map (cS d)) (i : Int) = cS d t.parts[i] := getD_map _ _ _ _ hlt
   refine Ev.step' ?_; simp only [spec_l1Text.l0]
   refine Ev.pos (by rw [List.length_map]; omega) (Ev.pos (by omega) (Ev.pos (by rw [List.length_map]; omega) ?_))
   rw [hg, show wrap64 (((d + 1 : Nat) : Int) - 1) = (d : Int) by rw [wrapS (by omega) (by omega)]; omega, wrapS (a := (i : Int) + 1) (by omega) (by omega)]
   have hnext := ihn (i + 1) (by omega) (by omega)
   rcases Nat.eq_zero_or_pos i with rfl | h0
   · refine Ev.neg (by simp) (Ev.bind hx ?_)
     rw [take_snoc _ 0 hlt] at hnext hjl2
     simp only [List.take_zero, List.nil_append, List.map_cons, List.map_nil, join_one] at hnext hjl2
     refine Ev.pos (by simp [Lib.join_nil]; omega) ?_
     rw [BA_append]
     exact hnext
   · rw [join_take _ _ _ hlt h0] at hnext hjl2
     rw [List.length_append, List.length_cons] at hjl2
     refine Ev.pos (by omega) (Ev.pos (by simp only [BA_size, List.length_cons]; omega) (Ev.bind hx (Ev.pos (by simp only [BA_size, List.length_cons]; omega) ?_)))
     have e : BA (91 :: Lib.join ((t.parts.take i).map (text d)) [44]) ++ (⟨#[44]⟩ : ByteArray) ++ BA (text d t.parts[i]) = BA (91 :: (Lib.join ((t.parts.take i).map (text d)) [44] ++ 44 :: text d t.parts[i])) := by
       show BA _ ++ BA [44] ++ BA _ = _
       rw [BA_append, BA_append]
       simp
     rw [e]
     exact hnext
theorem textS_is : ∀ d, d ≤ 1000 → TextS d
 | 0, _ => by
   intro t hs hn
   refine Ev.step' ?_; simp only [spec_l1Text.f]
   have h9 : t.n < 1000000000 := hs
   refine Ev.pos (by first | trivial | rfl) (Ev.bind (l13Dec_is t.n (by omega)) (Ev.val rfl))
 | d + 1, hd => by
   intro t hs hn
   refine Ev.step' ?_; simp only [spec_l1Text.f]
   exact Ev.neg (by omega) (textS_l0 d (by omega) (textS_is d (by omega)) t hs hn _ 0 rfl (by omega))

end Go.Proofs.YtoloblgjlnhioaaDoor.H
namespace Go.Proofs.YtoloblgjlnhioaaDoor.H
open Go.RowKit Go.Proofs.YtoloblgjlnhioaaDoorW.PrintWords Go.Proofs.YtoloblgjlnhioaaDoorW.PrintLast Go.Proofs.YtoloblgjlnhioaaDoorW.PrintMore Go.Proofs.YtoloblgjlnhioaaDoor.Q
set_option linter.unusedSimpArgs false
set_option linter.unusedVariables false

theorem toldS_is (d : Nat) (hd : d ≤ 1000) (t : Tr) (hs : Sh d t) (hn : nodes d t ≤ 1000000000) : Ev (fun k => spec_l1Told.f k (cS d t).f0 (cS d t).f1 (d : Int)) (told (text d t)) := by
 unfold spec_l1Told.f told
 refine Ev.bind (textS_is d hd t hs hn) ?_
 by_cases h : (text d t).length ≤ 400
 · rw [if_pos h]
   exact Ev.neg (by rw [BA_size]; omega) (Ev.now _)
 · rw [if_neg h]
   exact Ev.pos (by rw [BA_size]; omega) (Ev.now _)
end Go.Proofs.YtoloblgjlnhioaaDoor.H
namespace Go.Proofs.YtoloblgjlnhioaaDoor.H
open Go.RowKit Go.Proofs.YtoloblgjlnhioaaDoorW.PrintWords Go.Proofs.YtoloblgjlnhioaaDoorW.PrintLast Go.Proofs.YtoloblgjlnhioaaDoorW.PrintMore Go.Proofs.YtoloblgjlnhioaaDoor.Q
set_option linter.unusedSimpArgs false
set_option linter.unusedVariables false

theorem shortA_is (d : Nat) (hd : d ≤ 1000) (t : Tr) (hs : Sh d t) (hn : nodes d t ≤ 1000000000) : Ev (fun k => impl_arr_short.f k (cA d t).f0 (cA d t).f1 (d : Int)) (told (text d t)) := by
 unfold impl_arr_short.f told
 refine Ev.bind (textA_is d hd t hs hn) ?_
 by_cases h : (text d t).length ≤ 400
 · rw [if_pos h]
   exact Ev.neg (by rw [BA_size]; omega) (Ev.now _)
 · rw [if_neg h]
   exact Ev.pos (by rw [BA_size]; omega) (Ev.now _)
end Go.Proofs.YtoloblgjlnhioaaDoor.H
namespace Go.Proofs.YtoloblgjlnhioaaDoor.H
open Go.RowKit Go.Proofs.YtoloblgjlnhioaaDoorW.PrintWords Go.Proofs.YtoloblgjlnhioaaDoorW.PrintLast Go.Proofs.YtoloblgjlnhioaaDoorW.PrintMore Go.Proofs.YtoloblgjlnhioaaDoor.Q
set_option linter.unusedSimpArgs false
set_option linter.unusedVariables false

theorem sumRev : ∀ (l : List Nat), l.reverse.sum = l.sum
 | [] => rfl
 | x :: l => by rw [List.reverse_cons, List.sum_append, sumRev l, List.sum_cons]; simp; omega
theorem sumOnes : ∀ (l : List Nat), ((l.map n0).map (nodes 0)).sum = l.length
 | [] => rfl
 | x :: l => by
   have := sumOnes l
   rw [List.map_cons, List.map_cons, List.sum_cons, this, List.length_cons]
   show 1 + _ = _
   omega
theorem nodesFl (d : Nat) : ∀ (vs : List Tr), (((vs.map (·.parts)).flatten).map (nodes d)).sum ≤ (vs.map (nodes (d + 1))).sum
 | [] => Nat.le_refl _
 | x :: vs => by
   have := nodesFl d vs
   rw [List.map_cons, List.flatten_cons, List.map_append, List.sum_append, List.map_cons, List.sum_cons]
   have e : nodes (d + 1) x = 1 + (x.parts.map (nodes d)).sum := rfl
   omega
/-- What is known of an array that was read. -/
theorem read_facts {d : Nat} {l : By} {t : Tr} (h : readD d l = some t) : Ok d t ∧ nodes d t ≤ 400 := by
 obtain ⟨h1, h2, h3⟩ := readD_ok h
 have := nodes_le_text d t
 rw [← h1] at this
 exact ⟨h2, by omega⟩
theorem vals_lt {t : Tr} (h : Ok 1 t) : ∀ x ∈ vals t, x < 10007 := by
 intro x hx
 obtain ⟨y, hy, rfl⟩ := List.mem_map.1 hx
 exact (h.2 y hy).1
theorem shN {v : Nat} (h : v < 10007) : Sh 0 (n0 v) := by show v < 1000000000; omega
theorem sg1_mem {c : UInt8} {d : Int} (h : ¬ sg1 c d < 0) : c ∈ ([83, 77, 73, 78, 82, 67, 80] : By) := by
 unfold sg1 at h
 by_cases h1 : c = 83
 · simp [h1]
 by_cases h2 : c = 77
 · simp [h2]
 by_cases h3 : c = 78
 · simp [h3]
 by_cases h4 : c = 73
 · simp [h4]
 by_cases h5 : c = 80
 · simp [h5]
 by_cases h6 : c = 82
 · simp [h6]
 by_cases h7 : c = 67
 · simp [h7]
 simp [h1, h2, h3, h4, h5, h6, h7] at h
/-- What a sign with one part gives, told by both. -/
theorem one_gives {c : UInt8} {d : Nat} {l : By} {t : Tr} (h : readD d l = some t) (hg : ¬ sg1 c (d : Int) < 0) :
   ∃ (e : Nat) (u : Tr), sg1 c (d : Int) = (e : Int) ∧ e ≤ d + 1 ∧ Sh e u ∧ nodes e u ≤ 1000000000 ∧ giveE c [cA d t] ((cA e u).f0, (cA e u).f1) ∧ oneE c (cS d t) ((cS e u).f0, (cS e u).f1) := by
 obtain ⟨hok, hn⟩ := read_facts h
 have hm := sg1_mem hg
 simp only [List.mem_cons, List.not_mem_nil, or_false] at hm
 rcases hm with rfl | rfl | rfl | rfl | rfl | rfl | rfl
 · -- S
   have hd : d = 1 := by
     by_cases h1 : d = 1
     · exact h1
     · exfalso
       have h2 : ¬ (d : Int) = 1 := by omega
       simp [sg1, h1, h2] at hg
   subst hd
   have hp : t.parts.length + 1 ≤ nodes 1 t := parts_len 0 t
   have hv : (vals t).sum % 10007 < 10007 := Nat.mod_lt _ (by omega)
   exact ⟨0, n0 ((vals t).sum % 10007), rfl, by omega, shN hv, by show 1 ≤ _; omega, giveS t (vals_lt hok) (by omega), oneS t (vals_lt hok) (by omega)⟩
 · -- M
   have hd : d = 1 := by
     by_cases h1 : d = 1
     · exact h1
     · exfalso
       have h2 : ¬ (d : Int) = 1 := by omega
       simp [sg1, h1, h2] at hg
   subst hd
   have hp : t.parts.length + 1 ≤ nodes 1 t := parts_len 0 t
   exact ⟨0, n0 ((vals t).foldl max 0), rfl, by omega, shN (foldmax_lt _ _ (by omega) (vals_lt hok)), by show 1 ≤ _; omega, giveM t (by omega), oneM t (by omega)⟩
 · -- I
   have hd : d = 0 := by
     by_cases h1 : d = 0
     · exact h1
     · exfalso
       have h2 : ¬ (d : Int) = 0 := by omega
       simp [sg1, h1, h2] at hg
   subst hd
   obtain ⟨v, ps⟩ := t
   obtain ⟨h1, h2⟩ := hok
   simp only at h1 h2
   subst h2
   refine ⟨1, ⟨0, (List.range (min v 12)).map n0⟩, rfl, by omega, ?_, ?_, giveI v, oneI v⟩
   · intro x hx
     obtain ⟨y, hy, rfl⟩ := List.mem_map.1 hx
     rw [List.mem_range] at hy
     exact shN (by omega)
   · show 1 + (((List.range (min v 12)).map n0).map (nodes 0)).sum ≤ _
     rw [sumOnes, List.length_range]
     omega
 · -- N
   obtain ⟨d, rfl⟩ : ∃ d', d = d' + 1 := by
     cases d with
     | zero => simp [sg1] at hg
     | succ d => exact ⟨d, rfl⟩
   have e : sg1 78 ((d + 1 : Nat) : Int) = 0 := by
     simp [sg1]
     omega
   exact ⟨0, n0 (t.parts.length % 10007), e, by omega, shN (Nat.mod_lt _ (by omega)), by show 1 ≤ _; omega, giveN d t, oneN d t⟩
 · -- R
   obtain ⟨d, rfl⟩ : ∃ d', d = d' + 1 := by
     cases d with
     | zero => simp [sg1] at hg
     | succ d => exact ⟨d, rfl⟩
   have e : sg1 82 ((d + 1 : Nat) : Int) = ((d + 1 : Nat) : Int) := by
     simp [sg1]
     omega
   have hp := parts_len d t
   refine ⟨d + 1, ⟨0, t.parts.reverse⟩, e, by omega, fun x hx => Sh.of (hok.2 x (List.mem_reverse.1 hx)), ?_, giveR d t (by omega), oneR d t (by omega)⟩
   show 1 + (t.parts.reverse.map (nodes d)).sum ≤ _
   rw [List.map_reverse, sumRev]
   have : nodes (d + 1) t = 1 + (t.parts.map (nodes d)).sum := rfl
   omega
 · -- C
   obtain ⟨d, rfl⟩ : ∃ d', d = d' + 2 := by
     cases d with
     | zero => simp [sg1] at hg
     | succ d =>
       cases d with
       | zero => simp [sg1] at hg
       | succ d => exact ⟨d, rfl⟩
   have e : sg1 67 ((d + 2 : Nat) : Int) = ((d + 1 : Nat) : Int) := by
     simp [sg1]
     rw [if_pos (by omega)]
     omega
   have hp : t.parts.length + 1 ≤ nodes (d + 2) t := parts_len (d + 1) t
   have hfl := nodesFl d t.parts
   have hnt : nodes (d + 2) t = 1 + (t.parts.map (nodes (d + 1))).sum := rfl
   have hnu : nodes (d + 1) ⟨0, (t.parts.map (·.parts)).flatten⟩ = 1 + (((t.parts.map (·.parts)).flatten).map (nodes d)).sum := rfl
   have hpu := parts_len d ⟨0, (t.parts.map (·.parts)).flatten⟩
   simp only at hpu
   refine ⟨d + 1, ⟨0, (t.parts.map (fun x : Tr => x.parts)).flatten⟩, e, by omega, fun x hx => ?_, by omega, giveC d t (by omega) (by omega), oneC d t (by omega) (by omega)⟩
   obtain ⟨q, hq, hxq⟩ := List.mem_flatten.1 hx
   obtain ⟨y, hy, rfl⟩ := List.mem_map.1 hq
   exact Sh.of ((hok.2 y hy).2 x hxq)
 · -- P
   have hd : d = 1 := by
     by_cases h1 : d = 1
     · exact h1
     · exfalso
       have h2 : ¬ (d : Int) = 1 := by omega
       simp [sg1, h1, h2] at hg
   subst hd
   have hp : t.parts.length + 1 ≤ nodes 1 t := parts_len 0 t
   refine ⟨1, ⟨0, (pre 0 (vals t)).map n0⟩, rfl, by omega, fun x hx => ?_, ?_, giveP t (vals_lt hok) (by omega), oneP t (vals_lt hok) (by omega)⟩
   · obtain ⟨y, hy, rfl⟩ := List.mem_map.1 hx
     exact shN (pre_lt 0 _ (by omega) y hy)
   · show 1 + (((pre 0 (vals t)).map n0).map (nodes 0)).sum ≤ _
     rw [sumOnes, pre_len, List.length_map]
     omega
theorem op2_lt (c : UInt8) (a b : Nat) (ha : a < 10007) (hb : b < 10007) : op2 c a b < 10007 := by
 unfold op2
 split
 · exact Nat.mod_lt _ (by omega)
 split
 · exact Nat.mod_lt _ (by omega)
 split
 · omega
 split
 · omega
 split
 · split <;> omega
 · split <;> omega
theorem pick_lt {t : Tr} (h : Ok 1 t) (i : Nat) : pickN t i < 10007 := by
 unfold pickN
 rw [List.getD_eq_getElem?_getD]
 cases hi : (t.parts.map (·.n))[i]? with
 | none => show 0 < _; omega
 | some v => exact vals_lt h v (List.mem_of_getElem? hi)
/-- .. with two parts. -/
theorem two_gives {c : UInt8} {d : Nat} {l l2 : By} {t t2 : Tr} (h : readD d l = some t) (h2 : readD 0 l2 = some t2) (hg : ¬ sg2 c (d : Int) < 0) :
   ∃ v, v < 10007 ∧ giveE c [cA d t, cA 0 t2] ((v : Nat), []) ∧ spec_l6Two.f (c.toNat : Int) (cS d t).f0 (cS d t).f1 (cS 0 t2).f0 (cS 0 t2).f1 = some (((v : Nat) : Int), []) ∧ c ∈ ([43, 42, 94, 45, 61, 60, 64] : By) ∧ (if c = 64 then (if (d : Int) = 1 then (0 : Int) else -1) else if (d : Int) = 0 then 0 else -1) = 0 := by
 obtain ⟨hok, hn⟩ := read_facts h
 obtain ⟨hok2, hn2⟩ := read_facts h2
 obtain ⟨v2, ps2⟩ := t2
 obtain ⟨q1, q2⟩ := hok2
 simp only at q1 q2
 subst q2
 unfold sg2 at hg
 split at hg
 · next hc =>
   rcases hc with ⟨hc, hd⟩ | ⟨rfl, hd⟩
   · have hd0 : d = 0 := by omega
     subst hd0
     have hne : c ≠ 64 := by rintro rfl; simp at hc
     refine ⟨op2 c t.n v2, op2_lt c _ _ hok.1 q1, give2 c t.n v2 _ _ rfl rfl hok.1 q1 hc, two2 c t.n v2 _ _ hok.1 q1 hc, ?_, ?_⟩
     · rcases hc with rfl | rfl | rfl | rfl | rfl | rfl <;> simp
     · rw [if_neg hne]
       rfl
   · have hd1 : d = 1 := by omega
     subst hd1
     exact ⟨pickN t v2, pick_lt hok v2, giveAt t v2 t, twoAt t v2 _, by simp, by simp⟩
 · exact absurd (by decide) hg
/-! ### reading -/
def rdZ (dp : Int) (l : By) : Option Tr := if 0 ≤ dp ∧ dp ≤ 3 then readD dp.toNat l else none
theorem rdZ_nat {d : Nat} (hd : d ≤ 3) (l : By) : rdZ (d : Int) l = readD d l := by
 unfold rdZ
 rw [if_pos (by omega), Int.toNat_natCast]
theorem arrZ_none {dp : Int} {l : By} (h : rdZ dp l = none) : ∃ f0 f1, Ev (fun k => impl_arrOf.f k (BA l) dp) (f0, f1, false) := by
 by_cases hd : 0 ≤ dp ∧ dp ≤ 3
 · obtain ⟨d, rfl⟩ : ∃ d : Nat, dp = (d : Int) := ⟨dp.toNat, by omega⟩
   rw [rdZ_nat (by omega)] at h
   obtain ⟨t, h1, _⟩ := arrOf_is d (by omega) l
   rw [h] at h1
   exact ⟨_, _, h1⟩
 · exact ⟨_, _, arrOf_out dp (by omega) _⟩
theorem readZ_none {dp : Int} {l : By} (h : rdZ dp l = none) : Ev (fun k => spec_l1Read.f k (BA l) dp) (0, [], false) := by
 by_cases hd : 0 ≤ dp ∧ dp ≤ 3
 · obtain ⟨d, rfl⟩ : ∃ d : Nat, dp = (d : Int) := ⟨dp.toNat, by omega⟩
   rw [rdZ_nat (by omega)] at h
   have := l1Read_is d (by omega) l
   rw [h] at this
   exact this
 · exact l1Read_out dp (by omega) _
theorem rdZ_some {dp : Int} {l : By} {t : Tr} (h : rdZ dp l = some t) : ∃ d : Nat, dp = (d : Int) ∧ d ≤ 3 ∧ readD d l = some t := by
 unfold rdZ at h
 split at h
 · next hd => exact ⟨dp.toNat, by omega, by omega, h⟩
 · cases h
theorem arrZ {d : Nat} (hd : d ≤ 3) {l : By} {t : Tr} (h : readD d l = some t) : Ev (fun k => impl_arrOf.f k (BA l) (d : Int)) ((cA d t).f0, (cA d t).f1, true) := by
 obtain ⟨t', h1, _, _, h2⟩ := arrOf_is d hd l
 obtain rfl := h2 t h
 rw [h] at h1
 exact h1
theorem readZ {d : Nat} (hd : d ≤ 3) {l : By} {t : Tr} (h : readD d l = some t) : Ev (fun k => spec_l1Read.f k (BA l) (d : Int)) ((cS d t).f0, (cS d t).f1, true) := by
 have := l1Read_is d hd l
 rw [h] at this
 exact this
theorem arr_any (dp : Int) (l : By) : ∃ f0 f1 b, Ev (fun k => impl_arrOf.f k (BA l) dp) (f0, f1, b) := by
 cases h : rdZ dp l with
 | none =>
   obtain ⟨f0, f1, h1⟩ := arrZ_none h
   exact ⟨f0, f1, false, h1⟩
 | some t =>
   obtain ⟨d, rfl, hd, h1⟩ := rdZ_some h
   exact ⟨_, _, true, arrZ hd h1⟩
/-! ### what is refused -/
abbrev bad : ByteArray × Bool := (BA [], false)
theorem j1_bad (s : ByteArray) (x8 : List NA) (g : Int) : Ev (fun k => impl_ApplySign.j1 k s x8 g true) bad := by
 refine Ev.step' ?_; simp only [impl_ApplySign.j1]
 exact Ev.pos (by first | trivial | rfl) (Ev.now _)
theorem rdBA {ts : List By} {i : Nat} (h : i < ts.length) : rdOf ByteArray.empty (ts.map BA) (i : Int) = BA ts[i] := by
 unfold rdOf
 rw [Int.toNat_natCast, List.getD_eq_getElem?_getD, List.getElem?_map, List.getElem?_eq_getElem h]
 rfl
def endA (s : By) (x8 : List NA) (x9 : List Int) (k : Nat) : Option (ByteArray × Bool) := (impl_signDepth.f k (BA s) x9).bind fun g => (if ((BA s).size : Int) = 1 then (impl_ApplySign.j1 k (BA s) x8 g (decide (g < 0))) else (impl_ApplySign.j1 k (BA s) x8 g true))
theorem loop_bad (s : By) (dp : Int) (ts : List By) (hl : ts.length ≤ 2000000) (hend : ∀ (x8 : List NA) (x9 : List Int), x9.length = ts.length → Ev (endA s x8 x9) bad) : ∀ (n i : Nat) (x8 : List NA) (x9 : List Int), ts.length - i = n → i ≤ ts.length → x8.length = i → x9.length = i →
   Ev (fun k => impl_ApplySign.l0 k (BA s) dp x8 x9 (ts.map BA) ((ts.map BA).length : Int) (i : Int)) bad := by
 intro n
 induction n with
 | zero =>
   intro i x8 x9 h hi h8 h9
   refine Ev.step' ?_; simp only [impl_ApplySign.l0]
   exact Ev.neg (by rw [List.length_map]; omega) (hend x8 x9 (by omega))
 | succ n ih =>
   intro i x8 x9 h hi h8 h9
   have hlt : i < ts.length := by omega
   refine Ev.step' ?_; simp only [impl_ApplySign.l0]
   refine Ev.pos (by rw [List.length_map]; omega) (Ev.pos (by omega) (Ev.pos (by rw [List.length_map]; omega) ?_))
   rw [rdBA hlt, wrapS (by omega) (by omega)]
   by_cases h0 : (i : Int) > 0
   · obtain ⟨f0, f1, b, hb⟩ := arr_any 0 ts[i]
     refine Ev.pos h0 (Ev.bind hb ?_)
     cases b with
     | false => exact Ev.neg (by simp) (Ev.now _)
     | true => exact Ev.pos rfl (Ev.pos (by omega) (Ev.pos (by omega) (ih (i + 1) _ _ (by omega) (by omega) (by simp [h8]) (by simp [h9]))))
   · obtain ⟨f0, f1, b, hb⟩ := arr_any dp ts[i]
     refine Ev.neg h0 (Ev.bind hb ?_)
     cases b with
     | false => exact Ev.neg (by simp) (Ev.now _)
     | true => exact Ev.pos rfl (Ev.pos (by omega) (Ev.pos (by omega) (ih (i + 1) _ _ (by omega) (by omega) (by simp [h8]) (by simp [h9]))))
theorem implBad {s : By} {dp : Int} {ts : List By} (hl : ts.length ≤ 2000000) (h : s.length ≠ 1 ∨ ts.length = 0 ∨ 2 < ts.length) : Ev (fun k => impl_ApplySign.f k (BA s) (ts.map BA) dp) bad := by
 unfold impl_ApplySign.f
 refine loop_bad s dp ts hl (fun x8 x9 h9 => ?_) _ 0 [] [] rfl (Nat.zero_le _) rfl rfl
 rcases h with h | h
 · obtain ⟨g, hg⟩ := sd_any (BA s) x9
   exact Ev.bind hg (Ev.neg (by rw [BA_size]; omega) (j1_bad _ _ _))
 · refine Ev.bind (sd_wrong (BA s) x9 (by omega)) ?_
   by_cases hs : ((BA s).size : Int) = 1
   · exact Ev.pos hs (j1_bad _ _ _)
   · exact Ev.neg hs (j1_bad _ _ _)
theorem specBad {s : By} {dp : Int} {ts : List By} (h : s.length ≠ 1 ∨ ts.length = 0 ∨ 2 < ts.length) : Ev (fun k => spec_ApplySign.f k (BA s) (ts.map BA) dp) bad := by
 have hj : Ev (fun k => spec_ApplySign.j0 k (BA s) (ts.map BA) dp true) bad := by
   refine Ev.step' ?_; simp only [spec_ApplySign.j0]
   exact Ev.pos (by first | trivial | rfl) (Ev.now _)
 unfold spec_ApplySign.f
 by_cases hs : ((BA s).size : Int) = 1
 · refine Ev.pos hs ?_
   rw [BA_size] at hs
   by_cases h0 : ((ts.map BA).length : Int) < 1
   · exact Ev.pos h0 hj
   · refine Ev.neg h0 ?_
     rw [List.length_map] at h0 ⊢
     rw [show decide ((ts.length : Int) > 2) = true by rw [decide_eq_true_iff]; omega]
     exact hj
 · exact Ev.neg hs hj
theorem ev_of {α : Type} {g : Nat → Option α} (hg : ∀ k, LeO (g k) (g (k + 1))) {k : Nat} {r : α} (h : g k = some r) : Ev g r := Ev.of hg h
theorem sd1_ev (c : UInt8) (d : Nat) (hd : d ≤ 3) : Ev (fun k => impl_signDepth.f k (BA [c]) [(d : Int)]) (sg1 c (d : Int)) := Ev.of (fun k => impl_signDepth.mono _ _ k) (sd_one c d hd)
theorem sd2_ev (c : UInt8) (d : Nat) (hd : d ≤ 3) : Ev (fun k => impl_signDepth.f k (BA [c]) [(d : Int), 0]) (sg2 c (d : Int)) := Ev.of (fun k => impl_signDepth.mono _ _ k) (sd_two c d hd)
theorem one_ev (c : UInt8) (d : Nat) (hd : d ≤ 3) : Ev (fun k => spec_l5One.f k (c.toNat : Int) (d : Int)) (sg1 c (d : Int)) := Ev.of (fun k => spec_l5One.mono _ _ k) (one_is c d hd)
theorem two_ev (c : UInt8) (d : Nat) : Ev (fun k => spec_l5Two.f k (c.toNat : Int) (d : Int) 0) (if c = 64 then (if (d : Int) = 1 then 0 else -1) else if (d : Int) = 0 then 0 else -1) := Ev.of (fun k => spec_l5Two.mono _ _ _ k) (two_is c d)
theorem bt_c (c : UInt8) : bt (BA [c]) 0 = (c.toNat : Int) := bt_BA _ _
theorem w1 : wrap64 (0 + 1) = 1 := by rw [wrapS (by omega) (by omega)]; rfl
theorem w2 : wrap64 (1 + 1) = 2 := by rw [wrapS (by omega) (by omega)]; rfl
/-! ### one part -/
theorem implOne (c : UInt8) (dp : Int) (l : By) {r : ByteArray × Bool} (h0 : rdZ dp l = none → r = bad) (h1 : ∀ (d : Nat) t, dp = (d : Int) → d ≤ 3 → readD d l = some t → Ev (endA [c] [cA d t] [(d : Int)]) r) : Ev (fun k => impl_ApplySign.f k (BA [c]) [BA l] dp) r := by
 unfold impl_ApplySign.f
 refine Ev.step' ?_; simp only [impl_ApplySign.l0]
 refine Ev.pos (by simp) (Ev.pos (by omega) (Ev.pos (by simp) (Ev.neg (by omega) ?_)))
 show Ev (fun k => (impl_arrOf.f k (BA l) dp).bind _) r
 cases h : rdZ dp l with
 | none =>
   obtain ⟨f0, f1, hf⟩ := arrZ_none h
   rw [h0 h]
   exact Ev.bind hf (Ev.neg (by simp) (Ev.now _))
 | some t =>
   obtain ⟨d, rfl, hd, hr⟩ := rdZ_some h
   refine Ev.bind (arrZ hd hr) (Ev.pos rfl (Ev.pos (by simp) (Ev.pos (by simp) ?_)))
   rw [mkA, w1]
   refine Ev.step' ?_; simp only [impl_ApplySign.l0]
   exact Ev.neg (by simp) (h1 d t rfl hd hr)
/-- What one part comes to. -/
def OneR (c : UInt8) (dp : Int) (l : By) (r : ByteArray × Bool) : Prop := ∃ (d e : Nat) (t u : Tr), dp = (d : Int) ∧ d ≤ 3 ∧ readD d l = some t ∧ sg1 c (d : Int) = (e : Int) ∧ giveE c [cA d t] ((cA e u).f0, (cA e u).f1) ∧ r = told (text e u)
theorem app_one (c : UInt8) (dp : Int) (l : By) : ∃ r, Ev (fun k => impl_ApplySign.f k (BA [c]) [BA l] dp) r ∧ Ev (fun k => spec_ApplySign.f k (BA [c]) [BA l] dp) r ∧ (r = bad ∨ OneR c dp l r) := by
 have spec0 : ∀ r, Ev (fun k => spec_ApplySign.j0 k (BA [c]) [BA l] dp false) r → Ev (fun k => spec_ApplySign.f k (BA [c]) [BA l] dp) r := fun r h => by
   unfold spec_ApplySign.f
   exact Ev.pos (by simp) (Ev.neg (by simp) h)
 cases h : rdZ dp l with
 | none =>
   refine ⟨bad, implOne c dp l (fun _ => rfl) (fun d t e hd hr => ?_), spec0 _ ?_, .inl rfl⟩
   · subst e
     rw [rdZ_nat hd, hr] at h
     cases h
   · refine Ev.step' ?_; simp only [spec_ApplySign.j0]
     exact Ev.neg (by simp) (Ev.pos (by simp) (Ev.bind (readZ_none h) (Ev.neg (by simp) (Ev.now _))))
 | some t =>
   obtain ⟨d, rfl, hd, hr⟩ := rdZ_some h
   by_cases hg : sg1 c (d : Int) < 0
   · refine ⟨bad, implOne c _ l (fun e => absurd (h.symm.trans e) (by simp)) (fun d' t' e hd' hr' => ?_), spec0 _ ?_, .inl rfl⟩
     · obtain rfl : d = d' := by omega
       refine Ev.bind (sd1_ev c d hd) (Ev.pos (by simp) ?_)
       rw [decide_eq_true hg]
       exact j1_bad _ _ _
     · refine Ev.step' ?_; simp only [spec_ApplySign.j0]
       refine Ev.neg (by simp) (Ev.pos (by simp) (Ev.bind (readZ hd hr) (Ev.pos rfl (Ev.pos (by simp) (Ev.pos (by simp) ?_)))))
       rw [bt_c]
       refine Ev.bind (one_ev c d hd) (Ev.pos hg ?_)
       refine Ev.step' ?_; simp only [spec_ApplySign.j1]
       exact Ev.pos (by first | trivial | rfl) (Ev.now _)
   · obtain ⟨e, u, he, hed, hsh, hnd, hA, hS⟩ := one_gives hr hg
     refine ⟨told (text e u), implOne c _ l (fun e => absurd (h.symm.trans e) (by simp)) (fun d' t' ee hd' hr' => ?_), spec0 _ ?_, .inr ⟨d, e, t, u, rfl, hd, hr, he, hA, rfl⟩⟩
     · obtain rfl : d = d' := by omega
       obtain rfl : t = t' := Option.some.inj (hr.symm.trans hr')
       refine Ev.bind (sd1_ev c d hd) (Ev.pos (by simp) ?_)
       rw [decide_eq_false hg, he]
       refine Ev.step' ?_; simp only [impl_ApplySign.j1]
       exact Ev.neg (by simp) (Ev.bind hA (Ev.bind (shortA_is e (by omega) u hsh hnd) (Ev.now _)))
     · obtain ⟨q, hq1, hq2⟩ := find_is [83, 77, 73, 78, 82, 67, 80] (by decide) c
       have hq : ¬ q < 0 := fun e => hq2.1 e (sg1_mem hg)
       refine Ev.step' ?_; simp only [spec_ApplySign.j0]
       refine Ev.neg (by simp) (Ev.pos (by simp) (Ev.bind (readZ hd hr) (Ev.pos rfl (Ev.pos (by simp) (Ev.pos (by simp) ?_)))))
       rw [bt_c]
       refine Ev.bind (one_ev c d hd) (Ev.neg hg (Ev.bind hq1 ?_))
       rw [decide_eq_false hq, he]
       refine Ev.step' ?_; simp only [spec_ApplySign.j1]
       refine Ev.neg (by simp) (Ev.pos (by simp) ?_)
       rw [bt_c]
       exact Ev.bind hS (Ev.bind (toldS_is e (by omega) u hsh hnd) (Ev.now _))
/-! ### two parts -/
theorem implTwo (c : UInt8) (dp : Int) (l l2 : By) {r : ByteArray × Bool} (h0 : rdZ dp l = none ∨ readD 0 l2 = none → r = bad) (h1 : ∀ (d : Nat) t t2, dp = (d : Int) → d ≤ 3 → readD d l = some t → readD 0 l2 = some t2 → Ev (endA [c] [cA d t, cA 0 t2] [(d : Int), 0]) r) : Ev (fun k => impl_ApplySign.f k (BA [c]) [BA l, BA l2] dp) r := by
 unfold impl_ApplySign.f
 refine Ev.step' ?_; simp only [impl_ApplySign.l0]
 refine Ev.pos (by simp) (Ev.pos (by omega) (Ev.pos (by simp) (Ev.neg (by omega) ?_)))
 show Ev (fun k => (impl_arrOf.f k (BA l) dp).bind _) r
 cases h : rdZ dp l with
 | none =>
   obtain ⟨f0, f1, hf⟩ := arrZ_none h
   rw [h0 (.inl h)]
   exact Ev.bind hf (Ev.neg (by simp) (Ev.now _))
 | some t =>
   obtain ⟨d, rfl, hd, hr⟩ := rdZ_some h
   refine Ev.bind (arrZ hd hr) (Ev.pos rfl (Ev.pos (by simp) (Ev.pos (by simp) ?_)))
   rw [mkA, w1]
   refine Ev.step' ?_; simp only [impl_ApplySign.l0]
   refine Ev.pos (by simp) (Ev.pos (by decide) (Ev.pos (by simp) (Ev.pos (by decide) ?_)))
   show Ev (fun k => (impl_arrOf.f k (BA l2) ((0 : Nat) : Int)).bind _) r
   cases h2 : readD 0 l2 with
   | none =>
     obtain ⟨f0, f1, hf⟩ := arrZ_none (dp := ((0 : Nat) : Int)) (l := l2) (by rw [rdZ_nat (by omega)]; exact h2)
     rw [h0 (.inr h2)]
     exact Ev.bind hf (Ev.neg (by simp) (Ev.now _))
   | some t2 =>
     refine Ev.bind (arrZ (by omega) h2) (Ev.pos rfl (Ev.pos (by simp) (Ev.pos (by simp) ?_)))
     rw [mkA, w2]
     refine Ev.step' ?_; simp only [impl_ApplySign.l0]
     exact Ev.neg (by simp) (h1 d t t2 rfl hd hr h2)
theorem app_two (c : UInt8) (dp : Int) (l l2 : By) : ∃ r, Ev (fun k => impl_ApplySign.f k (BA [c]) [BA l, BA l2] dp) r ∧ Ev (fun k => spec_ApplySign.f k (BA [c]) [BA l, BA l2] dp) r ∧ (r = bad ∨ c ∈ ([43, 42, 94, 45, 61, 60, 64] : By) ∧ ∃ x, r = told x) := by
 have spec0 : ∀ r, Ev (fun k => spec_ApplySign.j0 k (BA [c]) [BA l, BA l2] dp false) r → Ev (fun k => spec_ApplySign.f k (BA [c]) [BA l, BA l2] dp) r := fun r h => by
   unfold spec_ApplySign.f
   exact Ev.pos (by simp) (Ev.neg (by simp) h)
 have badJ2 : ∀ x y z w, Ev (fun k => spec_ApplySign.j2 k (BA [c]) true x y z w) bad := fun x y z w => by
   refine Ev.step' ?_; simp only [spec_ApplySign.j2]
   exact Ev.pos (by first | trivial | rfl) (Ev.now _)
 cases h : rdZ dp l with
 | none =>
   refine ⟨bad, implTwo c dp l l2 (fun _ => rfl) (fun d t t2 e hd hr _ => ?_), spec0 _ ?_, .inl rfl⟩
   · subst e
     rw [rdZ_nat hd, hr] at h
     cases h
   · refine Ev.step' ?_; simp only [spec_ApplySign.j0]
     exact Ev.neg (by simp) (Ev.pos (by simp) (Ev.bind (readZ_none h) (Ev.neg (by simp) (Ev.now _))))
 | some t =>
   obtain ⟨d, rfl, hd, hr⟩ := rdZ_some h
   have specA : ∀ r x y b, Ev (fun k => spec_l1Read.f k (BA l2) ((0 : Nat) : Int)) (x, y, b) → Ev (fun k => if b = true then (if 0 < ((BA [c]).size : Int) then ((spec_l13Find.f k (⟨#[43, 42, 94, 45, 61, 60, 64]⟩ : ByteArray) (bt (BA [c]) 0)).bind fun q => (if q < 0 then (spec_ApplySign.j2 k (BA [c]) true (cS d t).f0 (cS d t).f1 x y) else ((spec_l5Two.f k (bt (BA [c]) 0) (d : Int) 0).bind fun z => (spec_ApplySign.j2 k (BA [c]) (decide (z < 0)) (cS d t).f0 (cS d t).f1 x y)))) else none) else (spec_ApplySign.j2 k (BA [c]) true (cS d t).f0 (cS d t).f1 x y)) r → Ev (fun k => spec_ApplySign.j0 k (BA [c]) [BA l, BA l2] (d : Int) false) r := fun r x y b hb hk => by
     refine Ev.step' ?_; simp only [spec_ApplySign.j0]
     exact Ev.neg (by simp) (Ev.pos (by simp) (Ev.bind (readZ hd hr) (Ev.pos rfl (Ev.neg (by simp) (Ev.pos (by simp) (Ev.bind hb hk))))))
   cases h2 : readD 0 l2 with
   | none =>
     refine ⟨bad, implTwo c _ l l2 (fun _ => rfl) (fun d' t' t2 e hd' hr' h2' => by rw [h2] at h2'; cases h2'), spec0 _ (specA _ _ _ _ (readZ_none (by rw [rdZ_nat (by omega)]; exact h2)) (Ev.neg (by simp) (badJ2 _ _ _ _))), .inl rfl⟩
   | some t2 =>
     obtain ⟨q, hq1, hq2⟩ := find_is [43, 42, 94, 45, 61, 60, 64] (by decide) c
     by_cases hg : sg2 c (d : Int) < 0
     · refine ⟨bad, implTwo c _ l l2 (fun e => e.elim (fun e => absurd (h.symm.trans e) (by simp)) (fun e => absurd (h2.symm.trans e) (by simp))) (fun d' t' t2' e hd' hr' h2' => ?_), spec0 _ (specA _ _ _ _ (readZ (by omega) h2) (Ev.pos rfl (Ev.pos (by simp) ?_))), .inl rfl⟩
       · obtain rfl : d = d' := by omega
         refine Ev.bind (sd2_ev c d hd) (Ev.pos (by simp) ?_)
         rw [decide_eq_true hg]
         exact j1_bad _ _ _
       · rw [bt_c]
         refine Ev.bind hq1 ?_
         by_cases hq : q < 0
         · exact Ev.pos hq (badJ2 _ _ _ _)
         · refine Ev.neg hq (Ev.bind (two_ev c d) ?_)
           have hm : c ∈ ([43, 42, 94, 45, 61, 60, 64] : By) := Classical.byContradiction fun hm => hq (hq2.2 hm)
           have hv : (if c = 64 then (if (d : Int) = 1 then (0 : Int) else -1) else if (d : Int) = 0 then 0 else -1) < 0 := by
             unfold sg2 at hg
             simp only [List.mem_cons, List.not_mem_nil, or_false] at hm
             by_cases h64 : c = 64
             · rw [if_pos h64]
               by_cases hd1 : (d : Int) = 1
               · rw [if_pos (Or.inr ⟨h64, hd1⟩)] at hg
                 exact absurd hg (by decide)
               · rw [if_neg hd1]; decide
             · rw [if_neg h64]
               by_cases hd0 : (d : Int) = 0
               · rw [if_pos (Or.inl ⟨by rcases hm with hm | hm | hm | hm | hm | hm | hm <;> simp_all, hd0⟩)] at hg
                 exact absurd hg (by decide)
               · rw [if_neg hd0]; decide
           rw [decide_eq_true hv]
           exact badJ2 _ _ _ _
     · obtain ⟨v, hv, hA, hS, hm, hz⟩ := two_gives hr h2 hg
       have hsh : Sh 0 (n0 v) := shN hv
       have hsg : sg2 c (d : Int) = ((0 : Nat) : Int) := by
         unfold sg2 at hg ⊢
         split at hg
         · next hc => rw [if_pos hc]; rfl
         · exact absurd (by decide) hg
       refine ⟨told (text 0 (n0 v)), implTwo c _ l l2 (fun e => e.elim (fun e => absurd (h.symm.trans e) (by simp)) (fun e => absurd (h2.symm.trans e) (by simp))) (fun d' t' t2' e hd' hr' h2' => ?_), spec0 _ (specA _ _ _ _ (readZ (by omega) h2) (Ev.pos rfl (Ev.pos (by simp) ?_))), .inr ⟨hm, _, rfl⟩⟩
       · obtain rfl : d = d' := by omega
         obtain rfl : t = t' := Option.some.inj (hr.symm.trans hr')
         obtain rfl : t2 = t2' := Option.some.inj (h2.symm.trans h2')
         refine Ev.bind (sd2_ev c d hd) (Ev.pos (by simp) ?_)
         rw [decide_eq_false hg, hsg]
         refine Ev.step' ?_; simp only [impl_ApplySign.j1]
         exact Ev.neg (by simp) (Ev.bind hA (Ev.bind (shortA_is 0 (by omega) (n0 v) hsh (by show 1 ≤ _; omega)) (Ev.now _)))
       · rw [bt_c]
         have hq : ¬ q < 0 := fun e => hq2.1 e hm
         refine Ev.bind hq1 (Ev.neg hq (Ev.bind (two_ev c d) ?_))
         rw [hz, show decide ((0 : Int) < 0) = false by decide]
         refine Ev.step' ?_; simp only [spec_ApplySign.j2]
         refine Ev.neg (by simp) (Ev.pos (by simp) ?_)
         rw [bt_c]
         exact Ev.call hS (Ev.bind (toldS_is 0 (by omega) (n0 v) hsh (by show 1 ≤ _; omega)) (Ev.now _))
/-- The program's ApplySign and the reference's: alike, and what they tell. -/
theorem sign_bothX (s : By) (ts : List By) (dp : Int) (hl : ts.length ≤ 2000000) : ∃ r, Ev (fun k => impl_ApplySign.f k (BA s) (ts.map BA) dp) r ∧ Ev (fun k => spec_ApplySign.f k (BA s) (ts.map BA) dp) r ∧
   (r = bad ∨ (∃ c l, s = [c] ∧ ts = [l] ∧ OneR c dp l r) ∨ ∃ c l l2, s = [c] ∧ ts = [l, l2] ∧ c ∈ ([43, 42, 94, 45, 61, 60, 64] : By) ∧ ∃ x, r = told x) := by
 by_cases h : s.length ≠ 1 ∨ ts.length = 0 ∨ 2 < ts.length
 · exact ⟨bad, implBad hl h, specBad h, .inl rfl⟩
 · match s, ts with
   | [c], [l] =>
     obtain ⟨r, h1, h2, h3⟩ := app_one c dp l
     exact ⟨r, h1, h2, h3.imp id fun h => .inl ⟨c, l, rfl, rfl, h⟩⟩
   | [c], [l, l2] =>
     obtain ⟨r, h1, h2, h3⟩ := app_two c dp l l2
     exact ⟨r, h1, h2, h3.imp id fun h => .inr ⟨c, l, l2, rfl, rfl, h⟩⟩
   | [c], [] => simp at h
   | [c], _ :: _ :: _ :: _ => simp at h
   | [], _ => simp at h
   | _ :: _ :: _, _ => simp at h
theorem sign_both (s : By) (ts : List By) (dp : Int) (hl : ts.length ≤ 2000000) : ∃ r, Ev (fun k => impl_ApplySign.f k (BA s) (ts.map BA) dp) r ∧ Ev (fun k => spec_ApplySign.f k (BA s) (ts.map BA) dp) r := by
 obtain ⟨r, h1, h2, _⟩ := sign_bothX s ts dp hl
 exact ⟨r, h1, h2⟩
end Go.Proofs.YtoloblgjlnhioaaDoor.H
namespace Go.Proofs.YtoloblgjlnhioaaDoor.H
open Go.RowKit Go.Proofs.YtoloblgjlnhioaaDoorW.PrintWords Go.Proofs.YtoloblgjlnhioaaDoorW.PrintLast Go.Proofs.YtoloblgjlnhioaaDoorW.PrintMore Go.Proofs.YtoloblgjlnhioaaDoor.Q
set_option linter.unusedSimpArgs false
set_option linter.unusedVariables false

theorem rdB_at {l : List ByteArray} {i : Nat} (h : i < l.length) : rdOf ByteArray.empty l (i : Int) = l[i] := by
 unfold rdOf
 rw [Int.toNat_natCast, List.getD_eq_getElem?_getD, List.getElem?_eq_getElem h]
 rfl
theorem toStringS_l0 (l : List ByteArray) (hl : l.length ≤ 1000000000) : ∀ (n i : Nat), l.length - i = n → i ≤ l.length → Ev (fun k => laws_toStringS.l0 k l (l.take i ++ List.replicate (l.length - i) (⟨#[]⟩ : ByteArray)) (i : Int)) l := by
 intro n
 induction n with
 | zero =>
   intro i h hi
   have : i = l.length := by omega
   subst this
   refine Ev.step' ?_; simp only [laws_toStringS.l0]
   refine Ev.neg (by omega) (Ev.val ?_)
   simp
 | succ n ih =>
   intro i h hi
   have hlt : i < l.length := by omega
   refine Ev.step' ?_; simp only [laws_toStringS.l0]
   refine Ev.pos (by omega) (Ev.pos (by omega) (Ev.pos ?_ ?_))
   · rw [List.length_append, List.length_take, List.length_replicate]; omega
   · rw [rdB_at hlt, wrapS (by omega) (by omega), Int.toNat_natCast]
     have e : (l.take i ++ List.replicate (l.length - i) (⟨#[]⟩ : ByteArray)).set i l[i] = l.take (i + 1) ++ List.replicate (l.length - (i + 1)) (⟨#[]⟩ : ByteArray) := by
       rw [List.take_succ_eq_append_getElem hlt, List.set_append_right _ _ (by rw [List.length_take]; omega), List.length_take, show i - min i l.length = 0 by omega, show l.length - i = (l.length - (i + 1)) + 1 by omega, List.replicate_succ, List.append_assoc]
       rfl
     rw [e]
     exact ih (i + 1) (by omega) (by omega)
theorem toStringS_is (l : List ByteArray) (hl : l.length ≤ 1000000000) : Ev (fun k => laws_toStringS.f k l) l := by
 unfold laws_toStringS.f
 refine Ev.pos (by omega) (Ev.pos (by omega) ?_)
 have := toStringS_l0 l hl _ 0 rfl (by omega)
 rw [Int.toNat_natCast]
 exact this
theorem eqStringS_l0 (l : List ByteArray) (hl : l.length ≤ 1000000000) : ∀ (n i : Nat), l.length - i = n → i ≤ l.length → Ev (fun k => laws_eqStringS.l0 k l l (i : Int)) true := by
 intro n
 induction n with
 | zero =>
   intro i h hi
   refine Ev.step' ?_; simp only [laws_eqStringS.l0]
   exact Ev.neg (by omega) (Ev.val rfl)
 | succ n ih =>
   intro i h hi
   refine Ev.step' ?_; simp only [laws_eqStringS.l0]
   refine Ev.pos (by omega) (Ev.pos (by omega) (Ev.pos (by omega) (Ev.pos (by first | trivial | rfl) ?_)))
   rw [wrapS (by omega) (by omega)]
   exact ih (i + 1) (by omega) (by omega)
theorem eqStringS_is (l : List ByteArray) (hl : l.length ≤ 1000000000) : Ev (fun k => laws_eqStringS.f k l l) true := by
 unfold laws_eqStringS.f
 exact Ev.pos rfl (eqStringS_l0 l hl _ 0 rfl (by omega))
theorem sz_l0 (l : List ByteArray) (hl : l.length ≤ 1048576) (hs : ∀ x ∈ l, x.size ≤ 9223372036854775807) : ∀ (n i : Nat) (a : Int), l.length - i = n → i ≤ l.length → 0 ≤ a → a ≤ 1048576 → ∃ v, Ev (fun k => laws_szStringS.l0 k l a (i : Int)) v := by
 intro n
 induction n with
 | zero =>
   intro i a h hi h0 h1
   refine ⟨a, ?_⟩
   refine Ev.step' ?_; simp only [laws_szStringS.l0]
   exact Ev.neg (by omega) (Ev.now _)
 | succ n ih =>
   intro i a h hi h0 h1
   have hlt : i < l.length := by omega
   have hx := hs _ (List.getElem_mem hlt)
   have hw : wrap64 (a - (l[i].size : Int)) = a - (l[i].size : Int) := by unfold wrap64; omega
   by_cases hn : a - (l[i].size : Int) < 0
   · refine ⟨-1, ?_⟩
     refine Ev.step' ?_; simp only [laws_szStringS.l0]
     refine Ev.pos (by omega) (Ev.pos (by omega) (Ev.pos ?_ (Ev.now _)))
     rw [rdB_at hlt, hw]
     exact hn
   · obtain ⟨v, hv⟩ := ih (i + 1) (a - (l[i].size : Int)) (by omega) (by omega) (by omega) (by omega)
     refine ⟨v, ?_⟩
     refine Ev.step' ?_; simp only [laws_szStringS.l0]
     rw [rdB_at hlt, hw]
     refine Ev.pos (by omega) (Ev.pos (by omega) (Ev.neg hn ?_))
     rw [wrapS (by omega) (by omega)]
     exact hv
theorem sz_is (l : List ByteArray) (hl : l.length ≤ 9223372036854775807) (hs : ∀ x ∈ l, x.size ≤ 9223372036854775807) : ∃ v : Int, Ev (fun k => laws_szStringS.f k l 1048576) v ∧ (¬ v < 0 → l.length ≤ 1048576) := by
 have hw : wrap64 (1048576 - (l.length : Int)) = 1048576 - (l.length : Int) := by unfold wrap64; omega
 unfold laws_szStringS.f
 rw [hw]
 by_cases h : (1048576 : Int) - (l.length : Int) < 0
 · exact ⟨-1, Ev.pos h (Ev.now _), fun h => absurd (by decide) h⟩
 · obtain ⟨v, hv⟩ := sz_l0 l (by omega) hs _ 0 (1048576 - (l.length : Int)) rfl (Nat.zero_le _) (by omega) (by omega)
   exact ⟨v, Ev.neg h hv, fun _ => by omega⟩
end Go.Proofs.YtoloblgjlnhioaaDoor.H
namespace Go.Proofs.YtoloblgjlnhioaaDoor.H
open Go.RowKit Go.Proofs.YtoloblgjlnhioaaDoorW.PrintWords Go.Proofs.YtoloblgjlnhioaaDoorW.PrintLast Go.Proofs.YtoloblgjlnhioaaDoorW.PrintMore Go.Proofs.YtoloblgjlnhioaaDoor.Q
set_option linter.unusedSimpArgs false
set_option linter.unusedVariables false

/-- The one statement that is left, with no program in sight. -/
def laws_FnExactApplySign.Pure : Prop := ∀ (a0 : ByteArray) (l1 : List ByteArray) (a2 : Int), a0.size ≤ 140737488351232 → l1.length ≤ maxLen → (∀ x ∈ l1, x.size ≤ maxLen) → (Lit.int .i64 a2).wf = true → ∃ k, laws_FnExactApplySign.f k a0 l1 a2 = some true
theorem Pure_FnExactApplySign : laws_FnExactApplySign.Pure := by
 intro a0 l1 a2 _ hl hs _
 simp only [maxLen] at hl hs
 refine Ev.rounds (r := true) ?_
 unfold laws_FnExactApplySign.f
 by_cases h0 : (a0.size : Int) > 1048576
 · exact Ev.pos h0 (Ev.now _)
 refine Ev.neg h0 ?_
 obtain ⟨v, hv, hvl⟩ := sz_is l1 hl hs
 refine Ev.bind hv ?_
 by_cases h1 : v < 0
 · exact Ev.pos h1 (Ev.now _)
 refine Ev.neg h1 ?_
 have hlen := hvl h1
 obtain ⟨r, hA, hS⟩ := sign_both a0.data.toList (l1.map (·.data.toList)) a2 (by rw [List.length_map]; omega)
 have e : (l1.map (·.data.toList)).map BA = l1 := by
   rw [List.map_map]
   exact (List.map_congr_left (fun x _ => BA_data x)).trans (List.map_id l1)
 rw [e, BA_data] at hA hS
 refine Ev.bind (toStringS_is l1 (by omega)) (Ev.bind hS (Ev.bind (toStringS_is l1 (by omega)) (Ev.bind hA (Ev.pos rfl ?_))))
 rw [show (r.2 != r.2) = false by simp]
 refine Ev.step' ?_; simp only [laws_FnExactApplySign.j0]
 exact Ev.neg (by simp) (Ev.bind (toStringS_is l1 (by omega)) (Ev.bind (eqStringS_is l1 (by omega)) (Ev.pos (by first | trivial | rfl) (Ev.now _))))
end Go.Proofs.YtoloblgjlnhioaaDoor.H
