/- Plain words. -/
import Derived.Test.YtjkngiciigdheaaGreatDoorKFQbase
import Derived.Test.YtjkngiciigdheaaGreatDoorKFx2
import Derived.Test.YtjkngiciigdheaaGreatDoorKFx9
import Derived.Test.YtjkngiciigdheaaGreatDoorKFx1
import Derived.Test.YtjkngiciigdheaaGreatDoorKFx0
import Derived.Test.YtjkngiciigdheaaGreatDoorKFx3
import Derived.Test.YtjkngiciigdheaaGreatDoorKFx5
import Derived.Test.YtjkngiciigdheaaGreatDoorKFx7
import Derived.Test.YtjkngiciigdheaaGreatDoorKFSgy
import Derived.Test.YtjkngiciigdheaaGreatDoorKFSgw
import Derived.Test.YtjkngiciigdheaaGreatDoorKFSgz
import Derived.Test.YtjkngiciigdheaaGreatDoorKFSgm
import Derived.Test.YtjkngiciigdheaaGreatDoorKFSgc
namespace Go.Proofs.YtjkngiciigdheaaGreatDoor.K
open Go.RowKit Go.Proofs.YtjkngiciigdheaaGreatDoorW.PrintWords Go.Proofs.YtjkngiciigdheaaGreatDoorW.PrintLast Go.Proofs.YtjkngiciigdheaaGreatDoorW.PrintMore Go.Proofs.YtjkngiciigdheaaGreatDoor.Q
set_option linter.unusedSimpArgs false
set_option linter.unusedVariables false
abbrev NA := S70
abbrev NS := S86
def cA : Nat → Tr → NA
 | 0, t => ⟨(t.n : Int), []⟩
 | d + 1, t => ⟨(t.n : Int), t.parts.map (cA d)⟩
def cS : Nat → Tr → NS
 | 0, t => ⟨(t.n : Int), []⟩
 | d + 1, t => ⟨(t.n : Int), t.parts.map (cS d)⟩
theorem mkA (t : NA) : (⟨t.f0, t.f1⟩ : NA) = t := by cases t; rfl
theorem mkS (t : NS) : (⟨t.f0, t.f1⟩ : NS) = t := by cases t; rfl
abbrev RA := Int × List NA × ByteArray × Bool
def badA : RA := (0, [], BA [], false)
def resA (d : Nat) : Option (Tr × By) → RA
 | none => badA
 | some (t, r) => ((cA d t).f0, (cA d t).f1, BA r, true)
theorem bt_at {l : By} {i : Nat} (h : i < l.length) : bt (BA l) (i : Int) = (l[i].toNat : Int) := by
 rw [bt_BA, Int.toNat_natCast, List.getD_eq_getElem?_getD, List.getElem?_eq_getElem h]
 rfl
theorem take_split {l : By} (i : Nat) (h : (l.take i).all isD = true) (hn : ∀ x : i < l.length, isD l[i] = false) : l.takeWhile isD = l.take i ∧ l.dropWhile isD = l.drop i := by
 have e : l = l.take i ++ l.drop i := (List.take_append_drop i l).symm
 have := takeWhile_digits (ds := l.take i) (r := l.drop i) h (by
  intro c r hr
  by_cases hi : i < l.length
  · rw [List.drop_eq_getElem_cons hi] at hr
    rw [← (List.cons.inj hr).1]
    exact hn hi
  · rw [List.drop_eq_nil_of_le (by omega)] at hr
    cases hr)
 rw [← e] at this
 exact this
theorem readArr_j1 (l : By) (hl : l.length ≤ 1000000) : Ev (fun k => impl_readArr.j1 k (BA l) ((l.takeWhile isD).length : Int)) (resA 0 (parse 0 l)) := by
 have ht : l.take (l.takeWhile isD).length = l.takeWhile isD := by
  have e := List.takeWhile_append_dropWhile (p := isD) (l := l)
  conv => lhs; arg 2; rw [← e]
  rw [List.take_left']
  rfl
 have hd : l.drop (l.takeWhile isD).length = l.dropWhile isD := by
  have e := List.takeWhile_append_dropWhile (p := isD) (l := l)
  conv => lhs; arg 2; rw [← e]
  rw [List.drop_left']
  rfl
 have hlen : (l.takeWhile isD).length ≤ l.length := by
  have := congrArg List.length (List.takeWhile_append_dropWhile (p := isD) (l := l))
  rw [List.length_append] at this
  omega
 have hall : (l.takeWhile isD).all isD = true := List.all_takeWhile
 have hx : (BA l).extract 0 (l.takeWhile isD).length = BA (l.takeWhile isD) := by
  rw [BA_extract]
  simp [ht]
 have hy : (BA l).extract (l.takeWhile isD).length (BA l).size = BA (l.dropWhile isD) := by
  rw [BA_extract, hd, BA_size, List.take_of_length_le]
  rw [← hd, List.length_drop]
  omega
 refine EvS ?_; simp only [impl_readArr.j1]
 refine eO (Ev.pos (by rw [BA_size]; omega) ?_)
 simp only [Int.toNat_natCast, hx, hy]
 have hs : (BA (l.takeWhile isD)).size ≤ 281474976710656 := by rw [BA_size]; omega
 by_cases hne : l.takeWhile isD = []
 · have ha : strconv_Atoi.f (BA (l.takeWhile isD)) = some (0, some 0) := by
    unfold strconv_Atoi.f
    rw [if_pos hs, data_BA, hne]
    rfl
   have hp : parse 0 l = none := by
    have : parseNum l = none := by
     unfold parseNum
     rw [hne]
     exact if_neg (fun h => dec_ne _ h.2)
    unfold parse
    rw [this]
    rfl
   rw [hp]
   refine Ev.call ha ?_
   exact eN (Ev.now _)
 · rcases atoi_digits hall hne with e | ⟨e, hbig⟩
   · have ha : strconv_Atoi.f (BA (l.takeWhile isD)) = some ((valD 0 (l.takeWhile isD) : Int), none) := by
      unfold strconv_Atoi.f
      rw [if_pos hs, data_BA, e]
     refine Ev.call ha ?_
     refine Ev.pos (by first | trivial | rfl) ?_
     by_cases hb : valD 0 (l.takeWhile isD) < 10007
     · refine eM ?_
       have hi : strconv_Itoa.f (valD 0 (l.takeWhile isD) : Int) = some (BA (Lib.decDigits (valD 0 (l.takeWhile isD)))) := by
        unfold strconv_Itoa.f
        rw [if_pos (by omega), if_pos (by omega), itoa_nat]
        rfl
       refine Ev.call hi ?_
       by_cases hq : Lib.decDigits (valD 0 (l.takeWhile isD)) = l.takeWhile isD
       · refine Ev.pos (by rw [toList_BA, toList_BA]; exact hq) (Ev.val ?_)
         have : parseNum l = some (valD 0 (l.takeWhile isD), l.dropWhile isD) := if_pos ⟨hb, hq⟩
         unfold parse
         rw [this]
         rfl
       · refine Ev.neg (by rw [toList_BA, toList_BA]; exact hq) (Ev.val ?_)
         have : parseNum l = none := if_neg (fun h => hq h.2)
         unfold parse
         rw [this]
         rfl
     · refine eO (Ev.val ?_)
       have : parseNum l = none := if_neg (fun h => hb h.1)
       unfold parse
       rw [this]
       rfl
   · have ha : strconv_Atoi.f (BA (l.takeWhile isD)) = some (Lib.atoiSat (l.takeWhile isD), some 0) := by
      unfold strconv_Atoi.f
      rw [if_pos hs, data_BA, e]
     refine Ev.call ha ?_
     refine eN (Ev.val ?_)
     have : parseNum l = none := if_neg (fun h => absurd h.1 (by omega))
     unfold parse
     rw [this]
     rfl
theorem readArr_l0 (l : By) (hl : l.length ≤ 1000000) : ∀ (n i : Nat), l.length - i = n → i ≤ l.length → (l.take i).all isD = true → Ev (fun k => impl_readArr.l0 k (BA l) (i : Int)) (resA 0 (parse 0 l)) := by
 intro n
 induction n with
 | zero =>
  intro i h hi hall
  obtain ⟨h1, _⟩ := take_split i hall (fun x => by omega)
  have he : (l.takeWhile isD).length = i := by rw [h1, List.length_take]; omega
  refine EvS ?_; simp only [impl_readArr.l0]
  refine Ev.neg (by rw [BA_size]; omega) ?_
  rw [← he]
  exact readArr_j1 l hl
 | succ n ih =>
  intro i h hi hall
  have hlt : i < l.length := by omega
  refine EvS ?_; simp only [impl_readArr.l0]
  refine Ev.pos (by rw [BA_size]; omega) (eO ?_)
  simp only [bt_at hlt]
  by_cases hd : isD l[i] = true
  · obtain ⟨h1, h2⟩ := (isD_iff _).1 hd
    refine eO (eO ?_)
    rw [wrapS (by omega) (by omega)]
    exact ih (i + 1) (by omega) (by omega) (by rw [List.take_succ_eq_append_getElem hlt, List.all_append, hall]; simp [hd])
  · have hd' : isD l[i] = false := by simpa using hd
    obtain ⟨h1, _⟩ := take_split i hall (fun x => hd')
    have he : (l.takeWhile isD).length = i := by rw [h1, List.length_take]; omega
    have hj := readArr_j1 l hl
    rw [he] at hj
    by_cases h1 : (48 : Int) ≤ (l[i].toNat : Int)
    · refine Ev.pos h1 (Ev.neg ?_ hj)
      intro h2
      exact hd ((isD_iff _).2 ⟨by omega, by omega⟩)
    · exact Ev.neg h1 hj
theorem readArr_zero (l : By) (hl : l.length ≤ 1000000) : Ev (fun k => impl_readArr.f k (BA l) 0) (resA 0 (parse 0 l)) := by
 refine EvS ?_; simp only [impl_readArr.f]
 exact Ev.pos (by first | trivial | rfl) (readArr_l0 l hl _ 0 rfl (by omega) rfl)
theorem parse_nil : ∀ d, parse d [] = none
 | 0 => by
  unfold parse
  have : parseNum [] = none := if_neg (fun h => dec_ne _ h.2)
  rw [this]
  rfl
 | d + 1 => rfl
theorem parse_len {d : Nat} {l : By} {v : Tr} {r : By} (h : parse d l = some (v, r)) : r.length ≤ l.length := by
 have := congrArg List.length (parse_sound d l v r h).1
 rw [List.length_append] at this
 omega
theorem BA_tail (c : UInt8) (t : By) : (BA (c :: t)).extract 1 (BA (c :: t)).size = BA t := by
 rw [BA_extract]
 simp
theorem bt_zero (c : UInt8) (t : By) : bt (BA (c :: t)) 0 = (c.toNat : Int) := bt_BA _ _
theorem toNat_ne {c : UInt8} {n : Nat} (h : c ≠ UInt8.ofNat n) (hn : n < 256) : ((c.toNat : Int)) ≠ (n : Int) := by
 intro e
 apply h
 apply UInt8.toNat.inj
 rw [UInt8.toNat_ofNat']
 omega
def resL (d : Nat) (acc : List NA) : Option (List Tr × By) → RA
 | none => badA
 | some (vs, r) => (0, acc ++ vs.map (cA d), BA r, true)
theorem readArr_l1 (d : Nat) (hd : d ≤ 1000) (hf : ∀ l : By, l.length ≤ 1000000 → Ev (fun k => impl_readArr.f k (BA l) (d : Int)) (resA d (parse d l))) :
 ∀ (n : Nat) (l : By) (acc : List NA), l.length < n → acc.length + l.length ≤ 1000000 → (acc ≠ [] ∨ ∀ t, l ≠ 93 :: t) → Ev (fun k => impl_readArr.l1 k (BA l) ((d + 1 : Nat) : Int) 0 acc) (resL d acc (parseL (parse d) n l)) := by
 intro n
 induction n with
 | zero => intro l acc h; omega
 | succ n ih =>
  intro l acc hn hb hcase
  have hbad : Ev (fun k => impl_readArr.j5 k ((d + 1 : Nat) : Int) (BA []) true 0 acc 0 []) badA := by
   refine EvS ?_; simp only [impl_readArr.j5]
   exact Ev.pos (by first | trivial | rfl) (Ev.now _)
  have hbad2 : ∀ (x : ByteArray) (m : Int) (ps : List NA), Ev (fun k => impl_readArr.j5 k ((d + 1 : Nat) : Int) x true 0 acc m ps) badA := by
   intro x m ps
   refine EvS ?_; simp only [impl_readArr.j5]
   exact Ev.pos (by first | trivial | rfl) (Ev.now _)
  have hj4 : l ≠ [] → Ev (fun k => impl_readArr.j4 k (BA l) ((d + 1 : Nat) : Int) true 0 acc) (resL d acc (parseL (parse d) (n + 1) l)) := by
   intro hne
   refine EvS ?_; simp only [impl_readArr.j4]
   refine Ev.pos (by first | trivial | rfl) ?_
   rw [show wrap64 (((d + 1 : Nat) : Int) - 1) = (d : Int) by rw [wrapS (by omega) (by omega)]; omega]
   refine Ev.bind (hf l (by omega)) ?_
   unfold parseL
   cases hp : parse d l with
   | none => exact Ev.neg (by simp [resA, badA]) (hbad2 _ _ _)
   | some q =>
    obtain ⟨v, r⟩ := q
    have hr := parse_len hp
    refine Ev.pos (by first | trivial | rfl) ?_
    cases r with
    | nil => exact Ev.pos (toList_BA []) (hbad2 _ _ _)
    | cons c r' =>
     simp only [List.length_cons] at hr
     have hj5 : ∀ b : Bool, b = false → (c = 44 ∨ c = 93) → Ev (fun k => impl_readArr.j5 k ((d + 1 : Nat) : Int) (BA (c :: r')) b 0 acc (cA d v).f0 (cA d v).f1) (if c = 93 then (0, acc ++ [cA d v], BA r', true) else resL d (acc ++ [cA d v]) (parseL (parse d) n r')) := by
      intro b hb0 hc
      subst hb0
      refine EvS ?_; simp only [impl_readArr.j5]
      refine eN (eO ?_)
      refine Ev.call (a := acc ++ [cA d v]) (by rw [mkA]) ?_
      refine Ev.pos (by simp <;> omega) ?_
      by_cases h93 : c = 93
      · subst h93
        rw [if_pos rfl]
        refine Ev.pos (bt_zero _ _) (Ev.pos (by simp <;> omega) (Ev.val ?_))
        rw [BA_tail]
      · rw [if_neg h93]
        refine Ev.neg (by rw [bt_zero]; exact toNat_ne (n := 93) h93 (by omega)) (Ev.pos (by simp <;> omega) ?_)
        rw [BA_tail]
        exact ih r' _ (by omega) (by simp <;> omega) (.inl (by simp))
     refine Ev.neg (by show ¬ (BA (c :: r')).toList = []; rw [toList_BA]; simp) (Ev.pos (by show (0 : Int) < ((BA (c :: r')).size : Int); simp <;> omega) ?_)
     have hb0 : bt (resA d (some (v, c :: r'))).2.2.1 0 = (c.toNat : Int) := bt_zero _ _
     by_cases h44 : c = 44
     · subst h44
       refine Ev.pos (bt_zero _ _) (evIs (hj5 false rfl (.inl rfl)) ?_)
       simp only [if_true]
       rw [if_neg (by decide)]
       cases parseL (parse d) n r' with
       | none => rfl
       | some q => simp [resL]
     · refine Ev.neg (by rw [hb0]; exact toNat_ne (n := 44) h44 (by omega)) ?_
       by_cases h93 : c = 93
       · subst h93
         refine evIs (hj5 _ (by rw [hb0]; rfl) (.inr rfl)) ?_
         simp [resL]
       · have e : (bt (resA d (some (v, c :: r'))).2.2.1 0 != 93) = true := by
          rw [hb0]
          simpa using toNat_ne (n := 93) h93 (by omega)
         rw [e]
         refine evIs (hbad2 _ _ _) ?_
         simp [h44, h93, resL]
  refine EvS ?_; simp only [impl_readArr.l1]
  cases l with
  | nil =>
   refine Ev.pos (toList_BA []) ?_
   refine EvS ?_; simp only [impl_readArr.j4]
   refine eN (Ev.pos (toList_BA []) (Ev.val ?_))
   unfold parseL
   rw [parse_nil]
   rfl
  | cons c t =>
   refine Ev.neg (by rw [toList_BA]; simp) (Ev.pos (by simp <;> omega) ?_)
   by_cases h93 : c = 93
   · subst h93
     refine Ev.pos (bt_zero _ _) ?_
     rcases hcase with hacc | hh
     · have hpos : 0 < acc.length := List.length_pos_iff.2 hacc
       rw [show decide ((acc.length : Int) > 0) = true by simp; exact hpos]
       exact hj4 (by simp)
     · exact absurd rfl (hh t)
   · refine Ev.neg (by rw [bt_zero]; exact toNat_ne (n := 93) h93 (by omega)) (hj4 (by simp))
theorem readArr_is : ∀ (d : Nat), d ≤ 1000 → ∀ l : By, l.length ≤ 1000000 → Ev (fun k => impl_readArr.f k (BA l) (d : Int)) (resA d (parse d l))
 | 0, _, l, hl => readArr_zero l hl
 | d + 1, hd, l, hl => by
  have ih := readArr_is d (by omega)
  refine EvS ?_; simp only [impl_readArr.f]
  refine eM ?_
  have hj2 : ∀ x : ByteArray, Ev (fun k => impl_readArr.j2 k x ((d + 1 : Nat) : Int) true) badA := by
   intro x
   refine EvS ?_; simp only [impl_readArr.j2]
   exact Ev.pos (by first | trivial | rfl) (Ev.now _)
  cases l with
  | nil => exact Ev.pos (toList_BA []) (hj2 _)
  | cons c t =>
   refine Ev.neg (by rw [toList_BA]; simp) (Ev.pos (by simp <;> omega) ?_)
   by_cases h91 : c = 91
   · subst h91
     rw [show (bt (BA (91 :: t)) 0 != 91) = false by rw [bt_zero]; rfl]
     refine EvS ?_; simp only [impl_readArr.j2]
     refine eN (Ev.pos (by simp <;> omega) ?_)
     rw [BA_tail]
     simp only [List.length_cons] at hl
     cases t with
     | nil =>
      refine evIs (readArr_l1 d (by omega) ih 1 [] [] (by simp) (by simp) (.inr (by simp))) ?_
      unfold parse parseL
      rw [parse_nil]
      rfl
     | cons c' t' =>
      by_cases h93 : c' = 93
      · subst h93
        refine EvS ?_; simp only [impl_readArr.l1]
        refine Ev.neg (by rw [toList_BA]; simp) (Ev.pos (by simp <;> omega) (Ev.pos (bt_zero _ _) ?_))
        rw [show decide ((([] : List NA).length : Int) > 0) = false from rfl]
        refine EvS ?_; simp only [impl_readArr.j4]
        refine eN (Ev.neg (by rw [toList_BA]; simp) (Ev.pos (by simp <;> omega) (Ev.val ?_)))
        rw [BA_tail]
        rfl
      · refine evIs (readArr_l1 d (by omega) ih _ (c' :: t') [] (Nat.lt_succ_self _) (by simp only [List.length_cons, List.length_nil] at hl ⊢; omega) (.inr (by intro t e; exact h93 (List.cons.inj e).1))) ?_
        unfold parse
        simp only [if_true, if_neg h93]
        cases parseL (parse d) ((c' :: t').length + 1) (c' :: t') with
        | none => rfl
        | some q => rfl
   · rw [show (bt (BA (c :: t)) 0 != 91) = true by rw [bt_zero]; simpa using toNat_ne (n := 91) h91 (by omega)]
     refine evIs (hj2 _) ?_
     unfold parse
     simp only [if_neg h91]
     rfl
theorem drop_split {s : By} {p : Nat} (h : p < s.length) : s.drop p = s[p] :: s.drop (p + 1) := List.drop_eq_getElem_cons h
theorem valD_ltP : ∀ (l : By) (p a b : Nat), p = 10 ^ l.length → l.all isD = true → a < b → valD a l < b * p
 | [], p, a, b, hp, _, h => by
  have hp1 : p = 1 := hp
  have : valD a [] = a := rfl
  rw [this, hp1, Nat.mul_one]
  exact h
 | c :: r, p, a, b, hp, hall, h => by
  simp only [List.all_cons, Bool.and_eq_true] at hall
  have hc := (isD_iff _).1 hall.1
  have h1 := valD_ltP r (10 ^ r.length) (a * 10 + (c.toNat - 48)) (b * 10) rfl hall.2 (by omega)
  have h2 : p = 10 ^ r.length * 10 := hp
  have h4 : valD a (c :: r) = valD (a * 10 + (c.toNat - 48)) r := rfl
  generalize 10 ^ r.length = q at *
  rw [h4, h2, Nat.mul_comm q 10, ← Nat.mul_assoc]
  exact h1
theorem valD_lt (l : By) (a b : Nat) (hall : l.all isD = true) (h : a < b) : valD a l < b * 10 ^ l.length := valD_ltP l _ a b rfl hall h
theorem l13Num_l0 (ds : By) (hall : ds.all isD = true) (hl : ds.length ≤ 17) : ∀ (n i : Nat), ds.length - i = n → i ≤ ds.length → Ev (fun k => spec_l13Num.l0 k (BA ds) false (valD 0 (ds.take i) : Int) (i : Int)) ((valD 0 ds : Int), true) := by
 intro n
 induction n with
 | zero =>
  intro i h hi
  refine EvS ?_; simp only [spec_l13Num.l0]
  refine Ev.neg (by simp <;> omega) (eN (Ev.val ?_))
  rw [List.take_of_length_le (by omega)]
 | succ n ih =>
  intro i h hi
  have hlt : i < ds.length := by omega
  have hd : isD ds[i] = true := List.all_eq_true.1 hall _ (List.getElem_mem hlt)
  have hc := (isD_iff _).1 hd
  refine EvS ?_; simp only [spec_l13Num.l0]
  simp only [bt_at hlt]
  refine Ev.pos (by simp <;> omega) (eO (eM (eM ?_)))
  have hv : valD 0 (ds.take i) < 1 * 10 ^ (ds.take i).length := valD_lt _ _ _ (by
   rw [List.all_eq_true] at hall ⊢
   intro x hx
   exact hall x (List.mem_of_mem_take hx)) (by omega)
  have hpow : 10 ^ (ds.take i).length ≤ 10 ^ 17 := Nat.pow_le_pow_right (by omega) (by rw [List.length_take]; omega)
  have hv2 : valD 0 (ds.take i) < 100000000000000000 := by
   generalize 10 ^ (ds.take i).length = q at *
   omega
  have e1 : wrap64 (wrap64 ((valD 0 (ds.take i) : Int) * 10) + ((ds[i].toNat : Int) - 48) % 256) = (valD 0 (ds.take (i + 1)) : Int) := by
   rw [List.take_succ_eq_append_getElem hlt, valD_append, valD_one, wrapS (a := (valD 0 (ds.take i) : Int) * 10) (by omega) (by omega), wrapS (by omega) (by omega)]
   omega
  rw [e1, wrapS (by omega) (by omega)]
  exact ih (i + 1) (by omega) (by omega)
theorem l13_is (ds : By) (hall : ds.all isD = true) (hl : ds.length ≤ 17) : Ev (fun k => spec_l13Num.f k (BA ds)) (if Lib.decDigits (valD 0 ds) = ds then ((valD 0 ds : Int), true) else (0, false)) := by
 have hj2 : ∀ x : ByteArray, Ev (fun k => spec_l13Num.j2 k x false true) (0, false) := by
  intro x
  refine EvS ?_; simp only [spec_l13Num.j2]
  exact Ev.pos (by first | trivial | rfl) (Ev.now _)
 unfold spec_l13Num.f
 cases ds with
 | nil =>
  refine eN ?_
  refine EvS ?_; simp only [spec_l13Num.j0]
  refine eN ?_
  refine EvS ?_; simp only [spec_l13Num.j1]
  refine eP (evIs (hj2 _) ?_)
  rw [if_neg (dec_ne _)]
 | cons c r =>
  have hd : isD c = true := by
   simp only [List.all_cons, Bool.and_eq_true] at hall
   exact hall.1
  have hc := (isD_iff _).1 hd
  simp only [List.length_cons] at hl
  refine Ev.pos (by simp <;> omega) (Ev.pos (by simp <;> omega) ?_)
  rw [show (bt (BA (c :: r)) 0 == 45) = false by rw [bt_zero]; simp; omega]
  refine EvS ?_; simp only [spec_l13Num.j0]
  refine eN ?_
  refine EvS ?_; simp only [spec_l13Num.j1]
  refine Ev.neg (by simp <;> omega) (Ev.neg (by simp <;> omega) (Ev.pos (by simp <;> omega) ?_))
  have hj2f : (c ≠ 48 ∨ r = []) → Ev (fun k => spec_l13Num.j2 k (BA (c :: r)) false false) (if Lib.decDigits (valD 0 (c :: r)) = c :: r then ((valD 0 (c :: r) : Int), true) else (0, false)) := by
   intro h
   refine EvS ?_; simp only [spec_l13Num.j2]
   refine eN (evIs (l13Num_l0 (c :: r) hall (by simp only [List.length_cons]; omega) _ 0 rfl (by omega)) ?_)
   rw [if_pos ((dec_val_iff hall).2 ⟨c, r, rfl, h⟩)]
  by_cases h48 : c = 48
  · subst h48
    refine Ev.pos (bt_zero _ _) ?_
    by_cases hr : r = []
    · subst hr
      exact eN (hj2f (.inr rfl))
    · have := List.length_pos_iff.2 hr
      refine Ev.pos (by simp <;> omega) (evIs (hj2 _) ?_)
      rw [if_neg]
      intro h
      obtain ⟨c', r', e, h1⟩ := (dec_val_iff hall).1 h
      obtain ⟨rfl, rfl⟩ := List.cons.inj e
      rcases h1 with h1 | h1
      · exact h1 rfl
      · exact hr h1
  · exact Ev.neg (by rw [bt_zero]; exact toNat_ne (n := 48) h48 (by omega)) (hj2f (.inl h48))
abbrev RS := Int × List NS × ByteArray × Int × Bool
def OutS (d : Nat) (s : By) : Option (Tr × By) → RS → Prop
 | none, res => res.2.2.2.2 = true
 | some (v, r), res => res = ((cS d v).f0, (cS d v).f1, BA s, ((s.length - r.length : Nat) : Int), false)
theorem inN_is (n a b : Int) : spec_l1In.f n a b = some (decide (a ≤ n ∧ n ≤ b)) := by
 unfold spec_l1In.f
 by_cases h1 : a ≤ n
 · by_cases h2 : n ≤ b <;> simp [h1, h2]
 · simp [h1]
theorem number_end (x : ByteArray) (a b : Nat) (hab : a ≤ b) (hb : b ≤ x.size) (q : Int × Bool) (hq : Ev (fun k => spec_l13Num.f k (x.extract a b)) q) :
 Ev (fun k => if 0 ≤ (a : Int) then (if (a : Int) ≤ (b : Int) then (if (b : Int) ≤ (x.size : Int) then ((spec_l13Num.f k (x.extract (a : Int).toNat (b : Int).toNat)).bind fun bt152 => (if (false = true) then (some (bt152.1, x, (b : Int), true)) else (if bt152.2 = true then ((spec_l1In.f bt152.1 0 10006).bind fun t154 => (some (bt152.1, x, (b : Int), !t154))) else (some (bt152.1, x, (b : Int), true))))) else (none)) else (none)) else (none)) (q.1, x, (b : Int), false || !q.2 || !(decide (0 ≤ q.1) && decide (q.1 ≤ 10006))) := by
 refine eO (eO (eO (Ev.bind hq (eN ?_))))
 by_cases h : q.2 = true
 · refine Ev.pos h ?_
   rw [inN_is]
   refine Ev.val ?_
   rw [h]
   simp only [Bool.false_or, Bool.not_true, Bool.decide_and]
 · refine Ev.neg h (Ev.val ?_)
   simp [h]
theorem number_l0 (s : By) (p : Nat) (hp : p ≤ s.length) (hs : s.length ≤ 1000000) (J : Nat) (hJ : J = min 6 ((s.drop p).takeWhile isD).length) (q : Int × Bool) (hq : Ev (fun k => spec_l13Num.f k ((BA s).extract p (p + J))) q) : ∀ (n j : Nat), J - j = n → j ≤ J →
 Ev (fun k => spec_l1Reader_number.l0 k (p : Int) (BA s) ((p + j : Nat) : Int) false) (q.1, BA s, ((p + J : Nat) : Int), false || !q.2 || !(decide (0 ≤ q.1) && decide (q.1 ≤ 10006))) := by
 have hcnt : ((s.drop p).takeWhile isD).length ≤ s.length - p := by
  have := congrArg List.length (List.takeWhile_append_dropWhile (p := isD) (l := s.drop p))
  rw [List.length_append, List.length_drop] at this
  omega
 have hdig : ∀ j, (hj : j < ((s.drop p).takeWhile isD).length) → (h : p + j < s.length) → isD s[p + j] = true := by
  intro j hj h
  have h1 : ((s.drop p).takeWhile isD)[j] = s[p + j] := by
   have e : s.drop p = (s.drop p).takeWhile isD ++ (s.drop p).dropWhile isD := List.takeWhile_append_dropWhile.symm
   have h2 : (s.drop p)[j]? = some s[p + j] := by rw [List.getElem?_drop, List.getElem?_eq_getElem h]
   rw [e, List.getElem?_append_left hj, List.getElem?_eq_getElem hj] at h2
   exact Option.some.inj h2
  have := List.all_eq_true.1 (List.all_takeWhile (p := isD) (l := s.drop p)) _ (List.getElem_mem hj)
  rwa [h1] at this
 have hnot : ∀ (h : p + ((s.drop p).takeWhile isD).length < s.length), isD (s[p + ((s.drop p).takeWhile isD).length]'h) = false := by
  intro h
  have e : s.drop p = (s.drop p).takeWhile isD ++ (s.drop p).dropWhile isD := List.takeWhile_append_dropWhile.symm
  have h2 : (s.drop p)[((s.drop p).takeWhile isD).length]? = some (s[p + ((s.drop p).takeWhile isD).length]'h) := by rw [List.getElem?_drop, List.getElem?_eq_getElem h]
  generalize hW : (s.drop p).takeWhile isD = W at *
  have h3 : (W ++ (s.drop p).dropWhile isD)[W.length]? = some (s[p + W.length]'h) := by rw [← e]; exact h2
  rw [List.getElem?_append_right (Nat.le_refl _), Nat.sub_self] at h3
  cases hR : (s.drop p).dropWhile isD with
  | nil => rw [hR] at h3; simp at h3
  | cons c t =>
   rw [hR] at h3
   simp only [List.getElem?_cons_zero, Option.some.injEq] at h3
   rw [← h3]
   have := List.head?_dropWhile_not (p := isD) (l := s.drop p)
   rw [hR] at this
   simpa using this
 intro n
 induction n with
 | zero =>
  intro j h1 h2
  obtain rfl : j = J := by omega
  have hend := number_end (BA s) p (p + j) (by omega) (by rw [BA_size]; omega) q hq
  refine EvS ?_; simp only [spec_l1Reader_number.l0]
  by_cases hlt : p + j < s.length
  · refine Ev.pos (by rw [BA_size]; omega) (eO ?_)
    rw [inN_is, bt_at hlt, wrapS (by have := s[p + j].toNat_lt; omega) (by have := s[p + j].toNat_lt; omega)]
    by_cases h6 : ((s.drop p).takeWhile isD).length ≤ 6
    · obtain rfl : j = ((s.drop p).takeWhile isD).length := by omega
      have := hnot hlt
      refine Ev.bind (Ev.now _) (Ev.neg ?_ hend)
      rw [decide_eq_true_eq]
      intro hh
      have e : isD (s[p + ((s.drop p).takeWhile isD).length]'hlt) = true := (isD_iff _).2 ⟨by omega, by omega⟩
      rw [this] at e
      cases e
    · by_cases hd : (48 : Int) ≤ (s[p + j].toNat : Int) ∧ (s[p + j].toNat : Int) ≤ 57
      · refine Ev.bind (Ev.now _) (Ev.pos (by rw [decide_eq_true_eq]; exact hd) (Ev.neg ?_ hend))
        rw [wrapS (by omega) (by omega)]
        omega
      · exact Ev.bind (Ev.now _) (Ev.neg (by rw [decide_eq_true_eq]; exact hd) hend)
  · exact Ev.neg (by rw [BA_size]; omega) hend
 | succ n ih =>
  intro j h1 h2
  have hlt : p + j < s.length := by omega
  have hd := (isD_iff _).1 (hdig j (by omega) hlt)
  have hnext := ih (j + 1) (by omega) (by omega)
  refine EvS ?_; simp only [spec_l1Reader_number.l0]
  refine Ev.pos (by rw [BA_size]; omega) (eO ?_)
  rw [inN_is, bt_at hlt, wrapS (by omega) (by omega)]
  refine Ev.bind (Ev.now _) (Ev.pos (by rw [decide_eq_true_eq]; omega) (Ev.pos ?_ ?_))
  · rw [wrapS (by omega) (by omega)]
    omega
  · rw [show wrap64 (((p + j : Nat) : Int) + 1) = ((p + (j + 1) : Nat) : Int) by rw [wrapS (by omega) (by omega)]; omega]
    exact hnext
theorem number_is (s : By) (p : Nat) (hp : p ≤ s.length) (hs : s.length ≤ 1000000) :
 ∃ res : Int × ByteArray × Int × Bool, Ev (fun k => spec_l1Reader_number.f k (BA s) (p : Int) false) res ∧ OutS 0 s (parse 0 (s.drop p)) (res.1, [], res.2.1, res.2.2.1, res.2.2.2) := by
 have hcnt : ((s.drop p).takeWhile isD).length + ((s.drop p).dropWhile isD).length = s.length - p := by
  have := congrArg List.length (List.takeWhile_append_dropWhile (p := isD) (l := s.drop p))
  rw [List.length_append, List.length_drop] at this
  exact this
 have hall : ((s.drop p).takeWhile isD).all isD = true := List.all_takeWhile
 have hx : (BA s).extract p (p + min 6 ((s.drop p).takeWhile isD).length) = BA (((s.drop p).takeWhile isD).take 6) := by
  rw [BA_extract]
  congr 1
  have e : s.drop p = (s.drop p).takeWhile isD ++ (s.drop p).dropWhile isD := List.takeWhile_append_dropWhile.symm
  generalize hW : (s.drop p).takeWhile isD = W at *
  generalize hR : (s.drop p).dropWhile isD = R at *
  rw [e, show p + min 6 W.length - p = min 6 W.length by omega, List.take_append_of_le_length (by omega)]
  by_cases h6 : 6 ≤ W.length
  · rw [show min 6 W.length = 6 by omega]
  · rw [List.take_of_length_le (by omega), List.take_of_length_le (by omega)]
 have hall6 : (((s.drop p).takeWhile isD).take 6).all isD = true := by
  rw [List.all_eq_true] at hall ⊢
  intro x hx
  exact hall x (List.mem_of_mem_take hx)
 have hE : ∀ q : Int × Bool, q = (if Lib.decDigits (valD 0 (((s.drop p).takeWhile isD).take 6)) = ((s.drop p).takeWhile isD).take 6 then ((valD 0 (((s.drop p).takeWhile isD).take 6) : Int), true) else (0, false)) →
  Ev (fun k => spec_l1Reader_number.f k (BA s) (p : Int) false) (q.1, BA s, ((p + min 6 ((s.drop p).takeWhile isD).length : Nat) : Int), false || !q.2 || !(decide (0 ≤ q.1) && decide (q.1 ≤ 10006))) := by
  intro q hq
  subst hq
  have hl := l13_is _ hall6 (by rw [List.length_take]; omega)
  rw [← hx] at hl
  unfold spec_l1Reader_number.f
  exact number_l0 s p hp hs _ rfl _ hl _ 0 rfl (Nat.zero_le _)
 refine ⟨_, hE _ rfl, ?_⟩
 · unfold parse parseNum
   generalize hW : (s.drop p).takeWhile isD = W at *
   generalize hR : (s.drop p).dropWhile isD = R at *
   by_cases h6 : W.length ≤ 6
   · rw [List.take_of_length_le h6]
     by_cases hdec : Lib.decDigits (valD 0 W) = W
     · by_cases hv : valD 0 W < 10007
       · rw [if_pos ⟨hv, hdec⟩, if_pos hdec]
         show _ = _
         simp only [cS, Prod.mk.injEq, true_and, Bool.false_or]
         refine ⟨by omega, ?_⟩
         simp
         omega
       · rw [if_neg (fun h => hv h.1), if_pos hdec]
         show _ = _
         simp
         omega
     · rw [if_neg (fun h => hdec h.2), if_neg hdec]
       rfl
   · have hnone : ¬ (valD 0 W < 10007 ∧ Lib.decDigits (valD 0 W) = W) := by
      rintro ⟨hv, hdec⟩
      obtain ⟨c, r, e, h1⟩ := (dec_val_iff hall).1 hdec
      rw [e] at hall hv h6
      simp only [List.all_cons, Bool.and_eq_true] at hall
      simp only [List.length_cons] at h6
      rcases h1 with h1 | h1
      · have := six_big hall.1 h1 (r := r) (by omega)
        omega
      · rw [h1] at h6
        simp at h6
     rw [if_neg hnone]
     show _ = _
     split
     · next hdec =>
       obtain ⟨c, r, e, h1⟩ := (dec_val_iff hall6).1 hdec
       have hl6 : (W.take 6).length = 6 := by rw [List.length_take]; omega
       rw [e] at hall6 hl6 ⊢
       simp only [List.all_cons, Bool.and_eq_true] at hall6
       simp only [List.length_cons] at hl6
       rcases h1 with h1 | h1
       · have := six_big hall6.1 h1 (r := r) (by omega)
         simp
         omega
       · rw [h1] at hl6
         simp at hl6
     · rfl
theorem is_hit {s : By} {p : Nat} {c : UInt8} {t : By} (h : s.drop p = c :: t) (hs : s.length ≤ 1000000) (ch : Int) (e : (c.toNat : Int) = ch) : spec_l1Reader_is.f (BA s) (p : Int) false ch = some (true, BA s, ((p + 1 : Nat) : Int), false) := by
 have hp : p < s.length := by
  rcases Nat.lt_or_ge p s.length with h1 | h1
  · exact h1
  · rw [List.drop_eq_nil_of_le h1] at h; cases h
 rw [drop_split hp] at h
 obtain ⟨rfl, rfl⟩ := List.cons.inj h
 unfold spec_l1Reader_is.f
 rw [if_pos (by rw [BA_size]; omega), if_pos (by omega), bt_at hp, if_pos e, wrapS (by omega) (by omega)]
 rfl
theorem is_miss {s : By} {p : Nat} (ch : Int) (h : ∀ c t, s.drop p = c :: t → (c.toNat : Int) ≠ ch) : spec_l1Reader_is.f (BA s) (p : Int) false ch = some (false, BA s, (p : Int), false) := by
 unfold spec_l1Reader_is.f
 by_cases hp : p < s.length
 · rw [if_pos (by rw [BA_size]; omega), if_pos (by omega), bt_at hp, if_neg (h _ _ (drop_split hp))]
 · rw [if_neg (by rw [BA_size]; omega)]
def tailL (d n : Nat) : By → Option (List Tr × By)
 | [] => none
 | c :: r => if c = 44 then parseL (parse d) n r else if c = 93 then some ([], r) else none
theorem parseL_tail (d n : Nat) (s : By) : parseL (parse d) (n + 1) s = (parse d s).bind fun q => (tailL d n q.2).map fun z => (q.1 :: z.1, z.2) := by
 unfold parseL
 cases parse d s with
 | none => rfl
 | some q =>
  obtain ⟨v, r⟩ := q
  cases r with
  | nil => rfl
  | cons c r =>
   simp only [tailL, Option.bind_some]
   by_cases h44 : c = 44
   · subst h44
     rfl
   · rw [if_neg h44, if_neg h44]
     by_cases h93 : c = 93
     · rw [if_pos h93, if_pos h93]; rfl
     · rw [if_neg h93, if_neg h93]; rfl
def OutL (d : Nat) (s : By) (acc : List NS) : Option (List Tr × By) → RS → Prop
 | none, res => res.2.2.2.2 = true
 | some (vs, r), res => res = (0, acc ++ vs.map (cS d), BA s, ((s.length - r.length : Nat) : Int), false)
def NodeIs (d : Nat) : Prop := ∀ (s : By) (p : Nat), p ≤ s.length → s.length ≤ 1000000 → ∃ res, Ev (fun k => spec_l1Reader_node.f k (BA s) (p : Int) false (d : Int)) res ∧ OutS d s (parse d (s.drop p)) res
theorem node_bad (x1 m : Int) (x : ByteArray) (y : Int) (ps : List NS) : Ev (fun k => spec_l1Reader_node.l0 k x1 x y true m ps) (m, ps, x, y, true) := by
 refine EvS ?_; simp only [spec_l1Reader_node.l0]
 exact Ev.pos (by first | trivial | rfl) (Ev.now _)
theorem node_l0 (d : Nat) (hd : d ≤ 1000) (hf : NodeIs d) (s : By) (hs : s.length ≤ 1000000) : ∀ (n p : Nat) (acc : List NS), p ≤ s.length → (s.drop p).length ≤ n → acc.length + (s.drop p).length ≤ 1000000 →
 ∃ res, Ev (fun k => spec_l1Reader_node.l0 k ((d + 1 : Nat) : Int) (BA s) (p : Int) false 0 acc) res ∧ OutL d s acc (tailL d n (s.drop p)) res := by
 intro n
 induction n with
 | zero =>
  intro p acc hp hn hb
  have hnil : s.drop p = [] := List.length_eq_zero_iff.1 (by omega)
  have hm : ∀ ch, spec_l1Reader_is.f (BA s) (p : Int) false ch = some (false, BA s, (p : Int), false) := fun ch => is_miss ch (by rw [hnil]; intro c t e; cases e)
  refine ⟨(0, acc, BA s, (p : Int), true), ?_, by rw [hnil]; rfl⟩
  refine EvS ?_; simp only [spec_l1Reader_node.l0]
  refine eN (Ev.call (hm 44) (eN (eN (Ev.call (hm 93) (Ev.val rfl)))))
 | succ n ih =>
  intro p acc hp hn hb
  cases hdr : s.drop p with
  | nil =>
   have hm : ∀ ch, spec_l1Reader_is.f (BA s) (p : Int) false ch = some (false, BA s, (p : Int), false) := fun ch => is_miss ch (by rw [hdr]; intro c t e; cases e)
   refine ⟨(0, acc, BA s, (p : Int), true), ?_, rfl⟩
   refine EvS ?_; simp only [spec_l1Reader_node.l0]
   refine eN (Ev.call (hm 44) (eN (eN (Ev.call (hm 93) (Ev.val rfl)))))
  | cons c t =>
   have hp' : p < s.length := by
    rcases Nat.lt_or_ge p s.length with h1 | h1
    · exact h1
    · rw [List.drop_eq_nil_of_le h1] at hdr; cases hdr
   have ht : s.drop (p + 1) = t := by
    have := drop_split hp'
    rw [hdr] at this
    exact (List.cons.inj this).2.symm
   have htl : t.length = s.length - (p + 1) := by rw [← ht, List.length_drop]
   rw [hdr] at hn hb
   simp only [List.length_cons] at hn hb
   by_cases h44 : c = 44
   · subst h44
     obtain ⟨res, h1, h2⟩ := hf s (p + 1) (by omega) hs
     rw [ht] at h2
     have hgo : ∀ res', (Ev (fun k => spec_l1Reader_node.l0 k ((d + 1 : Nat) : Int) res.2.2.1 res.2.2.2.1 res.2.2.2.2 0 (acc ++ [⟨res.1, res.2.1⟩])) res') → Ev (fun k => spec_l1Reader_node.l0 k ((d + 1 : Nat) : Int) (BA s) (p : Int) false 0 acc) res' := by
      intro res' h
      refine EvS ?_; simp only [spec_l1Reader_node.l0]
      refine eN (Ev.call (is_hit hdr hs 44 rfl) (Ev.pos (by first | trivial | rfl) ?_))
      rw [show wrap64 (((d + 1 : Nat) : Int) - 1) = (d : Int) by rw [wrapS (by omega) (by omega)]; omega]
      exact Ev.bind h1 (eO h)
     have htail : tailL d (n + 1) (44 :: t) = (parse d t).bind fun q => (tailL d n q.2).map fun z => (q.1 :: z.1, z.2) := parseL_tail d n t
     rw [htail]
     cases hq : parse d t with
     | none =>
      rw [hq] at h2
      have hb2 : res.2.2.2.2 = true := h2
      refine ⟨(0, acc ++ [⟨res.1, res.2.1⟩], res.2.2.1, res.2.2.2.1, true), hgo _ ?_, rfl⟩
      rw [hb2]
      exact node_bad _ _ _ _ _
     | some q =>
      obtain ⟨v, r⟩ := q
      rw [hq] at h2
      have hres : res = ((cS d v).f0, (cS d v).f1, BA s, ((s.length - r.length : Nat) : Int), false) := h2
      have hr := parse_len hq
      have hdrop : s.drop (s.length - r.length) = r := by
       obtain ⟨e, _⟩ := parse_sound d t v r hq
       have e2 : s = s.take (p + 1) ++ (text d v ++ r) := by rw [← e, ← ht, List.take_append_drop]
       have e3 : s.length - r.length = (s.take (p + 1) ++ text d v).length := by
        have := congrArg List.length e2
        simp only [List.length_append] at this ⊢
        omega
       conv => lhs; arg 2; rw [e2]
       rw [e3, ← List.append_assoc, List.drop_left]
      have hle : r.length ≤ s.length := by omega
      obtain ⟨res', h3, h4⟩ := ih (s.length - r.length) (acc ++ [cS d v]) (by omega) (by rw [hdrop]; omega) (by rw [hdrop]; simp; omega)
      rw [hdrop] at h4
      refine ⟨res', hgo _ ?_, ?_⟩
      · rw [hres]
        simp only [mkS]
        exact h3
      · simp only [Option.bind_some]
        cases hz : tailL d n r with
        | none => rw [hz] at h4; exact h4
        | some z =>
         rw [hz] at h4
         have h4' : res' = _ := h4
         show res' = _
         rw [h4']
         simp
   · have hm : spec_l1Reader_is.f (BA s) (p : Int) false 44 = some (false, BA s, (p : Int), false) := is_miss 44 (by
      rw [hdr]
      intro c' t' e
      rw [← (List.cons.inj e).1]
      exact toNat_ne (n := 44) h44 (by omega))
     by_cases h93 : c = 93
     · subst h93
       refine ⟨(0, acc, BA s, ((p + 1 : Nat) : Int), false), ?_, ?_⟩
       · refine EvS ?_; simp only [spec_l1Reader_node.l0]
         exact eN (Ev.call hm (eN (eN (Ev.call (is_hit hdr hs 93 rfl) (Ev.val rfl)))))
       · show _ = _
         rw [htl, List.map_nil, List.append_nil, show s.length - (s.length - (p + 1)) = p + 1 by omega]
     · refine ⟨(0, acc, BA s, (p : Int), true), ?_, ?_⟩
       · refine EvS ?_; simp only [spec_l1Reader_node.l0]
         exact eN (Ev.call hm (eN (eN (Ev.call (is_miss 93 (by
          rw [hdr]
          intro c' t' e
          rw [← (List.cons.inj e).1]
          exact toNat_ne (n := 93) h93 (by omega))) (Ev.val rfl)))))
       · simp only [tailL, if_neg h44, if_neg h93]
         rfl
theorem drop_rest {s t r u : By} {p : Nat} (ht : s.drop p = t) (e : t = u ++ r) (hp : p ≤ s.length) : s.drop (s.length - r.length) = r ∧ r.length ≤ s.length - p := by
 have e2 : s = s.take p ++ (u ++ r) := by rw [← e, ← ht, List.take_append_drop]
 have e3 : s.length - r.length = (s.take p ++ u).length := by
  have := congrArg List.length e2
  simp only [List.length_append] at this ⊢
  omega
 constructor
 · conv => lhs; arg 2; rw [e2]
   rw [e3, ← List.append_assoc, List.drop_left]
 · have := congrArg List.length e
   rw [← ht, List.length_append, List.length_drop] at this
   omega
theorem node_is : ∀ d, d ≤ 1000 → NodeIs d
 | 0, _ => by
  intro s p hp hs
  obtain ⟨res, h1, h2⟩ := number_is s p hp hs
  refine ⟨(res.1, [], res.2.1, res.2.2.1, res.2.2.2), ?_, h2⟩
  refine EvS ?_; simp only [spec_l1Reader_node.f]
  refine Ev.call (a := ([] : List NS)) rfl (Ev.pos (by first | trivial | rfl) ?_)
  exact Ev.bind h1 (Ev.now _)
 | d + 1, hd => by
  have ih := node_is d (by omega)
  intro s p hp hs
  cases hdr : s.drop p with
  | nil =>
   refine ⟨(0, [], BA s, (p : Int), true), ?_, by rw [parse_nil]; rfl⟩
   refine EvS ?_; simp only [spec_l1Reader_node.f]
   refine Ev.call (a := ([] : List NS)) rfl (eM (Ev.call (is_miss 91 (by rw [hdr]; intro c t e; cases e)) (eN (Ev.val rfl))))
  | cons c t =>
   have hp' : p < s.length := by
    rcases Nat.lt_or_ge p s.length with h1 | h1
    · exact h1
    · rw [List.drop_eq_nil_of_le h1] at hdr; cases hdr
   have ht : s.drop (p + 1) = t := by
    have := drop_split hp'
    rw [hdr] at this
    exact (List.cons.inj this).2.symm
   have htl : t.length = s.length - (p + 1) := by rw [← ht, List.length_drop]
   by_cases h91 : c = 91
   · subst h91
     have hgo : ∀ res, Ev (fun k => (spec_l1Reader_is.f (BA s) ((p + 1 : Nat) : Int) false 93).bind fun bt114 => (if bt114.1 = true then (some (0, ([] : List NS), bt114.2.1, bt114.2.2.1, bt114.2.2.2)) else ((spec_l1Reader_node.f k bt114.2.1 bt114.2.2.1 bt114.2.2.2 (d : Int)).bind fun bt118 => (if ([] : List NS).length < 4398046511104 then (spec_l1Reader_node.l0 k ((d + 1 : Nat) : Int) bt118.2.2.1 bt118.2.2.2.1 bt118.2.2.2.2 0 (([] : List NS) ++ [(⟨bt118.1, bt118.2.1⟩ : NS)])) else (none))))) res →
      Ev (fun k => spec_l1Reader_node.f k (BA s) (p : Int) false ((d + 1 : Nat) : Int)) res := by
      intro res h
      refine EvS ?_; simp only [spec_l1Reader_node.f]
      refine Ev.call (a := ([] : List NS)) rfl (eM (Ev.call (is_hit hdr hs 91 rfl) (Ev.pos (by first | trivial | rfl) ?_)))
      rw [show wrap64 (((d + 1 : Nat) : Int) - 1) = (d : Int) by rw [wrapS (by omega) (by omega)]; omega]
      exact h
     by_cases h93 : ∃ t', t = 93 :: t'
     · obtain ⟨t', rfl⟩ := h93
       simp only [List.length_cons] at htl
       refine ⟨_, hgo _ (Ev.call (is_hit ht hs 93 rfl) (Ev.pos (by first | trivial | rfl) (Ev.now _))), ?_⟩
       have : parse (d + 1) (91 :: 93 :: t') = some (⟨0, []⟩, t') := by unfold parse; simp
       rw [this]
       show _ = _
       rw [show s.length - t'.length = p + 1 + 1 by omega]
       rfl
     · have hm : spec_l1Reader_is.f (BA s) ((p + 1 : Nat) : Int) false 93 = some (false, BA s, ((p + 1 : Nat) : Int), false) := is_miss 93 (by
        rw [ht]
        intro c' t' e e2
        apply h93
        refine ⟨t', ?_⟩
        rw [e]
        congr 1
        apply UInt8.toNat.inj
        have h3 : (93 : UInt8).toNat = 93 := rfl
        omega)
       obtain ⟨res, h1, h2⟩ := ih s (p + 1) (by omega) hs
       rw [ht] at h2
       have hgo2 : ∀ res', (Ev (fun k => spec_l1Reader_node.l0 k ((d + 1 : Nat) : Int) res.2.2.1 res.2.2.2.1 res.2.2.2.2 0 [⟨res.1, res.2.1⟩]) res') → Ev (fun k => spec_l1Reader_node.f k (BA s) (p : Int) false ((d + 1 : Nat) : Int)) res' := by
        intro res' h
        exact hgo _ (Ev.call hm (eN (Ev.bind h1 (eP h))))
       have hpar : parse (d + 1) (91 :: t) = ((parse d t).bind fun q => (tailL d t.length q.2).map fun z => (q.1 :: z.1, z.2)).map fun q => ((⟨0, q.1⟩ : Tr), q.2) := by
        cases t with
        | nil => rw [parse_nil]; rfl
        | cons c' t' =>
         have h93' : c' ≠ 93 := fun e => h93 ⟨t', by rw [e]⟩
         have e0 : parse (d + 1) (91 :: c' :: t') = if c' = 93 then some (⟨0, []⟩, t') else (parseL (parse d) ((c' :: t').length + 1) (c' :: t')).map fun q => (⟨0, q.1⟩, q.2) := rfl
         rw [e0, if_neg h93', parseL_tail]
       rw [hpar]
       cases hq : parse d t with
       | none =>
        rw [hq] at h2
        have hb2 : res.2.2.2.2 = true := h2
        refine ⟨(0, [⟨res.1, res.2.1⟩], res.2.2.1, res.2.2.2.1, true), hgo2 _ ?_, rfl⟩
        rw [hb2]
        exact node_bad _ _ _ _ _
       | some q =>
        obtain ⟨v, r⟩ := q
        rw [hq] at h2
        have hres : res = ((cS d v).f0, (cS d v).f1, BA s, ((s.length - r.length : Nat) : Int), false) := h2
        obtain ⟨hdrop, hle⟩ := drop_rest ht (parse_sound d t v r hq).1 (by omega)
        have hr := parse_len hq
        obtain ⟨res', h3, h4⟩ := node_l0 d (by omega) ih s hs t.length (s.length - r.length) [cS d v] (by omega) (by rw [hdrop]; omega) (by rw [hdrop]; simp; omega)
        rw [hdrop] at h4
        refine ⟨res', hgo2 _ ?_, ?_⟩
        · rw [hres]
          simp only [mkS]
          exact h3
        · simp only [Option.bind_some]
          cases hz : tailL d t.length r with
          | none => rw [hz] at h4; exact h4
          | some z =>
           rw [hz] at h4
           have h4' : res' = _ := h4
           show res' = _
           rw [h4']
           simp [cS]
   · refine ⟨(0, [], BA s, (p : Int), true), ?_, ?_⟩
     · refine EvS ?_; simp only [spec_l1Reader_node.f]
       refine Ev.call (a := ([] : List NS)) rfl (eM (Ev.call (is_miss 91 (by
        rw [hdr]
        intro c' t' e
        rw [← (List.cons.inj e).1]
        exact toNat_ne (n := 91) h91 (by omega))) (eN (Ev.val rfl))))
     · unfold parse
       simp only [if_neg h91]
       rfl
def readD (d : Nat) (l : By) : Option Tr := if l.length ≤ 400 then (match parse d l with | some (v, []) => some v | _ => none) else none
theorem readD_ok {d : Nat} {l : By} {v : Tr} (h : readD d l = some v) : l = text d v ∧ Ok d v ∧ l.length ≤ 400 := by
 unfold readD at h
 split at h
 · next hl =>
   split at h
   · next v' hp =>
     obtain rfl := Option.some.inj h
     obtain ⟨h1, h2⟩ := parse_sound _ _ _ _ hp
     exact ⟨by simpa using h1, h2, hl⟩
   · cases h
 · cases h
theorem readD_text {d : Nat} {v : Tr} (h : Ok d v) (hl : (text d v).length ≤ 400) : readD d (text d v) = some v := by
 unfold readD
 have := parse_complete d v [] h (by intro c l e; cases e)
 rw [List.append_nil] at this
 rw [if_pos hl, this]
def resS (d : Nat) : Option Tr → Int × List NS × Bool
 | none => (0, [], false)
 | some v => ((cS d v).f0, (cS d v).f1, true)
theorem l1Read_is (d : Nat) (hd : d ≤ 3) (l : By) : Ev (fun k => spec_l1Read.f k (BA l) (d : Int)) (resS d (readD d l)) := by
 unfold spec_l1Read.f
 have hin : spec_l1In.f (d : Int) 0 3 = some true := by
  unfold spec_l1In.f
  rw [if_pos (by omega)]
  simp
  omega
 refine Ev.call hin (Ev.pos (by first | trivial | rfl) ?_)
 refine EvS ?_; simp only [spec_l1Read.j0]
 unfold readD
 by_cases hl : l.length ≤ 400
 · rw [if_pos hl]
   refine Ev.neg (by simp; omega) ?_
   obtain ⟨res, h1, h2⟩ := node_is d (by omega) l 0 (by omega) (by omega)
   rw [List.drop_zero] at h2
   refine Ev.bind h1 ?_
   cases hq : parse d l with
   | none =>
    rw [hq] at h2
    exact Ev.pos h2 (Ev.now _)
   | some q =>
    obtain ⟨v, r⟩ := q
    rw [hq] at h2
    have hres : res = ((cS d v).f0, (cS d v).f1, BA l, ((l.length - r.length : Nat) : Int), false) := h2
    subst hres
    have hr := parse_len hq
    refine eN ?_
    cases r with
    | nil => exact eP (Ev.now _)
    | cons c r => exact Ev.neg (by simp only [List.length_cons] at hr ⊢; rw [BA_size]; omega) (Ev.now _)
 · rw [if_neg hl]
   exact Ev.pos (by simp; omega) (Ev.now _)
theorem arrOf_is (d : Nat) (hd : d ≤ 3) (l : By) : ∃ t, Ev (fun k => impl_arrOf.f k (BA l) (d : Int)) ((cA d t).f0, (cA d t).f1, (readD d l).isSome) ∧ Ok d t ∧ (text d t).length ≤ 402 ∧ ∀ v, readD d l = some v → t = v := by
 have hz : (cA d ⟨0, []⟩).f0 = 0 ∧ (cA d ⟨0, []⟩).f1 = [] ∧ Ok d ⟨0, []⟩ ∧ (text d ⟨0, []⟩).length ≤ 402 := by
  cases d with
  | zero => exact ⟨rfl, rfl, ⟨by show 0 < 10007; omega, rfl⟩, by simp [text, dec_small]⟩
  | succ d => exact ⟨rfl, rfl, ⟨rfl, by intro x hx; cases hx⟩, by simp [text, Lib.join_nil]⟩
 obtain ⟨z1, z2, z3, z4⟩ := hz
 unfold impl_arrOf.f readD
 by_cases hl : l.length ≤ 400
 · rw [if_pos hl]
   have hr := readArr_is d (by omega) l (by omega)
   cases hq : parse d l with
   | none =>
    rw [hq] at hr
    refine ⟨⟨0, []⟩, ?_, z3, z4, by simp⟩
    refine eM (eM (Ev.neg (by rw [BA_size]; omega) (Ev.bind hr (Ev.neg (by simp [resA, badA]) (Ev.val ?_)))))
    rw [z1, z2]
    rfl
   | some q =>
    obtain ⟨v, r⟩ := q
    rw [hq] at hr
    obtain ⟨h1, h2⟩ := parse_sound _ _ _ _ hq
    refine ⟨v, ?_, h2, ?_, ?_⟩
    · refine eM (eM (Ev.neg (by rw [BA_size]; omega) (Ev.bind hr (Ev.pos (by first | trivial | rfl) (Ev.val ?_)))))
      simp only [resA, toList_BA]
      cases r <;> rfl
    · have := congrArg List.length h1
      rw [List.length_append] at this
      omega
    · intro v' hv
      cases r with
      | nil => exact Option.some.inj hv
      | cons c r => cases hv
 · rw [if_neg hl]
   refine ⟨⟨0, []⟩, ?_, z3, z4, by simp⟩
   refine eM (eM (Ev.pos (by rw [BA_size]; omega) (Ev.val ?_)))
   rw [z1, z2]
   rfl
theorem arrOf_out (d : Int) (hd : d < 0 ∨ 3 < d) (s : ByteArray) : Ev (fun k => impl_arrOf.f k s d) (0, [], false) := by
 unfold impl_arrOf.f
 by_cases h0 : d < 0
 · exact Ev.pos h0 (Ev.now _)
 · exact Ev.neg h0 (eO (Ev.now _))
theorem strOne (m : Nat) (h : m < 256) : strOfNums [(m : Int)] = BA [UInt8.ofNat m] := by
 unfold strOfNums BA
 simp
theorem l13Dec_l0 : ∀ (n : Nat) (suf : By), n < 1000000000000000000 → suf.length ≤ 100 → Ev (fun k => spec_l13Dec.l0 k (n : Int) (BA suf)) (BA (Lib.decDigits n ++ suf)) := by
 have main : ∀ (b n : Nat) (suf : By), n < 10 ^ b → b ≤ 18 → suf.length + b ≤ 118 → Ev (fun k => spec_l13Dec.l0 k (n : Int) (BA suf)) (BA (Lib.decDigits n ++ suf)) := by
  intro b
  induction b with
  | zero =>
   intro n suf hn hb hs
   have hn1 : n < 1 := hn
   have : n = 0 := by omega
   subst this
   refine EvS ?_; simp only [spec_l13Dec.l0]
   have e : (wrap64 (48 + ((0 : Nat) : Int))) % 256 = ((48 + 0 : Nat) : Int) := by
    rw [wrapS (by omega) (by omega)]
    omega
   refine eM ?_
   rw [e]
   refine Ev.call (a := [((48 + 0 : Nat) : Int)]) rfl (Ev.pos (by rw [strOne _ (by omega), BA_size, BA_size]; simp; omega) (Ev.val ?_))
   rw [strOne _ (by omega), BA_append, dec_small (by omega)]
  | succ b ih =>
   intro n suf hn hb hs
   refine EvS ?_; simp only [spec_l13Dec.l0]
   have hpow : 10 ^ (b + 1) ≤ 10 ^ 18 := Nat.pow_le_pow_right (by omega) hb
   have hnb : n < 1000000000000000000 := by
    have : (10 ^ 18 : Nat) = 1000000000000000000 := by decide
    omega
   by_cases h9 : n < 10
   · have e : (wrap64 (48 + (n : Int))) % 256 = ((48 + n : Nat) : Int) := by
      rw [wrapS (by omega) (by omega)]
      omega
     refine eM ?_
     rw [e]
     refine Ev.call (a := [((48 + n : Nat) : Int)]) rfl (Ev.pos (by rw [strOne _ (by omega), BA_size, BA_size]; simp; omega) (Ev.val ?_))
     rw [strOne _ (by omega), BA_append, dec_small h9]
   · have e : (wrap64 (48 + Int.tmod (n : Int) 10)) % 256 = ((48 + n % 10 : Nat) : Int) := by
      rw [Int.tmod_eq_emod_of_nonneg (by omega), wrapS (by omega) (by omega)]
      omega
     have e2 : wrap64 (Int.tdiv (n : Int) 10) = ((n / 10 : Nat) : Int) := by
      rw [Int.tdiv_eq_ediv_of_nonneg (by omega), wrapS (by omega) (by omega)]
      omega
     refine eO ?_
     rw [e, e2]
     refine Ev.call (a := [((48 + n % 10 : Nat) : Int)]) rfl (Ev.pos (by rw [strOne _ (by omega), BA_size, BA_size]; simp; omega) ?_)
     rw [strOne _ (by omega), BA_append]
     refine evIs (ih (n / 10) _ ?_ (by omega) (by simp; omega)) ?_
     · rw [Nat.pow_succ] at hn
       generalize 10 ^ b = q at *
       omega
     · rw [dec_big h9, List.append_assoc]
 intro n suf hn hs
 exact main 18 n suf (by have : (10 ^ 18 : Nat) = 1000000000000000000 := by decide
                         omega) (by omega) (by omega)
theorem l13Dec_is (n : Nat) (hn : n < 1000000000000000000) : Ev (fun k => spec_l13Dec.f k (n : Int)) (BA (Lib.decDigits n)) := by
 refine EvS ?_; simp only [spec_l13Dec.f]
 refine eM (eM (evIs (l13Dec_l0 n [] hn (by simp)) ?_))
 rw [List.append_nil]
theorem dec_len : ∀ (b n : Nat), n < 10 ^ b → 1 ≤ b → (Lib.decDigits n).length ≤ b := by
 intro b
 induction b with
 | zero => intro n _ h; omega
 | succ b ih =>
  intro n hn _
  by_cases h9 : n < 10
  · rw [dec_small h9]; simp
  · rw [dec_big h9, List.length_append]
    have h1 : n / 10 < 10 ^ b := by
     rw [Nat.pow_succ] at hn
     generalize 10 ^ b = q at *
     omega
    have hb : 1 ≤ b := by
     rcases Nat.eq_zero_or_pos b with rfl | h
     · have : n / 10 < 1 := h1
       omega
     · exact h
    have := ih (n / 10) h1 hb
    simp
    omega
def Sh : Nat → Tr → Prop
 | 0, t => t.n < 1000000000
 | d + 1, t => ∀ x ∈ t.parts, Sh d x
theorem Sh.of : ∀ {d : Nat} {t : Tr}, Ok d t → Sh d t
 | 0, t, h => by have := h.1; show t.n < _; omega
 | d + 1, t, h => fun x hx => Sh.of (h.2 x hx)
def nodes : Nat → Tr → Nat
 | 0, _ => 1
 | d + 1, t => 1 + (t.parts.map (nodes d)).sum
theorem join_sum (f : Tr → By) (g : Tr → Nat) : ∀ xs : List Tr, (∀ x ∈ xs, (f x).length + 1 ≤ g x) → (Lib.join (xs.map f) [44]).length ≤ (xs.map g).sum
 | [], _ => by simp [Lib.join_nil]
 | [x], h => by
  have := h x (by simp)
  rw [List.map_cons, List.map_nil, join_one]
  simp
  omega
 | x :: y :: l, h => by
  have h1 := h x (by simp)
  have h2 := join_sum f g (y :: l) (fun z hz => h z (List.mem_cons_of_mem _ hz))
  rw [List.map_cons, List.map_cons, join_cons]
  rw [List.map_cons] at h2
  rw [List.map_cons, List.sum_cons]
  simp only [List.length_append, List.length_cons] at h2 ⊢
  omega
theorem join_len2 (f : Tr → By) (g : Tr → Nat) : ∀ xs : List Tr, (∀ x ∈ xs, g x ≤ (f x).length) → (xs.map g).sum ≤ (Lib.join (xs.map f) [44]).length
 | [], _ => by simp
 | [x], h => by
  have h1 := h x (by simp)
  have e1 : (([x] : List Tr).map g).sum = g x := by simp
  have e2 : Lib.join ([x].map f) [44] = f x := join_one _
  rw [e1, e2]
  exact h1
 | x :: y :: l, h => by
  have h1 := h x (by simp)
  have h2 := join_len2 f g (y :: l) (fun z hz => h z (List.mem_cons_of_mem _ hz))
  have e1 : ((x :: y :: l).map g).sum = g x + ((y :: l).map g).sum := by rw [List.map_cons, List.sum_cons]
  have e2 : Lib.join ((x :: y :: l).map f) [44] = f x ++ 44 :: Lib.join ((y :: l).map f) [44] := join_cons _ _ _
  rw [e1, e2, List.length_append, List.length_cons]
  omega
theorem sum_mul (c : Nat) (g : Tr → Nat) : ∀ xs : List Tr, (xs.map (fun x => c * g x)).sum = c * (xs.map g).sum
 | [] => rfl
 | x :: l => by rw [List.map_cons, List.sum_cons, sum_mul c g l, List.map_cons, List.sum_cons, Nat.mul_add]
theorem text_le : ∀ (d : Nat) (t : Tr), Sh d t → (text d t).length + 1 ≤ 12 * nodes d t
 | 0, t, h => by
  have := dec_len 9 t.n h (by omega)
  show (Lib.decDigits t.n).length + 1 ≤ 12
  omega
 | d + 1, t, h => by
  have := join_sum (text d) (fun x => 12 * nodes d x) t.parts (fun x hx => text_le d x (h x hx))
  rw [sum_mul] at this
  show (91 :: (Lib.join (t.parts.map (text d)) [44] ++ [93])).length + 1 ≤ 12 * (1 + (t.parts.map (nodes d)).sum)
  simp
  omega
theorem sum_mem (g : Tr → Nat) : ∀ (xs : List Tr) (x : Tr), x ∈ xs → g x ≤ (xs.map g).sum
 | y :: l, x, h => by
  rw [List.map_cons, List.sum_cons]
  rcases List.mem_cons.1 h with rfl | h
  · omega
  · have := sum_mem g l x h; omega
theorem nodes_part {d : Nat} {t x : Tr} (h : x ∈ t.parts) : nodes d x ≤ nodes (d + 1) t := by
 have := sum_mem (nodes d) t.parts x h
 show _ ≤ 1 + _
 omega
theorem nodes_pos : ∀ (d : Nat) (t : Tr), 1 ≤ nodes d t
 | 0, _ => Nat.le_refl _
 | d + 1, t => by show 1 ≤ 1 + _; omega
theorem sum_len (g : Tr → Nat) (h : ∀ x, 1 ≤ g x) : ∀ xs : List Tr, xs.length ≤ (xs.map g).sum
 | [] => by simp
 | x :: l => by
  have h1 := h x
  have h2 := sum_len g h l
  rw [List.map_cons, List.sum_cons, List.length_cons]
  omega
theorem parts_len (d : Nat) (t : Tr) : t.parts.length + 1 ≤ nodes (d + 1) t := by
 have := sum_len (nodes d) (nodes_pos d) t.parts
 show _ ≤ 1 + _
 omega
theorem getD_map {α : Type} (f : Tr → α) (xs : List Tr) (i : Nat) (z : α) (h : i < xs.length) : (xs.map f).getD i z = f xs[i] := by
 rw [List.getD_eq_getElem?_getD, List.getElem?_map, List.getElem?_eq_getElem h]
 rfl
theorem take_snoc {α : Type} (xs : List α) (i : Nat) (h : i < xs.length) : xs.take (i + 1) = xs.take i ++ [xs[i]] := List.take_succ_eq_append_getElem h
def TextA (d : Nat) : Prop := ∀ t, Sh d t → nodes d t ≤ 1000000000 → Ev (fun k => impl_arr_text.f k (cA d t).f0 (cA d t).f1 (d : Int)) (BA (text d t))
theorem textA_l0 (d : Nat) (hd : d ≤ 1000) (ih : TextA d) (t : Tr) (hs : Sh (d + 1) t) (hn : nodes (d + 1) t ≤ 1000000000) :
 ∀ (n i : Nat), t.parts.length - i = n → i ≤ t.parts.length → Ev (fun k => impl_arr_text.l0 k ((d + 1 : Nat) : Int) ((t.parts.take i).map fun x => BA (text d x)) (t.parts.map (cA d)) ((t.parts.map (cA d)).length : Int) (i : Int)) (BA (text (d + 1) t)) := by
 have hpl := parts_len d t
 have htl := text_le (d + 1) t hs
 have hte : (text (d + 1) t).length = (Lib.join (t.parts.map (text d)) [44]).length + 2 := by simp [text]
 intro n
 induction n with
 | zero =>
  intro i h hi
  refine EvS ?_; simp only [impl_arr_text.l0]
  rw [List.take_of_length_le (by omega)]
  refine Ev.neg (by rw [List.length_map]; omega) ?_
  have hj : strings_Join.f (t.parts.map fun x => BA (text d x)) (⟨#[44]⟩ : ByteArray) = some (BA (Lib.join (t.parts.map (text d)) [44])) := by
   have e : (t.parts.map fun x => BA (text d x)).map (·.data.toList) = t.parts.map (text d) := by
    rw [List.map_map]
    apply List.map_congr_left
    intro x _
    exact data_BA _
   unfold strings_Join.f
   rw [e, if_pos (by rw [List.length_map]; omega), if_pos (by show (Lib.join (t.parts.map (text d)) [44]).length ≤ _; omega)]
   rfl
  refine Ev.call hj (Ev.pos (by simp; omega) (Ev.pos (by simp; omega) (Ev.val ?_)))
  show BA [91] ++ BA _ ++ BA [93] = _
  rw [BA_append, BA_append]
  rfl
 | succ n ihn =>
  intro i h hi
  have hlt : i < t.parts.length := by omega
  have hm : t.parts[i] ∈ t.parts := List.getElem_mem hlt
  have hx := ih t.parts[i] (hs _ hm) (by have := nodes_part (d := d) hm; omega)
  have hg : rd_T70 (t.parts.map (cA d)) (i : Int) = cA d t.parts[i] := getD_map _ _ _ _ hlt
  refine EvS ?_; simp only [impl_arr_text.l0]
  refine Ev.pos (by rw [List.length_map]; omega) (eO (Ev.pos (by rw [List.length_map]; omega) ?_))
  rw [hg, show wrap64 (((d + 1 : Nat) : Int) - 1) = (d : Int) by rw [wrapS (by omega) (by omega)]; omega, wrapS (a := (i : Int) + 1) (by omega) (by omega)]
  have hnext := ihn (i + 1) (by omega) (by omega)
  refine Ev.bind hx (Ev.pos (by rw [List.length_map, List.length_take]; omega) ?_)
  rw [take_snoc _ _ hlt, List.map_append] at hnext
  exact hnext
theorem textA_is : ∀ d, d ≤ 1000 → TextA d
 | 0, _ => by
  intro t hs hn
  refine EvS ?_; simp only [impl_arr_text.f]
  have h9 : t.n < 1000000000 := hs
  have hi : strconv_Itoa.f (t.n : Int) = some (BA (Lib.decDigits t.n)) := by
   unfold strconv_Itoa.f
   rw [if_pos (by omega), if_pos (by omega), itoa_nat]
   rfl
  refine Ev.pos (by first | trivial | rfl) (Ev.call hi (Ev.val rfl))
 | d + 1, hd => by
  intro t hs hn
  refine EvS ?_; simp only [impl_arr_text.f]
  exact eM (textA_l0 d (by omega) (textA_is d (by omega)) t hs hn _ 0 rfl (by omega))
def told (l : By) : ByteArray × Bool := if l.length ≤ 400 then (BA l, true) else (BA [], false)
theorem nodes_le_text : ∀ (d : Nat) (t : Tr), nodes d t ≤ (text d t).length
 | 0, t => by
  have := List.length_pos_iff.2 (dec_ne t.n)
  exact this
 | d + 1, t => by
  have h := join_len2 (text d) (nodes d) t.parts (fun x _ => nodes_le_text d x)
  show 1 + _ ≤ (91 :: (Lib.join (t.parts.map (text d)) [44] ++ [93])).length
  simp
  omega
abbrev ints (l : List Nat) : List Int := l.map (fun n : Nat => (n : Int))
theorem rd_at {l : List Int} {i : Nat} (h : i < l.length) : rd l (i : Int) = l[i] := by
 unfold rd
 rw [Int.toNat_natCast, List.getD_eq_getElem?_getD, List.getElem?_eq_getElem h]
 rfl
def ExE {α : Type} (f : Nat → Option α) : Prop := ∃ g, Ev f g
theorem ExE.now {α : Type} (a : α) : ExE (fun _ => some a) := ⟨a, Ev.now a⟩
theorem ExE.ite {α : Type} {c : Prop} [Decidable c] {f g : Nat → Option α} (h1 : c → ExE f) (h2 : ¬ c → ExE g) : ExE (fun k => if c then f k else g k) := by
 by_cases h : c
 · obtain ⟨r, hr⟩ := h1 h
   exact ⟨r, Ev.pos h hr⟩
 · obtain ⟨r, hr⟩ := h2 h
   exact ⟨r, Ev.neg h hr⟩
theorem ExE.pos {α : Type} {c : Prop} [Decidable c] {f g : Nat → Option α} (hc : c) (h1 : ExE f) : ExE (fun k => if c then f k else g k) := .ite (fun _ => h1) (fun h => absurd hc h)
theorem ExE.step {α : Type} {g : Nat → Option α} (k : ExE (fun k => g (k + 1))) : ExE g := by
 obtain ⟨r, hr⟩ := k
 exact ⟨r, Ev.step' hr⟩
theorem ExE.call {α β : Type} {g : Option α} {f : Nat → α → Option β} {a : α} (h : g = some a) (k : ExE (fun n => f n a)) : ExE (fun n => g.bind (f n)) := by
 obtain ⟨r, hr⟩ := k
 exact ⟨r, Ev.call h hr⟩
section
variable {s : ByteArray} {x : List Int} (hx : 0 < (x.length : Int))
include hx
theorem sj7 (b : Bool) : ExE (fun k => impl_signDepth.j7 k s x b) := by
 refine .step ?_
 simp only [impl_signDepth.j7]
 exact .ite (fun _ => .pos hx (.now _)) (fun _ => .ite (fun _ => .pos hx (.ite (fun _ => .now _) (fun _ => .now _))) (fun _ => .now _))
theorem sj6 (b : Bool) : ExE (fun k => impl_signDepth.j6 k s x b) := by
 refine .step ?_
 simp only [impl_signDepth.j6]
 exact .ite (fun _ => .now _) (fun _ => .ite (fun _ => .pos hx (sj7 hx _)) (fun _ => sj7 hx _))
theorem sj5 (b : Bool) : ExE (fun k => impl_signDepth.j5 k s x b) := by
 refine .step ?_
 simp only [impl_signDepth.j5]
 exact .ite (fun _ => sj6 hx _) (fun _ => .ite (fun _ => .pos hx (sj6 hx _)) (fun _ => sj6 hx _))
theorem sj4 (b : Bool) : ExE (fun k => impl_signDepth.j4 k s x b) := by
 refine .step ?_
 simp only [impl_signDepth.j4]
 exact .ite (fun _ => .now _) (fun _ => .ite (fun _ => .pos hx (sj5 hx _)) (fun _ => sj5 hx _))
theorem sj3 (b : Bool) : ExE (fun k => impl_signDepth.j3 k s x b) := by
 refine .step ?_
 simp only [impl_signDepth.j3]
 exact .ite (fun _ => sj4 hx _) (fun _ => .ite (fun _ => .pos hx (sj4 hx _)) (fun _ => sj4 hx _))
theorem sj2 (a b : Bool) : ExE (fun k => impl_signDepth.j2 k s x a b) := by
 refine .step ?_
 simp only [impl_signDepth.j2]
 exact .ite (fun _ => .now _) (fun _ => .ite (fun _ => .now _) (fun _ => .ite (fun _ => .pos hx (sj3 hx _)) (fun _ => .ite (fun _ => .pos hx (sj3 hx _)) (fun _ => sj3 hx _))))
theorem sj1 (a b : Bool) : ExE (fun k => impl_signDepth.j1 k s x a b) := by
 refine .step ?_
 simp only [impl_signDepth.j1]
 exact .ite (fun _ => sj2 hx _ _) (fun _ => .ite (fun _ => .ite (fun _ => .pos hx (sj2 hx _ _)) (fun _ => sj2 hx _ _)) (fun _ => sj2 hx _ _))
end
theorem cont_is (s : ByteArray) : strings_Contains.f (⟨#[43, 42, 94, 45, 61, 60]⟩ : ByteArray) s = some (Lib.contains [43, 42, 94, 45, 61, 60] s.data.toList) := by
 unfold strings_Contains.f
 rw [if_pos (by decide)]
theorem sj0 {s : ByteArray} {x : List Int} (a b : Bool) (hx : b = false → 0 < (x.length : Int)) : ExE (fun k => impl_signDepth.j0 k s x a b) := by
 refine .step ?_
 simp only [impl_signDepth.j0]
 refine .ite (fun _ => .now _) (fun hb => ?_)
 have hx := hx (by simpa using hb)
 exact .ite (fun _ => .call (cont_is s) (.ite (fun _ => .pos hx (sj1 hx _ _)) (fun _ => sj1 hx _ _))) (fun _ => sj1 hx _ _)
theorem sd_any (s : ByteArray) (x : List Int) : ExE (fun k => impl_signDepth.f k s x) := by
 unfold impl_signDepth.f
 refine .ite (fun _ => sj0 _ _ (by simp)) (fun h0 => .ite (fun _ => sj0 _ _ (by simp)) (fun _ => ?_))
 have hx : 0 < (x.length : Int) := by omega
 exact .pos hx (.ite (fun _ => sj0 _ _ (by simp)) (fun _ => .ite (fun h2 => .pos (by omega) (sj0 _ _ (fun _ => hx))) (fun _ => sj0 _ _ (fun _ => hx))))
def sg1 (c : UInt8) (d : Int) : Int :=
 if c = 83 then (if d = 1 then 0 else -1) else if c = 77 then (if d = 1 then 0 else -1) else if c = 78 then (if d ≥ 1 then 0 else -1) else if c = 73 then (if d = 0 then 1 else -1) else if c = 80 then (if d = 1 then 1 else -1) else
 if c = 82 then (if d ≥ 1 then d else -1) else if c = 67 then (if d ≥ 2 then d - 1 else -1) else -1
theorem tl_one (c : UInt8) : (BA [c]).toList = [c] := by rw [toList_eq]; rfl
theorem sd_one (c : UInt8) (d : Nat) (hd : d ≤ 3) : impl_signDepth.f 20 (BA [c]) [(d : Int)] = some (sg1 c (d : Int)) := by
 have e0 : rd [(d : Int)] 0 = (d : Int) := rfl
 have hn : ¬ (d : Int) < 0 := by omega
 have hw : wrap64 ((d : Int) - 1) = (d : Int) - 1 := by unfold wrap64; omega
 simp only [impl_signDepth.f, impl_signDepth.j0, impl_signDepth.j1, impl_signDepth.j2, impl_signDepth.j3, impl_signDepth.j4, impl_signDepth.j5, impl_signDepth.j6, impl_signDepth.j7, tl_one, e0, hn, hw, sg1, List.length_cons, List.length_nil, List.cons.injEq, and_true]
 by_cases h1 : c = 83
 · by_cases h : (d : Int) = 1 <;> simp [h1, h]
 by_cases h2 : c = 77
 · by_cases h : (d : Int) = 1 <;> simp [h2, h]
 by_cases h3 : c = 78
 · by_cases h : (d : Int) ≥ 1 <;> simp [h3, h]
 by_cases h4 : c = 73
 · by_cases h : d = 0 <;> simp [h4, h]
 by_cases h5 : c = 80
 · by_cases h : (d : Int) = 1 <;> simp [h5, h]
 by_cases h6 : c = 82
 · by_cases h : (d : Int) ≥ 1 <;> simp [h6, h]
 by_cases h7 : c = 67
 · by_cases h : (d : Int) ≥ 2 <;> simp [h7, h]
 simp [h1, h2, h3, h4, h5, h6, h7]
def sg2 (c : UInt8) (d : Int) : Int := if (c = 43 ∨ c = 42 ∨ c = 94 ∨ c = 45 ∨ c = 61 ∨ c = 60) ∧ d = 0 ∨ c = 64 ∧ d = 1 then 0 else -1
theorem cont_one (c : UInt8) : Lib.contains [43, 42, 94, 45, 61, 60] [c] = decide (c = 43 ∨ c = 42 ∨ c = 94 ∨ c = 45 ∨ c = 61 ∨ c = 60) := by
 by_cases h1 : c = 43
 · subst h1; decide
 by_cases h2 : c = 42
 · subst h2; decide
 by_cases h3 : c = 94
 · subst h3; decide
 by_cases h4 : c = 45
 · subst h4; decide
 by_cases h5 : c = 61
 · subst h5; decide
 by_cases h6 : c = 60
 · subst h6; decide
 have e1 : (c == 43) = false := by simpa using h1
 have e2 : (c == 42) = false := by simpa using h2
 have e3 : (c == 94) = false := by simpa using h3
 have e4 : (c == 45) = false := by simpa using h4
 have e5 : (c == 61) = false := by simpa using h5
 have e6 : (c == 60) = false := by simpa using h6
 simp [Lib.contains, Lib.index, List.isPrefixOf, h1, h2, h3, h4, h5, h6]
theorem sd_two (c : UInt8) (d : Nat) (hd : d ≤ 3) : impl_signDepth.f 20 (BA [c]) [(d : Int), 0] = some (sg2 c (d : Int)) := by
 have e0 : rd [(d : Int), 0] 0 = (d : Int) := rfl
 have e1 : rd [(d : Int), 0] 1 = 0 := rfl
 have hn : ¬ (d : Int) < 0 := by omega
 have hc := cont_one c
 have hb : (BA [c]).data.toList = [c] := rfl
 simp only [impl_signDepth.f, impl_signDepth.j0, impl_signDepth.j1, impl_signDepth.j2, tl_one, e0, e1, hn, sg2, List.length_cons, List.length_nil, List.cons.injEq, and_true, cont_is, hb, hc]
 by_cases h1 : c = 43 ∨ c = 42 ∨ c = 94 ∨ c = 45 ∨ c = 61 ∨ c = 60
 · have h7 : c ≠ 64 := by rintro rfl; simp at h1
   by_cases h : d = 0 <;> simp [h1, h, h7]
 · by_cases h7 : c = 64
   · by_cases h : (d : Int) = 1 <;> simp [h7, h]
   · simp [h1, h7]
theorem cn (c : UInt8) (n : Nat) (hn : n < 256) : (c.toNat : Int) = (n : Int) ↔ c = UInt8.ofNat n := by
 constructor
 · intro h
   apply UInt8.toNat.inj
   rw [UInt8.toNat_ofNat']
   omega
 · rintro rfl
   rw [UInt8.toNat_ofNat']
   omega
theorem one_is (c : UInt8) (d : Nat) (hd : d ≤ 3) : spec_l5One.f 20 (c.toNat : Int) (d : Int) = some (sg1 c (d : Int)) := by
 have k1 : (c.toNat : Int) = 83 ↔ c = 83 := cn c 83 (by omega)
 have k2 : (c.toNat : Int) = 77 ↔ c = 77 := cn c 77 (by omega)
 have k3 : (c.toNat : Int) = 78 ↔ c = 78 := cn c 78 (by omega)
 have k4 : (c.toNat : Int) = 73 ↔ c = 73 := cn c 73 (by omega)
 have k5 : (c.toNat : Int) = 80 ↔ c = 80 := cn c 80 (by omega)
 have k6 : (c.toNat : Int) = 82 ↔ c = 82 := cn c 82 (by omega)
 have k7 : (c.toNat : Int) = 67 ↔ c = 67 := cn c 67 (by omega)
 have hw : wrap64 ((d : Int) - 1) = (d : Int) - 1 := by unfold wrap64; omega
 have hb : ∀ n : Int, ((c.toNat : Int) == n) = decide ((c.toNat : Int) = n) := fun n => rfl
 simp only [spec_l5One.f, spec_l5One.j0, hb, decide_eq_true_eq, k1, k2, k3, k4, k5, k6, k7, hw, sg1]
 by_cases h1 : c = 83
 · by_cases h : (d : Int) = 1 <;> simp [h1, h]
 by_cases h2 : c = 77
 · by_cases h : (d : Int) = 1 <;> simp [h2, h]
 by_cases h3 : c = 78
 · by_cases h : (d : Int) ≥ 1 <;> simp [h3, h]
 by_cases h4 : c = 73
 · by_cases h : d = 0 <;> simp [h4, h]
 by_cases h5 : c = 80
 · by_cases h : (d : Int) = 1 <;> simp [h5, h]
 by_cases h6 : c = 82
 · by_cases h : (d : Int) ≥ 1 <;> simp [h6, h]
 by_cases h7 : c = 67
 · by_cases h : (d : Int) ≥ 2 <;> simp [h7, h]
 simp [h1, h2, h3, h4, h5, h6, h7]
theorem find_l0 (l : By) (hl : l.length ≤ 100) (c : UInt8) : ∀ (n i : Nat), l.length - i = n → i ≤ l.length → ∃ r, Ev (fun k => spec_l13Find.l0 k (BA l) (c.toNat : Int) (i : Int)) r ∧ (r < 0 ↔ c ∉ l.drop i) := by
 intro n
 induction n with
 | zero =>
  intro i h hi
  refine ⟨-1, ?_, ?_⟩
  · refine EvS ?_; simp only [spec_l13Find.l0]
    exact Ev.neg (by rw [BA_size]; omega) (Ev.now _)
  · rw [List.drop_eq_nil_of_le (by omega)]
    simp
 | succ n ih =>
  intro i h hi
  have hlt : i < l.length := by omega
  have hb : bt (BA l) (i : Int) = (l[i].toNat : Int) := by
   rw [bt_BA, Int.toNat_natCast, List.getD_eq_getElem?_getD, List.getElem?_eq_getElem hlt]
   rfl
  have hd : l.drop i = l[i] :: l.drop (i + 1) := List.drop_eq_getElem_cons hlt
  by_cases hc : l[i] = c
  · refine ⟨(i : Int), ?_, ?_⟩
    · refine EvS ?_; simp only [spec_l13Find.l0]
      exact Ev.pos (by rw [BA_size]; omega) (eO (Ev.pos (by rw [hb, hc]) (Ev.now _)))
    · rw [hd, hc]
      simp
  · obtain ⟨r, h1, h2⟩ := ih (i + 1) (by omega) (by omega)
    refine ⟨r, ?_, ?_⟩
    · refine EvS ?_; simp only [spec_l13Find.l0]
      refine Ev.pos (by rw [BA_size]; omega) (eO (Ev.neg (fun e => hc ?_) ?_))
      · rw [hb] at e
        exact UInt8.toNat.inj (by omega)
      · rw [wrapS (by omega) (by omega)]
        exact h1
    · rw [h2, hd]
      have hne : ¬ c = l[i] := fun e => hc e.symm
      simp only [List.mem_cons, hne, false_or]
theorem find_is (l : By) (hl : l.length ≤ 100) (c : UInt8) : ∃ r, Ev (fun k => spec_l13Find.f k (BA l) (c.toNat : Int)) r ∧ (r < 0 ↔ c ∉ l) := by
 unfold spec_l13Find.f
 exact find_l0 l hl c _ 0 rfl (Nat.zero_le _)
abbrev n0 (v : Nat) : Tr := ⟨v, []⟩
def psm : Nat → List Nat → List Nat
 | _, [] => []
 | a, n :: ns => a :: psm ((a + n) % 10007) ns
theorem psm_len : ∀ (a : Nat) (ns : List Nat), (psm a ns).length = ns.length
 | _, [] => rfl
 | a, n :: ns => by simp [psm, psm_len]
theorem psm_lt : ∀ (a : Nat) (ns : List Nat), a < 10007 → ∀ x ∈ psm a ns, x < 10007
 | _, [], _, x, h => by cases h
 | a, n :: ns, ha, x, h => by
  rcases List.mem_cons.1 h with rfl | h
  · exact ha
  · exact psm_lt _ ns (Nat.mod_lt _ (by omega)) x h
abbrev vals (t : Tr) : List Nat := t.parts.map (·.n)
theorem rdA_at {ps : List NA} {i : Nat} (h : i < ps.length) : rd_T70 ps (i : Int) = ps[i] := by
 show ps.getD i _ = _
 rw [List.getD_eq_getElem?_getD, List.getElem?_eq_getElem h]
 rfl
theorem list_l0 (ps : List NA) (hp : ps.length ≤ 1000000) (x y : Int) (z : List NA) : ∀ (n i : Nat), ps.length - i = n → i ≤ ps.length → Ev (fun k => impl_give_1.l0 k ((ps.take i).map (·.f0)) ps (ps.length : Int) (i : Int) y z) (ps.map (·.f0), y) := by
 intro n
 induction n with
 | zero =>
  intro i h hi
  refine EvS ?_; simp only [impl_give_1.l0]
  rw [List.take_of_length_le (by omega)]
  exact eM (Ev.now _)
 | succ n ih =>
  intro i h hi
  have hlt : i < ps.length := by omega
  have hnext := ih (i + 1) (by omega) (by omega)
  rw [List.take_succ_eq_append_getElem hlt, List.map_append] at hnext
  refine EvS ?_; simp only [impl_give_1.l0]
  refine eO (eO (eO (Ev.pos (by rw [List.length_map, List.length_take]; omega) ?_)))
  rw [rdA_at hlt, wrapS (by omega) (by omega)]
  exact hnext
theorem list_is (ps : List NA) (hp : ps.length ≤ 1000000) (y : Int) : Ev (fun k => impl_give_1.f k y ps) (ps.map (·.f0), y) := by
 unfold impl_give_1.f
 exact list_l0 ps hp 0 y ps _ 0 rfl (Nat.zero_le _)
theorem flat_l0 (l : List Int) (hl : l.length ≤ 1000000) : ∀ (n i : Nat), l.length - i = n → i ≤ l.length → Ev (fun k => impl_give_2.l0 k l (l.length : Int) (i : Int) 0 ((l.take i).map fun z => (⟨z, []⟩ : NA))) (0, l.map fun z => (⟨z, []⟩ : NA)) := by
 intro n
 induction n with
 | zero =>
  intro i h hi
  refine EvS ?_; simp only [impl_give_2.l0]
  rw [List.take_of_length_le (by omega)]
  exact eM (Ev.now _)
 | succ n ih =>
  intro i h hi
  have hlt : i < l.length := by omega
  have hnext := ih (i + 1) (by omega) (by omega)
  rw [List.take_succ_eq_append_getElem hlt, List.map_append] at hnext
  refine EvS ?_; simp only [impl_give_2.l0]
  refine eO (eO (eO (Ev.pos (by rw [List.length_map, List.length_take]; omega) ?_)))
  rw [rd_at hlt, wrapS (by omega) (by omega)]
  exact hnext
theorem flat_is (l : List Int) (hl : l.length ≤ 1000000) : Ev (fun k => impl_give_2.f k l) (0, l.map fun z => (⟨z, []⟩ : NA)) := by
 unfold impl_give_2.f
 exact flat_l0 l hl _ 0 rfl (Nat.zero_le _)
theorem cA_vals (t : Tr) : ((cA 1 t).f1).map (·.f0) = ints (vals t) := by
 show (t.parts.map (cA 0)).map _ = _
 rw [List.map_map, ints, vals, List.map_map]
 rfl
theorem flat_cA (l : List Nat) : ((ints l).map fun z => (⟨z, []⟩ : NA)) = (cA 1 ⟨0, l.map n0⟩).f1 := by
 show _ = (l.map n0).map (cA 0)
 rw [ints, List.map_map, List.map_map]
 rfl
theorem rdNs_at {l : List Nat} {i : Nat} (h : i < l.length) : rd (ints l) (i : Int) = (l[i] : Int) := by
 rw [rd_at (by rw [List.length_map]; exact h), List.getElem_map]
theorem totalS_l0 (xs : List Nat) (hs : xs.sum ≤ 1000000000000) (hl : xs.length ≤ 1000000) : ∀ (n i acc : Nat), xs.length - i = n → i ≤ xs.length → acc + (xs.drop i).sum = xs.sum → Ev (fun k => impl_total.l0 k (acc : Int) (ints xs) ((ints xs).length : Int) (i : Int)) ((xs.sum : Nat) : Int) := by
 intro n
 induction n with
 | zero =>
  intro i acc h1 h2 h3
  rw [List.drop_eq_nil_of_le (by omega)] at h3
  refine EvS ?_; simp only [impl_total.l0]
  refine Ev.neg (by rw [List.length_map]; omega) (Ev.val ?_)
  simp at h3
  omega
 | succ n ih =>
  intro i acc h1 h2 h3
  have hi : i < xs.length := by omega
  rw [List.drop_eq_getElem_cons hi, List.sum_cons] at h3
  have hnext := ih (i + 1) (acc + xs[i]) (by omega) (by omega) (by omega)
  refine EvS ?_; simp only [impl_total.l0]
  refine Ev.pos (by rw [List.length_map]; omega) (eO (Ev.pos (by rw [List.length_map]; omega) ?_))
  rw [rdNs_at hi, wrapS (by omega) (by omega), wrapS (by omega) (by omega)]
  exact hnext
theorem sum_le : ∀ (ns : List Nat), (∀ x ∈ ns, x < 10007) → ns.sum ≤ 10007 * ns.length
 | [], _ => by simp
 | n :: ns, h => by
  have h1 := sum_le ns (fun x hx => h x (List.mem_cons_of_mem _ hx))
  have h2 := h n (by simp)
  rw [List.sum_cons, List.length_cons]
  omega
theorem tmodN (a b : Nat) : Int.tmod (a : Int) (b : Int) = ((a % b : Nat) : Int) := by
 rw [Int.tmod_eq_emod_of_nonneg (by omega)]
 omega
theorem tmodM (a : Nat) : Int.tmod (a : Int) 10007 = ((a % 10007 : Nat) : Int) := tmodN a 10007
theorem sumA_is (xs : List Nat) (hx : ∀ x ∈ xs, x < 10007) (hl : xs.length ≤ 1000000) : Ev (fun k => impl_sum.f k (ints xs)) ((xs.sum % 10007 : Nat) : Int) := by
 have hs := sum_le xs hx
 unfold impl_sum.f impl_total.f
 exact Ev.bind (totalS_l0 xs (by omega) hl _ 0 0 rfl (Nat.zero_le _) (by simp)) (Ev.val (tmodM _))
theorem fold_max (xs : List Nat) : ∀ a : Nat, (ints xs).foldl max (a : Int) = ((xs.foldl max a : Nat) : Int) := by
 induction xs with
 | nil => intro a; rfl
 | cons x xs ih =>
  intro a
  rw [ints, List.map_cons, List.foldl_cons, List.foldl_cons, show max (a : Int) (x : Int) = ((max a x : Nat) : Int) by omega]
  exact ih _
theorem mostA_is (xs : List Nat) (hl : xs.length ≤ 1000000) : impl_most.f (ints xs) = some ((xs.foldl max 0 : Nat) : Int) := by
 unfold impl_most.f slices_Max_int.f
 have e : Lib.maxOf ([0] ++ ints xs) = ((xs.foldl max 0 : Nat) : Int) := by
  unfold Lib.maxOf
  show (ints xs).foldl max (max 0 0) = _
  exact fold_max xs 0
 show (if ([0] : List Int).length + (ints xs).length < 17592186044416 then _ else _) = _
 rw [if_pos (by simp; omega), if_pos (by simp; omega), if_pos (by simp), e]
 rfl
theorem foldmax_lt (xs : List Nat) : ∀ a : Nat, a < 10007 → (∀ x ∈ xs, x < 10007) → xs.foldl max a < 10007 := by
 induction xs with
 | nil => intro a h _; exact h
 | cons x xs ih =>
  intro a h hx
  have := hx x (by simp)
  exact ih _ (by omega) (fun y hy => hx y (List.mem_cons_of_mem _ hy))
theorem gl0 (m : Nat) (hm : m ≤ 12) : ∀ (n i : Nat), m - i = n → i ≤ m → Ev (fun k => impl_give.l0 k (ints (List.range i)) (m : Int) (i : Int)) (0, (cA 1 ⟨0, (List.range m).map n0⟩).f1) := by
 intro n
 induction n with
 | zero =>
  intro i h hi
  obtain rfl : i = m := by omega
  refine EvS ?_; simp only [impl_give.l0]
  refine eM (Ev.bind (flat_is _ (by rw [List.length_map, List.length_range]; omega)) (Ev.val ?_))
  rw [flat_cA]
 | succ n ih =>
  intro i h hi
  have hnext := ih (i + 1) (by omega) (by omega)
  rw [List.range_succ, ints, List.map_append] at hnext
  refine EvS ?_; simp only [impl_give.l0]
  refine eO (Ev.pos (by rw [List.length_map, List.length_range]; omega) ?_)
  rw [wrapS (by omega) (by omega)]
  exact hnext
theorem gl2 (ns : List Nat) (hns : ∀ x ∈ ns, x < 10007) (hl : ns.length ≤ 1000000) : ∀ (rest done : List Nat) (acc : List Nat) (a : Nat), ns = done ++ rest → a < 10007 → acc.length = done.length →
 Ev (fun k => impl_give.l2 k (ints acc) (a : Int) (ints ns) ((ints ns).length : Int) ((done.length : Nat) : Int)) (0, (cA 1 ⟨0, (acc ++ psm a rest).map n0⟩).f1) := by
 intro rest
 induction rest with
 | nil =>
  intro done acc a h ha hc
  have hd : ns.length = done.length := by rw [h]; simp
  refine EvS ?_; simp only [impl_give.l2]
  refine Ev.neg (by rw [List.length_map]; omega) (Ev.bind (flat_is _ (by rw [List.length_map]; omega)) (Ev.val ?_))
  rw [flat_cA, psm, List.append_nil]
 | cons x rest ih =>
  intro done acc a h ha hc
  have hx : x < 10007 := hns x (by rw [h]; simp)
  have hlen : done.length < ns.length := by rw [h]; simp
  have hat : ns[done.length] = x := by simp [h]
  have hnext := ih (done ++ [x]) (acc ++ [a]) ((a + x) % 10007) (by rw [h]; simp) (Nat.mod_lt _ (by omega)) (by simp [hc])
  rw [List.append_assoc, List.length_append, ints, List.map_append] at hnext
  refine EvS ?_; simp only [impl_give.l2]
  refine Ev.pos (by rw [List.length_map]; omega) (eO (Ev.pos (by rw [List.length_map]; omega) (Ev.pos (by rw [List.length_map]; omega) ?_)))
  rw [rdNs_at hlen, hat, wrapS (a := (a : Int) + (x : Int)) (by omega) (by omega), wrapS (by omega) (by omega), show (a : Int) + (x : Int) = ((a + x : Nat) : Int) by omega, tmodM _]
  exact hnext
theorem gl1 {d : Nat} (vs : List Tr) (hl : vs.length ≤ 1000000) (hf : ((vs.map (·.parts)).flatten).length ≤ 1000000) : ∀ (n i : Nat), vs.length - i = n → i ≤ vs.length →
 Ev (fun k => impl_give.l1 k (vs.map (cA (d + 1))) ((vs.map (cA (d + 1))).length : Int) (i : Int) 0 ((((vs.take i).map (·.parts)).flatten).map (cA d))) (0, (((vs.map (·.parts)).flatten).map (cA d))) := by
 intro n
 induction n with
 | zero =>
  intro i h hi
  refine EvS ?_; simp only [impl_give.l1]
  rw [List.take_of_length_le (by omega)]
  exact Ev.neg (by rw [List.length_map]; omega) (Ev.now _)
 | succ n ih =>
  intro i h hi
  have hlt : i < vs.length := by omega
  have hg : rd_T70 (vs.map (cA (d + 1))) (i : Int) = cA (d + 1) vs[i] := getD_map _ _ _ _ hlt
  have hnext := ih (i + 1) (by omega) (by omega)
  have hsn : ((vs.take (i + 1)).map (·.parts)).flatten = ((vs.take i).map (·.parts)).flatten ++ vs[i].parts := by
   rw [take_snoc _ _ hlt, List.map_append, List.flatten_append]
   simp
  have hle : (((vs.take (i + 1)).map (·.parts)).flatten).length ≤ ((vs.map (·.parts)).flatten).length := by
   conv => rhs; rw [← List.take_append_drop (i + 1) vs, List.map_append, List.flatten_append, List.length_append]
   exact Nat.le_add_right _ _
  rw [hsn, List.length_append] at hle
  rw [hsn, List.map_append] at hnext
  refine EvS ?_; simp only [impl_give.l1]
  refine Ev.pos (by rw [List.length_map]; omega) (eO (Ev.pos (by rw [List.length_map]; omega) ?_))
  rw [hg, wrapS (by omega) (by omega)]
  refine Ev.pos ?_ hnext
  show ((((vs.take i).map (·.parts)).flatten).map (cA d)).length + (vs[i].parts.map (cA d)).length < _
  rw [List.length_map, List.length_map]
  omega
theorem tlne {c d : UInt8} (h : c ≠ d) : ¬ (BA [c]).toList = ([d] : List UInt8) := by
 rw [tl_one]
 simpa using h
abbrev giveE (c : UInt8) (xs : List NA) (r : Int × List NA) : Prop := Ev (fun k => impl_give.f k (BA [c]) xs) r
theorem giveS (t : Tr) (h : ∀ x ∈ vals t, x < 10007) (hl : t.parts.length ≤ 1000000) : giveE 83 [cA 1 t] (((vals t).sum % 10007 : Nat), []) := by
 unfold giveE impl_give.f
 refine eP (Ev.pos (tl_one _) (Ev.bind (list_is (cA 1 t).f1 (by show (t.parts.map (cA 0)).length ≤ _; rw [List.length_map]; omega) _) (Ev.bind ?_ (Ev.now _))))
 rw [cA_vals]
 exact sumA_is _ h (by rw [List.length_map]; exact hl)
theorem giveM (t : Tr) (hl : t.parts.length ≤ 1000000) : giveE 77 [cA 1 t] (((vals t).foldl max 0 : Nat), []) := by
 unfold giveE impl_give.f
 refine eP (Ev.neg (tlne (by decide)) (Ev.pos (tl_one _) (Ev.bind (list_is (cA 1 t).f1 (by show (t.parts.map (cA 0)).length ≤ _; rw [List.length_map]; omega) _) ?_)))
 rw [cA_vals]
 exact Ev.call (mostA_is _ (by rw [List.length_map]; exact hl)) (Ev.now _)
theorem giveI (v : Nat) : giveE 73 [cA 0 (n0 v)] (0, (cA 1 ⟨0, (List.range (min v 12)).map n0⟩).f1) := by
 unfold giveE impl_give.f
 refine eP (Ev.neg (tlne (by decide)) (Ev.neg (tlne (by decide)) (Ev.pos (tl_one _) ?_)))
 have e : mn ((rd_T70 [cA 0 (n0 v)] 0).f0) 12 = ((min v 12 : Nat) : Int) := by
  show mn (v : Int) 12 = _
  unfold mn
  split <;> omega
 rw [e]
 exact gl0 _ (by omega) _ 0 rfl (Nat.zero_le _)
theorem giveN (d : Nat) (t : Tr) : giveE 78 [cA (d + 1) t] (((t.parts.length % 10007 : Nat) : Int), []) := by
 unfold giveE impl_give.f
 refine eP (Ev.neg (tlne (by decide)) (Ev.neg (tlne (by decide)) (Ev.neg (tlne (by decide)) (Ev.pos (tl_one _) (Ev.val ?_)))))
 show (((t.parts.map (cA d)).length : Int) % 10007, _) = _
 rw [List.length_map]
 rfl
theorem giveR (d : Nat) (t : Tr) (hl : t.parts.length ≤ 1000000) : giveE 82 [cA (d + 1) t] (0, (cA (d + 1) ⟨0, t.parts.reverse⟩).f1) := by
 unfold giveE impl_give.f
 refine eP (Ev.neg (tlne (by decide)) (Ev.neg (tlne (by decide)) (Ev.neg (tlne (by decide)) (Ev.neg (tlne (by decide)) (Ev.pos (tl_one _) (Ev.call (a := t.parts.map (cA d)) ?_ (Ev.val ?_)))))))
 · show slices_Clone_arr.f (t.parts.map (cA d)) = _
   unfold slices_Clone_arr.f
   rw [if_pos (by rw [List.length_map]; omega)]
 · show (0, (t.parts.map (cA d)).reverse) = (0, t.parts.reverse.map (cA d))
   rw [List.map_reverse]
theorem giveC (d : Nat) (t : Tr) (hl : t.parts.length ≤ 1000000) (hf : ((t.parts.map (·.parts)).flatten).length ≤ 1000000) : giveE 67 [cA (d + 2) t] (0, (cA (d + 1) ⟨0, (t.parts.map (·.parts)).flatten⟩).f1) := by
 unfold giveE impl_give.f
 refine eP (Ev.neg (tlne (by decide)) (Ev.neg (tlne (by decide)) (Ev.neg (tlne (by decide)) (Ev.neg (tlne (by decide)) (Ev.neg (tlne (by decide)) (Ev.pos (tl_one _) ?_))))))
 exact gl1 (d := d) t.parts hl hf _ 0 rfl (Nat.zero_le _)
theorem giveP (t : Tr) (h : ∀ x ∈ vals t, x < 10007) (hl : t.parts.length ≤ 1000000) : giveE 80 [cA 1 t] (0, (cA 1 ⟨0, (psm 0 (vals t)).map n0⟩).f1) := by
 unfold giveE impl_give.f
 refine eP (Ev.neg (tlne (by decide)) (Ev.neg (tlne (by decide)) (Ev.neg (tlne (by decide)) (Ev.neg (tlne (by decide)) (Ev.neg (tlne (by decide)) (Ev.neg (tlne (by decide)) (Ev.pos (tl_one _) (Ev.bind (list_is (cA 1 t).f1 (by show (t.parts.map (cA 0)).length ≤ _; rw [List.length_map]; omega) _) ?_))))))))
 rw [cA_vals]
 have := gl2 (vals t) h (by rw [List.length_map]; exact hl) (vals t) [] [] 0 rfl (by omega) rfl
 exact this
def op2 (c : UInt8) (a b : Nat) : Nat := if c = 43 then (a + b) % 10007 else if c = 42 then a * b % 10007 else if c = 94 then max a b else if c = 45 then a - b else if c = 61 then (if a = b then 1 else 0) else (if a < b then 1 else 0)
theorem give2 (c : UInt8) (a b : Nat) (x y : NA) (hx : x.f0 = a) (hy : y.f0 = b) (ha : a < 10007) (hb : b < 10007) (hc : c = 43 ∨ c = 42 ∨ c = 94 ∨ c = 45 ∨ c = 61 ∨ c = 60) : giveE c [x, y] ((op2 c a b : Nat), []) := by
 have e0 : (rd_T70 [x, y] 0).f0 = (a : Int) := hx
 have e1 : (rd_T70 [x, y] 1).f0 = (b : Int) := hy
 have hab : (a : Int) * (b : Int) ≤ 100140049 := by
  have := Nat.mul_le_mul (Nat.le_of_lt_succ (Nat.lt_succ_of_lt ha)) (Nat.le_of_lt_succ (Nat.lt_succ_of_lt hb))
  have e : (a : Int) * (b : Int) = ((a * b : Nat) : Int) := by push_cast; rfl
  omega
 have hab0 : 0 ≤ (a : Int) * (b : Int) := Int.mul_nonneg (by omega) (by omega)
 unfold giveE impl_give.f
 rw [e0, e1]
 refine eP ?_
 have hne : ∀ z : UInt8, z = 83 ∨ z = 77 ∨ z = 73 ∨ z = 78 ∨ z = 82 ∨ z = 67 ∨ z = 80 → c ≠ z := by
  rintro z hz rfl
  rcases hc with rfl | rfl | rfl | rfl | rfl | rfl <;> simp at hz
 refine Ev.neg (tlne (hne _ (by simp))) (Ev.neg (tlne (hne _ (by simp))) (Ev.neg (tlne (hne _ (by simp))) (Ev.neg (tlne (hne _ (by simp))) (Ev.neg (tlne (hne _ (by simp))) (Ev.neg (tlne (hne _ (by simp))) (Ev.neg (tlne (hne _ (by simp))) (eP ?_)))))))
 rcases hc with rfl | rfl | rfl | rfl | rfl | rfl
 · refine Ev.pos (tl_one _) (Ev.val ?_)
   rw [wrapS (by omega) (by omega), show (a : Int) + (b : Int) = ((a + b : Nat) : Int) by omega, tmodM _]
   rfl
 · refine Ev.neg (tlne (by decide)) (Ev.pos (tl_one _) (Ev.val ?_))
   rw [wrapS (by omega) (by omega), show (a : Int) * (b : Int) = ((a * b : Nat) : Int) by push_cast; rfl, tmodM _]
   rfl
 · refine Ev.neg (tlne (by decide)) (Ev.neg (tlne (by decide)) (Ev.pos (tl_one _) (Ev.val ?_)))
   show (mx (a : Int) (b : Int), _) = (((max a b : Nat) : Int), _)
   congr 1
   unfold mx
   split <;> omega
 · refine Ev.neg (tlne (by decide)) (Ev.neg (tlne (by decide)) (Ev.neg (tlne (by decide)) (Ev.pos (tl_one _) (Ev.val ?_))))
   show (mx 0 (wrap64 ((a : Int) - (b : Int))), _) = (((a - b : Nat) : Int), _)
   rw [wrapS (by omega) (by omega)]
   congr 1
   unfold mx
   split <;> omega
 · refine Ev.neg (tlne (by decide)) (Ev.neg (tlne (by decide)) (Ev.neg (tlne (by decide)) (Ev.neg (tlne (by decide)) (Ev.pos (tl_one _) ?_))))
   by_cases h : a = b
   · refine Ev.call (a := (1, [])) (by subst h; simp [impl_give_3.f]) (Ev.val ?_)
     simp [op2, h]
   · refine Ev.call (a := (0, [])) (by simp [impl_give_3.f, h]; omega) (Ev.val ?_)
     simp [op2, h]
 · refine Ev.neg (tlne (by decide)) (Ev.neg (tlne (by decide)) (Ev.neg (tlne (by decide)) (Ev.neg (tlne (by decide)) (Ev.neg (tlne (by decide)) (Ev.pos (tl_one _) ?_)))))
   by_cases h : a < b
   · refine Ev.call (a := (1, [])) (by simp [impl_give_3.f, h]) (Ev.val ?_)
     simp [op2, h]
   · refine Ev.call (a := (0, [])) (by simp [impl_give_3.f, h]) (Ev.val ?_)
     simp [op2, h]
def pickN (t : Tr) (i : Nat) : Nat := (t.parts.map (·.n)).getD i 0
theorem giveAt (t : Tr) (v : Nat) (u : Tr) : giveE 64 [cA 1 t, cA 0 (n0 v)] (((pickN t v : Nat) : Int), []) := by
 have e1 : (rd_T70 [cA 1 t, cA 0 (n0 v)] 1).f0 = (v : Int) := rfl
 have e0 : (rd_T70 [cA 1 t, cA 0 (n0 v)] 0).f1 = t.parts.map (cA 0) := rfl
 unfold giveE impl_give.f
 rw [e0, e1]
 refine eP (Ev.neg (tlne (by decide)) (Ev.neg (tlne (by decide)) (Ev.neg (tlne (by decide)) (Ev.neg (tlne (by decide)) (Ev.neg (tlne (by decide)) (Ev.neg (tlne (by decide)) (Ev.neg (tlne (by decide)) (eP ?_))))))))
 refine Ev.neg (tlne (by decide)) (Ev.neg (tlne (by decide)) (Ev.neg (tlne (by decide)) (Ev.neg (tlne (by decide)) (Ev.neg (tlne (by decide)) (Ev.neg (tlne (by decide)) ?_)))))
 by_cases h : v < t.parts.length
 · have hg : rd_T70 (t.parts.map (cA 0)) (v : Int) = cA 0 t.parts[v] := getD_map _ _ _ _ h
   refine Ev.pos (by rw [List.length_map]; omega) (eO (Ev.val ?_))
   rw [hg]
   simp [pickN, cA, List.getD_eq_getElem?_getD, h]
 · refine Ev.neg (by rw [List.length_map]; omega) (Ev.val ?_)
   simp [pickN, List.getD_eq_getElem?_getD, h]
theorem addS (a b : Nat) (ha : a ≤ 1000000000) (hb : b ≤ 1000000000) : spec_l3Add.f (a : Int) (b : Int) = some (((a + b) % 10007 : Nat) : Int) := by
 unfold spec_l3Add.f
 rw [wrapS (by omega) (by omega), show (a : Int) + (b : Int) = ((a + b : Nat) : Int) by omega, tmodM _]
theorem num2 (c : UInt8) (a b : Nat) (ha : a < 10007) (hb : b < 10007) (hc : c = 43 ∨ c = 42 ∨ c = 94 ∨ c = 45 ∨ c = 61 ∨ c = 60) : spec_l6Number.f (c.toNat : Int) (a : Int) (b : Int) = some ((op2 c a b : Nat) : Int) := by
 have hab : (a : Int) * (b : Int) ≤ 100140049 := by
  have := Nat.mul_le_mul (Nat.le_of_lt_succ (Nat.lt_succ_of_lt ha)) (Nat.le_of_lt_succ (Nat.lt_succ_of_lt hb))
  have e : (a : Int) * (b : Int) = ((a * b : Nat) : Int) := by push_cast; rfl
  omega
 have hab0 : 0 ≤ (a : Int) * (b : Int) := Int.mul_nonneg (by omega) (by omega)
 unfold spec_l6Number.f
 rcases hc with rfl | rfl | rfl | rfl | rfl | rfl
 · rw [if_pos (by decide), addS a b (by omega) (by omega)]
   rfl
 · rw [if_neg (by decide), if_pos (by decide), wrapS (by omega) (by omega), show (a : Int) * (b : Int) = ((a * b : Nat) : Int) by push_cast; rfl, tmodM _]
   rfl
 · rw [if_neg (by decide), if_neg (by decide), if_pos (by decide)]
   show some (mx (a : Int) (b : Int)) = some ((max a b : Nat) : Int)
   congr 1
   unfold mx
   split <;> omega
 · rw [if_neg (by decide), if_neg (by decide), if_neg (by decide), if_pos (by decide)]
   show some (mx (wrap64 ((a : Int) - (b : Int))) 0) = some ((a - b : Nat) : Int)
   rw [wrapS (by omega) (by omega)]
   congr 1
   unfold mx
   split <;> omega
 · rw [if_neg (by decide), if_neg (by decide), if_neg (by decide), if_neg (by decide), if_pos (by decide)]
   by_cases h : a = b
   · subst h
     simp [spec_l6Truth.f, op2]
   · have : ((a : Int) == (b : Int)) = false := by simpa using fun e : (a : Int) = b => h (by omega)
     simp [spec_l6Truth.f, op2, this, h]
 · rw [if_neg (by decide), if_neg (by decide), if_neg (by decide), if_neg (by decide), if_neg (by decide)]
   by_cases h : a < b
   · simp [spec_l6Truth.f, op2, h]
   · simp [spec_l6Truth.f, op2, h]


theorem shortA_is (d : Nat) (hd : d ≤ 1000) (t : Tr) (hs : Sh d t) (hn : nodes d t ≤ 1000000000) : Ev (fun k => impl_arr_short.f k (cA d t).f0 (cA d t).f1 (d : Int)) (told (text d t)) := by
 unfold impl_arr_short.f told
 refine Ev.bind (textA_is d hd t hs hn) ?_
 by_cases h : (text d t).length ≤ 400
 · rw [if_pos h]
   exact Ev.neg (by rw [BA_size]; omega) (Ev.now _)
 · rw [if_neg h]
   exact Ev.pos (by rw [BA_size]; omega) (Ev.now _)
theorem sumRev : ∀ (l : List Nat), l.reverse.sum = l.sum
 | [] => rfl
 | x :: l => by rw [List.reverse_cons, List.sum_append, sumRev l, List.sum_cons]; simp; omega
theorem sumOnes : ∀ (l : List Nat), ((l.map n0).map (nodes 0)).sum = l.length
 | [] => rfl
 | x :: l => by
  have := sumOnes l
  rw [List.map_cons, List.map_cons, List.sum_cons, this, List.length_cons]
  show 1 + _ = _
  omega
theorem nodesFl (d : Nat) : ∀ (vs : List Tr), (((vs.map (·.parts)).flatten).map (nodes d)).sum ≤ (vs.map (nodes (d + 1))).sum
 | [] => Nat.le_refl _
 | x :: vs => by
  have := nodesFl d vs
  rw [List.map_cons, List.flatten_cons, List.map_append, List.sum_append, List.map_cons, List.sum_cons]
  have e : nodes (d + 1) x = 1 + (x.parts.map (nodes d)).sum := rfl
  omega
theorem vals_lt {t : Tr} (h : Ok 1 t) : ∀ x ∈ vals t, x < 10007 := by
 intro x hx
 obtain ⟨y, hy, rfl⟩ := List.mem_map.1 hx
 exact (h.2 y hy).1
theorem sg1_mem {c : UInt8} {d : Int} (h : ¬ sg1 c d < 0) : c ∈ ([83, 77, 73, 78, 82, 67, 80] : By) := by
 unfold sg1 at h
 by_cases h1 : c = 83
 · simp [h1]
 by_cases h2 : c = 77
 · simp [h2]
 by_cases h3 : c = 78
 · simp [h3]
 by_cases h4 : c = 73
 · simp [h4]
 by_cases h5 : c = 80
 · simp [h5]
 by_cases h6 : c = 82
 · simp [h6]
 by_cases h7 : c = 67
 · simp [h7]
 simp [h1, h2, h3, h4, h5, h6, h7] at h
theorem op2_lt (c : UInt8) (a b : Nat) (ha : a < 10007) (hb : b < 10007) : op2 c a b < 10007 := by
 unfold op2
 split
 · exact Nat.mod_lt _ (by omega)
 split
 · exact Nat.mod_lt _ (by omega)
 split
 · omega
 split
 · omega
 split
 · split <;> omega
 · split <;> omega
theorem pick_lt {t : Tr} (h : Ok 1 t) (i : Nat) : pickN t i < 10007 := by
 unfold pickN
 rw [List.getD_eq_getElem?_getD]
 cases hi : (t.parts.map (·.n))[i]? with
 | none => show 0 < _; omega
 | some v => exact vals_lt h v (List.mem_of_getElem? hi)
def rdZ (dp : Int) (l : By) : Option Tr := if 0 ≤ dp ∧ dp ≤ 3 then readD dp.toNat l else none
theorem rdZ_nat {d : Nat} (hd : d ≤ 3) (l : By) : rdZ (d : Int) l = readD d l := by
 unfold rdZ
 rw [if_pos (by omega), Int.toNat_natCast]
theorem arrZ_none {dp : Int} {l : By} (h : rdZ dp l = none) : ∃ f0 f1, Ev (fun k => impl_arrOf.f k (BA l) dp) (f0, f1, false) := by
 by_cases hd : 0 ≤ dp ∧ dp ≤ 3
 · obtain ⟨d, rfl⟩ : ∃ d : Nat, dp = (d : Int) := ⟨dp.toNat, by omega⟩
   rw [rdZ_nat (by omega)] at h
   obtain ⟨t, h1, _⟩ := arrOf_is d (by omega) l
   rw [h] at h1
   exact ⟨_, _, h1⟩
 · exact ⟨_, _, arrOf_out dp (by omega) _⟩
theorem rdZ_some {dp : Int} {l : By} {t : Tr} (h : rdZ dp l = some t) : ∃ d : Nat, dp = (d : Int) ∧ d ≤ 3 ∧ readD d l = some t := by
 unfold rdZ at h
 split at h
 · next hd => exact ⟨dp.toNat, by omega, by omega, h⟩
 · cases h
theorem arrZ {d : Nat} (hd : d ≤ 3) {l : By} {t : Tr} (h : readD d l = some t) : Ev (fun k => impl_arrOf.f k (BA l) (d : Int)) ((cA d t).f0, (cA d t).f1, true) := by
 obtain ⟨t', h1, _, _, h2⟩ := arrOf_is d hd l
 obtain rfl := h2 t h
 rw [h] at h1
 exact h1
abbrev bad : ByteArray × Bool := (BA [], false)
def endA (s : By) (x8 : List NA) (x9 : List Int) (k : Nat) : Option (ByteArray × Bool) := (impl_signDepth.f k (BA s) x9).bind fun g => (if ((BA s).size : Int) = 1 then (impl_ApplySign.j1 k (BA s) x8 g (decide (g < 0))) else (impl_ApplySign.j1 k (BA s) x8 g true))
theorem sd1_ev (c : UInt8) (d : Nat) (hd : d ≤ 3) : Ev (fun k => impl_signDepth.f k (BA [c]) [(d : Int)]) (sg1 c (d : Int)) := Ev.of (fun k => impl_signDepth.mono _ _ k) (sd_one c d hd)
theorem sd2_ev (c : UInt8) (d : Nat) (hd : d ≤ 3) : Ev (fun k => impl_signDepth.f k (BA [c]) [(d : Int), 0]) (sg2 c (d : Int)) := Ev.of (fun k => impl_signDepth.mono _ _ k) (sd_two c d hd)
theorem one_ev (c : UInt8) (d : Nat) (hd : d ≤ 3) : Ev (fun k => spec_l5One.f k (c.toNat : Int) (d : Int)) (sg1 c (d : Int)) := Ev.of (fun k => spec_l5One.mono _ _ k) (one_is c d hd)
theorem bt_c (c : UInt8) : bt (BA [c]) 0 = (c.toNat : Int) := bt_BA _ _
theorem w1 : wrap64 (0 + 1) = 1 := by rw [wrapS (by omega) (by omega)]; rfl
theorem w2 : wrap64 (1 + 1) = 2 := by rw [wrapS (by omega) (by omega)]; rfl
theorem implOne (c : UInt8) (dp : Int) (l : By) {r : ByteArray × Bool} (h0 : rdZ dp l = none → r = bad) (h1 : ∀ (d : Nat) t, dp = (d : Int) → d ≤ 3 → readD d l = some t → Ev (endA [c] [cA d t] [(d : Int)]) r) : Ev (fun k => impl_ApplySign.f k (BA [c]) [BA l] dp) r := by
 unfold impl_ApplySign.f
 refine EvS ?_; simp only [impl_ApplySign.l0]
 refine eP (eO (eP (eM ?_)))
 show Ev (fun k => (impl_arrOf.f k (BA l) dp).bind _) r
 cases h : rdZ dp l with
 | none =>
  obtain ⟨f0, f1, hf⟩ := arrZ_none h
  rw [h0 h]
  exact Ev.bind hf (eN (Ev.now _))
 | some t =>
  obtain ⟨d, rfl, hd, hr⟩ := rdZ_some h
  refine Ev.bind (arrZ hd hr) (Ev.pos rfl (eP (eP ?_)))
  rw [mkA, w1]
  refine EvS ?_; simp only [impl_ApplySign.l0]
  exact eN (h1 d t rfl hd hr)
theorem implTwo (c : UInt8) (dp : Int) (l l2 : By) {r : ByteArray × Bool} (h0 : rdZ dp l = none ∨ readD 0 l2 = none → r = bad) (h1 : ∀ (d : Nat) t t2, dp = (d : Int) → d ≤ 3 → readD d l = some t → readD 0 l2 = some t2 → Ev (endA [c] [cA d t, cA 0 t2] [(d : Int), 0]) r) : Ev (fun k => impl_ApplySign.f k (BA [c]) [BA l, BA l2] dp) r := by
 unfold impl_ApplySign.f
 refine EvS ?_; simp only [impl_ApplySign.l0]
 refine eP (eO (eP (eM ?_)))
 show Ev (fun k => (impl_arrOf.f k (BA l) dp).bind _) r
 cases h : rdZ dp l with
 | none =>
  obtain ⟨f0, f1, hf⟩ := arrZ_none h
  rw [h0 (.inl h)]
  exact Ev.bind hf (eN (Ev.now _))
 | some t =>
  obtain ⟨d, rfl, hd, hr⟩ := rdZ_some h
  refine Ev.bind (arrZ hd hr) (Ev.pos rfl (eP (eP ?_)))
  rw [mkA, w1]
  refine EvS ?_; simp only [impl_ApplySign.l0]
  refine eP (Ev.pos (by decide) (eP (Ev.pos (by decide) ?_)))
  show Ev (fun k => (impl_arrOf.f k (BA l2) ((0 : Nat) : Int)).bind _) r
  cases h2 : readD 0 l2 with
  | none =>
   obtain ⟨f0, f1, hf⟩ := arrZ_none (dp := ((0 : Nat) : Int)) (l := l2) (by rw [rdZ_nat (by omega)]; exact h2)
   rw [h0 (.inr h2)]
   exact Ev.bind hf (eN (Ev.now _))
  | some t2 =>
   refine Ev.bind (arrZ (by omega) h2) (Ev.pos rfl (eP (eP ?_)))
   rw [mkA, w2]
   refine EvS ?_; simp only [impl_ApplySign.l0]
   exact eN (h1 d t t2 rfl hd hr h2)
def layT : Nat → Tr → Nat → List (List Int) × List Int → List (List Int) × List Int
 | 0, t, _, s => (s.1, s.2 ++ [(t.n : Int)])
 | d + 1, t, j, s => t.parts.foldl (fun s x => layT d x (j + 1) s) (s.1.set j (s.1.getD j [] ++ [(t.parts.length : Int)]), s.2)
def Bd (B : Nat) (s : List (List Int) × List Int) : Prop := s.2.length ≤ B ∧ ∀ r ∈ s.1, r.length ≤ B
theorem getD_bd {B : Nat} {L : List (List Int)} (h : ∀ r ∈ L, r.length ≤ B) (j : Nat) : (L.getD j []).length ≤ B := by
 rw [List.getD_eq_getElem?_getD]
 by_cases hj : j < L.length
 · rw [List.getElem?_eq_getElem hj]
   exact h _ (List.getElem_mem hj)
 · rw [List.getElem?_eq_none (by omega)]
   exact Nat.zero_le _
theorem set_bd {B : Nat} {L : List (List Int)} {D : List Int} (h : Bd B (L, D)) (j : Nat) (x : Int) : Bd (B + 1) (L.set j (L.getD j [] ++ [x]), D) := by
 refine ⟨Nat.le_succ_of_le h.1, fun r hr => ?_⟩
 rcases List.mem_or_eq_of_mem_set hr with hr | rfl
 · exact Nat.le_succ_of_le (h.2 r hr)
 · have := getD_bd h.2 j
   rw [List.length_append]
   exact Nat.succ_le_succ this
theorem layT_bd : ∀ (d : Nat) (t : Tr) (j : Nat) (s : List (List Int) × List Int) (B : Nat), Bd B s → (layT d t j s).1.length = s.1.length ∧ Bd (B + nodes d t) (layT d t j s)
 | 0, t, j, s, B, h => by
  refine ⟨rfl, ?_, fun r hr => Nat.le_succ_of_le (h.2 r hr)⟩
  show (s.2 ++ [(t.n : Int)]).length ≤ B + 1
  rw [List.length_append]
  exact Nat.succ_le_succ h.1
 | d + 1, t, j, s, B, h => by
  have main : ∀ (xs : List Tr) (s : List (List Int) × List Int) (B : Nat), Bd B s → (xs.foldl (fun s x => layT d x (j + 1) s) s).1.length = s.1.length ∧ Bd (B + (xs.map (nodes d)).sum) (xs.foldl (fun s x => layT d x (j + 1) s) s) := by
   intro xs
   induction xs with
   | nil => intro s B h; exact ⟨rfl, h⟩
   | cons x xs ih =>
    intro s B h
    obtain ⟨h1, h2⟩ := layT_bd d x (j + 1) s B h
    obtain ⟨h3, h4⟩ := ih _ _ h2
    refine ⟨h3.trans h1, ?_⟩
    rw [List.map_cons, List.sum_cons, ← Nat.add_assoc]
    exact h4
  obtain ⟨h1, h2⟩ := main t.parts _ (B + 1) (set_bd h j (t.parts.length : Int))
  refine ⟨h1.trans (List.length_set), ?_⟩
  show Bd (B + (1 + (t.parts.map (nodes d)).sum)) _
  rw [← Nat.add_assoc]
  exact h2
def LayA (d : Nat) : Prop := ∀ (t : Tr) (j : Nat) (L : List (List Int)) (D : List Int) (B : Nat), L.length = j + d → j + d ≤ 10 → Bd B (L, D) → B + nodes d t ≤ 1000000000 → Ev (fun k => lay.f k L D (cA d t).f0 (cA d t).f1 (j : Int)) (layT d t j (L, D))
theorem layA_l0 (d : Nat) (ih : LayA d) (j : Nat) (hj : j + 1 + d ≤ 10) (xs : List Tr) (hxs : xs.length ≤ 1000000000) : ∀ (n i : Nat) (L : List (List Int)) (D : List Int) (B : Nat), xs.length - i = n → i ≤ xs.length → L.length = j + 1 + d → Bd B (L, D) → B + ((xs.drop i).map (nodes d)).sum ≤ 1000000000 →
 Ev (fun k => lay.l0 k L D (xs.map (cA d)) (j : Int) ((xs.map (cA d)).length : Int) (i : Int)) ((xs.drop i).foldl (fun s x => layT d x (j + 1) s) (L, D)) := by
 intro n
 induction n with
 | zero =>
  intro i L D B h hi hL hb hn
  refine EvS ?_; simp only [lay.l0]
  refine Ev.neg (by rw [List.length_map]; omega) (Ev.val ?_)
  rw [List.drop_eq_nil_of_le (by omega)]
  rfl
 | succ n ihn =>
  intro i L D B h hi hL hb hn
  have hlt : i < xs.length := by omega
  have hg : rd_T70 (xs.map (cA d)) (i : Int) = cA d xs[i] := getD_map _ _ _ _ hlt
  rw [List.drop_eq_getElem_cons hlt] at hn ⊢
  rw [List.map_cons, List.sum_cons] at hn
  have hx := ih xs[i] (j + 1) L D B hL hj hb (by omega)
  obtain ⟨b1, b2⟩ := layT_bd d xs[i] (j + 1) (L, D) B hb
  have hnext := ihn (i + 1) (layT d xs[i] (j + 1) (L, D)).1 (layT d xs[i] (j + 1) (L, D)).2 _ (by omega) (by omega) (b1.trans hL) b2 (by omega)
  refine EvS ?_; simp only [lay.l0]
  refine Ev.pos (by rw [List.length_map]; omega) (eO (Ev.pos (by rw [List.length_map]; omega) ?_))
  rw [hg, wrapS (a := (j : Int) + 1) (by omega) (by omega), wrapS (a := (i : Int) + 1) (by omega) (by omega)]
  exact Ev.bind hx hnext
theorem layA_is : ∀ d, LayA d
 | 0 => by
  intro t j L D B hL hj hb hn
  have h1 : D.length ≤ B := hb.1
  have h2 : B + 1 ≤ 1000000000 := hn
  refine EvS ?_; simp only [lay.f]
  exact eO (eO (Ev.val rfl))
 | d + 1 => by
  intro t j L D B hL hj hb hn
  have hp := parts_len d t
  have hn2 : B + (1 + (t.parts.map (nodes d)).sum) ≤ 1000000000 := hn
  have hgl : (L.getD j []).length ≤ B := getD_bd hb.2 j
  have h0 := layA_l0 d (layA_is d) j (by omega) t.parts (by omega) _ 0 (L.set j (L.getD j [] ++ [(t.parts.length : Int)])) D (B + 1) rfl (Nat.zero_le _) (by rw [List.length_set]; omega) (set_bd hb j _) (by rw [List.drop_zero]; omega)
  rw [List.drop_zero] at h0
  refine EvS ?_; simp only [lay.f]
  refine eM (eO (eO ?_))
  rw [Int.toNat_natCast]
  refine eO ?_
  have e : ((cA (d + 1) t).f1.length : Int) = (t.parts.length : Int) := by
   show ((t.parts.map (cA d)).length : Int) = _
   rw [List.length_map]
  rw [e]
  rw [List.length_map] at h0
  exact h0
theorem rep_bd (d : Nat) : Bd 0 (List.replicate d ([] : List Int), ([] : List Int)) := ⟨Nat.le_refl _, fun r hr => by rw [List.eq_of_mem_replicate hr]; exact Nat.le_refl _⟩
def plen (t : Tr) : Nat := t.parts.length
def prts (ts : List Tr) : List Tr := (ts.map Tr.parts).flatten
def lvl : Nat → List Tr → List (List Nat)
 | 0, _ => []
 | d + 1, ts => ts.map plen :: lvl d (prts ts)
def gen : Nat → List Tr → List Tr
 | 0, ts => ts
 | i + 1, ts => gen i (prts ts)
def datN (d : Nat) (ts : List Tr) : List Nat := (gen d ts).map Tr.n
theorem prts_app (a b : List Tr) : prts (a ++ b) = prts a ++ prts b := by simp [prts]
theorem prts_one (t : Tr) : prts [t] = t.parts := by simp [prts]
theorem gen_app : ∀ (i : Nat) (a b : List Tr), gen i (a ++ b) = gen i a ++ gen i b
 | 0, a, b => rfl
 | i + 1, a, b => by show gen i (prts (a ++ b)) = _; rw [prts_app, gen_app i]; rfl
theorem gen_succ : ∀ (i : Nat) (ts : List Tr), gen (i + 1) ts = prts (gen i ts)
 | 0, ts => rfl
 | i + 1, ts => by show gen (i + 1) (prts ts) = _; rw [gen_succ i]; rfl
theorem lvl_len : ∀ (d : Nat) (ts : List Tr), (lvl d ts).length = d
 | 0, _ => rfl
 | d + 1, ts => by show (lvl d (prts ts)).length + 1 = _; rw [lvl_len d]
theorem lvl_get : ∀ (d i : Nat) (ts : List Tr), i < d → (lvl d ts)[i]? = some ((gen i ts).map plen)
 | 0, i, ts, h => absurd h (Nat.not_lt_zero _)
 | d + 1, 0, ts, _ => rfl
 | d + 1, i + 1, ts, h => by
  show (lvl d (prts ts))[i]? = some ((gen i (prts ts)).map plen)
  exact lvl_get d i _ (by omega)
abbrev zap (A B : List (List Int)) : List (List Int) := List.zipWith (· ++ ·) A B
theorem zap_nil : ∀ (A : List (List Int)), zap A (List.replicate A.length []) = A
 | [] => rfl
 | x :: A => by
  show (x ++ []) :: zap A (List.replicate A.length []) = _
  rw [zap_nil A, List.append_nil]
theorem nil_zap : ∀ (A : List (List Int)), zap (List.replicate A.length []) A = A
 | [] => rfl
 | x :: A => by
  show ([] ++ x) :: zap (List.replicate A.length []) A = _
  rw [nil_zap A, List.nil_append]
theorem zap_assoc : ∀ (A B C : List (List Int)), zap (zap A B) C = zap A (zap B C)
 | [], _, _ => by simp [zap]
 | _ :: _, [], _ => by simp [zap]
 | _ :: _, _ :: _, [] => by simp [zap]
 | a :: A, b :: B, c :: C => by
  show (a ++ b ++ c) :: zap (zap A B) C = (a ++ (b ++ c)) :: zap A (zap B C)
  rw [zap_assoc A B C, List.append_assoc]
theorem lvl_app : ∀ (d : Nat) (a b : List Tr), (lvl d (a ++ b)).map ints = zap ((lvl d a).map ints) ((lvl d b).map ints)
 | 0, _, _ => rfl
 | d + 1, a, b => by
  show ints ((a ++ b).map plen) :: (lvl d (prts (a ++ b))).map ints = (ints (a.map plen) ++ ints (b.map plen)) :: zap ((lvl d (prts a)).map ints) ((lvl d (prts b)).map ints)
  rw [prts_app, lvl_app d, List.map_append]
  simp
theorem lvl_none : ∀ (d : Nat), lvl d [] = List.replicate d []
 | 0 => rfl
 | d + 1 => by show [] :: lvl d [] = _; rw [lvl_none d]; rfl
theorem zap_len (A B : List (List Int)) (h : A.length = B.length) : (zap A B).length = A.length := by simp [zap, h]
def LayL (d : Nat) : Prop := ∀ (ts : List Tr) (j : Nat) (S : List (List Int)) (D : List Int), S.length = j + d → ts.foldl (fun s x => layT d x j s) (S, D) = (S.take j ++ zap (S.drop j) ((lvl d ts).map ints), D ++ ints (datN d ts))
theorem layL_of {d : Nat} (h1 : ∀ (t : Tr) (j : Nat) (S : List (List Int)) (D : List Int), S.length = j + d → layT d t j (S, D) = (S.take j ++ zap (S.drop j) ((lvl d [t]).map ints), D ++ ints (datN d [t]))) : LayL d := by
 intro ts
 induction ts with
 | nil =>
  intro j S D hS
  have hd : (S.drop j).length = d := by rw [List.length_drop]; omega
  show (S, D) = _
  rw [lvl_none, List.map_replicate]
  have : zap (S.drop j) (List.replicate d (ints [])) = S.drop j := by
   have := zap_nil (S.drop j)
   rw [hd] at this
   exact this
  rw [this, List.take_append_drop]
  have h0 : datN d [] = [] := by
   unfold datN
   have : gen d [] = [] := by
    clear h1 hS hd this
    induction d with
    | zero => rfl
    | succ d ih => exact ih
   rw [this]; rfl
  rw [h0]
  simp
 | cons t ts ih =>
  intro j S D hS
  have hd : (S.drop j).length = d := by rw [List.length_drop]; omega
  have hz : (zap (S.drop j) ((lvl d [t]).map ints)).length = d := by rw [zap_len _ _ (by rw [hd, List.length_map, lvl_len]), hd]
  have htk : (S.take j).length = j := by rw [List.length_take]; omega
  show ts.foldl _ (layT d t j (S, D)) = _
  rw [h1 t j S D hS, ih j _ _ (by rw [List.length_append, htk, hz])]
  rw [List.take_left' htk, List.drop_left' htk, zap_assoc]
  have e : t :: ts = [t] ++ ts := rfl
  rw [e, lvl_app]
  unfold datN
  rw [gen_app, List.map_append, List.append_assoc]
  simp
theorem layT_one : ∀ (d : Nat) (t : Tr) (j : Nat) (S : List (List Int)) (D : List Int), S.length = j + d → layT d t j (S, D) = (S.take j ++ zap (S.drop j) ((lvl d [t]).map ints), D ++ ints (datN d [t]))
 | 0, t, j, S, D, hS => by
  show (S, D ++ [(t.n : Int)]) = _
  rw [List.take_of_length_le (by omega), List.drop_eq_nil_of_le (by omega)]
  simp [zap, lvl, datN, gen]
 | d + 1, t, j, S, D, hS => by
  have hL := layL_of (layT_one d)
  have hj : j < S.length := by omega
  have hgd : S.getD j [] = S[j] := by rw [List.getD_eq_getElem?_getD, List.getElem?_eq_getElem hj]; rfl
  show t.parts.foldl (fun s x => layT d x (j + 1) s) (S.set j (S.getD j [] ++ [(t.parts.length : Int)]), D) = _
  rw [hL t.parts (j + 1) _ D (by rw [List.length_set]; omega), hgd]
  have e1 : (S.set j (S[j] ++ [(t.parts.length : Int)])).take (j + 1) = S.take j ++ [S[j] ++ [(t.parts.length : Int)]] := by
   rw [take_snoc _ _ (by rw [List.length_set]; exact hj), List.take_set, List.getElem_set_self, List.set_eq_of_length_le (by rw [List.length_take]; omega)]
  have e2 : (S.set j (S[j] ++ [(t.parts.length : Int)])).drop (j + 1) = S.drop (j + 1) := by
   rw [List.drop_set_of_lt (by omega)]
  have e3 : S.drop j = S[j] :: S.drop (j + 1) := List.drop_eq_getElem_cons hj
  rw [e1, e2, e3, List.append_assoc]
  have e4 : (lvl (d + 1) [t]).map ints = [(t.parts.length : Int)] :: (lvl d t.parts).map ints := by
   show ints [plen t] :: (lvl d (prts [t])).map ints = _
   rw [prts_one]
   rfl
  have e5 : datN (d + 1) [t] = datN d t.parts := by
   show (gen d (prts [t])).map Tr.n = _
   rw [prts_one]
   rfl
  rw [e4, e5]
  rfl
theorem prts_nodes (e : Nat) : ∀ ts : List Tr, ((prts ts).map (nodes e)).sum ≤ (ts.map (nodes (e + 1))).sum
 | [] => Nat.le_refl _
 | t :: ts => by
  have h := prts_nodes e ts
  have e1 : prts (t :: ts) = t.parts ++ prts ts := by simp [prts]
  rw [e1, List.map_append, List.sum_append, List.map_cons, List.sum_cons]
  show _ ≤ 1 + (t.parts.map (nodes e)).sum + _
  omega
theorem gen_nodes : ∀ (i e : Nat) (ts : List Tr), ((gen i ts).map (nodes e)).sum ≤ (ts.map (nodes (e + i))).sum
 | 0, e, ts => Nat.le_refl _
 | i + 1, e, ts => by
  have h1 := gen_nodes i e (prts ts)
  have h2 := prts_nodes (e + i) ts
  show ((gen i (prts ts)).map (nodes e)).sum ≤ _
  exact Nat.le_trans h1 h2
theorem gen_ok : ∀ (i e : Nat) (ts : List Tr), (∀ t ∈ ts, Ok (e + i) t) → ∀ t ∈ gen i ts, Ok e t
 | 0, e, ts, h => h
 | i + 1, e, ts, h => gen_ok i e (prts ts) (fun t ht => by
  obtain ⟨l, hl, htl⟩ := List.mem_flatten.1 ht
  obtain ⟨u, hu, rfl⟩ := List.mem_map.1 hl
  exact (h u hu).2 t htl)
theorem sum_cnt (f : Tr → Nat) (hf : ∀ t, 1 ≤ f t) : ∀ (ts : List Tr), ts.length ≤ (ts.map f).sum
 | [] => Nat.le_refl _
 | u :: ts => by
  have := sum_cnt f hf ts
  have := hf u
  rw [List.map_cons, List.sum_cons, List.length_cons]
  omega
theorem prts_cnt : ∀ (ts : List Tr), (prts ts).length = (ts.map plen).sum
 | [] => rfl
 | t :: ts => by
  have e1 : prts (t :: ts) = t.parts ++ prts ts := by simp [prts]
  rw [e1, List.length_append, prts_cnt ts, List.map_cons, List.sum_cons]
  rfl
section
variable {d N : Nat} {v : Tr} (hd : d ≤ 3) (hv : Ok d v) (hn : nodes d v ≤ N)
include hd hv hn
end
def sts : Nat → List Nat → List Nat
 | _, [] => []
 | a, n :: ns => a :: sts (a + n) ns
theorem sts_len : ∀ (ns : List Nat) (a : Nat), (sts a ns).length = ns.length
 | [], _ => rfl
 | n :: ns, a => by simp [sts, sts_len ns]
theorem sts_at : ∀ (ns : List Nat) (a i : Nat), i < ns.length → (sts a ns)[i]? = some (a + (ns.take i).sum)
 | [], _, i, h => by simp at h
 | n :: ns, a, 0, _ => by simp [sts]
 | n :: ns, a, i + 1, h => by
  simp only [sts, List.getElem?_cons_succ, List.take_succ_cons, List.sum_cons]
  rw [sts_at ns (a + n) i (by simpa using h)]
  congr 1
  omega
theorem sts_snoc : ∀ (ns : List Nat) (a n : Nat), sts a (ns ++ [n]) = sts a ns ++ [a + ns.sum]
 | [], a, n => by simp [sts]
 | m :: ns, a, n => by
  rw [List.cons_append, sts, sts_snoc ns, sts, List.sum_cons, List.cons_append, show a + m + ns.sum = a + (m + ns.sum) by omega]
theorem seg_at {α : Type} : ∀ (segs : List (List α)) (i : Nat) (s : List α), segs[i]? = some s → ((segs.flatten).take (((segs.map List.length).take i).sum + s.length)).drop ((segs.map List.length).take i).sum = s
 | [], i, s, h => by simp at h
 | t :: segs, 0, s, h => by
  obtain rfl : t = s := by simpa using h
  simp
 | t :: segs, i + 1, s, h => by
  have ih := seg_at segs i s (by simpa using h)
  simp only [List.flatten_cons, List.map_cons, List.take_succ_cons, List.sum_cons]
  rw [Nat.add_assoc, List.take_length_add_append, List.drop_length_add_append]
  exact ih
theorem seg_le {α : Type} : ∀ (segs : List (List α)) (i : Nat) (s : List α), segs[i]? = some s → ((segs.map List.length).take i).sum + s.length ≤ segs.flatten.length
 | [], i, s, h => by simp at h
 | t :: segs, 0, s, h => by
  obtain rfl : t = s := by simpa using h
  simp
 | t :: segs, i + 1, s, h => by
  have ih := seg_le segs i s (by simpa using h)
  simp only [List.flatten_cons, List.map_cons, List.take_succ_cons, List.sum_cons, List.length_append]
  omega
theorem seg_el {α : Type} : ∀ (segs : List (List α)) (i j : Nat) (s : List α) (x : α), segs[i]? = some s → s[j]? = some x → segs.flatten[((segs.map List.length).take i).sum + j]? = some x
 | [], i, j, s, x, h, _ => by simp at h
 | t :: segs, 0, j, s, x, h, hx => by
  obtain rfl : t = s := by simpa using h
  have hj := (List.getElem?_eq_some_iff.1 hx).1
  simp only [List.take_zero, List.sum_nil, Nat.zero_add, List.flatten_cons]
  rw [List.getElem?_append_left hj]
  exact hx
 | t :: segs, i + 1, j, s, x, h, hx => by
  have ih := seg_el segs i j s x (by simpa using h) hx
  simp only [List.flatten_cons, List.map_cons, List.take_succ_cons, List.sum_cons]
  rw [List.getElem?_append_right (by omega), show t.length + ((segs.map List.length).take i).sum + j - t.length = ((segs.map List.length).take i).sum + j by omega]
  exact ih
theorem plen_parts (ts : List Tr) : ts.map plen = (ts.map Tr.parts).map List.length := by simp [plen]
def picks {α : Type} (xs : List α) (at_ : List Nat) : List α := at_.filterMap fun i => xs[i]?
theorem picks_len {α : Type} (xs : List α) : ∀ (at_ : List Nat), (∀ i ∈ at_, i < xs.length) → (picks xs at_).length = at_.length
 | [], _ => rfl
 | i :: l, h => by
  have hi := h i List.mem_cons_self
  have ih := picks_len xs l (fun j hj => h j (List.mem_cons_of_mem _ hj))
  simp only [picks, List.filterMap_cons, List.getElem?_eq_getElem hi, List.length_cons] at ih ⊢
  rw [ih]
theorem picks_cons {α : Type} (xs : List α) (i : Nat) (l : List Nat) (hi : i < xs.length) : picks xs (i :: l) = xs[i] :: picks xs l := by
 simp [picks, List.getElem?_eq_getElem hi]
theorem picks_app {α : Type} (xs : List α) (a b : List Nat) : picks xs (a ++ b) = picks xs a ++ picks xs b := by simp [picks]
theorem picks_map {α β : Type} (f : α → β) (xs : List α) : ∀ (l : List Nat), (picks xs l).map f = picks (xs.map f) l
 | [] => rfl
 | i :: l => by
  have ih := picks_map f xs l
  simp only [picks, List.filterMap_cons, List.getElem?_map] at ih ⊢
  cases xs[i]? with
  | none => simpa using ih
  | some x => simp [ih]
def inIdx (ns : List Nat) (at_ : List Nat) : List Nat := (at_.map fun i => (List.range (ns.getD i 0)).map fun k => (ns.take i).sum + k).flatten
theorem range_picks {α : Type} (segs : List (List α)) (i : Nat) (s : List α) (h : segs[i]? = some s) : ∀ (m : Nat), m ≤ s.length → picks segs.flatten ((List.range m).map fun k => ((segs.map List.length).take i).sum + k) = s.take m
 | 0, _ => by simp [picks]
 | m + 1, hm => by
  have hx : s[m]? = some s[m] := List.getElem?_eq_getElem (by omega)
  have he := seg_el segs i m s s[m] h hx
  rw [List.range_succ, List.map_append, picks_app, range_picks segs i s h m (by omega), List.take_succ_eq_append_getElem (by omega)]
  simp only [List.map_cons, List.map_nil, picks, List.filterMap_cons, List.filterMap_nil, he]
theorem inIdx_picks (ts : List Tr) : ∀ (l : List Nat), (∀ i ∈ l, i < ts.length) → picks (prts ts) (inIdx (ts.map plen) l) = prts (picks ts l)
 | [], _ => rfl
 | i :: l, h => by
  have hi := h i List.mem_cons_self
  have ih := inIdx_picks ts l (fun j hj => h j (List.mem_cons_of_mem _ hj))
  have hs : (ts.map Tr.parts)[i]? = some (ts[i].parts) := by rw [List.getElem?_map, List.getElem?_eq_getElem hi]; rfl
  have hr := range_picks (ts.map Tr.parts) i ts[i].parts hs ts[i].parts.length (Nat.le_refl _)
  rw [List.take_length] at hr
  have hg : (ts.map plen).getD i 0 = ts[i].parts.length := by
   rw [List.getD_eq_getElem?_getD, List.getElem?_map, List.getElem?_eq_getElem hi]
   rfl
  have e : inIdx (ts.map plen) (i :: l) = ((List.range ts[i].parts.length).map fun k => ((ts.map plen).take i).sum + k) ++ inIdx (ts.map plen) l := by
   simp only [inIdx, List.map_cons, List.flatten_cons, hg]
  rw [e, picks_app, ih, picks_cons ts i l hi, show ts[i] :: picks ts l = [ts[i]] ++ picks ts l from rfl, prts_app, prts_one]
  congr 1
  rw [plen_parts]
  exact hr
theorem inIdx_lt (ts : List Tr) (l : List Nat) (h : ∀ i ∈ l, i < ts.length) : ∀ j ∈ inIdx (ts.map plen) l, j < (prts ts).length := by
 intro j hj
 simp only [inIdx, List.mem_flatten, List.mem_map, List.mem_range] at hj
 obtain ⟨_, ⟨i, hi, rfl⟩, hj⟩ := hj
 simp only [List.mem_map, List.mem_range] at hj
 obtain ⟨k, hk, rfl⟩ := hj
 have hil := h i hi
 have hs : (ts.map Tr.parts)[i]? = some (ts[i].parts) := by rw [List.getElem?_map, List.getElem?_eq_getElem hil]; rfl
 have hl := seg_le (ts.map Tr.parts) i ts[i].parts hs
 have hg : (ts.map plen).getD i 0 = ts[i].parts.length := by
  rw [List.getD_eq_getElem?_getD, List.getElem?_map, List.getElem?_eq_getElem hil]
  rfl
 rw [hg] at hk
 rw [plen_parts]
 show _ < (ts.map Tr.parts).flatten.length
 omega
def turnIdx (a : Nat) : List Nat → List Nat
 | [] => []
 | n :: ns => ((List.range n).map fun k => a + n - 1 - k) ++ turnIdx (a + n) ns
theorem rev_picks {α : Type} (xs : List α) (p : List α) (q : List α) : ∀ (m : Nat), m ≤ xs.length → picks (p ++ xs ++ q) ((List.range m).map fun k => p.length + xs.length - 1 - k) = xs.reverse.take m
 | 0, _ => by simp [picks]
 | m + 1, hm => by
  have hx : (p ++ xs ++ q)[p.length + xs.length - 1 - m]? = some xs[xs.length - 1 - m] := by
   rw [List.getElem?_append_left (by rw [List.length_append]; omega), List.getElem?_append_right (by omega), show p.length + xs.length - 1 - m - p.length = xs.length - 1 - m by omega]
   exact List.getElem?_eq_getElem (by omega)
  rw [List.range_succ, List.map_append, picks_app, rev_picks xs p q m (by omega), List.take_succ_eq_append_getElem (by rw [List.length_reverse]; omega), List.getElem_reverse]
  simp only [List.map_cons, List.map_nil, picks, List.filterMap_cons, List.filterMap_nil, hx]
theorem turn_picks (done : List Tr) : ∀ (ts : List Tr), picks (prts (done ++ ts)) (turnIdx (prts done).length (ts.map plen)) = prts (ts.map fun t => ⟨0, t.parts.reverse⟩)
 | [] => by simp [turnIdx, picks, prts]
 | t :: ts => by
  have ih := turn_picks (done ++ [t]) ts
  rw [List.append_assoc, List.singleton_append, prts_app done [t], prts_one, List.length_append] at ih
  have h0 := rev_picks t.parts (prts done) (prts ts) t.parts.length (Nat.le_refl _)
  have e : prts (done ++ t :: ts) = prts done ++ t.parts ++ prts ts := by
   rw [show done ++ t :: ts = done ++ ([t] ++ ts) from rfl, prts_app, prts_app, prts_one, List.append_assoc]
  rw [List.map_cons, turnIdx, picks_app]
  rw [e] at ih ⊢
  rw [show plen t = t.parts.length from rfl, h0, ih, List.take_of_length_le (by rw [List.length_reverse]; exact Nat.le_refl _), List.map_cons, show (⟨0, t.parts.reverse⟩ : Tr) :: (ts.map fun t => (⟨0, t.parts.reverse⟩ : Tr)) = [⟨0, t.parts.reverse⟩] ++ (ts.map fun t => (⟨0, t.parts.reverse⟩ : Tr)) from rfl, prts_app, prts_one]
theorem turn_lt : ∀ (ns : List Nat) (a : Nat), ∀ j ∈ turnIdx a ns, j < a + ns.sum
 | [], _, j, h => by simp [turnIdx] at h
 | n :: ns, a, j, h => by
  rw [turnIdx, List.mem_append] at h
  rw [List.sum_cons]
  rcases h with h | h
  · simp only [List.mem_map, List.mem_range] at h
    obtain ⟨k, hk, rfl⟩ := h
    omega
  · have := turn_lt ns (a + n) j h
    omega
theorem ok0' {v : Nat} (h : v < 10007) : Ok 0 (n0 v) := ⟨h, rfl⟩
def gv1 (c : UInt8) (t : Tr) : Tr :=
 if c = 83 then n0 ((vals t).sum % 10007) else if c = 77 then n0 ((vals t).foldl max 0) else if c = 73 then ⟨0, (List.range (min t.n 12)).map n0⟩ else if c = 78 then n0 (t.parts.length % 10007)
 else if c = 82 then ⟨0, t.parts.reverse⟩ else if c = 67 then ⟨0, (t.parts.map (·.parts)).flatten⟩ else ⟨0, (psm 0 (vals t)).map n0⟩
def gv2 (c : UInt8) (t u : Tr) : Tr := if c = 64 then n0 (pickN t u.n) else n0 (op2 c t.n u.n)
def eg (c : UInt8) (d : Nat) : Nat := (sg1 c (d : Int)).toNat
theorem sg_dep {c : UInt8} {d : Nat} (hg : ¬ sg1 c (d : Int) < 0) :
 ((c = 83 ∨ c = 77) ∧ d = 1 ∧ eg c d = 0) ∨ (c = 80 ∧ d = 1 ∧ eg c d = 1) ∨ (c = 73 ∧ d = 0 ∧ eg c d = 1) ∨ (c = 78 ∧ (∃ e, d = e + 1) ∧ eg c d = 0) ∨ (c = 82 ∧ (∃ e, d = e + 1) ∧ eg c d = d) ∨ (c = 67 ∧ ∃ e, d = e + 2 ∧ eg c d = e + 1) := by
 have hm := sg1_mem hg
 simp only [List.mem_cons, List.not_mem_nil, or_false] at hm
 have hd : d = 0 ∨ d = 1 ∨ ∃ e, d = e + 2 := by
  cases d with
  | zero => exact .inl rfl
  | succ d =>
   cases d with
   | zero => exact .inr (.inl rfl)
   | succ d => exact .inr (.inr ⟨d, rfl⟩)
 unfold eg
 rcases hm with rfl | rfl | rfl | rfl | rfl | rfl | rfl <;> rcases hd with rfl | rfl | ⟨e, rfl⟩ <;> simp [sg1] at hg ⊢ <;> omega
theorem gv1_is {c : UInt8} {d : Nat} {t : Tr} (hok : Ok d t) (hn : nodes d t ≤ 1000000) (hg : ¬ sg1 c (d : Int) < 0) :
 Ok (eg c d) (gv1 c t) ∧ nodes (eg c d) (gv1 c t) ≤ nodes d t + 13 ∧ giveE c [cA d t] ((cA (eg c d) (gv1 c t)).f0, (cA (eg c d) (gv1 c t)).f1) := by
 rcases sg_dep hg with ⟨hc, rfl, he⟩ | ⟨rfl, rfl, he⟩ | ⟨rfl, rfl, he⟩ | ⟨rfl, ⟨e, rfl⟩, he⟩ | ⟨rfl, ⟨e, rfl⟩, he⟩ | ⟨rfl, e, rfl, he⟩ <;> rw [he]
 · have hp : t.parts.length + 1 ≤ nodes 1 t := parts_len 0 t
   have hv : (vals t).sum % 10007 < 10007 := Nat.mod_lt _ (by omega)
   rcases hc with rfl | rfl
   · exact ⟨ok0' hv, by show 1 ≤ _; omega, giveS t (vals_lt hok) (by omega)⟩
   · exact ⟨ok0' (foldmax_lt _ _ (by omega) (vals_lt hok)), by show 1 ≤ _; omega, giveM t (by omega)⟩
 · have hp : t.parts.length + 1 ≤ nodes 1 t := parts_len 0 t
   refine ⟨⟨rfl, fun x hx => ?_⟩, ?_, giveP t (vals_lt hok) (by omega)⟩
   · obtain ⟨y, hy, rfl⟩ := List.mem_map.1 hx
     exact ok0' (psm_lt 0 _ (by omega) y hy)
   · show 1 + (((psm 0 (vals t)).map n0).map (nodes 0)).sum ≤ _
     rw [sumOnes, psm_len, List.length_map]
     omega
 · obtain ⟨v, ps⟩ := t
   obtain ⟨h1, h2⟩ := hok
   simp only at h1 h2
   subst h2
   refine ⟨⟨rfl, fun x hx => ?_⟩, ?_, giveI v⟩
   · obtain ⟨y, hy, rfl⟩ := List.mem_map.1 hx
     rw [List.mem_range] at hy
     exact ok0' (by omega)
   · show 1 + (((List.range (min v 12)).map n0).map (nodes 0)).sum ≤ _
     rw [sumOnes, List.length_range]
     omega
 · exact ⟨ok0' (Nat.mod_lt _ (by omega)), by show 1 ≤ _; omega, giveN e t⟩
 · have hp := parts_len e t
   refine ⟨⟨rfl, fun x hx => hok.2 x (List.mem_reverse.1 hx)⟩, ?_, giveR e t (by omega)⟩
   show 1 + (t.parts.reverse.map (nodes e)).sum ≤ _
   rw [List.map_reverse, sumRev]
   have : nodes (e + 1) t = 1 + (t.parts.map (nodes e)).sum := rfl
   omega
 · have hp : t.parts.length + 1 ≤ nodes (e + 2) t := parts_len (e + 1) t
   have hfl := nodesFl e t.parts
   have hnt : nodes (e + 2) t = 1 + (t.parts.map (nodes (e + 1))).sum := rfl
   have hnu : nodes (e + 1) ⟨0, (t.parts.map (·.parts)).flatten⟩ = 1 + (((t.parts.map (·.parts)).flatten).map (nodes e)).sum := rfl
   have hpu := parts_len e ⟨0, (t.parts.map (·.parts)).flatten⟩
   simp only at hpu
   refine ⟨⟨rfl, fun x hx => ?_⟩, by show nodes (e + 1) ⟨0, (t.parts.map (·.parts)).flatten⟩ ≤ _; omega, giveC e t (by omega) (by omega)⟩
   obtain ⟨q, hq, hxq⟩ := List.mem_flatten.1 hx
   obtain ⟨y, hy, rfl⟩ := List.mem_map.1 hq
   exact (hok.2 y hy).2 x hxq
theorem sg2_dep {c : UInt8} {d : Nat} (hg : ¬ sg2 c (d : Int) < 0) : ((c = 43 ∨ c = 42 ∨ c = 94 ∨ c = 45 ∨ c = 61 ∨ c = 60) ∧ d = 0) ∨ (c = 64 ∧ d = 1) := by
 unfold sg2 at hg
 split at hg
 · next h =>
   rcases h with ⟨h, hd⟩ | ⟨h, hd⟩
   · exact .inl ⟨h, by omega⟩
   · exact .inr ⟨h, by omega⟩
 · exact absurd (by decide) hg
theorem gv2_is {c : UInt8} {d : Nat} {t u : Tr} (hok : Ok d t) (hok2 : Ok 0 u) (hg : ¬ sg2 c (d : Int) < 0) :
 Ok 0 (gv2 c t u) ∧ giveE c [cA d t, cA 0 u] ((cA 0 (gv2 c t u)).f0, (cA 0 (gv2 c t u)).f1) := by
 obtain ⟨v2, ps2⟩ := u
 obtain ⟨q1, q2⟩ := hok2
 simp only at q1 q2
 subst q2
 rcases sg2_dep hg with ⟨hc, rfl⟩ | ⟨rfl, rfl⟩
 · have hne : c ≠ 64 := by rintro rfl; simp at hc
   have e : gv2 c t ⟨v2, []⟩ = n0 (op2 c t.n v2) := if_neg hne
   rw [e]
   exact ⟨ok0' (op2_lt c _ _ hok.1 q1), give2 c t.n v2 _ _ rfl rfl hok.1 q1 hc⟩
 · have e : gv2 64 t ⟨v2, []⟩ = n0 (pickN t v2) := rfl
   rw [e]
   exact ⟨ok0' (pick_lt hok v2), giveAt t v2 t⟩
theorem rdN_at {l : List Nat} {i : Nat} (h : i < l.length) : rd (ints l) (i : Int) = (l[i] : Int) := by
 rw [rd_at (by rw [List.length_map]; exact h), List.getElem_map]
theorem rdL_at {L : List (List Nat)} {i : Nat} {r : List Nat} (h : L[i]? = some r) : rd_L1 (L.map ints) (i : Int) = ints r := by
 show (L.map ints).getD i [] = _
 rw [List.getD_eq_getElem?_getD, List.getElem?_map, h]
 rfl
theorem total_l0 (xs : List Nat) (hs : xs.sum ≤ 1000000) (hl : xs.length ≤ 1000000) : ∀ (n i acc : Nat), xs.length - i = n → i ≤ xs.length → acc + (xs.drop i).sum = xs.sum → Ev (fun k => impl_total.l0 k (acc : Int) (ints xs) ((ints xs).length : Int) (i : Int)) ((xs.sum : Nat) : Int) := by
 intro n
 induction n with
 | zero =>
  intro i acc h1 h2 h3
  rw [List.drop_eq_nil_of_le (by omega)] at h3
  refine EvS ?_; simp only [impl_total.l0]
  refine Ev.neg (by rw [List.length_map]; omega) (Ev.val ?_)
  simp at h3
  omega
 | succ n ih =>
  intro i acc h1 h2 h3
  have hi : i < xs.length := by omega
  rw [List.drop_eq_getElem_cons hi, List.sum_cons] at h3
  have hnext := ih (i + 1) (acc + xs[i]) (by omega) (by omega) (by omega)
  refine EvS ?_; simp only [impl_total.l0]
  refine Ev.pos (by rw [List.length_map]; omega) (eO (Ev.pos (by rw [List.length_map]; omega) ?_))
  rw [rdN_at hi, wrapS (by omega) (by omega), wrapS (by omega) (by omega)]
  exact hnext
theorem total_is (xs : List Nat) (hs : xs.sum ≤ 1000000) (hl : xs.length ≤ 1000000) : Ev (fun k => impl_total.f k (ints xs)) ((xs.sum : Nat) : Int) := by
 unfold impl_total.f
 exact total_l0 xs hs hl _ 0 0 rfl (Nat.zero_le _) (by simp)
theorem raised_l2 (e : Nat) (x8 : Int) (L : List (List Int)) (D : List Int) (R : List NA) (all : List Tr) (h0 : ∀ t ∈ all, t.n = 0) (hl : all.length ≤ 1000000) (hp : ∀ t ∈ all, plen t ≤ 1000000)
 (hgo : Ev (fun k => impl_raised.l1 k (all.map (cA (e + 1))) (wrap64 (x8 - 1)) L D) R) : ∀ (rest done : List Tr), all = done ++ rest →
 Ev (fun k => impl_raised.l2 k ((prts rest).map (cA e)) x8 (done.map (cA (e + 1))) (ints (all.map plen)) ((ints (all.map plen)).length : Int) ((done.length : Nat) : Int) L D) R := by
 intro rest
 induction rest with
 | nil =>
  intro done h
  rw [List.append_nil] at h
  subst h
  refine EvS ?_; simp only [impl_raised.l2]
  exact eN hgo
 | cons t rest ih =>
  intro done h
  have hlt : done.length < all.length := by rw [h]; simp
  have hm : t ∈ all := by rw [h]; simp
  have hrd : rd (ints (all.map plen)) ((done.length : Nat) : Int) = ((t.parts.length : Nat) : Int) := by
   rw [rdN_at (by rw [List.length_map]; exact hlt), List.getElem_map]
   have : all[done.length] = t := by simp [h]
   rw [this]
   rfl
  have e1 : prts (t :: rest) = t.parts ++ prts rest := by simp [prts]
  have e2 : ((prts (t :: rest)).map (cA e)).drop t.parts.length = (prts rest).map (cA e) := by
   rw [e1, List.map_append, List.drop_left' (by rw [List.length_map])]
  have e3 : ((prts (t :: rest)).map (cA e)).take t.parts.length = t.parts.map (cA e) := by
   rw [e1, List.map_append, List.take_left' (by rw [List.length_map])]
  have e4 : (⟨0, t.parts.map (cA e)⟩ : NA) = cA (e + 1) t := by
   show _ = (⟨(t.n : Int), t.parts.map (cA e)⟩ : NA)
   rw [h0 t hm]
   rfl
  have hnext := ih (done ++ [t]) (by rw [h, List.append_assoc]; rfl)
  rw [List.map_append, List.map_singleton, List.length_append, List.length_singleton] at hnext
  refine EvS ?_; simp only [impl_raised.l2]
  refine Ev.pos (by rw [List.length_map, List.length_map]; omega) (eO (Ev.pos (by rw [List.length_map, List.length_map]; omega) ?_))
  rw [hrd]
  refine eO (Ev.pos (by rw [e1, List.length_map, List.length_append]; omega) (Ev.pos (by rw [List.length_map]; omega) ?_))
  rw [Int.toNat_natCast, e2, e3, e4, wrapS (by omega) (by omega)]
  exact hnext
theorem raised_l0 (xs : List Nat) (hx : xs.length ≤ 1000000) (L : List (List Int)) (D : List Int) (R : List NA) (hgo : Ev (fun k => impl_raised.l1 k (xs.map (fun n : Nat => (⟨(n : Int), []⟩ : NA))) (wrap64 ((L.length : Int) - 1)) L D) R) : ∀ (n i : Nat), xs.length - i = n → i ≤ xs.length →
 Ev (fun k => impl_raised.l0 k ((xs.take i).map (fun n : Nat => (⟨(n : Int), []⟩ : NA))) (ints xs) ((ints xs).length : Int) (i : Int) L D) R := by
 intro n
 induction n with
 | zero =>
  intro i h1 h2
  rw [List.take_of_length_le (by omega)]
  refine EvS ?_; simp only [impl_raised.l0]
  exact Ev.neg (by rw [List.length_map]; omega) hgo
 | succ n ih =>
  intro i h1 h2
  have hi : i < xs.length := by omega
  have hnext := ih (i + 1) (by omega) (by omega)
  rw [take_snoc _ _ hi, List.map_append, List.map_singleton] at hnext
  refine EvS ?_; simp only [impl_raised.l0]
  refine Ev.pos (by rw [List.length_map]; omega) (eO (Ev.pos (by rw [List.length_map]; omega) (Ev.pos (by rw [List.length_map, List.length_take]; omega) ?_)))
  rw [rdN_at hi, wrapS (by omega) (by omega)]
  exact hnext
section
variable {d N : Nat} {v : Tr} (hd : d ≤ 3) (hv : Ok d v) (hn : nodes d v ≤ N) (hN : N ≤ 1000000)
include hd hv hn hN
end
theorem ints_app (a b : List Nat) : ints (a ++ b) = ints a ++ ints b := List.map_append
theorem ints_len (a : List Nat) : (ints a).length = a.length := List.length_map _
theorem take_map_len {α β : Type} (f : α → β) (xs : List α) (i M : Nat) (h : xs.length ≤ M) : ((xs.take i).map f).length ≤ M := by rw [List.length_map, List.length_take]; exact Nat.le_trans (Nat.min_le_right _ _) h
theorem nn (a : Nat) : (0 : Int) ≤ (a : Int) := Int.natCast_nonneg a
theorem total8_l0 (xs : List Nat) (hs : xs.sum ≤ 1000000) (hl : xs.length ≤ 1000000) : ∀ (n i acc : Nat), xs.length - i = n → i ≤ xs.length → acc + (xs.drop i).sum = xs.sum → Ev (fun k => spec_l3Total.l0 k (acc : Int) (ints xs) ((ints xs).length : Int) (i : Int)) ((xs.sum : Nat) : Int) := by
 intro n
 induction n with
 | zero =>
  intro i acc h1 h2 h3
  rw [List.drop_eq_nil_of_le (by omega)] at h3
  refine EvS ?_; simp only [spec_l3Total.l0]
  refine Ev.neg (by rw [List.length_map]; omega) (Ev.val ?_)
  simp at h3
  omega
 | succ n ih =>
  intro i acc h1 h2 h3
  have hi : i < xs.length := by omega
  rw [List.drop_eq_getElem_cons hi, List.sum_cons] at h3
  have hnext := ih (i + 1) (acc + xs[i]) (by omega) (by omega) (by omega)
  refine EvS ?_; simp only [spec_l3Total.l0]
  refine Ev.pos (by rw [List.length_map]; omega) (eO (Ev.pos (by rw [List.length_map]; omega) ?_))
  rw [rdN_at hi, wrapS (by omega) (by omega), wrapS (by omega) (by omega)]
  exact hnext
theorem total8 (xs : List Nat) (hs : xs.sum ≤ 1000000) (hl : xs.length ≤ 1000000) : Ev (fun k => spec_l3Total.f k (ints xs)) ((xs.sum : Nat) : Int) := by
 unfold spec_l3Total.f
 exact total8_l0 xs hs hl _ 0 0 rfl (Nat.zero_le _) (by simp)
theorem sum_take_le : ∀ (xs : List Nat) (i : Nat), (xs.take i).sum ≤ xs.sum
 | [], i => by simp
 | x :: xs, 0 => by simp
 | x :: xs, i + 1 => by
  have := sum_take_le xs i
  simp only [List.take_succ_cons, List.sum_cons]
  omega
theorem sum_take_succ (xs : List Nat) (i : Nat) (h : i < xs.length) : (xs.take (i + 1)).sum = (xs.take i).sum + xs[i] := by
 rw [take_snoc _ _ h, List.sum_append, List.sum_singleton]
theorem sts_succ (xs : List Nat) (i : Nat) (h : i < xs.length) : sts 0 (xs.take (i + 1)) = sts 0 (xs.take i) ++ [(xs.take i).sum] := by
 rw [take_snoc _ _ h, sts_snoc, Nat.zero_add]
theorem starts8_l0 (xs : List Nat) (hs : xs.sum ≤ 1000000) (hl : xs.length ≤ 1000000) : ∀ (n i : Nat), xs.length - i = n → i ≤ xs.length → Ev (fun k => spec_l3Starts.l0 k (ints (sts 0 (xs.take i))) (((xs.take i).sum : Nat) : Int) (ints xs) ((ints xs).length : Int) (i : Int)) (ints (sts 0 xs)) := by
 intro n
 induction n with
 | zero =>
  intro i h1 h2
  refine EvS ?_; simp only [spec_l3Starts.l0]
  refine Ev.neg (by rw [List.length_map]; omega) (Ev.val ?_)
  rw [List.take_of_length_le (by omega)]
 | succ n ih =>
  intro i h1 h2
  have hi : i < xs.length := by omega
  have hnext := ih (i + 1) (by omega) (by omega)
  have hb := sum_take_le xs i
  have hb2 := sum_take_le xs (i + 1)
  rw [sum_take_succ xs i hi] at hb2
  rw [sts_succ xs i hi, sum_take_succ xs i hi, ints_app] at hnext
  refine EvS ?_; simp only [spec_l3Starts.l0]
  refine Ev.pos (by rw [List.length_map]; omega) (eO (Ev.pos (by rw [List.length_map]; omega) (Ev.pos (by rw [List.length_map, sts_len, List.length_take]; omega) ?_)))
  rw [rdN_at hi, wrapS (by omega) (by omega), wrapS (by omega) (by omega)]
  exact hnext
theorem starts8 (xs : List Nat) (hs : xs.sum ≤ 1000000) (hl : xs.length ≤ 1000000) : Ev (fun k => spec_l3Starts.f k (ints xs)) (ints (sts 0 xs)) := by
 unfold spec_l3Starts.f
 exact starts8_l0 xs hs hl _ 0 rfl (Nat.zero_le _)
theorem sts_ge (xs : List Nat) {i : Nat} (h : i < (sts 0 xs).length) : (sts 0 xs)[i] = (xs.take i).sum := by
 have hx : i < xs.length := by rw [sts_len] at h; exact h
 have := sts_at xs 0 i hx
 rw [List.getElem?_eq_getElem h] at this
 have := Option.some.inj this
 omega
theorem len_flat (segs : List (List Nat)) : segs.flatten.length = (segs.map List.length).sum := List.length_flatten
section
variable (segs : List (List Nat)) (hs : segs.flatten.length ≤ 1000000) (hl : segs.length ≤ 1000000)
include hs hl
theorem cut8_l0 : ∀ (n i : Nat), segs.length - i = n → i ≤ segs.length → Ev (fun k => spec_l3Cut.l0 k (ints (segs.map List.length)) (ints segs.flatten) ((segs.take i).map ints) (ints (sts 0 (segs.map List.length))) ((ints (sts 0 (segs.map List.length))).length : Int) (i : Int)) (segs.map ints) := by
 intro n
 induction n with
 | zero =>
  intro i h1 h2
  refine EvS ?_; simp only [spec_l3Cut.l0]
  refine Ev.neg (by rw [List.length_map, sts_len, List.length_map]; omega) (Ev.val ?_)
  rw [List.take_of_length_le (by omega)]
 | succ n ih =>
  intro i h1 h2
  have hi : i < segs.length := by omega
  have hi2 : i < (segs.map List.length).length := by rw [List.length_map]; exact hi
  have hi3 : i < (sts 0 (segs.map List.length)).length := by rw [sts_len]; exact hi2
  have hnext := ih (i + 1) (by omega) (by omega)
  rw [take_snoc _ _ hi, List.map_append] at hnext
  have hg : segs[i]? = some segs[i] := List.getElem?_eq_getElem hi
  have hle := seg_le segs i _ hg
  have hat := seg_at segs i _ hg
  obtain ⟨a, ha⟩ : ∃ a, a = ((segs.map List.length).take i).sum := ⟨_, rfl⟩
  have ea : rd (ints (sts 0 (segs.map List.length))) (i : Int) = (a : Int) := by rw [rdN_at hi3, sts_ge _ hi3, ha]
  have el : rd (ints (segs.map List.length)) (i : Int) = (segs[i].length : Int) := by rw [rdN_at hi2, List.getElem_map]
  rw [← ha] at hle hat
  have ew : wrap64 ((a : Int) + (segs[i].length : Int)) = ((a + segs[i].length : Nat) : Int) := by rw [wrapS (by omega) (by omega)]; omega
  have ec : ((ints segs.flatten).take (((a + segs[i].length : Nat) : Int)).toNat).drop ((a : Int)).toNat = ints segs[i] := by
   rw [Int.toNat_natCast, Int.toNat_natCast, ← List.map_take, ← List.map_drop, hat]
  have c1 : (i : Int) < ((ints (sts 0 (segs.map List.length))).length : Int) := by rw [List.length_map, sts_len, List.length_map]; exact Int.ofNat_lt.2 hi
  have c2 : (i : Int) < ((ints (segs.map List.length)).length : Int) := by rw [List.length_map, List.length_map]; exact Int.ofNat_lt.2 hi
  have c3 : ((a + segs[i].length : Nat) : Int) ≤ ((ints segs.flatten).length : Int) := by rw [List.length_map]; exact Int.ofNat_le.2 hle
  have c4 : ((segs.take i).map ints).length < 5864062014805 := Nat.lt_of_le_of_lt (take_map_len ints segs i 1000000 hl) (by decide)
  have c5 : (a : Int) ≤ ((a + segs[i].length : Nat) : Int) := Int.ofNat_le.2 (Nat.le_add_right _ _)
  have ei : wrap64 ((i : Int) + 1) = ((i + 1 : Nat) : Int) := by rw [wrapS (by omega) (by omega)]; rfl
  refine EvS ?_; simp only [spec_l3Cut.l0]
  rw [ea, el, ew, ec, ei]
  exact Ev.pos c1 (Ev.pos (nn i) (Ev.pos c1 (Ev.pos c2 (Ev.pos (nn a) (Ev.pos c5 (Ev.pos c3 (Ev.pos c4 hnext)))))))
theorem cut8 : Ev (fun k => spec_l3Cut.f k (ints (segs.map List.length)) (ints segs.flatten)) (segs.map ints) := by
 have h1 := starts8 (segs.map List.length) (by rw [← len_flat]; exact hs) (by rw [List.length_map]; exact hl)
 unfold spec_l3Cut.f
 exact Ev.bind h1 (cut8_l0 segs hs hl _ 0 rfl (Nat.zero_le _))
end
theorem rdS_at {segs : List (List Nat)} {i : Nat} (h : i < segs.length) : rd_L1 (segs.map ints) (i : Int) = ints segs[i] := rdL_at (List.getElem?_eq_getElem h)
theorem sums8_l1 (s : List Nat) (hv : ∀ x ∈ s, x < 10007) (hl : s.length ≤ 1000000) (x5 : List Int) (x14 : List (List Int)) (x15 x16 : Int) {R : List Int} (h5 : x5.length < 17592186044416)
 (h : Ev (fun k => spec_l3Sums.l0 k (x5 ++ [((s.sum % 10007 : Nat) : Int)]) x14 x15 (wrap64 (x16 + 1))) R) : ∀ (n i acc : Nat), s.length - i = n → i ≤ s.length → acc < 10007 → (acc + (s.drop i).sum) % 10007 = s.sum % 10007 → Ev (fun k => spec_l3Sums.l1 k x5 (acc : Int) x14 x15 x16 (ints s) ((ints s).length : Int) (i : Int)) R := by
 intro n
 induction n with
 | zero =>
  intro i acc h1 h2 h3 h4
  rw [List.drop_eq_nil_of_le (by omega), List.sum_nil, Nat.add_zero, Nat.mod_eq_of_lt h3] at h4
  refine EvS ?_; simp only [spec_l3Sums.l1]
  rw [h4]
  exact Ev.neg (by rw [List.length_map]; omega) (Ev.pos h5 h)
 | succ n ih =>
  intro i acc h1 h2 h3 h4
  have hi : i < s.length := by omega
  have hx : s[i] < 10007 := hv _ (List.getElem_mem hi)
  rw [List.drop_eq_getElem_cons hi, List.sum_cons] at h4
  have hnext := ih (i + 1) ((acc + s[i]) % 10007) (by omega) (by omega) (Nat.mod_lt _ (by omega)) (by rw [← h4]; omega)
  refine EvS ?_; simp only [spec_l3Sums.l1]
  refine Ev.pos (by rw [List.length_map]; omega) (eO (Ev.pos (by rw [List.length_map]; omega) ?_))
  rw [rdN_at hi, wrapS (by omega) (by omega)]
  exact Ev.call (addS acc s[i] (by omega) (by omega)) hnext
section
variable (segs : List (List Nat)) (hv : ∀ s ∈ segs, ∀ x ∈ s, x < 10007) (hs : segs.flatten.length ≤ 1000000) (hl : segs.length ≤ 1000000)
include hv hs hl
theorem sums8_l0 : ∀ (n i : Nat), segs.length - i = n → i ≤ segs.length → Ev (fun k => spec_l3Sums.l0 k (ints ((segs.take i).map fun s => s.sum % 10007)) (segs.map ints) ((segs.map ints).length : Int) (i : Int)) (ints (segs.map fun s => s.sum % 10007)) := by
 intro n
 induction n with
 | zero =>
  intro i h1 h2
  refine EvS ?_; simp only [spec_l3Sums.l0]
  refine Ev.neg (by rw [List.length_map]; omega) (Ev.val ?_)
  rw [List.take_of_length_le (by omega)]
 | succ n ih =>
  intro i h1 h2
  have hi : i < segs.length := by omega
  have hnext := ih (i + 1) (by omega) (by omega)
  rw [take_snoc _ _ hi, List.map_append, ints_app] at hnext
  have hle := seg_le segs i _ (List.getElem?_eq_getElem hi)
  refine EvS ?_; simp only [spec_l3Sums.l0]
  refine Ev.pos (by rw [List.length_map]; omega) (eO (Ev.pos (by rw [List.length_map]; omega) ?_))
  rw [rdS_at hi]
  refine sums8_l1 segs[i] (hv _ (List.getElem_mem hi)) (by omega) _ _ _ _ (by rw [List.length_map, List.length_map, List.length_take]; omega) ?_ _ 0 0 rfl (Nat.zero_le _) (by omega) (by rw [List.drop_zero, Nat.zero_add])
  rw [wrapS (by omega) (by omega)]
  exact hnext
theorem sums8 : Ev (fun k => spec_l3Sums.f k (ints (segs.map List.length)) (ints segs.flatten)) (ints (segs.map fun s => s.sum % 10007)) := by
 unfold spec_l3Sums.f
 exact Ev.bind (cut8 segs hs hl) (sums8_l0 segs hv hs hl _ 0 rfl (Nat.zero_le _))
end
theorem most8_l1 (s : List Nat) (hl : s.length ≤ 1000000) (x5 : List Int) (x14 : List (List Int)) (x15 x16 : Int) {R : List Int} (h5 : x5.length < 17592186044416)
 (h : Ev (fun k => spec_l3Most.l0 k (x5 ++ [((s.foldl max 0 : Nat) : Int)]) x14 x15 (wrap64 (x16 + 1))) R) : ∀ (n i acc : Nat), s.length - i = n → i ≤ s.length → (s.drop i).foldl max acc = s.foldl max 0 → Ev (fun k => spec_l3Most.l1 k x5 (acc : Int) x14 x15 x16 (ints s) ((ints s).length : Int) (i : Int)) R := by
 intro n
 induction n with
 | zero =>
  intro i acc h1 h2 h4
  rw [List.drop_eq_nil_of_le (by omega), List.foldl_nil] at h4
  refine EvS ?_; simp only [spec_l3Most.l1]
  rw [h4]
  exact Ev.neg (by rw [List.length_map]; omega) (Ev.pos h5 h)
 | succ n ih =>
  intro i acc h1 h2 h4
  have hi : i < s.length := by omega
  rw [List.drop_eq_getElem_cons hi, List.foldl_cons] at h4
  have hnext := ih (i + 1) (max acc s[i]) (by omega) (by omega) h4
  have e : mx (acc : Int) (s[i] : Int) = ((max acc s[i] : Nat) : Int) := by
   unfold mx
   split <;> omega
  refine EvS ?_; simp only [spec_l3Most.l1]
  refine Ev.pos (by rw [List.length_map]; omega) (eO (Ev.pos (by rw [List.length_map]; omega) ?_))
  rw [rdN_at hi, wrapS (by omega) (by omega), e]
  exact hnext
section
variable (segs : List (List Nat)) (hs : segs.flatten.length ≤ 1000000) (hl : segs.length ≤ 1000000)
include hs hl
theorem most8_l0 : ∀ (n i : Nat), segs.length - i = n → i ≤ segs.length → Ev (fun k => spec_l3Most.l0 k (ints ((segs.take i).map fun s => s.foldl max 0)) (segs.map ints) ((segs.map ints).length : Int) (i : Int)) (ints (segs.map fun s => s.foldl max 0)) := by
 intro n
 induction n with
 | zero =>
  intro i h1 h2
  refine EvS ?_; simp only [spec_l3Most.l0]
  refine Ev.neg (by rw [List.length_map]; omega) (Ev.val ?_)
  rw [List.take_of_length_le (by omega)]
 | succ n ih =>
  intro i h1 h2
  have hi : i < segs.length := by omega
  have hnext := ih (i + 1) (by omega) (by omega)
  rw [take_snoc _ _ hi, List.map_append, ints_app] at hnext
  have hle := seg_le segs i _ (List.getElem?_eq_getElem hi)
  refine EvS ?_; simp only [spec_l3Most.l0]
  refine Ev.pos (by rw [List.length_map]; omega) (eO (Ev.pos (by rw [List.length_map]; omega) ?_))
  rw [rdS_at hi]
  refine most8_l1 segs[i] (by omega) _ _ _ _ (by rw [List.length_map, List.length_map, List.length_take]; omega) ?_ _ 0 0 rfl (Nat.zero_le _) (by rw [List.drop_zero])
  rw [wrapS (by omega) (by omega)]
  exact hnext
theorem most8 : Ev (fun k => spec_l3Most.f k (ints (segs.map List.length)) (ints segs.flatten)) (ints (segs.map fun s => s.foldl max 0)) := by
 unfold spec_l3Most.f
 exact Ev.bind (cut8 segs hs hl) (most8_l0 segs hs hl _ 0 rfl (Nat.zero_le _))
end
theorem psm_app : ∀ (a b : List Nat) (z : Nat), psm z (a ++ b) = psm z a ++ psm ((a.foldl (fun x y => (x + y) % 10007) z)) b
 | [], _, _ => rfl
 | x :: a, b, z => by rw [List.cons_append, psm, psm, psm_app a b, List.cons_append, List.foldl_cons]
theorem scans8_l1 (s : List Nat) (hv : ∀ x ∈ s, x < 10007) (x14 : List (List Int)) (x15 x16 : Int) {R : List Int} (M : Nat) (hM : M ≤ 1000000) (hsl : s.length ≤ 1000000) (x5 : List Nat)
 (h : Ev (fun k => spec_l3Scans.l0 k (ints (x5 ++ psm 0 s)) x14 x15 (wrap64 (x16 + 1))) R) (hx5 : x5.length ≤ M) : ∀ (rest done : List Nat) (a : Nat), s = done ++ rest → a < 10007 → psm 0 s = psm 0 done ++ psm a rest →
 Ev (fun k => spec_l3Scans.l1 k (ints (x5 ++ psm 0 done)) (a : Int) x14 x15 x16 (ints s) ((ints s).length : Int) ((done.length : Nat) : Int)) R := by
 intro rest
 induction rest with
 | nil =>
  intro done a h1 h2 h3
  rw [List.append_nil] at h1
  refine EvS ?_; simp only [spec_l3Scans.l1]
  rw [h1] at h ⊢
  exact Ev.neg (by rw [List.length_map]; omega) h
 | cons x rest ih =>
  intro done a h1 h2 h3
  have hx : x < 10007 := hv _ (by rw [h1]; simp)
  have hi : done.length < s.length := by rw [h1]; simp
  have hat : s[done.length] = x := by simp [h1]
  have hd : (psm 0 done).length = done.length := psm_len _ _
  have e0 : done.foldl (fun x y => (x + y) % 10007) 0 = a := by
   have e1 := psm_app done (x :: rest) 0
   rw [← h1, h3] at e1
   have := List.append_cancel_left e1
   rw [psm, psm, List.cons.injEq] at this
   exact this.1.symm
  have hnext := ih (done ++ [x]) ((a + x) % 10007) (by rw [h1]; simp) (Nat.mod_lt _ (by omega)) (by
   rw [h3, psm_app done [x] 0, e0]
   simp [psm])
  rw [psm_app, e0, List.length_append, ← List.append_assoc, ints_app] at hnext
  refine EvS ?_; simp only [spec_l3Scans.l1]
  refine Ev.pos (by rw [List.length_map]; omega) (eO (Ev.pos (by rw [List.length_map]; omega) (Ev.pos (by rw [List.length_map, List.length_append]; omega) ?_)))
  rw [rdN_at hi, hat, wrapS (by omega) (by omega)]
  exact Ev.call (addS a x (by omega) (by omega)) hnext
section
variable (segs : List (List Nat)) (hv : ∀ s ∈ segs, ∀ x ∈ s, x < 10007) (hs : segs.flatten.length ≤ 1000000) (hl : segs.length ≤ 1000000)
include hv hs hl
theorem scans8_l0 : ∀ (rest done : List (List Nat)), segs = done ++ rest → Ev (fun k => spec_l3Scans.l0 k (ints ((done.map (psm 0)).flatten)) (segs.map ints) ((segs.map ints).length : Int) ((done.length : Nat) : Int)) (ints ((segs.map (psm 0)).flatten)) := by
 intro rest
 induction rest with
 | nil =>
  intro done h1
  rw [List.append_nil] at h1
  refine EvS ?_; simp only [spec_l3Scans.l0]
  refine Ev.neg (by rw [List.length_map, h1]; omega) (Ev.val ?_)
  rw [h1]
 | cons s rest ih =>
  intro done h1
  have hi : done.length < segs.length := by rw [h1]; simp
  have hat : segs[done.length] = s := by simp [h1]
  have hnext := ih (done ++ [s]) (by rw [h1]; simp)
  rw [List.map_append, List.flatten_append, List.map_singleton, List.flatten_singleton, List.length_append] at hnext
  have hle : done.flatten.length + s.length ≤ segs.flatten.length := by rw [h1]; simp
  have hpl : ((done.map (psm 0)).flatten).length = done.flatten.length := by
   rw [List.length_flatten, List.length_flatten, List.map_map]
   congr 1
   exact List.map_congr_left (fun x _ => psm_len _ _)
  refine EvS ?_; simp only [spec_l3Scans.l0]
  refine Ev.pos (by rw [List.length_map]; omega) (eO (Ev.pos (by rw [List.length_map]; omega) ?_))
  rw [rdS_at hi, hat]
  have := scans8_l1 s (hv _ (by rw [h1]; simp)) (segs.map ints) ((segs.map ints).length : Int) ((done.length : Nat) : Int) (R := ints ((segs.map (psm 0)).flatten)) 1000000 (by omega) (by omega) (done.map (psm 0)).flatten (by rw [wrapS (by omega) (by omega)]; exact hnext) (by omega) s [] 0 rfl (by omega) rfl
  rw [psm, List.append_nil] at this
  exact this
theorem scans8 : Ev (fun k => spec_l3Scans.f k (ints (segs.map List.length)) (ints segs.flatten)) (ints ((segs.map (psm 0)).flatten)) := by
 unfold spec_l3Scans.f
 exact Ev.bind (cut8 segs hs hl) (scans8_l0 segs hv hs hl segs [] rfl)
end
theorem up8_l1 (m : Nat) (x8 : List Int) (x9 x10 : Int) {R : List Int} (xs : List Nat) (hx : xs.length + m ≤ 2000000) (h : Ev (fun k => spec_l3Up.l0 k (ints (xs ++ List.range m)) x8 x9 (wrap64 (x10 + 1))) R) : ∀ (n i : Nat), m - i = n → i ≤ m → Ev (fun k => spec_l3Up.l1 k (ints (xs ++ List.range i)) x8 x9 x10 (m : Int) (i : Int)) R := by
 intro n
 induction n with
 | zero =>
  intro i h1 h2
  obtain rfl : i = m := by omega
  refine EvS ?_; simp only [spec_l3Up.l1]
  exact eM h
 | succ n ih =>
  intro i h1 h2
  have hnext := ih (i + 1) (by omega) (by omega)
  rw [List.range_succ, ← List.append_assoc, ints_app] at hnext
  refine EvS ?_; simp only [spec_l3Up.l1]
  refine eO (Ev.pos (by rw [List.length_map, List.length_append, List.length_range]; omega) ?_)
  rw [wrapS (by omega) (by omega)]
  exact hnext
theorem up8 (ns : List Nat) (hs : ns.sum ≤ 1000000) (hl : ns.length ≤ 1000000) : Ev (fun k => spec_l3Up.f k (ints ns)) (ints ((ns.map List.range).flatten)) := by
 have key : ∀ (rest done : List Nat), ns = done ++ rest → Ev (fun k => spec_l3Up.l0 k (ints ((done.map List.range).flatten)) (ints ns) ((ints ns).length : Int) ((done.length : Nat) : Int)) (ints ((ns.map List.range).flatten)) := by
  intro rest
  induction rest with
  | nil =>
   intro done h1
   rw [List.append_nil] at h1
   refine EvS ?_; simp only [spec_l3Up.l0]
   refine Ev.neg (by rw [List.length_map, h1]; omega) (Ev.val ?_)
   rw [h1]
  | cons m rest ih =>
   intro done h1
   have hi : done.length < ns.length := by rw [h1]; simp
   have hat : ns[done.length] = m := by simp [h1]
   have hnext := ih (done ++ [m]) (by rw [h1]; simp)
   rw [List.map_append, List.flatten_append, List.map_singleton, List.flatten_singleton, List.length_append] at hnext
   have hle : done.sum + m ≤ ns.sum := by rw [h1]; simp
   have hpl : ((done.map List.range).flatten).length = done.sum := by
    rw [List.length_flatten, List.map_map]
    congr 1
    conv => rhs; rw [← List.map_id done]
    exact List.map_congr_left (fun x _ => List.length_range)
   refine EvS ?_; simp only [spec_l3Up.l0]
   refine Ev.pos (by rw [List.length_map]; omega) (eO (Ev.pos (by rw [List.length_map]; omega) ?_))
   rw [rdN_at hi, hat]
   have := up8_l1 m (ints ns) ((ints ns).length : Int) ((done.length : Nat) : Int) (R := ints ((ns.map List.range).flatten)) (done.map List.range).flatten (by omega) (by rw [wrapS (by omega) (by omega)]; exact hnext) m 0 (by omega) (Nat.zero_le _)
   rw [List.range_zero, List.append_nil] at this
   exact this
 unfold spec_l3Up.f
 exact key ns [] rfl
abbrev V3 := Int × List (List Int) × List Int
abbrev vec (d : Nat) (ts : List Tr) : V3 := ((ts.length : Int), (lvl d ts).map ints, ints (datN d ts))
theorem rd0 (r : List Int) (L : List (List Int)) : rd_L1 (r :: L) 0 = r := rfl
theorem inner8 (d : Nat) (ts : List Tr) (c : Int) (D : List Int) (hl : ts.length ≤ 1000000) (hp : (prts ts).length ≤ 1000000) : Ev (fun k => spec_l8Inner.f k c (ints (ts.map plen) :: (lvl d (prts ts)).map ints) D) (((prts ts).length : Int), (lvl d (prts ts)).map ints, D) := by
 have ht := total8 (ts.map plen) (by rw [← prts_cnt]; exact hp) (by rw [List.length_map]; exact hl)
 rw [← prts_cnt] at ht
 unfold spec_l8Inner.f
 refine eP ?_
 rw [rd0]
 exact Ev.bind ht (Ev.pos (by simp; omega) (Ev.now _))
theorem outer8 (r : List Int) (c : Int) (L : List (List Int)) (D : List Int) (hL : L.length ≤ 1000) : spec_l8Outer.f r c L D = some ((r.length : Int), r :: L, D) := by
 unfold spec_l8Outer.f
 simp only [Option.bind_some]
 rw [if_pos (by simp; omega)]
 rfl
theorem plain8 (r : List Int) : spec_l8Plain.f r = some ((r.length : Int), [], r) := rfl
theorem inIdx_snoc (ns : List Nat) (a : List Nat) (i : Nat) : inIdx ns (a ++ [i]) = inIdx ns a ++ (List.range (ns.getD i 0)).map fun k => (ns.take i).sum + k := by
 simp [inIdx]
theorem inIdx_len (ts : List Tr) (l : List Nat) (h : ∀ i ∈ l, i < ts.length) : (inIdx (ts.map plen) l).length = (prts (picks ts l)).length := by
 rw [← inIdx_picks ts l h, picks_len _ _ (inIdx_lt ts l h)]
theorem picks_snoc {α : Type} (xs : List α) (a : List Nat) (i : Nat) (h : i < xs.length) : picks xs (a ++ [i]) = picks xs a ++ [xs[i]] := by
 rw [picks_app, picks_cons xs i [] h]
 rfl
theorem pick8_l0 (D at_ : List Nat) (hD : D.length ≤ 1000000) (ha : at_.length ≤ 1000000) (h : ∀ i ∈ at_, i < D.length) (c : Int) (L : List (List Int)) : ∀ (rest done : List Nat), at_ = done ++ rest →
 Ev (fun k => spec_l8Pick.l0 k (ints (picks D done)) (ints at_) ((ints at_).length : Int) ((done.length : Nat) : Int) c L (ints D)) ((at_.length : Int), [], ints (picks D at_)) := by
 intro rest
 induction rest with
 | nil =>
  intro done h1
  rw [List.append_nil] at h1
  subst h1
  refine EvS ?_; simp only [spec_l8Pick.l0]
  refine Ev.neg (by rw [List.length_map]; omega) (Ev.call (plain8 _) (Ev.val ?_))
  rw [List.length_map, picks_len _ _ h]
 | cons i rest ih =>
  intro done h1
  have hi : done.length < at_.length := by rw [h1]; simp
  have hat : at_[done.length] = i := by simp [h1]
  have hid : i < D.length := h i (by rw [h1]; simp)
  have hnext := ih (done ++ [i]) (by rw [h1]; simp)
  rw [picks_snoc _ _ _ hid, List.length_append, ints_app] at hnext
  have hpl := picks_len D done (fun j hj => h j (by rw [h1]; simp [hj]))
  refine EvS ?_; simp only [spec_l8Pick.l0]
  refine Ev.pos (by rw [List.length_map]; omega) (eO (Ev.pos (by rw [List.length_map]; omega) ?_))
  rw [rdN_at hi, hat]
  refine eO (Ev.pos (by rw [List.length_map]; omega) (Ev.pos (by rw [List.length_map]; omega) ?_))
  rw [rdN_at hid, wrapS (by omega) (by omega)]
  exact hnext
theorem pick8_l2 (x8 : List Nat) (i a m : Nat) (hi : i < x8.length) (hx : x8[i] = a) (x9 : List Int) (xs : List Nat) (hb : xs.length + m ≤ 2000000) (hb2 : a + m ≤ 2000000) (x46 : List Int) (x47 x48 c : Int) (L : List (List Int)) (D : List Int) {R : V3}
 (h : Ev (fun k => spec_l8Pick.l1 k (ints x8) x9 (ints (xs ++ (List.range m).map fun k => a + k)) x46 x47 (wrap64 (x48 + 1)) c L D) R) : ∀ (n j : Nat), m - j = n → j ≤ m →
 Ev (fun k => spec_l8Pick.l2 k (ints x8) x9 (ints (xs ++ (List.range j).map fun k => a + k)) (i : Int) x46 x47 x48 (m : Int) (j : Int) c L D) R := by
 intro n
 induction n with
 | zero =>
  intro j h1 h2
  obtain rfl : j = m := by omega
  refine EvS ?_; simp only [spec_l8Pick.l2]
  exact eM h
 | succ n ih =>
  intro j h1 h2
  have hnext := ih (j + 1) (by omega) (by omega)
  rw [List.range_succ, List.map_append, ← List.append_assoc, ints_app] at hnext
  have ew : wrap64 ((a : Int) + (j : Int)) = ((a + j : Nat) : Int) := by rw [wrapS (by omega) (by omega)]; omega
  refine EvS ?_; simp only [spec_l8Pick.l2]
  refine eO (eO (Ev.pos (by rw [List.length_map]; omega) (Ev.pos (by rw [List.length_map, List.length_append, List.length_map, List.length_range]; omega) ?_)))
  rw [rdN_at hi, hx, ew, wrapS (a := (j : Int) + 1) (by omega) (by omega)]
  exact hnext
def PickIs (d : Nat) : Prop := ∀ (ts : List Tr) (at_ : List Nat) (c : Int), (∀ i ∈ at_, i < ts.length) → (ts.map (nodes d)).sum ≤ 1000000 → ((picks ts at_).map (nodes d)).sum ≤ 1000000 →
 Ev (fun k => spec_l8Pick.f k c ((lvl d ts).map ints) (ints (datN d ts)) (ints at_)) (vec d (picks ts at_))
theorem getD_plen {ts : List Tr} {i : Nat} (h : i < ts.length) : (ts.map plen).getD i 0 = plen ts[i] := by
 rw [List.getD_eq_getElem?_getD, List.getElem?_map, List.getElem?_eq_getElem h]
 rfl
theorem pick8_l1 (d : Nat) (hd : d ≤ 100) (ih : PickIs d) (ts : List Tr) (at_ : List Nat) (c : Int) (h : ∀ i ∈ at_, i < ts.length) (hn : (ts.map (nodes (d + 1))).sum ≤ 1000000) (hp : ((picks ts at_).map (nodes (d + 1))).sum ≤ 1000000) : ∀ (rest done : List Nat), at_ = done ++ rest →
 Ev (fun k => spec_l8Pick.l1 k (ints (sts 0 (ts.map plen))) (ints ((picks ts done).map plen)) (ints (inIdx (ts.map plen) done)) (ints at_) ((ints at_).length : Int) ((done.length : Nat) : Int) c ((lvl (d + 1) ts).map ints) (ints (datN (d + 1) ts))) (vec (d + 1) (picks ts at_)) := by
 have htl := sum_cnt (nodes (d + 1)) (nodes_pos (d + 1)) ts
 have hpl := sum_cnt (nodes (d + 1)) (nodes_pos (d + 1)) (picks ts at_)
 have hal := picks_len ts at_ h
 have hpn := prts_nodes d ts
 have hpp := prts_nodes d (picks ts at_)
 have hpc := sum_cnt (nodes d) (nodes_pos d) (prts ts)
 have hppc := sum_cnt (nodes d) (nodes_pos d) (prts (picks ts at_))
 intro rest
 induction rest with
 | nil =>
  intro done h1
  rw [List.append_nil] at h1
  subst h1
  have hin := inner8 d ts c (ints (datN d (prts ts))) (by omega) (by omega)
  have hpk := ih (prts ts) (inIdx (ts.map plen) at_) ((prts ts).length : Int) (inIdx_lt ts at_ h) (by omega) (by rw [inIdx_picks ts at_ h]; omega)
  rw [inIdx_picks ts at_ h] at hpk
  refine EvS ?_; simp only [spec_l8Pick.l1]
  refine Ev.neg (by rw [List.length_map]; omega) (Ev.bind hin (Ev.bind hpk (Ev.call (outer8 _ _ _ _ (by rw [List.length_map, lvl_len]; omega)) (Ev.val ?_))))
  show (((ints ((picks ts at_).map plen)).length : Int), _, _) = _
  rw [List.length_map, List.length_map]
  rfl
 | cons i rest ih2 =>
  intro done h1
  have hi : done.length < at_.length := by rw [h1]; simp
  have hat : at_[done.length] = i := by simp [h1]
  have hid : i < ts.length := h i (by rw [h1]; simp)
  have hdone : ∀ j ∈ done, j < ts.length := fun j hj => h j (by rw [h1]; simp [hj])
  have hnext := ih2 (done ++ [i]) (by rw [h1]; simp)
  rw [picks_snoc _ _ _ hid, inIdx_snoc, getD_plen hid, List.length_append, List.map_append, ints_app] at hnext
  have hdl := picks_len ts done hdone
  have hb1 : (prts (picks ts done)).length + plen ts[i] ≤ (prts (picks ts at_)).length := by
   rw [h1, show done ++ i :: rest = (done ++ [i]) ++ rest by simp, picks_app, prts_app, picks_snoc _ _ _ hid, prts_app, prts_one, List.length_append, List.length_append]
   show _ + ts[i].parts.length ≤ _
   omega
  have hil := inIdx_len ts done hdone
  have hsum := prts_cnt ts
  have hst : i < (sts 0 (ts.map plen)).length := by rw [sts_len, List.length_map]; exact hid
  have hse := sts_ge (ts.map plen) hst
  have hle := seg_le (ts.map Tr.parts) i ts[i].parts (by rw [List.getElem?_map, List.getElem?_eq_getElem hid]; rfl)
  rw [← plen_parts] at hle
  have hle2 : ((ts.map plen).take i).sum + plen ts[i] ≤ (prts ts).length := hle
  have e0 : rd_L1 ((lvl (d + 1) ts).map ints) 0 = ints (ts.map plen) := rfl
  have hip : i < (ts.map plen).length := by rw [List.length_map]; exact hid
  refine EvS ?_; simp only [spec_l8Pick.l1]
  refine Ev.pos (by rw [List.length_map]; omega) (eO (Ev.pos (by rw [List.length_map]; omega) (Ev.pos (by rw [List.length_map, lvl_len]; omega) ?_)))
  rw [rdN_at hi, hat, e0]
  refine eO (Ev.pos (by rw [List.length_map, List.length_map]; omega) (Ev.pos (by rw [List.length_map, List.length_map]; omega) ?_))
  rw [rdN_at hip, List.getElem_map]
  have := pick8_l2 (sts 0 (ts.map plen)) i _ (plen ts[i]) hst hse (ints ((picks ts done).map plen) ++ [((plen ts[i] : Nat) : Int)]) (inIdx (ts.map plen) done) (by omega) (by omega) (ints at_) ((ints at_).length : Int) ((done.length : Nat) : Int) c ((lvl (d + 1) ts).map ints) (ints (datN (d + 1) ts)) (R := vec (d + 1) (picks ts at_)) (by rw [wrapS (by omega) (by omega)]; exact hnext) _ 0 rfl (Nat.zero_le _)
  rw [List.range_zero, List.map_nil, List.append_nil] at this
  exact this
theorem pick8 : ∀ d, d ≤ 100 → PickIs d
 | 0, _ => by
  intro ts at_ c h hn hp
  have htl := sum_cnt (nodes 0) (nodes_pos 0) ts
  have hpl := sum_cnt (nodes 0) (nodes_pos 0) (picks ts at_)
  have hal := picks_len ts at_ h
  have h0 := pick8_l0 (ts.map Tr.n) at_ (by rw [List.length_map]; omega) (by omega) (by rw [List.length_map]; exact h) c [] at_ [] rfl
  refine EvS ?_; simp only [spec_l8Pick.f]
  refine Ev.pos rfl (evIs h0 ?_)
  rw [← picks_map]
  show _ = (((picks ts at_).length : Int), [], _)
  rw [hal]
  rfl
 | d + 1, hd => by
  intro ts at_ c h hn hp
  have htl := sum_cnt (nodes (d + 1)) (nodes_pos (d + 1)) ts
  have hpn := prts_nodes d ts
  have hpc := sum_cnt (nodes d) (nodes_pos d) (prts ts)
  have hs := starts8 (ts.map plen) (by rw [← prts_cnt]; omega) (by rw [List.length_map]; omega)
  have h0 := pick8_l1 d (by omega) (pick8 d (by omega)) ts at_ c h hn hp at_ [] rfl
  refine EvS ?_; simp only [spec_l8Pick.f]
  refine Ev.neg (by rw [List.length_map, lvl_len]; omega) (Ev.pos (by rw [List.length_map, lvl_len]; omega) (Ev.bind hs ?_))
  exact h0
theorem turnIdx_snoc (m : Nat) : ∀ (ns : List Nat) (a : Nat), turnIdx a (ns ++ [m]) = turnIdx a ns ++ (List.range m).map fun k => (a + ns.sum) + m - 1 - k
 | [], a => by simp [turnIdx]
 | n :: ns, a => by
  rw [List.cons_append, turnIdx, turnIdx_snoc m ns, turnIdx, List.append_assoc, List.sum_cons, show a + n + ns.sum = a + (n + ns.sum) by omega]
theorem turnIdx_len : ∀ (ns : List Nat) (a : Nat), (turnIdx a ns).length = ns.sum
 | [], _ => rfl
 | n :: ns, a => by rw [turnIdx, List.length_append, List.length_map, List.length_range, turnIdx_len ns, List.sum_cons]
theorem turns8_l1 (x0 : List Nat) (i a m : Nat) (hi : i < x0.length) (hm : x0[i] = m) (hb2 : a + m ≤ 2000000) (xs : List Nat) (hb : xs.length + m ≤ 2000000) (x9 : List Int) (x10 x11 : Int) {R : List Int}
 (h : Ev (fun k => spec_l8Turns.l0 k (ints x0) (ints (xs ++ (List.range m).map fun k => a + m - 1 - k)) x9 x10 (wrap64 (x11 + 1))) R) : ∀ (n j : Nat), m - j = n → j ≤ m →
 Ev (fun k => spec_l8Turns.l1 k (ints x0) (ints (xs ++ (List.range j).map fun k => a + m - 1 - k)) (i : Int) (a : Int) x9 x10 x11 (m : Int) (j : Int)) R := by
 intro n
 induction n with
 | zero =>
  intro j h1 h2
  obtain rfl : j = m := by omega
  refine EvS ?_; simp only [spec_l8Turns.l1]
  exact eM h
 | succ n ih =>
  intro j h1 h2
  have hnext := ih (j + 1) (by omega) (by omega)
  rw [List.range_succ, List.map_append, ← List.append_assoc, ints_app] at hnext
  have ew : wrap64 (wrap64 (wrap64 ((a : Int) + (m : Int)) - 1) - (j : Int)) = ((a + m - 1 - j : Nat) : Int) := by
   rw [wrapS (a := (a : Int) + (m : Int)) (by omega) (by omega), wrapS (a := (a : Int) + (m : Int) - 1) (by omega) (by omega), wrapS (by omega) (by omega)]
   omega
  refine EvS ?_; simp only [spec_l8Turns.l1]
  refine eO (eO (Ev.pos (by rw [List.length_map]; omega) (Ev.pos (by rw [List.length_map, List.length_append, List.length_map, List.length_range]; omega) ?_)))
  rw [rdN_at hi, hm, ew, wrapS (a := (j : Int) + 1) (by omega) (by omega)]
  exact hnext
theorem turns8 (ns : List Nat) (hs : ns.sum ≤ 1000000) (hl : ns.length ≤ 1000000) : Ev (fun k => spec_l8Turns.f k (ints ns)) (ints (turnIdx 0 ns)) := by
 have key : ∀ (rest done : List Nat), ns = done ++ rest → Ev (fun k => spec_l8Turns.l0 k (ints ns) (ints (turnIdx 0 done)) (ints (sts 0 ns)) ((ints (sts 0 ns)).length : Int) ((done.length : Nat) : Int)) (ints (turnIdx 0 ns)) := by
  intro rest
  induction rest with
  | nil =>
   intro done h1
   rw [List.append_nil] at h1
   refine EvS ?_; simp only [spec_l8Turns.l0]
   refine Ev.neg (by rw [List.length_map, sts_len, h1]; omega) (Ev.val ?_)
   rw [h1]
  | cons m rest ih =>
   intro done h1
   have hi : done.length < ns.length := by rw [h1]; simp
   have hat : ns[done.length] = m := by simp [h1]
   have hst : done.length < (sts 0 ns).length := by rw [sts_len]; exact hi
   have hse : (sts 0 ns)[done.length] = done.sum := by
    rw [sts_ge ns hst]
    simp [h1]
   have hle : done.sum + m ≤ ns.sum := by rw [h1]; simp
   have htl := turnIdx_len done 0
   have hnext := ih (done ++ [m]) (by rw [h1]; simp)
   rw [turnIdx_snoc, Nat.zero_add, List.length_append] at hnext
   refine EvS ?_; simp only [spec_l8Turns.l0]
   refine Ev.pos (by rw [List.length_map]; omega) (eO (Ev.pos (by rw [List.length_map]; omega) (Ev.pos (by rw [List.length_map]; omega) ?_)))
   rw [rdN_at hst, hse, rdN_at hi, hat]
   have := turns8_l1 ns done.length done.sum m hi hat (by omega) (turnIdx 0 done) (by omega) (ints (sts 0 ns)) ((ints (sts 0 ns)).length : Int) ((done.length : Nat) : Int) (R := ints (turnIdx 0 ns)) (by rw [wrapS (by omega) (by omega)]; exact hnext) _ 0 rfl (Nat.zero_le _)
   rw [List.range_zero, List.map_nil, List.append_nil] at this
   exact this
 unfold spec_l8Turns.f
 exact Ev.bind (starts8 ns hs hl) (key ns [] rfl)
def splitBy : List Nat → List Tr → List Tr
 | [], _ => []
 | n :: r, ts => ⟨0, ts.take n⟩ :: splitBy r (ts.drop n)
def up : List (List Nat) → List Nat → List Tr
 | [], D => D.map (fun n => ⟨n, []⟩)
 | r :: Ls, D => splitBy r (up Ls D)
def Val : Nat → List (List Nat) → List Nat → Prop
 | c, [], D => D.length = c
 | c, r :: Ls, D => r.length = c ∧ Val r.sum Ls D
theorem splitBy_len : ∀ (r : List Nat) (ts : List Tr), (splitBy r ts).length = r.length
 | [], _ => rfl
 | n :: r, ts => by
  show (splitBy r (ts.drop n)).length + 1 = _
  rw [splitBy_len r]
  rfl
theorem splitBy_plen : ∀ (r : List Nat) (ts : List Tr), r.sum ≤ ts.length → (splitBy r ts).map plen = r
 | [], _, _ => rfl
 | n :: r, ts, h => by
  rw [List.sum_cons] at h
  have ih := splitBy_plen r (ts.drop n) (by rw [List.length_drop]; omega)
  show (ts.take n).length :: (splitBy r (ts.drop n)).map plen = _
  rw [ih, List.length_take]
  congr 1
  omega
theorem splitBy_prts : ∀ (r : List Nat) (ts : List Tr), r.sum = ts.length → prts (splitBy r ts) = ts
 | [], ts, h => by
  have : ts = [] := List.eq_nil_of_length_eq_zero (by simpa using h.symm)
  rw [this]
  rfl
 | n :: r, ts, h => by
  rw [List.sum_cons] at h
  have ih := splitBy_prts r (ts.drop n) (by rw [List.length_drop]; omega)
  have e : prts (splitBy (n :: r) ts) = ts.take n ++ prts (splitBy r (ts.drop n)) := by simp [prts, splitBy]
  rw [e, ih, List.take_append_drop]
theorem splitBy_ok {d : Nat} : ∀ (r : List Nat) (ts : List Tr), (∀ t ∈ ts, Ok d t) → ∀ t ∈ splitBy r ts, Ok (d + 1) t
 | [], _, _ => fun t ht => by cases ht
 | n :: r, ts, h => fun t ht => by
  rcases List.mem_cons.1 ht with rfl | ht
  · exact ⟨rfl, fun x hx => h x (List.mem_of_mem_take hx)⟩
  · exact splitBy_ok r _ (fun x hx => h x (List.mem_of_mem_drop hx)) t ht
theorem up_is : ∀ (Ls : List (List Nat)) (D : List Nat) (c : Nat), Val c Ls D → (∀ n ∈ D, n < 10007) → (up Ls D).length = c ∧ lvl Ls.length (up Ls D) = Ls ∧ datN Ls.length (up Ls D) = D ∧ ∀ t ∈ up Ls D, Ok Ls.length t
 | [], D, c, h, hD => by
  refine ⟨by show (D.map _).length = c; rw [List.length_map]; exact h, rfl, ?_, fun t ht => ?_⟩
  · show (D.map (fun n => (⟨n, []⟩ : Tr))).map Tr.n = D
    rw [List.map_map]
    conv => rhs; rw [← List.map_id D]
    rfl
  · obtain ⟨n, hn, rfl⟩ := List.mem_map.1 ht
    exact ⟨hD n hn, rfl⟩
 | r :: Ls, D, c, h, hD => by
  obtain ⟨h1, h2⟩ := h
  obtain ⟨e1, e2, e3, e4⟩ := up_is Ls D r.sum h2 hD
  have hp := splitBy_prts r (up Ls D) e1.symm
  refine ⟨by show (splitBy r (up Ls D)).length = c; rw [splitBy_len]; exact h1, ?_, ?_, splitBy_ok r _ e4⟩
  · show (splitBy r (up Ls D)).map plen :: lvl Ls.length (prts (splitBy r (up Ls D))) = r :: Ls
    rw [hp, e2, splitBy_plen r _ (by omega)]
  · show datN Ls.length (prts (splitBy r (up Ls D))) = D
    rw [hp, e3]
theorem nodes_gen : ∀ (d : Nat) (ts : List Tr), (ts.map (nodes d)).sum = ((lvl d ts).map List.length).sum + (datN d ts).length
 | 0, ts => by
  show (ts.map (fun _ => 1)).sum = 0 + (ts.map Tr.n).length
  rw [List.length_map]
  induction ts with
  | nil => rfl
  | cons t ts ih => rw [List.map_cons, List.sum_cons, ih, List.length_cons]; omega
 | d + 1, ts => by
  have ih := nodes_gen d (prts ts)
  have e : (ts.map (nodes (d + 1))).sum = ts.length + ((prts ts).map (nodes d)).sum := by
   clear ih
   induction ts with
   | nil => rfl
   | cons t ts iht =>
    have e1 : prts (t :: ts) = t.parts ++ prts ts := by simp [prts]
    rw [e1, List.map_append, List.sum_append, List.map_cons, List.sum_cons, iht, List.length_cons]
    show 1 + (t.parts.map (nodes d)).sum + _ = _
    omega
  rw [e, ih]
  show _ = (((ts.map plen) :: lvl d (prts ts)).map List.length).sum + (datN d (prts ts)).length
  rw [List.map_cons, List.sum_cons, List.length_map]
  omega
def In (M : Nat) (r : List Int) : Prop := ∀ z ∈ r, 0 ≤ z ∧ z ≤ (M : Int)
instance (M : Nat) (r : List Int) : Decidable (In M r) := by unfold In; infer_instance
def isum (r : List Int) : Int := (r.map Int.toNat).sum
def wrongV (d : Nat) (D : List Int) : Nat → Int → List (List Int) → Int
 | _, c, [] => if (D.length : Int) = c ∧ In 10006 D then -1 else (d : Int)
 | i, c, r :: Ls => if i < 3 ∧ (r.length : Int) = c ∧ In 400 r then wrongV d D (i + 1) (isum r) Ls else (i : Int)
theorem wrongV_ok {d : Nat} {D : List Int} {i : Nat} {c : Int} (h : (D.length : Int) = c ∧ In 10006 D) : wrongV d D i c [] = -1 := if_pos h
theorem wrongV_no {d : Nat} {D : List Int} {i : Nat} {c : Int} (h : ¬ ((D.length : Int) = c ∧ In 10006 D)) : wrongV d D i c [] = (d : Int) := if_neg h
theorem wrongV_on {d : Nat} {D : List Int} {i : Nat} {c : Int} {r : List Int} {Ls : List (List Int)} (h : i < 3 ∧ (r.length : Int) = c ∧ In 400 r) : wrongV d D i c (r :: Ls) = wrongV d D (i + 1) (isum r) Ls := if_pos h
theorem wrongV_at {d : Nat} {D : List Int} {i : Nat} {c : Int} {r : List Int} {Ls : List (List Int)} (h : ¬ (i < 3 ∧ (r.length : Int) = c ∧ In 400 r)) : wrongV d D i c (r :: Ls) = (i : Int) := if_neg h
theorem in_ints {M : Nat} {r : List Int} (h : In M r) : r = ints (r.map Int.toNat) ∧ ∀ x ∈ r.map Int.toNat, x ≤ M := by
 constructor
 · show r = (r.map Int.toNat).map (fun n : Nat => (n : Int))
   rw [List.map_map]
   conv => lhs; rw [← List.map_id r]
   refine List.map_congr_left (fun z hz => ?_)
   have := h z hz
   show z = ((z.toNat : Nat) : Int)
   omega
 · intro x hx
   obtain ⟨z, hz, rfl⟩ := List.mem_map.1 hx
   have := h z hz
   omega
theorem within_dec (r : List Int) (M : Nat) (hl : r.length ≤ 1000000) : impl_within.f r (M : Int) = some (decide (In M r)) := by
 unfold impl_within.f
 rw [if_pos (by omega)]
 congr 1
 by_cases h : In M r
 · rw [decide_eq_true h]
   have : r.any (outR (M : Int)) = false := by
    rw [List.any_eq_false]
    intro z hz
    have := h z hz
    simp [outR]
    omega
   rw [this]
   rfl
 · rw [decide_eq_false h]
   have : r.any (outR (M : Int)) = true := by
    rw [List.any_eq_true]
    by_cases hc : ∃ z ∈ r, outR (M : Int) z = true
    · exact hc
    · exfalso
      refine h (fun z hz => ?_)
      have hz2 : ¬ outR (M : Int) z = true := fun e => hc ⟨z, hz, e⟩
      simp [outR] at hz2
      omega
   rw [this]
   rfl
theorem sum_bd (M : Nat) : ∀ (xs : List Nat), (∀ x ∈ xs, x ≤ M) → xs.sum ≤ xs.length * M
 | [], _ => by simp
 | x :: xs, h => by
  have h1 := h x (by simp)
  have h2 := sum_bd M xs (fun y hy => h y (List.mem_cons_of_mem _ hy))
  rw [List.sum_cons, List.length_cons, Nat.succ_mul]
  omega
theorem total_in {r : List Int} (h : In 400 r) (hl : r.length ≤ 2000) : Ev (fun k => impl_total.f k r) (isum r) := by
 obtain ⟨e1, e2⟩ := in_ints h
 have hs := sum_bd 400 (r.map Int.toNat) e2
 have := total_is (r.map Int.toNat) (by rw [List.length_map] at hs; omega) (by rw [List.length_map]; omega)
 rw [← e1] at this
 exact this
theorem in_nil {M : Nat} : In M [] := fun z hz => by cases hz
theorem in_cons {M : Nat} {z : Int} {r : List Int} : In M (z :: r) ↔ (0 ≤ z ∧ z ≤ (M : Int)) ∧ In M r := by
 unfold In
 simp
theorem getL {L : List (List Int)} {i : Nat} (h : i < L.length) : rd_L1 L (i : Int) = L[i] := by
 show L.getD i [] = _
 rw [List.getD_eq_getElem?_getD, List.getElem?_eq_getElem h]
 rfl
theorem wrongA_l0 (L : List (List Int)) (D : List Int) (hL : L.length ≤ 1000) (hb : ∀ r ∈ L, r.length ≤ 2000) (hD : D.length ≤ 2000) : ∀ (n i : Nat) (c : Int), L.length - i = n → i ≤ L.length → i ≤ 3 → Ev (fun k => impl_wrong.l0 k c L (L.length : Int) (i : Int) L D) (wrongV L.length D i c (L.drop i)) := by
 intro n
 induction n with
 | zero =>
  intro i c h1 h2 h3
  rw [List.drop_eq_nil_of_le (by omega)]
  have hw := within_dec D 10006 (by omega)
  refine EvS ?_; simp only [impl_wrong.l0]
  refine eM ?_
  by_cases hc : (D.length : Int) = c
  · refine Ev.pos hc (Ev.call hw ?_)
    by_cases hI : In 10006 D
    · rw [wrongV_ok ⟨hc, hI⟩]
      exact Ev.pos (decide_eq_true hI) (Ev.now _)
    · rw [wrongV_no (fun h => hI h.2)]
      exact Ev.neg (by simpa using hI) (Ev.now _)
  · rw [wrongV_no (fun h => hc h.1)]
    exact Ev.neg hc (Ev.now _)
 | succ n ih =>
  intro i c h1 h2 h3
  have hi : i < L.length := by omega
  rw [List.drop_eq_getElem_cons hi]
  have hw := within_dec L[i] 400 (Nat.le_trans (hb _ (List.getElem_mem hi)) (by omega))
  refine EvS ?_; simp only [impl_wrong.l0]
  refine eO (eO (eO ?_))
  by_cases h3' : (i : Int) = 3
  · rw [wrongV_at (fun h => by omega)]
    exact Ev.pos h3' (Ev.now _)
  · refine Ev.neg h3' ?_
    rw [getL hi]
    by_cases hc : (L[i].length : Int) = c
    · refine Ev.pos hc (Ev.call hw ?_)
      by_cases hI : In 400 L[i]
      · rw [wrongV_on ⟨by omega, hc, hI⟩]
        refine Ev.pos (decide_eq_true hI) (Ev.bind (total_in hI (hb _ (List.getElem_mem hi))) ?_)
        rw [wrapS (by omega) (by omega)]
        exact ih (i + 1) _ (by omega) (by omega) (by omega)
      · rw [wrongV_at (fun h => hI h.2.2)]
        exact Ev.neg (by simpa using hI) (Ev.now _)
    · rw [wrongV_at (fun h => hc h.2.1)]
      exact Ev.neg hc (Ev.now _)
theorem wrongV_le (D : List Int) : ∀ (Ls : List (List Int)) (d i : Nat) (c : Int), i + Ls.length = d → wrongV d D i c Ls = -1 ∨ (0 ≤ wrongV d D i c Ls ∧ wrongV d D i c Ls ≤ (d : Int))
 | [], d, i, c, h => by
  unfold wrongV
  split
  · exact .inl rfl
  · exact .inr ⟨by omega, by omega⟩
 | r :: Ls, d, i, c, h => by
  rw [List.length_cons] at h
  unfold wrongV
  split
  · exact wrongV_le D Ls d (i + 1) _ (by omega)
  · exact .inr ⟨by omega, by omega⟩
theorem wrongV_val (D : List Int) : ∀ (Ls : List (List Int)) (d i c : Nat), wrongV d D i (c : Int) Ls = -1 → ∃ (Ns : List (List Nat)) (Dn : List Nat), Ls = Ns.map ints ∧ D = ints Dn ∧ Val c Ns Dn ∧ (∀ n ∈ Dn, n < 10007) ∧ (Ls = [] ∨ i + Ls.length ≤ 3)
 | [], d, i, c, h => by
  unfold wrongV at h
  split at h
  · next hc =>
    obtain ⟨e1, e2⟩ := in_ints hc.2
    refine ⟨[], D.map Int.toNat, rfl, e1, ?_, fun n hn => by have := e2 n hn; omega, .inl rfl⟩
    show (D.map Int.toNat).length = c
    rw [List.length_map]
    omega
  · omega
 | r :: Ls, d, i, c, h => by
  unfold wrongV at h
  split at h
  · next hc =>
    obtain ⟨h3, hl, hI⟩ := hc
    obtain ⟨e1, e2⟩ := in_ints hI
    obtain ⟨Ns, Dn, q1, q2, q3, q4, q5⟩ := wrongV_val D Ls d (i + 1) (r.map Int.toNat).sum h
    refine ⟨r.map Int.toNat :: Ns, Dn, by rw [List.map_cons, ← e1, ← q1], q2, ⟨by rw [List.length_map]; omega, q3⟩, q4, .inr ?_⟩
    rw [List.length_cons]
    rcases q5 with rfl | q5
    · simp; omega
    · omega
  · omega
theorem vals_lens (ts : List Tr) : (ts.map vals).map List.length = ts.map plen := by
 rw [List.map_map]
 exact List.map_congr_left (fun t _ => by simp [plen])
theorem map_flatten' {α β γ : Type} (f : α → List β) (g : β → γ) : ∀ (l : List α), ((l.map f).flatten).map g = (l.map fun x => (f x).map g).flatten
 | [] => rfl
 | x :: l => by simp only [List.map_cons, List.flatten_cons, List.map_append, map_flatten' f g l]
theorem vals_flat (ts : List Tr) : (ts.map vals).flatten = datN 1 ts := by
 show _ = (prts ts).map Tr.n
 unfold prts
 rw [map_flatten']
theorem nums_id (l : List Nat) : (l.map n0).map Tr.n = l := by rw [List.map_map]; exact List.map_id l
theorem nums_n (ts : List Tr) (f : Tr → Nat) : (ts.map fun t => n0 (f t)).map Tr.n = ts.map f := by
 rw [List.map_map]
 rfl
theorem vec0 (ts : List Tr) (f : Tr → Nat) (g : Tr → Tr) (h : ∀ t ∈ ts, g t = n0 (f t)) : vec 0 (ts.map g) = ((ts.length : Int), [], ints (ts.map f)) := by
 have e : ts.map g = ts.map fun t => n0 (f t) := List.map_congr_left h
 show (((ts.map g).length : Int), [], ints ((ts.map g).map Tr.n)) = _
 rw [e, nums_n, List.length_map]
theorem vecS (d : Nat) (ts : List Tr) (g : Tr → Tr) : vec (d + 1) (ts.map g) = ((ts.length : Int), ints (ts.map fun t => (g t).parts.length) :: (lvl d ((ts.map fun t => (g t).parts).flatten)).map ints, ints (datN d ((ts.map fun t => (g t).parts).flatten))) := by
 have e1 : (ts.map g).map plen = ts.map fun t => (g t).parts.length := by rw [List.map_map]; rfl
 have e2 : prts (ts.map g) = (ts.map fun t => (g t).parts).flatten := by unfold prts; rw [List.map_map]; rfl
 show (((ts.map g).length : Int), ints ((ts.map g).map plen) :: (lvl d (prts (ts.map g))).map ints, ints (datN d (prts (ts.map g)))) = _
 rw [e1, e2, List.length_map]
theorem tmodI (a : Nat) : Int.tmod (a : Int) 10007 = ((a % 10007 : Nat) : Int) := tmodM a
theorem one_N (ns : List Nat) (hl : ns.length ≤ 1000000) : ∀ (rest done : List Nat), ns = done ++ rest → Ev (fun k => spec_l8One.l0 k (ints (done.map (· % 10007))) (ints ns) ((ints ns).length : Int) ((done.length : Nat) : Int)) ((ns.length : Int), [], ints (ns.map (· % 10007))) := by
 intro rest
 induction rest with
 | nil =>
  intro done h1
  rw [List.append_nil] at h1
  subst h1
  refine EvS ?_; simp only [spec_l8One.l0]
  refine Ev.neg (by rw [List.length_map]; omega) (Ev.call (plain8 _) (Ev.val ?_))
  rw [List.length_map, List.length_map]
 | cons m rest ih =>
  intro done h1
  have hi : done.length < ns.length := by rw [h1]; simp
  have hat : ns[done.length] = m := by simp [h1]
  have hnext := ih (done ++ [m]) (by rw [h1]; simp)
  rw [List.map_append, ints_app, List.length_append] at hnext
  refine EvS ?_; simp only [spec_l8One.l0]
  refine Ev.pos (by rw [List.length_map]; omega) (eO (Ev.pos (by rw [List.length_map]; omega) (Ev.pos (by rw [List.length_map, List.length_map]; omega) ?_)))
  rw [rdN_at hi, hat, wrapS (by omega) (by omega), tmodI]
  exact hnext
theorem one_I (ns : List Nat) (hl : ns.length ≤ 10000) : ∀ (rest done : List Nat), ns = done ++ rest → Ev (fun k => spec_l8One.l2 k (ints (done.map (min · 12))) (ints ns) ((ints ns).length : Int) ((done.length : Nat) : Int)) ((ns.length : Int), [ints (ns.map (min · 12))], ints (((ns.map (min · 12)).map List.range).flatten)) := by
 intro rest
 induction rest with
 | nil =>
  intro done h1
  rw [List.append_nil] at h1
  subst h1
  have hs := sum_bd 12 (ns.map (min · 12)) (fun x hx => by obtain ⟨y, _, rfl⟩ := List.mem_map.1 hx; exact Nat.min_le_right _ _)
  rw [List.length_map] at hs
  have hu := up8 (ns.map (min · 12)) (by omega) (by rw [List.length_map]; omega)
  refine EvS ?_; simp only [spec_l8One.l2]
  refine Ev.neg (by rw [List.length_map]; omega) (Ev.bind hu (Ev.call (plain8 _) (Ev.call (outer8 _ _ _ _ (by simp)) (Ev.val ?_))))
  simp
 | cons m rest ih =>
  intro done h1
  have hi : done.length < ns.length := by rw [h1]; simp
  have hat : ns[done.length] = m := by simp [h1]
  have hnext := ih (done ++ [m]) (by rw [h1]; simp)
  rw [List.map_append, ints_app, List.length_append] at hnext
  have e : mn (m : Int) 12 = ((min m 12 : Nat) : Int) := by
   unfold mn
   split <;> omega
  refine EvS ?_; simp only [spec_l8One.l2]
  refine Ev.pos (by rw [List.length_map]; omega) (eO (Ev.pos (by rw [List.length_map]; omega) (Ev.pos (by rw [List.length_map, List.length_map]; omega) ?_)))
  rw [rdN_at hi, hat, wrapS (by omega) (by omega), e]
  exact hnext
theorem one_C (segs : List (List Nat)) (hs : segs.flatten.sum ≤ 1000000) (hf : segs.flatten.length ≤ 1000000) (hl : segs.length ≤ 1000000) (c : Int) (L : List (List Int)) (D : List Int) {R : V3}
 (h : Ev (fun k => (spec_l8Inner.f k c L D).bind fun bt879 => ((spec_l8Inner.f k bt879.1 bt879.2.1 bt879.2.2).bind fun bt886 => ((spec_l8Outer.f (ints (segs.map List.sum)) bt886.1 bt886.2.1 bt886.2.2).bind fun bt893 => (some (bt893.1, bt893.2.1, bt893.2.2))))) R) :
 ∀ (rest done : List (List Nat)), segs = done ++ rest → Ev (fun k => spec_l8One.l1 k (ints (done.map List.sum)) (segs.map ints) ((segs.map ints).length : Int) ((done.length : Nat) : Int) c L D) R := by
 intro rest
 induction rest with
 | nil =>
  intro done h1
  rw [List.append_nil] at h1
  subst h1
  refine EvS ?_; simp only [spec_l8One.l1]
  exact Ev.neg (by rw [List.length_map]; omega) h
 | cons s rest ih =>
  intro done h1
  have hi : done.length < segs.length := by rw [h1]; simp
  have hat : segs[done.length] = s := by simp [h1]
  have hnext := ih (done ++ [s]) (by rw [h1]; simp)
  rw [List.map_append, ints_app, List.length_append] at hnext
  have hle : s.sum ≤ segs.flatten.sum := by rw [h1]; simp [List.sum_append]; omega
  have hle2 : s.length ≤ segs.flatten.length := by rw [h1]; simp; omega
  have ht := total8 s (by omega) (by omega)
  refine EvS ?_; simp only [spec_l8One.l1]
  refine Ev.pos (by rw [List.length_map]; omega) (eO (Ev.pos (by rw [List.length_map]; omega) ?_))
  rw [rdS_at hi, hat, wrapS (by omega) (by omega)]
  exact Ev.bind ht (Ev.pos (by rw [List.length_map, List.length_map]; omega) hnext)
theorem flat_flat (ts : List Tr) : (ts.map fun t => (t.parts.map (·.parts)).flatten).flatten = prts (prts ts) := by
 induction ts with
 | nil => rfl
 | cons t ts ih =>
  have e1 : prts (t :: ts) = t.parts ++ prts ts := by simp [prts]
  rw [List.map_cons, List.flatten_cons, ih, e1, prts_app]
  rfl
theorem flat_plen (ts : List Tr) : (ts.map fun t => t.parts.map plen).flatten = (prts ts).map plen := by
 unfold prts
 rw [map_flatten']
theorem sums_flat (ts : List Tr) : (ts.map fun t => t.parts.map plen).map List.sum = ts.map fun t => ((t.parts.map (·.parts)).flatten).length := by
 rw [List.map_map]
 refine List.map_congr_left (fun t _ => ?_)
 show (t.parts.map plen).sum = _
 rw [List.length_flatten, List.map_map]
 rfl
theorem one8 {c : UInt8} {d : Nat} {ts : List Tr} (hd : d ≤ 3) (hok : ∀ t ∈ ts, Ok d t) (hn : (ts.map (nodes d)).sum ≤ 10000) (hg : ¬ sg1 c (d : Int) < 0) :
 Ev (fun k => spec_l8One.f k (c.toNat : Int) (ts.length : Int) ((lvl d ts).map ints) (ints (datN d ts))) (vec (eg c d) (ts.map (gv1 c))) := by
 have htl := sum_cnt (nodes d) (nodes_pos d) ts
 rcases sg_dep hg with ⟨hc, rfl, he⟩ | ⟨rfl, rfl, he⟩ | ⟨rfl, rfl, he⟩ | ⟨rfl, ⟨e, rfl⟩, he⟩ | ⟨rfl, ⟨e, rfl⟩, he⟩ | ⟨rfl, e, rfl, he⟩ <;> rw [he]
 · have hpn : ((prts ts).map (nodes 0)).sum ≤ (ts.map (nodes 1)).sum := prts_nodes 0 ts
   have hpc := sum_cnt (nodes 0) (nodes_pos 0) (prts ts)
   have hfl : (ts.map vals).flatten.length ≤ 1000000 := by rw [vals_flat]; show ((prts ts).map Tr.n).length ≤ _; rw [List.length_map]; omega
   rcases hc with rfl | rfl
   · have h := sums8 (ts.map vals) (fun s hs => by obtain ⟨t, ht, rfl⟩ := List.mem_map.1 hs; exact vals_lt (hok t ht)) hfl (by rw [List.length_map]; omega)
     rw [vals_lens, vals_flat, List.map_map] at h
     rw [vec0 ts (fun t => (vals t).sum % 10007) (gv1 83) (fun t _ => rfl)]
     unfold spec_l8One.f
     refine Ev.pos (by first | trivial | rfl) (Ev.pos (by rw [List.length_map, lvl_len]; decide) (Ev.bind h (Ev.call (plain8 _) (Ev.val ?_))))
     rw [List.length_map, List.length_map]
     rfl
   · have h := most8 (ts.map vals) hfl (by rw [List.length_map]; omega)
     rw [vals_lens, vals_flat, List.map_map] at h
     rw [vec0 ts (fun t => (vals t).foldl max 0) (gv1 77) (fun t _ => rfl)]
     unfold spec_l8One.f
     refine Ev.neg (by decide) (Ev.pos (by first | trivial | rfl) (Ev.pos (by rw [List.length_map, lvl_len]; decide) (Ev.bind h (Ev.call (plain8 _) (Ev.val ?_)))))
     rw [List.length_map, List.length_map]
     rfl
 · have hpn : ((prts ts).map (nodes 0)).sum ≤ (ts.map (nodes 1)).sum := prts_nodes 0 ts
   have hpc := sum_cnt (nodes 0) (nodes_pos 0) (prts ts)
   have hfl : (ts.map vals).flatten.length ≤ 1000000 := by rw [vals_flat]; show ((prts ts).map Tr.n).length ≤ _; rw [List.length_map]; omega
   have h := scans8 (ts.map vals) (fun s hs => by obtain ⟨t, ht, rfl⟩ := List.mem_map.1 hs; exact vals_lt (hok t ht)) hfl (by rw [List.length_map]; omega)
   rw [vals_lens, vals_flat, List.map_map] at h
   rw [vecS]
   unfold spec_l8One.f
   refine Ev.neg (by decide) (Ev.neg (by decide) (Ev.neg (by decide) (Ev.pos (by first | trivial | rfl) (Ev.pos (by rw [List.length_map, lvl_len]; decide) (Ev.bind h (Ev.call (plain8 _) (Ev.call (outer8 _ _ _ _ (by simp)) (Ev.val ?_))))))))
   have e1 : (ts.map fun t => (gv1 80 t).parts.length) = ts.map plen := List.map_congr_left (fun t _ => by
    show ((psm 0 (vals t)).map n0).length = _
    rw [List.length_map, psm_len, List.length_map]
    rfl)
   have e2 : datN 0 ((ts.map fun t => (gv1 80 t).parts).flatten) = (ts.map (psm 0 ∘ vals)).flatten := by
    show ((ts.map fun t => (gv1 80 t).parts).flatten).map Tr.n = _
    rw [map_flatten']
    congr 1
    refine List.map_congr_left (fun t _ => ?_)
    show ((psm 0 (vals t)).map n0).map Tr.n = _
    exact nums_id _
   rw [e1, e2]
   show (((ints (ts.map plen)).length : Int), _, _) = _
   rw [List.length_map, List.length_map]
   rfl
 · have h := one_I (ts.map Tr.n) (by rw [List.length_map]; omega) (ts.map Tr.n) [] rfl
   rw [vecS]
   unfold spec_l8One.f
   refine Ev.neg (by decide) (Ev.neg (by decide) (Ev.neg (by decide) (Ev.neg (by decide) (Ev.neg (by decide) (Ev.neg (by decide) (evIs h ?_))))))
   have e1 : (ts.map fun t => (gv1 73 t).parts.length) = (ts.map Tr.n).map (min · 12) := by
    rw [List.map_map]
    refine List.map_congr_left (fun t _ => ?_)
    show ((List.range (min t.n 12)).map n0).length = _
    rw [List.length_map, List.length_range]
    rfl
   have e2 : datN 0 ((ts.map fun t => (gv1 73 t).parts).flatten) = (((ts.map Tr.n).map (min · 12)).map List.range).flatten := by
    show ((ts.map fun t => (gv1 73 t).parts).flatten).map Tr.n = _
    rw [map_flatten', List.map_map, List.map_map]
    congr 1
    refine List.map_congr_left (fun t _ => ?_)
    show ((List.range (min t.n 12)).map n0).map Tr.n = _
    exact nums_id _
   rw [e1, e2, List.length_map]
   rfl
 · have h := one_N (ts.map plen) (by rw [List.length_map]; omega) (ts.map plen) [] rfl
   rw [vec0 ts (fun t => t.parts.length % 10007) (gv1 78) (fun t _ => rfl)]
   unfold spec_l8One.f
   refine Ev.neg (by decide) (Ev.neg (by decide) (Ev.pos (by first | trivial | rfl) (Ev.pos (by rw [List.length_map, lvl_len]; omega) (evIs h ?_))))
   rw [List.length_map, List.map_map]
   rfl
 · have hpn := prts_nodes e ts
   have hpc := sum_cnt (nodes e) (nodes_pos e) (prts ts)
   have hin := inner8 e ts (ts.length : Int) (ints (datN e (prts ts))) (by omega) (by omega)
   have htn := turns8 (ts.map plen) (by rw [← prts_cnt]; omega) (by rw [List.length_map]; omega)
   have htp := turn_picks [] ts
   rw [List.nil_append] at htp
   have htp : picks (prts ts) (turnIdx 0 (ts.map plen)) = prts (ts.map fun t => (⟨0, t.parts.reverse⟩ : Tr)) := htp
   have hle : ((prts (ts.map fun t => (⟨0, t.parts.reverse⟩ : Tr))).map (nodes e)).sum ≤ 10000 := by
    have h1 := prts_nodes e (ts.map fun t => (⟨0, t.parts.reverse⟩ : Tr))
    have h2 : ((ts.map fun t => (⟨0, t.parts.reverse⟩ : Tr)).map (nodes (e + 1))) = ts.map (nodes (e + 1)) := by
     rw [List.map_map]
     refine List.map_congr_left (fun t _ => ?_)
     show 1 + (t.parts.reverse.map (nodes e)).sum = 1 + (t.parts.map (nodes e)).sum
     rw [List.map_reverse, sumRev]
    rw [h2] at h1
    omega
   have hpk := pick8 e (by omega) (prts ts) (turnIdx 0 (ts.map plen)) ((prts ts).length : Int) (fun i hi => by
    have := turn_lt (ts.map plen) 0 i hi
    rw [← prts_cnt] at this
    omega) (by omega) (by rw [htp]; omega)
   rw [htp] at hpk
   have hl0 : rd_L1 ((lvl (e + 1) ts).map ints) 0 = ints (ts.map plen) := rfl
   rw [vecS]
   unfold spec_l8One.f
   refine Ev.neg (by decide) (Ev.neg (by decide) (Ev.neg (by decide) (Ev.neg (by decide) (Ev.pos (by first | trivial | rfl) (Ev.pos (by rw [List.length_map, lvl_len]; omega) ?_)))))
   rw [hl0]
   refine Ev.bind hin (Ev.bind htn (Ev.bind hpk (Ev.call (outer8 _ _ _ _ (by rw [List.length_map, lvl_len]; omega)) (Ev.val ?_))))
   have e1 : (ts.map fun t => (gv1 82 t).parts.length) = ts.map plen := List.map_congr_left (fun t _ => List.length_reverse)
   have e2 : (ts.map fun t => (gv1 82 t).parts).flatten = prts (ts.map fun t => (⟨0, t.parts.reverse⟩ : Tr)) := by
    unfold prts
    rw [List.map_map]
    rfl
   rw [e1, e2]
   show (((ints (ts.map plen)).length : Int), _, _) = _
   rw [List.length_map, List.length_map]
 · have hpn : ((prts ts).map (nodes (e + 1))).sum ≤ (ts.map (nodes (e + 2))).sum := prts_nodes (e + 1) ts
   have hpc := sum_cnt (nodes (e + 1)) (nodes_pos (e + 1)) (prts ts)
   have hpn2 := prts_nodes e (prts ts)
   have hpc2 := sum_cnt (nodes e) (nodes_pos e) (prts (prts ts))
   have hin := inner8 (e + 1) ts (ts.length : Int) (ints (datN e (prts (prts ts)))) (by omega) (by omega)
   have hin2 := inner8 e (prts ts) ((prts ts).length : Int) (ints (datN e (prts (prts ts)))) (by omega) (by omega)
   have hl0 : rd_L1 ((lvl (e + 2) ts).map ints) 0 = ints (ts.map plen) := rfl
   have hl1 : rd_L1 ((lvl (e + 2) ts).map ints) 1 = ints ((prts ts).map plen) := rfl
   have hsg : (ts.map fun t => t.parts.map plen).map List.length = ts.map plen := by
    rw [List.map_map]
    exact List.map_congr_left (fun t _ => by simp [plen])
   have hfs : (ts.map fun t => t.parts.map plen).flatten.sum ≤ 1000000 := by rw [flat_plen, ← prts_cnt]; omega
   have hfl : (ts.map fun t => t.parts.map plen).flatten.length ≤ 1000000 := by rw [flat_plen, List.length_map]; omega
   have hcut := cut8 (ts.map fun t => t.parts.map plen) hfl (by rw [List.length_map]; omega)
   rw [hsg, flat_plen] at hcut
   rw [vecS]
   have hgo := one_C (ts.map fun t => t.parts.map plen) hfs hfl (by rw [List.length_map]; omega) (ts.length : Int) ((lvl (e + 2) ts).map ints) (ints (datN e (prts (prts ts))))
    (R := ((ts.length : Int), ints (ts.map fun t => (gv1 67 t).parts.length) :: (lvl e ((ts.map fun t => (gv1 67 t).parts).flatten)).map ints, ints (datN e ((ts.map fun t => (gv1 67 t).parts).flatten))))
    (Ev.bind hin (Ev.bind hin2 (Ev.call (outer8 _ _ _ _ (by rw [List.length_map, lvl_len]; omega)) (Ev.val (by
     have e2 : (ts.map fun t => (gv1 67 t).parts).flatten = prts (prts ts) := flat_flat ts
     rw [e2, sums_flat]
     show (((ints _).length : Int), _, _) = _
     rw [List.length_map, List.length_map]
     rfl))))) (ts.map fun t => t.parts.map plen) [] rfl
   unfold spec_l8One.f
   refine Ev.neg (by decide) (Ev.neg (by decide) (Ev.neg (by decide) (Ev.neg (by decide) (Ev.neg (by decide) (Ev.pos (by first | trivial | rfl) (Ev.pos (by rw [List.length_map, lvl_len]; omega) (Ev.pos (by rw [List.length_map, lvl_len]; omega) ?_)))))))
   rw [hl0, hl1]
   exact Ev.bind hcut hgo
theorem num2' (c : UInt8) (a b : Nat) (ha : a < 10007) (hb : b < 10007) (hc : c = 43 ∨ c = 42 ∨ c = 94 ∨ c = 45 ∨ c = 61 ∨ c = 60) : spec_l6Number.f (c.toNat : Int) (a : Int) (b : Int) = some ((op2 c a b : Nat) : Int) := num2 c a b ha hb hc
theorem Nlt {a b : Nat} (h : a < b) : (a : Int) < (b : Int) := Int.ofNat_lt.2 h
theorem ei8 (i : Nat) (h : i ≤ 1000000) : wrap64 ((i : Int) + 1) = ((i + 1 : Nat) : Int) := by rw [wrapS (by omega) (by omega)]; rfl
section
variable (c : UInt8) (xs ys : List Nat) (hl : xs.length = ys.length) (hx : ∀ x ∈ xs, x < 10007) (hy : ∀ x ∈ ys, x < 10007) (hc : c = 43 ∨ c = 42 ∨ c = 94 ∨ c = 45 ∨ c = 61 ∨ c = 60) (hlen : xs.length ≤ 10000) (m0 y0 : Int) (L : List (List Int))
include hl hx hy hc hlen
theorem two8_op : ∀ (n i : Nat), xs.length - i = n → i ≤ xs.length → Ev (fun k => spec_l8Two.l0 k (c.toNat : Int) (ints ((List.zipWith (op2 c) xs ys).take i)) (xs.length : Int) (i : Int) m0 L (ints xs) y0 [] (ints ys)) ((xs.length : Int), [], ints (List.zipWith (op2 c) xs ys)) := by
 have hzl : (List.zipWith (op2 c) xs ys).length = xs.length := by rw [List.length_zipWith, ← hl, Nat.min_self]
 intro n
 induction n with
 | zero =>
  intro i h1 h2
  refine EvS ?_; simp only [spec_l8Two.l0]
  refine eM (Ev.call (plain8 _) (Ev.val ?_))
  rw [List.take_of_length_le (by omega), ints_len, hzl]
 | succ n ih =>
  intro i h1 h2
  have hi : i < xs.length := by omega
  have hi2 : i < ys.length := by omega
  have hiz : i < (List.zipWith (op2 c) xs ys).length := by omega
  have hnext := ih (i + 1) (by omega) (by omega)
  rw [take_snoc _ _ hiz, ints_app, List.getElem_zipWith] at hnext
  have hne : c ≠ 64 := by rintro rfl; simp at hc
  have hne2 : ¬ (c.toNat : Int) = 64 := fun h => hne ((cn c 64 (by omega)).1 h)
  have hb1 : (i : Int) < ((ints xs).length : Int) := by rw [ints_len]; exact Nlt hi
  have hb2 : (i : Int) < ((ints ys).length : Int) := by rw [ints_len]; exact Nlt hi2
  have hb3 : (ints ((List.zipWith (op2 c) xs ys).take i)).length < 17592186044416 := by rw [ints_len, List.length_take]; omega
  have hop := num2' c xs[i] ys[i] (hx _ (List.getElem_mem hi)) (hy _ (List.getElem_mem hi2)) hc
  have hei := ei8 i (by omega)
  clear ih
  refine EvS ?_; simp only [spec_l8Two.l0]
  rw [rdN_at hi, rdN_at hi2, hei]
  exact Ev.pos (Nlt hi) (Ev.neg hne2 (Ev.pos (nn i) (Ev.pos hb1 (Ev.pos hb2 (Ev.call hop (Ev.pos hb3 hnext))))))
end
section
variable (segs : List (List Nat)) (ys : List Nat) (hl : segs.length = ys.length) (hf : segs.flatten.length ≤ 10000) (hlen : segs.length ≤ 10000) (m0 y0 : Int)
include hl hf hlen
theorem two8_at : ∀ (n i : Nat), segs.length - i = n → i ≤ segs.length → Ev (fun k => spec_l8Two.l0 k (((64 : UInt8).toNat : Nat) : Int) (ints ((List.zipWith (fun s y => s.getD y 0) segs ys).take i)) (segs.length : Int) (i : Int) m0 [ints (segs.map List.length)] (ints segs.flatten) y0 [] (ints ys)) ((segs.length : Int), [], ints (List.zipWith (fun s y => s.getD y 0) segs ys)) := by
 have hzl : (List.zipWith (fun (s : List Nat) y => s.getD y 0) segs ys).length = segs.length := by rw [List.length_zipWith, ← hl, Nat.min_self]
 intro n
 induction n with
 | zero =>
  intro i h1 h2
  refine EvS ?_; simp only [spec_l8Two.l0]
  refine eM (Ev.call (plain8 _) (Ev.val ?_))
  rw [List.take_of_length_le (by omega), ints_len, hzl]
 | succ n ih =>
  intro i h1 h2
  have hi : i < segs.length := by omega
  have hi2 : i < ys.length := by omega
  have hiz : i < (List.zipWith (fun (s : List Nat) y => s.getD y 0) segs ys).length := by omega
  have hnext := ih (i + 1) (by omega) (by omega)
  rw [take_snoc _ _ hiz, ints_app, List.getElem_zipWith] at hnext
  have hil : i < (segs.map List.length).length := by rw [List.length_map]; exact hi
  have hb2 : (i : Int) < ((ints ys).length : Int) := by rw [ints_len]; exact Nlt hi2
  have hb3 : (ints ((List.zipWith (fun (s : List Nat) y => s.getD y 0) segs ys).take i)).length < 17592186044416 := by rw [ints_len, List.length_take]; omega
  have hb4 : (i : Int) < ((ints (segs.map List.length)).length : Int) := by rw [ints_len]; exact Nlt hil
  have hei := ei8 i (by omega)
  have hg : segs[i]? = some segs[i] := List.getElem?_eq_getElem hi
  have hle := seg_le segs i _ hg
  obtain ⟨a, ha⟩ : ∃ a, a = ((segs.map List.length).take i).sum := ⟨_, rfl⟩
  have htk := total8 ((segs.map List.length).take i) (Nat.le_trans (sum_take_le _ i) (by rw [← len_flat]; exact Nat.le_trans hf (by decide))) (by rw [List.length_take, List.length_map]; exact Nat.le_trans (Nat.min_le_right _ _) (Nat.le_trans hlen (by decide)))
  rw [← ha] at hle htk
  have etk : (ints (segs.map List.length)).take ((i : Nat) : Int).toNat = ints ((segs.map List.length).take i) := by rw [Int.toNat_natCast, ← List.map_take]
  clear ih
  refine EvS ?_; simp only [spec_l8Two.l0]
  rw [rd0, rdN_at hi2, rdN_at hil, List.getElem_map, etk, hei]
  refine Ev.pos (Nlt hi) (Ev.pos (by first | trivial | rfl) (Ev.pos (nn i) (Ev.pos hb2 (eP (Ev.pos hb4 ?_)))))
  by_cases hlt : ys[i] < segs[i].length
  · have hel := seg_el segs i ys[i] segs[i] segs[i][ys[i]] hg (List.getElem?_eq_getElem hlt)
    rw [← ha] at hel
    have hlt2 : a + ys[i] < segs.flatten.length := by omega
    have hpk : segs[i].getD ys[i] 0 = segs.flatten[a + ys[i]] := by
     rw [List.getElem?_eq_getElem hlt2] at hel
     rw [List.getD_eq_getElem?_getD, List.getElem?_eq_getElem hlt, Option.some.inj hel]
     rfl
    have ew2 : wrap64 ((a : Int) + (ys[i] : Int)) = ((a + ys[i] : Nat) : Int) := by rw [wrapS (by omega) (by omega)]; rfl
    have hb5 : ((a + ys[i] : Nat) : Int) < ((ints segs.flatten).length : Int) := by rw [ints_len]; exact Nlt hlt2
    have hb6 : (i : Int) ≤ ((ints (segs.map List.length)).length : Int) := Int.le_of_lt hb4
    rw [hpk] at hnext
    refine Ev.pos (Nlt hlt) (Ev.pos hb6 (Ev.bind htk ?_))
    rw [ew2, rdN_at hlt2]
    exact Ev.pos (nn _) (Ev.pos hb5 (Ev.pos hb3 hnext))
  · have hpk : segs[i].getD ys[i] 0 = 0 := by
     rw [List.getD_eq_getElem?_getD, List.getElem?_eq_none (by omega)]
     rfl
    rw [hpk] at hnext
    exact Ev.neg (fun h => hlt (Int.ofNat_lt.1 h)) (Ev.pos hb3 hnext)
end
theorem zip_map {α β γ δ ε : Type} (f : γ → δ → ε) (g : α → γ) (h : β → δ) : ∀ (xs : List α) (ys : List β), List.zipWith f (xs.map g) (ys.map h) = List.zipWith (fun x y => f (g x) (h y)) xs ys
 | [], _ => rfl
 | _ :: _, [] => rfl
 | x :: xs, y :: ys => by simp only [List.map_cons, List.zipWith_cons_cons, zip_map f g h xs ys]
theorem map_zip {α β γ δ : Type} (f : γ → δ) (g : α → β → γ) : ∀ (xs : List α) (ys : List β), (List.zipWith g xs ys).map f = List.zipWith (fun x y => f (g x y)) xs ys
 | [], _ => rfl
 | _ :: _, [] => rfl
 | x :: xs, y :: ys => by simp only [List.map_cons, List.zipWith_cons_cons, map_zip f g xs ys]
theorem two8 {c : UInt8} {d : Nat} {ts us : List Tr} (hok : ∀ t ∈ ts, Ok d t) (hok2 : ∀ t ∈ us, Ok 0 t) (hl : ts.length = us.length) (hn : (ts.map (nodes d)).sum ≤ 10000) (hg : ¬ sg2 c (d : Int) < 0) (y0 : Int) :
 Ev (fun k => spec_l8Two.f k (c.toNat : Int) (ts.length : Int) ((lvl d ts).map ints) (ints (datN d ts)) y0 [] (ints (us.map Tr.n))) (vec 0 (List.zipWith (gv2 c) ts us)) := by
 have htl := sum_cnt (nodes d) (nodes_pos d) ts
 have hzl : (List.zipWith (gv2 c) ts us).length = ts.length := by rw [List.length_zipWith, ← hl, Nat.min_self]
 have hy : ∀ x ∈ us.map Tr.n, x < 10007 := fun x hx => by
  obtain ⟨t, ht, rfl⟩ := List.mem_map.1 hx
  exact (hok2 t ht).1
 have hv : vec 0 (List.zipWith (gv2 c) ts us) = ((ts.length : Int), [], ints ((List.zipWith (gv2 c) ts us).map Tr.n)) := by
  show (((List.zipWith (gv2 c) ts us).length : Int), [], _) = _
  rw [hzl]
  rfl
 rw [hv, map_zip]
 unfold spec_l8Two.f
 rcases sg2_dep hg with ⟨hc, rfl⟩ | ⟨rfl, rfl⟩
 · have hne : c ≠ 64 := by rintro rfl; simp at hc
   have h := two8_op c (ts.map Tr.n) (us.map Tr.n) (by rw [List.length_map, List.length_map, hl]) (fun x hx => by
    obtain ⟨t, ht, rfl⟩ := List.mem_map.1 hx
    exact (hok t ht).1) hy hc (by rw [List.length_map]; omega) (ts.length : Int) y0 [] _ 0 rfl (Nat.zero_le _)
   rw [zip_map, List.length_map] at h
   have e : List.zipWith (fun x y => (gv2 c x y).n) ts us = List.zipWith (fun x y => op2 c x.n y.n) ts us := by
    congr 1
    funext x y
    rw [gv2, if_neg hne]
   rw [e]
   exact h
 · have hpn : ((prts ts).map (nodes 0)).sum ≤ (ts.map (nodes 1)).sum := prts_nodes 0 ts
   have hpc := sum_cnt (nodes 0) (nodes_pos 0) (prts ts)
   have hfl : (ts.map vals).flatten.length ≤ 10000 := by rw [vals_flat]; show ((prts ts).map Tr.n).length ≤ _; rw [List.length_map]; omega
   have h := two8_at (ts.map vals) (us.map Tr.n) (by rw [List.length_map, List.length_map, hl]) hfl (by rw [List.length_map]; omega) (ts.length : Int) y0 _ 0 rfl (Nat.zero_le _)
   rw [zip_map, List.length_map, vals_lens, vals_flat] at h
   exact h
def vok (c : Int) (L : List (List Int)) (D : List Int) : Bool := decide (0 ≤ c ∧ c ≤ 2000 ∧ wrongV L.length D 0 c L = -1)
theorem validA (c : Int) (L : List (List Int)) (D : List Int) (hL : L.length ≤ 1000) (hb : ∀ r ∈ L, r.length ≤ 2000) (hD : D.length ≤ 2000) : Ev (fun k => impl_VectorValid.f k c L D) (vok c L D) := by
 unfold impl_VectorValid.f vok
 by_cases h0 : 0 ≤ c
 · by_cases h1 : c ≤ 2000
   · have hA := wrongA_l0 L D hL hb hD _ 0 c rfl (Nat.zero_le _) (by omega)
     rw [List.drop_zero] at hA
     have hw : Ev (fun k => impl_wrong.f k L D c) (wrongV L.length D 0 c L) := by unfold impl_wrong.f; exact hA
     refine Ev.pos h0 (Ev.pos h1 (Ev.bind hw (Ev.val ?_)))
     rcases wrongV_le D L L.length 0 c (by omega) with e | ⟨e, _⟩
     · rw [e]
       simp [h0, h1]
     · rw [decide_eq_false (by omega), decide_eq_false (by omega)]
   · refine Ev.pos h0 (Ev.neg h1 (Ev.val ?_))
     rw [decide_eq_false (fun h => h1 h.2.1)]
 · refine Ev.neg h0 (Ev.val ?_)
   rw [decide_eq_false (fun h => h0 h.1)]
theorem l3Num_l0 (D : List Int) (hD : D.length ≤ 2000) : ∀ (n i : Nat), D.length - i = n → i ≤ D.length → Ev (fun k => spec_l3Numbers.l0 k D (D.length : Int) (i : Int)) (decide (In 10006 (D.drop i))) := by
 intro n
 induction n with
 | zero =>
  intro i h1 h2
  rw [List.drop_eq_nil_of_le (by omega)]
  refine EvS ?_; simp only [spec_l3Numbers.l0]
  exact eM (Ev.val (by rw [decide_eq_true in_nil]))
 | succ n ih =>
  intro i h1 h2
  have hi : i < D.length := by omega
  have hnext := ih (i + 1) (by omega) (by omega)
  rw [List.drop_eq_getElem_cons hi]
  refine EvS ?_; simp only [spec_l3Numbers.l0]
  refine eO (eO (eO ?_))
  rw [rd_at hi, inN_is, wrapS (by omega) (by omega)]
  by_cases hc : 0 ≤ D[i] ∧ D[i] ≤ 10006
  · refine Ev.bind (Ev.now _) (Ev.pos (decide_eq_true hc) ?_)
    have e : decide (In 10006 (D[i] :: D.drop (i + 1))) = decide (In 10006 (D.drop (i + 1))) := by
     by_cases h : In 10006 (D.drop (i + 1))
     · rw [decide_eq_true h, decide_eq_true (in_cons.2 ⟨hc, h⟩)]
     · rw [decide_eq_false h, decide_eq_false (fun h' => h (in_cons.1 h').2)]
    rw [e]
    exact hnext
  · refine Ev.bind (Ev.now _) (Ev.neg (by rw [decide_eq_true_eq]; exact hc) (Ev.val ?_))
    rw [decide_eq_false (fun h' => hc (in_cons.1 h').1)]
theorem l3Num_is (D : List Int) (hD : D.length ≤ 2000) : Ev (fun k => spec_l3Numbers.f k D) (decide (In 10006 D)) := by
 unfold spec_l3Numbers.f
 have := l3Num_l0 D hD _ 0 rfl (Nat.zero_le _)
 rw [List.drop_zero] at this
 exact this
theorem validS_l1 (c : Int) (L : List (List Int)) (D : List Int) (r : List Int) (hr : r.length ≤ 2000) (i : Nat) (hi : i ≤ 1000) (R : Bool)
 (hgo : In 400 r → Ev (fun k => spec_VectorValid.l0 k (isum r) L (L.length : Int) (wrap64 ((i : Int) + 1)) c L D) R) (hno : ¬ In 400 r → R = false) : ∀ (n j : Nat) (s : Int), r.length - j = n → j ≤ r.length → 0 ≤ s → s ≤ 400 * (j : Int) → (In 400 r → s + isum (r.drop j) = isum r) → (In 400 (r.drop j) → In 400 r) →
 Ev (fun k => spec_VectorValid.l1 k s L (L.length : Int) (i : Int) r (r.length : Int) (j : Int) c L D) R := by
 intro n
 induction n with
 | zero =>
  intro j s h1 h2 h3 h4 h5 h6
  rw [List.drop_eq_nil_of_le (by omega)] at h5 h6
  have hI : In 400 r := h6 (fun z hz => by cases hz)
  have e : s = isum r := by
   have := h5 hI
   simp [isum] at this ⊢
   omega
  refine EvS ?_; simp only [spec_VectorValid.l1]
  rw [e]
  exact eM (hgo hI)
 | succ n ih =>
  intro j s h1 h2 h3 h4 h5 h6
  have hj : j < r.length := by omega
  rw [List.drop_eq_getElem_cons hj] at h5 h6
  refine EvS ?_; simp only [spec_VectorValid.l1]
  refine eO (eO (eO ?_))
  rw [rd_at hj, inN_is]
  by_cases hc : 0 ≤ r[j] ∧ r[j] ≤ 400
  · have hnext := ih (j + 1) (s + r[j]) (by omega) (by omega) (by omega) (by omega) (fun hI => by
     have := h5 hI
     simp only [isum, List.map_cons, List.sum_cons] at this ⊢
     omega) (fun hI => h6 (in_cons.2 ⟨hc, hI⟩))
    refine Ev.bind (Ev.now _) (Ev.pos (decide_eq_true hc) ?_)
    rw [wrapS (by omega) (by omega), wrapS (by omega) (by omega)]
    exact hnext
  · refine Ev.bind (Ev.now _) (Ev.neg (by rw [decide_eq_true_eq]; exact hc) (Ev.val ?_))
    exact (hno (fun hI => hc (hI _ (List.getElem_mem hj)))).symm
theorem validS_l0 (c0 : Int) (L : List (List Int)) (D : List Int) (hL : L.length ≤ 3) (hb : ∀ r ∈ L, r.length ≤ 2000) (hD : D.length ≤ 2000) : ∀ (n i : Nat) (c : Int), L.length - i = n → i ≤ L.length → Ev (fun k => spec_VectorValid.l0 k c L (L.length : Int) (i : Int) c0 L D) (decide (wrongV L.length D i c (L.drop i) = -1)) := by
 intro n
 induction n with
 | zero =>
  intro i c h1 h2
  rw [List.drop_eq_nil_of_le (by omega)]
  have hw := l3Num_is D hD
  refine EvS ?_; simp only [spec_VectorValid.l0]
  refine eM ?_
  by_cases hc : (D.length : Int) = c
  · refine Ev.pos hc (Ev.bind hw (Ev.val ?_))
    by_cases hI : In 10006 D
    · rw [wrongV_ok ⟨hc, hI⟩, decide_eq_true hI]
      rfl
    · rw [wrongV_no (fun h => hI h.2), decide_eq_false hI, decide_eq_false (by omega)]
  · rw [wrongV_no (fun h => hc h.1)]
    exact Ev.neg hc (Ev.val (by rw [decide_eq_false (by omega)]))
 | succ n ih =>
  intro i c h1 h2
  have hi : i < L.length := by omega
  rw [List.drop_eq_getElem_cons hi]
  have hbi := hb _ (List.getElem_mem hi)
  refine EvS ?_; simp only [spec_VectorValid.l0]
  refine eO (eO (eO ?_))
  rw [getL hi]
  by_cases hc : (L[i].length : Int) = c
  · refine Ev.pos hc ?_
    refine validS_l1 c0 L D L[i] hbi i (by omega) _ (fun hI => ?_) (fun hI => ?_) _ 0 0 rfl (Nat.zero_le _) (by omega) (by omega) (fun _ => by rw [List.drop_zero, Int.zero_add]) (fun h => by rw [List.drop_zero] at h; exact h)
    · rw [wrongV_on ⟨by omega, hc, hI⟩, wrapS (by omega) (by omega)]
      exact ih (i + 1) _ (by omega) (by omega)
    · rw [wrongV_at (fun h => hI h.2.2), decide_eq_false (by omega)]
  · rw [wrongV_at (fun h => hc h.2.1)]
    exact Ev.neg hc (Ev.val (by rw [decide_eq_false (by omega)]))
theorem validS (c : Int) (L : List (List Int)) (D : List Int) (hL : L.length ≤ 1000) (hb : ∀ r ∈ L, r.length ≤ 2000) (hD : D.length ≤ 2000) : Ev (fun k => spec_VectorValid.f k c L D) (vok c L D) := by
 unfold spec_VectorValid.f vok
 rw [inN_is]
 refine Ev.bind (Ev.now _) ?_
 by_cases hc : 0 ≤ c ∧ c ≤ 2000
 · refine Ev.pos (decide_eq_true hc) ?_
   refine EvS ?_; simp only [spec_VectorValid.j0]
   by_cases h3 : (L.length : Int) > 3
   · refine Ev.pos (decide_eq_true h3) (Ev.val ?_)
     rw [decide_eq_false]
     rintro ⟨_, _, hw⟩
     rcases (wrongV_val D L L.length 0 c.toNat (by rw [Int.toNat_of_nonneg hc.1]; exact hw)) with ⟨Ns, Dn, e1, e2, e3, e4, e5 | e5⟩
     · rw [e5] at h3; simp at h3
     · omega
   · have h := validS_l0 c L D (by omega) hb hD _ 0 c rfl (Nat.zero_le _)
     rw [List.drop_zero] at h
     refine Ev.neg (by rw [decide_eq_true_eq]; exact h3) ?_
     have e : decide (0 ≤ c ∧ c ≤ 2000 ∧ wrongV L.length D 0 c L = -1) = decide (wrongV L.length D 0 c L = -1) := by simp [hc.1, hc.2]
     rw [e]
     exact h
 · refine Ev.neg (by rw [decide_eq_true_eq]; exact hc) ?_
   refine EvS ?_; simp only [spec_VectorValid.j0]
   refine Ev.pos (by first | trivial | rfl) (Ev.val ?_)
   rw [decide_eq_false (fun h => hc ⟨h.1, h.2.1⟩)]
theorem vok_trees {c : Int} {L : List (List Int)} {D : List Int} (h : vok c L D = true) : ∃ ts : List Tr, (∀ t ∈ ts, Ok L.length t) ∧ c = (ts.length : Int) ∧ L = (lvl L.length ts).map ints ∧ D = ints (datN L.length ts) ∧ L.length ≤ 3 ∧ ts.length ≤ 2000 ∧ (ts.map (nodes L.length)).sum = (L.map List.length).sum + D.length := by
 unfold vok at h
 rw [decide_eq_true_eq] at h
 obtain ⟨h0, h1, hw⟩ := h
 obtain ⟨n, rfl⟩ : ∃ n : Nat, c = (n : Int) := ⟨c.toNat, by omega⟩
 obtain ⟨Ns, Dn, e1, e2, e3, e4, e5⟩ := wrongV_val D L L.length 0 n hw
 obtain ⟨u1, u2, u3, u4⟩ := up_is Ns Dn n e3 e4
 have hlen : L.length = Ns.length := by rw [e1, List.length_map]
 have hn := nodes_gen Ns.length (up Ns Dn)
 rw [u2, u3] at hn
 refine ⟨up Ns Dn, by rw [hlen]; exact u4, by rw [u1], by rw [hlen, u2]; exact e1, by rw [hlen, u3]; exact e2, ?_, by omega, ?_⟩
 · rcases e5 with e5 | e5
   · rw [e5]; simp
   · omega
 · rw [hlen, hn, e1, e2, List.length_map, List.map_map]
   congr 2
   refine List.map_congr_left (fun r _ => ?_)
   exact (List.length_map _).symm
section
variable {d N : Nat} {ts : List Tr} (hv : ∀ t ∈ ts, Ok d t) (hn : (ts.map (nodes d)).sum ≤ N)
include hv hn
theorem gen_smallL {i : Nat} (hi : i ≤ d) : (gen i ts).length ≤ N ∧ ∀ t ∈ gen i ts, Ok (d - i) t ∧ plen t ≤ N := by
 obtain ⟨e, rfl⟩ : ∃ e, d = e + i := ⟨d - i, by omega⟩
 have h1 := gen_nodes i e ts
 have h2 := sum_cnt (nodes e) (nodes_pos e) (gen i ts)
 refine ⟨by omega, fun t ht => ⟨?_, ?_⟩⟩
 · rw [Nat.add_sub_cancel]
   exact gen_ok i e ts hv t ht
 · have h3 := sum_mem (nodes e) _ t ht
   cases e with
   | zero =>
    have := gen_ok i 0 ts hv t ht
    show t.parts.length ≤ N
    rw [this.2]
    exact Nat.zero_le _
   | succ e =>
    have := parts_len e t
    show t.parts.length ≤ N
    omega
variable (hd : d ≤ 3) (hN : N ≤ 1000000)
include hd hN
theorem raised_l1L : ∀ (i : Nat), i ≤ d → Ev (fun k => impl_raised.l1 k ((gen i ts).map (cA (d - i))) ((i : Int) - 1) ((lvl d ts).map ints) (ints (datN d ts))) (ts.map (cA d))
 | 0, _ => by
  refine EvS ?_; simp only [impl_raised.l1]
  exact eM (Ev.val rfl)
 | i + 1, hi => by
  have ih := raised_l1L i (by omega)
  have hL : ((lvl d ts).map ints).length = d := by rw [List.length_map, lvl_len]
  obtain ⟨g1, g2⟩ := gen_smallL hv hn (i := i) (by omega)
  have hr := rdL_at (lvl_get d i ts (by omega))
  have ei : ((i + 1 : Nat) : Int) - 1 = (i : Int) := by omega
  have h2 := raised_l2 (d - (i + 1)) (i : Int) ((lvl d ts).map ints) (ints (datN d ts)) (ts.map (cA d)) (gen i ts) (fun t ht => by
   have := (g2 t ht).1
   rw [show d - i = d - (i + 1) + 1 by omega] at this
   exact this.1) (by omega) (fun t ht => by have := (g2 t ht).2; omega) (by
   rw [wrapS (by omega) (by omega), show d - (i + 1) + 1 = d - i by omega]
   exact ih) (gen i ts) [] rfl
  rw [gen_succ, ei]
  refine EvS ?_; simp only [impl_raised.l1]
  refine eO (eO (Ev.pos (by rw [hL]; omega) ?_))
  rw [hr]
  exact h2
theorem raised_isL (c : Int) : Ev (fun k => impl_raised.f k ((lvl d ts).map ints) (ints (datN d ts)) c) (ts.map (cA d)) := by
 obtain ⟨g1, g2⟩ := gen_smallL hv hn (i := d) (Nat.le_refl _)
 have hL : ((lvl d ts).map ints).length = d := by rw [List.length_map, lvl_len]
 have hD : (datN d ts).length ≤ N := by simp [datN]; exact g1
 have h1 := raised_l1L hv hn hd hN d (Nat.le_refl _)
 have e : (gen d ts).map (cA (d - d)) = (datN d ts).map (fun n : Nat => (⟨(n : Int), []⟩ : NA)) := by
  rw [Nat.sub_self]
  unfold datN
  rw [List.map_map]
  rfl
 rw [e] at h1
 have h0 := raised_l0 (datN d ts) (by omega) ((lvl d ts).map ints) (ints (datN d ts)) (ts.map (cA d)) (by rw [hL, wrapS (by omega) (by omega)]; exact h1) _ 0 rfl (Nat.zero_le _)
 unfold impl_raised.f
 refine eO (Ev.pos (by rw [List.length_map]; omega) ?_)
 exact h0
end
theorem layTs_lvl (d : Nat) (ts : List Tr) : ts.foldl (fun s x => layT d x 0 s) (List.replicate d [], []) = ((lvl d ts).map ints, ints (datN d ts)) := by
 rw [layL_of (layT_one d) ts 0 _ _ (by rw [List.length_replicate]; omega)]
 rw [List.take_zero, List.drop_zero, List.nil_append, List.nil_append]
 have := nil_zap ((lvl d ts).map ints)
 rw [List.length_map, lvl_len] at this
 rw [this]
theorem layTs_bd (d : Nat) : ∀ (ts : List Tr) (s : List (List Int) × List Int) (B : Nat), Bd B s → (ts.foldl (fun s x => layT d x 0 s) s).1.length = s.1.length ∧ Bd (B + (ts.map (nodes d)).sum) (ts.foldl (fun s x => layT d x 0 s) s)
 | [], s, B, h => ⟨rfl, h⟩
 | t :: ts, s, B, h => by
  obtain ⟨h1, h2⟩ := layT_bd d t 0 s B h
  obtain ⟨h3, h4⟩ := layTs_bd d ts _ _ h2
  refine ⟨h3.trans h1, ?_⟩
  rw [List.map_cons, List.sum_cons, ← Nat.add_assoc]
  exact h4
section
variable {d N : Nat} {us : List Tr} (hd : d ≤ 3) (hv : ∀ t ∈ us, Ok d t) (hn : (us.map (nodes d)).sum ≤ N) (hN : N ≤ 100000)
include hd hv hn hN
end
def unpR (d : Nat) (ts : List Tr) : List ByteArray × Bool := if ∀ t ∈ ts, (text d t).length ≤ 400 then (ts.map (fun t => BA (text d t)), true) else ([], false)
theorem told_yes {l : By} (h : l.length ≤ 400) : told l = (BA l, true) := by rw [told, if_pos h]
theorem told_no {l : By} (h : ¬ l.length ≤ 400) : told l = (BA [], false) := by rw [told, if_neg h]
theorem unpR_no {d : Nat} {ts : List Tr} {t : Tr} (ht : t ∈ ts) (h : ¬ (text d t).length ≤ 400) : unpR d ts = ([], false) := by
 unfold unpR
 rw [if_neg (fun h' => h (h' t ht))]
section
variable {d : Nat} {ts : List Tr} (hd : d ≤ 3) (hv : ∀ t ∈ ts, Ok d t) (hn : (ts.map (nodes d)).sum ≤ 100000) (hc : ts.length ≤ 2000) (c : Int) (L : List (List Int)) (D : List Int) (hL : (L.length : Int) = (d : Int))
include hd hv hn hc hL
theorem unpA_l0 : ∀ (n i : Nat), ts.length - i = n → i ≤ ts.length → (∀ t ∈ ts.take i, (text d t).length ≤ 400) →
 Ev (fun k => impl_UnpackVector.l0 k ((ts.take i).map fun t => BA (text d t)) (ts.map (cA d)) ((ts.map (cA d)).length : Int) (i : Int) c L D) (unpR d ts) := by
 intro n
 induction n with
 | zero =>
  intro i h1 h2 h3
  rw [List.take_of_length_le (by omega)] at h3 ⊢
  refine EvS ?_; simp only [impl_UnpackVector.l0]
  refine Ev.neg (by rw [List.length_map]; omega) (Ev.val ?_)
  unfold unpR
  rw [if_pos h3]
 | succ n ihn =>
  intro i h1 h2 h3
  have hlt : i < ts.length := by omega
  have hm := List.getElem_mem hlt
  have hs := sum_mem (nodes d) ts ts[i] hm
  have hx := shortA_is d (by omega) ts[i] (Sh.of (hv _ hm)) (by omega)
  have hg : rd_T70 (ts.map (cA d)) (i : Int) = cA d ts[i] := getD_map _ _ _ _ hlt
  refine EvS ?_; simp only [impl_UnpackVector.l0]
  refine Ev.pos (by rw [List.length_map]; omega) (eO (Ev.pos (by rw [List.length_map]; omega) ?_))
  rw [hg, hL, wrapS (by omega) (by omega)]
  by_cases h4 : (text d ts[i]).length ≤ 400
  · rw [told_yes h4] at hx
    have hnext := ihn (i + 1) (by omega) (by omega) (fun t ht => by
     rw [take_snoc _ _ hlt] at ht
     rcases List.mem_append.1 ht with ht | ht
     · exact h3 t ht
     · rw [List.mem_singleton.1 ht]; exact h4)
    rw [take_snoc _ _ hlt, List.map_append, List.map_singleton] at hnext
    exact Ev.bind hx (Ev.pos rfl (Ev.pos (by rw [List.length_map, List.length_take]; omega) hnext))
  · rw [told_no h4] at hx
    rw [unpR_no hm h4]
    exact Ev.bind hx (eN (Ev.now _))
end
section
variable {d : Nat} {ts : List Tr} (hd : d ≤ 3) (hv : ∀ t ∈ ts, Ok d t) (hn : (ts.map (nodes d)).sum ≤ 100000) (hc : ts.length ≤ 2000)
include hd hv hn hc
end
theorem laidL_l0 (d : Nat) (hd : d ≤ 3) (xs : List Tr) (hxs : xs.length ≤ 1000000) : ∀ (n i : Nat) (L : List (List Int)) (D : List Int) (B : Nat), xs.length - i = n → i ≤ xs.length → L.length = d → Bd B (L, D) → B + ((xs.drop i).map (nodes d)).sum ≤ 1000000000 →
 Ev (fun k => impl_laid.l0 k (xs.map (cA d)) L D ((xs.map (cA d)).length : Int) (i : Int)) ((xs.drop i).foldl (fun s x => layT d x 0 s) (L, D)) := by
 intro n
 induction n with
 | zero =>
  intro i L D B h hi hL hb hn
  refine EvS ?_; simp only [impl_laid.l0]
  refine Ev.neg (by rw [List.length_map]; omega) (Ev.val ?_)
  rw [List.drop_eq_nil_of_le (by omega)]
  rfl
 | succ n ihn =>
  intro i L D B h hi hL hb hn
  have hlt : i < xs.length := by omega
  have hg : rd_T70 (xs.map (cA d)) (i : Int) = cA d xs[i] := getD_map _ _ _ _ hlt
  rw [List.drop_eq_getElem_cons hlt] at hn ⊢
  rw [List.map_cons, List.sum_cons] at hn
  have hx := layA_is d xs[i] 0 L D B (by omega) (by omega) hb (by omega)
  obtain ⟨b1, b2⟩ := layT_bd d xs[i] 0 (L, D) B hb
  have hnext := ihn (i + 1) (layT d xs[i] 0 (L, D)).1 (layT d xs[i] 0 (L, D)).2 _ (by omega) (by omega) (b1.trans hL) b2 (by omega)
  refine EvS ?_; simp only [impl_laid.l0]
  refine Ev.pos (by rw [List.length_map]; omega) (eO (Ev.pos (by rw [List.length_map]; omega) ?_))
  rw [hg, wrapS (a := (i : Int) + 1) (by omega) (by omega)]
  exact Ev.bind hx hnext
theorem laidL_is (d : Nat) (hd : d ≤ 3) (xs : List Tr) (hxs : xs.length ≤ 1000000) (hn : (xs.map (nodes d)).sum ≤ 1000000) : Ev (fun k => impl_laid.f k (xs.map (cA d)) (d : Int)) ((lvl d xs).map ints, ints (datN d xs)) := by
 have h := laidL_l0 d hd xs hxs _ 0 (List.replicate d []) [] 0 rfl (Nat.zero_le _) List.length_replicate (rep_bd d) (by rw [List.drop_zero]; omega)
 rw [List.drop_zero, layTs_lvl] at h
 unfold impl_laid.f
 refine eO (eO ?_)
 rw [Int.toNat_natCast]
 exact h
theorem ownLL_l0 (L : List (List Int)) (hL : L.length ≤ 1000) (hb : ∀ r ∈ L, r.length ≤ 1000000) : ∀ (n i : Nat), L.length - i = n → i ≤ L.length → Ev (fun k => spec_l13OwnListListint.l0 k (L.take i) L (L.length : Int) (i : Int)) L := by
 intro n
 induction n with
 | zero =>
  intro i h hi
  refine EvS ?_; simp only [spec_l13OwnListListint.l0]
  rw [List.take_of_length_le (by omega)]
  exact eM (Ev.now _)
 | succ n ih =>
  intro i h hi
  have hlt : i < L.length := by omega
  have hm := hb L[i] (List.getElem_mem hlt)
  have hg : rd_L1 L (i : Int) = L[i] := by
   show L.getD i [] = _
   rw [List.getD_eq_getElem?_getD, List.getElem?_eq_getElem hlt]
   rfl
  have hnext := ih (i + 1) (by omega) (by omega)
  rw [take_snoc _ _ hlt] at hnext
  refine EvS ?_; simp only [spec_l13OwnListListint.l0]
  refine eO (eO (eO (Ev.bind (Ev.now _) ?_)))
  rw [hg, wrapS (by omega) (by omega)]
  refine Ev.pos (by simp; omega) (Ev.pos (by rw [List.length_take]; omega) ?_)
  rw [List.nil_append]
  exact hnext
theorem ownLay_is (L : List (List Int)) (D : List Int) (hL : L.length ≤ 1000) (hb : ∀ r ∈ L, r.length ≤ 1000000) (hD : D.length ≤ 1000000) : Ev (fun k => spec_l13OwnLayout.f k L D) (L, D) := by
 have h0 : Ev (fun k => spec_l13OwnListListint.f k L) L := by
  unfold spec_l13OwnListListint.f
  exact ownLL_l0 L hL hb _ 0 rfl (Nat.zero_le _)
 unfold spec_l13OwnLayout.f
 refine Ev.bind h0 (Ev.bind (Ev.now _) (Ev.pos (by simp; omega) (Ev.val ?_)))
 rw [List.nil_append]
def LayP (d : Nat) : Prop := ∀ (t : Tr) (j : Nat) (L : List (List Int)) (D : List Int) (B : Nat), L.length = j + d → j + d ≤ 10 → Bd B (L, D) → B + nodes d t ≤ 1000000000 → Ev (fun k => pv.f k L D (cS d t).f0 (cS d t).f1 (j : Int)) (layT d t j (L, D))
theorem layP_l0 (d : Nat) (ih : LayP d) (j : Nat) (hj : j + 1 + d ≤ 10) (xs : List Tr) (hxs : xs.length ≤ 1000000000) : ∀ (n i : Nat) (L : List (List Int)) (D : List Int) (B : Nat), xs.length - i = n → i ≤ xs.length → L.length = j + 1 + d → Bd B (L, D) → B + ((xs.drop i).map (nodes d)).sum ≤ 1000000000 →
 Ev (fun k => pv.l0 k L D (xs.map (cS d)) (j : Int) ((xs.map (cS d)).length : Int) (i : Int)) ((xs.drop i).foldl (fun s x => layT d x (j + 1) s) (L, D)) := by
 intro n
 induction n with
 | zero =>
  intro i L D B h hi hL hb hn
  refine EvS ?_; simp only [pv.l0]
  refine Ev.neg (by rw [List.length_map]; omega) (Ev.val ?_)
  rw [List.drop_eq_nil_of_le (by omega)]
  rfl
 | succ n ihn =>
  intro i L D B h hi hL hb hn
  have hlt : i < xs.length := by omega
  have hg : rd_T86 (xs.map (cS d)) (i : Int) = cS d xs[i] := getD_map _ _ _ _ hlt
  rw [List.drop_eq_getElem_cons hlt] at hn ⊢
  rw [List.map_cons, List.sum_cons] at hn
  have hx := ih xs[i] (j + 1) L D B hL hj hb (by omega)
  obtain ⟨b1, b2⟩ := layT_bd d xs[i] (j + 1) (L, D) B hb
  have hnext := ihn (i + 1) (layT d xs[i] (j + 1) (L, D)).1 (layT d xs[i] (j + 1) (L, D)).2 _ (by omega) (by omega) (b1.trans hL) b2 (by omega)
  refine EvS ?_; simp only [pv.l0]
  refine Ev.pos (by rw [List.length_map]; omega) (eO (Ev.pos (by rw [List.length_map]; omega) ?_))
  rw [hg, wrapS (a := (j : Int) + 1) (by omega) (by omega), wrapS (a := (i : Int) + 1) (by omega) (by omega)]
  exact Ev.bind hx hnext
theorem layP_is : ∀ d, LayP d
 | 0 => by
  intro t j L D B hL hj hb hn
  have h1 : D.length ≤ B := hb.1
  have h2 : B + 1 ≤ 1000000000 := hn
  refine EvS ?_; simp only [pv.f]
  exact eO (eO (Ev.val rfl))
 | d + 1 => by
  intro t j L D B hL hj hb hn
  have hp := parts_len d t
  have hn2 : B + (1 + (t.parts.map (nodes d)).sum) ≤ 1000000000 := hn
  have hgl : (L.getD j []).length ≤ B := getD_bd hb.2 j
  have h0 := layP_l0 d (layP_is d) j (by omega) t.parts (by omega) _ 0 (L.set j (L.getD j [] ++ [(t.parts.length : Int)])) D (B + 1) rfl (Nat.zero_le _) (by rw [List.length_set]; omega) (set_bd hb j _) (by rw [List.drop_zero]; omega)
  rw [List.drop_zero] at h0
  refine EvS ?_; simp only [pv.f]
  refine eM (eO (eO ?_))
  rw [Int.toNat_natCast]
  refine eO ?_
  have e : ((cS (d + 1) t).f1.length : Int) = (t.parts.length : Int) := by
   show ((t.parts.map (cS d)).length : Int) = _
   rw [List.length_map]
  rw [e]
  rw [List.length_map] at h0
  exact h0
theorem packN_l0 (d : Nat) (hd : d ≤ 3) (xs : List Tr) (hxs : xs.length ≤ 1000000) : ∀ (n i : Nat) (L : List (List Int)) (D : List Int) (B : Nat), xs.length - i = n → i ≤ xs.length → L.length = d → Bd B (L, D) → B + ((xs.drop i).map (nodes d)).sum ≤ 1000000000 →
 Ev (fun k => spec_l8Pack.l0 k (xs.map (cS d)) L D ((xs.map (cS d)).length : Int) (i : Int)) (((xs.map (cS d)).length : Int), (xs.drop i).foldl (fun s x => layT d x 0 s) (L, D)) := by
 intro n
 induction n with
 | zero =>
  intro i L D B h hi hL hb hn
  refine EvS ?_; simp only [spec_l8Pack.l0]
  refine Ev.neg (by rw [List.length_map]; omega) (Ev.val ?_)
  rw [List.drop_eq_nil_of_le (by omega)]
  rfl
 | succ n ihn =>
  intro i L D B h hi hL hb hn
  have hlt : i < xs.length := by omega
  have hg : rd_T86 (xs.map (cS d)) (i : Int) = cS d xs[i] := getD_map _ _ _ _ hlt
  rw [List.drop_eq_getElem_cons hlt] at hn ⊢
  rw [List.map_cons, List.sum_cons] at hn
  have hx := layP_is d xs[i] 0 L D B (by omega) (by omega) hb (by omega)
  obtain ⟨b1, b2⟩ := layT_bd d xs[i] 0 (L, D) B hb
  have hnext := ihn (i + 1) (layT d xs[i] 0 (L, D)).1 (layT d xs[i] 0 (L, D)).2 _ (by omega) (by omega) (b1.trans hL) b2 (by omega)
  refine EvS ?_; simp only [spec_l8Pack.l0]
  refine Ev.pos (by rw [List.length_map]; omega) (eO (Ev.pos (by rw [List.length_map]; omega) ?_))
  rw [hg, wrapS (a := (i : Int) + 1) (by omega) (by omega)]
  exact Ev.bind hx hnext
theorem packN_is (d : Nat) (hd : d ≤ 3) (xs : List Tr) (hxs : xs.length ≤ 1000000) (hn : (xs.map (nodes d)).sum ≤ 1000000) : Ev (fun k => spec_l8Pack.f k (xs.map (cS d)) (d : Int)) ((xs.length : Int), (lvl d xs).map ints, ints (datN d xs)) := by
 have h := packN_l0 d hd xs hxs _ 0 (List.replicate d []) [] 0 rfl (Nat.zero_le _) List.length_replicate (rep_bd d) (by rw [List.drop_zero]; omega)
 rw [List.drop_zero, layTs_lvl] at h
 unfold spec_l8Pack.f
 refine eO (eO ?_)
 rw [Int.toNat_natCast]
 refine evIs h ?_
 rw [List.length_map]
def readAll (d : Nat) : List By → Option (List Tr)
 | [] => some []
 | p :: ps => (readD d p).bind fun t => (readAll d ps).map fun ts => t :: ts
theorem readAll_app (d : Nat) : ∀ (a b : List By), readAll d (a ++ b) = (readAll d a).bind fun x => (readAll d b).map fun y => x ++ y
 | [], b => by
  show readAll d b = (some ([] : List Tr)).bind _
  cases readAll d b <;> rfl
 | p :: a, b => by
  show (readD d p).bind (fun t => (readAll d (a ++ b)).map fun ts => t :: ts) = ((readD d p).bind fun t => (readAll d a).map fun ts => t :: ts).bind _
  rw [readAll_app d a b]
  cases readD d p with
  | none => rfl
  | some t =>
   cases readAll d a with
   | none => rfl
   | some x => cases readAll d b <;> rfl
theorem readAll_ok (d : Nat) : ∀ (ps : List By) (ts : List Tr), readAll d ps = some ts → ps = ts.map (text d) ∧ ts.length = ps.length ∧ ∀ t ∈ ts, Ok d t ∧ (text d t).length ≤ 400
 | [], ts, h => by
  have h2 : ts = [] := (Option.some.inj h).symm
  subst h2
  exact ⟨rfl, rfl, fun t ht => by cases ht⟩
 | p :: ps, ts, h => by
  obtain ⟨t, h1, h2⟩ := Option.bind_eq_some_iff.1 (show (readD d p).bind (fun t => (readAll d ps).map fun ts => t :: ts) = some ts from h)
  obtain ⟨us, h3, h4⟩ := Option.map_eq_some_iff.1 h2
  subst h4
  obtain ⟨e1, e2, e3⟩ := readD_ok h1
  obtain ⟨f1, f2, f3⟩ := readAll_ok d ps us h3
  refine ⟨by rw [List.map_cons, ← f1, ← e1], by rw [List.length_cons, List.length_cons, f2], fun x hx => ?_⟩
  rcases List.mem_cons.1 hx with rfl | hx
  · exact ⟨e2, by rw [← e1]; exact e3⟩
  · exact f3 x hx
theorem sum_of_small (d : Nat) : ∀ (ts : List Tr), (∀ t ∈ ts, (text d t).length ≤ 400) → (ts.map (nodes d)).sum ≤ 400 * ts.length
 | [], _ => by simp
 | t :: ts, h => by
  have h1 := h t (by simp)
  have h2 := nodes_le_text d t
  have ih := sum_of_small d ts (fun x hx => h x (List.mem_cons_of_mem _ hx))
  rw [List.map_cons, List.sum_cons, List.length_cons]
  omega
abbrev Vec := Int × List (List Int) × List Int × Bool
def packR (d : Nat) : Option (List Tr) → Vec
 | none => (0, [], [], false)
 | some ts => ((ts.length : Int), (lvl d ts).map ints, ints (datN d ts), true)
theorem nsEta2 (x : NS) : (⟨x.f0, x.f1⟩ : NS) = x := by cases x; rfl
theorem rdB_at {ps : List By} {i : Nat} {p : By} (h : ps[i]? = some p) : rdOf ByteArray.empty (ps.map BA) (i : Int) = BA p := by
 unfold rdOf
 rw [Int.toNat_natCast, List.getD_eq_getElem?_getD, List.getElem?_map, h]
 rfl
theorem readAll_stop {d : Nat} {done rest : List By} {p : By} (h : readD d p = none) : readAll d (done ++ p :: rest) = none := by
 rw [readAll_app]
 show (readAll d done).bind (fun x => ((readD d p).bind _).map _) = none
 rw [h]
 cases readAll d done <;> rfl
theorem readAll_snoc {d : Nat} {done : List By} {p : By} {ts : List Tr} {v : Tr} (h1 : readAll d done = some ts) (h2 : readD d p = some v) : readAll d (done ++ [p]) = some (ts ++ [v]) := by
 rw [readAll_app, h1]
 show ((readD d p).bind (fun t => (some ([] : List Tr)).map fun ts => t :: ts)).map _ = _
 rw [h2]
 rfl
theorem packS_l0 (d : Nat) (hd : d ≤ 3) (ps : List By) (hps : ps.length ≤ 2000) : ∀ (rest done : List By) (ts : List Tr), ps = done ++ rest → readAll d done = some ts →
 Ev (fun k => spec_l8RawPackVector.l0 k (d : Int) (ts.map (cS d)) (ps.map BA) ((ps.map BA).length : Int) (done.length : Int)) (packR d (readAll d ps)) := by
 intro rest
 induction rest with
 | nil =>
  intro done ts h hr
  rw [List.append_nil] at h
  subst h
  obtain ⟨_, f2, f3⟩ := readAll_ok d ps ts hr
  have hs := sum_of_small d ts (fun t ht => (f3 t ht).2)
  rw [hr]
  refine EvS ?_; simp only [spec_l8RawPackVector.l0]
  exact Ev.neg (by rw [List.length_map]; omega) (Ev.bind (packN_is d hd ts (by omega) (by omega)) (Ev.val rfl))
 | cons p rest ih =>
  intro done ts h hr
  have hlt : done.length < ps.length := by rw [h]; simp
  have hg : ps[done.length]? = some p := by rw [h]; simp
  obtain ⟨_, f2, f3⟩ := readAll_ok d done ts hr
  have h1 := l1Read_is d hd p
  refine EvS ?_; simp only [spec_l8RawPackVector.l0]
  refine Ev.pos (by rw [List.length_map]; omega) (eO (Ev.pos (by rw [List.length_map]; omega) ?_))
  rw [rdB_at hg, wrapS (by omega) (by omega)]
  cases hq : readD d p with
  | none =>
   rw [hq] at h1
   rw [h, readAll_stop hq]
   exact Ev.bind h1 (Ev.neg (by simp [resS]) (Ev.now _))
  | some v =>
   rw [hq] at h1
   have hnext := ih (done ++ [p]) (ts ++ [v]) (by rw [h, List.append_assoc]; rfl) (readAll_snoc hr hq)
   rw [List.map_append, List.map_singleton, List.length_append, List.length_singleton] at hnext
   refine Ev.bind h1 (Ev.pos rfl (Ev.pos (by rw [List.length_map]; omega) ?_))
   show Ev (fun k => spec_l8RawPackVector.l0 k (d : Int) (ts.map (cS d) ++ [(⟨(cS d v).f0, (cS d v).f1⟩ : NS)]) (ps.map BA) ((ps.map BA).length : Int) ((done.length : Int) + 1)) _
   rw [nsEta2]
   exact hnext
theorem packR_bd (d : Nat) (ps : List By) (hps : ps.length ≤ 2000) : (packR d (readAll d ps)).2.1.length ≤ d ∧ (∀ r ∈ (packR d (readAll d ps)).2.1, r.length ≤ 400 * ps.length) ∧ (packR d (readAll d ps)).2.2.1.length ≤ 400 * ps.length := by
 cases hr : readAll d ps with
 | none => exact ⟨Nat.zero_le _, fun r hr => (by cases hr), Nat.zero_le _⟩
 | some ts =>
  obtain ⟨_, f2, f3⟩ := readAll_ok d ps ts hr
  have hs := sum_of_small d ts (fun t ht => (f3 t ht).2)
  obtain ⟨b1, b2, b3⟩ := layTs_bd d ts (List.replicate d [], []) 0 (rep_bd d)
  rw [layTs_lvl] at b1 b2 b3
  refine ⟨?_, fun r hr => Nat.le_trans (b3 r hr) (by omega), Nat.le_trans b2 (by omega)⟩
  show ((lvl d ts).map ints).length ≤ d
  rw [List.length_map, lvl_len]
  exact Nat.le_refl _
theorem packS_is (d : Nat) (hd : d ≤ 3) (ps : List By) (hps : ps.length ≤ 2000) : Ev (fun k => spec_PackVector.f k (ps.map BA) (d : Int)) (packR d (readAll d ps)) := by
 have h := packS_l0 d hd ps hps ps [] [] rfl rfl
 have hraw : Ev (fun k => spec_l8RawPackVector.f k (ps.map BA) (d : Int)) (packR d (readAll d ps)) := by
  unfold spec_l8RawPackVector.f
  rw [inN_is]
  refine Ev.call rfl (Ev.bind (Ev.now _) (Ev.pos (by rw [decide_eq_true_eq]; omega) ?_))
  refine EvS ?_; simp only [spec_l8RawPackVector.j0]
  refine Ev.neg ?_ h
  rw [decide_eq_true_eq, List.length_map]
  omega
 obtain ⟨b1, b2, b3⟩ := packR_bd d ps hps
 unfold spec_PackVector.f spec_l13OwnVector.f
 exact Ev.bind hraw (Ev.bind (Ev.bind (ownLay_is _ _ (by omega) (fun r hr => Nat.le_trans (b2 r hr) (by omega)) (by omega)) (Ev.now _)) (Ev.now _))
theorem xor_nn (a b : Nat) (ha : a < 4611686018427387904) (hb : b < 4611686018427387904) : 0 ≤ Go.bits .xor .i64 (a : Int) (b : Int) := by
 have hx : a ^^^ b < 2 ^ 62 := Nat.xor_lt_two_pow (by omega) (by omega)
 have e : ((BitVec.ofInt 64 (a : Int)) ^^^ (BitVec.ofInt 64 (b : Int))).toNat = a ^^^ b := by
  rw [BitVec.toNat_xor, BitVec.toNat_ofInt, BitVec.toNat_ofInt]
  have h1 : ((a : Int) % ((2 ^ 64 : Nat) : Int)).toNat = a := by omega
  have h2 : ((b : Int) % ((2 ^ 64 : Nat) : Int)).toNat = b := by omega
  rw [h1, h2]
 show 0 ≤ IntKind.wrap .i64 (((BitVec.ofInt 64 (a : Int)) ^^^ (BitVec.ofInt 64 (b : Int))).toNat : Int)
 rw [e, IntKind.wrap_i64]
 omega
def Bs (l : List Int) : Prop := l.length ≤ 2000 ∧ ∀ x ∈ l, 0 ≤ x ∧ x ≤ 255
theorem rd_in {l : List Int} (h : Bs l) (i : Int) : 0 ≤ rd l i ∧ rd l i ≤ 255 := by
 unfold rd
 rw [List.getD_eq_getElem?_getD]
 cases hg : l[i.toNat]? with
 | none => simp
 | some x => exact h.2 x (List.mem_of_getElem? hg)
theorem tmod_in {a n : Int} (ha : 0 ≤ a) (hn : 1 ≤ n) : 0 ≤ Int.tmod a n ∧ Int.tmod a n < n := by
 rw [Int.tmod_eq_emod_of_nonneg ha]
 exact ⟨Int.emod_nonneg _ (by omega), Int.emod_lt_of_pos _ (by omega)⟩
theorem tdiv_in {a n : Int} (ha : 0 ≤ a) (hn : 1 ≤ n) : 0 ≤ Int.tdiv a n ∧ Int.tdiv a n ≤ a := by
 rw [Int.tdiv_eq_ediv_of_nonneg ha]
 refine ⟨Int.ediv_nonneg ha (by omega), ?_⟩
 exact Int.ediv_le_self _ ha
theorem pick_is {l : List Int} (h : Bs l) (p : Nat) (hp : p ≤ 1000000000000) (n : Int) : ∃ v : Int, Ev (fun k => spec_l13Rd_pick.f k l (p : Int) n) (v, ((p + 1 : Nat) : Int)) ∧ (1 ≤ n → 0 ≤ v ∧ v < n) ∧ (n < 1 → v = 0) := by
 have hpp : wrap64 ((p : Int) + 1) = ((p + 1 : Nat) : Int) := by rw [wrapS (by omega) (by omega)]; omega
 have hj : Ev (fun k => spec_l13Rd_pick.j0 k n true l ((p + 1 : Nat) : Int)) (0, ((p + 1 : Nat) : Int)) := by
  refine EvS ?_; simp only [spec_l13Rd_pick.j0]
  exact Ev.pos (by first | trivial | rfl) (Ev.now _)
 by_cases hn : n < 1
 · refine ⟨0, ?_, by omega, by omega⟩
   unfold spec_l13Rd_pick.f
   refine Ev.pos hn ?_
   rw [hpp]
   exact hj
 · by_cases hl : l.length = 0
   · refine ⟨0, ?_, by omega, by omega⟩
     unfold spec_l13Rd_pick.f
     refine Ev.neg hn ?_
     rw [hpp, hl]
     exact hj
   · have hlen := h.1
     have hm : wrap64 (((p + 1 : Nat) : Int) - 1) = (p : Int) := by rw [wrapS (by omega) (by omega)]; omega
     have hgo : ∀ v, Ev (fun k => spec_l13Rd_pick.j0 k n false l ((p + 1 : Nat) : Int)) (v, ((p + 1 : Nat) : Int)) → Ev (fun k => spec_l13Rd_pick.f k l (p : Int) n) (v, ((p + 1 : Nat) : Int)) := by
      intro v hv
      unfold spec_l13Rd_pick.f
      refine Ev.neg hn ?_
      rw [hpp, show ((l.length : Int) == 0) = false from beq_false_of_ne (by omega)]
      exact hv
     by_cases hlt : p < l.length
     · have hr := rd_in h (p : Int)
       have ht := tmod_in (a := rd l (p : Int)) hr.1 (n := n) (by omega)
       refine ⟨Int.tmod (rd l (p : Int)) n, hgo _ ?_, fun _ => ht, by omega⟩
       refine EvS ?_; simp only [spec_l13Rd_pick.j0]
       refine eN ?_
       simp only [hm]
       refine eO (eO (eM (Ev.val ?_)))
       rw [wrapS (by omega) (by omega)]
     · have hr1 := rd_in h (Int.tmod (p : Int) (l.length : Int))
       have hr2 := rd_in h (Int.tmod (wrap64 (wrap64 ((p : Int) * 7) + 3)) (l.length : Int))
       have ht1 := tmod_in (a := (p : Int)) (by omega) (n := (l.length : Int)) (by omega)
       have e7 : wrap64 (wrap64 ((p : Int) * 7) + 3) = (p : Int) * 7 + 3 := by
        rw [wrapS (a := (p : Int) * 7) (by omega) (by omega), wrapS (by omega) (by omega)]
       have ht2 := tmod_in (a := (p : Int) * 7 + 3) (by omega) (n := (l.length : Int)) (by omega)
       have htd := tdiv_in (a := (p : Int)) (by omega) (n := (l.length : Int)) (by omega)
       rw [e7] at hr2
       generalize hA : rd l (Int.tmod (p : Int) (l.length : Int)) = A at *
       generalize hB : rd l (Int.tmod ((p : Int) * 7 + 3) (l.length : Int)) = B at *
       generalize hD : Int.tdiv (p : Int) (l.length : Int) = D at *
       have eH : wrap64 (wrap64 (wrap64 (wrap64 (wrap64 A * 131) + wrap64 (wrap64 B * 1117)) + wrap64 ((p : Int) * 29)) + wrap64 (wrap64 D * 53)) = A * 131 + B * 1117 + (p : Int) * 29 + D * 53 := by
        rw [wrapS (a := A) (by omega) (by omega), wrapS (a := B) (by omega) (by omega), wrapS (a := D) (by omega) (by omega), wrapS (a := A * 131) (by omega) (by omega), wrapS (a := B * 1117) (by omega) (by omega), wrapS (a := (p : Int) * 29) (by omega) (by omega), wrapS (a := D * 53) (by omega) (by omega), wrapS (a := A * 131 + B * 1117) (by omega) (by omega), wrapS (a := A * 131 + B * 1117 + (p : Int) * 29) (by omega) (by omega), wrapS (by omega) (by omega)]
       obtain ⟨H, hH⟩ : ∃ H : Nat, A * 131 + B * 1117 + (p : Int) * 29 + D * 53 = (H : Int) := ⟨(A * 131 + B * 1117 + (p : Int) * 29 + D * 53).toNat, by omega⟩
       have eT : wrap64 (Int.tdiv (H : Int) 64) = ((H / 64 : Nat) : Int) := by
        rw [Int.tdiv_eq_ediv_of_nonneg (by omega), wrapS (by omega) (by omega)]
        omega
       have hX := xor_nn H (H / 64) (by omega) (by omega)
       have ht3 := tmod_in hX (n := n) (by omega)
       refine ⟨Int.tmod (Go.bits .xor .i64 (H : Int) ((H / 64 : Nat) : Int)) n, hgo _ ?_, fun _ => ht3, by omega⟩
       refine EvS ?_; simp only [spec_l13Rd_pick.j0]
       refine eN ?_
       simp only [hm, e7, hA, hB, hD, eH, hH, eT]
       exact eM (eM (Ev.pos ht1.1 (Ev.pos ht1.2 (Ev.pos ht2.1 (Ev.pos ht2.2 (eM (Ev.val rfl)))))))
theorem num_is {l : List Int} (h : Bs l) (p : Nat) (hp : p ≤ 1000000000000) (xs : List Int) (hx : 1 ≤ xs.length) : ∃ v ∈ xs, Ev (fun k => spec_l13Rd_num.f k l (p : Int) xs) (v, ((p + 1 : Nat) : Int)) := by
 obtain ⟨v, h1, h2, _⟩ := pick_is h p hp (xs.length : Int)
 have hv := h2 (by omega)
 obtain ⟨m, rfl⟩ : ∃ m : Nat, v = (m : Int) := ⟨v.toNat, by omega⟩
 have hm : m < xs.length := by omega
 refine ⟨xs[m], List.getElem_mem hm, ?_⟩
 unfold spec_l13Rd_num.f
 refine Ev.bind h1 (Ev.pos hv.1 (Ev.pos hv.2 (Ev.val ?_)))
 have : rd xs (m : Int) = xs[m] := by
  unfold rd
  rw [Int.toNat_natCast, List.getD_eq_getElem?_getD, List.getElem?_eq_getElem hm]
  rfl
 rw [this]
theorem BA_of (b : ByteArray) : ∃ l : By, b = BA l ∧ l.length = b.size := ⟨b.data.toList, (BA_data b).symm, by rw [Array.length_toList]; rfl⟩
theorem open_is (l : List Int) (h : ∀ x ∈ l, (Lit.int .u8 x).wf = true) : ∃ l', spec_l13Open.f l = some (l', 0) ∧ Bs l' := by
 have hb : ∀ x ∈ l, 0 ≤ x ∧ x ≤ 255 := by
  intro x hx
  have := h x hx
  simp [Lit.wf, IntKind.wrap] at this
  have e1 : IntKind.u8.min = 0 := rfl
  have e2 : IntKind.u8.max = 255 := rfl
  omega
 unfold spec_l13Open.f
 by_cases hl : (l.length : Int) > 2000
 · refine ⟨l.take 2000, ?_, ?_, ?_⟩
   · rw [if_pos hl, if_pos (by omega)]
   · rw [List.length_take]; omega
   · exact fun x hx => hb x (List.mem_of_mem_take hx)
 · exact ⟨l, by rw [if_neg hl], by omega, hb⟩
def szD : Nat → Nat
 | 0 => 5
 | d + 1 => 2 + 4 * (szD d + 1)
def stD : Nat → Nat
 | 0 => 2
 | d + 1 => 1 + 4 * stD d
def capD : Nat → Nat
 | 0 => 99999990000
 | d + 1 => capD d - 1000
theorem cap_ok {d : Nat} (hd : d ≤ 2) : capD (d + 1) + 1 + 4 * stD d ≤ capD d := by
 obtain rfl | rfl | rfl : d = 0 ∨ d = 1 ∨ d = 2 := by omega
 all_goals decide
theorem cap_in {d : Nat} (hd : d ≤ 3) : 99999980000 ≤ capD d ∧ capD d ≤ 99999990000 := by
 obtain rfl | rfl | rfl | rfl : d = 0 ∨ d = 1 ∨ d = 2 ∨ d = 3 := by omega
 all_goals decide
def DrawIs (d : Nat) : Prop := ∀ (l : List Int) (p : Nat), Bs l → p ≤ capD d → ∃ (t : ByteArray) (q : Nat), Ev (fun k => spec_l1Draw.f k l (p : Int) (d : Int)) (t, (q : Int)) ∧ 1 ≤ t.size ∧ t.size ≤ szD d ∧ p ≤ q ∧ q ≤ p + stD d
theorem szD_le {d : Nat} (hd : d ≤ 3) : szD d ≤ 1500 ∧ stD d ≤ 150 := by
 obtain rfl | rfl | rfl | rfl : d = 0 ∨ d = 1 ∨ d = 2 ∨ d = 3 := by omega
 all_goals decide
theorem size_append (a b : ByteArray) : (a ++ b).size = a.size + b.size := by
 obtain ⟨x, rfl, h1⟩ := BA_of a
 obtain ⟨y, rfl, h2⟩ := BA_of b
 rw [BA_append, BA_size, BA_size, BA_size, List.length_append]
theorem size_one (c : UInt8) : (⟨#[c]⟩ : ByteArray).size = 1 := rfl
theorem mul_in {i Z : Nat} (hi : i ≤ 4) (hZ : Z ≤ 1500) : i * (Z + 1) ≤ 6004 := Nat.le_trans (Nat.mul_le_mul hi (Nat.add_le_add_right hZ 1)) (by decide)
theorem draw_l0 (d : Nat) (hd : d ≤ 2) (Z T C : Nat) (hC : C ≤ 99999990000) (hZ : Z ≤ 1500) (hT : T ≤ 150) (l : List Int) (hl : Bs l)
 (ih : ∀ (p : Nat), p ≤ C → ∃ (t : ByteArray) (q : Nat), Ev (fun k => spec_l1Draw.f k l (p : Int) (d : Int)) (t, (q : Int)) ∧ 1 ≤ t.size ∧ t.size ≤ Z ∧ p ≤ q ∧ q ≤ p + T) (m : Nat) (hm : m ≤ 4) (M : Nat) (hM : ∀ i, i = m → 2 + i * (Z + 1) ≤ M) :
 ∀ (n i : Nat) (x : ByteArray) (p : Nat), i + n = m → 1 ≤ x.size → x.size ≤ 1 + i * (Z + 1) → p + n * T ≤ C →
 ∃ (t : ByteArray) (q : Nat), Ev (fun k => spec_l1Draw.l0 k ((d + 1 : Nat) : Int) x (m : Int) (i : Int) l (p : Int)) (t, (q : Int)) ∧ 1 ≤ t.size ∧ t.size ≤ M ∧ p ≤ q ∧ q ≤ p + n * T := by
 have ed : wrap64 (((d + 1 : Nat) : Int) - 1) = (d : Int) := by rw [wrapS (by omega) (by omega)]; omega
 intro n
 induction n with
 | zero =>
  intro i x p h hx1 hx hp
  have him : i = m := by omega
  have hM1 := hM i him
  have hmul := mul_in (i := i) (by omega) hZ
  obtain ⟨A, hA⟩ : ∃ A, A = i * (Z + 1) := ⟨_, rfl⟩
  rw [← hA] at hmul hx hM1
  clear hA
  obtain ⟨y, hy⟩ : ∃ y, y = x ++ (⟨#[93]⟩ : ByteArray) := ⟨_, rfl⟩
  have hb : y.size = x.size + 1 := by rw [hy, size_append, size_one]
  refine ⟨y, p, ?_, by omega, by omega, Nat.le_refl _, Nat.le_add_right _ _⟩
  rw [hy]
  refine EvS ?_; simp only [spec_l1Draw.l0]
  exact eM (eO (Ev.val rfl))
 | succ n ihn =>
  intro i x p h hx1 hx hp
  have him : i < m := by omega
  have him2 : i + 1 + n = m := by omega
  have hmul := mul_in (i := i) (by omega) hZ
  have hsz : (i + 1) * (Z + 1) = i * (Z + 1) + (Z + 1) := by rw [Nat.add_mul, Nat.one_mul]
  have hst : (n + 1) * T = n * T + T := by rw [Nat.add_mul, Nat.one_mul]
  obtain ⟨t, q, h1, h2, h3, h4, h5⟩ := ih p (Nat.le_trans (Nat.le_add_right _ _) hp)
  have ihn' := fun y => ihn (i + 1) y q him2
  rw [hsz] at ihn'
  rw [hst] at hp ⊢
  obtain ⟨A, hA⟩ : ∃ A, A = i * (Z + 1) := ⟨_, rfl⟩
  obtain ⟨B, hB⟩ : ∃ B, B = n * T := ⟨_, rfl⟩
  rw [← hA] at hmul hx ihn'
  rw [← hB] at ihn' hp ⊢
  clear hA hB hst hsz
  have ei : wrap64 ((i : Int) + 1) = ((i + 1 : Nat) : Int) := by rw [wrapS (by omega) (by omega)]; omega
  rcases Nat.eq_zero_or_pos i with hi0 | h0
  · obtain ⟨y, hy⟩ : ∃ y, y = x ++ t := ⟨_, rfl⟩
    have hb : y.size = x.size + t.size := by rw [hy]; exact size_append _ _
    obtain ⟨t', q', g1, g2, g3, g4, g5⟩ := ihn' y (by omega) (by omega) (by omega)
    rw [hy] at g1
    refine ⟨t', q', ?_, g2, g3, by omega, by omega⟩
    refine EvS ?_; simp only [spec_l1Draw.l0]
    have hn0 : ¬ (i : Int) > 0 := by rw [hi0]; exact Int.lt_irrefl 0
    have hs1 : x.size + t.size ≤ 9223372036854775807 := by clear g1 h1 g3 g5 h5 hp hy; omega
    refine Ev.pos (Int.ofNat_lt.2 him) (Ev.neg hn0 ?_)
    rw [ed, ei]
    exact Ev.bind h1 (Ev.pos hs1 g1)
  · obtain ⟨y, hy⟩ : ∃ y, y = (x ++ (⟨#[44]⟩ : ByteArray)) ++ t := ⟨_, rfl⟩
    have hb : y.size = x.size + 1 + t.size := by rw [hy, size_append, size_append, size_one]
    obtain ⟨t', q', g1, g2, g3, g4, g5⟩ := ihn' y (by omega) (by omega) (by omega)
    rw [hy] at g1
    refine ⟨t', q', ?_, g2, g3, by omega, by omega⟩
    refine EvS ?_; simp only [spec_l1Draw.l0]
    have hp0 : (i : Int) > 0 := Int.ofNat_lt.2 h0
    have hs0 : x.size + 1 ≤ 9223372036854775807 := by clear g1 h1 g3 g5 h5 hp hy; omega
    have hs1 : x.size + 1 + t.size ≤ 9223372036854775807 := by clear g1 h1 g3 g5 h5 hp hy; omega
    refine Ev.pos (Int.ofNat_lt.2 him) (Ev.pos hp0 (Ev.pos hs0 ?_))
    rw [ed, ei]
    exact Ev.bind h1 (Ev.pos hs1 g1)
theorem draw_is : ∀ d, d ≤ 3 → DrawIs d
 | 0, _ => by
  intro l p hl hp0
  have hp : p ≤ 99999990000 := hp0
  obtain ⟨v, h1, h2, _⟩ := pick_is hl p (by omega) 9
  obtain ⟨w, hw, h3⟩ := num_is hl (p + 1) (by omega) [1, 0, 2, 3, v, 5, 10006, 100] (by simp)
  have hv := h2 (by omega)
  have hw2 : 0 ≤ w ∧ w ≤ 10006 := by simp at hw; omega
  obtain ⟨m, rfl⟩ : ∃ m : Nat, w = (m : Int) := ⟨w.toNat, by omega⟩
  have hlen := dec_len 5 m (by omega) (by omega)
  have hpos := List.length_pos_iff.2 (dec_ne m)
  refine ⟨BA (Lib.decDigits m), p + 1 + 1, ?_, by rw [BA_size]; omega, by rw [BA_size]; show _ ≤ 5; omega, by omega, by show _ ≤ p + 2; omega⟩
  refine EvS ?_; simp only [spec_l1Draw.f]
  exact Ev.pos (by first | trivial | rfl) (Ev.bind h1 (Ev.bind h3 (Ev.bind (l13Dec_is m (by omega)) (Ev.val rfl))))
 | d + 1, hd => by
  have ih := draw_is d (by omega)
  intro l p hl hp
  have hz := szD_le (d := d) (by omega)
  have hc1 := cap_ok (d := d) (by omega)
  have hc2 := cap_in (d := d) (by omega)
  obtain ⟨v, hv, h1⟩ := num_is hl p (by omega) [2, 0, 1, 3, 4] (by simp)
  have hv2 : 0 ≤ v ∧ v ≤ 4 := by simp at hv; omega
  obtain ⟨m, rfl⟩ : ∃ m : Nat, v = (m : Int) := ⟨v.toNat, by omega⟩
  have hm0 : m * stD d ≤ 4 * stD d := Nat.mul_le_mul_right _ (by omega)
  have hcap : p + 1 + m * stD d ≤ capD d := by omega
  obtain ⟨t, q, g1, g2, g3, g4, g5⟩ := draw_l0 d (by omega) (szD d) (stD d) (capD d) (cap_in (by omega)).2 hz.1 hz.2 l hl (fun p hp => ih l p hl hp) m (by omega) (2 + m * (szD d + 1)) (fun i hi => by rw [hi]; exact Nat.le_refl _) m 0 (⟨#[91]⟩ : ByteArray) (p + 1) (by omega) (Nat.le_refl 1) (Nat.le_add_right 1 _) hcap
  have hm1 : m * (szD d + 1) ≤ 4 * (szD d + 1) := Nat.mul_le_mul_right _ (by omega)
  have hm2 : m * stD d ≤ 4 * stD d := Nat.mul_le_mul_right _ (by omega)
  refine ⟨t, q, ?_, g2, by show _ ≤ 2 + 4 * (szD d + 1); omega, by omega, by show _ ≤ p + (1 + 4 * stD d); omega⟩
  refine EvS ?_; simp only [spec_l1Draw.f]
  exact eM (Ev.bind h1 g1)
theorem of_is {l : List Int} (h : Bs l) (p : Nat) (hp : p ≤ 1000000000000) (xs : List ByteArray) (hx : 1 ≤ xs.length) : ∃ v ∈ xs, Ev (fun k => spec_l13Rd_of.f k l (p : Int) xs) (v, ((p + 1 : Nat) : Int)) := by
 obtain ⟨v, h1, h2, _⟩ := pick_is h p hp (xs.length : Int)
 have hv := h2 (by omega)
 obtain ⟨m, rfl⟩ : ∃ m : Nat, v = (m : Int) := ⟨v.toNat, by omega⟩
 have hm : m < xs.length := by omega
 refine ⟨xs[m], List.getElem_mem hm, ?_⟩
 unfold spec_l13Rd_of.f
 refine Ev.bind h1 (Ev.pos hv.1 (Ev.pos hv.2 (Ev.val ?_)))
 have : rdOf ByteArray.empty xs (m : Int) = xs[m] := by
  unfold rdOf
  rw [Int.toNat_natCast, List.getD_eq_getElem?_getD, List.getElem?_eq_getElem hm]
  rfl
 rw [this]
def Dz (z : Int) : Prop := -9223372036854775807 ≤ z ∧ z ≤ 9223372036854775807
theorem ei_is (i : Nat) (h : i ≤ 1000) : wrap64 ((i : Int) + 1) = ((i + 1 : Nat) : Int) := by rw [wrapS (by omega) (by omega)]; omega
def drawV (d : Nat) (ps : List By) : Vec := if (packR d (readAll d ps)).2.2.2 = true then packR d (readAll d ps) else packR d (some [])
theorem l8Draw_l0 {l : List Int} (hl : Bs l) (d : Nat) (hd : d ≤ 3) (m : Nat) (hm : m ≤ 4) : ∀ (n i : Nat) (ps : List By) (p : Nat), i + n = m → ps.length = i → p + 400 * n ≤ 10000000 →
 ∃ (qs : List By) (q : Nat), qs.length ≤ m ∧ q ≤ p + 400 * n ∧ Ev (fun k => spec_l8Draw.l0 k (d : Int) (ps.map BA) (m : Int) (i : Int) l (p : Int)) ((drawV d qs).1, (drawV d qs).2.1, (drawV d qs).2.2.1, (q : Int))
 | 0, i, ps, p, him, hps, hp => by
  have hn : ¬ (i : Int) < (m : Int) := by omega
  have h1 := packS_is d hd ps (by omega)
  have h2 := packS_is d hd [] (by simp)
  refine ⟨ps, p, by omega, by omega, ?_⟩
  refine EvS ?_; simp only [spec_l8Draw.l0]
  refine Ev.neg hn (Ev.bind h1 ?_)
  unfold drawV
  by_cases hok : (packR d (readAll d ps)).2.2.2 = true
  · rw [if_pos hok]
    exact Ev.pos hok (Ev.now _)
  · rw [if_neg hok]
    exact Ev.neg hok (Ev.bind h2 (Ev.now _))
 | n + 1, i, ps, p, him, hps, hp => by
  have hz := szD_le (d := d) (by omega)
  have hcap := cap_in (d := d) (by omega)
  have hlt : (i : Int) < (m : Int) := by omega
  have hb : (ps.map BA).length < 8796093022208 := by rw [List.length_map]; omega
  have ei := ei_is i (by omega)
  obtain ⟨t, q, g1, g2, g3, g4, g5⟩ := draw_is d (by omega) l p hl (by omega)
  obtain ⟨s, rfl, _⟩ := BA_of t
  obtain ⟨qs, q', hq, hq', hnext⟩ := l8Draw_l0 hl d hd m hm n (i + 1) (ps ++ [s]) q (by omega) (by rw [List.length_append, List.length_singleton, hps]) (by omega)
  rw [List.map_append, List.map_singleton] at hnext
  refine ⟨qs, q', hq, by omega, ?_⟩
  refine EvS ?_; simp only [spec_l8Draw.l0]
  rw [ei]
  exact Ev.pos hlt (Ev.bind g1 (Ev.pos hb hnext))
def VB (m : Nat) (c : Int) (L : List (List Int)) (D : List Int) : Prop := L.length ≤ 3 ∧ (∀ r ∈ L, r.length ≤ 1600 ∧ ∀ z ∈ r, Dz z) ∧ D.length ≤ m ∧ (∀ z ∈ D, Dz z) ∧ Dz c
theorem lvl_dz {d N : Nat} {ts : List Tr} (hv : ∀ t ∈ ts, Ok d t) (hn : (ts.map (nodes d)).sum ≤ N) (hN : N ≤ 1000000) : (∀ r ∈ (lvl d ts).map ints, r.length ≤ N ∧ ∀ z ∈ r, Dz z) ∧ (ints (datN d ts)).length ≤ N ∧ ∀ z ∈ ints (datN d ts), Dz z := by
 refine ⟨fun r hr => ?_, ?_, fun z hz => ?_⟩
 · obtain ⟨s, hs, rfl⟩ := List.mem_map.1 hr
   obtain ⟨i, hi, rfl⟩ := List.mem_iff_getElem.1 hs
   have hid : i < d := by rw [lvl_len] at hi; exact hi
   have e := lvl_get d i ts hid
   rw [List.getElem?_eq_getElem hi] at e
   have e2 := Option.some.inj e
   obtain ⟨g1, g2⟩ := gen_smallL hv hn (i := i) (by omega)
   rw [e2]
   refine ⟨by rw [List.length_map, List.length_map]; exact g1, fun z hz => ?_⟩
   obtain ⟨n, hn', rfl⟩ := List.mem_map.1 hz
   obtain ⟨t, ht, rfl⟩ := List.mem_map.1 hn'
   have := (g2 t ht).2
   unfold Dz
   omega
 · obtain ⟨g1, g2⟩ := gen_smallL hv hn (i := d) (Nat.le_refl _)
   rw [List.length_map]
   unfold datN
   rw [List.length_map]
   exact g1
 · obtain ⟨n, hn', rfl⟩ := List.mem_map.1 hz
   obtain ⟨t, ht, rfl⟩ := List.mem_map.1 hn'
   obtain ⟨g1, g2⟩ := gen_smallL hv hn (i := d) (Nat.le_refl _)
   have h1 := (g2 t ht).1
   rw [Nat.sub_self] at h1
   have := h1.1
   unfold Dz
   omega
theorem packR_vb (d : Nat) (hd : d ≤ 3) (ts : List Tr) (hc : ts.length ≤ 4) (h : ∀ t ∈ ts, Ok d t ∧ (text d t).length ≤ 400) : VB 1600 (packR d (some ts)).1 (packR d (some ts)).2.1 (packR d (some ts)).2.2.1 ∧ (packR d (some ts)).1 ≤ 4 ∧ 0 ≤ (packR d (some ts)).1 := by
 have hs := sum_of_small d ts (fun t ht => (h t ht).2)
 obtain ⟨b1, b2, b3⟩ := lvl_dz (N := 1600) (fun t ht => (h t ht).1) (by omega) (by omega)
 refine ⟨⟨?_, b1, b2, b3, ?_⟩, ?_, ?_⟩
 · show ((lvl d ts).map ints).length ≤ 3
   rw [List.length_map, lvl_len]
   exact hd
 · show Dz (ts.length : Int)
   unfold Dz
   omega
 · show (ts.length : Int) ≤ 4
   omega
 · show 0 ≤ (ts.length : Int)
   omega
theorem drawV_vb (d : Nat) (hd : d ≤ 3) (ps : List By) (hps : ps.length ≤ 4) : VB 1600 (drawV d ps).1 (drawV d ps).2.1 (drawV d ps).2.2.1 ∧ (drawV d ps).1 ≤ 4 ∧ 0 ≤ (drawV d ps).1 := by
 unfold drawV
 cases hr : readAll d ps with
 | none =>
  rw [if_neg (by simp [packR])]
  exact packR_vb d hd [] (by simp) (fun t ht => by cases ht)
 | some ts =>
  obtain ⟨_, f2, f3⟩ := readAll_ok d ps ts hr
  rw [if_pos (show (packR d (some ts)).2.2.2 = true from rfl)]
  exact packR_vb d hd ts (by omega) f3
end Go.Proofs.YtjkngiciigdheaaGreatDoor.K
