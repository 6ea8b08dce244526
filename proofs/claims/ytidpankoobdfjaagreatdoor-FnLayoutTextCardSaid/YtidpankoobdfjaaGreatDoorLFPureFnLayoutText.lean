/- A layout is parsed from its text, if it is valid; a text that is parsed is that of the layout: both sides alike. -/
import Derived.Test.YtidpankoobdfjaaGreatDoorLFQbase
import Derived.Test.YtidpankoobdfjaaGreatDoorLFx1
import Derived.Test.YtidpankoobdfjaaGreatDoorLFSgc
import Derived.Test.YtidpankoobdfjaaGreatDoorLFx0
import Derived.Test.YtidpankoobdfjaaGreatDoorLFx3
import Derived.Test.YtidpankoobdfjaaGreatDoorLFx4
import Derived.Test.YtidpankoobdfjaaGreatDoorLFSgs
import Derived.Lib.SplitLaws
import Derived.Lib.Fields
import Derived.Test.YtidpankoobdfjaaGreatDoorLFSgw
import Derived.Test.YtidpankoobdfjaaGreatDoorLFx5
import Derived.Test.YtidpankoobdfjaaGreatDoorLFx2
import Derived.Test.YtidpankoobdfjaaGreatDoorLFSgv
namespace Go.Proofs.YtidpankoobdfjaaGreatDoor.L
open Go.RowKit Go.Proofs.YtidpankoobdfjaaGreatDoorW.PrintWords Go.Proofs.YtidpankoobdfjaaGreatDoorW.PrintLast Go.Proofs.YtidpankoobdfjaaGreatDoorW.PrintMore Go.Proofs.YtidpankoobdfjaaGreatDoor.Q
set_option linter.unusedSimpArgs false
set_option linter.unusedVariables false

theorem strOne (m : Nat) (h : m < 256) : strOfNums [(m : Int)] = BA [UInt8.ofNat m] := by
 unfold strOfNums BA
 simp
theorem l13Dec_l0 : ∀ (n : Nat) (suf : By), n < 1000000000000000000 → suf.length ≤ 100 → Ev (fun k => spec_l13Dec.l0 k (n : Int) (BA suf)) (BA (Lib.decDigits n ++ suf)) := by
 have main : ∀ (b n : Nat) (suf : By), n < 10 ^ b → b ≤ 18 → suf.length + b ≤ 118 → Ev (fun k => spec_l13Dec.l0 k (n : Int) (BA suf)) (BA (Lib.decDigits n ++ suf)) := by
   intro b
   induction b with
   | zero =>
     intro n suf hn hb hs
     have hn1 : n < 1 := hn
     have : n = 0 := by omega
     subst this
     refine Ev.step' ?_; simp only [spec_l13Dec.l0]
     have e : (wrap64 (48 + ((0 : Nat) : Int))) % 256 = ((48 + 0 : Nat) : Int) := by
       rw [wrapS (by omega) (by omega)]
       omega
     refine Ev.neg (by omega) ?_
     rw [e]
     refine Ev.call (a := [((48 + 0 : Nat) : Int)]) rfl (Ev.pos (by rw [strOne _ (by omega), BA_size, BA_size]; simp; omega) (Ev.val ?_))
     rw [strOne _ (by omega), BA_append, dec_small (by omega)]
   | succ b ih =>
     intro n suf hn hb hs
     refine Ev.step' ?_; simp only [spec_l13Dec.l0]
     have hpow : 10 ^ (b + 1) ≤ 10 ^ 18 := Nat.pow_le_pow_right (by omega) hb
     have hnb : n < 1000000000000000000 := by
       have : (10 ^ 18 : Nat) = 1000000000000000000 := by decide
       omega
     by_cases h9 : n < 10
     · have e : (wrap64 (48 + (n : Int))) % 256 = ((48 + n : Nat) : Int) := by
         rw [wrapS (by omega) (by omega)]
         omega
       refine Ev.neg (by omega) ?_
       rw [e]
       refine Ev.call (a := [((48 + n : Nat) : Int)]) rfl (Ev.pos (by rw [strOne _ (by omega), BA_size, BA_size]; simp; omega) (Ev.val ?_))
       rw [strOne _ (by omega), BA_append, dec_small h9]
     · have e : (wrap64 (48 + Int.tmod (n : Int) 10)) % 256 = ((48 + n % 10 : Nat) : Int) := by
         rw [Int.tmod_eq_emod_of_nonneg (by omega), wrapS (by omega) (by omega)]
         omega
       have e2 : wrap64 (Int.tdiv (n : Int) 10) = ((n / 10 : Nat) : Int) := by
         rw [Int.tdiv_eq_ediv_of_nonneg (by omega), wrapS (by omega) (by omega)]
         omega
       refine Ev.pos (by omega) ?_
       rw [e, e2]
       refine Ev.call (a := [((48 + n % 10 : Nat) : Int)]) rfl (Ev.pos (by rw [strOne _ (by omega), BA_size, BA_size]; simp; omega) ?_)
       rw [strOne _ (by omega), BA_append]
       refine evIs (ih (n / 10) _ ?_ (by omega) (by simp; omega)) ?_
       · rw [Nat.pow_succ] at hn
         generalize 10 ^ b = q at *
         omega
       · rw [dec_big h9, List.append_assoc]
 intro n suf hn hs
 exact main 18 n suf (by have : (10 ^ 18 : Nat) = 1000000000000000000 := by decide
                         omega) (by omega) (by omega)
theorem l13Dec_is (n : Nat) (hn : n < 1000000000000000000) : Ev (fun k => spec_l13Dec.f k (n : Int)) (BA (Lib.decDigits n)) := by
 refine Ev.step' ?_; simp only [spec_l13Dec.f]
 refine Ev.neg (by omega) (Ev.neg (by omega) (evIs (l13Dec_l0 n [] hn (by simp)) ?_))
 rw [List.append_nil]

theorem dec_len : ∀ (b n : Nat), n < 10 ^ b → 1 ≤ b → (Lib.decDigits n).length ≤ b := by
 intro b
 induction b with
 | zero => intro n _ h; omega
 | succ b ih =>
   intro n hn _
   by_cases h9 : n < 10
   · rw [dec_small h9]; simp
   · rw [dec_big h9, List.length_append]
     have h1 : n / 10 < 10 ^ b := by
       rw [Nat.pow_succ] at hn
       generalize 10 ^ b = q at *
       omega
     have hb : 1 ≤ b := by
       rcases Nat.eq_zero_or_pos b with rfl | h
       · have : n / 10 < 1 := h1
         omega
       · exact h
     have := ih (n / 10) h1 hb
     simp
     omega
end Go.Proofs.YtidpankoobdfjaaGreatDoor.L
namespace Go.Proofs.YtidpankoobdfjaaGreatDoor.L
open Go.RowKit Go.Proofs.YtidpankoobdfjaaGreatDoorW.PrintWords Go.Proofs.YtidpankoobdfjaaGreatDoorW.PrintLast Go.Proofs.YtidpankoobdfjaaGreatDoorW.PrintMore Go.Proofs.YtidpankoobdfjaaGreatDoor.Q
set_option linter.unusedSimpArgs false
set_option linter.unusedVariables false

def Dz (z : Int) : Prop := -9223372036854775807 ≤ z ∧ z ≤ 9223372036854775807
theorem l13Dec_nat (n : Nat) (hn : n ≤ 9223372036854775807) : Ev (fun k => spec_l13Dec.l0 k (n : Int) (BA [])) (BA (Lib.decDigits n)) := by
 by_cases hs : n < 1000000000000000000
 · have := l13Dec_l0 n [] hs (by simp)
   rw [List.append_nil] at this
   exact this
 · have h9 : ¬ n < 10 := by omega
   have e : (wrap64 (48 + Int.tmod (n : Int) 10)) % 256 = ((48 + n % 10 : Nat) : Int) := by
     rw [Int.tmod_eq_emod_of_nonneg (by omega), wrapS (by omega) (by omega)]
     omega
   have e2 : wrap64 (Int.tdiv (n : Int) 10) = ((n / 10 : Nat) : Int) := by
     rw [Int.tdiv_eq_ediv_of_nonneg (by omega), wrapS (by omega) (by omega)]
     omega
   refine Ev.step' ?_; simp only [spec_l13Dec.l0]
   refine Ev.pos (by omega) ?_
   rw [e, e2]
   refine Ev.call (a := [((48 + n % 10 : Nat) : Int)]) rfl (Ev.pos (by rw [strOne _ (by omega), BA_size, BA_size]; show 1 + 0 ≤ 9223372036854775807; omega) ?_)
   rw [strOne _ (by omega), BA_append]
   refine evIs (l13Dec_l0 (n / 10) _ (by omega) (by simp)) ?_
   rw [dec_big h9, List.append_nil]
theorem l13Dec_natf (n : Nat) (hn : n ≤ 9223372036854775807) : Ev (fun k => spec_l13Dec.f k (n : Int)) (BA (Lib.decDigits n)) := by
 refine Ev.step' ?_; simp only [spec_l13Dec.f]
 exact Ev.neg (by omega) (Ev.neg (by omega) (l13Dec_nat n hn))
theorem dec_len19 (n : Nat) (hn : n ≤ 9223372036854775807) : (Lib.decDigits n).length ≤ 19 :=
 dec_len 19 n (by have : (10 ^ 19 : Nat) = 10000000000000000000 := by decide
                  omega) (by omega)
theorem itoa_neg (n : Nat) (hn : 0 < n) : Lib.itoa (-(n : Int)) = 45 :: Lib.decDigits n := by
 unfold Lib.itoa
 rw [if_pos (by omega), Int.natAbs_neg, Int.natAbs_natCast]
theorem l13Dec_any {z : Int} (hz : Dz z) : Ev (fun k => spec_l13Dec.f k z) (BA (Lib.itoa z)) ∧ (Lib.itoa z).length ≤ 20 ∧ strconv_Itoa.f z = some (BA (Lib.itoa z)) := by
 obtain ⟨h1, h2⟩ := hz
 have hI : strconv_Itoa.f z = some (BA (Lib.itoa z)) := by
   unfold strconv_Itoa.f
   rw [if_pos (by omega), if_pos (by omega)]
   rfl
 by_cases hn : z < 0
 · obtain ⟨n, rfl⟩ : ∃ n : Nat, z = -(n : Int) := ⟨(-z).toNat, by omega⟩
   have e : wrap64 (-(-(n : Int))) = (n : Int) := by
     rw [Int.neg_neg]
     unfold wrap64
     omega
   have hl := dec_len19 n (by omega)
   rw [itoa_neg n (by omega)] at hI ⊢
   refine ⟨?_, by rw [List.length_cons]; omega, hI⟩
   refine Ev.step' ?_; simp only [spec_l13Dec.f]
   refine Ev.neg (by omega) (Ev.pos hn ?_)
   rw [e]
   refine Ev.bind (l13Dec_natf n (by omega)) (Ev.pos (by rw [BA_size]; omega) (Ev.val ?_))
   show BA [45] ++ BA _ = _
   rw [BA_append]
   rfl
 · obtain ⟨n, rfl⟩ : ∃ n : Nat, z = (n : Int) := ⟨z.toNat, by omega⟩
   have hl := dec_len19 n (by omega)
   rw [itoa_nat] at hI ⊢
   exact ⟨l13Dec_natf n (by omega), by omega, hI⟩
end Go.Proofs.YtidpankoobdfjaaGreatDoor.L
namespace Go.Proofs.YtidpankoobdfjaaGreatDoor.L
open Go.RowKit Go.Proofs.YtidpankoobdfjaaGreatDoorW.PrintWords Go.Proofs.YtidpankoobdfjaaGreatDoorW.PrintLast Go.Proofs.YtidpankoobdfjaaGreatDoorW.PrintMore Go.Proofs.YtidpankoobdfjaaGreatDoor.Q
set_option linter.unusedSimpArgs false
set_option linter.unusedVariables false

theorem rd_at {l : List Int} {i : Nat} (h : i < l.length) : rd l (i : Int) = l[i] := by
 unfold rd
 rw [Int.toNat_natCast, List.getD_eq_getElem?_getD, List.getElem?_eq_getElem h]
 rfl
end Go.Proofs.YtidpankoobdfjaaGreatDoor.L
namespace Go.Proofs.YtidpankoobdfjaaGreatDoor.L
open Go.RowKit Go.Proofs.YtidpankoobdfjaaGreatDoorW.PrintWords Go.Proofs.YtidpankoobdfjaaGreatDoorW.PrintLast Go.Proofs.YtidpankoobdfjaaGreatDoorW.PrintMore Go.Proofs.YtidpankoobdfjaaGreatDoor.Q
set_option linter.unusedSimpArgs false
set_option linter.unusedVariables false

theorem joinW_cons (x y : By) (l : List By) : Lib.join (x :: y :: l) [32] = x ++ 32 :: Lib.join (y :: l) [32] := by
 simp [Lib.join, List.intercalate, List.intersperse]
theorem joinW_one (x : By) : Lib.join [x] [32] = x := by simp [Lib.join, List.intercalate]
theorem joinW_nil : Lib.join [] [32] = [] := rfl
theorem joinW_snoc : ∀ (xs : List By) (x : By), xs ≠ [] → Lib.join (xs ++ [x]) [32] = Lib.join xs [32] ++ 32 :: x
 | [], x, h => absurd rfl h
 | [y], x, _ => by rw [List.singleton_append, joinW_cons, joinW_one, joinW_one]
 | y :: z :: l, x, _ => by
   have := joinW_snoc (z :: l) x (by simp)
   rw [List.cons_append, List.cons_append, joinW_cons, joinW_cons, ← List.cons_append, this]
   simp
abbrev tks (xs : List Int) : List By := xs.map Lib.itoa
def wds (xs : List Int) : By := Lib.join (tks xs) [32]
def spT (xs : List Int) : By := if xs = [] then [45] else wds xs
theorem wds_len : ∀ (xs : List Int), (∀ z ∈ xs, Dz z) → (wds xs).length ≤ 21 * xs.length
 | [], _ => by simp [wds, tks, joinW_nil]
 | [x], h => by
   have h1 := (l13Dec_any (h x (by simp))).2.1
   show (Lib.join [Lib.itoa x] [32]).length ≤ _
   rw [joinW_one]
   simp
   omega
 | x :: y :: l, h => by
   have h1 := (l13Dec_any (h x (by simp))).2.1
   have ih := wds_len (y :: l) (fun z hz => h z (List.mem_cons_of_mem _ hz))
   show (Lib.join (Lib.itoa x :: Lib.itoa y :: tks l) [32]).length ≤ _
   rw [joinW_cons, List.length_append, List.length_cons]
   have e : (Lib.join (Lib.itoa y :: tks l) [32]).length = (wds (y :: l)).length := rfl
   rw [e]
   simp at ih ⊢
   omega
theorem wds_take (xs : List Int) (i : Nat) (h : i < xs.length) (h0 : 0 < i) : wds (xs.take (i + 1)) = wds (xs.take i) ++ 32 :: Lib.itoa xs[i] := by
 unfold wds tks
 rw [List.take_succ_eq_append_getElem h, List.map_append, List.map_cons, List.map_nil, joinW_snoc]
 intro e
 have := congrArg List.length e
 rw [List.length_map, List.length_take, List.length_nil] at this
 omega
theorem itoa_ne (z : Int) : Lib.itoa z ≠ [] := by
 unfold Lib.itoa
 split
 · simp
 · exact dec_ne _
theorem wds_ne {xs : List Int} (h : xs ≠ []) : wds xs ≠ [] := by
 match xs, h with
 | [x], _ =>
   show Lib.join [Lib.itoa x] [32] ≠ []
   rw [joinW_one]
   exact itoa_ne x
 | x :: y :: l, _ =>
   show Lib.join (Lib.itoa x :: Lib.itoa y :: tks l) [32] ≠ []
   rw [joinW_cons]
   simp
theorem spT_len (xs : List Int) (h : ∀ z ∈ xs, Dz z) : (spT xs).length ≤ 21 * xs.length + 1 := by
 unfold spT
 split
 · simp
 · have := wds_len xs h
   omega
theorem spaced_l0 (xs : List Int) (hx : ∀ z ∈ xs, Dz z) (hl : xs.length ≤ 1000000) : ∀ (n i : Nat), xs.length - i = n → i ≤ xs.length → Ev (fun k => impl_spaced.l0 k ((tks (xs.take i)).map BA) xs (xs.length : Int) (i : Int)) (BA (wds xs)) := by
 intro n
 induction n with
 | zero =>
   intro i h1 h2
   rw [List.take_of_length_le (by omega)]
   refine Ev.step' ?_; simp only [impl_spaced.l0]
   refine Ev.neg (by omega) ?_
   have hj : strings_Join.f ((tks xs).map BA) (⟨#[32]⟩ : ByteArray) = some (BA (wds xs)) := by
     have e : ((tks xs).map BA).map (·.data.toList) = tks xs := by
       rw [List.map_map]
       conv => rhs; rw [← List.map_id (tks xs)]
       refine List.map_congr_left (fun x _ => ?_)
       exact data_BA _
     have hw := wds_len xs hx
     unfold strings_Join.f
     rw [e, if_pos (by rw [List.length_map, List.length_map]; omega), if_pos (by show (wds xs).length ≤ _; omega)]
     rfl
   exact Ev.call hj (Ev.now _)
 | succ n ih =>
   intro i h1 h2
   have hi : i < xs.length := by omega
   have hnext := ih (i + 1) (by omega) (by omega)
   have e1 : (tks (xs.take (i + 1))).map BA = (tks (xs.take i)).map BA ++ [BA (Lib.itoa xs[i])] := by
     unfold tks
     rw [List.take_succ_eq_append_getElem hi, List.map_append, List.map_append]
     rfl
   rw [e1] at hnext
   refine Ev.step' ?_; simp only [impl_spaced.l0]
   refine Ev.pos (by omega) (Ev.pos (by omega) (Ev.pos (by omega) ?_))
   rw [rd_at hi, wrapS (by omega) (by omega)]
   exact Ev.call (l13Dec_any (hx _ (List.getElem_mem hi))).2.2 (Ev.pos (by rw [List.length_map, List.length_map, List.length_take]; omega) hnext)
theorem spaced_is (xs : List Int) (hx : ∀ z ∈ xs, Dz z) (hl : xs.length ≤ 1000000) : Ev (fun k => impl_spaced.f k xs) (BA (spT xs)) := by
 unfold impl_spaced.f spT
 by_cases h0 : xs = []
 · subst h0
   rw [if_pos rfl]
   exact Ev.pos rfl (Ev.now _)
 · have hp := List.length_pos_iff.2 h0
   rw [if_neg h0]
   exact Ev.neg (by omega) (spaced_l0 xs hx hl _ 0 rfl (Nat.zero_le _))
theorem l2Numbers_l0 (xs : List Int) (hx : ∀ z ∈ xs, Dz z) (hl : xs.length ≤ 1000000) : ∀ (n i : Nat), xs.length - i = n → i ≤ xs.length → Ev (fun k => spec_l2Numbers.l0 k (BA (wds (xs.take i))) xs (xs.length : Int) (i : Int)) (BA (spT xs)) := by
 intro n
 induction n with
 | zero =>
   intro i h1 h2
   rw [List.take_of_length_le (by omega)]
   refine Ev.step' ?_; simp only [spec_l2Numbers.l0]
   refine Ev.neg (by omega) ?_
   rw [toList_BA]
   unfold spT
   by_cases h0 : xs = []
   · subst h0
     rw [if_pos rfl]
     exact Ev.pos rfl (Ev.now _)
   · rw [if_neg h0]
     exact Ev.neg (wds_ne h0) (Ev.now _)
 | succ n ih =>
   intro i h1 h2
   have hi : i < xs.length := by omega
   have hnext := ih (i + 1) (by omega) (by omega)
   obtain ⟨hd, hdl, _⟩ := l13Dec_any (hx _ (List.getElem_mem hi))
   have hw := wds_len (xs.take i) (fun z hz => hx z (List.mem_of_mem_take hz))
   rw [List.length_take, Nat.min_eq_left (by omega)] at hw
   refine Ev.step' ?_; simp only [spec_l2Numbers.l0]
   refine Ev.pos (by omega) (Ev.pos (by omega) (Ev.pos (by omega) ?_))
   rw [rd_at hi, wrapS (by omega) (by omega)]
   rcases Nat.eq_zero_or_pos i with rfl | h0
   · refine Ev.neg (by omega) (Ev.bind hd (Ev.pos (by rw [BA_size, BA_size]; omega) ?_))
     rw [BA_append]
     have e : wds (xs.take 0) ++ Lib.itoa xs[0] = wds (xs.take (0 + 1)) := by
       rw [List.take_succ_eq_append_getElem hi]
       show [] ++ _ = Lib.join [Lib.itoa xs[0]] [32]
       rw [joinW_one]
       rfl
     rw [e]
     exact hnext
   · refine Ev.pos (by omega) (Ev.pos (by rw [BA_size]; omega) (Ev.bind hd (Ev.pos (by rw [BA_size, BA_size]; omega) ?_)))
     have e : BA (wds (xs.take i)) ++ (⟨#[32]⟩ : ByteArray) ++ BA (Lib.itoa xs[i]) = BA (wds (xs.take (i + 1))) := by
       show BA _ ++ BA [32] ++ BA _ = _
       rw [BA_append, BA_append, wds_take xs i hi h0, List.append_assoc]
       rfl
     rw [e]
     exact hnext
theorem l2Numbers_is (xs : List Int) (hx : ∀ z ∈ xs, Dz z) (hl : xs.length ≤ 1000000) : Ev (fun k => spec_l2Numbers.f k xs) (BA (spT xs)) := by
 unfold spec_l2Numbers.f
 exact l2Numbers_l0 xs hx hl _ 0 rfl (Nat.zero_le _)
/-- The text of a layout's levels. -/
def lvT (L : List (List Int)) : By := (L.map (fun r => spT r ++ [124])).flatten
def layTx (L : List (List Int)) (D : List Int) : By := lvT L ++ spT D
def Dzs (L : List (List Int)) (D : List Int) : Prop := L.length ≤ 1000 ∧ (∀ r ∈ L, r.length ≤ 1000000 ∧ ∀ z ∈ r, Dz z) ∧ D.length ≤ 1000000 ∧ ∀ z ∈ D, Dz z
theorem lvT_len : ∀ (L : List (List Int)), (∀ r ∈ L, r.length ≤ 1000000 ∧ ∀ z ∈ r, Dz z) → (lvT L).length ≤ 21000002 * L.length
 | [], _ => by simp [lvT]
 | r :: L, h => by
   have h1 := h r (by simp)
   have h2 := spT_len r h1.2
   have ih := lvT_len L (fun x hx => h x (List.mem_cons_of_mem _ hx))
   have e : lvT (r :: L) = (spT r ++ [124]) ++ lvT L := by simp [lvT]
   rw [e, List.length_append, List.length_append]
   have h3 := h1.1
   simp at ih ⊢
   omega
theorem lvT_take (L : List (List Int)) (i : Nat) (h : i < L.length) : lvT (L.take (i + 1)) = lvT (L.take i) ++ (spT L[i] ++ [124]) := by
 unfold lvT
 rw [List.take_succ_eq_append_getElem h, List.map_append, List.flatten_append]
 congr 1
 simp
theorem getLv {L : List (List Int)} {i : Nat} (h : i < L.length) : rd_L1 L (i : Int) = L[i] := by
 show L.getD i [] = _
 rw [List.getD_eq_getElem?_getD, List.getElem?_eq_getElem h]
 rfl
theorem fmt_l0 (L : List (List Int)) (D : List Int) (hD : Dzs L D) : ∀ (n i : Nat), L.length - i = n → i ≤ L.length →
   Ev (fun k => impl_FormatLayout.l0 k (BA (lvT (L.take i))) L (L.length : Int) (i : Int) L D) (BA (layTx L D)) ∧ Ev (fun k => spec_FormatLayout.l0 k (BA (lvT (L.take i))) L (L.length : Int) (i : Int) L D) (BA (layTx L D)) := by
 obtain ⟨d1, d2, d3, d4⟩ := hD
 intro n
 induction n with
 | zero =>
   intro i h1 h2
   have hlv := lvT_len L d2
   have hsp := spT_len D d4
   rw [List.take_of_length_le (by omega)]
   have hb : (BA (lvT L)).size + (BA (spT D)).size ≤ 9223372036854775807 := by rw [BA_size, BA_size]; omega
   constructor
   · refine Ev.step' ?_; simp only [impl_FormatLayout.l0]
     refine Ev.neg (by omega) (Ev.bind (spaced_is D d4 d3) (Ev.pos hb (Ev.val ?_)))
     rw [BA_append]
     rfl
   · refine Ev.step' ?_; simp only [spec_FormatLayout.l0]
     refine Ev.neg (by omega) (Ev.bind (l2Numbers_is D d4 d3) (Ev.pos hb (Ev.val ?_)))
     rw [BA_append]
     rfl
 | succ n ih =>
   intro i h1 h2
   have hi : i < L.length := by omega
   obtain ⟨n1, n2⟩ := ih (i + 1) (by omega) (by omega)
   obtain ⟨r1, r2⟩ := d2 _ (List.getElem_mem hi)
   have hlv := lvT_len (L.take i) (fun r hr => d2 r (List.mem_of_mem_take hr))
   rw [List.length_take, Nat.min_eq_left (by omega)] at hlv
   have hsp := spT_len L[i] r2
   have e1 : BA (lvT (L.take i)) ++ (BA (spT L[i]) ++ (⟨#[124]⟩ : ByteArray)) = BA (lvT (L.take (i + 1))) := by
     show BA _ ++ (BA _ ++ BA [124]) = _
     rw [BA_append, BA_append, lvT_take L i hi]
   have e2 : BA (lvT (L.take i)) ++ BA (spT L[i]) ++ (⟨#[124]⟩ : ByteArray) = BA (lvT (L.take (i + 1))) := by
     show BA _ ++ BA _ ++ BA [124] = _
     rw [BA_append, BA_append, lvT_take L i hi, List.append_assoc]
   constructor
   · refine Ev.step' ?_; simp only [impl_FormatLayout.l0]
     refine Ev.pos (by omega) (Ev.pos (by omega) (Ev.pos (by omega) ?_))
     rw [getLv hi, wrapS (by omega) (by omega)]
     refine Ev.bind (spaced_is L[i] r2 r1) (Ev.pos (by rw [BA_size]; omega) (Ev.pos (by rw [BA_size, BA_size]; omega) ?_))
     rw [e1]
     exact n1
   · refine Ev.step' ?_; simp only [spec_FormatLayout.l0]
     refine Ev.pos (by omega) (Ev.pos (by omega) (Ev.pos (by omega) ?_))
     rw [getLv hi, wrapS (by omega) (by omega)]
     refine Ev.bind (l2Numbers_is L[i] r2 r1) (Ev.pos (by rw [BA_size, BA_size]; omega) (Ev.pos (by rw [BA_size, BA_size]; omega) ?_))
     rw [e2]
     exact n2
theorem fmt_is (L : List (List Int)) (D : List Int) (hD : Dzs L D) : Ev (fun k => impl_FormatLayout.f k L D) (BA (layTx L D)) ∧ Ev (fun k => spec_FormatLayout.f k L D) (BA (layTx L D)) := by
 obtain ⟨h1, h2⟩ := fmt_l0 L D hD _ 0 rfl (Nat.zero_le _)
 unfold impl_FormatLayout.f spec_FormatLayout.f
 exact ⟨h1, h2⟩
theorem layTx_len (L : List (List Int)) (D : List Int) (hD : Dzs L D) : (layTx L D).length ≤ 100000000000 := by
 obtain ⟨d1, d2, d3, d4⟩ := hD
 have h1 := lvT_len L d2
 have h2 := spT_len D d4
 unfold layTx
 rw [List.length_append]
 omega
end Go.Proofs.YtidpankoobdfjaaGreatDoor.L
namespace Go.Proofs.YtidpankoobdfjaaGreatDoor.L
open Go.RowKit Go.Proofs.YtidpankoobdfjaaGreatDoorW.PrintWords Go.Proofs.YtidpankoobdfjaaGreatDoorW.PrintLast Go.Proofs.YtidpankoobdfjaaGreatDoorW.PrintMore Go.Proofs.YtidpankoobdfjaaGreatDoor.Q
set_option linter.unusedSimpArgs false
set_option linter.unusedVariables false

theorem evOne {α : Type} {g : Nat → Option α} {a b : α} (h1 : Ev g a) (h2 : Ev g b) : a = b := by
 obtain ⟨n, hn⟩ := h1
 obtain ⟨m, hm⟩ := h2
 have e1 := hn (max n m) (Nat.le_max_left _ _)
 have e2 := hm (max n m) (Nat.le_max_right _ _)
 rw [e1] at e2
 exact Option.some.inj e2
def hd1 (b : UInt8) : List By → List By
 | [] => [[b]]
 | p :: ps => (b :: p) :: ps
def cutL (c : UInt8) : By → List By
 | [] => [[]]
 | b :: l => if b = c then [] :: cutL c l else hd1 b (cutL c l)
theorem cutL_hit (c : UInt8) (l : By) : cutL c (c :: l) = [] :: cutL c l := if_pos rfl
theorem cutL_miss {b c : UInt8} (h : b ≠ c) (l : By) : cutL c (b :: l) = hd1 b (cutL c l) := if_neg h
theorem cutL_ne (c : UInt8) : ∀ l : By, cutL c l ≠ []
 | [] => by simp [cutL]
 | b :: l => by
   unfold cutL
   split
   · simp
   · cases cutL c l <;> simp [hd1]
theorem cutL_len (c : UInt8) : ∀ l : By, (cutL c l).length ≤ l.length + 1
 | [] => by simp [cutL]
 | b :: l => by
   have ih := cutL_len c l
   have hne := cutL_ne c l
   unfold cutL
   split
   · simp; omega
   · cases h : cutL c l with
     | nil => exact absurd h hne
     | cons p ps => rw [h] at ih; simp [hd1] at ih ⊢; omega
theorem cutL_mem (c : UInt8) : ∀ (l p : By), p ∈ cutL c l → p.length ≤ l.length ∧ ∀ b ∈ p, b ∈ l
 | [], p, h => by
   have : p = [] := by simpa [cutL] using h
   subst this
   exact ⟨Nat.le_refl _, fun b hb => hb⟩
 | x :: l, p, h => by
   have ih := cutL_mem c l
   unfold cutL at h
   split at h
   · rcases List.mem_cons.1 h with rfl | h
     · exact ⟨Nat.zero_le _, fun b hb => by cases hb⟩
     · have := ih p h
       exact ⟨Nat.le_succ_of_le this.1, fun b hb => List.mem_cons_of_mem _ (this.2 b hb)⟩
   · cases hc : cutL c l with
     | nil => exact absurd hc (cutL_ne c l)
     | cons q qs =>
       rw [hc] at h ih
       rcases List.mem_cons.1 h with rfl | h
       · have := ih q (by simp)
         refine ⟨by simp; exact this.1, fun b hb => ?_⟩
         rcases List.mem_cons.1 hb with rfl | hb
         · simp
         · exact List.mem_cons_of_mem _ (this.2 b hb)
       · have := ih p (List.mem_cons_of_mem _ h)
         exact ⟨Nat.le_succ_of_le this.1, fun b hb => List.mem_cons_of_mem _ (this.2 b hb)⟩
theorem cutL_none (c : UInt8) : ∀ (a : By), c ∉ a → cutL c a = [a]
 | [], _ => rfl
 | b :: a, h => by
   have hb : b ≠ c := fun e => h (by rw [e]; simp)
   rw [cutL_miss hb, cutL_none c a (fun h' => h (List.mem_cons_of_mem _ h'))]
   rfl
theorem cutL_app (c : UInt8) (r : By) : ∀ (a : By), c ∉ a → cutL c (a ++ c :: r) = a :: cutL c r
 | [], _ => cutL_hit c r
 | b :: a, h => by
   have hb : b ≠ c := fun e => h (by rw [e]; simp)
   rw [List.cons_append, cutL_miss hb, cutL_app c r a (fun h' => h (List.mem_cons_of_mem _ h'))]
   rfl
theorem splitK_cut (c : UInt8) : ∀ (s : By) (k : Nat), s.count c = k → Lib.splitK [c] 0 k s = cutL c s
 | [], k, h => by
   have : k = 0 := by simpa using h.symm
   subst this
   rfl
 | b :: l, k, h => by
   by_cases hb : b = c
   · subst hb
     rw [List.count_cons_self] at h
     obtain ⟨j, rfl⟩ : ∃ j, k = j + 1 := ⟨k - 1, by omega⟩
     have ih := splitK_cut b l j (by omega)
     have hi : Lib.index (b :: l) [b] = 0 := by simp [Lib.index]
     rw [cutL_hit, ← ih, Lib.splitK, hi]
     rfl
   · rw [List.count_cons_of_ne hb] at h
     have ih := splitK_cut c l k h
     rw [cutL_miss hb, ← ih]
     cases k with
     | zero => rfl
     | succ j =>
       have hge := Lib.indexByte_ge l c
       rw [← Lib.index_one] at hge
       have hne : Lib.index l [c] ≠ -1 := fun e => by
         have := Lib.count_miss e
         rw [Lib.count_one] at this
         omega
       obtain ⟨i, hi⟩ : ∃ i : Nat, Lib.index l [c] = (i : Int) := ⟨(Lib.index l [c]).toNat, by omega⟩
       have hi2 : Lib.index (b :: l) [c] = ((i + 1 : Nat) : Int) := by
         unfold Lib.index
         rw [if_neg (by simp [List.isPrefixOf]; exact fun e => hb e.symm), if_neg (by rw [hi]; simp), hi]
         rfl
       unfold Lib.splitK
       rw [hi, hi2, if_neg (by simp; omega), if_neg (by simp)]
       simp [hd1]
theorem split_is (s : By) (hs : s.length ≤ 1000000) : strings_Split.f (BA s) (⟨#[124]⟩ : ByteArray) = some ((cutL 124 s).map BA) := by
 unfold strings_Split.f
 rw [if_pos (by rw [BA_size]; omega), if_pos (by decide)]
 congr 1
 have h := Lib.splitB_data (⟨#[124]⟩ : ByteArray) 0 (Lib.countB (BA s) (⟨#[124]⟩ : ByteArray)) (BA s)
 have hc : Lib.countB (BA s) (⟨#[124]⟩ : ByteArray) = s.count 124 := by
   unfold Lib.countB
   rw [data_BA]
   exact Lib.count_one 124 s
 rw [data_BA, hc] at h
 have h2 := h.trans (splitK_cut 124 s _ rfl)
 rw [hc]
 generalize Lib.splitB (⟨#[124]⟩ : ByteArray) 0 (s.count 124) (BA s) = X at h2 ⊢
 rw [← h2, List.map_map]
 conv => lhs; rw [← List.map_id X]
 refine List.map_congr_left (fun x _ => ?_)
 exact (BA_data x).symm
def glue (p : By) : List By → List By
 | [] => [p]
 | q :: qs => (p ++ q) :: qs
theorem glue_hd (p : By) (b : UInt8) (ps : List By) (h : ps ≠ []) : glue p (hd1 b ps) = glue (p ++ [b]) ps := by
 cases ps with
 | nil => exact absurd rfl h
 | cons q qs => simp [glue, hd1]
theorem glue_nil (ps : List By) (h : ps ≠ []) : glue [] ps = ps := by
 cases ps with
 | nil => exact absurd rfl h
 | cons q qs => rfl
theorem bt_at2 {l : By} {i : Nat} (h : i < l.length) : bt (BA l) (i : Int) = (l[i].toNat : Int) := by
 rw [bt_BA, Int.toNat_natCast, List.getD_eq_getElem?_getD, List.getElem?_eq_getElem h]
 rfl
theorem l13Cut_l0 (c : UInt8) (s : By) (hs : s.length ≤ 1000000) : ∀ (n i fr : Nat) (acc : List By), s.length - i = n → i ≤ s.length → fr ≤ i → acc.length ≤ i →
   Ev (fun k => spec_l13Cut.l0 k (BA s) (c.toNat : Int) (acc.map BA) (fr : Int) (i : Int)) ((acc ++ glue ((s.drop fr).take (i - fr)) (cutL c (s.drop i))).map BA) := by
 intro n
 induction n with
 | zero =>
   intro i fr acc h1 h2 h3 h4
   have hi : i = s.length := by omega
   have b1 : (i : Int) ≤ ((BA s).size : Int) := by rw [BA_size]; omega
   have b2 : (i : Int) = ((BA s).size : Int) := by rw [BA_size]; omega
   have b3 : (acc.map BA).length < 8796093022208 := by rw [List.length_map]; omega
   have b4 : ¬ wrap64 ((i : Int) + 1) ≤ ((BA s).size : Int) := by rw [wrapS (by omega) (by omega), BA_size]; omega
   have b5 : (0 : Int) ≤ (fr : Int) := by omega
   have b6 : (fr : Int) ≤ (i : Int) := by omega
   have e : cutL c (s.drop i) = [[]] := by rw [List.drop_eq_nil_of_le (by omega)]; rfl
   rw [e]
   refine Ev.step' ?_; simp only [spec_l13Cut.l0]
   refine Ev.pos b1 (Ev.pos b2 (Ev.pos b5 (Ev.pos b6 (Ev.pos b3 ?_))))
   refine Ev.step' ?_; simp only [spec_l13Cut.l0]
   refine Ev.neg b4 (Ev.val ?_)
   rw [Int.toNat_natCast, Int.toNat_natCast, BA_extract, List.map_append]
   show _ = _ ++ [BA ((s.drop fr).take (i - fr) ++ [])]
   rw [List.append_nil]
 | succ n ih =>
   intro i fr acc h1 h2 h3 h4
   have hi : i < s.length := by omega
   have b1 : (i : Int) ≤ ((BA s).size : Int) := by rw [BA_size]; omega
   have b2 : ¬ (i : Int) = ((BA s).size : Int) := by rw [BA_size]; omega
   have b3 : (acc.map BA).length < 8796093022208 := by rw [List.length_map]; omega
   have b5 : (0 : Int) ≤ (fr : Int) := by omega
   have b6 : (fr : Int) ≤ (i : Int) := by omega
   have b7 : (0 : Int) ≤ (i : Int) := by omega
   have b8 : (i : Int) < ((BA s).size : Int) := by rw [BA_size]; omega
   have ei : wrap64 ((i : Int) + 1) = ((i + 1 : Nat) : Int) := by rw [wrapS (by omega) (by omega)]; omega
   have a1 : s.length - (i + 1) = n := by rw [Nat.sub_succ, h1]; rfl
   rw [List.drop_eq_getElem_cons hi]
   refine Ev.step' ?_; simp only [spec_l13Cut.l0]
   refine Ev.pos b1 (Ev.neg b2 (Ev.pos b7 (Ev.pos b8 ?_)))
   rw [bt_at2 hi, ei]
   by_cases hc : s[i] = c
   · have hnext := ih (i + 1) (i + 1) (acc ++ [(s.drop fr).take (i - fr)]) a1 hi (Nat.le_refl _) (by rw [List.length_append, List.length_singleton]; omega)
     rw [Nat.sub_self, List.take_zero, glue_nil _ (cutL_ne _ _), List.map_append, List.map_singleton] at hnext
     refine Ev.pos (by rw [hc]) (Ev.pos b5 (Ev.pos b6 (Ev.pos b3 ?_)))
     rw [Int.toNat_natCast, Int.toNat_natCast, BA_extract, hc, cutL_hit]
     have e : acc ++ glue ((s.drop fr).take (i - fr)) ([] :: cutL c (s.drop (i + 1))) = acc ++ [(s.drop fr).take (i - fr)] ++ cutL c (s.drop (i + 1)) := by simp [glue]
     rw [e]
     exact hnext
   · have hnext := ih (i + 1) fr acc a1 hi (by omega) (by omega)
     have e : (s.drop fr).take (i + 1 - fr) = (s.drop fr).take (i - fr) ++ [s[i]] := by
       have hlt : i - fr < (s.drop fr).length := by rw [List.length_drop]; omega
       rw [show i + 1 - fr = i - fr + 1 by omega, List.take_succ_eq_append_getElem hlt, List.getElem_drop]
       congr 3
       omega
     rw [e] at hnext
     rw [cutL_miss hc, glue_hd _ _ _ (cutL_ne _ _)]
     refine Ev.neg (fun e' => hc ?_) hnext
     exact UInt8.toNat.inj (Int.ofNat.inj e')
theorem l13Cut_is (c : UInt8) (s : By) (hs : s.length ≤ 1000000) : Ev (fun k => spec_l13Cut.f k (BA s) (c.toNat : Int)) ((cutL c s).map BA) := by
 have h := l13Cut_l0 c s hs _ 0 0 [] rfl (Nat.zero_le _) (Nat.le_refl _) (Nat.le_refl _)
 rw [Nat.sub_zero, List.take_zero, List.drop_zero, glue_nil _ (cutL_ne _ _), List.nil_append] at h
 unfold spec_l13Cut.f
 exact h
/-! ### words, numbers -/
theorem p10_cons (acc : Nat) (c : UInt8) (r : By) : Lib.parseUint10 acc (c :: r) = if 48 ≤ c.toNat ∧ c.toNat ≤ 57 then (if 1844674407370955162 ≤ acc then .range else if 18446744073709551616 ≤ acc * 10 + (c.toNat - 48) then .range else Lib.parseUint10 (acc * 10 + (c.toNat - 48)) r) else Lib.NumEnd.syntax := by rw [Lib.parseUint10]
theorem parse10_app : ∀ (a b : By) (acc : Nat), Lib.parseUint10 acc (a ++ b) = match Lib.parseUint10 acc a with | .ok v => Lib.parseUint10 v b | Lib.NumEnd.syntax => Lib.NumEnd.syntax | .range => .range
 | [], b, acc => rfl
 | c :: a, b, acc => by
   rw [List.cons_append, p10_cons, p10_cons]
   split
   · split
     · rfl
     · split
       · rfl
       · exact parse10_app a b _
   · rfl
theorem parse10_dec (n : Nat) (h : n < 18446744073709551616) : Lib.parseUint10 0 (Lib.decDigits n) = .ok n := by
 induction n using Nat.strongRecOn with
 | _ n ih =>
   by_cases h9 : n < 10
   · rw [dec_small h9]
     unfold Lib.parseUint10
     rw [toNat_dig h9, if_pos (by omega), if_neg (by omega), if_neg (by omega)]
     show Lib.NumEnd.ok _ = _
     congr 1
     omega
   · have ih' := ih (n / 10) (by omega) (by omega)
     have hm : n % 10 < 10 := by omega
     rw [dec_big h9, parse10_app, ih']
     show Lib.parseUint10 (n / 10) [UInt8.ofNat (48 + n % 10)] = _
     unfold Lib.parseUint10
     rw [toNat_dig hm, if_pos (by omega), if_neg (by omega), if_neg (by omega)]
     show Lib.NumEnd.ok _ = _
     congr 1
     omega
theorem atoi_itoa {z : Int} (hz : Dz z) : Lib.atoiAll (Lib.itoa z) = .ok z := by
 obtain ⟨h1, h2⟩ := hz
 have hpm : ∀ n : Nat, n ≤ 9223372036854775807 → Lib.parseMag (Lib.decDigits n) = .ok n := fun n hn => by
   unfold Lib.parseMag
   rw [if_neg (dec_ne n)]
   exact parse10_dec n (by omega)
 by_cases hn : z < 0
 · obtain ⟨n, rfl⟩ : ∃ n : Nat, z = -(n : Int) := ⟨(-z).toNat, by omega⟩
   rw [itoa_neg n (by omega)]
   unfold Lib.atoiAll
   have h45 : (45 : UInt8).toNat = 45 := rfl
   simp only [h45, or_true, if_true, hpm n (by omega), not_true_eq_false, false_and, if_false, true_and]
   rw [if_neg (by omega)]
 · obtain ⟨n, rfl⟩ : ∃ n : Nat, z = (n : Int) := ⟨z.toNat, by omega⟩
   rw [itoa_nat]
   obtain ⟨c, r, e⟩ := List.exists_cons_of_ne_nil (dec_ne n)
   have ha := dec_all n
   have hp := hpm n (by omega)
   rw [e] at ha hp ⊢
   simp only [List.all_cons, Bool.and_eq_true, isD, decide_eq_true_eq] at ha
   obtain ⟨⟨c1, c2⟩, _⟩ := ha
   have n43 : ¬ (c.toNat = 43 ∨ c.toNat = 45) := by omega
   have n45 : ¬ c.toNat = 45 := by omega
   unfold Lib.atoiAll
   dsimp only
   rw [if_neg n43, hp]
   dsimp only
   simp only [n45, not_false_eq_true, true_and, false_and, if_false]
   show (if 9223372036854775808 ≤ n then Lib.NumEnd.range else Lib.NumEnd.ok (n : Int)) = _
   rw [if_neg (by omega)]
def NoSp (t : By) : Prop := ∀ b ∈ t, Lib.isSp b = false
theorem fieldsGo_tok : ∀ (t cur r : By), NoSp t → Lib.fieldsGo cur (t ++ r) = Lib.fieldsGo (cur ++ t) r
 | [], cur, r, _ => by rw [List.append_nil]; rfl
 | b :: t, cur, r, h => by
   rw [List.cons_append, Lib.fieldsGo_more _ _ _ (h b (by simp)), fieldsGo_tok t _ r (fun x hx => h x (List.mem_cons_of_mem _ hx)), List.append_assoc]
   rfl
theorem fields_join : ∀ (xs : List By), (∀ t ∈ xs, t ≠ [] ∧ NoSp t) → Lib.fieldsGo [] (Lib.join xs [32]) = xs
 | [], _ => rfl
 | [t], h => by
   obtain ⟨h1, h2⟩ := h t (by simp)
   rw [joinW_one]
   have := fieldsGo_tok t [] [] h2
   rw [List.append_nil, List.nil_append] at this
   rw [this]
   unfold Lib.fieldsGo
   rw [if_neg (by simpa using h1)]
 | t :: u :: l, h => by
   obtain ⟨h1, h2⟩ := h t (by simp)
   have ih := fields_join (u :: l) (fun x hx => h x (List.mem_cons_of_mem _ hx))
   rw [joinW_cons, fieldsGo_tok t [] _ h2, List.nil_append, Lib.fieldsGo_end _ _ _ (by decide) h1, ih]
theorem itoa_bytes (z : Int) : ∀ b ∈ Lib.itoa z, b = 45 ∨ isD b = true := by
 intro b hb
 unfold Lib.itoa at hb
 split at hb
 · rcases List.mem_cons.1 hb with rfl | hb
   · exact .inl rfl
   · exact .inr (List.all_eq_true.1 (dec_all _) b hb)
 · exact .inr (List.all_eq_true.1 (dec_all _) b hb)
theorem isD_facts {b : UInt8} (h : b = 45 ∨ isD b = true) : Lib.isSp b = false ∧ b ≠ 32 ∧ b ≠ 124 ∧ b.toNat < 128 := by
 have hn : 45 ≤ b.toNat ∧ b.toNat ≤ 57 := by
   rcases h with rfl | h
   · decide
   · have := (isD_iff b).1 h; omega
 have ne : ∀ c : UInt8, (c.toNat < 45 ∨ 57 < c.toNat) → b ≠ c := fun c hc e => by rw [e] at hn; omega
 refine ⟨?_, ne 32 (by decide), ne 124 (by decide), by omega⟩
 unfold Lib.isSp
 simp only [Bool.or_eq_false_iff, beq_eq_false_iff_ne]
 exact ⟨⟨⟨⟨⟨ne 9 (by decide), ne 10 (by decide)⟩, ne 11 (by decide)⟩, ne 12 (by decide)⟩, ne 13 (by decide)⟩, ne 32 (by decide)⟩
theorem wds_bytes : ∀ (xs : List Int), ∀ b ∈ wds xs, b = 32 ∨ b = 45 ∨ isD b = true
 | [], b, h => by simp [wds, tks, joinW_nil] at h
 | [x], b, h => by
   have e : wds [x] = Lib.itoa x := joinW_one _
   rw [e] at h
   exact .inr (itoa_bytes x b h)
 | x :: y :: l, b, h => by
   have e : wds (x :: y :: l) = Lib.itoa x ++ 32 :: wds (y :: l) := joinW_cons _ _ _
   rw [e] at h
   rcases List.mem_append.1 h with h | h
   · exact .inr (itoa_bytes x b h)
   · rcases List.mem_cons.1 h with rfl | h
     · exact .inl rfl
     · exact wds_bytes (y :: l) b h
theorem spT_bytes (xs : List Int) : ∀ b ∈ spT xs, b ≠ 124 ∧ b.toNat < 128 := by
 intro b hb
 unfold spT at hb
 split at hb
 · have : b = 45 := by simpa using hb
   subst this
   decide
 · rcases wds_bytes xs b hb with rfl | h
   · decide
   · have := isD_facts h
     exact ⟨this.2.2.1, this.2.2.2⟩
theorem cut_lay (D : List Int) : ∀ (L : List (List Int)), cutL 124 (layTx L D) = L.map spT ++ [spT D]
 | [] => by
   show cutL 124 ([] ++ spT D) = _
   rw [List.nil_append, cutL_none 124 _ (fun h => (spT_bytes D _ h).1 rfl)]
   rfl
 | r :: L => by
   have ih := cut_lay D L
   have e : layTx (r :: L) D = spT r ++ 124 :: layTx L D := by simp [layTx, lvT]
   rw [e, cutL_app 124 _ _ (fun h => (spT_bytes r _ h).1 rfl), ih]
   rfl
def atoiOk (t : By) : Option Int := match Lib.atoiAll t with | .ok v => some v | _ => none
def rowI (p : By) : List Int := (Lib.fields p).filterMap atoiOk
theorem atoiOk_itoa {z : Int} (hz : Dz z) : atoiOk (Lib.itoa z) = some z := by
 unfold atoiOk
 rw [atoi_itoa hz]
theorem rowI_spT {xs : List Int} (h : ∀ z ∈ xs, Dz z) : rowI (spT xs) = xs := by
 unfold rowI spT
 by_cases h0 : xs = []
 · subst h0
   rw [if_pos rfl]
   decide
 · rw [if_neg h0]
   have e : Lib.fields (wds xs) = tks xs := fields_join (tks xs) (fun t ht => by
     obtain ⟨z, hz, rfl⟩ := List.mem_map.1 ht
     exact ⟨itoa_ne z, fun b hb => (isD_facts (itoa_bytes z b hb)).1⟩)
   rw [e]
   clear h0 e
   induction xs with
   | nil => rfl
   | cons x xs ih =>
     show List.filterMap atoiOk (Lib.itoa x :: tks xs) = _
     rw [List.filterMap_cons, atoiOk_itoa (h x (by simp)), ih (fun z hz => h z (List.mem_cons_of_mem _ hz))]
theorem layTx_ascii (L : List (List Int)) (D : List Int) : ∀ b ∈ layTx L D, b.toNat < 128 := by
 intro b hb
 unfold layTx lvT at hb
 rcases List.mem_append.1 hb with hb | hb
 · obtain ⟨x, hx, hbx⟩ := List.mem_flatten.1 hb
   obtain ⟨r, _, rfl⟩ := List.mem_map.1 hx
   rcases List.mem_append.1 hbx with h | h
   · exact (spT_bytes r b h).2
   · have : b = 124 := by simpa using h
     subst this
     decide
 · exact (spT_bytes D b hb).2
end Go.Proofs.YtidpankoobdfjaaGreatDoor.L
namespace Go.Proofs.YtidpankoobdfjaaGreatDoor.L
open Go.RowKit Go.Proofs.YtidpankoobdfjaaGreatDoorW.PrintWords Go.Proofs.YtidpankoobdfjaaGreatDoorW.PrintLast Go.Proofs.YtidpankoobdfjaaGreatDoorW.PrintMore Go.Proofs.YtidpankoobdfjaaGreatDoor.Q
set_option linter.unusedSimpArgs false
set_option linter.unusedVariables false

theorem inM_is (n a b : Int) : spec_l1In.f n a b = some (decide (a ≤ n ∧ n ≤ b)) := by
 unfold spec_l1In.f
 by_cases h : n ≥ a
 · rw [if_pos h]
   congr 1
   simp
   omega
 · rw [if_neg h]
   congr 1
   simp
   omega
abbrev intsW (l : List Nat) : List Int := l.map fun n : Nat => (n : Int)
theorem rdW_at {l : List Nat} {i : Nat} (h : i < l.length) : rd (intsW l) (i : Int) = (l[i] : Int) := by
 rw [rd_at (by rw [List.length_map]; exact h), List.getElem_map]
theorem total_l0 (xs : List Nat) (hs : xs.sum ≤ 1000000000000) (hl : xs.length ≤ 1000000) : ∀ (n i acc : Nat), xs.length - i = n → i ≤ xs.length → acc + (xs.drop i).sum = xs.sum → Ev (fun k => impl_total.l0 k (acc : Int) (intsW xs) ((intsW xs).length : Int) (i : Int)) ((xs.sum : Nat) : Int) := by
 intro n
 induction n with
 | zero =>
   intro i acc h1 h2 h3
   rw [List.drop_eq_nil_of_le (by omega)] at h3
   refine Ev.step' ?_; simp only [impl_total.l0]
   refine Ev.neg (by rw [List.length_map]; omega) (Ev.val ?_)
   simp at h3
   omega
 | succ n ih =>
   intro i acc h1 h2 h3
   have hi : i < xs.length := by omega
   rw [List.drop_eq_getElem_cons hi, List.sum_cons] at h3
   have hnext := ih (i + 1) (acc + xs[i]) (by omega) (by omega) (by omega)
   refine Ev.step' ?_; simp only [impl_total.l0]
   refine Ev.pos (by rw [List.length_map]; omega) (Ev.pos (by omega) (Ev.pos (by rw [List.length_map]; omega) ?_))
   rw [rdW_at hi, wrapS (by omega) (by omega), wrapS (by omega) (by omega)]
   exact hnext
theorem total_is (xs : List Nat) (hs : xs.sum ≤ 1000000000000) (hl : xs.length ≤ 1000000) : Ev (fun k => impl_total.f k (intsW xs)) ((xs.sum : Nat) : Int) := by
 unfold impl_total.f
 exact total_l0 xs hs hl _ 0 0 rfl (Nat.zero_le _) (by simp)
def In (M : Nat) (r : List Int) : Prop := ∀ z ∈ r, 0 ≤ z ∧ z ≤ (M : Int)
instance (M : Nat) (r : List Int) : Decidable (In M r) := by unfold In; infer_instance
def isum (r : List Int) : Int := (r.map Int.toNat).sum
def wrongV (d : Nat) (D : List Int) : Nat → Int → List (List Int) → Int
 | _, c, [] => if (D.length : Int) = c ∧ In 10006 D then -1 else (d : Int)
 | i, c, r :: Ls => if i < 3 ∧ (r.length : Int) = c ∧ In 400 r then wrongV d D (i + 1) (isum r) Ls else (i : Int)
theorem wrongV_ok {d : Nat} {D : List Int} {i : Nat} {c : Int} (h : (D.length : Int) = c ∧ In 10006 D) : wrongV d D i c [] = -1 := if_pos h
theorem wrongV_no {d : Nat} {D : List Int} {i : Nat} {c : Int} (h : ¬ ((D.length : Int) = c ∧ In 10006 D)) : wrongV d D i c [] = (d : Int) := if_neg h
theorem wrongV_on {d : Nat} {D : List Int} {i : Nat} {c : Int} {r : List Int} {Ls : List (List Int)} (h : i < 3 ∧ (r.length : Int) = c ∧ In 400 r) : wrongV d D i c (r :: Ls) = wrongV d D (i + 1) (isum r) Ls := if_pos h
theorem wrongV_at {d : Nat} {D : List Int} {i : Nat} {c : Int} {r : List Int} {Ls : List (List Int)} (h : ¬ (i < 3 ∧ (r.length : Int) = c ∧ In 400 r)) : wrongV d D i c (r :: Ls) = (i : Int) := if_neg h
theorem in_ints {M : Nat} {r : List Int} (h : In M r) : r = intsW (r.map Int.toNat) ∧ ∀ x ∈ r.map Int.toNat, x ≤ M := by
 constructor
 · show r = (r.map Int.toNat).map (fun n : Nat => (n : Int))
   rw [List.map_map]
   conv => lhs; rw [← List.map_id r]
   refine List.map_congr_left (fun z hz => ?_)
   have := h z hz
   show z = ((z.toNat : Nat) : Int)
   omega
 · intro x hx
   obtain ⟨z, hz, rfl⟩ := List.mem_map.1 hx
   have := h z hz
   omega
theorem within_dec (r : List Int) (M : Nat) (hl : r.length ≤ 1000000) : impl_within.f r (M : Int) = some (decide (In M r)) := by
 unfold impl_within.f
 rw [if_pos (by omega)]
 congr 1
 by_cases h : In M r
 · rw [decide_eq_true h]
   have : r.any (outR (M : Int)) = false := by
     rw [List.any_eq_false]
     intro z hz
     have := h z hz
     simp [outR]
     omega
   rw [this]
   rfl
 · rw [decide_eq_false h]
   have : r.any (outR (M : Int)) = true := by
     rw [List.any_eq_true]
     by_cases hc : ∃ z ∈ r, outR (M : Int) z = true
     · exact hc
     · exfalso
       refine h (fun z hz => ?_)
       have hz2 : ¬ outR (M : Int) z = true := fun e => hc ⟨z, hz, e⟩
       simp [outR] at hz2
       omega
   rw [this]
   rfl
theorem sum_bd (M : Nat) : ∀ (xs : List Nat), (∀ x ∈ xs, x ≤ M) → xs.sum ≤ xs.length * M
 | [], _ => by simp
 | x :: xs, h => by
   have h1 := h x (by simp)
   have h2 := sum_bd M xs (fun y hy => h y (List.mem_cons_of_mem _ hy))
   rw [List.sum_cons, List.length_cons, Nat.succ_mul]
   omega
theorem total_in {r : List Int} (h : In 400 r) (hl : r.length ≤ 1000000) : Ev (fun k => impl_total.f k r) (isum r) := by
 obtain ⟨e1, e2⟩ := in_ints h
 have hs := sum_bd 400 (r.map Int.toNat) e2
 have := total_is (r.map Int.toNat) (by rw [List.length_map] at hs; omega) (by rw [List.length_map]; omega)
 rw [← e1] at this
 exact this
theorem in_nil {M : Nat} : In M [] := fun z hz => by cases hz
theorem in_cons {M : Nat} {z : Int} {r : List Int} : In M (z :: r) ↔ (0 ≤ z ∧ z ≤ (M : Int)) ∧ In M r := by
 unfold In
 simp
theorem isum_nn (r : List Int) : 0 ≤ isum r := by unfold isum; omega
theorem getL {L : List (List Int)} {i : Nat} (h : i < L.length) : rd_L1 L (i : Int) = L[i] := by
 show L.getD i [] = _
 rw [List.getD_eq_getElem?_getD, List.getElem?_eq_getElem h]
 rfl
theorem wrongA_l0 (L : List (List Int)) (D : List Int) (hL : L.length ≤ 1000000) (hb : ∀ r ∈ L, r.length ≤ 1000000) (hD : D.length ≤ 1000000) : ∀ (n i : Nat) (c : Int), L.length - i = n → i ≤ L.length → i ≤ 3 → Ev (fun k => impl_wrong.l0 k c L (L.length : Int) (i : Int) L D) (wrongV L.length D i c (L.drop i)) := by
 intro n
 induction n with
 | zero =>
   intro i c h1 h2 h3
   rw [List.drop_eq_nil_of_le (by omega)]
   have hw := within_dec D 10006 (by omega)
   refine Ev.step' ?_; simp only [impl_wrong.l0]
   refine Ev.neg (by omega) ?_
   by_cases hc : (D.length : Int) = c
   · refine Ev.pos hc (Ev.call hw ?_)
     by_cases hI : In 10006 D
     · rw [wrongV_ok ⟨hc, hI⟩]
       exact Ev.pos (decide_eq_true hI) (Ev.now _)
     · rw [wrongV_no (fun h => hI h.2)]
       exact Ev.neg (by simpa using hI) (Ev.now _)
   · rw [wrongV_no (fun h => hc h.1)]
     exact Ev.neg hc (Ev.now _)
 | succ n ih =>
   intro i c h1 h2 h3
   have hi : i < L.length := by omega
   rw [List.drop_eq_getElem_cons hi]
   have hw := within_dec L[i] 400 (Nat.le_trans (hb _ (List.getElem_mem hi)) (by omega))
   refine Ev.step' ?_; simp only [impl_wrong.l0]
   refine Ev.pos (by omega) (Ev.pos (by omega) (Ev.pos (by omega) ?_))
   by_cases h3' : (i : Int) = 3
   · rw [wrongV_at (fun h => by omega)]
     exact Ev.pos h3' (Ev.now _)
   · refine Ev.neg h3' ?_
     rw [getL hi]
     by_cases hc : (L[i].length : Int) = c
     · refine Ev.pos hc (Ev.call hw ?_)
       by_cases hI : In 400 L[i]
       · rw [wrongV_on ⟨by omega, hc, hI⟩]
         refine Ev.pos (decide_eq_true hI) (Ev.bind (total_in hI (hb _ (List.getElem_mem hi))) ?_)
         rw [wrapS (by omega) (by omega)]
         exact ih (i + 1) _ (by omega) (by omega) (by omega)
       · rw [wrongV_at (fun h => hI h.2.2)]
         exact Ev.neg (by simpa using hI) (Ev.now _)
     · rw [wrongV_at (fun h => hc h.2.1)]
       exact Ev.neg hc (Ev.now _)
theorem wrongV_le (D : List Int) : ∀ (Ls : List (List Int)) (d i : Nat) (c : Int), i + Ls.length = d → wrongV d D i c Ls = -1 ∨ (0 ≤ wrongV d D i c Ls ∧ wrongV d D i c Ls ≤ (d : Int))
 | [], d, i, c, h => by
   unfold wrongV
   split
   · exact .inl rfl
   · exact .inr ⟨by omega, by omega⟩
 | r :: Ls, d, i, c, h => by
   rw [List.length_cons] at h
   unfold wrongV
   split
   · exact wrongV_le D Ls d (i + 1) _ (by omega)
   · exact .inr ⟨by omega, by omega⟩
theorem l2Sum_l0 (r : List Int) (hl : r.length ≤ 1000000) : ∀ (n i : Nat) (acc : Int), r.length - i = n → i ≤ r.length → 0 ≤ acc → acc ≤ 400 * (i : Int) → Ev (fun k => spec_l2Sum.l0 k acc r (r.length : Int) (i : Int)) (if In 400 (r.drop i) then acc + isum (r.drop i) else -1) := by
 intro n
 induction n with
 | zero =>
   intro i acc h1 h2 h3 h4
   rw [List.drop_eq_nil_of_le (by omega), if_pos in_nil]
   refine Ev.step' ?_; simp only [spec_l2Sum.l0]
   exact Ev.neg (by omega) (Ev.val (by simp [isum]))
 | succ n ih =>
   intro i acc h1 h2 h3 h4
   have hi : i < r.length := by omega
   rw [List.drop_eq_getElem_cons hi]
   refine Ev.step' ?_; simp only [spec_l2Sum.l0]
   refine Ev.pos (by omega) (Ev.pos (by omega) (Ev.pos (by omega) ?_))
   rw [rd_at hi, inM_is]
   by_cases hc : 0 ≤ r[i] ∧ r[i] ≤ 400
   · have hnext := ih (i + 1) (acc + r[i]) (by omega) (by omega) (by omega) (by omega)
     refine Ev.bind (Ev.now _) (Ev.pos (by rw [decide_eq_true_eq]; exact hc) ?_)
     rw [wrapS (by omega) (by omega), wrapS (by omega) (by omega)]
     have e : (if In 400 (r[i] :: r.drop (i + 1)) then acc + isum (r[i] :: r.drop (i + 1)) else -1) = (if In 400 (r.drop (i + 1)) then acc + r[i] + isum (r.drop (i + 1)) else -1) := by
       by_cases h : In 400 (r.drop (i + 1))
       · rw [if_pos (in_cons.2 ⟨hc, h⟩), if_pos h]
         simp only [isum, List.map_cons, List.sum_cons]
         omega
       · rw [if_neg (fun h' => h (in_cons.1 h').2), if_neg h]
     rw [e]
     exact hnext
   · rw [if_neg (fun h' => hc (in_cons.1 h').1)]
     exact Ev.bind (Ev.now _) (Ev.neg (by rw [decide_eq_true_eq]; exact hc) (Ev.now _))
theorem l2Sum_is (r : List Int) (hl : r.length ≤ 1000000) : Ev (fun k => spec_l2Sum.f k r) (if In 400 r then isum r else -1) := by
 unfold spec_l2Sum.f
 have := l2Sum_l0 r hl _ 0 0 rfl (Nat.zero_le _) (by omega) (by omega)
 rw [List.drop_zero, Int.zero_add] at this
 exact this
theorem wrongS_l1 (L : List (List Int)) (D : List Int) (hD : D.length ≤ 1000000) : ∀ (n i : Nat), D.length - i = n → i ≤ D.length → Ev (fun k => spec_WhatIsWrong.l1 k D (D.length : Int) (i : Int) L D) (if In 10006 (D.drop i) then -1 else (L.length : Int)) := by
 intro n
 induction n with
 | zero =>
   intro i h1 h2
   rw [List.drop_eq_nil_of_le (by omega), if_pos in_nil]
   refine Ev.step' ?_; simp only [spec_WhatIsWrong.l1]
   exact Ev.neg (by omega) (Ev.now _)
 | succ n ih =>
   intro i h1 h2
   have hi : i < D.length := by omega
   rw [List.drop_eq_getElem_cons hi]
   refine Ev.step' ?_; simp only [spec_WhatIsWrong.l1]
   refine Ev.pos (by omega) (Ev.pos (by omega) (Ev.pos (by omega) ?_))
   rw [rd_at hi, inM_is]
   by_cases hc : 0 ≤ D[i] ∧ D[i] ≤ 10006
   · have hnext := ih (i + 1) (by omega) (by omega)
     refine Ev.bind (Ev.now _) (Ev.pos (by rw [decide_eq_true_eq]; exact hc) ?_)
     rw [wrapS (by omega) (by omega)]
     have e : (if In 10006 (D[i] :: D.drop (i + 1)) then (-1 : Int) else (L.length : Int)) = (if In 10006 (D.drop (i + 1)) then (-1 : Int) else (L.length : Int)) := by
       by_cases h : In 10006 (D.drop (i + 1))
       · rw [if_pos (in_cons.2 ⟨hc, h⟩), if_pos h]
       · rw [if_neg (fun h' => h (in_cons.1 h').2), if_neg h]
     rw [e]
     exact hnext
   · rw [if_neg (fun h' => hc (in_cons.1 h').1)]
     exact Ev.bind (Ev.now _) (Ev.neg (by rw [decide_eq_true_eq]; exact hc) (Ev.now _))
theorem wrongS_l0 (L : List (List Int)) (D : List Int) (hL : L.length ≤ 1000000) (hb : ∀ r ∈ L, r.length ≤ 1000000) (hD : D.length ≤ 1000000) : ∀ (n i : Nat) (c : Int), L.length - i = n → i ≤ L.length → Ev (fun k => spec_WhatIsWrong.l0 k c L (L.length : Int) (i : Int) L D) (wrongV L.length D i c (L.drop i)) := by
 intro n
 induction n with
 | zero =>
   intro i c h1 h2
   rw [List.drop_eq_nil_of_le (by omega)]
   have h1' := wrongS_l1 L D hD _ 0 rfl (Nat.zero_le _)
   rw [List.drop_zero] at h1'
   refine Ev.step' ?_; simp only [spec_WhatIsWrong.l0]
   refine Ev.neg (by omega) ?_
   by_cases hc : (D.length : Int) = c
   · refine Ev.pos hc ?_
     have e : wrongV L.length D i c [] = (if In 10006 D then (-1 : Int) else (L.length : Int)) := by
       by_cases h : In 10006 D
       · rw [wrongV_ok ⟨hc, h⟩, if_pos h]
       · rw [wrongV_no (fun h' => h h'.2), if_neg h]
     rw [e]
     exact h1'
   · rw [wrongV_no (fun h => hc h.1)]
     exact Ev.neg hc (Ev.now _)
 | succ n ih =>
   intro i c h1 h2
   have hi : i < L.length := by omega
   rw [List.drop_eq_getElem_cons hi]
   have hs := l2Sum_is L[i] (hb _ (List.getElem_mem hi))
   have hnn := isum_nn L[i]
   refine Ev.step' ?_; simp only [spec_WhatIsWrong.l0]
   refine Ev.pos (by omega) (Ev.pos (by omega) (Ev.pos (by omega) ?_))
   rw [getL hi]
   by_cases hc : (L[i].length : Int) = c
   · refine Ev.pos hc (Ev.bind hs ?_)
     by_cases hI : In 400 L[i]
     · rw [if_pos hI] at hs ⊢
       refine Ev.neg (by omega) ?_
       by_cases h3 : i < 3
       · rw [wrongV_on ⟨h3, hc, hI⟩]
         refine Ev.neg (by omega) (Ev.bind hs ?_)
         rw [wrapS (by omega) (by omega)]
         exact ih (i + 1) _ (by omega) (by omega)
       · rw [wrongV_at (fun h => h3 h.1)]
         exact Ev.pos (by omega) (Ev.now _)
     · rw [if_neg hI, wrongV_at (fun h => hI h.2.2)]
       exact Ev.pos (by omega) (Ev.now _)
   · rw [wrongV_at (fun h => hc h.2.1)]
     exact Ev.neg hc (Ev.now _)
theorem valid_both (L : List (List Int)) (D : List Int) (hL : L.length ≤ 1000000) (hb : ∀ r ∈ L, r.length ≤ 1000000) (hD : D.length ≤ 1000000) : Ev (fun k => impl_LayoutValid.f k L D) (decide (wrongV L.length D 0 1 L < 0)) ∧ Ev (fun k => spec_LayoutValid.f k L D) (decide (wrongV L.length D 0 1 L < 0)) := by
 have hA := wrongA_l0 L D hL hb hD _ 0 1 rfl (Nat.zero_le _) (by omega)
 have hS := wrongS_l0 L D hL hb hD _ 0 1 rfl (Nat.zero_le _)
 rw [List.drop_zero] at hA hS
 unfold impl_LayoutValid.f spec_LayoutValid.f impl_wrong.f spec_WhatIsWrong.f
 exact ⟨Ev.bind hA (Ev.now _), Ev.bind hS (Ev.now _)⟩
theorem wrongV_bd (D : List Int) : ∀ (Ls : List (List Int)) (d i : Nat) (c : Int), wrongV d D i c Ls = -1 → (∀ r ∈ Ls, In 400 r) ∧ In 10006 D ∧ (Ls = [] ∨ i + Ls.length ≤ 3)
 | [], d, i, c, h => by
   by_cases hc : (D.length : Int) = c ∧ In 10006 D
   · exact ⟨fun r hr => absurd hr (by simp), hc.2, .inl rfl⟩
   · rw [wrongV_no hc] at h
     omega
 | r :: Ls, d, i, c, h => by
   by_cases hc : i < 3 ∧ (r.length : Int) = c ∧ In 400 r
   · rw [wrongV_on hc] at h
     obtain ⟨e1, e2, e3⟩ := wrongV_bd D Ls d (i + 1) _ h
     refine ⟨fun x hx => ?_, e2, .inr ?_⟩
     · rcases List.mem_cons.1 hx with rfl | hx
       · exact hc.2.2
       · exact e1 x hx
     · rw [List.length_cons]
       rcases e3 with rfl | e3
       · simp; omega
       · omega
   · rw [wrongV_at hc] at h
     omega
/-- Whether a layout is valid. -/
def lok (L : List (List Int)) (D : List Int) : Bool := decide (wrongV L.length D 0 1 L < 0)
theorem lok_is {L : List (List Int)} {D : List Int} (h : lok L D = true) : L.length ≤ 3 ∧ (∀ r ∈ L, In 400 r) ∧ In 10006 D := by
 unfold lok at h
 rw [decide_eq_true_eq] at h
 have hw : wrongV L.length D 0 1 L = -1 := by
   rcases wrongV_le D L L.length 0 1 (by omega) with e | ⟨e, _⟩
   · exact e
   · omega
 obtain ⟨e1, e2, e3⟩ := wrongV_bd D L L.length 0 1 hw
 refine ⟨?_, e1, e2⟩
 rcases e3 with e3 | e3
 · rw [e3]; simp
 · omega
theorem In.dz {M : Nat} (hM : M ≤ 1000000) {r : List Int} (h : In M r) : ∀ z ∈ r, Dz z := fun z hz => by
 have := h z hz
 unfold Dz
 omega
end Go.Proofs.YtidpankoobdfjaaGreatDoor.L
namespace Go.Proofs.YtidpankoobdfjaaGreatDoor.L
open Go.RowKit Go.Proofs.YtidpankoobdfjaaGreatDoorW.PrintWords Go.Proofs.YtidpankoobdfjaaGreatDoorW.PrintLast Go.Proofs.YtidpankoobdfjaaGreatDoorW.PrintMore Go.Proofs.YtidpankoobdfjaaGreatDoor.Q
set_option linter.unusedSimpArgs false
set_option linter.unusedVariables false

abbrev Res := List (List Int) × List Int × Bool
def finR (s : By) (L : List (List Int)) (D : List Int) : Res := if lok L D = true ∧ layTx L D = s then (L, D, true) else ([], [], false)
theorem atoiF_is (t : By) (ht : t.length ≤ 1000000) : ∃ r, strconv_Atoi.f (BA t) = some r ∧ ((∃ v, atoiOk t = some v ∧ r = (v, none)) ∨ (atoiOk t = none ∧ r.2.isNone = false)) := by
 unfold strconv_Atoi.f atoiOk
 rw [if_pos (by rw [BA_size]; omega), data_BA]
 generalize Lib.atoiAll t = X
 cases X
 · exact ⟨_, rfl, .inl ⟨_, rfl, rfl⟩⟩
 · exact ⟨_, rfl, .inr ⟨rfl, rfl⟩⟩
 · exact ⟨_, rfl, .inr ⟨rfl, rfl⟩⟩
theorem rdB_at {ps : List By} {i : Nat} (h : i < ps.length) : rdOf ByteArray.empty (ps.map BA) (i : Int) = BA ps[i] := by
 unfold rdOf
 rw [Int.toNat_natCast, List.getD_eq_getElem?_getD, List.getElem?_map, List.getElem?_eq_getElem h]
 rfl
theorem fields_mem (p t : By) (h : t ∈ Lib.fields p) : t.length ≤ p.length := by
 have main : ∀ (l cur : By), ∀ t ∈ Lib.fieldsGo cur l, t.length ≤ cur.length + l.length := by
   intro l
   induction l with
   | nil =>
     intro cur t ht
     unfold Lib.fieldsGo at ht
     split at ht
     · cases ht
     · rw [List.mem_singleton.1 ht]; simp
   | cons b l ih =>
     intro cur t ht
     unfold Lib.fieldsGo at ht
     rw [List.length_cons]
     split at ht
     · split at ht
       · have := ih [] t ht
         simp at this
         omega
       · rcases List.mem_cons.1 ht with rfl | ht
         · omega
         · have := ih [] t ht
           simp at this
           omega
     · have := ih _ t ht
       rw [List.length_append, List.length_singleton] at this
       omega
 have := main p [] t h
 simpa using this
theorem fields_len (p : By) : (Lib.fields p).length ≤ p.length + 1 := fieldsGo_le p []
theorem I_l1 (x0 : ByteArray) (x12 : List ByteArray) (x13 x14 : Int) (ws : List By) (hw : ∀ t ∈ ws, t.length ≤ 1000000) (hl : ws.length ≤ 1000001) (L : List (List Int)) (R : Res)  : ∀ (n i : Nat) (acc : List Int), ws.length - i = n → i ≤ ws.length → acc.length ≤ i →
   Ev (fun k => impl_ParseLayout.l0 k x0 x12 x13 (wrap64 (x14 + 1)) L (acc ++ (ws.drop i).filterMap atoiOk)) R →
   Ev (fun k => impl_ParseLayout.l1 k x0 x12 x13 x14 (ws.map BA) ((ws.map BA).length : Int) (i : Int) L acc) R := by
 intro n
 induction n with
 | zero =>
   intro i acc h1 h2 h3 hgo
   rw [List.drop_eq_nil_of_le (by omega), List.filterMap_nil, List.append_nil] at hgo
   have b1 : ¬ (i : Int) < ((ws.map BA).length : Int) := by rw [List.length_map]; omega
   refine Ev.step' ?_; simp only [impl_ParseLayout.l1]
   exact Ev.neg b1 hgo
 | succ n ih =>
   intro i acc h1 h2 h3 hgo
   have hi : i < ws.length := by omega
   have b1 : (i : Int) < ((ws.map BA).length : Int) := by rw [List.length_map]; omega
   have b2 : (0 : Int) ≤ (i : Int) := by omega
   have b3 : acc.length < 17592186044416 := by omega
   have ei : wrap64 ((i : Int) + 1) = ((i + 1 : Nat) : Int) := by rw [wrapS (by omega) (by omega)]; omega
   have a1 : ws.length - (i + 1) = n := by rw [Nat.sub_succ, h1]; rfl
   have b4 : acc.length ≤ i + 1 := by omega
   obtain ⟨r, e1, e2⟩ := atoiF_is ws[i] (hw _ (List.getElem_mem hi))
   rw [List.drop_eq_getElem_cons hi] at hgo
   refine Ev.step' ?_; simp only [impl_ParseLayout.l1]
   refine Ev.pos b1 (Ev.pos b2 (Ev.pos b1 ?_))
   rw [rdB_at hi, ei]
   rcases e2 with ⟨v, e2, rfl⟩ | ⟨e2, e3⟩
   · rw [List.filterMap_cons, e2] at hgo
     have hnext := ih (i + 1) (acc ++ [v]) a1 hi (by rw [List.length_append, List.length_singleton]; omega) (by rw [List.append_assoc]; exact hgo)
     exact Ev.call e1 (Ev.pos rfl (Ev.pos b3 hnext))
   · rw [List.filterMap_cons, e2] at hgo
     have hnext := ih (i + 1) acc a1 hi b4 hgo
     exact Ev.call e1 (Ev.neg (by rw [e3]; simp) hnext)
theorem rowI_len (p : By) : (rowI p).length ≤ p.length + 1 := Nat.le_trans (List.length_filterMap_le _ _) (fields_len p)
theorem finI (s : By) (L : List (List Int)) (D : List Int) (hL : L.length ≤ 1000000) (hb : ∀ r ∈ L, r.length ≤ 1000000) (hD : D.length ≤ 1000000) :
   Ev (fun k => (impl_LayoutValid.f k L D).bind fun t389 => (if t389 = true then ((impl_FormatLayout.f k L D).bind fun t390 => (if t390.toList = (BA s).toList then (some (L, D, true)) else (some (([] : List (List Int)), ([] : List Int), false)))) else (some (([] : List (List Int)), ([] : List Int), false)))) (finR s L D) := by
 have hv := (valid_both L D hL hb hD).1
 unfold finR
 by_cases h : lok L D = true
 · obtain ⟨o1, o2, o3⟩ := lok_is h
   have hf := (fmt_is L D ⟨by omega, fun r hr => ⟨hb r hr, (o2 r hr).dz (by omega)⟩, hD, o3.dz (by omega)⟩).1
   refine Ev.bind hv (Ev.pos h (Ev.bind hf ?_))
   rw [toList_BA, toList_BA]
   by_cases e : layTx L D = s
   · rw [if_pos (show lok L D = true ∧ layTx L D = s from ⟨h, e⟩)]
     exact Ev.pos e (Ev.now _)
   · rw [if_neg (show ¬ (lok L D = true ∧ layTx L D = s) from fun x => e x.2)]
     exact Ev.neg e (Ev.now _)
 · rw [if_neg (show ¬ (lok L D = true ∧ layTx L D = s) from fun x => h x.1)]
   exact Ev.bind hv (Ev.neg h (Ev.now _))
/-- What is read of the first parts: the rows ahead of the last one, and the last one. -/
def upL (rows : List (List Int)) (i : Nat) : List (List Int) := rows.take (i - 1)
def upD (rows : List (List Int)) (i : Nat) : List Int := if i = 0 then [] else rows.getD (i - 1) []
theorem I_l0 (s : By) (ps : List By) (hp : ∀ p ∈ ps, p.length ≤ 900000 ∧ ∀ b ∈ p, b.toNat < 128) (hl : ps.length ≤ 900001) : ∀ (n i : Nat), ps.length - i = n → i ≤ ps.length →
   Ev (fun k => impl_ParseLayout.l0 k (BA s) (ps.map BA) ((ps.map BA).length : Int) (i : Int) (upL (ps.map rowI) i) (upD (ps.map rowI) i)) (finR s (upL (ps.map rowI) ps.length) (upD (ps.map rowI) ps.length)) := by
 have hrow : ∀ r ∈ ps.map rowI, r.length ≤ 1000000 := fun r hr => by
   obtain ⟨p, hp', rfl⟩ := List.mem_map.1 hr
   have h1 := rowI_len p
   have h2 := (hp p hp').1
   omega
 intro n
 induction n with
 | zero =>
   intro i h1 h2
   have hi : i = ps.length := by omega
   subst hi
   have b1 : ¬ (ps.length : Int) < ((ps.map BA).length : Int) := by rw [List.length_map]; omega
   refine Ev.step' ?_; simp only [impl_ParseLayout.l0]
   refine Ev.neg b1 (finI s _ _ ?_ ?_ ?_)
   · unfold upL
     rw [List.length_take, List.length_map]
     omega
   · exact fun r hr => hrow r (List.mem_of_mem_take hr)
   · unfold upD
     split
     · simp
     · rw [List.getD_eq_getElem?_getD]
       cases hg : (ps.map rowI)[ps.length - 1]? with
       | none => simp
       | some r => exact hrow r (List.mem_of_getElem? hg)
 | succ n ih =>
   intro i h1 h2
   have hi : i < ps.length := by omega
   have b1 : (i : Int) < ((ps.map BA).length : Int) := by rw [List.length_map]; omega
   have b2 : (0 : Int) ≤ (i : Int) := by omega
   have ei : wrap64 ((i : Int) + 1) = ((i + 1 : Nat) : Int) := by rw [wrapS (by omega) (by omega)]; omega
   have a1 : ps.length - (i + 1) = n := by rw [Nat.sub_succ, h1]; rfl
   have b3 : (upL (ps.map rowI) i).length < 5864062014805 := by unfold upL; rw [List.length_take, List.length_map]; omega
   obtain ⟨hpl, hpa⟩ := hp _ (List.getElem_mem hi)
   have hir : i < (ps.map rowI).length := by rw [List.length_map]; exact hi
   have hnext := ih (i + 1) a1 hi
   have eD : upD (ps.map rowI) (i + 1) = rowI ps[i] := by
     unfold upD
     rw [if_neg (by omega), Nat.add_sub_cancel, List.getD_eq_getElem?_getD, List.getElem?_eq_getElem hir, List.getElem_map]
     rfl
   have hF : strings_Fields.f (BA ps[i]) = some ((Lib.fields ps[i]).map BA) := by
     unfold strings_Fields.f
     rw [if_pos (by rw [BA_size]; omega), data_BA, if_pos (List.all_eq_true.2 (fun b hb => decide_eq_true (hpa b hb)))]
     rfl
   rw [eD] at hnext
   have hj : Ev (fun k => impl_ParseLayout.j1 k (BA s) (BA ps[i]) (ps.map BA) ((ps.map BA).length : Int) (i : Int) (upL (ps.map rowI) (i + 1)) (upD (ps.map rowI) i)) (finR s (upL (ps.map rowI) ps.length) (upD (ps.map rowI) ps.length)) := by
     have h := I_l1 (BA s) (ps.map BA) ((ps.map BA).length : Int) (i : Int) (Lib.fields ps[i]) (fun t ht => Nat.le_trans (fields_mem _ t ht) (by omega)) (Nat.le_trans (fields_len _) (by omega)) (upL (ps.map rowI) (i + 1)) _ _ 0 [] rfl (Nat.zero_le _) (Nat.le_refl _) (by
       rw [ei]
       exact hnext)
     refine Ev.step' ?_; simp only [impl_ParseLayout.j1]
     exact Ev.call hF h
   refine Ev.step' ?_; simp only [impl_ParseLayout.l0]
   refine Ev.pos b1 (Ev.pos b2 (Ev.pos b1 ?_))
   rw [rdB_at hi]
   rcases Nat.eq_zero_or_pos i with h0 | h0
   · have e : upL (ps.map rowI) (i + 1) = upL (ps.map rowI) i := by unfold upL; rw [h0]
     rw [e] at hj
     exact Ev.neg (by omega) hj
   · have e : upL (ps.map rowI) (i + 1) = upL (ps.map rowI) i ++ [upD (ps.map rowI) i] := by
       unfold upL upD
       have hlt : i - 1 < (ps.map rowI).length := by omega
       rw [if_neg (by omega), Nat.add_sub_cancel]
       conv => lhs; rw [show i = i - 1 + 1 by omega]
       rw [List.take_succ_eq_append_getElem hlt, List.getD_eq_getElem?_getD, List.getElem?_eq_getElem hlt]
       rfl
     rw [e] at hj
     exact Ev.pos (by omega) (Ev.pos b3 hj)
def parI (s : By) : List (List Int) × List Int := (upL ((cutL 124 s).map rowI) (cutL 124 s).length, upD ((cutL 124 s).map rowI) (cutL 124 s).length)
theorem parseI_is (s : By) (hs : s.length ≤ 900000) (ha : ∀ b ∈ s, b.toNat < 128) : Ev (fun k => impl_ParseLayout.f k (BA s)) (finR s (parI s).1 (parI s).2) := by
 have h := I_l0 s (cutL 124 s) (fun p hp => by
   have := cutL_mem 124 s p hp
   exact ⟨by omega, fun b hb => ha b (this.2 b hb)⟩) (Nat.le_trans (cutL_len 124 s) (by omega)) _ 0 rfl (Nat.zero_le _)
 unfold impl_ParseLayout.f
 exact Ev.call (split_is s (by omega)) h
theorem parI_lay (L : List (List Int)) (D : List Int) (hL : ∀ r ∈ L, ∀ z ∈ r, Dz z) (hD : ∀ z ∈ D, Dz z) : parI (layTx L D) = (L, D) := by
 have e : (cutL 124 (layTx L D)).map rowI = L ++ [D] := by
   rw [cut_lay, List.map_append, List.map_map, List.map_singleton, rowI_spT hD]
   congr 1
   conv => rhs; rw [← List.map_id L]
   exact List.map_congr_left (fun r hr => rowI_spT (hL r hr))
 have el : (cutL 124 (layTx L D)).length = L.length + 1 := by rw [cut_lay, List.length_append, List.length_map]; rfl
 unfold parI
 rw [e, el]
 unfold upL upD
 rw [if_neg (by omega), Nat.add_sub_cancel, List.take_left' rfl, List.getD_eq_getElem?_getD, List.getElem?_append_right (Nat.le_refl _), Nat.sub_self]
 rfl
end Go.Proofs.YtidpankoobdfjaaGreatDoor.L
-- NO HOME
namespace Go.Proofs.YtidpankoobdfjaaGreatDoor.L
open Go.RowKit Go.Proofs.YtidpankoobdfjaaGreatDoorW.PrintWords Go.Proofs.YtidpankoobdfjaaGreatDoorW.PrintLast Go.Proofs.YtidpankoobdfjaaGreatDoorW.PrintMore Go.Proofs.YtidpankoobdfjaaGreatDoor.Q
set_option linter.unusedSimpArgs false
set_option linter.unusedVariables false

abbrev NS := S79
def cS : Nat → Tr → NS
 | 0, t => ⟨(t.n : Int), []⟩
 | d + 1, t => ⟨(t.n : Int), t.parts.map (cS d)⟩
theorem mkS (t : NS) : (⟨t.f0, t.f1⟩ : NS) = t := by cases t; rfl
theorem cS_f0 (d : Nat) (t : Tr) : (cS d t).f0 = (t.n : Int) := by cases d <;> rfl

/-! ### impl.readArr -/
theorem bt_at {l : By} {i : Nat} (h : i < l.length) : bt (BA l) (i : Int) = (l[i].toNat : Int) := by
 rw [bt_BA, Int.toNat_natCast, List.getD_eq_getElem?_getD, List.getElem?_eq_getElem h]
 rfl
theorem take_split {l : By} (i : Nat) (h : (l.take i).all isD = true) (hn : ∀ x : i < l.length, isD l[i] = false) : l.takeWhile isD = l.take i ∧ l.dropWhile isD = l.drop i := by
 have e : l = l.take i ++ l.drop i := (List.take_append_drop i l).symm
 have := takeWhile_digits (ds := l.take i) (r := l.drop i) h (by
   intro c r hr
   by_cases hi : i < l.length
   · rw [List.drop_eq_getElem_cons hi] at hr
     rw [← (List.cons.inj hr).1]
     exact hn hi
   · rw [List.drop_eq_nil_of_le (by omega)] at hr
     cases hr)
 rw [← e] at this
 exact this
theorem parse_nil : ∀ d, parse d [] = none
 | 0 => by
   unfold parse
   have : parseNum [] = none := if_neg (fun h => dec_ne _ h.2)
   rw [this]
   rfl
 | d + 1 => rfl
theorem parse_93 : ∀ d (t : By), parse d (93 :: t) = none
 | 0, t => by
   unfold parse
   have : parseNum (93 :: t) = none := if_neg (fun h => dec_ne _ (h.2.trans (by simp [isD])))
   rw [this]
   rfl
 | d + 1, t => by
   unfold parse
   simp
theorem parse_len {d : Nat} {l : By} {v : Tr} {r : By} (h : parse d l = some (v, r)) : r.length ≤ l.length := by
 have := congrArg List.length (parse_sound d l v r h).1
 rw [List.length_append] at this
 omega
theorem BA_nil : BA [] = (⟨#[]⟩ : ByteArray) := rfl
theorem BA_tail (c : UInt8) (t : By) : (BA (c :: t)).extract 1 (BA (c :: t)).size = BA t := by
 rw [BA_extract]
 simp
theorem bt_zero (c : UInt8) (t : By) : bt (BA (c :: t)) 0 = (c.toNat : Int) := bt_BA _ _
theorem toNat_ne {c : UInt8} {n : Nat} (h : c ≠ UInt8.ofNat n) (hn : n < 256) : ((c.toNat : Int)) ≠ (n : Int) := by
 intro e
 apply h
 apply UInt8.toNat.inj
 rw [UInt8.toNat_ofNat']
 omega
/-! ### spec's reader -/
theorem drop_split {s : By} {p : Nat} (h : p < s.length) : s.drop p = s[p] :: s.drop (p + 1) := List.drop_eq_getElem_cons h
theorem valD_ltP : ∀ (l : By) (p a b : Nat), p = 10 ^ l.length → l.all isD = true → a < b → valD a l < b * p
 | [], p, a, b, hp, _, h => by
   have hp1 : p = 1 := hp
   have : valD a [] = a := rfl
   rw [this, hp1, Nat.mul_one]
   exact h
 | c :: r, p, a, b, hp, hall, h => by
   simp only [List.all_cons, Bool.and_eq_true] at hall
   have hc := (isD_iff _).1 hall.1
   have h1 := valD_ltP r (10 ^ r.length) (a * 10 + (c.toNat - 48)) (b * 10) rfl hall.2 (by omega)
   have h2 : p = 10 ^ r.length * 10 := hp
   have h4 : valD a (c :: r) = valD (a * 10 + (c.toNat - 48)) r := rfl
   generalize 10 ^ r.length = q at *
   rw [h4, h2, Nat.mul_comm q 10, ← Nat.mul_assoc]
   exact h1
theorem valD_lt (l : By) (a b : Nat) (hall : l.all isD = true) (h : a < b) : valD a l < b * 10 ^ l.length := valD_ltP l _ a b rfl hall h
theorem l13Num_l0 (ds : By) (hall : ds.all isD = true) (hl : ds.length ≤ 17) : ∀ (n i : Nat), ds.length - i = n → i ≤ ds.length → Ev (fun k => spec_l13Num.l0 k (BA ds) false (valD 0 (ds.take i) : Int) (i : Int)) ((valD 0 ds : Int), true) := by
 intro n
 induction n with
 | zero =>
   intro i h hi
   refine Ev.step' ?_; simp only [spec_l13Num.l0]
   refine Ev.neg (by simp <;> omega) (Ev.neg (by simp) (Ev.val ?_))
   rw [List.take_of_length_le (by omega)]
 | succ n ih =>
   intro i h hi
   have hlt : i < ds.length := by omega
   have hd : isD ds[i] = true := List.all_eq_true.1 hall _ (List.getElem_mem hlt)
   have hc := (isD_iff _).1 hd
   refine Ev.step' ?_; simp only [spec_l13Num.l0]
   simp only [bt_at hlt]
   refine Ev.pos (by simp <;> omega) (Ev.pos (by omega) (Ev.neg (by omega) (Ev.neg (by omega) ?_)))
   have hv : valD 0 (ds.take i) < 1 * 10 ^ (ds.take i).length := valD_lt _ _ _ (by
     rw [List.all_eq_true] at hall ⊢
     intro x hx
     exact hall x (List.mem_of_mem_take hx)) (by omega)
   have hpow : 10 ^ (ds.take i).length ≤ 10 ^ 17 := Nat.pow_le_pow_right (by omega) (by rw [List.length_take]; omega)
   have hv2 : valD 0 (ds.take i) < 100000000000000000 := by
     generalize 10 ^ (ds.take i).length = q at *
     omega
   have e1 : wrap64 (wrap64 ((valD 0 (ds.take i) : Int) * 10) + ((ds[i].toNat : Int) - 48) % 256) = (valD 0 (ds.take (i + 1)) : Int) := by
     rw [List.take_succ_eq_append_getElem hlt, valD_append, valD_one, wrapS (a := (valD 0 (ds.take i) : Int) * 10) (by omega) (by omega), wrapS (by omega) (by omega)]
     omega
   rw [e1, wrapS (by omega) (by omega)]
   exact ih (i + 1) (by omega) (by omega)
theorem l13_is (ds : By) (hall : ds.all isD = true) (hl : ds.length ≤ 17) : Ev (fun k => spec_l13Num.f k (BA ds)) (if Lib.decDigits (valD 0 ds) = ds then ((valD 0 ds : Int), true) else (0, false)) := by
 have hj2 : ∀ x : ByteArray, Ev (fun k => spec_l13Num.j2 k x false true) (0, false) := by
   intro x
   refine Ev.step' ?_; simp only [spec_l13Num.j2]
   exact Ev.pos (by first | trivial | rfl) (Ev.now _)
 unfold spec_l13Num.f
 cases ds with
 | nil =>
   refine Ev.neg (by simp) ?_
   refine Ev.step' ?_; simp only [spec_l13Num.j0]
   refine Ev.neg (by simp) ?_
   refine Ev.step' ?_; simp only [spec_l13Num.j1]
   refine Ev.pos (by simp) (evIs (hj2 _) ?_)
   rw [if_neg (dec_ne _)]
 | cons c r =>
   have hd : isD c = true := by
     simp only [List.all_cons, Bool.and_eq_true] at hall
     exact hall.1
   have hc := (isD_iff _).1 hd
   simp only [List.length_cons] at hl
   refine Ev.pos (by simp <;> omega) (Ev.pos (by simp <;> omega) ?_)
   rw [show (bt (BA (c :: r)) 0 == 45) = false by rw [bt_zero]; simp; omega]
   refine Ev.step' ?_; simp only [spec_l13Num.j0]
   refine Ev.neg (by simp) ?_
   refine Ev.step' ?_; simp only [spec_l13Num.j1]
   refine Ev.neg (by simp <;> omega) (Ev.neg (by simp <;> omega) (Ev.pos (by simp <;> omega) ?_))
   have hj2f : (c ≠ 48 ∨ r = []) → Ev (fun k => spec_l13Num.j2 k (BA (c :: r)) false false) (if Lib.decDigits (valD 0 (c :: r)) = c :: r then ((valD 0 (c :: r) : Int), true) else (0, false)) := by
     intro h
     refine Ev.step' ?_; simp only [spec_l13Num.j2]
     refine Ev.neg (by simp) (evIs (l13Num_l0 (c :: r) hall (by simp only [List.length_cons]; omega) _ 0 rfl (by omega)) ?_)
     rw [if_pos ((dec_val_iff hall).2 ⟨c, r, rfl, h⟩)]
   by_cases h48 : c = 48
   · subst h48
     refine Ev.pos (bt_zero _ _) ?_
     by_cases hr : r = []
     · subst hr
       exact Ev.neg (by simp) (hj2f (.inr rfl))
     · have := List.length_pos_iff.2 hr
       refine Ev.pos (by simp <;> omega) (evIs (hj2 _) ?_)
       rw [if_neg]
       intro h
       obtain ⟨c', r', e, h1⟩ := (dec_val_iff hall).1 h
       obtain ⟨rfl, rfl⟩ := List.cons.inj e
       rcases h1 with h1 | h1
       · exact h1 rfl
       · exact hr h1
   · exact Ev.neg (by rw [bt_zero]; exact toNat_ne (n := 48) h48 (by omega)) (hj2f (.inl h48))

abbrev RS := Int × List NS × ByteArray × Int × Bool
def OutS (d : Nat) (s : By) : Option (Tr × By) → RS → Prop
 | none, res => res.2.2.2.2 = true
 | some (v, r), res => res = ((cS d v).f0, (cS d v).f1, BA s, ((s.length - r.length : Nat) : Int), false)
theorem inN_is (n a b : Int) : spec_l1In.f n a b = some (decide (a ≤ n ∧ n ≤ b)) := by
 unfold spec_l1In.f
 by_cases h1 : a ≤ n
 · by_cases h2 : n ≤ b <;> simp [h1, h2]
 · simp [h1]
theorem number_end (x : ByteArray) (a b : Nat) (hab : a ≤ b) (hb : b ≤ x.size) (q : Int × Bool) (hq : Ev (fun k => spec_l13Num.f k (x.extract a b)) q) :
   Ev (fun k => if 0 ≤ (a : Int) then (if (a : Int) ≤ (b : Int) then (if (b : Int) ≤ (x.size : Int) then ((spec_l13Num.f k (x.extract (a : Int).toNat (b : Int).toNat)).bind fun bt152 => (if (false = true) then (some (bt152.1, x, (b : Int), true)) else (if bt152.2 = true then ((spec_l1In.f bt152.1 0 10006).bind fun t154 => (some (bt152.1, x, (b : Int), !t154))) else (some (bt152.1, x, (b : Int), true))))) else (none)) else (none)) else (none)) (q.1, x, (b : Int), false || !q.2 || !(decide (0 ≤ q.1) && decide (q.1 ≤ 10006))) := by
 refine Ev.pos (by omega) (Ev.pos (by omega) (Ev.pos (by omega) (Ev.bind hq (Ev.neg (by simp) ?_))))
 by_cases h : q.2 = true
 · refine Ev.pos h ?_
   rw [inN_is]
   refine Ev.val ?_
   rw [h]
   simp only [Bool.false_or, Bool.not_true, Bool.decide_and]
 · refine Ev.neg h (Ev.val ?_)
   simp [h]
theorem number_l0 (s : By) (p : Nat) (hp : p ≤ s.length) (hs : s.length ≤ 1000000) (J : Nat) (hJ : J = min 6 ((s.drop p).takeWhile isD).length) (q : Int × Bool) (hq : Ev (fun k => spec_l13Num.f k ((BA s).extract p (p + J))) q) : ∀ (n j : Nat), J - j = n → j ≤ J →
   Ev (fun k => spec_l1Reader_number.l0 k (p : Int) (BA s) ((p + j : Nat) : Int) false) (q.1, BA s, ((p + J : Nat) : Int), false || !q.2 || !(decide (0 ≤ q.1) && decide (q.1 ≤ 10006))) := by
 have hcnt : ((s.drop p).takeWhile isD).length ≤ s.length - p := by
   have := congrArg List.length (List.takeWhile_append_dropWhile (p := isD) (l := s.drop p))
   rw [List.length_append, List.length_drop] at this
   omega
 have hdig : ∀ j, (hj : j < ((s.drop p).takeWhile isD).length) → (h : p + j < s.length) → isD s[p + j] = true := by
   intro j hj h
   have h1 : ((s.drop p).takeWhile isD)[j] = s[p + j] := by
     have e : s.drop p = (s.drop p).takeWhile isD ++ (s.drop p).dropWhile isD := List.takeWhile_append_dropWhile.symm
     have h2 : (s.drop p)[j]? = some s[p + j] := by rw [List.getElem?_drop, List.getElem?_eq_getElem h]
     rw [e, List.getElem?_append_left hj, List.getElem?_eq_getElem hj] at h2
     exact Option.some.inj h2
   have := List.all_eq_true.1 (List.all_takeWhile (p := isD) (l := s.drop p)) _ (List.getElem_mem hj)
   rwa [h1] at this
 have hnot : ∀ (h : p + ((s.drop p).takeWhile isD).length < s.length), isD (s[p + ((s.drop p).takeWhile isD).length]'h) = false := by
   intro h
   have e : s.drop p = (s.drop p).takeWhile isD ++ (s.drop p).dropWhile isD := List.takeWhile_append_dropWhile.symm
   have h2 : (s.drop p)[((s.drop p).takeWhile isD).length]? = some (s[p + ((s.drop p).takeWhile isD).length]'h) := by rw [List.getElem?_drop, List.getElem?_eq_getElem h]
   generalize hW : (s.drop p).takeWhile isD = W at *
   have h3 : (W ++ (s.drop p).dropWhile isD)[W.length]? = some (s[p + W.length]'h) := by rw [← e]; exact h2
   rw [List.getElem?_append_right (Nat.le_refl _), Nat.sub_self] at h3
   cases hR : (s.drop p).dropWhile isD with
   | nil => rw [hR] at h3; simp at h3
   | cons c t =>
     rw [hR] at h3
     simp only [List.getElem?_cons_zero, Option.some.injEq] at h3
     rw [← h3]
     have := List.head?_dropWhile_not (p := isD) (l := s.drop p)
     rw [hR] at this
     simpa using this
 intro n
 induction n with
 | zero =>
   intro j h1 h2
   obtain rfl : j = J := by omega
   have hend := number_end (BA s) p (p + j) (by omega) (by rw [BA_size]; omega) q hq
   refine Ev.step' ?_; simp only [spec_l1Reader_number.l0]
   by_cases hlt : p + j < s.length
   · refine Ev.pos (by rw [BA_size]; omega) (Ev.pos (by omega) ?_)
     rw [inN_is, bt_at hlt, wrapS (by have := s[p + j].toNat_lt; omega) (by have := s[p + j].toNat_lt; omega)]
     by_cases h6 : ((s.drop p).takeWhile isD).length ≤ 6
     · obtain rfl : j = ((s.drop p).takeWhile isD).length := by omega
       have := hnot hlt
       refine Ev.bind (Ev.now _) (Ev.neg ?_ hend)
       rw [decide_eq_true_eq]
       intro hh
       have e : isD (s[p + ((s.drop p).takeWhile isD).length]'hlt) = true := (isD_iff _).2 ⟨by omega, by omega⟩
       rw [this] at e
       cases e
     · by_cases hd : (48 : Int) ≤ (s[p + j].toNat : Int) ∧ (s[p + j].toNat : Int) ≤ 57
       · refine Ev.bind (Ev.now _) (Ev.pos (by rw [decide_eq_true_eq]; exact hd) (Ev.neg ?_ hend))
         rw [wrapS (by omega) (by omega)]
         omega
       · exact Ev.bind (Ev.now _) (Ev.neg (by rw [decide_eq_true_eq]; exact hd) hend)
   · exact Ev.neg (by rw [BA_size]; omega) hend
 | succ n ih =>
   intro j h1 h2
   have hlt : p + j < s.length := by omega
   have hd := (isD_iff _).1 (hdig j (by omega) hlt)
   have hnext := ih (j + 1) (by omega) (by omega)
   refine Ev.step' ?_; simp only [spec_l1Reader_number.l0]
   refine Ev.pos (by rw [BA_size]; omega) (Ev.pos (by omega) ?_)
   rw [inN_is, bt_at hlt, wrapS (by omega) (by omega)]
   refine Ev.bind (Ev.now _) (Ev.pos (by rw [decide_eq_true_eq]; omega) (Ev.pos ?_ ?_))
   · rw [wrapS (by omega) (by omega)]
     omega
   · rw [show wrap64 (((p + j : Nat) : Int) + 1) = ((p + (j + 1) : Nat) : Int) by rw [wrapS (by omega) (by omega)]; omega]
     exact hnext
theorem number_is (s : By) (p : Nat) (hp : p ≤ s.length) (hs : s.length ≤ 1000000) :
   ∃ res : Int × ByteArray × Int × Bool, Ev (fun k => spec_l1Reader_number.f k (BA s) (p : Int) false) res ∧ OutS 0 s (parse 0 (s.drop p)) (res.1, [], res.2.1, res.2.2.1, res.2.2.2) := by
 have hcnt : ((s.drop p).takeWhile isD).length + ((s.drop p).dropWhile isD).length = s.length - p := by
   have := congrArg List.length (List.takeWhile_append_dropWhile (p := isD) (l := s.drop p))
   rw [List.length_append, List.length_drop] at this
   exact this
 have hall : ((s.drop p).takeWhile isD).all isD = true := List.all_takeWhile
 have hx : (BA s).extract p (p + min 6 ((s.drop p).takeWhile isD).length) = BA (((s.drop p).takeWhile isD).take 6) := by
   rw [BA_extract]
   congr 1
   have e : s.drop p = (s.drop p).takeWhile isD ++ (s.drop p).dropWhile isD := List.takeWhile_append_dropWhile.symm
   generalize hW : (s.drop p).takeWhile isD = W at *
   generalize hR : (s.drop p).dropWhile isD = R at *
   rw [e, show p + min 6 W.length - p = min 6 W.length by omega, List.take_append_of_le_length (by omega)]
   by_cases h6 : 6 ≤ W.length
   · rw [show min 6 W.length = 6 by omega]
   · rw [List.take_of_length_le (by omega), List.take_of_length_le (by omega)]
 have hall6 : (((s.drop p).takeWhile isD).take 6).all isD = true := by
   rw [List.all_eq_true] at hall ⊢
   intro x hx
   exact hall x (List.mem_of_mem_take hx)
 have hE : ∀ q : Int × Bool, q = (if Lib.decDigits (valD 0 (((s.drop p).takeWhile isD).take 6)) = ((s.drop p).takeWhile isD).take 6 then ((valD 0 (((s.drop p).takeWhile isD).take 6) : Int), true) else (0, false)) →
     Ev (fun k => spec_l1Reader_number.f k (BA s) (p : Int) false) (q.1, BA s, ((p + min 6 ((s.drop p).takeWhile isD).length : Nat) : Int), false || !q.2 || !(decide (0 ≤ q.1) && decide (q.1 ≤ 10006))) := by
   intro q hq
   subst hq
   have hl := l13_is _ hall6 (by rw [List.length_take]; omega)
   rw [← hx] at hl
   unfold spec_l1Reader_number.f
   exact number_l0 s p hp hs _ rfl _ hl _ 0 rfl (Nat.zero_le _)
 refine ⟨_, hE _ rfl, ?_⟩
 · unfold parse parseNum
   generalize hW : (s.drop p).takeWhile isD = W at *
   generalize hR : (s.drop p).dropWhile isD = R at *
   by_cases h6 : W.length ≤ 6
   · rw [List.take_of_length_le h6]
     by_cases hdec : Lib.decDigits (valD 0 W) = W
     · by_cases hv : valD 0 W < 10007
       · rw [if_pos ⟨hv, hdec⟩, if_pos hdec]
         show _ = _
         simp only [cS, Prod.mk.injEq, true_and, Bool.false_or]
         refine ⟨by omega, ?_⟩
         simp
         omega
       · rw [if_neg (fun h => hv h.1), if_pos hdec]
         show _ = _
         simp
         omega
     · rw [if_neg (fun h => hdec h.2), if_neg hdec]
       rfl
   · have hnone : ¬ (valD 0 W < 10007 ∧ Lib.decDigits (valD 0 W) = W) := by
       rintro ⟨hv, hdec⟩
       obtain ⟨c, r, e, h1⟩ := (dec_val_iff hall).1 hdec
       rw [e] at hall hv h6
       simp only [List.all_cons, Bool.and_eq_true] at hall
       simp only [List.length_cons] at h6
       rcases h1 with h1 | h1
       · have := six_big hall.1 h1 (r := r) (by omega)
         omega
       · rw [h1] at h6
         simp at h6
     rw [if_neg hnone]
     show _ = _
     split
     · next hdec =>
       obtain ⟨c, r, e, h1⟩ := (dec_val_iff hall6).1 hdec
       have hl6 : (W.take 6).length = 6 := by rw [List.length_take]; omega
       rw [e] at hall6 hl6 ⊢
       simp only [List.all_cons, Bool.and_eq_true] at hall6
       simp only [List.length_cons] at hl6
       rcases h1 with h1 | h1
       · have := six_big hall6.1 h1 (r := r) (by omega)
         simp
         omega
       · rw [h1] at hl6
         simp at hl6
     · rfl

theorem is_hit {s : By} {p : Nat} {c : UInt8} {t : By} (h : s.drop p = c :: t) (hs : s.length ≤ 1000000) (ch : Int) (e : (c.toNat : Int) = ch) : spec_l1Reader_is.f (BA s) (p : Int) false ch = some (true, BA s, ((p + 1 : Nat) : Int), false) := by
 have hp : p < s.length := by
   rcases Nat.lt_or_ge p s.length with h1 | h1
   · exact h1
   · rw [List.drop_eq_nil_of_le h1] at h; cases h
 rw [drop_split hp] at h
 obtain ⟨rfl, rfl⟩ := List.cons.inj h
 unfold spec_l1Reader_is.f
 rw [if_pos (by rw [BA_size]; omega), if_pos (by omega), bt_at hp, if_pos e, wrapS (by omega) (by omega)]
 rfl
theorem is_miss {s : By} {p : Nat} (ch : Int) (h : ∀ c t, s.drop p = c :: t → (c.toNat : Int) ≠ ch) : spec_l1Reader_is.f (BA s) (p : Int) false ch = some (false, BA s, (p : Int), false) := by
 unfold spec_l1Reader_is.f
 by_cases hp : p < s.length
 · rw [if_pos (by rw [BA_size]; omega), if_pos (by omega), bt_at hp, if_neg (h _ _ (drop_split hp))]
 · rw [if_neg (by rw [BA_size]; omega)]
def tailL (d n : Nat) : By → Option (List Tr × By)
 | [] => none
 | c :: r => if c = 44 then parseL (parse d) n r else if c = 93 then some ([], r) else none
theorem parseL_tail (d n : Nat) (s : By) : parseL (parse d) (n + 1) s = (parse d s).bind fun q => (tailL d n q.2).map fun z => (q.1 :: z.1, z.2) := by
 unfold parseL
 cases parse d s with
 | none => rfl
 | some q =>
   obtain ⟨v, r⟩ := q
   cases r with
   | nil => rfl
   | cons c r =>
     simp only [tailL, Option.bind_some]
     by_cases h44 : c = 44
     · subst h44
       rfl
     · rw [if_neg h44, if_neg h44]
       by_cases h93 : c = 93
       · rw [if_pos h93, if_pos h93]; rfl
       · rw [if_neg h93, if_neg h93]; rfl
def OutL (d : Nat) (s : By) (acc : List NS) : Option (List Tr × By) → RS → Prop
 | none, res => res.2.2.2.2 = true
 | some (vs, r), res => res = (0, acc ++ vs.map (cS d), BA s, ((s.length - r.length : Nat) : Int), false)
/-- What holds of each text at a depth. -/
def NodeIs (d : Nat) : Prop := ∀ (s : By) (p : Nat), p ≤ s.length → s.length ≤ 1000000 → ∃ res, Ev (fun k => spec_l1Reader_node.f k (BA s) (p : Int) false (d : Int)) res ∧ OutS d s (parse d (s.drop p)) res
theorem node_bad (x1 m : Int) (x : ByteArray) (y : Int) (ps : List NS) : Ev (fun k => spec_l1Reader_node.l0 k x1 x y true m ps) (m, ps, x, y, true) := by
 refine Ev.step' ?_; simp only [spec_l1Reader_node.l0]
 exact Ev.pos (by first | trivial | rfl) (Ev.now _)
theorem node_l0 (d : Nat) (hd : d ≤ 1000) (hf : NodeIs d) (s : By) (hs : s.length ≤ 1000000) : ∀ (n p : Nat) (acc : List NS), p ≤ s.length → (s.drop p).length ≤ n → acc.length + (s.drop p).length ≤ 1000000 →
   ∃ res, Ev (fun k => spec_l1Reader_node.l0 k ((d + 1 : Nat) : Int) (BA s) (p : Int) false 0 acc) res ∧ OutL d s acc (tailL d n (s.drop p)) res := by
 intro n
 induction n with
 | zero =>
   intro p acc hp hn hb
   have hnil : s.drop p = [] := List.length_eq_zero_iff.1 (by omega)
   have hm : ∀ ch, spec_l1Reader_is.f (BA s) (p : Int) false ch = some (false, BA s, (p : Int), false) := fun ch => is_miss ch (by rw [hnil]; intro c t e; cases e)
   refine ⟨(0, acc, BA s, (p : Int), true), ?_, by rw [hnil]; rfl⟩
   refine Ev.step' ?_; simp only [spec_l1Reader_node.l0]
   refine Ev.neg (by simp) (Ev.call (hm 44) (Ev.neg (by simp) (Ev.neg (by simp) (Ev.call (hm 93) (Ev.val rfl)))))
 | succ n ih =>
   intro p acc hp hn hb
   cases hdr : s.drop p with
   | nil =>
     have hm : ∀ ch, spec_l1Reader_is.f (BA s) (p : Int) false ch = some (false, BA s, (p : Int), false) := fun ch => is_miss ch (by rw [hdr]; intro c t e; cases e)
     refine ⟨(0, acc, BA s, (p : Int), true), ?_, rfl⟩
     refine Ev.step' ?_; simp only [spec_l1Reader_node.l0]
     refine Ev.neg (by simp) (Ev.call (hm 44) (Ev.neg (by simp) (Ev.neg (by simp) (Ev.call (hm 93) (Ev.val rfl)))))
   | cons c t =>
     have hp' : p < s.length := by
       rcases Nat.lt_or_ge p s.length with h1 | h1
       · exact h1
       · rw [List.drop_eq_nil_of_le h1] at hdr; cases hdr
     have ht : s.drop (p + 1) = t := by
       have := drop_split hp'
       rw [hdr] at this
       exact (List.cons.inj this).2.symm
     have htl : t.length = s.length - (p + 1) := by rw [← ht, List.length_drop]
     rw [hdr] at hn hb
     simp only [List.length_cons] at hn hb
     by_cases h44 : c = 44
     · subst h44
       obtain ⟨res, h1, h2⟩ := hf s (p + 1) (by omega) hs
       rw [ht] at h2
       have hgo : ∀ res', (Ev (fun k => spec_l1Reader_node.l0 k ((d + 1 : Nat) : Int) res.2.2.1 res.2.2.2.1 res.2.2.2.2 0 (acc ++ [⟨res.1, res.2.1⟩])) res') → Ev (fun k => spec_l1Reader_node.l0 k ((d + 1 : Nat) : Int) (BA s) (p : Int) false 0 acc) res' := by
         intro res' h
         refine Ev.step' ?_; simp only [spec_l1Reader_node.l0]
         refine Ev.neg (by simp) (Ev.call (is_hit hdr hs 44 rfl) (Ev.pos (by first | trivial | rfl) ?_))
         rw [show wrap64 (((d + 1 : Nat) : Int) - 1) = (d : Int) by rw [wrapS (by omega) (by omega)]; omega]
         exact Ev.bind h1 (Ev.pos (by omega) h)
       have htail : tailL d (n + 1) (44 :: t) = (parse d t).bind fun q => (tailL d n q.2).map fun z => (q.1 :: z.1, z.2) := parseL_tail d n t
       rw [htail]
       cases hq : parse d t with
       | none =>
         rw [hq] at h2
         have hb2 : res.2.2.2.2 = true := h2
         refine ⟨(0, acc ++ [⟨res.1, res.2.1⟩], res.2.2.1, res.2.2.2.1, true), hgo _ ?_, rfl⟩
         rw [hb2]
         exact node_bad _ _ _ _ _
       | some q =>
         obtain ⟨v, r⟩ := q
         rw [hq] at h2
         have hres : res = ((cS d v).f0, (cS d v).f1, BA s, ((s.length - r.length : Nat) : Int), false) := h2
         have hr := parse_len hq
         have hdrop : s.drop (s.length - r.length) = r := by
           obtain ⟨e, _⟩ := parse_sound d t v r hq
           have e2 : s = s.take (p + 1) ++ (text d v ++ r) := by rw [← e, ← ht, List.take_append_drop]
           have e3 : s.length - r.length = (s.take (p + 1) ++ text d v).length := by
             have := congrArg List.length e2
             simp only [List.length_append] at this ⊢
             omega
           conv => lhs; arg 2; rw [e2]
           rw [e3, ← List.append_assoc, List.drop_left]
         have hle : r.length ≤ s.length := by omega
         obtain ⟨res', h3, h4⟩ := ih (s.length - r.length) (acc ++ [cS d v]) (by omega) (by rw [hdrop]; omega) (by rw [hdrop]; simp; omega)
         rw [hdrop] at h4
         refine ⟨res', hgo _ ?_, ?_⟩
         · rw [hres]
           simp only [mkS]
           exact h3
         · simp only [Option.bind_some]
           cases hz : tailL d n r with
           | none => rw [hz] at h4; exact h4
           | some z =>
             rw [hz] at h4
             have h4' : res' = _ := h4
             show res' = _
             rw [h4']
             simp
     · have hm : spec_l1Reader_is.f (BA s) (p : Int) false 44 = some (false, BA s, (p : Int), false) := is_miss 44 (by
         rw [hdr]
         intro c' t' e
         rw [← (List.cons.inj e).1]
         exact toNat_ne (n := 44) h44 (by omega))
       by_cases h93 : c = 93
       · subst h93
         refine ⟨(0, acc, BA s, ((p + 1 : Nat) : Int), false), ?_, ?_⟩
         · refine Ev.step' ?_; simp only [spec_l1Reader_node.l0]
           exact Ev.neg (by simp) (Ev.call hm (Ev.neg (by simp) (Ev.neg (by simp) (Ev.call (is_hit hdr hs 93 rfl) (Ev.val rfl)))))
         · show _ = _
           rw [htl, List.map_nil, List.append_nil, show s.length - (s.length - (p + 1)) = p + 1 by omega]
       · refine ⟨(0, acc, BA s, (p : Int), true), ?_, ?_⟩
         · refine Ev.step' ?_; simp only [spec_l1Reader_node.l0]
           exact Ev.neg (by simp) (Ev.call hm (Ev.neg (by simp) (Ev.neg (by simp) (Ev.call (is_miss 93 (by
             rw [hdr]
             intro c' t' e
             rw [← (List.cons.inj e).1]
             exact toNat_ne (n := 93) h93 (by omega))) (Ev.val rfl)))))
         · simp only [tailL, if_neg h44, if_neg h93]
           rfl
theorem drop_rest {s t r u : By} {p : Nat} (ht : s.drop p = t) (e : t = u ++ r) (hp : p ≤ s.length) : s.drop (s.length - r.length) = r ∧ r.length ≤ s.length - p := by
 have e2 : s = s.take p ++ (u ++ r) := by rw [← e, ← ht, List.take_append_drop]
 have e3 : s.length - r.length = (s.take p ++ u).length := by
   have := congrArg List.length e2
   simp only [List.length_append] at this ⊢
   omega
 constructor
 · conv => lhs; arg 2; rw [e2]
   rw [e3, ← List.append_assoc, List.drop_left]
 · have := congrArg List.length e
   rw [← ht, List.length_append, List.length_drop] at this
   omega
theorem node_is : ∀ d, d ≤ 1000 → NodeIs d
 | 0, _ => by
   intro s p hp hs
   obtain ⟨res, h1, h2⟩ := number_is s p hp hs
   refine ⟨(res.1, [], res.2.1, res.2.2.1, res.2.2.2), ?_, h2⟩
   refine Ev.step' ?_; simp only [spec_l1Reader_node.f]
   refine Ev.call (a := ([] : List NS)) rfl (Ev.pos (by first | trivial | rfl) ?_)
   exact Ev.bind h1 (Ev.now _)
 | d + 1, hd => by
   have ih := node_is d (by omega)
   intro s p hp hs
   cases hdr : s.drop p with
   | nil =>
     refine ⟨(0, [], BA s, (p : Int), true), ?_, by rw [parse_nil]; rfl⟩
     refine Ev.step' ?_; simp only [spec_l1Reader_node.f]
     refine Ev.call (a := ([] : List NS)) rfl (Ev.neg (by omega) (Ev.call (is_miss 91 (by rw [hdr]; intro c t e; cases e)) (Ev.neg (by simp) (Ev.val rfl))))
   | cons c t =>
     have hp' : p < s.length := by
       rcases Nat.lt_or_ge p s.length with h1 | h1
       · exact h1
       · rw [List.drop_eq_nil_of_le h1] at hdr; cases hdr
     have ht : s.drop (p + 1) = t := by
       have := drop_split hp'
       rw [hdr] at this
       exact (List.cons.inj this).2.symm
     have htl : t.length = s.length - (p + 1) := by rw [← ht, List.length_drop]
     by_cases h91 : c = 91
     · subst h91
       have hgo : ∀ res, Ev (fun k => (spec_l1Reader_is.f (BA s) ((p + 1 : Nat) : Int) false 93).bind fun bt114 => (if bt114.1 = true then (some (0, ([] : List NS), bt114.2.1, bt114.2.2.1, bt114.2.2.2)) else ((spec_l1Reader_node.f k bt114.2.1 bt114.2.2.1 bt114.2.2.2 (d : Int)).bind fun bt118 => (if ([] : List NS).length < 4398046511104 then (spec_l1Reader_node.l0 k ((d + 1 : Nat) : Int) bt118.2.2.1 bt118.2.2.2.1 bt118.2.2.2.2 0 (([] : List NS) ++ [(⟨bt118.1, bt118.2.1⟩ : NS)])) else (none))))) res →
           Ev (fun k => spec_l1Reader_node.f k (BA s) (p : Int) false ((d + 1 : Nat) : Int)) res := by
         intro res h
         refine Ev.step' ?_; simp only [spec_l1Reader_node.f]
         refine Ev.call (a := ([] : List NS)) rfl (Ev.neg (by omega) (Ev.call (is_hit hdr hs 91 rfl) (Ev.pos (by first | trivial | rfl) ?_)))
         rw [show wrap64 (((d + 1 : Nat) : Int) - 1) = (d : Int) by rw [wrapS (by omega) (by omega)]; omega]
         exact h
       by_cases h93 : ∃ t', t = 93 :: t'
       · obtain ⟨t', rfl⟩ := h93
         simp only [List.length_cons] at htl
         refine ⟨_, hgo _ (Ev.call (is_hit ht hs 93 rfl) (Ev.pos (by first | trivial | rfl) (Ev.now _))), ?_⟩
         have : parse (d + 1) (91 :: 93 :: t') = some (⟨0, []⟩, t') := by unfold parse; simp
         rw [this]
         show _ = _
         rw [show s.length - t'.length = p + 1 + 1 by omega]
         rfl
       · have hm : spec_l1Reader_is.f (BA s) ((p + 1 : Nat) : Int) false 93 = some (false, BA s, ((p + 1 : Nat) : Int), false) := is_miss 93 (by
           rw [ht]
           intro c' t' e e2
           apply h93
           refine ⟨t', ?_⟩
           rw [e]
           congr 1
           apply UInt8.toNat.inj
           have h3 : (93 : UInt8).toNat = 93 := rfl
           omega)
         obtain ⟨res, h1, h2⟩ := ih s (p + 1) (by omega) hs
         rw [ht] at h2
         have hgo2 : ∀ res', (Ev (fun k => spec_l1Reader_node.l0 k ((d + 1 : Nat) : Int) res.2.2.1 res.2.2.2.1 res.2.2.2.2 0 [⟨res.1, res.2.1⟩]) res') → Ev (fun k => spec_l1Reader_node.f k (BA s) (p : Int) false ((d + 1 : Nat) : Int)) res' := by
           intro res' h
           exact hgo _ (Ev.call hm (Ev.neg (by simp) (Ev.bind h1 (Ev.pos (by simp) h))))
         have hpar : parse (d + 1) (91 :: t) = ((parse d t).bind fun q => (tailL d t.length q.2).map fun z => (q.1 :: z.1, z.2)).map fun q => ((⟨0, q.1⟩ : Tr), q.2) := by
           cases t with
           | nil => rw [parse_nil]; rfl
           | cons c' t' =>
             have h93' : c' ≠ 93 := fun e => h93 ⟨t', by rw [e]⟩
             have e0 : parse (d + 1) (91 :: c' :: t') = if c' = 93 then some (⟨0, []⟩, t') else (parseL (parse d) ((c' :: t').length + 1) (c' :: t')).map fun q => (⟨0, q.1⟩, q.2) := rfl
             rw [e0, if_neg h93', parseL_tail]
         rw [hpar]
         cases hq : parse d t with
         | none =>
           rw [hq] at h2
           have hb2 : res.2.2.2.2 = true := h2
           refine ⟨(0, [⟨res.1, res.2.1⟩], res.2.2.1, res.2.2.2.1, true), hgo2 _ ?_, rfl⟩
           rw [hb2]
           exact node_bad _ _ _ _ _
         | some q =>
           obtain ⟨v, r⟩ := q
           rw [hq] at h2
           have hres : res = ((cS d v).f0, (cS d v).f1, BA s, ((s.length - r.length : Nat) : Int), false) := h2
           obtain ⟨hdrop, hle⟩ := drop_rest ht (parse_sound d t v r hq).1 (by omega)
           have hr := parse_len hq
           obtain ⟨res', h3, h4⟩ := node_l0 d (by omega) ih s hs t.length (s.length - r.length) [cS d v] (by omega) (by rw [hdrop]; omega) (by rw [hdrop]; simp; omega)
           rw [hdrop] at h4
           refine ⟨res', hgo2 _ ?_, ?_⟩
           · rw [hres]
             simp only [mkS]
             exact h3
           · simp only [Option.bind_some]
             cases hz : tailL d t.length r with
             | none => rw [hz] at h4; exact h4
             | some z =>
               rw [hz] at h4
               have h4' : res' = _ := h4
               show res' = _
               rw [h4']
               simp [cS]
     · refine ⟨(0, [], BA s, (p : Int), true), ?_, ?_⟩
       · refine Ev.step' ?_; simp only [spec_l1Reader_node.f]
         refine Ev.call (a := ([] : List NS)) rfl (Ev.neg (by omega) (Ev.call (is_miss 91 (by
           rw [hdr]
           intro c' t' e
           rw [← (List.cons.inj e).1]
           exact toNat_ne (n := 91) h91 (by omega))) (Ev.neg (by simp) (Ev.val rfl))))
       · unfold parse
         simp only [if_neg h91]
         rfl

/-! ### the two readings -/
/-- The array that a text stands for. -/
def readD (d : Nat) (l : By) : Option Tr := if l.length ≤ 400 then (match parse d l with | some (v, []) => some v | _ => none) else none
theorem readD_ok {d : Nat} {l : By} {v : Tr} (h : readD d l = some v) : l = text d v ∧ Ok d v ∧ l.length ≤ 400 := by
 unfold readD at h
 split at h
 · next hl =>
   split at h
   · next v' hp =>
     obtain rfl := Option.some.inj h
     obtain ⟨h1, h2⟩ := parse_sound _ _ _ _ hp
     exact ⟨by simpa using h1, h2, hl⟩
   · cases h
 · cases h
theorem readD_text {d : Nat} {v : Tr} (h : Ok d v) (hl : (text d v).length ≤ 400) : readD d (text d v) = some v := by
 unfold readD
 have := parse_complete d v [] h (by intro c l e; cases e)
 rw [List.append_nil] at this
 rw [if_pos hl, this]
def resS (d : Nat) : Option Tr → Int × List NS × Bool
 | none => (0, [], false)
 | some v => ((cS d v).f0, (cS d v).f1, true)
theorem l1Read_is (d : Nat) (hd : d ≤ 3) (l : By) : Ev (fun k => spec_l1Read.f k (BA l) (d : Int)) (resS d (readD d l)) := by
 unfold spec_l1Read.f
 have hin : spec_l1In.f (d : Int) 0 3 = some true := by
   unfold spec_l1In.f
   rw [if_pos (by omega)]
   simp
   omega
 refine Ev.call hin (Ev.pos (by first | trivial | rfl) ?_)
 refine Ev.step' ?_; simp only [spec_l1Read.j0]
 unfold readD
 by_cases hl : l.length ≤ 400
 · rw [if_pos hl]
   refine Ev.neg (by simp; omega) ?_
   obtain ⟨res, h1, h2⟩ := node_is d (by omega) l 0 (by omega) (by omega)
   rw [List.drop_zero] at h2
   refine Ev.bind h1 ?_
   cases hq : parse d l with
   | none =>
     rw [hq] at h2
     exact Ev.pos h2 (Ev.now _)
   | some q =>
     obtain ⟨v, r⟩ := q
     rw [hq] at h2
     have hres : res = ((cS d v).f0, (cS d v).f1, BA l, ((l.length - r.length : Nat) : Int), false) := h2
     subst hres
     have hr := parse_len hq
     refine Ev.neg (by simp) ?_
     cases r with
     | nil => exact Ev.pos (by simp) (Ev.now _)
     | cons c r => exact Ev.neg (by simp only [List.length_cons] at hr ⊢; rw [BA_size]; omega) (Ev.now _)
 · rw [if_neg hl]
   exact Ev.pos (by simp; omega) (Ev.now _)
theorem l1Read_out (d : Int) (hd : d < 0 ∨ 3 < d) (s : ByteArray) : Ev (fun k => spec_l1Read.f k s d) (0, [], false) := by
 unfold spec_l1Read.f
 have hin : spec_l1In.f d 0 3 = some false := by
   unfold spec_l1In.f
   by_cases h0 : d ≥ 0
   · rw [if_pos h0]
     simp
     omega
   · rw [if_neg h0]
 refine Ev.call hin (Ev.neg (by simp) ?_)
 refine Ev.step' ?_; simp only [spec_l1Read.j0]
 exact Ev.pos (by first | trivial | rfl) (Ev.now _)
end Go.Proofs.YtidpankoobdfjaaGreatDoor.L
-- NO HOME
namespace Go.Proofs.YtidpankoobdfjaaGreatDoor.L
open Go.RowKit Go.Proofs.YtidpankoobdfjaaGreatDoorW.PrintWords Go.Proofs.YtidpankoobdfjaaGreatDoorW.PrintLast Go.Proofs.YtidpankoobdfjaaGreatDoorW.PrintMore Go.Proofs.YtidpankoobdfjaaGreatDoor.Q
set_option linter.unusedSimpArgs false
set_option linter.unusedVariables false

/-- Numbers that fit. -/
def Sh : Nat → Tr → Prop
 | 0, t => t.n < 1000000000
 | d + 1, t => ∀ x ∈ t.parts, Sh d x
theorem Sh.of : ∀ {d : Nat} {t : Tr}, Ok d t → Sh d t
 | 0, t, h => by have := h.1; show t.n < _; omega
 | d + 1, t, h => fun x hx => Sh.of (h.2 x hx)
def nodes : Nat → Tr → Nat
 | 0, _ => 1
 | d + 1, t => 1 + (t.parts.map (nodes d)).sum
theorem join_sum (f : Tr → By) (g : Tr → Nat) : ∀ xs : List Tr, (∀ x ∈ xs, (f x).length + 1 ≤ g x) → (Lib.join (xs.map f) [44]).length ≤ (xs.map g).sum
 | [], _ => by simp [Lib.join_nil]
 | [x], h => by
   have := h x (by simp)
   rw [List.map_cons, List.map_nil, join_one]
   simp
   omega
 | x :: y :: l, h => by
   have h1 := h x (by simp)
   have h2 := join_sum f g (y :: l) (fun z hz => h z (List.mem_cons_of_mem _ hz))
   rw [List.map_cons, List.map_cons, join_cons]
   rw [List.map_cons] at h2
   rw [List.map_cons, List.sum_cons]
   simp only [List.length_append, List.length_cons] at h2 ⊢
   omega
theorem join_len2 (f : Tr → By) (g : Tr → Nat) : ∀ xs : List Tr, (∀ x ∈ xs, g x ≤ (f x).length) → (xs.map g).sum ≤ (Lib.join (xs.map f) [44]).length
 | [], _ => by simp
 | [x], h => by
   have h1 := h x (by simp)
   have e1 : (([x] : List Tr).map g).sum = g x := by simp
   have e2 : Lib.join ([x].map f) [44] = f x := join_one _
   rw [e1, e2]
   exact h1
 | x :: y :: l, h => by
   have h1 := h x (by simp)
   have h2 := join_len2 f g (y :: l) (fun z hz => h z (List.mem_cons_of_mem _ hz))
   have e1 : ((x :: y :: l).map g).sum = g x + ((y :: l).map g).sum := by rw [List.map_cons, List.sum_cons]
   have e2 : Lib.join ((x :: y :: l).map f) [44] = f x ++ 44 :: Lib.join ((y :: l).map f) [44] := join_cons _ _ _
   rw [e1, e2, List.length_append, List.length_cons]
   omega
theorem sum_mul (c : Nat) (g : Tr → Nat) : ∀ xs : List Tr, (xs.map (fun x => c * g x)).sum = c * (xs.map g).sum
 | [] => rfl
 | x :: l => by rw [List.map_cons, List.sum_cons, sum_mul c g l, List.map_cons, List.sum_cons, Nat.mul_add]
theorem text_le : ∀ (d : Nat) (t : Tr), Sh d t → (text d t).length + 1 ≤ 12 * nodes d t
 | 0, t, h => by
   have := dec_len 9 t.n h (by omega)
   show (Lib.decDigits t.n).length + 1 ≤ 12
   omega
 | d + 1, t, h => by
   have := join_sum (text d) (fun x => 12 * nodes d x) t.parts (fun x hx => text_le d x (h x hx))
   rw [sum_mul] at this
   show (91 :: (Lib.join (t.parts.map (text d)) [44] ++ [93])).length + 1 ≤ 12 * (1 + (t.parts.map (nodes d)).sum)
   simp
   omega
theorem sum_mem (g : Tr → Nat) : ∀ (xs : List Tr) (x : Tr), x ∈ xs → g x ≤ (xs.map g).sum
 | y :: l, x, h => by
   rw [List.map_cons, List.sum_cons]
   rcases List.mem_cons.1 h with rfl | h
   · omega
   · have := sum_mem g l x h; omega
theorem nodes_part {d : Nat} {t x : Tr} (h : x ∈ t.parts) : nodes d x ≤ nodes (d + 1) t := by
 have := sum_mem (nodes d) t.parts x h
 show _ ≤ 1 + _
 omega
theorem nodes_pos : ∀ (d : Nat) (t : Tr), 1 ≤ nodes d t
 | 0, _ => Nat.le_refl _
 | d + 1, t => by show 1 ≤ 1 + _; omega
theorem sum_len (g : Tr → Nat) (h : ∀ x, 1 ≤ g x) : ∀ xs : List Tr, xs.length ≤ (xs.map g).sum
 | [] => by simp
 | x :: l => by
   have h1 := h x
   have h2 := sum_len g h l
   rw [List.map_cons, List.sum_cons, List.length_cons]
   omega
theorem parts_len (d : Nat) (t : Tr) : t.parts.length + 1 ≤ nodes (d + 1) t := by
 have := sum_len (nodes d) (nodes_pos d) t.parts
 show _ ≤ 1 + _
 omega
theorem getD_map {α : Type} (f : Tr → α) (xs : List Tr) (i : Nat) (z : α) (h : i < xs.length) : (xs.map f).getD i z = f xs[i] := by
 rw [List.getD_eq_getElem?_getD, List.getElem?_map, List.getElem?_eq_getElem h]
 rfl
theorem join_snoc : ∀ (xs : List By) (x : By), xs ≠ [] → Lib.join (xs ++ [x]) [44] = Lib.join xs [44] ++ 44 :: x
 | [], x, h => absurd rfl h
 | [y], x, _ => by rw [List.singleton_append, join_cons, join_one, join_one]
 | y :: z :: l, x, _ => by
   have := join_snoc (z :: l) x (by simp)
   rw [List.cons_append, List.cons_append, join_cons, join_cons, ← List.cons_append, this]
   simp
theorem take_snoc {α : Type} (xs : List α) (i : Nat) (h : i < xs.length) : xs.take (i + 1) = xs.take i ++ [xs[i]] := List.take_succ_eq_append_getElem h
theorem join_take (f : Tr → By) (xs : List Tr) (i : Nat) (h : i < xs.length) (h0 : 0 < i) : Lib.join ((xs.take (i + 1)).map f) [44] = Lib.join ((xs.take i).map f) [44] ++ 44 :: f xs[i] := by
 rw [take_snoc xs i h, List.map_append, List.map_cons, List.map_nil, join_snoc]
 intro e
 have := congrArg List.length e
 rw [List.length_map, List.length_take, List.length_nil] at this
 omega
theorem join_take_le (f : Tr → By) (xs : List Tr) : ∀ i, i ≤ xs.length → (Lib.join ((xs.take i).map f) [44]).length ≤ (Lib.join (xs.map f) [44]).length := by
 have main : ∀ n i, xs.length - i = n → i ≤ xs.length → (Lib.join ((xs.take i).map f) [44]).length ≤ (Lib.join (xs.map f) [44]).length := by
   intro n
   induction n with
   | zero => intro i h hi; rw [List.take_of_length_le (by omega)]; exact Nat.le_refl _
   | succ n ih =>
     intro i h hi
     refine Nat.le_trans ?_ (ih (i + 1) (by omega) (by omega))
     rcases Nat.eq_zero_or_pos i with rfl | h0
     · simp [Lib.join_nil]
     · rw [join_take f xs i (by omega) h0, List.length_append]
       omega
 exact fun i hi => main _ i rfl hi
def told (l : By) : ByteArray × Bool := if l.length ≤ 400 then (BA l, true) else (BA [], false)
theorem nodes_le_text : ∀ (d : Nat) (t : Tr), nodes d t ≤ (text d t).length
 | 0, t => by
   have := List.length_pos_iff.2 (dec_ne t.n)
   exact this
 | d + 1, t => by
   have h := join_len2 (text d) (nodes d) t.parts (fun x _ => nodes_le_text d x)
   show 1 + _ ≤ (91 :: (Lib.join (t.parts.map (text d)) [44] ++ [93])).length
   simp
   omega
end Go.Proofs.YtidpankoobdfjaaGreatDoor.L
namespace Go.Proofs.YtidpankoobdfjaaGreatDoor.L
open Go.RowKit Go.Proofs.YtidpankoobdfjaaGreatDoorW.PrintWords Go.Proofs.YtidpankoobdfjaaGreatDoorW.PrintLast Go.Proofs.YtidpankoobdfjaaGreatDoorW.PrintMore Go.Proofs.YtidpankoobdfjaaGreatDoor.Q
set_option linter.unusedSimpArgs false
set_option linter.unusedVariables false

abbrev ints (l : List Nat) : List Int := l.map (fun n : Nat => (n : Int))
theorem nums_le : ∀ (d : Nat) (t : Tr), (Q.nums d t).length ≤ nodes d t
 | 0, t => Nat.le_refl _
 | d + 1, t => by
   show ((t.parts.map (Q.nums d)).flatten).length ≤ 1 + (t.parts.map (nodes d)).sum
   have : ∀ xs : List Tr, ((xs.map (Q.nums d)).flatten).length ≤ (xs.map (nodes d)).sum := by
     intro xs
     induction xs with
     | nil => exact Nat.le_refl _
     | cons x l ih =>
       have := nums_le d x
       rw [List.map_cons, List.flatten_cons, List.length_append, List.map_cons, List.sum_cons]
       omega
   have := this t.parts
   omega
theorem flat_take_le (f : Tr → List Nat) (xs : List Tr) (i : Nat) : (((xs.take i).map f).flatten).length ≤ ((xs.map f).flatten).length := by
 conv => rhs; rw [← List.take_append_drop i xs, List.map_append, List.flatten_append, List.length_append]
 omega
theorem flat_snoc (f : Tr → List Nat) (xs : List Tr) (i : Nat) (h : i < xs.length) : ((xs.take (i + 1)).map f).flatten = ((xs.take i).map f).flatten ++ f xs[i] := by
 rw [take_snoc _ _ h, List.map_append, List.flatten_append]
 simp
end Go.Proofs.YtidpankoobdfjaaGreatDoor.L
namespace Go.Proofs.YtidpankoobdfjaaGreatDoor.L
open Go.RowKit Go.Proofs.YtidpankoobdfjaaGreatDoorW.PrintWords Go.Proofs.YtidpankoobdfjaaGreatDoorW.PrintLast Go.Proofs.YtidpankoobdfjaaGreatDoorW.PrintMore Go.Proofs.YtidpankoobdfjaaGreatDoor.Q
set_option linter.unusedSimpArgs false
set_option linter.unusedVariables false

/-- An array put behind a layout, from a level on. -/
def layT : Nat → Tr → Nat → List (List Int) × List Int → List (List Int) × List Int
 | 0, t, _, s => (s.1, s.2 ++ [(t.n : Int)])
 | d + 1, t, j, s => t.parts.foldl (fun s x => layT d x (j + 1) s) (s.1.set j (s.1.getD j [] ++ [(t.parts.length : Int)]), s.2)
def Bd (B : Nat) (s : List (List Int) × List Int) : Prop := s.2.length ≤ B ∧ ∀ r ∈ s.1, r.length ≤ B
theorem Bd.mono {B C : Nat} {s : List (List Int) × List Int} (h : Bd B s) (hc : B ≤ C) : Bd C s := ⟨Nat.le_trans h.1 hc, fun r hr => Nat.le_trans (h.2 r hr) hc⟩
theorem getD_bd {B : Nat} {L : List (List Int)} (h : ∀ r ∈ L, r.length ≤ B) (j : Nat) : (L.getD j []).length ≤ B := by
 rw [List.getD_eq_getElem?_getD]
 by_cases hj : j < L.length
 · rw [List.getElem?_eq_getElem hj]
   exact h _ (List.getElem_mem hj)
 · rw [List.getElem?_eq_none (by omega)]
   exact Nat.zero_le _
theorem set_bd {B : Nat} {L : List (List Int)} {D : List Int} (h : Bd B (L, D)) (j : Nat) (x : Int) : Bd (B + 1) (L.set j (L.getD j [] ++ [x]), D) := by
 refine ⟨Nat.le_succ_of_le h.1, fun r hr => ?_⟩
 rcases List.mem_or_eq_of_mem_set hr with hr | rfl
 · exact Nat.le_succ_of_le (h.2 r hr)
 · have := getD_bd h.2 j
   rw [List.length_append]
   exact Nat.succ_le_succ this
theorem layT_bd : ∀ (d : Nat) (t : Tr) (j : Nat) (s : List (List Int) × List Int) (B : Nat), Bd B s → (layT d t j s).1.length = s.1.length ∧ Bd (B + nodes d t) (layT d t j s)
 | 0, t, j, s, B, h => by
   refine ⟨rfl, ?_, fun r hr => Nat.le_succ_of_le (h.2 r hr)⟩
   show (s.2 ++ [(t.n : Int)]).length ≤ B + 1
   rw [List.length_append]
   exact Nat.succ_le_succ h.1
 | d + 1, t, j, s, B, h => by
   have main : ∀ (xs : List Tr) (s : List (List Int) × List Int) (B : Nat), Bd B s → (xs.foldl (fun s x => layT d x (j + 1) s) s).1.length = s.1.length ∧ Bd (B + (xs.map (nodes d)).sum) (xs.foldl (fun s x => layT d x (j + 1) s) s) := by
     intro xs
     induction xs with
     | nil => intro s B h; exact ⟨rfl, h⟩
     | cons x xs ih =>
       intro s B h
       obtain ⟨h1, h2⟩ := layT_bd d x (j + 1) s B h
       obtain ⟨h3, h4⟩ := ih _ _ h2
       refine ⟨h3.trans h1, ?_⟩
       rw [List.map_cons, List.sum_cons, ← Nat.add_assoc]
       exact h4
   obtain ⟨h1, h2⟩ := main t.parts _ (B + 1) (set_bd h j (t.parts.length : Int))
   refine ⟨h1.trans (List.length_set), ?_⟩
   show Bd (B + (1 + (t.parts.map (nodes d)).sum)) _
   rw [← Nat.add_assoc]
   exact h2
theorem rep_bd (d : Nat) : Bd 0 (List.replicate d ([] : List Int), ([] : List Int)) := ⟨Nat.le_refl _, fun r hr => by rw [List.eq_of_mem_replicate hr]; exact Nat.le_refl _⟩
def layR (d : Nat) : Option Tr → List (List Int) × List Int × Bool
 | none => ([], [], false)
 | some v => ((layT d v 0 (List.replicate d [], [])).1, (layT d v 0 (List.replicate d [], [])).2, true)
theorem layR_bd (d : Nat) (hd : d ≤ 3) (l : By) : (layR d (readD d l)).1.length ≤ 3 ∧ (∀ r ∈ (layR d (readD d l)).1, r.length ≤ 400) ∧ (layR d (readD d l)).2.1.length ≤ 400 := by
 cases hr : readD d l with
 | none => exact ⟨Nat.zero_le _, fun r hr => (by cases hr), Nat.zero_le _⟩
 | some v =>
   obtain ⟨e1, e2, e3⟩ := readD_ok hr
   have hn := nodes_le_text d v
   rw [← e1] at hn
   obtain ⟨b1, b2, b3⟩ := layT_bd d v 0 (List.replicate d [], []) 0 (rep_bd d)
   refine ⟨?_, fun r hr => Nat.le_trans (b3 r hr) (by omega), Nat.le_trans b2 (by omega)⟩
   show (layT d v 0 (List.replicate d [], [])).1.length ≤ 3
   rw [b1, List.length_replicate]
   exact hd
end Go.Proofs.YtidpankoobdfjaaGreatDoor.L
namespace Go.Proofs.YtidpankoobdfjaaGreatDoor.L
open Go.RowKit Go.Proofs.YtidpankoobdfjaaGreatDoorW.PrintWords Go.Proofs.YtidpankoobdfjaaGreatDoorW.PrintLast Go.Proofs.YtidpankoobdfjaaGreatDoorW.PrintMore Go.Proofs.YtidpankoobdfjaaGreatDoor.Q
set_option linter.unusedSimpArgs false
set_option linter.unusedVariables false

theorem ownLL_l0 (L : List (List Int)) (hL : L.length ≤ 1000) (hb : ∀ r ∈ L, r.length ≤ 1000000) : ∀ (n i : Nat), L.length - i = n → i ≤ L.length → Ev (fun k => spec_l13OwnListListint.l0 k (L.take i) L (L.length : Int) (i : Int)) L := by
 intro n
 induction n with
 | zero =>
   intro i h hi
   refine Ev.step' ?_; simp only [spec_l13OwnListListint.l0]
   rw [List.take_of_length_le (by omega)]
   exact Ev.neg (by omega) (Ev.now _)
 | succ n ih =>
   intro i h hi
   have hlt : i < L.length := by omega
   have hm := hb L[i] (List.getElem_mem hlt)
   have hg : rd_L1 L (i : Int) = L[i] := by
     show L.getD i [] = _
     rw [List.getD_eq_getElem?_getD, List.getElem?_eq_getElem hlt]
     rfl
   have hnext := ih (i + 1) (by omega) (by omega)
   rw [take_snoc _ _ hlt] at hnext
   refine Ev.step' ?_; simp only [spec_l13OwnListListint.l0]
   refine Ev.pos (by omega) (Ev.pos (by omega) (Ev.pos (by omega) (Ev.bind (Ev.now _) ?_)))
   rw [hg, wrapS (by omega) (by omega)]
   refine Ev.pos (by simp; omega) (Ev.pos (by rw [List.length_take]; omega) ?_)
   rw [List.nil_append]
   exact hnext
theorem ownLay_is (L : List (List Int)) (D : List Int) (hL : L.length ≤ 1000) (hb : ∀ r ∈ L, r.length ≤ 1000000) (hD : D.length ≤ 1000000) : Ev (fun k => spec_l13OwnLayout.f k L D) (L, D) := by
 have h0 : Ev (fun k => spec_l13OwnListListint.f k L) L := by
   unfold spec_l13OwnListListint.f
   exact ownLL_l0 L hL hb _ 0 rfl (Nat.zero_le _)
 unfold spec_l13OwnLayout.f
 refine Ev.bind h0 (Ev.bind (Ev.now _) (Ev.pos (by simp; omega) (Ev.val ?_)))
 rw [List.nil_append]
end Go.Proofs.YtidpankoobdfjaaGreatDoor.L
namespace Go.Proofs.YtidpankoobdfjaaGreatDoor.L
open Go.RowKit Go.Proofs.YtidpankoobdfjaaGreatDoorW.PrintWords Go.Proofs.YtidpankoobdfjaaGreatDoorW.PrintLast Go.Proofs.YtidpankoobdfjaaGreatDoorW.PrintMore Go.Proofs.YtidpankoobdfjaaGreatDoor.Q
set_option linter.unusedSimpArgs false
set_option linter.unusedVariables false

theorem num_l0 (w : By) (neg : Bool) (hw : w.length ≤ 1000000) : ∀ (n i : Nat) (acc : Int), w.length - i = n → i ≤ w.length → ∃ r, Ev (fun k => spec_l13Num.l0 k (BA w) neg acc (i : Int)) r := by
 intro n
 induction n with
 | zero =>
   intro i acc h1 h2
   have b1 : ¬ (i : Int) < ((BA w).size : Int) := by rw [BA_size]; omega
   cases neg with
   | true =>
     refine ⟨(wrap64 (-acc), true), ?_⟩
     refine Ev.step' ?_; simp only [spec_l13Num.l0]
     exact Ev.neg b1 (Ev.pos (by first | trivial | rfl) (Ev.now _))
   | false =>
     refine ⟨(acc, true), ?_⟩
     refine Ev.step' ?_; simp only [spec_l13Num.l0]
     exact Ev.neg b1 (Ev.neg (by simp) (Ev.now _))
 | succ n ih =>
   intro i acc h1 h2
   have hi : i < w.length := by omega
   have b1 : (i : Int) < ((BA w).size : Int) := by rw [BA_size]; omega
   have b2 : (0 : Int) ≤ (i : Int) := by omega
   have ei : wrap64 ((i : Int) + 1) = ((i + 1 : Nat) : Int) := by rw [wrapS (by omega) (by omega)]; omega
   have a1 : w.length - (i + 1) = n := by rw [Nat.sub_succ, h1]; rfl
   by_cases c1 : bt (BA w) (i : Int) < 48
   · refine ⟨(0, false), ?_⟩
     refine Ev.step' ?_; simp only [spec_l13Num.l0]
     exact Ev.pos b1 (Ev.pos b2 (Ev.pos c1 (Ev.now _)))
   · by_cases c2 : bt (BA w) (i : Int) > 57
     · refine ⟨(0, false), ?_⟩
       refine Ev.step' ?_; simp only [spec_l13Num.l0]
       exact Ev.pos b1 (Ev.pos b2 (Ev.neg c1 (Ev.pos c2 (Ev.now _))))
     · obtain ⟨r, hr⟩ := ih (i + 1) (wrap64 ((wrap64 (acc * 10)) + (((bt (BA w) (i : Int)) - 48) % 256))) a1 hi
       refine ⟨r, ?_⟩
       refine Ev.step' ?_; simp only [spec_l13Num.l0]
       rw [ei]
       exact Ev.pos b1 (Ev.pos b2 (Ev.neg c1 (Ev.neg c2 hr)))
theorem num_j2 (w : By) (neg b : Bool) (hw : w.length ≤ 1000000) : ∃ r, Ev (fun k => spec_l13Num.j2 k (BA w) neg b) r := by
 cases b with
 | true =>
   refine ⟨(0, false), ?_⟩
   refine Ev.step' ?_; simp only [spec_l13Num.j2]
   exact Ev.pos (by first | trivial | rfl) (Ev.now _)
 | false =>
   obtain ⟨r, hr⟩ := num_l0 w neg hw _ 0 0 rfl (Nat.zero_le _)
   refine ⟨r, ?_⟩
   refine Ev.step' ?_; simp only [spec_l13Num.j2]
   exact Ev.neg (by simp) hr
theorem num_j1 (w : By) (neg : Bool) (hw : w.length ≤ 1000000) : ∃ r, Ev (fun k => spec_l13Num.j1 k (BA w) neg) r := by
 obtain ⟨r1, h1⟩ := num_j2 w neg true hw
 obtain ⟨r2, h2⟩ := num_j2 w neg neg hw
 obtain ⟨r3, h3⟩ := num_j2 w neg false hw
 by_cases c0 : ((BA w).size : Int) = 0
 · refine ⟨r1, ?_⟩
   refine Ev.step' ?_; simp only [spec_l13Num.j1]
   exact Ev.pos c0 h1
 · by_cases c1 : ((BA w).size : Int) > 17
   · refine ⟨r1, ?_⟩
     refine Ev.step' ?_; simp only [spec_l13Num.j1]
     exact Ev.neg c0 (Ev.pos c1 h1)
   · have c2 : (0 : Int) < ((BA w).size : Int) := by omega
     by_cases c3 : bt (BA w) 0 = 48
     · by_cases c4 : ((BA w).size : Int) > 1
       · refine ⟨r1, ?_⟩
         refine Ev.step' ?_; simp only [spec_l13Num.j1]
         exact Ev.neg c0 (Ev.neg c1 (Ev.pos c2 (Ev.pos c3 (Ev.pos c4 h1))))
       · refine ⟨r2, ?_⟩
         refine Ev.step' ?_; simp only [spec_l13Num.j1]
         exact Ev.neg c0 (Ev.neg c1 (Ev.pos c2 (Ev.pos c3 (Ev.neg c4 h2))))
     · refine ⟨r3, ?_⟩
       refine Ev.step' ?_; simp only [spec_l13Num.j1]
       exact Ev.neg c0 (Ev.neg c1 (Ev.pos c2 (Ev.neg c3 h3)))
theorem num_any (w : By) (hw : w.length ≤ 1000000) : ∃ r, Ev (fun k => spec_l13Num.f k (BA w)) r := by
 unfold spec_l13Num.f
 obtain ⟨r1, h1⟩ := num_j1 w false hw
 have hf : Ev (fun k => spec_l13Num.j0 k (BA w) false) r1 := by
   refine Ev.step' ?_; simp only [spec_l13Num.j0]
   exact Ev.neg (by simp) h1
 by_cases c0 : ((BA w).size : Int) > 0
 · by_cases c1 : (bt (BA w) 0 == 45) = true
   · obtain ⟨r2, h2⟩ := num_j1 ((w.drop 1).take ((BA w).size - 1)) true (by rw [List.length_take, List.length_drop]; omega)
     rw [← BA_extract] at h2
     refine ⟨r2, Ev.pos c0 (Ev.pos c0 ?_)⟩
     rw [c1]
     refine Ev.step' ?_; simp only [spec_l13Num.j0]
     exact Ev.pos (by first | trivial | rfl) (Ev.pos (by omega) h2)
   · have c2 : (bt (BA w) 0 == 45) = false := by simpa using c1
     refine ⟨r1, Ev.pos c0 (Ev.pos c0 ?_)⟩
     rw [c2]
     exact hf
 · exact ⟨r1, Ev.neg c0 hf⟩
theorem read_l0 (ws : List By) (hw : ∀ t ∈ ws, t.length ≤ 1000000) (hl : ws.length ≤ 1000001) : ∀ (n i : Nat) (acc : List Int), ws.length - i = n → i ≤ ws.length → acc.length ≤ i →
   ∃ (xs : List Int) (b : Bool), Ev (fun k => spec_l2Read.l0 k acc (ws.map BA) ((ws.map BA).length : Int) (i : Int)) (xs, b) ∧ xs.length ≤ ws.length := by
 intro n
 induction n with
 | zero =>
   intro i acc h1 h2 h3
   have b1 : ¬ (i : Int) < ((ws.map BA).length : Int) := by rw [List.length_map]; omega
   refine ⟨acc, true, ?_, by omega⟩
   refine Ev.step' ?_; simp only [spec_l2Read.l0]
   exact Ev.neg b1 (Ev.now _)
 | succ n ih =>
   intro i acc h1 h2 h3
   have hi : i < ws.length := by omega
   have b1 : (i : Int) < ((ws.map BA).length : Int) := by rw [List.length_map]; omega
   have b2 : (0 : Int) ≤ (i : Int) := by omega
   have b3 : acc.length < 17592186044416 := by omega
   have ei : wrap64 ((i : Int) + 1) = ((i + 1 : Nat) : Int) := by rw [wrapS (by omega) (by omega)]; omega
   have a1 : ws.length - (i + 1) = n := by rw [Nat.sub_succ, h1]; rfl
   obtain ⟨r, hr⟩ := num_any ws[i] (hw _ (List.getElem_mem hi))
   cases hb : r.2 with
   | false =>
     refine ⟨[], false, ?_, Nat.zero_le _⟩
     refine Ev.step' ?_; simp only [spec_l2Read.l0]
     refine Ev.pos b1 (Ev.pos b2 (Ev.pos b1 ?_))
     rw [rdB_at hi]
     exact Ev.bind hr (Ev.neg (by rw [hb]; simp) (Ev.now _))
   | true =>
     obtain ⟨xs, b, hx, hxl⟩ := ih (i + 1) (acc ++ [r.1]) a1 hi (by rw [List.length_append, List.length_singleton]; omega)
     refine ⟨xs, b, ?_, hxl⟩
     refine Ev.step' ?_; simp only [spec_l2Read.l0]
     refine Ev.pos b1 (Ev.pos b2 (Ev.pos b1 ?_))
     rw [rdB_at hi, ei]
     exact Ev.bind hr (Ev.pos hb (Ev.pos b3 hx))
theorem read_any (p : By) (hp : p.length ≤ 900000) : ∃ (xs : List Int) (b : Bool), Ev (fun k => spec_l2Read.f k (BA p)) (xs, b) ∧ xs.length ≤ 1000000 := by
 unfold spec_l2Read.f
 by_cases c : (BA p).toList = ([45] : List UInt8)
 · exact ⟨[], true, Ev.call rfl (Ev.pos c (Ev.now _)), by simp⟩
 · have hl := cutL_len 32 p
   obtain ⟨xs, b, hx, hxl⟩ := read_l0 (cutL 32 p) (fun t ht => Nat.le_trans (cutL_mem 32 p t ht).1 (by omega)) (by omega) _ 0 [] rfl (Nat.zero_le _) (Nat.le_refl _)
   exact ⟨xs, b, Ev.call rfl (Ev.neg c (Ev.bind (l13Cut_is 32 p (by omega)) hx)), by omega⟩
/-! ### a row's own text -/
def Nn (xs : List Int) : Prop := ∀ z ∈ xs, 0 ≤ z ∧ z ≤ 1000000
theorem In.nn {M : Nat} (hM : M ≤ 1000000) {r : List Int} (h : In M r) : Nn r := fun z hz => by
 have := h z hz
 omega
theorem cut_wds : ∀ (xs : List Int), xs ≠ [] → cutL 32 (wds xs) = tks xs
 | [], h => absurd rfl h
 | [x], _ => by
   have e : wds [x] = Lib.itoa x := joinW_one _
   rw [e, cutL_none 32 _ (fun h => (isD_facts (itoa_bytes x _ h)).2.1 rfl)]
   rfl
 | x :: y :: l, _ => by
   have e : wds (x :: y :: l) = Lib.itoa x ++ 32 :: wds (y :: l) := joinW_cons _ _ _
   rw [e, cutL_app 32 _ _ (fun h => (isD_facts (itoa_bytes x _ h)).2.1 rfl), cut_wds (y :: l) (by simp)]
   rfl
theorem itoa_no45 {x : Int} (hx : 0 ≤ x) : ∀ b ∈ Lib.itoa x, b ≠ 45 := by
 intro b h
 obtain ⟨n, rfl⟩ : ∃ n : Nat, x = (n : Int) := ⟨x.toNat, by omega⟩
 rw [itoa_nat] at h
 have := (isD_iff b).1 (List.all_eq_true.1 (dec_all n) b h)
 intro e2
 rw [e2] at this
 exact absurd this.1 (by decide)
theorem wds_no45 : ∀ (xs : List Int), Nn xs → ∀ b ∈ wds xs, b ≠ 45
 | [], _, b, h => by simp [wds, tks, joinW_nil] at h
 | [x], hx, b, h => by
   have e : wds [x] = Lib.itoa x := joinW_one _
   rw [e] at h
   exact itoa_no45 (hx x (by simp)).1 b h
 | x :: y :: l, hx, b, h => by
   have e : wds (x :: y :: l) = Lib.itoa x ++ 32 :: wds (y :: l) := joinW_cons _ _ _
   rw [e] at h
   rcases List.mem_append.1 h with h | h
   · exact itoa_no45 (hx x (by simp)).1 b h
   · rcases List.mem_cons.1 h with rfl | h
     · decide
     · exact wds_no45 (y :: l) (fun z hz => hx z (List.mem_cons_of_mem _ hz)) b h
theorem num_itoa {z : Int} (h : 0 ≤ z ∧ z ≤ 1000000) : Ev (fun k => spec_l13Num.f k (BA (Lib.itoa z))) (z, true) := by
 obtain ⟨n, rfl⟩ : ∃ n : Nat, z = (n : Int) := ⟨z.toNat, by omega⟩
 have hp : (10 ^ 17 : Nat) = 100000000000000000 := by decide
 have hl : (Lib.decDigits n).length ≤ 17 := dec_len 17 n (by omega) (by omega)
 have h1 := l13_is (Lib.decDigits n) (dec_all n) hl
 rw [val_dec, if_pos rfl] at h1
 rw [itoa_nat]
 exact h1
theorem readW_l0 (xs : List Int) (hx : Nn xs) (hl : xs.length ≤ 1000001) : ∀ (n i : Nat), xs.length - i = n → i ≤ xs.length →
   Ev (fun k => spec_l2Read.l0 k (xs.take i) ((tks xs).map BA) (((tks xs).map BA).length : Int) (i : Int)) (xs, true) := by
 intro n
 induction n with
 | zero =>
   intro i h1 h2
   have b1 : ¬ (i : Int) < (((tks xs).map BA).length : Int) := by rw [List.length_map, List.length_map]; omega
   rw [List.take_of_length_le (by omega)]
   refine Ev.step' ?_; simp only [spec_l2Read.l0]
   exact Ev.neg b1 (Ev.now _)
 | succ n ih =>
   intro i h1 h2
   have hi : i < xs.length := by omega
   have hit : i < (tks xs).length := by rw [List.length_map]; exact hi
   have b1 : (i : Int) < (((tks xs).map BA).length : Int) := by rw [List.length_map, List.length_map]; omega
   have b2 : (0 : Int) ≤ (i : Int) := by omega
   have b3 : (xs.take i).length < 17592186044416 := by rw [List.length_take]; omega
   have ei : wrap64 ((i : Int) + 1) = ((i + 1 : Nat) : Int) := by rw [wrapS (by omega) (by omega)]; omega
   have a1 : xs.length - (i + 1) = n := by rw [Nat.sub_succ, h1]; rfl
   have hnext := ih (i + 1) a1 hi
   rw [List.take_succ_eq_append_getElem hi] at hnext
   have hr := num_itoa (hx _ (List.getElem_mem hi))
   have eg : (tks xs)[i] = Lib.itoa xs[i] := List.getElem_map _
   refine Ev.step' ?_; simp only [spec_l2Read.l0]
   refine Ev.pos b1 (Ev.pos b2 (Ev.pos b1 ?_))
   rw [rdB_at hit, ei, eg]
   exact Ev.bind hr (Ev.pos rfl (Ev.pos b3 hnext))
theorem read_spT (xs : List Int) (hx : Nn xs) (hl : (spT xs).length ≤ 1000000) (hxl : xs.length ≤ 1000001) : Ev (fun k => spec_l2Read.f k (BA (spT xs))) (xs, true) := by
 unfold spec_l2Read.f
 by_cases h0 : xs = []
 · subst h0
   exact Ev.call rfl (Ev.pos (by rw [toList_BA]; rfl) (Ev.now _))
 · have e : spT xs = wds xs := if_neg h0
   rw [e] at hl ⊢
   have hne : ¬ (BA (wds xs)).toList = ([45] : List UInt8) := by
     rw [toList_BA]
     intro h
     exact wds_no45 xs hx 45 (by rw [h]; simp) rfl
   have hc := l13Cut_is 32 (wds xs) hl
   rw [cut_wds xs h0] at hc
   have hr := readW_l0 xs hx hxl _ 0 rfl (Nat.zero_le _)
   exact Ev.call rfl (Ev.neg hne (Ev.bind hc hr))
theorem finS (s : By) (L : List (List Int)) (D : List Int) (hL : L.length ≤ 1000000) (hb : ∀ r ∈ L, r.length ≤ 1000000) (hD : D.length ≤ 1000000) :
   Ev (fun k => (spec_LayoutValid.f k L D).bind fun t485 => (if t485 = true then ((spec_FormatLayout.f k L D).bind fun t486 => (if t486.toList = (BA s).toList then (some (L, D, true)) else (some (([] : List (List Int)), ([] : List Int), false)))) else (some (([] : List (List Int)), ([] : List Int), false)))) (finR s L D) := by
 have hv := (valid_both L D hL hb hD).2
 unfold finR
 by_cases h : lok L D = true
 · obtain ⟨o1, o2, o3⟩ := lok_is h
   have hf := (fmt_is L D ⟨by omega, fun r hr => ⟨hb r hr, (o2 r hr).dz (by omega)⟩, hD, o3.dz (by omega)⟩).2
   refine Ev.bind hv (Ev.pos h (Ev.bind hf ?_))
   rw [toList_BA, toList_BA]
   by_cases e : layTx L D = s
   · rw [if_pos (show lok L D = true ∧ layTx L D = s from ⟨h, e⟩)]
     exact Ev.pos e (Ev.now _)
   · rw [if_neg (show ¬ (lok L D = true ∧ layTx L D = s) from fun x => e x.2)]
     exact Ev.neg e (Ev.now _)
 · rw [if_neg (show ¬ (lok L D = true ∧ layTx L D = s) from fun x => h x.1)]
   exact Ev.bind hv (Ev.neg h (Ev.now _))
/-- What a parsing may answer. -/
def Good (s : By) (r : Res) : Prop := r = ([], [], false) ∨ ∃ L D, r = (L, D, true) ∧ lok L D = true ∧ layTx L D = s ∧ (∀ x ∈ L, x.length ≤ 1000000) ∧ D.length ≤ 1000000
theorem fin_good (s : By) (L : List (List Int)) (D : List Int) (hb : ∀ r ∈ L, r.length ≤ 1000000) (hD : D.length ≤ 1000000) : Good s (finR s L D) := by
 unfold finR
 by_cases h : lok L D = true ∧ layTx L D = s
 · rw [if_pos h]
   exact .inr ⟨L, D, rfl, h.1, h.2, hb, hD⟩
 · rw [if_neg h]
   exact .inl rfl
theorem raw_l0 (s : By) (ps : List By) (hp : ∀ p ∈ ps, p.length ≤ 900000) (hl : ps.length ≤ 900001) : ∀ (n i : Nat) (L : List (List Int)) (D : List Int), ps.length - i = n → i ≤ ps.length → L.length ≤ i → (∀ r ∈ L, r.length ≤ 1000000) → D.length ≤ 1000000 →
   ∃ r : Res, Ev (fun k => spec_l2RawParseLayout.l0 k (BA s) (ps.map BA) (ps.map BA) ((ps.map BA).length : Int) (i : Int) L D) r ∧ Good s r := by
 intro n
 induction n with
 | zero =>
   intro i L D h1 h2 h3 h4 h5
   have b1 : ¬ (i : Int) < ((ps.map BA).length : Int) := by rw [List.length_map]; omega
   refine ⟨finR s L D, ?_, fin_good s L D h4 h5⟩
   refine Ev.step' ?_; simp only [spec_l2RawParseLayout.l0]
   exact Ev.neg b1 (finS s L D (by omega) h4 h5)
 | succ n ih =>
   intro i L D h1 h2 h3 h4 h5
   have hi : i < ps.length := by omega
   have b1 : (i : Int) < ((ps.map BA).length : Int) := by rw [List.length_map]; omega
   have b2 : (0 : Int) ≤ (i : Int) := by omega
   have b3 : L.length < 5864062014805 := by omega
   have ei : wrap64 ((i : Int) + 1) = ((i + 1 : Nat) : Int) := by rw [wrapS (by omega) (by omega)]; omega
   have a1 : ps.length - (i + 1) = n := by rw [Nat.sub_succ, h1]; rfl
   have b4 : L.length ≤ i + 1 := by omega
   have b5 : L.length + 1 ≤ i + 1 := by omega
   obtain ⟨xs, ok, hr, hxl⟩ := read_any ps[i] (hp _ (List.getElem_mem hi))
   cases ok with
   | false =>
     refine ⟨([], [], false), ?_, .inl rfl⟩
     refine Ev.step' ?_; simp only [spec_l2RawParseLayout.l0]
     refine Ev.pos b1 (Ev.pos b2 (Ev.pos b1 ?_))
     rw [rdB_at hi]
     exact Ev.bind hr (Ev.neg (by simp) (Ev.now _))
   | true =>
     by_cases c : (i : Int) = wrap64 (((ps.map BA).length : Int) - 1)
     · obtain ⟨r, g1, g2⟩ := ih (i + 1) L xs a1 hi b4 h4 hxl
       refine ⟨r, ?_, g2⟩
       refine Ev.step' ?_; simp only [spec_l2RawParseLayout.l0]
       refine Ev.pos b1 (Ev.pos b2 (Ev.pos b1 ?_))
       rw [rdB_at hi, ei]
       exact Ev.bind hr (Ev.pos rfl (Ev.pos c g1))
     · obtain ⟨r, g1, g2⟩ := ih (i + 1) (L ++ [xs]) D a1 hi (by rw [List.length_append, List.length_singleton]; exact b5) (fun r hr => by
         rcases List.mem_append.1 hr with hr | hr
         · exact h4 r hr
         · rw [List.mem_singleton.1 hr]; exact hxl) h5
       refine ⟨r, ?_, g2⟩
       refine Ev.step' ?_; simp only [spec_l2RawParseLayout.l0]
       refine Ev.pos b1 (Ev.pos b2 (Ev.pos b1 ?_))
       rw [rdB_at hi, ei]
       exact Ev.bind hr (Ev.pos rfl (Ev.neg c (Ev.pos b3 g1)))
/-- A valid layout's own text, the reference's side. -/
theorem rawW_l0 (L : List (List Int)) (D : List Int) (hv : lok L D = true) (hb : ∀ r ∈ L, r.length ≤ 40000) (hD : D.length ≤ 40000) : ∀ (n i : Nat), L.length - i = n → i ≤ L.length →
   Ev (fun k => spec_l2RawParseLayout.l0 k (BA (layTx L D)) ((L.map spT ++ [spT D]).map BA) ((L.map spT ++ [spT D]).map BA) (((L.map spT ++ [spT D]).map BA).length : Int) (i : Int) (L.take i) []) (L, D, true) := by
 obtain ⟨o1, o2, o3⟩ := lok_is hv
 have hlen : (L.map spT ++ [spT D]).length = L.length + 1 := by rw [List.length_append, List.length_map]; rfl
 have elast : wrap64 ((((L.map spT ++ [spT D]).map BA).length : Int) - 1) = (L.length : Int) := by rw [List.length_map, hlen, wrapS (by omega) (by omega)]; omega
 intro n
 induction n with
 | zero =>
   intro i h1 h2
   have hi : i = L.length := by omega
   subst hi
   have hil : L.length < (L.map spT ++ [spT D]).length := by rw [hlen]; omega
   have b1 : (L.length : Int) < (((L.map spT ++ [spT D]).map BA).length : Int) := by rw [List.length_map, hlen]; omega
   have b2 : (0 : Int) ≤ (L.length : Int) := by omega
   have ei : wrap64 ((L.length : Int) + 1) = ((L.length + 1 : Nat) : Int) := by rw [wrapS (by omega) (by omega)]; omega
   have b3 : ¬ ((L.length + 1 : Nat) : Int) < (((L.map spT ++ [spT D]).map BA).length : Int) := by rw [List.length_map, hlen]; omega
   have eg : (L.map spT ++ [spT D])[L.length] = spT D := by
     rw [List.getElem_append_right (by rw [List.length_map]; exact Nat.le_refl _)]
     simp
   have hsp := spT_len D (o3.dz (by omega))
   have hr := read_spT D (o3.nn (by omega)) (by omega) (by omega)
   have hf := finS (layTx L D) L D (by omega) (fun r hr => Nat.le_trans (hb r hr) (by omega)) (by omega)
   have ef : finR (layTx L D) L D = (L, D, true) := if_pos ⟨hv, rfl⟩
   rw [ef] at hf
   rw [List.take_length]
   refine Ev.step' ?_; simp only [spec_l2RawParseLayout.l0]
   refine Ev.pos b1 (Ev.pos b2 (Ev.pos b1 ?_))
   rw [rdB_at hil, ei, eg]
   refine Ev.bind hr (Ev.pos rfl (Ev.pos elast.symm ?_))
   refine Ev.step' ?_; simp only [spec_l2RawParseLayout.l0]
   exact Ev.neg b3 hf
 | succ n ih =>
   intro i h1 h2
   have hi : i < L.length := by omega
   have hil : i < (L.map spT ++ [spT D]).length := by rw [hlen]; omega
   have b1 : (i : Int) < (((L.map spT ++ [spT D]).map BA).length : Int) := by rw [List.length_map, hlen]; omega
   have b2 : (0 : Int) ≤ (i : Int) := by omega
   have b3 : (L.take i).length < 5864062014805 := by rw [List.length_take]; omega
   have ei : wrap64 ((i : Int) + 1) = ((i + 1 : Nat) : Int) := by rw [wrapS (by omega) (by omega)]; omega
   have c : ¬ (i : Int) = wrap64 ((((L.map spT ++ [spT D]).map BA).length : Int) - 1) := by rw [elast]; omega
   have a1 : L.length - (i + 1) = n := by rw [Nat.sub_succ, h1]; rfl
   have eg : (L.map spT ++ [spT D])[i] = spT L[i] := by
     rw [List.getElem_append_left (by rw [List.length_map]; exact hi), List.getElem_map]
   have hm := List.getElem_mem hi
   have hbi := hb _ hm
   have hsp := spT_len L[i] ((o2 _ hm).dz (by omega))
   have hr := read_spT L[i] ((o2 _ hm).nn (by omega)) (by omega) (by omega)
   have hnext := ih (i + 1) a1 hi
   rw [List.take_succ_eq_append_getElem hi] at hnext
   refine Ev.step' ?_; simp only [spec_l2RawParseLayout.l0]
   refine Ev.pos b1 (Ev.pos b2 (Ev.pos b1 ?_))
   rw [rdB_at hil, ei, eg]
   exact Ev.bind hr (Ev.pos rfl (Ev.neg c (Ev.pos b3 hnext)))
theorem own_of {s : By} {r : Res} (hr : Ev (fun k => spec_l2RawParseLayout.f k (BA s)) r) (hg : Good s r) : Ev (fun k => spec_ParseLayout.f k (BA s)) r := by
 unfold spec_ParseLayout.f
 rcases hg with rfl | ⟨L, D, rfl, h1, h2, h3, h4⟩
 · exact Ev.bind hr (Ev.bind (ownLay_is [] [] (by simp) (fun r hr => by cases hr) (by simp)) (Ev.now _))
 · obtain ⟨o1, _, _⟩ := lok_is h1
   exact Ev.bind hr (Ev.bind (ownLay_is L D (by omega) h3 h4) (Ev.now _))
theorem parseS_any (s : By) (hs : s.length ≤ 900000) : ∃ r : Res, Ev (fun k => spec_ParseLayout.f k (BA s)) r ∧ Good s r := by
 obtain ⟨r, g1, g2⟩ := raw_l0 s (cutL 124 s) (fun p hp => Nat.le_trans (cutL_mem 124 s p hp).1 hs) (Nat.le_trans (cutL_len 124 s) (by omega)) _ 0 [] [] rfl (Nat.zero_le _) (Nat.le_refl _) (fun r hr => by cases hr) (by simp)
 refine ⟨r, own_of ?_ g2, g2⟩
 unfold spec_l2RawParseLayout.f
 exact Ev.bind (l13Cut_is 124 s (by omega)) g1
theorem parseS_lay (L : List (List Int)) (D : List Int) (hv : lok L D = true) (hb : ∀ r ∈ L, r.length ≤ 40000) (hD : D.length ≤ 40000) (hs : (layTx L D).length ≤ 900000) : Ev (fun k => spec_ParseLayout.f k (BA (layTx L D))) (L, D, true) := by
 have h := rawW_l0 L D hv hb hD _ 0 rfl (Nat.zero_le _)
 have hc := l13Cut_is 124 (layTx L D) (by omega)
 rw [cut_lay] at hc
 refine own_of ?_ (.inr ⟨L, D, rfl, hv, rfl, fun r hr => Nat.le_trans (hb r hr) (by omega), by omega⟩)
 unfold spec_l2RawParseLayout.f
 exact Ev.bind hc h
end Go.Proofs.YtidpankoobdfjaaGreatDoor.L
namespace Go.Proofs.YtidpankoobdfjaaGreatDoor.L
open Go.RowKit Go.Proofs.YtidpankoobdfjaaGreatDoorW.PrintWords Go.Proofs.YtidpankoobdfjaaGreatDoorW.PrintLast Go.Proofs.YtidpankoobdfjaaGreatDoorW.PrintMore Go.Proofs.YtidpankoobdfjaaGreatDoor.Q
set_option linter.unusedSimpArgs false
set_option linter.unusedVariables false

theorem xor_nn (a b : Nat) (ha : a < 4611686018427387904) (hb : b < 4611686018427387904) : 0 ≤ Go.bits .xor .i64 (a : Int) (b : Int) := by
 have hx : a ^^^ b < 2 ^ 62 := Nat.xor_lt_two_pow (by omega) (by omega)
 have e : ((BitVec.ofInt 64 (a : Int)) ^^^ (BitVec.ofInt 64 (b : Int))).toNat = a ^^^ b := by
   rw [BitVec.toNat_xor, BitVec.toNat_ofInt, BitVec.toNat_ofInt]
   have h1 : ((a : Int) % ((2 ^ 64 : Nat) : Int)).toNat = a := by omega
   have h2 : ((b : Int) % ((2 ^ 64 : Nat) : Int)).toNat = b := by omega
   rw [h1, h2]
 show 0 ≤ IntKind.wrap .i64 (((BitVec.ofInt 64 (a : Int)) ^^^ (BitVec.ofInt 64 (b : Int))).toNat : Int)
 rw [e, IntKind.wrap_i64]
 omega
def Bs (l : List Int) : Prop := l.length ≤ 2000 ∧ ∀ x ∈ l, 0 ≤ x ∧ x ≤ 255
theorem rd_in {l : List Int} (h : Bs l) (i : Int) : 0 ≤ rd l i ∧ rd l i ≤ 255 := by
 unfold rd
 rw [List.getD_eq_getElem?_getD]
 cases hg : l[i.toNat]? with
 | none => simp
 | some x => exact h.2 x (List.mem_of_getElem? hg)
theorem tmod_in {a n : Int} (ha : 0 ≤ a) (hn : 1 ≤ n) : 0 ≤ Int.tmod a n ∧ Int.tmod a n < n := by
 rw [Int.tmod_eq_emod_of_nonneg ha]
 exact ⟨Int.emod_nonneg _ (by omega), Int.emod_lt_of_pos _ (by omega)⟩
theorem tdiv_in {a n : Int} (ha : 0 ≤ a) (hn : 1 ≤ n) : 0 ≤ Int.tdiv a n ∧ Int.tdiv a n ≤ a := by
 rw [Int.tdiv_eq_ediv_of_nonneg ha]
 refine ⟨Int.ediv_nonneg ha (by omega), ?_⟩
 exact Int.ediv_le_self _ ha
theorem pick_is {l : List Int} (h : Bs l) (p : Nat) (hp : p ≤ 1000000000000) (n : Int) : ∃ v : Int, Ev (fun k => spec_l13Rd_pick.f k l (p : Int) n) (v, ((p + 1 : Nat) : Int)) ∧ (1 ≤ n → 0 ≤ v ∧ v < n) ∧ (n < 1 → v = 0) := by
 have hpp : wrap64 ((p : Int) + 1) = ((p + 1 : Nat) : Int) := by rw [wrapS (by omega) (by omega)]; omega
 have hj : Ev (fun k => spec_l13Rd_pick.j0 k n true l ((p + 1 : Nat) : Int)) (0, ((p + 1 : Nat) : Int)) := by
   refine Ev.step' ?_; simp only [spec_l13Rd_pick.j0]
   exact Ev.pos (by first | trivial | rfl) (Ev.now _)
 by_cases hn : n < 1
 · refine ⟨0, ?_, by omega, by omega⟩
   unfold spec_l13Rd_pick.f
   refine Ev.pos hn ?_
   rw [hpp]
   exact hj
 · by_cases hl : l.length = 0
   · refine ⟨0, ?_, by omega, by omega⟩
     unfold spec_l13Rd_pick.f
     refine Ev.neg hn ?_
     rw [hpp, hl]
     exact hj
   · have hlen := h.1
     have hm : wrap64 (((p + 1 : Nat) : Int) - 1) = (p : Int) := by rw [wrapS (by omega) (by omega)]; omega
     have hgo : ∀ v, Ev (fun k => spec_l13Rd_pick.j0 k n false l ((p + 1 : Nat) : Int)) (v, ((p + 1 : Nat) : Int)) → Ev (fun k => spec_l13Rd_pick.f k l (p : Int) n) (v, ((p + 1 : Nat) : Int)) := by
       intro v hv
       unfold spec_l13Rd_pick.f
       refine Ev.neg hn ?_
       rw [hpp, show ((l.length : Int) == 0) = false from beq_false_of_ne (by omega)]
       exact hv
     by_cases hlt : p < l.length
     · have hr := rd_in h (p : Int)
       have ht := tmod_in (a := rd l (p : Int)) hr.1 (n := n) (by omega)
       refine ⟨Int.tmod (rd l (p : Int)) n, hgo _ ?_, fun _ => ht, by omega⟩
       refine Ev.step' ?_; simp only [spec_l13Rd_pick.j0]
       refine Ev.neg (by simp) ?_
       simp only [hm]
       refine Ev.pos (by omega) (Ev.pos (by omega) (Ev.neg (by omega) (Ev.val ?_)))
       rw [wrapS (by omega) (by omega)]
     · have hr1 := rd_in h (Int.tmod (p : Int) (l.length : Int))
       have hr2 := rd_in h (Int.tmod (wrap64 (wrap64 ((p : Int) * 7) + 3)) (l.length : Int))
       have ht1 := tmod_in (a := (p : Int)) (by omega) (n := (l.length : Int)) (by omega)
       have e7 : wrap64 (wrap64 ((p : Int) * 7) + 3) = (p : Int) * 7 + 3 := by
         rw [wrapS (a := (p : Int) * 7) (by omega) (by omega), wrapS (by omega) (by omega)]
       have ht2 := tmod_in (a := (p : Int) * 7 + 3) (by omega) (n := (l.length : Int)) (by omega)
       have htd := tdiv_in (a := (p : Int)) (by omega) (n := (l.length : Int)) (by omega)
       rw [e7] at hr2
       generalize hA : rd l (Int.tmod (p : Int) (l.length : Int)) = A at *
       generalize hB : rd l (Int.tmod ((p : Int) * 7 + 3) (l.length : Int)) = B at *
       generalize hD : Int.tdiv (p : Int) (l.length : Int) = D at *
       have eH : wrap64 (wrap64 (wrap64 (wrap64 (wrap64 A * 131) + wrap64 (wrap64 B * 1117)) + wrap64 ((p : Int) * 29)) + wrap64 (wrap64 D * 53)) = A * 131 + B * 1117 + (p : Int) * 29 + D * 53 := by
         rw [wrapS (a := A) (by omega) (by omega), wrapS (a := B) (by omega) (by omega), wrapS (a := D) (by omega) (by omega), wrapS (a := A * 131) (by omega) (by omega), wrapS (a := B * 1117) (by omega) (by omega), wrapS (a := (p : Int) * 29) (by omega) (by omega), wrapS (a := D * 53) (by omega) (by omega), wrapS (a := A * 131 + B * 1117) (by omega) (by omega), wrapS (a := A * 131 + B * 1117 + (p : Int) * 29) (by omega) (by omega), wrapS (by omega) (by omega)]
       obtain ⟨H, hH⟩ : ∃ H : Nat, A * 131 + B * 1117 + (p : Int) * 29 + D * 53 = (H : Int) := ⟨(A * 131 + B * 1117 + (p : Int) * 29 + D * 53).toNat, by omega⟩
       have eT : wrap64 (Int.tdiv (H : Int) 64) = ((H / 64 : Nat) : Int) := by
         rw [Int.tdiv_eq_ediv_of_nonneg (by omega), wrapS (by omega) (by omega)]
         omega
       have hX := xor_nn H (H / 64) (by omega) (by omega)
       have ht3 := tmod_in hX (n := n) (by omega)
       refine ⟨Int.tmod (Go.bits .xor .i64 (H : Int) ((H / 64 : Nat) : Int)) n, hgo _ ?_, fun _ => ht3, by omega⟩
       refine Ev.step' ?_; simp only [spec_l13Rd_pick.j0]
       refine Ev.neg (by simp) ?_
       simp only [hm, e7, hA, hB, hD, eH, hH, eT]
       exact Ev.neg (by omega) (Ev.neg (by omega) (Ev.pos ht1.1 (Ev.pos ht1.2 (Ev.pos ht2.1 (Ev.pos ht2.2 (Ev.neg (by omega) (Ev.val rfl)))))))
end Go.Proofs.YtidpankoobdfjaaGreatDoor.L
namespace Go.Proofs.YtidpankoobdfjaaGreatDoor.L
open Go.RowKit Go.Proofs.YtidpankoobdfjaaGreatDoorW.PrintWords Go.Proofs.YtidpankoobdfjaaGreatDoorW.PrintLast Go.Proofs.YtidpankoobdfjaaGreatDoorW.PrintMore Go.Proofs.YtidpankoobdfjaaGreatDoor.Q
set_option linter.unusedSimpArgs false
set_option linter.unusedVariables false
theorem num_is {l : List Int} (h : Bs l) (p : Nat) (hp : p ≤ 1000000000000) (xs : List Int) (hx : 1 ≤ xs.length) : ∃ v ∈ xs, Ev (fun k => spec_l13Rd_num.f k l (p : Int) xs) (v, ((p + 1 : Nat) : Int)) := by
 obtain ⟨v, h1, h2, _⟩ := pick_is h p hp (xs.length : Int)
 have hv := h2 (by omega)
 obtain ⟨m, rfl⟩ : ∃ m : Nat, v = (m : Int) := ⟨v.toNat, by omega⟩
 have hm : m < xs.length := by omega
 refine ⟨xs[m], List.getElem_mem hm, ?_⟩
 unfold spec_l13Rd_num.f
 refine Ev.bind h1 (Ev.pos hv.1 (Ev.pos hv.2 (Ev.val ?_)))
 have : rd xs (m : Int) = xs[m] := by
   unfold rd
   rw [Int.toNat_natCast, List.getD_eq_getElem?_getD, List.getElem?_eq_getElem hm]
   rfl
 rw [this]
theorem BA_of (b : ByteArray) : ∃ l : By, b = BA l ∧ l.length = b.size := ⟨b.data.toList, (BA_data b).symm, by rw [Array.length_toList]; rfl⟩
theorem open_is (l : List Int) (h : ∀ x ∈ l, (Lit.int .u8 x).wf = true) : ∃ l', spec_l13Open.f l = some (l', 0) ∧ Bs l' := by
 have hb : ∀ x ∈ l, 0 ≤ x ∧ x ≤ 255 := by
   intro x hx
   have := h x hx
   simp [Lit.wf, IntKind.wrap] at this
   have e1 : IntKind.u8.min = 0 := rfl
   have e2 : IntKind.u8.max = 255 := rfl
   omega
 unfold spec_l13Open.f
 by_cases hl : (l.length : Int) > 2000
 · refine ⟨l.take 2000, ?_, ?_, ?_⟩
   · rw [if_pos hl, if_pos (by omega)]
   · rw [List.length_take]; omega
   · exact fun x hx => hb x (List.mem_of_mem_take hx)
 · exact ⟨l, by rw [if_neg hl], by omega, hb⟩
end Go.Proofs.YtidpankoobdfjaaGreatDoor.L
namespace Go.Proofs.YtidpankoobdfjaaGreatDoor.L
open Go.RowKit Go.Proofs.YtidpankoobdfjaaGreatDoorW.PrintWords Go.Proofs.YtidpankoobdfjaaGreatDoorW.PrintLast Go.Proofs.YtidpankoobdfjaaGreatDoorW.PrintMore Go.Proofs.YtidpankoobdfjaaGreatDoor.Q
set_option linter.unusedSimpArgs false
set_option linter.unusedVariables false
def szD : Nat → Nat
 | 0 => 5
 | d + 1 => 2 + 4 * (szD d + 1)
def stD : Nat → Nat
 | 0 => 2
 | d + 1 => 1 + 4 * stD d
/-- The last place that a drawing of this depth may begin at. -/
def capD : Nat → Nat
 | 0 => 99999990000
 | d + 1 => capD d - 1000
theorem cap_ok {d : Nat} (hd : d ≤ 2) : capD (d + 1) + 1 + 4 * stD d ≤ capD d := by
 obtain rfl | rfl | rfl : d = 0 ∨ d = 1 ∨ d = 2 := by omega
 all_goals decide
theorem cap_in {d : Nat} (hd : d ≤ 3) : 99999980000 ≤ capD d ∧ capD d ≤ 99999990000 := by
 obtain rfl | rfl | rfl | rfl : d = 0 ∨ d = 1 ∨ d = 2 ∨ d = 3 := by omega
 all_goals decide
def DrawIs (d : Nat) : Prop := ∀ (l : List Int) (p : Nat), Bs l → p ≤ capD d → ∃ (t : ByteArray) (q : Nat), Ev (fun k => spec_l1Draw.f k l (p : Int) (d : Int)) (t, (q : Int)) ∧ 1 ≤ t.size ∧ t.size ≤ szD d ∧ p ≤ q ∧ q ≤ p + stD d
theorem szD_le {d : Nat} (hd : d ≤ 3) : szD d ≤ 1500 ∧ stD d ≤ 150 := by
 obtain rfl | rfl | rfl | rfl : d = 0 ∨ d = 1 ∨ d = 2 ∨ d = 3 := by omega
 all_goals decide
theorem size_append (a b : ByteArray) : (a ++ b).size = a.size + b.size := by
 obtain ⟨x, rfl, h1⟩ := BA_of a
 obtain ⟨y, rfl, h2⟩ := BA_of b
 rw [BA_append, BA_size, BA_size, BA_size, List.length_append]
theorem size_one (c : UInt8) : (⟨#[c]⟩ : ByteArray).size = 1 := rfl
theorem mul_in {i Z : Nat} (hi : i ≤ 4) (hZ : Z ≤ 1500) : i * (Z + 1) ≤ 6004 := Nat.le_trans (Nat.mul_le_mul hi (Nat.add_le_add_right hZ 1)) (by decide)
theorem draw_l0 (d : Nat) (hd : d ≤ 2) (Z T C : Nat) (hC : C ≤ 99999990000) (hZ : Z ≤ 1500) (hT : T ≤ 150) (l : List Int) (hl : Bs l)
   (ih : ∀ (p : Nat), p ≤ C → ∃ (t : ByteArray) (q : Nat), Ev (fun k => spec_l1Draw.f k l (p : Int) (d : Int)) (t, (q : Int)) ∧ 1 ≤ t.size ∧ t.size ≤ Z ∧ p ≤ q ∧ q ≤ p + T) (m : Nat) (hm : m ≤ 4) (M : Nat) (hM : ∀ i, i = m → 2 + i * (Z + 1) ≤ M) :
   ∀ (n i : Nat) (x : ByteArray) (p : Nat), i + n = m → 1 ≤ x.size → x.size ≤ 1 + i * (Z + 1) → p + n * T ≤ C →
   ∃ (t : ByteArray) (q : Nat), Ev (fun k => spec_l1Draw.l0 k ((d + 1 : Nat) : Int) x (m : Int) (i : Int) l (p : Int)) (t, (q : Int)) ∧ 1 ≤ t.size ∧ t.size ≤ M ∧ p ≤ q ∧ q ≤ p + n * T := by
 have ed : wrap64 (((d + 1 : Nat) : Int) - 1) = (d : Int) := by rw [wrapS (by omega) (by omega)]; omega
 intro n
 induction n with
 | zero =>
   intro i x p h hx1 hx hp
   have him : i = m := by omega
   have hM1 := hM i him
   have hmul := mul_in (i := i) (by omega) hZ
   obtain ⟨A, hA⟩ : ∃ A, A = i * (Z + 1) := ⟨_, rfl⟩
   rw [← hA] at hmul hx hM1
   clear hA
   obtain ⟨y, hy⟩ : ∃ y, y = x ++ (⟨#[93]⟩ : ByteArray) := ⟨_, rfl⟩
   have hb : y.size = x.size + 1 := by rw [hy, size_append, size_one]
   refine ⟨y, p, ?_, by omega, by omega, Nat.le_refl _, Nat.le_add_right _ _⟩
   rw [hy]
   refine Ev.step' ?_; simp only [spec_l1Draw.l0]
   exact Ev.neg (by omega) (Ev.pos (by omega) (Ev.val rfl))
 | succ n ihn =>
   intro i x p h hx1 hx hp
   have him : i < m := by omega
   have him2 : i + 1 + n = m := by omega
   have hmul := mul_in (i := i) (by omega) hZ
   have hsz : (i + 1) * (Z + 1) = i * (Z + 1) + (Z + 1) := by rw [Nat.add_mul, Nat.one_mul]
   have hst : (n + 1) * T = n * T + T := by rw [Nat.add_mul, Nat.one_mul]
   obtain ⟨t, q, h1, h2, h3, h4, h5⟩ := ih p (Nat.le_trans (Nat.le_add_right _ _) hp)
   have ihn' := fun y => ihn (i + 1) y q him2
   rw [hsz] at ihn'
   rw [hst] at hp ⊢
   obtain ⟨A, hA⟩ : ∃ A, A = i * (Z + 1) := ⟨_, rfl⟩
   obtain ⟨B, hB⟩ : ∃ B, B = n * T := ⟨_, rfl⟩
   rw [← hA] at hmul hx ihn'
   rw [← hB] at ihn' hp ⊢
   clear hA hB hst hsz
   have ei : wrap64 ((i : Int) + 1) = ((i + 1 : Nat) : Int) := by rw [wrapS (by omega) (by omega)]; omega
   rcases Nat.eq_zero_or_pos i with hi0 | h0
   · obtain ⟨y, hy⟩ : ∃ y, y = x ++ t := ⟨_, rfl⟩
     have hb : y.size = x.size + t.size := by rw [hy]; exact size_append _ _
     obtain ⟨t', q', g1, g2, g3, g4, g5⟩ := ihn' y (by omega) (by omega) (by omega)
     rw [hy] at g1
     refine ⟨t', q', ?_, g2, g3, by omega, by omega⟩
     refine Ev.step' ?_; simp only [spec_l1Draw.l0]
     have hn0 : ¬ (i : Int) > 0 := by rw [hi0]; exact Int.lt_irrefl 0
     have hs1 : x.size + t.size ≤ 9223372036854775807 := by clear g1 h1 g3 g5 h5 hp hy; omega
     refine Ev.pos (Int.ofNat_lt.2 him) (Ev.neg hn0 ?_)
     rw [ed, ei]
     exact Ev.bind h1 (Ev.pos hs1 g1)
   · obtain ⟨y, hy⟩ : ∃ y, y = (x ++ (⟨#[44]⟩ : ByteArray)) ++ t := ⟨_, rfl⟩
     have hb : y.size = x.size + 1 + t.size := by rw [hy, size_append, size_append, size_one]
     obtain ⟨t', q', g1, g2, g3, g4, g5⟩ := ihn' y (by omega) (by omega) (by omega)
     rw [hy] at g1
     refine ⟨t', q', ?_, g2, g3, by omega, by omega⟩
     refine Ev.step' ?_; simp only [spec_l1Draw.l0]
     have hp0 : (i : Int) > 0 := Int.ofNat_lt.2 h0
     have hs0 : x.size + 1 ≤ 9223372036854775807 := by clear g1 h1 g3 g5 h5 hp hy; omega
     have hs1 : x.size + 1 + t.size ≤ 9223372036854775807 := by clear g1 h1 g3 g5 h5 hp hy; omega
     refine Ev.pos (Int.ofNat_lt.2 him) (Ev.pos hp0 (Ev.pos hs0 ?_))
     rw [ed, ei]
     exact Ev.bind h1 (Ev.pos hs1 g1)
theorem draw_is : ∀ d, d ≤ 3 → DrawIs d
 | 0, _ => by
   intro l p hl hp0
   have hp : p ≤ 99999990000 := hp0
   obtain ⟨v, h1, h2, _⟩ := pick_is hl p (by omega) 9
   obtain ⟨w, hw, h3⟩ := num_is hl (p + 1) (by omega) [1, 0, 2, 3, v, 5, 10006, 100] (by simp)
   have hv := h2 (by omega)
   have hw2 : 0 ≤ w ∧ w ≤ 10006 := by simp at hw; omega
   obtain ⟨m, rfl⟩ : ∃ m : Nat, w = (m : Int) := ⟨w.toNat, by omega⟩
   have hlen := dec_len 5 m (by omega) (by omega)
   have hpos := List.length_pos_iff.2 (dec_ne m)
   refine ⟨BA (Lib.decDigits m), p + 1 + 1, ?_, by rw [BA_size]; omega, by rw [BA_size]; show _ ≤ 5; omega, by omega, by show _ ≤ p + 2; omega⟩
   refine Ev.step' ?_; simp only [spec_l1Draw.f]
   exact Ev.pos (by first | trivial | rfl) (Ev.bind h1 (Ev.bind h3 (Ev.bind (l13Dec_is m (by omega)) (Ev.val rfl))))
 | d + 1, hd => by
   have ih := draw_is d (by omega)
   intro l p hl hp
   have hz := szD_le (d := d) (by omega)
   have hc1 := cap_ok (d := d) (by omega)
   have hc2 := cap_in (d := d) (by omega)
   obtain ⟨v, hv, h1⟩ := num_is hl p (by omega) [2, 0, 1, 3, 4] (by simp)
   have hv2 : 0 ≤ v ∧ v ≤ 4 := by simp at hv; omega
   obtain ⟨m, rfl⟩ : ∃ m : Nat, v = (m : Int) := ⟨v.toNat, by omega⟩
   have hm0 : m * stD d ≤ 4 * stD d := Nat.mul_le_mul_right _ (by omega)
   have hcap : p + 1 + m * stD d ≤ capD d := by omega
   obtain ⟨t, q, g1, g2, g3, g4, g5⟩ := draw_l0 d (by omega) (szD d) (stD d) (capD d) (cap_in (by omega)).2 hz.1 hz.2 l hl (fun p hp => ih l p hl hp) m (by omega) (2 + m * (szD d + 1)) (fun i hi => by rw [hi]; exact Nat.le_refl _) m 0 (⟨#[91]⟩ : ByteArray) (p + 1) (by omega) (Nat.le_refl 1) (Nat.le_add_right 1 _) hcap
   have hm1 : m * (szD d + 1) ≤ 4 * (szD d + 1) := Nat.mul_le_mul_right _ (by omega)
   have hm2 : m * stD d ≤ 4 * stD d := Nat.mul_le_mul_right _ (by omega)
   refine ⟨t, q, ?_, g2, by show _ ≤ 2 + 4 * (szD d + 1); omega, by omega, by show _ ≤ p + (1 + 4 * stD d); omega⟩
   refine Ev.step' ?_; simp only [spec_l1Draw.f]
   exact Ev.neg (by omega) (Ev.bind h1 g1)
end Go.Proofs.YtidpankoobdfjaaGreatDoor.L
namespace Go.Proofs.YtidpankoobdfjaaGreatDoor.L
open Go.RowKit Go.Proofs.YtidpankoobdfjaaGreatDoorW.PrintWords Go.Proofs.YtidpankoobdfjaaGreatDoorW.PrintLast Go.Proofs.YtidpankoobdfjaaGreatDoorW.PrintMore Go.Proofs.YtidpankoobdfjaaGreatDoor.Q
set_option linter.unusedSimpArgs false
set_option linter.unusedVariables false
theorem of_is {l : List Int} (h : Bs l) (p : Nat) (hp : p ≤ 1000000000000) (xs : List ByteArray) (hx : 1 ≤ xs.length) : ∃ v ∈ xs, Ev (fun k => spec_l13Rd_of.f k l (p : Int) xs) (v, ((p + 1 : Nat) : Int)) := by
 obtain ⟨v, h1, h2, _⟩ := pick_is h p hp (xs.length : Int)
 have hv := h2 (by omega)
 obtain ⟨m, rfl⟩ : ∃ m : Nat, v = (m : Int) := ⟨v.toNat, by omega⟩
 have hm : m < xs.length := by omega
 refine ⟨xs[m], List.getElem_mem hm, ?_⟩
 unfold spec_l13Rd_of.f
 refine Ev.bind h1 (Ev.pos hv.1 (Ev.pos hv.2 (Ev.val ?_)))
 have : rdOf ByteArray.empty xs (m : Int) = xs[m] := by
   unfold rdOf
   rw [Int.toNat_natCast, List.getD_eq_getElem?_getD, List.getElem?_eq_getElem hm]
   rfl
 rw [this]
end Go.Proofs.YtidpankoobdfjaaGreatDoor.L
namespace Go.Proofs.YtidpankoobdfjaaGreatDoor.L
open Go.RowKit Go.Proofs.YtidpankoobdfjaaGreatDoorW.PrintWords Go.Proofs.YtidpankoobdfjaaGreatDoorW.PrintLast Go.Proofs.YtidpankoobdfjaaGreatDoorW.PrintMore Go.Proofs.YtidpankoobdfjaaGreatDoor.Q
set_option linter.unusedSimpArgs false
set_option linter.unusedVariables false

def LayS (d : Nat) : Prop := ∀ (t : Tr) (j : Nat) (L : List (List Int)) (D : List Int) (B : Nat), L.length = j + d → j + d ≤ 10 → Bd B (L, D) → B + nodes d t ≤ 1000000000 → Ev (fun k => put.f k L D (cS d t).f0 (cS d t).f1 (j : Int)) (layT d t j (L, D))
theorem layS_l0 (d : Nat) (ih : LayS d) (j : Nat) (hj : j + 1 + d ≤ 10) (xs : List Tr) (hxs : xs.length ≤ 1000000000) : ∀ (n i : Nat) (L : List (List Int)) (D : List Int) (B : Nat), xs.length - i = n → i ≤ xs.length → L.length = j + 1 + d → Bd B (L, D) → B + ((xs.drop i).map (nodes d)).sum ≤ 1000000000 →
   Ev (fun k => put.l0 k L D (xs.map (cS d)) (j : Int) ((xs.map (cS d)).length : Int) (i : Int)) ((xs.drop i).foldl (fun s x => layT d x (j + 1) s) (L, D)) := by
 intro n
 induction n with
 | zero =>
   intro i L D B h hi hL hb hn
   refine Ev.step' ?_; simp only [put.l0]
   refine Ev.neg (by rw [List.length_map]; omega) (Ev.val ?_)
   rw [List.drop_eq_nil_of_le (by omega)]
   rfl
 | succ n ihn =>
   intro i L D B h hi hL hb hn
   have hlt : i < xs.length := by omega
   have hg : rd_T79 (xs.map (cS d)) (i : Int) = cS d xs[i] := getD_map _ _ _ _ hlt
   rw [List.drop_eq_getElem_cons hlt] at hn ⊢
   rw [List.map_cons, List.sum_cons] at hn
   have hx := ih xs[i] (j + 1) L D B hL hj hb (by omega)
   obtain ⟨b1, b2⟩ := layT_bd d xs[i] (j + 1) (L, D) B hb
   have hnext := ihn (i + 1) (layT d xs[i] (j + 1) (L, D)).1 (layT d xs[i] (j + 1) (L, D)).2 _ (by omega) (by omega) (b1.trans hL) b2 (by omega)
   refine Ev.step' ?_; simp only [put.l0]
   refine Ev.pos (by rw [List.length_map]; omega) (Ev.pos (by omega) (Ev.pos (by rw [List.length_map]; omega) ?_))
   rw [hg, wrapS (a := (j : Int) + 1) (by omega) (by omega), wrapS (a := (i : Int) + 1) (by omega) (by omega)]
   exact Ev.bind hx hnext
theorem layS_is : ∀ d, LayS d
 | 0 => by
   intro t j L D B hL hj hb hn
   have h1 : D.length ≤ B := hb.1
   have h2 : B + 1 ≤ 1000000000 := hn
   refine Ev.step' ?_; simp only [put.f]
   exact Ev.pos (by omega) (Ev.pos (by omega) (Ev.val rfl))
 | d + 1 => by
   intro t j L D B hL hj hb hn
   have hp := parts_len d t
   have hn2 : B + (1 + (t.parts.map (nodes d)).sum) ≤ 1000000000 := hn
   have hgl : (L.getD j []).length ≤ B := getD_bd hb.2 j
   have h0 := layS_l0 d (layS_is d) j (by omega) t.parts (by omega) _ 0 (L.set j (L.getD j [] ++ [(t.parts.length : Int)])) D (B + 1) rfl (Nat.zero_le _) (by rw [List.length_set]; omega) (set_bd hb j _) (by rw [List.drop_zero]; omega)
   rw [List.drop_zero] at h0
   refine Ev.step' ?_; simp only [put.f]
   refine Ev.neg (by omega) (Ev.pos (by omega) (Ev.pos (by omega) ?_))
   rw [Int.toNat_natCast]
   refine Ev.pos (by omega) ?_
   have e : ((cS (d + 1) t).f1.length : Int) = (t.parts.length : Int) := by
     show ((t.parts.map (cS d)).length : Int) = _
     rw [List.length_map]
   rw [e]
   rw [List.length_map] at h0
   exact h0
/-- What the layout of a text is. -/
theorem rawLay_is (d : Nat) (hd : d ≤ 3) (l : By) : Ev (fun k => spec_l2RawLayOut.f k (BA l) (d : Int)) (layR d (readD d l)) := by
 have h1 := l1Read_is d hd l
 unfold spec_l2RawLayOut.f
 cases hr : readD d l with
 | none =>
   rw [hr] at h1
   exact Ev.bind h1 (Ev.neg (by simp [resS]) (Ev.now _))
 | some v =>
   rw [hr] at h1
   obtain ⟨e1, e2, e3⟩ := readD_ok hr
   have hn := nodes_le_text d v
   rw [← e1] at hn
   have h := layS_is d v 0 (List.replicate d []) [] 0 (by rw [List.length_replicate]; omega) (by omega) (rep_bd d) (by omega)
   refine Ev.bind h1 (Ev.pos rfl (Ev.pos (by omega) (Ev.pos (by omega) ?_)))
   rw [Int.toNat_natCast]
   exact Ev.bind h (Ev.now _)
theorem rawLay_out (dp : Int) (h : dp < 0 ∨ 3 < dp) (s : ByteArray) : Ev (fun k => spec_l2RawLayOut.f k s dp) ([], [], false) := by
 unfold spec_l2RawLayOut.f
 exact Ev.bind (l1Read_out dp h s) (Ev.neg (by simp) (Ev.now _))
theorem layS2_is (d : Nat) (hd : d ≤ 3) (l : By) : Ev (fun k => spec_LayOut.f k (BA l) (d : Int)) (layR d (readD d l)) := by
 obtain ⟨b1, b2, b3⟩ := layR_bd d hd l
 unfold spec_LayOut.f
 exact Ev.bind (rawLay_is d hd l) (Ev.bind (ownLay_is _ _ (by omega) (fun r hr => Nat.le_trans (b2 r hr) (by omega)) (by omega)) (Ev.now _))
theorem layS2_out (dp : Int) (h : dp < 0 ∨ 3 < dp) (s : ByteArray) : Ev (fun k => spec_LayOut.f k s dp) ([], [], false) := by
 unfold spec_LayOut.f
 exact Ev.bind (rawLay_out dp h s) (Ev.bind (ownLay_is [] [] (by simp) (fun r hr => by cases hr) (by simp)) (Ev.now _))
end Go.Proofs.YtidpankoobdfjaaGreatDoor.L
namespace Go.Proofs.YtidpankoobdfjaaGreatDoor.L
open Go.RowKit Go.Proofs.YtidpankoobdfjaaGreatDoorW.PrintWords Go.Proofs.YtidpankoobdfjaaGreatDoorW.PrintLast Go.Proofs.YtidpankoobdfjaaGreatDoorW.PrintMore Go.Proofs.YtidpankoobdfjaaGreatDoor.Q
set_option linter.unusedSimpArgs false
set_option linter.unusedVariables false

def plen (t : Tr) : Nat := t.parts.length
def prts (ts : List Tr) : List Tr := (ts.map Tr.parts).flatten
def lvl : Nat → List Tr → List (List Nat)
 | 0, _ => []
 | d + 1, ts => ts.map plen :: lvl d (prts ts)
def gen : Nat → List Tr → List Tr
 | 0, ts => ts
 | i + 1, ts => gen i (prts ts)
def datN (d : Nat) (ts : List Tr) : List Nat := (gen d ts).map Tr.n
theorem prts_app (a b : List Tr) : prts (a ++ b) = prts a ++ prts b := by simp [prts]
theorem prts_one (t : Tr) : prts [t] = t.parts := by simp [prts]
theorem gen_app : ∀ (i : Nat) (a b : List Tr), gen i (a ++ b) = gen i a ++ gen i b
 | 0, a, b => rfl
 | i + 1, a, b => by show gen i (prts (a ++ b)) = _; rw [prts_app, gen_app i]; rfl
theorem gen_succ : ∀ (i : Nat) (ts : List Tr), gen (i + 1) ts = prts (gen i ts)
 | 0, ts => rfl
 | i + 1, ts => by show gen (i + 1) (prts ts) = _; rw [gen_succ i]; rfl
theorem lvl_len : ∀ (d : Nat) (ts : List Tr), (lvl d ts).length = d
 | 0, _ => rfl
 | d + 1, ts => by show (lvl d (prts ts)).length + 1 = _; rw [lvl_len d]
theorem lvl_get : ∀ (d i : Nat) (ts : List Tr), i < d → (lvl d ts)[i]? = some ((gen i ts).map plen)
 | 0, i, ts, h => absurd h (Nat.not_lt_zero _)
 | d + 1, 0, ts, _ => rfl
 | d + 1, i + 1, ts, h => by
   show (lvl d (prts ts))[i]? = some ((gen i (prts ts)).map plen)
   exact lvl_get d i _ (by omega)
abbrev zap (A B : List (List Int)) : List (List Int) := List.zipWith (· ++ ·) A B
theorem zap_nil : ∀ (A : List (List Int)), zap A (List.replicate A.length []) = A
 | [] => rfl
 | x :: A => by
   show (x ++ []) :: zap A (List.replicate A.length []) = _
   rw [zap_nil A, List.append_nil]
theorem nil_zap : ∀ (A : List (List Int)), zap (List.replicate A.length []) A = A
 | [] => rfl
 | x :: A => by
   show ([] ++ x) :: zap (List.replicate A.length []) A = _
   rw [nil_zap A, List.nil_append]
theorem zap_assoc : ∀ (A B C : List (List Int)), zap (zap A B) C = zap A (zap B C)
 | [], _, _ => by simp [zap]
 | _ :: _, [], _ => by simp [zap]
 | _ :: _, _ :: _, [] => by simp [zap]
 | a :: A, b :: B, c :: C => by
   show (a ++ b ++ c) :: zap (zap A B) C = (a ++ (b ++ c)) :: zap A (zap B C)
   rw [zap_assoc A B C, List.append_assoc]
theorem lvl_app : ∀ (d : Nat) (a b : List Tr), (lvl d (a ++ b)).map ints = zap ((lvl d a).map ints) ((lvl d b).map ints)
 | 0, _, _ => rfl
 | d + 1, a, b => by
   show ints ((a ++ b).map plen) :: (lvl d (prts (a ++ b))).map ints = (ints (a.map plen) ++ ints (b.map plen)) :: zap ((lvl d (prts a)).map ints) ((lvl d (prts b)).map ints)
   rw [prts_app, lvl_app d, List.map_append]
   simp
theorem lvl_none : ∀ (d : Nat), lvl d [] = List.replicate d []
 | 0 => rfl
 | d + 1 => by show [] :: lvl d [] = _; rw [lvl_none d]; rfl
theorem zap_len (A B : List (List Int)) (h : A.length = B.length) : (zap A B).length = A.length := by simp [zap, h]
def LayL (d : Nat) : Prop := ∀ (ts : List Tr) (j : Nat) (S : List (List Int)) (D : List Int), S.length = j + d → ts.foldl (fun s x => layT d x j s) (S, D) = (S.take j ++ zap (S.drop j) ((lvl d ts).map ints), D ++ ints (datN d ts))
theorem layL_of {d : Nat} (h1 : ∀ (t : Tr) (j : Nat) (S : List (List Int)) (D : List Int), S.length = j + d → layT d t j (S, D) = (S.take j ++ zap (S.drop j) ((lvl d [t]).map ints), D ++ ints (datN d [t]))) : LayL d := by
 intro ts
 induction ts with
 | nil =>
   intro j S D hS
   have hd : (S.drop j).length = d := by rw [List.length_drop]; omega
   show (S, D) = _
   rw [lvl_none, List.map_replicate]
   have : zap (S.drop j) (List.replicate d (ints [])) = S.drop j := by
     have := zap_nil (S.drop j)
     rw [hd] at this
     exact this
   rw [this, List.take_append_drop]
   have h0 : datN d [] = [] := by
     unfold datN
     have : gen d [] = [] := by
       clear h1 hS hd this
       induction d with
       | zero => rfl
       | succ d ih => exact ih
     rw [this]; rfl
   rw [h0]
   simp
 | cons t ts ih =>
   intro j S D hS
   have hd : (S.drop j).length = d := by rw [List.length_drop]; omega
   have hz : (zap (S.drop j) ((lvl d [t]).map ints)).length = d := by rw [zap_len _ _ (by rw [hd, List.length_map, lvl_len]), hd]
   have htk : (S.take j).length = j := by rw [List.length_take]; omega
   show ts.foldl _ (layT d t j (S, D)) = _
   rw [h1 t j S D hS, ih j _ _ (by rw [List.length_append, htk, hz])]
   rw [List.take_left' htk, List.drop_left' htk, zap_assoc]
   have e : t :: ts = [t] ++ ts := rfl
   rw [e, lvl_app]
   unfold datN
   rw [gen_app, List.map_append, List.append_assoc]
   simp
theorem layT_one : ∀ (d : Nat) (t : Tr) (j : Nat) (S : List (List Int)) (D : List Int), S.length = j + d → layT d t j (S, D) = (S.take j ++ zap (S.drop j) ((lvl d [t]).map ints), D ++ ints (datN d [t]))
 | 0, t, j, S, D, hS => by
   show (S, D ++ [(t.n : Int)]) = _
   rw [List.take_of_length_le (by omega), List.drop_eq_nil_of_le (by omega)]
   simp [zap, lvl, datN, gen]
 | d + 1, t, j, S, D, hS => by
   have hL := layL_of (layT_one d)
   have hj : j < S.length := by omega
   have hgd : S.getD j [] = S[j] := by rw [List.getD_eq_getElem?_getD, List.getElem?_eq_getElem hj]; rfl
   show t.parts.foldl (fun s x => layT d x (j + 1) s) (S.set j (S.getD j [] ++ [(t.parts.length : Int)]), D) = _
   rw [hL t.parts (j + 1) _ D (by rw [List.length_set]; omega), hgd]
   have e1 : (S.set j (S[j] ++ [(t.parts.length : Int)])).take (j + 1) = S.take j ++ [S[j] ++ [(t.parts.length : Int)]] := by
     rw [take_snoc _ _ (by rw [List.length_set]; exact hj), List.take_set, List.getElem_set_self, List.set_eq_of_length_le (by rw [List.length_take]; omega)]
   have e2 : (S.set j (S[j] ++ [(t.parts.length : Int)])).drop (j + 1) = S.drop (j + 1) := by
     rw [List.drop_set_of_lt (by omega)]
   have e3 : S.drop j = S[j] :: S.drop (j + 1) := List.drop_eq_getElem_cons hj
   rw [e1, e2, e3, List.append_assoc]
   have e4 : (lvl (d + 1) [t]).map ints = [(t.parts.length : Int)] :: (lvl d t.parts).map ints := by
     show ints [plen t] :: (lvl d (prts [t])).map ints = _
     rw [prts_one]
     rfl
   have e5 : datN (d + 1) [t] = datN d t.parts := by
     show (gen d (prts [t])).map Tr.n = _
     rw [prts_one]
     rfl
   rw [e4, e5]
   rfl
/-- The layout of one array, by its levels. -/
theorem layT_lvl (d : Nat) (v : Tr) : layT d v 0 (List.replicate d [], []) = ((lvl d [v]).map ints, ints (datN d [v])) := by
 rw [layT_one d v 0 _ _ (by rw [List.length_replicate]; omega)]
 rw [List.take_zero, List.drop_zero, List.nil_append, List.nil_append]
 have := nil_zap ((lvl d [v]).map ints)
 rw [List.length_map, lvl_len] at this
 rw [this]
theorem datN_nums : ∀ (d : Nat) (ts : List Tr), datN d ts = (ts.map (Q.nums d)).flatten
 | 0, ts => by
   show ts.map Tr.n = _
   induction ts with
   | nil => rfl
   | cons t ts ih => rw [List.map_cons, List.map_cons, List.flatten_cons, ← ih]; rfl
 | d + 1, ts => by
   have h := datN_nums d (prts ts)
   show datN d (prts ts) = _
   rw [h]
   induction ts with
   | nil => rfl
   | cons t ts ih =>
     have e : prts (t :: ts) = t.parts ++ prts ts := by simp [prts]
     rw [e, List.map_append, List.flatten_append, ih (datN_nums d _)]
     rfl
theorem prts_nodes (e : Nat) : ∀ ts : List Tr, ((prts ts).map (nodes e)).sum ≤ (ts.map (nodes (e + 1))).sum
 | [] => Nat.le_refl _
 | t :: ts => by
   have h := prts_nodes e ts
   have e1 : prts (t :: ts) = t.parts ++ prts ts := by simp [prts]
   rw [e1, List.map_append, List.sum_append, List.map_cons, List.sum_cons]
   show _ ≤ 1 + (t.parts.map (nodes e)).sum + _
   omega
theorem gen_nodes : ∀ (i e : Nat) (ts : List Tr), ((gen i ts).map (nodes e)).sum ≤ (ts.map (nodes (e + i))).sum
 | 0, e, ts => Nat.le_refl _
 | i + 1, e, ts => by
   have h1 := gen_nodes i e (prts ts)
   have h2 := prts_nodes (e + i) ts
   show ((gen i (prts ts)).map (nodes e)).sum ≤ _
   exact Nat.le_trans h1 h2
theorem gen_ok : ∀ (i e : Nat) (ts : List Tr), (∀ t ∈ ts, Ok (e + i) t) → ∀ t ∈ gen i ts, Ok e t
 | 0, e, ts, h => h
 | i + 1, e, ts, h => gen_ok i e (prts ts) (fun t ht => by
   obtain ⟨l, hl, htl⟩ := List.mem_flatten.1 ht
   obtain ⟨u, hu, rfl⟩ := List.mem_map.1 hl
   exact (h u hu).2 t htl)
theorem sum_cnt (f : Tr → Nat) (hf : ∀ t, 1 ≤ f t) : ∀ (ts : List Tr), ts.length ≤ (ts.map f).sum
 | [] => Nat.le_refl _
 | u :: ts => by
   have := sum_cnt f hf ts
   have := hf u
   rw [List.map_cons, List.sum_cons, List.length_cons]
   omega
theorem prts_cnt : ∀ (ts : List Tr), (prts ts).length = (ts.map plen).sum
 | [] => rfl
 | t :: ts => by
   have e1 : prts (t :: ts) = t.parts ++ prts ts := by simp [prts]
   rw [e1, List.length_append, prts_cnt ts, List.map_cons, List.sum_cons]
   rfl
section
variable {d N : Nat} {v : Tr} (hd : d ≤ 3) (hv : Ok d v) (hn : nodes d v ≤ N)
include hd hv hn
theorem gen_small {i : Nat} (hi : i ≤ d) : (gen i [v]).length ≤ N ∧ ∀ t ∈ gen i [v], Ok (d - i) t ∧ plen t ≤ N := by
 obtain ⟨e, rfl⟩ : ∃ e, d = e + i := ⟨d - i, by omega⟩
 have h1 := gen_nodes i e [v]
 rw [List.map_singleton, List.sum_singleton] at h1
 have h2 := sum_cnt (nodes e) (nodes_pos e) (gen i [v])
 refine ⟨by omega, fun t ht => ⟨?_, ?_⟩⟩
 · rw [Nat.add_sub_cancel]
   exact gen_ok i e [v] (fun u hu => by rw [List.mem_singleton.1 hu]; exact hv) t ht
 · have h3 := sum_mem (nodes e) _ t ht
   cases e with
   | zero =>
     have := gen_ok i 0 [v] (fun u hu => by rw [List.mem_singleton.1 hu]; exact hv) t ht
     show t.parts.length ≤ N
     rw [this.2]
     exact Nat.zero_le _
   | succ e =>
     have := parts_len e t
     show t.parts.length ≤ N
     omega
end
end Go.Proofs.YtidpankoobdfjaaGreatDoor.L
namespace Go.Proofs.YtidpankoobdfjaaGreatDoor.L
open Go.RowKit Go.Proofs.YtidpankoobdfjaaGreatDoorW.PrintWords Go.Proofs.YtidpankoobdfjaaGreatDoorW.PrintLast Go.Proofs.YtidpankoobdfjaaGreatDoorW.PrintMore Go.Proofs.YtidpankoobdfjaaGreatDoor.Q
set_option linter.unusedSimpArgs false
set_option linter.unusedVariables false

/-- The bounds of a drawn layout. -/
def LB (a b : Nat) (L : List (List Int)) (D : List Int) : Prop := L.length ≤ a ∧ (∀ r ∈ L, r.length ≤ 400 ∧ ∀ z ∈ r, Dz z) ∧ D.length ≤ b ∧ ∀ z ∈ D, Dz z
theorem layR_lb (d : Nat) (hd : d ≤ 3) (l : By) : LB 3 400 (layR d (readD d l)).1 (layR d (readD d l)).2.1 := by
 obtain ⟨b1, b2, b3⟩ := layR_bd d hd l
 refine ⟨b1, fun r hr => ⟨b2 r hr, ?_⟩, b3, ?_⟩
 · cases hq : readD d l with
   | none => rw [hq] at hr; cases hr
   | some v =>
     rw [hq] at hr
     obtain ⟨e1, e2, e3⟩ := readD_ok hq
     have hn := nodes_le_text d v
     rw [← e1] at hn
     have hr2 : r ∈ (layT d v 0 (List.replicate d [], [])).1 := hr
     rw [layT_lvl] at hr2
     obtain ⟨s, hs, rfl⟩ := List.mem_map.1 hr2
     obtain ⟨i, hi, rfl⟩ := List.mem_iff_getElem.1 hs
     have hid : i < d := by rw [lvl_len] at hi; exact hi
     have e := lvl_get d i [v] hid
     rw [List.getElem?_eq_getElem hi] at e
     have e4 := Option.some.inj e
     obtain ⟨g1, g2⟩ := gen_small hd e2 (Nat.le_trans hn e3) (i := i) (by omega)
     rw [e4]
     intro z hz
     obtain ⟨n, hn', rfl⟩ := List.mem_map.1 hz
     obtain ⟨t, ht, rfl⟩ := List.mem_map.1 hn'
     have := (g2 t ht).2
     unfold Dz
     omega
 · cases hq : readD d l with
   | none => intro z hz; cases hz
   | some v =>
     obtain ⟨e1, e2, e3⟩ := readD_ok hq
     have hn := nodes_le_text d v
     rw [← e1] at hn
     intro z hz
     have hz2 : z ∈ (layT d v 0 (List.replicate d [], [])).2 := hz
     rw [layT_lvl] at hz2
     obtain ⟨n, hn', rfl⟩ := List.mem_map.1 hz2
     obtain ⟨t, ht, rfl⟩ := List.mem_map.1 hn'
     obtain ⟨g1, g2⟩ := gen_small hd e2 (Nat.le_trans hn e3) (i := d) (Nat.le_refl _)
     have h1 := (g2 t ht).1
     rw [Nat.sub_self] at h1
     have := h1.1
     unfold Dz
     omega
theorem l2DrawZ {l : List Int} (hl : Bs l) (p : Nat) (hp : p ≤ 10000000000) : ∃ (L : List (List Int)) (D : List Int) (q : Nat), Ev (fun k => spec_l2Draw.f k l (p : Int)) (L, D, (q : Int)) ∧ LB 3 400 L D ∧ p ≤ q ∧ q ≤ p + 400 := by
 obtain ⟨v, hv, h1⟩ := num_is hl p (by omega) [2, 1, 3, 0, 2] (by simp)
 have hv2 : 0 ≤ v ∧ v ≤ 3 := by simp at hv; omega
 obtain ⟨d, rfl⟩ : ∃ d : Nat, v = (d : Int) := ⟨v.toNat, by omega⟩
 obtain ⟨t, q, g1, g2, g3, g4, g5⟩ := draw_is d (by omega) l (p + 1) hl (by have := cap_in (d := d) (by omega); omega)
 have hz := szD_le (d := d) (by omega)
 obtain ⟨s, rfl, _⟩ := BA_of t
 have h3 := layS2_is d (by omega) s
 have hb := layR_lb d (by omega) s
 by_cases hok : (layR d (readD d s)).2.2 = true
 · refine ⟨_, _, q, ?_, hb, by omega, by omega⟩
   unfold spec_l2Draw.f
   exact Ev.bind h1 (Ev.bind g1 (Ev.bind h3 (Ev.pos hok (Ev.now _))))
 · have h4 := layS2_is 1 (by omega) [91, 49, 44, 50, 93]
   have hc := layR_lb 1 (by omega) [91, 49, 44, 50, 93]
   refine ⟨_, _, q, ?_, hc, by omega, by omega⟩
   unfold spec_l2Draw.f
   exact Ev.bind h1 (Ev.bind g1 (Ev.bind h3 (Ev.neg hok (Ev.bind h4 (Ev.now _)))))
theorem dz_small {x : Int} (h : -1 ≤ x) (h2 : x ≤ 9223372036854775807) : Dz x := by unfold Dz; omega
theorem l2SomeZ {l : List Int} (hl : Bs l) (p : Nat) (hp : p ≤ 1000000000) : ∃ (L : List (List Int)) (D : List Int) (q : Nat), Ev (fun k => spec_l2Some.f k l (p : Int)) (L, D, (q : Int)) ∧ LB 6 401 L D := by
 obtain ⟨L, D, q, h1, ⟨b1, b2, b3, b6⟩, b4, b5⟩ := l2DrawZ hl p (by omega)
 obtain ⟨v, h2, _⟩ := pick_is hl q (by omega) 24
 by_cases v0 : v = 0
 · obtain ⟨x, hx, h3⟩ := num_is hl (q + 1) (by omega) [0, -1, 10007] (by simp)
   have hxd : Dz x := dz_small (by simp at hx; omega) (by simp at hx; omega)
   have n1 : ([] : List Int).length + D.length < 17592186044416 := by rw [List.length_nil]; omega
   have n2 : ([] ++ D : List Int).length < 17592186044416 := by rw [List.nil_append]; omega
   refine ⟨L, ([] ++ D) ++ [x], q + 1 + 1, ?_, by omega, b2, by rw [List.nil_append, List.length_append, List.length_singleton]; omega, fun z hz => ?_⟩
   · unfold spec_l2Some.f
     exact Ev.bind h1 (Ev.bind h2 (Ev.pos v0 (Ev.call rfl (Ev.pos n1 (Ev.call rfl (Ev.bind h3 (Ev.pos n2 (Ev.now _))))))))
   · rw [List.nil_append] at hz
     rcases List.mem_append.1 hz with hz | hz
     · exact b6 z hz
     · rw [List.mem_singleton.1 hz]; exact hxd
 · by_cases v1 : v = 1
   · obtain ⟨x, hx, h3⟩ := num_is hl (q + 1) (by omega) [1, -1, 0, 9223372036854775807] (by simp)
     have hxd : Dz x := dz_small (by simp at hx; omega) (by simp at hx; omega)
     have n1 : ([] : List (List Int)).length + L.length < 5864062014805 := by rw [List.length_nil]; omega
     have n2 : ([] ++ L : List (List Int)).length < 5864062014805 := by rw [List.nil_append]; omega
     refine ⟨([] ++ L) ++ [[x]], D, q + 1 + 1, ?_, by rw [List.nil_append, List.length_append, List.length_singleton]; omega, fun r hr => ?_, by omega, b6⟩
     · unfold spec_l2Some.f
       exact Ev.bind h1 (Ev.bind h2 (Ev.neg v0 (Ev.pos v1 (Ev.call rfl (Ev.pos n1 (Ev.call rfl (Ev.bind h3 (Ev.pos n2 (Ev.now _)))))))))
     · rw [List.nil_append] at hr
       rcases List.mem_append.1 hr with hr | hr
       · exact b2 r hr
       · rw [List.mem_singleton.1 hr]
         exact ⟨by simp, fun z hz => by rw [List.mem_singleton.1 hz]; exact hxd⟩
   · by_cases v2 : v = 2
     · by_cases hL : (L.length : Int) > 0
       · obtain ⟨x, hx, h3⟩ := num_is hl (q + 1) (by omega) [0, 2, -1, 9223372036854775807] (by simp)
         have hxd : Dz x := dz_small (by simp at hx; omega) (by simp at hx; omega)
         have n1 : (1 : Int) ≤ (L.length : Int) := by omega
         have n2 : ([[x]] : List (List Int)).length + (L.drop 1).length < 5864062014805 := by rw [List.length_drop, List.length_singleton]; omega
         refine ⟨[[x]] ++ L.drop 1, D, q + 1 + 1, ?_, by rw [List.length_append, List.length_drop, List.length_singleton]; omega, fun r hr => ?_, by omega, b6⟩
         · unfold spec_l2Some.f
           exact Ev.bind h1 (Ev.bind h2 (Ev.neg v0 (Ev.neg v1 (Ev.pos v2 (Ev.pos hL (Ev.bind h3 (Ev.call rfl (Ev.pos n1 (Ev.call rfl (Ev.pos n2 (Ev.now _)))))))))))
         · rcases List.mem_append.1 hr with hr | hr
           · rw [List.mem_singleton.1 hr]
             exact ⟨by simp, fun z hz => by rw [List.mem_singleton.1 hz]; exact hxd⟩
           · exact b2 r (List.mem_of_mem_drop hr)
       · refine ⟨L, D, q + 1, ?_, by omega, b2, by omega, b6⟩
         unfold spec_l2Some.f
         exact Ev.bind h1 (Ev.bind h2 (Ev.neg v0 (Ev.neg v1 (Ev.pos v2 (Ev.neg hL (Ev.now _))))))
     · by_cases v3 : v = 3
       · have n1 : ([[1], [1], [1]] : List (List Int)).length + L.length < 5864062014805 := by show 3 + L.length < _; omega
         refine ⟨[[1], [1], [1]] ++ L, D, q + 1, ?_, by rw [List.length_append]; show 3 + L.length ≤ 6; omega, fun r hr => ?_, by omega, b6⟩
         · unfold spec_l2Some.f
           exact Ev.bind h1 (Ev.bind h2 (Ev.neg v0 (Ev.neg v1 (Ev.neg v2 (Ev.pos v3 (Ev.call rfl (Ev.pos n1 (Ev.now _))))))))
         · rcases List.mem_append.1 hr with hr | hr
           · have : r = [1] := by simpa using hr
             rw [this]
             exact ⟨by simp, fun z hz => by rw [List.mem_singleton.1 hz]; exact dz_small (by omega) (by omega)⟩
           · exact b2 r hr
       · refine ⟨L, D, q + 1, ?_, by omega, b2, by omega, b6⟩
         unfold spec_l2Some.f
         exact Ev.bind h1 (Ev.bind h2 (Ev.neg v0 (Ev.neg v1 (Ev.neg v2 (Ev.neg v3 (Ev.now _))))))
theorem drawFmt_is (l : List Int) (h : ∀ x ∈ l, (Lit.int .u8 x).wf = true) : ∃ (L : List (List Int)) (D : List Int), Ev (fun k => spec_DrawFormatLayout.f k l) (L, D) ∧ LB 6 401 L D := by
 obtain ⟨l', ho, hl⟩ := open_is l h
 obtain ⟨L, D, q, g1, g2⟩ := l2SomeZ hl 0 (by omega)
 refine ⟨L, D, ?_, g2⟩
 unfold spec_DrawFormatLayout.f
 exact Ev.call ho (Ev.bind g1 (Ev.now _))
theorem lvT_len4 : ∀ (L : List (List Int)), (∀ r ∈ L, r.length ≤ 400 ∧ ∀ z ∈ r, Dz z) → (lvT L).length ≤ 8402 * L.length
 | [], _ => by simp [lvT]
 | r :: L, h => by
   have h1 := h r (by simp)
   have h2 := spT_len r h1.2
   have ih := lvT_len4 L (fun x hx => h x (List.mem_cons_of_mem _ hx))
   have e : lvT (r :: L) = (spT r ++ [124]) ++ lvT L := by simp [lvT]
   rw [e, List.length_append, List.length_append]
   have h3 := h1.1
   simp at ih ⊢
   omega
theorem LB.len {a b : Nat} {L : List (List Int)} {D : List Int} (h : LB a b L D) (ha : a ≤ 6) (hb : b ≤ 401) : (layTx L D).length ≤ 8402 * a + 21 * b + 1 := by
 obtain ⟨b1, b2, b3, b4⟩ := h
 have h1 := lvT_len4 L b2
 have h2 := spT_len D b4
 unfold layTx
 rw [List.length_append]
 omega
theorem LB.dzs {a b : Nat} {L : List (List Int)} {D : List Int} (h : LB a b L D) (ha : a ≤ 6) (hb : b ≤ 401) : Dzs L D := by
 obtain ⟨b1, b2, b3, b4⟩ := h
 exact ⟨by omega, fun r hr => ⟨Nat.le_trans (b2 r hr).1 (by omega), (b2 r hr).2⟩, by omega, b4⟩
theorem spT_ne (xs : List Int) : spT xs ≠ [] := by
 unfold spT
 split
 · simp
 · next h => exact wds_ne h
theorem drawTxt_is (l : List Int) (h : ∀ x ∈ l, (Lit.int .u8 x).wf = true) : ∃ s : By, Ev (fun k => spec_DrawParseLayout.f k l) (BA s) ∧ s.length ≤ 39000 ∧ ∀ b ∈ s, b.toNat < 128 := by
 obtain ⟨l', ho, hl⟩ := open_is l h
 obtain ⟨L, D, q, g1, hb, hq1, hq2⟩ := l2DrawZ hl 0 (by omega)
 have hf := (fmt_is L D (hb.dzs (by omega) (by omega))).2
 have hlen := hb.len (by omega) (by omega)
 have hasc := layTx_ascii L D
 have hne : 1 ≤ (layTx L D).length := by
   unfold layTx
   rw [List.length_append]
   have := List.length_pos_iff.2 (spT_ne D)
   omega
 generalize layTx L D = tx at hf hlen hasc hne
 obtain ⟨v, g2, _⟩ := pick_is hl q (by omega) 2
 by_cases hv : v = 0
 · refine ⟨tx, ?_, by omega, hasc⟩
   unfold spec_DrawParseLayout.f
   exact Ev.call ho (Ev.bind g1 (Ev.bind hf (Ev.bind g2 (Ev.pos hv (Ev.now _)))))
 · obtain ⟨m, g3, hm, _⟩ := pick_is hl (q + 1) (by omega) ((BA tx).size : Int)
   have hm2 := hm (by rw [BA_size]; omega)
   rw [BA_size] at hm2
   obtain ⟨m, rfl⟩ : ∃ j : Nat, m = (j : Int) := ⟨m.toNat, by omega⟩
   obtain ⟨x, hx, g4⟩ := of_is hl (q + 1 + 1) (by omega) [(⟨#[]⟩ : ByteArray), (⟨#[124]⟩ : ByteArray), (⟨#[32]⟩ : ByteArray), (⟨#[48]⟩ : ByteArray), (⟨#[45]⟩ : ByteArray), (⟨#[49]⟩ : ByteArray)] (by simp)
   have hxx : ∃ y : By, x = BA y ∧ y.length ≤ 1 ∧ ∀ b ∈ y, b.toNat < 128 := by
     simp only [List.mem_cons, List.not_mem_nil, or_false] at hx
     rcases hx with rfl | rfl | rfl | rfl | rfl | rfl
     · exact ⟨[], rfl, by simp, by simp⟩
     · exact ⟨[124], rfl, by simp, by simp⟩
     · exact ⟨[32], rfl, by simp, by simp⟩
     · exact ⟨[48], rfl, by simp, by simp⟩
     · exact ⟨[45], rfl, by simp, by simp⟩
     · exact ⟨[49], rfl, by simp, by simp⟩
   obtain ⟨y, rfl, hy1, hy2⟩ := hxx
   obtain ⟨j, g5, hj, _⟩ := pick_is hl (q + 1 + 1 + 1) (by omega) 2
   have hj2 := hj (by omega)
   obtain ⟨j, rfl⟩ : ∃ i : Nat, j = (i : Int) := ⟨j.toNat, by omega⟩
   have ew : wrap64 ((m : Int) + (j : Int)) = ((m + j : Nat) : Int) := by rw [wrapS (by omega) (by omega)]; omega
   have b1 : (0 : Int) ≤ (m : Int) := by omega
   have b2 : (m : Int) ≤ ((BA tx).size : Int) := by rw [BA_size]; omega
   have b3 : ((BA tx).extract 0 (m : Int).toNat).size + (BA y).size ≤ 9223372036854775807 := by rw [BA_extract, BA_size, BA_size, List.length_take, List.length_drop]; omega
   have b4 : (0 : Int) ≤ ((m + j : Nat) : Int) := by omega
   have b5 : ((m + j : Nat) : Int) ≤ ((BA tx).size : Int) := by rw [BA_size]; omega
   have b6 : ((BA tx).extract 0 (m : Int).toNat).size + (BA y).size + ((BA tx).extract (((m + j : Nat) : Int)).toNat (BA tx).size).size ≤ 9223372036854775807 := by
     rw [BA_extract, BA_extract, BA_size, BA_size, BA_size, List.length_take, List.length_drop, List.length_take, List.length_drop]
     omega
   refine ⟨(tx.drop 0).take ((m : Int).toNat - 0) ++ y ++ (tx.drop (((m + j : Nat) : Int)).toNat).take ((BA tx).size - (((m + j : Nat) : Int)).toNat), ?_, ?_, fun b hb' => ?_⟩
   · rw [← BA_append, ← BA_append, ← BA_extract, ← BA_extract]
     unfold spec_DrawParseLayout.f
     refine Ev.call ho (Ev.bind g1 (Ev.bind hf (Ev.bind g2 (Ev.neg hv (Ev.bind g3 (Ev.pos b1 (Ev.pos b2 (Ev.bind g4 (Ev.pos b3 (Ev.bind g5 ?_))))))))))
     dsimp only
     rw [ew]
     exact Ev.pos b4 (Ev.pos b5 (Ev.pos b6 (Ev.now _)))
   · rw [List.length_append, List.length_append, List.length_take, List.length_take, List.length_drop, List.length_drop]
     omega
   · rcases List.mem_append.1 hb' with hb' | hb'
     · rcases List.mem_append.1 hb' with hb' | hb'
       · exact hasc b (List.mem_of_mem_drop (List.mem_of_mem_take hb'))
       · exact hy2 b hb'
     · exact hasc b (List.mem_of_mem_drop (List.mem_of_mem_take hb'))
end Go.Proofs.YtidpankoobdfjaaGreatDoor.L
namespace Go.Proofs.YtidpankoobdfjaaGreatDoor.L
open Go.RowKit Go.Proofs.YtidpankoobdfjaaGreatDoorW.PrintWords Go.Proofs.YtidpankoobdfjaaGreatDoorW.PrintLast Go.Proofs.YtidpankoobdfjaaGreatDoorW.PrintMore Go.Proofs.YtidpankoobdfjaaGreatDoor.Q
set_option linter.unusedSimpArgs false
set_option linter.unusedVariables false

theorem faSame_l0 (l : List Int) (hl : l.length ≤ 1000000000) : ∀ (n i : Nat), l.length - i = n → i ≤ l.length → Ev (fun k => laws_faSame.l0 k l l (l.length : Int) (i : Int)) true := by
 intro n
 induction n with
 | zero =>
   intro i h hi
   refine Ev.step' ?_; simp only [laws_faSame.l0]
   exact Ev.neg (by omega) (Ev.val (by simp))
 | succ n ih =>
   intro i h hi
   refine Ev.step' ?_; simp only [laws_faSame.l0]
   refine Ev.pos (by omega) (Ev.pos (by omega) (Ev.pos (by omega) (Ev.pos (by omega) (Ev.pos (by first | trivial | rfl) ?_))))
   rw [wrapS (by omega) (by omega)]
   exact ih (i + 1) (by omega) (by omega)
theorem faSame_is (l : List Int) (hl : l.length ≤ 1000000000) : Ev (fun k => laws_faSame.f k l l) true := by
 unfold laws_faSame.f
 rw [show mn (l.length : Int) (l.length : Int) = (l.length : Int) by unfold mn; split <;> rfl]
 exact faSame_l0 l hl _ 0 rfl (by omega)
end Go.Proofs.YtidpankoobdfjaaGreatDoor.L
namespace Go.Proofs.YtidpankoobdfjaaGreatDoor.L
open Go.RowKit Go.Proofs.YtidpankoobdfjaaGreatDoorW.PrintWords Go.Proofs.YtidpankoobdfjaaGreatDoorW.PrintLast Go.Proofs.YtidpankoobdfjaaGreatDoorW.PrintMore Go.Proofs.YtidpankoobdfjaaGreatDoor.Q
set_option linter.unusedSimpArgs false
set_option linter.unusedVariables false

theorem faLists_l0 (L : List (List Int)) (hL : L.length ≤ 1000) (hb : ∀ r ∈ L, r.length ≤ 1000000) : ∀ (n i : Nat), L.length - i = n → i ≤ L.length → Ev (fun k => laws_faLists.l0 k L L (L.length : Int) (i : Int)) true := by
 intro n
 induction n with
 | zero =>
   intro i h1 h2
   refine Ev.step' ?_; simp only [laws_faLists.l0]
   exact Ev.neg (by omega) (Ev.val (by simp))
 | succ n ih =>
   intro i h1 h2
   have hi : i < L.length := by omega
   have hg : rd_L1 L (i : Int) = L[i] := by
     show L.getD i [] = _
     rw [List.getD_eq_getElem?_getD, List.getElem?_eq_getElem hi]
     rfl
   have hnext := ih (i + 1) (by omega) (by omega)
   have hs := faSame_is L[i] (Nat.le_trans (hb _ (List.getElem_mem hi)) (by omega))
   refine Ev.step' ?_; simp only [laws_faLists.l0]
   refine Ev.pos (by omega) (Ev.pos (by omega) (Ev.pos (by omega) (Ev.pos (by omega) ?_)))
   rw [hg]
   refine Ev.bind hs (Ev.pos rfl ?_)
   rw [wrapS (by omega) (by omega)]
   exact hnext
theorem faLay_is (L : List (List Int)) (D : List Int) (hL : L.length ≤ 1000) (hb : ∀ r ∈ L, r.length ≤ 1000000) (hD : D.length ≤ 1000000) : Ev (fun k => laws_faLayout.f k L D L D) true := by
 have h0 : Ev (fun k => laws_faLists.f k L L) true := by
   unfold laws_faLists.f
   have e : mn (L.length : Int) (L.length : Int) = (L.length : Int) := by unfold mn; split <;> rfl
   rw [e]
   exact faLists_l0 L hL hb _ 0 rfl (Nat.zero_le _)
 unfold laws_faLayout.f
 exact Ev.bind h0 (Ev.pos rfl (Ev.bind (faSame_is D (by omega)) (Ev.now _)))
end Go.Proofs.YtidpankoobdfjaaGreatDoor.L
namespace Go.Proofs.YtidpankoobdfjaaGreatDoor.L
open Go.RowKit Go.Proofs.YtidpankoobdfjaaGreatDoorW.PrintWords Go.Proofs.YtidpankoobdfjaaGreatDoorW.PrintLast Go.Proofs.YtidpankoobdfjaaGreatDoorW.PrintMore Go.Proofs.YtidpankoobdfjaaGreatDoor.Q
set_option linter.unusedSimpArgs false
set_option linter.unusedVariables false

theorem parI_bd (s : By) : (∀ r ∈ (parI s).1, r.length ≤ s.length + 1) ∧ (parI s).2.length ≤ s.length + 1 := by
 have hrow : ∀ r ∈ (cutL 124 s).map rowI, r.length ≤ s.length + 1 := fun r hr => by
   obtain ⟨p, hp, rfl⟩ := List.mem_map.1 hr
   have h1 := rowI_len p
   have h2 := (cutL_mem 124 s p hp).1
   omega
 refine ⟨fun r hr => hrow r (List.mem_of_mem_take hr), ?_⟩
 unfold parI upD
 dsimp only
 split
 · simp
 · rw [List.getD_eq_getElem?_getD]
   cases hg : ((cutL 124 s).map rowI)[(cutL 124 s).length - 1]? with
   | none => simp
   | some r => exact hrow r (List.mem_of_getElem? hg)
theorem parse_both (s : By) (hs : s.length ≤ 39000) (ha : ∀ b ∈ s, b.toNat < 128) : ∃ r : Res, Ev (fun k => impl_ParseLayout.f k (BA s)) r ∧ Ev (fun k => spec_ParseLayout.f k (BA s)) r ∧ Good s r := by
 have hI := parseI_is s (by omega) ha
 obtain ⟨r, g1, g2⟩ := parseS_any s (by omega)
 obtain ⟨q1, q2⟩ := parI_bd s
 by_cases h : lok (parI s).1 (parI s).2 = true ∧ layTx (parI s).1 (parI s).2 = s
 · have e : finR s (parI s).1 (parI s).2 = ((parI s).1, (parI s).2, true) := if_pos h
   rw [e] at hI
   have hS := parseS_lay (parI s).1 (parI s).2 h.1 (fun r hr => Nat.le_trans (q1 r hr) (by omega)) (by omega) (by rw [h.2]; omega)
   rw [h.2] at hS
   exact ⟨_, hI, hS, .inr ⟨_, _, rfl, h.1, h.2, fun r hr => Nat.le_trans (q1 r hr) (by omega), by omega⟩⟩
 · have e : finR s (parI s).1 (parI s).2 = ([], [], false) := if_neg h
   rw [e] at hI
   rcases g2 with rfl | ⟨L, D, rfl, h1, h2, h3, h4⟩
   · exact ⟨_, hI, g1, .inl rfl⟩
   · exfalso
     obtain ⟨o1, o2, o3⟩ := lok_is h1
     have ep := parI_lay L D (fun r hr => (o2 r hr).dz (by omega)) (o3.dz (by omega))
     rw [h2] at ep
     rw [ep] at h
     exact h ⟨h1, h2⟩
theorem law_j1 (l1 : List Int) (h1 : ∀ x ∈ l1, (Lit.int .u8 x).wf = true) : Ev (fun k => laws_FnLayoutText.j1 k l1 false) true := by
 obtain ⟨s, g1, g2, g3⟩ := drawTxt_is l1 h1
 obtain ⟨r, p1, p2, hg⟩ := parse_both s g2 g3
 refine Ev.step' ?_; simp only [laws_FnLayoutText.j1]
 refine Ev.neg (by simp) (Ev.bind g1 (Ev.bind p1 (Ev.bind p2 ?_)))
 rcases hg with rfl | ⟨L, D, rfl, h1, h2, h3, h4⟩
 · exact Ev.bind (faLay_is [] [] (by simp) (fun r hr => by cases hr) (by simp)) (Ev.pos rfl (Ev.pos rfl (Ev.neg (by simp) (Ev.now _))))
 · obtain ⟨o1, o2, o3⟩ := lok_is h1
   have hf := (fmt_is L D ⟨by omega, fun r hr => ⟨h3 r hr, (o2 r hr).dz (by omega)⟩, h4, o3.dz (by omega)⟩).1
   have hv := (valid_both L D (by omega) h3 h4).1
   refine Ev.bind (faLay_is L D (by omega) h3 h4) (Ev.pos rfl (Ev.pos rfl (Ev.pos rfl (Ev.bind hf (Ev.pos (by rw [toList_BA, toList_BA]; exact h2) (Ev.bind hv (Ev.val h1)))))))
theorem Pure_FnLayoutText : laws_FnLayoutText.Pure := by
 intro l0 l1 _ _ h0 _ _ h1
 refine Ev.rounds (r := true) ?_
 have ht : Ev (fun k => laws_FnLayoutText.j0 k l0 l1 true) true := by
   refine Ev.step' ?_; simp only [laws_FnLayoutText.j0]
   exact Ev.pos (by first | trivial | rfl) (Ev.now _)
 unfold laws_FnLayoutText.f
 by_cases c0 : (l0.length : Int) > 1048576
 · exact Ev.pos c0 ht
 refine Ev.neg c0 ?_
 by_cases c1 : (l1.length : Int) > 1048576
 · rw [decide_eq_true c1]
   exact ht
 rw [decide_eq_false c1]
 obtain ⟨L, D, g1, hb⟩ := drawFmt_is l0 h0
 have hz := hb.dzs (by omega) (by omega)
 have hlen := hb.len (by omega) (by omega)
 obtain ⟨f1, f2⟩ := fmt_is L D hz
 obtain ⟨b1, b2, b3, b4⟩ := hb
 have hp := parseI_is (layTx L D) (by omega) (layTx_ascii L D)
 rw [parI_lay L D (fun r hr => (b2 r hr).2) b4] at hp
 have hv := (valid_both L D (by omega) (fun r hr => Nat.le_trans (b2 r hr).1 (by omega)) (by omega)).1
 have hj := law_j1 l1 h1
 refine Ev.step' ?_; simp only [laws_FnLayoutText.j0]
 refine Ev.neg (by simp) (Ev.bind g1 (Ev.bind f1 (Ev.bind hp (Ev.bind f2 (Ev.pos rfl (Ev.bind hv ?_))))))
 by_cases h : lok L D = true
 · have e : finR (layTx L D) L D = (L, D, true) := if_pos ⟨h, rfl⟩
   have e2 : decide (wrongV L.length D 0 1 L < 0) = true := h
   rw [e, e2]
   exact Ev.neg (by simp) (Ev.pos rfl (Ev.bind (faLay_is L D (by omega) (fun r hr => Nat.le_trans (b2 r hr).1 (by omega)) (by omega)) hj))
 · have e : finR (layTx L D) L D = ([], [], false) := if_neg (fun x => h x.1)
   have e2 : decide (wrongV L.length D 0 1 L < 0) = false := by simpa [lok] using h
   rw [e, e2]
   exact Ev.neg (by simp) (Ev.neg (by simp) hj)
end Go.Proofs.YtidpankoobdfjaaGreatDoor.L
