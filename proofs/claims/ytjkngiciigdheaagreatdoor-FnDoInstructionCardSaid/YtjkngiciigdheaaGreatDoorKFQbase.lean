/- Plain words on bytes, numerals and nested arrays: no program in sight. -/
import Derived.Lib.ItoaNum
import Derived.Lib.AtoiAll
import Derived.Lib.Join
import Derived.Test.YtjkngiciigdheaaGreatDoorKFW1
namespace Go.Proofs.YtjkngiciigdheaaGreatDoor.Q
open Go Go.RowKit Go.Proofs.YtjkngiciigdheaaGreatDoorW.PrintWords
set_option linter.unusedSimpArgs false
set_option linter.unusedVariables false

abbrev By := List UInt8
def BA (l : By) : ByteArray := ⟨l.toArray⟩
@[simp] theorem BA_size (l : By) : (BA l).size = l.length := by simp [BA, ByteArray.size]
theorem BA_data (b : ByteArray) : BA b.data.toList = b := by cases b; simp [BA]
@[simp] theorem data_BA (l : By) : (BA l).data.toList = l := by simp [BA]
theorem BA_inj {a b : By} (h : BA a = BA b) : a = b := by
 have := congrArg (fun x : ByteArray => x.data.toList) h
 simpa using this
theorem BA_append (a b : By) : BA a ++ BA b = BA (a ++ b) := by
 apply ByteArray.ext
 simp [BA, ByteArray.data_append]
theorem BA_extract (l : By) (a b : Nat) : (BA l).extract a b = BA ((l.drop a).take (b - a)) := by
 apply ByteArray.ext
 simp [BA, ByteArray.data_extract, List.extract_eq_take_drop]
theorem bt_BA (l : By) (i : Int) : bt (BA l) i = ((l.getD i.toNat 0).toNat : Int) := by
 unfold bt
 split
 · next h =>
   have h' : i.toNat < l.length := by simpa using h
   have e : (BA l)[i.toNat]'h = l[i.toNat] := by
    show (BA l).data[i.toNat] = _
    simp [BA]
   rw [e, List.getD_eq_getElem?_getD, List.getElem?_eq_getElem h']
   rfl
 · next h =>
   have h' : ¬ i.toNat < l.length := by simpa using h
   rw [List.getD_eq_getElem?_getD, List.getElem?_eq_none (by omega)]
   rfl

def isD (c : UInt8) : Bool := decide (48 ≤ c.toNat) && decide (c.toNat ≤ 57)
def valD (acc : Nat) : By → Nat
 | [] => acc
 | c :: r => valD (acc * 10 + (c.toNat - 48)) r
theorem valD_append (a b : By) : ∀ acc, valD acc (a ++ b) = valD (valD acc a) b := by
 induction a with
 | nil => intro acc; rfl
 | cons c r ih => intro acc; exact ih _
theorem valD_ge : ∀ (l : By) (acc : Nat), acc ≤ valD acc l
 | [], acc => Nat.le_refl _
 | c :: r, acc => by
  have := valD_ge r (acc * 10 + (c.toNat - 48))
  show acc ≤ valD _ r
  omega
theorem parse10 : ∀ (l : By) (acc : Nat), l.all isD = true → Lib.parseUint10 acc l = .ok (valD acc l) ∨ (Lib.parseUint10 acc l = .range ∧ 10007 ≤ valD acc l)
 | [], acc, _ => .inl rfl
 | c :: r, acc, h => by
  simp only [List.all_cons, Bool.and_eq_true, isD, decide_eq_true_eq] at h
  obtain ⟨⟨h1, h2⟩, h3⟩ := h
  have hg := valD_ge r (acc * 10 + (c.toNat - 48))
  unfold Lib.parseUint10
  rw [if_pos ⟨h1, h2⟩]
  split
  · exact .inr ⟨rfl, by show 10007 ≤ valD _ r; omega⟩
  · split
    · exact .inr ⟨rfl, by show 10007 ≤ valD _ r; omega⟩
    · exact parse10 r _ h3
theorem atoi_digits {l : By} (h : l.all isD = true) (hn : l ≠ []) : Lib.atoiAll l = .ok (valD 0 l : Int) ∨ (Lib.atoiAll l = .range ∧ 10007 ≤ valD 0 l) := by
 obtain ⟨c, r, rfl⟩ := List.exists_cons_of_ne_nil hn
 have hc : 48 ≤ c.toNat ∧ c.toNat ≤ 57 := by
  simp only [List.all_cons, Bool.and_eq_true, isD, decide_eq_true_eq] at h
  exact h.1
 have h43 : ¬ (c.toNat = 43 ∨ c.toNat = 45) := by omega
 have h45 : ¬ c.toNat = 45 := by omega
 unfold Lib.atoiAll
 simp only [if_neg h43, Lib.parseMag, if_neg (List.cons_ne_nil c r)]
 rcases parse10 (c :: r) 0 h with e | ⟨e, hb⟩
 · rw [e]
   simp only [h45, not_false_eq_true, true_and, false_and, if_false]
   split
   · exact .inr ⟨rfl, by omega⟩
   · exact .inl rfl
 · rw [e]
   exact .inr ⟨rfl, hb⟩

theorem dec_small {n : Nat} (h : n < 10) : Lib.decDigits n = [UInt8.ofNat (48 + n)] := by rw [Lib.decDigits, dif_pos h]
theorem dec_big {n : Nat} (h : ¬ n < 10) : Lib.decDigits n = Lib.decDigits (n / 10) ++ [UInt8.ofNat (48 + n % 10)] := by rw [Lib.decDigits, dif_neg h]
theorem toNat_dig {n : Nat} (h : n < 10) : (UInt8.ofNat (48 + n)).toNat = 48 + n := by
 rw [UInt8.toNat_ofNat']
 omega
theorem dec_all (n : Nat) : (Lib.decDigits n).all isD = true := by
 induction n using Nat.strongRecOn with
 | _ n ih =>
  by_cases h : n < 10
  · rw [dec_small h]
    simp [isD, toNat_dig h]
    omega
  · rw [dec_big h, List.all_append, ih (n / 10) (by omega)]
    have hm : n % 10 < 10 := by omega
    simp [isD, toNat_dig hm]
    omega
theorem dec_ne (n : Nat) : Lib.decDigits n ≠ [] := by
 by_cases h : n < 10
 · rw [dec_small h]; simp
 · rw [dec_big h]; simp
theorem valD_one (a : Nat) (c : UInt8) : valD a [c] = a * 10 + (c.toNat - 48) := rfl
theorem val_dec (n : Nat) : valD 0 (Lib.decDigits n) = n := by
 induction n using Nat.strongRecOn with
 | _ n ih =>
  by_cases h : n < 10
  · rw [dec_small h, valD_one, toNat_dig h]
    omega
  · have hm : n % 10 < 10 := by omega
    have e := ih (n / 10) (by omega)
    rw [dec_big h, valD_append, e, valD_one, toNat_dig hm]
    omega
theorem dec_head (n : Nat) (h : 0 < n) : ∃ c r, Lib.decDigits n = c :: r ∧ c ≠ 48 := by
 induction n using Nat.strongRecOn with
 | _ n ih =>
  by_cases h1 : n < 10
  · refine ⟨_, [], dec_small h1, fun e => ?_⟩
    have := congrArg UInt8.toNat e
    rw [toNat_dig h1] at this
    have h48 : (48 : UInt8).toNat = 48 := rfl
    omega
  · obtain ⟨c, r, e, hc⟩ := ih (n / 10) (by omega) (by omega)
    exact ⟨c, r ++ [UInt8.ofNat (48 + n % 10)], by rw [dec_big h1, e]; rfl, hc⟩
theorem dec_val : ∀ (k : Nat) (ds : By), ds.length = k → ds.all isD = true → (∃ c r, ds = c :: r ∧ (c ≠ 48 ∨ r = [])) → Lib.decDigits (valD 0 ds) = ds := by
 intro k
 induction k with
 | zero => intro ds hl _ h; obtain ⟨c, r, rfl, _⟩ := h; simp at hl
 | succ k ih =>
  intro ds hl hall h
  rcases List.eq_nil_or_concat ds with rfl | ⟨init, c, rfl⟩
  · simp at hl
  · rw [List.concat_eq_append] at *
    rw [List.all_append] at hall
    simp only [List.all_cons, List.all_nil, Bool.and_true, Bool.and_eq_true, isD, decide_eq_true_eq] at hall
    obtain ⟨ha, hc1, hc2⟩ := hall
    have e1 : valD 0 (init ++ [c]) = valD 0 init * 10 + (c.toNat - 48) := by rw [valD_append]; rfl
    have hcc : UInt8.ofNat (48 + (c.toNat - 48)) = c := by
     apply UInt8.toNat.inj
     rw [toNat_dig (by omega)]
     omega
    rcases init with _ | ⟨d, init⟩
    · have e0 : valD 0 ([] ++ [c]) = c.toNat - 48 := by rw [List.nil_append, valD_one]; omega
      rw [e0, List.nil_append, dec_small (by omega), hcc]
    · obtain ⟨c', r', he, hne⟩ := h
      have hd : d = c' := by simpa using (List.cons.inj he).1
      have hr : r' ≠ [] := by
       intro e0
       have := (List.cons.inj he).2
       rw [e0] at this
       simp at this
      have hd48 : d ≠ 48 := by
       rcases hne with h1 | h1
       · rw [hd]; exact h1
       · exact absurd h1 hr
      have ih' := ih (d :: init) (by simp at hl ⊢; omega) ha ⟨d, init, rfl, .inl hd48⟩
      have hpos : 0 < valD 0 (d :: init) := by
       have hdn : d.toNat ≠ 48 := fun e => hd48 (UInt8.toNat.inj e)
       have hdd : 48 ≤ d.toNat := by
        simp only [List.all_cons, Bool.and_eq_true, isD, decide_eq_true_eq] at ha
        exact ha.1.1
       have := valD_ge init (0 * 10 + (d.toNat - 48))
       show 0 < valD _ init
       omega
      rw [e1, dec_big (by omega), show (valD 0 (d :: init) * 10 + (c.toNat - 48)) / 10 = valD 0 (d :: init) by omega, show (valD 0 (d :: init) * 10 + (c.toNat - 48)) % 10 = c.toNat - 48 by omega, ih', hcc]
theorem dec_val_iff {ds : By} (hall : ds.all isD = true) : Lib.decDigits (valD 0 ds) = ds ↔ ∃ c r, ds = c :: r ∧ (c ≠ 48 ∨ r = []) := by
 constructor
 · intro h
   by_cases hp : 0 < valD 0 ds
   · obtain ⟨c, r, e, hc⟩ := dec_head _ hp
     exact ⟨c, r, by rw [← h, e], .inl hc⟩
   · have h0 : valD 0 ds = 0 := by omega
     rw [h0, dec_small (by omega)] at h
     exact ⟨_, [], h.symm, .inr rfl⟩
 · intro h
   exact dec_val _ ds rfl hall h
theorem valD_len : ∀ (l : By) (a : Nat), 1 ≤ a → 10 ^ l.length ≤ valD a l := by
 have h3 : ∀ (l : By) (p a : Nat), p = 10 ^ l.length → p * a ≤ valD a l := by
  intro l
  induction l with
  | nil =>
   intro p a hp
   have hp1 : p = 1 := hp
   have : valD a [] = a := rfl
   rw [this, hp1, Nat.one_mul]
   exact Nat.le_refl a
  | cons c r ih =>
   intro p a hp
   have h1 := ih (10 ^ r.length) (a * 10 + (c.toNat - 48)) rfl
   have h2 : p = 10 ^ r.length * 10 := hp
   have h4 : valD a (c :: r) = valD (a * 10 + (c.toNat - 48)) r := rfl
   generalize 10 ^ r.length = q at *
   rw [h4, h2, Nat.mul_assoc]
   refine Nat.le_trans (Nat.mul_le_mul_left q ?_) h1
   omega
 intro l a h
 exact Nat.le_trans (Nat.le_mul_of_pos_right _ h) (h3 l _ a rfl)
theorem six_big {c : UInt8} {r : By} (hc : isD c = true) (h48 : c ≠ 48) (hr : 5 ≤ r.length) : 10007 ≤ valD 0 (c :: r) := by
 have h0 : c.toNat ≠ 48 := fun e => h48 (UInt8.toNat.inj e)
 simp only [isD, Bool.and_eq_true, decide_eq_true_eq] at hc
 have h1 := valD_len r (0 * 10 + (c.toNat - 48)) (by omega)
 have h2 : 10 ^ 5 ≤ 10 ^ r.length := Nat.pow_le_pow_right (by omega) hr
 show 10007 ≤ valD _ r
 omega

def parseNum (s : By) : Option (Nat × By) :=
 if valD 0 (s.takeWhile isD) < 10007 ∧ Lib.decDigits (valD 0 (s.takeWhile isD)) = s.takeWhile isD then some (valD 0 (s.takeWhile isD), s.dropWhile isD) else none

structure Tr where
 n : Nat
 parts : List Tr
def text : Nat → Tr → By
 | 0, t => Lib.decDigits t.n
 | d + 1, t => 91 :: (Lib.join (t.parts.map (text d)) [44] ++ [93])
def parseL {α : Type} (p : By → Option (α × By)) : Nat → By → Option (List α × By)
 | 0, _ => none
 | n + 1, s =>
  match p s with
  | none => none
  | some (v, r) =>
   match r with
   | [] => none
   | c :: r' => if c = 44 then (parseL p n r').map fun q => (v :: q.1, q.2) else if c = 93 then some ([v], r') else none
def parse : Nat → By → Option (Tr × By)
 | 0, s => (parseNum s).map fun q => (⟨q.1, []⟩, q.2)
 | d + 1, s =>
  match s with
  | [] => none
  | c :: r => if c = 91 then (match r with
   | [] => none
   | c' :: r' => if c' = 93 then some (⟨0, []⟩, r') else (parseL (parse d) (r.length + 1) r).map fun q => (⟨0, q.1⟩, q.2)) else none
def Ok : Nat → Tr → Prop
 | 0, t => t.n < 10007 ∧ t.parts = []
 | d + 1, t => t.n = 0 ∧ ∀ x ∈ t.parts, Ok d x
def nums : Nat → Tr → List Nat
 | 0, t => [t.n]
 | d + 1, t => (t.parts.map (nums d)).flatten

theorem join_cons (x y : By) (l : List By) : Lib.join (x :: y :: l) [44] = x ++ 44 :: Lib.join (y :: l) [44] := by
 simp [Lib.join, List.intercalate, List.intersperse]
theorem join_nil : Lib.join [] [44] = [] := rfl
theorem join_one (x : By) : Lib.join [x] [44] = x := by simp [Lib.join, List.intercalate]

theorem parseNum_sound {s : By} {v : Nat} {r : By} (h : parseNum s = some (v, r)) : s = Lib.decDigits v ++ r ∧ v < 10007 ∧ (∀ c l, r = c :: l → isD c = false) := by
 unfold parseNum at h
 split at h
 · next hc =>
   simp only [Option.some.injEq, Prod.mk.injEq] at h
   obtain ⟨rfl, rfl⟩ := h
   refine ⟨?_, hc.1, ?_⟩
   · rw [hc.2, List.takeWhile_append_dropWhile]
   · intro c l e
     have := List.head?_dropWhile_not isD s
     rw [e] at this
     simpa using this
 · cases h
theorem takeWhile_digits {ds r : By} (hd : ds.all isD = true) (hr : ∀ c l, r = c :: l → isD c = false) : (ds ++ r).takeWhile isD = ds ∧ (ds ++ r).dropWhile isD = r := by
 induction ds with
 | nil =>
  cases r with
  | nil => exact ⟨rfl, rfl⟩
  | cons c l =>
   have := hr c l rfl
   simp [this]
 | cons c l ih =>
  simp only [List.all_cons, Bool.and_eq_true] at hd
  obtain ⟨h1, h2⟩ := ih hd.2
  constructor
  · rw [List.cons_append, List.takeWhile_cons, if_pos hd.1, h1]
  · rw [List.cons_append, List.dropWhile_cons, if_pos hd.1, h2]
theorem parseNum_complete {v : Nat} {r : By} (h : v < 10007) (hr : ∀ c l, r = c :: l → isD c = false) : parseNum (Lib.decDigits v ++ r) = some (v, r) := by
 obtain ⟨h1, h2⟩ := takeWhile_digits (dec_all v) hr
 unfold parseNum
 rw [h1, h2, val_dec, if_pos ⟨h, rfl⟩]

theorem parseL_sound {α : Type} {p : By → Option (α × By)} {t : α → By} {ok : α → Prop} (hp : ∀ s v r, p s = some (v, r) → s = t v ++ r ∧ ok v) : ∀ (n : Nat) (s : By) (vs : List α) (r : By), parseL p n s = some (vs, r) → vs ≠ [] ∧ s = Lib.join (vs.map t) [44] ++ 93 :: r ∧ ∀ v ∈ vs, ok v := by
 intro n
 induction n with
 | zero => intro s vs r h; cases h
 | succ n ih =>
  intro s vs r h
  unfold parseL at h
  cases hps : p s with
  | none => rw [hps] at h; cases h
  | some q =>
   obtain ⟨v, rest⟩ := q
   rw [hps] at h
   obtain ⟨rfl, hv⟩ := hp _ _ _ hps
   cases rest with
   | nil => cases h
   | cons c r' =>
    simp only at h
    split at h
    · next hc =>
      subst hc
      cases hq : parseL p n r' with
      | none => rw [hq] at h; cases h
      | some q =>
       obtain ⟨ws, r2⟩ := q
       rw [hq] at h
       simp only [Option.map_some, Option.some.injEq, Prod.mk.injEq] at h
       obtain ⟨rfl, rfl⟩ := h
       obtain ⟨h1, h2, h3⟩ := ih _ _ _ hq
       obtain ⟨w, ws, rfl⟩ := List.exists_cons_of_ne_nil h1
       refine ⟨by simp, ?_, ?_⟩
       · rw [List.map_cons, List.map_cons, join_cons, h2]
         simp
       · intro x hx
         rcases List.mem_cons.1 hx with rfl | hx
         · exact hv
         · exact h3 x hx
    · split at h
      · next hc =>
        subst hc
        simp only [Option.some.injEq, Prod.mk.injEq] at h
        obtain ⟨rfl, rfl⟩ := h
        refine ⟨by simp, by simp [join_one], ?_⟩
        intro x hx
        obtain rfl := List.mem_singleton.1 hx
        exact hv
      · cases h
theorem parse_sound : ∀ (d : Nat) (s : By) (v : Tr) (r : By), parse d s = some (v, r) → s = text d v ++ r ∧ Ok d v
 | 0, s, v, r, h => by
  unfold parse at h
  obtain ⟨⟨n, q⟩, hq, h⟩ := Option.map_eq_some_iff.1 h
  simp only [Prod.mk.injEq] at h
  obtain ⟨rfl, rfl⟩ := h
  obtain ⟨h1, h2, _⟩ := parseNum_sound hq
  exact ⟨h1, h2, rfl⟩
 | d + 1, s, v, r, h => by
  unfold parse at h
  cases s with
  | nil => cases h
  | cons c s =>
   simp only at h
   by_cases hc : c = 91
   · subst hc
     rw [if_pos rfl] at h
     cases s with
     | nil => cases h
     | cons c' s =>
      simp only at h
      by_cases hc : c' = 93
      · subst hc
        rw [if_pos rfl] at h
        simp only [Option.some.injEq, Prod.mk.injEq] at h
        obtain ⟨rfl, rfl⟩ := h
        refine ⟨by simp [text, join_nil], rfl, ?_⟩
        intro x hx
        cases hx
      · rw [if_neg hc] at h
        obtain ⟨⟨xs, q⟩, hq, h⟩ := Option.map_eq_some_iff.1 h
        simp only [Prod.mk.injEq] at h
        obtain ⟨rfl, rfl⟩ := h
        obtain ⟨_, h2, h3⟩ := parseL_sound (t := text d) (ok := Ok d) (fun s v r h => parse_sound d s v r h) _ _ _ _ hq
        refine ⟨?_, rfl, h3⟩
        rw [h2]
        simp [text]
   · rw [if_neg hc] at h
     cases h
theorem text_head : ∀ (d : Nat) (v : Tr), ∃ c r, text d v = c :: r ∧ c ≠ 93 ∧ c ≠ 44
 | 0, v => by
  obtain ⟨c, r, e⟩ := List.exists_cons_of_ne_nil (dec_ne v.n)
  refine ⟨c, r, e, ?_⟩
  have := dec_all v.n
  rw [e] at this
  simp only [List.all_cons, Bool.and_eq_true, isD, decide_eq_true_eq] at this
  have hc := this.1
  constructor
  · rintro rfl; simp at hc
  · rintro rfl; simp at hc
 | d + 1, v => ⟨91, _, rfl, by decide, by decide⟩
theorem join_len {α : Type} (t : α → By) (ht : ∀ x, 0 < (t x).length) : ∀ xs : List α, xs.length ≤ (Lib.join (xs.map t) [44]).length
 | [] => Nat.le_refl _
 | [x] => by
  have := ht x
  rw [List.map_cons, List.map_nil, join_one]
  show 1 ≤ _
  exact this
 | x :: y :: l => by
  have := join_len t ht (y :: l)
  rw [List.map_cons, List.map_cons, join_cons]
  rw [List.map_cons] at this
  simp only [List.length_append, List.length_cons] at this ⊢
  omega
theorem parseL_complete {α : Type} {p : By → Option (α × By)} {t : α → By} {ok : α → Prop} (hp : ∀ v r, ok v → (∀ c l, r = c :: l → isD c = false) → p (t v ++ r) = some (v, r)) :
 ∀ (xs : List α) (n : Nat) (r : By), xs ≠ [] → xs.length ≤ n → (∀ x ∈ xs, ok x) → parseL p n (Lib.join (xs.map t) [44] ++ 93 :: r) = some (xs, r)
 | [], n, r, h, _, _ => absurd rfl h
 | [x], 0, r, _, h, _ => by simp at h
 | [x], n + 1, r, _, _, hk => by
  unfold parseL
  rw [List.map_cons, List.map_nil, join_one, hp x _ (hk x (by simp)) (by rintro c l e; obtain ⟨rfl, _⟩ := List.cons.inj e; rfl)]
  rfl
 | x :: y :: l, 0, r, _, h, _ => by simp at h
 | x :: y :: l, n + 1, r, _, h, hk => by
  have ih := parseL_complete hp (y :: l) n r (by simp) (by simp at h ⊢; omega) (fun z hz => hk z (List.mem_cons_of_mem _ hz))
  unfold parseL
  rw [List.map_cons, List.map_cons, join_cons, List.append_assoc, hp x _ (hk x (by simp)) (by rintro c l e; obtain ⟨rfl, _⟩ := List.cons.inj e; rfl)]
  rw [List.map_cons] at ih
  simp only [List.cons_append, if_true]
  rw [ih]
  rfl
theorem parse_complete : ∀ (d : Nat) (v : Tr) (r : By), Ok d v → (∀ c l, r = c :: l → isD c = false) → parse d (text d v ++ r) = some (v, r)
 | 0, v, r, h, hr => by
  obtain ⟨n, ps⟩ := v
  obtain ⟨h1, h2⟩ := h
  have h2' : ps = [] := h2
  subst h2'
  unfold parse text
  rw [parseNum_complete h1 hr]
  rfl
 | d + 1, v, r, h, hr => by
  obtain ⟨n, ps⟩ := v
  obtain ⟨h1, h⟩ := h
  have h1' : n = 0 := h1
  subst h1'
  unfold parse text
  simp only [List.cons_append, List.append_assoc, List.nil_append, if_true]
  cases ps with
  | nil => simp [join_nil]
  | cons x xs =>
   have hl := join_len (text d) (fun x => by obtain ⟨c, r, e, _⟩ := text_head d x; rw [e]; simp) (x :: xs)
   have hc := parseL_complete (p := parse d) (t := text d) (ok := Ok d) (fun v r h hr => parse_complete d v r h hr) (x :: xs) ((Lib.join (List.map (text d) (x :: xs)) [44] ++ 93 :: r).length + 1) r (by simp) (by simp only [List.length_append]; omega) h
   obtain ⟨c0, r0, h0, hne, _⟩ := text_head d x
   have hj : ∃ r1, Lib.join (List.map (text d) (x :: xs)) [44] = c0 :: r1 := by
    cases xs with
    | nil => exact ⟨r0, by rw [List.map_cons, List.map_nil, join_one, h0]⟩
    | cons y l => exact ⟨_, by rw [List.map_cons, List.map_cons, join_cons, h0]; rfl⟩
   obtain ⟨r1, hj⟩ := hj
   rw [hj] at hc ⊢
   simp only [List.cons_append, if_neg hne] at hc ⊢
   rw [hc]
   rfl
theorem text_inj {d : Nat} {v u : Tr} (hv : Ok d v) (hu : Ok d u) (h : text d v = text d u) : v = u := by
 have h1 := parse_complete d v [] hv (by intro c l e; cases e)
 have h2 := parse_complete d u [] hu (by intro c l e; cases e)
 rw [h, h2] at h1
 simpa using h1.symm

theorem Ev.pos {α : Type} {c : Prop} [Decidable c] {g f : Nat → Option α} {r : α} (hc : c) (h : Ev g r) : Ev (fun k => if c then g k else f k) r := by
 simpa only [if_pos hc] using h
theorem Ev.neg {α : Type} {c : Prop} [Decidable c] {g f : Nat → Option α} {r : α} (hc : ¬ c) (h : Ev f r) : Ev (fun k => if c then g k else f k) r := by
 simpa only [if_neg hc] using h
section
variable {α : Type} {c : Prop} [Decidable c] {g f : Nat → Option α} {r : α}
theorem eP (h : Ev g r) (hc : c := by simp) : Ev (fun k => if c then g k else f k) r := Ev.pos hc h
theorem eO (h : Ev g r) (hc : c := by omega) : Ev (fun k => if c then g k else f k) r := Ev.pos hc h
theorem eN (h : Ev f r) (hc : ¬ c := by simp) : Ev (fun k => if c then g k else f k) r := Ev.neg hc h
theorem eM (h : Ev f r) (hc : ¬ c := by omega) : Ev (fun k => if c then g k else f k) r := Ev.neg hc h
end
theorem Ev.val {α : Type} {a r : α} (h : a = r) : Ev (fun _ => some a) r := h ▸ Ev.now a
theorem evIs {α : Type} {g : Nat → Option α} {a r : α} (k : Ev g a) (h : a = r) : Ev g r := h ▸ k

theorem Ev.step' {α : Type} {g : Nat → Option α} {r : α} (k : Ev (fun k => g (k + 1)) r) : Ev g r := Ev.step (fun _ => rfl) k
theorem EvS {α : Type} {g : Nat → Option α} {r : α} (k : Ev (fun k => g (k + 1)) r) : Ev g r := Ev.step' k
theorem Ev.call {α β : Type} {g : Option α} {f : Nat → α → Option β} {a : α} {r : β} (h : g = some a) (k : Ev (fun n => f n a) r) : Ev (fun n => g.bind (f n)) r := Ev.bind ⟨0, fun _ _ => h⟩ k

theorem loop_toList (b : ByteArray) : ∀ (n i : Nat) (r : By), b.size - i = n → ByteArray.toList.loop b i r = r.reverse ++ b.data.toList.drop i := by
 intro n
 induction n with
 | zero =>
  intro i r h
  unfold ByteArray.toList.loop
  have hs : b.data.toList.length = b.size := by rw [Array.length_toList]; rfl
  rw [if_neg (by omega), List.drop_eq_nil_of_le (by omega), List.append_nil]
 | succ n ih =>
  intro i r h
  unfold ByteArray.toList.loop
  have hs : b.data.toList.length = b.size := by rw [Array.length_toList]; rfl
  have hi : i < b.data.toList.length := by omega
  rw [if_pos (by omega), ih (i + 1) _ (by omega), List.drop_eq_getElem_cons hi]
  have hg : b.get! i = b.data.toList[i] := by
   show b.data[i]! = _
   have hi' : i < b.data.size := by rw [Array.length_toList] at hi; exact hi
   rw [getElem!_pos b.data i hi', Array.getElem_toList]
  rw [hg]
  simp
theorem toList_eq (b : ByteArray) : b.toList = b.data.toList := by
 show ByteArray.toList.loop b 0 [] = _
 rw [loop_toList b _ 0 [] rfl]
 simp
@[simp] theorem toList_BA (l : By) : (BA l).toList = l := by rw [toList_eq, data_BA]
theorem wrapS {a : Int} (h0 : -9000000000000000000 ≤ a) (h1 : a ≤ 9000000000000000000) : wrap64 a = a := by unfold wrap64; omega
theorem itoa_nat (n : Nat) : Lib.itoa (n : Int) = Lib.decDigits n := by
 unfold Lib.itoa
 rw [if_neg (by omega), Int.toNat_natCast]
theorem isD_iff (c : UInt8) : isD c = true ↔ 48 ≤ c.toNat ∧ c.toNat ≤ 57 := by simp [isD]
end Go.Proofs.YtjkngiciigdheaaGreatDoor.Q
