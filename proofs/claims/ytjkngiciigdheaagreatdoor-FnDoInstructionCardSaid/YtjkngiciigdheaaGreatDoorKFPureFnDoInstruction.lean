/- An instruction does to each array what its sign gives, whatever other arrays the vector has. -/
import Derived.Test.YtjkngiciigdheaaGreatDoorKFP1
import Derived.Test.YtjkngiciigdheaaGreatDoorKFx5
import Derived.Test.YtjkngiciigdheaaGreatDoorKFx7
import Derived.Test.YtjkngiciigdheaaGreatDoorKFx1
import Derived.Test.YtjkngiciigdheaaGreatDoorKFx2
import Derived.Test.YtjkngiciigdheaaGreatDoorKFQbase
import Derived.Test.YtjkngiciigdheaaGreatDoorKFx9
namespace Go.Proofs.YtjkngiciigdheaaGreatDoor.K
open Go.RowKit Go.Proofs.YtjkngiciigdheaaGreatDoorW.PrintWords Go.Proofs.YtjkngiciigdheaaGreatDoorW.PrintLast Go.Proofs.YtjkngiciigdheaaGreatDoorW.PrintMore Go.Proofs.YtjkngiciigdheaaGreatDoor.Q
set_option linter.unusedSimpArgs false
set_option linter.unusedVariables false
abbrev SV := S31
def mkV (v : V3) : SV := ⟨v.1, ⟨v.2.1, v.2.2⟩⟩
abbrev noV : Vec := (0, [], [], false)
abbrev okV (v : V3) : Vec := (v.1, v.2.1, v.2.2, true)
theorem lit_one : (⟨#[83, 77, 73, 78, 82, 67, 80]⟩ : ByteArray) = BA [83, 77, 73, 78, 82, 67, 80] := rfl
theorem lit_two : (⟨#[43, 42, 94, 45, 61, 60, 64]⟩ : ByteArray) = BA [43, 42, 94, 45, 61, 60, 64] := rfl
theorem kind_one (c : UInt8) : ∃ r, Ev (fun k => spec_l7Kind.f k (BA [c])) r ∧ (r = 83 ↔ c ∈ ([83, 77, 73, 78, 82, 67, 80] : By)) ∧ (r = 43 ↔ c ∈ ([43, 42, 94, 45, 61, 60, 64] : By)) := by
 obtain ⟨r1, f1, g1⟩ := find_is [83, 77, 73, 78, 82, 67, 80] (by simp) c
 obtain ⟨r2, f2, g2⟩ := find_is [43, 42, 94, 45, 61, 60, 64] (by simp) c
 have hb : bt (BA [c]) 0 = (c.toNat : Int) := bt_BA _ _
 have hlt : c.toNat < 256 := c.toNat_lt
 have hw : wrap64 (c.toNat : Int) = (c.toNat : Int) := wrapS (by omega) (by omega)
 have hin : ∀ x : UInt8, x ∈ ([83, 77, 73, 78, 82, 67, 80] : By) ∨ x ∈ ([43, 42, 94, 45, 61, 60, 64] : By) → ¬ (48 ≤ x.toNat ∧ x.toNat ≤ 57) ∧ x.toNat ≠ 97 ∧ x.toNat ≠ 98 ∧ ¬ (118 ≤ x.toNat ∧ x.toNat ≤ 122) := by
  intro x hx
  simp only [List.mem_cons, List.not_mem_nil, or_false] at hx
  rcases hx with (rfl | rfl | rfl | rfl | rfl | rfl | rfl) | (rfl | rfl | rfl | rfl | rfl | rfl | rfl) <;> decide
 have hdis : ∀ x : UInt8, x ∈ ([83, 77, 73, 78, 82, 67, 80] : By) → x ∉ ([43, 42, 94, 45, 61, 60, 64] : By) := by
  intro x hx
  simp only [List.mem_cons, List.not_mem_nil, or_false] at hx
  rcases hx with rfl | rfl | rfl | rfl | rfl | rfl | rfl <;> decide
 have out : ∀ {r : Int}, Ev (fun k => spec_l7Kind.j0 k (BA [c]) false) r → Ev (fun k => spec_l7Kind.f k (BA [c])) r := fun h => by
  unfold spec_l7Kind.f
  exact Ev.neg (by rw [BA_size]; simp) h
 have var : (48 ≤ c.toNat ∧ c.toNat ≤ 57 ∨ c.toNat = 97 ∨ c.toNat = 98 ∨ 118 ≤ c.toNat ∧ c.toNat ≤ 122) → ∃ r, Ev (fun k => spec_l7Kind.f k (BA [c])) r ∧ (r = 83 ↔ c ∈ ([83, 77, 73, 78, 82, 67, 80] : By)) ∧ (r = 43 ↔ c ∈ ([43, 42, 94, 45, 61, 60, 64] : By)) := by
  intro hv
  have hj : Ev (fun k => spec_l7Kind.j1 k (BA [c]) true) 97 := by
   refine EvS ?_; simp only [spec_l7Kind.j1]
   exact Ev.pos (by first | trivial | rfl) (Ev.now _)
  refine ⟨97, out ?_, ⟨fun h => by omega, fun h => ?_⟩, ⟨fun h => by omega, fun h => ?_⟩⟩
  · refine EvS ?_; simp only [spec_l7Kind.j0]
    refine eN (eP (eP ?_))
    rw [hb, hw]
    refine Ev.call (inN_is _ _ _) ?_
    by_cases h1 : (48 : Int) ≤ (c.toNat : Int) ∧ (c.toNat : Int) ≤ 57
    · exact Ev.pos (decide_eq_true h1) hj
    · refine Ev.neg (by rw [decide_eq_true_eq]; exact h1) ?_
      by_cases h2 : (c.toNat : Int) = 97
      · exact Ev.pos h2 hj
      · refine Ev.neg h2 ?_
        by_cases h3 : (c.toNat : Int) = 98
        · exact Ev.pos h3 hj
        · refine Ev.neg h3 (Ev.call (inN_is _ _ _) ?_)
          rw [decide_eq_true (show (118 : Int) ≤ (c.toNat : Int) ∧ (c.toNat : Int) ≤ 122 by omega)]
          exact hj
  · have := hin c (.inl h)
    omega
  · have := hin c (.inr h)
    omega
 by_cases hv : 48 ≤ c.toNat ∧ c.toNat ≤ 57 ∨ c.toNat = 97 ∨ c.toNat = 98 ∨ 118 ≤ c.toNat ∧ c.toNat ≤ 122
 · exact var hv
 have go : ∀ {r : Int}, Ev (fun k => spec_l7Kind.j1 k (BA [c]) false) r → Ev (fun k => spec_l7Kind.f k (BA [c])) r := fun h => by
  refine out ?_
  refine EvS ?_; simp only [spec_l7Kind.j0]
  refine eN (eP (eP ?_))
  rw [hb, hw]
  refine Ev.call (inN_is _ _ _) (Ev.neg (by rw [decide_eq_true_eq]; omega) (eM (eM (Ev.call (inN_is _ _ _) ?_))))
  rw [decide_eq_false (show ¬ ((118 : Int) ≤ (c.toNat : Int) ∧ (c.toNat : Int) ≤ 122) by omega)]
  exact h
 by_cases h1 : c ∈ ([83, 77, 73, 78, 82, 67, 80] : By)
 · refine ⟨83, go ?_, ⟨fun _ => h1, fun _ => rfl⟩, ⟨fun h => by omega, fun h => absurd h (hdis c h1)⟩⟩
   refine EvS ?_; simp only [spec_l7Kind.j1]
   rw [hb, lit_one]
   exact eN (eP (Ev.bind f1 (Ev.pos (by have := mt g1.1; simp only [Classical.not_not] at this; have := this h1; omega) (Ev.now _))))
 by_cases h2 : c ∈ ([43, 42, 94, 45, 61, 60, 64] : By)
 · refine ⟨43, go ?_, ⟨fun h => by omega, fun h => absurd h h1⟩, ⟨fun _ => h2, fun _ => rfl⟩⟩
   refine EvS ?_; simp only [spec_l7Kind.j1]
   rw [hb, lit_one, lit_two]
   exact eN (eP (Ev.bind f1 (Ev.neg (by have := g1.2 h1; omega) (Ev.bind f2 (Ev.pos (by have := mt g2.1; simp only [Classical.not_not] at this; have := this h2; omega) (Ev.now _))))))
 have fin : ∀ {r : Int}, Ev (fun k => if bt (BA [c]) 0 = 93 then (some 93 : Option Int) else (if bt (BA [c]) 0 = 125 then some 93 else some 0)) r → Ev (fun k => spec_l7Kind.f k (BA [c])) r := fun h => by
  refine go ?_
  refine EvS ?_; simp only [spec_l7Kind.j1]
  refine eN (eP ?_)
  rw [lit_one, lit_two]
  rw [hb] at h ⊢
  exact Ev.bind f1 (Ev.neg (by have := g1.2 h1; omega) (Ev.bind f2 (Ev.neg (by have := g2.2 h2; omega) h)))
 by_cases h3 : bt (BA [c]) 0 = 93 ∨ bt (BA [c]) 0 = 125
 · refine ⟨93, fin ?_, ⟨fun h => by omega, fun h => absurd h h1⟩, ⟨fun h => by omega, fun h => absurd h h2⟩⟩
   by_cases h4 : bt (BA [c]) 0 = 93
   · exact Ev.pos h4 (Ev.now _)
   · exact Ev.neg h4 (eO (Ev.now _))
 · exact ⟨0, fin (eM (eM (Ev.now _))), ⟨fun h => by omega, fun h => absurd h h1⟩, ⟨fun h => by omega, fun h => absurd h h2⟩⟩
theorem kind_no (s : By) (h : s.length ≠ 1) : ∃ r, Ev (fun k => spec_l7Kind.f k (BA s)) r ∧ r ≠ 83 ∧ r ≠ 43 := by
 have hj : ∀ b : Bool, ∃ r, Ev (fun k => spec_l7Kind.j0 k (BA s) b) r ∧ r ≠ 83 ∧ r ≠ 43 := fun b => by
  cases b with
  | true =>
   refine ⟨91, ?_, by omega, by omega⟩
   refine EvS ?_; simp only [spec_l7Kind.j0]
   exact Ev.pos (by first | trivial | rfl) (Ev.now _)
  | false =>
   refine ⟨0, ?_, by omega, by omega⟩
   refine EvS ?_; simp only [spec_l7Kind.j0]
   exact eN (Ev.neg (by rw [BA_size]; omega) (Ev.now _))
 unfold spec_l7Kind.f
 by_cases h2 : ((BA s).size : Int) = 2
 · obtain ⟨r1, a1, b1⟩ := hj (decide ((118 : Int) ≤ wrap64 (bt (BA s) 1) ∧ wrap64 (bt (BA s) 1) ≤ 122))
   by_cases h3 : bt (BA s) 0 = 91
   · exact ⟨r1, Ev.pos h2 (eO (Ev.pos h3 (eO (Ev.call (inN_is _ _ _) a1)))), b1⟩
   · by_cases h4 : bt (BA s) 0 = 123
     · exact ⟨r1, Ev.pos h2 (eO (Ev.neg h3 (Ev.pos h4 (eO (Ev.call (inN_is _ _ _) a1))))), b1⟩
     · obtain ⟨r, a, b⟩ := hj false
       exact ⟨r, Ev.pos h2 (eO (Ev.neg h3 (Ev.neg h4 a))), b⟩
 · obtain ⟨r, a, b⟩ := hj false
   exact ⟨r, Ev.neg h2 a, b⟩
theorem sd_two_ne (c : UInt8) (d e : Nat) (hd : d ≤ 3) (he : e ≠ 0) : impl_signDepth.f 20 (BA [c]) [(d : Int), (e : Int)] = some (-1) := by
 have e0 : rd [(d : Int), (e : Int)] 0 = (d : Int) := rfl
 have e1 : rd [(d : Int), (e : Int)] 1 = (e : Int) := rfl
 have hn : ¬ (d : Int) < 0 := by omega
 have hz : ¬ (e : Int) = 0 := by omega
 simp [impl_signDepth.f, impl_signDepth.j0, e0, e1, hn, hz, he]
theorem j1A_no (s : ByteArray) (vs : List SV) (g : Int) : Ev (fun k => impl_DoInstruction.j1 k s vs g true) noV := by
 refine EvS ?_; simp only [impl_DoInstruction.j1]
 exact Ev.pos (by first | trivial | rfl) (Ev.now _)
structure Tv (d : Nat) (ts : List Tr) (v : V3) : Prop where
 ok : ∀ t ∈ ts, Ok d t
 eq : v = vec d ts
 d3 : d ≤ 3
 len : ts.length ≤ 2000
 sum : (ts.map (nodes d)).sum ≤ 10000
 val : vok v.1 v.2.1 v.2.2 = true
 row : ∀ r ∈ v.2.1, r.length ≤ 2000
 dat : v.2.2.length ≤ 2000
theorem tv_of (v : V3) (hL : v.2.1.length ≤ 3) (hb : ∀ r ∈ v.2.1, r.length ≤ 1600) (hD : v.2.2.length ≤ 1601) (hval : vok v.1 v.2.1 v.2.2 = true) : ∃ d ts, Tv d ts v := by
 obtain ⟨c, L, D⟩ := v
 obtain ⟨ts, t1, t2, t3, t4, t5, t6, t7⟩ := vok_trees hval
 have hs := sum_bd 1600 (L.map List.length) (fun x hx => by
  obtain ⟨r, hr, rfl⟩ := List.mem_map.1 hx
  exact hb r hr)
 rw [List.length_map] at hs
 simp only at hL hD hb
 have t7' : (ts.map (nodes L.length)).sum = (L.map List.length).sum + D.length := t7
 clear t7
 have hs' : (L.map List.length).sum ≤ L.length * 1600 := hs
 clear hs
 refine ⟨L.length, ts, t1, ?_, t5, t6, by omega, hval, fun r hr => Nat.le_trans (hb r hr) (by omega), by simp only; omega⟩
 show (c, L, D) = ((ts.length : Int), (lvl L.length ts).map ints, ints (datN L.length ts))
 rw [← t2, ← t3, ← t4]
section
variable {d : Nat} {ts : List Tr} {v : V3} (h : Tv d ts v)
include h
theorem Tv.dl : v.2.1.length = d := by rw [h.eq]; show ((lvl d ts).map ints).length = d; rw [List.length_map, lvl_len]
theorem Tv.c : v.1 = (ts.length : Int) := by rw [h.eq]
theorem Tv.vA : Ev (fun k => impl_VectorValid.f k (mkV v).f0 (mkV v).f1.f0 (mkV v).f1.f1) true := by
 have := validA v.1 v.2.1 v.2.2 (by rw [h.dl]; have := h.d3; omega) h.row h.dat
 rw [h.val] at this
 exact this
theorem Tv.vS : Ev (fun k => spec_VectorValid.f k (mkV v).f0 (mkV v).f1.f0 (mkV v).f1.f1) true := by
 have := validS v.1 v.2.1 v.2.2 (by rw [h.dl]; have := h.d3; omega) h.row h.dat
 rw [h.val] at this
 exact this
theorem Tv.arr : Ev (fun k => impl_Vector_arrays.f k (mkV v).f0 (mkV v).f1.f0 (mkV v).f1.f1) (ts.map (cA d)) := by
 obtain ⟨hok, rfl, hd, hl, hs, _, _, _⟩ := h
 have := raised_isL hok hs hd (by omega) (ts.length : Int)
 unfold impl_Vector_arrays.f
 exact Ev.bind this (Ev.now _)
theorem Tv.unp : Ev (fun k => impl_UnpackVector.f k (mkV v).f0 (mkV v).f1.f0 (mkV v).f1.f1) (unpR d ts) := by
 obtain ⟨hok, rfl, hd, hl, hs, hval, hrow, hdat⟩ := h
 have vA := validA (ts.length : Int) ((lvl d ts).map ints) (ints (datN d ts)) (by rw [List.length_map, lvl_len]; omega) hrow hdat
 have hv : vok (ts.length : Int) ((lvl d ts).map ints) (ints (datN d ts)) = true := hval
 rw [hv] at vA
 have rA := raised_isL hok hs hd (by omega) (ts.length : Int)
 have uA := unpA_l0 hd hok (by omega) hl (ts.length : Int) ((lvl d ts).map ints) (ints (datN d ts)) (by rw [List.length_map, lvl_len]) _ 0 rfl (Nat.zero_le _) (fun t ht => by cases ht)
 unfold impl_UnpackVector.f impl_Vector_arrays.f
 exact Ev.bind vA (Ev.pos rfl (Ev.bind (Ev.bind rA (Ev.now _)) uA))
end
theorem eg_le {c : UInt8} {d : Nat} (hd : d ≤ 3) (hg : ¬ sg1 c (d : Int) < 0) : eg c d ≤ 3 := by
 rcases sg_dep hg with ⟨_, _, he⟩ | ⟨_, _, he⟩ | ⟨_, _, he⟩ | ⟨_, ⟨_, _⟩, he⟩ | ⟨_, ⟨_, _⟩, he⟩ | ⟨_, _, _, he⟩ <;> omega
theorem sum_gv1 {c : UInt8} {d : Nat} {ts : List Tr} {v : V3} (h : Tv d ts v) (hg : ¬ sg1 c (d : Int) < 0) : ((ts.map (gv1 c)).map (nodes (eg c d))).sum ≤ 100000 := by
 have hnod : ∀ t ∈ ts, nodes d t ≤ 10000 := fun t ht => Nat.le_trans (sum_mem (nodes d) ts t ht) h.sum
 have key : ∀ l : List Tr, (∀ t ∈ l, Ok d t ∧ nodes d t ≤ 10000) → ((l.map (gv1 c)).map (nodes (eg c d))).sum ≤ (l.map (nodes d)).sum + 13 * l.length := by
  intro l
  induction l with
  | nil => intro _; simp
  | cons t l ih =>
   intro hl
   have h1 := ih (fun x hx => hl x (List.mem_cons_of_mem _ hx))
   obtain ⟨q1, q2⟩ := hl t List.mem_cons_self
   have h2 := (gv1_is q1 (Nat.le_trans q2 (by decide)) hg).2.1
   simp only [List.map_cons, List.sum_cons, List.length_cons]
   omega
 have h1 := key ts (fun t ht => ⟨h.ok t ht, hnod t ht⟩)
 have h2 := h.sum
 have h3 := h.len
 omega
theorem vec_bd (e : Nat) (us : List Tr) (hok : ∀ t ∈ us, Ok e t) (hn : (us.map (nodes e)).sum ≤ 1000000) : (vec e us).2.1.length = e ∧ (∀ r ∈ (vec e us).2.1, r.length ≤ 1000000) ∧ (vec e us).2.2.length ≤ 1000000 := by
 obtain ⟨h1, h2, _⟩ := lvl_dz hok hn (Nat.le_refl _)
 exact ⟨by show ((lvl e us).map ints).length = e; rw [List.length_map, lvl_len], fun r hr => (h1 r hr).1, h2⟩
theorem zip_bd {c : UInt8} {d : Nat} {ts us : List Tr} {v : V3} (h : Tv d ts v) (hl : ts.length = us.length) : ((List.zipWith (gv2 c) ts us).map (nodes 0)).sum ≤ 100000 := by
 have hzl : (List.zipWith (gv2 c) ts us).length = ts.length := by rw [List.length_zipWith, ← hl, Nat.min_self]
 have key : ∀ l : List Tr, (l.map (nodes 0)).sum = l.length := by
  intro l
  induction l with
  | nil => rfl
  | cons x l ih =>
   rw [List.map_cons, List.sum_cons, ih, List.length_cons]
   show 1 + _ = _
   omega
 rw [key, hzl]
 exact Nat.le_trans h.len (by decide)
theorem rdA8 (x14 : Nat) (r : List NA) : rd_T70 r (x14 : Int) = r.getD x14 z70 := rfl
theorem doA_l3 (s : ByteArray) (x9 : Int) (x13 : List NA) (i : Nat) (x74 x75 : Int) (rows : List (List NA)) (hr : rows.length ≤ 1000) (hrow : ∀ r ∈ rows, i < r.length) {R : Vec}
 (h : Ev (fun k => (impl_give.f k s (rows.map fun r => r.getD i z70)).bind fun bt603 => (if x13.length < 4398046511104 then (impl_DoInstruction.l2 k s x9 rows (x13 ++ [(⟨bt603.1, bt603.2⟩ : NA)]) x74 (wrap64 (x75 + 1))) else none)) R) : ∀ (rest done : List (List NA)), rows = done ++ rest →
 Ev (fun k => impl_DoInstruction.l3 k s x9 rows x13 (i : Int) (done.map fun r => r.getD i z70) x74 x75 rows (rows.length : Int) ((done.length : Nat) : Int)) R := by
 intro rest
 induction rest with
 | nil =>
  intro done h1
  rw [List.append_nil] at h1
  subst h1
  refine EvS ?_; simp only [impl_DoInstruction.l3]
  exact eM h
 | cons r rest ih =>
  intro done h1
  have hi : done.length < rows.length := by rw [h1]; simp
  have hat : rd_L8 rows ((done.length : Nat) : Int) = r := by
   show rows.getD done.length [] = r
   rw [List.getD_eq_getElem?_getD, List.getElem?_eq_getElem hi]
   simp [h1]
  have hir := hrow r (by rw [h1]; simp)
  have hnext := ih (done ++ [r]) (by rw [h1]; simp)
  rw [List.map_append, List.length_append] at hnext
  refine EvS ?_; simp only [impl_DoInstruction.l3]
  rw [hat, mkA, rdA8]
  refine eO (eO (eO (eO (eO (Ev.pos (by rw [List.length_map]; omega) ?_)))))
  rw [wrapS (by omega) (by omega)]
  exact hnext
theorem doA_l2 (s : ByteArray) (e : Nat) (he : e ≤ 3) (rows : List (List NA)) (hr : rows.length ≤ 1000) (us : List Tr) (hul : us.length ≤ 1000000) (hus : (us.map (nodes e)).sum ≤ 1000000) (hrow : ∀ r ∈ rows, r.length = us.length)
 (hg : ∀ (i : Nat) (hi : i < us.length), Ev (fun k => impl_give.f k s (rows.map fun r => r.getD i z70)) ((cA e us[i]).f0, (cA e us[i]).f1)) : ∀ (n i : Nat), us.length - i = n → i ≤ us.length →
 Ev (fun k => impl_DoInstruction.l2 k s (e : Int) rows ((us.take i).map (cA e)) (us.length : Int) (i : Int)) (okV (vec e us)) := by
 intro n
 induction n with
 | zero =>
  intro i h1 h2
  have hl := laidL_is e he us hul hus
  refine EvS ?_; simp only [impl_DoInstruction.l2]
  refine eM ?_
  rw [List.take_of_length_le (by omega)]
  refine Ev.bind hl (Ev.val ?_)
  rw [List.length_map]
 | succ n ih =>
  intro i h1 h2
  have hi : i < us.length := by omega
  have hnext := ih (i + 1) (by omega) (by omega)
  rw [take_snoc _ _ hi, List.map_append] at hnext
  have h3 := doA_l3 s (e : Int) ((us.take i).map (cA e)) i (us.length : Int) (i : Int) rows hr (fun r hr => by rw [hrow r hr]; exact hi) (R := okV (vec e us)) (Ev.bind (hg i hi) (Ev.pos (by rw [List.length_map, List.length_take]; omega) (by
   rw [wrapS (by omega) (by omega)]
   dsimp only
   rw [mkA]
   exact hnext))) rows [] rfl
  refine EvS ?_; simp only [impl_DoInstruction.l2]
  exact eO h3
theorem doA_one {d : Nat} {ts : List Tr} {v : V3} (h : Tv d ts v) (s : ByteArray) {R : Vec} (hk : Ev (fun k => (impl_signDepth.f k s [(d : Int)]).bind fun t573 => (if (s.size : Int) = 1 then (impl_DoInstruction.j1 k s [mkV v] t573 (decide (t573 < 0))) else (impl_DoInstruction.j1 k s [mkV v] t573 true))) R) : Ev (fun k => impl_DoInstruction.f k s [mkV v]) R := by
 unfold impl_DoInstruction.f
 have hd : (((rd_T31 [mkV v] 0).f1.f0).length : Int) = (d : Int) := by
  show (v.2.1.length : Int) = _
  rw [h.dl]
 refine EvS ?_; simp only [impl_DoInstruction.l0]
 refine eP (eO (eP (Ev.bind h.vA (Ev.pos rfl (eP (Ev.pos (by first | trivial | rfl) (eP ?_)))))))
 rw [hd, w1]
 refine EvS ?_; simp only [impl_DoInstruction.l0]
 exact eN hk
theorem doA_inv {v : V3} (vs : List SV) (hv : Ev (fun k => impl_VectorValid.f k (mkV v).f0 (mkV v).f1.f0 (mkV v).f1.f1) false) (s : ByteArray) : Ev (fun k => impl_DoInstruction.f k s (mkV v :: vs)) noV := by
 unfold impl_DoInstruction.f
 refine EvS ?_; simp only [impl_DoInstruction.l0]
 exact eP (eO (eP (Ev.bind hv (eN (Ev.now _)))))
theorem doA_go1 {d : Nat} {ts : List Tr} {v : V3} (h : Tv d ts v) (c : UInt8) (hg : ¬ sg1 c (d : Int) < 0) : Ev (fun k => impl_DoInstruction.f k (BA [c]) [mkV v]) (okV (vec (eg c d) (ts.map (gv1 c)))) := by
 have hsd := sd1_ev c d h.d3
 have he : sg1 c (d : Int) = (eg c d : Int) := by unfold eg; omega
 have he3 := eg_le h.d3 hg
 have hnod : ∀ t ∈ ts, nodes d t ≤ 10000 := fun t ht => Nat.le_trans (sum_mem (nodes d) ts t ht) h.sum
 have hus := Nat.le_trans (sum_gv1 h hg) (show 100000 ≤ 1000000 by decide)
 have h2 := doA_l2 (BA [c]) (eg c d) he3 [ts.map (cA d)] (by simp) (ts.map (gv1 c)) (by rw [List.length_map]; have := h.len; omega) hus (fun r hr => by rw [List.mem_singleton.1 hr, List.length_map, List.length_map]) (fun i hi => by
  rw [List.length_map] at hi
  have h1 := (gv1_is (h.ok _ (List.getElem_mem hi)) (Nat.le_trans (hnod _ (List.getElem_mem hi)) (by decide)) hg).2.2
  rw [List.getElem_map]
  have e : ([ts.map (cA d)].map fun r => r.getD i z70) = [cA d ts[i]] := by
   rw [List.map_singleton, List.getD_eq_getElem?_getD, List.getElem?_map, List.getElem?_eq_getElem hi]
   rfl
  rw [e]
  exact h1) _ 0 rfl (Nat.zero_le _)
 refine doA_one h (BA [c]) (Ev.bind hsd (eP ?_))
 rw [decide_eq_false hg, he]
 refine EvS ?_; simp only [impl_DoInstruction.j1]
 refine eN ?_
 refine EvS ?_; simp only [impl_DoInstruction.l1]
 refine eP (eO (eP (Ev.bind h.arr (eP ?_))))
 rw [w1]
 refine EvS ?_; simp only [impl_DoInstruction.l1]
 refine eN (eP ?_)
 have hc : (rd_T31 [mkV v] 0).f0 = ((ts.map (gv1 c)).length : Int) := by
  show v.1 = _
  rw [h.c, List.length_map]
 rw [hc]
 exact h2
theorem doA_two {d e : Nat} {ts us : List Tr} {v w : V3} (h : Tv d ts v) (hw : Tv e us w) (hl : ts.length = us.length) (s : ByteArray) {R : Vec} (hk : Ev (fun k => (impl_signDepth.f k s [(d : Int), (e : Int)]).bind fun t573 => (if (s.size : Int) = 1 then (impl_DoInstruction.j1 k s [mkV v, mkV w] t573 (decide (t573 < 0))) else (impl_DoInstruction.j1 k s [mkV v, mkV w] t573 true))) R) : Ev (fun k => impl_DoInstruction.f k s [mkV v, mkV w]) R := by
 unfold impl_DoInstruction.f
 have hd : (((rd_T31 [mkV v, mkV w] 0).f1.f0).length : Int) = (d : Int) := by
  show (v.2.1.length : Int) = _
  rw [h.dl]
 have he : (((rd_T31 [mkV v, mkV w] 1).f1.f0).length : Int) = (e : Int) := by
  show (w.2.1.length : Int) = _
  rw [hw.dl]
 have hcc : (rd_T31 [mkV v, mkV w] 1).f0 = (rd_T31 [mkV v, mkV w] 0).f0 := by
  show w.1 = v.1
  rw [h.c, hw.c, hl]
 refine EvS ?_; simp only [impl_DoInstruction.l0]
 refine eP (eO (eP (Ev.bind h.vA (Ev.pos rfl (eP (Ev.pos (by first | trivial | rfl) (eP ?_)))))))
 rw [hd, w1]
 refine EvS ?_; simp only [impl_DoInstruction.l0]
 refine eP (eO (eP (Ev.bind hw.vA (Ev.pos rfl (eP (Ev.pos hcc (eP ?_)))))))
 rw [he, w2]
 refine EvS ?_; simp only [impl_DoInstruction.l0]
 exact eN hk
theorem doA_two_no {d : Nat} {ts : List Tr} {v w : V3} (h : Tv d ts v) (hw : Ev (fun k => impl_VectorValid.f k (mkV w).f0 (mkV w).f1.f0 (mkV w).f1.f1) false ∨ (Ev (fun k => impl_VectorValid.f k (mkV w).f0 (mkV w).f1.f0 (mkV w).f1.f1) true ∧ w.1 ≠ v.1)) (s : ByteArray) : Ev (fun k => impl_DoInstruction.f k s [mkV v, mkV w]) noV := by
 unfold impl_DoInstruction.f
 refine EvS ?_; simp only [impl_DoInstruction.l0]
 refine eP (eO (eP (Ev.bind h.vA (Ev.pos rfl (eP (Ev.pos (by first | trivial | rfl) (eP ?_)))))))
 rw [w1]
 refine EvS ?_; simp only [impl_DoInstruction.l0]
 refine eP (eO (eP ?_))
 rcases hw with hw | ⟨hw, hne⟩
 · exact Ev.bind hw (eN (Ev.now _))
 · exact Ev.bind hw (Ev.pos rfl (eP (Ev.neg hne (Ev.now _))))
theorem doA_go2 {d : Nat} {ts us : List Tr} {v w : V3} (h : Tv d ts v) (hw : Tv 0 us w) (hl : ts.length = us.length) (c : UInt8) (hg : ¬ sg2 c (d : Int) < 0) : Ev (fun k => impl_DoInstruction.f k (BA [c]) [mkV v, mkV w]) (okV (vec 0 (List.zipWith (gv2 c) ts us))) := by
 have hsd := sd2_ev c d h.d3
 have he : sg2 c (d : Int) = 0 := by
  unfold sg2 at hg ⊢
  split
  · rfl
  · next h => rw [if_neg h] at hg; exact absurd (by decide) hg
 have hzl : (List.zipWith (gv2 c) ts us).length = ts.length := by rw [List.length_zipWith]; omega
 have hus := Nat.le_trans (zip_bd (c := c) h hl) (show 100000 ≤ 1000000 by decide)
 have h2 := doA_l2 (BA [c]) 0 (by omega) [ts.map (cA d), us.map (cA 0)] (by simp) (List.zipWith (gv2 c) ts us) (by rw [hzl]; have := h.len; omega) hus (fun r hr => by
  rw [hzl]
  rcases List.mem_cons.1 hr with rfl | hr
  · rw [List.length_map]
  · rw [List.mem_singleton.1 hr, List.length_map, hl]) (fun i hi => by
  rw [hzl] at hi
  have hi2 : i < us.length := by omega
  have h1 := (gv2_is (h.ok _ (List.getElem_mem hi)) (hw.ok _ (List.getElem_mem hi2)) hg).2
  rw [List.getElem_zipWith]
  have e : ([ts.map (cA d), us.map (cA 0)].map fun r => r.getD i z70) = [cA d ts[i], cA 0 us[i]] := by
   rw [List.map_cons, List.map_singleton, List.getD_eq_getElem?_getD, List.getElem?_map, List.getElem?_eq_getElem hi, List.getD_eq_getElem?_getD, List.getElem?_map, List.getElem?_eq_getElem hi2]
   rfl
  rw [e]
  exact h1) _ 0 rfl (Nat.zero_le _)
 refine doA_two h hw hl (BA [c]) (Ev.bind hsd (eP ?_))
 rw [decide_eq_false hg, he]
 refine EvS ?_; simp only [impl_DoInstruction.j1]
 refine eN ?_
 refine EvS ?_; simp only [impl_DoInstruction.l1]
 refine eP (eO (eP (Ev.bind h.arr (eP ?_))))
 rw [w1]
 refine EvS ?_; simp only [impl_DoInstruction.l1]
 refine eP (eO (eP (Ev.bind (a := us.map (cA 0)) hw.arr (eP ?_))))
 rw [w2]
 refine EvS ?_; simp only [impl_DoInstruction.l1]
 refine eN (eP ?_)
 have hc : (rd_T31 [mkV v, mkV w] 0).f0 = ((List.zipWith (gv2 c) ts us).length : Int) := by
  show v.1 = _
  rw [h.c, hzl]
 rw [hc]
 exact h2
theorem own8 (v : V3) (b : Bool) (hL : v.2.1.length ≤ 1000) (hb : ∀ r ∈ v.2.1, r.length ≤ 1000000) (hD : v.2.2.length ≤ 1000000) (s : ByteArray) (vs : List SV) (h : Ev (fun k => spec_l8RawDoInstruction.f k s vs) (v.1, v.2.1, v.2.2, b)) : Ev (fun k => spec_DoInstruction.f k s vs) (v.1, v.2.1, v.2.2, b) := by
 unfold spec_DoInstruction.f
 refine Ev.bind h (Ev.bind (a := (v.1, v.2.1, v.2.2)) ?_ (Ev.now _))
 unfold spec_l13OwnVector.f
 exact Ev.bind (ownLay_is v.2.1 v.2.2 hL hb hD) (Ev.now _)
theorem own_no (s : ByteArray) (vs : List SV) (h : Ev (fun k => spec_l8RawDoInstruction.f k s vs) noV) : Ev (fun k => spec_DoInstruction.f k s vs) noV := own8 (0, [], []) false (by simp) (fun r hr => by cases hr) (by simp) s vs h
theorem rawS_inv {v : V3} (vs : List SV) (hv : Ev (fun k => spec_VectorValid.f k (mkV v).f0 (mkV v).f1.f0 (mkV v).f1.f1) false) (s : ByteArray) : Ev (fun k => spec_l8RawDoInstruction.f k s (mkV v :: vs)) noV := by
 unfold spec_l8RawDoInstruction.f
 refine EvS ?_; simp only [spec_l8RawDoInstruction.l0]
 exact eP (eO (eP (Ev.bind hv (eN (Ev.now _)))))
def restS (s : ByteArray) (vs : List SV) (k : Nat) : Option Vec := (spec_l7Kind.f k s).bind fun t964 => (if t964 = 83 then (if (vs.length : Int) = 1 then (if 0 < (s.size : Int) then (if 0 < (vs.length : Int) then ((spec_l5One.f k (bt s 0) (((rd_T31 vs 0).f1.f0).length : Int)).bind fun t966 => (spec_l8RawDoInstruction.j1 k s vs (decide (t966 ≥ 0)))) else (none)) else (none)) else (spec_l8RawDoInstruction.j1 k s vs false)) else (spec_l8RawDoInstruction.j1 k s vs false))
theorem rawS_one {v : V3} (hv : Ev (fun k => spec_VectorValid.f k (mkV v).f0 (mkV v).f1.f0 (mkV v).f1.f1) true) (s : ByteArray) {R : Vec} (h : Ev (restS s [mkV v]) R) : Ev (fun k => spec_l8RawDoInstruction.f k s [mkV v]) R := by
 unfold spec_l8RawDoInstruction.f
 refine EvS ?_; simp only [spec_l8RawDoInstruction.l0]
 refine eP (eO (eP (Ev.bind hv (Ev.pos rfl ?_))))
 rw [w1]
 refine EvS ?_; simp only [spec_l8RawDoInstruction.l0]
 exact eN h
theorem rawS_two {v w : V3} (hv : Ev (fun k => spec_VectorValid.f k (mkV v).f0 (mkV v).f1.f0 (mkV v).f1.f1) true) {b : Bool} (hw : Ev (fun k => spec_VectorValid.f k (mkV w).f0 (mkV w).f1.f0 (mkV w).f1.f1) b) (s : ByteArray) {R : Vec} (h : b = true → Ev (restS s [mkV v, mkV w]) R) (hn : b = false → R = noV) : Ev (fun k => spec_l8RawDoInstruction.f k s [mkV v, mkV w]) R := by
 unfold spec_l8RawDoInstruction.f
 refine EvS ?_; simp only [spec_l8RawDoInstruction.l0]
 refine eP (eO (eP (Ev.bind hv (Ev.pos rfl ?_))))
 rw [w1]
 refine EvS ?_; simp only [spec_l8RawDoInstruction.l0]
 refine eP (eO (eP (Ev.bind (a := b) hw ?_)))
 cases b with
 | false => rw [hn rfl]; exact eN (Ev.now _)
 | true =>
  refine Ev.pos rfl ?_
  rw [w2]
  refine EvS ?_; simp only [spec_l8RawDoInstruction.l0]
  exact eN (h rfl)
theorem j1S_no {s : ByteArray} {vs : List SV} {r : Int} (hk : Ev (fun k => spec_l7Kind.f k s) r) (h : r ≠ 43 ∨ vs.length ≠ 2) : Ev (fun k => spec_l8RawDoInstruction.j1 k s vs false) noV := by
 refine EvS ?_; simp only [spec_l8RawDoInstruction.j1]
 refine eN (Ev.bind hk ?_)
 by_cases h1 : r = 43
 · exact Ev.pos h1 (eM (Ev.now _))
 · exact Ev.neg h1 (Ev.now _)
theorem restS_no {s : By} (h : s.length ≠ 1) (vs : List SV) : Ev (restS (BA s) vs) noV := by
 obtain ⟨r, hk, h1, h2⟩ := kind_no s h
 unfold restS
 exact Ev.bind hk (Ev.neg h1 (j1S_no hk (.inl h2)))
def tw2 (c : UInt8) (d e : Nat) : Int := if c = 64 then (if (d : Int) = 1 ∧ (e : Int) = 0 then 0 else -1) else if (d : Int) = 0 ∧ (e : Int) = 0 then 0 else -1
theorem two_any (c : UInt8) (d e : Nat) : Ev (fun k => spec_l5Two.f k (c.toNat : Int) (d : Int) (e : Int)) (tw2 c d e) := by
 have k1 : (c.toNat : Int) = 64 ↔ c = 64 := cn c 64 (by omega)
 have h : spec_l5Two.f 20 (c.toNat : Int) (d : Int) (e : Int) = some (tw2 c d e) := by
  simp only [spec_l5Two.f, spec_l5Two.j0, k1, tw2]
  by_cases h1 : c = 64
  · by_cases h : (d : Int) = 1 <;> by_cases h' : e = 0 <;> simp [h1, h, h']
  · by_cases h : d = 0 <;> by_cases h' : e = 0 <;> simp [h1, h, h']
 exact Ev.of (fun k => spec_l5Two.mono _ _ _ k) h
theorem Ev.fun {α : Type} {g : Nat → Option α} {a b : α} (h : Ev g a) (k : Ev g b) : a = b := by
 obtain ⟨K, h⟩ := h
 obtain ⟨K', k⟩ := k
 exact Option.some.inj ((h (max K K') (by omega)).symm.trans (k (max K K') (by omega)))
theorem sg2_mem {c : UInt8} {d : Nat} (hg : ¬ sg2 c (d : Int) < 0) : c ∈ ([43, 42, 94, 45, 61, 60, 64] : By) := by
 rcases sg2_dep hg with ⟨h, _⟩ | ⟨h, _⟩
 · rcases h with rfl | rfl | rfl | rfl | rfl | rfl <;> simp
 · rw [h]; simp
theorem sg2_two {c : UInt8} {d : Nat} (hm : c ∈ ([43, 42, 94, 45, 61, 60, 64] : By)) (hg : sg2 c (d : Int) < 0) : ¬ tw2 c d 0 ≥ 0 := by
 unfold tw2
 unfold sg2 at hg
 by_cases h64 : c = 64
 · subst h64
   by_cases h1 : (d : Int) = 1
   · simp [h1] at hg
   · simp [h1]
 · have hc : c = 43 ∨ c = 42 ∨ c = 94 ∨ c = 45 ∨ c = 61 ∨ c = 60 := by
    simp only [List.mem_cons, List.not_mem_nil, or_false] at hm
    rcases hm with h | h | h | h | h | h | h <;> simp [h] at h64 ⊢
   by_cases h1 : (d : Int) = 0
   · rw [if_pos (.inl ⟨hc, h1⟩)] at hg
     omega
   · simp only [if_neg h64, h1, false_and, if_false]
     omega
theorem sg2_two_ok {c : UInt8} {d : Nat} (hg : ¬ sg2 c (d : Int) < 0) : tw2 c d 0 ≥ 0 := by
 unfold tw2
 rcases sg2_dep hg with ⟨h, rfl⟩ | ⟨rfl, rfl⟩
 · have hne : c ≠ 64 := by rintro rfl; simp at h
   simp [hne]
 · simp
theorem zip_ok {c : UInt8} {d : Nat} {ts us : List Tr} {v w : V3} (h : Tv d ts v) (hw : Tv 0 us w) (hg : ¬ sg2 c (d : Int) < 0) : ∀ t ∈ List.zipWith (gv2 c) ts us, Ok 0 t := by
 intro t ht
 obtain ⟨i, hi, rfl⟩ := List.mem_iff_getElem.1 ht
 rw [List.getElem_zipWith]
 rw [List.length_zipWith] at hi
 exact (gv2_is (h.ok _ (List.getElem_mem (by omega))) (hw.ok _ (List.getElem_mem (by omega))) hg).1
theorem do_one (s : By) (v : V3) (hL : v.2.1.length ≤ 3) (hb : ∀ r ∈ v.2.1, r.length ≤ 1600) (hD : v.2.2.length ≤ 1601) : ∃ R : Vec, Ev (fun k => impl_DoInstruction.f k (BA s) [mkV v]) R ∧ Ev (fun k => spec_DoInstruction.f k (BA s) [mkV v]) R ∧
 (R = noV ∨ ∃ (c : UInt8) (d : Nat) (ts : List Tr), s = [c] ∧ Tv d ts v ∧ ¬ sg1 c (d : Int) < 0 ∧ R = okV (vec (eg c d) (ts.map (gv1 c)))) := by
 have hb2 : ∀ r ∈ v.2.1, r.length ≤ 2000 := fun r hr => Nat.le_trans (hb r hr) (by omega)
 cases hval : vok v.1 v.2.1 v.2.2 with
 | false =>
  have vA := validA v.1 v.2.1 v.2.2 (by omega) hb2 (by omega)
  have vS := validS v.1 v.2.1 v.2.2 (by omega) hb2 (by omega)
  rw [hval] at vA vS
  exact ⟨noV, doA_inv [] vA _, own_no _ _ (rawS_inv [] vS _), .inl rfl⟩
 | true =>
  obtain ⟨d, ts, h⟩ := tv_of v hL hb hD hval
  have hd3 := h.d3
  by_cases hs : s.length = 1
  · obtain ⟨c, rfl⟩ := List.length_eq_one_iff.1 hs
    have hdl : (((rd_T31 [mkV v] 0).f1.f0).length : Int) = (d : Int) := by
     show (v.2.1.length : Int) = _
     rw [h.dl]
    obtain ⟨r, hk, hk1, hk2⟩ := kind_one c
    by_cases hg : sg1 c (d : Int) < 0
    · refine ⟨noV, doA_one h (BA [c]) (Ev.bind (sd1_ev c d hd3) (eP ?_)), own_no _ _ (rawS_one h.vS _ ?_), .inl rfl⟩
      · rw [decide_eq_true hg]
        exact j1A_no _ _ _
      · unfold restS
        refine Ev.bind hk ?_
        by_cases h83 : r = 83
        · refine Ev.pos h83 (eP (eP (eP ?_)))
          rw [hdl, bt_c]
          refine Ev.bind (one_ev c d hd3) ?_
          rw [decide_eq_false (by omega)]
          exact j1S_no hk (.inl (by omega))
        · exact Ev.neg h83 (j1S_no hk (.inr (by simp)))
    · have hm := sg1_mem hg
      have hone := one8 hd3 h.ok h.sum hg
      have hA := doA_go1 h c hg
      have e1 : (rd_T31 [mkV v] 0).f0 = (ts.length : Int) := h.c
      have e2 : (rd_T31 [mkV v] 0).f1.f0 = (lvl d ts).map ints := by rw [show (rd_T31 [mkV v] 0).f1.f0 = v.2.1 from rfl, h.eq]
      have e3 : (rd_T31 [mkV v] 0).f1.f1 = ints (datN d ts) := by rw [show (rd_T31 [mkV v] 0).f1.f1 = v.2.2 from rfl, h.eq]
      have hraw : Ev (fun k => spec_l8RawDoInstruction.f k (BA [c]) [mkV v]) (okV (vec (eg c d) (ts.map (gv1 c)))) := by
       refine rawS_one h.vS _ ?_
       unfold restS
       refine Ev.bind hk (Ev.pos (hk1.2 hm) (eP (eP (eP ?_))))
       rw [hdl, bt_c]
       refine Ev.bind (one_ev c d hd3) ?_
       rw [decide_eq_true (by omega)]
       refine EvS ?_; simp only [spec_l8RawDoInstruction.j1]
       refine Ev.pos (by first | trivial | rfl) (eP (eP ?_))
       rw [e1, e2, e3, bt_c]
       exact Ev.bind hone (Ev.now _)
      obtain ⟨g1, g2, g3⟩ := vec_bd (eg c d) (ts.map (gv1 c)) (fun t ht => by
       obtain ⟨x, hx, rfl⟩ := List.mem_map.1 ht
       exact (gv1_is (h.ok x hx) (Nat.le_trans (sum_mem (nodes d) ts x hx) (Nat.le_trans h.sum (by decide))) hg).1) (Nat.le_trans (sum_gv1 h hg) (by decide))
      exact ⟨_, hA, own8 _ true (by rw [g1]; exact Nat.le_trans (eg_le hd3 hg) (by decide)) g2 g3 _ _ hraw, .inr ⟨c, d, ts, rfl, h, hg, rfl⟩⟩
  · obtain ⟨g, hsd⟩ := sd_any (BA s) [(d : Int)]
    exact ⟨noV, doA_one h (BA s) (Ev.bind hsd (Ev.neg (by rw [BA_size]; omega) (j1A_no _ _ _))), own_no _ _ (rawS_one h.vS _ (restS_no hs _)), .inl rfl⟩
theorem do_two (s : By) (v w : V3) (hL : v.2.1.length ≤ 3) (hb : ∀ r ∈ v.2.1, r.length ≤ 1600) (hD : v.2.2.length ≤ 1601) (hL2 : w.2.1.length ≤ 3) (hb2 : ∀ r ∈ w.2.1, r.length ≤ 1600) (hD2 : w.2.2.length ≤ 1601) :
 ∃ R : Vec, Ev (fun k => impl_DoInstruction.f k (BA s) [mkV v, mkV w]) R ∧ Ev (fun k => spec_DoInstruction.f k (BA s) [mkV v, mkV w]) R ∧
 (R = noV ∨ ∃ (c : UInt8) (d : Nat) (ts us : List Tr), s = [c] ∧ Tv d ts v ∧ Tv 0 us w ∧ ts.length = us.length ∧ ¬ sg2 c (d : Int) < 0 ∧ R = okV (vec 0 (List.zipWith (gv2 c) ts us))) := by
 have hr : ∀ r ∈ v.2.1, r.length ≤ 2000 := fun r hr => Nat.le_trans (hb r hr) (by decide)
 have hr2 : ∀ r ∈ w.2.1, r.length ≤ 2000 := fun r hr => Nat.le_trans (hb2 r hr) (by decide)
 cases hval : vok v.1 v.2.1 v.2.2 with
 | false =>
  have vA := validA v.1 v.2.1 v.2.2 (by omega) hr (by omega)
  have vS := validS v.1 v.2.1 v.2.2 (by omega) hr (by omega)
  rw [hval] at vA vS
  exact ⟨noV, doA_inv _ vA _, own_no _ _ (rawS_inv _ vS _), .inl rfl⟩
 | true =>
  obtain ⟨d, ts, h⟩ := tv_of v hL hb hD hval
  have hd3 := h.d3
  cases hval2 : vok w.1 w.2.1 w.2.2 with
  | false =>
   have vA := validA w.1 w.2.1 w.2.2 (by omega) hr2 (by omega)
   have vS := validS w.1 w.2.1 w.2.2 (by omega) hr2 (by omega)
   rw [hval2] at vA vS
   exact ⟨noV, doA_two_no h (.inl vA) _, own_no _ _ (rawS_two h.vS vS _ (fun h => by cases h) (fun _ => rfl)), .inl rfl⟩
  | true =>
   obtain ⟨e, us, hw⟩ := tv_of w hL2 hb2 hD2 hval2
   have hwd3 := hw.d3
   have fin : ∀ {R : Vec}, Ev (restS (BA s) [mkV v, mkV w]) R → Ev (fun k => spec_l8RawDoInstruction.f k (BA s) [mkV v, mkV w]) R := fun hR => rawS_two h.vS hw.vS _ (fun _ => hR) (fun h => by cases h)
   by_cases hs : s.length = 1
   · obtain ⟨c, rfl⟩ := List.length_eq_one_iff.1 hs
     obtain ⟨r, hk, hk1, hk2⟩ := kind_one c
     have hdl : (((rd_T31 [mkV v, mkV w] 0).f1.f0).length : Int) = (d : Int) := by
      show (v.2.1.length : Int) = _
      rw [h.dl]
     have hdl2 : (((rd_T31 [mkV v, mkV w] 1).f1.f0).length : Int) = (e : Int) := by
      show (w.2.1.length : Int) = _
      rw [hw.dl]
     have rest : ∀ {R : Vec}, Ev (fun k => spec_l8RawDoInstruction.j1 k (BA [c]) [mkV v, mkV w] false) R → Ev (restS (BA [c]) [mkV v, mkV w]) R := fun hR => by
      unfold restS
      refine Ev.bind hk ?_
      by_cases h83 : r = 83
      · exact Ev.pos h83 (eN hR)
      · exact Ev.neg h83 hR
     by_cases hl : ts.length = us.length
     · have hcc : (rd_T31 [mkV v, mkV w] 0).f0 = (rd_T31 [mkV v, mkV w] 1).f0 := by
        show v.1 = w.1
        rw [h.c, hw.c, hl]
       have rest2 : ∀ {R : Vec}, (r ≠ 43 → R = noV) → (∀ z, r = 43 → Ev (fun k => spec_l5Two.f k (c.toNat : Int) (d : Int) (e : Int)) z → Ev (fun k => if z ≥ 0 then ((spec_l8Two.f k (bt (BA [c]) 0) ((rd_T31 [mkV v, mkV w] 0).f0) ((rd_T31 [mkV v, mkV w] 0).f1.f0) ((rd_T31 [mkV v, mkV w] 0).f1.f1) ((rd_T31 [mkV v, mkV w] 1).f0) ((rd_T31 [mkV v, mkV w] 1).f1.f0) ((rd_T31 [mkV v, mkV w] 1).f1.f1)).bind fun bt983 => (some (bt983.1, bt983.2.1, bt983.2.2, true))) else (some noV)) R) → Ev (restS (BA [c]) [mkV v, mkV w]) R := fun {R} h1 h2 => by
        by_cases h43 : r = 43
        · refine rest ?_
          refine EvS ?_; simp only [spec_l8RawDoInstruction.j1]
          refine eN (Ev.bind hk (Ev.pos h43 (eP (eP (eP (Ev.pos hcc (eP ?_)))))))
          rw [hdl, hdl2, bt_c]
          have htwo := two_any c d e
          have := h2 _ h43 htwo
          rw [bt_c] at this
          exact Ev.bind htwo this
        · rw [h1 h43]
          exact rest (j1S_no hk (.inl h43))
       by_cases he : e = 0
       · subst he
         by_cases hg : sg2 c (d : Int) < 0
         · refine ⟨noV, doA_two h hw hl (BA [c]) (Ev.bind (sd2_ev c d hd3) (eP ?_)), own_no _ _ (fin (rest2 (fun _ => rfl) (fun z h43 hz => ?_))), .inl rfl⟩
           · rw [decide_eq_true hg]
             exact j1A_no _ _ _
           · have hm := hk2.1 h43
             have hz2 := Ev.fun hz (two_any c d 0)
             have hneg : ¬ z ≥ 0 := by
              rw [hz2]
              exact sg2_two hm hg
             exact Ev.neg hneg (Ev.now _)
         · have hA := doA_go2 h hw hl c hg
           have htwo := two8 h.ok hw.ok hl h.sum hg w.1
           have hm := sg2_mem hg
           have e1 : (rd_T31 [mkV v, mkV w] 0).f0 = (ts.length : Int) := h.c
           have e2 : (rd_T31 [mkV v, mkV w] 0).f1.f0 = (lvl d ts).map ints := by rw [show (rd_T31 [mkV v, mkV w] 0).f1.f0 = v.2.1 from rfl, h.eq]
           have e3 : (rd_T31 [mkV v, mkV w] 0).f1.f1 = ints (datN d ts) := by rw [show (rd_T31 [mkV v, mkV w] 0).f1.f1 = v.2.2 from rfl, h.eq]
           have e4 : (rd_T31 [mkV v, mkV w] 1).f0 = w.1 := rfl
           have e5 : (rd_T31 [mkV v, mkV w] 1).f1.f0 = [] := by rw [show (rd_T31 [mkV v, mkV w] 1).f1.f0 = w.2.1 from rfl, hw.eq]; rfl
           have e6 : (rd_T31 [mkV v, mkV w] 1).f1.f1 = ints (us.map Tr.n) := by rw [show (rd_T31 [mkV v, mkV w] 1).f1.f1 = w.2.2 from rfl, hw.eq]; rfl
           have hraw := fin (R := okV (vec 0 (List.zipWith (gv2 c) ts us))) (rest2 (fun h => absurd (hk2.2 hm) h) (fun z h43 hz => by
            have hz2 := Ev.fun hz (two_any c d 0)
            have hpos : z ≥ 0 := by
             rw [hz2]
             exact sg2_two_ok hg
            refine Ev.pos hpos ?_
            rw [e1, e2, e3, e4, e5, e6, bt_c]
            exact Ev.bind htwo (Ev.now _)))
           obtain ⟨g1, g2, g3⟩ := vec_bd 0 (List.zipWith (gv2 c) ts us) (zip_ok h hw hg) (Nat.le_trans (zip_bd h hl) (by decide))
           exact ⟨_, hA, own8 _ true (by rw [g1]; decide) g2 g3 _ _ hraw, .inr ⟨c, d, ts, us, rfl, h, hw, hl, hg, rfl⟩⟩
       · refine ⟨noV, doA_two h hw hl (BA [c]) (Ev.bind (Ev.of (fun k => impl_signDepth.mono _ _ k) (sd_two_ne c d e hd3 he)) (eP (j1A_no _ _ _))), own_no _ _ (fin (rest2 (fun _ => rfl) (fun z h43 hz => ?_))), .inl rfl⟩
         have hz2 := Ev.fun hz (two_any c d e)
         have hneg : ¬ z ≥ 0 := by
          rw [hz2]
          unfold tw2
          have hez : ¬ (e : Int) = 0 := by omega
          simp [he]
         exact Ev.neg hneg (Ev.now _)
     · refine ⟨noV, doA_two_no h (.inr ⟨hw.vA, by rw [h.c, hw.c]; omega⟩) _, own_no _ _ (fin (rest ?_)), .inl rfl⟩
       have hcc : ¬ (rd_T31 [mkV v, mkV w] 0).f0 = (rd_T31 [mkV v, mkV w] 1).f0 := by
        show ¬ v.1 = w.1
        rw [h.c, hw.c]
        omega
       by_cases h43 : r = 43
       · refine EvS ?_; simp only [spec_l8RawDoInstruction.j1]
         exact eN (Ev.bind hk (Ev.pos h43 (eP (eP (eP (Ev.neg hcc (Ev.now _)))))))
       · exact j1S_no hk (.inl h43)
   · refine ⟨noV, ?_, own_no _ _ (fin (restS_no hs _)), .inl rfl⟩
     by_cases hl : ts.length = us.length
     · obtain ⟨g, hsd⟩ := sd_any (BA s) [(d : Int), (e : Int)]
       exact doA_two h hw hl (BA s) (Ev.bind hsd (Ev.neg (by rw [BA_size]; omega) (j1A_no _ _ _)))
     · exact doA_two_no h (.inr ⟨hw.vA, by rw [h.c, hw.c]; omega⟩) _
theorem isum_ints (ns : List Nat) : isum (ints ns) = (ns.sum : Int) := by
 unfold isum
 rw [List.map_map]
 congr 2
 conv => rhs; rw [← List.map_id ns]
 exact List.map_congr_left (fun n _ => Int.toNat_natCast n)
theorem wrongW_l0 (L : List (List Nat)) (D : List Int) (hL : L.length ≤ 3) (hb : ∀ r ∈ L, r.length ≤ 1000000 ∧ r.sum ≤ 1000000) (hD : D.length ≤ 1000000) : ∀ (n i : Nat) (c : Int), L.length - i = n → i ≤ L.length → Ev (fun k => impl_wrong.l0 k c (L.map ints) (L.length : Int) (i : Int) (L.map ints) D) (wrongV L.length D i c ((L.map ints).drop i)) := by
 intro n
 induction n with
 | zero =>
  intro i c h1 h2
  rw [List.drop_eq_nil_of_le (by rw [List.length_map]; omega)]
  have hw := within_dec D 10006 hD
  refine EvS ?_; simp only [impl_wrong.l0]
  refine eM ?_
  by_cases hc : (D.length : Int) = c
  · refine Ev.pos hc (Ev.call hw ?_)
    by_cases hI : In 10006 D
    · rw [wrongV_ok ⟨hc, hI⟩]
      exact Ev.pos (decide_eq_true hI) (Ev.now _)
    · rw [wrongV_no (fun h => hI h.2)]
      refine Ev.neg (by simpa using hI) (Ev.val ?_)
      rw [List.length_map]
  · rw [wrongV_no (fun h => hc h.1)]
    refine Ev.neg hc (Ev.val ?_)
    rw [List.length_map]
 | succ n ih =>
  intro i c h1 h2
  have hi : i < L.length := by omega
  have him : i < (L.map ints).length := by rw [List.length_map]; exact hi
  rw [List.drop_eq_getElem_cons him, List.getElem_map]
  obtain ⟨b1, b2⟩ := hb _ (List.getElem_mem hi)
  have hw := within_dec (ints L[i]) 400 (by rw [ints_len]; exact b1)
  have hg : rd_L1 (L.map ints) (i : Int) = ints L[i] := rdL_at (List.getElem?_eq_getElem hi)
  have ht := total_is L[i] b2 b1
  have h3' : ¬ (i : Int) = 3 := by omega
  have hei := ei8 i (by omega)
  have hb1 : (i : Int) < ((L.map ints).length : Int) := Nlt him
  have hnext := ih (i + 1) (isum (ints L[i])) (by omega) (by omega)
  clear ih
  refine EvS ?_; simp only [impl_wrong.l0]
  refine Ev.pos (Nlt hi) (Ev.pos (nn i) (Ev.pos hb1 (Ev.neg h3' ?_)))
  rw [hg]
  by_cases hc : ((ints L[i]).length : Int) = c
  · refine Ev.pos hc (Ev.call hw ?_)
    by_cases hI : In 400 (ints L[i])
    · rw [wrongV_on ⟨by omega, hc, hI⟩]
      refine Ev.pos (decide_eq_true hI) (Ev.bind ht ?_)
      rw [hei, ← isum_ints]
      exact hnext
    · rw [wrongV_at (fun h => hI h.2.2)]
      exact Ev.neg (by simpa using hI) (Ev.now _)
  · rw [wrongV_at (fun h => hc h.2.1)]
    exact Ev.neg hc (Ev.now _)
section
variable {e : Nat} {us : List Tr} (he : e ≤ 3) (hok : ∀ t ∈ us, Ok e t) (hn : (us.map (nodes e)).sum ≤ 100000) (hl : us.length ≤ 2000)
include hok hn
theorem lvl_bd : (∀ r ∈ lvl e us, r.length ≤ 1000000 ∧ r.sum ≤ 1000000) ∧ (datN e us).length ≤ 1000000 := by
 refine ⟨fun r hr => ?_, ?_⟩
 · obtain ⟨i, hi, rfl⟩ := List.mem_iff_getElem.1 hr
   have hie : i < e := by rw [lvl_len] at hi; exact hi
   have h1 := lvl_get e i us hie
   rw [List.getElem?_eq_getElem hi] at h1
   rw [Option.some.inj h1]
   obtain ⟨g1, _⟩ := gen_smallL hok hn (i := i) (by omega)
   obtain ⟨g2, _⟩ := gen_smallL hok hn (i := i + 1) (by omega)
   rw [gen_succ, prts_cnt] at g2
   exact ⟨by rw [List.length_map]; exact Nat.le_trans g1 (by decide), Nat.le_trans g2 (by decide)⟩
 · obtain ⟨g1, _⟩ := gen_smallL hok hn (i := e) (Nat.le_refl _)
   unfold datN
   rw [List.length_map]
   exact Nat.le_trans g1 (by decide)
include he
theorem validW : Ev (fun k => impl_VectorValid.f k (us.length : Int) ((lvl e us).map ints) (ints (datN e us))) (vok (us.length : Int) ((lvl e us).map ints) (ints (datN e us))) := by
 obtain ⟨b1, b2⟩ := lvl_bd hok hn
 have hA := wrongW_l0 (lvl e us) (ints (datN e us)) (by rw [lvl_len]; exact he) b1 (by rw [ints_len]; exact b2) _ 0 (us.length : Int) rfl (Nat.zero_le _)
 rw [List.drop_zero] at hA
 have hw : Ev (fun k => impl_wrong.f k ((lvl e us).map ints) (ints (datN e us)) (us.length : Int)) (wrongV ((lvl e us).map ints).length (ints (datN e us)) 0 (us.length : Int) ((lvl e us).map ints)) := by
  unfold impl_wrong.f
  rw [List.length_map]
  exact hA
 have hle := wrongV_le (ints (datN e us)) ((lvl e us).map ints) ((lvl e us).map ints).length 0 (us.length : Int) (Nat.zero_add _)
 unfold impl_VectorValid.f vok
 by_cases h1 : (us.length : Int) ≤ 2000
 · refine Ev.pos (nn _) (Ev.pos h1 (Ev.bind hw (Ev.val ?_)))
   rcases hle with q | ⟨q, _⟩
   · rw [q]
     simp [h1]
   · rw [decide_eq_false (by omega), decide_eq_false (by omega)]
 · refine Ev.pos (nn _) (Ev.neg h1 (Ev.val ?_))
   rw [decide_eq_false (fun h => h1 h.2.1)]
include hl
theorem unpW : ∃ r, Ev (fun k => impl_UnpackVector.f k (us.length : Int) ((lvl e us).map ints) (ints (datN e us))) r ∧ (r = ([], false) ∨ (r = unpR e us ∧ vok (us.length : Int) ((lvl e us).map ints) (ints (datN e us)) = true)) := by
 have hv := validW he hok hn
 cases hval : vok (us.length : Int) ((lvl e us).map ints) (ints (datN e us)) with
 | false =>
  rw [hval] at hv
  refine ⟨([], false), ?_, .inl rfl⟩
  unfold impl_UnpackVector.f
  exact Ev.bind hv (eN (Ev.now _))
 | true =>
  rw [hval] at hv
  have rA := raised_isL hok hn he (by decide) (us.length : Int)
  have uA := unpA_l0 he hok hn hl (us.length : Int) ((lvl e us).map ints) (ints (datN e us)) (by rw [List.length_map, lvl_len]) _ 0 rfl (Nat.zero_le _) (fun t ht => by cases ht)
  refine ⟨unpR e us, ?_, .inr ⟨rfl, rfl⟩⟩
  unfold impl_UnpackVector.f impl_Vector_arrays.f
  exact Ev.bind hv (Ev.pos rfl (Ev.bind (Ev.bind rA (Ev.now _)) uA))
end
def Vb (v : V3) : Prop := v.2.1.length ≤ 3 ∧ (∀ r ∈ v.2.1, r.length ≤ 1600) ∧ v.2.2.length ≤ 1601
theorem drawV_at {l : List Int} (hl : Bs l) (d : Nat) (hd : d ≤ 3) (m : Nat) (hm : m ≤ 4) (p : Nat) (hp : p ≤ 1000000) : ∃ (v : V3) (q : Nat), Ev (fun k => spec_l8Draw.f k l (p : Int) (d : Int) (m : Int)) (v.1, v.2.1, v.2.2, (q : Int)) ∧ Vb v ∧ v.2.2.length ≤ 1600 ∧ v.1 ≤ 4 ∧ 0 ≤ v.1 ∧ q ≤ p + 1600 := by
 obtain ⟨qs, q, hq, hq', g3⟩ := l8Draw_l0 hl d hd m hm m 0 [] p (by omega) rfl (by omega)
 obtain ⟨⟨w1, w2, w3, w4, w5⟩, w6, w7⟩ := drawV_vb d hd qs (by omega)
 refine ⟨((drawV d qs).1, (drawV d qs).2.1, (drawV d qs).2.2.1), q, ?_, ⟨w1, fun r hr => (w2 r hr).1, Nat.le_succ_of_le w3⟩, w3, w6, w7, by omega⟩
 unfold spec_l8Draw.f
 exact g3
theorem some_at {l : List Int} (hl : Bs l) (p : Nat) (hp : p ≤ 100000) : ∃ (v : V3) (q : Nat), Ev (fun k => spec_l8Some.f k l (p : Int)) (v.1, v.2.1, v.2.2, (q : Int)) ∧ Vb v ∧ q ≤ p + 1700 := by
 obtain ⟨v, hv, g1⟩ := num_is hl p (by omega) [1, 0, 2, 1, 3] (by simp)
 have hv2 : 0 ≤ v ∧ v ≤ 3 := by simp at hv; omega
 obtain ⟨d, rfl⟩ : ∃ d : Nat, v = (d : Int) := ⟨v.toNat, by omega⟩
 obtain ⟨m, g2, hm, _⟩ := pick_is hl (p + 1) (by omega) 4
 have hm2 := hm (by omega)
 obtain ⟨m, rfl⟩ : ∃ j : Nat, m = (j : Int) := ⟨m.toNat, by omega⟩
 obtain ⟨V, q, g3, ⟨w1, w2, w3⟩, w4, w6, w7, hq⟩ := drawV_at hl d (by omega) m (by omega) (p + 1 + 1) (by omega)
 obtain ⟨x, g4, _⟩ := pick_is hl q (by omega) 24
 by_cases x0 : x = 0
 · obtain ⟨c, hc, g5⟩ := num_is hl (q + 1) (by omega) [-1, 2001, wrap64 (V.1 + 1), 9223372036854775807] (by simp)
   refine ⟨(c, V.2.1, V.2.2), q + 1 + 1, ?_, ⟨w1, w2, w3⟩, by omega⟩
   unfold spec_l8Some.f
   exact Ev.bind g1 (Ev.bind g2 (Ev.bind g3 (Ev.bind g4 (Ev.pos x0 (Ev.bind g5 (Ev.now _))))))
 · by_cases x1 : x = 1
   · obtain ⟨y, hy, g5⟩ := num_is hl (q + 1) (by omega) [0, -1, 10007] (by simp)
     have n1 : ([] : List Int).length + V.2.2.length < 17592186044416 := by rw [List.length_nil]; omega
     have n2 : ([] ++ V.2.2 : List Int).length < 17592186044416 := by rw [List.nil_append]; omega
     refine ⟨(V.1, V.2.1, ([] ++ V.2.2) ++ [y]), q + 1 + 1, ?_, ⟨w1, w2, ?_⟩, by omega⟩
     · unfold spec_l8Some.f
       exact Ev.bind g1 (Ev.bind g2 (Ev.bind g3 (Ev.bind g4 (Ev.neg x0 (Ev.pos x1 (Ev.call rfl (Ev.pos n1 (Ev.call rfl (Ev.bind g5 (Ev.pos n2 (Ev.now _)))))))))))
     · show ([] ++ V.2.2 ++ [y]).length ≤ _
       rw [List.nil_append, List.length_append, List.length_singleton]; omega
   · refine ⟨V, q + 1, ?_, ⟨w1, w2, w3⟩, by omega⟩
     unfold spec_l8Some.f
     exact Ev.bind g1 (Ev.bind g2 (Ev.bind g3 (Ev.bind g4 (Ev.neg x0 (Ev.neg x1 (Ev.now _))))))
def Drawn (l : List Int) : Prop := ∃ (s : By) (vs : List V3), Ev (fun k => spec_DrawDoInstruction.f k l) (BA s, vs.map mkV) ∧ ((∃ v, vs = [v]) ∨ ∃ v w, vs = [v, w]) ∧ ∀ v ∈ vs, Vb v
theorem drawD_j0 {l : List Int} (hl : Bs l) (s : By) (m d p : Nat) (hm : m ≤ 4) (hd : d ≤ 3) (hp : p ≤ 1000) : ∃ vs : List V3, Ev (fun k => spec_DrawDoInstruction.j0 k (BA s) (m : Int) (d : Int) l (p : Int)) (BA s, vs.map mkV) ∧ ((∃ v, vs = [v]) ∨ ∃ v w, vs = [v, w]) ∧ ∀ v ∈ vs, Vb v := by
 obtain ⟨x, g1, _⟩ := pick_is hl p (by omega) 16
 by_cases h0 : x = 0
 · obtain ⟨v, q, g2, b2, hq⟩ := some_at hl (p + 1) (by omega)
   obtain ⟨w, q', g3, b3, _⟩ := some_at hl q (by omega)
   refine ⟨[v, w], ?_, .inr ⟨v, w, rfl⟩, fun z hz => ?_⟩
   · refine EvS ?_; simp only [spec_DrawDoInstruction.j0]
     exact Ev.bind g1 (Ev.pos h0 (Ev.bind g2 (Ev.bind g3 (Ev.now _))))
   · simp only [List.mem_cons, List.not_mem_nil, or_false] at hz
     rcases hz with rfl | rfl
     · exact b2
     · exact b3
 · obtain ⟨v, q, g2, b2, _⟩ := drawV_at hl d hd m hm (p + 1) (by omega)
   refine ⟨[v], ?_, .inl ⟨v, rfl⟩, fun z hz => ?_⟩
   · refine EvS ?_; simp only [spec_DrawDoInstruction.j0]
     exact Ev.bind g1 (Ev.neg h0 (Ev.bind g2 (Ev.now _)))
   · rw [List.mem_singleton.1 hz]
     exact b2
theorem find_ex (l : By) (hl : l.length ≤ 100) (z : By) : ∃ r, Ev (fun k => spec_l13Find.f k (BA l) (bt (BA z) 0)) r := by
 rw [bt_BA]
 obtain ⟨r, h, _⟩ := find_is l hl (z.getD (0 : Int).toNat 0)
 exact ⟨r, h⟩
theorem lit_a : (⟨#[83, 77, 80]⟩ : ByteArray) = BA [83, 77, 80] := rfl
theorem lit_b : (⟨#[43, 42, 94, 45, 61, 60]⟩ : ByteArray) = BA [43, 42, 94, 45, 61, 60] := rfl
theorem lit_sp : (⟨#[32]⟩ : ByteArray) = BA [32] := rfl
def tailD (l : List Int) (s : By) (m d p : Int) (k : Nat) : Option (ByteArray × List SV) := (spec_l13Find.f k (BA [83, 77, 80]) (bt (BA (s ++ [32])) 0)).bind fun t356 => (if t356 ≥ 0 then (spec_DrawDoInstruction.j0 k (BA s) m 1 l p) else (if (BA s).toList = ([67] : List UInt8) then ((spec_l13Rd_pick.f k l p 2).bind fun bt357 => (spec_DrawDoInstruction.j0 k (BA s) m (wrap64 (2 + bt357.1)) l bt357.2)) else (if (BA s).toList = ([73] : List UInt8) then (spec_DrawDoInstruction.j0 k (BA s) m 0 l p) else (if (BA s).toList = ([64] : List UInt8) then ((spec_l8Draw.f k l p 1 m).bind fun bt359 => ((spec_l8Draw.f k l bt359.2.2.2 0 m).bind fun bt367 => (some (BA s, (([(⟨bt359.1, (⟨bt359.2.1, bt359.2.2.1⟩ : S29)⟩ : SV), (⟨bt367.1, (⟨bt367.2.1, bt367.2.2.1⟩ : S29)⟩ : SV)] : List SV)))))) else ((spec_l13Find.f k (BA [43, 42, 94, 45, 61, 60]) (bt (BA (s ++ [32])) 0)).bind fun t378 => (if t378 ≥ 0 then ((spec_l8Draw.f k l p 0 m).bind fun bt379 => ((spec_l13Rd_pick.f k l bt379.2.2.2 10).bind fun bt387 => ((spec_l8Draw.f k l bt387.2 0 (wrap64 (m + (wrap64 (Int.tdiv bt387.1 9))))).bind fun bt389 => (some (BA s, (([(⟨bt379.1, (⟨bt379.2.1, bt379.2.2.1⟩ : S29)⟩ : SV), (⟨bt389.1, (⟨bt389.2.1, bt389.2.2.1⟩ : S29)⟩ : SV)] : List SV))))))) else (spec_DrawDoInstruction.j0 k (BA s) m d l p)))))))
theorem drawD_is (l0 : List Int) (h : ∀ x ∈ l0, (Lit.int .u8 x).wf = true) : Drawn l0 := by
 obtain ⟨l, ho, hl⟩ := open_is l0 h
 obtain ⟨t, ht, g1⟩ := of_is hl 0 (by omega) [(⟨#[83]⟩ : ByteArray), (⟨#[77]⟩ : ByteArray), (⟨#[73]⟩ : ByteArray), (⟨#[78]⟩ : ByteArray), (⟨#[82]⟩ : ByteArray), (⟨#[67]⟩ : ByteArray), (⟨#[80]⟩ : ByteArray), (⟨#[43]⟩ : ByteArray), (⟨#[42]⟩ : ByteArray), (⟨#[94]⟩ : ByteArray), (⟨#[45]⟩ : ByteArray), (⟨#[61]⟩ : ByteArray), (⟨#[60]⟩ : ByteArray), (⟨#[64]⟩ : ByteArray), (⟨#[91, 120]⟩ : ByteArray), (⟨#[]⟩ : ByteArray), (⟨#[51]⟩ : ByteArray)] (by simp)
 have hts : t.size ≤ 2 := by
  simp only [List.mem_cons, List.not_mem_nil, or_false] at ht
  rcases ht with rfl | rfl | rfl | rfl | rfl | rfl | rfl | rfl | rfl | rfl | rfl | rfl | rfl | rfl | rfl | rfl | rfl <;> decide
 clear ht
 obtain ⟨s, rfl, _⟩ := BA_of t
 rw [BA_size] at hts
 obtain ⟨m, g2, hm, _⟩ := pick_is hl (0 + 1) (by omega) 4
 have hm2 := hm (by omega)
 obtain ⟨m, rfl⟩ : ∃ j : Nat, m = (j : Int) := ⟨m.toNat, by omega⟩
 obtain ⟨d, hd, g3⟩ := num_is hl (0 + 1 + 1) (by omega) [1, 0, 2, 1, 3] (by simp)
 have hd2 : 0 ≤ d ∧ d ≤ 3 := by simp at hd; omega
 obtain ⟨d, rfl⟩ : ∃ j : Nat, d = (j : Int) := ⟨d.toNat, by omega⟩
 clear hd hm
 obtain ⟨r1, f1⟩ := find_ex [83, 77, 80] (by simp) (s ++ [32])
 obtain ⟨r2, f2⟩ := find_ex [43, 42, 94, 45, 61, 60] (by simp) (s ++ [32])
 have c1 : (BA s).size + 1 ≤ 9223372036854775807 := by rw [BA_size]; omega
 have c2 : 0 < ((BA s).size : Int) + 1 := by rw [BA_size]; omega
 have eb : BA s ++ (⟨#[32]⟩ : ByteArray) = BA (s ++ [32]) := by rw [lit_sp, BA_append]
 have key : ∀ {vs : List V3}, ((∃ v, vs = [v]) ∨ ∃ v w, vs = [v, w]) → (∀ v ∈ vs, Vb v) → Ev (tailD l s (m : Int) (d : Int) ((0 + 1 + 1 + 1 : Nat) : Int)) (BA s, vs.map mkV) → Drawn l0 := fun {vs} h1 h2 h3 => by
  refine ⟨s, vs, ?_, h1, h2⟩
  unfold spec_DrawDoInstruction.f
  refine Ev.call ho (Ev.bind g1 (Ev.bind g2 (Ev.bind g3 (Ev.pos c1 (Ev.pos c2 ?_)))))
  rw [eb, lit_a, lit_b]
  exact h3
 by_cases h1 : r1 ≥ 0
 · obtain ⟨vs, a, b, c⟩ := drawD_j0 hl s m 1 (0 + 1 + 1 + 1) (by omega) (by omega) (by omega)
   exact key b c (Ev.bind f1 (Ev.pos h1 a))
 by_cases h2 : (BA s).toList = ([67] : List UInt8)
 · obtain ⟨x, g4, hx, _⟩ := pick_is hl (0 + 1 + 1 + 1) (by omega) 2
   have hx2 := hx (by omega)
   obtain ⟨x, rfl⟩ : ∃ j : Nat, x = (j : Int) := ⟨x.toNat, by omega⟩
   obtain ⟨vs, a, b, c⟩ := drawD_j0 hl s m (2 + x) (0 + 1 + 1 + 1 + 1) (by omega) (by omega) (by omega)
   have ew : wrap64 (2 + (x : Int)) = ((2 + x : Nat) : Int) := by rw [wrapS (by omega) (by omega)]; omega
   refine key b c (Ev.bind f1 (Ev.neg h1 (Ev.pos h2 (Ev.bind g4 ?_))))
   rw [ew]
   exact a
 by_cases h3 : (BA s).toList = ([73] : List UInt8)
 · obtain ⟨vs, a, b, c⟩ := drawD_j0 hl s m 0 (0 + 1 + 1 + 1) (by omega) (by omega) (by omega)
   exact key b c (Ev.bind f1 (Ev.neg h1 (Ev.neg h2 (Ev.pos h3 a))))
 have two : ∀ {v w : V3}, Vb v → Vb w → ∀ z ∈ [v, w], Vb z := fun hv hw z hz => by
  simp only [List.mem_cons, List.not_mem_nil, or_false] at hz
  rcases hz with rfl | rfl
  · exact hv
  · exact hw
 by_cases h4 : (BA s).toList = ([64] : List UInt8)
 · obtain ⟨v, q, a1, b1, _, _, _, e1⟩ := drawV_at hl 1 (by omega) m (by omega) (0 + 1 + 1 + 1) (by omega)
   obtain ⟨w, q2, a2, b2, _⟩ := drawV_at hl 0 (by omega) m (by omega) q (by omega)
   exact key (vs := [v, w]) (.inr ⟨v, w, rfl⟩) (two b1 b2) (Ev.bind f1 (Ev.neg h1 (Ev.neg h2 (Ev.neg h3 (Ev.pos h4 (Ev.bind a1 (Ev.bind a2 (Ev.now _))))))))
 by_cases h5 : r2 ≥ 0
 · obtain ⟨v, q, a1, b1, _, _, _, e1⟩ := drawV_at hl 0 (by omega) m (by omega) (0 + 1 + 1 + 1) (by omega)
   obtain ⟨x, g4, hx, _⟩ := pick_is hl q (by omega) 10
   have hx2 := hx (by omega)
   obtain ⟨m2, hm3, hm4⟩ : ∃ j : Nat, wrap64 ((m : Int) + wrap64 (Int.tdiv x 9)) = (j : Int) ∧ j ≤ 4 := by
    have h9 : Int.tdiv x 9 = x / 9 := Int.tdiv_eq_ediv_of_nonneg hx2.1
    rw [h9, wrapS (a := x / 9) (by omega) (by omega), wrapS (by omega) (by omega)]
    exact ⟨((m : Int) + x / 9).toNat, by omega, by omega⟩
   obtain ⟨w, q2, a2, b2, _⟩ := drawV_at hl 0 (by omega) m2 hm4 (q + 1) (by omega)
   refine key (vs := [v, w]) (.inr ⟨v, w, rfl⟩) (two b1 b2) (Ev.bind f1 (Ev.neg h1 (Ev.neg h2 (Ev.neg h3 (Ev.neg h4 (Ev.bind f2 (Ev.pos h5 (Ev.bind a1 (Ev.bind g4 ?_)))))))))
   rw [hm3]
   exact Ev.bind a2 (Ev.now _)
 · obtain ⟨vs, a, b, c⟩ := drawD_j0 hl s m d (0 + 1 + 1 + 1) (by omega) (by omega) (by omega)
   exact key b c (Ev.bind f1 (Ev.neg h1 (Ev.neg h2 (Ev.neg h3 (Ev.neg h4 (Ev.bind f2 (Ev.neg h5 a)))))))
theorem faSame_l0 (l : List Int) (hl : l.length ≤ 1000000000) : ∀ (n i : Nat), l.length - i = n → i ≤ l.length → Ev (fun k => laws_faSame.l0 k l l (l.length : Int) (i : Int)) true := by
 intro n
 induction n with
 | zero =>
  intro i h hi
  refine EvS ?_; simp only [laws_faSame.l0]
  exact eM (Ev.val (by simp))
 | succ n ih =>
  intro i h hi
  refine EvS ?_; simp only [laws_faSame.l0]
  refine eO (eO (eO (eO (Ev.pos (by first | trivial | rfl) ?_))))
  rw [wrapS (by omega) (by omega)]
  exact ih (i + 1) (by omega) (by omega)
theorem faSame_is (l : List Int) (hl : l.length ≤ 1000000000) : Ev (fun k => laws_faSame.f k l l) true := by
 unfold laws_faSame.f
 rw [show mn (l.length : Int) (l.length : Int) = (l.length : Int) by unfold mn; split <;> rfl]
 exact faSame_l0 l hl _ 0 rfl (by omega)
theorem faLists_l0 (L : List (List Int)) (hL : L.length ≤ 1000) (hb : ∀ r ∈ L, r.length ≤ 1000000) : ∀ (n i : Nat), L.length - i = n → i ≤ L.length → Ev (fun k => laws_faLists.l0 k L L (L.length : Int) (i : Int)) true := by
 intro n
 induction n with
 | zero =>
  intro i h1 h2
  refine EvS ?_; simp only [laws_faLists.l0]
  exact eM (Ev.val (by simp))
 | succ n ih =>
  intro i h1 h2
  have hi : i < L.length := by omega
  have hg : rd_L1 L (i : Int) = L[i] := by
   show L.getD i [] = _
   rw [List.getD_eq_getElem?_getD, List.getElem?_eq_getElem hi]
   rfl
  have hnext := ih (i + 1) (by omega) (by omega)
  have hs := faSame_is L[i] (Nat.le_trans (hb _ (List.getElem_mem hi)) (by omega))
  refine EvS ?_; simp only [laws_faLists.l0]
  refine eO (eO (eO (eO ?_)))
  rw [hg]
  refine Ev.bind hs (Ev.pos rfl ?_)
  rw [wrapS (by omega) (by omega)]
  exact hnext
theorem faLay_is (L : List (List Int)) (D : List Int) (hL : L.length ≤ 1000) (hb : ∀ r ∈ L, r.length ≤ 1000000) (hD : D.length ≤ 1000000) : Ev (fun k => laws_faLayout.f k L D L D) true := by
 have h0 : Ev (fun k => laws_faLists.f k L L) true := by
  unfold laws_faLists.f
  have e : mn (L.length : Int) (L.length : Int) = (L.length : Int) := by unfold mn; split <;> rfl
  rw [e]
  exact faLists_l0 L hL hb _ 0 rfl (Nat.zero_le _)
 unfold laws_faLayout.f
 exact Ev.bind h0 (Ev.pos rfl (Ev.bind (faSame_is D (by omega)) (Ev.now _)))
theorem faV (v : V3) (hL : v.2.1.length ≤ 1000) (hb : ∀ r ∈ v.2.1, r.length ≤ 1000000) (hD : v.2.2.length ≤ 1000000) : Ev (fun k => laws_faVector.f k v.1 v.2.1 v.2.2 v.1 v.2.1 v.2.2) true := by
 unfold laws_faVector.f
 exact Ev.pos rfl (Ev.bind (faLay_is v.2.1 v.2.2 hL hb hD) (Ev.now _))
theorem app1 {c : UInt8} {d : Nat} {t : Tr} (hd : d ≤ 3) (hok : Ok d t) (hl : (text d t).length ≤ 400) (hg : ¬ sg1 c (d : Int) < 0) (hl2 : (text (eg c d) (gv1 c t)).length ≤ 400) :
 Ev (fun k => impl_ApplySign.f k (BA [c]) [BA (text d t)] (d : Int)) (BA (text (eg c d) (gv1 c t)), true) := by
 have hr := readD_text hok hl
 have hn := nodes_le_text d t
 obtain ⟨g1, g2, g3⟩ := gv1_is hok (by omega) hg
 have he : sg1 c (d : Int) = (eg c d : Int) := by unfold eg; omega
 refine implOne c (d : Int) (text d t) (fun h => ?_) (fun d' t' e hd' hr' => ?_)
 · rw [rdZ_nat hd, hr] at h
   cases h
 · obtain rfl : d = d' := by omega
   obtain rfl : t = t' := Option.some.inj (hr.symm.trans hr')
   have hs := shortA_is (eg c d) (by have := eg_le hd hg; omega) (gv1 c t) (Sh.of g1) (by omega)
   rw [told_yes hl2] at hs
   refine Ev.bind (sd1_ev c d hd) (eP ?_)
   rw [decide_eq_false hg, he]
   refine EvS ?_; simp only [impl_ApplySign.j1]
   exact eN (Ev.bind g3 (Ev.bind hs (Ev.now _)))
theorem app2 {c : UInt8} {d : Nat} {t u : Tr} (hd : d ≤ 3) (hok : Ok d t) (hl : (text d t).length ≤ 400) (hok2 : Ok 0 u) (hlu : (text 0 u).length ≤ 400) (hg : ¬ sg2 c (d : Int) < 0) (hl2 : (text 0 (gv2 c t u)).length ≤ 400) :
 Ev (fun k => impl_ApplySign.f k (BA [c]) [BA (text d t), BA (text 0 u)] (d : Int)) (BA (text 0 (gv2 c t u)), true) := by
 have hr := readD_text hok hl
 have hr2 := readD_text hok2 hlu
 obtain ⟨g1, g3⟩ := gv2_is hok hok2 hg
 have he : sg2 c (d : Int) = 0 := by
  unfold sg2 at hg ⊢
  split
  · rfl
  · next h => rw [if_neg h] at hg; exact absurd (by decide) hg
 refine implTwo c (d : Int) (text d t) (text 0 u) (fun h => ?_) (fun d' t' u' e hd' hr' hr2' => ?_)
 · rcases h with h | h
   · rw [rdZ_nat hd, hr] at h
     cases h
   · rw [hr2] at h
     cases h
 · obtain rfl : d = d' := by omega
   obtain rfl : t = t' := Option.some.inj (hr.symm.trans hr')
   obtain rfl : u = u' := Option.some.inj (hr2.symm.trans hr2')
   have hs := shortA_is 0 (by decide) (gv2 c t u) (Sh.of g1) (by show 1 ≤ _; decide)
   rw [told_yes hl2] at hs
   refine Ev.bind (sd2_ev c d hd) (eP ?_)
   rw [decide_eq_false hg, he]
   refine EvS ?_; simp only [impl_ApplySign.j1]
   exact eN (Ev.bind g3 (Ev.bind hs (Ev.now _)))
theorem rdOf_get (l : List ByteArray) (i : Nat) : rdOf ByteArray.empty l (i : Int) = l.getD i ByteArray.empty := by
 unfold rdOf
 rw [Int.toNat_natCast]
theorem law_l2 (s : ByteArray) (parts : List SV) (out : List ByteArray) (cols : List (List ByteArray)) (i : Nat) (m : Int) (V : V3) (hc : cols.length ≤ 1000) (hi : ∀ c ∈ cols, i < c.length) (hp : 0 < parts.length) (ho : i < out.length) (dp : Int) (hdp : (((rd_T31 parts 0).f1.f0).length : Int) = dp)
 (ha : Ev (fun k => impl_ApplySign.f k s (cols.map fun c => c.getD i ByteArray.empty) dp) (out.getD i ByteArray.empty, true)) (hnext : Ev (fun k => laws_FnDoInstruction.l1 k s parts out cols m (wrap64 ((i : Int) + 1)) V.1 V.2.1 V.2.2) true) : ∀ (rest done : List (List ByteArray)), cols = done ++ rest →
 Ev (fun k => laws_FnDoInstruction.l2 k s parts out cols (i : Int) (done.map fun c => c.getD i ByteArray.empty) m (i : Int) cols (cols.length : Int) ((done.length : Nat) : Int) V.1 V.2.1 V.2.2) true := by
 intro rest
 induction rest with
 | nil =>
  intro done h1
  rw [List.append_nil] at h1
  subst h1
  refine EvS ?_; simp only [laws_FnDoInstruction.l2]
  refine eM (eO ?_)
  rw [hdp]
  refine Ev.bind ha (Ev.pos rfl (Ev.pos (nn i) (Ev.pos (Nlt ho) ?_)))
  rw [rdOf_get]
  exact Ev.pos rfl hnext
 | cons r rest ih =>
  intro done h1
  have hd : done.length < cols.length := by rw [h1]; simp
  have hat : rd_L10 cols ((done.length : Nat) : Int) = r := by
   show cols.getD done.length [] = r
   rw [List.getD_eq_getElem?_getD, List.getElem?_eq_getElem hd]
   simp [h1]
  have hir := hi r (by rw [h1]; simp)
  have hn := ih (done ++ [r]) (by rw [h1]; simp)
  rw [List.map_append, List.length_append] at hn
  have hei := ei8 done.length (by omega)
  have hbl : (done.map fun c => c.getD i ByteArray.empty).length < 8796093022208 := by rw [List.length_map]; omega
  refine EvS ?_; simp only [laws_FnDoInstruction.l2]
  rw [hat, rdOf_get, hei]
  exact Ev.pos (Nlt hd) (Ev.pos (nn _) (Ev.pos (Nlt hd) (Ev.pos (nn i) (Ev.pos (Nlt hir) (Ev.pos hbl hn)))))
theorem law_l1 (s : ByteArray) (parts : List SV) (out : List ByteArray) (cols : List (List ByteArray)) (V : V3) (hc : cols.length ≤ 1000) (m : Nat) (hm : m ≤ 2000) (hV : V.1 = (m : Int)) (hcl : ∀ c ∈ cols, c.length = m) (hp : 0 < parts.length) (hol : out.length = m) (hc0 : (rd_T31 parts 0).f0 = (m : Int)) (dp : Int) (hdp : (((rd_T31 parts 0).f1.f0).length : Int) = dp)
 (ha : ∀ i, i < m → Ev (fun k => impl_ApplySign.f k s (cols.map fun c => c.getD i ByteArray.empty) dp) (out.getD i ByteArray.empty, true)) (hv : Ev (fun k => impl_VectorValid.f k V.1 V.2.1 V.2.2) true) : ∀ (n i : Nat), m - i = n → i ≤ m →
 Ev (fun k => laws_FnDoInstruction.l1 k s parts out cols (m : Int) (i : Int) V.1 V.2.1 V.2.2) true := by
 intro n
 induction n with
 | zero =>
  intro i h1 h2
  refine EvS ?_; simp only [laws_FnDoInstruction.l1]
  refine eM (Ev.bind hv (Ev.pos rfl (Ev.pos (Nlt hp) (Ev.val ?_))))
  rw [hV, hc0]
  simp
 | succ n ih =>
  intro i h1 h2
  have hi : i < m := by omega
  have hn := ih (i + 1) (by omega) (by omega)
  have hei := ei8 i (by omega)
  have h := law_l2 s parts out cols i (m : Int) V hc (fun c hc => by rw [hcl c hc]; exact hi) hp (by rw [hol]; exact hi) dp hdp (ha i hi) (by rw [hei]; exact hn) cols [] rfl
  refine EvS ?_; simp only [laws_FnDoInstruction.l1]
  exact Ev.pos (Nlt hi) h
theorem getD_texts (d : Nat) (ts : List Tr) (i : Nat) (h : i < ts.length) : (ts.map fun t => BA (text d t)).getD i ByteArray.empty = BA (text d ts[i]) := by
 rw [List.getD_eq_getElem?_getD, List.getElem?_map, List.getElem?_eq_getElem h]
 rfl
theorem unpR_yes {d : Nat} {ts : List Tr} (h : ∀ t ∈ ts, (text d t).length ≤ 400) : unpR d ts = (ts.map fun t => BA (text d t), true) := if_pos h
theorem unpR_not {d : Nat} {ts : List Tr} (h : ¬ ∀ t ∈ ts, (text d t).length ≤ 400) : unpR d ts = ([], false) := if_neg h
theorem rest1 {c : UInt8} {d : Nat} {ts : List Tr} {v : V3} (h : Tv d ts v) (hg : ¬ sg1 c (d : Int) < 0) : Ev (fun k => laws_FnDoInstruction.j0 k (BA [c]) [mkV v] true true false (vec (eg c d) (ts.map (gv1 c))).1 (vec (eg c d) (ts.map (gv1 c))).2.1 (vec (eg c d) (ts.map (gv1 c))).2.2 (vec (eg c d) (ts.map (gv1 c))).1 (vec (eg c d) (ts.map (gv1 c))).2.1 (vec (eg c d) (ts.map (gv1 c))).2.2) true := by
 have hd3 := h.d3
 have hok : ∀ t ∈ ts.map (gv1 c), Ok (eg c d) t := fun t ht => by
  obtain ⟨x, hx, rfl⟩ := List.mem_map.1 ht
  exact (gv1_is (h.ok x hx) (Nat.le_trans (sum_mem (nodes d) ts x hx) (Nat.le_trans h.sum (by decide))) hg).1
 have hsum := sum_gv1 h hg
 have hlen : (ts.map (gv1 c)).length ≤ 2000 := by rw [List.length_map]; exact h.len
 obtain ⟨r, hr, hr2⟩ := unpW (eg_le hd3 hg) hok hsum hlen
 have hvw := validW (eg_le hd3 hg) hok hsum
 have hu := h.unp
 generalize hV : vec (eg c d) (ts.map (gv1 c)) = V at *
 have hr' : Ev (fun k => impl_UnpackVector.f k V.1 V.2.1 V.2.2) r := by rw [← hV]; exact hr
 have hvw' : Ev (fun k => impl_VectorValid.f k V.1 V.2.1 V.2.2) (vok ((ts.map (gv1 c)).length : Int) ((lvl (eg c d) (ts.map (gv1 c))).map ints) (ints (datN (eg c d) (ts.map (gv1 c))))) := by rw [← hV]; exact hvw
 have hV1 : V.1 = (ts.length : Int) := by rw [← hV]; show ((ts.map (gv1 c)).length : Int) = _; rw [List.length_map]
 refine EvS ?_; simp only [laws_FnDoInstruction.j0]
 refine eN (Ev.bind hr' ?_)
 rcases hr2 with rfl | ⟨rfl, hval⟩
 · refine EvS ?_; simp only [laws_FnDoInstruction.l0]
   refine eP (eO (eP (Ev.bind hu (eN (eP ?_)))))
   rw [w1]
   refine EvS ?_; simp only [laws_FnDoInstruction.l0]
   exact eN (eN (Ev.now _))
 · rw [hval] at hvw'
   by_cases hall : ∀ t ∈ ts.map (gv1 c), (text (eg c d) t).length ≤ 400
   · rw [unpR_yes hall]
     refine EvS ?_; simp only [laws_FnDoInstruction.l0]
     refine eP (eO (eP (Ev.bind hu (Ev.pos (by first | trivial | rfl) (eP ?_)))))
     rw [w1]
     by_cases hall2 : ∀ t ∈ ts, (text d t).length ≤ 400
     · rw [unpR_yes hall2]
       refine EvS ?_; simp only [laws_FnDoInstruction.l0]
       refine eN (Ev.pos (by first | trivial | rfl) ?_)
       rw [hV1]
       have := law_l1 (BA [c]) [mkV v] ((ts.map (gv1 c)).map fun t => BA (text (eg c d) t)) [ts.map fun t => BA (text d t)] V (by simp) ts.length h.len hV1 (fun x hx => by rw [List.mem_singleton.1 hx, List.length_map]) (by simp) (by rw [List.length_map, List.length_map]) h.c (d : Int) (by show (v.2.1.length : Int) = _; rw [h.dl]) (fun i hi => by
        have hi2 : i < (ts.map (gv1 c)).length := by rw [List.length_map]; exact hi
        rw [List.map_singleton, getD_texts d ts i hi, getD_texts (eg c d) _ i hi2, List.getElem_map]
        exact app1 hd3 (h.ok _ (List.getElem_mem hi)) (hall2 _ (List.getElem_mem hi)) hg (hall _ (List.mem_map.2 ⟨_, List.getElem_mem hi, rfl⟩))) hvw' _ 0 rfl (Nat.zero_le _)
       rw [← hV1] at this ⊢
       exact this
     · rw [unpR_not hall2]
       refine EvS ?_; simp only [laws_FnDoInstruction.l0]
       exact eN (eN (Ev.now _))
   · rw [unpR_not hall]
     refine EvS ?_; simp only [laws_FnDoInstruction.l0]
     refine eP (eO (eP (Ev.bind hu (eN (eP ?_)))))
     rw [w1]
     refine EvS ?_; simp only [laws_FnDoInstruction.l0]
     exact eN (eN (Ev.now _))
theorem rest2 {c : UInt8} {d : Nat} {ts us : List Tr} {v w : V3} (h : Tv d ts v) (hw : Tv 0 us w) (hl : ts.length = us.length) (hg : ¬ sg2 c (d : Int) < 0) : Ev (fun k => laws_FnDoInstruction.j0 k (BA [c]) [mkV v, mkV w] true true false (vec 0 (List.zipWith (gv2 c) ts us)).1 (vec 0 (List.zipWith (gv2 c) ts us)).2.1 (vec 0 (List.zipWith (gv2 c) ts us)).2.2 (vec 0 (List.zipWith (gv2 c) ts us)).1 (vec 0 (List.zipWith (gv2 c) ts us)).2.1 (vec 0 (List.zipWith (gv2 c) ts us)).2.2) true := by
 have hd3 := h.d3
 have hzl : (List.zipWith (gv2 c) ts us).length = ts.length := by rw [List.length_zipWith, ← hl, Nat.min_self]
 have hok := zip_ok h hw hg
 have hsum := zip_bd (c := c) h hl
 obtain ⟨r, hr, hr2⟩ := unpW (by decide) hok hsum (by rw [hzl]; exact h.len)
 have hvw := validW (by decide : (0 : Nat) ≤ 3) hok hsum
 have hu := h.unp
 have hu2 := hw.unp
 generalize hV : vec 0 (List.zipWith (gv2 c) ts us) = V at *
 have hr' : Ev (fun k => impl_UnpackVector.f k V.1 V.2.1 V.2.2) r := by rw [← hV]; exact hr
 have hvw' : Ev (fun k => impl_VectorValid.f k V.1 V.2.1 V.2.2) (vok ((List.zipWith (gv2 c) ts us).length : Int) ((lvl 0 (List.zipWith (gv2 c) ts us)).map ints) (ints (datN 0 (List.zipWith (gv2 c) ts us)))) := by rw [← hV]; exact hvw
 have hV1 : V.1 = (ts.length : Int) := by rw [← hV]; show ((List.zipWith (gv2 c) ts us).length : Int) = _; rw [hzl]
 have dead : ∀ (out : List ByteArray), Ev (fun k => laws_FnDoInstruction.l0 k (BA [c]) [mkV v, mkV w] out false [] [mkV v, mkV w] (([mkV v, mkV w].length : Nat) : Int) 0 V.1 V.2.1 V.2.2) true := fun out => by
  refine EvS ?_; simp only [laws_FnDoInstruction.l0]
  refine eP (eO (eP (Ev.bind hu (eN (eP ?_)))))
  rw [w1]
  refine EvS ?_; simp only [laws_FnDoInstruction.l0]
  refine eP (eO (eP (Ev.bind (a := unpR 0 us) hu2 (eN (eP ?_)))))
  rw [w2]
  refine EvS ?_; simp only [laws_FnDoInstruction.l0]
  exact eN (eN (Ev.now _))
 refine EvS ?_; simp only [laws_FnDoInstruction.j0]
 refine eN (Ev.bind hr' ?_)
 rcases hr2 with rfl | ⟨rfl, hval⟩
 · exact dead []
 · rw [hval] at hvw'
   by_cases hall : ∀ t ∈ List.zipWith (gv2 c) ts us, (text 0 t).length ≤ 400
   · rw [unpR_yes hall]
     refine EvS ?_; simp only [laws_FnDoInstruction.l0]
     refine eP (eO (eP (Ev.bind hu (Ev.pos (by first | trivial | rfl) (eP ?_)))))
     rw [w1]
     by_cases hall2 : ∀ t ∈ ts, (text d t).length ≤ 400
     · rw [unpR_yes hall2]
       refine EvS ?_; simp only [laws_FnDoInstruction.l0]
       refine eP (eO (eP (Ev.bind (a := unpR 0 us) hu2 (Ev.pos (by first | trivial | rfl) (eP ?_)))))
       rw [w2]
       by_cases hall3 : ∀ t ∈ us, (text 0 t).length ≤ 400
       · rw [unpR_yes hall3]
         refine EvS ?_; simp only [laws_FnDoInstruction.l0]
         refine eN (Ev.pos (by first | trivial | rfl) ?_)
         have := law_l1 (BA [c]) [mkV v, mkV w] ((List.zipWith (gv2 c) ts us).map fun t => BA (text 0 t)) [ts.map fun t => BA (text d t), us.map fun t => BA (text 0 t)] V (by simp) ts.length h.len hV1 (fun x hx => by
          simp only [List.mem_cons, List.not_mem_nil, or_false] at hx
          rcases hx with rfl | rfl
          · rw [List.length_map]
          · rw [List.length_map, hl]) (by simp) (by rw [List.length_map, hzl]) h.c (d : Int) (by show (v.2.1.length : Int) = _; rw [h.dl]) (fun i hi => by
          have hi2 : i < us.length := by omega
          have hi3 : i < (List.zipWith (gv2 c) ts us).length := by rw [hzl]; exact hi
          rw [List.map_cons, List.map_singleton, getD_texts d ts i hi, getD_texts 0 us i hi2, getD_texts 0 _ i hi3, List.getElem_zipWith]
          refine app2 hd3 (h.ok _ (List.getElem_mem hi)) (hall2 _ (List.getElem_mem hi)) (hw.ok _ (List.getElem_mem hi2)) (hall3 _ (List.getElem_mem hi2)) hg ?_
          have := hall _ (List.getElem_mem hi3)
          rw [List.getElem_zipWith] at this
          exact this) hvw' _ 0 rfl (Nat.zero_le _)
         rw [← hV1] at this
         exact this
       · rw [unpR_not hall3]
         refine EvS ?_; simp only [laws_FnDoInstruction.l0]
         exact eN (eN (Ev.now _))
     · rw [unpR_not hall2]
       refine EvS ?_; simp only [laws_FnDoInstruction.l0]
       refine eP (eO (eP (Ev.bind (a := unpR 0 us) hu2 (eN (eP ?_)))))
       rw [w2]
       refine EvS ?_; simp only [laws_FnDoInstruction.l0]
       exact eN (eN (Ev.now _))
   · rw [unpR_not hall]
     exact dead []
theorem Pure_FnDoInstruction : laws_FnDoInstruction.Pure := by
 intro l0 _ _ hwf
 refine Ev.rounds (r := true) ?_
 unfold laws_FnDoInstruction.f
 by_cases c0 : (l0.length : Int) > 1048576
 · exact Ev.pos c0 (Ev.now _)
 refine Ev.neg c0 ?_
 obtain ⟨s, vs, hd, hvs, hb⟩ := drawD_is l0 hwf
 have fin : ∀ (R : Vec), Ev (fun k => impl_DoInstruction.f k (BA s) (vs.map mkV)) R → Ev (fun k => spec_DoInstruction.f k (BA s) (vs.map mkV)) R → Ev (fun k => laws_faVector.f k R.1 R.2.1 R.2.2.1 R.1 R.2.1 R.2.2.1) true →
  Ev (fun k => laws_FnDoInstruction.j0 k (BA s) (vs.map mkV) R.2.2.2 R.2.2.2 (!R.2.2.2) R.1 R.2.1 R.2.2.1 R.1 R.2.1 R.2.2.1) true →
  Ev (fun n => (spec_DrawDoInstruction.f n l0).bind fun bt1110 => ((impl_DoInstruction.f n bt1110.1 bt1110.2).bind fun bt1114 => ((spec_DoInstruction.f n bt1110.1 bt1110.2).bind fun bt1123 => ((laws_faVector.f n bt1114.1 bt1114.2.1 bt1114.2.2.1 bt1123.1 bt1123.2.1 bt1123.2.2.1).bind fun t1132 => (if t1132 = true then (if (bt1114.2.2.2 != bt1123.2.2.2) = true then (laws_FnDoInstruction.j0 n bt1110.1 bt1110.2 bt1114.2.2.2 bt1123.2.2.2 true bt1114.1 bt1114.2.1 bt1114.2.2.1 bt1123.1 bt1123.2.1 bt1123.2.2.1) else (laws_FnDoInstruction.j0 n bt1110.1 bt1110.2 bt1114.2.2.2 bt1123.2.2.2 (!bt1114.2.2.2) bt1114.1 bt1114.2.1 bt1114.2.2.1 bt1123.1 bt1123.2.1 bt1123.2.2.1)) else (laws_FnDoInstruction.j0 n bt1110.1 bt1110.2 bt1114.2.2.2 bt1123.2.2.2 true bt1114.1 bt1114.2.1 bt1114.2.2.1 bt1123.1 bt1123.2.1 bt1123.2.2.1)))))) true := fun R h1 h2 h3 h4 =>
  Ev.bind hd (Ev.bind h1 (Ev.bind h2 (Ev.bind h3 (Ev.pos rfl (eN h4)))))
 have hno : Ev (fun k => laws_faVector.f k noV.1 noV.2.1 noV.2.2.1 noV.1 noV.2.1 noV.2.2.1) true := faV (0, [], []) (by simp) (fun r hr => by cases hr) (by simp)
 have jno : Ev (fun k => laws_FnDoInstruction.j0 k (BA s) (vs.map mkV) noV.2.2.2 noV.2.2.2 (!noV.2.2.2) noV.1 noV.2.1 noV.2.2.1 noV.1 noV.2.1 noV.2.2.1) true := by
  refine EvS ?_; simp only [laws_FnDoInstruction.j0]
  exact Ev.pos (by first | trivial | rfl) (Ev.bind hno (Ev.pos (by first | trivial | rfl) (Ev.now _)))
 rcases hvs with ⟨v, rfl⟩ | ⟨v, w, rfl⟩
 · obtain ⟨b1, b2, b3⟩ := hb v (by simp)
   obtain ⟨R, hA, hS, hR⟩ := do_one s v b1 b2 b3
   rcases hR with rfl | ⟨c, d, ts, rfl, h, hg, rfl⟩
   · exact fin noV hA hS hno jno
   · obtain ⟨g1, g2, g3⟩ := vec_bd (eg c d) (ts.map (gv1 c)) (fun t ht => by
      obtain ⟨x, hx, rfl⟩ := List.mem_map.1 ht
      exact (gv1_is (h.ok x hx) (Nat.le_trans (sum_mem (nodes d) ts x hx) (Nat.le_trans h.sum (by decide))) hg).1) (Nat.le_trans (sum_gv1 h hg) (by decide))
     exact fin _ hA hS (faV (vec (eg c d) (ts.map (gv1 c))) (by rw [g1]; exact Nat.le_trans (eg_le h.d3 hg) (by decide)) g2 g3) (rest1 h hg)
 · obtain ⟨b1, b2, b3⟩ := hb v (by simp)
   obtain ⟨e1, e2, e3⟩ := hb w (by simp)
   obtain ⟨R, hA, hS, hR⟩ := do_two s v w b1 b2 b3 e1 e2 e3
   rcases hR with rfl | ⟨c, d, ts, us, rfl, h, hw, hl, hg, rfl⟩
   · exact fin noV hA hS hno jno
   · obtain ⟨g1, g2, g3⟩ := vec_bd 0 (List.zipWith (gv2 c) ts us) (zip_ok h hw hg) (Nat.le_trans (zip_bd h hl) (by decide))
     exact fin _ hA hS (faV (vec 0 (List.zipWith (gv2 c) ts us)) (by rw [g1]; decide) g2 g3) (rest2 h hw hl hg)
end Go.Proofs.YtjkngiciigdheaaGreatDoor.K
