/- A part of the claim. -/
import Derived.Test.YtjkngiciigdheaaGreatDoorKFx0
namespace Go.Proofs.YtjkngiciigdheaaGreatDoor.K
open Go.RowKit Go.Proofs.YtjkngiciigdheaaGreatDoorW.St Go.Proofs.YtjkngiciigdheaaGreatDoorW.PrintWords Go.Proofs.YtjkngiciigdheaaGreatDoorW.PrintLast Go.Proofs.YtjkngiciigdheaaGreatDoorW.PrintMore
set_option linter.unusedVariables false
set_option linter.unusedSimpArgs false
theorem info3 : (Tryz.prog.info? 3).map (fun i => (i.zero, i.size, i.bytes)) = some (some (.int .i64 0), 1, 8) := by kernel_rfl
theorem info22 : (Tryz.prog.info? 27).map (fun i => (i.zero, i.size, i.bytes)) = some (some (.slice none 0 0), 1, 24) := by kernel_rfl
def F70 (d : Kd S70) : Kd S70 := Kd.iso (Kd.pair (Kd.int .i64) (Kd.slice 70 d)) (fun x : S70 => (x.f0, x.f1))
theorem mono70 : Kd.Mono F70 := Kd.mono_iso _ (Kd.mono_pair (Kd.mono_const _) (Kd.mono_slice 70 Kd.mono_id))
theorem sub70 : Kd.Sub F70 [70] := Kd.sub_iso _ (Kd.sub_pair (Kd.sub_const _ (by decide)) (Kd.sub_slice 70 (by decide) Kd.sub_id))
theorem sz70 : ∀ n, (Kd.upto F70 2 [70] n).sz = 2 := Kd.upto_sz (fun _ => rfl)
def k70 : Kd S70 := Kd.fix F70 2 [70] sz70 (Kd.upto_E sub70)
theorem k70_heap : Kd.Heap k70 := Kd.heap_fix (fun _ h_ => Kd.heap_iso _ (Kd.heap_pair (Kd.heap_int .i64) (Kd.heap_slice 70 h_)))
theorem k70_open {w : World} {x : S70} {cs : List Value} (h : k70.K w x cs) : ∃ A1 c1, cs = [.int .i64 x.f0, .slice A1 x.f1.length c1] ∧ x.f1.length ≤ c1 ∧ k70.C w A1 x.f1.length x.f1 := by
 obtain ⟨n, h⟩ := h
 cases n with
 | zero => exact h.elim
 | succ n =>
  obtain ⟨_, _, rfl, rfl, ⟨A1, c1, rfl, l1, g1⟩⟩ := h
  exact ⟨A1, c1, rfl, l1, Kd.fix_C g1⟩
theorem k70_openM {w : World} {base : Nat} {ok : Nat → Prop} {x : S70} {cs : List Value} (h : k70.M w base ok x cs) : ∃ v1, cs = [.int .i64 x.f0, v1] ∧ k70.R 70 w base ok v1 x.f1 := by
 obtain ⟨n, h⟩ := h
 cases n with
 | zero => exact h.elim
 | succ n =>
  obtain ⟨_, _, rfl, rfl, ⟨v1, rfl, g1⟩⟩ := h
  exact ⟨v1, rfl, Kd.fix_R g1⟩
theorem k70_mk (w : World) (x : S70) {A1 : Option Addr} {c1 : Nat} (l1 : x.f1.length ≤ c1) (g1 : k70.C w A1 x.f1.length x.f1) : k70.K w x [.int .i64 x.f0, .slice A1 x.f1.length c1] := by
 obtain ⟨n1, q1⟩ := Kd.fix_C_back mono70 g1
 have r1 := Kd.upto_C_le mono70 sz70 (show n1 ≤ n1 by omega) q1
 exact ⟨n1 + 1, ⟨[.int .i64 x.f0], [.slice A1 x.f1.length c1], rfl, rfl, ⟨A1, c1, rfl, l1, r1⟩⟩⟩
theorem k70_mkM (w : World) (base : Nat) (ok : Nat → Prop) (x : S70) {v1 : Value} (g1 : k70.R 70 w base ok v1 x.f1) : k70.M w base ok x [.int .i64 x.f0, v1] := by
 obtain ⟨n1, q1⟩ := Kd.fix_R_back mono70 g1
 have r1 := Kd.upto_R_le mono70 sz70 (show n1 ≤ n1 by omega) q1
 exact ⟨n1 + 1, ⟨[.int .i64 x.f0], [v1], rfl, rfl, ⟨v1, rfl, r1⟩⟩⟩
theorem at_T70 {w : World} {A : Option Addr} {n : Nat} {xs : List S70} (h : Kd.C k70 w A n xs) (i : Int) (h0 : 0 ≤ i) (h1 : i < n) : ∃ ad A1 c1, A = some ad ∧ w.cell? (ad.add (i.toNat * 2)) = some (.int .i64 (rd_T70 xs i).f0) ∧ w.cell? ⟨(ad.add (i.toNat * 2)).block, (ad.add (i.toNat * 2)).off + 1, none⟩ = some (.slice A1 (rd_T70 xs i).f1.length c1) ∧ (rd_T70 xs i).f1.length ≤ c1 ∧ k70.C w A1 (rd_T70 xs i).f1.length (rd_T70 xs i).f1 := by
 obtain ⟨ad, c, e, _, hK, hc0⟩ := Kd.C_get h z70 i h0 h1
 have hc : ∀ j u, c[j]? = some u → w.cell? (ad.add (i.toNat * 2 + j)) = some u := hc0
 obtain ⟨A1, c1, rfl, l1, g1⟩ := k70_open hK
 exact ⟨ad, A1, c1, e, hc 0 _ rfl, by rw [← add_field _ _ 1 (by omega)]; exact hc 1 _ rfl, l1, g1⟩
theorem addr_add (b o n : Nat) : (⟨b, o, none⟩ : Addr).add n = ⟨b, o + n, none⟩ := by
 unfold Addr.add
 split
 · next h => subst h; rfl
 · rfl
theorem reads_of {α : Type} {f : α → List AV} {K : α → List Value → Prop} {sz : Nat} {w : World} {ro : Nat → Prop} (hel : ∀ x us, repL w ro (f x) us → K x us) {xs : List α} {u : Value} (h : rep w ro (.sl sz (rX f xs)) u) :
 ∃ A c, u = .slice A xs.length c ∧ xs.length ≤ c ∧ ReadsRow K sz w A xs.length xs := by
 obtain ⟨A, c, h1, h2, h3, h4⟩ := h
 rw [rX_length] at h1 h2 h4
 refine ⟨A, c, h1, h2, rfl, by simp only [maxLen] at h3; omega, fun hn => ?_⟩
 obtain ⟨b, o, rfl, _, h5⟩ := h4 hn
 refine ⟨_, rfl, fun j p hj => ?_⟩
 obtain ⟨h6, h7⟩ := repR_get h5 (i := j) (x := f p) (by simp [rX, hj])
 obtain ⟨us, h8, h9⟩ := repL_of h7
 refine ⟨us, by rw [repL_len h8, h6], hel p us h8, fun i u hu => ?_⟩
 rw [addr_add, ← Nat.add_assoc]
 exact h9 i u hu
theorem int_of {k : IntKind} {w : World} {ro : Nat → Prop} {xs : List Int} {u : Value} (h : rep w ro (.sl 1 (rX (cI k) xs)) u) : ∃ A c, u = .slice A xs.length c ∧ xs.length ≤ c ∧ Kd.C (Kd.int k) w A xs.length xs :=
 reads_of (fun x us h => by
  obtain ⟨v, r, rfl, hv, hr⟩ := h
  obtain rfl : v = .int k x := (show v = .int k x ∧ _ from hv).1
  obtain rfl : r = [] := hr
  rfl) h
theorem rep_own {α : Type} {f : α → List AV} {R : α → List Value → Prop} {e sz base : Nat} {w : World} {ro : Nat → Prop} {v : Value} {xs : List α} (h : OwnRow R e sz w base v xs) (hsz : ∀ x, (f x).length = sz) (hel : ∀ x us, R x us → repL w ro (f x) us) (hro : ∀ b, v.ownBlock = some b → ro b) : rep w ro (.sl sz (rX f xs)) v := by
 obtain ⟨inner, ⟨h1, h2⟩, h3⟩ := h
 rcases h2 with ⟨rfl, h0⟩ | ⟨g, cap, cur, rfl, hg, hh, h4, h5, h6, h7⟩
 · obtain rfl : xs = [] := List.eq_nil_of_length_eq_zero h0
   exact ⟨none, 0, rfl, Nat.le_refl _, by simp [maxLen], fun h => by simp [rX] at h⟩
 · refine ⟨some ⟨g, 0, none⟩, cap, by rw [rX_length], by rw [rX_length]; exact h4, h5, fun _ => ⟨g, 0, rfl, hro g rfl, ?_⟩⟩
   have hF : ∀ (ys : List α) (cs : List Value), Reps R sz ys cs → repF w ro sz (rX f ys) cs := by
    intro ys
    induction ys with
    | nil =>
     intro cs hc
     have := hc.1
     simp only [List.length_nil, Nat.zero_mul] at this
     exact List.eq_nil_of_length_eq_zero this
    | cons y ys ih =>
     intro cs hc
     have h0 := hc.2 0 y rfl
     simp only [Nat.zero_mul, List.drop_zero] at h0
     refine ⟨cs.take sz, cs.drop sz, (List.take_append_drop _ _).symm, hsz y, hel y _ h0, ih _ ⟨?_, fun j p hj => ?_⟩⟩
     · rw [List.length_drop, hc.1, List.length_cons, Nat.add_mul]; omega
     · have := hc.2 (j + 1) p (by simpa using hj)
       rwa [Nat.add_mul, Nat.one_mul, Nat.add_comm, ← List.drop_drop] at this
   refine repR_of (hF xs inner h3) (fun j u hj => ?_)
   rw [← h7] at hj
   have hj2 : cur[j]? = some u := by
    have h8 := hj
    rw [List.getElem?_take] at h8
    split at h8
    · simpa using h8
    · cases h8
   unfold World.cell?
   rw [hh]
   simp [hj2]
theorem rep_int {w : World} {ro : Nat → Prop} {base e : Nat} {ok : Nat → Prop} {v : Value} {k : IntKind} {xs : List Int} (h : Kd.R (Kd.int k) e w base ok v xs) (hro : ∀ b, base ≤ b → b < w.heap.size → ro b) : rep w ro (.sl 1 (rX (cI k) xs)) v := by
 have h1 := h.2
 refine rep_own (f := cI k) (sz := 1) h1 (fun _ => rfl) (fun x us hx => ?_) (fun b hb => ?_)
 · obtain rfl : us = [.int k x] := hx
   exact ⟨_, [], rfl, ⟨rfl, rfl⟩, rfl⟩
 · obtain ⟨inner, ho, _⟩ := h1
   exact hro b (own_base ho b hb) (own_lt ho b hb)
theorem rep_ints {w : World} {ro : Nat → Prop} {base e e1 : Nat} {ok : Nat → Prop} {v : Value} {k : IntKind} {xs : List (List Int)} (h : Kd.R (Kd.slice e1 (Kd.int k)) e w base ok v xs) (hro : ∀ b, base ≤ b → b < w.heap.size → ro b) : rep w ro (.sl 1 (rX (cL (cI k) 1) xs)) v := by
 have h1 := h.2
 refine rep_own (f := cL (cI k) 1) (sz := 1) h1 (fun _ => rfl) (fun x us hx => ?_) (fun b hb => ?_)
 · obtain ⟨v, rfl, hR⟩ := hx
   exact ⟨v, [], rfl, rep_int hR hro, rfl⟩
 · obtain ⟨inner, ho, _⟩ := h1
   exact hro b (own_base ho b hb) (own_lt ho b hb)
theorem ctr_made {f : Nat} {args : List AV} {rs : List RS} (hcal : Callable TE.P f) (h : ∀ (w : World) (ro : Nat → Prop) (g : Gh) (vals : List Value), TE.Laid w → partsR w ro g [] args vals → Calls TE.P f vals.toArray w fun e w' => ∃ vs, e = .returned (retV vs) ∧ Below w.heap.size w w' ∧ ∀ ro' : Nat → Prop, (∀ b, ro b → ro' b) → (∀ b, w.heap.size ≤ b → b < w'.heap.size → ro' b) → resR w' ro' w.heap.size [] rs vs) : Ctr TE f none args rs [] :=
 ⟨hcal, fun w ro B vals hL hro _ hp => (h w ro _ vals hL hp).mono fun e w' ⟨vs, he, hb, hr⟩ => ⟨vs, fun b => ro b ∨ (w.heap.size ≤ b ∧ b < w'.heap.size), he, ⟨hb.os, hb.tape, hb.output, hb.size, fun k hk _ => hb.block k hk, fun b hb => .inl hb, fun b hb' => hb'.elim (fun hr => ⟨Nat.lt_of_lt_of_le (hro b hr) hb.size, .inl hr⟩) (fun hr => ⟨hr.2, .inr hr.1⟩), hr _ (fun b hb => .inl hb) (fun b h1 h2 => .inr ⟨h1, h2⟩), fun T cs e => by cases e⟩⟩⟩
theorem laid_b {w w' : World} (h : Sg.LaidW w) (hb : Below w.heap.size w w') : Sg.LaidW w' := Sg.LaidW.stay w w' h (fun k hk => hb.block k (Nat.lt_of_lt_of_le hk (Sg.LaidW.size w h)))
theorem rep_of_own {w : World} {ro : Nat → Prop} {base E sz : Nat} {v : Value} {xs : List (List AV)} {us : List Value} (hf : repF w ro sz xs us) (ho : w.ownsRow base E sz v xs.length us) : rep w (fun _ => True) (.sl sz xs) v := by
 obtain ⟨h1, h2⟩ := ho
 have hf' := repF_mono (ro' := fun _ => True) (w' := w) (fun b _ => ⟨trivial, rfl⟩) sz xs us hf
 rcases h2 with ⟨rfl, h0⟩ | ⟨g, cap, cur, rfl, hg, hh, h4, h5, h6, h7⟩
 · obtain rfl : xs = [] := List.eq_nil_of_length_eq_zero h0
   exact ⟨none, 0, rfl, Nat.le_refl _, by simp [maxLen], fun h => by simp at h⟩
 · refine ⟨some ⟨g, 0, none⟩, cap, rfl, h4, h5, fun _ => ⟨g, 0, rfl, trivial, ?_⟩⟩
   refine repR_of hf' (fun j u hj => ?_)
   rw [← h7] at hj
   have hj2 : cur[j]? = some u := by
    have h8 := hj
    rw [List.getElem?_take] at h8
    split at h8
    · simpa using h8
    · cases h8
   unfold World.cell?
   rw [hh]
   simp [hj2]
theorem ints_of {k : IntKind} {e : Nat} {w : World} {ro : Nat → Prop} {xs : List (List Int)} {u : Value} (h : rep w ro (.sl 1 (rX (cL (cI k) 1) xs)) u) : ∃ A c, u = .slice A xs.length c ∧ xs.length ≤ c ∧ Kd.C (Kd.slice e (Kd.int k)) w A xs.length xs :=
 reads_of (fun x us h => by
  obtain ⟨v, r, rfl, hv, hr⟩ := h
  obtain rfl : r = [] := hr
  obtain ⟨A, c, rfl, h1, h2⟩ := int_of hv
  exact ⟨A, c, rfl, h1, h2⟩) h
def RdI (w : World) (v : Value) (xs : List Int) : Prop := ∃ A c, v = .slice A xs.length c ∧ xs.length ≤ c ∧ Kd.C (Kd.int .i64) w A xs.length xs
theorem RdI_below {w w' : World} {v : Value} {xs : List Int} (h : RdI w v xs) (hb : Below w.heap.size w w') : RdI w' v xs := by
 obtain ⟨A, c, h1, h2, h3⟩ := h
 exact ⟨A, c, h1, h2, Kd.C_below h3 hb⟩
mutual
theorem k70_of {w : World} {ro : Nat → Prop} : ∀ (x : S70) (us : List Value), repL w ro (c70 x) us → k70.K w x us
 | ⟨n, ps⟩, us, h => by
  simp only [c70] at h
  obtain ⟨v, r, rfl, hv, v2, r2, rfl, hv2, hr⟩ := h
  obtain rfl : r2 = [] := hr
  obtain rfl : v = .int .i64 n := (show v = .int .i64 n ∧ _ from hv).1
  obtain ⟨A, c, rfl, h1, h2⟩ := r70_of ps v2 hv2
  exact k70_mk w ⟨n, ps⟩ h1 h2
theorem r70_of {w : World} {ro : Nat → Prop} : ∀ (xs : List S70) (u : Value), rep w ro (.sl 2 (r70 xs)) u → ∃ A c, u = .slice A xs.length c ∧ xs.length ≤ c ∧ Kd.C k70 w A xs.length xs
 | xs, u, h => by
  obtain ⟨A, c, h1, h2, h3, h4⟩ := h
  rw [r70_eq, rX_length] at h1 h2
  refine ⟨A, c, h1, h2, rfl, by simp only [maxLen] at h3; omega, fun hn => ?_⟩
  obtain ⟨b, o, rfl, _, h5⟩ := h4 (by rw [r70_eq, rX_length]; exact hn)
  exact ⟨_, rfl, r70_at' xs b o h5⟩
theorem r70_at' {w : World} {ro : Nat → Prop} : ∀ (xs : List S70) (b o : Nat), repR w ro 2 (r70 xs) b o → ∀ j p, xs[j]? = some p → ∃ c : List Value, c.length = 2 ∧ k70.K w p c ∧ ∀ i u, c[i]? = some u → w.cell? ((⟨b, o, none⟩ : Addr).add (j * 2 + i)) = some u
 | [], b, o, h => fun j p hj => by simp at hj
 | x :: xs, b, o, h => fun j p hj => by
  simp only [r70] at h
  obtain ⟨⟨h1, h2⟩, h3⟩ := h
  cases j with
  | zero =>
   obtain rfl : x = p := by simpa using hj
   obtain ⟨us, h4, h5⟩ := repL_of h2
   refine ⟨us, by rw [repL_len h4, h1], k70_of x us h4, fun i u hu => ?_⟩
   rw [addr_add, Nat.zero_mul, Nat.zero_add]
   exact h5 i u hu
  | succ j =>
   obtain ⟨c, h4, h5, h6⟩ := r70_at' xs b (o + 2) h3 j p (by simpa using hj)
   refine ⟨c, h4, h5, fun i u hu => ?_⟩
   have := h6 i u hu
   rw [addr_add] at this ⊢
   rwa [show o + ((j + 1) * 2 + i) = o + 2 + (j * 2 + i) by omega]
end
end Go.Proofs.YtjkngiciigdheaaGreatDoor.K
