/- Words: a walk by reckoning, and why it is right. -/
import Derived.Test.YtjkngiciigdheaaGreatDoorKFS1
import Derived.Deep.LoopGhost
namespace Go.Proofs.YtjkngiciigdheaaGreatDoorW.St
open Go.RowKit Go.Proofs.YtjkngiciigdheaaGreatDoorW.PrintLast
set_option linter.unusedSimpArgs false
set_option linter.unusedVariables false
def lOf (n m : Nat) : Array Bool := ((List.range n).map (fun i => m.testBit i)).toArray
theorem lOf_set (n m i : Nat) : (lOf n m).setIfInBounds i true = lOf n (m ||| 2 ^ i) := by
 apply Array.ext
 · simp [lOf]
 · intro j h1 h2
   simp only [lOf, Array.getElem_setIfInBounds, List.getElem_toArray, List.getElem_map, List.getElem_range, Nat.testBit_or, Nat.testBit_two_pow]
   by_cases h : i = j <;> simp [h]
theorem lOf_zero (n : Nat) : lOf n 0 = Array.replicate n false := by
 apply Array.ext
 · simp [lOf]
 · intro j h1 h2
   simp [lOf]
structure Gn where
 m : Nat
 d : Nat
 pu : Bool
 is : List Nat
def dOf (fin m : Nat) : List Gn → Option Nat
 | [] => match Nat.beq m fin with
  | true => some 0
  | false => none
 | x :: r => match Nat.beq m x.m with
  | true => some x.d
  | false => dOf fin m r
def chkI (fin m d : Nat) (r : List Gn) : List Nat → Bool
 | [] => true
 | i :: q => match dOf fin (m ||| 2 ^ i) r with
  | some e => match Nat.blt e d with
   | true => chkI fin m d r q
   | false => false
  | none => false
def chkN (ops : Array Oper) (fin : Nat) : List Gn → Bool
 | [] => Region.ready .any ops (lOf ops.size fin) == []
 | ⟨m, d, true, [i]⟩ :: r => Region.noSelect ops && Region.free .any ops (lOf ops.size m) i && (Region.ready .any ops (lOf ops.size m)).contains i && chkI fin m d r [i] && chkN ops fin r
 | ⟨m, d, false, is⟩ :: r => Region.ready .any ops (lOf ops.size m) == is && !is.isEmpty && chkI fin m d r is && chkN ops fin r
 | _ => false
def chkG (ops : Array Oper) (fin : Nat) (ns : List Gn) : Bool := chkN ops fin ns && (match dOf fin 0 ns with
 | some d => Nat.ble d ops.size
 | none => false)
def fTl {β : Type} : List (Nat × AV) → (List (Nat × AV) → β) → β
 | [], k => k []
 | (n, x) :: r, k => fAV x fun y => fTl r fun q => k ((n, y) :: q)
def fMl {β : Type} : List (Nat × Ent) → (List (Nat × Ent) → β) → β
 | [], k => k []
 | (n, .own v E sz xs) :: r, k => fMl r fun q => k ((n, .own v E sz xs) :: q)
 | (n, .froz v sz xs) :: r, k => fMl r fun q => k ((n, .froz v sz xs) :: q)
 | (n, .box v T x cs) :: r, k => fMl r fun q => k ((n, .box v T x cs) :: q)
theorem fTl_eq {β : Type} : ∀ (l : List (Nat × AV)) (k : List (Nat × AV) → β), fTl l k = k l
 | [], k => rfl
 | (n, x) :: r, k => by simp only [fTl, fAV_eq, fTl_eq r]
theorem fMl_eq {β : Type} : ∀ (l : List (Nat × Ent)) (k : List (Nat × Ent) → β), fMl l k = k l
 | [], k => rfl
 | (n, .own v E sz xs) :: r, k => by simp only [fMl, fMl_eq r]
 | (n, .froz v sz xs) :: r, k => by simp only [fMl, fMl_eq r]
 | (n, .box v T x cs) :: r, k => by simp only [fMl, fMl_eq r]
def fS {β : Type} (σ : St) (k : St → β) : β := fTl (normL σ.t) fun t => fMl (normL σ.m) fun m => k ⟨t, m⟩
theorem fS_eq {β : Type} (σ : St) (k : St → β) : fS σ k = k (normS σ) := by
 simp only [fS, fTl_eq, fMl_eq, normS]
def evL (E : Env) (ops : List Oper) (hs : List (Nat × List D)) : List (Nat × Bool) → St → Option Prop → Option (St × Option Prop)
 | [], σ, c => some (σ, c)
 | (i, pu) :: r, ⟨t, m⟩, c => match stepP E ops hs pu i t m with
  | some (σ', c1) => match σ' with
   | ⟨t', m'⟩ => fC (andc c c1) fun c' => evL E ops hs r ⟨t', m'⟩ c'
  | none => none
def evC (E : Env) (ops : List Oper) (hs : List (Nat × List D)) : List (Nat × Bool) → St → List (Nat × Option Prop) → Option (St × List (Nat × Option Prop))
 | [], σ, ct => some (σ, ct)
 | (i, pu) :: r, ⟨t, m⟩, ct => match stepP E ops hs pu i t m with
  | some (σ', c1) => match σ' with
   | ⟨t', m'⟩ => fC c1 fun c1 => evC E ops hs r ⟨t', m'⟩ ((i, c1) :: ct)
  | none => none
abbrev XX := St × Option Prop
def addT (E : Env) (ops : List Oper) (hs : List (Nat × List D)) (ct : List (Nat × Option Prop)) (pu : Bool) (b : Nat) (t : List (Nat × AV)) (m : List (Nat × Ent)) : List Nat → List (Nat × St) → List (XX × XX) → Option (List (Nat × St) × List (XX × XX))
 | [], tbl, es => some (tbl, es)
 | i :: r, tbl, es => match stepP E ops hs pu i t m with
  | some (σ', c1) => match look ct i with
   | some ci => fS σ' fun s1 => fC c1 fun c1 => match look tbl (b ||| 2 ^ i) with
    | some s2 => addT E ops hs ct pu b t m r tbl (((s1, c1), (s2, ci)) :: es)
    | none => addT E ops hs ct pu b t m r ((b ||| 2 ^ i, s1) :: tbl) (((s1, c1), (s1, ci)) :: es)
   | none => none
  | none => none
def evG (E : Env) (ops : List Oper) (hs : List (Nat × List D)) (ct : List (Nat × Option Prop)) : List Gn → List (Nat × St) → List (XX × XX) → Option (List (Nat × St) × List (XX × XX))
 | [], tbl, es => some (tbl, es)
 | ⟨b, d, pu, is⟩ :: r, tbl, es => match look tbl b with
  | some ⟨t, m⟩ => match addT E ops hs ct pu b t m is tbl es with
   | some (tbl', es') => evG E ops hs ct r tbl' es'
   | none => none
  | none => none
def resG (E : Env) (ops : List Oper) (hs : List (Nat × List D)) (fin : Nat) (ns : List Gn) (ord : List (Nat × Bool)) (σ : St) : Option (List (XX × XX)) := match evC E ops hs ord σ [] with
 | some (σ1, ct) => fS σ fun s0 => match evG E ops hs ct ns [(0, s0)] [] with
  | some (tbl, es) => match look tbl fin with
   | some σf => fS σ1 fun s1 => some (((σf, none), (s1, none)) :: es)
   | none => none
  | none => none
 | none => none
def gL : Option (List (XX × XX)) → Option (List XX)
 | some l => some (l.map Prod.fst)
 | none => none
def gR : Option (List (XX × XX)) → Option (List XX)
 | some l => some (l.map Prod.snd)
 | none => some []
def GOK (E : Env) (ops : List Oper) (hs : List (Nat × List D)) (fin : Nat) (ns : List Gn) (ord : List (Nat × Bool)) (σ : St) : Prop := gL (resG E ops hs fin ns ord σ) = gR (resG E ops hs fin ns ord σ)
section
variable {E : Env} {cx : Cx}
theorem evL_c : ∀ {ord : List (Nat × Bool)} {ops : List Oper} {hs : List (Nat × List D)} {σ σ' : St} {c c' : Option Prop}, evL E ops hs ord σ c = some (σ', c') → cp c' → cp c
 | [], ops, hs, σ, σ', c, c', h, hc => by
  simp only [evL, Option.some.injEq, Prod.mk.injEq] at h
  obtain ⟨_, rfl⟩ := h
  exact hc
 | (i, pu) :: r, ops, hs, ⟨t, m⟩, σ', c, c', h, hc => by
  simp only [evL] at h
  split at h
  · rw [fC_eq] at h
    exact (cp_and (evL_c h hc)).1
  · cases h
theorem evC_ok : ∀ {ord : List (Nat × Bool)} {ops : List Oper} {hs : List (Nat × List D)} {σ σ' : St} {c c' : Option Prop} {ct : List (Nat × Option Prop)}, evL E ops hs ord σ c = some (σ', c') → cp c' → (∀ i d, look ct i = some d → cp d) → ∃ ct', evC E ops hs ord σ ct = some (σ', ct') ∧ ∀ i d, look ct' i = some d → cp d
 | [], ops, hs, σ, σ', c, c', ct, h, hc, hct => by
  simp only [evL, Option.some.injEq, Prod.mk.injEq] at h
  obtain ⟨rfl, rfl⟩ := h
  exact ⟨ct, rfl, hct⟩
 | (i, pu) :: r, ops, hs, ⟨t, m⟩, σ', c, c', ct, h, hc, hct => by
  simp only [evL] at h
  simp only [evC]
  split at h
  · rename_i s1 c1 hst
    rw [fC_eq] at h
    have hc1 := (cp_and (evL_c h hc)).2
    rw [fC_eq]
    refine evC_ok h hc (fun j d hj => ?_)
    rw [look_cons] at hj
    split at hj
    · cases hj
      exact hc1
    · exact hct j d hj
  · cases h
theorem addT_ok {ops : List Oper} {hs : List (Nat × List D)} {ct : List (Nat × Option Prop)} {pu : Bool} {b : Nat} {t : List (Nat × AV)} {m : List (Nat × Ent)} : ∀ {is : List Nat} {tbl tbl' : List (Nat × St)} {es es' : List (XX × XX)}, addT E ops hs ct pu b t m is tbl es = some (tbl', es') →
 (∀ k s, look tbl k = some s → look tbl' k = some s) ∧ (∀ e ∈ es, e ∈ es') ∧ ∀ i ∈ is, ∃ σ' c1 ci s2, stepP E ops hs pu i t m = some (σ', c1) ∧ look ct i = some ci ∧ look tbl' (b ||| 2 ^ i) = some s2 ∧ ((normS σ', c1), (s2, ci)) ∈ es'
 | [], tbl, tbl', es, es', h => by
  simp only [addT, Option.some.injEq, Prod.mk.injEq] at h
  obtain ⟨rfl, rfl⟩ := h
  exact ⟨fun _ _ h => h, fun _ h => h, fun i hi => by simp at hi⟩
 | i :: r, tbl, tbl', es, es', h => by
  simp only [addT] at h
  split at h
  · rename_i σ' c1 hst
    split at h
    · rename_i ci hci
      simp only [fS_eq, fC_eq] at h
      split at h
      · rename_i s2 hs2
        obtain ⟨h1, h2, h3⟩ := addT_ok h
        refine ⟨h1, fun e he => h2 e (List.mem_cons_of_mem _ he), fun j hj => ?_⟩
        rcases List.mem_cons.1 hj with rfl | hj
        · exact ⟨σ', c1, ci, s2, hst, hci, h1 _ _ hs2, h2 _ List.mem_cons_self⟩
        · exact h3 j hj
      · rename_i hs2
        obtain ⟨h1, h2, h3⟩ := addT_ok h
        refine ⟨fun k s hk => h1 k s ?_, fun e he => h2 e (List.mem_cons_of_mem _ he), fun j hj => ?_⟩
        · rw [look_cons]
          split
          · rename_i hk'
            rw [← hk', hs2] at hk
            cases hk
          · exact hk
        · rcases List.mem_cons.1 hj with rfl | hj
          · exact ⟨σ', c1, ci, normS σ', hst, hci, h1 _ _ (look_same _ _ _), h2 _ List.mem_cons_self⟩
          · exact h3 j hj
    · cases h
  · cases h
theorem evG_es {ops : List Oper} {hs : List (Nat × List D)} {ct : List (Nat × Option Prop)} : ∀ {ns : List Gn} {tbl tbl' : List (Nat × St)} {es es' : List (XX × XX)}, evG E ops hs ct ns tbl es = some (tbl', es') → ∀ e ∈ es, e ∈ es'
 | [], tbl, tbl', es, es', h => by
  simp only [evG, Option.some.injEq, Prod.mk.injEq] at h
  obtain ⟨rfl, rfl⟩ := h
  exact fun _ h => h
 | ⟨b, d, pu, is⟩ :: r, tbl, tbl', es, es', h => by
  simp only [evG] at h
  split at h
  · split at h
    · rename_i ha
      exact fun e he => evG_es h e ((addT_ok ha).2.1 e he)
    · cases h
  · cases h
theorem stepP_any (hF : Fr E cx) {ops : List Oper} {hs : List (Nat × List D)} {i n : Nat} {l : Array Bool} {t : List (Nat × AV)} {m : List (Nat × Ent)} {σ' : St} {c : Option Prop} {Q : Exit → Act → World → Prop} {a : Act} {w : World} {ro : Nat → Prop} {g : Gh} (hQ : ∀ c a a' w, Q (.panic c) a w → Q (.panic c) a' w) (hdst : dstsOk cx.n ops = true)
 (hst : stepP E ops hs true i t m = some (σ', c)) (hc1 : cp c) (hg : Good cx ⟨t, m⟩ a w ro g) (k1 : Region.noSelect ops.toArray = true) (k2 : Region.free .any ops.toArray l i = true) (k3 : (Region.ready .any ops.toArray l).contains i = true)
 (hK : ∀ a', Good cx σ' a' w ro g → wpAnyLast E.P .any ops.toArray Q (fun _ => True) [] n (l.setIfInBounds i true) a' w) : wpAnyLast E.P .any ops.toArray Q (fun _ => True) [] (n + 1) l a w := by
 unfold stepP at hst
 split at hst
 · cases hst
 · rename_i o ho
   have hi : ops.toArray[i]? = some o := by rw [nth_arr]; exact ho
   have hd := dstsOk_nth hdst ho
   split at hst
   · rename_i ds1 t1 c1' hgd
     split at hst
     · rename_i x m2 kk c2 ds2 he
       split at hst
       · rename_i hpu
         simp only [nx_eq, fC_eq, Option.some.injEq, Prod.mk.injEq] at hst
         obtain ⟨rfl, rfl⟩ := hst
         obtain ⟨h1, h2⟩ := gd_ok hg hgd (cp_and hc1).1
         have hk0 : kk = 0 := Nat.eq_of_beq_eq_true (by simpa using hpu)
         obtain ⟨v, hv1, hv2⟩ := ev1_pure E.tok he (cp_and hc1).2 hk0 a w ro g h2
         refine wpAnyLast_any (v := v) hi (Region.noSelect_spec k1) (fun c a' w' => hQ c _ _ w') _ l a w (Region.free_spec hi k2) (by simpa using k3) (.inl ⟨h1, hv1⟩) ?_
         exact hK _ (Good.putD (σ := ⟨t1, m2⟩) hv2.1 hd hv2.2)
       · cases hst
     · cases hst
   · rename_i t1 c1' hgd
     simp only [nx_eq, Option.some.injEq, Prod.mk.injEq] at hst
     obtain ⟨rfl, rfl⟩ := hst
     obtain ⟨h1, h2⟩ := gd_ok hg hgd hc1
     refine wpAnyLast_any (v := undef) hi (Region.noSelect_spec k1) (fun c a' w' => hQ c _ _ w') _ l a w (Region.free_spec hi k2) (by simpa using k3) (.inr ⟨h1, rfl⟩) ?_
     exact hK _ (Good.putD (σ := ⟨t1, m⟩) h2 hd VR_skip)
   · cases hst
theorem evG_ok (hF : Fr E cx) {ops : List Oper} {hs : List (Nat × List D)} {ct : List (Nat × Option Prop)} {fin : Nat} {Q : Exit → Act → World → Prop} (hQ : ∀ c a a' w, Q (.panic c) a w → Q (.panic c) a' w) (hdst : dstsOk cx.n ops = true) (hct : ∀ i d, look ct i = some d → cp d) {σf : St}
 (hK : ∀ a' w' ro' g', Good cx σf a' w' ro' g' → Q .normal a' w') : ∀ {ns : List Gn} {tbl tbl' : List (Nat × St)} {es es' : List (XX × XX)},
 evG E ops hs ct ns tbl es = some (tbl', es') → look tbl' fin = some σf → (∀ e ∈ es', e.1 = e.2) → chkN ops.toArray fin ns = true →
 (∀ k s, look tbl k = some s → look tbl' k = some s) ∧ ∀ b d σ n a w ro g, look tbl b = some σ → dOf fin b ns = some d → d ≤ n → Good cx σ a w ro g → wpAnyLast E.P .any ops.toArray Q (fun _ => True) [] n (lOf ops.toArray.size b) a w
 | [], tbl, tbl', es, es', h, hf, he, hk => by
  simp only [evG, Option.some.injEq, Prod.mk.injEq] at h
  obtain ⟨rfl, rfl⟩ := h
  refine ⟨fun _ _ h => h, fun b d σ n a w ro g hb hd hn hg => ?_⟩
  simp only [dOf] at hd
  split at hd
  · rename_i hbf
    have := Nat.eq_of_beq_eq_true hbf
    subst this
    rw [hf] at hb
    cases hb
    simp only [chkN, beq_iff_eq] at hk
    exact wpAnyLast_done hk (hK a w ro g hg) n
  · cases hd
 | ⟨b0, d0, pu, is⟩ :: r, tbl, tbl', es, es', h, hf, he, hk => by
  simp only [evG] at h
  split at h
  · rename_i t m hb0
    split at h
    · rename_i tbl1 es1 ha
      have hrest : chkN ops.toArray fin r = true := by
       cases pu with
       | true => match is, hk with
        | [i], hk => simp only [chkN, Bool.and_eq_true] at hk; exact hk.2
       | false => simp only [chkN, Bool.and_eq_true] at hk; exact hk.2
      obtain ⟨i1, i2⟩ := evG_ok hF hQ hdst hct hK h hf he hrest
      obtain ⟨a1, a2, a3⟩ := addT_ok ha
      refine ⟨fun k s hk => i1 k s (a1 k s hk), fun b d σ n a w ro g hb hd hn hg => ?_⟩
      simp only [dOf] at hd
      split at hd
      · rename_i hbb
        have := Nat.eq_of_beq_eq_true hbb
        subst this
        simp only [Option.some.injEq] at hd
        subst hd
        rw [hb0] at hb
        cases hb
        have hI : ∀ {q : List Nat}, chkI fin b d0 r q = true → ∀ i ∈ q, ∃ e, dOf fin (b ||| 2 ^ i) r = some e ∧ e < d0 := by
         intro q
         induction q with
         | nil => intro _ i hi; simp at hi
         | cons j q ih =>
          intro hq i hi
          simp only [chkI] at hq
          split at hq
          · rename_i e hde
            split at hq
            · rename_i hlt
              rcases List.mem_cons.1 hi with rfl | hi
              · exact ⟨e, hde, by simpa using hlt⟩
              · exact ih hq i hi
            · cases hq
          · cases hq
        have step : ∀ i ∈ is, chkI fin b d0 r is = true → ∃ σ' c1 n', stepP E ops hs pu i t m = some (σ', c1) ∧ cp c1 ∧ n = n' + 1 ∧ ∀ a' w' ro' g', Good cx σ' a' w' ro' g' → wpAnyLast E.P .any ops.toArray Q (fun _ => True) [] n' ((lOf ops.toArray.size b).setIfInBounds i true) a' w' := by
         intro i hi hq
         obtain ⟨σ', c1, ci, s2, h1, h2, h3, h4⟩ := a3 i hi
         obtain ⟨e, h5, h6⟩ := hI hq i hi
         have h7 := he _ (evG_es h _ h4)
         simp only [Prod.mk.injEq] at h7
         obtain ⟨h8, h9⟩ := h7
         subst h8
         subst h9
         obtain ⟨n', rfl⟩ : ∃ n', n = n' + 1 := ⟨n - 1, by omega⟩
         refine ⟨σ', c1, n', h1, hct _ _ h2, rfl, fun a' w' ro' g' hg' => ?_⟩
         rw [lOf_set]
         exact i2 _ e _ n' a' w' ro' g' h3 h5 (by omega) hg'.norm
        cases pu with
        | true => match is, hk, step with
         | [i], hk, step =>
          simp only [chkN, Bool.and_eq_true] at hk
          obtain ⟨⟨⟨⟨k1, k2⟩, k3⟩, k4⟩, k5⟩ := hk
          obtain ⟨σ', c1, n', h1, h2, rfl, h3⟩ := step i List.mem_cons_self k4
          exact stepP_any hF hQ hdst h1 h2 hg k1 k2 k3 (fun a' hg' => h3 a' w ro g hg')
        | false =>
         simp only [chkN, Bool.and_eq_true, beq_iff_eq, Bool.not_eq_true'] at hk
         obtain ⟨⟨⟨k1, k2⟩, k3⟩, k4⟩ := hk
         have hne : is ≠ [] := by intro e; subst e; simp at k2
         obtain ⟨i0, hi0⟩ := List.exists_mem_of_ne_nil is hne
         obtain ⟨_, _, n0, _, _, hn0, _⟩ := step i0 hi0 k3
         subst hn0
         refine wpAnyLast_all k1 hne (fun j hj => ?_)
         obtain ⟨σ', c1, n', h1, h2, h3, h4⟩ := step j hj k3
         obtain rfl : n' = n0 := by omega
         exact stepP_ok hF hdst h1 h2 hg (fun a' w' ro' g' hg' => ⟨fun _ _ => trivial, h4 a' w' ro' g' hg'⟩)
      · exact i2 b d σ n a w ro g (a1 b σ hb) hd hn hg
    · cases h
  · cases h
theorem Good.unnorm {σ : St} {a : Act} {w : World} {ro : Nat → Prop} {g : Gh} (hg : Good cx (normS σ) a w ro g) : Good cx σ a w ro g := by
 have hm : ∀ i, look σ.m i = look (normS σ).m i := fun i => (look_normL σ.m i).symm
 have hon : On w w ro ro g g (normS σ).m σ.m := ⟨fun b hb => ⟨hb, rfl⟩, fun i e he => ⟨e, by rw [hm]; exact he, Nat.le_refl _, fun _ => ⟨e.same_refl, rfl, rfl⟩⟩⟩
 refine ⟨hg.size, hg.defs, fun t x ht => VR_on hon (hg.tm t x (by rw [← look_normL] at ht; exact ht)), ⟨fun i e he => ?_, fun i j e1 e2 b hij h1 h2 => hg.rel.sep i j e1 e2 b hij (by rw [← hm]; exact h1) (by rw [← hm]; exact h2), fun i e b he => hg.rel.nro i e b (by rw [← hm]; exact he), hg.rel.rlt⟩, hg.os, hg.tape, hg.output, hg.hsize, hg.keep, hg.roin, hg.rob, fun i v T cs he => hg.xin i v T cs (by rw [← hm]; exact he)⟩
 have h1 := hg.rel.ent i e (by rw [← hm]; exact he)
 cases e with
 | own v E sz xs => exact h1
 | froz v sz xs => exact h1
 | box v T x cs =>
  obtain ⟨h2, h3, us, h4, h5⟩ := h1
  exact ⟨h2, h3, us, cellsR_on hon h4, h5⟩
theorem resG_ok (hF : Fr E cx) {ops : List Oper} {hs : List (Nat × List D)} {fin : Nat} {ns : List Gn} {ord : List (Nat × Bool)} {Q : Exit → Act → World → Prop} (hQ : ∀ c a a' w, Q (.panic c) a w → Q (.panic c) a' w) (hdst : dstsOk cx.n ops = true) {σ σ1 : St} {c c' : Option Prop} (h : evL E ops hs ord σ c = some (σ1, c')) (hc : cp c') (hk : chkG ops.toArray fin ns = true) (hG : GOK E ops hs fin ns ord σ)
 {a : Act} {w : World} {ro : Nat → Prop} {g : Gh} (hg : Good cx σ a w ro g) (hK : ∀ a' w' ro' g', Good cx σ1 a' w' ro' g' → Q .normal a' w') : wpAnyLast E.P .any ops.toArray Q (fun _ => True) [] ops.toArray.size (Array.replicate ops.toArray.size false) a w := by
 obtain ⟨ct, h1, hct⟩ := evC_ok (ct := []) h hc (fun i d h => by simp [look] at h)
 unfold GOK resG at hG
 rw [h1] at hG
 simp only [fS_eq] at hG
 cases h2 : evG E ops hs ct ns [(0, normS σ)] [] with
 | none => rw [h2] at hG; simp [gL, gR] at hG
 | some p =>
  obtain ⟨tbl, es⟩ := p
  rw [h2] at hG
  simp only at hG
  cases h3 : look tbl fin with
  | none => rw [h3] at hG; simp [gL, gR] at hG
  | some σf =>
   rw [h3] at hG
   simp only [gL, gR, Option.some.injEq, List.map_cons, List.cons.injEq, Prod.mk.injEq, and_true] at hG
   obtain ⟨h4, h5⟩ := hG
   have h6 : ∀ e ∈ es, e.1 = e.2 := by
    intro e he
    obtain ⟨k, hk, rfl⟩ := List.mem_iff_getElem.1 he
    have e1 : (es.map Prod.fst)[k]'(by simpa using hk) = (es.map Prod.snd)[k]'(by simpa using hk) := by simp only [h5]
    simpa using e1
   simp only [chkG, Bool.and_eq_true] at hk
   obtain ⟨k1, k2⟩ := hk
   split at k2
   · rename_i d hd
     rw [← lOf_zero]
     refine (evG_ok hF hQ hdst hct (fin := fin) (σf := σf) (fun a' w' ro' g' hg' => hK a' w' ro' g' (Good.unnorm (h4 ▸ hg'))) h2 h3 h6 k1).2 0 d _ _ a w ro g (look_same _ _ _) hd (Nat.le_of_ble_eq_true k2) hg.norm
   · cases k2
end
inductive It where
 | c (x : Code)
 | blk (id : Nat)
 | lp (J : St → Prop)
abbrev PC := Exit → Act → World → Prop
def wst (E : Env) (cx : Cx) : List It → PC → PC
 | [], Q => Q
 | .c x :: r, Q => Exit.then (x.wp E.P (wst E cx r Q)) (wst E cx r Q)
 | .blk id :: r, Q => Exit.inBlock id (wst E cx r Q)
 | .lp J :: r, Q => fun e a w => match e with
  | .normal => ∃ σ ro g, Good cx σ a w ro g ∧ J σ
  | e => wst E cx r Q e a w
def WS (E : Env) (cx : Cx) (s : List It) (σ : St) (Q : PC) : Prop := ∀ a w ro g, Good cx σ a w ro g → wst E cx s Q .normal a w
def Mild (Q : PC) : Prop := ∀ c a a' w, Q (.panic c) a w → Q (.panic c) a' w
theorem wst_mild {E : Env} {cx : Cx} {Q : PC} (h : Mild Q) : ∀ s : List It, Mild (wst E cx s Q)
 | [] => h
 | .c x :: r => fun c a a' w hh => wst_mild h r c a a' w hh
 | .blk id :: r => fun c a a' w hh => wst_mild h r c a a' w hh
 | .lp J :: r => fun c a a' w hh => wst_mild h r c a a' w hh
def popB (id : Nat) : List It → Option (List It)
 | [] => none
 | .c _ :: r => popB id r
 | .blk j :: r => match Nat.beq j id with
  | true => some r
  | false => popB id r
 | .lp _ :: r => popB id r
inductive PR where
 | at (s : List It) (σ : St)
 | ret (s : List It) (σ : St)
inductive OS where
 | o (ord : List (Nat × Nat)) (dd : List Nat)
 | p (fin : Nat) (ns : List Gn) (ord : List (Nat × Bool)) (hs : List (Nat × List D))
def path (E : Env) (n : Nat) : Nat → List It → List D → List OS → St → Option Prop → Option (PR × Option Prop)
 | 0, s, _, _, σ, c => some (.at s σ, c)
 | k + 1, s, ds, os, σ, c => match s with
  | [] => some (.ret [] σ, c)
  | .lp J :: r => some (.at (.lp J :: r) σ, c)
  | .blk _ :: r => path E n k r ds os σ c
  | .c x :: r => match x with
   | .skip => path E n k r ds os σ c
   | .label _ => path E n k r ds os σ c
   | .seq a b => path E n k (.c a :: .c b :: r) ds os σ c
   | .block id b => path E n k (.c b :: .blk id :: r) ds os σ c
   | .exit id => match popB id r with
    | some r' => path E n k r' ds os σ c
    | none => none
   | .cond q a b => match oget σ q with
    | .bb true => match ds with
     | .b _ :: ds' => path E n k (.c a :: r) ds' os σ c
     | _ => none
    | .bb false => match ds with
     | .b _ :: ds' => path E n k (.c b :: r) ds' os σ c
     | _ => none
    | .v (.bool t) => match ds with
     | .b true :: ds' => fC (andc c (some (t = true))) fun c' => path E n k (.c a :: r) ds' os σ c'
     | .b false :: ds' => fC (andc c (some (t = false))) fun c' => path E n k (.c b :: r) ds' os σ c'
     | _ => none
    | _ => none
   | .region _ ops false => match evOps E ops.toList ops.toList ds σ c with
    | some (⟨t, m⟩, ds', c') => path E n k r ds' os ⟨t, m⟩ (andc c' (some (dstsOk n ops.toList = true)))
    | none => none
   | .region _ ops true => match os with
    | .p fin ns ord hs :: os' => match evL E ops.toList hs ord σ c with
     | some (⟨t, m⟩, c') => path E n k r ds os' ⟨t, m⟩ (andc c' (some (dstsOk n ops.toList = true ∧ chkG ops fin ns = true ∧ GOK E ops.toList hs fin ns ord σ)))
     | none => none
    | .o ord dd :: os' => match evD E ops.toList dd ord ds σ true c with
     | some (⟨t, m⟩, ds', c') => path E n k r ds' os' ⟨t, m⟩ (andc c' (some (dstsOk n ops.toList = true ∧ ord.length = ops.size ∧ chkD ops dd (Array.replicate ops.size false) ord = true)))
     | none => none
    | [] => none
   | .loop b => some (.at (.c (.loop b) :: r) σ, c)
   | .ret => some (.ret r σ, c)
   | _ => none
section
variable {E : Env} {cx : Cx} {Q : PC}
theorem popB_ok {id : Nat} : ∀ {s s' : List It}, popB id s = some s' → ∀ a w, wst E cx s' Q .normal a w → wst E cx s Q (.exit id) a w
 | [], s', h, a, w, hw => by simp [popB] at h
 | .c x :: r, s', h, a, w, hw => popB_ok (s := r) h a w hw
 | .blk j :: r, s', h, a, w, hw => by
  simp only [popB] at h
  split at h
  · rename_i hj
    cases h
    have := Nat.eq_of_beq_eq_true hj
    subst this
    simp only [wst, Exit.inBlock, if_true]
    exact hw
  · rename_i hj
    have hne : ¬ id = j := fun e => by subst e; simp [Nat.beq_refl] at hj
    simp only [wst, Exit.inBlock, hne, if_false]
    exact popB_ok (s := r) h a w hw
 | .lp J :: r, s', h, a, w, hw => popB_ok (s := r) h a w hw
theorem path_c : ∀ {k : Nat} {n : Nat} {s : List It} {ds : List D} {os : List OS} {σ : St} {c c' : Option Prop} {p : PR}, path E n k s ds os σ c = some (p, c') → cp c' → cp c
 | 0, n, s, ds, os, σ, c, c', p, h, hc => by
  simp only [path, Option.some.injEq, Prod.mk.injEq] at h
  obtain ⟨_, rfl⟩ := h
  exact hc
 | k + 1, n, s, ds, os, σ, c, c', p, h, hc => by
  unfold path at h
  split at h
  · simp only [Option.some.injEq, Prod.mk.injEq] at h
    obtain ⟨_, rfl⟩ := h
    exact hc
  · simp only [Option.some.injEq, Prod.mk.injEq] at h
    obtain ⟨_, rfl⟩ := h
    exact hc
  · exact path_c h hc
  · split at h
    · exact path_c h hc
    · exact path_c h hc
    · exact path_c h hc
    · exact path_c h hc
    · split at h
      · exact path_c h hc
      · cases h
    · split at h
      · split at h
        · exact path_c h hc
        · cases h
      · split at h
        · exact path_c h hc
        · cases h
      · split at h
        · rw [fC_eq] at h
          exact andc_l (path_c h hc)
        · rw [fC_eq] at h
          exact andc_l (path_c h hc)
        · cases h
      · cases h
    · split at h
      · rename_i he
        exact evOps_c he (andc_l (path_c h hc))
      · cases h
    · split at h
      · split at h
        · rename_i he
          exact evL_c he (andc_l (path_c h hc))
        · cases h
      · split at h
        · rename_i he
          exact evD_c he (andc_l (path_c h hc))
        · cases h
      · cases h
    · simp only [Option.some.injEq, Prod.mk.injEq] at h
      obtain ⟨_, rfl⟩ := h
      exact hc
    · simp only [Option.some.injEq, Prod.mk.injEq] at h
      obtain ⟨_, rfl⟩ := h
      exact hc
    · cases h
def WP (E : Env) (cx : Cx) (Q : PC) : PR → Prop
 | .at s σ => WS E cx s σ Q
 | .ret s σ => ∀ a w ro g, Good cx σ a w ro g → Q .ret a w ∧ Q .normal a w
theorem wst_ret {a : Act} {w : World} (h : Q .ret a w) : ∀ s : List It, wst E cx s Q .ret a w
 | [] => h
 | .c x :: r => wst_ret h r
 | .blk id :: r => wst_ret h r
 | .lp J :: r => wst_ret h r
theorem path_ok (hF : Fr E cx) (hm : Mild Q) : ∀ {k : Nat} {s : List It} {ds : List D} {os : List OS} {σ : St} {c c' : Option Prop} {p : PR}, path E cx.n k s ds os σ c = some (p, c') → cp c' → WP E cx Q p → WS E cx s σ Q
 | 0, s, ds, os, σ, c, c', p, h, hc, hp => by
  simp only [path, Option.some.injEq, Prod.mk.injEq] at h
  obtain ⟨rfl, _⟩ := h
  exact hp
 | k + 1, s, ds, os, σ, c, c', p, h, hc, hp => by
  unfold path at h
  split at h
  · simp only [Option.some.injEq, Prod.mk.injEq] at h
    obtain ⟨rfl, _⟩ := h
    exact fun a w ro g hg => (hp a w ro g hg).2
  · simp only [Option.some.injEq, Prod.mk.injEq] at h
    obtain ⟨rfl, _⟩ := h
    exact hp
  · have := path_ok hF hm h hc hp
    exact fun a w ro g hg => this a w ro g hg
  · rename_i x r
    split at h
    · have := path_ok hF hm h hc hp
      exact fun a w ro g hg => wp_skip (this a w ro g hg)
    · have := path_ok hF hm h hc hp
      exact fun a w ro g hg => wp_label (this a w ro g hg)
    · have := path_ok hF hm h hc hp
      refine fun a w ro g hg => wp_seq ?_
      have h1 := this a w ro g hg
      exact h1
    · have := path_ok hF hm h hc hp
      exact fun a w ro g hg => wp_block (this a w ro g hg)
    · split at h
      · rename_i r' hr
        have := path_ok hF hm h hc hp
        exact fun a w ro g hg => wp_exit (popB_ok hr a w (this a w ro g hg))
      · cases h
    · rename_i q x y
      split at h
      · rename_i hq
        split at h
        · have := path_ok hF hm h hc hp
          refine fun a w ro g hg => ?_
          have hq' := hg.og q
          rw [hq] at hq'
          exact wp_cond_true hq' (this a w ro g hg)
        · cases h
      · rename_i hq
        split at h
        · have := path_ok hF hm h hc hp
          refine fun a w ro g hg => ?_
          have hq' := hg.og q
          rw [hq] at hq'
          exact wp_cond_false hq' (this a w ro g hg)
        · cases h
      · rename_i t hq
        split at h
        · rw [fC_eq] at h
          have ht := andc_r (path_c h hc)
          simp only [cp] at ht
          subst ht
          have := path_ok hF hm h hc hp
          refine fun a w ro g hg => ?_
          have hq' := hg.og q
          rw [hq] at hq'
          exact wp_cond_true hq'.1 (this a w ro g hg)
        · rw [fC_eq] at h
          have ht := andc_r (path_c h hc)
          simp only [cp] at ht
          subst ht
          have := path_ok hF hm h hc hp
          refine fun a w ro g hg => ?_
          have hq' := hg.og q
          rw [hq] at hq'
          exact wp_cond_false hq'.1 (this a w ro g hg)
        · cases h
      · cases h
    · rename_i ops
      split at h
      · rename_i t m ds' c1 he
        have hcc := path_c h hc
        have := path_ok hF hm h hc hp
        refine fun a w ro g hg => wp_region_list ?_
        have h1 := evOps_seq hF (Q := wst E cx r Q) he (andc_l hcc) (andc_r hcc) hg (fun a' w' ro' g' hg' => this a' w' ro' g' hg')
        rw [Array.toArray_toList] at h1
        exact h1
      · cases h
    · rename_i ops
      split at h
      · rename_i fin ns ord hs os'
        split at h
        · rename_i t m c1 he
          have hcc := path_c h hc
          obtain ⟨hd, hk, hG⟩ := andc_r hcc
          have := path_ok hF hm h hc hp
          refine fun a w ro g hg => ?_
          refine wp_region_last E.mixed (S := fun _ => True) (ds := []) ?_
          have hg1 : Good cx σ a w.drew ro g := hg.grow rfl rfl rfl (Nat.le_refl _) (fun _ _ => rfl) (fun b hb => hb) (fun b hb => ⟨hg.rel.rlt b hb, .inl hb⟩)
          have hk' : chkG ops.toList.toArray fin ns = true := by rw [Array.toArray_toList]; exact hk
          have h1 := resG_ok hF (Q := wst E cx r Q) (wst_mild hm r) hd he (andc_l hcc) hk' hG hg1 (fun a' w' ro' g' hg' => this a' w' ro' g' hg')
          rw [Array.toArray_toList] at h1
          exact h1
        · cases h
      · rename_i ord dd os'
        split at h
        · rename_i t m ds' c1 he
          have hcc := path_c h hc
          obtain ⟨hd, hl, hk⟩ := andc_r hcc
          have := path_ok hF hm h hc hp
          refine fun a w ro g hg => ?_
          refine wp_region_last E.mixed (S := fun w' => ∀ k, k < w.heap.size → w'.heap[k]? = w.heap[k]?) (ds := dd) ?_
          have hg1 : Good cx σ a w.drew ro g := hg.grow rfl rfl rfl (Nat.le_refl _) (fun _ _ => rfl) (fun b hb => hb) (fun b hb => ⟨hg.rel.rlt b hb, .inl hb⟩)
          have hk' : chkD ops.toList.toArray dd (Array.replicate ops.size false) ord = true := by rw [Array.toArray_toList]; exact hk
          have h1 := evD_ok hF (Q := wst E cx r Q) (wst_mild hm r) hd w.drew he (andc_l hcc) hk' hg1 (fun _ => rfl) (Nat.le_refl _) (fun a' w' ro' g' hg' => this a' w' ro' g' hg')
          rw [Array.toArray_toList, hl] at h1
          exact h1
        · cases h
      · cases h
    · simp only [Option.some.injEq, Prod.mk.injEq] at h
      obtain ⟨rfl, _⟩ := h
      exact hp
    · simp only [Option.some.injEq, Prod.mk.injEq] at h
      obtain ⟨rfl, _⟩ := h
      exact fun a w ro g hg => wp_ret (wst_ret (hp a w ro g hg).1 r)
    · cases h
theorem WS.loop {b : Code} {r : List It} {σ : St} (I : Nat → St → Prop) (n0 : Nat) (h0 : I n0 σ) (round : ∀ n σ', I n σ' → ∀ J : St → Prop, (∀ n' σ'', n' < n → I n' σ'' → J σ'') → WS E cx (.c b :: .lp J :: r) σ' Q) : WS E cx (.c (.loop b) :: r) σ Q := by
 intro a w ro g hg
 refine wp_loop_ghost (fun n a w => ∃ σ ro g, Good cx σ a w ro g ∧ I n σ) n0 ⟨σ, ro, g, hg, h0⟩ (fun n a w hI => ?_)
 obtain ⟨σ', ro', g', hg', hI'⟩ := hI
 have h1 := round n σ' hI' (fun σ'' => ∃ n', n' < n ∧ I n' σ'') (fun n' σ'' hn hi => ⟨n', hn, hi⟩) a w ro' g' hg'
 refine wp_mono h1 (fun e a1 w1 hq => ?_)
 cases e with
 | normal =>
  obtain ⟨σ2, ro2, g2, hg2, n', hn, hi⟩ := hq
  exact ⟨n', hn, σ2, ro2, g2, hg2, hi⟩
 | exit id => exact hq
 | goto l => exact hq
 | ret => exact hq
 | panic ch => exact hq
 | outgrown => exact hq
theorem WS.lp {J : St → Prop} {r : List It} {σ : St} (h : J σ) : WS E cx (.lp J :: r) σ Q := fun a w ro g hg => ⟨σ, ro, g, hg, h⟩
end
def idsIn (m : List (Nat × Ent)) : AV → Bool
 | .ow id _ => (look m id).isSome
 | .pt id _ _ => (look m id).isSome
 | .ep id _ _ _ => (look m id).isSome
 | .cl _ id _ => (look m id).isSome
 | _ => true
def idsInP (m : List (Nat × Ent)) : AV → Bool
 | .ag xs => xs.all (idsIn m)
 | .tu _ => false
 | x => idsIn m x
def entIn (m : List (Nat × Ent)) : Ent → Bool
 | .box _ _ _ cs => cs.all (idsIn m)
 | _ => true
def subT (σ : St) (m : List (Nat × Ent)) : List (Nat × AV) → Prop
 | [] => True
 | (t, x) :: r => (σ.get t = x ∧ idsInP m x = true) ∧ subT σ m r
def subM (σ : St) (m : List (Nat × Ent)) : List (Nat × Ent) → Prop
 | [] => True
 | (i, e) :: r => (look σ.m i = some e ∧ entIn m e = true) ∧ subM σ m r
def Sub (σ' σ : St) : Prop := subT σ σ'.m σ'.t ∧ subM σ σ'.m σ'.m
section
variable {E : Env} {cx : Cx} {Q : PC}
theorem subT_ok {σ : St} {m : List (Nat × Ent)} : ∀ {l : List (Nat × AV)}, subT σ m l → ∀ t x, look l t = some x → σ.get t = x ∧ idsInP m x = true
 | [], _, t, x, h => by simp [look] at h
 | (k, y) :: r, hs, t, x, h => by
  by_cases hk : k = t
  · subst hk
    rw [look_same] at h
    cases h
    exact hs.1
  · rw [look_other _ _ hk] at h
    exact subT_ok hs.2 t x h
theorem subM_ok {σ : St} {m : List (Nat × Ent)} : ∀ {l : List (Nat × Ent)}, subM σ m l → ∀ t x, look l t = some x → look σ.m t = some x ∧ entIn m x = true
 | [], _, t, x, h => by simp [look] at h
 | (k, y) :: r, hs, t, x, h => by
  by_cases hk : k = t
  · subst hk
    rw [look_same] at h
    cases h
    exact hs.1
  · rw [look_other _ _ hk] at h
    exact subM_ok hs.2 t x h
theorem Good.sub {σ σ' : St} {a : Act} {w : World} {ro : Nat → Prop} {g : Gh} (hg : Good cx σ a w ro g) (h : Sub σ' σ) : Good cx σ' a w ro g := by
 have hm := fun i e (he : look σ'.m i = some e) => subM_ok h.2 i e he
 have ent : ∀ {id : Nat} {e : Ent}, look σ.m id = some e → (look σ'.m id).isSome = true → look σ'.m id = some e := fun {id e} he hs => by
  obtain ⟨e', he'⟩ := Option.isSome_iff_exists.1 hs
  have := (hm id e' he').1
  rw [he] at this
  cases this
  exact he'
 have cell : ∀ {x : AV} {u : Value}, cellR w ro g σ.m x u → idsIn σ'.m x = true → cellR w ro g σ'.m x u := fun {x u} hc hi => by
  cases x with
  | ow id ver =>
   obtain ⟨e, h1, h2, h3⟩ := hc
   exact ⟨e, ent h1 hi, h2, h3⟩
  | pt id ver off =>
   obtain ⟨e, h1, h2, h3⟩ := hc
   exact ⟨e, ent h1 hi, h2, h3⟩
  | ep id ver i off =>
   obtain ⟨e, h1, h2, h3⟩ := hc
   exact ⟨e, ent h1 hi, h2, h3⟩
  | cl f id ver =>
   obtain ⟨e, h1, h2, h3⟩ := hc
   exact ⟨e, ent h1 hi, h2, h3⟩
  | _ => exact hc
 have cells : ∀ {xs : List AV} {us : List Value}, cellsR w ro g σ.m xs us → xs.all (idsIn σ'.m) = true → cellsR w ro g σ'.m xs us := by
  intro xs
  induction xs with
  | nil => exact fun h _ => h
  | cons x xs ih =>
   intro us hc hi
   obtain ⟨u, r, h1, h2, h3⟩ := hc
   simp only [List.all_cons, Bool.and_eq_true] at hi
   exact ⟨u, r, h1, cell h2 hi.1, ih h3 hi.2⟩
 have part : ∀ {x : AV} {u : Value}, VR w ro g σ.m x u → idsInP σ'.m x = true → VR w ro g σ'.m x u := fun {x u} hc hi => by
  cases x with
  | ag xs =>
   obtain ⟨us, h1, h2⟩ := hc
   exact ⟨us, h1, cells h2 hi⟩
  | tu xs => simp [idsInP] at hi
  | ow id ver => exact cell (x := .ow id ver) hc hi
  | pt id ver off => exact cell (x := .pt id ver off) hc hi
  | ep id ver i off => exact cell (x := .ep id ver i off) hc hi
  | cl f id ver => exact cell (x := .cl f id ver) hc hi
  | _ => exact hc
 refine ⟨hg.size, hg.defs, fun t x ht => ?_, ⟨fun i e he => ?_, fun i j e1 e2 b hij h1 h2 => hg.rel.sep i j e1 e2 b hij (hm i e1 h1).1 (hm j e2 h2).1, fun i e b he => hg.rel.nro i e b (hm i e he).1, hg.rel.rlt⟩, hg.os, hg.tape, hg.output, hg.hsize, hg.keep, hg.roin, hg.rob, fun i v T cs he => hg.xin i v T cs (hm i _ he).1⟩
 · obtain ⟨h1, h2⟩ := subT_ok h.1 t x ht
   have h3 := hg.og (.tmp t)
   rw [show oget σ (.tmp t) = x from h1] at h3
   exact part h3 h2
 · obtain ⟨h1, h2⟩ := hm i e he
   have h3 := hg.rel.ent i e h1
   cases e with
   | own v E sz xs => exact h3
   | froz v sz xs => exact h3
   | box v T x cs =>
    obtain ⟨h4, h5, us, h6, h7⟩ := h3
    exact ⟨h4, h5, us, cells h6 h2, h7⟩
theorem WS.sub {s : List It} {σ σ' : St} (h : Sub σ' σ) (hs : WS E cx s σ' Q) : WS E cx s σ Q := fun a w ro g hg => hs a w ro g (hg.sub h)
inductive RM where
 | ro
 | own
 | nb
 | nil (E sz : Nat)
def rval (T : List (Nat × Ty)) (σ : St) : ResultVar → Option (AV × Option Prop)
 | .tmp t => some (σ.get t, none)
 | .cell t ty => match look T ty with
  | some y => match σ.get t with
   | .pt id ver off => match look σ.m id with
    | some (.box v _ _ cs) => match ldv y (cs.drop off) with
     | some x => some (x, some (ver = v))
     | none => none
    | _ => none
   | _ => none
  | none => none
def rvals (T : List (Nat × Ty)) (σ : St) : List ResultVar → Option (List AV × Option Prop)
 | [] => some ([], none)
 | x :: r => match rval T σ x with
  | some (y, c) => match rvals T σ r with
   | some (ys, d) => some (y :: ys, andc c d)
   | none => none
  | none => none
def ret1 (m : List (Nat × Ent)) : List AV → List RM → Option (List (Nat × Ent) × List AV × Option Prop)
 | [], [] => some (m, [], none)
 | x :: xs, mo :: ms => match mo with
  | .ro => match toROs m (cellsOf x) with
   | some (m1, ys, c) => match wrapL x ys with
    | some y => match ret1 m1 xs ms with
     | some (m2, zs, d) => some (m2, y :: zs, andc (some c) d)
     | none => none
    | none => none
   | none => none
  | .nb => match x with
   | .pt id ver 0 => match look m id with
    | some (.box v T false cs) => match toROs m cs with
     | some (m1, ys, c) => match ret1 ((id, .box v T false ys) :: m1) xs ms with
      | some (m2, zs, d) => some (m2, .pt id ver 0 :: zs, andc (some c) d)
      | none => none
     | none => none
    | _ => none
   | _ => none
  | _ => match ret1 m xs ms with
   | some (m2, zs, d) => some (m2, x :: zs, d)
   | none => none
 | _, _ => none
def roOne : AV → Bool
 | .v _ => true
 | .bb _ => true
 | .er _ => true
 | .sl _ _ => true
 | .rf _ => true
 | _ => false
def roAll : List AV → Bool
 | [] => true
 | x :: r => match roOne x with
  | true => roAll r
  | false => false
def ret2 (m : List (Nat × Ent)) : List Nat → List AV → List RM → Option (List RS × Option Prop)
 | _, [], [] => some ([], none)
 | us, x :: xs, mo :: ms => match mo with
  | .ro => match ret2 m us xs ms with
   | some (rs, c) => some (.ro x :: rs, c)
   | none => none
  | .own => match x with
   | .ow id ver => match look m id with
    | some (.own v E sz ys) => match memN id us with
     | false => match ret2 m (id :: us) xs ms with
      | some (rs, c) => some (.own E sz ys :: rs, andc (some (ver = v)) c)
      | none => none
     | true => none
    | _ => none
   | _ => none
  | .nb => match x with
   | .pt id ver 0 => match look m id with
    | some (.box v T false cs) => match memN id us, roAll cs with
     | false, true => match ret2 m (id :: us) xs ms with
      | some (rs, c) => some (.nb T cs :: rs, andc (some (ver = v)) c)
      | none => none
     | _, _ => none
    | _ => none
   | _ => none
  | .nil E sz => match x with
   | .v (.slice none 0 0) => match sz with
    | 0 => none
    | s + 1 => match ret2 m us xs ms with
     | some (rs, c) => some (.own E (s + 1) [] :: rs, c)
     | none => none
   | _ => none
 | _, _, _ => none
def retB (m : List (Nat × Ent)) : Option Nat → Option (List (Nat × Ent) × List AV × Option Prop)
 | none => some (m, [], none)
 | some T0 => match look m 0 with
  | some (.box _ T true cs) => match Nat.beq T T0 with
   | true => match toROs m cs with
    | some (m1, ys, c) => some (m1, ys, some c)
    | none => none
   | false => none
  | _ => none
def retR (T : List (Nat × Ty)) (σ : St) (bx : Option Nat) (res : List ResultVar) (ms : List RM) : Option (List RS × List AV × Option Prop) := match rvals T σ res with
 | some (xs, c1) => match ret1 σ.m xs ms with
  | some (m1, ys, c2) => match retB m1 bx with
   | some (m2, bs, c3) => match ret2 m2 [] ys ms with
    | some (rs, c4) => some (rs, bs, andc (andc c1 c2) (andc c3 c4))
    | none => none
   | none => none
  | none => none
 | none => none
end
def rread (a : Act) : ResultVar → Sem Value
 | .tmp t => pure (a.tmps.getD t undef)
 | .cell p t => do loadVar t (← asAddr (a.tmps.getD p undef))
section
variable {E : Env} {cx : Cx} {Q : PC}
theorem rval_ok {P : Program} {T : List (Nat × Ty)} (hT : TOk P T) {σ : St} {a : Act} {w : World} {ro : Nat → Prop} {g : Gh} (hg : Good cx σ a w ro g) {r : ResultVar} {x : AV} {c : Option Prop} (h : rval T σ r = some (x, c)) (hc : cp c) :
 ∃ v, (rread a r).run P w = .ok v w ∧ VR w ro g σ.m x v := by
 cases r with
 | tmp t =>
  simp only [rval, Option.some.injEq, Prod.mk.injEq] at h
  obtain ⟨rfl, rfl⟩ := h
  exact ⟨_, rfl, hg.og (.tmp t)⟩
 | cell t ty =>
  simp only [rval] at h
  split at h
  · rename_i y hy
    split at h
    · rename_i id ver off hp
      split at h
      · rename_i v Tb xx cs hl
        split at h
        · rename_i z hz
          cases h
          have h1 := pt_addr hg (p := .tmp t) hp hl hc
          obtain ⟨_, _, us, h4, h5⟩ := hg.rel.ent id _ hl
          obtain ⟨v', h6, h7⟩ := ld_run (w := w) (ro := ro) (g := g) (m := σ.m) (hT _ _ hy) hz (cellsR_drop off h4)
          have h9 : AtC w (g.B id) off (us.drop off) := fun j u hj => by
           rw [cell_of_row w _ _ _ _ _ h5]
           simpa using hj
          have h8 := h7 w _ _ h9
          simp only [Instr.loadAt, Instr.sureAddr] at h8
          simp only [Act.eval] at h1
          refine ⟨v', ?_, h6⟩
          show Sem.run P (do loadVar ty (← asAddr (a.tmps.getD t undef))) w = _
          rw [h1]
          simpa [asAddr] using h8
        · cases h
      · cases h
    · cases h
  · cases h
theorem rvals_ok {P : Program} {T : List (Nat × Ty)} (hT : TOk P T) {σ : St} {a : Act} {w : World} {ro : Nat → Prop} {g : Gh} (hg : Good cx σ a w ro g) : ∀ {rs : List ResultVar} {xs : List AV} {c : Option Prop}, rvals T σ rs = some (xs, c) → cp c →
 ∃ vs, (rs.mapM (rread a)).run P w = .ok vs w ∧ xs.length = vs.length ∧ ∀ (j : Nat) (x : AV) (v : Value), xs[j]? = some x → vs[j]? = some v → VR w ro g σ.m x v
 | [], xs, c, h, hc => by
  simp only [rvals, Option.some.injEq, Prod.mk.injEq] at h
  obtain ⟨rfl, _⟩ := h
  exact ⟨[], by simp, rfl, fun j x v h => by simp at h⟩
 | r :: rs, xs, c, h, hc => by
  simp only [rvals] at h
  split at h
  · rename_i y c1 h1
    split at h
    · rename_i ys d h2
      cases h
      obtain ⟨v, h3, h4⟩ := rval_ok hT hg h1 (andc_l hc)
      obtain ⟨vs, h5, h6, h7⟩ := rvals_ok hT hg h2 (andc_r hc)
      refine ⟨v :: vs, ?_, by simp [h6], fun j x u hx hu => ?_⟩
      · rw [List.mapM_cons]
        simp only [Sem.run_bind, h3, Result.andThen_ok, h5]
        rfl
      · cases j with
        | zero => simp at hx hu; subst hx; subst hu; exact h4
        | succ j => exact h7 j x u (by simpa using hx) (by simpa using hu)
    · cases h
  · cases h
theorem results_ok {P : Program} {fn : Func} {a : Act} {w : World} {vs : List Value} (h : (fn.results.toList.mapM (rread a)).run P w = .ok vs w) : (results fn a.tmps).run P w = .ok (retV vs) w := by
 have e : results fn a.tmps = (do let vs ← fn.results.mapM (rread a); pure (if h : vs.size = 1 then vs[0] else .tuple vs)) := by
  rfl
 rw [e, Array.mapM_eq_mapM_toList]
 simp only [Sem.run_bind, Sem.run_map, h, Result.andThen_ok]
 match vs with
 | [] => rfl
 | [v] => rfl
 | v :: u :: r => simp [retV]
theorem ret1_ok : ∀ {xs zs : List AV} {ms : List RM} {σ : St} {a : Act} {w : World} {ro : Nat → Prop} {g : Gh} {m' : List (Nat × Ent)} {c : Option Prop} {vs : List Value}, Good cx σ a w ro g → ret1 σ.m xs ms = some (m', zs, c) → cp c → (xs.length = vs.length ∧ ∀ (j : Nat) (x : AV) (v : Value), xs[j]? = some x → vs[j]? = some v → VR w ro g σ.m x v) →
 ∃ ro', Good cx ⟨σ.t, m'⟩ a w ro' g ∧ On w w ro ro' g g σ.m m' ∧ zs.length = vs.length ∧ zs.length = ms.length ∧ ∀ (j : Nat) (z : AV) (v : Value), zs[j]? = some z → vs[j]? = some v → VR w ro' g m' z v ∧ (ms[j]? = some .ro → partR w ro' (g0 0) [] z v)
 | [], zs, [], σ, a, w, ro, g, m', c, vs, hg, h, hc, hv => by
  simp only [ret1, Option.some.injEq, Prod.mk.injEq] at h
  obtain ⟨rfl, rfl, _⟩ := h
  exact ⟨ro, hg, On.refl' _ _ _ _, hv.1, rfl, fun j z v h => by simp at h⟩
 | [], zs, m :: ms, σ, a, w, ro, g, m', c, vs, hg, h, hc, hv => by simp [ret1] at h
 | x :: xs, zs, [], σ, a, w, ro, g, m', c, vs, hg, h, hc, hv => by simp [ret1] at h
 | x :: xs, zs, mo :: ms, σ, a, w, ro, g, m', c, vs, hg, h, hc, hv => by
  cases vs with
  | nil => simp at hv
  | cons v vs =>
  have hx := hv.2 0 x v rfl rfl
  have hrest : xs.length = vs.length ∧ ∀ (j : Nat) (x : AV) (u : Value), xs[j]? = some x → vs[j]? = some u → VR w ro g σ.m x u := ⟨by simpa using hv.1, fun j y z hy hz => hv.2 (j + 1) y z (by simpa using hy) (by simpa using hz)⟩
  have other : (match ret1 σ.m xs ms with
   | some (m2, zs, d) => some (m2, x :: zs, d)
   | none => none) = some (m', zs, c) → mo ≠ .ro → ∃ ro', Good cx ⟨σ.t, m'⟩ a w ro' g ∧ On w w ro ro' g g σ.m m' ∧ zs.length = (v :: vs).length ∧ zs.length = (mo :: ms).length ∧ ∀ (j : Nat) (z : AV) (u : Value), zs[j]? = some z → (v :: vs)[j]? = some u → VR w ro' g m' z u ∧ ((mo :: ms)[j]? = some .ro → partR w ro' (g0 0) [] z u) := fun h hmo => by
   split at h
   · rename_i m2 zs' d h2
     simp only [Option.some.injEq, Prod.mk.injEq] at h
     obtain ⟨rfl, rfl, rfl⟩ := h
     obtain ⟨ro', h3, h4, h5, h5', h6⟩ := ret1_ok hg h2 hc hrest
     refine ⟨ro', h3, h4, by simp [h5], by simp [h5'], fun j z u hz hu => ?_⟩
     cases j with
     | zero =>
      simp at hz hu
      subst hz
      subst hu
      exact ⟨VR_on h4 hx, fun hh => by simp at hh; exact absurd hh hmo⟩
     | succ j => exact h6 j z u (by simpa using hz) (by simpa using hu)
   · cases h
  cases mo with
  | ro =>
   simp only [ret1] at h
   split at h
   · rename_i m1 ys c1 h1
     split at h
     · rename_i y hw
       split at h
       · rename_i m2 zs' d h2
         simp only [Option.some.injEq, Prod.mk.injEq] at h
         obtain ⟨rfl, rfl, rfl⟩ := h
         have hxt : ∀ us, x ≠ .tu us := fun us e => by subst e; simp [cellsOf, toROs, toRO] at h1
         have hx1 : ∃ us, cellsR w ro g σ.m (cellsOf x) us ∧ ∀ (ro' : Nat → Prop) g' m, repL w ro' ys us → partR w ro' g' m y v := by
          have one : (cellsOf x = [x]) → cellR w ro g σ.m x v → (∀ zs, x ≠ .ag zs) → ∃ us, cellsR w ro g σ.m (cellsOf x) us ∧ ∀ (ro' : Nat → Prop) g' m, repL w ro' ys us → partR w ro' g' m y v := fun e1 e2 e3 => by
           refine ⟨[v], by rw [e1]; exact ⟨v, [], rfl, e2, rfl⟩, fun ro' B m hr => ?_⟩
           have hy1 : ys = [y] := by
            unfold wrapL at hw
            split at hw
            · exact absurd rfl (e3 _)
            · cases hw; rfl
            · cases hw
           rw [hy1] at hr
           obtain ⟨u', e4, e5⟩ := repL_rep1 hr
           cases e4
           cases y <;> first | exact e5 | (simp [rep] at e5)
          cases x with
          | ag zs =>
           obtain ⟨us, rfl, h3⟩ := hx
           refine ⟨us, h3, fun ro' B m hr => ?_⟩
           simp only [wrapL, Option.some.injEq] at hw
           subst hw
           exact ⟨us, rfl, repL_cellsR hr⟩
          | tu zs => exact absurd rfl (hxt zs)
          | pt _ _ _ => exact one rfl hx (by simp)
          | v _ => exact one rfl hx (by simp)
          | bb _ => exact one rfl hx (by simp)
          | er _ => exact one rfl hx (by simp)
          | sl _ _ => exact one rfl hx (by simp)
          | rf _ => exact one rfl hx (by simp)
          | ow _ _ => exact one rfl hx (by simp)
          | ep _ _ _ _ => exact one rfl hx (by simp)
          | cl _ _ _ => exact one rfl hx (by simp)
          | dead => exact one rfl hx (by simp)
         obtain ⟨us, h3, h4⟩ := hx1
         obtain ⟨ro1, h5, h6, h7⟩ := toROs_ok hg h1 (andc_l hc) h3
         obtain ⟨ro2, h8, h9, h10, h10', h11⟩ := ret1_ok (σ := ⟨σ.t, m1⟩) h5 h2 (andc_r hc) ⟨hrest.1, fun j p q hp hq => VR_on h6 (hrest.2 j p q hp hq)⟩
         refine ⟨ro2, h8, h6.trans h9, by simp [h10], by simp [h10'], fun j z u hz hu => ?_⟩
         cases j with
         | zero =>
          simp at hz hu
          subst hz
          subst hu
          have := repL_mono h9.ro _ _ h7
          exact ⟨partR_VR (h4 ro2 g m2 this), fun _ => h4 ro2 (g0 0) [] this⟩
         | succ j => exact h11 j z u (by simpa using hz) (by simpa using hu)
       · cases h
     · cases h
   · cases h
  | own => exact other h (by simp)
  | nil E sz => exact other h (by simp)
  | nb =>
   simp only [ret1] at h
   split at h
   · rename_i id ver
     split at h
     · rename_i vb T cs hl
       split at h
       · rename_i m1 ys c1 h1
         split at h
         · rename_i m2 zs' d h2
           simp only [Option.some.injEq, Prod.mk.injEq] at h
           obtain ⟨rfl, rfl, rfl⟩ := h
           obtain ⟨f1, f2, us, f3, f4⟩ := hg.rel.ent id _ hl
           obtain ⟨ro1, h5, h6, h7⟩ := toROs_ok hg h1 (andc_l hc) f3
           have hl1 := toROs_box h1 hl
           have h8 : Good cx ⟨σ.t, (id, .box vb T false ys) :: m1⟩ a w ro1 g ∧ On w w ro1 ro1 g g m1 ((id, .box vb T false ys) :: m1) := by
            have hon : On w w ro1 ro1 g g m1 ((id, .box vb T false ys) :: m1) := by
             refine ⟨fun b hb => ⟨hb, rfl⟩, fun k e he => ?_⟩
             by_cases hi : id = k
             · subst hi
               rw [hl1] at he
               cases he
               exact ⟨_, look_same _ _ _, Nat.le_refl _, fun _ => ⟨trivial, rfl, rfl⟩⟩
             · exact ⟨e, by rw [look_other _ _ hi]; exact he, Nat.le_refl _, fun _ => ⟨e.same_refl, rfl, rfl⟩⟩
            refine ⟨Good.upd h5 id _ none rfl rfl rfl (Nat.le_refl _) (by simp) (fun _ _ _ => rfl) (fun i hi => ⟨rfl, rfl⟩) (fun e he => ?_) (fun b hb => hb) (fun b hb => ⟨h5.rel.rlt b hb, .inl hb⟩) (fun hon => ?_) (fun b hb => ?_) (by simp) (by simp), hon⟩
            · rw [show look m1 id = _ from hl1] at he
              cases he
              exact ⟨Nat.le_refl _, fun _ => ⟨trivial, rfl, rfl⟩⟩
            · exact ⟨f1, f2, us, repL_cellsR h7, f4⟩
            · exact ⟨h5.rel.nro id _ b hl1 hb, .inr ⟨_, hl1, hb⟩⟩
           obtain ⟨ro2, h9, h10, h11, h11', h12⟩ := ret1_ok (σ := ⟨σ.t, (id, .box vb T false ys) :: m1⟩) h8.1 h2 (andc_r hc) ⟨hrest.1, fun j p q hp hq => VR_on (h6.trans h8.2) (hrest.2 j p q hp hq)⟩
           refine ⟨ro2, h9, (h6.trans h8.2).trans h10, by simp [h11], by simp [h11'], fun j z u hz hu => ?_⟩
           cases j with
           | zero =>
            simp at hz hu
            subst hz
            subst hu
            exact ⟨VR_on ((h6.trans h8.2).trans h10) hx, fun hh => by simp at hh⟩
           | succ j => exact h12 j z u (by simpa using hz) (by simpa using hu)
         · cases h
       · cases h
     · cases h
   · cases h
theorem roAll_rep {w : World} {ro : Nat → Prop} {g : Gh} {m : List (Nat × Ent)} : ∀ {xs : List AV} {us : List Value}, roAll xs = true → cellsR w ro g m xs us → repL w ro xs us
 | [], us, _, h => h
 | x :: xs, us, hr, h => by
  obtain ⟨u, r, rfl, h1, h2⟩ := h
  simp only [roAll] at hr
  split at hr
  · rename_i h3
    refine ⟨u, r, rfl, ?_, roAll_rep hr h2⟩
    cases x <;> first | exact h1 | (simp [roOne] at h3)
  · cases hr
theorem ret2_ok {σ : St} {a : Act} {w : World} {ro : Nat → Prop} {g : Gh} (hg : Good cx σ a w ro g) : ∀ {us : List Nat} {used : List Nat} {xs : List AV} {ms : List RM} {rs : List RS} {c : Option Prop} {vs : List Value}, ret2 σ.m us xs ms = some (rs, c) → cp c → (xs.length = vs.length ∧ ∀ (j : Nat) (z : AV) (v : Value), xs[j]? = some z → vs[j]? = some v → VR w ro g σ.m z v ∧ (ms[j]? = some .ro → partR w ro (g0 0) [] z v)) →
 (∀ b, b ∈ used → ∃ i e, i ∈ us ∧ look σ.m i = some e ∧ blkOf g i e = some b) → resR w ro cx.w0.heap.size used rs vs
 | us, used, [], [], rs, c, vs, h, hc, hv, hu => by
  simp only [ret2, Option.some.injEq, Prod.mk.injEq] at h
  obtain ⟨rfl, _⟩ := h
  exact List.eq_nil_of_length_eq_zero hv.1.symm
 | us, used, [], m :: ms, rs, c, vs, h, hc, hv, hu => by simp [ret2] at h
 | us, used, x :: xs, [], rs, c, vs, h, hc, hv, hu => by simp [ret2] at h
 | us, used, x :: xs, mo :: ms, rs, c, vs, h, hc, hv, hu => by
  cases vs with
  | nil => simp at hv
  | cons v vs =>
  obtain ⟨hx, hxr⟩ := hv.2 0 x v rfl rfl
  have hrest : xs.length = vs.length ∧ ∀ (j : Nat) (z : AV) (v : Value), xs[j]? = some z → vs[j]? = some v → VR w ro g σ.m z v ∧ (ms[j]? = some .ro → partR w ro (g0 0) [] z v) := ⟨by simpa using hv.1, fun j y z hy hz => by simpa using hv.2 (j + 1) y z (by simpa using hy) (by simpa using hz)⟩
  cases mo with
  | ro =>
   have h' : (match ret2 σ.m us xs ms with | some (rs, c) => some (RS.ro x :: rs, c) | none => none) = some (rs, c) := h
   split at h'
   · rename_i rs' c' h2
     simp only [Option.some.injEq, Prod.mk.injEq] at h'
     obtain ⟨rfl, rfl⟩ := h'
     exact ⟨v, vs, rfl, hxr rfl, ret2_ok hg h2 hc hrest hu⟩
   · cases h'
  | own =>
   cases x with
   | ow id ver =>
    simp only [ret2] at h
    split at h
    · rename_i ve Et sz ys hl
      split at h
      · rename_i hmem
        split at h
        · rename_i rs' c' h2
          simp only [Option.some.injEq, Prod.mk.injEq] at h
          obtain ⟨rfl, rfl⟩ := h
          obtain ⟨e, k1, k2, k3⟩ := hx
          rw [hl] at k1
          cases k1
          have k4 := k3 (andc_l hc) rfl
          obtain ⟨h0, us', k5, k6⟩ := hg.rel.ent id _ hl
          rw [← k4] at k6
          refine ⟨v, vs, rfl, ⟨h0, us', k5, k6⟩, fun b hb => ⟨hg.rel.nro id _ b hl (by simp [blkOf, ← k4, hb]), fun hbu => ?_⟩, ?_⟩
          · obtain ⟨i, e', e1, e2, e3⟩ := hu b hbu
            have hne : i ≠ id := fun e => by
             subst e
             have := memN_iff.2 e1
             rw [hmem] at this
             cases this
            exact hg.rel.sep i id _ _ b hne e2 hl e3 (by simp [blkOf, ← k4, hb])
          · refine ret2_ok hg h2 (andc_r hc) hrest (fun b hb => ?_)
            cases hvo : v.ownBlock with
            | none =>
             rw [hvo] at hb
             obtain ⟨i, e', e1, e2, e3⟩ := hu b hb
             exact ⟨i, e', List.mem_cons_of_mem _ e1, e2, e3⟩
            | some b0 =>
             rw [hvo] at hb
             simp only [List.mem_cons] at hb
             rcases hb with rfl | hb
             · exact ⟨id, _, List.mem_cons_self, hl, by simp only [blkOf, ← k4]; exact hvo⟩
             · obtain ⟨i, e', e1, e2, e3⟩ := hu b hb
               exact ⟨i, e', List.mem_cons_of_mem _ e1, e2, e3⟩
        · cases h
      · cases h
    · cases h
   | _ => simp [ret2] at h
  | nb =>
   simp only [ret2] at h
   split at h
   · rename_i id ver
     split at h
     · rename_i vb T cs hl
       split at h
       · rename_i hmem hall
         split at h
         · rename_i rs' c' h2
           simp only [Option.some.injEq, Prod.mk.injEq] at h
           obtain ⟨rfl, rfl⟩ := h
           obtain ⟨e, k1, k2, k3⟩ := hx
           rw [hl] at k1
           cases k1
           obtain rfl := k3 (andc_l hc) rfl
           obtain ⟨f1, f2, us', f3, f4⟩ := hg.rel.ent id _ hl
           refine ⟨g.B id, vs, rfl, f1 rfl, hg.rel.nro id _ _ hl rfl, fun hbu => ?_, ⟨us', roAll_rep hall f3, f4⟩, ret2_ok hg h2 (andc_r hc) hrest (fun b hb => ?_)⟩
           · obtain ⟨i, e', e1, e2, e3⟩ := hu _ hbu
             have hne : i ≠ id := fun e => by
              subst e
              have := memN_iff.2 e1
              rw [hmem] at this
              cases this
             exact hg.rel.sep i id _ _ _ hne e2 hl e3 rfl
           · simp only [List.mem_cons] at hb
             rcases hb with rfl | hb
             · exact ⟨id, _, List.mem_cons_self, hl, rfl⟩
             · obtain ⟨i, e', e1, e2, e3⟩ := hu b hb
               exact ⟨i, e', List.mem_cons_of_mem _ e1, e2, e3⟩
         · cases h
       · cases h
     · cases h
   · cases h
  | nil Et sz =>
   simp only [ret2] at h
   split at h
   · split at h
     · cases h
     · rename_i s
       split at h
       · rename_i rs' c' h2
         simp only [Option.some.injEq, Prod.mk.injEq] at h
         obtain ⟨rfl, rfl⟩ := h
         obtain rfl : v = .slice none 0 0 := (show v = .slice none 0 0 ∧ _ from hx).1
         exact ⟨_, vs, rfl, ⟨by omega, [], rfl, by simp, Or.inl ⟨rfl, rfl⟩⟩, fun b hb => by simp [Value.ownBlock] at hb, ret2_ok hg h2 hc hrest hu⟩
       · cases h
   · cases h
theorem bx_ok {σ : St} {a : Act} {w : World} {ro : Nat → Prop} {g : Gh} (hg : Good cx σ a w ro g) {bx : Option Nat} {m' : List (Nat × Ent)} {bs : List AV} {c : Option Prop} (h : retB σ.m bx = some (m', bs, c)) (hc : cp c) :
 ∃ ro', Good cx ⟨σ.t, m'⟩ a w ro' g ∧ On w w ro ro' g g σ.m m' ∧ ∀ T0, bx = some T0 → ¬ ro' (cx.xb 0) ∧ ∃ us, repL w ro' bs us ∧ w.heap[cx.xb 0]? = some (.cells us.toArray T0 (0, 0)) := by
 cases bx with
 | none =>
  simp only [retB, Option.some.injEq, Prod.mk.injEq] at h
  obtain ⟨rfl, rfl, _⟩ := h
  exact ⟨ro, hg, On.refl' _ _ _ _, fun T0 h => by cases h⟩
 | some T0 =>
  simp only [retB] at h
  split at h
  · rename_i v T cs hl
    split at h
    · rename_i hT
      split at h
      · rename_i m1 ys c1 h1
        simp only [Option.some.injEq, Prod.mk.injEq] at h
        obtain ⟨rfl, rfl, rfl⟩ := h
        obtain ⟨h2, h3, us, h4, h5⟩ := hg.rel.ent 0 _ hl
        have e0 := h3 rfl
        obtain ⟨ro', h6, h7, h8⟩ := toROs_ok hg h1 hc h4
        refine ⟨ro', h6, h7, fun T1 e1 => ?_⟩
        cases e1
        have := Nat.eq_of_beq_eq_true hT
        subst this
        obtain ⟨h9, h10, us', h11, h12⟩ := h6.rel.ent 0 _ (toROs_box h1 hl)
        rw [← e0]
        refine ⟨h6.rel.nro 0 _ _ (toROs_box h1 hl) rfl, us, h8, h5⟩
      · cases h
    · cases h
  · cases h
theorem retR_ok {P : Program} {T : List (Nat × Ty)} (hT : TOk P T) {fn : Func} {σ : St} {a : Act} {w : World} {ro : Nat → Prop} {g : Gh} (hg : Good cx σ a w ro g) {bx : Option Nat} {ms : List RM} {rs : List RS} {bs : List AV} {c : Option Prop} (h : retR T σ bx fn.results.toList ms = some (rs, bs, c)) (hc : cp c) :
 ∃ vs ro', (results fn a.tmps).run P w = .ok (retV vs) w ∧ (∀ b, ro b → ro' b) ∧ (∀ b, ro' b → b < w.heap.size ∧ (cx.ro0 b ∨ cx.w0.heap.size ≤ b)) ∧ resR w ro' cx.w0.heap.size [] rs vs ∧
  ∀ T0, bx = some T0 → ¬ ro' (cx.xb 0) ∧ ∃ us, repL w ro' bs us ∧ w.heap[cx.xb 0]? = some (.cells us.toArray T0 (0, 0)) := by
 simp only [retR] at h
 split at h
 · rename_i xs c1 h1
   split at h
   · rename_i m1 ys c2 h2
     split at h
     · rename_i m2 bs' c3 h3
       split at h
       · rename_i rs' c4 h4
         simp only [Option.some.injEq, Prod.mk.injEq] at h
         obtain ⟨rfl, rfl, rfl⟩ := h
         obtain ⟨vs, k1, k2, k3⟩ := rvals_ok hT hg h1 (andc_l (andc_l hc))
         obtain ⟨ro1, g1, on1, l1, l2, p1⟩ := ret1_ok hg h2 (andc_r (andc_l hc)) ⟨k2, k3⟩
         obtain ⟨ro2, g2, on2, b2⟩ := bx_ok (σ := ⟨σ.t, m1⟩) g1 h3 (andc_l (andc_r hc))
         have r2 := ret2_ok (σ := ⟨σ.t, m2⟩) g2 (used := []) h4 (andc_r (andc_r hc)) ⟨l1, fun j z v hz hv => by
          obtain ⟨q1, q2⟩ := p1 j z v hz hv
          exact ⟨VR_on on2 q1, fun hm => partR_on (⟨on2.ro, fun i e he => by simp [look] at he⟩ : On w w ro1 ro2 (g0 0) (g0 0) [] []) (q2 hm)⟩⟩ (fun b hb => by cases hb)
         refine ⟨vs, ro2, results_ok k1, fun b hb => (on2.ro b (on1.ro b hb).1).1, fun b hb => ⟨g2.rel.rlt b hb, ?_⟩, r2, b2⟩
         by_cases hlt : b < cx.w0.heap.size
         · exact .inl (g2.rob b hb hlt)
         · exact .inr (by omega)
       · cases h
     · cases h
   · cases h
 · cases h
def argsT : Nat → List AV → List (Nat × AV)
 | _, [] => []
 | k, x :: r => (k, x) :: argsT (k + 1) r
theorem argsT_look : ∀ {k : Nat} {xs : List AV} {t : Nat} {x : AV}, look (argsT k xs) t = some x → ∃ j, t = k + j ∧ xs[j]? = some x
 | k, [], t, x, h => by simp [argsT, look] at h
 | k, y :: r, t, x, h => by
  simp only [argsT] at h
  by_cases hk : k = t
  · subst hk
    rw [look_same] at h
    exact ⟨0, rfl, by simpa using h⟩
  · rw [look_other _ _ hk] at h
    obtain ⟨j, h1, h2⟩ := argsT_look h
    exact ⟨j + 1, by omega, by simpa using h2⟩
theorem partsR_at {w : World} {ro : Nat → Prop} {g : Gh} {m : List (Nat × Ent)} : ∀ {xs : List AV} {us : List Value}, partsR w ro g m xs us → xs.length = us.length ∧ ∀ (j : Nat) (x : AV), xs[j]? = some x → ∃ u, us[j]? = some u ∧ partR w ro g m x u
 | [], us, h => by cases h; exact ⟨rfl, fun j x h => by simp at h⟩
 | x :: xs, us, h => by
  obtain ⟨u, r, rfl, h1, h2⟩ := h
  obtain ⟨h3, h4⟩ := partsR_at h2
  refine ⟨by simp [h3], fun j y hy => ?_⟩
  cases j with
  | zero => simp at hy; subst hy; exact ⟨u, rfl, h1⟩
  | succ j => simpa using h4 j y (by simpa using hy)
def RetQ (E : Env) (fn : Func) (bx : Option (Nat × List AV)) (rs : List RS) (bs : List AV) (w : World) (ro : Nat → Prop) (B : Nat) : PC :=
 bodyPost E.P fn (fun e w' => ∃ vs ro', e = .returned (retV vs) ∧ Said E bx rs bs w ro B vs w' ro')
theorem RetQ_mild (E : Env) (fn : Func) (bx : Option (Nat × List AV)) (rs : List RS) (bs : List AV) (w : World) (ro : Nat → Prop) (B : Nat) : Mild (RetQ E fn bx rs bs w ro B) := fun c a a' w' h => by
 obtain ⟨_, vs, ro', h1, _⟩ := h
 cases h1
def cx0 (fn : Func) (bx : Option (Nat × List AV)) (w : World) (ro : Nat → Prop) (B : Nat) : Cx := ⟨w, ro, fun _ => B, fun b => bx ≠ none ∧ b = B, fn.ntmps⟩
theorem ctr_of {f : Nat} {fn : Func} {c : Code} {bx : Option (Nat × List AV)} {args : List AV} {rs : List RS} {bs : List AV}
 (hf : E.P.funcs[f]? = some fn) (hb : fn.body = some c) (hn : (fn.name == "runtime.NumGoroutine") = false) (ha : args.length ≤ fn.ntmps)
 (h : ∀ (w : World) (ro : Nat → Prop) (B : Nat), Fr E (cx0 fn bx w ro B) → Mild (RetQ E fn bx rs bs w ro B) → WS E (cx0 fn bx w ro B) [.c c] ⟨argsT 0 args, m0 bx⟩ (RetQ E fn bx rs bs w ro B)) : Ctr E f bx args rs bs := by
 refine ⟨⟨fn, hf, hn, by rw [hb]; rfl⟩, fun w ro B vals hL hro hbx hp => ?_⟩
 obtain ⟨hlen, hat⟩ := partsR_at hp
 refine calls_of_wp hf hb ?_
 have only : ∀ id e, look (m0 bx) id = some e → id = 0 ∧ ∃ T cs, bx = some (T, cs) ∧ e = .box 0 T true cs := fun id e he => by
  cases bx with
  | none => simp [m0, look] at he
  | some b =>
   obtain ⟨T, cs⟩ := b
   simp only [m0] at he
   by_cases hi : (0 : Nat) = id
   · subst hi
     rw [look_same] at he
     cases he
     exact ⟨rfl, T, cs, rfl, rfl⟩
   · rw [look_other _ _ hi] at he
     simp [look] at he
 refine h w ro B ⟨hL, fun b hb => ?_⟩ (RetQ_mild _ _ _ _ _ _ _ _) _ w ro (g0 B) ?_
 · obtain ⟨h1, rfl⟩ := hb
   cases bx with
   | none => exact absurd rfl h1
   | some p => exact (hbx p.1 p.2 rfl).2.1
 · refine ⟨by simp [cx0]; omega, rfl, fun t x ht => ?_, ⟨fun id e he => ?_, fun i j e1 e2 b hij h1 h2 => ?_, fun id e b he hb => ?_, hro⟩, rfl, rfl, rfl, Nat.le_refl _, fun k _ _ => rfl, fun b hb => hb, fun b hb _ => hb, fun id v T cs he => ?_⟩
   · obtain ⟨j, rfl, hj⟩ := argsT_look ht
     obtain ⟨u, hu, hr⟩ := hat j x hj
     have hj' : j < vals.length := by
      rw [List.getElem?_eq_some_iff] at hu
      exact hu.1
     have e : (vals.toArray ++ Array.replicate (fn.ntmps - vals.toArray.size) undef).getD (0 + j) undef = u := by
      rw [Array.getD_eq_getD_getElem?, Nat.zero_add, Array.getElem?_append_left (by simpa using hj')]
      simp [hu]
     rw [e]
     exact partR_VR hr
   · obtain ⟨rfl, T, cs, h1, rfl⟩ := only id e he
     obtain ⟨_, _, us, h2, h3⟩ := hbx T cs h1
     exact ⟨fun h => by simp at h, fun _ => rfl, us, repL_cellsR h2, h3⟩
   · obtain ⟨rfl, _⟩ := only i e1 h1
     obtain ⟨rfl, _⟩ := only j e2 h2
     exact absurd rfl hij
   · obtain ⟨rfl, T, cs, h1, rfl⟩ := only id e he
     simp only [blkOf, g0, Option.some.injEq] at hb
     subst hb
     exact (hbx T cs h1).1
   · obtain ⟨rfl, T', cs', h1, _⟩ := only id _ he
     exact ⟨by simp [h1], rfl⟩
theorem ret_ok {fn : Func} {σ : St} {bx : Option (Nat × List AV)} {rs : List RS} {bs : List AV} {w : World} {ro : Nat → Prop} {B : Nat} {s : List It} {ms : List RM} {c : Option Prop}
 (h : retR E.T σ (bx.map Prod.fst) fn.results.toList ms = some (rs, bs, c)) (hc : cp c) : WP E (cx0 fn bx w ro B) (RetQ E fn bx rs bs w ro B) (.ret s σ) := by
 intro a w' ro1 g hg
 obtain ⟨vs, ro', h1, h2, h3, h4, h5⟩ := retR_ok E.tok hg h hc
 have : a.defers = [] ∧ ∃ v, (results fn a.tmps).run E.P w' = .ok v w' ∧ ∃ vs ro', Ending.returned v = .returned (retV vs) ∧ Said E bx rs bs w ro B vs w' ro' := by
  refine ⟨hg.defs, _, h1, vs, ro', rfl, ⟨hg.os, hg.tape, hg.output, hg.hsize, fun k hk hx => hg.keep k hk (fun he => hx he.1 he.2), fun b hb => h2 b (hg.roin b hb), h3, h4, fun T cs hbx => ?_⟩⟩
  subst hbx
  exact h5 T rfl
 exact ⟨this, this⟩
def roR : RS → RS → Prop
 | .ro x, r => (match r with
  | .ro y => roP x y
  | _ => False)
 | .own E sz xs, r => (match r with
  | .own E2 sz2 ys => E2 = E ∧ sz2 = sz ∧ ys = xs
  | _ => False)
 | .nb T xs, r => (match r with
  | .nb T2 ys => T2 = T ∧ roL xs ys
  | _ => False)
def roRs : List RS → List RS → Prop
 | [], rs => rs = []
 | x :: xs, y :: ys => roR x y ∧ roRs xs ys
 | _ :: _, [] => False
theorem roRs_res {w : World} {ro : Nat → Prop} {base : Nat} : ∀ {rs rs0 : List RS} {used : List Nat} {vs : List Value}, roRs rs rs0 → resR w ro base used rs0 vs → resR w ro base used rs vs
 | [], rs0, used, vs, h, k => by obtain rfl : rs0 = [] := h; exact k
 | x :: xs, [], used, vs, h, k => h.elim
 | .ro x :: xs, .ro y :: ys, used, vs, h, k => by
  obtain ⟨v, r, rfl, h1, h2⟩ := k
  exact ⟨v, r, rfl, roP_part h.1 h1, roRs_res h.2 h2⟩
 | .own E sz xs :: rs, .own E2 sz2 ys :: rs2, used, vs, h, k => by
  obtain ⟨⟨rfl, rfl, rfl⟩, h3⟩ := h
  obtain ⟨v, r, rfl, h1, h2, h4⟩ := k
  exact ⟨v, r, rfl, h1, h2, roRs_res h3 h4⟩
 | .nb T xs :: rs, .nb T2 ys :: rs2, used, vs, h, k => by
  obtain ⟨⟨rfl, h0⟩, h3⟩ := h
  obtain ⟨b, r, rfl, h1, h2, h4, ⟨us, h5, h6⟩, h7⟩ := k
  exact ⟨b, r, rfl, h1, h2, h4, ⟨us, roL_rep h0 h5, h6⟩, roRs_res h3 h7⟩
 | .ro x :: xs, .own E sz ys :: rs2, used, vs, h, k => h.1.elim
 | .ro x :: xs, .nb T ys :: rs2, used, vs, h, k => h.1.elim
 | .own E sz xs :: rs, .ro y :: ys, used, vs, h, k => h.1.elim
 | .own E sz xs :: rs, .nb T ys :: rs2, used, vs, h, k => h.1.elim
 | .nb T xs :: rs, .ro y :: ys, used, vs, h, k => h.1.elim
 | .nb T xs :: rs, .own E sz ys :: rs2, used, vs, h, k => h.1.elim
theorem ret_as {fn : Func} {σ : St} {bx : Option (Nat × List AV)} {rs rs0 : List RS} {bs bs0 : List AV} {w : World} {ro : Nat → Prop} {B : Nat} {s : List It} {ms : List RM} {c : Option Prop}
 (h : retR E.T σ (bx.map Prod.fst) fn.results.toList ms = some (rs0, bs0, c)) (hc : cp c ∧ roRs rs rs0 ∧ roL bs bs0) : WP E (cx0 fn bx w ro B) (RetQ E fn bx rs bs w ro B) (.ret s σ) := by
 intro a w' ro1 g hg
 obtain ⟨h1, h2⟩ := ret_ok (w := w) (ro := ro) (B := B) (s := s) h hc.1 a w' ro1 g hg
 have up : ∀ e, (e = .ret ∨ e = .normal) → RetQ E fn bx rs0 bs0 w ro B e a w' → RetQ E fn bx rs bs w ro B e a w' := fun e he hq => by
  have : a.defers = [] ∧ ∃ v, (results fn a.tmps).run E.P w' = .ok v w' ∧ ∃ vs ro', Ending.returned v = .returned (retV vs) ∧ Said E bx rs0 bs0 w ro B vs w' ro' := by
   rcases he with rfl | rfl <;> exact hq
  obtain ⟨k1, v, k2, vs, ro', k3, k4⟩ := this
  have : a.defers = [] ∧ ∃ v, (results fn a.tmps).run E.P w' = .ok v w' ∧ ∃ vs ro', Ending.returned v = .returned (retV vs) ∧ Said E bx rs bs w ro B vs w' ro' := by
   refine ⟨k1, v, k2, vs, ro', k3, ⟨k4.os, k4.tape, k4.output, k4.size, k4.same, k4.roin, k4.rob, roRs_res hc.2.1 k4.res, fun T cs hb => ?_⟩⟩
   obtain ⟨q1, us, q2, q3⟩ := k4.box T cs hb
   exact ⟨q1, us, roL_rep hc.2.2 q2, q3⟩
  rcases he with rfl | rfl <;> exact this
 exact ⟨up _ (.inl rfl) h1, up _ (.inr rfl) h2⟩
end
abbrev Ren := List (Nat × Option Nat)
def curv (m : List (Nat × Ent)) (k ver : Nat) : Prop := match look m k with
 | some e => ver = e.ver
 | none => False
def hasv (m' : List (Nat × Ent)) (row : Bool) (i v : Nat) : Prop := match look m' i with
 | some e => v ≤ e.ver ∧ e.row = row
 | none => False
def canV (ρ : Ren) (m' m : List (Nat × Ent)) : AV → AV → Prop
 | .ow i v, y => hasv m' true i v ∧ (match look ρ i with
  | some (some j) => (match y with
   | .ow k ver => k = j ∧ curv m k ver
   | _ => False)
  | some none => y = .v (.slice none 0 0)
  | none => False)
 | .pt i v o, y => hasv m' false i v ∧ (match look ρ i with
  | some (some j) => (match y with
   | .pt k ver o' => k = j ∧ o' = o ∧ curv m k ver
   | _ => False)
  | _ => False)
 | .ep _ _ _ _, _ => False
 | .cl _ _ _, _ => False
 | .tu _, _ => False
 | .ag _, _ => False
 | .dead, _ => True
 | .v z, y => (match y with
  | .bb b' => z = .bool b'
  | .v u => u = z
  | _ => False)
 | .bb b, y => (match y with
  | .bb b' => b' = b
  | .v u => u = .bool b
  | _ => False)
 | .er b, y => (match y with
  | .er b2 => b2 = b
  | .v u => u = .nilIface ∧ b = true
  | _ => False)
 | .sl sz xs, y => (match y with
  | .sl sz2 xs2 => sz2 = sz ∧ xs2 = xs
  | .v u => u = .slice none 0 0 ∧ xs = []
  | .ow k ver => (match look m k with
   | some (.froz v sz2 xs2) => ver = v ∧ sz2 = sz ∧ xs2 = xs
   | _ => False)
  | _ => False)
 | x, y => y = x
def canL (ρ : Ren) (m' m : List (Nat × Ent)) : List AV → List AV → Prop
 | [], ys => ys = []
 | x :: xs, y :: ys => canV ρ m' m x y ∧ canL ρ m' m xs ys
 | _ :: _, [] => False
def canP (ρ : Ren) (m' m : List (Nat × Ent)) : AV → AV → Prop
 | .ag xs, y => (match y with
  | .ag ys => canL ρ m' m xs ys
  | _ => False)
 | x, y => canV ρ m' m x y
def canE (ρ : Ren) (m' m : List (Nat × Ent)) (i : Nat) (e' : Ent) : Prop := match look ρ i with
 | some (some j) => (match look m j with
  | some e => (match e', e with
   | .own _ E sz xs, .own _ E2 sz2 xs2 => E2 = E ∧ sz2 = sz ∧ xs2 = xs
   | .froz _ sz xs, .froz _ sz2 xs2 => sz2 = sz ∧ xs2 = xs
   | .box _ T x cs, .box _ T2 x2 cs2 => T2 = T ∧ x2 = x ∧ (x = true → i = j) ∧ canL ρ m' m cs cs2
   | _, _ => False)
  | none => False)
 | some none => (match e' with
  | .own _ E sz xs => 0 < sz ∧ xs = []
  | _ => False)
 | none => False
def canM (ρ : Ren) (m' m : List (Nat × Ent)) : List (Nat × Ent) → Prop
 | [] => True
 | (i, e) :: r => canE ρ m' m i e ∧ canM ρ m' m r
def canT (ρ : Ren) (m' : List (Nat × Ent)) (σ : St) : List (Nat × AV) → Prop
 | [] => True
 | (t, x) :: r => canP ρ m' σ.m x (σ.get t) ∧ canT ρ m' σ r
def srcs : Ren → List Nat
 | [] => []
 | (_, some j) :: r => j :: srcs r
 | (_, none) :: r => srcs r
def nodupB : List Nat → Bool
 | [] => true
 | j :: r => !memN j r && nodupB r
def Can (ρ : Ren) (σ' σ : St) : Prop := nodupB (srcs ρ) = true ∧ canT ρ σ'.m σ σ'.t ∧ canM ρ σ'.m σ.m σ'.m
section
variable {E : Env} {cx : Cx} {Q : PC}
theorem srcs_mem : ∀ {ρ : Ren} {i j : Nat}, look ρ i = some (some j) → j ∈ srcs ρ
 | [], i, j, h => by simp [look] at h
 | (k, s) :: r, i, j, h => by
  by_cases hk : k = i
  · subst hk
    rw [look_same] at h
    cases h
    simp [srcs]
  · rw [look_other _ _ hk] at h
    have := srcs_mem h
    cases s <;> simp [srcs, this]
theorem ren_inj : ∀ {ρ : Ren} {i i' j : Nat}, nodupB (srcs ρ) = true → look ρ i = some (some j) → look ρ i' = some (some j) → i = i'
 | [], i, i', j, _, h, _ => by simp [look] at h
 | (k, s) :: r, i, i', j, hn, h, h' => by
  have hn' : nodupB (srcs r) = true ∧ (∀ j, s = some j → j ∉ srcs r) := by
   cases s with
   | none => exact ⟨hn, fun j h => by cases h⟩
   | some j0 =>
    simp only [srcs, nodupB, Bool.and_eq_true, Bool.not_eq_true'] at hn
    exact ⟨hn.2, fun j hj hm => by cases hj; rw [memN_iff.2 hm] at hn; exact absurd hn.1 (by simp)⟩
  by_cases hk : k = i
  · subst hk
    rw [look_same] at h
    by_cases hk' : k = i'
    · exact hk'
    · rw [look_other _ _ hk'] at h'
      cases h
      exact absurd (srcs_mem h') (hn'.2 j rfl)
  · rw [look_other _ _ hk] at h
    by_cases hk' : k = i'
    · subst hk'
      rw [look_same] at h'
      cases h'
      exact absurd (srcs_mem h) (hn'.2 j rfl)
    · rw [look_other _ _ hk'] at h'
      exact ren_inj hn'.1 h h'
def renG (ρ : Ren) (g : Gh) : Gh := ⟨fun i => match look ρ i with | some (some j) => g.G j | _ => .slice none 0 0, fun i => match look ρ i with | some (some j) => g.B j | _ => g.B i⟩
theorem canT_at {ρ : Ren} {m' : List (Nat × Ent)} {σ : St} : ∀ {l : List (Nat × AV)} {t : Nat} {x : AV}, canT ρ m' σ l → look l t = some x → canP ρ m' σ.m x (σ.get t)
 | [], t, x, _, h => by simp [look] at h
 | (k, y) :: r, t, x, hc, h => by
  by_cases hk : k = t
  · subst hk
    rw [look_same] at h
    cases h
    exact hc.1
  · rw [look_other _ _ hk] at h
    exact canT_at hc.2 h
theorem canM_at {ρ : Ren} {m' m : List (Nat × Ent)} : ∀ {l : List (Nat × Ent)} {i : Nat} {e : Ent}, canM ρ m' m l → look l i = some e → canE ρ m' m i e
 | [], i, e, _, h => by simp [look] at h
 | (k, y) :: r, i, e, hc, h => by
  by_cases hk : k = i
  · subst hk
    rw [look_same] at h
    cases h
    exact hc.1
  · rw [look_other _ _ hk] at h
    exact canM_at hc.2 h
theorem Good.can {ρ : Ren} {σ σ' : St} {a : Act} {w : World} {ro : Nat → Prop} {g : Gh} (hg : Good cx σ a w ro g) (h : Can ρ σ' σ) : Good cx σ' a w ro (renG ρ g) := by
 obtain ⟨hnd, hT, hM⟩ := h
 have gG : ∀ {i j : Nat}, look ρ i = some (some j) → (renG ρ g).G i = g.G j := fun {i j} hi => by simp [renG, hi]
 have gB : ∀ {i j : Nat}, look ρ i = some (some j) → (renG ρ g).B i = g.B j := fun {i j} hi => by simp [renG, hi]
 have gN : ∀ {i : Nat}, look ρ i = some none → (renG ρ g).G i = .slice none 0 0 := fun {i} hi => by simp [renG, hi]
 have cell : ∀ {x y : AV} {u : Value}, canV ρ σ'.m σ.m x y → cellR w ro g σ.m y u → cellR w ro (renG ρ g) σ'.m x u := fun {x y u} hc hu => by
  cases x with
  | ow i v =>
   obtain ⟨h1, h2⟩ := hc
   unfold hasv at h1
   split at h1
   · rename_i e' he'
     obtain ⟨h1, h3⟩ := h1
     refine ⟨e', he', h1, fun _ _ => ?_⟩
     split at h2
     · rename_i j hj
       rw [gG hj]
       split at h2
       · rename_i k ver
         obtain ⟨rfl, h4⟩ := h2
         unfold curv at h4
         split at h4
         · rename_i e he
           obtain ⟨e2, h5, h6, h7⟩ := hu
           rw [he] at h5
           cases h5
           have hE := canM_at hM he'
           unfold canE at hE
           rw [hj] at hE
           simp only [he] at hE
           refine h7 h4 ?_
           cases e' <;> cases e <;> simp_all [Ent.row]
         · exact h4.elim
       · exact h2.elim
     · rename_i hj
       rw [gN hj]
       subst h2
       exact (show u = .slice none 0 0 ∧ _ from hu).1
     · exact h2.elim
   · exact h1.elim
  | pt i v o =>
   obtain ⟨h1, h2⟩ := hc
   unfold hasv at h1
   split at h1
   · rename_i e' he'
     obtain ⟨h1, h3⟩ := h1
     refine ⟨e', he', h1, fun _ _ => ?_⟩
     split at h2
     · rename_i j hj
       rw [gB hj]
       split at h2
       · rename_i k ver o'
         obtain ⟨rfl, rfl, h4⟩ := h2
         unfold curv at h4
         split at h4
         · rename_i e he
           obtain ⟨e2, h5, h6, h7⟩ := hu
           rw [he] at h5
           cases h5
           have hE := canM_at hM he'
           unfold canE at hE
           rw [hj] at hE
           simp only [he] at hE
           refine h7 h4 ?_
           cases e' <;> cases e <;> simp_all [Ent.row]
         · exact h4.elim
       · exact h2.elim
     · exact h2.elim
   · exact h1.elim
  | ep _ _ _ _ => exact hc.elim
  | cl _ _ _ => exact hc.elim
  | tu _ => exact hc.elim
  | ag _ => exact hc.elim
  | dead => trivial
  | v z =>
   cases y with
   | bb b =>
    obtain rfl : z = .bool b := hc
    exact (show u = .bool b ∧ _ from ⟨hu, rfl⟩)
   | v z2 =>
    obtain rfl : z2 = z := hc
    exact hu
   | _ => exact hc.elim
  | bb z =>
   cases y with
   | bb b =>
    obtain rfl : b = z := hc
    exact hu
   | v z2 =>
    obtain rfl : z2 = .bool z := hc
    exact (show u = .bool z ∧ _ from hu).1
   | _ => exact hc.elim
  | er z =>
   cases y with
   | er b =>
    obtain rfl : b = z := hc
    exact hu
   | v z2 =>
    obtain ⟨rfl, rfl⟩ := hc
    exact ⟨(show u = .nilIface ∧ _ from hu).1 ▸ rfl, .inl ⟨(show u = .nilIface ∧ _ from hu).1, rfl⟩⟩
   | _ => exact hc.elim
  | sl s z =>
   cases y with
   | sl s2 z2 =>
    obtain ⟨rfl, rfl⟩ := hc
    exact hu
   | v z2 =>
    obtain ⟨rfl, rfl⟩ := hc
    exact ⟨none, 0, (show u = .slice none 0 0 ∧ _ from hu).1, Nat.le_refl _, by simp [maxLen], fun h => by simp at h⟩
   | ow k ver =>
    obtain ⟨e, h1, h2, h3⟩ := hu
    simp only [canV, h1] at hc
    cases e with
    | froz v sz2 xs2 =>
     obtain ⟨rfl, rfl, rfl⟩ := hc
     have h4 := hg.rel.ent k _ h1
     rw [h3 rfl rfl]
     exact h4
    | _ => exact hc.elim
   | _ => exact hc.elim
  | rf z => obtain rfl : y = .rf z := hc; exact hu
 have cells : ∀ {xs ys : List AV} {us : List Value}, canL ρ σ'.m σ.m xs ys → cellsR w ro g σ.m ys us → cellsR w ro (renG ρ g) σ'.m xs us := by
  intro xs
  induction xs with
  | nil =>
   intro ys us hc hu
   obtain rfl : ys = [] := hc
   exact hu
  | cons x xs ih =>
   intro ys us hc hu
   cases ys with
   | nil => exact hc.elim
   | cons y ys =>
    obtain ⟨u, r, rfl, h1, h2⟩ := hu
    exact ⟨u, r, rfl, cell hc.1 h1, ih hc.2 h2⟩
 have blk : ∀ {i : Nat} {e' : Ent} {b : Nat}, look σ'.m i = some e' → blkOf (renG ρ g) i e' = some b → ∃ j e, look ρ i = some (some j) ∧ look σ.m j = some e ∧ blkOf g j e = some b := fun {i e' b} he' hb => by
  have hE := canM_at hM he'
  unfold canE at hE
  split at hE
  · rename_i j hj
    split at hE
    · rename_i e he
      refine ⟨j, e, hj, he, ?_⟩
      cases e' <;> cases e <;> simp only [blkOf, gG hj, gB hj] at hb hE ⊢ <;> first | exact hb | exact hE.elim | skip
      all_goals simp_all
    · exact hE.elim
  · rename_i hj
    split at hE
    · simp only [blkOf, gN hj, Value.ownBlock] at hb
      cases hb
    · exact hE.elim
  · exact hE.elim
 refine ⟨hg.size, hg.defs, fun t x ht => ?_, ⟨fun i e he => ?_, fun i j e1 e2 b hij h1 h2 hb1 hb2 => ?_, fun i e b he hb => ?_, hg.rel.rlt⟩, hg.os, hg.tape, hg.output, hg.hsize, hg.keep, hg.roin, hg.rob, fun i v T cs he => ?_⟩
 · have hc := canT_at hT ht
   have hv := hg.og (.tmp t)
   rw [show oget σ (.tmp t) = σ.get t from rfl] at hv
   generalize σ.get t = y at hc hv
   have simple : ∀ x, canV ρ σ'.m σ.m x y → (∀ xs, x ≠ .ag xs) → cellR w ro (renG ρ g) σ'.m x (a.eval (.tmp t)) := fun x hc hx => by
    by_cases hy : (∃ ys, y = .ag ys) ∨ (∃ ys, y = .tu ys)
    · cases x with
      | dead => trivial
      | ow i v =>
       obtain ⟨_, h2⟩ := hc
       rcases hy with ⟨ys, rfl⟩ | ⟨ys, rfl⟩ <;> (split at h2 <;> first | exact h2.elim | cases h2)
      | pt i v o =>
       obtain ⟨_, h2⟩ := hc
       rcases hy with ⟨ys, rfl⟩ | ⟨ys, rfl⟩ <;> (split at h2 <;> exact h2.elim)
      | ep _ _ _ _ => exact hc.elim
      | cl _ _ _ => exact hc.elim
      | tu _ => exact hc.elim
      | ag _ => exact hc.elim
      | v z => rcases hy with ⟨ys, rfl⟩ | ⟨ys, rfl⟩ <;> exact hc.elim
      | bb z => rcases hy with ⟨ys, rfl⟩ | ⟨ys, rfl⟩ <;> exact hc.elim
      | er z => rcases hy with ⟨ys, rfl⟩ | ⟨ys, rfl⟩ <;> exact hc.elim
      | sl s z => rcases hy with ⟨ys, rfl⟩ | ⟨ys, rfl⟩ <;> exact hc.elim
      | rf z => rcases hy with ⟨ys, rfl⟩ | ⟨ys, rfl⟩ <;> cases hc
    · refine cell hc ?_
      cases y with
      | ag ys => exact absurd (.inl ⟨ys, rfl⟩) hy
      | tu ys => exact absurd (.inr ⟨ys, rfl⟩) hy
      | _ => exact hv
   cases x with
   | ag xs =>
    cases y with
    | ag ys =>
     obtain ⟨us, h1, h2⟩ := hv
     exact ⟨us, h1, cells hc h2⟩
    | _ => exact hc.elim
   | tu xs => exact hc.elim
   | ow i v => exact simple (.ow i v) hc (by simp)
   | pt i v o => exact simple (.pt i v o) hc (by simp)
   | ep i v j o => exact simple (.ep i v j o) hc (by simp)
   | cl f i v => exact simple (.cl f i v) hc (by simp)
   | dead => exact simple .dead hc (by simp)
   | v z => exact simple (.v z) hc (by simp)
   | bb z => exact simple (.bb z) hc (by simp)
   | er z => exact simple (.er z) hc (by simp)
   | sl s z => exact simple (.sl s z) hc (by simp)
   | rf z => exact simple (.rf z) hc (by simp)
 · have hE := canM_at hM he
   unfold canE at hE
   split at hE
   · rename_i j hj
     split at hE
     · rename_i e0 he0
       have h3 := hg.rel.ent j e0 he0
       cases e with
       | own v E sz xs =>
        cases e0 with
        | own v0 E0 sz0 xs0 =>
         obtain ⟨rfl, rfl, rfl⟩ := hE
         simp only [entOk, gG hj] at h3 ⊢
         exact h3
        | _ => exact hE.elim
       | froz v sz xs =>
        cases e0 with
        | froz v0 sz0 xs0 =>
         obtain ⟨rfl, rfl⟩ := hE
         simp only [entOk, gG hj] at h3 ⊢
         exact h3
        | _ => exact hE.elim
       | box v T x cs =>
        cases e0 with
        | box v0 T0 x0 cs0 =>
         obtain ⟨rfl, rfl, hx, hL⟩ := hE
         obtain ⟨h4, h5, us, h6, h7⟩ := h3
         refine ⟨fun h => by rw [gB hj]; exact h4 h, fun h => by rw [gB hj, hx h]; exact h5 h, us, cells hL h6, by rw [gB hj]; exact h7⟩
        | _ => exact hE.elim
     · exact hE.elim
   · rename_i hj
     split at hE
     · obtain ⟨h0, rfl⟩ := hE
       simp only [entOk, gN hj]
       exact ⟨h0, [], rfl, World.ownsRow_nil w _ _ _⟩
     · exact hE.elim
   · exact hE.elim
 · obtain ⟨p, e3, k1, k2, k3⟩ := blk h1 hb1
   obtain ⟨q, e4, l1, l2, l3⟩ := blk h2 hb2
   have hpq : p ≠ q := fun e => by
    subst e
    exact hij (ren_inj hnd k1 l1)
   exact hg.rel.sep p q e3 e4 b hpq k2 l2 k3 l3
 · obtain ⟨p, e3, k1, k2, k3⟩ := blk he hb
   exact hg.rel.nro p e3 b k2 k3
 · have hE := canM_at hM he
   unfold canE at hE
   split at hE
   · rename_i j hj
     split at hE
     · rename_i e0 he0
       cases e0 with
       | box v0 T0 x0 cs0 =>
        obtain ⟨_, rfl, hx, _⟩ := hE
        rw [hx rfl]
        exact hg.xin j v0 T0 cs0 he0
       | _ => exact hE.elim
     · exact hE.elim
   · exact hE.elim
   · exact hE.elim
theorem WS.can {s : List It} {σ σ' : St} (ρ : Ren) (hs : WS E cx s σ' Q) (h : Can ρ σ' σ) : WS E cx s σ Q := fun a w ro g hg => hs a w ro _ (hg.can h)
theorem WS.lpc {J : St → Prop} {s : List It} {σ σ' : St} (ρ : Ren) (hs : J σ') (h : Can ρ σ' σ) : WS E cx (.lp J :: s) σ Q := fun a w ro g hg => ⟨σ', ro, _, hg.can h, hs⟩
theorem WS.freeze {s : List It} {σ : St} (id : Nat) {v E' sz : Nat} {xs : List (List AV)} (hs : WS E cx s ⟨σ.t, (id, .froz v sz xs) :: σ.m⟩ Q) (hl : look σ.m id = some (.own v E' sz xs)) : WS E cx s σ Q := fun a w ro g hg => by
 obtain ⟨ro', h1, _⟩ := frz hg hl
 exact hs a w ro' g h1
def stkAt : List Nat → List (St → Prop) → Code → List It → List It
 | [], _, c, r => .c c :: r
 | n :: p, js, c, r => match c with
  | .seq a b => match n with
   | 0 => stkAt p js a (.c b :: r)
   | _ => stkAt p js b r
  | .block id b => match n with
   | 0 => stkAt p js b (.blk id :: r)
   | _ => r
  | .cond _ a b => match n with
   | 0 => stkAt p js a r
   | 1 => stkAt p js b r
   | _ => r
  | .loop b => match n, js with
   | 0, J :: js' => stkAt p js' b (.lp J :: r)
   | _, _ => r
  | _ => r
end
end Go.Proofs.YtjkngiciigdheaaGreatDoorW.St
namespace Go.Proofs.YtjkngiciigdheaaGreatDoorW.St
open Go.RowKit Go.Proofs.YtjkngiciigdheaaGreatDoorW.PrintWords
set_option linter.unusedSimpArgs false
set_option linter.unusedVariables false
section
variable {α : Type}
def rX (f : α → List AV) (xs : List α) : List (List AV) := xs.map f
def cI (k : IntKind) (z : Int) : List AV := [.v (.int k z)]
def cB (z : Bool) : List AV := [.v (.bool z)]
def cS (z : ByteArray) : List AV := [.v (.string z)]
def cL (f : α → List AV) (sz : Nat) (z : List α) : List AV := [.sl sz (rX f z)]
theorem rX_nil (f : α → List AV) : rX f [] = [] := rfl
theorem rX_cons (f : α → List AV) (x : α) (xs : List α) : rX f (x :: xs) = f x :: rX f xs := rfl
theorem rX_length (f : α → List AV) (xs : List α) : (rX f xs).length = xs.length := by simp [rX]
theorem rX_append (f : α → List AV) (xs ys : List α) : rX f (xs ++ ys) = rX f xs ++ rX f ys := by simp [rX]
theorem rX_take (f : α → List AV) (xs : List α) (n : Nat) : rX f (xs.take n) = (rX f xs).take n := by simp [rX, List.map_take]
theorem rX_drop (f : α → List AV) (xs : List α) (n : Nat) : rX f (xs.drop n) = (rX f xs).drop n := by simp [rX, List.map_drop]
theorem rX_set (f : α → List AV) (xs : List α) (n : Nat) (x : α) : rX f (xs.set n x) = (rX f xs).set n (f x) := by simp [rX, List.map_set]
theorem rX_rep (f : α → List AV) (n : Nat) (x : α) : rX f (List.replicate n x) = List.replicate n (f x) := by simp [rX]
theorem rX_get (f : α → List AV) (xs : List α) (n : Int) (d : α) (h0 : 0 ≤ n) (h1 : n < (xs.length : Int)) : (rX f xs).getD n.toNat [] = f (rdOf d xs n) := by
 have h2 : n.toNat < xs.length := by omega
 simp [rX, rdOf, List.getD_eq_getElem?_getD, h2]
theorem rX_at (f : α → List AV) (xs : List α) (n : Int) (d : α) (h0 : 0 ≤ n) (h1 : n < (xs.length : Int)) : (rX f xs)[n.toNat]? = some (f (rdOf d xs n)) := by
 have h2 : n.toNat < xs.length := by omega
 simp [rX, rdOf, List.getD_eq_getElem?_getD, h2]
end
theorem ba_loop (b : ByteArray) : ∀ (n i : Nat) (r : List UInt8), b.size - i = n → ByteArray.toList.loop b i r = r.reverse ++ b.data.toList.drop i := by
 intro n
 induction n with
 | zero =>
  intro i r h
  unfold ByteArray.toList.loop
  have hs : b.data.toList.length = b.size := by rw [Array.length_toList]; rfl
  rw [if_neg (by omega), List.drop_eq_nil_of_le (by omega), List.append_nil]
 | succ n ih =>
  intro i r h
  unfold ByteArray.toList.loop
  have hs : b.data.toList.length = b.size := by rw [Array.length_toList]; rfl
  have hi : i < b.data.toList.length := by omega
  rw [if_pos (by omega), ih (i + 1) _ (by omega), List.drop_eq_getElem_cons hi]
  have hg : b.get! i = b.data.toList[i] := by
   show b.data[i]! = _
   have hi' : i < b.data.size := by rw [Array.length_toList] at hi; exact hi
   rw [getElem!_pos b.data i hi', Array.getElem_toList]
  rw [hg]
  simp
theorem ba_toList (a : Array UInt8) : (⟨a⟩ : ByteArray).toList = a.toList := by
 show ByteArray.toList.loop ⟨a⟩ 0 [] = _
 rw [ba_loop ⟨a⟩ _ 0 [] rfl]
 simp
theorem ba_size (a : Array UInt8) : (⟨a⟩ : ByteArray).size = a.size := rfl
def bodyOf (f : Func) : Code := match f.body with
 | some c => c
 | none => .skip
theorem chk_of {ops : Array Oper} {ds : List Nat} {l : Array Bool} {o : List (Nat × Nat)} (h : chkD ops ds l o = true) : chkD ops ds l o = true := h
theorem chk_of2 {ops : Array Oper} {fin : Nat} {ns : List Gn} (h : chkG ops fin ns = true) : chkG ops fin ns = true := h
theorem chk_of3 {E : Env} {ops : List Oper} {hs : List (Nat × List D)} {fin : Nat} {ns : List Gn} {ord : List (Nat × Bool)} {σ : St} (h : gL (resG E ops hs fin ns ord σ) = gR (resG E ops hs fin ns ord σ)) : GOK E ops hs fin ns ord σ := h
structure Kp (p : Prop) : Prop where
 out : p
theorem Kp.a {C : Nat → Prop} {k : Nat} (h : Kp (∀ m, m < k + 1 → C m)) : C k := h.out k (Nat.lt_succ_self k)
theorem rI_get {k : IntKind} {xs : List Int} {i : Int} (h0 : 0 ≤ i) (h1 : i < (xs.length : Int)) : (rX (cI k) xs).getD i.toNat [] = [.v (.int k (rd xs i))] := rX_get (cI k) xs i 0 h0 h1
theorem rI_at {k : IntKind} {xs : List Int} {i : Int} (h0 : 0 ≤ i) (h1 : i < (xs.length : Int)) : (rX (cI k) xs)[i.toNat]? = some [.v (.int k (rd xs i))] := rX_at (cI k) xs i 0 h0 h1
theorem rS_get {xs : List ByteArray} {i : Int} (h0 : 0 ≤ i) (h1 : i < (xs.length : Int)) : (rX cS xs).getD i.toNat [] = [.v (.string (rdOf ByteArray.empty xs i))] := rX_get cS xs i _ h0 h1
theorem rS_at {xs : List ByteArray} {i : Int} (h0 : 0 ≤ i) (h1 : i < (xs.length : Int)) : (rX cS xs)[i.toNat]? = some [.v (.string (rdOf ByteArray.empty xs i))] := rX_at cS xs i _ h0 h1
theorem rB_get {xs : List Bool} {i : Int} (h0 : 0 ≤ i) (h1 : i < (xs.length : Int)) : (rX cB xs).getD i.toNat [] = [.v (.bool (rdOf false xs i))] := rX_get cB xs i _ h0 h1
theorem rB_at {xs : List Bool} {i : Int} (h0 : 0 ≤ i) (h1 : i < (xs.length : Int)) : (rX cB xs)[i.toNat]? = some [.v (.bool (rdOf false xs i))] := rX_at cB xs i _ h0 h1
theorem wr_i64 (n : Int) : wr .i64 n = wrap64 n := rfl
theorem wr_u8 (n : Int) : wr .u8 n = n % 256 := rfl
theorem wr_id {e : Int} (h0 : -9223372036854775808 ≤ e) (h1 : e < 9223372036854775808) : wr .i64 e = e := by
 simp only [wr, wrap64]
 omega
def cV {α : Type} (r : List α → List (List AV)) (sz : Nat) (z : List α) : List AV := [.sl sz (r z)]
theorem ctr_given {E : Env} {f : Nat} {args : List AV} {rs : List RS} (hcal : Callable E.P f) (h : ∀ (w : World) (ro : Nat → Prop) (g : Gh) (vals : List Value), E.Laid w → partsR w ro g [] args vals → Calls E.P f vals.toArray w fun e w' => ∃ vs, e = .returned (retV vs) ∧ Below w.heap.size w w' ∧ resR w' ro w.heap.size [] rs vs) : Ctr E f none args rs [] :=
 ⟨hcal, fun w ro B vals hL hro _ hp => (h w ro _ vals hL hp).mono fun e w' ⟨vs, he, hb, hr⟩ => ⟨vs, ro, he, ⟨hb.os, hb.tape, hb.output, hb.size, fun k hk _ => hb.block k hk, fun b hb => hb, fun b hb' => ⟨Nat.lt_of_lt_of_le (hro b hb') hb.size, .inl hb'⟩, hr, fun T cs e => by cases e⟩⟩⟩
theorem rS_cells {w : World} {ro : Nat → Prop} {xs : List ByteArray} {u : Value} (h : rep w ro (.sl 1 (rX cS xs)) u) : ∃ A c, u = .slice A xs.length c ∧ xs.length ≤ c ∧ (xs ≠ [] → ∃ b o, A = some ⟨b, o, none⟩ ∧ b < w.heap.size ∧ ∀ (j : Nat) x, xs[j]? = some x → w.cell? ⟨b, o + j, none⟩ = some (.string x)) := by
 obtain ⟨A, c, h1, h2, _, h3⟩ := h
 rw [rX_length] at h1 h2 h3
 refine ⟨A, c, h1, h2, fun hx => ?_⟩
 obtain ⟨b, o, h4, _, h5⟩ := h3 (List.length_pos_iff.mpr hx)
 have cell : ∀ (j : Nat) x, xs[j]? = some x → w.cell? ⟨b, o + j, none⟩ = some (.string x) := fun j x hj => by
  obtain ⟨_, h6⟩ := repR_get h5 (i := j) (x := cS x) (by simp [rX, hj])
  obtain ⟨⟨u', h7, h8⟩, _⟩ := h6
  obtain rfl : u' = .string x := (show u' = .string x ∧ _ from h7).1
  rwa [Nat.mul_one] at h8
 refine ⟨b, o, h4, ?_, cell⟩
 have hp := List.length_pos_iff.mpr hx
 exact World.block_lt_of_cell? _ _ (cell 0 _ (List.getElem?_eq_getElem hp))
theorem ib {α β : Type} {o : Option α} {f : α → Option β} {b : β} (h : o.bind f = some b) : ∃ a, o = some a ∧ f a = some b := Option.bind_eq_some_iff.1 h
theorem rr {fn : Func} {bx : Option (Nat × List AV)} {E : Env} {w : World} {ro : Nat → Prop} {B : Nat} {s : List It} {σ : St} {rs rs0 : List RS} {bs bs0 : List AV} {c : Option Prop} (ms : List RM) (h : retR E.T σ (bx.map Prod.fst) fn.results.toList ms = some (rs0, bs0, c)) (hc : cp c ∧ roRs rs rs0 ∧ roL bs bs0) : WP E (cx0 fn bx w ro B) (RetQ E fn bx rs bs w ro B) (.ret s σ) := ret_as h hc
theorem co {E : Env} {f : Nat} {fn : Func} {bx : Option (Nat × List AV)} {args : List AV} {rs : List RS} {bs : List AV} (hf : E.P.funcs[f]? = some fn) (hn : (fn.name == "runtime.NumGoroutine") = false) (ha : (Nat.ble args.length fn.ntmps && fn.body.isSome) = true)
 (h : ∀ (w : World) (ro : Nat → Prop) (B : Nat), Fr E (cx0 fn bx w ro B) → WS E (cx0 fn bx w ro B) [.c (bodyOf fn)] ⟨argsT 0 args, m0 bx⟩ (RetQ E fn bx rs bs w ro B)) : Ctr E f bx args rs bs := by
 rw [Bool.and_eq_true] at ha
 obtain ⟨c, hb⟩ := Option.isSome_iff_exists.1 ha.2
 have e : bodyOf fn = c := by unfold bodyOf; rw [hb]
 exact ctr_of hf hb hn (Nat.le_of_ble_eq_true ha.1) fun w ro B hF _ => by rw [← e]; exact h w ro B hF
theorem ig {α : Type} {c : Prop} [Decidable c] {a : Option α} {r : α} (h : (if c then a else none) = some r) : c ∧ a = some r := by
 split at h
 · exact ⟨by assumption, h⟩
 · cases h
theorem ih' {α : Type} {c : Prop} [Decidable c] {a : Option α} {r : α} (h : (if c then none else a) = some r) : ¬ c ∧ a = some r := by
 split at h
 · cases h
 · exact ⟨by assumption, h⟩
theorem ic {α : Type} {c : Prop} [Decidable c] {a b : Option α} {r : α} (h : (if c then a else b) = some r) : c ∧ a = some r ∨ ¬ c ∧ b = some r := by
 split at h
 · exact .inl ⟨by assumption, h⟩
 · exact .inr ⟨by assumption, h⟩
abbrev D.t : D := .b true
abbrev D.f : D := .b false
theorem pk {E : Env} {fn : Func} {bx : Option (Nat × List AV)} {w : World} {ro : Nat → Prop} {B : Nat} {rs : List RS} {bs : List AV} (k : Nat) (hF : Fr E (cx0 fn bx w ro B)) {s : List It} (ds : List D) (os : List OS) {σ : St} {c' : Option Prop} {p : PR} (h : path E (cx0 fn bx w ro B).n k s ds os σ none = some (p, c')) (hc : cp c') (hp : WP E (cx0 fn bx w ro B) (RetQ E fn bx rs bs w ro B) p) : WS E (cx0 fn bx w ro B) s σ (RetQ E fn bx rs bs w ro B) := path_ok hF (RetQ_mild _ _ _ _ _ _ _ _) h hc hp
end Go.Proofs.YtjkngiciigdheaaGreatDoorW.St
