/- Words: a walk by reckoning, and why it is right. -/
import Derived.RowKit
import Derived.Below
import Derived.Laws.AppendOwn
import Derived.Laws.BitsLemmas
import Derived.WalkKit
import Derived.WalkSpells
import Derived.WalkLawsBesides
import Derived.Laws.DeepStrings4
import Derived.Laws.Strings3
import Derived.WideLaws
import Derived.Test.YtjkngiciigdheaaGreatDoorKFW1
import Derived.Laws.MakeOwn
import Derived.Laws.OwnMore
import Derived.Laws.BytesString
import Derived.Laws.BytesArg
namespace Go.Proofs.YtjkngiciigdheaaGreatDoorW.St
open Go.RowKit

inductive AV where
 | v (x : Value)
 | bb (b : Bool)
 | er (b : Bool)
 | sl (sz : Nat) (xs : List (List AV))
 | rf (xs : List AV)
 | ag (xs : List AV)
 | tu (xs : List AV)
 | ow (id ver : Nat)
 | pt (id ver off : Nat)
 | ep (id ver : Nat) (i : Int) (off : Nat)
 | cl (f id ver : Nat)
 | dead
 deriving Inhabited
abbrev AV.i (z : Int) : AV := .v (.int .i64 z)

mutual
def rep (w : World) (ro : Nat → Prop) : AV → Value → Prop
 | .v x, u => u = x ∧ x.oneCell' = true
 | .bb b, u => u = .bool b
 | .er b, u => u.oneCell' = true ∧ ((u = .nilIface ∧ b = true) ∨ (b = false ∧ ∃ t x, u = .iface t x))
 | .sl sz xs, u => ∃ A c, u = .slice A xs.length c ∧ xs.length ≤ c ∧ c ≤ maxLen ∧ (0 < xs.length → ∃ b o, A = some ⟨b, o, none⟩ ∧ ro b ∧ repR w ro sz xs b o)
 | .rf xs, u => ∃ b o, u = .pointer (some ⟨b, o, none⟩) ∧ ro b ∧ repC w ro xs b o
 | .ag _, _ => False
 | .tu _, _ => False
 | .ow _ _, _ => False
 | .pt _ _ _, _ => False
 | .ep _ _ _ _, _ => False
 | .cl _ _ _, _ => False
 | .dead, _ => False
def repC (w : World) (ro : Nat → Prop) : List AV → Nat → Nat → Prop
 | [], _, _ => True
 | x :: xs, b, o => (∃ u, rep w ro x u ∧ w.cell? ⟨b, o, none⟩ = some u) ∧ repC w ro xs b (o + 1)
def repR (w : World) (ro : Nat → Prop) (sz : Nat) : List (List AV) → Nat → Nat → Prop
 | [], _, _ => True
 | x :: xs, b, o => (x.length = sz ∧ repC w ro x b o) ∧ repR w ro sz xs b (o + sz)
end
def repL (w : World) (ro : Nat → Prop) : List AV → List Value → Prop
 | [], us => us = []
 | x :: xs, us => ∃ u r, us = u :: r ∧ rep w ro x u ∧ repL w ro xs r
def repF (w : World) (ro : Nat → Prop) (sz : Nat) : List (List AV) → List Value → Prop
 | [], us => us = []
 | x :: xs, us => ∃ c r, us = c ++ r ∧ x.length = sz ∧ repL w ro x c ∧ repF w ro sz xs r

section
variable {w w' : World} {ro ro' : Nat → Prop}
mutual
theorem rep_mono (h : ∀ b, ro b → ro' b ∧ w'.heap[b]? = w.heap[b]?) : ∀ (x : AV) (u : Value), rep w ro x u → rep w' ro' x u
 | .v x, u, k => by simpa [rep] using k
 | .bb b, u, k => by simpa [rep] using k
 | .er b, u, k => by simpa [rep] using k
 | .sl sz xs, u, k => by
  simp only [rep] at k ⊢
  obtain ⟨A, c, h1, h2, h3, h4⟩ := k
  refine ⟨A, c, h1, h2, h3, fun h5 => ?_⟩
  obtain ⟨b, o, h6, h7, h8⟩ := h4 h5
  exact ⟨b, o, h6, (h b h7).1, repR_mono h sz xs b o h7 h8⟩
 | .rf xs, u, k => by
  simp only [rep] at k ⊢
  obtain ⟨b, o, h6, h7, h8⟩ := k
  exact ⟨b, o, h6, (h b h7).1, repC_mono h xs b o h7 h8⟩
 | .ag _, _, k => by simp [rep] at k
 | .tu _, _, k => by simp [rep] at k
 | .ow _ _, _, k => by simp [rep] at k
 | .pt _ _ _, _, k => by simp [rep] at k
 | .ep _ _ _ _, _, k => by simp [rep] at k
 | .cl _ _ _, _, k => by simp [rep] at k
 | .dead, _, k => by simp [rep] at k
theorem repC_mono (h : ∀ b, ro b → ro' b ∧ w'.heap[b]? = w.heap[b]?) : ∀ (xs : List AV) (b o : Nat), ro b → repC w ro xs b o → repC w' ro' xs b o
 | [], _, _, _, _ => by simp [repC]
 | x :: xs, b, o, hb, k => by
  simp only [repC] at k ⊢
  obtain ⟨⟨u, h1, h2⟩, h3⟩ := k
  exact ⟨⟨u, rep_mono h x u h1, by rw [World.cell?_of_block (h b hb).2]; exact h2⟩, repC_mono h xs b (o + 1) hb h3⟩
theorem repR_mono (h : ∀ b, ro b → ro' b ∧ w'.heap[b]? = w.heap[b]?) (sz : Nat) : ∀ (xs : List (List AV)) (b o : Nat), ro b → repR w ro sz xs b o → repR w' ro' sz xs b o
 | [], _, _, _, _ => by simp [repR]
 | x :: xs, b, o, hb, k => by
  simp only [repR] at k ⊢
  exact ⟨⟨k.1.1, repC_mono h x b o hb k.1.2⟩, repR_mono h sz xs b (o + sz) hb k.2⟩
end
theorem repL_mono (h : ∀ b, ro b → ro' b ∧ w'.heap[b]? = w.heap[b]?) : ∀ (xs : List AV) (us : List Value), repL w ro xs us → repL w' ro' xs us
 | [], _, k => k
 | x :: xs, us, k => by
  obtain ⟨u, r, h1, h2, h3⟩ := k
  exact ⟨u, r, h1, rep_mono h x u h2, repL_mono h xs r h3⟩
theorem repF_mono (h : ∀ b, ro b → ro' b ∧ w'.heap[b]? = w.heap[b]?) (sz : Nat) : ∀ (xs : List (List AV)) (us : List Value), repF w ro sz xs us → repF w' ro' sz xs us
 | [], _, k => k
 | x :: xs, us, k => by
  obtain ⟨c, r, h1, h0, h2, h3⟩ := k
  exact ⟨c, r, h1, h0, repL_mono h x c h2, repF_mono h sz xs r h3⟩
theorem rep_one : ∀ {x : AV} {u : Value}, rep w ro x u → u.oneCell' = true
 | .v x, u, k => by simp only [rep] at k; rw [k.1]; exact k.2
 | .bb b, u, k => by simp only [rep] at k; rw [k]; rfl
 | .er b, u, k => by simp only [rep] at k; exact k.1
 | .sl sz xs, u, k => by
  simp only [rep] at k
  obtain ⟨A, c, rfl, _⟩ := k
  rfl
 | .rf xs, u, k => by
  simp only [rep] at k
  obtain ⟨b, o, rfl, _⟩ := k
  rfl
 | .ag _, _, k => by simp [rep] at k
 | .tu _, _, k => by simp [rep] at k
 | .ow _ _, _, k => by simp [rep] at k
 | .pt _ _ _, _, k => by simp [rep] at k
 | .ep _ _ _ _, _, k => by simp [rep] at k
 | .cl _ _ _, _, k => by simp [rep] at k
 | .dead, _, k => by simp [rep] at k
theorem repL_len : ∀ {xs : List AV} {us : List Value}, repL w ro xs us → us.length = xs.length
 | [], _, k => by simp only [repL] at k; simp [k]
 | x :: xs, us, k => by
  obtain ⟨u, r, rfl, _, h⟩ := k
  simp [repL_len h]
theorem repL_one : ∀ {xs : List AV} {us : List Value}, repL w ro xs us → ∀ u ∈ us, u.oneCell' = true
 | [], _, k => by simp only [repL] at k; simp [k]
 | x :: xs, us, k => by
  obtain ⟨u, r, rfl, h1, h⟩ := k
  intro u' hu
  rcases List.mem_cons.1 hu with rfl | hu
  · exact rep_one h1
  · exact repL_one h u' hu
theorem repF_len {sz : Nat} : ∀ {xs : List (List AV)} {us : List Value}, repF w ro sz xs us → us.length = xs.length * sz
 | [], _, k => by simp only [repF] at k; simp [k]
 | x :: xs, us, k => by
  obtain ⟨c, r, rfl, h0, h1, h⟩ := k
  rw [List.length_append, repL_len h1, h0, repF_len h, List.length_cons, Nat.add_mul]
  omega
theorem repF_one {sz : Nat} : ∀ {xs : List (List AV)} {us : List Value}, repF w ro sz xs us → ∀ u ∈ us, u.oneCell' = true
 | [], _, k => by simp only [repF] at k; simp [k]
 | x :: xs, us, k => by
  obtain ⟨c, r, rfl, _, h1, h⟩ := k
  intro u hu
  rcases List.mem_append.1 hu with hu | hu
  · exact repL_one h1 u hu
  · exact repF_one h u hu
def AtC (w : World) (b o : Nat) (us : List Value) : Prop := ∀ j u, us[j]? = some u → w.cell? ⟨b, o + j, none⟩ = some u
theorem AtC.tail {b o : Nat} {u : Value} {us : List Value} (h : AtC w b o (u :: us)) : AtC w b (o + 1) us := fun j u' hj => by
 have := h (j + 1) u' (by simpa using hj)
 rwa [show o + (j + 1) = o + 1 + j by omega] at this
theorem AtC.drop {b o : Nat} {c r : List Value} (h : AtC w b o (c ++ r)) : AtC w b (o + c.length) r := fun j u hj => by
 have := h (c.length + j) u (by rw [List.getElem?_append_right (by omega)]; rw [show c.length + j - c.length = j by omega]; exact hj)
 rwa [show o + (c.length + j) = o + c.length + j by omega] at this
theorem AtC.left {b o : Nat} {c r : List Value} (h : AtC w b o (c ++ r)) : AtC w b o c := fun j u hj => by
 refine h j u ?_
 rw [List.getElem?_append_left (List.getElem?_eq_some_iff.1 hj).1]
 exact hj
theorem repC_of : ∀ {xs : List AV} {us : List Value} {b o : Nat}, repL w ro xs us → AtC w b o us → repC w ro xs b o
 | [], _, _, _, _, _ => by simp [repC]
 | x :: xs, us, b, o, k, h => by
  obtain ⟨u, r, rfl, h1, h2⟩ := k
  simp only [repC]
  exact ⟨⟨u, h1, by simpa using h 0 u rfl⟩, repC_of h2 h.tail⟩
theorem repR_of {sz : Nat} : ∀ {xs : List (List AV)} {us : List Value} {b o : Nat}, repF w ro sz xs us → AtC w b o us → repR w ro sz xs b o
 | [], _, _, _, _, _ => by simp [repR]
 | x :: xs, us, b, o, k, h => by
  obtain ⟨c, r, rfl, h0, h1, h2⟩ := k
  simp only [repR]
  refine ⟨⟨h0, repC_of h1 h.left⟩, repR_of h2 ?_⟩
  have := h.drop
  rwa [repL_len h1, h0] at this
theorem repL_of : ∀ {xs : List AV} {b o : Nat}, repC w ro xs b o → ∃ us, repL w ro xs us ∧ AtC w b o us
 | [], b, o, _ => ⟨[], by simp [repL], fun j u h => by simp at h⟩
 | x :: xs, b, o, k => by
  simp only [repC] at k
  obtain ⟨⟨u, h1, h2⟩, h3⟩ := k
  obtain ⟨us, h4, h5⟩ := repL_of h3
  refine ⟨u :: us, ⟨u, us, rfl, h1, h4⟩, fun j u' hj => ?_⟩
  cases j with
  | zero => simp at hj; subst hj; exact h2
  | succ j =>
   have := h5 j u' (by simpa using hj)
   rwa [show o + 1 + j = o + (j + 1) by omega] at this
theorem repF_of {sz : Nat} : ∀ {xs : List (List AV)} {b o : Nat}, repR w ro sz xs b o → ∃ us, repF w ro sz xs us ∧ AtC w b o us
 | [], b, o, _ => ⟨[], by simp [repF], fun j u h => by simp at h⟩
 | x :: xs, b, o, k => by
  simp only [repR] at k
  obtain ⟨⟨h0, h1⟩, h2⟩ := k
  obtain ⟨c, h3, h4⟩ := repL_of h1
  obtain ⟨r, h5, h6⟩ := repF_of h2
  refine ⟨c ++ r, ⟨c, r, rfl, h0, h3, h5⟩, fun j u hj => ?_⟩
  have hc := (repL_len h3).trans h0
  by_cases hlt : j < c.length
  · rw [List.getElem?_append_left hlt] at hj
    exact h4 j u hj
  · rw [List.getElem?_append_right (by omega)] at hj
    have := h6 (j - c.length) u hj
    rwa [show o + sz + (j - c.length) = o + j by omega] at this
theorem repR_get {sz : Nat} : ∀ {xs : List (List AV)} {b o i : Nat} {x : List AV}, repR w ro sz xs b o → xs[i]? = some x → x.length = sz ∧ repC w ro x b (o + i * sz)
 | [], _, _, _, _, _, h => by simp at h
 | y :: xs, b, o, 0, x, k, h => by
  simp only [repR] at k
  simp at h
  subst h
  simpa using k.1
 | y :: xs, b, o, i + 1, x, k, h => by
  simp only [repR] at k
  have := repR_get (i := i) k.2 (by simpa using h)
  rwa [show o + sz + i * sz = o + (i + 1) * sz by rw [Nat.add_mul]; omega] at this
theorem repR_drop {sz : Nat} : ∀ {xs : List (List AV)} {b o : Nat} (i : Nat), repR w ro sz xs b o → repR w ro sz (xs.drop i) b (o + i * sz)
 | xs, b, o, 0, k => by simpa using k
 | [], b, o, i + 1, _ => by simp [repR]
 | y :: xs, b, o, i + 1, k => by
  simp only [repR] at k
  have := repR_drop i k.2
  rw [List.drop_succ_cons, show o + (i + 1) * sz = o + sz + i * sz by rw [Nat.add_mul]; omega]
  exact this
theorem repR_take {sz : Nat} : ∀ {xs : List (List AV)} {b o : Nat} (i : Nat), repR w ro sz xs b o → repR w ro sz (xs.take i) b o
 | xs, b, o, 0, _ => by simp [repR]
 | [], b, o, i + 1, _ => by simp [repR]
 | y :: xs, b, o, i + 1, k => by
  simp only [repR, List.take_succ_cons] at k ⊢
  exact ⟨k.1, repR_take i k.2⟩
theorem repC_drop : ∀ {xs : List AV} {b o : Nat} (i : Nat), repC w ro xs b o → repC w ro (xs.drop i) b (o + i)
 | xs, b, o, 0, k => by simpa using k
 | [], b, o, i + 1, _ => by simp [repC]
 | y :: xs, b, o, i + 1, k => by
  simp only [repC] at k
  have := repC_drop i k.2
  rw [List.drop_succ_cons, show o + (i + 1) = o + 1 + i by omega]
  exact this
theorem repC_get {xs : List AV} {b o i : Nat} {x : AV} (k : repC w ro xs b o) (h : xs[i]? = some x) : ∃ u, rep w ro x u ∧ w.cell? ⟨b, o + i, none⟩ = some u := by
 have h1 := repC_drop i k
 rw [List.drop_eq_getElem_cons (List.getElem?_eq_some_iff.1 h).1] at h1
 simp only [repC] at h1
 rw [(List.getElem?_eq_some_iff.1 h).2] at h1
 exact h1.1
end

def look {α : Type} : List (Nat × α) → Nat → Option α
 | [], _ => none
 | (k, x) :: r, n => match Nat.beq k n with
  | true => some x
  | false => look r n
theorem look_same {α : Type} (k : Nat) (x : α) (r : List (Nat × α)) : look ((k, x) :: r) k = some x := by
 simp [look, Nat.beq_refl]
theorem look_other {α : Type} {k n : Nat} (x : α) (r : List (Nat × α)) (h : k ≠ n) : look ((k, x) :: r) n = look r n := by
 have : Nat.beq k n = false := by
  cases hb : Nat.beq k n
  · rfl
  · exact absurd (Nat.eq_of_beq_eq_true hb) h
 simp [look, this]

inductive Ent where
 | own (ver E sz : Nat) (xs : List (List AV))
 | froz (ver sz : Nat) (xs : List (List AV))
 | box (ver T : Nat) (x : Bool) (cs : List AV)
def Ent.ver : Ent → Nat
 | .own v _ _ _ => v
 | .froz v _ _ => v
 | .box v _ _ _ => v
def Ent.row : Ent → Bool
 | .box _ _ _ _ => false
 | _ => true
def Ent.same : Ent → Ent → Prop
 | .own _ _ sz _, .own _ _ sz' _ => sz = sz'
 | .own _ _ _ _, .froz _ _ _ => True
 | .froz _ _ _, .froz _ _ _ => True
 | .box _ _ _ _, .box _ _ _ _ => True
 | _, _ => False
theorem Ent.same_refl (e : Ent) : e.same e := by cases e <;> simp [Ent.same]
structure St where
 t : List (Nat × AV)
 m : List (Nat × Ent)
structure Gh where
 G : Nat → Value
 B : Nat → Nat

section
variable (w : World) (ro : Nat → Prop) (g : Gh) (m : List (Nat × Ent))
def cellR : AV → Value → Prop
 | .ow id ver, u => ∃ e, look m id = some e ∧ ver ≤ e.ver ∧ (ver = e.ver → e.row = true → u = g.G id)
 | .pt id ver off, u => ∃ e, look m id = some e ∧ ver ≤ e.ver ∧ (ver = e.ver → e.row = false → u = .pointer (some ⟨g.B id, off, none⟩))
 | .ep id ver i off, u => ∃ e, look m id = some e ∧ ver ≤ e.ver ∧ (ver = e.ver → ∀ v E sz xs, e = .own v E sz xs → ∃ blk n c, g.G id = .slice (some ⟨blk, 0, none⟩) n c ∧ u = .pointer (some ⟨blk, i.toNat * sz + off, none⟩))
 | .cl f id ver, u => ∃ e, look m id = some e ∧ ver ≤ e.ver ∧ (ver = e.ver → e.row = false → u = .func (.func f) #[] #[.pointer (some ⟨g.B id, 0, none⟩)])
 | .dead, _ => True
 | x, u => rep w ro x u
def cellsR : List AV → List Value → Prop
 | [], us => us = []
 | x :: xs, us => ∃ u r, us = u :: r ∧ cellR w ro g m x u ∧ cellsR xs r
def partR : AV → Value → Prop
 | .ag xs, u => ∃ us, u = .agg us.toArray ∧ cellsR w ro g m xs us
 | x, u => cellR w ro g m x u
def partsR : List AV → List Value → Prop
 | [], us => us = []
 | x :: xs, us => ∃ u r, us = u :: r ∧ partR w ro g m x u ∧ partsR xs r
def VR : AV → Value → Prop
 | .tu xs, u => ∃ us, u = .tuple us.toArray ∧ partsR w ro g m xs us
 | x, u => partR w ro g m x u
def blkOf (g : Gh) (id : Nat) : Ent → Option Nat
 | .own _ _ _ _ => (g.G id).ownBlock
 | .froz _ _ _ => none
 | .box _ _ _ _ => some (g.B id)
def entOk (base : Nat) (xb : Nat → Nat) (id : Nat) : Ent → Prop
 | .own _ E sz xs => 0 < sz ∧ ∃ us, repF w ro sz xs us ∧ w.ownsRow base E sz (g.G id) xs.length us
 | .froz _ sz xs => rep w ro (.sl sz xs) (g.G id)
 | .box _ T x cs => (x = false → base ≤ g.B id) ∧ (x = true → g.B id = xb id) ∧ ∃ us, cellsR w ro g m cs us ∧ w.heap[g.B id]? = some (.cells us.toArray T (0, 0))
structure Rel (base : Nat) (xb : Nat → Nat) : Prop where
 ent : ∀ id e, look m id = some e → entOk w ro g m base xb id e
 sep : ∀ id id' e e' b, id ≠ id' → look m id = some e → look m id' = some e' → blkOf g id e = some b → blkOf g id' e' ≠ some b
 nro : ∀ id e b, look m id = some e → blkOf g id e = some b → ¬ ro b
 rlt : ∀ b, ro b → b < w.heap.size
end

structure Cx where
 w0 : World
 ro0 : Nat → Prop
 xb : Nat → Nat
 ext : Nat → Prop
 n : Nat
structure Good (cx : Cx) (σ : St) (a : Act) (w : World) (ro : Nat → Prop) (g : Gh) : Prop where
 size : a.tmps.size = cx.n
 defs : a.defers = []
 tm : ∀ t x, look σ.t t = some x → VR w ro g σ.m x (a.tmps.getD t undef)
 rel : Rel w ro g σ.m cx.w0.heap.size cx.xb
 os : w.os = cx.w0.os
 tape : w.tape = cx.w0.tape
 output : w.output = cx.w0.output
 hsize : cx.w0.heap.size ≤ w.heap.size
 keep : ∀ k, k < cx.w0.heap.size → ¬ cx.ext k → w.heap[k]? = cx.w0.heap[k]?
 roin : ∀ b, cx.ro0 b → ro b
 rob : ∀ b, ro b → b < cx.w0.heap.size → cx.ro0 b
 xin : ∀ id v T cs, look σ.m id = some (.box v T true cs) → cx.ext (cx.xb id)

section
variable {w w' : World} {ro ro' : Nat → Prop} {g g' : Gh} {m m' : List (Nat × Ent)}
structure On (w w' : World) (ro ro' : Nat → Prop) (g g' : Gh) (m m' : List (Nat × Ent)) : Prop where
 ro : ∀ b, ro b → ro' b ∧ w'.heap[b]? = w.heap[b]?
 m : ∀ id e, look m id = some e → ∃ e', look m' id = some e' ∧ e.ver ≤ e'.ver ∧ (e.ver = e'.ver → e.same e' ∧ g'.G id = g.G id ∧ g'.B id = g.B id)
theorem cellR_on (h : On w w' ro ro' g g' m m') {x : AV} {u : Value} (k : cellR w ro g m x u) : cellR w' ro' g' m' x u := by
 cases x with
 | ow id ver =>
  obtain ⟨e, h1, h2, h3⟩ := k
  obtain ⟨e', h4, h5, h6⟩ := h.m id e h1
  refine ⟨e', h4, by omega, fun h7 h8 => ?_⟩
  obtain ⟨h9, h10, _⟩ := h6 (by omega)
  rw [h10]
  exact h3 (by omega) (by cases e <;> cases e' <;> simp_all [Ent.same, Ent.row])
 | pt id ver off =>
  obtain ⟨e, h1, h2, h3⟩ := k
  obtain ⟨e', h4, h5, h6⟩ := h.m id e h1
  refine ⟨e', h4, by omega, fun h7 h8 => ?_⟩
  obtain ⟨h9, _, h10⟩ := h6 (by omega)
  rw [h10]
  exact h3 (by omega) (by cases e <;> cases e' <;> simp_all [Ent.same, Ent.row])
 | ep id ver i off =>
  obtain ⟨e, h1, h2, h3⟩ := k
  obtain ⟨e', h4, h5, h6⟩ := h.m id e h1
  refine ⟨e', h4, by omega, fun h7 v E sz xs he => ?_⟩
  obtain ⟨h9, h10, _⟩ := h6 (by omega)
  subst he
  cases e with
  | own v0 E0 sz0 xs0 =>
   simp only [Ent.same] at h9
   subst h9
   rw [h10]
   exact h3 (by omega) v0 E0 _ xs0 rfl
  | froz _ _ _ => simp [Ent.same] at h9
  | box _ _ _ _ => simp [Ent.same] at h9
 | cl f id ver =>
  obtain ⟨e, h1, h2, h3⟩ := k
  obtain ⟨e', h4, h5, h6⟩ := h.m id e h1
  refine ⟨e', h4, by omega, fun h7 h8 => ?_⟩
  obtain ⟨h9, _, h10⟩ := h6 (by omega)
  rw [h10]
  exact h3 (by omega) (by cases e <;> cases e' <;> simp_all [Ent.same, Ent.row])
 | dead => trivial
 | v x => exact rep_mono h.ro _ _ k
 | bb b => exact rep_mono h.ro _ _ k
 | er b => exact rep_mono h.ro _ _ k
 | sl sz xs => exact rep_mono h.ro _ _ k
 | rf xs => exact rep_mono h.ro _ _ k
 | ag xs => exact rep_mono h.ro _ _ k
 | tu xs => exact rep_mono h.ro _ _ k
theorem cellsR_on (h : On w w' ro ro' g g' m m') : ∀ {xs : List AV} {us : List Value}, cellsR w ro g m xs us → cellsR w' ro' g' m' xs us
 | [], _, k => k
 | x :: xs, us, k => by
  obtain ⟨u, r, h1, h2, h3⟩ := k
  exact ⟨u, r, h1, cellR_on h h2, cellsR_on h h3⟩
theorem partR_on (h : On w w' ro ro' g g' m m') {x : AV} {u : Value} (k : partR w ro g m x u) : partR w' ro' g' m' x u := by
 cases x with
 | ag xs =>
  obtain ⟨us, h1, h2⟩ := k
  exact ⟨us, h1, cellsR_on h h2⟩
 | _ => simp only [partR] at k ⊢; exact cellR_on h k
theorem partsR_on (h : On w w' ro ro' g g' m m') : ∀ {xs : List AV} {us : List Value}, partsR w ro g m xs us → partsR w' ro' g' m' xs us
 | [], _, k => k
 | x :: xs, us, k => by
  obtain ⟨u, r, h1, h2, h3⟩ := k
  exact ⟨u, r, h1, partR_on h h2, partsR_on h h3⟩
theorem VR_on (h : On w w' ro ro' g g' m m') {x : AV} {u : Value} (k : VR w ro g m x u) : VR w' ro' g' m' x u := by
 cases x with
 | tu xs =>
  obtain ⟨us, h1, h2⟩ := k
  exact ⟨us, h1, partsR_on h h2⟩
 | _ => simp only [VR] at k ⊢; exact partR_on h k
theorem blk_lt {base : Nat} {xb : Nat → Nat} (h : Rel w ro g m base xb) {id : Nat} {e : Ent} {b : Nat} (he : look m id = some e) (hb : blkOf g id e = some b) : b < w.heap.size := by
 have := h.ent id e he
 cases e with
 | own v E sz xs =>
  obtain ⟨_, us, _, h2⟩ := this
  exact (h2.lt b hb).2
 | froz _ _ _ => simp [blkOf] at hb
 | box v T x cs =>
  obtain ⟨_, _, us, _, h2⟩ := this
  simp only [blkOf, Option.some.injEq] at hb
  subst hb
  exact (Array.getElem?_eq_some_iff.1 h2).1
end

theorem Good.updF {cx : Cx} {σ : St} {a : Act} {w w' : World} {ro ro' : Nat → Prop} {g g' : Gh} (h : Good cx σ a w ro g) (id : Nat) (e' : Ent) (blk : Option Nat)
 (hos : w'.os = w.os) (htape : w'.tape = w.tape) (hout : w'.output = w.output) (hsz : w.heap.size ≤ w'.heap.size)
 (hblk : ∀ b, blk = some b → (∃ e, look σ.m id = some e ∧ blkOf g id e = some b))
 (hsame : ∀ k, k < w.heap.size → blk ≠ some k → w'.heap[k]? = w.heap[k]?)
 (hG : ∀ i, i ≠ id → g'.G i = g.G i ∧ g'.B i = g.B i)
 (hver : ∀ e, look σ.m id = some e → e.ver ≤ e'.ver ∧ (e.ver = e'.ver → e.same e' ∧ g'.G id = g.G id ∧ g'.B id = g.B id))
 (hro : ∀ b, ro b → ro' b) (hro' : ∀ b, ro' b → b < w'.heap.size ∧ (ro b ∨ w.heap.size ≤ b ∨ ∃ e, look σ.m id = some e ∧ blkOf g id e = some b ∧ cx.w0.heap.size ≤ b))
 (hent : On w w' ro ro' g g' σ.m ((id, e') :: σ.m) → entOk w' ro' g' ((id, e') :: σ.m) cx.w0.heap.size cx.xb id e')
 (hnb : ∀ b, blkOf g' id e' = some b → ¬ ro' b ∧ ∀ i e, i ≠ id → look σ.m i = some e → blkOf g i e ≠ some b)
 (hx : ∀ v T cs, e' = .box v T true cs → cx.ext (cx.xb id))
 (hxb : ∀ b, blk = some b → b < cx.w0.heap.size → cx.ext b) :
 Good cx ⟨σ.t, (id, e') :: σ.m⟩ a w' ro' g' := by
 have hsameR : ∀ b, ro b → w'.heap[b]? = w.heap[b]? := fun b hb => by
  refine hsame b (h.rel.rlt b hb) (fun hbb => ?_)
  obtain ⟨e, h1, h2⟩ := hblk b hbb
  exact h.rel.nro id e b h1 h2 hb
 have hon : On w w' ro ro' g g' σ.m ((id, e') :: σ.m) := by
  refine ⟨fun b hb => ⟨hro b hb, hsameR b hb⟩, fun i e he => ?_⟩
  by_cases hi : id = i
  · subst hi
    exact ⟨e', look_same _ _ _, hver e he⟩
  · refine ⟨e, by rw [look_other _ _ hi]; exact he, Nat.le_refl _, fun _ => ⟨e.same_refl, hG i (fun h => hi h.symm)⟩⟩
 have hblkne : ∀ i e b, i ≠ id → look σ.m i = some e → blkOf g i e = some b → blk ≠ some b := fun i e b hi he hb hbb => by
  obtain ⟨e0, h1, h2⟩ := hblk b hbb
  exact h.rel.sep i id e e0 b hi he h1 hb h2
 have hblkg : ∀ i e, i ≠ id → blkOf g' i e = blkOf g i e := fun i e hi => by
  cases e <;> simp [blkOf, hG i hi]
 refine ⟨h.size, h.defs, fun t x ht => VR_on hon (h.tm t x ht), ⟨fun i e he => ?_, ?_, ?_, fun b hb => (hro' b hb).1⟩, hos.trans h.os, htape.trans h.tape, hout.trans h.output, Nat.le_trans h.hsize hsz, fun k hk hx => ?_, fun b hb => hro b (h.roin b hb), ?_, ?_⟩
 · by_cases hi : id = i
   · subst hi
     rw [look_same] at he
     cases he
     exact hent hon
   · rw [look_other _ _ hi] at he
     have hi' : i ≠ id := fun h => hi h.symm
     have h1 := h.rel.ent i e he
     cases e with
     | own v E sz xs =>
      obtain ⟨h2, us, h3, h4⟩ := h1
      refine ⟨h2, us, repF_mono hon.ro sz xs us h3, ?_⟩
      rw [(hG i hi').1]
      refine ⟨h4.1, ?_⟩
      rcases h4.2 with h5 | ⟨gg, cap, cur, h5, h6, h7, h8⟩
      · exact .inl h5
      · refine .inr ⟨gg, cap, cur, h5, h6, ?_, h8⟩
        rw [hsame gg (Array.getElem?_eq_some_iff.1 h7).1 (hblkne i _ gg hi' he (by simp [blkOf, h5, Value.ownBlock]))]
        exact h7
     | froz v sz xs =>
      simp only [entOk] at h1 ⊢
      rw [(hG i hi').1]
      exact rep_mono hon.ro _ _ h1
     | box v T x cs =>
      obtain ⟨h2, h3, us, h4, h5⟩ := h1
      refine ⟨by rw [(hG i hi').2]; exact h2, by rw [(hG i hi').2]; exact h3, us, cellsR_on hon h4, ?_⟩
      rw [(hG i hi').2, hsame _ (Array.getElem?_eq_some_iff.1 h5).1 (hblkne i _ _ hi' he (by simp [blkOf]))]
      exact h5
 · intro i j e1 e2 b hij h1 h2 h3 h4
   by_cases hi : id = i
   · subst hi
     rw [look_same] at h1
     cases h1
     have hj : id ≠ j := hij
     rw [look_other _ _ hj] at h2
     rw [hblkg j e2 (fun h => hj h.symm)] at h4
     exact (hnb b h3).2 j e2 (fun h => hj h.symm) h2 h4
   · rw [look_other _ _ hi] at h1
     rw [hblkg i e1 (fun h => hi h.symm)] at h3
     by_cases hj : id = j
     · subst hj
       rw [look_same] at h2
       cases h2
       exact (hnb b h4).2 i e1 (fun h => hi h.symm) h1 h3
     · rw [look_other _ _ hj] at h2
       rw [hblkg j e2 (fun h => hj h.symm)] at h4
       exact h.rel.sep i j e1 e2 b hij h1 h2 h3 h4
 · intro i e b he hb hrb
   by_cases hi : id = i
   · subst hi
     rw [look_same] at he
     cases he
     exact (hnb b hb).1 hrb
   · rw [look_other _ _ hi] at he
     rw [hblkg i e (fun h => hi h.symm)] at hb
     rcases (hro' b hrb).2 with h1 | h1 | ⟨e0, h1, h2, _⟩
     · exact h.rel.nro i e b he hb h1
     · have := blk_lt h.rel he hb
       omega
     · exact h.rel.sep i id e e0 b (fun h => hi h.symm) he h1 hb h2
 · rw [hsame k (Nat.lt_of_lt_of_le hk h.hsize) (fun hb => hx (hxb k hb hk))]
   exact h.keep k hk hx
 · intro b hb hlt
   rcases (hro' b hb).2 with h1 | h1 | ⟨_, _, _, h1⟩
   · exact h.rob b h1 hlt
   · have := h.hsize
     omega
   · omega
 · intro i v T cs he
   by_cases hi : id = i
   · subst hi
     rw [look_same] at he
     cases he
     exact hx v T cs rfl
   · rw [look_other _ _ hi] at he
     exact h.xin i v T cs he
theorem Good.upd {cx : Cx} {σ : St} {a : Act} {w w' : World} {ro ro' : Nat → Prop} {g g' : Gh} (h : Good cx σ a w ro g) (id : Nat) (e' : Ent) (blk : Option Nat)
 (hos : w'.os = w.os) (htape : w'.tape = w.tape) (hout : w'.output = w.output) (hsz : w.heap.size ≤ w'.heap.size)
 (hblk : ∀ b, blk = some b → (∃ e, look σ.m id = some e ∧ blkOf g id e = some b))
 (hsame : ∀ k, k < w.heap.size → blk ≠ some k → w'.heap[k]? = w.heap[k]?)
 (hG : ∀ i, i ≠ id → g'.G i = g.G i ∧ g'.B i = g.B i)
 (hver : ∀ e, look σ.m id = some e → e.ver ≤ e'.ver ∧ (e.ver = e'.ver → e.same e' ∧ g'.G id = g.G id ∧ g'.B id = g.B id))
 (hro : ∀ b, ro b → ro' b) (hro' : ∀ b, ro' b → b < w'.heap.size ∧ (ro b ∨ w.heap.size ≤ b ∨ ∃ e, look σ.m id = some e ∧ blkOf g id e = some b ∧ cx.w0.heap.size ≤ b))
 (hent : On w w' ro ro' g g' σ.m ((id, e') :: σ.m) → entOk w' ro' g' ((id, e') :: σ.m) cx.w0.heap.size cx.xb id e')
 (hnb : ∀ b, blkOf g' id e' = some b → ¬ ro' b ∧ (w.heap.size ≤ b ∨ ∃ e, look σ.m id = some e ∧ blkOf g id e = some b))
 (hx : ∀ v T cs, e' = .box v T true cs → cx.ext (cx.xb id))
 (hxb : ∀ b, blk = some b → b < cx.w0.heap.size → cx.ext b) :
 Good cx ⟨σ.t, (id, e') :: σ.m⟩ a w' ro' g' := by
 refine Good.updF h id e' blk hos htape hout hsz hblk hsame hG hver hro hro' hent (fun b hb => ⟨(hnb b hb).1, fun i e hi he hbb => ?_⟩) hx hxb
 rcases (hnb b hb).2 with h1 | ⟨e0, h1, h2⟩
 · have := blk_lt h.rel he hbb
   omega
 · exact h.rel.sep i id e e0 b hi he h1 hbb h2
theorem Good.grow {cx : Cx} {σ : St} {a : Act} {w w' : World} {ro ro' : Nat → Prop} {g : Gh} (h : Good cx σ a w ro g) (hos : w'.os = w.os) (htape : w'.tape = w.tape) (hout : w'.output = w.output) (hsz : w.heap.size ≤ w'.heap.size)
 (hsame : ∀ k, k < w.heap.size → w'.heap[k]? = w.heap[k]?) (hro : ∀ b, ro b → ro' b) (hro' : ∀ b, ro' b → b < w'.heap.size ∧ (ro b ∨ w.heap.size ≤ b)) : Good cx σ a w' ro' g := by
 have hon : On w w' ro ro' g g σ.m σ.m := ⟨fun b hb => ⟨hro b hb, hsame b (h.rel.rlt b hb)⟩, fun i e he => ⟨e, he, Nat.le_refl _, fun _ => ⟨e.same_refl, rfl, rfl⟩⟩⟩
 refine ⟨h.size, h.defs, fun t x ht => VR_on hon (h.tm t x ht), ⟨fun i e he => ?_, h.rel.sep, fun i e b he hb hrb => ?_, fun b hb => (hro' b hb).1⟩, hos.trans h.os, htape.trans h.tape, hout.trans h.output, Nat.le_trans h.hsize hsz, fun k hk hx => ?_, fun b hb => hro b (h.roin b hb), fun b hb hlt => ?_, h.xin⟩
 · have h1 := h.rel.ent i e he
   cases e with
   | own v E sz xs =>
    obtain ⟨h2, us, h3, h4⟩ := h1
    refine ⟨h2, us, repF_mono hon.ro sz xs us h3, h4.1, ?_⟩
    rcases h4.2 with h5 | ⟨gg, cap, cur, h5, h6, h7, h8⟩
    · exact .inl h5
    · refine .inr ⟨gg, cap, cur, h5, h6, ?_, h8⟩
      rw [hsame gg (Array.getElem?_eq_some_iff.1 h7).1]
      exact h7
   | froz v sz xs => exact rep_mono hon.ro _ _ h1
   | box v T x cs =>
    obtain ⟨h2, h3, us, h4, h5⟩ := h1
    refine ⟨h2, h3, us, cellsR_on hon h4, ?_⟩
    rw [hsame _ (Array.getElem?_eq_some_iff.1 h5).1]
    exact h5
 · have := blk_lt h.rel he hb
   rcases (hro' b hrb).2 with h1 | h1
   · exact h.rel.nro i e b he hb h1
   · omega
 · rw [hsame k (Nat.lt_of_lt_of_le hk h.hsize)]
   exact h.keep k hk hx
 · rcases (hro' b hb).2 with h1 | h1
   · exact h.rob b h1 hlt
   · have := h.hsize
     omega

inductive TK where
 | int (k : IntKind) | bool | str | slice (e : Nat) | strct (fs : List (Nat × Nat)) | ptr (e : Nat) | ifc | arr (n e : Nat) | mp (k e : Nat) | other
structure Ty where
 k : TK
 size : Nat
 bytes : Nat
 z : Value
def tk : TypeDesc → TK
 | .int k => .int k
 | .bool => .bool
 | .string => .str
 | .slice e => .slice e
 | .struct fs => .strct (fs.toList.map fun f => (f.offset, f.type))
 | .pointer e => .ptr e
 | .interface _ => .ifc
 | .array n e => .arr n e
 | .map k e => .mp k e
 | _ => .other
def TyOk (P : Program) (t : Nat) (y : Ty) : Prop :=
 (P.info? t).map (fun i => (i.size, i.bytes, i.zero)) = some (y.size, y.bytes, some y.z) ∧ (P.underlying t).map tk = some y.k
def TOk (P : Program) (T : List (Nat × Ty)) : Prop := ∀ t y, look T t = some y → TyOk P t y
theorem TOk.nil (P : Program) : TOk P [] := fun _ _ h => by simp [look] at h
theorem TOk.cons {P : Program} {T : List (Nat × Ty)} (t : Nat) (y : Ty) (h1 : (P.info? t).map (fun i => (i.size, i.bytes, i.zero)) = some (y.size, y.bytes, some y.z)) (h2 : (P.underlying t).map tk = some y.k) (h : TOk P T) : TOk P ((t, y) :: T) := fun t' y' hl => by
 by_cases ht : t = t'
 · subst ht
   rw [look_same] at hl
   cases hl
   exact ⟨h1, h2⟩
 · rw [look_other _ _ ht] at hl
   exact h t' y' hl
section
variable {P : Program} {t : Nat} {y : Ty}
theorem TyOk.info (h : TyOk P t y) : ∃ i, P.info? t = some i ∧ i.size = y.size ∧ i.bytes = y.bytes ∧ i.zero = some y.z := by
 obtain ⟨i, h1, h2⟩ := Option.map_eq_some_iff.1 h.1
 simp only [Prod.mk.injEq] at h2
 exact ⟨i, h1, h2.1, h2.2.1, h2.2.2⟩
theorem TyOk.under (h : TyOk P t y) : ∃ d, P.underlying t = some d ∧ tk d = y.k := Option.map_eq_some_iff.1 h.2
theorem TyOk.slice {e : Nat} (h : TyOk P t y) (k : y.k = .slice e) : P.underlying t = some (.slice e) := by
 obtain ⟨d, h1, h2⟩ := h.under
 rw [k] at h2
 cases d <;> simp_all [tk]
theorem TyOk.str (h : TyOk P t y) (k : y.k = .str) : P.underlying t = some .string := by
 obtain ⟨d, h1, h2⟩ := h.under
 rw [k] at h2
 cases d <;> simp_all [tk]
theorem TyOk.int {kk : IntKind} (h : TyOk P t y) (k : y.k = .int kk) : P.underlying t = some (.int kk) := by
 obtain ⟨d, h1, h2⟩ := h.under
 rw [k] at h2
 cases d <;> simp_all [tk]
theorem TyOk.arr {n e : Nat} (h : TyOk P t y) (k : y.k = .arr n e) : P.underlying t = some (.array n e) := by
 obtain ⟨d, h1, h2⟩ := h.under
 rw [k] at h2
 cases d <;> simp_all [tk]
theorem TyOk.ptr {e : Nat} (h : TyOk P t y) (k : y.k = .ptr e) : P.underlying t = some (.pointer e) := by
 obtain ⟨d, h1, h2⟩ := h.under
 rw [k] at h2
 cases d <;> simp_all [tk]
theorem TyOk.ifc (h : TyOk P t y) (k : y.k = .ifc) : ∃ ms, P.underlying t = some (.interface ms) := by
 obtain ⟨d, h1, h2⟩ := h.under
 rw [k] at h2
 cases d <;> simp_all [tk]
theorem TyOk.strct {fs : List (Nat × Nat)} (h : TyOk P t y) (k : y.k = .strct fs) : ∃ fields, P.underlying t = some (.struct fields) ∧ fields.toList.map (fun f => (f.offset, f.type)) = fs := by
 obtain ⟨d, h1, h2⟩ := h.under
 rw [k] at h2
 cases d with
 | struct f => simp only [tk, TK.strct.injEq] at h2; exact ⟨f, h1, h2⟩
 | _ => simp [tk] at h2
end

def St.get (σ : St) (t : Nat) : AV := match look σ.t t with
 | some x => x
 | none => .dead
def ofc : Value → AV
 | .nilIface => .er true
 | u => match u.oneCell' with
  | true => .v u
  | false => .dead
def oget (σ : St) : Operand → AV
 | .tmp t => σ.get t
 | .const u => ofc u
 | .func f => .v (.func (.func f) #[] #[])
 | _ => .dead
theorem VR_dead {w : World} {ro : Nat → Prop} {g : Gh} {m : List (Nat × Ent)} {u : Value} : VR w ro g m .dead u := trivial
theorem VR_v {w : World} {ro : Nat → Prop} {g : Gh} {m : List (Nat × Ent)} {u : Value} (h : u.oneCell' = true) : VR w ro g m (.v u) u := ⟨rfl, h⟩
theorem VR_bb {w : World} {ro : Nat → Prop} {g : Gh} {m : List (Nat × Ent)} {b : Bool} : VR w ro g m (.bb b) (.bool b) := rfl
theorem VR_ofc {w : World} {ro : Nat → Prop} {g : Gh} {m : List (Nat × Ent)} (u : Value) : VR w ro g m (ofc u) u := by
 unfold ofc
 split
 · exact ⟨rfl, .inl ⟨rfl, rfl⟩⟩
 · split
   · exact VR_v (by assumption)
   · exact VR_dead
section
variable {P : Program} {cx : Cx} {σ : St} {a : Act} {w : World} {ro : Nat → Prop} {g : Gh}
theorem Good.og (h : Good cx σ a w ro g) (x : Operand) : VR w ro g σ.m (oget σ x) (a.eval x) := by
 cases x with
 | tmp t =>
  show VR w ro g σ.m (σ.get t) _
  unfold St.get
  cases ht : look σ.t t with
  | none => exact VR_dead
  | some y => exact h.tm t y ht
 | const u => exact VR_ofc u
 | global _ => exact VR_dead
 | func _ => exact VR_v rfl
def sc : AV → Option Value
 | .v u => some u
 | .bb b => some (.bool b)
 | _ => none
theorem VR_sc {m : List (Nat × Ent)} {x : AV} {u v : Value} (h : VR w ro g m x v) (k : sc x = some u) : v = u ∧ u.oneCell' = true := by
 cases x with
 | v y => simp only [sc, Option.some.injEq] at k; subst k; exact ⟨h.1, h.2⟩
 | bb b => simp only [sc, Option.some.injEq] at k; subst k; exact ⟨h, rfl⟩
 | _ => simp [sc] at k
theorem Good.sv (h : Good cx σ a w ro g) {x : Operand} {u : Value} (k : sc (oget σ x) = some u) : a.eval x = u ∧ u.oneCell' = true := VR_sc (h.og x) k
theorem VR_of_sc {m : List (Nat × Ent)} {u : Value} (h : u.oneCell' = true) : VR w ro g m (.v u) u := VR_v h
def PV (P : Program) (σ : St) (op : Op) (x : AV) : Prop := ∀ (cx : Cx) (a : Act) (w : World) (ro : Nat → Prop) (g : Gh) (o : Oper), Good cx σ a w ro g → o.op = op →
 ∃ v, (∀ w', (execOp a.eval o).run P w' = .ok (.value v) w') ∧ VR w ro g σ.m x v
theorem PV.move (x : Operand) : PV P σ (.move x) (oget σ x) := fun cx a w ro g o h ho => ⟨a.eval x, fun w' => by simp [execOp, ho], h.og x⟩
theorem PV.assign (x : Operand) : PV P σ (.assign x) (oget σ x) := fun cx a w ro g o h ho => ⟨a.eval x, fun w' => by simp [execOp, ho], h.og x⟩
theorem PV.pick (c x y : Operand) (b : Bool) (k : St.sc (St.oget σ c) = some (.bool b)) : PV P σ (.pick c x y) (match b with | true => St.oget σ x | false => St.oget σ y) := by
 intro cx a w ro g o h ho
 have hc := (h.sv k).1
 cases b with
 | true => exact ⟨a.eval x, fun w' => by simp [execOp, ho, hc, asBool], h.og x⟩
 | false => exact ⟨a.eval y, fun w' => by simp [execOp, ho, hc, asBool], h.og y⟩
theorem partsR_get {m : List (Nat × Ent)} : ∀ {xs : List AV} {us : List Value} {i : Nat} {x : AV}, partsR w ro g m xs us → xs[i]? = some x → ∃ u, us[i]? = some u ∧ partR w ro g m x u
 | [], _, _, _, _, h => by simp at h
 | y :: xs, us, 0, x, k, h => by
  obtain ⟨u, r, rfl, h1, h2⟩ := k
  simp at h
  subst h
  exact ⟨u, rfl, h1⟩
 | y :: xs, us, i + 1, x, k, h => by
  obtain ⟨u, r, rfl, h1, h2⟩ := k
  obtain ⟨u', h3, h4⟩ := partsR_get (i := i) h2 (by simpa using h)
  exact ⟨u', by simpa using h3, h4⟩
theorem partR_VR {m : List (Nat × Ent)} {x : AV} {u : Value} (h : partR w ro g m x u) : VR w ro g m x u := by
 cases x with
 | tu xs => simp [partR, cellR, rep] at h
 | _ => exact h
theorem VR_partR {m : List (Nat × Ent)} {x : AV} {u : Value} (h : VR w ro g m x u) (hx : ∀ xs, x ≠ .tu xs) : partR w ro g m x u := by
 cases x with
 | tu xs => exact absurd rfl (hx xs)
 | _ => exact h
theorem PV.extract (t : Operand) (i : Nat) (xs : List AV) (x : AV) (k : St.oget σ t = .tu xs) (hx : xs[i]? = some x) : PV P σ (.extract t i) x := fun cx a w ro g o h ho => by
 have h1 := h.og t
 rw [k] at h1
 obtain ⟨us, h2, h3⟩ := h1
 obtain ⟨u, h4, h5⟩ := partsR_get h3 hx
 exact ⟨u, fun w' => by simp [execOp, ho, h2, Instr.extract, h4], partR_VR h5⟩

def keq : IntKind → IntKind → Bool
 | .i8, .i8 => true | .i16, .i16 => true | .i32, .i32 => true | .i64, .i64 => true
 | .u8, .u8 => true | .u16, .u16 => true | .u32, .u32 => true | .u64, .u64 => true
 | _, _ => false
theorem keq_eq {j k : IntKind} (h : keq j k = true) : j = k := by cases j <;> cases k <;> simp_all [keq]
def wr (k : IntKind) (n : Int) : Int := match k with
 | .i64 => wrap64 n
 | .u8 => n % 256
 | k => k.wrap n
theorem wr_eq (k : IntKind) (n : Int) : k.wrap n = wr k n := by
 cases k <;> first | (simp only [wr]; unfold wrap64; exact IntKind.wrap_i64 n) | exact IntKind.wrap_u8 n | rfl

def cp : Option Prop → Prop
 | none => True
 | some p => p
def abin : BinOp → Value → Value → Option (Value × Option Prop)
 | .add, .int k a, .int k' b => match keq k k' with | true => some (.int k (wr k (a + b)), none) | false => none
 | .sub, .int k a, .int k' b => match keq k k' with | true => some (.int k (wr k (a - b)), none) | false => none
 | .mul, .int k a, .int k' b => match keq k k' with | true => some (.int k (wr k (a * b)), none) | false => none
 | .quo, .int k a, .int k' b => match keq k k' with | true => some (.int k (wr k (a.tdiv b)), some (b ≠ 0)) | false => none
 | .rem, .int k a, .int k' b => match keq k k' with | true => some (.int k (a.tmod b), some (b ≠ 0)) | false => none
 | .xor, .int k a, .int k' b => match keq k k' with | true => some (.int k (bits .xor k a b), none) | false => none
 | .eql, .int k a, .int k' b => match keq k k' with | true => some (.bool (a == b), none) | false => none
 | .neq, .int k a, .int k' b => match keq k k' with | true => some (.bool (a != b), none) | false => none
 | .lss, .int k a, .int k' b => match keq k k' with | true => some (.bool (decide (a < b)), none) | false => none
 | .leq, .int k a, .int k' b => match keq k k' with | true => some (.bool (decide (a ≤ b)), none) | false => none
 | .gtr, .int k a, .int k' b => match keq k k' with | true => some (.bool (decide (b < a)), none) | false => none
 | .geq, .int k a, .int k' b => match keq k k' with | true => some (.bool (decide (b ≤ a)), none) | false => none
 | .add, .string a, .string b => some (.string (a ++ b), some (a.size + b.size ≤ 9223372036854775807))
 | .eql, .string a, .string b => some (.bool (a.toList == b.toList), none)
 | .neq, .string a, .string b => some (.bool (a.toList != b.toList), none)
 | .lss, .string a, .string b => some (.bool (Op.bytesLess a.toList b.toList), none)
 | .leq, .string a, .string b => some (.bool (Op.bytesLess a.toList b.toList || a.toList == b.toList), none)
 | .gtr, .string a, .string b => some (.bool (!(Op.bytesLess a.toList b.toList || a.toList == b.toList)), none)
 | .geq, .string a, .string b => some (.bool (!Op.bytesLess a.toList b.toList), none)
 | .eql, .bool a, .bool b => some (.bool (a == b), none)
 | .neq, .bool a, .bool b => some (.bool (a != b), none)
 | _, _, _ => none
theorem abin_run {op : BinOp} {u v r : Value} {c : Option Prop} (h : abin op u v = some (r, c)) (hc : cp c) (t : TypeId) (x y : Operand) (w : World) (ht : ∀ b b', u = .bool b → v = .bool b' → P.underlying t = some .bool) :
 (do eqGuard op t x y u v; binOp op t u v : Sem Value).run P w = .ok r w ∧ r.oneCell' = true := by
 unfold abin at h
 split at h
 case h_20 a b =>
  simp only [Option.some.injEq, Prod.mk.injEq] at h
  obtain ⟨rfl, rfl⟩ := h
  have := ht _ _ rfl rfl
  exact ⟨by simp [eqGuard_at_bool, run_eql_bool _ _ _ _ this], rfl⟩
 case h_21 a b =>
  simp only [Option.some.injEq, Prod.mk.injEq] at h
  obtain ⟨rfl, rfl⟩ := h
  have := ht _ _ rfl rfl
  exact ⟨by simp [eqGuard_at_bool, run_neq_bool _ _ _ _ this]; cases a <;> cases b <;> rfl, rfl⟩
 case h_22 => cases h
 case h_13 =>
  simp only [Option.some.injEq, Prod.mk.injEq] at h
  obtain ⟨rfl, rfl⟩ := h
  refine ⟨?_, rfl⟩
  simp [eqGuard_at_string, binOp, run_string_add_sum _ _ _ (show _ ≤ _ from hc)]
 all_goals first
  | (split at h
     · rename_i hk
       simp only [Option.some.injEq, Prod.mk.injEq] at h
       obtain ⟨rfl, rfl⟩ := h
       have hk := keq_eq hk
       subst hk
       simp only [cp] at hc
       refine ⟨?_, rfl⟩
       simp [eqGuard_at_int, binOp, Op.intArith, Op.intCmp, Op.intDiv, Op.intBits, wr_eq, bits, *]
     · cases h)
  | (simp only [Option.some.injEq, Prod.mk.injEq] at h
     obtain ⟨rfl, rfl⟩ := h
     refine ⟨?_, rfl⟩
     simp [eqGuard_at_string, binOp, Op.stringOp, bne])
end
end Go.Proofs.YtjkngiciigdheaaGreatDoorW.St
namespace Go.Proofs.YtjkngiciigdheaaGreatDoorW.St
open Go.RowKit
set_option linter.unusedSimpArgs false
set_option linter.unusedVariables false
theorem eval_const (a : Act) (v : Value) : a.eval (.const v) = v := rfl
open Go.Proofs.YtjkngiciigdheaaGreatDoorW.PrintWords (bt)
section
variable {P : Program} {σ : St} {T : List (Nat × Ty)}
theorem PV.bin {op : BinOp} {t t' : Nat} {x y : Operand} {u v r : Value} {c : Option Prop} (hu : sc (oget σ x) = some u) (hv : sc (oget σ y) = some v) (h : abin op u v = some (r, c)) (hc : cp c)
 (ht : ∀ b b', u = .bool b → v = .bool b' → P.underlying t = some .bool) : PV P σ (.binOp op t x y t') (.v r) := by
 intro cx a w ro g o hg ho
 have h1 := (hg.sv hu).1
 have h2 := (hg.sv hv).1
 refine ⟨r, fun w' => ?_, VR_v (abin_run h hc t x y w ht).2⟩
 have h3 := (abin_run (P := P) h hc t x y w' ht).1
 simp only [execOp, ho, h1, h2]
 simp only [Sem.run_bind] at h3 ⊢
 rw [h3]
 rfl
theorem PV.not {t : Nat} {x : Operand} {b : Bool} (hu : oget σ x = .v (.bool b)) : PV P σ (.unOp .not t x) (.v (.bool (!b))) := by
 intro cx a w ro g o hg ho
 have h1 := (hg.sv (x := x) (u := .bool b) (by rw [hu]; rfl)).1
 exact ⟨.bool (!b), fun w' => by simp [execOp, ho, h1, Op.unary], VR_v rfl⟩
theorem PV.notb {t : Nat} {x : Operand} {b : Bool} (hu : oget σ x = .bb b) : PV P σ (.unOp .not t x) (.bb (!b)) := by
 intro cx a w ro g o hg ho
 have h1 := (hg.sv (x := x) (u := .bool b) (by rw [hu]; rfl)).1
 exact ⟨.bool (!b), fun w' => by simp [execOp, ho, h1, Op.unary], VR_bb⟩
theorem PV.neg {t : Nat} {x : Operand} {k : IntKind} {n : Int} (hu : oget σ x = .v (.int k n)) : PV P σ (.unOp .neg t x) (.v (.int k (wr k (-n)))) := by
 intro cx a w ro g o hg ho
 have h1 := (hg.sv (x := x) (u := .int k n) (by rw [hu]; rfl)).1
 exact ⟨.int k (wr k (-n)), fun w' => by simp [execOp, ho, h1, Op.unary, Op.intArith, wr_eq], VR_v rfl⟩
theorem PV.bbv {op : Op} {b : Bool} (h : PV P σ op (.bb b)) : PV P σ op (.v (.bool b)) := fun cx a w ro g o hg ho => by
 obtain ⟨v, h1, h2⟩ := h cx a w ro g o hg ho
 exact ⟨v, h1, (show v = .bool b ∧ _ from ⟨h2, rfl⟩)⟩
theorem PV.errEq {t t' : Nat} {x : Operand} {b : Bool} {ms : Array (String × TypeId)} (ht : P.underlying t = some (.interface ms)) (hu : oget σ x = .er b) : PV P σ (.binOp .eql t x (.const .nilIface) t') (.bb b) := by
 intro cx a w ro g o hg ho
 have h1 := hg.og x
 rw [hu] at h1
 obtain ⟨_, h2⟩ := h1
 have hi : P.underlying t = some (.interface (P.methodsAt t)) := by simp [Program.methodsAt, ht]
 rcases h2 with ⟨h3, rfl⟩ | ⟨rfl, tt, z, h3⟩
 · exact ⟨.bool true, fun w' => by simp [execOp, ho, h3, eval_const, eqGuard_nil_constR, run_eql_nil_nil _ _ hi], VR_bb⟩
 · exact ⟨.bool false, fun w' => by simp [execOp, ho, h3, eval_const, eqGuard_at_iface, run_eql_held_nil _ _ _ _ hi], VR_bb⟩
theorem PV.errNe {t t' : Nat} {x : Operand} {b : Bool} {ms : Array (String × TypeId)} (ht : P.underlying t = some (.interface ms)) (hu : oget σ x = .er b) : PV P σ (.binOp .neq t x (.const .nilIface) t') (.bb (!b)) := by
 intro cx a w ro g o hg ho
 have h1 := hg.og x
 rw [hu] at h1
 obtain ⟨_, h2⟩ := h1
 have hi : P.underlying t = some (.interface (P.methodsAt t)) := by simp [Program.methodsAt, ht]
 rcases h2 with ⟨h3, rfl⟩ | ⟨rfl, tt, z, h3⟩
 · exact ⟨.bool false, fun w' => by simp [execOp, ho, h3, eval_const, eqGuard_nil_constR, run_neq_nil_nil _ _ hi], VR_bb⟩
 · exact ⟨.bool true, fun w' => by simp [execOp, ho, h3, eval_const, eqGuard_at_iface, run_neq_held_nil _ _ _ _ hi], VR_bb⟩
theorem PV.conv {src dst : Nat} {x : Operand} {k kd : IntKind} {n : Int} (hs : (P.underlying src).isSome = true) (hd : P.underlying dst = some (.int kd)) (hu : oget σ x = .v (.int k n)) : PV P σ (.convert src dst x) (.v (.int kd (wr kd n))) := by
 intro cx a w ro g o hg ho
 have h1 := (hg.sv (x := x) (u := .int k n) (by rw [hu]; rfl)).1
 obtain ⟨d, hd'⟩ := Option.isSome_iff_exists.mp hs
 exact ⟨.int kd (wr kd n), fun w' => by simp [execOp, ho, h1, convert, run_underlying hd', run_underlying hd, Conv.intToInt, wr_eq], VR_v rfl⟩
theorem PV.convS {src dst : Nat} {x : Operand} {s : ByteArray} (hs : P.underlying src = some .string) (hd : P.underlying dst = some .string) (hu : oget σ x = .v (.string s)) : PV P σ (.convert src dst x) (.v (.string s)) := by
 intro cx a w ro g o hg ho
 have h1 := (hg.sv (x := x) (u := .string s) (by rw [hu]; rfl)).1
 exact ⟨.string s, fun w' => by simp [execOp, ho, h1, convert, run_underlying hs, run_underlying hd], VR_v rfl⟩
theorem PV.indexS {t : Nat} {x i : Operand} {s : ByteArray} {k : IntKind} {n : Int} (ht : P.underlying t = some .string) (hx : oget σ x = .v (.string s)) (hi : oget σ i = .v (.int k n)) (h0 : 0 ≤ n) (h1 : n < (s.size : Int)) : PV P σ (.index t x i) (.v (.int .u8 (bt s n))) := by
 intro cx a w ro g o hg ho
 have e1 := (hg.sv (x := x) (u := .string s) (by rw [hx]; rfl)).1
 have e2 := (hg.sv (x := i) (u := .int k n) (by rw [hi]; rfl)).1
 have h3 : n.toNat < s.size := by omega
 refine ⟨.int .u8 (bt s n), fun w' => ?_, VR_v rfl⟩
 simp [execOp, ho, e1, e2, Instr.index, asIntOf, run_underlying ht, h0, h3, bt]
theorem PV.sliceS {t : Nat} {x l h : Operand} {s : ByteArray} {k k' : IntKind} {i j : Int} (ht : P.underlying t = some .string) (hx : oget σ x = .v (.string s)) (hl : oget σ l = .v (.int k i)) (hh : oget σ h = .v (.int k' j)) (h0 : 0 ≤ i) (h1 : i ≤ j) (h2 : j ≤ (s.size : Int)) :
 PV P σ (.slice t x (some l) (some h) none) (.v (.string (s.extract i.toNat j.toNat))) := by
 intro cx a w ro g o hg ho
 have e1 := (hg.sv (x := x) (u := .string s) (by rw [hx]; rfl)).1
 have e2 := (hg.sv (x := l) (u := .int k i) (by rw [hl]; rfl)).1
 have e3 := (hg.sv (x := h) (u := .int k' j) (by rw [hh]; rfl)).1
 exact ⟨_, fun w' => by simp [execOp, ho, e1, e2, e3, run_sliceAt_string _ _ _ _ _ _ ht, run_slice_string _ _ _ _ _ _ _ ht h0 h1 h2], VR_v rfl⟩
theorem PV.sliceSl {t : Nat} {x l : Operand} {s : ByteArray} {k : IntKind} {i : Int} (ht : P.underlying t = some .string) (hx : oget σ x = .v (.string s)) (hl : oget σ l = .v (.int k i)) (h0 : 0 ≤ i) (h1 : i ≤ (s.size : Int)) :
 PV P σ (.slice t x (some l) none none) (.v (.string (s.extract i.toNat s.size))) := by
 intro cx a w ro g o hg ho
 have e1 := (hg.sv (x := x) (u := .string s) (by rw [hx]; rfl)).1
 have e2 := (hg.sv (x := l) (u := .int k i) (by rw [hl]; rfl)).1
 exact ⟨_, fun w' => by simp [execOp, ho, e1, e2, run_sliceAt_string _ _ _ _ _ _ ht, run_slice_string_l _ _ _ ht _ _ h0 h1], VR_v rfl⟩
theorem PV.sliceSh {t : Nat} {x h : Operand} {s : ByteArray} {k : IntKind} {j : Int} (ht : P.underlying t = some .string) (hx : oget σ x = .v (.string s)) (hh : oget σ h = .v (.int k j)) (h0 : 0 ≤ j) (h1 : j ≤ (s.size : Int)) :
 PV P σ (.slice t x none (some h) none) (.v (.string (s.extract 0 j.toNat))) := by
 intro cx a w ro g o hg ho
 have e1 := (hg.sv (x := x) (u := .string s) (by rw [hx]; rfl)).1
 have e2 := (hg.sv (x := h) (u := .int k j) (by rw [hh]; rfl)).1
 exact ⟨_, fun w' => by simp [execOp, ho, e1, e2, run_sliceAt_string _ _ _ _ _ _ ht, run_slice_string_h _ _ _ ht _ _ h0 h1], VR_v rfl⟩
theorem PV.lenS {t : Nat} {x : Operand} {s : ByteArray} (ht : P.underlying t = some .string) (hx : oget σ x = .v (.string s)) : PV P σ (.call { callee := .builtin .len, args := #[x], argTypes := #[t] }) (.v (.int .i64 s.size)) := by
 intro cx a w ro g o hg ho
 have e1 := (hg.sv (x := x) (u := .string s) (by rw [hx]; rfl)).1
 exact ⟨.int .i64 s.size, fun w' => by simp [execOp, ho, e1, resolve, invoke, builtin, Builtin.len_, run_underlying ht, goInt], VR_v rfl⟩
theorem PV.lenN {t e n c : Nat} {A : Option Addr} {x : Operand} (ht : P.underlying t = some (.slice e)) (hx : ∀ cx a w ro g, Good cx σ a w ro g → ∃ A c, a.eval x = .slice A n c) : PV P σ (.call { callee := .builtin .len, args := #[x], argTypes := #[t] }) (.v (.int .i64 n)) := by
 intro cx a w ro g o hg ho
 obtain ⟨A, c, e1⟩ := hx cx a w ro g hg
 exact ⟨.int .i64 n, fun w' => by simp [execOp, ho, e1, resolve, invoke, builtin, Builtin.len_, run_underlying ht, goInt], VR_v rfl⟩
theorem own_hdr {w : World} {ro : Nat → Prop} {g : Gh} {m : List (Nat × Ent)} {base : Nat} {xb : Nat → Nat} (h : Rel w ro g m base xb) {id v E sz : Nat} {xs : List (List AV)} (k : look m id = some (.own v E sz xs)) : ∃ A c, g.G id = .slice A xs.length c := by
 obtain ⟨_, us, _, h2⟩ := h.ent id _ k
 rcases h2.2 with ⟨h3, h4⟩ | ⟨b, cap, cur, h3, _⟩
 · exact ⟨none, 0, by rw [h3, h4]⟩
 · exact ⟨_, _, h3⟩
theorem froz_hdr {w : World} {ro : Nat → Prop} {g : Gh} {m : List (Nat × Ent)} {base : Nat} {xb : Nat → Nat} (h : Rel w ro g m base xb) {id v sz : Nat} {xs : List (List AV)} (k : look m id = some (.froz v sz xs)) : ∃ A c, g.G id = .slice A xs.length c := by
 have := h.ent id _ k
 simp only [entOk, rep] at this
 obtain ⟨A, c, h1, _⟩ := this
 exact ⟨A, c, h1⟩
def rows (σ : St) : AV → Option (List (List AV) × Prop)
 | .sl _ xs => some (xs, True)
 | .v (.slice none 0 0) => some ([], True)
 | .ow id ver => match look σ.m id with
  | some (.own v _ _ xs) => some (xs, ver = v)
  | some (.froz v _ xs) => some (xs, ver = v)
  | _ => none
 | _ => none
theorem rows_hdr {cx : Cx} {a : Act} {w : World} {ro : Nat → Prop} {g : Gh} (hg : Good cx σ a w ro g) {x : AV} {u : Value} (hv : VR w ro g σ.m x u) {xs : List (List AV)} {c : Prop} (h : rows σ x = some (xs, c)) (hc : c) : ∃ A c, u = .slice A xs.length c := by
 unfold rows at h
 split at h
 · simp only [Option.some.injEq, Prod.mk.injEq] at h
   obtain ⟨rfl, rfl⟩ := h
   obtain ⟨A, c, h1, _⟩ := hv
   exact ⟨A, c, h1⟩
 · simp only [Option.some.injEq, Prod.mk.injEq] at h
   obtain ⟨rfl, rfl⟩ := h
   exact ⟨none, 0, hv.1⟩
 · rename_i id ver
   obtain ⟨e, h1, h2, h3⟩ := hv
   split at h
   · rename_i v E sz ys hk
     simp only [Option.some.injEq, Prod.mk.injEq] at h
     obtain ⟨rfl, rfl⟩ := h
     rw [hk] at h1
     cases h1
     obtain ⟨A, c, h4⟩ := own_hdr hg.rel hk
     exact ⟨A, c, (h3 hc rfl).trans h4⟩
   · rename_i v sz ys hk
     simp only [Option.some.injEq, Prod.mk.injEq] at h
     obtain ⟨rfl, rfl⟩ := h
     rw [hk] at h1
     cases h1
     obtain ⟨A, c, h4⟩ := froz_hdr hg.rel hk
     exact ⟨A, c, (h3 hc rfl).trans h4⟩
   · cases h
 · cases h
theorem PV.lenR {t e : Nat} {x : Operand} {xs : List (List AV)} {c : Prop} (ht : P.underlying t = some (.slice e)) (h : rows σ (oget σ x) = some (xs, c)) (hc : c) : PV P σ (.call { callee := .builtin .len, args := #[x], argTypes := #[t] }) (.v (.int .i64 xs.length)) :=
 PV.lenN (A := none) (c := 0) ht (fun _ _ _ _ _ hg => rows_hdr hg (hg.og x) h hc)
theorem PV.max2 {ts : Array TypeId} {x y : Operand} {k k' : IntKind} {i j : Int} (hx : oget σ x = .v (.int k i)) (hy : oget σ y = .v (.int k' j)) : PV P σ (.call { callee := .builtin .max, args := #[x, y], argTypes := ts }) (.v (.int k (if i < j then j else i))) := by
 intro cx a w ro g o hg ho
 have e1 := (hg.sv (x := x) (u := .int k i) (by rw [hx]; rfl)).1
 have e2 := (hg.sv (x := y) (u := .int k' j) (by rw [hy]; rfl)).1
 exact ⟨.int k (if i < j then j else i), fun w' => by simp [execOp, ho, e1, e2, resolve, invoke, builtin, Builtin.max_, Builtin.max2], VR_v rfl⟩
theorem PV.min2 {ts : Array TypeId} {x y : Operand} {k k' : IntKind} {i j : Int} (hx : oget σ x = .v (.int k i)) (hy : oget σ y = .v (.int k' j)) : PV P σ (.call { callee := .builtin .min, args := #[x, y], argTypes := ts }) (.v (.int k (if j < i then j else i))) := by
 intro cx a w ro g o hg ho
 have e1 := (hg.sv (x := x) (u := .int k i) (by rw [hx]; rfl)).1
 have e2 := (hg.sv (x := y) (u := .int k' j) (by rw [hy]; rfl)).1
 exact ⟨.int k (if j < i then j else i), fun w' => by simp [execOp, ho, e1, e2, resolve, invoke, builtin, Builtin.min_, Builtin.min2], VR_v rfl⟩
theorem PV.sliceR {t e sz size : Nat} {x : Operand} {l h mx : Option Operand} {xs : List (List AV)} {i j mm : Int} (ht : P.underlying t = some (.slice e)) (hsz : (P.info? e).map (·.size) = some sz)
 (hx : oget σ x = .sl sz xs) (hl : match l with | none => i = 0 | some l => ∃ k, oget σ l = .v (.int k i)) (hh : match h with | none => j = (xs.length : Int) ∧ mx = none | some h => ∃ k, oget σ h = .v (.int k j))
 (hm : match mx with | none => True | some m => ∃ k, oget σ m = .v (.int k mm)) (hmm : mx ≠ none → j ≤ mm ∧ mm ≤ (xs.length : Int)) (h0 : 0 ≤ i) (h1 : i ≤ j) (h2 : j ≤ (xs.length : Int)) :
 PV P σ (.slice t x l h mx) (.sl sz ((xs.take j.toNat).drop i.toNat)) := by
 intro cx a w ro g o hg ho
 have hv := hg.og x
 rw [hx] at hv
 obtain ⟨A, c, e1, e2, e3, e4⟩ := hv
 have hel : P.elem t = e := by simp [Program.elem, ht]
 have hsz' : (∀ w' : World, (sizeOf e).run P w' = .ok sz w') := by
  intro w'
  obtain ⟨ii, hi1, hi2⟩ := Option.map_eq_some_iff.1 hsz
  simp [sizeOf, typeInfo, hi1, hi2]
 have key : ∀ (l' h' m' : Nat), l' ≤ h' → h' ≤ m' → h' ≤ xs.length → m' ≤ c → l' = i.toNat → h' = j.toNat → VR w ro g σ.m (.sl sz ((xs.take j.toNat).drop i.toNat)) (sliced A l' h' m' sz) := by
  intro l' h' m' hlh hhm hhx hmc el eh
  subst el eh
  refine ⟨if m' = i.toNat then A else A.map (·.add (i.toNat * sz)), m' - i.toNat, ?_, ?_, by simp only [maxLen] at e3 ⊢; omega, fun hp => ?_⟩
  · simp only [sliced, List.length_drop, List.length_take]
    congr 1
    omega
  · simp only [List.length_drop, List.length_take]
    omega
  · simp only [List.length_drop, List.length_take] at hp
    obtain ⟨b, o', f1, f2, f3⟩ := e4 (by omega)
    have hne : ¬ m' = i.toNat := by omega
    refine ⟨b, o' + i.toNat * sz, ?_, f2, repR_drop _ (repR_take _ f3)⟩
    simp only [hne, if_false, f1, Option.map_some, Addr.add_lit]
 have run : ∀ lo hi mx' (l' h' m' : Nat), (∀ w', (Instr.slice t (.slice A xs.length c) lo hi mx').run P w' = ((sizeOf (P.elem t)).run P w').andThen fun s w' => .ok (sliced A l' h' m' s) w') →
  ∀ w', (Instr.sliceAt t (.slice A xs.length c) lo hi mx').run P w' = .ok (sliced A l' h' m' sz) w' := by
  intro lo hi mx' l' h' m' hr w'
  rw [run_sliceAt_slice _ _ _ _ _ _ (by rw [hel]; exact ht), hr, hel, hsz']
  rfl
 have ht' : P.underlying t = some (.slice (P.elem t)) := by rw [hel]; exact ht
 have hjc : j ≤ (c : Int) := by omega
 cases mx with
 | none =>
  cases l with
  | none =>
   cases h with
   | none =>
    simp only at hl hh
    obtain ⟨rfl, _⟩ := hh
    subst hl
    exact ⟨_, fun w' => by simp [execOp, ho, e1, run _ _ _ 0 xs.length c (fun w' => run_slice_all w' _ _ _ _ ht')], key 0 xs.length c (by omega) e2 (by omega) (by omega) rfl (by simp)⟩
   | some h =>
    simp only at hl hh
    obtain ⟨k, hh⟩ := hh
    subst hl
    have f2 := (hg.sv (x := h) (u := .int k j) (by rw [hh]; rfl)).1
    exact ⟨_, fun w' => by simp [execOp, ho, e1, f2, run _ _ _ 0 j.toNat c (fun w' => run_slice_h w' _ _ _ _ ht' k j (by omega) hjc)], key 0 j.toNat c (by omega) (by omega) (by omega) (by omega) rfl rfl⟩
  | some l =>
   obtain ⟨k, hl⟩ := hl
   have f1 := (hg.sv (x := l) (u := .int k i) (by rw [hl]; rfl)).1
   cases h with
   | none =>
    simp only at hh
    obtain ⟨rfl, _⟩ := hh
    exact ⟨_, fun w' => by simp [execOp, ho, e1, f1, run _ _ _ i.toNat xs.length c (fun w' => run_slice_l w' _ _ _ _ ht' k i h0 h1)], key i.toNat xs.length c (by omega) e2 (by omega) (by omega) rfl (by simp)⟩
   | some h =>
    obtain ⟨k', hh⟩ := hh
    have f2 := (hg.sv (x := h) (u := .int k' j) (by rw [hh]; rfl)).1
    exact ⟨_, fun w' => by simp [execOp, ho, e1, f1, f2, run _ _ _ i.toNat j.toNat c (fun w' => run_slice_lh w' _ _ _ _ ht' k k' i j h0 h1 hjc)], key i.toNat j.toNat c (by omega) (by omega) (by omega) (by omega) rfl rfl⟩
 | some m =>
  obtain ⟨km, hm⟩ := hm
  have f3 := (hg.sv (x := m) (u := .int km mm) (by rw [hm]; rfl)).1
  obtain ⟨hm1, hm2⟩ := hmm (by simp)
  cases h with
  | none => simp at hh
  | some h =>
   obtain ⟨k', hh⟩ := hh
   have f2 := (hg.sv (x := h) (u := .int k' j) (by rw [hh]; rfl)).1
   cases l with
   | none =>
    simp only at hl
    subst hl
    exact ⟨_, fun w' => by simp [execOp, ho, e1, f2, f3, run _ _ _ 0 j.toNat mm.toNat (fun w' => run_slice_hm w' _ _ _ _ ht' k' km j mm (by omega) hm1 (by omega))], key 0 j.toNat mm.toNat (by omega) (by omega) (by omega) (by omega) rfl rfl⟩
   | some l =>
    obtain ⟨k, hl⟩ := hl
    have f1 := (hg.sv (x := l) (u := .int k i) (by rw [hl]; rfl)).1
    exact ⟨_, fun w' => by simp [execOp, ho, e1, f1, f2, f3, run _ _ _ i.toNat j.toNat mm.toNat (fun w' => run_slice_lhm w' _ _ _ _ ht' k k' km i j mm h0 h1 hm1 (by omega))], key i.toNat j.toNat mm.toNat (by omega) (by omega) (by omega) (by omega) rfl rfl⟩
end
def LV (P : Program) (σ : St) (op : Op) (x : AV) : Prop := ∀ (cx : Cx) (a : Act) (w : World) (ro : Nat → Prop) (g : Gh) (o : Oper), Good cx σ a w ro g → o.op = op →
 ∃ v, (∀ w', (∀ k, k < w.heap.size → w'.heap[k]? = w.heap[k]?) → (execOp a.eval o).run P w' = .ok (.value v) w') ∧ VR w ro g σ.m x v
theorem PV.lv {P : Program} {σ : St} {op : Op} {x : AV} (h : PV P σ op x) : LV P σ op x := fun cx a w ro g o hg ho => by
 obtain ⟨v, h1, h2⟩ := h cx a w ro g o hg ho
 exact ⟨v, fun w' _ => h1 w', h2⟩
section
variable {P : Program} {σ : St} {cx : Cx} {a : Act} {w : World} {ro : Nat → Prop} {g : Gh}
theorem repL_cellsR {m : List (Nat × Ent)} : ∀ {xs : List AV} {us : List Value}, repL w ro xs us → cellsR w ro g m xs us
 | [], _, k => k
 | x :: xs, us, k => by
  obtain ⟨u, r, h1, h2, h3⟩ := k
  refine ⟨u, r, h1, ?_, repL_cellsR h3⟩
  cases x <;> first | exact h2 | (simp [rep] at h2)
theorem cellsR_len {m : List (Nat × Ent)} : ∀ {xs : List AV} {us : List Value}, cellsR w ro g m xs us → us.length = xs.length
 | [], _, k => by simp only [cellsR] at k; simp [k]
 | x :: xs, us, k => by
  obtain ⟨u, r, rfl, _, h⟩ := k
  simp [cellsR_len h]
theorem cellsR_drop {m : List (Nat × Ent)} : ∀ {xs : List AV} {us : List Value} (n : Nat), cellsR w ro g m xs us → cellsR w ro g m (xs.drop n) (us.drop n)
 | xs, us, 0, k => by simpa using k
 | [], us, n + 1, k => by simp only [cellsR] at k; simp [k, cellsR]
 | x :: xs, us, n + 1, k => by
  obtain ⟨u, r, rfl, _, h⟩ := k
  simpa using cellsR_drop n h
theorem cellsR_take {m : List (Nat × Ent)} : ∀ {xs : List AV} {us : List Value} (n : Nat), cellsR w ro g m xs us → cellsR w ro g m (xs.take n) (us.take n)
 | xs, us, 0, k => by simp [cellsR]
 | [], us, n + 1, k => by simp only [cellsR] at k; simp [k, cellsR]
 | x :: xs, us, n + 1, k => by
  obtain ⟨u, r, rfl, h1, h⟩ := k
  exact ⟨u, r.take n, by simp, h1, cellsR_take n h⟩
theorem cellsR_append {m : List (Nat × Ent)} : ∀ {xs : List AV} {us : List Value} {ys : List AV} {vs : List Value}, cellsR w ro g m xs us → cellsR w ro g m ys vs → cellsR w ro g m (xs ++ ys) (us ++ vs)
 | [], us, ys, vs, k, h => by simp only [cellsR] at k; simpa [k] using h
 | x :: xs, us, ys, vs, k, h => by
  obtain ⟨u, r, rfl, h1, h2⟩ := k
  exact ⟨u, r ++ vs, by simp, h1, cellsR_append h2 h⟩
theorem cellR_partR {m : List (Nat × Ent)} {x : AV} {u : Value} (h : cellR w ro g m x u) : partR w ro g m x u := by
 cases x <;> first | exact h | (simp [cellR, rep] at h)
def agk : TK → Option Bool
 | .strct _ => some true
 | .arr _ _ => some true
 | .other => none
 | _ => some false
def hd1 : List AV → Option AV
 | x :: _ => some x
 | [] => none
def ldv (y : Ty) (cs : List AV) : Option AV := match agk y.k with
 | some true => match Nat.ble y.size cs.length with | true => some (.ag (cs.take y.size)) | false => none
 | some false => hd1 cs
 | none => none
theorem run_isAgg {t : Nat} {y : Ty} {b : Bool} (h : TyOk P t y) (hb : agk y.k = some b) (w : World) : (isAgg t).run P w = .ok b w := by
 obtain ⟨d, h1, h2⟩ := h.under
 rw [← h2] at hb
 cases d <;> simp only [tk, agk, Option.some.injEq, reduceCtorEq] at hb <;> subst hb <;> simp [isAgg, run_underlying h1]
theorem run_sizeOf {t : Nat} {y : Ty} (h : TyOk P t y) (w : World) : (sizeOf t).run P w = .ok y.size w := by
 obtain ⟨i, h1, h2, _⟩ := h.info
 simp [sizeOf, typeInfo, h1, h2]
theorem ld_run {t : Nat} {y : Ty} (hT : TyOk P t y) {cs : List AV} {x : AV} (hl : ldv y cs = some x) {m : List (Nat × Ent)} {us : List Value} (hc : cellsR w ro g m cs us) :
 ∃ v, VR w ro g m x v ∧ ∀ (w' : World) (b o : Nat), AtC w' b o us → (Instr.loadAt t (.pointer (some ⟨b, o, none⟩))).run P w' = .ok v w' := by
 have agg : Nat.ble y.size cs.length = true → some (AV.ag (cs.take y.size)) = some x → (∀ w', (isAgg t).run P w' = .ok true w') →
  ∃ v, VR w ro g m x v ∧ ∀ (w' : World) (b o : Nat), AtC w' b o us → (Instr.loadAt t (.pointer (some ⟨b, o, none⟩))).run P w' = .ok v w' := by
  intro h1 h2 h3
  cases h2
  refine ⟨.agg (us.take y.size).toArray, ⟨us.take y.size, rfl, cellsR_take _ hc⟩, fun w' b o hat => ?_⟩
  have hlen : (us.take y.size).length = y.size := by
   rw [List.length_take, cellsR_len hc]
   have := Nat.le_of_ble_eq_true h1
   omega
  have h4 := run_loadCells_list (P := P) w' ⟨b, o, none⟩ (us.take y.size) (fun j v hj => by
   rw [Addr.add_lit]
   refine hat j v ?_
   rw [List.getElem?_take] at hj
   split at hj
   · exact hj
   · cases hj)
  rw [hlen] at h4
  simp [Instr.loadAt, Instr.sureAddr, loadVar, h3, run_sizeOf hT, h4]
 have one : hd1 cs = some x → (∀ w', (isAgg t).run P w' = .ok false w') →
  ∃ v, VR w ro g m x v ∧ ∀ (w' : World) (b o : Nat), AtC w' b o us → (Instr.loadAt t (.pointer (some ⟨b, o, none⟩))).run P w' = .ok v w' := by
  intro h2 h3
  cases cs with
  | nil => cases h2
  | cons z zs =>
   cases h2
   obtain ⟨u, r, rfl, h4, _⟩ := hc
   refine ⟨u, partR_VR (cellR_partR h4), fun w' b o hat => ?_⟩
   have h5 := hat 0 u rfl
   simp only [Nat.add_zero] at h5
   simp [Instr.loadAt, Instr.sureAddr, loadVar, h3, load, Sem.run, h5]
 unfold ldv at hl
 split at hl
 · rename_i hb
   split at hl
   · rename_i h1
     exact agg h1 hl (run_isAgg hT hb)
   · cases hl
 · rename_i hb
   exact one hl (run_isAgg hT hb)
 · cases hl
theorem cell_old {w w' : World} {b o : Nat} {us : List Value} (hw : w'.heap[b]? = w.heap[b]?) (h : AtC w b o us) : AtC w' b o us := fun j u hj => by
 rw [World.cell?_of_block hw]
 exact h j u hj
theorem LV.loadRf {t : Nat} {y : Ty} {p : Operand} {xs : List AV} {x : AV} (hT : TyOk P t y) (hp : oget σ p = .rf xs) (hl : ldv y xs = some x) : LV P σ (.load t p) x := by
 intro cx a w ro g o hg ho
 have hv := hg.og p
 rw [hp] at hv
 obtain ⟨b, off, h1, h2, h3⟩ := hv
 obtain ⟨us, h4, h5⟩ := repL_of h3
 obtain ⟨v, h6, h7⟩ := ld_run (w := w) (ro := ro) (g := g) (m := σ.m) hT hl (repL_cellsR h4)
 exact ⟨v, fun w' hw => by simp [execOp, ho, h1, h7 w' b off (cell_old (hw b (hg.rel.rlt b h2)) h5)], h6⟩
theorem pt_addr (hg : Good cx σ a w ro g) {p : Operand} {id ver off v T : Nat} {x : Bool} {cs : List AV} (hp : oget σ p = .pt id ver off) (hb : look σ.m id = some (.box v T x cs)) (hv : ver = v) : a.eval p = .pointer (some ⟨g.B id, off, none⟩) := by
 have h := hg.og p
 rw [hp] at h
 obtain ⟨e, h1, h2, h3⟩ := h
 rw [hb] at h1
 cases h1
 exact h3 hv rfl
theorem LV.loadPt {t : Nat} {y : Ty} {p : Operand} {id ver off v T : Nat} {xx : Bool} {cs : List AV} {x : AV} (hT : TyOk P t y) (hp : oget σ p = .pt id ver off) (hb : look σ.m id = some (.box v T xx cs)) (hv : ver = v) (hl : ldv y (cs.drop off) = some x) : LV P σ (.load t p) x := by
 intro cx a w ro g o hg ho
 have h1 := pt_addr hg hp hb hv
 obtain ⟨_, _, us, h4, h5⟩ := hg.rel.ent id _ hb
 obtain ⟨v, h6, h7⟩ := ld_run (w := w) (ro := ro) (g := g) (m := σ.m) hT hl (cellsR_drop off h4)
 refine ⟨v, fun w' hw => ?_, h6⟩
 have h8 : w'.heap[g.B id]? = some (.cells us.toArray T (0, 0)) := (hw _ (Array.getElem?_eq_some_iff.1 h5).1).trans h5
 have h9 : AtC w' (g.B id) off (us.drop off) := fun j u hj => by
  rw [cell_of_row w' _ _ _ _ _ h8]
  simpa using hj
 simp [execOp, ho, h1, h7 w' _ _ h9]
theorem own_at {id v E sz : Nat} {xs : List (List AV)} (hg : Good cx σ a w ro g) (hb : look σ.m id = some (.own v E sz xs)) : (xs = [] ∧ g.G id = .slice none 0 0) ∨ ∃ b n c cur us, n = xs.length ∧ g.G id = .slice (some ⟨b, 0, none⟩) n c ∧ w.heap[b]? = some (.cells cur E (0, 0)) ∧ n ≤ c ∧ c ≤ maxLen ∧ cur.size = c * sz ∧ cur.toList.take (n * sz) = us ∧ repF w ro sz xs us := by
 obtain ⟨_, us, h1, h2, h3⟩ := hg.rel.ent id _ hb
 rcases h3 with ⟨h4, h5⟩ | ⟨b, c, cur, h4, h5, h6, h7, h8, h9, h10⟩
 · exact .inl ⟨List.eq_nil_of_length_eq_zero h5, h4⟩
 · exact .inr ⟨b, _, c, cur, us, rfl, h4, h6, h7, h8, h9, h10, h1⟩
theorem ep_addr (hg : Good cx σ a w ro g) {p : Operand} {id ver off v E sz : Nat} {i : Int} {xs : List (List AV)} (hp : oget σ p = .ep id ver i off) (hb : look σ.m id = some (.own v E sz xs)) (hv : ver = v) : ∃ b n c, g.G id = .slice (some ⟨b, 0, none⟩) n c ∧ a.eval p = .pointer (some ⟨b, i.toNat * sz + off, none⟩) := by
 have h := hg.og p
 rw [hp] at h
 obtain ⟨e, h1, h2, h3⟩ := h
 rw [hb] at h1
 cases h1
 exact h3 hv v E sz xs rfl
theorem LV.loadEp {t : Nat} {y : Ty} {p : Operand} {id ver off v E sz : Nat} {i : Int} {xs : List (List AV)} {r : List AV} {x : AV} (hT : TyOk P t y) (hp : oget σ p = .ep id ver i off) (hb : look σ.m id = some (.own v E sz xs)) (hv : ver = v)
 (hr : xs[i.toNat]? = some r) (hl : ldv y (r.drop off) = some x) : LV P σ (.load t p) x := by
 intro cx a w ro g o hg ho
 obtain ⟨b, n, c, h1, h2⟩ := ep_addr hg hp hb hv
 rcases own_at hg hb with ⟨rfl, _⟩ | ⟨b', n', c', cur, us, hn, h3, h4, h5, h6, h7, h8, h9⟩
 · simp at hr
 rw [h1] at h3
 simp only [Value.slice.injEq, Option.some.injEq, Addr.mk.injEq, and_true] at h3
 obtain ⟨rfl, rfl, rfl⟩ := h3
 have hat : AtC w b 0 us := fun j u hj => by
  rw [cell_of_row w _ _ _ _ _ h4]
  rw [← h8, List.getElem?_take] at hj
  split at hj
  · simpa using hj
  · cases hj
 obtain ⟨hrl, hrc⟩ := repR_get (repR_of h9 hat) hr
 obtain ⟨vs, h10, h11⟩ := repL_of (repC_drop off hrc)
 obtain ⟨v', h12, h13⟩ := ld_run (w := w) (ro := ro) (g := g) (m := σ.m) hT hl (repL_cellsR h10)
 refine ⟨v', fun w' hw => ?_, h12⟩
 have h14 := cell_old (hw b (Array.getElem?_eq_some_iff.1 h4).1) h11
 simp only [Nat.zero_add] at h14
 simp [execOp, ho, h2, h13 w' _ _ h14]
def foff (fs : List (Nat × Nat)) (f : Nat) : Option (Nat × Nat) := match fs, f with
 | [], _ => none
 | p :: _, 0 => some p
 | _ :: r, f + 1 => foff r f
theorem foff_eq : ∀ (fs : List (Nat × Nat)) (f : Nat), foff fs f = fs[f]?
 | [], _ => by simp [foff]
 | p :: r, 0 => by simp [foff]
 | p :: r, f + 1 => by simp [foff, foff_eq r f]
theorem run_fieldAt {t f off ft : Nat} {y z : Ty} {fs : List (Nat × Nat)} (hT : TyOk P t y) (hk : y.k = .strct fs) (hf : foff fs f = some (off, ft)) (hz : TyOk P ft z) (hn : z.size ≠ 0) (b o : Nat) (w : World) :
 (Instr.fieldAt t (.pointer (some ⟨b, o, none⟩)) f).run P w = .ok (.pointer (some ⟨b, o + off, none⟩)) w := by
 obtain ⟨fields, h1, h2⟩ := hT.strct hk
 rw [foff_eq, ← h2, List.getElem?_map] at hf
 obtain ⟨fd, h3, h4⟩ := Option.map_eq_some_iff.1 hf
 simp only [Prod.mk.injEq] at h4
 obtain ⟨rfl, rfl⟩ := h4
 have h3' : fields[f]? = some fd := by simpa using h3
 simp [Instr.fieldAt, run_underlying h1, h3', Instr.sureAddr, fieldPlace, run_sizeOf hz, hn, Addr.add_lit]
theorem PV.fieldRf {t f off ft : Nat} {y z : Ty} {fs : List (Nat × Nat)} {p : Operand} {xs : List AV} (hT : TyOk P t y) (hk : y.k = .strct fs) (hf : foff fs f = some (off, ft)) (hz : TyOk P ft z) (hn : z.size ≠ 0) (hp : oget σ p = .rf xs) : PV P σ (.fieldAddr t p f) (.rf (xs.drop off)) := by
 intro cx a w ro g o hg ho
 have hv := hg.og p
 rw [hp] at hv
 obtain ⟨b, o', h1, h2, h3⟩ := hv
 exact ⟨_, fun w' => by simp [execOp, ho, h1, run_fieldAt hT hk hf hz hn], b, o' + off, rfl, h2, repC_drop off h3⟩
theorem PV.nilPt {x : Operand} {id ver o v T : Nat} {xx : Bool} {cs : List AV} (hp : oget σ x = .pt id ver o) (hb : look σ.m id = some (.box v T xx cs)) (hv : ver = v) : PV P σ (.nilCheck x) (.pt id ver o) := by
 intro cx a w ro g oo hg ho
 have h1 := pt_addr hg hp hb hv
 exact ⟨_, fun w' => by simp [execOp, ho, h1], _, hb, by simp [Ent.ver, hv], fun _ _ => rfl⟩
theorem PV.mkFn {f : Nat} {x : Operand} {id ver v T : Nat} {xx : Bool} {cs : List AV} (hp : oget σ x = .pt id ver 0) (hb : look σ.m id = some (.box v T xx cs)) (hv : ver = v) : PV P σ (.makeFunc (.func f) #[] #[x]) (.cl f id ver) := by
 intro cx a w ro g oo hg ho
 have h1 := pt_addr hg hp hb hv
 exact ⟨_, fun w' => by simp [execOp, ho, h1, Instr.makeFunc], _, hb, by simp [Ent.ver, hv], fun _ _ => rfl⟩
theorem PV.fieldPt {t f off ft : Nat} {y z : Ty} {fs : List (Nat × Nat)} {p : Operand} {id ver o v T : Nat} {xx : Bool} {cs : List AV} (hT : TyOk P t y) (hk : y.k = .strct fs) (hf : foff fs f = some (off, ft)) (hz : TyOk P ft z) (hn : z.size ≠ 0) (hp : oget σ p = .pt id ver o)
 (hb : look σ.m id = some (.box v T xx cs)) (hv : ver = v) : PV P σ (.fieldAddr t p f) (.pt id ver (o + off)) := by
 intro cx a w ro g o hg ho
 have h1 := pt_addr hg hp hb hv
 exact ⟨_, fun w' => by simp [execOp, ho, h1, run_fieldAt hT hk hf hz hn], _, hb, by simp [Ent.ver, hv], fun _ _ => rfl⟩
theorem PV.fieldEp {t f off ft : Nat} {y z : Ty} {fs : List (Nat × Nat)} {p : Operand} {id ver o v E sz : Nat} {i : Int} {xs : List (List AV)} (hT : TyOk P t y) (hk : y.k = .strct fs) (hf : foff fs f = some (off, ft)) (hz : TyOk P ft z) (hn : z.size ≠ 0) (hp : oget σ p = .ep id ver i o)
 (hb : look σ.m id = some (.own v E sz xs)) (hv : ver = v) : PV P σ (.fieldAddr t p f) (.ep id ver i (o + off)) := by
 intro cx a w ro g oo hg ho
 obtain ⟨b, n, c, h1, h2⟩ := ep_addr hg hp hb hv
 refine ⟨_, fun w' => by simp [execOp, ho, h2, run_fieldAt hT hk hf hz hn]; rfl, _, hb, by simp [Ent.ver, hv], fun _ v' E' sz' xs' he => ?_⟩
 cases he
 exact ⟨b, n, c, h1, by rw [Nat.add_assoc]⟩
theorem run_indexAt {t e : Nat} {y z : Ty} (hT : TyOk P t y) (hk : y.k = .slice e) (hz : TyOk P e z) (b o n c : Nat) (k : IntKind) (i : Int) (h0 : 0 ≤ i) (h1 : i < (n : Int)) (w : World) :
 (Instr.indexAt t (.slice (some ⟨b, o, none⟩) n c) (.int k i)).run P w = .ok (.pointer (some ⟨b, o + i.toNat * z.size, none⟩)) w := by
 have h := hT.slice hk
 have he : P.elem t = e := by simp [Program.elem, h]
 rw [run_indexAt_slice _ _ _ _ _ _ _ (by rw [he]; exact h), if_pos ⟨h0, h1⟩, he, run_sizeOf hz]
 simp [Result.andThen, Addr.add_lit]
theorem run_indexAt_arr {t n e : Nat} {y z : Ty} (hT : TyOk P t y) (hk : y.k = .arr n e) (hz : TyOk P e z) (b o : Nat) (k : IntKind) (i : Int) (h0 : 0 ≤ i) (h1 : i < (n : Int)) (w : World) :
 (Instr.indexAt t (.pointer (some ⟨b, o, none⟩)) (.int k i)).run P w = .ok (.pointer (some ⟨b, o + i.toNat * z.size, none⟩)) w := by
 have h := hT.arr hk
 have hs := run_sizeOf hz w
 simp [Instr.indexAt, asIntOf, run_underlying h, Instr.sureAddr, h0, h1, hs, Result.andThen, Addr.add_lit]
theorem PV.idxArr {t n e id ver off v T : Nat} {y z : Ty} {p i : Operand} {k : IntKind} {j : Int} {xx : Bool} {cs : List AV} (hT : TyOk P t y) (hk : y.k = .arr n e) (hz : TyOk P e z) (hp : oget σ p = .pt id ver off) (hb : look σ.m id = some (.box v T xx cs)) (hv : ver = v) (hi : oget σ i = .v (.int k j)) (h0 : 0 ≤ j) (h1 : j < (n : Int)) : PV P σ (.indexAddr t p i) (.pt id ver (off + j.toNat * z.size)) := by
 intro cx a w ro g o hg ho
 have e1 := pt_addr hg hp hb hv
 have e8 := (hg.sv (x := i) (u := .int k j) (by rw [hi]; rfl)).1
 exact ⟨_, fun w' => by simp [execOp, ho, e1, e8, run_indexAt_arr hT hk hz _ _ k j h0 h1], _, hb, by simp [Ent.ver, hv], fun _ _ => rfl⟩
theorem PV.idxSl {t e sz : Nat} {y z : Ty} {p i : Operand} {k : IntKind} {n : Int} {xs : List (List AV)} (hT : TyOk P t y) (hk : y.k = .slice e) (hz : TyOk P e z) (hs : z.size = sz) (hp : oget σ p = .sl sz xs) (hi : oget σ i = .v (.int k n)) (h0 : 0 ≤ n) (h1 : n < (xs.length : Int)) : PV P σ (.indexAddr t p i) (.rf (xs.getD n.toNat [])) := by
 intro cx a w ro g o hg ho
 have hv := hg.og p
 rw [hp] at hv
 obtain ⟨A, c, e1, e2, e3, e4⟩ := hv
 obtain ⟨b, o', e5, e6, e7⟩ := e4 (by omega)
 have e8 := (hg.sv (x := i) (u := .int k n) (by rw [hi]; rfl)).1
 subst hs
 subst e5
 have hr : xs[n.toNat]? = some (xs.getD n.toNat []) := by simp [List.getD, List.getElem?_eq_getElem (show n.toNat < xs.length by omega)]
 exact ⟨_, fun w' => by simp [execOp, ho, e1, e8, run_indexAt hT hk hz _ _ _ _ _ _ h0 h1], b, _, rfl, e6, (repR_get e7 hr).2⟩
theorem PV.idxOw {t e sz id ver v E : Nat} {y z : Ty} {p i : Operand} {k : IntKind} {n : Int} {xs : List (List AV)} (hT : TyOk P t y) (hk : y.k = .slice e) (hz : TyOk P e z) (hs : z.size = sz) (hp : oget σ p = .ow id ver) (hb : look σ.m id = some (.own v E sz xs)) (hv : ver = v) (hi : oget σ i = .v (.int k n)) (h0 : 0 ≤ n) (h1 : n < (xs.length : Int)) : PV P σ (.indexAddr t p i) (.ep id ver n 0) := by
 intro cx a w ro g o hg ho
 have h := hg.og p
 rw [hp] at h
 obtain ⟨e', f1, f2, f3⟩ := h
 rw [hb] at f1
 cases f1
 have f4 := f3 hv rfl
 have e8 := (hg.sv (x := i) (u := .int k n) (by rw [hi]; rfl)).1
 rcases own_at hg hb with ⟨rfl, _⟩ | ⟨b', n', c', cur, us, hn, h3, h4, h5, h6, h7, h8, h9⟩
 · simp at h1; omega
 subst hs
 subst hn
 refine ⟨.pointer (some ⟨b', 0 + n.toNat * z.size, none⟩), fun w' => by simp [execOp, ho, f4, h3, e8, run_indexAt hT hk hz _ _ _ _ _ _ h0 h1], _, hb, by simp [Ent.ver, hv], fun _ v' E' sz' xs' he => ?_⟩
 cases he
 exact ⟨b', _, c', h3, by simp⟩
theorem PV.idxFr {t e sz id ver v : Nat} {y z : Ty} {p i : Operand} {k : IntKind} {n : Int} {xs : List (List AV)} (hT : TyOk P t y) (hk : y.k = .slice e) (hz : TyOk P e z) (hs : z.size = sz) (hp : oget σ p = .ow id ver) (hb : look σ.m id = some (.froz v sz xs)) (hv : ver = v) (hi : oget σ i = .v (.int k n)) (h0 : 0 ≤ n) (h1 : n < (xs.length : Int)) : PV P σ (.indexAddr t p i) (.rf (xs.getD n.toNat [])) := by
 intro cx a w ro g o hg ho
 have h := hg.og p
 rw [hp] at h
 obtain ⟨e', f1, f2, f3⟩ := h
 rw [hb] at f1
 cases f1
 have f4 := f3 hv rfl
 have e8 := (hg.sv (x := i) (u := .int k n) (by rw [hi]; rfl)).1
 have h2 := hg.rel.ent id _ hb
 simp only [entOk, rep] at h2
 obtain ⟨A, c, e1, e2, e3, e4⟩ := h2
 obtain ⟨b, o', e5, e6, e7⟩ := e4 (by omega)
 subst hs
 subst e5
 have hr : xs[n.toNat]? = some (xs.getD n.toNat []) := by simp [List.getD, List.getElem?_eq_getElem (show n.toNat < xs.length by omega)]
 exact ⟨_, fun w' => by simp [execOp, ho, f4, e1, e8, run_indexAt hT hk hz _ _ _ _ _ _ h0 h1], b, _, rfl, e6, (repR_get e7 hr).2⟩
theorem PV.field {t f off ft : Nat} {y z : Ty} {fs : List (Nat × Nat)} {p : Operand} {xs : List AV} {x : AV} (hT : TyOk P t y) (hk : y.k = .strct fs) (hf : foff fs f = some (off, ft)) (hz : TyOk P ft z) (hp : oget σ p = .ag xs) (hx : ldv z (xs.drop off) = some x) : PV P σ (.field t p f) x := by
 intro cx a w ro g o hg ho
 have hv := hg.og p
 rw [hp] at hv
 obtain ⟨us, h1, h2⟩ := hv
 obtain ⟨fields, h3, h4⟩ := hT.strct hk
 rw [foff_eq, ← h4, List.getElem?_map] at hf
 obtain ⟨fd, h5, h6⟩ := Option.map_eq_some_iff.1 hf
 simp only [Prod.mk.injEq] at h6
 obtain ⟨rfl, rfl⟩ := h6
 have h5' : fields[f]? = some fd := by simpa using h5
 have h7 := cellsR_drop fd.offset h2
 have agg : Nat.ble z.size (xs.drop fd.offset).length = true → some (AV.ag ((xs.drop fd.offset).take z.size)) = some x → (∀ w', (isAgg fd.type).run P w' = .ok true w') → ∃ v, (∀ w', (execOp a.eval o).run P w' = .ok (.value v) w') ∧ VR w ro g σ.m x v := by
  intro hb he ha
  cases he
  refine ⟨.agg ((us.drop fd.offset).take z.size).toArray, fun w' => ?_, _, rfl, cellsR_take _ h7⟩
  have : us.toArray.extract fd.offset (fd.offset + z.size) = ((us.drop fd.offset).take z.size).toArray := by
   rw [List.extract_toArray, List.extract_eq_take_drop]
   simp
  simp [execOp, ho, h1, Instr.field, run_underlying h3, h5', asAgg, part, ha, run_sizeOf hz, this]
 have one : hd1 (xs.drop fd.offset) = some x → (∀ w', (isAgg fd.type).run P w' = .ok false w') → ∃ v, (∀ w', (execOp a.eval o).run P w' = .ok (.value v) w') ∧ VR w ro g σ.m x v := by
  intro he ha
  cases hdd : xs.drop fd.offset with
  | nil => rw [hdd] at he; cases he
  | cons q qs =>
   rw [hdd] at he h7
   cases he
   obtain ⟨u, r, h8, h9, _⟩ := h7
   refine ⟨u, fun w' => ?_, partR_VR (cellR_partR h9)⟩
   have : us[fd.offset]? = some u := by
    have := congrArg (fun l => l[0]?) h8
    simpa using this
   simp [execOp, ho, h1, Instr.field, run_underlying h3, h5', asAgg, part, ha, this]
 unfold ldv at hx
 split at hx
 · rename_i hb
   split at hx
   · rename_i h1
     exact agg h1 hx (run_isAgg hz hb)
   · cases hx
 · rename_i hb
   exact one hx (run_isAgg hz hb)
 · cases hx
end
def ES (P : Program) (σ : St) (op : Op) (x : AV) (m' : List (Nat × Ent)) (quiet : Bool) : Prop := ∀ (cx : Cx) (a : Act) (w : World) (ro : Nat → Prop) (g : Gh) (o : Oper), Good cx σ a w ro g → o.op = op →
 ∃ v w' ro' g' nx, (execOp a.eval o).run P w = .ok nx w' ∧ (nx = .value v ∨ (nx = .skip ∧ v = undef)) ∧ Good cx ⟨σ.t, m'⟩ a w' ro' g' ∧ VR w' ro' g' m' x v ∧ w.heap.size ≤ w'.heap.size ∧ (quiet = true → ∀ k, k < w.heap.size → w'.heap[k]? = w.heap[k]?)
def nxt (m : List (Nat × Ent)) (id : Nat) : Nat := match look m id with
 | some e => e.ver + 1
 | none => 0
theorem nxt_lt {m : List (Nat × Ent)} {id : Nat} {e : Ent} (h : look m id = some e) : e.ver < nxt m id := by simp [nxt, h]
section
variable {P : Program} {σ : St} {cx : Cx} {a : Act} {w : World} {ro : Nat → Prop} {g : Gh}
def upG (g : Gh) (id : Nat) (v : Value) : Gh := ⟨fun i => if i = id then v else g.G i, g.B⟩
def upB (g : Gh) (id : Nat) (b : Nat) : Gh := ⟨g.G, fun i => if i = id then b else g.B i⟩
def solid (m : List (Nat × Ent)) : AV → Option Prop
 | .v _ => some True
 | .bb _ => some True
 | .er _ => some True
 | .sl _ _ => some True
 | .rf _ => some True
 | .ow id ver => match look m id with
  | some (.own v _ _ _) => some (ver = v)
  | some (.froz v _ _) => some (ver = v)
  | _ => none
 | .pt id ver _ => match look m id with
  | some (.box v _ _ _) => some (ver = v)
  | _ => none
 | _ => none
def solids (m : List (Nat × Ent)) : List AV → Option Prop
 | [] => some True
 | x :: r => match solid m x with
  | some c => match solids m r with
   | some d => some (c ∧ d)
   | none => none
  | none => none
theorem solid_one {base : Nat} {xb : Nat → Nat} (hr : Rel w ro g σ.m base xb) {x : AV} {u : Value} {c : Prop} (h : cellR w ro g σ.m x u) (k : solid σ.m x = some c) (hc : c) : u.oneCell' = true := by
 cases x with
 | v y => exact rep_one (w := w) (ro := ro) (x := .v y) h
 | bb y => exact rep_one (w := w) (ro := ro) (x := .bb y) h
 | er y => exact rep_one (w := w) (ro := ro) (x := .er y) h
 | sl s y => exact rep_one (w := w) (ro := ro) (x := .sl s y) h
 | rf y => exact rep_one (w := w) (ro := ro) (x := .rf y) h
 | ow id ver =>
  obtain ⟨e, h1, h2, h3⟩ := h
  simp only [solid] at k
  split at k
  · rename_i v E sz xs hl
    cases k
    rw [hl] at h1
    cases h1
    obtain ⟨A, c, h4⟩ := own_hdr hr hl
    rw [h3 hc rfl, h4]
    rfl
  · rename_i v sz xs hl
    cases k
    rw [hl] at h1
    cases h1
    obtain ⟨A, c, h4⟩ := froz_hdr hr hl
    rw [h3 hc rfl, h4]
    rfl
  · cases k
 | pt id ver off =>
  obtain ⟨e, h1, h2, h3⟩ := h
  simp only [solid] at k
  split at k
  · rename_i v T xx cs hl
    cases k
    rw [hl] at h1
    cases h1
    rw [h3 hc rfl]
    rfl
  · cases k
 | _ => simp [solid] at k
theorem solids_one {base : Nat} {xb : Nat → Nat} (hr : Rel w ro g σ.m base xb) : ∀ {xs : List AV} {us : List Value} {c : Prop}, cellsR w ro g σ.m xs us → solids σ.m xs = some c → c → ∀ u ∈ us, u.oneCell' = true
 | [], us, c, h, _, _ => by simp only [cellsR] at h; simp [h]
 | x :: xs, us, c, h, k, hc => by
  obtain ⟨u, r, rfl, h1, h2⟩ := h
  simp only [solids] at k
  split at k
  · rename_i c1 hc1
    split at k
    · rename_i d hd
      cases k
      intro u' hu
      rcases List.mem_cons.1 hu with rfl | hu
      · exact solid_one hr h1 hc1 hc.1
      · exact solids_one hr h2 hd hc.2 u' hu
    · cases k
  · cases k
theorem cells_one {u : Value} (h : u.oneCell' = true) : u.cells = #[u] := by cases u <;> first | rfl | simp [Value.oneCell'] at h
def cellsOf : AV → List AV
 | .ag xs => xs
 | x => [x]
theorem partR_cells {base : Nat} {xb : Nat → Nat} (hr : Rel w ro g σ.m base xb) {x : AV} {u : Value} {c : Prop} (h : partR w ro g σ.m x u) (k : solids σ.m (cellsOf x) = some c) (hc : c) : cellsR w ro g σ.m (cellsOf x) u.cells.toList ∧ ∀ y ∈ u.cells.toList, y.oneCell' = true := by
 have one : ∀ y, cellR w ro g σ.m y u → solids σ.m [y] = some c → cellsR w ro g σ.m [y] u.cells.toList ∧ ∀ z ∈ u.cells.toList, z.oneCell' = true := fun y h1 h2 => by
  have h3 : cellsR w ro g σ.m [y] [u] := ⟨u, [], rfl, h1, rfl⟩
  have h4 := solids_one hr h3 h2 hc
  rw [cells_one (h4 u (by simp))]
  exact ⟨h3, h4⟩
 cases x with
 | ag xs =>
  obtain ⟨us, rfl, h1⟩ := h
  exact ⟨by simpa [cellsOf, Value.cells] using h1, by simpa [Value.cells] using solids_one hr h1 k hc⟩
 | _ => exact one _ h k
theorem VR_cells {base : Nat} {xb : Nat → Nat} (hr : Rel w ro g σ.m base xb) {x : AV} {u : Value} {c : Prop} (h : VR w ro g σ.m x u) (k : solids σ.m (cellsOf x) = some c) (hc : c) : cellsR w ro g σ.m (cellsOf x) u.cells.toList ∧ ∀ y ∈ u.cells.toList, y.oneCell' = true := by
 cases x with
 | tu xs => simp [cellsOf, solids, solid] at k
 | _ => exact partR_cells hr h k hc
theorem mkBox (hg : Good cx σ a w ro g) (id T : Nat) {cs : List AV} {us : List Value} (h : cellsR w ro g σ.m cs us) : ∃ g', Good cx ⟨σ.t, (id, .box (nxt σ.m id) T false cs) :: σ.m⟩ a (w.alloc (.cells us.toArray T)) ro g' ∧ g'.B id = w.heap.size := by
 refine ⟨upB g id w.heap.size, Good.upd hg id (.box (nxt σ.m id) T false cs) none rfl rfl rfl (by simp) (by simp) (fun k hk _ => Below.heap_alloc w _ k hk) (fun i hi => ⟨rfl, by simp [upB, hi]⟩) (fun e he => ?_) (fun b hb => hb) (fun b hb => ⟨by have := hg.rel.rlt b hb; simp; omega, .inl hb⟩) (fun hon => ?_) (fun b hb => ?_) (by simp) (by simp), by simp [upB]⟩
 · have := nxt_lt he
   exact ⟨Nat.le_of_lt this, fun h => absurd h (Nat.ne_of_lt this)⟩
 · exact ⟨fun _ => by simp [upB, hg.hsize], by simp, us, cellsR_on hon h, by simp only [upB, if_true]; exact heap_alloc_new w _⟩
 · simp only [blkOf, upB, if_true, Option.some.injEq] at hb
   subst hb
   exact ⟨fun h => by have := hg.rel.rlt _ h; omega, .inl (Nat.le_refl _)⟩
theorem VR_pt {w : World} {ro : Nat → Prop} {g : Gh} {m : List (Nat × Ent)} {id v T : Nat} {x : Bool} {cs : List AV} : VR w ro g ((id, .box v T x cs) :: m) (.pt id v 0) (.pointer (some ⟨g.B id, 0, none⟩)) := ⟨_, look_same _ _ _, Nat.le_refl _, fun _ _ => rfl⟩
def zcells (z : Value) : List AV := z.cells.toList.map ofc
theorem cellR_ofc {m : List (Nat × Ent)} (u : Value) : cellR w ro g m (ofc u) u := by
 unfold ofc
 split
 · exact ⟨rfl, .inl ⟨rfl, rfl⟩⟩
 · split
   · exact ⟨rfl, by assumption⟩
   · trivial
theorem cellsR_ofc {m : List (Nat × Ent)} : ∀ us : List Value, cellsR w ro g m (us.map ofc) us
 | [] => rfl
 | u :: us => ⟨u, us, rfl, cellR_ofc u, cellsR_ofc us⟩
theorem ES.alloc {t id : Nat} {y : Ty} (hT : TyOk P t y) : ES P σ (.alloc t) (.pt id (nxt σ.m id) 0) ((id, .box (nxt σ.m id) t false (zcells y.z)) :: σ.m) true := by
 intro cx a w ro g o hg ho
 obtain ⟨i, h1, h2, h3, h4⟩ := hT.info
 obtain ⟨g', h5, h6⟩ := mkBox hg id t (cellsR_ofc (m := σ.m) y.z.cells.toList)
 refine ⟨.pointer (some ⟨w.heap.size, 0, none⟩), _, ro, g', .value _, ?_, .inl rfl, h5, ?_, by simp, fun _ k hk => Below.heap_alloc w _ k hk⟩
 · simp [execOp, ho, Instr.alloc, zeroValue, typeInfo, h1, h4, newVar, newRow]
 · rw [← h6]
   exact VR_pt
theorem ES.box {t id : Nat} {x : Operand} {c : Prop} (k : solids σ.m (cellsOf (oget σ x)) = some c) (hc : c) : ES P σ (.box t x) (.pt id (nxt σ.m id) 0) ((id, .box (nxt σ.m id) t false (cellsOf (oget σ x))) :: σ.m) true := by
 intro cx a w ro g o hg ho
 obtain ⟨h1, h2⟩ := VR_cells hg.rel (hg.og x) k hc
 obtain ⟨g', h5, h6⟩ := mkBox hg id t h1
 refine ⟨.pointer (some ⟨w.heap.size, 0, none⟩), _, ro, g', .value _, ?_, .inl rfl, h5, ?_, by simp, fun _ k hk => Below.heap_alloc w _ k hk⟩
 · simp [execOp, ho, Instr.box, newVar, newRow]
 · rw [← h6]
   exact VR_pt
theorem ES.storePt {t : Nat} {y : Ty} {p x : Operand} {id ver off v T : Nat} {xx : Bool} {cs : List AV} {c : Prop} (hT : TyOk P t y) (hp : oget σ p = .pt id ver off) (hb : look σ.m id = some (.box v T xx cs)) (hv : ver = v) (k : solids σ.m (cellsOf (oget σ x)) = some c) (hc : c)
 (hn : (cellsOf (oget σ x)).length = y.size) (hle : off + y.size ≤ cs.length) :
 ES P σ (.store t p x) .dead ((id, .box v T xx (cs.take off ++ cellsOf (oget σ x) ++ cs.drop (off + y.size))) :: σ.m) false := by
 intro cx a w ro g o hg ho
 have e1 := pt_addr hg hp hb hv
 obtain ⟨h1, h2⟩ := VR_cells hg.rel (hg.og x) k hc
 obtain ⟨f1, f2, us, f3, f4⟩ := hg.rel.ent id _ hb
 have hlen := cellsR_len h1
 have hul := cellsR_len f3
 have hsz : (a.eval x).cells.size = y.size := by rw [← Array.length_toList, hlen, hn]
 have hst := run_storeCells_at P (g.B id) off T (a.eval x).cells.toList 0 us.toArray w f4 (by simp only [List.size_toArray]; omega) h2
 simp only [Nat.add_zero] at hst
 have hbase : g.B id < cx.w0.heap.size → cx.ext (g.B id) := fun hlt => by
  cases xx with
  | false => have := f1 rfl; omega
  | true => rw [f2 rfl]; exact hg.xin id v T cs hb
 refine ⟨undef, w.setRow (g.B id) (us.take off ++ (a.eval x).cells.toList ++ us.drop (off + (a.eval x).cells.toList.length)).toArray, ro, g, .skip, ?_, .inr ⟨rfl, rfl⟩, Good.upd hg id _ (some (g.B id)) rfl rfl rfl (by simp [World.setRow]) (fun b hb' => ⟨_, hb, by simpa [blkOf] using hb'⟩) (fun k hk hne => setRow_other w _ k _ (fun e => hne (by rw [e]))) (fun i hi => ⟨rfl, rfl⟩) (fun e he => ?_) (fun b hb => hb) (fun b hb => ⟨by have := hg.rel.rlt b hb; simpa [World.setRow] using this, .inl hb⟩) (fun hon => ?_) (fun b hb' => ?_) (fun v' T' cs' he => ?_) (fun b hb' hlt => ?_), VR_dead, by simp [World.setRow], by simp⟩
 · simp only [execOp, ho, e1, Instr.storeAt, Instr.sureAddr, storeVar]
   simp [hsz, run_sizeOf hT, hst]
 · rw [hb] at he
   cases he
   exact ⟨Nat.le_refl _, fun _ => ⟨trivial, rfl, rfl⟩⟩
 · refine ⟨f1, f2, us.take off ++ (a.eval x).cells.toList ++ us.drop (off + y.size), cellsR_on hon (cellsR_append (cellsR_append (cellsR_take off f3) h1) (cellsR_drop _ f3)), ?_⟩
   rw [setRow_heap w _ _ _ _ _ f4]
   rw [hlen, hn]
 · simp only [blkOf, Option.some.injEq] at hb'
   subst hb'
   exact ⟨hg.rel.nro id _ _ hb (by simp [blkOf]), .inr ⟨_, hb, by simp [blkOf]⟩⟩
 · cases he
   exact hg.xin id v T cs hb
 · cases hb'
   exact hbase hlt
theorem frz (hg : Good cx σ a w ro g) {id v E sz : Nat} {xs : List (List AV)} (hb : look σ.m id = some (.own v E sz xs)) : ∃ ro', Good cx ⟨σ.t, (id, .froz v sz xs) :: σ.m⟩ a w ro' g ∧ ∀ b, ro b → ro' b := by
 refine ⟨fun b => ro b ∨ (g.G id).ownBlock = some b, ?_, fun b hb => .inl hb⟩
 refine Good.upd hg id _ none rfl rfl rfl (Nat.le_refl _) (by simp) (fun _ _ _ => rfl) (fun i hi => ⟨rfl, rfl⟩) (fun e he => ?_) (fun b hb => .inl hb) (fun b hb' => ?_) (fun hon => ?_) (by simp [blkOf]) (by simp) (by simp)
 · rw [hb] at he
   cases he
   exact ⟨Nat.le_refl _, fun _ => ⟨trivial, rfl, rfl⟩⟩
 · rcases hb' with h | h
   · exact ⟨hg.rel.rlt b h, .inl h⟩
   · obtain ⟨_, us, _, h2⟩ := hg.rel.ent id _ hb
     have := h2.lt b h
     exact ⟨this.2, .inr (.inr ⟨_, hb, by simpa [blkOf] using h, this.1⟩)⟩
 · simp only [entOk, rep]
   rcases own_at hg hb with ⟨rfl, h1⟩ | ⟨b, n, c, cur, us, hn, h3, h4, h5, h6, h7, h8, h9⟩
   · exact ⟨none, 0, by simpa using h1, by simp, by simp [maxLen], by simp⟩
   · subst hn
     refine ⟨_, c, h3, h5, h6, fun _ => ⟨b, 0, rfl, .inr (by simp [h3, Value.ownBlock]), ?_⟩⟩
     refine repR_of (repF_mono (w := w) (ro := ro) (fun b hb => ⟨.inl hb, rfl⟩) sz xs us h9) ?_
     · exact (fun j u hj => by
        rw [cell_of_row w _ _ _ _ _ h4]
        rw [← h8, List.getElem?_take] at hj
        split at hj
        · simpa using hj
        · cases hj)
end
section
variable {P : Program} {σ : St} {cx : Cx} {a : Act} {w : World} {ro : Nat → Prop} {g : Gh}
def toRO (m : List (Nat × Ent)) : AV → Option (List (Nat × Ent) × AV × Prop)
 | .v x => some (m, .v x, True)
 | .bb b => some (m, .bb b, True)
 | .er b => some (m, .er b, True)
 | .sl sz xs => some (m, .sl sz xs, True)
 | .rf xs => some (m, .rf xs, True)
 | .ow id ver => match look m id with
  | some (.own v E sz xs) => some ((id, .froz v sz xs) :: m, .sl sz xs, ver = v)
  | some (.froz v sz xs) => some (m, .sl sz xs, ver = v)
  | _ => none
 | _ => none
def toROs (m : List (Nat × Ent)) : List AV → Option (List (Nat × Ent) × List AV × Prop)
 | [] => some (m, [], True)
 | x :: r => match toRO m x with
  | some (m1, y, c) => match toROs m1 r with
   | some (m2, ys, d) => some (m2, y :: ys, c ∧ d)
   | none => none
  | none => none
theorem toRO_ok (hg : Good cx σ a w ro g) {x y : AV} {m' : List (Nat × Ent)} {c : Prop} (h : toRO σ.m x = some (m', y, c)) (hc : c) : ∃ ro', Good cx ⟨σ.t, m'⟩ a w ro' g ∧ On w w ro ro' g g σ.m m' ∧ ∀ u, cellR w ro g σ.m x u → rep w ro' y u := by
 have triv : ∀ z, (∀ u, cellR w ro g σ.m z u → rep w ro z u) → some (σ.m, z, True) = some (m', y, c) → ∃ ro', Good cx ⟨σ.t, m'⟩ a w ro' g ∧ On w w ro ro' g g σ.m m' ∧ ∀ u, cellR w ro g σ.m z u → rep w ro' y u := fun z hz he => by
  simp only [Option.some.injEq, Prod.mk.injEq] at he
  obtain ⟨rfl, rfl, _⟩ := he
  exact ⟨ro, hg, ⟨fun b hb => ⟨hb, rfl⟩, fun i e he => ⟨e, he, Nat.le_refl _, fun _ => ⟨e.same_refl, rfl, rfl⟩⟩⟩, hz⟩
 cases x with
 | v z => exact triv _ (fun u hu => hu) h
 | bb z => exact triv _ (fun u hu => hu) h
 | er z => exact triv _ (fun u hu => hu) h
 | sl s z => exact triv _ (fun u hu => hu) h
 | rf z => exact triv _ (fun u hu => hu) h
 | ow id ver =>
  simp only [toRO] at h
  split at h
  · rename_i v E sz xs hl
    simp only [Option.some.injEq, Prod.mk.injEq] at h
    obtain ⟨rfl, rfl, rfl⟩ := h
    obtain ⟨ro', h1, hro⟩ := frz hg hl
    have hon : On w w ro ro' g g σ.m ((id, .froz v sz xs) :: σ.m) := by
     refine ⟨fun b hb => ⟨hro b hb, rfl⟩, fun i e he => ?_⟩
     · by_cases hi : id = i
       · subst hi
         rw [hl] at he
         cases he
         exact ⟨_, look_same _ _ _, Nat.le_refl _, fun _ => ⟨trivial, rfl, rfl⟩⟩
       · exact ⟨e, by rw [look_other _ _ hi]; exact he, Nat.le_refl _, fun _ => ⟨e.same_refl, rfl, rfl⟩⟩
    refine ⟨ro', h1, hon, fun u hu => ?_⟩
    obtain ⟨e, h2, h3, h4⟩ := hu
    rw [hl] at h2
    cases h2
    have h5 := h1.rel.ent id _ (look_same _ _ _)
    rw [h4 hc rfl]
    exact h5
  · rename_i v sz xs hl
    simp only [Option.some.injEq, Prod.mk.injEq] at h
    obtain ⟨rfl, rfl, rfl⟩ := h
    refine ⟨ro, hg, ⟨fun b hb => ⟨hb, rfl⟩, fun i e he => ⟨e, he, Nat.le_refl _, fun _ => ⟨e.same_refl, rfl, rfl⟩⟩⟩, fun u hu => ?_⟩
    obtain ⟨e, h2, h3, h4⟩ := hu
    rw [hl] at h2
    cases h2
    rw [h4 hc rfl]
    exact hg.rel.ent id _ hl
  · cases h
 | _ => simp [toRO] at h
theorem On.trans {w1 w2 w3 : World} {r1 r2 r3 : Nat → Prop} {g1 g2 g3 : Gh} {m1 m2 m3 : List (Nat × Ent)} (h : On w1 w2 r1 r2 g1 g2 m1 m2) (k : On w2 w3 r2 r3 g2 g3 m2 m3) : On w1 w3 r1 r3 g1 g3 m1 m3 := by
 refine ⟨fun b hb => ⟨(k.ro b (h.ro b hb).1).1, (k.ro b (h.ro b hb).1).2.trans (h.ro b hb).2⟩, fun i e he => ?_⟩
 obtain ⟨e1, a1, a2, a3⟩ := h.m i e he
 obtain ⟨e2, b1, b2, b3⟩ := k.m i e1 a1
 refine ⟨e2, b1, Nat.le_trans a2 b2, fun hv => ?_⟩
 obtain ⟨c1, c2, c3⟩ := a3 (by omega)
 obtain ⟨d1, d2, d3⟩ := b3 (by omega)
 refine ⟨?_, d2.trans c2, d3.trans c3⟩
 cases e <;> cases e1 <;> cases e2 <;> simp_all [Ent.same]
theorem On.refl' (w : World) (ro : Nat → Prop) (g : Gh) (m : List (Nat × Ent)) : On w w ro ro g g m m := ⟨fun b hb => ⟨hb, rfl⟩, fun i e he => ⟨e, he, Nat.le_refl _, fun _ => ⟨e.same_refl, rfl, rfl⟩⟩⟩
theorem toROs_ok : ∀ {σ : St} {ro : Nat → Prop} {xs ys : List AV} {m' : List (Nat × Ent)} {c : Prop} {us : List Value}, Good cx σ a w ro g → toROs σ.m xs = some (m', ys, c) → c → cellsR w ro g σ.m xs us → ∃ ro', Good cx ⟨σ.t, m'⟩ a w ro' g ∧ On w w ro ro' g g σ.m m' ∧ repL w ro' ys us
 | σ, ro, [], ys, m', c, us, hg, h, hc, hu => by
  simp only [toROs, Option.some.injEq, Prod.mk.injEq] at h
  obtain ⟨rfl, rfl, _⟩ := h
  exact ⟨ro, hg, On.refl' _ _ _ _, hu⟩
 | σ, ro, x :: xs, ys, m', c, us, hg, h, hc, hu => by
  simp only [toROs] at h
  split at h
  · rename_i m1 y c1 h1
    split at h
    · rename_i m2 zs d h2
      simp only [Option.some.injEq, Prod.mk.injEq] at h
      obtain ⟨rfl, rfl, rfl⟩ := h
      obtain ⟨u, r, rfl, h3, h4⟩ := hu
      obtain ⟨ro1, h5, h6, h7⟩ := toRO_ok hg h1 hc.1
      obtain ⟨ro2, h8, h9, h10⟩ := toROs_ok (σ := ⟨σ.t, m1⟩) h5 h2 hc.2 (cellsR_on h6 h4)
      exact ⟨ro2, h8, h6.trans h9, u, r, rfl, rep_mono h9.ro _ _ (h7 u h3), h10⟩
    · cases h
  · cases h
theorem repL_rep1 {x : AV} {us : List Value} (h : repL w ro [x] us) : ∃ u, us = [u] ∧ rep w ro x u := by
 obtain ⟨u, r, rfl, h1, h2⟩ := h
 simp only [repL] at h2
 exact ⟨u, by rw [h2], h1⟩
def spl {α : Type} (cs : List α) (off : Nat) (xs : List α) : List α := cs.take off ++ xs ++ cs.drop (off + xs.length)
theorem fill_fold (off : Nat) : ∀ (v : List Value) (j : Nat) (cells : Array Value), off + j + v.length ≤ cells.size → (v.zipIdx j).foldl (fun cs (p : Value × Nat) => cs.setIfInBounds (off + p.2) p.1) cells = (spl cells.toList (off + j) v).toArray
 | [], j, cells, _ => by simp [spl]
 | x :: v, j, cells, h => by
  simp only [List.length_cons] at h
  rw [List.zipIdx_cons, List.foldl_cons, fill_fold off v (j + 1) _ (by simp; omega)]
  congr 1
  simp only [spl, List.length_cons]
  apply List.ext_getElem?
  intro n
  simp only [Array.toList_setIfInBounds, List.getElem?_append, List.length_append, List.length_take, List.length_set, Array.length_toList, List.getElem?_take, List.getElem?_drop, List.getElem?_set, List.length_cons]
  have e1 : min (off + (j + 1)) cells.size = off + j + 1 := by omega
  have e2 : min (off + j) cells.size = off + j := by omega
  rw [e1, e2]
  by_cases h1 : n < off + j
  · have : ¬ off + j = n := by omega
    simp [h1, show n < off + j + 1 by omega, show n < off + (j + 1) by omega, this, show n < off + j + 1 + v.length by omega, show n < off + j + (v.length + 1) by omega]
  · by_cases h2 : n = off + j
    · subst h2
      simp [show off + j < off + (j + 1) by omega, show off + j < off + j + 1 + v.length by omega, show off + j < cells.size by omega]
    · by_cases h3 : n < off + j + 1 + v.length
      · have h5 : n - (off + j) = (n - (off + j + 1)) + 1 := by omega
        simp [h1, show ¬ n < off + j + 1 by omega, h3, show n < off + j + (v.length + 1) by omega, h5]
      · have h5 : ¬ off + j = off + (j + 1) + v.length + (n - (off + j + 1 + v.length)) := by omega
        simp [h1, show ¬ n < off + j + 1 by omega, h3, show ¬ n < off + j + (v.length + 1) by omega, h5]
        congr 1
        omega
theorem fill_eq (v : Value) (off : Nat) (cells : Array Value) (h : off + v.cells.size ≤ cells.size) : v.cells.zipIdx.foldl (fun cs (c, j) => cs.setIfInBounds (off + j) c) cells = (spl cells.toList off v.cells.toList).toArray := by
 have := fill_fold off v.cells.toList 0 cells (by simpa using h)
 rw [← Array.foldl_toList]
 simpa using this
def afill (place : Nat → Option (Nat × Nat)) (m : List (Nat × Ent)) : List AV → List (Nat × AV) → Option (List AV × Prop)
 | cs, [] => some (cs, True)
 | cs, (i, x) :: r => match place i with
  | none => none
  | some (off, size) => match Nat.beq (cellsOf x).length size, Nat.ble (off + size) cs.length, solids m (cellsOf x) with
   | true, true, some c => match afill place m (spl cs off (cellsOf x)) r with
    | some (ds, d) => some (ds, c ∧ d)
    | none => none
   | _, _, _ => none
theorem cellsR_spl {m : List (Nat × Ent)} {cs xs : List AV} {us vs : List Value} (off : Nat) (h : cellsR w ro g m cs us) (k : cellsR w ro g m xs vs) : cellsR w ro g m (spl cs off xs) (spl us off vs) := by
 unfold spl
 rw [cellsR_len k]
 exact cellsR_append (cellsR_append (cellsR_take _ h) k) (cellsR_drop _ h)
theorem afill_ok (hg : Good cx σ a w ro g) {place : Nat → Option (Nat × Nat)} : ∀ {ps : List (Nat × AV)} {qs : List (Nat × Value)} {cs ds : List AV} {us : List Value} {c : Prop}, afill place σ.m cs ps = some (ds, c) → c → cellsR w ro g σ.m cs us →
 (ps.length = qs.length ∧ ∀ (j : Nat) (p : Nat × AV) (q : Nat × Value), ps[j]? = some p → qs[j]? = some q → q.1 = p.1 ∧ VR w ro g σ.m p.2 q.2) → ∃ vs, Instr.fill place us.toArray qs = some vs.toArray ∧ cellsR w ro g σ.m ds vs
 | [], qs, cs, ds, us, c, h, hc, hu, hq => by
  simp only [afill, Option.some.injEq, Prod.mk.injEq] at h
  obtain ⟨rfl, _⟩ := h
  have : qs = [] := List.eq_nil_of_length_eq_zero hq.1.symm
  subst this
  exact ⟨us, rfl, hu⟩
 | (i, x) :: ps, qs, cs, ds, us, c, h, hc, hu, hq => by
  cases qs with
  | nil => simp at hq
  | cons q qs =>
   obtain ⟨i', v⟩ := q
   obtain ⟨hi, hv⟩ := hq.2 0 (i, x) (i', v) rfl rfl
   simp only at hi hv
   subst hi
   simp only [afill] at h
   split at h
   · cases h
   · rename_i off size hpl
     split at h
     · rename_i c1 hb1 hb2 hs
       split at h
       · rename_i es d hf
         simp only [Option.some.injEq, Prod.mk.injEq] at h
         obtain ⟨rfl, rfl⟩ := h
         obtain ⟨h1, h2⟩ := VR_cells hg.rel hv hs hc.1
         have e1 : v.cells.size = size := by rw [← Array.length_toList, cellsR_len h1]; exact Nat.eq_of_beq_eq_true hb1
         have e2 : off + size ≤ us.length := by rw [cellsR_len hu]; exact Nat.le_of_ble_eq_true hb2
         have h3 := cellsR_spl off hu h1
         obtain ⟨vs, h4, h5⟩ := afill_ok hg hf hc.2 h3 ⟨by simpa using hq.1, fun j p q hp hq' => hq.2 (j + 1) p q (by simpa using hp) (by simpa using hq')⟩
         refine ⟨vs, ?_, h5⟩
         simp only [Instr.fill, hpl]
         rw [if_neg (by simp [e1]; omega), fill_eq v off us.toArray (by simp [e1]; omega)]
         exact h4
       · cases h
     · cases h
def parts (σ : St) : List (Nat × Operand) → List (Nat × AV)
 | [] => []
 | (i, x) :: r => (i, oget σ x) :: parts σ r
theorem parts_ok (hg : Good cx σ a w ro g) : ∀ ps : List (Nat × Operand), (parts σ ps).length = (ps.map fun (i, x) => (i, a.eval x)).length ∧ ∀ (j : Nat) (p : Nat × AV) (q : Nat × Value), (parts σ ps)[j]? = some p → (ps.map fun (i, x) => (i, a.eval x))[j]? = some q → q.1 = p.1 ∧ VR w ro g σ.m p.2 q.2
 | [] => ⟨rfl, fun j p q h => by simp [parts] at h⟩
 | (i, x) :: r => by
  obtain ⟨h1, h2⟩ := parts_ok hg r
  refine ⟨by simp only [parts, List.length_cons, List.map_cons]; rw [h1], fun j p q hp hq => ?_⟩
  cases j with
  | zero =>
   simp only [parts, List.getElem?_cons_zero, Option.some.injEq, List.map_cons] at hp hq
   subst hp
   subst hq
   exact ⟨rfl, hg.og x⟩
  | succ j => exact h2 j p q (by simpa [parts] using hp) (by simpa using hq)
def splace (T : List (Nat × Ty)) : List (Nat × Nat) → Option (List (Nat × Nat))
 | [] => some []
 | (off, t) :: r => match look T t with
  | some y => match splace T r with
   | some l => some ((off, y.size) :: l)
   | none => none
  | none => none
def nth {α : Type} : List α → Nat → Option α
 | [], _ => none
 | x :: _, 0 => some x
 | _ :: r, n + 1 => nth r n
theorem nth_eq {α : Type} : ∀ (l : List α) (n : Nat), nth l n = l[n]?
 | [], _ => by simp [nth]
 | x :: r, 0 => by simp [nth]
 | x :: r, n + 1 => by simp [nth, nth_eq r n]
theorem run_places {T : List (Nat × Ty)} (hT : TOk P T) : ∀ (fs : List Field) (l : List (Nat × Nat)), splace T (fs.map fun f => (f.offset, f.type)) = some l → ∀ w' : World, (fs.mapM (fun f => Prod.mk f.offset <$> sizeOf f.type : Field → Sem (Nat × Nat))).run P w' = .ok l w'
 | [], l, h, w' => by simp [splace] at h; subst h; simp
 | f :: fs, l, h, w' => by
  simp only [List.map_cons, splace] at h
  split at h
  · rename_i y hy
    split at h
    · rename_i l' hl
      cases h
      have := run_places hT fs l' hl w'
      simp only [List.mapM_cons]
      simp [run_sizeOf (hT _ _ hy), this]
    · cases h
  · cases h
theorem PV.build {T : List (Nat × Ty)} {t : Nat} {y : Ty} {fs l : List (Nat × Nat)} {ps : List (Nat × Operand)} {ds : List AV} {c : Prop} (hT : TOk P T) (hy : look T t = some y) (hk : y.k = .strct fs) (hl : splace T fs = some l) (hf : afill (nth l) σ.m (zcells y.z) (parts σ ps) = some (ds, c)) (hc : c) :
 PV P σ (.build t ps.toArray) (.ag ds) := by
 intro cx a w ro g o hg ho
 obtain ⟨fields, h1, h2⟩ := (hT t y hy).strct hk
 obtain ⟨i, h3, _, _, h4⟩ := (hT t y hy).info
 rw [← h2] at hl
 obtain ⟨vs, h5, h6⟩ := afill_ok hg hf hc (cellsR_ofc (m := σ.m) y.z.cells.toList) (parts_ok hg ps)
 refine ⟨.agg vs.toArray, fun w' => ?_, vs, rfl, h6⟩
 have h7 := run_places hT fields.toList l hl w'
 have h8 : (fun i => l[i]?) = nth l := funext fun i => (nth_eq l i).symm
 have h9 : (fields.mapM (fun f => Prod.mk f.offset <$> sizeOf f.type : Field → Sem (Nat × Nat))).run P w' = .ok l.toArray w' := by
  rw [Array.mapM_eq_mapM_toList]
  simp [h7]
 simp only [execOp, ho, Instr.build]
 simp [zeroValue, typeInfo, h3, h4, run_underlying h1, h9, h8]
 simp at h5
 simp [h5]
end
section
variable {P : Program} {σ : St} {cx : Cx} {a : Act} {w : World} {ro : Nat → Prop} {g : Gh}
theorem mkOwn (hg : Good cx σ a w ro g) (id E : Nat) {sz : Nat} {xs : List (List AV)} {us : List Value} {v : Value} {w' : World} (hgr : w.grownBy w' none) (hown : w'.ownsRow cx.w0.heap.size E sz v xs.length us) (hf : repF w ro sz xs us) (hsz : 0 < sz)
 (hnew : ∀ b, v.ownBlock = some b → w.heap.size ≤ b) : Good cx ⟨σ.t, (id, .own (nxt σ.m id) E sz xs) :: σ.m⟩ a w' ro (upG g id v) ∧ VR w' ro (upG g id v) ((id, .own (nxt σ.m id) E sz xs) :: σ.m) (.ow id (nxt σ.m id)) v := by
 refine ⟨Good.upd hg id (.own (nxt σ.m id) E sz xs) none hgr.os hgr.tape hgr.output hgr.size (by simp) (fun k hk _ => hgr.block k hk (by simp)) (fun i hi => ⟨by simp [upG, hi], rfl⟩) (fun e he => ?_) (fun b hb => hb) (fun b hb => ⟨Nat.lt_of_lt_of_le (hg.rel.rlt b hb) hgr.size, .inl hb⟩) (fun hon => ?_) (fun b hb => ?_) (by simp) (by simp), _, look_same _ _ _, Nat.le_refl _, fun _ _ => by simp [upG]⟩
 · have := nxt_lt he
   exact ⟨Nat.le_of_lt this, fun h => absurd h (Nat.ne_of_lt this)⟩
 · exact ⟨hsz, us, repF_mono hon.ro _ _ _ hf, by simpa [upG] using hown⟩
 · simp only [blkOf, upG, if_true] at hb
   have := hnew b hb
   exact ⟨fun h => by have := hg.rel.rlt _ h; omega, .inl this⟩
def chunk {α : Type} (sz : Nat) : Nat → List α → List (List α)
 | 0, _ => []
 | n + 1, l => l.take sz :: chunk sz n (l.drop sz)
theorem chunk_len {α : Type} (sz : Nat) : ∀ (n : Nat) (l : List α), (chunk sz n l).length = n
 | 0, _ => rfl
 | n + 1, l => by simp [chunk, chunk_len sz n]
theorem repL_append : ∀ {xs ys : List AV} {us : List Value}, repL w ro (xs ++ ys) us → ∃ c r, us = c ++ r ∧ repL w ro xs c ∧ repL w ro ys r
 | [], ys, us, h => ⟨[], us, rfl, rfl, h⟩
 | x :: xs, ys, us, h => by
  obtain ⟨u, r, rfl, h1, h2⟩ := h
  obtain ⟨c, r', rfl, h3, h4⟩ := repL_append h2
  exact ⟨u :: c, r', rfl, ⟨u, c, rfl, h1, h3⟩, h4⟩
theorem repF_chunk (sz : Nat) : ∀ (n : Nat) (l : List AV) (us : List Value), l.length = n * sz → repL w ro l us → repF w ro sz (chunk sz n l) us
 | 0, l, us, hl, h => by
  have : l = [] := List.eq_nil_of_length_eq_zero (by simpa using hl)
  subst this
  exact h
 | n + 1, l, us, hl, h => by
  rw [Nat.add_mul, Nat.one_mul] at hl
  rw [← List.take_append_drop sz l] at h
  obtain ⟨c, r, rfl, h1, h2⟩ := repL_append h
  exact ⟨c, r, rfl, by rw [List.length_take]; omega, h1, repF_chunk sz n _ r (by rw [List.length_drop]; omega) h2⟩
def afillS (m : List (Nat × Ent)) (sz : Nat) : Nat → List (Nat × AV) → Option (List AV × Prop)
 | _, [] => some ([], True)
 | k, (i, x) :: r => match Nat.beq i k, Nat.beq (cellsOf x).length sz, solids m (cellsOf x) with
  | true, true, some c => match afillS m sz (k + 1) r with
   | some (ds, d) => some (cellsOf x ++ ds, c ∧ d)
   | none => none
  | _, _, _ => none
theorem afillS_ok (hg : Good cx σ a w ro g) {sz : Nat} : ∀ {ps : List (Nat × AV)} {qs : List (Nat × Value)} {k : Nat} {ds : List AV} {c : Prop} (don rest : List Value), afillS σ.m sz k ps = some (ds, c) → c →
 (ps.length = qs.length ∧ ∀ (j : Nat) (p : Nat × AV) (q : Nat × Value), ps[j]? = some p → qs[j]? = some q → q.1 = p.1 ∧ VR w ro g σ.m p.2 q.2) → don.length = k * sz → rest.length = qs.length * sz →
 ∃ vs, Instr.fill (fun i => some (i * sz, sz)) (don ++ rest).toArray qs = some (don ++ vs).toArray ∧ cellsR w ro g σ.m ds vs
 | [], qs, k, ds, c, don, rest, h, hc, hq, h1, h2 => by
  simp only [afillS, Option.some.injEq, Prod.mk.injEq] at h
  obtain ⟨rfl, _⟩ := h
  have : qs = [] := List.eq_nil_of_length_eq_zero hq.1.symm
  subst this
  have : rest = [] := List.eq_nil_of_length_eq_zero (by simpa using h2)
  subst this
  exact ⟨[], rfl, rfl⟩
 | (i, x) :: ps, qs, k, ds, c, don, rest, h, hc, hq, h1, h2 => by
  cases qs with
  | nil => simp at hq
  | cons q qs =>
   obtain ⟨i', v⟩ := q
   obtain ⟨hi, hv⟩ := hq.2 0 (i, x) (i', v) rfl rfl
   simp only at hi hv
   subst hi
   simp only [afillS] at h
   split at h
   · rename_i c1 hb0 hb1 hs
     split at h
     · rename_i es d hf
       simp only [Option.some.injEq, Prod.mk.injEq] at h
       obtain ⟨rfl, rfl⟩ := h
       obtain ⟨g1, g2⟩ := VR_cells hg.rel hv hs hc.1
       have e0 := Nat.eq_of_beq_eq_true hb0
       subst e0
       have e1 : v.cells.size = sz := by rw [← Array.length_toList, cellsR_len g1]; exact Nat.eq_of_beq_eq_true hb1
       simp only [List.length_cons, Nat.add_mul, Nat.one_mul] at h2
       obtain ⟨vs, h4, h5⟩ := afillS_ok hg (don ++ v.cells.toList) (rest.drop sz) hf hc.2 ⟨by simpa using hq.1, fun j p q hp hq' => hq.2 (j + 1) p q (by simpa using hp) (by simpa using hq')⟩ (by simp [h1, e1, Nat.add_mul]) (by simp; omega)
       refine ⟨v.cells.toList ++ vs, ?_, cellsR_append g1 h5⟩
       simp only [Instr.fill]
       rw [if_neg (by simp [e1]; omega), fill_eq v _ _ (by simp [e1]; omega)]
       have hl : v.cells.toList.length = sz := by rw [Array.length_toList]; exact e1
       have : spl (don ++ rest) (i' * sz) v.cells.toList = don ++ v.cells.toList ++ rest.drop sz := by
        unfold spl
        rw [hl, ← h1, List.take_left, List.drop_append, List.drop_eq_nil_of_le (by omega), List.nil_append]
        congr 2
        omega
       show Instr.fill _ (spl (don ++ rest) (i' * sz) v.cells.toList).toArray qs = _
       rw [this, h4, List.append_assoc]
     · cases h
   · cases h
theorem ES.lit {t id e len sz : Nat} {y z : Ty} {ps : List (Nat × Operand)} {ds ds' : List AV} {m1 : List (Nat × Ent)} {c c' : Prop} (hT : TyOk P t y) (hk : y.k = .slice e) (hz : TyOk P e z) (hs : z.size = sz) (h0 : 0 < sz) (hzz : z.z.cells.size = sz) (hlen : (parts σ ps).length = len) (hsmall : len * sz ≤ 16777216)
 (hf : afillS σ.m sz 0 (parts σ ps) = some (ds, c)) (hc : c) (hd : ds.length = len * sz) (hr : toROs σ.m ds = some (m1, ds', c')) (hc' : c') (hd' : ds'.length = len * sz) :
 ES P σ (.buildSlice t len ps.toArray) (.ow id (nxt m1 id)) ((id, .own (nxt m1 id) e sz (chunk sz len ds')) :: m1) true := by
 intro cx a w ro g o hg ho
 subst hs
 obtain ⟨i, h3, h31, _, h4⟩ := hz.info
 have hps := parts_ok (a := a) hg ps
 have hql : (ps.map fun (i, x) => (i, a.eval x)).length = len := hps.1.symm.trans hlen
 obtain ⟨vs, h5, h6⟩ := afillS_ok hg [] (madeCells z.z.cells (len * z.size)).toList hf hc hps (by simp) (by rw [hql]; simp [size_madeCells])
 obtain ⟨ro1, h7, h8, h9⟩ := toROs_ok hg hr hc' h6
 have hvl : vs.length = len * z.size := by rw [cellsR_len h6, hd]
 have hmax : len ≤ maxLen := by
  have := Nat.le_mul_of_pos_right len h0
  simp only [maxLen]
  omega
 have hgr : w.grownBy (w.alloc (.cells vs.toArray e)) none := World.grownBy_alloc w _ none
 have hown : (w.alloc (.cells vs.toArray e)).ownsRow cx.w0.heap.size e z.size (.slice (some ⟨w.heap.size, 0, none⟩) len len) (chunk z.size len ds').length vs := by
  rw [chunk_len]
  exact ⟨hvl, .inr ⟨w.heap.size, len, vs.toArray, rfl, hg.hsize, heap_alloc_new w _, Nat.le_refl _, hmax, by simpa using hvl, by simp [← hvl]⟩⟩
 obtain ⟨h10, h11⟩ := mkOwn h7 id e hgr hown (repF_chunk z.size len ds' vs hd' h9) h0 (fun b hb => by simp [Value.ownBlock] at hb; omega)
 refine ⟨.slice (some ⟨w.heap.size, 0, none⟩) len len, _, ro1, _, .value _, ?_, .inl rfl, h10, h11, by simp, fun _ k hk => Below.heap_alloc w _ k hk⟩
 have hu := hT.slice hk
 have hne : ¬ len * z.size > 2 ^ 24 := by omega
 simp only [List.nil_append] at h5
 have h12 : (fun i => some (i * z.size, z.size)) = (fun i => some (i * z.size, z.size) : Nat → Option (Nat × Nat)) := rfl
 by_cases hl0 : len * z.size = 0
 · have hv0 : vs = [] := List.eq_nil_of_length_eq_zero (by omega)
   have hp0 : ps = [] := by
    have : len = 0 := by
     rcases Nat.mul_eq_zero.1 hl0 with h | h
     · exact h
     · omega
    have : ps.length = 0 := by simpa [this] using hql
    exact List.eq_nil_of_length_eq_zero this
   subst hv0
   subst hp0
   simp [execOp, ho, Instr.buildSlice, run_underlying hu, run_sizeOf hz, hne, hl0, Instr.fill, newRow, Array.range_zero']
 · have h13 : ((Array.range (len * z.size)).map (z.z.cells[· % z.z.cells.size]!)) = (madeCells z.z.cells (len * z.size)).toList.toArray := by rw [Array.toArray_toList]; rfl
   simp only [execOp, ho, Instr.buildSlice]
   simp [run_underlying hu, run_sizeOf hz, hl0, zeroValue, typeInfo, h3, h4, h13, newRow]
   rw [if_neg (by omega)]
   simp at h5
   simp [h5]
theorem app_run (base : Nat) (t ty e : TypeId) (i : TypeInfo) (z : Value) (size bytes : Nat) (ht : P.underlying t = some (.slice e)) (hi : P.info? e = some i) (hz : i.zero = some z)
 (hsize : i.size = size) (hby : i.bytes = bytes) (hzs : z.cells.size = size) (hsz : 0 < size)
 (v : Value) (n : Nat) (xs : List Value) (hown : w.ownsRow base e size v n xs)
 (a : Addr) (m c : Nat) (news : List Value) (hl : news.length = m * size) (hnews : ∀ j u, news[j]? = some u → w.cell? (a.add j) = some u) (h1 : ∀ u ∈ news, u.oneCell' = true) (hm : 0 < m)
 (h63 : n + m ≤ maxLen) (hbytes : (n + m) * bytes ≤ 140737488355328) (hbase : base ≤ w.heap.size) :
 ∃ v' w', (Builtin.append_ #[t, t] ty #[v, .slice (some a) m c]).run P w = .ok v' w' ∧ w'.ownsRow base e size v' (n + m) (xs ++ news) ∧ w.grownBy w' v.ownBlock ∧
  (v'.ownBlock = v.ownBlock ∨ ∃ b, v'.ownBlock = some b ∧ w.heap.size ≤ b) := by
 subst hsize
 subst hby
 have hsmall : n + m ≤ 9223372036854775807 := by simp only [maxLen] at h63; omega
 have hlen : (xs ++ news).length = (n + m) * i.size := by rw [List.length_append, hown.1, hl, Nat.add_mul]
 have grown : ∀ (old : Nat), old < n + m → ∀ (row : Option Nat),
  (w.drew.alloc (.cells (xs.toArray ++ news.toArray ++ Builtin.zeroCells z.cells (grownCap w (n + m) old e - (n + m))) e)).ownsRow base e i.size
   (.slice (some ⟨w.heap.size, 0, none⟩) (n + m) (grownCap w (n + m) old e)) (n + m) (xs ++ news) ∧
  w.grownBy (w.drew.alloc (.cells (xs.toArray ++ news.toArray ++ Builtin.zeroCells z.cells (grownCap w (n + m) old e - (n + m))) e)) row := by
  intro old ho row
  have hge := grownCap_ge w (n + m) old e
  have hcm : grownCap w (n + m) old e ≤ maxLen := grownCap_le_maxLen w (n + m) old e h63
  refine ⟨⟨hlen, .inr ⟨w.heap.size, _, _, rfl, hbase, heap_alloc_new w.drew _, hge, hcm, ?_, ?_⟩⟩, ⟨rfl, rfl, rfl, by simp, fun k hk _ => Below.heap_alloc w.drew _ k hk⟩⟩
  · simp only [Array.size_append, List.size_toArray, size_zeroCells, hzs, hown.1, hl, ← Nat.add_mul]
    congr 1
    omega
  · simp only [Array.toList_append, List.append_assoc]
    rw [← List.append_assoc, ← hlen]
    exact List.take_left
 rcases hown.2 with ⟨rfl, rfl⟩ | ⟨g, cap, cur, rfl, hbg, hg, hnc, hcm, hcs, htake⟩
 · have hx : xs = [] := List.eq_nil_of_length_eq_zero (by simpa using hown.1)
   subst hx
   have hr := run_append_nil (P := P) w t ty e i z ht hi hz a m c news hl hnews (by omega) (by omega) (by have hb := hbytes; simp only [Nat.zero_add] at hb; omega)
   have hgr := grown 0 (by omega) (Value.ownBlock (.slice none 0 0))
   simp only [Nat.zero_add, List.nil_append, Array.empty_append] at hgr ⊢
   exact ⟨_, _, hr, hgr.1, hgr.2, .inr ⟨w.heap.size, rfl, Nat.le_refl _⟩⟩
 · by_cases hroom : n + m ≤ cap
   · have hfit : n * i.size + news.length ≤ cur.size := by rw [hl, hcs, ← Nat.add_mul]; exact Nat.mul_le_mul_right _ hroom
     have hr := run_append_room (P := P) w t ty e i ht hi g n cap cur hg a m c news hl hnews h1 hroom hfit
     refine ⟨_, _, hr, ⟨hlen, .inr ⟨g, cap, _, rfl, hbg, setRow_heap w g cur _ e _ hg, hroom, hcm, ?_, ?_⟩⟩, ⟨rfl, rfl, rfl, by simp, fun k _ hk => setRow_other w g k _ (fun e => hk (by simp [Value.ownBlock, e]))⟩, .inl rfl⟩
     · simp only [List.size_toArray, List.length_append, List.length_take, List.length_drop, Array.length_toList]
       omega
     · rw [htake, ← hlen]
       exact List.take_left
   · have holds : ∀ j u, xs[j]? = some u → w.cell? ((⟨g, 0, none⟩ : Addr).add j) = some u := hown.cells (g := g) rfl
     have hr := run_append_grow (P := P) w t ty e i z ht hi hz ⟨g, 0, none⟩ n cap xs hown.1 holds a m c news hl hnews (by omega) (by omega) (growslice_fits (by omega) hbytes)
     have hgr := grown cap (by omega) (Value.ownBlock (.slice (some ⟨g, 0, none⟩) n cap))
     exact ⟨_, _, hr, hgr.1, hgr.2, .inr ⟨w.heap.size, rfl, Nat.le_refl _⟩⟩
theorem app_zero (t ty e : TypeId) (i : TypeInfo) (ht : P.underlying t = some (.slice e)) (hi : P.info? e = some i) (A B : Option Addr) (n cap c : Nat) (hn : n ≤ cap) :
 (Builtin.append_ #[t, t] ty #[.slice A n cap, .slice B 0 c]).run P w = .ok (.slice A n cap) w := by
 have hf : ∀ s, (Builtin.firstCells s 0 (.slice B 0 c)).run P w = .ok #[] w := fun s => by
  cases B <;> simp [Builtin.firstCells, loadCells, loadCellsFrom]
 cases A <;> simp [Builtin.append_, run_underlying ht, sizeOf, typeInfo, hi, Builtin.lenOf, hn, hf, storeCells]
def rsz (m : List (Nat × Ent)) : AV → Nat → Bool
 | .sl s _, sz => Nat.beq s sz
 | .ow id _, sz => match look m id with
  | some (.own _ _ s _) => Nat.beq s sz
  | some (.froz _ s _) => Nat.beq s sz
  | _ => false
 | .v _, _ => true
 | _, _ => false
theorem rows_cells (hg : Good cx σ a w ro g) {x : AV} {u : Value} (hv : VR w ro g σ.m x u) {xs : List (List AV)} {sz : Nat} {c : Prop} (h : rows σ x = some (xs, c)) (hc : c) (hs : rsz σ.m x sz = true) (hp : 0 < xs.length) : ∃ b o c' us, u = .slice (some ⟨b, o, none⟩) xs.length c' ∧ repF w ro sz xs us ∧ AtC w b o us := by
 unfold rows at h
 split at h
 · simp only [Option.some.injEq, Prod.mk.injEq] at h
   obtain ⟨rfl, rfl⟩ := h
   have hs := Nat.eq_of_beq_eq_true hs
   subst hs
   obtain ⟨A, c', h1, _, _, h2⟩ := hv
   obtain ⟨b, o, h3, _, h4⟩ := h2 hp
   obtain ⟨us, h5, h6⟩ := repF_of h4
   exact ⟨b, o, c', us, by rw [h1, h3], h5, h6⟩
 · simp only [Option.some.injEq, Prod.mk.injEq] at h
   obtain ⟨rfl, rfl⟩ := h
   simp at hp
 · rename_i id ver
   obtain ⟨e, h1, h2, h3⟩ := hv
   simp only [rsz] at hs
   split at h
   · rename_i v E s ys hk
     simp only [Option.some.injEq, Prod.mk.injEq] at h
     obtain ⟨rfl, rfl⟩ := h
     rw [hk] at h1 hs
     cases h1
     have hs := Nat.eq_of_beq_eq_true hs
     subst hs
     rcases own_at hg hk with ⟨rfl, _⟩ | ⟨b, n, c', cur, us, hn, h4, h5, h6, h7, h8, h9, h10⟩
     · simp at hp
     · subst hn
       refine ⟨b, 0, c', us, (h3 hc rfl).trans h4, h10, fun j u hj => ?_⟩
       rw [cell_of_row w _ _ _ _ _ h5]
       rw [← h9, List.getElem?_take] at hj
       split at hj
       · simpa using hj
       · cases hj
   · rename_i v s ys hk
     simp only [Option.some.injEq, Prod.mk.injEq] at h
     obtain ⟨rfl, rfl⟩ := h
     rw [hk] at h1 hs
     cases h1
     have hs := Nat.eq_of_beq_eq_true hs
     subst hs
     have h4 := hg.rel.ent id _ hk
     simp only [entOk, rep] at h4
     obtain ⟨A, c', h5, _, _, h6⟩ := h4
     obtain ⟨b, o, h7, _, h8⟩ := h6 hp
     obtain ⟨us, h9, h10⟩ := repF_of h8
     exact ⟨b, o, c', us, by rw [h3 hc rfl, h5, h7], h9, h10⟩
   · cases h
 · cases h
theorem look_cons {α : Type} {k n : Nat} {x : α} {r : List (Nat × α)} : look ((k, x) :: r) n = if k = n then some x else look r n := by
 by_cases h : k = n
 · subst h; rw [look_same, if_pos rfl]
 · rw [look_other _ _ h, if_neg h]
end
section
variable {P : Program} {σ : St} {cx : Cx} {a : Act} {w : World} {ro : Nat → Prop} {g : Gh}
theorem app_any (hg : Good cx σ a w ro g) {t ty e sz : Nat} {y z : Ty} (hT : TyOk P t y) (hk : y.k = .slice e) (hz : TyOk P e z) (hs : z.size = sz) (h0 : 0 < sz) (hzz : z.z.cells.size = sz) {v : Value} {xs ys : List (List AV)} {us : List Value}
 (hown : w.ownsRow cx.w0.heap.size e sz v xs.length us) {x : AV} {u : Value} {c : Prop} (hv : VR w ro g σ.m x u) (h : rows σ x = some (ys, c)) (hc : c) (hr : rsz σ.m x sz = true) (hb0 : 0 < z.bytes) (hb : xs.length + ys.length ≤ 140737488355328 / z.bytes) :
 ∃ v' w' vs, (Builtin.append_ #[t, t] ty #[v, u]).run P w = .ok v' w' ∧ repF w ro sz ys vs ∧ w'.ownsRow cx.w0.heap.size e sz v' (xs ++ ys).length (us ++ vs) ∧ w.grownBy w' v.ownBlock ∧ (v'.ownBlock = v.ownBlock ∨ ∃ b, v'.ownBlock = some b ∧ w.heap.size ≤ b) := by
 obtain ⟨i, h3, h31, h32, h4⟩ := hz.info
 have hu := hT.slice hk
 have hbytes : (xs.length + ys.length) * z.bytes ≤ 140737488355328 := (Nat.le_div_iff_mul_le hb0).1 hb
 have h63 : xs.length + ys.length ≤ maxLen := by
  have := Nat.le_mul_of_pos_right (xs.length + ys.length) hb0
  simp only [maxLen]
  omega
 rw [List.length_append]
 by_cases hp : 0 < ys.length
 · obtain ⟨b, o, c', vs, rfl, h5, h6⟩ := rows_cells hg hv h hc hr hp
   obtain ⟨v', w', h7, h8, h9, h10⟩ := app_run (w := w) (P := P) cx.w0.heap.size t ty e i z.z sz z.bytes hu h3 h4 (h31.trans hs) h32 hzz h0 v xs.length us hown ⟨b, o, none⟩ ys.length c' vs (repF_len h5) (fun j u hj => by rw [Addr.add_lit]; exact h6 j u hj) (repF_one h5) hp h63 hbytes hg.hsize
   exact ⟨v', w', vs, h7, h5, h8, h9, h10⟩
 · have hys : ys = [] := List.eq_nil_of_length_eq_zero (by omega)
   subst hys
   obtain ⟨B, c', rfl⟩ := rows_hdr hg hv h hc
   have hsl : ∃ A n cap, v = .slice A n cap ∧ n ≤ cap := by
    rcases hown.2 with ⟨rfl, _⟩ | ⟨g', cap, cur, rfl, _, _, h5, _⟩
    · exact ⟨none, 0, 0, rfl, Nat.le_refl _⟩
    · exact ⟨_, _, _, rfl, h5⟩
   obtain ⟨A, n, cap, rfl, hn⟩ := hsl
   refine ⟨_, w, [], app_zero t ty e i hu h3 A B n cap c' hn, rfl, by simpa using hown, ⟨rfl, rfl, rfl, Nat.le_refl _, fun _ _ _ => rfl⟩, .inl rfl⟩
theorem ES.app {t e sz id ver v : Nat} {s x : Operand} {y z : Ty} {xs ys : List (List AV)} {c : Prop} (hT : TyOk P t y) (hk : y.k = .slice e) (hz : TyOk P e z) (hs : z.size = sz) (h0 : 0 < sz) (hzz : z.z.cells.size = sz)
 (hp : oget σ s = .ow id ver) (hl : look σ.m id = some (.own v e sz xs)) (hv : ver = v) (h : rows σ (oget σ x) = some (ys, c)) (hc : c) (hr : rsz σ.m (oget σ x) sz = true) (hb0 : 0 < z.bytes) (hb : xs.length + ys.length ≤ 140737488355328 / z.bytes) :
 ES P σ (.call { callee := .builtin .append, args := #[s, x], argTypes := #[t, t] }) (.ow id (v + 1)) ((id, .own (v + 1) e sz (xs ++ ys)) :: σ.m) false := by
 intro cx a w ro g o hg ho
 have hsv := hg.og s
 rw [hp] at hsv
 obtain ⟨e0, f1, f2, f3⟩ := hsv
 rw [hl] at f1
 cases f1
 have f4 := f3 hv rfl
 obtain ⟨_, us, f5, f6⟩ := hg.rel.ent id _ hl
 obtain ⟨v', w', vs, g1, g2, g3, g4, g5⟩ := app_any (ty := o.type) hg hT hk hz hs h0 hzz f6 (hg.og x) h hc hr hb0 hb
 refine ⟨v', w', ro, upG g id v', .value v', ?_, .inl rfl, Good.upd hg id (.own (v + 1) e sz (xs ++ ys)) (g.G id).ownBlock g4.os g4.tape g4.output g4.size (fun b hb => ⟨_, hl, hb⟩) (fun k hk hne => g4.block k hk (fun e => hne e.symm)) (fun i hi => ⟨by simp [upG, hi], rfl⟩) (fun e1 he => ?_) (fun b hb => hb) (fun b hb => ⟨Nat.lt_of_lt_of_le (hg.rel.rlt b hb) g4.size, .inl hb⟩) (fun hon => ?_) (fun b hb' => ?_) (by simp) (fun b hb' hlt => ?_), ?_, g4.size, by simp⟩
 · simp [execOp, ho, resolve, invoke, builtin, f4, g1]
 · rw [hl] at he
   cases he
   exact ⟨Nat.le_succ _, fun h => absurd h (Nat.ne_of_lt (Nat.lt_succ_self _))⟩
 · refine ⟨h0, us ++ vs, ?_, by simpa [upG] using g3⟩
   have e1 := repF_mono hon.ro _ _ _ f5
   have e2 := repF_mono hon.ro _ _ _ g2
   clear hon g1 g3 h hb f6 hl f2 f3
   induction xs generalizing us with
   | nil => simp only [repF] at e1; subst e1; simpa using e2
   | cons q qs ih =>
    obtain ⟨c1, r1, rfl, d1, d2, d3⟩ := e1
    obtain ⟨c2, r2, q1, q2, q3, q4⟩ := f5
    have hcc : c1 = c2 ∧ r1 = r2 := by
     have hlen : c1.length = c2.length := by rw [repL_len d2, repL_len q3]
     exact List.append_inj q1 hlen
    obtain ⟨rfl, rfl⟩ := hcc
    exact ⟨c1, r1 ++ vs, by simp, d1, d2, ih r1 q4 d3⟩
 · simp only [blkOf, upG, if_true] at hb'
   rcases g5 with g5 | ⟨b1, g6, g7⟩
   · rw [g5] at hb'
     exact ⟨hg.rel.nro id _ b hl hb', .inr ⟨_, hl, hb'⟩⟩
   · rw [g6] at hb'
     cases hb'
     exact ⟨fun hh => by have := hg.rel.rlt _ hh; omega, .inl g7⟩
 · have := (f6.lt b hb').1
   omega
 · exact ⟨_, look_same _ _ _, Nat.le_refl _, fun _ _ => by simp [upG]⟩
theorem ES.app0 {t e sz id : Nat} {s x : Operand} {y z : Ty} {ys : List (List AV)} {c : Prop} (hT : TyOk P t y) (hk : y.k = .slice e) (hz : TyOk P e z) (hs : z.size = sz) (h0 : 0 < sz) (hzz : z.z.cells.size = sz)
 (hp : oget σ s = .v (.slice none 0 0)) (h : rows σ (oget σ x) = some (ys, c)) (hc : c) (hr : rsz σ.m (oget σ x) sz = true) (hb0 : 0 < z.bytes) (hb : ys.length ≤ 140737488355328 / z.bytes) :
 ES P σ (.call { callee := .builtin .append, args := #[s, x], argTypes := #[t, t] }) (.ow id (nxt σ.m id)) ((id, .own (nxt σ.m id) e sz ys) :: σ.m) true := by
 intro cx a w ro g o hg ho
 have f4 := (hg.sv (x := s) (u := .slice none 0 0) (by rw [hp]; rfl)).1
 obtain ⟨v', w', vs, g1, g2, g3, g4, g5⟩ := app_any (ty := o.type) (xs := []) (us := []) hg hT hk hz hs h0 hzz (World.ownsRow_nil w _ e sz) (hg.og x) h hc hr hb0 (by simpa using hb)
 simp only [List.nil_append] at g3
 obtain ⟨h1, h2⟩ := mkOwn hg id e g4 g3 g2 h0 (fun b hb => by
  rcases g5 with g5 | ⟨b1, g6, g7⟩
  · rw [g5] at hb; simp [Value.ownBlock] at hb
  · rw [g6] at hb; cases hb; exact g7)
 exact ⟨v', w', ro, _, .value v', by simp [execOp, ho, resolve, invoke, builtin, f4, g1], .inl rfl, h1, h2, g4.size, fun _ k hk => g4.block k hk (by simp [Value.ownBlock])⟩
theorem repF_idx {sz : Nat} : ∀ {xs : List (List AV)} {us : List Value}, us.length = xs.length * sz → (∀ j x, xs[j]? = some x → x.length = sz ∧ repL w ro x ((us.drop (j * sz)).take sz)) → repF w ro sz xs us
 | [], us, h, _ => List.eq_nil_of_length_eq_zero (by simpa using h)
 | x :: xs, us, h, k => by
  obtain ⟨h1, h2⟩ := k 0 x rfl
  simp only [List.length_cons, Nat.add_mul, Nat.one_mul] at h
  refine ⟨us.take sz, us.drop sz, (List.take_append_drop _ _).symm, h1, by simpa using h2, repF_idx (by rw [List.length_drop]; omega) (fun j y hj => ?_)⟩
  obtain ⟨h3, h4⟩ := k (j + 1) y (by simpa using hj)
  refine ⟨h3, ?_⟩
  rw [List.drop_drop, show sz + j * sz = (j + 1) * sz by rw [Nat.add_mul]; omega]
  exact h4
theorem repF_made {z : Value} {sz n m : Nat} (hz : z.cells.size = sz) (hs : 0 < sz) (hr : repL w ro (zcells z) z.cells.toList) (hnm : n ≤ m) : repF w ro sz (List.replicate n (zcells z)) ((madeCells z.cells (m * sz)).toList.take (n * sz)) := by
 have hle : n * sz ≤ m * sz := Nat.mul_le_mul_right _ hnm
 refine repF_idx (by simp only [List.length_take, Array.length_toList, size_madeCells, List.length_replicate]; omega) (fun j x hj => ?_)
 obtain ⟨hjl, hp⟩ := List.getElem?_eq_some_iff.1 hj
 have hjn : j < n := by simpa using hjl
 have hx : zcells z = x := by simpa using hp
 subst hx
 refine ⟨by simp [zcells, hz], ?_⟩
 have h1 : j * sz + sz ≤ n * sz := by rw [← Nat.succ_mul]; exact Nat.mul_le_mul_right _ hjn
 have : (((madeCells z.cells (m * sz)).toList.take (n * sz)).drop (j * sz)).take sz = z.cells.toList := by
  apply List.ext_getElem
  · simp only [List.length_take, List.length_drop, Array.length_toList, size_madeCells, hz]
    omega
  · intro i h1 h2
    have hi : i < sz := by rw [Array.length_toList, hz] at h2; exact h2
    have hmod : (j * sz + i) % sz = i := by
     rw [Nat.mul_comm, Nat.mul_add_mod]
     exact Nat.mod_eq_of_lt hi
    simp [madeCells, hz, hmod]
    rw [getElem!_pos z.cells i (by omega)]
 rw [this]
 exact hr
theorem rep_ofc {ro1 : Nat → Prop} {u : Value} (h : rep w ro1 (ofc u) u) : rep w ro (ofc u) u := by
 cases u <;> first | exact h | (simp only [ofc, rep] at h ⊢; exact h) | (simp [ofc, Value.oneCell', rep] at h)
theorem ES.mk {t e sz id : Nat} {x k : Operand} {y z : Ty} {i j : Int} {kx kk : IntKind} {zs : List AV} {c : Prop} (hT : TyOk P t y) (hk : y.k = .slice e) (hz : TyOk P e z) (hs : z.size = sz) (h0 : 0 < sz) (hzz : z.z.cells.size = sz)
 (hx : oget σ x = .v (.int kx i)) (hkk : oget σ k = .v (.int kk j)) (hi : 0 ≤ i) (hij : i ≤ j) (hb : (z.bytes : Int) * j ≤ 281474976710656) (h63 : j ≤ 9223372036854775807) (hr : toROs σ.m (zcells z.z) = some (σ.m, zcells z.z, c)) (hc : c) :
 ES P σ (.makeSlice t x k) (.ow id (nxt σ.m id)) ((id, .own (nxt σ.m id) e sz (List.replicate i.toNat (zcells z.z))) :: σ.m) true := by
 intro cx a w ro g o hg ho
 subst hs
 obtain ⟨inf, h3, h31, h32, h4⟩ := hz.info
 have e1 := (hg.sv (x := x) (u := .int kx i) (by rw [hx]; rfl)).1
 have e2 := (hg.sv (x := k) (u := .int kk j) (by rw [hkk]; rfl)).1
 have hu := hT.slice hk
 have hrun := run_make (P := P) w t e inf z.z hu h3 h4 kx kk i j hi hij (by rw [h32]; exact hb) h63
 obtain ⟨ro1, _, _, h5⟩ := toROs_ok hg hr hc (cellsR_ofc (m := σ.m) z.z.cells.toList)
 have hz1 : repL w ro (zcells z.z) z.z.cells.toList := by
  have : ∀ (us : List Value) (xs : List AV), xs = us.map ofc → repL w ro1 xs us → repL w ro xs us := by
   intro us
   induction us with
   | nil => intro xs hx h; subst hx; exact h
   | cons u us ih =>
    intro xs hx h
    subst hx
    obtain ⟨u', r, he, h1, h2⟩ := h
    simp only [List.cons.injEq] at he
    obtain ⟨rfl, rfl⟩ := he
    refine ⟨u, us, rfl, ?_, ih _ rfl h2⟩
    exact rep_ofc h1
  exact this _ _ rfl h5
 have hmax : j.toNat ≤ maxLen := by simp only [maxLen]; omega
 have hgr : w.grownBy (w.alloc (.cells (madeCells z.z.cells (j.toNat * inf.size)) e)) none := World.grownBy_alloc w _ none
 rw [h31] at hrun hgr
 have hown : (w.alloc (.cells (madeCells z.z.cells (j.toNat * z.size)) e)).ownsRow cx.w0.heap.size e z.size (.slice (some ⟨w.heap.size, 0, none⟩) i.toNat j.toNat) (List.replicate i.toNat (zcells z.z)).length ((madeCells z.z.cells (j.toNat * z.size)).toList.take (i.toNat * z.size)) := by
  have hle : i.toNat * z.size ≤ j.toNat * z.size := Nat.mul_le_mul_right _ (by omega)
  rw [List.length_replicate]
  exact ⟨by simp only [List.length_take, Array.length_toList, size_madeCells]; omega, .inr ⟨w.heap.size, j.toNat, _, rfl, hg.hsize, heap_alloc_new w _, by omega, hmax, size_madeCells _ _, rfl⟩⟩
 obtain ⟨h10, h11⟩ := mkOwn hg id e hgr hown (repF_made hzz h0 hz1 (by omega)) h0 (fun b hb => by simp [Value.ownBlock] at hb; omega)
 exact ⟨_, _, ro, _, .value _, by simp [execOp, ho, e1, e2, hrun], .inl rfl, h10, h11, by simp, fun _ k hk => Below.heap_alloc w _ k hk⟩
end
structure Env where
 P : Program
 T : List (Nat × Ty)
 Laid : World → Prop
 L : Nat
 tok : TOk P T
 lsize : ∀ w, Laid w → L ≤ w.heap.size
 lstay : ∀ w w' : World, Laid w → (∀ k, k < L → w'.heap[k]? = w.heap[k]?) → Laid w'
 mixed : P.follows .mixedOrders = true
inductive RS where
 | ro (x : AV)
 | own (E sz : Nat) (xs : List (List AV))
 | nb (T : Nat) (cs : List AV)
def retV : List Value → Value
 | [v] => v
 | vs => .tuple vs.toArray
def g0 (B : Nat) : Gh := ⟨fun _ => undef, fun _ => B⟩
def m0 : Option (Nat × List AV) → List (Nat × Ent)
 | some (T, cs) => [(0, .box 0 T true cs)]
 | none => []
def resR (w : World) (ro : Nat → Prop) (base : Nat) : List Nat → List RS → List Value → Prop
 | _, [], vs => vs = []
 | used, .ro x :: rs, vs => ∃ v r, vs = v :: r ∧ partR w ro (g0 0) [] x v ∧ resR w ro base used rs r
 | used, .own E sz xs :: rs, vs => ∃ v r, vs = v :: r ∧ (0 < sz ∧ ∃ us, repF w ro sz xs us ∧ w.ownsRow base E sz v xs.length us) ∧ (∀ b, v.ownBlock = some b → ¬ ro b ∧ b ∉ used) ∧ resR w ro base (match v.ownBlock with | some b => b :: used | none => used) rs r
 | used, .nb T cs :: rs, vs => ∃ b r, vs = .pointer (some ⟨b, 0, none⟩) :: r ∧ base ≤ b ∧ ¬ ro b ∧ b ∉ used ∧ (∃ us, repL w ro cs us ∧ w.heap[b]? = some (.cells us.toArray T (0, 0))) ∧ resR w ro base (b :: used) rs r
structure Said (E : Env) (bx : Option (Nat × List AV)) (rs : List RS) (bx' : List AV) (w : World) (ro : Nat → Prop) (B : Nat) (vs : List Value) (w' : World) (ro' : Nat → Prop) : Prop where
 os : w'.os = w.os
 tape : w'.tape = w.tape
 output : w'.output = w.output
 size : w.heap.size ≤ w'.heap.size
 same : ∀ k, k < w.heap.size → (bx ≠ none → k ≠ B) → w'.heap[k]? = w.heap[k]?
 roin : ∀ b, ro b → ro' b
 rob : ∀ b, ro' b → b < w'.heap.size ∧ (ro b ∨ w.heap.size ≤ b)
 res : resR w' ro' w.heap.size [] rs vs
 box : ∀ T cs, bx = some (T, cs) → ¬ ro' B ∧ ∃ us, repL w' ro' bx' us ∧ w'.heap[B]? = some (.cells us.toArray T (0, 0))
def Callable (P : Program) (f : Nat) : Prop := ∃ fn, P.funcs[f]? = some fn ∧ (fn.name == "runtime.NumGoroutine") = false ∧ fn.body.isSome = true
def Ctr (E : Env) (f : Nat) (bx : Option (Nat × List AV)) (args : List AV) (rs : List RS) (bx' : List AV) : Prop :=
 Callable E.P f ∧ ∀ (w : World) (ro : Nat → Prop) (B : Nat) (vals : List Value), E.Laid w → (∀ b, ro b → b < w.heap.size) →
  (∀ T cs, bx = some (T, cs) → ¬ ro B ∧ E.L ≤ B ∧ ∃ us, repL w ro cs us ∧ w.heap[B]? = some (.cells us.toArray T (0, 0))) →
  partsR w ro (g0 B) (m0 bx) args vals →
  Calls E.P f vals.toArray w fun e w' => ∃ vs ro', e = .returned (retV vs) ∧ Said E bx rs bx' w ro B vs w' ro'
def CtrR (E : Env) (f T sz : Nat) (xs ys : List (List AV)) : Prop :=
 Callable E.P f ∧ ∀ (w : World) (ro : Nat → Prop) (base : Nat) (v : Value) (us : List Value), E.Laid w → (∀ b, ro b → b < w.heap.size) → E.L ≤ base → 0 < sz → repF w ro sz xs us → w.ownsRow base T sz v xs.length us → (∀ b, v.ownBlock = some b → ¬ ro b) →
  Calls E.P f #[v] w fun e w' => e = .returned (.tuple #[]) ∧ w'.os = w.os ∧ w'.tape = w.tape ∧ w'.output = w.output ∧ w.heap.size ≤ w'.heap.size ∧ (∀ k, k < w.heap.size → v.ownBlock ≠ some k → w'.heap[k]? = w.heap[k]?) ∧ ∃ us', repF w ro sz ys us' ∧ w'.ownsRow base T sz v ys.length us'
section
variable {E : Env} {cx : Cx} {σ : St} {a : Act} {w w' : World} {ro ro' : Nat → Prop} {g : Gh}
theorem laid_now (hg : Good cx σ a w ro g) (hL : E.Laid cx.w0) (hx : ∀ b, cx.ext b → E.L ≤ b) : E.Laid w := by
 refine E.lstay cx.w0 w hL (fun k hk => hg.keep k (Nat.lt_of_lt_of_le hk (E.lsize _ hL)) (fun h => ?_))
 have := hx k h
 omega
theorem addOwn (hg : Good cx σ a w ro g) (id Ety : Nat) {sz : Nat} {xs : List (List AV)} {us : List Value} {v : Value} (hown : w.ownsRow cx.w0.heap.size Ety sz v xs.length us) (hf : repF w ro sz xs us) (hsz : 0 < sz)
 (hn : ∀ b, v.ownBlock = some b → ¬ ro b ∧ ∀ i e, i ≠ id → look σ.m i = some e → blkOf g i e ≠ some b) : Good cx ⟨σ.t, (id, .own (nxt σ.m id) Ety sz xs) :: σ.m⟩ a w ro (upG g id v) ∧ On w w ro ro g (upG g id v) σ.m ((id, .own (nxt σ.m id) Ety sz xs) :: σ.m) ∧ cellR w ro (upG g id v) ((id, .own (nxt σ.m id) Ety sz xs) :: σ.m) (.ow id (nxt σ.m id)) v := by
 have hon : On w w ro ro g (upG g id v) σ.m ((id, .own (nxt σ.m id) Ety sz xs) :: σ.m) := by
  refine ⟨fun b hb => ⟨hb, rfl⟩, fun i e he => ?_⟩
  by_cases hi : id = i
  · subst hi
    have := nxt_lt he
    exact ⟨_, look_same _ _ _, Nat.le_of_lt this, fun h => absurd h (Nat.ne_of_lt this)⟩
  · exact ⟨e, by rw [look_other _ _ hi]; exact he, Nat.le_refl _, fun _ => ⟨e.same_refl, by simp [upG, Ne.symm hi], rfl⟩⟩
 refine ⟨Good.updF hg id (.own (nxt σ.m id) Ety sz xs) none rfl rfl rfl (Nat.le_refl _) (by simp) (fun _ _ _ => rfl) (fun i hi => ⟨by simp [upG, hi], rfl⟩) (fun e he => ?_) (fun b hb => hb) (fun b hb => ⟨hg.rel.rlt b hb, .inl hb⟩) (fun hon => ?_) (fun b hb => ?_) (by simp) (by simp), hon, _, look_same _ _ _, Nat.le_refl _, fun _ _ => by simp [upG]⟩
 · have := nxt_lt he
   exact ⟨Nat.le_of_lt this, fun h => absurd h (Nat.ne_of_lt this)⟩
 · exact ⟨hsz, us, hf, by simpa [upG] using hown⟩
 · simp only [blkOf, upG, if_true] at hb
   exact hn b hb
theorem addBox (hg : Good cx σ a w ro g) (id T : Nat) {cs : List AV} {us : List Value} {b : Nat} (hb : w.heap[b]? = some (.cells us.toArray T (0, 0))) (hr : repL w ro cs us) (h0 : cx.w0.heap.size ≤ b) (hnr : ¬ ro b)
 (hn : ∀ i e, i ≠ id → look σ.m i = some e → blkOf g i e ≠ some b) : Good cx ⟨σ.t, (id, .box (nxt σ.m id) T false cs) :: σ.m⟩ a w ro (upB g id b) ∧ On w w ro ro g (upB g id b) σ.m ((id, .box (nxt σ.m id) T false cs) :: σ.m) ∧ cellR w ro (upB g id b) ((id, .box (nxt σ.m id) T false cs) :: σ.m) (.pt id (nxt σ.m id) 0) (.pointer (some ⟨b, 0, none⟩)) := by
 have hon : On w w ro ro g (upB g id b) σ.m ((id, .box (nxt σ.m id) T false cs) :: σ.m) := by
  refine ⟨fun b hb => ⟨hb, rfl⟩, fun i e he => ?_⟩
  by_cases hi : id = i
  · subst hi
    have := nxt_lt he
    exact ⟨_, look_same _ _ _, Nat.le_of_lt this, fun h => absurd h (Nat.ne_of_lt this)⟩
  · exact ⟨e, by rw [look_other _ _ hi]; exact he, Nat.le_refl _, fun _ => ⟨e.same_refl, rfl, by simp [upB, Ne.symm hi]⟩⟩
 refine ⟨Good.updF hg id (.box (nxt σ.m id) T false cs) none rfl rfl rfl (Nat.le_refl _) (by simp) (fun _ _ _ => rfl) (fun i hi => ⟨rfl, by simp [upB, hi]⟩) (fun e he => ?_) (fun b hb => hb) (fun b hb => ⟨hg.rel.rlt b hb, .inl hb⟩) (fun hon => ?_) (fun b' hb' => ?_) (by simp) (by simp), hon, _, look_same _ _ _, Nat.le_refl _, fun _ _ => by simp [upB]⟩
 · have := nxt_lt he
   exact ⟨Nat.le_of_lt this, fun h => absurd h (Nat.ne_of_lt this)⟩
 · exact ⟨fun _ => by simpa [upB] using h0, by simp, us, repL_cellsR hr, by simpa [upB] using hb⟩
 · simp only [blkOf, upB, if_true, Option.some.injEq] at hb'
   subst hb'
   exact ⟨hnr, hn⟩
def bindRS (d : Nat) (m : List (Nat × Ent)) : Nat → List RS → List AV × List (Nat × Ent)
 | _, [] => ([], m)
 | j, .ro x :: rs => match bindRS d m (j + 1) rs with | (xs, m') => (x :: xs, m')
 | j, .own E sz xs :: rs => match bindRS d ((100000 + d * 16 + j, .own (nxt m (100000 + d * 16 + j)) E sz xs) :: m) (j + 1) rs with | (ys, m') => (.ow (100000 + d * 16 + j) (nxt m (100000 + d * 16 + j)) :: ys, m')
 | j, .nb T cs :: rs => match bindRS d ((100000 + d * 16 + j, .box (nxt m (100000 + d * 16 + j)) T false cs) :: m) (j + 1) rs with | (ys, m') => (.pt (100000 + d * 16 + j) (nxt m (100000 + d * 16 + j)) 0 :: ys, m')
theorem partR_mono0 {x : AV} {u : Value} {m : List (Nat × Ent)} {g' : Gh} (h : partR w ro g' [] x u) : partR w ro g m x u := by
 have cell : ∀ (y : AV) (v : Value), cellR w ro g' [] y v → y = .dead ∨ cellR w ro g m y v := fun y v hy => by
  cases y with
  | ow _ _ => obtain ⟨e, h1, _⟩ := hy; simp [look] at h1
  | pt _ _ _ => obtain ⟨e, h1, _⟩ := hy; simp [look] at h1
  | ep _ _ _ _ => obtain ⟨e, h1, _⟩ := hy; simp [look] at h1
  | cl _ _ _ => obtain ⟨e, h1, _⟩ := hy; simp [look] at h1
  | dead => exact .inl rfl
  | _ => exact .inr hy
 have cell' : ∀ (y : AV) (v : Value), cellR w ro g' [] y v → cellR w ro g m y v := fun y v hy => by
  rcases cell y v hy with rfl | h
  · trivial
  · exact h
 have cells : ∀ (xs : List AV) (us : List Value), cellsR w ro g' [] xs us → cellsR w ro g m xs us := by
  intro xs
  induction xs with
  | nil => exact fun us h => h
  | cons y ys ih =>
   intro us h
   obtain ⟨v, r, h1, h2, h3⟩ := h
   exact ⟨v, r, h1, cell' _ _ h2, ih r h3⟩
 cases x with
 | ag xs =>
  obtain ⟨us, h1, h2⟩ := h
  exact ⟨us, h1, cells xs us h2⟩
 | v _ => simp only [partR] at h ⊢; exact cell' _ _ h
 | bb _ => simp only [partR] at h ⊢; exact cell' _ _ h
 | er _ => simp only [partR] at h ⊢; exact cell' _ _ h
 | sl _ _ => simp only [partR] at h ⊢; exact cell' _ _ h
 | rf _ => simp only [partR] at h ⊢; exact cell' _ _ h
 | tu _ => simp only [partR] at h ⊢; exact cell' _ _ h
 | ow _ _ => simp only [partR] at h ⊢; exact cell' _ _ h
 | pt _ _ _ => simp only [partR] at h ⊢; exact cell' _ _ h
 | ep _ _ _ _ => simp only [partR] at h ⊢; exact cell' _ _ h
 | cl _ _ _ => simp only [partR] at h ⊢; exact cell' _ _ h
 | dead => simp only [partR] at h ⊢; exact cell' _ _ h
theorem bind_ok {d base : Nat} : ∀ {rs : List RS} {j : Nat} {σ : St} {g : Gh} {used : List Nat} {vs : List Value}, Good cx σ a w ro g → resR w ro base used rs vs → cx.w0.heap.size ≤ base →
 (∀ i e b, look σ.m i = some e → blkOf g i e = some b → b < base ∨ b ∈ used) → (∀ k e, j ≤ k → look σ.m (100000 + d * 16 + k) = some e → ∀ b, blkOf g (100000 + d * 16 + k) e = some b → b < base) → ∃ g', Good cx ⟨σ.t, (bindRS d σ.m j rs).2⟩ a w ro g' ∧ On w w ro ro g g' σ.m (bindRS d σ.m j rs).2 ∧ partsR w ro g' (bindRS d σ.m j rs).2 (bindRS d σ.m j rs).1 vs
 | [], j, σ, g, used, vs, hg, hr, hb, hu, hk => ⟨g, hg, On.refl' _ _ _ _, hr⟩
 | .ro x :: rs, j, σ, g, used, vs, hg, hr, hb, hu, hk => by
  obtain ⟨v, r, rfl, h1, h2⟩ := hr
  obtain ⟨g', h3, h4, h5⟩ := bind_ok (j := j + 1) hg h2 hb hu (fun k e hjk => hk k e (by omega))
  exact ⟨g', h3, h4, v, r, rfl, partR_mono0 h1, h5⟩
 | .own Ety sz xs :: rs, j, σ, g, used, vs, hg, hr, hb, hu, hk => by
  obtain ⟨v, r, rfl, ⟨h0, us, h1, h2⟩, h3, h4⟩ := hr
  have hown : w.ownsRow cx.w0.heap.size Ety sz v xs.length us := by
   refine ⟨h2.1, ?_⟩
   rcases h2.2 with h5 | ⟨gg, cap, cur, h5, h6, h7⟩
   · exact .inl h5
   · exact .inr ⟨gg, cap, cur, h5, by omega, h7⟩
  have hlt : ∀ b, v.ownBlock = some b → base ≤ b := fun b hb' => (h2.lt b hb').1
  obtain ⟨h5, h6, h7⟩ := addOwn hg (100000 + d * 16 + j) Ety hown h1 h0 (fun b hb' => ⟨(h3 b hb').1, fun i e hi he hbb => by
   rcases hu i e b he hbb with h | h
   · have := hlt b hb'
     omega
   · exact (h3 b hb').2 h⟩)
  have e1 : ∀ i, i ≠ 100000 + d * 16 + j → ∀ e, look ((100000 + d * 16 + j, Ent.own (nxt σ.m (100000 + d * 16 + j)) Ety sz xs) :: σ.m) i = some e → look σ.m i = some e := fun i hi e he => by rwa [look_other _ _ (Ne.symm hi)] at he
  obtain ⟨g', h8, h9, h10⟩ := bind_ok (j := j + 1) (d := d) (base := base) (used := match v.ownBlock with | some b => b :: used | none => used) h5 h4 hb (fun i e b he hbb => by
   by_cases hi : i = 100000 + d * 16 + j
   · subst hi
     rw [look_same] at he
     cases he
     simp only [blkOf, upG, if_true] at hbb
     simp [hbb]
   · have he' := e1 i hi e he
     have hbb' : blkOf g i e = some b := by cases e <;> simp_all [blkOf, upG]
     rcases hu i e b he' hbb' with h | h
     · exact .inl h
     · refine .inr ?_
       cases v.ownBlock <;> simp [h]) (fun k e hjk he b hbb => by
   have hne : 100000 + d * 16 + k ≠ 100000 + d * 16 + j := by omega
   have he' := e1 _ hne e he
   refine hk k e (by omega) he' b ?_
   cases e <;> simp_all [blkOf, upG])
  exact ⟨g', h8, h6.trans h9, v, r, rfl, partR_on h9 (cellR_partR h7), h10⟩
 | .nb T cs :: rs, j, σ, g, used, vs, hg, hr, hb, hu, hk => by
  obtain ⟨b0, r, rfl, q1, q2, q3, ⟨us, q4, q5⟩, h4⟩ := hr
  obtain ⟨h5, h6, h7⟩ := addBox hg (100000 + d * 16 + j) T q5 q4 (by omega) q2 (fun i e hi he hbb => by
   rcases hu i e b0 he hbb with h | h
   · omega
   · exact q3 h)
  have e1 : ∀ i, i ≠ 100000 + d * 16 + j → ∀ e, look ((100000 + d * 16 + j, Ent.box (nxt σ.m (100000 + d * 16 + j)) T false cs) :: σ.m) i = some e → look σ.m i = some e := fun i hi e he => by rwa [look_other _ _ (Ne.symm hi)] at he
  obtain ⟨g', h8, h9, h10⟩ := bind_ok (j := j + 1) (d := d) (base := base) (used := b0 :: used) h5 h4 hb (fun i e b he hbb => by
   by_cases hi : i = 100000 + d * 16 + j
   · subst hi
     rw [look_same] at he
     cases he
     simp only [blkOf, upB, if_true, Option.some.injEq] at hbb
     simp [hbb]
   · have he' := e1 i hi e he
     have hbb' : blkOf g i e = some b := by cases e <;> simp_all [blkOf, upB]
     rcases hu i e b he' hbb' with h | h
     · exact .inl h
     · exact .inr (by simp [h])) (fun k e hjk he b hbb => by
   have hne : 100000 + d * 16 + k ≠ 100000 + d * 16 + j := by omega
   have he' := e1 _ hne e he
   refine hk k e (by omega) he' b ?_
   cases e <;> simp_all [blkOf, upB])
  exact ⟨g', h8, h6.trans h9, _, r, rfl, partR_on h9 (cellR_partR h7), h10⟩
end
def roV : AV → AV → Prop
 | .v z, y => (match y with
  | .bb b => z = .bool b
  | .v u => u = z
  | _ => False)
 | .bb b, y => (match y with
  | .bb b' => b' = b
  | .v u => u = .bool b
  | _ => False)
 | .er b, y => (match y with
  | .er b2 => b2 = b
  | .v u => u = .nilIface ∧ b = true
  | _ => False)
 | .sl sz xs, y => (match y with
  | .sl sz2 xs2 => sz2 = sz ∧ xs2 = xs
  | .v u => u = .slice none 0 0 ∧ xs = []
  | _ => False)
 | x, y => y = x
def roL : List AV → List AV → Prop
 | [], ys => ys = []
 | x :: xs, y :: ys => roV x y ∧ roL xs ys
 | _ :: _, [] => False
def roF : List (List AV) → List (List AV) → Prop
 | [], ys => ys = []
 | x :: xs, y :: ys => roL x y ∧ roF xs ys
 | _ :: _, [] => False
def roP : AV → AV → Prop
 | .ag xs, y => (match y with
  | .ag ys => roL xs ys
  | _ => False)
 | x, y => roV x y
def roPs : List AV → List AV → Prop
 | [], ys => ys = []
 | x :: xs, y :: ys => roP x y ∧ roPs xs ys
 | _ :: _, [] => False
section
variable {w : World} {ro : Nat → Prop} {g : Gh} {m : List (Nat × Ent)}
theorem roV_cell {x y : AV} {u : Value} (h : roV x y) (k : cellR w ro g m y u) : cellR w ro g m x u := by
 cases x with
 | v z =>
  cases y with
  | bb b => obtain rfl : z = .bool b := h; exact (show u = .bool b ∧ _ from ⟨k, rfl⟩)
  | v z2 => obtain rfl : z2 = z := h; exact k
  | _ => exact h.elim
 | bb z =>
  cases y with
  | bb b => obtain rfl : b = z := h; exact k
  | v z2 => obtain rfl : z2 = .bool z := h; exact (show u = .bool z ∧ _ from k).1
  | _ => exact h.elim
 | er z =>
  cases y with
  | er b => obtain rfl : b = z := h; exact k
  | v z2 =>
   obtain ⟨rfl, rfl⟩ := h
   exact ⟨(show u = .nilIface ∧ _ from k).1 ▸ rfl, .inl ⟨(show u = .nilIface ∧ _ from k).1, rfl⟩⟩
  | _ => exact h.elim
 | sl s z =>
  cases y with
  | sl s2 z2 => obtain ⟨rfl, rfl⟩ := h; exact k
  | v z2 =>
   obtain ⟨rfl, rfl⟩ := h
   exact ⟨none, 0, (show u = .slice none 0 0 ∧ _ from k).1, Nat.le_refl _, by simp [maxLen], fun h => by simp at h⟩
  | _ => exact h.elim
 | rf z => obtain rfl : y = .rf z := h; exact k
 | ag z => obtain rfl : y = .ag z := h; exact k
 | tu z => obtain rfl : y = .tu z := h; exact k
 | ow i v => obtain rfl : y = .ow i v := h; exact k
 | pt i v o => obtain rfl : y = .pt i v o := h; exact k
 | ep i v j o => obtain rfl : y = .ep i v j o := h; exact k
 | cl f i v => obtain rfl : y = .cl f i v := h; exact k
 | dead => obtain rfl : y = .dead := h; exact k
theorem roV_rep {x y : AV} {u : Value} (h : roV x y) (k : rep w ro y u) : rep w ro x u := by
 have h1 := roV_cell (w := w) (ro := ro) (g := g0 0) (m := []) (u := u) h (by
  cases y <;> first | exact k | (simp [rep] at k))
 cases x with
 | ow _ _ => obtain ⟨e, h2, _⟩ := h1; simp [look] at h2
 | pt _ _ _ => obtain ⟨e, h2, _⟩ := h1; simp [look] at h2
 | ep _ _ _ _ => obtain ⟨e, h2, _⟩ := h1; simp [look] at h2
 | cl _ _ _ => obtain ⟨e, h2, _⟩ := h1; simp [look] at h2
 | dead => obtain rfl : y = .dead := h; simp [rep] at k
 | _ => exact h1
theorem roL_rep : ∀ {xs ys : List AV} {us : List Value}, roL xs ys → repL w ro ys us → repL w ro xs us
 | [], ys, us, h, k => by obtain rfl : ys = [] := h; exact k
 | x :: xs, [], us, h, k => h.elim
 | x :: xs, y :: ys, us, h, k => by
  obtain ⟨u, r, rfl, h1, h2⟩ := k
  exact ⟨u, r, rfl, roV_rep h.1 h1, roL_rep h.2 h2⟩
theorem roL_len : ∀ {xs ys : List AV}, roL xs ys → xs.length = ys.length
 | [], ys, h => by obtain rfl : ys = [] := h; rfl
 | x :: xs, [], h => h.elim
 | x :: xs, y :: ys, h => by simp [roL_len h.2]
theorem roF_rep {sz : Nat} : ∀ {xs ys : List (List AV)} {us : List Value}, roF xs ys → repF w ro sz ys us → repF w ro sz xs us
 | [], ys, us, h, k => by obtain rfl : ys = [] := h; exact k
 | x :: xs, [], us, h, k => h.elim
 | x :: xs, y :: ys, us, h, k => by
  obtain ⟨c, r, rfl, h1, h2, h3⟩ := k
  exact ⟨c, r, rfl, by rw [roL_len h.1]; exact h1, roL_rep h.1 h2, roF_rep h.2 h3⟩
theorem roF_len : ∀ {xs ys : List (List AV)}, roF xs ys → xs.length = ys.length
 | [], ys, h => by obtain rfl : ys = [] := h; rfl
 | x :: xs, [], h => h.elim
 | x :: xs, y :: ys, h => by simp [roF_len h.2]
theorem roL_cells : ∀ {xs ys : List AV} {us : List Value}, roL xs ys → cellsR w ro g m ys us → cellsR w ro g m xs us
 | [], ys, us, h, k => by obtain rfl : ys = [] := h; exact k
 | x :: xs, [], us, h, k => h.elim
 | x :: xs, y :: ys, us, h, k => by
  obtain ⟨u, r, rfl, h1, h2⟩ := k
  exact ⟨u, r, rfl, roV_cell h.1 h1, roL_cells h.2 h2⟩
theorem roP_part {x y : AV} {u : Value} (h : roP x y) (k : partR w ro g m y u) : partR w ro g m x u := by
 have other : (∀ zs, x ≠ .ag zs) → roV x y → partR w ro g m x u := fun hx hv => by
  have hy : (∀ zs, y ≠ .ag zs) := fun zs e => by
   subst e
   cases x <;> first | exact hx _ rfl | cases hv | exact hv.elim
  have k' : cellR w ro g m y u := by cases y <;> first | exact k | exact absurd rfl (hy _)
  have := roV_cell hv k'
  cases x <;> first | exact this | exact absurd rfl (hx _)
 cases x with
 | ag xs =>
  cases y with
  | ag ys =>
   obtain ⟨us, h1, h2⟩ := k
   exact ⟨us, h1, roL_cells h h2⟩
  | _ => exact h.elim
 | v _ => exact other (by simp) h
 | bb _ => exact other (by simp) h
 | er _ => exact other (by simp) h
 | sl _ _ => exact other (by simp) h
 | rf _ => exact other (by simp) h
 | tu _ => exact other (by simp) h
 | ow _ _ => exact other (by simp) h
 | pt _ _ _ => exact other (by simp) h
 | ep _ _ _ _ => exact other (by simp) h
 | cl _ _ _ => exact other (by simp) h
 | dead => exact other (by simp) h
theorem roPs_parts : ∀ {xs ys : List AV} {us : List Value}, roPs xs ys → partsR w ro g m ys us → partsR w ro g m xs us
 | [], ys, us, h, k => by obtain rfl : ys = [] := h; exact k
 | x :: xs, [], us, h, k => h.elim
 | x :: xs, y :: ys, us, h, k => by
  obtain ⟨u, r, rfl, h1, h2⟩ := k
  exact ⟨u, r, rfl, roP_part h.1 h1, roPs_parts h.2 h2⟩
theorem Ctr.arg {E : Env} {f : Nat} {bx : Option (Nat × List AV)} {as ys : List AV} {rs : List RS} {bs : List AV} (h : Ctr E f bx as rs bs) (ha : roPs as ys) : Ctr E f bx ys rs bs :=
 ⟨h.1, fun w ro B vals hL hro hbx hp => h.2 w ro B vals hL hro hbx (roPs_parts ha hp)⟩
theorem Ctr.box {E : Env} {f T : Nat} {cs cs' : List AV} {as : List AV} {rs : List RS} {bs : List AV} (h : Ctr E f (some (T, cs)) as rs bs) (hc : roL cs cs') : Ctr E f (some (T, cs')) as rs bs := by
 refine ⟨h.1, fun w ro B vals hL hro hbx hp => ?_⟩
 obtain ⟨h1, h2, us, h3, h4⟩ := hbx T cs' rfl
 refine (h.2 w ro B vals hL hro (fun T1 cs1 e => by cases e; exact ⟨h1, h2, us, roL_rep hc h3, h4⟩) ?_).mono (fun e w' hh => ?_)
 · -- the arguments speak of the state's place alone
   have hm : ∀ id e, look (m0 (some (T, cs'))) id = some e → ∃ e', look (m0 (some (T, cs))) id = some e' ∧ e.ver ≤ e'.ver ∧ (e.ver = e'.ver → e.same e' ∧ (g0 B).G id = (g0 B).G id ∧ (g0 B).B id = (g0 B).B id) := fun id e he => by
    by_cases hi : (0 : Nat) = id
    · subst hi
      simp only [m0] at he
      rw [look_same] at he
      cases he
      exact ⟨.box 0 T true cs, look_same _ _ _, Nat.le_refl _, fun _ => ⟨trivial, rfl, rfl⟩⟩
    · simp only [m0] at he
      rw [look_other _ _ hi] at he
      simp [look] at he
   have hon : On w w ro ro (g0 B) (g0 B) (m0 (some (T, cs'))) (m0 (some (T, cs))) := ⟨fun b hb => ⟨hb, rfl⟩, hm⟩
   have : ∀ {xs : List AV} {us : List Value}, partsR w ro (g0 B) (m0 (some (T, cs'))) xs us → partsR w ro (g0 B) (m0 (some (T, cs))) xs us := by
    intro xs
    induction xs with
    | nil => exact fun h => h
    | cons x xs ih =>
     intro us h
     obtain ⟨u, r, rfl, k1, k2⟩ := h
     exact ⟨u, r, rfl, partR_on hon k1, ih k2⟩
   exact this hp
 · obtain ⟨vs, ro', rfl, hs⟩ := hh
   exact ⟨vs, ro', rfl, ⟨hs.os, hs.tape, hs.output, hs.size, fun k hk hx => hs.same k hk (fun _ => hx (by simp)), hs.roin, hs.rob, hs.res, fun T1 cs1 e => by cases e; exact hs.box T cs rfl⟩⟩
end
end Go.Proofs.YtjkngiciigdheaaGreatDoorW.St
namespace Go.Proofs.YtjkngiciigdheaaGreatDoorW.St
open Go.RowKit
open Go.Proofs.YtjkngiciigdheaaGreatDoorW.PrintWords (bt)
set_option linter.unusedSimpArgs false
set_option linter.unusedVariables false
structure RR where
 x : AV
 m : List (Nat × Ent)
 k : Nat
 c : Option Prop
def tyk (T : List (Nat × Ty)) (t : Nat) : Option TK := match look T t with
 | some y => some y.k
 | none => none
def kB : TK → Bool | .bool => true | _ => false
def kS : TK → Bool | .str => true | _ => false
def kI : TK → Bool | .ifc => true | _ => false
def boolsOk (T : List (Nat × Ty)) (t : Nat) : Value → Bool
 | .bool _ => match tyk T t with
  | some k => kB k
  | none => false
 | _ => true
def aBin (T : List (Nat × Ty)) (σ : St) (op : BinOp) (t : Nat) (x y : Operand) : Option RR :=
 match oget σ x with
 | .er b => match y with
  | .const .nilIface => match tyk T t with
   | some k => match kI k, op with
    | true, .eql => some ⟨.v (.bool b), σ.m, 0, none⟩
    | true, .neq => some ⟨.v (.bool (!b)), σ.m, 0, none⟩
    | _, _ => none
   | none => none
  | _ => none
 | a => match sc a with
  | none => none
  | some u => match sc (oget σ y) with
   | none => none
   | some v => match boolsOk T t u with
    | true => match abin op u v with
     | some (r, c) => some ⟨.v r, σ.m, 0, c⟩
     | none => none
    | false => none
def aConv (T : List (Nat × Ty)) (σ : St) (s d : Nat) (x : Operand) : Option RR :=
 match oget σ x with
 | .v (.int _ n) => match look T s, tyk T d with
  | some _, some (.int kd) => some ⟨.v (.int kd (wr kd n)), σ.m, 0, none⟩
  | _, _ => none
 | .v (.string b) => match tyk T s, tyk T d with
  | some .str, some .str => some ⟨.v (.string b), σ.m, 0, none⟩
  | _, _ => none
 | _ => none
def optI (σ : St) : Option Operand → Option (Option Int)
 | none => some none
 | some o => match oget σ o with
  | .v (.int _ n) => some (some n)
  | _ => none
def aSlice (T : List (Nat × Ty)) (σ : St) (t : Nat) (x : Operand) (l h mx : Option Operand) : Option RR :=
 match oget σ x with
 | .v (.string s) => match tyk T t, mx, optI σ l, optI σ h with
  | some .str, none, some (some i), some (some j) => some ⟨.v (.string (s.extract i.toNat j.toNat)), σ.m, 0, some (0 ≤ i ∧ i ≤ j ∧ j ≤ (s.size : Int))⟩
  | some .str, none, some (some i), some none => some ⟨.v (.string (s.extract i.toNat s.size)), σ.m, 0, some (0 ≤ i ∧ i ≤ (s.size : Int))⟩
  | some .str, none, some none, some (some j) => some ⟨.v (.string (s.extract 0 j.toNat)), σ.m, 0, some (0 ≤ j ∧ j ≤ (s.size : Int))⟩
  | _, _, _, _ => none
 | .sl sz xs => match tyk T t with
  | some (.slice e) => match look T e with
   | some z => match Nat.beq z.size sz, optI σ l, optI σ h, optI σ mx with
    | true, some none, some (some j), some none => some ⟨.sl sz (xs.take j.toNat), σ.m, 0, some (0 ≤ j ∧ j ≤ (xs.length : Int))⟩
    | true, some (some i), some none, some none => some ⟨.sl sz (xs.drop i.toNat), σ.m, 0, some (0 ≤ i ∧ i ≤ (xs.length : Int))⟩
    | true, some (some i), some (some j), some none => some ⟨.sl sz ((xs.take j.toNat).drop i.toNat), σ.m, 0, some (0 ≤ i ∧ i ≤ j ∧ j ≤ (xs.length : Int))⟩
    | true, some none, some (some j), some (some q) => some ⟨.sl sz (xs.take j.toNat), σ.m, 0, some (0 ≤ j ∧ j ≤ q ∧ q ≤ (xs.length : Int))⟩
    | _, _, _, _ => none
   | none => none
  | _ => none
 | _ => none
def aLen (T : List (Nat × Ty)) (σ : St) (t : Nat) (x : Operand) : Option RR :=
 match tyk T t with
 | some .str => match oget σ x with
  | .v (.string s) => some ⟨.v (.int .i64 s.size), σ.m, 0, none⟩
  | _ => none
 | some (.slice _) => match rows σ (oget σ x) with
  | some (xs, c) => some ⟨.v (.int .i64 xs.length), σ.m, 0, some (c)⟩
  | none => none
 | _ => none
def aField (T : List (Nat × Ty)) (σ : St) (t : Nat) (x : Operand) (f : Nat) : Option RR :=
 match tyk T t with
 | some (.strct fs) => match foff fs f with
  | some (off, ft) => match look T ft with
   | some z => match z.size with
    | 0 => none
    | _ + 1 => match oget σ x with
     | .rf xs => some ⟨.rf (xs.drop off), σ.m, 0, none⟩
     | .pt id ver o => match look σ.m id with
      | some (.box v _ _ _) => some ⟨.pt id ver (o + off), σ.m, 0, some (ver = v)⟩
      | _ => none
     | .ep id ver i o => match look σ.m id with
      | some (.own v _ _ _) => some ⟨.ep id ver i (o + off), σ.m, 0, some (ver = v)⟩
      | _ => none
     | _ => none
   | none => none
  | none => none
 | _ => none
def aPart (T : List (Nat × Ty)) (σ : St) (t : Nat) (x : Operand) (f : Nat) : Option RR :=
 match tyk T t with
 | some (.strct fs) => match foff fs f with
  | some (off, ft) => match look T ft with
   | some z => match oget σ x with
    | .ag xs => match ldv z (xs.drop off) with
     | some y => some ⟨y, σ.m, 0, none⟩
     | none => none
    | _ => none
   | none => none
  | none => none
 | _ => none
def aIdx (T : List (Nat × Ty)) (σ : St) (t : Nat) (x i : Operand) : Option RR :=
 match tyk T t with
 | some (.slice e) => match look T e, oget σ i with
  | some z, .v (.int _ n) => match oget σ x with
   | .sl sz xs => match Nat.beq z.size sz with
    | true => some ⟨.rf (xs.getD n.toNat []), σ.m, 0, some (0 ≤ n ∧ n < (xs.length : Int))⟩
    | false => none
   | .ow id ver => match look σ.m id with
    | some (.own v _ sz xs) => match Nat.beq z.size sz with
     | true => some ⟨.ep id ver n 0, σ.m, 0, some (ver = v ∧ 0 ≤ n ∧ n < (xs.length : Int))⟩
     | false => none
    | some (.froz v sz xs) => match Nat.beq z.size sz with
     | true => some ⟨.rf (xs.getD n.toNat []), σ.m, 0, some (ver = v ∧ 0 ≤ n ∧ n < (xs.length : Int))⟩
     | false => none
    | _ => none
   | _ => none
  | _, _ => none
 | some (.arr m e) => match look T e, oget σ i, oget σ x with
  | some z, .v (.int _ n), .pt id ver off => match look σ.m id with
   | some (.box v _ _ _) => some ⟨.pt id ver (off + n.toNat * z.size), σ.m, 0, some (ver = v ∧ 0 ≤ n ∧ n < (m : Int))⟩
   | _ => none
  | _, _, _ => none
 | _ => none
def aLoad (T : List (Nat × Ty)) (σ : St) (t : Nat) (p : Operand) : Option RR :=
 match look T t with
 | some y => match oget σ p with
  | .rf xs => match ldv y xs with
   | some x => some ⟨x, σ.m, 1, none⟩
   | none => none
  | .pt id ver off => match look σ.m id with
   | some (.box v _ _ cs) => match ldv y (cs.drop off) with
    | some x => some ⟨x, σ.m, 1, some (ver = v)⟩
    | none => none
   | _ => none
  | _ => none
 | none => none
def aStore (T : List (Nat × Ty)) (σ : St) (t : Nat) (p x : Operand) : Option RR :=
 match look T t with
 | some y => match oget σ p with
  | .pt id ver off => match look σ.m id with
   | some (.box v Tb xx cs) => match solids σ.m (cellsOf (oget σ x)), Nat.beq (cellsOf (oget σ x)).length y.size, Nat.ble (off + y.size) cs.length with
    | some c, true, true => some ⟨.dead, (id, .box v Tb xx (cs.take off ++ cellsOf (oget σ x) ++ cs.drop (off + y.size))) :: σ.m, 3, some (ver = v ∧ c)⟩
    | _, _, _ => none
   | _ => none
  | _ => none
 | none => none
def aBuild (T : List (Nat × Ty)) (σ : St) (t : Nat) (ps : Array (Nat × Operand)) : Option RR :=
 match look T t with
 | some y => match y.k with
  | .strct fs => match splace T fs with
   | some l => match afill (nth l) σ.m (zcells y.z) (parts σ ps.toList) with
    | some (ds, c) => some ⟨.ag ds, σ.m, 0, some (c)⟩
    | none => none
   | none => none
  | _ => none
 | none => none
def aLit (T : List (Nat × Ty)) (σ : St) (d t len : Nat) (ps : Array (Nat × Operand)) : Option RR :=
 match tyk T t with
 | some (.slice e) => match look T e with
  | some z => match z.size with
   | 0 => none
   | s + 1 => match Nat.beq z.z.cells.size (s + 1), Nat.beq (parts σ ps.toList).length len, Nat.ble (len * (s + 1)) 16777216, afillS σ.m (s + 1) 0 (parts σ ps.toList) with
    | true, true, true, some (ds, c) => match toROs σ.m ds with
     | some (m1, es, c') => match Nat.beq ds.length (len * (s + 1)), Nat.beq es.length (len * (s + 1)) with
      | true, true => some ⟨.ow d (nxt m1 d), (d, .own (nxt m1 d) e (s + 1) (chunk (s + 1) len es)) :: m1, 2, some (c ∧ c')⟩
      | _, _ => none
     | none => none
    | _, _, _, _ => none
  | none => none
 | _ => none
def aApp (T : List (Nat × Ty)) (σ : St) (d t : Nat) (s x : Operand) : Option RR :=
 match tyk T t with
 | some (.slice e) => match look T e with
  | some z => match z.size, z.bytes with
   | s1 + 1, b + 1 => match Nat.beq z.z.cells.size (s1 + 1), rows σ (oget σ x), rsz σ.m (oget σ x) (s1 + 1) with
    | true, some (ys, c), true => match oget σ s with
     | .ow id ver => match look σ.m id with
      | some (.own v e' sz xs) => match Nat.beq e' e, Nat.beq sz (s1 + 1) with
       | true, true => some ⟨.ow id (v + 1), (id, .own (v + 1) e sz (xs ++ ys)) :: σ.m, 3, some (ver = v ∧ c ∧ xs.length + ys.length ≤ 140737488355328 / (b + 1))⟩
       | _, _ => none
      | _ => none
     | .v (.slice none 0 0) => some ⟨.ow d (nxt σ.m d), (d, .own (nxt σ.m d) e (s1 + 1) ys) :: σ.m, 2, some (c ∧ ys.length ≤ 140737488355328 / (b + 1))⟩
     | _ => none
    | _, _, _ => none
   | _, _ => none
  | none => none
 | _ => none
def aMake (T : List (Nat × Ty)) (σ : St) (d t : Nat) (x k : Operand) : Option RR :=
 match tyk T t with
 | some (.slice e) => match look T e with
  | some z => match z.size, oget σ x, oget σ k with
   | s1 + 1, .v (.int _ i), .v (.int _ j) => match Nat.beq z.z.cells.size (s1 + 1) with
    | true => some ⟨.ow d (nxt σ.m d), (d, .own (nxt σ.m d) e (s1 + 1) (List.replicate i.toNat (zcells z.z))) :: σ.m, 2, some (0 ≤ i ∧ i ≤ j ∧ (z.bytes : Int) * j ≤ 281474976710656 ∧ j ≤ 9223372036854775807 ∧ ∃ c, toROs σ.m (zcells z.z) = some (σ.m, zcells z.z, c) ∧ c)⟩
    | false => none
   | _, _, _ => none
  | none => none
 | _ => none
def aop (T : List (Nat × Ty)) (σ : St) (d : Nat) : Op → Option RR
 | .move x => some ⟨oget σ x, σ.m, 0, none⟩
 | .assign x => some ⟨oget σ x, σ.m, 0, none⟩
 | .pick c x y => match oget σ c with
  | .bb true => some ⟨oget σ x, σ.m, 0, none⟩
  | .bb false => some ⟨oget σ y, σ.m, 0, none⟩
  | _ => none
 | .extract t i => match oget σ t with
  | .tu xs => match nth xs i with
   | some x => some ⟨x, σ.m, 0, none⟩
   | none => none
  | _ => none
 | .binOp op t x y _ => aBin T σ op t x y
 | .unOp .not _ x => match oget σ x with
  | .v (.bool b) => some ⟨.v (.bool (!b)), σ.m, 0, none⟩
  | .bb b => some ⟨.bb (!b), σ.m, 0, none⟩
  | _ => none
 | .unOp .neg _ x => match oget σ x with
  | .v (.int k n) => some ⟨.v (.int k (wr k (-n))), σ.m, 0, none⟩
  | _ => none
 | .convert s d x => aConv T σ s d x
 | .nilCheck x => match oget σ x with
  | .pt id ver o => match look σ.m id with
   | some (.box v _ _ _) => some ⟨.pt id ver o, σ.m, 0, some (ver = v)⟩
   | _ => none
  | _ => none
 | .makeFunc (.func f) ⟨[]⟩ ⟨[x]⟩ => match oget σ x with
  | .pt id ver o => match o with
   | 0 => match look σ.m id with
    | some (.box v _ _ _) => some ⟨.cl f id ver, σ.m, 0, some (ver = v)⟩
    | _ => none
   | _ + 1 => none
  | _ => none
 | .index t x i => match tyk T t, oget σ x, oget σ i with
  | some .str, .v (.string s), .v (.int _ n) => some ⟨.v (.int .u8 (bt s n)), σ.m, 0, some (0 ≤ n ∧ n < (s.size : Int))⟩
  | _, _, _ => none
 | .slice t x l h mx => aSlice T σ t x l h mx
 | .fieldAddr t x f => aField T σ t x f
 | .field t x f => aPart T σ t x f
 | .indexAddr t x i => aIdx T σ t x i
 | .load t p => aLoad T σ t p
 | .store t p x => aStore T σ t p x
 | .alloc t => match look T t with
  | some y => some ⟨.pt d (nxt σ.m d) 0, (d, .box (nxt σ.m d) t false (zcells y.z)) :: σ.m, 2, none⟩
  | none => none
 | .box t x => match solids σ.m (cellsOf (oget σ x)) with
  | some c => some ⟨.pt d (nxt σ.m d) 0, (d, .box (nxt σ.m d) t false (cellsOf (oget σ x))) :: σ.m, 2, some (c)⟩
  | none => none
 | .build t ps => aBuild T σ t ps
 | .buildSlice t len ps => aLit T σ d t len ps
 | .makeSlice t x k => aMake T σ d t x k
 | .call { callee := .builtin .len, args := ⟨[x]⟩, argTypes := ⟨[t]⟩ } => aLen T σ t x
 | .call { callee := .builtin .append, args := ⟨[s, x]⟩, argTypes := ⟨[t, t']⟩ } => match Nat.beq t' t with
  | true => aApp T σ d t s x
  | false => none
 | .call { callee := .builtin .max, args := ⟨[x, y]⟩, argTypes := _ } => match oget σ x, oget σ y with
  | .v (.int k i), .v (.int _ j) => some ⟨.v (.int k (if i < j then j else i)), σ.m, 0, none⟩
  | _, _ => none
 | .call { callee := .builtin .min, args := ⟨[x, y]⟩, argTypes := _ } => match oget σ x, oget σ y with
  | .v (.int k i), .v (.int _ j) => some ⟨.v (.int k (if j < i then j else i)), σ.m, 0, none⟩
  | _, _ => none
 | _ => none
end Go.Proofs.YtjkngiciigdheaaGreatDoorW.St
namespace Go.Proofs.YtjkngiciigdheaaGreatDoorW.St
open Go.RowKit
set_option linter.unusedSimpArgs false
set_option linter.unusedVariables false
section
variable {P : Program} {σ : St} {cx : Cx} {a : Act} {w : World} {ro : Nat → Prop} {g : Gh}
theorem repL_cat : ∀ {xs ys : List AV} {us vs : List Value}, repL w ro xs us → repL w ro ys vs → repL w ro (xs ++ ys) (us ++ vs)
 | [], ys, us, vs, h, k => by simp only [repL] at h; subst h; exact k
 | x :: xs, ys, us, vs, h, k => by
  obtain ⟨u, r, rfl, h1, h2⟩ := h
  exact ⟨u, r ++ vs, rfl, h1, repL_cat h2 k⟩
theorem repL_take : ∀ (n : Nat) {xs : List AV} {us : List Value}, repL w ro xs us → repL w ro (xs.take n) (us.take n)
 | 0, xs, us, h => by simp [repL]
 | n + 1, [], us, h => by simp only [repL] at h; subst h; simp [repL]
 | n + 1, x :: xs, us, h => by
  obtain ⟨u, r, rfl, h1, h2⟩ := h
  exact ⟨u, r.take n, rfl, h1, repL_take n h2⟩
theorem repL_drop : ∀ (n : Nat) {xs : List AV} {us : List Value}, repL w ro xs us → repL w ro (xs.drop n) (us.drop n)
 | 0, xs, us, h => h
 | n + 1, [], us, h => by simp only [repL] at h; subst h; simp [repL]
 | n + 1, x :: xs, us, h => by
  obtain ⟨u, r, rfl, h1, h2⟩ := h
  exact repL_drop n h2
theorem repF_set {sz : Nat} : ∀ {xs : List (List AV)} {us : List Value} {i : Nat} {r r' : List AV}, repF w ro sz xs us → xs[i]? = some r → r'.length = sz → ∀ (off : Nat) (vs : List Value), off + vs.length ≤ sz → (∀ c, repL w ro r c → repL w ro r' (c.take off ++ vs ++ c.drop (off + vs.length))) →
 repF w ro sz (xs.set i r') (us.take (i * sz + off) ++ vs ++ us.drop (i * sz + off + vs.length))
 | [], us, i, r, r', h, hr, hl, off, vs, ho, hk => by simp at hr
 | x :: xs, us, 0, r, r', h, hr, hl, off, vs, ho, hk => by
  obtain ⟨c, q, rfl, h1, h2, h3⟩ := h
  simp only [List.getElem?_cons_zero, Option.some.injEq] at hr
  subst hr
  have hc := repL_len h2
  refine ⟨c.take off ++ vs ++ c.drop (off + vs.length), q, ?_, hl, hk c h2, h3⟩
  simp only [Nat.zero_mul, Nat.zero_add]
  rw [List.take_append_of_le_length (by omega), List.drop_append_of_le_length (by omega)]
  simp
 | x :: xs, us, i + 1, r, r', h, hr, hl, off, vs, ho, hk => by
  obtain ⟨c, q, rfl, h1, h2, h3⟩ := h
  have hc := repL_len h2
  refine ⟨c, _, ?_, h1, h2, repF_set h3 (by simpa using hr) hl off vs ho hk⟩
  have e1 : (i + 1) * sz + off = c.length + (i * sz + off) := by rw [Nat.add_mul, hc, h1]; omega
  rw [e1, List.take_append, List.take_of_length_le (by omega), show c.length + (i * sz + off) - c.length = i * sz + off by omega,
   show c.length + (i * sz + off) + vs.length = c.length + (i * sz + off + vs.length) by omega, List.drop_append, List.drop_of_length_le (by omega), show c.length + (i * sz + off + vs.length) - c.length = i * sz + off + vs.length by omega]
  simp
theorem take_mid {A vs us : List Value} {N p : Nat} (h : A.take N = us) (hN : N ≤ A.length) (hp : p + vs.length ≤ N) : (A.take p ++ vs ++ A.drop (p + vs.length)).take N = us.take p ++ vs ++ us.drop (p + vs.length) := by
 subst h
 have e1 : (A.take p ++ vs).length = p + vs.length := by simp; omega
 rw [List.take_append, List.take_of_length_le (by omega), e1, List.take_take, Nat.min_eq_left (by omega), List.drop_take]
theorem ES.storeEp {t : Nat} {y : Ty} {p x : Operand} {id ver off v E sz : Nat} {i : Int} {xs : List (List AV)} {r ys : List AV} {m1 : List (Nat × Ent)} {c c2 : Prop} (hT : TyOk P t y) (hp : oget σ p = .ep id ver i off) (hv : ver = v)
 (k : toROs σ.m (cellsOf (oget σ x)) = some (m1, ys, c)) (hc : c) (ks : solids σ.m (cellsOf (oget σ x)) = some c2) (hc2 : c2) (hb : look m1 id = some (.own v E sz xs)) (hr : xs[i.toNat]? = some r)
 (hn : ys.length = y.size) (hle : off + y.size ≤ sz) (hrl : r.length = sz) :
 ES P σ (.store t p x) .dead ((id, .own v E sz (xs.set i.toNat (r.take off ++ ys ++ r.drop (off + y.size)))) :: m1) false := by
 intro cx a w ro g o hg ho
 obtain ⟨h1, h2⟩ := VR_cells hg.rel (hg.og x) ks hc2
 obtain ⟨ro1, hg1, hon1, hys⟩ := toROs_ok hg k hc h1
 obtain ⟨b, n, c0, e1, e2⟩ := ep_addr (σ := ⟨σ.t, m1⟩) hg1 (p := p) (by cases p <;> exact hp) hb hv
 obtain ⟨hsz0, us, hF, hO⟩ := hg1.rel.ent id _ hb
 have hi : i.toNat < xs.length := (List.getElem?_eq_some_iff.1 hr).1
 rcases hO with ⟨hlen, hO | ⟨b', cc, cur, f1, f2, f3, f4, f5, f6, f7⟩⟩
 · omega
 rw [e1] at f1
 simp only [Value.slice.injEq, Option.some.injEq, Addr.mk.injEq, and_true] at f1
 obtain ⟨rfl, rfl, rfl⟩ := f1
 have hul := repF_len hF
 have hvl : (a.eval x).cells.toList.length = y.size := by rw [repL_len hys, hn]
 have hsz : (a.eval x).cells.size = y.size := by rw [← Array.length_toList, hvl]
 have hisz : i.toNat * sz + sz ≤ xs.length * sz := by rw [← Nat.succ_mul]; exact Nat.mul_le_mul_right _ hi
 have hcs : xs.length * sz ≤ c0 * sz := Nat.mul_le_mul_right _ f4
 have hst := run_storeCells_at P b (i.toNat * sz + off) E (a.eval x).cells.toList 0 cur w f3 (by rw [f6]; omega) h2
 simp only [Nat.add_zero] at hst
 have hblk : blkOf g id (.own v E sz xs) = some b := by simp [blkOf, e1, Value.ownBlock]
 refine ⟨undef, w.setRow b (cur.toList.take (i.toNat * sz + off) ++ (a.eval x).cells.toList ++ cur.toList.drop (i.toNat * sz + off + (a.eval x).cells.toList.length)).toArray, ro1, g, .skip, ?_, .inr ⟨rfl, rfl⟩, Good.upd hg1 id _ (some b) rfl rfl rfl (by simp [World.setRow]) (fun b1 hb' => ⟨_, hb, by cases hb'; exact hblk⟩) (fun k hk hne => setRow_other w _ k _ (fun e => hne (by rw [e]))) (fun i hi => ⟨rfl, rfl⟩) (fun e he => ?_) (fun b hb => hb) (fun b hb => ⟨by have := hg1.rel.rlt b hb; simpa [World.setRow] using this, .inl hb⟩) (fun hon => ?_) (fun b1 hb' => ?_) (fun v' T' cs' he => by cases he) (fun b1 hb' hlt => ?_), VR_dead, by simp [World.setRow], by simp⟩
 · simp only [execOp, ho, e2, Instr.storeAt, Instr.sureAddr, storeVar]
   simp [hsz, run_sizeOf hT, hst]
 · have he' : look m1 id = some e := he
   rw [hb] at he'
   cases he'
   exact ⟨Nat.le_refl _, fun _ => ⟨rfl, rfl, rfl⟩⟩
 · refine ⟨hsz0, _, repF_mono hon.ro sz _ _ (repF_set (w := w) (ro := ro1) hF hr (by simp [hrl, hn]; omega) off (a.eval x).cells.toList (by omega) (fun c hcr => ?_)), ?_⟩
   · rw [hvl]
     exact repL_cat (repL_cat (repL_take off hcr) hys) (repL_drop _ hcr)
   · rw [List.length_set]
     refine ⟨by rw [List.length_append, List.length_append, List.length_take, List.length_drop, hul]; generalize xs.length * sz = N at *; generalize i.toNat * sz = Z at *; omega, .inr ⟨b, c0, _, e1, f2, setRow_heap w _ _ _ _ _ f3, f4, f5, ?_, ?_⟩⟩
     · simp only [List.size_toArray, List.length_append, List.length_take, List.length_drop, Array.length_toList]
       omega
     · rw [List.toList_toArray]
       exact take_mid f7 (Nat.le_trans hcs (Nat.le_of_eq (by rw [← f6]; simp))) (by generalize xs.length * sz = N at *; generalize i.toNat * sz = Z at *; omega)
 · rw [show blkOf g id (.own v E sz (xs.set i.toNat (r.take off ++ ys ++ r.drop (off + y.size)))) = blkOf g id (.own v E sz xs) from rfl, hblk] at hb'
   cases hb'
   exact ⟨hg1.rel.nro id _ _ hb hblk, .inr ⟨_, hb, hblk⟩⟩
 · cases hb'
   omega
end
section
variable {P : Program} {σ : St} {cx : Cx} {a : Act} {w : World} {ro : Nat → Prop} {g : Gh}
def bytesR (ns : List Int) : List (List AV) := ns.map fun n => [.v (.int .u8 n)]
theorem bytesR_us : ∀ {ns : List Int} {us : List Value}, repF w ro 1 (bytesR ns) us → us = ns.map (Value.int .u8)
 | [], us, h => h
 | n :: ns, us, h => by
  obtain ⟨c, r, rfl, _, h1, h2⟩ := h
  obtain ⟨u, q, rfl, h3, h4⟩ := h1
  obtain rfl : u = .int .u8 n := (show u = .int .u8 n ∧ _ from h3).1
  obtain rfl : q = [] := h4
  rw [bytesR_us h2]
  rfl
theorem LV.str {s d e : Nat} {x : Operand} {ys yd ye : Ty} {xs : List (List AV)} {c : Prop} {ns : List Int} (hs : TyOk P s ys) (hks : ys.k = .slice e) (he : TyOk P e ye) (hke : ye.k = .int .u8) (hd : TyOk P d yd) (hkd : yd.k = .str)
 (h : rows σ (oget σ x) = some (xs, c)) (hc : c) (hz : rsz σ.m (oget σ x) 1 = true) (hx : xs = bytesR ns) : LV P σ (.convert s d x) (.v (.string (strOfNums ns))) := by
 intro cx a w ro g o hg ho
 have hv := hg.og x
 obtain ⟨A, c0, hh⟩ := rows_hdr hg hv h hc
 have hsl := hs.slice hks
 obtain ⟨de, he1, he2⟩ := he.under
 have he3 : P.underlying e = some (.int .u8) := by
  rw [hke] at he2
  cases de <;> simp only [tk, TK.int.injEq, reduceCtorEq] at he2
  subst he2
  exact he1
 have hds := hd.str hkd
 refine ⟨.string (strOfNums ns), fun w' hw => ?_, VR_v rfl⟩
 have hrun : (convert s d (a.eval x)).run P w' = .ok (.string (strOfNums ns)) w' := by
  subst hx
  rcases Nat.eq_zero_or_pos ns.length with h0 | h0
  · obtain rfl := List.eq_nil_of_length_eq_zero h0
    rw [hh]
    cases A with
    | none => exact run_convert_bytes_nil w' s e hsl he3 0 c0 d hds
    | some ad =>
     simp only [bytesR, List.map_nil, List.length_nil]
     rw [run_convert_bytes_string w' s d e _ _ _ hsl he3 hds, run_bytesToString w' ad 0 c0 [] (by simpa using run_loadCells_list (P := P) (w := w') ad [] (by simp))]
     rfl
  · obtain ⟨b, off, c', us, h1, h2, h3⟩ := rows_cells hg hv h hc hz (by simpa [bytesR] using h0)
    have hus := bytesR_us h2
    subst hus
    have hat : AtC w' b off (ns.map (Value.int .u8)) := cell_old (hw b ?_) h3
    · rw [h1, run_convert_bytes_string w' s d e _ _ _ hsl he3 hds]
      have hl := run_loadCells_list (P := P) (w := w') ⟨b, off, none⟩ (ns.map (Value.int .u8)) (fun j v hj => by rw [Addr.add_lit]; exact hat j v hj)
      rw [List.length_map] at hl
      rw [show (bytesR ns).length = ns.length by simp [bytesR], run_bytesToString w' _ _ _ ns hl, foldl_push_bytes]
      simp [strOfNums, ByteArray.empty, ByteArray.emptyWithCapacity]
      rfl
    · have h4 := h3 0 (.int .u8 (ns[0]'h0)) (by simp [h0])
      unfold World.cell? at h4
      rcases Nat.lt_or_ge b w.heap.size with hlt | hge
      · exact hlt
      · simp [Array.getElem?_eq_none hge] at h4
 simp [execOp, ho, hrun]
end
inductive D where
 | b (x : Bool)
 | r (rs : List RS) (bx : List AV)
 | e (t : Nat) (x : AV)
 | o (t : Nat) (ys : List (List AV))
 | g (r : List AV)
 | w (ns : List Int)
 | p (t : Nat) (ys : List (List AV))
 | q (rs : List RS) (bx as cs : List AV)
 | c (x : Bool)
 | m (ys : List (List AV))
def wrapL : AV → List AV → Option AV
 | .ag _, ys => some (.ag ys)
 | _, [y] => some y
 | _, _ => none
structure BX where
 id : Nat
 v : Nat
 T : Nat
 x : Bool
 cs : List AV
def ptOf : AV → Option (Nat × Nat × Nat)
 | .pt i v o => some (i, v, o)
 | _ => none
theorem ptOf_some {x : AV} {i v o : Nat} (h : ptOf x = some (i, v, o)) : x = .pt i v o := by
 cases x <;> simp_all [ptOf]
theorem ptOf_none {x : AV} (h : ptOf x = none) (i v o : Nat) : x ≠ .pt i v o := by
 cases x <;> simp_all [ptOf]
def argk (m : List (Nat × Ent)) : List AV → Option (List (Nat × Ent) × List AV × Option BX × Prop)
 | [] => some (m, [], none, True)
 | x :: r => match ptOf x with
  | some (id, ver, off) => match look m id with
   | some (.box v T x cs) => match toROs m cs with
    | some (m1, cs', c) => match argk m1 r with
     | some (m2, ys, none, d) => some (m2, .pt 0 0 off :: ys, some ⟨id, v, T, x, cs'⟩, ver = v ∧ c ∧ d)
     | _ => none
    | none => none
   | _ => none
  | none => match toROs m (cellsOf x) with
   | some (m1, ys, c) => match wrapL x ys with
    | some y => match argk m1 r with
     | some (m2, zs, b, d) => some (m2, y :: zs, b, c ∧ d)
     | none => none
    | none => none
   | none => none
def ogets (σ : St) : List Operand → List AV
 | [] => []
 | x :: r => oget σ x :: ogets σ r
def res1 : List AV → AV
 | [x] => x
 | xs => .tu xs
def ctrC (E : Env) (f : Nat) (bx : Option (Nat × List AV)) (ys : List AV) (rs : List RS) (bs : List AV) : Option (List AV × List AV) → Prop
 | none => Ctr E f bx ys rs bs
 | some (as, cs) => match bx with
  | none => roPs as ys ∧ Ctr E f none as rs bs
  | some (T, c0) => roPs as ys ∧ roL cs c0 ∧ Ctr E f (some (T, cs)) as rs bs
theorem ctrC_ok {E : Env} {f : Nat} {bx : Option (Nat × List AV)} {ys : List AV} {rs : List RS} {bs : List AV} {q : Option (List AV × List AV)} (h : ctrC E f bx ys rs bs q) : Ctr E f bx ys rs bs := by
 unfold ctrC at h
 split at h
 · exact h
 · split at h
   · exact Ctr.arg h.2 h.1
   · exact Ctr.arg (Ctr.box h.2.2 h.2.1) h.1
def aCallV (E : Env) (σ : St) (d f : Nat) (as : List AV) (rs : List RS) (bx : List AV) (q : Option (List AV × List AV)) : Option RR :=
 match argk σ.m as with
 | some (m1, ys, none, c) => match bindRS d m1 0 rs with
  | (xs, m2) => some ⟨res1 xs, m2, 2, some (c ∧ ctrC E f none ys rs [] q)⟩
 | some (m1, ys, some b, c) => match bindRS d ((b.id, .box b.v b.T b.x bx) :: m1) 0 rs with
  | (xs, m2) => some ⟨res1 xs, m2, 3, some (c ∧ ctrC E f (some (b.T, b.cs)) ys rs bx q)⟩
 | none => none
def aCall (E : Env) (σ : St) (d f : Nat) (as : List Operand) (rs : List RS) (bx : List AV) (q : Option (List AV × List AV)) : Option RR := aCallV E σ d f (ogets σ as) rs bx q
def aCallR (E : Env) (σ : St) (f : Nat) (as : List Operand) (ys : List (List AV)) : Option RR := match as with
 | [x] => match oget σ x with
  | .ow id ver => match look σ.m id with
   | some (.own v T sz xs) => some ⟨.tu [], (id, .own v T sz ys) :: σ.m, 3, some (ver = v ∧ CtrR E f T sz xs ys)⟩
   | _ => none
  | _ => none
 | _ => none
def capt (m : List (Nat × Ent)) : AV → Option (Nat × List AV × Option Prop)
 | .cl f id ver => match look m id with
  | some (.box v _ _ _) => some (f, [.pt id ver 0], some (ver = v))
  | _ => none
 | .v (.func (.func f) ⟨[]⟩ ⟨[]⟩) => some (f, [], none)
 | _ => none
def fAV {β : Type} (x : AV) (k : AV → β) : β := match x with
 | .v (.int j n) => k (.v (.int j n))
 | .v (.bool b) => k (.v (.bool b))
 | .v (.string s) => k (.v (.string s))
 | .v u => k (.v u)
 | .bb true => k (.bb true)
 | .bb false => k (.bb false)
 | .er b => k (.er b)
 | .sl sz xs => k (.sl sz xs)
 | .rf xs => k (.rf xs)
 | .ag xs => k (.ag xs)
 | .tu xs => k (.tu xs)
 | .ow i v => k (.ow i v)
 | .pt i v o => k (.pt i v o)
 | .ep i v j o => k (.ep i v j o)
 | .cl f i v => k (.cl f i v)
 | .dead => k .dead
theorem fAV_eq {β : Type} (x : AV) (k : AV → β) : fAV x k = k x := by
 unfold fAV
 split <;> rfl
def fM {β : Type} (m : List (Nat × Ent)) (k : List (Nat × Ent) → β) : β := match m with
 | (i, .own v E sz xs) :: r => k ((i, .own v E sz xs) :: r)
 | (i, .froz v sz xs) :: r => k ((i, .froz v sz xs) :: r)
 | (i, .box v T x cs) :: r => k ((i, .box v T x cs) :: r)
 | [] => k []
theorem fM_eq {β : Type} (m : List (Nat × Ent)) (k : List (Nat × Ent) → β) : fM m k = k m := by
 unfold fM
 split <;> rfl
def andc : Option Prop → Option Prop → Option Prop
 | none, q => q
 | p, none => p
 | some p, some q => some (p ∧ q)
theorem cp_and {p q : Option Prop} (h : cp (andc p q)) : cp p ∧ cp q := by
 cases p <;> cases q <;> simp_all [andc, cp]
def fC {β : Type} (c : Option Prop) (k : Option Prop → β) : β := match c with
 | none => k none
 | some p => k (some p)
theorem fC_eq {β : Type} (c : Option Prop) (k : Option Prop → β) : fC c k = k c := by
 unfold fC
 split <;> rfl
def St.put (σ : St) (d : Option Nat) (x : AV) (m : List (Nat × Ent)) : St := match d with
 | some t => ⟨(t, x) :: σ.t, m⟩
 | none => ⟨σ.t, m⟩
def did (d : Option Nat) : Nat := match d with
 | some t => t
 | none => 0
def aLoadE (T : List (Nat × Ty)) (σ : St) (t : Nat) (p : Operand) (r : List AV) : Option RR :=
 match look T t with
 | some y => match oget σ p with
  | .ep id ver i off => match look σ.m id with
   | some (.own v _ _ xs) => match ldv y (r.drop off) with
    | some x => some ⟨x, σ.m, 1, some (ver = v ∧ xs[i.toNat]? = some r)⟩
    | none => none
   | _ => none
  | _ => none
 | none => none
def aStoreE (T : List (Nat × Ty)) (σ : St) (t : Nat) (p x : Operand) (r : List AV) : Option RR :=
 match look T t with
 | some y => match oget σ p with
  | .ep id ver i off => match toROs σ.m (cellsOf (oget σ x)), solids σ.m (cellsOf (oget σ x)) with
   | some (m1, ys, c), some c2 => match look m1 id with
    | some (.own v E sz xs) => match Nat.beq ys.length y.size, Nat.ble (off + y.size) sz, Nat.beq r.length sz with
     | true, true, true => some ⟨.dead, (id, .own v E sz (xs.set i.toNat (r.take off ++ ys ++ r.drop (off + y.size)))) :: m1, 3, some (ver = v ∧ c ∧ c2 ∧ xs[i.toNat]? = some r)⟩
     | _, _, _ => none
    | _ => none
   | _, _ => none
  | _ => none
 | none => none
def aStr (T : List (Nat × Ty)) (σ : St) (s d : Nat) (x : Operand) (ns : List Int) : Option RR :=
 match tyk T s, tyk T d with
 | some (.slice e), some .str => match tyk T e with
  | some (.int .u8) => match rows σ (oget σ x), rsz σ.m (oget σ x) 1 with
   | some (xs, c), true => some ⟨.v (.string (strOfNums ns)), σ.m, 1, some (c ∧ xs = bytesR ns)⟩
   | _, _ => none
  | _ => none
 | _, _ => none
def aopD (T : List (Nat × Ty)) (σ : St) (d : Nat) (op : Op) (ds : List D) : Option (RR × List D) := match ds with
 | .g q :: ds' => match op with
  | .load t p => match aLoadE T σ t p q with
   | some r => some (r, ds')
   | none => match aop T σ d (.load t p) with
    | some r => some (r, .g q :: ds')
    | none => none
  | .store t p x => match aStoreE T σ t p x q with
   | some r => some (r, ds')
   | none => match aop T σ d (.store t p x) with
    | some r => some (r, .g q :: ds')
    | none => none
  | op => match aop T σ d op with
   | some r => some (r, .g q :: ds')
   | none => none
 | .w ns :: ds' => match op with
  | .convert s t x => match aStr T σ s t x ns with
   | some r => some (r, ds')
   | none => match aop T σ d (.convert s t x) with
    | some r => some (r, .w ns :: ds')
    | none => none
  | op => match aop T σ d op with
   | some r => some (r, .w ns :: ds')
   | none => none
 | .b q :: ds' => match op with
  | .pick c x y => match sc (oget σ c) with
   | some (.bool b) => match q with
    | true => some (⟨oget σ x, σ.m, 0, some (b = true)⟩, ds')
    | false => some (⟨oget σ y, σ.m, 0, some (b = false)⟩, ds')
   | _ => none
  | op => match aop T σ d op with
   | some r => some (r, .b q :: ds')
   | none => none
 | ds => match aop T σ d op with
  | some r => some (r, ds)
  | none => none
def hint (d : Nat) (r : RR) (ds : List D) : RR × List D := match ds with
 | .e t x :: ds' => match Nat.beq t d with
  | true => (⟨x, r.m, r.k, andc r.c (some (r.x = x))⟩, ds')
  | false => (r, ds)
 | .o t ys :: ds' => match Nat.beq t d with
  | true => match r.m with
   | (i, .own v E sz xs) :: m => (⟨r.x, (i, .own v E sz ys) :: m, r.k, andc r.c (some (xs = ys))⟩, ds')
   | _ => (r, ds)
  | false => (r, ds)
 | .p t ys :: ds' => match Nat.beq t d with
  | true => match r.m with
   | (i, .own v E sz xs) :: m => (⟨r.x, (i, .own v E sz ys) :: (i, .own v E sz xs) :: m, r.k, andc r.c (some (roF ys xs))⟩, ds')
   | _ => (r, ds)
  | false => (r, ds)
 | _ => (r, ds)
def ev0 (E : Env) (σ : St) (o : Oper) (ds : List D) : Option (RR × List D) := match o.op with
 | .call { callee := .value (.func f), args := as, argTypes := _ } => match ds with
  | .r rs bx :: ds' => match aCall E σ (did o.dst) f as.toList rs bx none with
   | some r => some (r, ds')
   | none => none
  | .q rs bx as' cs :: ds' => match aCall E σ (did o.dst) f as.toList rs bx (some (as', cs)) with
   | some r => some (r, ds')
   | none => none
  | .m ys :: ds' => match aCallR E σ f as.toList ys with
   | some r => some (r, ds')
   | none => none
  | _ => none
 | .call { callee := .value (.tmp s), args := as, argTypes := _ } => match capt σ.m (σ.get s) with
  | some (f, xs, p) => match ds with
   | .r rs bx :: ds' => match aCallV E σ (did o.dst) f (ogets σ as.toList ++ xs) rs bx none with
    | some r => some (⟨r.x, r.m, r.k, andc r.c p⟩, ds')
    | none => none
   | .q rs bx as' cs :: ds' => match aCallV E σ (did o.dst) f (ogets σ as.toList ++ xs) rs bx (some (as', cs)) with
    | some r => some (⟨r.x, r.m, r.k, andc r.c p⟩, ds')
    | none => none
   | _ => none
  | none => none
 | op => aopD E.T σ (did o.dst) op ds
def ev1 (E : Env) (σ : St) (o : Oper) (ds : List D) : Option (RR × List D) := match ev0 E σ o ds with
 | some (r, ds') => some (hint (did o.dst) r ds')
 | none => none
def dstOf (ops : List Oper) (j : Nat) : Option Nat := match nth ops j with
 | some o => o.dst
 | none => none
def nx {β : Type} (t : List (Nat × AV)) (d : Option Nat) (x : AV) (m : List (Nat × Ent)) (k : St → β) : β := match d with
 | some i => fAV x fun y => fM m fun m' => k ⟨(i, y) :: t, m'⟩
 | none => fM m fun m' => k ⟨t, m'⟩
theorem nx_eq {β : Type} (t : List (Nat × AV)) (d : Option Nat) (x : AV) (m : List (Nat × Ent)) (k : St → β) : nx t d x m k = k (St.put ⟨t, m⟩ d x m) := by
 unfold nx
 split <;> simp [fAV_eq, fM_eq, St.put]
def gd (ops : List Oper) (o : Oper) (ds : List D) (tt : List (Nat × AV)) (m : List (Nat × Ent)) : Option (Bool × List D × List (Nat × AV) × Option Prop) := match o.guard with
 | none => some (true, ds, tt, none)
 | some (j, want) => match dstOf ops j with
  | none => none
  | some t => match St.get ⟨tt, m⟩ t with
   | .bb b => match ds with
    | .b _ :: ds' => match b, want with
     | true, true => some (true, ds', tt, none)
     | false, false => some (true, ds', tt, none)
     | true, false => some (false, ds', tt, none)
     | false, true => some (false, ds', tt, none)
    | _ => none
   | .tu l => match l with
    | [] => some (false, ds, tt, none)
    | _ => none
   | .v (.bool b) => match ds with
    | .b true :: ds' => match want with
     | true => some (true, ds', (t, .bb true) :: tt, some (b = true))
     | false => some (false, ds', (t, .bb true) :: tt, some (b = true))
    | .b false :: ds' => match want with
     | true => some (false, ds', (t, .bb false) :: tt, some (b = false))
     | false => some (true, ds', (t, .bb false) :: tt, some (b = false))
    | .c true :: ds' => match want with
     | true => some (true, ds', tt, some (b = true))
     | false => some (false, ds', tt, some (b = true))
    | .c false :: ds' => match want with
     | true => some (false, ds', tt, some (b = false))
     | false => some (true, ds', tt, some (b = false))
    | _ => none
   | _ => none
def evOps (E : Env) (ops : List Oper) : List Oper → List D → St → Option Prop → Option (St × List D × Option Prop)
 | [], ds, σ, c => some (σ, ds, c)
 | o :: r, ds, ⟨t, m⟩, c => match gd ops o ds t m with
  | some (true, ds1, t1, c1) => match ev1 E ⟨t1, m⟩ o ds1 with
   | some (⟨x, m2, _, c2⟩, ds2) => nx t1 o.dst x m2 fun σ' => fC (andc (andc c c1) c2) fun c' => evOps E ops r ds2 σ' c'
   | none => none
  | some (false, ds1, t1, c1) => nx t1 o.dst (.tu []) m fun σ' => fC (andc c c1) fun c' => evOps E ops r ds1 σ' c'
  | none => none
def OpOk (P : Program) (σ : St) (op : Op) (r : RR) : Prop :=
 (r.k = 0 ∧ r.m = σ.m ∧ PV P σ op r.x) ∨ (r.k = 1 ∧ r.m = σ.m ∧ LV P σ op r.x) ∨ (r.k = 2 ∧ ES P σ op r.x r.m true) ∨ (r.k = 3 ∧ ES P σ op r.x r.m false)
section
variable {P : Program} {σ : St} {T : List (Nat × Ty)} {d : Nat} {r : RR}
theorem OpOk.pv {op : Op} {x : AV} {c : Option Prop} (h : PV P σ op x) : OpOk P σ op ⟨x, σ.m, 0, c⟩ := .inl ⟨rfl, rfl, h⟩
theorem OpOk.lv {op : Op} {x : AV} {c : Option Prop} (h : LV P σ op x) : OpOk P σ op ⟨x, σ.m, 1, c⟩ := .inr (.inl ⟨rfl, rfl, h⟩)
theorem OpOk.es {op : Op} {x : AV} {m : List (Nat × Ent)} {c : Option Prop} (h : ES P σ op x m true) : OpOk P σ op ⟨x, m, 2, c⟩ := .inr (.inr (.inl ⟨rfl, h⟩))
theorem OpOk.ew {op : Op} {x : AV} {m : List (Nat × Ent)} {c : Option Prop} (h : ES P σ op x m false) : OpOk P σ op ⟨x, m, 3, c⟩ := .inr (.inr (.inr ⟨rfl, h⟩))
theorem tyk_ok (hT : TOk P T) {t : Nat} {k : TK} (h : tyk T t = some k) : ∃ y, look T t = some y ∧ y.k = k ∧ TyOk P t y := by
 unfold tyk at h
 split at h
 · rename_i y hy
   cases h
   exact ⟨y, hy, rfl, hT t y hy⟩
 · cases h
theorem aBin_ok (hT : TOk P T) {op : BinOp} {t t' : Nat} {x y : Operand} (h : aBin T σ op t x y = some r) (hc : cp r.c) : OpOk P σ (.binOp op t x y t') r := by
 unfold aBin at h
 split at h
 · rename_i b hx
   split at h
   · split at h
     · rename_i k hk
       obtain ⟨yy, h1, h2, h3⟩ := tyk_ok hT hk
       split at h
       · rename_i hki
         cases h
         have : yy.k = .ifc := by rw [h2]; cases k <;> simp_all [kI]
         obtain ⟨ms, hm⟩ := h3.ifc this
         exact .pv (PV.bbv (PV.errEq hm hx))
       · rename_i hki
         cases h
         have : yy.k = .ifc := by rw [h2]; cases k <;> simp_all [kI]
         obtain ⟨ms, hm⟩ := h3.ifc this
         exact .pv (PV.bbv (PV.errNe hm hx))
       · cases h
     · cases h
   · cases h
 · split at h
   · cases h
   · rename_i u hu
     split at h
     · cases h
     · rename_i v hv
       split at h
       · rename_i hb
         split at h
         · rename_i q c hq
           cases h
           refine .pv (PV.bin hu hv hq hc (fun b b' e1 e2 => ?_))
           subst e1
           simp only [boolsOk] at hb
           split at hb
           · rename_i k hk
             obtain ⟨yy, h1, h2, h3⟩ := tyk_ok hT hk
             obtain ⟨dd, h4, h5⟩ := h3.under
             rw [h4]
             rw [h2] at h5
             cases dd <;> simp_all [tk, kB]
             all_goals (subst h5; simp [kB] at hb)
           · cases hb
         · cases h
       · cases h
theorem aConv_ok (hT : TOk P T) {s t : Nat} {x : Operand} (h : aConv T σ s t x = some r) (hc : cp r.c) : OpOk P σ (.convert s t x) r := by
 unfold aConv at h
 split at h
 · rename_i k n hx
   split at h
   · rename_i y kd hy hk
     cases h
     obtain ⟨yy, h1, h2, h3⟩ := tyk_ok hT hk
     obtain ⟨dd, h4, _⟩ := (hT _ _ hy).under
     exact .pv (PV.conv (by rw [h4]; rfl) (h3.int h2) hx)
   · cases h
 · rename_i b hx
   split at h
   · rename_i hk1 hk2
     cases h
     obtain ⟨y1, _, h2, h3⟩ := tyk_ok hT hk1
     obtain ⟨y2, _, h4, h5⟩ := tyk_ok hT hk2
     exact .pv (PV.convS (h3.str h2) (h5.str h4) hx)
   · cases h
 · cases h
theorem optI_some {o : Operand} {i : Int} (h : optI σ (some o) = some (some i)) : ∃ k, oget σ o = .v (.int k i) := by
 simp only [optI] at h
 split at h
 · rename_i k n hk
   cases h
   exact ⟨k, hk⟩
 · cases h
theorem optI_none {o : Option Operand} (h : optI σ o = some none) : o = none := by
 cases o with
 | none => rfl
 | some o =>
  simp only [optI] at h
  split at h <;> cases h
theorem optI_ex {o : Option Operand} {i : Int} (h : optI σ o = some (some i)) : ∃ p, o = some p := by
 cases o with
 | none => simp [optI] at h
 | some o => exact ⟨o, rfl⟩
theorem aSlice_ok (hT : TOk P T) {t : Nat} {x : Operand} {l h mx : Option Operand} (hh : aSlice T σ t x l h mx = some r) (hc : cp r.c) : OpOk P σ (.slice t x l h mx) r := by
 unfold aSlice at hh
 split at hh
 · rename_i s hx
   split at hh
   · rename_i i j hk hl hj
     cases hh
     obtain ⟨y1, _, h2, h3⟩ := tyk_ok hT hk
     obtain ⟨p, rfl⟩ := optI_ex hl
     obtain ⟨q, rfl⟩ := optI_ex hj
     obtain ⟨k1, e1⟩ := optI_some hl
     obtain ⟨k2, e2⟩ := optI_some hj
     exact .pv (PV.sliceS (h3.str h2) hx e1 e2 hc.1 hc.2.1 hc.2.2)
   · rename_i i hk hl hj
     cases hh
     obtain ⟨y1, _, h2, h3⟩ := tyk_ok hT hk
     obtain ⟨p, rfl⟩ := optI_ex hl
     obtain rfl := optI_none hj
     obtain ⟨k1, e1⟩ := optI_some hl
     exact .pv (PV.sliceSl (h3.str h2) hx e1 hc.1 hc.2)
   · rename_i j hk hl hj
     cases hh
     obtain ⟨y1, _, h2, h3⟩ := tyk_ok hT hk
     obtain ⟨q, rfl⟩ := optI_ex hj
     obtain rfl := optI_none hl
     obtain ⟨k2, e2⟩ := optI_some hj
     exact .pv (PV.sliceSh (h3.str h2) hx e2 hc.1 hc.2)
   · cases hh
 · rename_i sz xs hx
   split at hh
   · rename_i e hk
     obtain ⟨y1, _, h2, h3⟩ := tyk_ok hT hk
     split at hh
     · rename_i z hz
       have hsz : ∀ {n : Nat}, Nat.beq z.size n = true → (P.info? e).map (·.size) = some n := fun {n} hb => by
        obtain ⟨inf, i1, i2, _⟩ := (hT _ _ hz).info
        have := Nat.eq_of_beq_eq_true hb
        rw [i1, ← this, ← i2]
        rfl
       split at hh
       · rename_i j hb hl hj hm
         cases hh
         obtain ⟨q, rfl⟩ := optI_ex hj
         obtain rfl := optI_none hl
         obtain rfl := optI_none hm
         have := PV.sliceR (P := P) (σ := σ) (l := none) (h := some q) (mx := none) (size := 0) (mm := 0) (i := 0) (j := j) (h3.slice h2) (hsz hb) hx rfl (optI_some hj) trivial (fun h => absurd rfl h) (Int.le_refl _) hc.1 hc.2
         simp only [Int.toNat_zero, List.drop_zero] at this
         exact .pv this
       · rename_i i hb hl hj hm
         cases hh
         obtain ⟨q, rfl⟩ := optI_ex hl
         obtain rfl := optI_none hj
         obtain rfl := optI_none hm
         have := PV.sliceR (P := P) (σ := σ) (l := some q) (h := none) (mx := none) (size := 0) (mm := 0) (i := i) (j := (xs.length : Int)) (h3.slice h2) (hsz hb) hx (optI_some hl) ⟨rfl, rfl⟩ trivial (fun h => absurd rfl h) hc.1 hc.2 (Int.le_refl _)
         simp only [Int.toNat_natCast, List.take_length] at this
         exact .pv this
       · rename_i i j hb hl hj hm
         cases hh
         obtain ⟨q, rfl⟩ := optI_ex hl
         obtain ⟨q', rfl⟩ := optI_ex hj
         obtain rfl := optI_none hm
         exact .pv (PV.sliceR (size := 0) (mm := 0) (h3.slice h2) (hsz hb) hx (optI_some hl) (optI_some hj) trivial (fun h => absurd rfl h) hc.1 hc.2.1 hc.2.2)
       · rename_i j q hb hl hj hm
         cases hh
         obtain rfl := optI_none hl
         obtain ⟨q', rfl⟩ := optI_ex hj
         obtain ⟨q'', rfl⟩ := optI_ex hm
         have := PV.sliceR (P := P) (σ := σ) (l := none) (h := some q') (mx := some q'') (size := 0) (mm := q) (i := 0) (j := j) (h3.slice h2) (hsz hb) hx rfl (optI_some hj) (optI_some hm) (fun _ => ⟨hc.2.1, hc.2.2⟩) (Int.le_refl _) hc.1 (Int.le_trans hc.2.1 hc.2.2)
         simp only [Int.toNat_zero, List.drop_zero] at this
         exact .pv this
       · cases hh
     · cases hh
   · cases hh
 · cases hh
theorem aLen_ok (hT : TOk P T) {t : Nat} {x : Operand} (h : aLen T σ t x = some r) (hc : cp r.c) : OpOk P σ (.call { callee := .builtin .len, args := #[x], argTypes := #[t] }) r := by
 unfold aLen at h
 split at h
 · rename_i hk
   obtain ⟨y1, _, h2, h3⟩ := tyk_ok hT hk
   split at h
   · rename_i s hx
     cases h
     exact .pv (PV.lenS (h3.str h2) hx)
   · cases h
 · rename_i e hk
   obtain ⟨y1, _, h2, h3⟩ := tyk_ok hT hk
   split at h
   · rename_i xs c hx
     cases h
     exact .pv (PV.lenR (h3.slice h2) hx hc)
   · cases h
 · cases h
theorem aField_ok (hT : TOk P T) {t f : Nat} {x : Operand} (h : aField T σ t x f = some r) (hc : cp r.c) : OpOk P σ (.fieldAddr t x f) r := by
 unfold aField at h
 split at h
 · rename_i fs hk
   obtain ⟨y1, _, h2, h3⟩ := tyk_ok hT hk
   split at h
   · rename_i off ft hf
     split at h
     · rename_i z hz
       split at h
       · cases h
       · rename_i n hn
         have hne : z.size ≠ 0 := by omega
         split at h
         · rename_i xs hx
           cases h
           exact .pv (PV.fieldRf h3 h2 hf (hT _ _ hz) hne hx)
         · rename_i id ver o hx
           split at h
           · rename_i v Tb xx cs hl
             cases h
             exact .pv (PV.fieldPt h3 h2 hf (hT _ _ hz) hne hx hl hc)
           · cases h
         · rename_i id ver i o hx
           split at h
           · rename_i v E sz xs hl
             cases h
             exact .pv (PV.fieldEp h3 h2 hf (hT _ _ hz) hne hx hl hc)
           · cases h
         · cases h
     · cases h
   · cases h
 · cases h
theorem aPart_ok (hT : TOk P T) {t f : Nat} {x : Operand} (h : aPart T σ t x f = some r) (hc : cp r.c) : OpOk P σ (.field t x f) r := by
 unfold aPart at h
 split at h
 · rename_i fs hk
   obtain ⟨y1, _, h2, h3⟩ := tyk_ok hT hk
   split at h
   · rename_i off ft hf
     split at h
     · rename_i z hz
       split at h
       · rename_i xs hx
         split at h
         · rename_i y hy
           cases h
           exact .pv (PV.field h3 h2 hf (hT _ _ hz) hx hy)
         · cases h
       · cases h
     · cases h
   · cases h
 · cases h
theorem aIdx_ok (hT : TOk P T) {t : Nat} {x i : Operand} (h : aIdx T σ t x i = some r) (hc : cp r.c) : OpOk P σ (.indexAddr t x i) r := by
 unfold aIdx at h
 split at h
 · rename_i e hk
   obtain ⟨y1, _, h2, h3⟩ := tyk_ok hT hk
   split at h
   · rename_i z k n hz hi
     split at h
     · rename_i sz xs hx
       split at h
       · rename_i hb
         cases h
         exact .pv (PV.idxSl h3 h2 (hT _ _ hz) (Nat.eq_of_beq_eq_true hb) hx hi hc.1 hc.2)
       · cases h
     · rename_i id ver hx
       split at h
       · rename_i v E sz xs hl
         split at h
         · rename_i hb
           cases h
           exact .pv (PV.idxOw h3 h2 (hT _ _ hz) (Nat.eq_of_beq_eq_true hb) hx hl hc.1 hi hc.2.1 hc.2.2)
         · cases h
       · rename_i v sz xs hl
         split at h
         · rename_i hb
           cases h
           exact .pv (PV.idxFr h3 h2 (hT _ _ hz) (Nat.eq_of_beq_eq_true hb) hx hl hc.1 hi hc.2.1 hc.2.2)
         · cases h
       · cases h
     · cases h
   · cases h
 · rename_i m e hk
   obtain ⟨y1, _, h2, h3⟩ := tyk_ok hT hk
   split at h
   · rename_i z k n id ver off hz hi hx
     split at h
     · rename_i v T x cs hl
       cases h
       exact .pv (PV.idxArr h3 h2 (hT _ _ hz) hx hl hc.1 hi hc.2.1 hc.2.2)
     · cases h
   · cases h
 · cases h
theorem aLoad_ok (hT : TOk P T) {t : Nat} {p : Operand} (h : aLoad T σ t p = some r) (hc : cp r.c) : OpOk P σ (.load t p) r := by
 unfold aLoad at h
 split at h
 · rename_i y hy
   split at h
   · rename_i xs hx
     split at h
     · rename_i q hq
       cases h
       exact .lv (LV.loadRf (hT _ _ hy) hx hq)
     · cases h
   · rename_i id ver off hx
     split at h
     · rename_i v Tb xx cs hl
       split at h
       · rename_i q hq
         cases h
         exact .lv (LV.loadPt (hT _ _ hy) hx hl hc hq)
       · cases h
     · cases h
   · cases h
 · cases h
theorem aStore_ok (hT : TOk P T) {t : Nat} {p x : Operand} (h : aStore T σ t p x = some r) (hc : cp r.c) : OpOk P σ (.store t p x) r := by
 unfold aStore at h
 split at h
 · rename_i y hy
   split at h
   · rename_i id ver off hx
     split at h
     · rename_i v Tb xx cs hl
       split at h
       · rename_i c hs hb1 hb2
         cases h
         exact .ew (ES.storePt (hT _ _ hy) hx hl hc.1 hs hc.2 (Nat.eq_of_beq_eq_true hb1) (Nat.le_of_ble_eq_true hb2))
       · cases h
     · cases h
   · cases h
 · cases h
theorem aBuild_ok (hT : TOk P T) {t : Nat} {ps : Array (Nat × Operand)} (h : aBuild T σ t ps = some r) (hc : cp r.c) : OpOk P σ (.build t ps) r := by
 unfold aBuild at h
 split at h
 · rename_i y hy
   split at h
   · rename_i fs hk
     split at h
     · rename_i l hl
       split at h
       · rename_i ds c hf
         cases h
         have := PV.build hT hy hk hl hf hc
         rw [Array.toArray_toList] at this
         exact .pv this
       · cases h
     · cases h
   · cases h
 · cases h
theorem aLit_ok (hT : TOk P T) {t len : Nat} {ps : Array (Nat × Operand)} (h : aLit T σ d t len ps = some r) (hc : cp r.c) : OpOk P σ (.buildSlice t len ps) r := by
 unfold aLit at h
 split at h
 · rename_i e hk
   obtain ⟨y1, _, h2, h3⟩ := tyk_ok hT hk
   split at h
   · rename_i z hz
     split at h
     · cases h
     · rename_i s hs
       split at h
       · rename_i ds c hb1 hb2 hb3 hf
         split at h
         · rename_i m1 es c' hr
           split at h
           · rename_i hb4 hb5
             cases h
             have := ES.lit (id := d) h3 h2 (hT _ _ hz) hs (Nat.succ_pos s) (Nat.eq_of_beq_eq_true hb1) (Nat.eq_of_beq_eq_true hb2) (Nat.le_of_ble_eq_true hb3) hf hc.1 (Nat.eq_of_beq_eq_true hb4) hr hc.2 (Nat.eq_of_beq_eq_true hb5)
             rw [Array.toArray_toList] at this
             exact .es this
           · cases h
         · cases h
       · cases h
   · cases h
 · cases h
theorem aApp_ok (hT : TOk P T) {t : Nat} {s x : Operand} (h : aApp T σ d t s x = some r) (hc : cp r.c) : OpOk P σ (.call { callee := .builtin .append, args := #[s, x], argTypes := #[t, t] }) r := by
 unfold aApp at h
 split at h
 · rename_i e hk
   obtain ⟨y1, _, h2, h3⟩ := tyk_ok hT hk
   split at h
   · rename_i z hz
     split at h
     · rename_i s1 b hs hb
       split at h
       · rename_i ys c hb1 hrow hrs
         split at h
         · rename_i id ver hx
           split at h
           · rename_i v e' sz xs hl
             split at h
             · rename_i hb2 hb3
               have e1 := Nat.eq_of_beq_eq_true hb2
               have e2 := Nat.eq_of_beq_eq_true hb3
               subst e1
               subst e2
               cases h
               exact .ew (ES.app h3 h2 (hT _ _ hz) hs (Nat.succ_pos _) (Nat.eq_of_beq_eq_true hb1) hx hl hc.1 hrow hc.2.1 hrs (by omega) (by rw [hb]; exact hc.2.2))
             · cases h
           · cases h
         · rename_i hx
           cases h
           exact .es (ES.app0 h3 h2 (hT _ _ hz) hs (Nat.succ_pos _) (Nat.eq_of_beq_eq_true hb1) hx hrow hc.1 hrs (by omega) (by rw [hb]; exact hc.2))
         · cases h
       · cases h
     · cases h
   · cases h
 · cases h
theorem aMake_ok (hT : TOk P T) {t : Nat} {x k : Operand} (h : aMake T σ d t x k = some r) (hc : cp r.c) : OpOk P σ (.makeSlice t x k) r := by
 unfold aMake at h
 split at h
 · rename_i e hk
   obtain ⟨y1, _, h2, h3⟩ := tyk_ok hT hk
   split at h
   · rename_i z hz
     split at h
     · rename_i s1 kx i kk j hs hx hkk
       split at h
       · rename_i hb
         cases h
         obtain ⟨c1, c2, c3, c4, c, c5, c6⟩ := hc
         exact .es (ES.mk (zs := []) h3 h2 (hT _ _ hz) hs (Nat.succ_pos _) (Nat.eq_of_beq_eq_true hb) hx hkk c1 c2 c3 c4 c5 c6)
       · cases h
     · cases h
   · cases h
 · cases h
end
theorem aop_ok {P : Program} {σ : St} {T : List (Nat × Ty)} {d : Nat} {op : Op} {r : RR} (hT : TOk P T) (h : aop T σ d op = some r) (hc : cp r.c) : OpOk P σ op r := by
 unfold aop at h
 split at h
 · cases h; exact .pv (PV.move _)
 · cases h; exact .pv (PV.assign _)
 · rename_i c x y
   split at h
   · rename_i hx
     cases h
     exact .pv (PV.pick c x y true (by rw [hx]; rfl))
   · rename_i hx
     cases h
     exact .pv (PV.pick c x y false (by rw [hx]; rfl))
   · cases h
 · rename_i t i
   split at h
   · rename_i xs hx
     split at h
     · rename_i x hi
       cases h
       exact .pv (PV.extract t i xs x hx (by rw [← nth_eq]; exact hi))
     · cases h
   · cases h
 · exact aBin_ok hT h hc
 · split at h
   · rename_i b hx
     cases h
     exact .pv (PV.not hx)
   · rename_i b hx
     cases h
     exact .pv (PV.notb hx)
   · cases h
 · split at h
   · rename_i k n hx
     cases h
     exact .pv (PV.neg hx)
   · cases h
 · exact aConv_ok hT h hc
 · split at h
   · rename_i id ver o hx
     split at h
     · rename_i v T xx cs hl
       cases h
       exact .pv (PV.nilPt hx hl hc)
     · cases h
   · cases h
 · split at h
   · rename_i id ver o hx
     split at h
     · split at h
       · rename_i v T xx cs hl
         cases h
         exact .pv (PV.mkFn hx hl hc)
       · cases h
     · cases h
   · cases h
 · split at h
   · rename_i s k n hk hx hi
     cases h
     obtain ⟨y1, _, h2, h3⟩ := tyk_ok hT hk
     exact .pv (PV.indexS (h3.str h2) hx hi hc.1 hc.2)
   · cases h
 · exact aSlice_ok hT h hc
 · exact aField_ok hT h hc
 · exact aPart_ok hT h hc
 · exact aIdx_ok hT h hc
 · exact aLoad_ok hT h hc
 · exact aStore_ok hT h hc
 · split at h
   · rename_i y hy
     cases h
     exact .es (ES.alloc (hT _ _ hy))
   · cases h
 · split at h
   · rename_i c hs
     cases h
     exact .es (ES.box hs hc)
   · cases h
 · exact aBuild_ok hT h hc
 · exact aLit_ok hT h hc
 · exact aMake_ok hT h hc
 · exact aLen_ok hT h hc
 · split at h
   · rename_i hb
     have := Nat.eq_of_beq_eq_true hb
     subst this
     exact aApp_ok hT h hc
   · cases h
 · split at h
   · rename_i k i kk j hx hy
     cases h
     exact .pv (PV.max2 hx hy)
   · cases h
 · split at h
   · rename_i k i kk j hx hy
     cases h
     exact .pv (PV.min2 hx hy)
   · cases h
 · cases h
section
variable {E : Env} {cx : Cx} {σ : St} {a : Act} {w : World} {ro : Nat → Prop} {g : Gh}
theorem Good.put (hg : Good cx σ a w ro g) {d : Nat} {x : AV} {v : Value} (hd : d < cx.n) (hv : VR w ro g σ.m x v) : Good cx ⟨(d, x) :: σ.t, σ.m⟩ (a.put (some d) v) w ro g := by
 refine ⟨by simpa [Act.put] using hg.size, hg.defs, fun t y ht => ?_, hg.rel, hg.os, hg.tape, hg.output, hg.hsize, hg.keep, hg.roin, hg.rob, hg.xin⟩
 by_cases h : d = t
 · subst h
   rw [look_same] at ht
   cases ht
   have : (a.put (some d) v).tmps.getD d undef = v := by
    have := hg.size
    simp [Act.put, Array.getD, show d < a.tmps.size by omega]
   rw [this]
   exact hv
 · rw [look_other _ _ h] at ht
   have := hg.tm t y ht
   have e : (a.put (some d) v).tmps.getD t undef = a.tmps.getD t undef := by
    simp [Act.put, Array.getElem?_setIfInBounds, h]
   rw [e]
   exact this
theorem Good.putD (hg : Good cx σ a w ro g) {d : Option Nat} {x : AV} {v : Value} (hd : ∀ t, d = some t → t < cx.n) (hv : VR w ro g σ.m x v) : Good cx (σ.put d x σ.m) (a.put d v) w ro g := by
 cases d with
 | none => exact hg
 | some t => exact hg.put (hd t rfl) hv
theorem toRO_box {m m' : List (Nat × Ent)} {x y : AV} {c : Prop} (h : toRO m x = some (m', y, c)) {id v T : Nat} {xx : Bool} {cs : List AV} (hb : look m id = some (.box v T xx cs)) : look m' id = some (.box v T xx cs) := by
 cases x with
 | ow i ver =>
  simp only [toRO] at h
  split at h
  · rename_i v' E sz xs hl
    simp only [Option.some.injEq, Prod.mk.injEq] at h
    obtain ⟨rfl, _⟩ := h
    have : i ≠ id := fun e => by rw [e, hb] at hl; cases hl
    rw [look_other _ _ this]
    exact hb
  · simp only [Option.some.injEq, Prod.mk.injEq] at h
    obtain ⟨rfl, _⟩ := h
    exact hb
  · cases h
 | v _ => simp only [toRO, Option.some.injEq, Prod.mk.injEq] at h; obtain ⟨rfl, _⟩ := h; exact hb
 | bb _ => simp only [toRO, Option.some.injEq, Prod.mk.injEq] at h; obtain ⟨rfl, _⟩ := h; exact hb
 | er _ => simp only [toRO, Option.some.injEq, Prod.mk.injEq] at h; obtain ⟨rfl, _⟩ := h; exact hb
 | sl _ _ => simp only [toRO, Option.some.injEq, Prod.mk.injEq] at h; obtain ⟨rfl, _⟩ := h; exact hb
 | rf _ => simp only [toRO, Option.some.injEq, Prod.mk.injEq] at h; obtain ⟨rfl, _⟩ := h; exact hb
 | _ => simp [toRO] at h
theorem toROs_box : ∀ {xs ys : List AV} {m m' : List (Nat × Ent)} {c : Prop}, toROs m xs = some (m', ys, c) → ∀ {id v T : Nat} {xx : Bool} {cs : List AV}, look m id = some (.box v T xx cs) → look m' id = some (.box v T xx cs)
 | [], ys, m, m', c, h, id, v, T, xx, cs, hb => by
  simp only [toROs, Option.some.injEq, Prod.mk.injEq] at h
  obtain ⟨rfl, _⟩ := h
  exact hb
 | x :: xs, ys, m, m', c, h, id, v, T, xx, cs, hb => by
  simp only [toROs] at h
  split at h
  · rename_i m1 y c1 h1
    split at h
    · rename_i m2 zs d h2
      simp only [Option.some.injEq, Prod.mk.injEq] at h
      obtain ⟨rfl, _⟩ := h
      exact toROs_box h2 (toRO_box h1 hb)
    · cases h
  · cases h
theorem toRO_boxr {m m' : List (Nat × Ent)} {x y : AV} {c : Prop} (h : toRO m x = some (m', y, c)) {id v T : Nat} {xx : Bool} {cs : List AV} (hb : look m' id = some (.box v T xx cs)) : look m id = some (.box v T xx cs) := by
 cases x with
 | ow i ver =>
  simp only [toRO] at h
  split at h
  · rename_i v' E sz xs hl
    simp only [Option.some.injEq, Prod.mk.injEq] at h
    obtain ⟨rfl, _⟩ := h
    by_cases e : i = id
    · subst e
      rw [look_same] at hb
      cases hb
    · rwa [look_other _ _ e] at hb
  · simp only [Option.some.injEq, Prod.mk.injEq] at h
    obtain ⟨rfl, _⟩ := h
    exact hb
  · cases h
 | v _ => simp only [toRO, Option.some.injEq, Prod.mk.injEq] at h; obtain ⟨rfl, _⟩ := h; exact hb
 | bb _ => simp only [toRO, Option.some.injEq, Prod.mk.injEq] at h; obtain ⟨rfl, _⟩ := h; exact hb
 | er _ => simp only [toRO, Option.some.injEq, Prod.mk.injEq] at h; obtain ⟨rfl, _⟩ := h; exact hb
 | sl _ _ => simp only [toRO, Option.some.injEq, Prod.mk.injEq] at h; obtain ⟨rfl, _⟩ := h; exact hb
 | rf _ => simp only [toRO, Option.some.injEq, Prod.mk.injEq] at h; obtain ⟨rfl, _⟩ := h; exact hb
 | _ => simp [toRO] at h
theorem toROs_boxr : ∀ {xs ys : List AV} {m m' : List (Nat × Ent)} {c : Prop}, toROs m xs = some (m', ys, c) → ∀ {id v T : Nat} {xx : Bool} {cs : List AV}, look m' id = some (.box v T xx cs) → look m id = some (.box v T xx cs)
 | [], ys, m, m', c, h, id, v, T, xx, cs, hb => by
  simp only [toROs, Option.some.injEq, Prod.mk.injEq] at h
  obtain ⟨rfl, _⟩ := h
  exact hb
 | x :: xs, ys, m, m', c, h, id, v, T, xx, cs, hb => by
  simp only [toROs] at h
  split at h
  · rename_i m1 y c1 h1
    split at h
    · rename_i m2 zs d h2
      simp only [Option.some.injEq, Prod.mk.injEq] at h
      obtain ⟨rfl, _⟩ := h
      exact toRO_boxr h1 (toROs_boxr h2 hb)
    · cases h
  · cases h
theorem partsR_mono0 {g' : Gh} {m : List (Nat × Ent)} : ∀ {xs : List AV} {us : List Value}, partsR w ro g' [] xs us → partsR w ro g m xs us
 | [], us, h => h
 | x :: xs, us, h => by
  obtain ⟨u, r, h1, h2, h3⟩ := h
  exact ⟨u, r, h1, partR_mono0 h2, partsR_mono0 h3⟩
theorem argk_box : ∀ {xs ys : List AV} {m m' : List (Nat × Ent)} {b : Option BX} {c : Prop}, argk m xs = some (m', ys, b, c) → ∀ {id v T : Nat} {xx : Bool} {cs : List AV}, look m id = some (.box v T xx cs) → look m' id = some (.box v T xx cs)
 | [], ys, m, m', b, c, h, id, v, T, xx, cs, hb => by
  simp only [argk, Option.some.injEq, Prod.mk.injEq] at h
  obtain ⟨rfl, _⟩ := h
  exact hb
 | x :: xs, ys, m, m', b, c, h, id, v, T, xx, cs, hb => by
  simp only [argk] at h
  split at h
  · split at h
    · split at h
      · rename_i m1 cs' c1 h1
        split at h
        · rename_i m2 zs d h2
          simp only [Option.some.injEq, Prod.mk.injEq] at h
          obtain ⟨rfl, _⟩ := h
          exact argk_box h2 (toROs_box h1 hb)
        · cases h
      · cases h
    · cases h
  · split at h
    · rename_i m1 ys1 c1 h1
      split at h
      · split at h
        · rename_i m2 zs b2 d h2
          simp only [Option.some.injEq, Prod.mk.injEq] at h
          obtain ⟨rfl, _⟩ := h
          exact argk_box h2 (toROs_box h1 hb)
        · cases h
      · cases h
    · cases h
structure ArgOk (cx : Cx) (a : Act) (w : World) (g : Gh) (σ : St) (ro : Nat → Prop) (m' : List (Nat × Ent)) (ys : List AV) (b : Option BX) (us : List Value) (ro' : Nat → Prop) : Prop where
 good : Good cx ⟨σ.t, m'⟩ a w ro' g
 on : On w w ro ro' g g σ.m m'
 args : ∀ B, (∀ q, b = some q → B = g.B q.id) → partsR w ro' (g0 B) (m0 (b.map fun q => (q.T, q.cs))) ys us
 box : ∀ q, b = some q → ∃ ds us', look σ.m q.id = some (.box q.v q.T q.x ds) ∧ look m' q.id = some (.box q.v q.T q.x ds) ∧ repL w ro' q.cs us' ∧ w.heap[g.B q.id]? = some (.cells us'.toArray q.T (0, 0))
theorem argk_ok : ∀ {xs ys : List AV} {σ : St} {ro : Nat → Prop} {m' : List (Nat × Ent)} {b : Option BX} {c : Prop} {us : List Value}, Good cx σ a w ro g → argk σ.m xs = some (m', ys, b, c) → c →
 (xs.length = us.length ∧ ∀ (j : Nat) (x : AV) (u : Value), xs[j]? = some x → us[j]? = some u → VR w ro g σ.m x u) → ∃ ro', ArgOk cx a w g σ ro m' ys b us ro'
 | [], ys, σ, ro, m', b, c, us, hg, h, hc, hu => by
  simp only [argk, Option.some.injEq, Prod.mk.injEq] at h
  obtain ⟨rfl, rfl, rfl, _⟩ := h
  have : us = [] := List.eq_nil_of_length_eq_zero hu.1.symm
  subst this
  exact ⟨ro, hg, On.refl' _ _ _ _, fun _ _ => rfl, by simp⟩
 | x :: xs, ys, σ, ro, m', b, c, us, hg, h, hc, hu => by
  cases us with
  | nil => simp at hu
  | cons u us =>
  have hx := hu.2 0 x u rfl rfl
  have hrest : xs.length = us.length ∧ ∀ (j : Nat) (x : AV) (u : Value), xs[j]? = some x → us[j]? = some u → VR w ro g σ.m x u := ⟨by simpa using hu.1, fun j y z hy hz => hu.2 (j + 1) y z (by simpa using hy) (by simpa using hz)⟩
  simp only [argk] at h
  split at h
  · rename_i id ver off hpt
    obtain rfl := ptOf_some hpt
    split at h
    · rename_i v T xx cs hl
      split at h
      · rename_i m1 cs' c1 h1
        split at h
        · rename_i m2 zs d h2
          simp only [Option.some.injEq, Prod.mk.injEq] at h
          obtain ⟨rfl, rfl, rfl, rfl⟩ := h
          obtain ⟨hv, hc1, hc2⟩ := hc
          obtain ⟨f1, f2, us0, f3, f4⟩ := hg.rel.ent id _ hl
          obtain ⟨ro1, h5, h6, h7⟩ := toROs_ok hg h1 hc1 f3
          obtain ⟨ro2, h8⟩ := argk_ok (σ := ⟨σ.t, m1⟩) h5 h2 hc2 ⟨hrest.1, fun j p q hp hq => VR_on h6 (hrest.2 j p q hp hq)⟩
          obtain ⟨e, g1, g2, g3⟩ := hx
          rw [hl] at g1
          cases g1
          have g4 := g3 hv rfl
          refine ⟨ro2, h8.good, h6.trans h8.on, fun B hB => ⟨u, us, rfl, ?_, partsR_mono0 (h8.args B (by simp))⟩, fun q hq => ?_⟩
          · have hB' := hB _ rfl
            simp only at hB'
            exact ⟨.box 0 T true cs', by simp [m0, look], Nat.le_refl _, fun _ _ => by rw [g4, hB']; rfl⟩
          · cases hq
            exact ⟨cs, us0, hl, argk_box h2 (toROs_box h1 hl), repL_mono h8.on.ro _ _ h7, f4⟩
        · cases h
      · cases h
    · cases h
  · rename_i hpt
    have hpt := ptOf_none hpt
    split at h
    · rename_i m1 ys1 c1 h1
      split at h
      · rename_i y hw
        split at h
        · rename_i m2 zs b2 d h2
          simp only [Option.some.injEq, Prod.mk.injEq] at h
          obtain ⟨rfl, rfl, rfl, rfl⟩ := h
          have hx1 : ∃ vs, cellsR w ro g σ.m (cellsOf x) vs ∧ ∀ (ro' : Nat → Prop) B m, repL w ro' ys1 vs → partR w ro' (g0 B) m y u := by
           have one : (cellsOf x = [x]) → cellR w ro g σ.m x u → (∀ zs, x ≠ .ag zs) → ∃ vs, cellsR w ro g σ.m (cellsOf x) vs ∧ ∀ (ro' : Nat → Prop) B m, repL w ro' ys1 vs → partR w ro' (g0 B) m y u := fun e1 e2 e3 => by
            refine ⟨[u], by rw [e1]; exact ⟨u, [], rfl, e2, rfl⟩, fun ro' B m hr => ?_⟩
            have hy1 : ys1 = [y] := by
             unfold wrapL at hw
             split at hw
             · exact absurd rfl (e3 _)
             · cases hw; rfl
             · cases hw
            rw [hy1] at hr
            obtain ⟨u', e4, e5⟩ := repL_rep1 hr
            cases e4
            cases y <;> first | exact e5 | (simp [rep] at e5)
           cases x with
           | ag zs =>
            obtain ⟨vs, rfl, h3⟩ := hx
            refine ⟨vs, h3, fun ro' B m hr => ?_⟩
            simp only [wrapL, Option.some.injEq] at hw
            subst hw
            exact ⟨vs, rfl, repL_cellsR hr⟩
           | tu zs => simp [cellsOf, toROs, toRO] at h1
           | pt i v o => exact absurd rfl (hpt i v o)
           | v _ => exact one rfl hx (by simp)
           | bb _ => exact one rfl hx (by simp)
           | er _ => exact one rfl hx (by simp)
           | sl _ _ => exact one rfl hx (by simp)
           | rf _ => exact one rfl hx (by simp)
           | ow _ _ => exact one rfl hx (by simp)
           | ep _ _ _ _ => exact one rfl hx (by simp)
           | cl _ _ _ => exact one rfl hx (by simp)
           | dead => exact one rfl hx (by simp)
          obtain ⟨vs, h3, h4⟩ := hx1
          obtain ⟨ro1, h5, h6, h7⟩ := toROs_ok hg h1 hc.1 h3
          obtain ⟨ro2, h8⟩ := argk_ok (σ := ⟨σ.t, m1⟩) h5 h2 hc.2 ⟨hrest.1, fun j p q hp hq => VR_on h6 (hrest.2 j p q hp hq)⟩
          refine ⟨ro2, h8.good, h6.trans h8.on, fun B hB => ⟨u, us, rfl, h4 ro2 B _ (repL_mono h8.on.ro _ _ h7), h8.args B hB⟩, fun q hq => ?_⟩
          obtain ⟨ds, us', e1, e2, e3, e4⟩ := h8.box q hq
          exact ⟨ds, us', toROs_boxr h1 e1, e2, e3, e4⟩
        · cases h
      · cases h
    · cases h
end
structure Fr (E : Env) (cx : Cx) : Prop where
 laid : E.Laid cx.w0
 ext : ∀ b, cx.ext b → E.L ≤ b
section
variable {E : Env} {cx : Cx} {σ : St} {a : Act} {w : World} {ro : Nat → Prop} {g : Gh}
theorem res_VR {w : World} {ro : Nat → Prop} {g : Gh} {m : List (Nat × Ent)} {xs : List AV} {vs : List Value} (h : partsR w ro g m xs vs) : VR w ro g m (res1 xs) (retV vs) := by
 match xs, h with
 | [], h =>
  simp only [partsR] at h
  subst h
  exact ⟨[], rfl, rfl⟩
 | [x], ⟨u, r, h1, h2, h3⟩ =>
  simp only [partsR] at h3
  subst h3
  subst h1
  exact partR_VR h2
 | x :: y :: zs, h =>
  obtain ⟨u, r, rfl, h2, u', r', rfl, h3, h4⟩ := h
  exact ⟨u :: u' :: r', rfl, u, _, rfl, h2, u', r', rfl, h3, h4⟩
theorem ogets_ok (hg : Good cx σ a w ro g) : ∀ as : List Operand, (ogets σ as).length = (as.map a.eval).length ∧ ∀ (j : Nat) (x : AV) (u : Value), (ogets σ as)[j]? = some x → (as.map a.eval)[j]? = some u → VR w ro g σ.m x u
 | [] => ⟨rfl, fun j x u h => by simp [ogets] at h⟩
 | x :: r => by
  obtain ⟨h1, h2⟩ := ogets_ok hg r
  refine ⟨by simp [ogets, h1], fun j y u hy hu => ?_⟩
  cases j with
  | zero =>
   simp only [ogets, List.getElem?_cons_zero, Option.some.injEq, List.map_cons] at hy hu
   subst hy
   subst hu
   exact hg.og x
  | succ j => exact h2 j y u (by simpa [ogets] using hy) (by simpa using hu)
def OW (E : Env) (cx : Cx) (σ : St) (o : Oper) (r : RR) : Prop := ∀ (a : Act) (w : World) (ro : Nat → Prop) (g : Gh) (K : Act → World → Prop) (Q : Exit → Act → World → Prop), Good cx σ a w ro g →
 (∀ v w' ro' g', Good cx ⟨σ.t, r.m⟩ a w' ro' g' → VR w' ro' g' r.m r.x v → w.heap.size ≤ w'.heap.size → (r.k ≠ 3 → ∀ k, k < w.heap.size → w'.heap[k]? = w.heap[k]?) → K (a.put o.dst v) w') → o.wp E.P a w K Q
theorem OW.of_ok {o : Oper} {r : RR} (h : OpOk E.P σ o.op r) (hd : o.dst ≠ none ∨ True) : OW E cx σ o r := by
 intro a w ro g K Q hg hk
 unfold Oper.wp
 rcases h with ⟨h1, h2, h3⟩ | ⟨h1, h2, h3⟩ | ⟨h1, h3⟩ | ⟨h1, h3⟩
 · obtain ⟨v, h4, h5⟩ := h3 cx a w ro g o hg rfl
   rw [h4 w]
   exact hk v w ro g (by rw [h2]; exact hg) (by rw [h2]; exact h5) (Nat.le_refl _) (fun _ _ _ => rfl)
 · obtain ⟨v, h4, h5⟩ := h3 cx a w ro g o hg rfl
   rw [h4 w (fun _ _ => rfl)]
   exact hk v w ro g (by rw [h2]; exact hg) (by rw [h2]; exact h5) (Nat.le_refl _) (fun _ _ _ => rfl)
 · obtain ⟨v, w', ro', g', nx, h4, h5, h6, h7, h8, h9⟩ := h3 cx a w ro g o hg rfl
   rw [h4]
   rcases h5 with rfl | ⟨rfl, rfl⟩
   · exact hk v w' ro' g' h6 h7 h8 (fun _ => h9 rfl)
   · exact hk undef w' ro' g' h6 h7 h8 (fun _ => h9 rfl)
 · obtain ⟨v, w', ro', g', nx, h4, h5, h6, h7, h8, h9⟩ := h3 cx a w ro g o hg rfl
   rw [h4]
   rcases h5 with rfl | ⟨rfl, rfl⟩
   · exact hk v w' ro' g' h6 h7 h8 (fun h => absurd h1 h)
   · exact hk undef w' ro' g' h6 h7 h8 (fun h => absurd h1 h)
theorem run_enter {f : Nat} (h : Callable E.P f) (args : Array Value) (w : World) : (callFunc f args).run E.P w = .ok (.enter f args) w := by
 obtain ⟨fn, hf, hname, hb⟩ := h
 have h1 : fn.name ≠ "runtime.NumGoroutine" := by simpa using hname
 obtain ⟨c, hc⟩ := Option.isSome_iff_exists.1 hb
 simp [callFunc, hf, h1, hc]
theorem OW.callV {o : Oper} {f : Nat} {avs : List AV} {rs : List RS} {bx : List AV} {q : Option (List AV × List AV)} {r : RR} (hF : Fr E cx)
 (ho : ∀ (a : Act) (w : World) (ro : Nat → Prop) (g : Gh), Good cx σ a w ro g → ∃ vals : List Value, (Callable E.P f → (execOp a.eval o).run E.P w = .ok (.enter f vals.toArray) w) ∧ avs.length = vals.length ∧ ∀ (j : Nat) (x : AV) (u : Value), avs[j]? = some x → vals[j]? = some u → VR w ro g σ.m x u)
 (h : aCallV E σ (did o.dst) f avs rs bx q = some r) (hc : cp r.c) : OW E cx σ o r := by
 intro a w ro g K Q hg hk
 obtain ⟨vals, hrun, hargs⟩ := ho a w ro g hg
 have hlaid := laid_now hg hF.laid hF.ext
 unfold aCallV at h
 split at h
 · rename_i m1 ys c hk1
   simp only [Option.some.injEq] at h
   subst h
   obtain ⟨hc1, hq0⟩ := hc
   obtain ⟨hcal, hctr⟩ := ctrC_ok hq0
   obtain ⟨ro1, hA⟩ := argk_ok hg hk1 hc1 hargs
   have := hctr w ro1 0 vals hlaid hA.good.rel.rlt (by simp) (hA.args 0 (by simp))
   unfold Oper.wp
   rw [hrun hcal, Oper.upon_enter]
   refine this.mono fun e w' hh => ?_
   obtain ⟨vs, ro', rfl, hs⟩ := hh
   have hsame : ∀ k, k < w.heap.size → w'.heap[k]? = w.heap[k]? := fun k hk => hs.same k hk (fun h => absurd rfl h)
   have hgr := hA.good.grow hs.os hs.tape hs.output hs.size hsame hs.roin hs.rob
   obtain ⟨g', h1, h2, h3⟩ := bind_ok (d := did o.dst) (j := 0) (rs := rs) hgr hs.res hg.hsize (fun i e b he hb => .inl (blk_lt hA.good.rel he hb)) (fun k e _ he b hb => blk_lt hA.good.rel he hb)
   exact hk _ w' ro' g' h1 (res_VR h3) hs.size (fun _ => hsame)
 · rename_i m1 ys b c hk1
   simp only [Option.some.injEq] at h
   subst h
   obtain ⟨hc1, hq0⟩ := hc
   obtain ⟨hcal, hctr⟩ := ctrC_ok hq0
   obtain ⟨ro1, hA⟩ := argk_ok hg hk1 hc1 hargs
   obtain ⟨ds, us', hb1, hb2, hb3, hb4⟩ := hA.box b rfl
   have hent := hg.rel.ent b.id _ hb1
   have hLB : E.L ≤ g.B b.id := by
    have hl0 := E.lsize _ hF.laid
    cases hx : b.x with
    | false => have := hent.1 hx; omega
    | true =>
     rw [hent.2.1 hx]
     rw [hx] at hb1
     exact hF.ext _ (hg.xin _ _ _ _ hb1)
   have hnro : ¬ ro1 (g.B b.id) := hA.good.rel.nro b.id _ _ hb2 (by simp [blkOf])
   have := hctr w ro1 (g.B b.id) vals hlaid hA.good.rel.rlt (fun T cs he => by
    simp only [Option.some.injEq, Prod.mk.injEq] at he
    obtain ⟨rfl, rfl⟩ := he
    exact ⟨hnro, hLB, us', hb3, hb4⟩) (hA.args _ (fun q hq => by cases hq; rfl))
   unfold Oper.wp
   rw [hrun hcal, Oper.upon_enter]
   refine this.mono fun e w' hh => ?_
   obtain ⟨vs, ro', rfl, hs⟩ := hh
   obtain ⟨hnro', us2, hbx, hbh⟩ := hs.box _ _ rfl
   have hgr : Good cx ⟨σ.t, (b.id, .box b.v b.T b.x bx) :: m1⟩ a w' ro' g := by
    refine Good.updF hA.good b.id (.box b.v b.T b.x bx) (some (g.B b.id)) hs.os hs.tape hs.output hs.size (fun bb hbb => ⟨_, hb2, by simpa [blkOf] using hbb⟩) (fun k hk hne => hs.same k hk (fun _ he => hne (by rw [he]))) (fun i hi => ⟨rfl, rfl⟩) (fun e he => ?_) hs.roin (fun bb hbb => ⟨(hs.rob bb hbb).1, (hs.rob bb hbb).2.imp_right .inl⟩) (fun hon => ?_) (fun bb hbb => ?_) (fun v' T' cs' he => ?_) (fun bb hbb hlt => ?_)
    · rw [show look m1 b.id = _ from hb2] at he
      cases he
      exact ⟨Nat.le_refl _, fun _ => ⟨trivial, rfl, rfl⟩⟩
    · exact ⟨hent.1, hent.2.1, us2, repL_cellsR hbx, hbh⟩
    · simp only [blkOf, Option.some.injEq] at hbb
      subst hbb
      exact ⟨hnro', fun i e hi he hbb => hA.good.rel.sep i b.id e _ _ hi he hb2 hbb (by simp [blkOf])⟩
    · simp only [Ent.box.injEq] at he
      obtain ⟨_, _, hx, _⟩ := he
      rw [hx] at hb1
      exact hg.xin _ _ _ _ hb1
    · cases hbb
      cases hx : b.x with
      | false => have := hent.1 hx; omega
      | true =>
       rw [hent.2.1 hx]
       rw [hx] at hb1
       exact hg.xin _ _ _ _ hb1
   have hblk : ∀ i e bb, look ((b.id, Ent.box b.v b.T b.x bx) :: m1) i = some e → blkOf g i e = some bb → bb < w.heap.size := fun i e bb he hbb => by
    by_cases hi : b.id = i
    · subst hi
      rw [look_same] at he
      cases he
      simp only [blkOf, Option.some.injEq] at hbb
      subst hbb
      exact (Array.getElem?_eq_some_iff.1 hb4).1
    · rw [look_other _ _ hi] at he
      exact blk_lt hA.good.rel he hbb
   obtain ⟨g', h1, h2, h3⟩ := bind_ok (d := did o.dst) (j := 0) (rs := rs) hgr hs.res hg.hsize (fun i e bb he hbb => .inl (hblk i e bb he hbb)) (fun k e _ he bb hbb => hblk _ e bb he hbb)
   exact hk _ w' ro' g' h1 (res_VR h3) hs.size (fun h => absurd rfl h)
 · cases h
theorem OW.call {o : Oper} {f : Nat} {as : Array Operand} {ts : Array TypeId} {rs : List RS} {bx : List AV} {q : Option (List AV × List AV)} {r : RR} (hF : Fr E cx) (ho : o.op = .call { callee := .value (.func f), args := as, argTypes := ts }) (h : aCall E σ (did o.dst) f as.toList rs bx q = some r) (hc : cp r.c) : OW E cx σ o r := by
 refine OW.callV hF (fun a w ro g hg => ⟨as.toList.map a.eval, fun hcall => ?_, ogets_ok hg as.toList⟩) h hc
 have hmap : (as.toList.map a.eval).toArray = as.map a.eval := by rw [← Array.toList_map, Array.toArray_toList]
 rw [hmap]
 obtain ⟨args, hargs⟩ : ∃ x, as.map a.eval = x := ⟨_, rfl⟩
 have he := run_enter hcall args w
 unfold execOp
 simp [ho, resolve, Deferred.ofValue, invoke, Act.eval, hargs, he]
theorem OW.callR {o : Oper} {f : Nat} {as : Array Operand} {ts : Array TypeId} {ys : List (List AV)} {r : RR} (hF : Fr E cx) (ho : o.op = .call { callee := .value (.func f), args := as, argTypes := ts }) (h : aCallR E σ f as.toList ys = some r) (hc : cp r.c) : OW E cx σ o r := by
 unfold aCallR at h
 split at h
 · rename_i x hx
   split at h
   · rename_i id ver hp
     split at h
     · rename_i v T sz xs hl
       simp only [Option.some.injEq] at h
       subst h
       obtain ⟨hv, hcal, hctr⟩ := hc
       intro a w ro g K Q hg hk
       have hsv := hg.og x
       rw [hp] at hsv
       obtain ⟨e0, f1, f2, f3⟩ := hsv
       rw [hl] at f1
       cases f1
       have f4 := f3 hv rfl
       obtain ⟨h0, us, f5, f6⟩ := hg.rel.ent id _ hl
       have := hctr w ro cx.w0.heap.size (g.G id) us (laid_now hg hF.laid hF.ext) hg.rel.rlt (E.lsize _ hF.laid) h0 f5 f6 (fun b hb => hg.rel.nro id _ b hl hb)
       have hrun : (execOp a.eval o).run E.P w = .ok (.enter f #[g.G id]) w := by
        have hmap : as.map a.eval = #[g.G id] := by
         rw [← Array.toArray_toList (xs := as.map a.eval), Array.toList_map, hx, List.map_cons, List.map_nil, f4]
        have he := run_enter hcal #[g.G id] w
        unfold execOp
        simp [ho, resolve, Deferred.ofValue, invoke, Act.eval, hmap, he]
       unfold Oper.wp
       rw [hrun, Oper.upon_enter]
       refine this.mono fun e w' hh => ?_
       obtain ⟨rfl, g1, g2, g3, g4, g5, us', g6, g7⟩ := hh
       have hgood : Good cx ⟨σ.t, (id, .own v T sz ys) :: σ.m⟩ a w' ro g := by
        refine Good.upd hg id (.own v T sz ys) (g.G id).ownBlock g1 g2 g3 g4 (fun b hb => ⟨_, hl, hb⟩) g5 (fun i hi => ⟨rfl, rfl⟩) (fun e1 he => ?_) (fun b hb => hb) (fun b hb => ⟨Nat.lt_of_lt_of_le (hg.rel.rlt b hb) g4, .inl hb⟩) (fun hon => ?_) (fun b hb' => ?_) (by simp) (fun b hb' hlt => ?_)
        · rw [show look σ.m id = _ from hl] at he
          cases he
          exact ⟨Nat.le_refl _, fun _ => ⟨rfl, rfl, rfl⟩⟩
        · exact ⟨h0, us', repF_mono hon.ro _ _ _ g6, g7⟩
        · exact ⟨hg.rel.nro id _ b hl hb', .inr ⟨_, hl, hb'⟩⟩
        · have := (f6.lt b hb').1
          omega
       exact hk _ w' ro g hgood ⟨[], rfl, rfl⟩ g4 (fun h => absurd rfl h)
     · cases h
   · cases h
 · cases h
theorem capt_ok {w : World} {ro : Nat → Prop} {g : Gh} {m : List (Nat × Ent)} {x : AV} {u : Value} {f : Nat} {xs : List AV} {p : Option Prop} (hx : VR w ro g m x u) (h : capt m x = some (f, xs, p)) (hp : cp p) : ∃ us : List Value, u = .func (.func f) #[] us.toArray ∧ xs.length = us.length ∧ ∀ (j : Nat) (y : AV) (v : Value), xs[j]? = some y → us[j]? = some v → VR w ro g m y v := by
 unfold capt at h
 split at h
 · split at h
   · rename_i id ver _ v T xx cs hl
     cases h
     obtain ⟨e, h1, h2, h3⟩ := hx
     rw [hl] at h1
     cases h1
     have hv : ver = v := hp
     refine ⟨[.pointer (some ⟨g.B id, 0, none⟩)], h3 hv rfl, rfl, fun j y z hy hz => ?_⟩
     cases j with
     | zero =>
      obtain rfl : AV.pt id ver 0 = y := by simpa using hy
      obtain rfl : Value.pointer (some ⟨g.B id, 0, none⟩) = z := by simpa using hz
      exact ⟨_, hl, by simp [Ent.ver, hv], fun _ _ => rfl⟩
     | succ j => simp at hy
   · cases h
 · cases h
   exact ⟨[], (show u = _ ∧ _ from hx).1, rfl, fun j y z hy _ => by simp at hy⟩
 · cases h
theorem OW.callT {o : Oper} {s f : Nat} {xs : List AV} {p : Option Prop} {as : Array Operand} {ts : Array TypeId} {rs : List RS} {bx : List AV} {q : Option (List AV × List AV)} {r : RR} (hF : Fr E cx) (ho : o.op = .call { callee := .value (.tmp s), args := as, argTypes := ts }) (hx : capt σ.m (σ.get s) = some (f, xs, p)) (h : aCallV E σ (did o.dst) f (ogets σ as.toList ++ xs) rs bx q = some r) (hc : cp r.c) (hp : cp p) : OW E cx σ o r := by
 refine OW.callV hF (fun a w ro g hg => ?_) h hc
 obtain ⟨us, e1, e2, e3⟩ := capt_ok (hg.og (.tmp s)) hx hp
 obtain ⟨h1, h2⟩ := ogets_ok hg as.toList
 refine ⟨as.toList.map a.eval ++ us, fun hcall => ?_, by rw [List.length_append, List.length_append, h1, e2], fun j x u hj hu => ?_⟩
 · have hmap : (as.toList.map a.eval ++ us).toArray = as.map a.eval ++ us.toArray := by
    rw [← List.append_toArray, ← Array.toList_map, Array.toArray_toList]
   rw [hmap]
   obtain ⟨args, hargs⟩ : ∃ x, as.map a.eval ++ us.toArray = x := ⟨_, rfl⟩
   have he := run_enter hcall args w
   unfold execOp
   simp [ho, resolve, Deferred.ofValue, invoke, e1, hargs, he]
 · by_cases hlt : j < (ogets σ as.toList).length
   · rw [List.getElem?_append_left hlt] at hj
     rw [List.getElem?_append_left (by rw [← h1]; exact hlt)] at hu
     exact h2 j x u hj hu
   · rw [List.getElem?_append_right (by omega)] at hj
     rw [List.getElem?_append_right (by rw [← h1]; omega), ← h1] at hu
     exact e3 _ x u hj hu
theorem aopD_ok {P : Program} {σ : St} {T : List (Nat × Ty)} {d : Nat} {op : Op} {ds ds' : List D} {r : RR} (hT : TOk P T) (h : aopD T σ d op ds = some (r, ds')) (hc : cp r.c) : OpOk P σ op r := by
 unfold aopD at h
 split at h
 · split at h
   · split at h
     · rename_i r1 h1
       cases h
       unfold aLoadE at h1
       split at h1
       · rename_i y hy
         split at h1
         · rename_i id ver i off hp
           split at h1
           · rename_i v E sz xs hl
             split at h1
             · rename_i x hx
               cases h1
               obtain ⟨hv, hr⟩ := hc
               exact .lv (LV.loadEp (hT _ _ hy) hp hl hv hr hx)
             · cases h1
           · cases h1
         · cases h1
       · cases h1
     · split at h
       · rename_i r1 h1
         cases h
         exact aop_ok hT h1 hc
       · cases h
   · split at h
     · rename_i r1 h1
       cases h
       unfold aStoreE at h1
       split at h1
       · rename_i y hy
         split at h1
         · rename_i id ver i off hp
           split at h1
           · rename_i m1 ys c c2 hro hso
             split at h1
             · rename_i v E sz xs hl
               split at h1
               · rename_i b1 b2 b3
                 cases h1
                 obtain ⟨hv, hc1, hc2, hr⟩ := hc
                 exact .ew (ES.storeEp (hT _ _ hy) hp hv hro hc1 hso hc2 hl hr (Nat.eq_of_beq_eq_true b1) (Nat.le_of_ble_eq_true b2) (Nat.eq_of_beq_eq_true b3))
               · cases h1
             · cases h1
           · cases h1
         · cases h1
       · cases h1
     · split at h
       · rename_i r1 h1
         cases h
         exact aop_ok hT h1 hc
       · cases h
   · split at h
     · rename_i r1 h1
       cases h
       exact aop_ok hT h1 hc
     · cases h
 · split at h
   · split at h
     · rename_i r1 h1
       cases h
       unfold aStr at h1
       split at h1
       · rename_i e hs hd
         split at h1
         · rename_i he
           split at h1
           · rename_i xs c hx hz
             cases h1
             obtain ⟨y1, _, a2, a3⟩ := tyk_ok hT hs
             obtain ⟨y2, _, b2, b3⟩ := tyk_ok hT hd
             obtain ⟨y3, _, c2, c3⟩ := tyk_ok hT he
             exact .lv (LV.str a3 a2 c3 c2 b3 b2 hx hc.1 hz hc.2)
           · cases h1
         · cases h1
       · cases h1
     · split at h
       · rename_i r1 h1
         cases h
         exact aop_ok hT h1 hc
       · cases h
   · split at h
     · rename_i r1 h1
       cases h
       exact aop_ok hT h1 hc
     · cases h
 · split at h
   · rename_i cc xx yy
     split at h
     · rename_i hb
       have hp := PV.pick (P := P) (σ := σ) cc xx yy _ hb
       split at h
       · cases h
         simp only [cp] at hc
         subst hc
         exact .pv hp
       · cases h
         simp only [cp] at hc
         subst hc
         exact .pv hp
     · cases h
   · split at h
     · rename_i r' hr
       cases h
       exact aop_ok hT hr hc
     · cases h
 · split at h
   · rename_i r' hr
     cases h
     exact aop_ok hT hr hc
   · cases h
theorem Good.rowsF {t : List (Nat × AV)} {m : List (Nat × Ent)} {i v Et sz : Nat} {xs ys : List (List AV)} (hg : Good cx ⟨t, m⟩ a w ro g) (hl : look m i = some (.own v Et sz xs)) (hf : roF ys xs) : Good cx ⟨t, (i, .own v Et sz ys) :: m⟩ a w ro g ∧ On w w ro ro g g m ((i, .own v Et sz ys) :: m) := by
 have hon : On w w ro ro g g m ((i, .own v Et sz ys) :: m) := by
  refine ⟨fun b hb => ⟨hb, rfl⟩, fun k e he => ?_⟩
  by_cases hi : i = k
  · subst hi
    rw [hl] at he
    cases he
    exact ⟨_, look_same _ _ _, Nat.le_refl _, fun _ => ⟨rfl, rfl, rfl⟩⟩
  · exact ⟨e, by rw [look_other _ _ hi]; exact he, Nat.le_refl _, fun _ => ⟨e.same_refl, rfl, rfl⟩⟩
 refine ⟨Good.upd hg i _ none rfl rfl rfl (Nat.le_refl _) (by simp) (fun _ _ _ => rfl) (fun i hi => ⟨rfl, rfl⟩) (fun e he => ?_) (fun b hb => hb) (fun b hb => ⟨hg.rel.rlt b hb, .inl hb⟩) (fun hon => ?_) (fun b hb => ?_) (by simp) (by simp), hon⟩
 · rw [show look m i = _ from hl] at he
   cases he
   exact ⟨Nat.le_refl _, fun _ => ⟨rfl, rfl, rfl⟩⟩
 · obtain ⟨h1, us, h2, h3⟩ := hg.rel.ent i _ hl
   exact ⟨h1, us, roF_rep hf h2, by rw [roF_len hf]; exact h3⟩
 · exact ⟨hg.rel.nro i _ b hl hb, .inr ⟨_, hl, hb⟩⟩
theorem hint_ok {d : Nat} {r r' : RR} {ds ds' : List D} (h : hint d r ds = (r', ds')) (hc : cp r'.c) : r'.x = r.x ∧ r'.k = r.k ∧ cp r.c ∧ ∀ (cx : Cx) (t : List (Nat × AV)) (a : Act) (w : World) (ro : Nat → Prop) (g : Gh), Good cx ⟨t, r.m⟩ a w ro g → Good cx ⟨t, r'.m⟩ a w ro g ∧ ∀ x u, VR w ro g r.m x u → VR w ro g r'.m x u := by
 have same : ∀ r'' : RR, r''.m = r.m → ∀ (cx : Cx) (t : List (Nat × AV)) (a : Act) (w : World) (ro : Nat → Prop) (g : Gh), Good cx ⟨t, r.m⟩ a w ro g → Good cx ⟨t, r''.m⟩ a w ro g ∧ ∀ x u, VR w ro g r.m x u → VR w ro g r''.m x u := fun r'' e cx t a w ro g hg => by
  rw [e]
  exact ⟨hg, fun x u h => h⟩
 unfold hint at h
 split at h
 · split at h
   · cases h
     have h1 := (cp_and hc).2
     exact ⟨h1.symm, rfl, (cp_and hc).1, same _ rfl⟩
   · cases h
     exact ⟨rfl, rfl, hc, same _ rfl⟩
 · split at h
   · split at h
     · rename_i hm
       cases h
       have h1 := (cp_and hc).2
       simp only [cp] at h1
       subst h1
       exact ⟨rfl, rfl, (cp_and hc).1, same _ hm.symm⟩
     · cases h
       exact ⟨rfl, rfl, hc, same _ rfl⟩
   · cases h
     exact ⟨rfl, rfl, hc, same _ rfl⟩
 · split at h
   · split at h
     · rename_i hm
       cases h
       have h1 := (cp_and hc).2
       simp only [cp] at h1
       refine ⟨rfl, rfl, (cp_and hc).1, fun cx t a w ro g hg => ?_⟩
       rw [hm] at hg ⊢
       obtain ⟨h2, h3⟩ := Good.rowsF hg (look_same _ _ _) h1
       exact ⟨h2, fun x u h => VR_on h3 h⟩
     · cases h
       exact ⟨rfl, rfl, hc, same _ rfl⟩
   · cases h
     exact ⟨rfl, rfl, hc, same _ rfl⟩
 · cases h
   exact ⟨rfl, rfl, hc, same _ rfl⟩
theorem ev1_ev0 {o : Oper} {ds ds' : List D} {r : RR} (h : ev1 E σ o ds = some (r, ds')) (hc : cp r.c) : ∃ r0 ds0, ev0 E σ o ds = some (r0, ds0) ∧ r.x = r0.x ∧ r.k = r0.k ∧ cp r0.c ∧ ∀ (cx : Cx) (t : List (Nat × AV)) (a : Act) (w : World) (ro : Nat → Prop) (g : Gh), Good cx ⟨t, r0.m⟩ a w ro g → Good cx ⟨t, r.m⟩ a w ro g ∧ ∀ x u, VR w ro g r0.m x u → VR w ro g r.m x u := by
 unfold ev1 at h
 split at h
 · rename_i r0 ds0 h0
   simp only [Option.some.injEq] at h
   obtain ⟨h1, h2, h3, h4⟩ := hint_ok h hc
   exact ⟨r0, ds0, h0, h1, h2, h3, h4⟩
 · cases h
theorem ev0_ok {o : Oper} {ds ds' : List D} {r : RR} (hF : Fr E cx) (h : ev0 E σ o ds = some (r, ds')) (hc : cp r.c) : OW E cx σ o r := by
 unfold ev0 at h
 split at h
 · rename_i f as ts hop
   split at h
   · rename_i rs bx ds2
     split at h
     · rename_i r' hr
       cases h
       exact OW.call hF hop hr hc
     · cases h
   · split at h
     · rename_i r' hr
       cases h
       exact OW.call hF hop hr hc
     · cases h
   · split at h
     · rename_i r' hr
       cases h
       exact OW.callR hF hop hr hc
     · cases h
   · cases h
 · rename_i s as ts hop
   split at h
   · rename_i f xs p hx
     split at h
     · split at h
       · rename_i r' hr
         cases h
         exact (OW.callT (r := r') hF hop hx hr (cp_and hc).1 (cp_and hc).2 : OW E cx σ o r')
       · cases h
     · split at h
       · rename_i r' hr
         cases h
         exact (OW.callT (r := r') hF hop hx hr (cp_and hc).1 (cp_and hc).2 : OW E cx σ o r')
       · cases h
     · cases h
   · cases h
 · exact OW.of_ok (aopD_ok E.tok h hc) (.inr trivial)
theorem ev1_ok {o : Oper} {ds ds' : List D} {r : RR} (hF : Fr E cx) (h : ev1 E σ o ds = some (r, ds')) (hc : cp r.c) : OW E cx σ o r := by
 obtain ⟨r0, ds0, h0, h1, h2, h3, h4⟩ := ev1_ev0 h hc
 intro a w ro g K Q hg hk
 refine ev0_ok hF h0 h3 a w ro g K Q hg (fun v w' ro' g' k1 k2 k3 k4 => ?_)
 obtain ⟨k5, k6⟩ := h4 cx _ _ _ _ _ k1
 exact hk v w' ro' g' k5 (by rw [h1]; exact k6 _ _ k2) k3 (by rw [h2]; exact k4)
theorem ev1_pure {o : Oper} {ds ds' : List D} {r : RR} (hT : TOk E.P E.T) (h : ev1 E σ o ds = some (r, ds')) (hc : cp r.c) (hk : r.k = 0) (a : Act) (w : World) (ro : Nat → Prop) (g : Gh) (hg : Good cx σ a w ro g) :
 ∃ v, (∀ w', (execOp a.eval o).run E.P w' = .ok (.value v) w') ∧ Good cx ⟨σ.t, r.m⟩ a w ro g ∧ VR w ro g r.m r.x v := by
 obtain ⟨r0, ds0, h0, e1, e3, hc0, e4⟩ := ev1_ev0 h hc
 rw [e1]
 rw [e3] at hk
 suffices hh : ∃ v, (∀ w', (execOp a.eval o).run E.P w' = .ok (.value v) w') ∧ Good cx ⟨σ.t, r0.m⟩ a w ro g ∧ VR w ro g r0.m r0.x v by
  obtain ⟨v, h1, h2, h3⟩ := hh
  obtain ⟨k5, k6⟩ := e4 cx _ _ _ _ _ h2
  exact ⟨v, h1, k5, k6 _ _ h3⟩
 unfold ev0 at h0
 split at h0
 · split at h0
   · split at h0
     · rename_i r' hr
       cases h0
       unfold aCall aCallV at hr
       split at hr
       · simp only [Option.some.injEq] at hr; subst hr; simp at hk
       · simp only [Option.some.injEq] at hr; subst hr; simp at hk
       · cases hr
     · cases h0
   · split at h0
     · rename_i r' hr
       cases h0
       unfold aCall aCallV at hr
       split at hr
       · simp only [Option.some.injEq] at hr; subst hr; simp at hk
       · simp only [Option.some.injEq] at hr; subst hr; simp at hk
       · cases hr
     · cases h0
   · split at h0
     · rename_i r' hr
       cases h0
       unfold aCallR at hr
       split at hr
       · split at hr
         · split at hr
           · simp only [Option.some.injEq] at hr; subst hr; simp at hk
           · cases hr
         · cases hr
       · cases hr
     · cases h0
   · cases h0
 · split at h0
   · split at h0
     · split at h0
       · rename_i r' hr
         cases h0
         unfold aCallV at hr
         split at hr
         · simp only [Option.some.injEq] at hr; subst hr; simp at hk
         · simp only [Option.some.injEq] at hr; subst hr; simp at hk
         · cases hr
       · cases h0
     · split at h0
       · rename_i r' hr
         cases h0
         unfold aCallV at hr
         split at hr
         · simp only [Option.some.injEq] at hr; subst hr; simp at hk
         · simp only [Option.some.injEq] at hr; subst hr; simp at hk
         · cases hr
       · cases h0
     · cases h0
   · cases h0
 · rcases aopD_ok hT h0 hc0 with ⟨h1, h2, h3⟩ | ⟨h1, _⟩ | ⟨h1, _⟩ | ⟨h1, _⟩
   · obtain ⟨v, h4, h5⟩ := h3 cx a w ro g o hg rfl
     exact ⟨v, h4, by rw [h2]; exact hg, by rw [h2]; exact h5⟩
   · omega
   · omega
   · omega
theorem ev1_load {o : Oper} {ds ds' : List D} {r : RR} (hT : TOk E.P E.T) (h : ev1 E σ o ds = some (r, ds')) (hc : cp r.c) (hk : r.k = 0 ∨ r.k = 1) (a : Act) (w : World) (ro : Nat → Prop) (g : Gh) (hg : Good cx σ a w ro g) :
 ∃ v, (∀ w', (∀ k, k < w.heap.size → w'.heap[k]? = w.heap[k]?) → (execOp a.eval o).run E.P w' = .ok (.value v) w') ∧ Good cx ⟨σ.t, r.m⟩ a w ro g ∧ VR w ro g r.m r.x v := by
 obtain ⟨r0, ds0, h0, e1, e3, hc0, e4⟩ := ev1_ev0 h hc
 rw [e1]
 rw [e3] at hk
 suffices hh : ∃ v, (∀ w', (∀ k, k < w.heap.size → w'.heap[k]? = w.heap[k]?) → (execOp a.eval o).run E.P w' = .ok (.value v) w') ∧ Good cx ⟨σ.t, r0.m⟩ a w ro g ∧ VR w ro g r0.m r0.x v by
  obtain ⟨v, h1, h2, h3⟩ := hh
  obtain ⟨k5, k6⟩ := e4 cx _ _ _ _ _ h2
  exact ⟨v, h1, k5, k6 _ _ h3⟩
 unfold ev0 at h0
 split at h0
 · split at h0
   · split at h0
     · rename_i r' hr
       cases h0
       unfold aCall aCallV at hr
       split at hr
       · simp only [Option.some.injEq] at hr; subst hr; simp at hk
       · simp only [Option.some.injEq] at hr; subst hr; simp at hk
       · cases hr
     · cases h0
   · split at h0
     · rename_i r' hr
       cases h0
       unfold aCall aCallV at hr
       split at hr
       · simp only [Option.some.injEq] at hr; subst hr; simp at hk
       · simp only [Option.some.injEq] at hr; subst hr; simp at hk
       · cases hr
     · cases h0
   · split at h0
     · rename_i r' hr
       cases h0
       unfold aCallR at hr
       split at hr
       · split at hr
         · split at hr
           · simp only [Option.some.injEq] at hr; subst hr; simp at hk
           · cases hr
         · cases hr
       · cases hr
     · cases h0
   · cases h0
 · split at h0
   · split at h0
     · split at h0
       · rename_i r' hr
         cases h0
         unfold aCallV at hr
         split at hr
         · simp only [Option.some.injEq] at hr; subst hr; simp at hk
         · simp only [Option.some.injEq] at hr; subst hr; simp at hk
         · cases hr
       · cases h0
     · split at h0
       · rename_i r' hr
         cases h0
         unfold aCallV at hr
         split at hr
         · simp only [Option.some.injEq] at hr; subst hr; simp at hk
         · simp only [Option.some.injEq] at hr; subst hr; simp at hk
         · cases hr
       · cases h0
     · cases h0
   · cases h0
 · rcases aopD_ok hT h0 hc0 with ⟨h1, h2, h3⟩ | ⟨h1, h2, h3⟩ | ⟨h1, _⟩ | ⟨h1, _⟩
   · obtain ⟨v, h4, h5⟩ := h3 cx a w ro g o hg rfl
     exact ⟨v, fun w' _ => h4 w', by rw [h2]; exact hg, by rw [h2]; exact h5⟩
   · obtain ⟨v, h4, h5⟩ := h3 cx a w ro g o hg rfl
     exact ⟨v, h4, by rw [h2]; exact hg, by rw [h2]; exact h5⟩
   · omega
   · omega
end
def dstOk (n : Nat) (o : Oper) : Bool := match o.dst with
 | some t => Nat.blt t n
 | none => true
def dstsOk (n : Nat) : List Oper → Bool
 | [] => true
 | o :: r => dstOk n o && dstsOk n r
section
variable {E : Env} {cx : Cx} {σ : St} {a : Act} {w : World} {ro : Nat → Prop} {g : Gh}
theorem andc_l {p q : Option Prop} (h : cp (andc p q)) : cp p := (cp_and h).1
theorem andc_r {p q : Option Prop} (h : cp (andc p q)) : cp q := (cp_and h).2
theorem evOps_c : ∀ {rest : List Oper} {ops : List Oper} {ds ds' : List D} {σ σ' : St} {c c' : Option Prop}, evOps E ops rest ds σ c = some (σ', ds', c') → cp c' → cp c
 | [], ops, ds, ds', σ, σ', c, c', h, hc => by
  simp only [evOps, Option.some.injEq, Prod.mk.injEq] at h
  obtain ⟨_, _, rfl⟩ := h
  exact hc
 | o :: r, ops, ds, ds', ⟨t, m⟩, σ', c, c', h, hc => by
  simp only [evOps] at h
  split at h
  · split at h
    · simp only [nx_eq, fC_eq] at h
      exact andc_l (andc_l (evOps_c h hc))
    · cases h
  · simp only [nx_eq, fC_eq] at h
    exact andc_l (evOps_c h hc)
  · cases h
theorem nth_arr (ops : List Oper) (j : Nat) : ops.toArray[j]? = nth ops j := by rw [nth_eq]; simp
theorem VR_skip {w : World} {ro : Nat → Prop} {g : Gh} {m : List (Nat × Ent)} : VR w ro g m (.tu []) undef := ⟨[], rfl, rfl⟩
theorem gd_ok {ops : List Oper} {o : Oper} {ds ds1 : List D} {t t1 : List (Nat × AV)} {m : List (Nat × Ent)} {b : Bool} {c1 : Option Prop} (hg : Good cx ⟨t, m⟩ a w ro g) (h : gd ops o ds t m = some (b, ds1, t1, c1)) (hc : cp c1) : Region.wanted o (yielded ops.toArray a.tmps) = b ∧ Good cx ⟨t1, m⟩ a w ro g := by
 unfold gd at h
 split at h
 · rename_i hgd
   simp only [Option.some.injEq, Prod.mk.injEq] at h
   obtain ⟨rfl, rfl, rfl, rfl⟩ := h
   exact ⟨by simp [Region.wanted, hgd], hg⟩
 · rename_i j want hgd
   split at h
   · cases h
   · rename_i tt hd
     have hy : ∀ b', a.tmps.getD tt undef = .bool b' → Region.wanted o (yielded ops.toArray a.tmps) = (b' == want) := fun b' hb => by
      unfold dstOf at hd
      split at hd
      · rename_i oj hoj
        have hoj' : ops.toArray[j]? = some oj := by rw [nth_arr]; exact hoj
        have ht : a.tmps[tt]? = some (.bool b') := by
         cases h1 : a.tmps[tt]? with
         | none => simp [Array.getD_eq_getD_getElem?, h1, undef] at hb
         | some q => simp [Array.getD_eq_getD_getElem?, h1] at hb; rw [hb]
        have : yielded ops.toArray a.tmps j = some b' := by simp only [yielded, hoj', Option.bind_some, hd, ht]
        simp only [Region.wanted, hgd, this]
        cases b' <;> cases want <;> rfl
      · cases hd
     have lit : ∀ b', VR w ro g m (.v (.bool b')) (a.tmps.getD tt undef) ∨ VR w ro g m (.bb b') (a.tmps.getD tt undef) → a.tmps.getD tt undef = .bool b' := fun b' hh => by
      rcases hh with hh | hh
      · exact hh.1
      · exact hh
     have hgt : VR w ro g m (St.get ⟨t, m⟩ tt) (a.tmps.getD tt undef) := hg.og (.tmp tt)
     have lay : ∀ b', a.tmps.getD tt undef = .bool b' → Good cx ⟨(tt, .bb b') :: t, m⟩ a w ro g := fun b' hb => by
      refine ⟨hg.size, hg.defs, fun i y hi => ?_, hg.rel, hg.os, hg.tape, hg.output, hg.hsize, hg.keep, hg.roin, hg.rob, hg.xin⟩
      by_cases he : tt = i
      · subst he
        rw [look_same] at hi
        cases hi
        exact hb
      · rw [look_other _ _ he] at hi
        exact hg.tm i y hi
     split at h
     · rename_i b0 hb0
       rw [hb0] at hgt
       have h1 := hy b0 (lit b0 (.inr hgt))
       split at h
       · split at h <;> (simp only [Option.some.injEq, Prod.mk.injEq] at h; obtain ⟨rfl, rfl, rfl, rfl⟩ := h; exact ⟨h1, hg⟩)
       · cases h
     · rename_i l hl
       rw [hl] at hgt
       split at h
       · simp only [Option.some.injEq, Prod.mk.injEq] at h
         obtain ⟨rfl, rfl, rfl, rfl⟩ := h
         obtain ⟨us, hu, hus⟩ := hgt
         simp only [partsR] at hus
         subst hus
         refine ⟨?_, hg⟩
         have hyn : yielded ops.toArray a.tmps j = none := by
          unfold dstOf at hd
          split at hd
          · rename_i oj hoj
            have hoj' : ops.toArray[j]? = some oj := by rw [nth_arr]; exact hoj
            have ht : a.tmps[tt]? = none ∨ a.tmps[tt]? = some undef := by
             cases h1 : a.tmps[tt]? with
             | none => exact .inl rfl
             | some q => simp [Array.getD_eq_getD_getElem?, h1] at hu; rw [hu]; exact .inr rfl
            simp only [yielded, hoj', Option.bind_some, hd]
            rcases ht with ht | ht <;> rw [ht]
            simp [undef]
          · cases hd
         simp only [Region.wanted, hgd, hyn]
         rfl
       · cases h
     · rename_i b0 hb0
       rw [hb0] at hgt
       have h0 := lit b0 (.inl hgt)
       have h1 := hy b0 h0
       split at h
       · split at h <;> (simp only [Option.some.injEq, Prod.mk.injEq] at h; obtain ⟨rfl, rfl, rfl, rfl⟩ := h; simp only [cp] at hc; subst hc; exact ⟨h1, lay true h0⟩)
       · split at h <;> (simp only [Option.some.injEq, Prod.mk.injEq] at h; obtain ⟨rfl, rfl, rfl, rfl⟩ := h; simp only [cp] at hc; subst hc; exact ⟨h1, lay false h0⟩)
       · split at h <;> (simp only [Option.some.injEq, Prod.mk.injEq] at h; obtain ⟨rfl, rfl, rfl, rfl⟩ := h; simp only [cp] at hc; subst hc; exact ⟨h1, hg⟩)
       · split at h <;> (simp only [Option.some.injEq, Prod.mk.injEq] at h; obtain ⟨rfl, rfl, rfl, rfl⟩ := h; simp only [cp] at hc; subst hc; exact ⟨h1, hg⟩)
       · cases h
     · cases h
theorem evOps_seq (hF : Fr E cx) {ops : List Oper} {Q : Exit → Act → World → Prop} : ∀ {rest : List Oper} {ds ds' : List D} {σ σ' : St} {c c' : Option Prop} {a : Act} {w : World} {ro : Nat → Prop} {g : Gh}, evOps E ops rest ds σ c = some (σ', ds', c') → cp c' → dstsOk cx.n rest = true → Good cx σ a w ro g →
 (∀ a' w' ro' g', Good cx σ' a' w' ro' g' → Q .normal a' w') → wpList E.P ops.toArray Q rest a w
 | [], ds, ds', σ, σ', c, c', a, w, ro, g, h, hc, hd, hg, hQ => by
  simp only [evOps, Option.some.injEq, Prod.mk.injEq] at h
  obtain ⟨rfl, _, _⟩ := h
  exact hQ a w ro g hg
 | o :: r, ds, ds', ⟨t, m⟩, σ', c, c', a, w, ro, g, h, hc, hd, hg, hQ => by
  simp only [dstsOk, Bool.and_eq_true] at hd
  have hdst : ∀ t, o.dst = some t → t < cx.n := fun t ht => by
   have := hd.1
   simp only [dstOk, ht] at this
   simpa using this
  simp only [evOps] at h
  unfold wpList
  split at h
  · rename_i ds1 t1 c1 hgd
    split at h
    · rename_i x m2 k c2 ds2 he
      simp only [nx_eq, fC_eq] at h
      have hcc := evOps_c h hc
      obtain ⟨h1, h2⟩ := gd_ok hg hgd (andc_r (andc_l hcc))
      rw [if_pos h1]
      refine .inl (ev1_ok hF he (andc_r hcc) a w ro g _ _ h2 (fun v w' ro' g' h3 h4 _ _ => ?_))
      exact evOps_seq hF h hc hd.2 (Good.putD (σ := ⟨t1, m2⟩) h3 hdst h4) hQ
    · cases h
  · rename_i ds1 t1 c1 hgd
    simp only [nx_eq, fC_eq] at h
    have hcc := evOps_c h hc
    obtain ⟨h1, h2⟩ := gd_ok hg hgd (andc_r hcc)
    rw [if_neg (by rw [h1]; simp)]
    exact evOps_seq hF h hc hd.2 (Good.putD (σ := ⟨t1, m⟩) h2 hdst VR_skip) hQ
  · cases h
end
end Go.Proofs.YtjkngiciigdheaaGreatDoorW.St
namespace Go.Proofs.YtjkngiciigdheaaGreatDoorW.St
open Go.RowKit Go.Proofs.YtjkngiciigdheaaGreatDoorW.PrintLast
set_option linter.unusedSimpArgs false
set_option linter.unusedVariables false
def memN (i : Nat) : List Nat → Bool
 | [] => false
 | j :: r => match Nat.beq j i with
  | true => true
  | false => memN i r
theorem memN_iff {i : Nat} : ∀ {l : List Nat}, memN i l = true ↔ i ∈ l
 | [] => by simp [memN]
 | j :: r => by
  simp only [memN, List.mem_cons]
  split
  · rename_i h
    have := Nat.eq_of_beq_eq_true h
    simp [this]
  · rename_i h
    have : ¬ i = j := fun e => by subst e; simp [Nat.beq_refl] at h
    simp [this, memN_iff]
def chkD (ops : Array Oper) (ds : List Nat) : Array Bool → List (Nat × Nat) → Bool
 | l, [] => Region.ready .any ops l == []
 | l, (i, 0) :: r => (Region.noSelect ops && Region.free .any ops l i && (Region.ready .any ops l).contains i) && chkD ops ds (l.setIfInBounds i true) r
 | l, (i, 1) :: r => (Region.noSelect ops && Region.free .any ops l i && (Region.ready .any ops l).contains i && Region.closedB .any ops l && Region.lastB .any ops l ds i) && chkD ops ds (l.setIfInBounds i true) r
 | l, (i, _) :: r => (Region.ready .any ops l == [i]) && chkD ops ds (l.setIfInBounds i true) r
def okR (ru k : Nat) (s d : Bool) : Bool := match ru with
 | 0 => Nat.beq k 0
 | 1 => s && (Nat.beq k 0 || Nat.beq k 1)
 | _ => d || !(Nat.beq k 3)
def act2 (ru : Nat) (s : Bool) : Bool := match ru with
 | 0 => s
 | 1 => s
 | _ => false
def evD (E : Env) (ops : List Oper) (dd : List Nat) : List (Nat × Nat) → List D → St → Bool → Option Prop → Option (St × List D × Option Prop)
 | [], ds, σ, _, c => some (σ, ds, c)
 | (i, ru) :: r, ds, ⟨t, m⟩, s, c => match nth ops i with
  | none => none
  | some o => match gd ops o ds t m with
   | some (true, ds1, t1, c1) => match ev1 E ⟨t1, m⟩ o ds1 with
    | some (⟨x, m2, k, c2⟩, ds2) => match okR ru k s (memN i dd) with
     | true => nx t1 o.dst x m2 fun σ' => fC (andc (andc c c1) c2) fun c' => evD E ops dd r ds2 σ' (act2 ru s) c'
     | false => none
    | none => none
   | some (false, ds1, t1, c1) => nx t1 o.dst (.tu []) m fun σ' => fC (andc c c1) fun c' => evD E ops dd r ds1 σ' (act2 ru s) c'
   | none => none
section
variable {E : Env} {cx : Cx}
theorem evD_c : ∀ {ord : List (Nat × Nat)} {ops : List Oper} {dd : List Nat} {ds ds' : List D} {σ σ' : St} {s : Bool} {c c' : Option Prop}, evD E ops dd ord ds σ s c = some (σ', ds', c') → cp c' → cp c
 | [], ops, dd, ds, ds', σ, σ', s, c, c', h, hc => by
  simp only [evD, Option.some.injEq, Prod.mk.injEq] at h
  obtain ⟨_, _, rfl⟩ := h
  exact hc
 | (i, ru) :: r, ops, dd, ds, ds', ⟨t, m⟩, σ', s, c, c', h, hc => by
  simp only [evD] at h
  split at h
  · cases h
  · split at h
    · split at h
      · split at h
        · simp only [nx_eq, fC_eq] at h
          exact andc_l (andc_l (evD_c h hc))
        · cases h
      · cases h
    · simp only [nx_eq, fC_eq] at h
      exact andc_l (evD_c h hc)
    · cases h
theorem dstsOk_nth {n : Nat} : ∀ {ops : List Oper} {i : Nat} {o : Oper}, dstsOk n ops = true → nth ops i = some o → ∀ t, o.dst = some t → t < n
 | [], _, _, _, h, _, _ => by simp [nth] at h
 | q :: r, 0, o, hd, h, t, ht => by
  simp only [nth, Option.some.injEq] at h
  subst h
  simp only [dstsOk, Bool.and_eq_true] at hd
  have := hd.1
  simp only [dstOk, ht] at this
  simpa using this
 | q :: r, i + 1, o, hd, h, t, ht => by
  simp only [dstsOk, Bool.and_eq_true] at hd
  exact dstsOk_nth hd.2 h t ht
theorem evD_ok (hF : Fr E cx) {ops : List Oper} {dd : List Nat} {Q : Exit → Act → World → Prop} (hQ : ∀ c a a' w, Q (.panic c) a w → Q (.panic c) a' w) (hdst : dstsOk cx.n ops = true) (wr : World) : ∀ {ord : List (Nat × Nat)} {l : Array Bool} {ds ds' : List D} {σ σ' : St} {s : Bool} {c c' : Option Prop} {a : Act} {w : World} {ro : Nat → Prop} {g : Gh},
 evD E ops dd ord ds σ s c = some (σ', ds', c') → cp c' → chkD ops.toArray dd l ord = true → Good cx σ a w ro g → (s = true → w = wr) → wr.heap.size ≤ w.heap.size →
 (∀ a' w' ro' g', Good cx σ' a' w' ro' g' → Q .normal a' w') → wpAnyLast E.P .any ops.toArray Q (fun w' => ∀ k, k < wr.heap.size → w'.heap[k]? = wr.heap[k]?) dd ord.length l a w
 | [], l, ds, ds', σ, σ', s, c, c', a, w, ro, g, h, hc, hk, hg, hs, hsz, hK => by
  simp only [evD, Option.some.injEq, Prod.mk.injEq] at h
  obtain ⟨rfl, _, _⟩ := h
  simp only [chkD, beq_iff_eq] at hk
  exact wpAnyLast_done hk (hK a w ro g hg) 0
 | (i, ru) :: r, l, ds, ds', ⟨t, m⟩, σ', s, c, c', a, w, ro, g, h, hc, hk, hg, hs, hsz, hK => by
  simp only [evD] at h
  split at h
  · cases h
  · rename_i o ho
    have hi : ops.toArray[i]? = some o := by rw [nth_arr]; exact ho
    have hd := dstsOk_nth hdst ho
    split at h
    · rename_i ds1 t1 c1 hgd
      split at h
      · rename_i x m2 k c2 ds2 he
        split at h
        · rename_i hok
          simp only [nx_eq, fC_eq] at h
          have hcc := evD_c h hc
          obtain ⟨h1, h2⟩ := gd_ok hg hgd (andc_r (andc_l hcc))
          have how := ev1_ok hF he (andc_r hcc)
          match ru, hk, hok, h with
          | 0, hk, hok, h =>
           simp only [chkD, Bool.and_eq_true] at hk
           obtain ⟨⟨⟨k1, k2⟩, k3⟩, k4⟩ := hk
           obtain ⟨v, hv1, hv2⟩ := ev1_pure E.tok he (andc_r hcc) (Nat.eq_of_beq_eq_true hok) a w ro g h2
           refine wpAnyLast_any (v := v) hi (Region.noSelect_spec k1) (fun c a' w' => hQ c _ _ w') _ l a w (Region.free_spec hi k2) (by simpa using k3) (.inl ⟨h1, hv1⟩) ?_
           exact evD_ok hF hQ hdst wr h hc k4 (Good.putD (σ := ⟨t1, m2⟩) hv2.1 hd hv2.2) hs hsz hK
          | 1, hk, hok, h =>
           simp only [chkD, Bool.and_eq_true] at hk
           obtain ⟨⟨⟨⟨⟨k1, k2⟩, k3⟩, k5⟩, k6⟩, k4⟩ := hk
           simp only [okR, Bool.and_eq_true, Bool.or_eq_true] at hok
           have hw := hs hok.1
           subst hw
           obtain ⟨v, hv1, hv2⟩ := ev1_load E.tok he (andc_r hcc) (hok.2.imp Nat.eq_of_beq_eq_true Nat.eq_of_beq_eq_true) a w ro g h2
           refine wpAnyLast_take (v := v) hi k1 k2 (by simpa using k3) k5 k6 (fun c a' w' => hQ c _ _ w') (.inl ⟨h1, fun w' hw' => hv1 w' hw'⟩) (fun _ _ => rfl) ?_
           exact evD_ok hF hQ hdst w h hc k4 (Good.putD (σ := ⟨t1, m2⟩) hv2.1 hd hv2.2) hs hsz hK
          | ru + 2, hk, hok, h =>
           simp only [chkD, Bool.and_eq_true, beq_iff_eq] at hk
           refine wpAnyLast_all hk.1 (by simp) (fun j hj => ?_)
           simp only [List.mem_singleton] at hj
           subst hj
           unfold wpOp
           simp only [hi, h1, if_true]
           refine .inl (how a w ro g _ _ h2 (fun v w' ro' g' h3 h4 h5 h6 => ⟨fun hni hS kk hkk => ?_, ?_⟩))
           · have hne : ¬ k = 3 := fun h3 => by
              simp only [okR, Bool.or_eq_true] at hok
              rcases hok with hok | hok
              · exact hni (memN_iff.1 hok)
              · rw [h3] at hok
                simp [Nat.beq] at hok
             rw [h6 hne kk (Nat.lt_of_lt_of_le hkk hsz)]
             exact hS kk hkk
           · exact evD_ok hF hQ hdst wr h hc hk.2 (Good.putD (σ := ⟨t1, m2⟩) h3 hd h4) (fun h => by simp [act2] at h) (Nat.le_trans hsz h5) hK
        · cases h
      · cases h
    · rename_i ds1 t1 c1 hgd
      simp only [nx_eq, fC_eq] at h
      have hcc := evD_c h hc
      obtain ⟨h1, h2⟩ := gd_ok hg hgd (andc_r hcc)
      match ru, hk, h with
      | 0, hk, h =>
       simp only [chkD, Bool.and_eq_true] at hk
       obtain ⟨⟨⟨k1, k2⟩, k3⟩, k4⟩ := hk
       refine wpAnyLast_any (v := undef) hi (Region.noSelect_spec k1) (fun c a' w' => hQ c _ _ w') _ l a w (Region.free_spec hi k2) (by simpa using k3) (.inr ⟨h1, rfl⟩) ?_
       exact evD_ok hF hQ hdst wr h hc k4 (Good.putD (σ := ⟨t1, m⟩) h2 hd VR_skip) hs hsz hK
      | 1, hk, h =>
       simp only [chkD, Bool.and_eq_true] at hk
       obtain ⟨⟨⟨⟨⟨k1, k2⟩, k3⟩, k5⟩, k6⟩, k4⟩ := hk
       refine wpAnyLast_any (v := undef) hi (Region.noSelect_spec k1) (fun c a' w' => hQ c _ _ w') _ l a w (Region.free_spec hi k2) (by simpa using k3) (.inr ⟨h1, rfl⟩) ?_
       exact evD_ok hF hQ hdst wr h hc k4 (Good.putD (σ := ⟨t1, m⟩) h2 hd VR_skip) hs hsz hK
      | ru + 2, hk, h =>
       simp only [chkD, Bool.and_eq_true, beq_iff_eq] at hk
       refine wpAnyLast_all hk.1 (by simp) (fun j hj => ?_)
       simp only [List.mem_singleton] at hj
       subst hj
       unfold wpOp
       simp only [hi, h1, Bool.false_eq_true, if_false]
       exact ⟨fun _ hS => hS, evD_ok hF hQ hdst wr h hc hk.2 (Good.putD (σ := ⟨t1, m⟩) h2 hd VR_skip) (fun h => by simp [act2] at h) hsz hK⟩
    · cases h
end
def stepP (E : Env) (ops : List Oper) (hs : List (Nat × List D)) (pu : Bool) (i : Nat) (t : List (Nat × AV)) (m : List (Nat × Ent)) : Option (St × Option Prop) := match nth ops i with
 | none => none
 | some o => match gd ops o (match look hs i with | some d => d | none => []) t m with
  | some (true, ds1, t1, c1) => match ev1 E ⟨t1, m⟩ o ds1 with
   | some (⟨x, m2, k, c2⟩, _) => match !pu || Nat.beq k 0 with
    | true => nx t1 o.dst x m2 fun σ' => fC (andc c1 c2) fun c' => some (σ', c')
    | false => none
   | none => none
  | some (false, _, t1, c1) => nx t1 o.dst (.tu []) m fun σ' => some (σ', c1)
  | none => none
section
variable {E : Env} {cx : Cx}
theorem stepP_ok (hF : Fr E cx) {ops : List Oper} {hs : List (Nat × List D)} {i : Nat} {t : List (Nat × AV)} {m : List (Nat × Ent)} {σ' : St} {c : Option Prop} {Q : Exit → Act → World → Prop} {a : Act} {w : World} {ro : Nat → Prop} {g : Gh} (hdst : dstsOk cx.n ops = true)
 (h : stepP E ops hs false i t m = some (σ', c)) (hc : cp c) (hg : Good cx ⟨t, m⟩ a w ro g) {K : Act → World → Prop} (hK : ∀ a' w' ro' g', Good cx σ' a' w' ro' g' → K a' w') : wpOp E.P ops.toArray Q i K a w := by
 unfold stepP at h
 split at h
 · cases h
 · rename_i o ho
   have hi : ops.toArray[i]? = some o := by rw [nth_arr]; exact ho
   have hd := dstsOk_nth hdst ho
   unfold wpOp
   split at h
   · rename_i ds1 t1 c1 hgd
     split at h
     · rename_i x m2 k c2 ds2 he
       split at h
       · simp only [nx_eq, fC_eq, Option.some.injEq, Prod.mk.injEq] at h
         obtain ⟨rfl, rfl⟩ := h
         obtain ⟨h1, h2⟩ := gd_ok hg hgd (cp_and hc).1
         simp only [hi, h1, if_true]
         exact .inl (ev1_ok hF he (cp_and hc).2 a w ro g _ _ h2 (fun v w' ro' g' h3 h4 _ _ => hK _ _ _ _ (Good.putD (σ := ⟨t1, m2⟩) h3 hd h4)))
       · cases h
     · cases h
   · rename_i t1 c1 hgd
     simp only [nx_eq, Option.some.injEq, Prod.mk.injEq] at h
     obtain ⟨rfl, rfl⟩ := h
     obtain ⟨h1, h2⟩ := gd_ok hg hgd hc
     simp only [hi, h1, Bool.false_eq_true, if_false]
     exact hK _ _ _ _ (Good.putD (σ := ⟨t1, m⟩) h2 hd VR_skip)
   · cases h
def putL {α : Type} (k : Nat) (x : α) : List (Nat × α) → List (Nat × α)
 | [] => [(k, x)]
 | (j, y) :: r => match Nat.beq k j with
  | true => (k, x) :: r
  | false => match Nat.blt k j with
   | true => (k, x) :: (j, y) :: r
   | false => (j, y) :: putL k x r
def normL {α : Type} : List (Nat × α) → List (Nat × α)
 | [] => []
 | (k, x) :: r => putL k x (normL r)
theorem look_putL {α : Type} (k : Nat) (x : α) : ∀ (r : List (Nat × α)) (j : Nat), look (putL k x r) j = if k = j then some x else look r j
 | [], j => by simp only [putL, look_cons]
 | (i, y) :: r, j => by
  simp only [putL]
  split
  · rename_i h
    obtain rfl := Nat.eq_of_beq_eq_true h
    simp only [look_cons]
    split <;> rfl
  · rename_i h
    have hne : k ≠ i := fun e => by subst e; simp [Nat.beq_refl] at h
    split
    · simp only [look_cons]
    · simp only [look_cons, look_putL k x r j]
      by_cases h1 : i = j
      · subst h1
        simp [hne]
      · simp [h1]
theorem look_normL {α : Type} : ∀ (r : List (Nat × α)) (j : Nat), look (normL r) j = look r j
 | [], j => rfl
 | (k, x) :: r, j => by simp only [normL, look_putL, look_cons, look_normL r j]
def normS (σ : St) : St := ⟨normL σ.t, normL σ.m⟩
theorem Good.norm {σ : St} {a : Act} {w : World} {ro : Nat → Prop} {g : Gh} (hg : Good cx σ a w ro g) : Good cx (normS σ) a w ro g := by
 have hm : ∀ i, look (normS σ).m i = look σ.m i := fun i => look_normL σ.m i
 have hon : On w w ro ro g g σ.m (normS σ).m := ⟨fun b hb => ⟨hb, rfl⟩, fun i e he => ⟨e, by rw [hm]; exact he, Nat.le_refl _, fun _ => ⟨e.same_refl, rfl, rfl⟩⟩⟩
 refine ⟨hg.size, hg.defs, fun t x ht => VR_on hon (hg.tm t x (by rw [← look_normL]; exact ht)), ⟨fun i e he => ?_, fun i j e1 e2 b hij h1 h2 => hg.rel.sep i j e1 e2 b hij (by rw [← hm]; exact h1) (by rw [← hm]; exact h2), fun i e b he => hg.rel.nro i e b (by rw [← hm]; exact he), hg.rel.rlt⟩, hg.os, hg.tape, hg.output, hg.hsize, hg.keep, hg.roin, hg.rob, fun i v T cs he => hg.xin i v T cs (by rw [← hm]; exact he)⟩
 have h1 := hg.rel.ent i e (by rw [← hm]; exact he)
 cases e with
 | own v E sz xs => exact h1
 | froz v sz xs => exact h1
 | box v T x cs =>
  obtain ⟨h2, h3, us, h4, h5⟩ := h1
  exact ⟨h2, h3, us, cellsR_on hon h4, h5⟩
end
end Go.Proofs.YtjkngiciigdheaaGreatDoorW.St
