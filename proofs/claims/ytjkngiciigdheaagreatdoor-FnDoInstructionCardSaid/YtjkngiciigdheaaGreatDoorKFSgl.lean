/- A part of the claim. -/
import Derived.Test.YtjkngiciigdheaaGreatDoorKFx0
import Derived.Test.YtjkngiciigdheaaGreatDoorRows
import Derived.Deep.DeepHandedRow
import Derived.Deep.DeepWitnessRowRef
import Derived.Lib.LaidTab
import Derived.Lib.LaidU8
import Derived.LaidMore
import Derived.LaidSub
import Derived.Stop.LaidErr
import Derived.ProofKit
namespace Go.Proofs.YtjkngiciigdheaaGreatDoor.K
open Go.RowKit Go.Proofs.YtjkngiciigdheaaGreatDoorW.St Go.Proofs.YtjkngiciigdheaaGreatDoorW.PrintWords Go.Proofs.YtjkngiciigdheaaGreatDoorW.PrintLast Go.Proofs.YtjkngiciigdheaaGreatDoorW.PrintMore
set_option linter.unusedVariables false
theorem own : ownKnob Tryz.prog.godebug = none := by kernel_rfl
theorem laidOut : laidOutB Tryz.prog = true := by kernel_rfl
theorem gPowType : (Tryz.prog.globals[3]?).map (·.type) = some 228 := by kernel_rfl
theorem cellsPow : Tryz.prog.cellsOf 228 = 20 := by kernel_rfl
theorem cellsU64 : Tryz.prog.cellsOf 215 = 1 := by kernel_rfl
theorem gSyn : Tryz.prog.globalNamed "strconv.ErrSyntax" = some 1 := by kernel_rfl
theorem gRan : Tryz.prog.globalNamed "strconv.ErrRange" = some 2 := by kernel_rfl
theorem gSynType : (Tryz.prog.globals[1]?).map (·.type) = some 166 := by kernel_rfl
theorem gRanType : (Tryz.prog.globals[2]?).map (·.type) = some 166 := by kernel_rfl
theorem cellsErr : Tryz.prog.cellsOf 234 = 1 := by kernel_rfl
theorem cellsStr : Tryz.prog.cellsOf 9 = 1 := by kernel_rfl
theorem star : "*" ++ "errors.errorString" = "*errors.errorString" := by decide
theorem rowErr (u : TypeId) (h : Tryz.prog.typeName? 3 u = some "*errors.errorString") : u = 232 :=
 typeName_ptr_named (nm := "errors.errorString") (by rw [star]; kernel_rfl) (by kernel_rfl) (by decide) u (by rw [star]; exact h)
set_option maxRecDepth 100000 in
theorem laidW_of {l : List (String × DataW Unit)} {W : World} (h : laidMetH Tryz.prog l W) (hSh : W.ShapedOpen Tryz.prog)
 (h0 : l.filter (fun x => x.2.handleName?.isNone) = l)
 (h1 : l.filter (fun x => x.1 == "internal/strconv.uint64pow10") = [("internal/strconv.uint64pow10", Rows.laid_internal_strconv_uint64pow10)])
 (h2 : l.filter (fun x => x.1 == "strconv.ErrSyntax") = [("strconv.ErrSyntax", Rows.laid_strconv_ErrSyntax)])
 (h3 : l.filter (fun x => x.1 == "strconv.ErrRange") = [("strconv.ErrRange", Rows.laid_strconv_ErrRange)]) : Sg.LaidW W := by
 have hm := (laidMetH_iff.1 h).1
 rw [h0] at hm
 have m1 := hm.filter (fun x => x.1 == "internal/strconv.uint64pow10")
 have m2 := hm.filter (fun x => x.1 == "strconv.ErrSyntax")
 have m3 := hm.filter (fun x => x.1 == "strconv.ErrRange")
 rw [h1] at m1
 rw [h2] at m2
 rw [h3] at m3
 refine ⟨Lib.tabIs_of_head (rest := []) Sg.gPow gPowType Tryz.underlying228 Tryz.underlying215 cellsU64 cellsPow m1, ?_, ?_, Tryz.laysM144.s1_3 W hSh⟩
 · obtain ⟨a, s, hv, _⟩ := laid_sentinel m2 gSyn gSynType Tryz.underlying166 rowErr Tryz.underlying232 Tryz.underlying234 rfl rfl Tryz.underlying9 cellsErr cellsStr
   exact ⟨_, _, by simpa using World.var?_cell gSyn hv 0⟩
 · obtain ⟨a, s, hv, _⟩ := laid_sentinel m3 gRan gRanType Tryz.underlying166 rowErr Tryz.underlying232 Tryz.underlying234 rfl rfl Tryz.underlying9 cellsErr cellsStr
   exact ⟨_, _, by simpa using World.var?_cell gRan hv 0⟩
def IsRow (k : IntKind) (w : World) (a : Option Addr) (len cap : Nat) (zs : List Int) : Prop :=
 (a = none ∧ len = 0 ∧ cap = 0 ∧ zs = []) ∨
 ∃ x, a = some x ∧ len ≤ cap ∧ cap ≤ maxLen ∧ zs.length = cap ∧ (∀ i, i < zs.length → w.cell? (x.add i) = some (.int k (zs.getD i 0))) ∧ ∀ n ∈ zs, (Lit.int k n).wf = true
theorem law_of {E : Env} {f : Nat} {args : List AV} {vals : List Value} (h : Ctr E f none args [.ro (.v (.bool true))] []) (w : World) (hL : E.Laid w) (hp : partsR w (fun b => b < w.heap.size) (g0 0) [] args vals) : Calls E.P f vals.toArray w fun e w' => e = .returned (.bool true) ∧ Below w.heap.size w w' :=
 (h.2 w (fun b => b < w.heap.size) 0 vals hL (fun _ hb => hb) (fun T cs e => by cases e) hp).mono fun e w' ⟨vs, ro', he, hs⟩ => by
  obtain ⟨v, r, rfl, hv, hr⟩ := hs.res
  obtain rfl : r = [] := hr
  obtain rfl : v = .bool true := (show v = .bool true ∧ _ from hv).1
  exact ⟨he, hs.os, hs.tape, hs.output, hs.size, fun k hk => hs.same k hk (fun e => absurd rfl e)⟩
theorem row_cap {w : World} {k : IntKind} {a : Option Addr} {len cap : Nat} {zs : List Int} (h : (a = none ∧ len = 0 ∧ cap = 0 ∧ zs = []) ∨ ∃ x, a = some x ∧ len ≤ cap ∧ cap ≤ maxLen ∧ zs.length = cap ∧ (∀ i, i < zs.length → w.cell? (x.add i) = some (.int k (zs.getD i 0))) ∧ ∀ n ∈ zs, (Lit.int k n).wf = true) : cap ≤ maxLen := by
 rcases h with ⟨_, _, rfl, _⟩ | ⟨_, _, _, h, _⟩
 · exact Nat.zero_le _
 · exact h
theorem rep_reads {w : World} {k : IntKind} {A : Option Addr} {c : Nat} {xs : List Int} (h : ReadsInt w k A xs.length xs) (hc : xs.length ≤ c) (hm : c ≤ maxLen) : rep w (fun b => b < w.heap.size) (.sl 1 (rX (cI k) xs)) (.slice A xs.length c) := by
 refine ⟨A, c, by rw [rX_length], by rw [rX_length]; exact hc, hm, fun hp => ?_⟩
 rw [rX_length] at hp
 obtain ⟨ad, rfl, hcell⟩ := h.2.2 hp
 have h0 := hcell 0 hp
 have hs : ad.spot = none := by
  have h1 : w.cell? ad = some (.int k (xs.getD 0 0)) := by simpa [Addr.add] using h0
  unfold World.cell? at h1
  split at h1
  · split at h1
    · cases h1
    · next hn => simpa using hn
  · cases h1
 obtain ⟨b, o, sp⟩ := ad
 obtain rfl : sp = none := hs
 have one : ∀ j, j < xs.length → w.cell? ⟨b, o + j, none⟩ = some (.int k (xs.getD j 0)) := fun j hj => by
  have := hcell j hj
  unfold Addr.add at this
  split at this
  · next hj0 => subst hj0; exact this
  · exact this
 refine ⟨b, o, rfl, World.block_lt_of_cell? _ _ (one 0 hp), ?_⟩
 clear hcell h0 h hc hp
 induction xs generalizing o with
 | nil => simp [rX, repR]
 | cons x xs ih =>
  refine ⟨⟨rfl, ⟨_, ⟨rfl, rfl⟩, one 0 (by simp)⟩, trivial⟩, ih (o + 1) (fun j hj => ?_)⟩
  have := one (j + 1) (by simpa using hj)
  rwa [show o + (j + 1) = o + 1 + j by omega] at this
def IsRowS (w : World) (a : Option Addr) (len cap : Nat) (zs : List ByteArray) : Prop :=
 (a = none ∧ len = 0 ∧ cap = 0 ∧ zs = []) ∨
 ∃ x, a = some x ∧ len ≤ cap ∧ cap ≤ maxLen ∧ zs.length = cap ∧ (∀ i, i < zs.length → w.cell? (x.add i) = some (.string (zs.getD i ByteArray.empty))) ∧ ∀ s ∈ zs, s.size ≤ maxLen
theorem rowS_rep {w : World} {a : Option Addr} {len cap : Nat} {zs : List ByteArray} (h : IsRowS w a len cap zs) : (zs.take len).length = len ∧ len ≤ maxLen ∧ (∀ s ∈ zs.take len, s.size ≤ maxLen) ∧ rep w (fun b => b < w.heap.size) (.sl 1 (rX cS (zs.take len))) (.slice a len cap) := by
 rcases h with ⟨rfl, rfl, rfl, rfl⟩ | ⟨x, rfl, h1, h2, h3, h4, h5⟩
 · exact ⟨rfl, Nat.zero_le _, fun s hs => by simp at hs, none, 0, rfl, Nat.le_refl _, Nat.zero_le _, fun hp => by simp [rX] at hp⟩
 · have hlen : (zs.take len).length = len := by rw [List.length_take]; omega
   refine ⟨hlen, Nat.le_trans h1 h2, fun s hs => h5 s (List.mem_of_mem_take hs), some x, cap, by rw [rX_length, hlen], by rw [rX_length, hlen]; exact h1, h2, fun hp => ?_⟩
   rw [rX_length, hlen] at hp
   have h0 := h4 0 (by omega)
   have hs : x.spot = none := by
    have h1 : w.cell? x = some (.string (zs.getD 0 ByteArray.empty)) := by simpa [Addr.add] using h0
    unfold World.cell? at h1
    split at h1
    · split at h1
      · cases h1
      · next hn => simpa using hn
    · cases h1
   obtain ⟨b, o, sp⟩ := x
   obtain rfl : sp = none := hs
   have one : ∀ j s, (zs.take len)[j]? = some s → w.cell? ⟨b, o + j, none⟩ = some (.string s) := fun j s hj => by
    have hjl : j < len := by
     have := (List.getElem?_eq_some_iff.1 hj).1
     omega
    have hz : zs[j]? = some s := by
     rw [List.getElem?_take, if_pos hjl] at hj
     exact hj
    have := h4 j (by omega)
    rw [List.getD_eq_getElem?_getD, hz] at this
    unfold Addr.add at this
    split at this
    · next hj0 => subst hj0; exact this
    · exact this
   have hb : b < w.heap.size := World.block_lt_of_cell? _ _ (one 0 _ (List.getElem?_eq_getElem (by omega)))
   refine ⟨b, o, rfl, hb, ?_⟩
   clear h0 h4 hp hb hlen h5
   generalize zs.take len = xs at one
   induction xs generalizing o with
   | nil => simp [rX, repR]
   | cons y ys ih =>
    refine ⟨⟨rfl, ⟨_, ⟨rfl, rfl⟩, one 0 y rfl⟩, trivial⟩, ih (o + 1) (fun j s hj => ?_)⟩
    have := one (j + 1) s (by simpa using hj)
    rwa [show o + (j + 1) = o + 1 + j by omega] at this
end Go.Proofs.YtjkngiciigdheaaGreatDoor.K
