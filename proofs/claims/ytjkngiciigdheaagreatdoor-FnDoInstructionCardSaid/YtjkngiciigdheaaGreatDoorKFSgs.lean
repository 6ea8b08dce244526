/- A part of the claim. -/
import Derived.Test.YtjkngiciigdheaaGreatDoorKFSgc
import Derived.Test.YtjkngiciigdheaaGreatDoorKFSkd
namespace Go.Proofs.YtjkngiciigdheaaGreatDoor.K
open Go.RowKit Go.Proofs.YtjkngiciigdheaaGreatDoorW.St Go.Proofs.YtjkngiciigdheaaGreatDoorW.PrintWords Go.Proofs.YtjkngiciigdheaaGreatDoorW.PrintLast Go.Proofs.YtjkngiciigdheaaGreatDoorW.PrintMore
set_option linter.unusedVariables false
set_option linter.unusedSimpArgs false
def strings_Contains.f (a0 a1 : ByteArray) : Option Bool := if a0.size < 4294967281 then some (Lib.contains a0.data.toList a1.data.toList) else none
theorem strings_Contains.ctr (a0 a1 : ByteArray) (r : Bool) (h : strings_Contains.f a0 a1 = some r) : Ctr TE 65 none [.v (.string a0), .v (.string a1)] [.ro (.v (.bool r))] [] := by
 unfold strings_Contains.f at h
 split at h
 · next h0 =>
   obtain rfl := Option.some.inj h
   refine ctr_given (callable_of Tryz.func65 (by kernel_rfl) (by kernel_rfl)) (fun w ro g vals hL hp => ?_)
   obtain ⟨u, q, rfl, hu, u2, q2, rfl, hu2, rfl⟩ := hp
   obtain rfl : u = .string a0 := (show u = .string a0 ∧ _ from hu).1
   obtain rfl : u2 = .string a1 := (show u2 = .string a1 ∧ _ from hu2).1
   obtain ⟨_, _, _, ⟨m, hm⟩⟩ := hL
   refine (Tryz.strings_Contains a0 a1 m w h0 hm).mono ?_
   rintro e w' ⟨rfl, rfl⟩
   exact ⟨[_], rfl, Below.refl _ _, _, [], rfl, ⟨rfl, rfl⟩, rfl⟩
 · cases h
theorem rI_cells {w : World} {ro : Nat → Prop} {xs : List Int} {u : Value} (h : rep w ro (.sl 1 (rX (cI .i64) xs)) u) : ∃ A c, u = .slice A xs.length c ∧ xs.length ≤ c ∧ (xs ≠ [] → ∃ b o, A = some ⟨b, o, none⟩ ∧ b < w.heap.size ∧ ∀ (j : Nat) x, xs[j]? = some x → w.cell? ⟨b, o + j, none⟩ = some (.int .i64 x)) := by
 obtain ⟨A, c, h1, h2, _, h3⟩ := h
 rw [rX_length] at h1 h2 h3
 refine ⟨A, c, h1, h2, fun hx => ?_⟩
 obtain ⟨b, o, h4, _, h5⟩ := h3 (List.length_pos_iff.mpr hx)
 have cell : ∀ (j : Nat) x, xs[j]? = some x → w.cell? ⟨b, o + j, none⟩ = some (.int .i64 x) := fun j x hj => by
  obtain ⟨_, h6⟩ := repR_get h5 (i := j) (x := cI .i64 x) (by simp [rX, hj])
  obtain ⟨⟨u', h7, h8⟩, _⟩ := h6
  obtain rfl : u' = .int .i64 x := (show u' = .int .i64 x ∧ _ from h7).1
  rwa [Nat.mul_one] at h8
 refine ⟨b, o, h4, ?_, cell⟩
 have hp := List.length_pos_iff.mpr hx
 exact World.block_lt_of_cell? _ _ (cell 0 _ (List.getElem?_eq_getElem hp))
def slices_Max_int.f (l0 : List Int) : Option Int := if l0.length ≤ 9223372036854775807 then (if 0 < l0.length then some (Lib.maxOf l0) else none) else none
theorem slices_Max_int.ctr (l0 : List Int) (r : Int) (h : slices_Max_int.f l0 = some r) : Ctr TE 108 none [.sl 1 (rX (cI .i64) l0)] [.ro (.v (.int .i64 r))] [] := by
 unfold slices_Max_int.f at h
 split at h
 · split at h
   · next h0 h1 =>
     obtain rfl := Option.some.inj h
     refine ctr_given (callable_of Tryz.func108 (by kernel_rfl) (by kernel_rfl)) (fun w ro g vals hL hp => ?_)
     obtain ⟨u, q, rfl, hu, rfl⟩ := hp
     obtain ⟨A, c, rfl, hc, hx⟩ := rI_cells hu
     obtain ⟨b, o, rfl, hb, hcells⟩ := hx (List.length_pos_iff.mp h1)
     have := Tryz.slices_Max_int b o l0.length c l0 w h1 (Nat.le_refl _) h0 (fun j hj => hcells j _ (by rw [List.getD_eq_getElem?_getD, List.getElem?_eq_getElem hj]; rfl))
     rw [List.take_length] at this
     refine this.mono ?_
     rintro e w' ⟨rfl, rfl⟩
     exact ⟨[_], rfl, Below.refl _ _, _, [], rfl, ⟨rfl, rfl⟩, rfl⟩
   · cases h
 · cases h
end Go.Proofs.YtjkngiciigdheaaGreatDoor.K
