/- A part of the claim. -/
import Derived.Test.YtjkngiciigdheaaGreatDoorKFSkd
import Derived.Test.YtjkngiciigdheaaGreatDoorKFSgc
import Derived.Test.YtjkngiciigdheaaGreatDoorKFSlf
import Derived.Lib.SliceRun
namespace Go.Proofs.YtjkngiciigdheaaGreatDoor.K
open Go.RowKit Go.Shelf Go.Proofs.YtjkngiciigdheaaGreatDoorW.St Go.Proofs.YtjkngiciigdheaaGreatDoorW.PrintWords Go.Proofs.YtjkngiciigdheaaGreatDoorW.PrintLast Go.Proofs.YtjkngiciigdheaaGreatDoorW.PrintMore
set_option linter.unusedVariables false
set_option linter.unusedSimpArgs false
theorem ints_cells {w : World} {A : Option Addr} {xs : List Int} (h : Kd.C (Kd.int .i64) w A xs.length xs) (hx : xs ≠ []) :
 ∃ b o, A = some ⟨b, o, none⟩ ∧ b < w.heap.size ∧ ∀ (j : Nat) x, xs[j]? = some x → w.cell? ⟨b, o + j, none⟩ = some (.int .i64 x) := by
 have hp : 0 < xs.length := List.length_pos_iff.mpr hx
 obtain ⟨ad, rfl, hc⟩ := h.2.2 hp
 have one : ∀ (j : Nat) x, xs[j]? = some x → w.cell? (ad.add j) = some (.int .i64 x) := by
  intro j x hj
  obtain ⟨c, hs, hk, hcell⟩ := hc j x hj
  have hk' : c = [Value.int .i64 x] := hk
  subst hk'
  have := hcell 0 _ rfl
  simpa [Kd.int, Kd.scalar] using this
 have h0 := one 0 _ (List.getElem?_eq_getElem hp)
 have hs : ad.spot = none := by
  have h1 : w.cell? ad = some (.int .i64 xs[0]) := by simpa [Addr.add] using h0
  unfold World.cell? at h1
  split at h1
  · split at h1
    · cases h1
    · next hn => simpa using hn
  · cases h1
 obtain ⟨b, o, sp⟩ := ad
 obtain rfl : sp = none := hs
 refine ⟨b, o, rfl, ?_, ?_⟩
 · have := World.block_lt_of_cell? _ _ h0
   simpa [Addr.add] using this
 · intro j x hj
   have := one j x hj
   unfold Addr.add at this
   split at this
   · next hj0 => subst hj0; exact this
   · exact this
abbrev outR (most : Int) : Int → Bool := fun n => decide (n < 0) || decide (n > most)
theorem within_pred (most : Int) (B : Nat) (w : World) (hB : B < w.heap.size) (hcell : w.cell? ⟨B, 0, none⟩ = some (.int .i64 most)) :
 PredAt Tryz.prog 128 #[.pointer (some ⟨B, 0, none⟩)] (Value.int .i64) (outR most) w := fun W x hb => by
 have hc : W.cell? ⟨B, 0, none⟩ = some (.int .i64 most) := (hb.cell (p := ⟨B, 0, none⟩) hB).trans hcell
 show Calls Tryz.prog 128 #[.int .i64 x, .pointer (some ⟨B, 0, none⟩)] W _
 by_cases h1 : x < 0
 all_goals by_cases h2 : x > most
 all_goals
  go_enter Tryz.func128, Tryz.ntmps128
  go_wp2
 all_goals first | (exfalso; omega) | (go_ret; exact ⟨by simp [outR, h1, h2], 0, rfl⟩)
def impl_within.f (l0 : List Int) (a1 : Int) : Option Bool := if l0.length ≤ 9223372036854775807 then some (!l0.any (outR a1)) else none
set_option maxHeartbeats 2000000 in
theorem impl_within.calls (A0 : Option Addr) (c0 : Nat) (l0 : List Int) (a1 : Int) (r : Bool) (w : World) (hr0 : Kd.C (Kd.int .i64) w A0 l0.length l0) (hc0 : l0.length ≤ c0) (h : impl_within.f l0 a1 = some r) :
 Calls Tryz.prog 86 #[.slice A0 l0.length c0, .int .i64 a1] w fun e w' => e = .returned (.bool r) ∧ Below w.heap.size w w' := by
 unfold impl_within.f at h
 split at h
 · next hbig =>
   obtain rfl := Option.some.inj h
   by_cases hx : l0 = []
   · subst hx
     have hcon := AnyE.slices_ContainsFunc_empty Tryz.lays127 A0 c0 (.func (.func 128) #[] #[.pointer (some ⟨w.heap.size, 0, none⟩)]) (w.alloc (.cells #[.int .i64 a1] 3))
     change Calls Tryz.prog 127 _ _ _ at hcon
     go_enter Tryz.func86, Tryz.ntmps86
     go_wp2_with (go_at_call 127; refine hcon.mono ?_; rintro e w' ⟨rfl, rfl⟩)
     go_ret
     exact ⟨rfl, (Below.refl _ w).alloc (Nat.le_refl _) _⟩
   · obtain ⟨b, o, rfl, hb, hcells⟩ := ints_cells hr0 hx
     have eg : ∀ args w, (callFunc 128 args).run Tryz.prog w = .ok (.enter 128 args) w := enters_of Tryz.func128 (by kernel_rfl) rfl
     have hcon := AnyE.slices_ContainsFunc Tryz.lays127 (Value.int .i64) (outR a1) 128 #[.pointer (some ⟨w.heap.size, 0, none⟩)] eg b o l0.length c0 l0 (w.alloc (.cells #[.int .i64 a1] 3))
      (within_pred a1 w.heap.size _ (by simp) (by simp)) (Nat.le_refl _) hbig (fun j hj => Lib.cell?_alloc_some _ (hcells j _ (by rw [List.getElem!_eq_getElem?_getD, List.getElem?_eq_getElem hj]; rfl)))
     change Calls Tryz.prog 127 _ _ _ at hcon
     rw [List.take_length] at hcon
     clear hcells
     generalize l0.any (outR a1) = r at hcon ⊢
     go_enter Tryz.func86, Tryz.ntmps86
     go_wp2_with (go_at_call 127; refine hcon.mono ?_; rintro e w' ⟨rfl, q, rfl⟩)
     go_ret
     exact ⟨rfl, below_drewN' ((Below.refl _ w).alloc (Nat.le_refl _) _) q⟩
 · cases h
theorem impl_within.ctr (l0 : List Int) (a1 : Int) (r : Bool) (h : impl_within.f l0 a1 = some r) : Ctr TE 86 none [.sl 1 (rX (cI .i64) l0), .v (.int .i64 a1)] [.ro (.v (.bool r))] [] := by
 refine ctr_given (callable_of Tryz.func86 (by kernel_rfl) (by kernel_rfl)) (fun w ro g vals hL hp => ?_)
 obtain ⟨u, q, rfl, hu, u2, q2, rfl, hu2, rfl⟩ := hp
 obtain rfl : u2 = .int .i64 a1 := (show u2 = .int .i64 a1 ∧ _ from hu2).1
 obtain ⟨A0, c0, rfl, hc0, hx⟩ := int_of hu
 refine (impl_within.calls A0 c0 l0 a1 r w hx hc0 h).mono ?_
 rintro e w' ⟨rfl, hb⟩
 exact ⟨[_], rfl, hb, _, [], rfl, ⟨rfl, rfl⟩, rfl⟩
end Go.Proofs.YtjkngiciigdheaaGreatDoor.K
