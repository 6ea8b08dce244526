/- A part of the claim. -/
import Derived.Test.YtjkngiciigdheaaGreatDoorKFSkd
namespace Go.Proofs.YtjkngiciigdheaaGreatDoor.K
open Go.RowKit Go.Proofs.YtjkngiciigdheaaGreatDoorW.St Go.Proofs.YtjkngiciigdheaaGreatDoorW.PrintWords Go.Proofs.YtjkngiciigdheaaGreatDoorW.PrintLast Go.Proofs.YtjkngiciigdheaaGreatDoorW.PrintMore
set_option linter.unusedVariables false
set_option linter.unusedSimpArgs false
def F86 (d : Kd S86) : Kd S86 := Kd.iso (Kd.pair (Kd.int .i64) (Kd.slice 86 d)) (fun x : S86 => (x.f0, x.f1))
theorem mono86 : Kd.Mono F86 := Kd.mono_iso _ (Kd.mono_pair (Kd.mono_const _) (Kd.mono_slice 86 Kd.mono_id))
theorem sub86 : Kd.Sub F86 [86] := Kd.sub_iso _ (Kd.sub_pair (Kd.sub_const _ (by decide)) (Kd.sub_slice 86 (by decide) Kd.sub_id))
theorem sz86 : ∀ n, (Kd.upto F86 2 [86] n).sz = 2 := Kd.upto_sz (fun _ => rfl)
def k86 : Kd S86 := Kd.fix F86 2 [86] sz86 (Kd.upto_E sub86)
theorem k86_heap : Kd.Heap k86 := Kd.heap_fix (fun _ h_ => Kd.heap_iso _ (Kd.heap_pair (Kd.heap_int .i64) (Kd.heap_slice 86 h_)))
theorem k86_open {w : World} {x : S86} {cs : List Value} (h : k86.K w x cs) : ∃ A1 c1, cs = [.int .i64 x.f0, .slice A1 x.f1.length c1] ∧ x.f1.length ≤ c1 ∧ k86.C w A1 x.f1.length x.f1 := by
 obtain ⟨n, h⟩ := h
 cases n with
 | zero => exact h.elim
 | succ n =>
  obtain ⟨_, _, rfl, rfl, ⟨A1, c1, rfl, l1, g1⟩⟩ := h
  exact ⟨A1, c1, rfl, l1, Kd.fix_C g1⟩
theorem k86_openM {w : World} {base : Nat} {ok : Nat → Prop} {x : S86} {cs : List Value} (h : k86.M w base ok x cs) : ∃ v1, cs = [.int .i64 x.f0, v1] ∧ k86.R 86 w base ok v1 x.f1 := by
 obtain ⟨n, h⟩ := h
 cases n with
 | zero => exact h.elim
 | succ n =>
  obtain ⟨_, _, rfl, rfl, ⟨v1, rfl, g1⟩⟩ := h
  exact ⟨v1, rfl, Kd.fix_R g1⟩
theorem k86_mk (w : World) (x : S86) {A1 : Option Addr} {c1 : Nat} (l1 : x.f1.length ≤ c1) (g1 : k86.C w A1 x.f1.length x.f1) : k86.K w x [.int .i64 x.f0, .slice A1 x.f1.length c1] := by
 obtain ⟨n1, q1⟩ := Kd.fix_C_back mono86 g1
 have r1 := Kd.upto_C_le mono86 sz86 (show n1 ≤ n1 by omega) q1
 exact ⟨n1 + 1, ⟨[.int .i64 x.f0], [.slice A1 x.f1.length c1], rfl, rfl, ⟨A1, c1, rfl, l1, r1⟩⟩⟩
theorem k86_mkM (w : World) (base : Nat) (ok : Nat → Prop) (x : S86) {v1 : Value} (g1 : k86.R 86 w base ok v1 x.f1) : k86.M w base ok x [.int .i64 x.f0, v1] := by
 obtain ⟨n1, q1⟩ := Kd.fix_R_back mono86 g1
 have r1 := Kd.upto_R_le mono86 sz86 (show n1 ≤ n1 by omega) q1
 exact ⟨n1 + 1, ⟨[.int .i64 x.f0], [v1], rfl, rfl, ⟨v1, rfl, r1⟩⟩⟩
theorem at_T86 {w : World} {A : Option Addr} {n : Nat} {xs : List S86} (h : Kd.C k86 w A n xs) (i : Int) (h0 : 0 ≤ i) (h1 : i < n) : ∃ ad A1 c1, A = some ad ∧ w.cell? (ad.add (i.toNat * 2)) = some (.int .i64 (rd_T86 xs i).f0) ∧ w.cell? ⟨(ad.add (i.toNat * 2)).block, (ad.add (i.toNat * 2)).off + 1, none⟩ = some (.slice A1 (rd_T86 xs i).f1.length c1) ∧ (rd_T86 xs i).f1.length ≤ c1 ∧ k86.C w A1 (rd_T86 xs i).f1.length (rd_T86 xs i).f1 := by
 obtain ⟨ad, c, e, _, hK, hc0⟩ := Kd.C_get h z86 i h0 h1
 have hc : ∀ j u, c[j]? = some u → w.cell? (ad.add (i.toNat * 2 + j)) = some u := hc0
 obtain ⟨A1, c1, rfl, l1, g1⟩ := k86_open hK
 exact ⟨ad, A1, c1, e, hc 0 _ rfl, by rw [← add_field _ _ 1 (by omega)]; exact hc 1 _ rfl, l1, g1⟩
mutual
theorem k86_of {w : World} {ro : Nat → Prop} : ∀ (x : S86) (us : List Value), repL w ro (c86 x) us → k86.K w x us
 | ⟨n, ps⟩, us, h => by
  simp only [c86] at h
  obtain ⟨v, r, rfl, hv, v2, r2, rfl, hv2, hr⟩ := h
  obtain rfl : r2 = [] := hr
  obtain rfl : v = .int .i64 n := (show v = .int .i64 n ∧ _ from hv).1
  obtain ⟨A, c, rfl, h1, h2⟩ := r86_of ps v2 hv2
  exact k86_mk w ⟨n, ps⟩ h1 h2
theorem r86_of {w : World} {ro : Nat → Prop} : ∀ (xs : List S86) (u : Value), rep w ro (.sl 2 (r86 xs)) u → ∃ A c, u = .slice A xs.length c ∧ xs.length ≤ c ∧ Kd.C k86 w A xs.length xs
 | xs, u, h => by
  obtain ⟨A, c, h1, h2, h3, h4⟩ := h
  rw [r86_eq, rX_length] at h1 h2
  refine ⟨A, c, h1, h2, rfl, by simp only [maxLen] at h3; omega, fun hn => ?_⟩
  obtain ⟨b, o, rfl, _, h5⟩ := h4 (by rw [r86_eq, rX_length]; exact hn)
  exact ⟨_, rfl, r86_at' xs b o h5⟩
theorem r86_at' {w : World} {ro : Nat → Prop} : ∀ (xs : List S86) (b o : Nat), repR w ro 2 (r86 xs) b o → ∀ j p, xs[j]? = some p → ∃ c : List Value, c.length = 2 ∧ k86.K w p c ∧ ∀ i u, c[i]? = some u → w.cell? ((⟨b, o, none⟩ : Addr).add (j * 2 + i)) = some u
 | [], b, o, h => fun j p hj => by simp at hj
 | x :: xs, b, o, h => fun j p hj => by
  simp only [r86] at h
  obtain ⟨⟨h1, h2⟩, h3⟩ := h
  cases j with
  | zero =>
   obtain rfl : x = p := by simpa using hj
   obtain ⟨us, h4, h5⟩ := repL_of h2
   refine ⟨us, by rw [repL_len h4, h1], k86_of x us h4, fun i u hu => ?_⟩
   rw [addr_add, Nat.zero_mul, Nat.zero_add]
   exact h5 i u hu
  | succ j =>
   obtain ⟨c, h4, h5, h6⟩ := r86_at' xs b (o + 2) h3 j p (by simpa using hj)
   refine ⟨c, h4, h5, fun i u hu => ?_⟩
   have := h6 i u hu
   rw [addr_add] at this ⊢
   rwa [show o + ((j + 1) * 2 + i) = o + 2 + (j * 2 + i) by omega]
end
end Go.Proofs.YtjkngiciigdheaaGreatDoor.K
