/- A part of the claim. -/
import Derived.Test.YtoloblgjlnhioaaDoorJFSkd
namespace Go.Proofs.YtoloblgjlnhioaaDoor.J
open Go.RowKit Go.Proofs.YtoloblgjlnhioaaDoorW.St Go.Proofs.YtoloblgjlnhioaaDoorW.PrintWords Go.Proofs.YtoloblgjlnhioaaDoorW.PrintLast Go.Proofs.YtoloblgjlnhioaaDoorW.PrintMore
set_option linter.unusedVariables false
set_option linter.unusedSimpArgs false
def F77 (d : Kd S77) : Kd S77 := Kd.iso (Kd.pair (Kd.int .i64) (Kd.slice 77 d)) (fun x : S77 => (x.f0, x.f1))
theorem mono77 : Kd.Mono F77 := Kd.mono_iso _ (Kd.mono_pair (Kd.mono_const _) (Kd.mono_slice 77 Kd.mono_id))
theorem sub77 : Kd.Sub F77 [77] := Kd.sub_iso _ (Kd.sub_pair (Kd.sub_const _ (by decide)) (Kd.sub_slice 77 (by decide) Kd.sub_id))
theorem sz77 : ∀ n, (Kd.upto F77 2 [77] n).sz = 2 := Kd.upto_sz (fun _ => rfl)
def k77 : Kd S77 := Kd.fix F77 2 [77] sz77 (Kd.upto_E sub77)
theorem k77_heap : Kd.Heap k77 := Kd.heap_fix (fun _ h_ => Kd.heap_iso _ (Kd.heap_pair (Kd.heap_int .i64) (Kd.heap_slice 77 h_)))
theorem k77_open {w : World} {x : S77} {cs : List Value} (h : k77.K w x cs) : ∃ A1 c1, cs = [.int .i64 x.f0, .slice A1 x.f1.length c1] ∧ x.f1.length ≤ c1 ∧ k77.C w A1 x.f1.length x.f1 := by
 obtain ⟨n, h⟩ := h
 cases n with
 | zero => exact h.elim
 | succ n =>
  obtain ⟨_, _, rfl, rfl, ⟨A1, c1, rfl, l1, g1⟩⟩ := h
  exact ⟨A1, c1, rfl, l1, Kd.fix_C g1⟩
theorem k77_openM {w : World} {base : Nat} {ok : Nat → Prop} {x : S77} {cs : List Value} (h : k77.M w base ok x cs) : ∃ v1, cs = [.int .i64 x.f0, v1] ∧ k77.R 77 w base ok v1 x.f1 := by
 obtain ⟨n, h⟩ := h
 cases n with
 | zero => exact h.elim
 | succ n =>
  obtain ⟨_, _, rfl, rfl, ⟨v1, rfl, g1⟩⟩ := h
  exact ⟨v1, rfl, Kd.fix_R g1⟩
theorem k77_mk (w : World) (x : S77) {A1 : Option Addr} {c1 : Nat} (l1 : x.f1.length ≤ c1) (g1 : k77.C w A1 x.f1.length x.f1) : k77.K w x [.int .i64 x.f0, .slice A1 x.f1.length c1] := by
 obtain ⟨n1, q1⟩ := Kd.fix_C_back mono77 g1
 have r1 := Kd.upto_C_le mono77 sz77 (show n1 ≤ n1 by omega) q1
 exact ⟨n1 + 1, ⟨[.int .i64 x.f0], [.slice A1 x.f1.length c1], rfl, rfl, ⟨A1, c1, rfl, l1, r1⟩⟩⟩
theorem k77_mkM (w : World) (base : Nat) (ok : Nat → Prop) (x : S77) {v1 : Value} (g1 : k77.R 77 w base ok v1 x.f1) : k77.M w base ok x [.int .i64 x.f0, v1] := by
 obtain ⟨n1, q1⟩ := Kd.fix_R_back mono77 g1
 have r1 := Kd.upto_R_le mono77 sz77 (show n1 ≤ n1 by omega) q1
 exact ⟨n1 + 1, ⟨[.int .i64 x.f0], [v1], rfl, rfl, ⟨v1, rfl, r1⟩⟩⟩
theorem at_T77 {w : World} {A : Option Addr} {n : Nat} {xs : List S77} (h : Kd.C k77 w A n xs) (i : Int) (h0 : 0 ≤ i) (h1 : i < n) : ∃ ad A1 c1, A = some ad ∧ w.cell? (ad.add (i.toNat * 2)) = some (.int .i64 (rd_T77 xs i).f0) ∧ w.cell? ⟨(ad.add (i.toNat * 2)).block, (ad.add (i.toNat * 2)).off + 1, none⟩ = some (.slice A1 (rd_T77 xs i).f1.length c1) ∧ (rd_T77 xs i).f1.length ≤ c1 ∧ k77.C w A1 (rd_T77 xs i).f1.length (rd_T77 xs i).f1 := by
 obtain ⟨ad, c, e, _, hK, hc0⟩ := Kd.C_get h z77 i h0 h1
 have hc : ∀ j u, c[j]? = some u → w.cell? (ad.add (i.toNat * 2 + j)) = some u := hc0
 obtain ⟨A1, c1, rfl, l1, g1⟩ := k77_open hK
 exact ⟨ad, A1, c1, e, hc 0 _ rfl, by rw [← add_field _ _ 1 (by omega)]; exact hc 1 _ rfl, l1, g1⟩
mutual
theorem k77_of {w : World} {ro : Nat → Prop} : ∀ (x : S77) (us : List Value), repL w ro (c77 x) us → k77.K w x us
 | ⟨n, ps⟩, us, h => by
   simp only [c77] at h
   obtain ⟨v, r, rfl, hv, v2, r2, rfl, hv2, hr⟩ := h
   obtain rfl : r2 = [] := hr
   obtain rfl : v = .int .i64 n := (show v = .int .i64 n ∧ _ from hv).1
   obtain ⟨A, c, rfl, h1, h2⟩ := r77_of ps v2 hv2
   exact k77_mk w ⟨n, ps⟩ h1 h2
theorem r77_of {w : World} {ro : Nat → Prop} : ∀ (xs : List S77) (u : Value), rep w ro (.sl 2 (r77 xs)) u → ∃ A c, u = .slice A xs.length c ∧ xs.length ≤ c ∧ Kd.C k77 w A xs.length xs
 | xs, u, h => by
   obtain ⟨A, c, h1, h2, h3, h4⟩ := h
   rw [r77_eq, rX_length] at h1 h2
   refine ⟨A, c, h1, h2, rfl, by simp only [maxLen] at h3; omega, fun hn => ?_⟩
   obtain ⟨b, o, rfl, _, h5⟩ := h4 (by rw [r77_eq, rX_length]; exact hn)
   exact ⟨_, rfl, r77_at' xs b o h5⟩
theorem r77_at' {w : World} {ro : Nat → Prop} : ∀ (xs : List S77) (b o : Nat), repR w ro 2 (r77 xs) b o → ∀ j p, xs[j]? = some p → ∃ c : List Value, c.length = 2 ∧ k77.K w p c ∧ ∀ i u, c[i]? = some u → w.cell? ((⟨b, o, none⟩ : Addr).add (j * 2 + i)) = some u
 | [], b, o, h => fun j p hj => by simp at hj
 | x :: xs, b, o, h => fun j p hj => by
   simp only [r77] at h
   obtain ⟨⟨h1, h2⟩, h3⟩ := h
   cases j with
   | zero =>
     obtain rfl : x = p := by simpa using hj
     obtain ⟨us, h4, h5⟩ := repL_of h2
     refine ⟨us, by rw [repL_len h4, h1], k77_of x us h4, fun i u hu => ?_⟩
     rw [addr_add, Nat.zero_mul, Nat.zero_add]
     exact h5 i u hu
   | succ j =>
     obtain ⟨c, h4, h5, h6⟩ := r77_at' xs b (o + 2) h3 j p (by simpa using hj)
     refine ⟨c, h4, h5, fun i u hu => ?_⟩
     have := h6 i u hu
     rw [addr_add] at this ⊢
     rwa [show o + ((j + 1) * 2 + i) = o + 2 + (j * 2 + i) by omega]
end
end Go.Proofs.YtoloblgjlnhioaaDoor.J
