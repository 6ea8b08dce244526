/- A part of the claim. -/
import Derived.Test.YtmjoigpnnechgaaDoorVFSkd
namespace Go.Proofs.YtmjoigpnnechgaaDoor.V
open Go.RowKit Go.Proofs.YtmjoigpnnechgaaDoorW.St Go.Proofs.YtmjoigpnnechgaaDoorW.PrintWords Go.Proofs.YtmjoigpnnechgaaDoorW.PrintLast Go.Proofs.YtmjoigpnnechgaaDoorW.PrintMore
set_option linter.unusedVariables false
set_option linter.unusedSimpArgs false
def F95 (d : Kd S95) : Kd S95 := Kd.iso (Kd.pair (Kd.int .i64) (Kd.slice 95 d)) (fun x : S95 => (x.f0, x.f1))
theorem mono95 : Kd.Mono F95 := Kd.mono_iso _ (Kd.mono_pair (Kd.mono_const _) (Kd.mono_slice 95 Kd.mono_id))
theorem sub95 : Kd.Sub F95 [95] := Kd.sub_iso _ (Kd.sub_pair (Kd.sub_const _ (by decide)) (Kd.sub_slice 95 (by decide) Kd.sub_id))
theorem sz95 : ∀ n, (Kd.upto F95 2 [95] n).sz = 2 := Kd.upto_sz (fun _ => rfl)
def k95 : Kd S95 := Kd.fix F95 2 [95] sz95 (Kd.upto_E sub95)
theorem k95_heap : Kd.Heap k95 := Kd.heap_fix (fun _ h_ => Kd.heap_iso _ (Kd.heap_pair (Kd.heap_int .i64) (Kd.heap_slice 95 h_)))
theorem k95_open {w : World} {x : S95} {cs : List Value} (h : k95.K w x cs) : ∃ A1 c1, cs = [.int .i64 x.f0, .slice A1 x.f1.length c1] ∧ x.f1.length ≤ c1 ∧ k95.C w A1 x.f1.length x.f1 := by
 obtain ⟨n, h⟩ := h
 cases n with
 | zero => exact h.elim
 | succ n =>
  obtain ⟨_, _, rfl, rfl, ⟨A1, c1, rfl, l1, g1⟩⟩ := h
  exact ⟨A1, c1, rfl, l1, Kd.fix_C g1⟩
theorem k95_openM {w : World} {base : Nat} {ok : Nat → Prop} {x : S95} {cs : List Value} (h : k95.M w base ok x cs) : ∃ v1, cs = [.int .i64 x.f0, v1] ∧ k95.R 95 w base ok v1 x.f1 := by
 obtain ⟨n, h⟩ := h
 cases n with
 | zero => exact h.elim
 | succ n =>
  obtain ⟨_, _, rfl, rfl, ⟨v1, rfl, g1⟩⟩ := h
  exact ⟨v1, rfl, Kd.fix_R g1⟩
theorem k95_mk (w : World) (x : S95) {A1 : Option Addr} {c1 : Nat} (l1 : x.f1.length ≤ c1) (g1 : k95.C w A1 x.f1.length x.f1) : k95.K w x [.int .i64 x.f0, .slice A1 x.f1.length c1] := by
 obtain ⟨n1, q1⟩ := Kd.fix_C_back mono95 g1
 have r1 := Kd.upto_C_le mono95 sz95 (show n1 ≤ n1 by omega) q1
 exact ⟨n1 + 1, ⟨[.int .i64 x.f0], [.slice A1 x.f1.length c1], rfl, rfl, ⟨A1, c1, rfl, l1, r1⟩⟩⟩
theorem k95_mkM (w : World) (base : Nat) (ok : Nat → Prop) (x : S95) {v1 : Value} (g1 : k95.R 95 w base ok v1 x.f1) : k95.M w base ok x [.int .i64 x.f0, v1] := by
 obtain ⟨n1, q1⟩ := Kd.fix_R_back mono95 g1
 have r1 := Kd.upto_R_le mono95 sz95 (show n1 ≤ n1 by omega) q1
 exact ⟨n1 + 1, ⟨[.int .i64 x.f0], [v1], rfl, rfl, ⟨v1, rfl, r1⟩⟩⟩
theorem at_T95 {w : World} {A : Option Addr} {n : Nat} {xs : List S95} (h : Kd.C k95 w A n xs) (i : Int) (h0 : 0 ≤ i) (h1 : i < n) : ∃ ad A1 c1, A = some ad ∧ w.cell? (ad.add (i.toNat * 2)) = some (.int .i64 (rd_T95 xs i).f0) ∧ w.cell? ⟨(ad.add (i.toNat * 2)).block, (ad.add (i.toNat * 2)).off + 1, none⟩ = some (.slice A1 (rd_T95 xs i).f1.length c1) ∧ (rd_T95 xs i).f1.length ≤ c1 ∧ k95.C w A1 (rd_T95 xs i).f1.length (rd_T95 xs i).f1 := by
 obtain ⟨ad, c, e, _, hK, hc0⟩ := Kd.C_get h z95 i h0 h1
 have hc : ∀ j u, c[j]? = some u → w.cell? (ad.add (i.toNat * 2 + j)) = some u := hc0
 obtain ⟨A1, c1, rfl, l1, g1⟩ := k95_open hK
 exact ⟨ad, A1, c1, e, hc 0 _ rfl, by rw [← add_field _ _ 1 (by omega)]; exact hc 1 _ rfl, l1, g1⟩
mutual
theorem k95_of {w : World} {ro : Nat → Prop} : ∀ (x : S95) (us : List Value), repL w ro (c95 x) us → k95.K w x us
 | ⟨n, ps⟩, us, h => by
   simp only [c95] at h
   obtain ⟨v, r, rfl, hv, v2, r2, rfl, hv2, hr⟩ := h
   obtain rfl : r2 = [] := hr
   obtain rfl : v = .int .i64 n := (show v = .int .i64 n ∧ _ from hv).1
   obtain ⟨A, c, rfl, h1, h2⟩ := r95_of ps v2 hv2
   exact k95_mk w ⟨n, ps⟩ h1 h2
theorem r95_of {w : World} {ro : Nat → Prop} : ∀ (xs : List S95) (u : Value), rep w ro (.sl 2 (r95 xs)) u → ∃ A c, u = .slice A xs.length c ∧ xs.length ≤ c ∧ Kd.C k95 w A xs.length xs
 | xs, u, h => by
   obtain ⟨A, c, h1, h2, h3, h4⟩ := h
   rw [r95_eq, rX_length] at h1 h2
   refine ⟨A, c, h1, h2, rfl, by simp only [maxLen] at h3; omega, fun hn => ?_⟩
   obtain ⟨b, o, rfl, _, h5⟩ := h4 (by rw [r95_eq, rX_length]; exact hn)
   exact ⟨_, rfl, r95_at' xs b o h5⟩
theorem r95_at' {w : World} {ro : Nat → Prop} : ∀ (xs : List S95) (b o : Nat), repR w ro 2 (r95 xs) b o → ∀ j p, xs[j]? = some p → ∃ c : List Value, c.length = 2 ∧ k95.K w p c ∧ ∀ i u, c[i]? = some u → w.cell? ((⟨b, o, none⟩ : Addr).add (j * 2 + i)) = some u
 | [], b, o, h => fun j p hj => by simp at hj
 | x :: xs, b, o, h => fun j p hj => by
   simp only [r95] at h
   obtain ⟨⟨h1, h2⟩, h3⟩ := h
   cases j with
   | zero =>
     obtain rfl : x = p := by simpa using hj
     obtain ⟨us, h4, h5⟩ := repL_of h2
     refine ⟨us, by rw [repL_len h4, h1], k95_of x us h4, fun i u hu => ?_⟩
     rw [addr_add, Nat.zero_mul, Nat.zero_add]
     exact h5 i u hu
   | succ j =>
     obtain ⟨c, h4, h5, h6⟩ := r95_at' xs b (o + 2) h3 j p (by simpa using hj)
     refine ⟨c, h4, h5, fun i u hu => ?_⟩
     have := h6 i u hu
     rw [addr_add] at this ⊢
     rwa [show o + ((j + 1) * 2 + i) = o + 2 + (j * 2 + i) by omega]
end
end Go.Proofs.YtmjoigpnnechgaaDoor.V
