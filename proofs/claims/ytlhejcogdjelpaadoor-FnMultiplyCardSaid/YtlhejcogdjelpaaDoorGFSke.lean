/- A part of the claim. -/
import Derived.Test.YtlhejcogdjelpaaDoorGFSkd
namespace Go.Proofs.YtlhejcogdjelpaaDoor.G
open Go.RowKit Go.Proofs.YtlhejcogdjelpaaDoorW.St Go.Proofs.YtlhejcogdjelpaaDoorW.PrintWords Go.Proofs.YtlhejcogdjelpaaDoorW.PrintLast Go.Proofs.YtlhejcogdjelpaaDoorW.PrintMore
set_option linter.unusedVariables false
set_option linter.unusedSimpArgs false
def F73 (d : Kd S73) : Kd S73 := Kd.iso (Kd.pair (Kd.int .i64) (Kd.slice 73 d)) (fun x : S73 => (x.f0, x.f1))
theorem mono73 : Kd.Mono F73 := Kd.mono_iso _ (Kd.mono_pair (Kd.mono_const _) (Kd.mono_slice 73 Kd.mono_id))
theorem sub73 : Kd.Sub F73 [73] := Kd.sub_iso _ (Kd.sub_pair (Kd.sub_const _ (by decide)) (Kd.sub_slice 73 (by decide) Kd.sub_id))
theorem sz73 : ∀ n, (Kd.upto F73 2 [73] n).sz = 2 := Kd.upto_sz (fun _ => rfl)
def k73 : Kd S73 := Kd.fix F73 2 [73] sz73 (Kd.upto_E sub73)
theorem k73_heap : Kd.Heap k73 := Kd.heap_fix (fun _ h_ => Kd.heap_iso _ (Kd.heap_pair (Kd.heap_int .i64) (Kd.heap_slice 73 h_)))
theorem k73_open {w : World} {x : S73} {cs : List Value} (h : k73.K w x cs) : ∃ A1 c1, cs = [.int .i64 x.f0, .slice A1 x.f1.length c1] ∧ x.f1.length ≤ c1 ∧ k73.C w A1 x.f1.length x.f1 := by
 obtain ⟨n, h⟩ := h
 cases n with
 | zero => exact h.elim
 | succ n =>
  obtain ⟨_, _, rfl, rfl, ⟨A1, c1, rfl, l1, g1⟩⟩ := h
  exact ⟨A1, c1, rfl, l1, Kd.fix_C g1⟩
theorem k73_openM {w : World} {base : Nat} {ok : Nat → Prop} {x : S73} {cs : List Value} (h : k73.M w base ok x cs) : ∃ v1, cs = [.int .i64 x.f0, v1] ∧ k73.R 73 w base ok v1 x.f1 := by
 obtain ⟨n, h⟩ := h
 cases n with
 | zero => exact h.elim
 | succ n =>
  obtain ⟨_, _, rfl, rfl, ⟨v1, rfl, g1⟩⟩ := h
  exact ⟨v1, rfl, Kd.fix_R g1⟩
theorem k73_mk (w : World) (x : S73) {A1 : Option Addr} {c1 : Nat} (l1 : x.f1.length ≤ c1) (g1 : k73.C w A1 x.f1.length x.f1) : k73.K w x [.int .i64 x.f0, .slice A1 x.f1.length c1] := by
 obtain ⟨n1, q1⟩ := Kd.fix_C_back mono73 g1
 have r1 := Kd.upto_C_le mono73 sz73 (show n1 ≤ n1 by omega) q1
 exact ⟨n1 + 1, ⟨[.int .i64 x.f0], [.slice A1 x.f1.length c1], rfl, rfl, ⟨A1, c1, rfl, l1, r1⟩⟩⟩
theorem k73_mkM (w : World) (base : Nat) (ok : Nat → Prop) (x : S73) {v1 : Value} (g1 : k73.R 73 w base ok v1 x.f1) : k73.M w base ok x [.int .i64 x.f0, v1] := by
 obtain ⟨n1, q1⟩ := Kd.fix_R_back mono73 g1
 have r1 := Kd.upto_R_le mono73 sz73 (show n1 ≤ n1 by omega) q1
 exact ⟨n1 + 1, ⟨[.int .i64 x.f0], [v1], rfl, rfl, ⟨v1, rfl, r1⟩⟩⟩
theorem at_T73 {w : World} {A : Option Addr} {n : Nat} {xs : List S73} (h : Kd.C k73 w A n xs) (i : Int) (h0 : 0 ≤ i) (h1 : i < n) : ∃ ad A1 c1, A = some ad ∧ w.cell? (ad.add (i.toNat * 2)) = some (.int .i64 (rd_T73 xs i).f0) ∧ w.cell? ⟨(ad.add (i.toNat * 2)).block, (ad.add (i.toNat * 2)).off + 1, none⟩ = some (.slice A1 (rd_T73 xs i).f1.length c1) ∧ (rd_T73 xs i).f1.length ≤ c1 ∧ k73.C w A1 (rd_T73 xs i).f1.length (rd_T73 xs i).f1 := by
 obtain ⟨ad, c, e, _, hK, hc0⟩ := Kd.C_get h z73 i h0 h1
 have hc : ∀ j u, c[j]? = some u → w.cell? (ad.add (i.toNat * 2 + j)) = some u := hc0
 obtain ⟨A1, c1, rfl, l1, g1⟩ := k73_open hK
 exact ⟨ad, A1, c1, e, hc 0 _ rfl, by rw [← add_field _ _ 1 (by omega)]; exact hc 1 _ rfl, l1, g1⟩
mutual
theorem k73_of {w : World} {ro : Nat → Prop} : ∀ (x : S73) (us : List Value), repL w ro (c73 x) us → k73.K w x us
 | ⟨n, ps⟩, us, h => by
   simp only [c73] at h
   obtain ⟨v, r, rfl, hv, v2, r2, rfl, hv2, hr⟩ := h
   obtain rfl : r2 = [] := hr
   obtain rfl : v = .int .i64 n := (show v = .int .i64 n ∧ _ from hv).1
   obtain ⟨A, c, rfl, h1, h2⟩ := r73_of ps v2 hv2
   exact k73_mk w ⟨n, ps⟩ h1 h2
theorem r73_of {w : World} {ro : Nat → Prop} : ∀ (xs : List S73) (u : Value), rep w ro (.sl 2 (r73 xs)) u → ∃ A c, u = .slice A xs.length c ∧ xs.length ≤ c ∧ Kd.C k73 w A xs.length xs
 | xs, u, h => by
   obtain ⟨A, c, h1, h2, h3, h4⟩ := h
   rw [r73_eq, rX_length] at h1 h2
   refine ⟨A, c, h1, h2, rfl, by simp only [maxLen] at h3; omega, fun hn => ?_⟩
   obtain ⟨b, o, rfl, _, h5⟩ := h4 (by rw [r73_eq, rX_length]; exact hn)
   exact ⟨_, rfl, r73_at' xs b o h5⟩
theorem r73_at' {w : World} {ro : Nat → Prop} : ∀ (xs : List S73) (b o : Nat), repR w ro 2 (r73 xs) b o → ∀ j p, xs[j]? = some p → ∃ c : List Value, c.length = 2 ∧ k73.K w p c ∧ ∀ i u, c[i]? = some u → w.cell? ((⟨b, o, none⟩ : Addr).add (j * 2 + i)) = some u
 | [], b, o, h => fun j p hj => by simp at hj
 | x :: xs, b, o, h => fun j p hj => by
   simp only [r73] at h
   obtain ⟨⟨h1, h2⟩, h3⟩ := h
   cases j with
   | zero =>
     obtain rfl : x = p := by simpa using hj
     obtain ⟨us, h4, h5⟩ := repL_of h2
     refine ⟨us, by rw [repL_len h4, h1], k73_of x us h4, fun i u hu => ?_⟩
     rw [addr_add, Nat.zero_mul, Nat.zero_add]
     exact h5 i u hu
   | succ j =>
     obtain ⟨c, h4, h5, h6⟩ := r73_at' xs b (o + 2) h3 j p (by simpa using hj)
     refine ⟨c, h4, h5, fun i u hu => ?_⟩
     have := h6 i u hu
     rw [addr_add] at this ⊢
     rwa [show o + ((j + 1) * 2 + i) = o + 2 + (j * 2 + i) by omega]
end
end Go.Proofs.YtlhejcogdjelpaaDoor.G
