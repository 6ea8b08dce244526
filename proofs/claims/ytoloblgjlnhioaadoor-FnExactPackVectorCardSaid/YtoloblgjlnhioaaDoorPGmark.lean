/- What the law's markers do to a vector whose rows are apart: every number of it is written; by walks of their code. -/
import Derived.Test.YtoloblgjlnhioaaDoorPx6
namespace Go.Proofs.YtoloblgjlnhioaaDoor.P
open Go.RowKit Go.Proofs.YtoloblgjlnhioaaDoorW.PrintWords Go.Proofs.YtoloblgjlnhioaaDoorW.PrintLast Go.Proofs.YtoloblgjlnhioaaDoorW.PrintMore
attribute [local go_sem] max2_int min2_int max_two min_two max_three min_three max_four min_four
set_option linter.unusedVariables false
set_option linter.unusedSimpArgs false

def laws_markIntSS.l0 : Nat → List (List Int) → Int → Int → Option (Int × List (List Int))
 | 0, _, _, _ => none
 | k + 1, x0, x1, x5 => if x5 < (x0.length : Int) then (if 0 ≤ x5 then ((laws_markIntS.f k (x0.getD x5.toNat []) x1).bind fun q => laws_markIntSS.l0 k (x0.set x5.toNat q.2) q.1 (wrap64 (x5 + 1))) else none) else some (x1, x0)
def laws_markIntSS.f (k : Nat) (l0 : List (List Int)) (a1 : Int) : Option (Int × List (List Int)) := laws_markIntSS.l0 k l0 a1 0
def laws_markVector.f (k : Nat) (L : List (List Int)) (D : List Int) (a1 : Int) : Option (Int × List (List Int) × List Int) := (laws_markIntSS.f k L a1).bind fun q => (laws_markIntS.f k D q.1).bind fun p => some (p.1, q.2, p.2)
set_option maxHeartbeats 8000000 in
set_option maxRecDepth 100000 in
theorem laws_markIntSS.calls (k : Nat) (P0_ : Nat → Prop) (u9000_ : Value) (l0 : List (List Int)) (a1 : Int) (r1 : Int) (r2 : List (List Int)) (w0 w : World) (hB : Below w0.heap.size w0 w) (ho0 : Kd.S (Kd.slice 3 (Kd.int .i64)) 25 w w0.heap.size P0_ u9000_ l0) (h : laws_markIntSS.f k l0 a1 = some (r1, r2)) :
   Calls Tryd.prog 79 #[u9000_, .int .i64 a1] w fun e w' => e = .returned (.int .i64 r1) ∧ Kd.S (Kd.slice 3 (Kd.int .i64)) 25 w' w0.heap.size P0_ u9000_ r2 ∧ Below w0.heap.size w0 w' ∧ Kept w w' P0_ := by
 have HO0 := Aside0.mk ho0
 have HK := Aside0.mk (Kept.refl w P0_)
 have HB := Aside0.mk hB
 clear hB ho0
 have H' := Aside0.mk (show (laws_markIntSS.l0 k l0 a1 0) = some (r1, r2) from h)
 clear h
 go_enter Tryd.func79, Tryd.ntmps79
 go_wp2
 go_loopg [1, 5] k (fun kq v1 v5 w' => ∃ (x0_1 : List (List Int)) (x1_1 : Int) (x5_1 : Int), v1 = .int .i64 x1_1 ∧ v5 = .int .i64 x5_1 ∧ Aside0 (laws_markIntSS.l0 kq x0_1 x1_1 x5_1 = some (r1, r2)) ∧ Aside0 (kq ≤ k) ∧ Aside0 (Kd.S (Kd.slice 3 (Kd.int .i64)) 25 w' w0.heap.size P0_ u9000_ x0_1) ∧ Aside0 (Kept w w' P0_) ∧ Aside0 (Below w0.heap.size w0 w'))
 case atStart => exact ⟨(l0), (a1), (0), (by first | rfl | (simp; done) | (simp [*]; done)), (by first | rfl | (simp; done) | (simp [*]; done)), H', ⟨Nat.le_refl _⟩, HO0, HK, HB⟩
 case round =>
   clear H' HO0 HK HB
   obtain ⟨x0_1, x1_1, x5_1, rfl, rfl, HA, HK1, HO, HK, HB⟩ := hrel
   cases gk with
   | zero => exact absurd HA.out (by simp [laws_markIntSS.l0])
   | succ k1 =>
     have H := HA.out
     clear HA
     simp only [laws_markIntSS.l0] at H
     by_cases c3 : x5_1 < (x0_1.length : Int)
     · rw [if_pos c3] at H
       by_cases c4 : 0 ≤ x5_1
       · rw [if_pos c4] at H
         obtain ⟨⟨m2, r⟩, A50, H⟩ := Option.bind_eq_some_iff.mp H
         have H' := Aside0.mk (show laws_markIntSS.l0 k1 (x0_1.set x5_1.toNat r) m2 (wrap64 (x5_1 + 1)) = some (r1, r2) from H)
         have A5 := Aside0.mk A50
         clear H A50
         obtain ⟨go5, co5, eo5, gb5, gl5, cl5, HG5⟩ := Kd.S_form HO.out (by omega)
         cases eo5
         clear gb5 gl5 HG5 cl5
         obtain ⟨oki, c, hcl, hM, hcc, hfr, hoki, hH⟩ := Kd.S_elem HO.out ([] : List Int) x5_1 c4 c3
         obtain ⟨v, rfl, hR⟩ := hM
         have hx5_0 : wr.cell? ⟨go5, x5_1.toNat, none⟩ = some v := by have := hcc 0 v rfl; rwa [show (Kd.slice 3 (Kd.int .i64)).sz = 1 from rfl, Nat.mul_one, Nat.add_zero] at this
         have hf5_0 : wr.frozen? ⟨go5, x5_1.toNat, none⟩ = false := by have h3 := hfr 0; rwa [show (Kd.slice 3 (Kd.int .i64)).sz = 1 from rfl, Nat.mul_one, Nat.add_zero] at h3
         have HR := Aside0.mk hR
         have HH := Aside0.mk hH
         have HOK := Aside0.mk hoki
         clear hcl hcc hfr hoki hH hR HO
         have c3b0 : decide (x5_1 < (x0_1.length : Int)) = true := decide_eq_true c3
         have c4b0 : decide (0 ≤ x5_1) = true := decide_eq_true c4
         replace c3 := eq_true c3
         replace c4 := eq_true c4
         go_wp2_with (first | ((with_reducible refine gate_callee (f := 80) rfl ?_); refine goesL_ (some 17) rfl rfl Tryd.func80 (by kernel_rfl) rfl #[v, .int .i64 x1_1] rfl (by (try simp only [List.map_toArray, List.map_cons, List.map_nil]); first | done | rfl) ?_; (with_reducible refine (laws_markIntS.calls k1 oki v (x0_1.getD x5_1.toNat []) x1_1 m2 r w0 _ HB.out HR.out A5.out).mono ?_); rintro e w8 ⟨rfl, hy0, hb, hkp⟩; refine ⟨_, rfl, ?_⟩; have n0_ := Aside0.mk (Kd.H_back (Kd.H_kept HH.out hkp (fun k_ _ hn => hn)) (x' := r) (okp := oki) ⟨v, rfl, Kd.R_reok rfl hy0 (fun k_ e_ => HR.out.1 k_ e_)⟩ (fun _ hk => hk)); have n1_ := Aside0.mk (Kept.then_ HK.out hkp (fun k_ hs_ => .inl (HOK.out k_ hs_).1)); have n2_ := Aside0.mk hb; clear HH HK HB HR HOK hb hkp hy0; have HO := n0_; have HK := n1_; have HB := n2_; clear n0_ n1_ n2_))
         go_roundg k1
         case measure => have := HK1.out; omega
         case rel => exact ⟨_, m2, (wrap64 (x5_1 + 1)), (by first | rfl | (simp; done) | (simp [*]; done)), (by first | rfl | (simp; done) | (simp [*]; done)), H', ⟨by have := HK1.out; omega⟩, HO, HK, HB⟩
       · rw [if_neg c4] at H
         exact absurd H (by simp)
     · rw [if_neg c3] at H
       have c3b0 : decide (x5_1 < (x0_1.length : Int)) = false := decide_eq_false c3
       clear c3
       simp only [Option.some.injEq, Prod.mk.injEq] at H
       obtain ⟨rfl, rfl⟩ := H
       obtain ⟨Ao9, co9, eo9⟩ := Kd.S_slice HO.out
       subst eo9
       go_wp2
       go_ret
       exact ⟨by first | rfl | (simp; done), HO.out, HB.out, HK.out⟩
/-- The rows (S) and the numbers (R) of a layout, told apart. -/
def Two (w : World) (base : Nat) (P1 P2 : Nat → Prop) (v1 v2 : Value) (L : List (List Int)) (D : List Int) : Prop :=
 Kd.S (Kd.slice 3 (Kd.int .i64)) 25 w base P1 v1 L ∧ Kd.R (Kd.int .i64) 3 w base P2 v2 D ∧ (∀ k, P1 k → ¬ P2 k)
theorem Two.s {w : World} {base : Nat} {P1 P2 : Nat → Prop} {v1 v2 : Value} {L : List (List Int)} {D : List Int} (h : Two w base P1 P2 v1 v2 L D) : Kd.S (Kd.slice 3 (Kd.int .i64)) 25 w base P1 v1 L := h.1
theorem Two.r {w : World} {base : Nat} {P1 P2 : Nat → Prop} {v1 v2 : Value} {L : List (List Int)} {D : List Int} (h : Two w base P1 P2 v1 v2 L D) : Kd.R (Kd.int .i64) 3 w base P2 v2 D := h.2.1
theorem Two.bound {w : World} {base : Nat} {P1 P2 : Nat → Prop} {v1 v2 : Value} {L : List (List Int)} {D : List Int} (h : Two w base P1 P2 v1 v2 L D) : Two w base (fun k => P1 k ∧ base ≤ k ∧ k < w.heap.size) (fun k => P2 k ∧ base ≤ k ∧ k < w.heap.size) v1 v2 L D :=
 ⟨Kd.S_mono (Kd.S_bound h.1) (fun _ hk => ⟨hk.1, hk.2.1, hk.2.2.1⟩), Kd.R_mono (Kd.R_bound h.2.1) (fun _ hk => ⟨hk.1, hk.2.1, hk.2.2.1⟩), fun k h1 h2 => h.2.2 k h1.1 h2.1⟩
theorem Two.step {w w1 : World} {base : Nat} {P1 P2 : Nat → Prop} {v1 v2 : Value} {L : List (List Int)} {D : List Int} (h : Two w base P1 P2 v1 v2 L D) (hm : ∀ k, P1 k ∨ P2 k → k < w.heap.size → w1.heap[k]? = w.heap[k]?) : Two w1 base P1 P2 v1 v2 L D :=
 ⟨Kd.S_step h.1 (fun k hk => hm k (.inl hk)), Kd.R_step h.2.1 (fun k hk => hm k (.inr hk)), h.2.2⟩
theorem Two.below {w w1 : World} {base : Nat} {P1 P2 : Nat → Prop} {v1 v2 : Value} {L : List (List Int)} {D : List Int} (h : Two w base P1 P2 v1 v2 L D) (hb : Below w.heap.size w w1) : Two w1 base P1 P2 v1 v2 L D := h.step (fun k _ hk => hb.block k hk)
set_option maxHeartbeats 8000000 in
set_option maxRecDepth 100000 in
theorem laws_markLayout.calls (k : Nat) (P1 P2 : Nat → Prop) (v1 v2 : Value) (L : List (List Int)) (D : List Int) (a1 r1 : Int) (L2 : List (List Int)) (D2 : List Int) (w0 w : World) (hB : Below w0.heap.size w0 w) (ho : Two w w0.heap.size P1 P2 v1 v2 L D) (h : laws_markVector.f k L D a1 = some (r1, L2, D2)) :
   Calls Tryd.prog 42 #[.agg #[v1, v2], .int .i64 a1] w fun e w' => e = .returned (.int .i64 r1) ∧ Two w' w0.heap.size P1 P2 v1 v2 L2 D2 ∧ Below w0.heap.size w0 w' ∧ Kept w w' (fun k_ => P1 k_ ∨ P2 k_) := by
 have hu27 := Tryd.underlying27
 obtain ⟨⟨m, LL⟩, A30, h⟩ := Option.bind_eq_some_iff.mp h
 obtain ⟨⟨m2, DD⟩, A40, h⟩ := Option.bind_eq_some_iff.mp h
 obtain ⟨rfl, rfl, rfl⟩ : m2 = r1 ∧ LL = L2 ∧ DD = D2 := by simpa using h
 clear h
 have A3 := Aside0.mk A30
 have A4 := Aside0.mk A40
 clear A30 A40
 obtain ⟨A1, c1, rfl⟩ := Kd.S_slice ho.1
 obtain ⟨A2, c2, rfl⟩ := Kd.R_slice ho.2.1
 have HT := Aside0.mk ho.bound
 have HP := Aside0.mk (show ∀ k_, P1 k_ → ¬ P2 k_ from ho.2.2)
 have HB := Aside0.mk hB
 have HZ := Aside0.mk hB.size
 clear hB ho
 go_enter Tryd.func42, Tryd.ntmps42
 go_wp2_with (first | ((with_reducible refine gate_dst (N := 2) rfl ?_); refine box_event ?hg (N := 2) ?hd (cs := #[.slice A1 L.length c1, .slice A2 D.length c2]) (t := 27) ?hr ?_; (case hd => rfl); (case hg => rfl); (case hr => first | (go_simp; done) | (go_simp; rfl)); intro gb hg w6 hbox hb; have HT6 := Aside0.mk (HT.out.below hb); have HB6 := Aside0.mk (below_step HB.out hb); have HK6 := Aside0.mk (Kept.of_below hb (fun k_ => P1 k_ ∨ P2 k_)); have HG := Aside0.mk (Nat.le_of_eq hg.symm : w.heap.size ≤ gb); have BK := Aside0.mk hbox; clear HT HB hb hbox hg; have hcz7_0 : w6.cell? ⟨gb, 0, none⟩ = some (.slice A1 L.length c1) := (blk_cell BK.out 0).trans rfl; have hcz7_1 : w6.cell? ⟨gb, 1, none⟩ = some (.slice A2 D.length c2) := (blk_cell BK.out 1).trans rfl; have hfz7_0 := blk_frozen BK.out 0; have hfz7_1 := blk_frozen BK.out 1) | ((with_reducible refine gate_callee (f := 79) rfl ?_); refine goesL_ (some 8) rfl rfl Tryd.func79 (by kernel_rfl) rfl #[.slice A1 L.length c1, .int .i64 a1] rfl (by (try simp only [List.map_toArray, List.map_cons, List.map_nil]); first | done | rfl) ?_; (with_reducible refine (laws_markIntSS.calls k _ (.slice A1 L.length c1) L a1 m LL w0 _ HB6.out HT6.out.s A3.out).mono ?_); rintro e w8 ⟨rfl, hS, hb, hkp⟩; refine ⟨_, rfl, ?_⟩; have HS8 := Aside0.mk hS; have HR8 := Aside0.mk (Kd.R_kept HT6.out.r hkp (fun k_ h2 h1 => HP.out k_ h1.1 h2.1)); have BK8 := Aside0.mk (blk_kept BK.out hkp (fun hs => Nat.not_lt_of_le HG.out hs.2.2)); have HK8 := Aside0.mk (Kept.then_ HK6.out hkp (fun k_ hs => .inl (.inl hs.1))); have HB8 := Aside0.mk hb; clear HT6 HB6 HK6 BK hS hb hkp; have hcz9_0 : w8.cell? ⟨gb, 0, none⟩ = some (.slice A1 L.length c1) := (blk_cell BK8.out 0).trans rfl; have hcz9_1 : w8.cell? ⟨gb, 1, none⟩ = some (.slice A2 D.length c2) := (blk_cell BK8.out 1).trans rfl; have hfz9_0 := blk_frozen BK8.out 0; have hfz9_1 := blk_frozen BK8.out 1) | ((with_reducible refine gate_callee (f := 80) rfl ?_); refine goesL_ (some 12) rfl rfl Tryd.func80 (by kernel_rfl) rfl #[.slice A2 D.length c2, .int .i64 m] rfl (by (try simp only [List.map_toArray, List.map_cons, List.map_nil]); first | done | rfl) ?_; (with_reducible refine (laws_markIntS.calls k _ (.slice A2 D.length c2) D m m2 DD w0 _ HB8.out HR8.out A4.out).mono ?_); rintro e w10 ⟨rfl, hy0, hb, hkp⟩; refine ⟨_, rfl, ?_⟩; have HR10 := Aside0.mk (Kd.R_reok rfl hy0 (fun k_ e_ => HR8.out.1 k_ e_)); have HS10 := Aside0.mk (Kd.S_kept HS8.out hkp (fun k_ h1 h2 => HP.out k_ h1.1 h2.1)); have HK10 := Aside0.mk (Kept.then_ HK8.out hkp (fun k_ hs => .inl (.inr hs.1))); have HB10 := Aside0.mk hb; clear HR8 HS8 HK8 HB8 BK8 hy0 hb hkp))
 go_ret
 exact ⟨by first | rfl | (simp; done), ⟨Kd.S_mono HS10.out (fun _ hk => hk.1), Kd.R_mono HR10.out (fun _ hk => hk.1), HP.out⟩, HB10.out, HK10.out⟩
set_option maxHeartbeats 8000000 in
set_option maxRecDepth 100000 in
theorem laws_markVector.calls (k : Nat) (P1 P2 : Nat → Prop) (c : Int) (v1 v2 : Value) (L : List (List Int)) (D : List Int) (a1 r1 : Int) (L2 : List (List Int)) (D2 : List Int) (w0 w : World) (hB : Below w0.heap.size w0 w) (ho : Two w w0.heap.size P1 P2 v1 v2 L D) (h : laws_markVector.f k L D a1 = some (r1, L2, D2)) :
   Calls Tryd.prog 14 #[.agg #[.int .i64 c, v1, v2], .int .i64 a1] w fun e w' => e = .returned (.int .i64 r1) ∧ Two w' w0.heap.size P1 P2 v1 v2 L2 D2 ∧ Below w0.heap.size w0 w' ∧ Kept w w' (fun k_ => P1 k_ ∨ P2 k_) := by
 have hu29 := Tryd.underlying29
 have hu27 := Tryd.underlying27
 have A3 := Aside0.mk h
 clear h
 obtain ⟨A1, c1, rfl⟩ := Kd.S_slice ho.1
 obtain ⟨A2, c2, rfl⟩ := Kd.R_slice ho.2.1
 have HT := Aside0.mk ho
 have HB := Aside0.mk hB
 clear hB ho
 go_enter Tryd.func14, Tryd.ntmps14
 go_wp2_with (first | ((with_reducible refine gate_dst (N := 2) rfl ?_); refine box_event ?hg (N := 2) ?hd (cs := #[.int .i64 c, .slice A1 L.length c1, .slice A2 D.length c2]) (t := 29) ?hr ?_; (case hd => rfl); (case hg => rfl); (case hr => first | (go_simp; done) | (go_simp; rfl)); intro gb hg w6 hbox hb; have HT6 := Aside0.mk (HT.out.below hb); have HB6 := Aside0.mk (below_step HB.out hb); have HK6 := Aside0.mk (Kept.of_below hb (fun k_ => P1 k_ ∨ P2 k_)); have BK := Aside0.mk hbox; clear HT HB hb hbox hg; have hcz7_0 : w6.cell? ⟨gb, 0, none⟩ = some (.int .i64 c) := (blk_cell BK.out 0).trans rfl; have hcz7_1 : w6.cell? ⟨gb, 1, none⟩ = some (.slice A1 L.length c1) := (blk_cell BK.out 1).trans rfl; have hcz7_2 : w6.cell? ⟨gb, 2, none⟩ = some (.slice A2 D.length c2) := (blk_cell BK.out 2).trans rfl; have hfz7_0 := blk_frozen BK.out 0; have hfz7_1 := blk_frozen BK.out 1; have hfz7_2 := blk_frozen BK.out 2) | ((with_reducible refine gate_callee (f := 42) rfl ?_); refine goesL_ (some 8) rfl rfl Tryd.func42 (by kernel_rfl) rfl #[.agg #[.slice A1 L.length c1, .slice A2 D.length c2], .int .i64 a1] rfl (by (try simp only [List.map_toArray, List.map_cons, List.map_nil]); first | done | rfl) ?_; (with_reducible refine (laws_markLayout.calls k P1 P2 (.slice A1 L.length c1) (.slice A2 D.length c2) L D a1 r1 L2 D2 w0 _ HB6.out HT6.out A3.out).mono ?_); rintro e w8 ⟨rfl, hT, hb, hkp⟩; refine ⟨_, rfl, ?_⟩; have HT8 := Aside0.mk hT; have HK8 := Aside0.mk (Kept.then_ HK6.out hkp (fun k_ hs => .inl hs)); have HB8 := Aside0.mk hb; clear HT6 HB6 HK6 BK hT hb hkp))
 go_ret
 exact ⟨by first | rfl | (simp; done), HT8.out, HB8.out, HK8.out⟩
end Go.Proofs.YtoloblgjlnhioaaDoor.P
