/- A part of the claim. -/
import Derived.Test.YtjkngiciigdheaaGreatDoorKFSgk
import Derived.Test.YtjkngiciigdheaaGreatDoorKFSgc
import Derived.Test.YtjkngiciigdheaaGreatDoorKFW1
namespace Go.Proofs.YtjkngiciigdheaaGreatDoor.K
open Go.RowKit Go.Proofs.YtjkngiciigdheaaGreatDoorW.St Go.Proofs.YtjkngiciigdheaaGreatDoorW.PrintWords Go.Proofs.YtjkngiciigdheaaGreatDoorW.PrintLast Go.Proofs.YtjkngiciigdheaaGreatDoorW.PrintMore
attribute [local go_sem] max2_int min2_int max_two min_two max_three min_three max_four min_four
set_option linter.unusedVariables false
set_option linter.unusedSimpArgs false
def spec_l8Pack.l0 : Nat → List S86 → List (List Int) → List Int → Int → Int → Option (Int × List (List Int) × List Int)
 | 0, _, _, _, _, _ => none
 | k + 1, l, L, D, m, i => if i < m then (if 0 ≤ i then (if i < (l.length : Int) then ((pv.f k L D ((rd_T86 l i).f0) ((rd_T86 l i).f1) 0).bind fun q => spec_l8Pack.l0 k l q.1 q.2 m (wrap64 (i + 1))) else none) else none) else some (m, L, D)
def spec_l8Pack.f (k : Nat) (l : List S86) (d : Int) : Option (Int × List (List Int) × List Int) := if 0 ≤ d then (if d ≤ 1000 then spec_l8Pack.l0 k l (List.replicate d.toNat []) [] (l.length : Int) 0 else none) else none
set_option maxHeartbeats 8000000 in
set_option maxRecDepth 100000 in
theorem l8Empty.calls (d : Nat) (hd : d ≤ 1000) (L0 : List (List Int)) (hL0 : L0 = List.replicate d []) (w : World) :
 Calls Tryz.prog 159 #[.int .i64 (d : Int)] w fun e w' => ∃ v0_ v1_ : Value, e = .returned (.agg #[.int .i64 0, v0_, v1_]) ∧ Kd.S (Kd.slice 3 (Kd.int .i64)) 27 w' w.heap.size (fun k_ => some k_ ≠ (v1_ : Value).ownBlock) v0_ L0 ∧ Kd.R (Kd.int .i64) 3 w' w.heap.size (fun _ => True) v1_ [] ∧ Below w.heap.size w w' := by
 have huV := Tryz.underlying31
 have huL := Tryz.underlying29
 have huR := Tryz.underlying26
 have HL0 := Aside0.mk hL0
 clear hL0
 go_enter Tryz.func159, Tryz.ntmps159
 try go_wp2_with (first | ((with_reducible refine gate_dst (N := 2) rfl ?_); refine box_event ?hg (N := 2) ?hd (cs := #[.int .i64 0, .slice none 0 0, .slice none 0 0]) (t := 31) ?hr ?_; (case hd => rfl); (case hg => rfl); (case hr => first | (go_simp; done) | (go_simp; rfl)); intro g2 hg_ w2 hbox hb; have HW2 := Aside0.mk (show w.heap.size ≤ g2 from (by omega)); have HB2 := Aside0.mk (show Below w.heap.size w w2 from hb); have BK2 := Aside0.mk hbox; clear hg_ hbox hb) | ((with_reducible refine gate_dst (N := 4) rfl ?_); refine Kd.S_lit (Kd.slice 3 (Kd.int .i64)) _ 27 ?hg (N := 4) ?hd (xs := ([] : List (List Int))) (inner := []) (ok := fun _ => True) (okp := fun _ => True) ?hr ?hp (fun _ hk => hk) trivial (Below.refl _ _) (Nat.le_refl _) (by simp) ?_; (case hd => rfl); (case hg => rfl); (case hr => first | (go_simp; done) | (go_simp; rfl)); (case hp => exact (Reps.none _ _)); intro v4 w4 hS hb hg_ hnew_; have HQ4 := Aside0.mk (below_step HB2.out hb); have BK4 := Aside0.mk (blk_below BK2.out hb); have HS4 := Aside0.mk (Kd.S_lower hS (below_size HB2.out)); clear hS hb hg_ hnew_ HB2 BK2; obtain ⟨A4, c4, e4⟩ := Kd.S_slice HS4.out; subst e4) | ((with_reducible refine gate_dst (N := 5) rfl ?_); refine Kd.R_lit (Kd.int .i64) _ 3 ?hg (N := 5) ?hd (xs := ([] : List Int)) (inner := []) (ok := fun _ => True) (okp := fun _ => True) ?hr ?hp (fun _ hk => hk) trivial (Below.refl _ _) (Nat.le_refl _) (by simp) ?_; (case hd => rfl); (case hg => rfl); (case hr => first | (go_simp; done) | (go_simp; rfl)); (case hp => exact (Reps.none _ _)); intro v5 w5 hR hb hg_ hnew_; have HS5 := Aside0.mk (Kd.S_elder' HS4.out (Kd.R_base hR) hb); have HQ5 := Aside0.mk (below_step HQ4.out hb); have BK5 := Aside0.mk (blk_below BK4.out hb); have HR5 := Aside0.mk (Kd.R_lower hR (below_size HQ4.out)); clear hR hb hg_ hnew_ HS4 HQ4 BK4; obtain ⟨A5, c5, e5⟩ := Kd.R_slice HR5.out; subst e5) | ((with_reducible refine gate_dst (N := 3) rfl ?_); refine box_event ?hg (N := 3) ?hd (cs := #[.int .i64 0, .slice none 0 0, .slice none 0 0]) (t := 31) ?hr ?_; (case hd => rfl); (case hg => rfl); (case hr => first | (go_simp; done) | (go_simp; rfl)); intro g hg_ w3 hbox hb; have HS3 := Aside0.mk (Kd.S_mono (Kd.S_below HS5.out hb) (fun k_ (hk : True ∧ some k_ ≠ (Value.slice A5 0 c5).ownBlock) => hk.2)); have HR3 := Aside0.mk (Kd.R_below HR5.out hb); have HQ3 := Aside0.mk (below_step HQ5.out hb); have BK3 := Aside0.mk (blk_below BK5.out hb); have HG3 := Aside0.mk hbox; have HGW := Aside0.mk (show w.heap.size ≤ g from (by have := below_size HQ5.out; omega)); have HNG := Aside0.mk (show g2 ≠ g from (by have := blk_lt BK5.out; omega)); have hcz0 : w3.cell? ⟨g, 0, none⟩ = some (.int .i64 0) := (blk_cell hbox 0).trans rfl; have hcz1 : w3.cell? ⟨g, 1, none⟩ = some (.slice none 0 0) := (blk_cell hbox 1).trans rfl; have hcz2 : w3.cell? ⟨g, 2, none⟩ = some (.slice none 0 0) := (blk_cell hbox 2).trans rfl; have hfz0 := blk_frozen hbox 0; have hfz1 := blk_frozen hbox 1; have hfz2 := blk_frozen hbox 2; clear hg_ hbox hb HS5 HR5 HQ5 BK5))
 have HI6 := Aside0.mk (show IsPv w (((w3.setCell ⟨g, 0, none⟩ (.int .i64 0)).setCell ⟨g, 1, none⟩ (.slice A4 0 c4)).setCell ⟨g, 2, none⟩ (.slice A5 0 c5)) g (.slice A4 0 c4) (.slice A5 0 c5) [] [] from
  ⟨(blk_put (blk_put (blk_put HG3.out 0 _ rfl) 1 _ rfl) 2 _ rfl), Kd.S_mono (Kd.S_far (p := ⟨g, 2, none⟩) (Kd.S_far (p := ⟨g, 1, none⟩) (Kd.S_far (p := ⟨g, 0, none⟩) (Kd.S_types HS3.out HG3.out (by decide)) (fun _ hk => hk.2) _) (fun _ hk => hk.2) _) (fun _ hk => hk.2) _) (fun _ hk => hk.1), Kd.R_mono (Kd.R_far (p := ⟨g, 2, none⟩) (Kd.R_far (p := ⟨g, 1, none⟩) (Kd.R_far (p := ⟨g, 0, none⟩) (Kd.R_types HR3.out HG3.out (by decide)) (fun _ hk => hk.2) _) (fun _ hk => hk.2) _) (fun _ hk => hk.2) _) (fun _ _ => trivial), (below_set (below_set (below_set HQ3.out HGW.out) HGW.out) HGW.out), HGW.out⟩)
 have BK6 := Aside0.mk (blk_far (p := ⟨g, 2, none⟩) (blk_far (p := ⟨g, 1, none⟩) (blk_far (p := ⟨g, 0, none⟩) BK3.out HNG.out (.int .i64 0)) HNG.out (.slice A4 0 c4)) HNG.out (.slice A5 0 c5))
 go_loopg [9] d (fun kq v9 w' => ∃ (i : Nat) (vL : Value), v9 = .int .i64 (i : Int) ∧ Aside0 (i + kq = d) ∧ Aside0 (IsPv w w' g vL (.slice A5 0 c5) (List.replicate i []) []) ∧ Aside0 (w'.heap[g2]? = some (.cells #[.int .i64 0, .slice none 0 0, .slice none 0 0] 31 (0, 0))))
 case atStart => exact ⟨0, _, (by first | rfl | (simp; done)), ⟨by omega⟩, HI6, BK6⟩
 case round =>
  clear HI6 BK6 HS3 BK3 HQ3 HG3 HR3
  (try clear hcz0 hcz1 hcz2 hfz0 hfz1 hfz2)
  obtain ⟨i, vL, rfl, HK, HI8, BK8⟩ := hrel
  obtain ⟨Li, hLi⟩ : ∃ Li : List (List Int), Li = List.replicate i [] := ⟨_, rfl⟩
  rw [← hLi] at HI8
  have HLi := Aside0.mk (show Li.length = i by rw [hLi, List.length_replicate])
  obtain ⟨AL, cL, rfl⟩ := Kd.S_slice HI8.out.2.1
  have hcg8 : wr.cell? ⟨g, 1, none⟩ = some (.slice AL Li.length cL) := (blk_cell HI8.out.1 1).trans rfl
  cases gk with
  | zero =>
   have HIL : Aside0 (IsPv w wr g (.slice AL Li.length cL) (.slice A5 0 c5) L0 []) := (by rw [HL0.out, show d = i by have := HK.out; omega, ← hLi]; exact HI8)
   clear hLi
   have b1 : decide ((i : Int) < (d : Int)) = false := decide_eq_false (by have := HK.out; omega)
   have b2 : decide (i < d) = false := decide_eq_false (by have := HK.out; omega)
   have hcg0 : wr.cell? ⟨g, 0, none⟩ = some (.int .i64 0) := (blk_cell HI8.out.1 0).trans rfl
   have hcg2 : wr.cell? ⟨g, 2, none⟩ = some (.slice A5 0 c5) := (blk_cell HI8.out.1 2).trans rfl
   have hc20 : wr.cell? ⟨g2, 0, none⟩ = some (.int .i64 0) := (blk_cell BK8.out 0).trans rfl
   have hc21 : wr.cell? ⟨g2, 1, none⟩ = some (.slice none 0 0) := (blk_cell BK8.out 1).trans rfl
   have hc22 : wr.cell? ⟨g2, 2, none⟩ = some (.slice none 0 0) := (blk_cell BK8.out 2).trans rfl
   have hf20 := blk_frozen BK8.out 0
   have hf21 := blk_frozen BK8.out 1
   have hf22 := blk_frozen BK8.out 2
   go_wp2
   refine bodyPost_ret (results_cell_row rfl _ _ g2 31 #[.int .i64 0, .slice AL Li.length cL, .slice A5 0 c5] (0, 0) _ rfl (blk_put (blk_put (blk_put BK8.out 0 _ rfl) 1 _ rfl) 2 _ rfl) Tryz.underlying31 rfl (by kernel_rfl)) rfl ?_
   exact ⟨_, _, rfl, Kd.S_mono (Kd.S_far (p := ⟨g2, 2, none⟩) (Kd.S_far (p := ⟨g2, 1, none⟩) (Kd.S_far (p := ⟨g2, 0, none⟩) (Kd.S_types HIL.out.2.1 BK8.out (by decide)) (fun _ hk => hk.2) _) (fun _ hk => hk.2) _) (fun _ hk => hk.2) _) (fun _ hk => hk.1), Kd.R_mono (Kd.R_far (p := ⟨g2, 2, none⟩) (Kd.R_far (p := ⟨g2, 1, none⟩) (Kd.R_far (p := ⟨g2, 0, none⟩) (Kd.R_types HIL.out.2.2.1 BK8.out (by decide)) (fun _ hk => hk.2) _) (fun _ hk => hk.2) _) (fun _ hk => hk.2) _) (fun _ _ => trivial), (below_set (below_set (below_set HIL.out.2.2.2.1 HW2.out) HW2.out) HW2.out)⟩
  | succ k1 =>
   obtain ⟨L1, hL1⟩ : ∃ L1 : List (List Int), L1 = Li ++ [[]] := ⟨_, rfl⟩
   have HL1 := Aside0.mk hL1
   have HR1 := Aside0.mk (show L1 = List.replicate (i + 1) [] by rw [hL1, hLi, List.replicate_succ'])
   clear hL1 hLi
   have b1 : decide ((i : Int) < (d : Int)) = true := decide_eq_true (by have := HK.out; omega)
   have b2 : decide (i < d) = true := decide_eq_true (by have := HK.out; omega)
   try go_wp2_with (first | ((with_reducible refine gate_dst (N := 14) rfl ?_); refine Kd.R_lit (Kd.int .i64) _ 3 ?hg (N := 14) ?hd (xs := ([] : List Int)) (inner := []) (ok := fun _ => True) (okp := fun _ => True) ?hr ?hp (fun _ hk => hk) trivial (Below.refl _ _) (Nat.le_refl _) (by simp) ?_; (case hd => rfl); (case hg => rfl); (case hr => first | (go_simp; done) | (go_simp; rfl)); (case hp => exact (Reps.none _ _)); intro v30 w30 hR hb hg_ hnew_; have HI30 := Aside0.mk (HI8.out.below hb); have HB30 := Aside0.mk hb; have HSZ := Aside0.mk (below_size HI8.out.2.2.2.1); have HS8 := Aside0.mk HI8.out.2.1; have hcg0 : w30.cell? ⟨g, 1, none⟩ = some (.slice AL Li.length cL) := (blk_cell HI30.out.1 1).trans rfl; have BK30 := Aside0.mk (blk_below BK8.out hb); have HR30 := Aside0.mk hR; have HZ30 := Aside0.mk (show ∀ k_, v30.ownBlock = some k_ → wr.heap.size ≤ k_ from Kd.R_base hR); have HL30 := Aside0.mk (Kd.S_lt HI8.out.2.1); have HD30 := Aside0.mk (Kd.R_lt HI8.out.2.2.1); clear hR hb hg_ hnew_ HI8 BK8 hcg8; obtain ⟨A30, c30, e30⟩ := Kd.R_slice HR30.out; subst e30) | ((with_reducible refine gate_builtin (b := .append) (xs := #[.tmp 13, .tmp 15]) rfl ?_); at_builtin; refine Kd.S_append (Kd.slice 3 (Kd.int .i64)) (w0 := w) w.heap.size rfl (.tmp 13) (.tmp 15) 26 27 (.slice none 0 0) 24 rfl Tryz.underlying26 info22 rfl (by decide) (by omega) (.slice AL Li.length cL) Li [] [.slice A30 0 c30] (fun k_ => some k_ ≠ (.slice A5 0 c5 : Value).ownBlock) (fun k_ => some k_ = (.slice A30 0 c30 : Value).ownBlock) rfl rfl ?aP ?aK ?aF ?aO HI30.out.2.2.2.1 (below_size HI30.out.2.2.2.1) (by have := HK.out; have := HLi.out; omega) ?_; (case aP => exact ⟨_, rfl, Kd.R_lower (Kd.R_mono (Kd.R_tight rfl HR30.out) (fun _ h_ => h_)) HSZ.out⟩); (case aK => exact fun k_ hk_ => ⟨fun e_ => Nat.lt_irrefl _ (Nat.lt_of_lt_of_le (HD30.out k_ e_.symm) (HZ30.out k_ hk_.symm)), fun e_ => Nat.lt_irrefl _ (Nat.lt_of_lt_of_le (HL30.out k_ e_.symm) (HZ30.out k_ hk_.symm))⟩); (case aF => exact fun k_ hk_ => fun e_ => Nat.lt_irrefl _ (Nat.lt_of_lt_of_le (Kd.R_lt HI30.out.2.2.1 k_ e_.symm) hk_)); (case aO => exact Kd.S_mono (Kd.S_elder' HS8.out (Kd.R_base HR30.out) HB30.out) (fun k_ hk_ => ⟨hk_.1, fun e_ => hk_.2 e_⟩)); intro v32 w32 ho hb hg hat; rw [← HL1.out] at ho; have hG32 := blk_grown HI30.out.1 hg (Kd.S_ne HI30.out.2.1 HI30.out.1 (by decide)); have BK32 := Aside0.mk (blk_grown BK30.out hg (Kd.S_ne HI30.out.2.1 BK30.out (by decide))); have hD32 := Kd.R_grown2 HI30.out.2.2.1 rfl hg (fun k_ hk_ => fun e_ => (HI30.out.2.1).choose_spec.1 k_ hk_ e_); have hQ32 := hb; have HS32 := Aside0.mk ho; have HG32 := Aside0.mk hG32; have HD32 := Aside0.mk hD32; have HQ32 := Aside0.mk hQ32; have hcg0' : w32.cell? ⟨g, 1, none⟩ = some (.slice AL Li.length cL) := (blk_cell hG32 1).trans rfl; have hfg0 := blk_frozen hG32 1; clear hG32 hD32 hQ32 ho hb hg hat HI30 BK30 hcg0; obtain ⟨A32, c32, e32⟩ := Kd.S_slice HS32.out; subst e32))
   have HI33 := Aside0.mk (show IsPv w (w32.setCell ⟨g, 1, none⟩ (.slice A32 L1.length c32)) g (.slice A32 L1.length c32) (.slice A5 0 c5) L1 [] from
    ⟨blk_put HG32.out 1 _ rfl, Kd.S_mono (Kd.S_far (p := ⟨g, 1, none⟩) (Kd.S_types HS32.out HG32.out (by decide)) (fun _ hk => hk.2) _) (fun _ hk => hk.1), Kd.R_mono (Kd.R_far (p := ⟨g, 1, none⟩) (Kd.R_types HD32.out HG32.out (by decide)) (fun _ hk => hk.2) _) (fun _ _ => trivial), below_set HQ32.out HGW.out, HGW.out⟩)
   go_roundg k1
   case measure => omega
   case rel => exact ⟨i + 1, _, (by rw [show wrap64 ((i : Int) + 1) = ((i + 1 : Nat) : Int) from (by have := HK.out; unfold wrap64; omega)]), ⟨by have := HK.out; omega⟩, (by rw [← HR1.out]; exact HI33), ⟨blk_far (p := ⟨g, 1, none⟩) BK32.out HNG.out _⟩⟩
set_option maxHeartbeats 8000000 in
set_option maxRecDepth 100000 in
theorem spec_l8Pack.walk (k : Nat) (A0 : Option Addr) (c0 : Nat) (l : List S86) (d : Nat) (L0 : List (List Int)) (hL0 : L0 = List.replicate d []) (r0 : Int) (r1 : List (List Int)) (r2 : List Int) (w : World) (hr0 : Kd.C k86 w A0 l.length l) (hc0 : l.length ≤ c0) (hd : d ≤ 1000) (h : spec_l8Pack.l0 k l L0 [] (l.length : Int) 0 = some (r0, r1, r2)) :
 Calls Tryz.prog 139 #[.slice A0 l.length c0, .int .i64 (d : Int)] w fun e w' => ∃ v0_ v1_ : Value, e = .returned (.agg #[.int .i64 r0, v0_, v1_]) ∧ Kd.S (Kd.slice 3 (Kd.int .i64)) 27 w' w.heap.size (fun k_ => some k_ ≠ (v1_ : Value).ownBlock) v0_ r1 ∧ Kd.R (Kd.int .i64) 3 w' w.heap.size (fun _ => True) v1_ r2 ∧ Below w.heap.size w w' := by
 have huN := Tryz.underlying86
 have huV := Tryz.underlying31
 have huL := Tryz.underlying29
 have huR := Tryz.underlying26
 have HR := Aside0.mk hr0
 clear hr0
 have HL0 := Aside0.mk hL0
 clear hL0
 have H' := Aside0.mk h
 clear h
 go_enter Tryz.func139, Tryz.ntmps139
 try go_wp2_with (first | ((with_reducible refine gate_dst (N := 4) rfl ?_); refine box_event ?hg (N := 4) ?hd (cs := #[.int .i64 0, .slice none 0 0, .slice none 0 0]) (t := 31) ?hr ?_; (case hd => rfl); (case hg => rfl); (case hr => first | (go_simp; done) | (go_simp; rfl)); intro g4 hg_ w4 hbox hb; have HW4 := Aside0.mk (show w.heap.size ≤ g4 from (by omega)); have HB4 := Aside0.mk (show Below w.heap.size w w4 from hb); have BK4 := Aside0.mk hbox; clear hg_ hbox hb) | ((with_reducible refine gate_callee (f := 159) rfl ?_); refine goesL_ (some 9) rfl rfl Tryz.func159 (by kernel_rfl) rfl #[.int .i64 (d : Int)] rfl (by (try simp only [List.map_toArray, List.map_cons, List.map_nil]); first | done | rfl) ?_; (with_reducible refine (l8Empty.calls d hd L0 HL0.out _).mono ?_); rintro e w9 ⟨vL, vD, rfl, hS, hR, hb⟩; refine ⟨_, rfl, ?_⟩; have HS9 := Aside0.mk (Kd.S_lower hS (below_size HB4.out)); have HR9 := Aside0.mk (Kd.R_lower hR (below_size HB4.out)); have HB9 := Aside0.mk (below_step HB4.out hb); have BK9 := Aside0.mk (blk_below BK4.out hb); clear hS hR hb HB4 BK4; obtain ⟨AL, cL, eL⟩ := Kd.S_slice HS9.out; subst eL; obtain ⟨AD, cD, eD⟩ := Kd.R_slice HR9.out; subst eD) | ((with_reducible refine gate_dst (N := 5) rfl ?_); refine box_event ?hg (N := 5) ?hd (cs := #[.int .i64 0, .slice none 0 0, .slice none 0 0]) (t := 31) ?hr ?_; (case hd => rfl); (case hg => rfl); (case hr => first | (go_simp; done) | (go_simp; rfl)); intro g hg_ w5 hbox hb; have HS5 := Aside0.mk (Kd.S_below HS9.out hb); have HR5 := Aside0.mk (Kd.R_below HR9.out hb); have BK5 := Aside0.mk (blk_below BK9.out hb); have HB5 := Aside0.mk (below_step HB9.out hb); have HG5 := Aside0.mk hbox; have HGW := Aside0.mk (show w.heap.size ≤ g from (by have := below_size HB9.out; omega)); have HN5 := Aside0.mk (show g4 ≠ g from (by have := blk_lt BK9.out; omega)); have hcz0 : w5.cell? ⟨g, 0, none⟩ = some (.int .i64 0) := (blk_cell hbox 0).trans rfl; have hcz1 : w5.cell? ⟨g, 1, none⟩ = some (.slice none 0 0) := (blk_cell hbox 1).trans rfl; have hcz2 : w5.cell? ⟨g, 2, none⟩ = some (.slice none 0 0) := (blk_cell hbox 2).trans rfl; have hfz0 := blk_frozen hbox 0; have hfz1 := blk_frozen hbox 1; have hfz2 := blk_frozen hbox 2; clear hg_ hbox hb HS9 HR9 BK9 HB9))
 have HI6 := Aside0.mk (show IsPv w (((w5.setCell ⟨g, 0, none⟩ (.int .i64 0)).setCell ⟨g, 1, none⟩ (.slice AL L0.length cL)).setCell ⟨g, 2, none⟩ (.slice AD 0 cD)) g (.slice AL L0.length cL) (.slice AD 0 cD) L0 [] from
  ⟨(blk_put (blk_put (blk_put HG5.out 0 _ rfl) 1 _ rfl) 2 _ rfl), Kd.S_mono (Kd.S_far (p := ⟨g, 2, none⟩) (Kd.S_far (p := ⟨g, 1, none⟩) (Kd.S_far (p := ⟨g, 0, none⟩) (Kd.S_types HS5.out HG5.out (by decide)) (fun _ hk => hk.2) _) (fun _ hk => hk.2) _) (fun _ hk => hk.2) _) (fun _ hk => hk.1), Kd.R_mono (Kd.R_far (p := ⟨g, 2, none⟩) (Kd.R_far (p := ⟨g, 1, none⟩) (Kd.R_far (p := ⟨g, 0, none⟩) (Kd.R_types HR5.out HG5.out (by decide)) (fun _ hk => hk.2) _) (fun _ hk => hk.2) _) (fun _ hk => hk.2) _) (fun _ _ => trivial), (below_set (below_set (below_set HB5.out HGW.out) HGW.out) HGW.out), HGW.out⟩)
 have BK6 := Aside0.mk (blk_far (p := ⟨g, 2, none⟩) (blk_far (p := ⟨g, 1, none⟩) (blk_far (p := ⟨g, 0, none⟩) BK5.out HN5.out (.int .i64 0)) HN5.out (.slice AL L0.length cL)) HN5.out (.slice AD 0 cD))
 go_loopg [12] k (fun kq v12 w' => ∃ (L2 : List (List Int)) (D2 : List Int) (vD2 : Value) (i_ : Int), v12 = .int .i64 i_ ∧ Aside0 (spec_l8Pack.l0 kq l L2 D2 (l.length : Int) i_ = some (r0, r1, r2)) ∧ Aside0 (kq ≤ k) ∧ Aside0 (IsPv w w' g (.slice AL L0.length cL) vD2 L2 D2) ∧ Aside0 (w'.heap[g4]? = some (.cells #[.int .i64 0, .slice none 0 0, .slice none 0 0] 31 (0, 0))))
 case atStart => exact ⟨L0, [], _, 0, (by first | rfl | (simp; done)), H', ⟨Nat.le_refl _⟩, HI6, BK6⟩
 case round =>
  clear H' HI6 BK6 HS5 HR5 BK5 HB5 HG5
  (try clear hcz0 hcz1 hcz2 hfz0 hfz1 hfz2)
  obtain ⟨L2, D2, vD2, i_, rfl, HA, HK1, HI8, HA8⟩ := hrel
  cases gk with
  | zero => exact absurd HA.out (by simp [spec_l8Pack.l0])
  | succ k1 =>
   have H := HA.out
   clear HA
   simp only [spec_l8Pack.l0] at H
   by_cases c1_ : i_ < (l.length : Int)
   · rw [if_pos c1_] at H
     have b1 : decide (i_ < (l.length : Int)) = true := decide_eq_true c1_
     by_cases c2_ : 0 ≤ i_
     · rw [if_pos c2_, if_pos c1_] at H
       have b2 : decide (0 ≤ i_) = true := decide_eq_true c2_
       replace H := Option.bind_eq_some_iff.mp H
       obtain ⟨⟨L3, D3⟩, hA, H⟩ := H
       have A15 := Aside0.mk hA
       have H' := Aside0.mk H
       clear hA H
       obtain ⟨ad, A3, c3, e3, hx0, hx1, hl3, hi3⟩ := at_T86 HR.out i_ c2_ c1_
       cases e3
       replace hx0 := (HI8.out.2.2.2.1.cell (World.block_lt_of_cell? w _ hx0)).trans hx0
       replace hx1 := (HI8.out.2.2.2.1.cell (World.block_lt_of_cell? w _ hx1)).trans hx1
       have HR3 := Aside0.mk hi3
       have HC3 := Aside0.mk hl3
       clear hi3 hl3
       replace c2_ := eq_true c2_
       replace c1_ := eq_true c1_
       go_wp2_with (first | ((with_reducible refine gate_dst (N := 7) rfl ?_); refine box_event ?hg (N := 7) ?hd (cs := #[.int .i64 0, .slice none 0 0]) (t := 86) ?hr ?_; (case hd => rfl); (case hg => rfl); (case hr => first | (go_simp; done) | (go_simp; rfl)); intro gb hgb w17 hbox hb; have HI17 := Aside0.mk (HI8.out.below hb); have HA17 := Aside0.mk (blk_below HA8.out hb); have HGB := Aside0.mk (show w.heap.size ≤ gb from (by have := below_size HI8.out.2.2.2.1; omega)); have HNA := Aside0.mk (show g4 ≠ gb from (by have := blk_lt HA8.out; omega)); clear hb hgb HI8 HA8; have hcz0 : w17.cell? ⟨gb, 0, none⟩ = some (.int .i64 0) := (blk_cell hbox 0).trans rfl; have hcz1 : w17.cell? ⟨gb, 1, none⟩ = some (.slice none 0 0) := (blk_cell hbox 1).trans rfl; have hfz0 := blk_frozen hbox 0; have hfz1 := blk_frozen hbox 1; have HBK := Aside0.mk hbox; clear hbox) | ((with_reducible refine gate_callee (f := 160) rfl ?_); refine goesL_ (some 18) rfl rfl Tryz.func160 (by kernel_rfl) rfl #[.pointer (some ⟨g, 1, none⟩), .agg #[.int .i64 ((rd_T86 l i_).f0), .slice A3 ((rd_T86 l i_).f1).length c3], .int .i64 0] rfl (by (try simp only [List.map_toArray, List.map_cons, List.map_nil]); first | done | rfl) ?_; (with_reducible refine (pv.calls w g k1 L2 D2 ((rd_T86 l i_).f0) A3 c3 ((rd_T86 l i_).f1) 0 (.slice AL L0.length cL) vD2 _ L3 D3 HR3.out HC3.out ?side1 A15.out).mono ?_); (case side1 => exact (HI17.out.far HBK.out HGB.out 0 _).far (blk_put HBK.out 0 _ rfl) HGB.out 1 _); rintro e w20 ⟨rfl, hF, vD3, hI⟩; refine ⟨_, rfl, ?_⟩; have HI9 := Aside0.mk hI; have HA9 := Aside0.mk (hF g4 _ 31 (.inr rfl) HN5.out (blk_far (p := ⟨gb, 1, none⟩) (blk_far (p := ⟨gb, 0, none⟩) HA17.out HNA.out _) HNA.out _)); clear HI17 HA17 HBK hF hI))
       go_roundg k1
       case measure => have := HK1.out; omega
       case rel => exact ⟨L3, D3, vD3, wrap64 (i_ + 1), (by first | rfl | (simp; done)), H', ⟨by have := HK1.out; omega⟩, HI9, HA9⟩
     · rw [if_neg c2_] at H
       exact absurd H (by simp)
   · rw [if_neg c1_] at H
     have b1 : decide (i_ < (l.length : Int)) = false := decide_eq_false c1_
     clear c1_
     simp only [Option.some.injEq, Prod.mk.injEq] at H
     obtain ⟨rfl, rfl, rfl⟩ := H
     obtain ⟨AD2, cD2, rfl⟩ := Kd.R_slice HI8.out.2.2.1
     obtain ⟨AL2, cL2, eL⟩ := Kd.S_slice HI8.out.2.1
     have hcg0 := (blk_cell HI8.out.1 0).trans rfl
     have hcg1 := (blk_cell HI8.out.1 1).trans rfl
     have hcg2 := (blk_cell HI8.out.1 2).trans rfl
     have hfg0 := blk_frozen HI8.out.1 0
     have hn5 := HN5.out
     have hn5' : g ≠ g4 := fun e_ => HN5.out e_.symm
     have hc40 : wr.cell? ⟨g4, 0, none⟩ = some (.int .i64 0) := (blk_cell HA8.out 0).trans rfl
     have hc41 : wr.cell? ⟨g4, 1, none⟩ = some (.slice none 0 0) := (blk_cell HA8.out 1).trans rfl
     have hc42 : wr.cell? ⟨g4, 2, none⟩ = some (.slice none 0 0) := (blk_cell HA8.out 2).trans rfl
     have hf40 := blk_frozen HA8.out 0
     have hf41 := blk_frozen HA8.out 1
     have hf42 := blk_frozen HA8.out 2
     go_wp2
     have hG9 := blk_put HI8.out.1 0 (.int .i64 (l.length : Int)) rfl
     have hS8 := HI8.out.2.1
     rw [eL] at hS8
     have hS9 := Kd.S_far (p := ⟨g, 0, none⟩) (Kd.S_types hS8 HI8.out.1 (by decide)) (fun _ hk => hk.2) (.int .i64 (l.length : Int))
     have hR9 := Kd.R_far (p := ⟨g, 0, none⟩) (Kd.R_types HI8.out.2.2.1 HI8.out.1 (by decide)) (fun _ hk => hk.2) (.int .i64 (l.length : Int))
     have hA9 := blk_far (p := ⟨g, 0, none⟩) HA8.out HN5.out (.int .i64 (l.length : Int))
     refine bodyPost_ret (results_cell_row rfl _ _ g4 31 #[.int .i64 (l.length : Int), .slice AL2 L2.length cL2, .slice AD2 D2.length cD2] (0, 0) _ rfl (blk_put (blk_put (blk_put hA9 0 _ rfl) 1 _ rfl) 2 _ rfl) Tryz.underlying31 rfl (by kernel_rfl)) rfl ?_
     exact ⟨_, _, rfl, Kd.S_mono (Kd.S_far (p := ⟨g4, 2, none⟩) (Kd.S_far (p := ⟨g4, 1, none⟩) (Kd.S_far (p := ⟨g4, 0, none⟩) (Kd.S_types hS9 hA9 (by decide)) (fun _ hk => hk.2) _) (fun _ hk => hk.2) _) (fun _ hk => hk.2) _) (fun _ hk => hk.1.1), Kd.R_mono (Kd.R_far (p := ⟨g4, 2, none⟩) (Kd.R_far (p := ⟨g4, 1, none⟩) (Kd.R_far (p := ⟨g4, 0, none⟩) (Kd.R_types hR9 hA9 (by decide)) (fun _ hk => hk.2) _) (fun _ hk => hk.2) _) (fun _ hk => hk.2) _) (fun _ _ => trivial), (below_set (below_set (below_set (below_set HI8.out.2.2.2.1 HGW.out) HW4.out) HW4.out) HW4.out)⟩
theorem spec_l8Pack.calls (k : Nat) (A0 : Option Addr) (c0 : Nat) (l : List S86) (a1 : Int) (r0 : Int) (r1 : List (List Int)) (r2 : List Int) (w : World) (hr0 : Kd.C k86 w A0 l.length l) (hc0 : l.length ≤ c0) (h : spec_l8Pack.f k l a1 = some (r0, r1, r2)) :
 Calls Tryz.prog 139 #[.slice A0 l.length c0, .int .i64 a1] w fun e w' => ∃ v0_ v1_ : Value, e = .returned (.agg #[.int .i64 r0, v0_, v1_]) ∧ Kd.S (Kd.slice 3 (Kd.int .i64)) 27 w' w.heap.size (fun k_ => some k_ ≠ (v1_ : Value).ownBlock) v0_ r1 ∧ Kd.R (Kd.int .i64) 3 w' w.heap.size (fun _ => True) v1_ r2 ∧ Below w.heap.size w w' := by
 unfold spec_l8Pack.f at h
 by_cases h0 : 0 ≤ a1
 · rw [if_pos h0] at h
   by_cases h1 : a1 ≤ 1000
   · rw [if_pos h1] at h
     obtain ⟨d, rfl⟩ : ∃ d : Nat, a1 = (d : Int) := ⟨a1.toNat, by omega⟩
     rw [Int.toNat_natCast] at h
     exact spec_l8Pack.walk k A0 c0 l d _ rfl r0 r1 r2 w hr0 hc0 (by omega) h
   · rw [if_neg h1] at h; cases h
 · rw [if_neg h0] at h; cases h
theorem spec_l8Pack.ctr (k : Nat) (l : List S86) (a1 : Int) (r0 : Int) (r1 : List (List Int)) (r2 : List Int) (h : spec_l8Pack.f k l a1 = some (r0, r1, r2)) : Ctr TE 139 none [.sl 2 (r86 l), .v (.int .i64 a1)] [.ro (.ag [.v (.int .i64 r0), .sl 1 (rX (cL (cI .i64) 1) r1), .sl 1 (rX (cI .i64) r2)])] [] := by
 refine ctr_made (callable_of Tryz.func139 (by kernel_rfl) (by kernel_rfl)) (fun w ro g vals hL hp => ?_)
 obtain ⟨u, q, rfl, hu, u2, q2, rfl, hu2, rfl⟩ := hp
 obtain rfl : u2 = .int .i64 a1 := (show u2 = .int .i64 a1 ∧ _ from hu2).1
 obtain ⟨A0, c0, rfl, hc0, hx⟩ := r86_of l _ hu
 refine (spec_l8Pack.calls k A0 c0 l a1 r0 r1 r2 w hx hc0 h).mono ?_
 rintro e w' ⟨v0, v1, rfl, h0, h1, hb⟩
 exact ⟨[_], rfl, hb, fun ro' _ hr => ⟨_, [], rfl, ⟨[.int .i64 r0, v0, v1], rfl, _, [v0, v1], rfl, ⟨rfl, rfl⟩, v0, [v1], rfl, rep_ints (Kd.S_R h0) hr, v1, [], rfl, rep_int h1 hr, rfl⟩, rfl⟩⟩
end Go.Proofs.YtjkngiciigdheaaGreatDoor.K
