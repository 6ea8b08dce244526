/- A part of the claim. -/
import Derived.Test.YtidpankoobdfjaaGreatDoorLFSgp
import Derived.Test.YtidpankoobdfjaaGreatDoorLFSgc
import Derived.Test.YtidpankoobdfjaaGreatDoorLFW1
import Derived.Test.YtidpankoobdfjaaGreatDoorLFx2
namespace Go.Proofs.YtidpankoobdfjaaGreatDoor.L
open Go.RowKit Go.Proofs.YtidpankoobdfjaaGreatDoorW.St Go.Proofs.YtidpankoobdfjaaGreatDoorW.PrintWords Go.Proofs.YtidpankoobdfjaaGreatDoorW.PrintLast Go.Proofs.YtidpankoobdfjaaGreatDoorW.PrintMore
attribute [local go_sem] max2_int min2_int max_two min_two max_three min_three max_four min_four
set_option linter.unusedVariables false
set_option linter.unusedSimpArgs false
def spec_l2RawLayOut.f (k : Nat) (a0 : ByteArray) (a1 : Int) : Option (List (List Int) × List Int × Bool) := (spec_l1Read.f k a0 a1).bind fun q => if q.2.2 = true then (if 0 ≤ a1 then (if a1 ≤ 1000 then ((put.f k (List.replicate a1.toNat []) [] q.1 q.2.1 0).bind fun z => some (z.1, z.2, true)) else none) else none) else some ([], [], false)
theorem S_empty (w : World) (base : Nat) (ok : Nat → Prop) : Kd.S (Kd.slice 3 (Kd.int .i64)) 27 w base ok (.slice none 0 0) [] := ⟨fun _ => 0, Kd.R_nil _ _ _ _ _⟩
theorem spec_l1Read.calls (k : Nat) (a0 : ByteArray) (a1 : Int) (r1 : Int) (r2 : List S79) (r3 : Bool) (w : World) (hL : Sg.LaidW w) (h : spec_l1Read.f k a0 a1 = some (r1, r2, r3)) :
   Calls Tryz.prog 60 #[.string a0, .int .i64 a1] w fun e w' => ∃ v1_ : Value, e = .returned (.tuple #[.agg #[.int .i64 r1, v1_], .bool r3]) ∧ (∃ A c, v1_ = .slice A r2.length c ∧ r2.length ≤ c ∧ Kd.C k79 w' A r2.length r2) ∧ Below w.heap.size w w' :=
 ((spec_l1Read.ctr k a0 a1 r1 r2 r3 h).2 w (fun b => b < w.heap.size) 0 [.string a0, .int .i64 a1] hL (fun _ hb => hb) (fun T cs e => by cases e) ⟨_, _, rfl, ⟨rfl, rfl⟩, _, _, rfl, ⟨rfl, rfl⟩, rfl⟩).mono fun e w' ⟨vs, ro', he, hs⟩ => by
   obtain ⟨v, r, rfl, ⟨us, rfl, u1, q1, rfl, hu1, u2, q2, rfl, hu2, hq2⟩, v2, r', rfl, hv2, hr⟩ := hs.res
   obtain rfl : r' = [] := hr
   obtain rfl : q2 = [] := hq2
   obtain rfl : u1 = .int .i64 r1 := (show u1 = .int .i64 r1 ∧ _ from hu1).1
   obtain rfl : v2 = .bool r3 := (show v2 = .bool r3 ∧ _ from hv2).1
   exact ⟨u2, he, r79_of r2 u2 hu2, hs.os, hs.tape, hs.output, hs.size, fun k hk => hs.same k hk (fun e => absurd rfl e)⟩
set_option maxHeartbeats 8000000 in
set_option maxRecDepth 100000 in
theorem l2lay.bad (k : Nat) (a0 : ByteArray) (a1 : Int) (t0 : Int) (t1 : List S79) (w : World) (hL : Sg.LaidW w) (h : spec_l1Read.f k a0 a1 = some (t0, t1, false)) :
   Calls Tryz.prog 142 #[.string a0, .int .i64 a1] w fun e w' => ∃ v0_ v1_ : Value, e = .returned (.tuple #[.agg #[v0_, v1_], .bool false]) ∧ Kd.S (Kd.slice 3 (Kd.int .i64)) 27 w' w.heap.size (fun k_ => some k_ ≠ (v1_ : Value).ownBlock) v0_ [] ∧ Kd.R (Kd.int .i64) 3 w' w.heap.size (fun _ => True) v1_ [] ∧ Below w.heap.size w w' := by
 have hu32 := Tryz.underlying29
 have hu79 := Tryz.underlying79
 have A3 := Aside0.mk h
 have ALW := Aside0.mk hL
 clear hL
 clear h
 go_enter Tryz.func142, Tryz.ntmps142
 try go_wp2_with (first | ((with_reducible refine gate_dst (N := 4) rfl ?_); refine box_event ?hg (N := 4) ?hd (cs := #[.slice none 0 0, .slice none 0 0]) (t := 29) ?hr ?_; (case hd => rfl); (case hg => rfl); (case hr => first | (go_simp; done) | (go_simp; rfl)); intro g4 hg4 w4 hbox4 hb4; have HW4 := Aside0.mk (show w.heap.size ≤ g4 from (by omega)); have HB4 := Aside0.mk (show Below w.heap.size w w4 from hb4); have BK4 := Aside0.mk hbox4; clear hg4 hbox4 hb4) | ((with_reducible refine gate_callee (f := 60) rfl ?_); refine goesL_ (some 12) rfl rfl Tryz.func60 (by kernel_rfl) rfl #[.string a0, .int .i64 a1] rfl (by (try simp only [List.map_toArray, List.map_cons, List.map_nil]); first | done | rfl) ?_; (with_reducible refine (spec_l1Read.calls k a0 a1 t0 t1 false _ (laid_b ALW.out HB4.out) A3.out).mono ?_); rintro e w5 ⟨v5, rfl, ho, hb⟩; refine ⟨_, rfl, ?_⟩; have HB5 := Aside0.mk (below_step HB4.out hb); have BK5 := Aside0.mk (blk_below BK4.out hb); obtain ⟨A5, c5, e5, _, _⟩ := ho; subst e5; clear HB4 BK4 hb) | ((with_reducible refine gate_dst (N := 6) rfl ?_); refine box_event ?hg (N := 6) ?hd (cs := #[.int .i64 0, .slice none 0 0]) (t := 79) ?hr ?_; (case hd => rfl); (case hg => rfl); (case hr => first | (go_simp; done) | (go_simp; rfl)); intro g6 hg6 w6 hbox6 hb6; have HB6 := Aside0.mk (below_step HB5.out hb6); have BK6 := Aside0.mk (blk_below BK5.out hb6); have HW6 := Aside0.mk (show w.heap.size ≤ g6 from (by have := below_size HB5.out; omega)); have HN6 := Aside0.mk (show g4 ≠ g6 from (by have := blk_lt BK5.out; omega)); have HN6' := Aside0.mk (show g6 ≠ g4 from (by have := blk_lt BK5.out; omega)); have hn6 := HN6.out; have hn6' := HN6'.out; have hcz0 : w6.cell? ⟨g6, 0, none⟩ = some (.int .i64 0) := (blk_cell hbox6 0).trans rfl; have hcz1 : w6.cell? ⟨g6, 1, none⟩ = some (.slice none 0 0) := (blk_cell hbox6 1).trans rfl; have hfz0 := blk_frozen hbox6 0; have hfz1 := blk_frozen hbox6 1; have hc40 : w6.cell? ⟨g4, 0, none⟩ = some (.slice none 0 0) := (blk_cell BK6.out 0).trans rfl; have hc41 : w6.cell? ⟨g4, 1, none⟩ = some (.slice none 0 0) := (blk_cell BK6.out 1).trans rfl; have hf40 := blk_frozen BK6.out 0; have hf41 := blk_frozen BK6.out 1; clear hg6 hbox6 hb6 HB5 BK5))
 refine bodyPost_ret (results_ct rfl _ _ g4 29 #[.slice none 0 0, .slice none 0 0] (0, 0) _ rfl (blk_put (blk_put (blk_far (p := ⟨g6, 1, none⟩) (blk_far (p := ⟨g6, 0, none⟩) BK6.out HN6.out _) HN6.out _) 0 _ rfl) 1 _ rfl) Tryz.underlying29 rfl (by kernel_rfl)) rfl ?_
 exact ⟨_, _, rfl, S_empty _ _ _, Kd.R_nil _ _ _ _ _, below_set (below_set (below_set (below_set HB6.out HW6.out) HW6.out) HW4.out) HW4.out⟩
set_option maxHeartbeats 8000000 in
set_option maxRecDepth 100000 in
theorem l2lay.good (k : Nat) (a0 : ByteArray) (d : Nat) (hd : d ≤ 1000) (t0 : Int) (t1 : List S79) (r1 : List (List Int)) (r2 : List Int) (w : World) (hL : Sg.LaidW w) (h : spec_l1Read.f k a0 (d : Int) = some (t0, t1, true)) (L0 : List (List Int)) (hL0 : L0 = List.replicate d []) (hp : put.f k L0 [] t0 t1 0 = some (r1, r2)) :
   Calls Tryz.prog 142 #[.string a0, .int .i64 (d : Int)] w fun e w' => ∃ v0_ v1_ : Value, e = .returned (.tuple #[.agg #[v0_, v1_], .bool true]) ∧ Kd.S (Kd.slice 3 (Kd.int .i64)) 27 w' w.heap.size (fun k_ => some k_ ≠ (v1_ : Value).ownBlock) v0_ r1 ∧ Kd.R (Kd.int .i64) 3 w' w.heap.size (fun _ => True) v1_ r2 ∧ Below w.heap.size w w' := by
 have hu32 := Tryz.underlying29
 have hu79 := Tryz.underlying79
 have hu30 := Tryz.underlying26
 have A3 := Aside0.mk h
 have ALW := Aside0.mk hL
 clear hL
 have HP := Aside0.mk hp
 have HL0 := Aside0.mk hL0
 clear h hp hL0
 go_enter Tryz.func142, Tryz.ntmps142
 try go_wp2_with (first | ((with_reducible refine gate_dst (N := 4) rfl ?_); refine box_event ?hg (N := 4) ?hd (cs := #[.slice none 0 0, .slice none 0 0]) (t := 29) ?hr ?_; (case hd => rfl); (case hg => rfl); (case hr => first | (go_simp; done) | (go_simp; rfl)); intro g4 hg4 w4 hbox4 hb4; have HW4 := Aside0.mk (show w.heap.size ≤ g4 from (by omega)); have HB4 := Aside0.mk (show Below w.heap.size w w4 from hb4); have BK4 := Aside0.mk hbox4; clear hg4 hbox4 hb4) | ((with_reducible refine gate_callee (f := 60) rfl ?_); refine goesL_ (some 12) rfl rfl Tryz.func60 (by kernel_rfl) rfl #[.string a0, .int .i64 (d : Int)] rfl (by (try simp only [List.map_toArray, List.map_cons, List.map_nil]); first | done | rfl) ?_; (with_reducible refine (spec_l1Read.calls k a0 (d : Int) t0 t1 true _ (laid_b ALW.out HB4.out) A3.out).mono ?_); rintro e w5 ⟨v5, rfl, ho, hb⟩; refine ⟨_, rfl, ?_⟩; have HB5 := Aside0.mk (below_step HB4.out hb); have BK5 := Aside0.mk (blk_below BK4.out hb); obtain ⟨A5, c5, e5, hc5_, hr5_⟩ := ho; subst e5; have HR5 := Aside0.mk hr5_; have HC5 := Aside0.mk hc5_; clear hc5_ hr5_ HB4 BK4 hb) | ((with_reducible refine gate_dst (N := 6) rfl ?_); refine box_event ?hg (N := 6) ?hd (cs := #[.int .i64 0, .slice none 0 0]) (t := 79) ?hr ?_; (case hd => rfl); (case hg => rfl); (case hr => first | (go_simp; done) | (go_simp; rfl)); intro g6 hg6 w6 hbox6 hb6; have HQ6 := Aside0.mk (show Below w5.heap.size w5 w6 from hb6); have BK6 := Aside0.mk (blk_below BK5.out hb6); have HW6 := Aside0.mk (show w5.heap.size ≤ g6 from (by omega)); have HN6 := Aside0.mk (show g4 ≠ g6 from (by have := blk_lt BK5.out; omega)); have BG6 := Aside0.mk hbox6; have hcz0 : w6.cell? ⟨g6, 0, none⟩ = some (.int .i64 0) := (blk_cell hbox6 0).trans rfl; have hcz1 : w6.cell? ⟨g6, 1, none⟩ = some (.slice none 0 0) := (blk_cell hbox6 1).trans rfl; have hfz0 := blk_frozen hbox6 0; have hfz1 := blk_frozen hbox6 1; clear hg6 hbox6 hb6 BK5) | ((with_reducible refine gate_dst (N := 18) rfl ?_); refine Kd.S_lit (Kd.slice 3 (Kd.int .i64)) _ 27 ?hg (N := 18) ?hd (xs := ([] : List (List Int))) (inner := []) (ok := fun _ => True) (okp := fun _ => True) ?hr ?hp (fun _ hk => hk) trivial (Below.refl _ _) (Nat.le_refl _) (by simp) ?_; (case hd => rfl); (case hg => rfl); (case hr => first | (go_simp; done) | (go_simp; rfl)); (case hp => exact (Reps.none _ _)); intro v18 w18 hS hb hg_ hnew_; have HQ18 := Aside0.mk (below_step (below_set (j := 1) (v := .slice A5 t1.length c5) (below_set (j := 0) (v := .int .i64 t0) HQ6.out HW6.out) HW6.out) hb); have BG18 := Aside0.mk (blk_below (blk_put (blk_put BG6.out 0 _ rfl) 1 _ rfl) hb); have BK18 := Aside0.mk (blk_below (blk_far (p := ⟨g6, 1, none⟩) (blk_far (p := ⟨g6, 0, none⟩) BK6.out HN6.out _) HN6.out _) hb); have HS18 := Aside0.mk (Kd.S_lower hS (below_size (below_set (j := 1) (v := .slice A5 t1.length c5) (below_set (j := 0) (v := .int .i64 t0) HQ6.out HW6.out) HW6.out))); clear hS hb hg_ hnew_ HQ6 BG6 BK6 hcz0 hcz1 hfz0 hfz1; obtain ⟨A18, c18, e18⟩ := Kd.S_slice HS18.out; subst e18) | ((with_reducible refine gate_dst (N := 19) rfl ?_); refine Kd.R_lit (Kd.int .i64) _ 3 ?hg (N := 19) ?hd (xs := ([] : List Int)) (inner := []) (ok := fun _ => True) (okp := fun _ => True) ?hr ?hp (fun _ hk => hk) trivial (Below.refl _ _) (Nat.le_refl _) (by simp) ?_; (case hd => rfl); (case hg => rfl); (case hr => first | (go_simp; done) | (go_simp; rfl)); (case hp => exact (Reps.none _ _)); intro v19 w19 hR hb hg_ hnew_; have HS19 := Aside0.mk (Kd.S_elder' HS18.out (Kd.R_base hR) hb); have HQ19 := Aside0.mk (below_step HQ18.out hb); have BG19 := Aside0.mk (blk_below BG18.out hb); have BK19 := Aside0.mk (blk_below BK18.out hb); have HR19 := Aside0.mk (Kd.R_lower hR (below_size HQ18.out)); clear hR hb hg_ hnew_ HS18 HQ18 BG18 BK18; obtain ⟨A19, c19, e19⟩ := Kd.R_slice HR19.out; subst e19) | ((with_reducible refine gate_dst (N := 21) rfl ?_); refine box_event ?hg (N := 21) ?hd (cs := #[.slice A18 0 c18, .slice A19 0 c19]) (t := 29) ?hr ?_; (case hd => rfl); (case hg => rfl); (case hr => first | (go_simp; done) | (go_simp; rfl)); intro g hg w21 hbox hb; have HI21 := Aside0.mk (show IsPut w5 w21 g (.slice A18 0 c18) (.slice A19 0 c19) [] [] from ⟨hbox, Kd.S_mono (Kd.S_below HS19.out hb) (fun _ hk => hk.2), Kd.R_below HR19.out hb, below_step HQ19.out hb, (by have := below_size HQ19.out; omega)⟩); have BG21 := Aside0.mk (blk_below BG19.out hb); have BK21 := Aside0.mk (blk_below BK19.out hb); have HNG := Aside0.mk (show g4 ≠ g from (by have := blk_lt BK19.out; omega)); have HGW := Aside0.mk (show w5.heap.size ≤ g from (by have := below_size HQ19.out; omega)); clear hg hbox hb HS19 HQ19 BG19 BK19 HR19))
 go_loopg [23] d (fun kq v23 w' => ∃ (i : Nat) (vL : Value), v23 = .int .i64 (i : Int) ∧ Aside0 (i + kq = d) ∧ Aside0 (IsPut w5 w' g vL (.slice A19 0 c19) (List.replicate i []) []) ∧ Aside0 (w'.heap[g6]? = some (.cells #[.int .i64 t0, .slice A5 t1.length c5] 79 (0, 0))) ∧ Aside0 (w'.heap[g4]? = some (.cells #[.slice none 0 0, .slice none 0 0] 29 (0, 0))))
 case atStart => exact ⟨0, _, (by first | rfl | (simp; done)), ⟨by omega⟩, HI21, BG21, BK21⟩
 case round =>
   clear HI21 BG21 BK21
   obtain ⟨i, vL, rfl, HK, HI8, BG8, BK8⟩ := hrel
   obtain ⟨Li, hLi⟩ : ∃ Li : List (List Int), Li = List.replicate i [] := ⟨_, rfl⟩
   rw [← hLi] at HI8
   have HLi := Aside0.mk (show Li.length = i by rw [hLi, List.length_replicate])
   obtain ⟨AL, cL, rfl⟩ := Kd.S_slice HI8.out.2.1
   have hcg8 : wr.cell? ⟨g, 0, none⟩ = some (.slice AL Li.length cL) := (blk_cell HI8.out.1 0).trans rfl
   cases gk with
   | zero =>
     have HIL : Aside0 (IsPut w5 wr g (.slice AL Li.length cL) (.slice A19 0 c19) L0 []) := (by rw [HL0.out, show d = i by have := HK.out; omega, ← hLi]; exact HI8)
     clear hLi
     have b1 : decide ((i : Int) < (d : Int)) = false := decide_eq_false (by have := HK.out; omega)
     have b2 : decide (i < d) = false := decide_eq_false (by have := HK.out; omega)
     have hc60 : wr.cell? ⟨g6, 0, none⟩ = some (.int .i64 t0) := (blk_cell BG8.out 0).trans rfl
     have hc61 : wr.cell? ⟨g6, 1, none⟩ = some (.slice A5 t1.length c5) := (blk_cell BG8.out 1).trans rfl
     try go_wp2_with (first | ((with_reducible refine gate_callee (f := 121) rfl ?_); refine goesL_ (some 38) rfl rfl Tryz.func121 (by kernel_rfl) rfl #[.pointer (some ⟨g, 0, none⟩), .agg #[.int .i64 t0, .slice A5 t1.length c5], .int .i64 0] rfl (by (try simp only [List.map_toArray, List.map_cons, List.map_nil]); first | done | rfl) ?_; (with_reducible refine (put.calls w5 g k L0 [] t0 A5 c5 t1 0 (.slice AL Li.length cL) (.slice A19 0 c19) _ r1 r2 HR5.out HC5.out ?side1 HP.out).mono ?_); (case side1 => exact HIL.out); rintro e w40 ⟨rfl, hF, vD, hI⟩; refine ⟨_, rfl, ?_⟩; have HI9 := Aside0.mk hI; have BK9 := Aside0.mk (hF g4 _ 29 (.inr rfl) HNG.out BK8.out); clear hF hI HI8 BG8 BK8 hcg8; obtain ⟨AD, cD, eD⟩ := Kd.R_slice HI9.out.2.2.1; subst eD; have hcg0 : w40.cell? ⟨g, 0, none⟩ = some (.slice AL Li.length cL) := (blk_cell HI9.out.1 0).trans rfl; have hcg1 : w40.cell? ⟨g, 1, none⟩ = some (.slice AD r2.length cD) := (blk_cell HI9.out.1 1).trans rfl; have hc40 : w40.cell? ⟨g4, 0, none⟩ = some (.slice none 0 0) := (blk_cell BK9.out 0).trans rfl; have hc41 : w40.cell? ⟨g4, 1, none⟩ = some (.slice none 0 0) := (blk_cell BK9.out 1).trans rfl; have hf40 := blk_frozen BK9.out 0; have hf41 := blk_frozen BK9.out 1))
     refine bodyPost_ret (results_ct rfl _ _ g4 29 #[.slice AL Li.length cL, .slice AD r2.length cD] (0, 0) _ rfl (blk_put (blk_put BK9.out 0 _ rfl) 1 _ rfl) Tryz.underlying29 rfl (by kernel_rfl)) rfl ?_
     have hwb := below_size HB5.out
     exact ⟨_, _, rfl, Kd.S_lower (Kd.S_mono (Kd.S_far (p := ⟨g4, 1, none⟩) (Kd.S_far (p := ⟨g4, 0, none⟩) (Kd.S_types HI9.out.2.1 BK9.out (by decide)) (fun _ hk => hk.2) _) (fun _ hk => hk.2) _) (fun _ hk => hk.1)) hwb, Kd.R_lower (Kd.R_mono (Kd.R_far (p := ⟨g4, 1, none⟩) (Kd.R_far (p := ⟨g4, 0, none⟩) (Kd.R_types HI9.out.2.2.1 BK9.out (by decide)) (fun _ hk => hk.2) _) (fun _ hk => hk.2) _) (fun _ _ => trivial)) hwb, below_set (below_set (below_step HB5.out HI9.out.2.2.2.1) HW4.out) HW4.out⟩
   | succ k1 =>
     obtain ⟨L1, hL1⟩ : ∃ L1 : List (List Int), L1 = Li ++ [[]] := ⟨_, rfl⟩
     have HL1 := Aside0.mk hL1
     have HR1 := Aside0.mk (show L1 = List.replicate (i + 1) [] by rw [hL1, hLi, List.replicate_succ'])
     clear hL1 hLi
     have b1 : decide ((i : Int) < (d : Int)) = true := decide_eq_true (by have := HK.out; omega)
     have b2 : decide (i < d) = true := decide_eq_true (by have := HK.out; omega)
     try go_wp2_with (first | ((with_reducible refine gate_dst (N := 30) rfl ?_); refine Kd.R_lit (Kd.int .i64) _ 3 ?hg (N := 30) ?hd (xs := ([] : List Int)) (inner := []) (ok := fun _ => True) (okp := fun _ => True) ?hr ?hp (fun _ hk => hk) trivial (Below.refl _ _) (Nat.le_refl _) (by simp) ?_; (case hd => rfl); (case hg => rfl); (case hr => first | (go_simp; done) | (go_simp; rfl)); (case hp => exact (Reps.none _ _)); intro v30 w30 hR hb hg_ hnew_; have HI30 := Aside0.mk (HI8.out.below hb); have HB30 := Aside0.mk hb; have HSZ := Aside0.mk (below_size HI8.out.2.2.2.1); have HS8 := Aside0.mk HI8.out.2.1; have hcg0 : w30.cell? ⟨g, 0, none⟩ = some (.slice AL Li.length cL) := (blk_cell HI30.out.1 0).trans rfl; have BG30 := Aside0.mk (blk_below BG8.out hb); have BK30 := Aside0.mk (blk_below BK8.out hb); have HR30 := Aside0.mk hR; have HZ30 := Aside0.mk (show ∀ k_, v30.ownBlock = some k_ → wr.heap.size ≤ k_ from Kd.R_base hR); have HL30 := Aside0.mk (Kd.S_lt HI8.out.2.1); have HD30 := Aside0.mk (Kd.R_lt HI8.out.2.2.1); clear hR hb hg_ hnew_ HI8 BG8 BK8 hcg8; obtain ⟨A30, c30, e30⟩ := Kd.R_slice HR30.out; subst e30) | ((with_reducible refine gate_builtin (b := .append) (xs := #[.tmp 29, .tmp 31]) rfl ?_); at_builtin; refine Kd.S_append (Kd.slice 3 (Kd.int .i64)) (w0 := w5) w5.heap.size rfl (.tmp 29) (.tmp 31) 26 27 (.slice none 0 0) 24 rfl Tryz.underlying26 info22 rfl (by decide) (by omega) (.slice AL Li.length cL) Li [] [.slice A30 0 c30] (fun k_ => some k_ ≠ (.slice A19 0 c19 : Value).ownBlock) (fun k_ => some k_ = (.slice A30 0 c30 : Value).ownBlock) rfl rfl ?aP ?aK ?aF ?aO HI30.out.2.2.2.1 (below_size HI30.out.2.2.2.1) (by have := HK.out; have := HLi.out; omega) ?_; (case aP => exact ⟨_, rfl, Kd.R_lower (Kd.R_mono (Kd.R_tight rfl HR30.out) (fun _ h_ => h_)) HSZ.out⟩); (case aK => exact fun k_ hk_ => ⟨fun e_ => Nat.lt_irrefl _ (Nat.lt_of_lt_of_le (HD30.out k_ e_.symm) (HZ30.out k_ hk_.symm)), fun e_ => Nat.lt_irrefl _ (Nat.lt_of_lt_of_le (HL30.out k_ e_.symm) (HZ30.out k_ hk_.symm))⟩); (case aF => exact fun k_ hk_ => fun e_ => Nat.lt_irrefl _ (Nat.lt_of_lt_of_le (Kd.R_lt HI30.out.2.2.1 k_ e_.symm) hk_)); (case aO => exact Kd.S_mono (Kd.S_elder' HS8.out (Kd.R_base HR30.out) HB30.out) (fun k_ hk_ => ⟨hk_.1, fun e_ => hk_.2 e_⟩)); intro v32 w32 ho hb hg hat; rw [← HL1.out] at ho; have hG32 := blk_grown HI30.out.1 hg (Kd.S_ne HI30.out.2.1 HI30.out.1 (by decide)); have BG32 := Aside0.mk (blk_grown BG30.out hg (Kd.S_ne HI30.out.2.1 BG30.out (by decide))); have BK32 := Aside0.mk (blk_grown BK30.out hg (Kd.S_ne HI30.out.2.1 BK30.out (by decide))); have hD32 := Kd.R_grown2 HI30.out.2.2.1 rfl hg (fun k_ hk_ => fun e_ => (HI30.out.2.1).choose_spec.1 k_ hk_ e_); have hQ32 := hb; have HS32 := Aside0.mk ho; have HG32 := Aside0.mk hG32; have HD32 := Aside0.mk hD32; have HQ32 := Aside0.mk hQ32; have hcg0' : w32.cell? ⟨g, 0, none⟩ = some (.slice AL Li.length cL) := (blk_cell hG32 0).trans rfl; have hfg0 := blk_frozen hG32 0; clear hG32 hD32 hQ32 ho hb hg hat HI30 BG30 BK30 hcg0; obtain ⟨A32, c32, e32⟩ := Kd.S_slice HS32.out; subst e32))
     have HI33 := Aside0.mk (show IsPut w5 (w32.setCell ⟨g, 0, none⟩ (.slice A32 L1.length c32)) g (.slice A32 L1.length c32) (.slice A19 0 c19) L1 [] from
       ⟨blk_put HG32.out 0 _ rfl, Kd.S_mono (Kd.S_far (p := ⟨g, 0, none⟩) (Kd.S_types HS32.out HG32.out (by decide)) (fun _ hk => hk.2) _) (fun _ hk => hk.1), Kd.R_mono (Kd.R_far (p := ⟨g, 0, none⟩) (Kd.R_types HD32.out HG32.out (by decide)) (fun _ hk => hk.2) _) (fun _ _ => trivial), below_set HQ32.out HGW.out, HGW.out⟩)
     go_roundg k1
     case measure => omega
     case rel => exact ⟨i + 1, _, (by rw [show wrap64 ((i : Int) + 1) = ((i + 1 : Nat) : Int) from (by have := HK.out; unfold wrap64; omega)]), ⟨by have := HK.out; omega⟩, (by rw [← HR1.out]; exact HI33), ⟨blk_far (p := ⟨g, 0, none⟩) BG32.out (put.blk_ne BG32.out HG32.out (by decide)) _⟩, ⟨blk_far (p := ⟨g, 0, none⟩) BK32.out HNG.out _⟩⟩
theorem spec_l2RawLayOut.calls (k : Nat) (a0 : ByteArray) (a1 : Int) (r1 : List (List Int)) (r2 : List Int) (r3 : Bool) (w : World) (hL : Sg.LaidW w) (h : spec_l2RawLayOut.f k a0 a1 = some (r1, r2, r3)) :
   Calls Tryz.prog 142 #[.string a0, .int .i64 a1] w fun e w' => ∃ v0_ v1_ : Value, e = .returned (.tuple #[.agg #[v0_, v1_], .bool r3]) ∧ Kd.S (Kd.slice 3 (Kd.int .i64)) 27 w' w.heap.size (fun k_ => some k_ ≠ (v1_ : Value).ownBlock) v0_ r1 ∧ Kd.R (Kd.int .i64) 3 w' w.heap.size (fun _ => True) v1_ r2 ∧ Below w.heap.size w w' := by
 unfold spec_l2RawLayOut.f at h
 obtain ⟨⟨t0, t1, t2⟩, h1, h⟩ := Option.bind_eq_some_iff.mp h
 dsimp only at h
 cases t2 with
 | false =>
   rw [if_neg (by simp)] at h
   simp only [Option.some.injEq, Prod.mk.injEq] at h
   obtain ⟨rfl, rfl, rfl⟩ := h
   exact l2lay.bad k a0 a1 t0 t1 w hL h1
 | true =>
   rw [if_pos rfl] at h
   by_cases c0 : 0 ≤ a1
   · rw [if_pos c0] at h
     by_cases c1 : a1 ≤ 1000
     · rw [if_pos c1] at h
       obtain ⟨⟨z1, z2⟩, h2, h⟩ := Option.bind_eq_some_iff.mp h
       simp only [Option.some.injEq, Prod.mk.injEq] at h
       obtain ⟨rfl, rfl, rfl⟩ := h
       obtain ⟨d, rfl⟩ : ∃ d : Nat, a1 = (d : Int) := ⟨a1.toNat, by omega⟩
       rw [Int.toNat_natCast] at h2
       exact l2lay.good k a0 d (by omega) t0 t1 _ _ w hL h1 _ rfl h2
     · rw [if_neg c1] at h; cases h
   · rw [if_neg c0] at h; cases h
theorem spec_l2RawLayOut.ctr (k : Nat) (a0 : ByteArray) (a1 : Int) (r1 : List (List Int)) (r2 : List Int) (r3 : Bool) (h : spec_l2RawLayOut.f k a0 a1 = some (r1, r2, r3)) : Ctr TE 142 none [.v (.string a0), .v (.int .i64 a1)] [.ro (.ag [.sl 1 (rX (cL (cI .i64) 1) r1), .sl 1 (rX (cI .i64) r2)]), .ro (.v (.bool r3))] [] := by
 refine ctr_made (callable_of Tryz.func142 (by kernel_rfl) (by kernel_rfl)) (fun w ro g vals hL hp => ?_)
 obtain ⟨u, q, rfl, hu, u2, q2, rfl, hu2, rfl⟩ := hp
 obtain rfl : u = .string a0 := (show u = .string a0 ∧ _ from hu).1
 obtain rfl : u2 = .int .i64 a1 := (show u2 = .int .i64 a1 ∧ _ from hu2).1
 refine (spec_l2RawLayOut.calls k a0 a1 r1 r2 r3 w hL h).mono ?_
 rintro e w' ⟨v0, v1, rfl, h0, h1, hb⟩
 exact ⟨[_, _], rfl, hb, fun ro' _ hr => ⟨_, [_], rfl, ⟨[v0, v1], rfl, v0, [v1], rfl, rep_ints (Kd.S_R h0) hr, v1, [], rfl, rep_int h1 hr, rfl⟩, _, [], rfl, ⟨rfl, rfl⟩, rfl⟩⟩
end Go.Proofs.YtidpankoobdfjaaGreatDoor.L
