/- A part of the claim. -/
import Derived.Test.YtoloblgjlnhioaaDoorJFSkd
import Derived.Test.YtoloblgjlnhioaaDoorJFSke
import Derived.Test.YtoloblgjlnhioaaDoorJFSgc
import Derived.Test.YtoloblgjlnhioaaDoorJFW1
import Derived.Test.YtoloblgjlnhioaaDoorJFx3
import Derived.Test.YtoloblgjlnhioaaDoorJFx4
import Derived.Test.YtoloblgjlnhioaaDoorJFx5
namespace Go.Proofs.YtoloblgjlnhioaaDoor.J
open Go.RowKit Go.Proofs.YtoloblgjlnhioaaDoorW.St   Go.Proofs.YtoloblgjlnhioaaDoorW.PrintWords Go.Proofs.YtoloblgjlnhioaaDoorW.PrintLast Go.Proofs.YtoloblgjlnhioaaDoorW.PrintMore
attribute [local go_sem] max2_int min2_int max_two min_two max_three min_three max_four min_four
set_option linter.unusedVariables false
set_option linter.unusedSimpArgs false
set_option maxHeartbeats 8000000 in
set_option maxRecDepth 100000 in
theorem impl_arr_numbers.calls (k : Nat) : ∀ (a0_0 : Int) (A0_1 : Option Addr) (c0_1 : Nat) (l0_1 : List (S62)) (a1 : Int) (r : List Int) (w : World) (hr0_1 : Kd.C k62 w A0_1 l0_1.length l0_1) (hc0_1 : l0_1.length ≤ c0_1) (h : impl_arr_numbers.f k a0_0 l0_1 a1 = some r),
   Calls Tryd.prog 91 #[.agg #[.int .i64 a0_0, .slice A0_1 l0_1.length c0_1], .int .i64 a1] w fun e w' => ∃ v0_ : Value, e = .returned (v0_) ∧ Kd.R (Kd.int .i64) 3 w' w.heap.size (fun _ => True) v0_ r ∧ Below w.heap.size w w' := by
 induction k using Nat.strongRecOn with
 | _ k ih =>
 intro a0_0 A0_1 c0_1 l0_1 a1 r w hr0_1 hc0_1 h
 cases k with
 | zero => exact absurd h (by simp [impl_arr_numbers.f])
 | succ k =>
 simp only [impl_arr_numbers.f] at h
 have hu62 := Tryd.underlying62
 have HR0_1 := Aside0.mk hr0_1
 have HC0_1 := Aside0.mk hc0_1
 clear hr0_1 hc0_1
 have HB := Aside0.mk (Below.refl w.heap.size w)
 have H : (if a1 = 0 then (some (([a0_0] : List Int))) else (impl_arr_numbers.l0 k a1 (([] : List Int)) l0_1 (l0_1.length : Int) 0)) = some r := h
 clear h
 by_cases c3 : a1 = 0
 · rw [if_pos c3] at H
   have c3b0 : (a1 == 0) = true := beq_iff_eq.mpr c3
   have c3b1 : (a1 != 0) = false := bne_eq_false_iff_eq.mpr c3
   clear c3
   obtain ⟨y256, hy256⟩ : ∃ y_ : List Int, y_ = (([a0_0] : List Int)) := ⟨_, rfl⟩
   replace H : (some y256) = some r := by first | (rw [hy256]; with_reducible exact H) | (have H2_ := (Option.bind_some _ _).symm.trans H; rw [hy256]; with_reducible exact H2_) | (have H2_ := (Option.bind_some _ _).symm.trans H; with_reducible exact H2_) | with_reducible exact H | (rw [hy256]; exact H) | exact H
   have Ny256 := Aside0.mk hy256
   clear hy256
   obtain rfl := Option.some.inj H
   go_enter Tryd.func91, Tryd.ntmps91
   go_wp2_with (first | ((with_reducible refine gate_dst (N := 2) rfl ?_); refine box_event ?hg (N := 2) ?hd (cs := #[.int .i64 a0_0, .slice A0_1 l0_1.length c0_1]) (t := 62) ?hr ?_; (case hd => rfl); (case hg => rfl); (case hr => first | (go_simp; done) | (go_simp; rfl)); intro gb255 hg w4 hbox hb; have n0_ := Aside0.mk (below_step (by repeat (first | (with_reducible first | exact HB.out | apply below_alloc | apply pw_below_drewN | apply below_drew1) | exact HB.out)) hb); have n1_ := Aside0.mk (hbox); have n2_ := Aside0.mk ((by rw [hg]; exact (below_size (by repeat (first | (with_reducible first | exact HB.out | apply below_alloc | apply pw_below_drewN | apply below_drew1) | exact HB.out))) : w.heap.size ≤ gb255)); have n3_ := Aside0.mk ((by rw [hg]; exact (below_size (by repeat (first | (with_reducible first | exact HB.out | apply below_alloc | apply pw_below_drewN | apply below_drew1) | exact HB.out))) : w.heap.size ≤ gb255)); clear HB; have HB := n0_; have BK255 := n1_; have GW255 := n2_; have GE255 := n3_; clear n0_ n1_ n2_ n3_; clear hb hbox hg; have hcz5_0 : w4.cell? ⟨gb255, 0, none⟩ = some (.int .i64 a0_0) := (blk_cell BK255.out 0).trans rfl; have hcz5_1 : w4.cell? ⟨gb255, 1, none⟩ = some (.slice A0_1 l0_1.length c0_1) := (blk_cell BK255.out 1).trans rfl; have hfz5_0 := blk_frozen BK255.out 0; have hfz5_1 := blk_frozen BK255.out 1) | ((with_reducible refine gate_dst (N := 12) rfl ?_); refine Kd.R_lit (Kd.int .i64) _ 3 ?hg (N := 12) ?hd (xs := ([a0_0] : List Int)) (inner := [.int .i64 a0_0]) (ok := fun _ => True) (okp := fun _ => True) ?hr ?hp (fun _ hk => hk) trivial (Below.refl _ _) (Nat.le_refl _) (by simp) ?_; (case hd => rfl); (case hg => rfl); (case hr => first | (go_simp; done) | (go_simp; rfl)); (case hp => exact (Reps.one (show Kd.M (Kd.int .i64) _ _ _ a0_0 [.int .i64 a0_0] from rfl) (Reps.none _ _))); intro v257 w6 ho7 hb hg_ hnew_; clear hg_ hnew_; (first | rw [← Ny256.out] at ho7 | (simp only [Int.reduceToNat] at ho7; rw [← Ny256.out] at ho7)); have n0_ := Aside0.mk (Kd.R_lower ho7 (below_size (by repeat (first | (with_reducible first | exact HB.out | apply below_alloc | apply pw_below_drewN | apply below_drew1 | refine below_set ?_ GE255.out) | exact HB.out)))); have n1_ := Aside0.mk (blk_below (g := gb255) (o := .cells #[.int .i64 a0_0, .slice A0_1 l0_1.length c0_1] 62 (0, 0)) (by (with_reducible repeat (first | refine blk_drewN ?_ _ | refine blk_drew ?_ | refine blk_alloc ?_ _)); exact BK255.out) hb); have n2_ := Aside0.mk (below_step (by repeat (first | (with_reducible first | exact HB.out | apply below_alloc | apply pw_below_drewN | apply below_drew1 | refine below_set ?_ GE255.out) | exact HB.out)) hb); clear BK255; clear HB; have HO258 := n0_; have BK255 := n1_; have HB := n2_; clear n0_ n1_ n2_; clear hb ho7))
   go_ret
   exact ⟨_, by first | rfl | (simp [errW_none, errW_some] <;> rfl) | (simp [*, errW_none, errW_some] <;> rfl), by (with_reducible repeat (first | apply Kd.R_alloc | apply Kd.R_drewN | apply Kd.R_drew)); exact HO258.out, by repeat (first | (with_reducible first | exact HB.out | apply below_alloc | apply pw_below_drewN | apply below_drew1 | refine below_set ?_ GE255.out) | exact HB.out)⟩
 · rw [if_neg c3] at H
   have c3b0 : (a1 == 0) = false := beq_eq_false_iff_ne.mpr c3
   have c3b1 : (a1 != 0) = true := bne_iff_ne.mpr c3
   obtain ⟨y259, hy259⟩ : ∃ y_ : List Int, y_ = (([] : List Int)) := ⟨_, rfl⟩
   replace H : (impl_arr_numbers.l0 k a1 y259 l0_1 (l0_1.length : Int) 0) = some r := by first | (rw [hy259]; with_reducible exact H) | (have H2_ := (Option.bind_some _ _).symm.trans H; rw [hy259]; with_reducible exact H2_) | (have H2_ := (Option.bind_some _ _).symm.trans H; with_reducible exact H2_) | with_reducible exact H | (rw [hy259]; exact H) | exact H
   have Ny259 := Aside0.mk hy259
   clear hy259
   have H' := Aside0.mk H
   clear H
   go_enter Tryd.func91, Tryd.ntmps91
   go_wp2_with (first | ((with_reducible refine gate_dst (N := 2) rfl ?_); refine box_event ?hg (N := 2) ?hd (cs := #[.int .i64 a0_0, .slice A0_1 l0_1.length c0_1]) (t := 62) ?hr ?_; (case hd => rfl); (case hg => rfl); (case hr => first | (go_simp; done) | (go_simp; rfl)); intro gb255 hg w8 hbox hb; have n0_ := Aside0.mk (below_step (by repeat (first | (with_reducible first | exact HB.out | apply below_alloc | apply pw_below_drewN | apply below_drew1) | exact HB.out)) hb); have n1_ := Aside0.mk (hbox); have n2_ := Aside0.mk ((by rw [hg]; exact (below_size (by repeat (first | (with_reducible first | exact HB.out | apply below_alloc | apply pw_below_drewN | apply below_drew1) | exact HB.out))) : w.heap.size ≤ gb255)); have n3_ := Aside0.mk ((by rw [hg]; exact (below_size (by repeat (first | (with_reducible first | exact HB.out | apply below_alloc | apply pw_below_drewN | apply below_drew1) | exact HB.out))) : w.heap.size ≤ gb255)); clear HB; have HB := n0_; have BK255 := n1_; have GW255 := n2_; have GE255 := n3_; clear n0_ n1_ n2_ n3_; clear hb hbox hg) | ((with_reducible refine gate_dst (N := 13) rfl ?_); refine Kd.R_lit (Kd.int .i64) _ 3 ?hg (N := 13) ?hd (xs := ([] : List Int)) (inner := []) (ok := fun _ => True) (okp := fun _ => True) ?hr ?hp (fun _ hk => hk) trivial (Below.refl _ _) (Nat.le_refl _) (by simp) ?_; (case hd => rfl); (case hg => rfl); (case hr => first | (go_simp; done) | (go_simp; rfl)); (case hp => exact (Reps.none _ _)); intro v260 w9 ho10 hb hg_ hnew_; clear hg_ hnew_; (first | rw [← Ny259.out] at ho10 | (simp only [Int.reduceToNat] at ho10; rw [← Ny259.out] at ho10)); have n0_ := Aside0.mk (Kd.R_lower ho10 (below_size (by repeat (first | (with_reducible first | exact HB.out | apply below_alloc | apply pw_below_drewN | apply below_drew1 | refine below_set ?_ GE255.out) | exact HB.out)))); have n1_ := Aside0.mk (blk_below (g := gb255) (o := .cells #[.int .i64 a0_0, .slice A0_1 l0_1.length c0_1] 62 (0, 0)) (by (with_reducible repeat (first | refine blk_drewN ?_ _ | refine blk_drew ?_ | refine blk_alloc ?_ _)); exact BK255.out) hb); have n2_ := Aside0.mk (below_step (by repeat (first | (with_reducible first | exact HB.out | apply below_alloc | apply pw_below_drewN | apply below_drew1 | refine below_set ?_ GE255.out) | exact HB.out)) hb); clear BK255; clear HB; have HO261 := n0_; have BK255 := n1_; have HB := n2_; clear n0_ n1_ n2_; clear hb ho10; have hcz11_0 : w9.cell? ⟨gb255, 0, none⟩ = some (.int .i64 a0_0) := (blk_cell BK255.out 0).trans rfl; have hcz11_1 : w9.cell? ⟨gb255, 1, none⟩ = some (.slice A0_1 l0_1.length c0_1) := (blk_cell BK255.out 1).trans rfl; have hfz11_0 := blk_frozen BK255.out 0; have hfz11_1 := blk_frozen BK255.out 1))
   go_loopg [5, 17] k (fun kq v5 v17 w' => ∃ (x5_1 : List Int) (x17_1 : Int), v17 = .int .i64 x17_1 ∧ Aside0 (impl_arr_numbers.l0 kq a1 x5_1 l0_1 (l0_1.length : Int) x17_1 = some r) ∧ Aside0 (kq ≤ k) ∧ Aside0 (Kd.R (Kd.int .i64) 3 w' w.heap.size (fun _ => True) v5 x5_1) ∧ Aside0 (w'.heap[gb255]? = some (.cells #[.int .i64 a0_0, (.slice A0_1 l0_1.length c0_1)] 62 (0, 0))) ∧ Aside0 (Below w.heap.size w w'))
   case atStart => exact ⟨(y259), (0), (by first | rfl | (simp; done) | (simp [*]; done)), H', ⟨Nat.le_refl _⟩, ⟨by (with_reducible repeat (first | apply Kd.R_alloc | apply Kd.R_drewN | apply Kd.R_drew)); exact HO261.out⟩, ⟨by (with_reducible repeat (first | refine blk_drewN ?_ _ | refine blk_drew ?_ | refine blk_alloc ?_ _)); exact BK255.out⟩, ⟨by repeat (first | (with_reducible first | exact HB.out | apply below_alloc | apply pw_below_drewN | apply below_drew1 | refine below_set ?_ GE255.out) | exact HB.out)⟩⟩
   case round =>
     clear H'
     try clear p2
     try clear c3
     try clear c3b0
     try clear c3b1
     try clear c9
     try clear hcz11_0
     try clear hcz11_1
     try clear hcz5_0
     try clear hcz5_1
     try clear hfz11_0
     try clear hfz11_1
     try clear hfz5_0
     try clear hfz5_1
     obtain ⟨x5_1, x17_1, rfl, HA, HK1, HO_5, BK255, HB⟩ := hrel
     cases gk with
     | zero => exact absurd HA.out (by simp [impl_arr_numbers.l0])
     | succ k1 =>
       have H := HA.out
       clear HA
       simp only [impl_arr_numbers.l0] at H
       by_cases c12 : x17_1 < (l0_1.length : Int)
       · rw [if_pos c12] at H
         have c12b0 : decide (x17_1 < (l0_1.length : Int)) = true := decide_eq_true c12
         clear c12
         by_cases c13 : 0 ≤ x17_1
         · rw [if_pos c13] at H
           have c13b0 : decide (0 ≤ x17_1) = true := decide_eq_true c13
           clear c13
           by_cases c14 : x17_1 < (l0_1.length : Int)
           · rw [if_pos c14] at H
             have c14b0 : decide (x17_1 < (l0_1.length : Int)) = true := decide_eq_true c14
             clear c14
             replace H := Option.bind_eq_some_iff.mp H
             obtain ⟨t264, A150, H⟩ := H
             replace H : (if x5_1.length + t264.length < 17592186044416 then (impl_arr_numbers.l0 k1 a1 (x5_1 ++ t264) l0_1 (l0_1.length : Int) (wrap64 (x17_1 + 1))) else (none)) = some r := H
             have A15 := Aside0.mk A150
             clear A150
             by_cases c16 : x5_1.length + t264.length < 17592186044416
             · rw [if_pos c16] at H
               have LMc16 := Aside0.mk c16
               clear c16
               obtain ⟨y267, hy267⟩ : ∃ y_ : List Int, y_ = (x5_1 ++ t264) := ⟨_, rfl⟩
               replace H : (impl_arr_numbers.l0 k1 a1 y267 l0_1 (l0_1.length : Int) (wrap64 (x17_1 + 1))) = some r := by first | (rw [hy267]; with_reducible exact H) | (have H2_ := (Option.bind_some _ _).symm.trans H; rw [hy267]; with_reducible exact H2_) | (have H2_ := (Option.bind_some _ _).symm.trans H; with_reducible exact H2_) | with_reducible exact H | (rw [hy267]; exact H) | exact H
               have Ny267 := Aside0.mk hy267
               clear hy267
               have H' := Aside0.mk H
               clear H
               have p262 : 0 ≤ (x17_1 : Int) := of_decide_eq_true (by first | (with_reducible assumption) | assumption)
               have q262 : x17_1 < (l0_1.length : Int) := of_decide_eq_true (by first | (with_reducible assumption) | assumption)
               obtain ⟨ad262, A262_1, c262_1, e262, hx262_0, hx262_1, hl262_1, hi262_1⟩ := at_T62 HR0_1.out x17_1 p262 q262
               cases e262
               replace hx262_0 := (HB.out.cell (World.block_lt_of_cell? w _ hx262_0)).trans hx262_0
               replace hx262_1 := (HB.out.cell (World.block_lt_of_cell? w _ hx262_1)).trans hx262_1
               have HR262_1 := Aside0.mk hi262_1
               have HC262_1 := Aside0.mk hl262_1
               clear hi262_1 hl262_1
               replace p262 := eq_true p262
               replace q262 := eq_true q262
               go_wp2_with (first | ((with_reducible refine gate_dst (N := 7) rfl ?_); refine box_event ?hg (N := 7) ?hd (cs := #[.int .i64 0, .slice none 0 0]) (t := 62) ?hr ?_; (case hd => rfl); (case hg => rfl); (case hr => first | (go_simp; done) | (go_simp; rfl)); intro gb263 hg w17 hbox hb; have n0_ := Aside0.mk (Kd.R_below (by (with_reducible repeat (first | apply Kd.R_alloc | apply Kd.R_drewN | apply Kd.R_drew)); exact HO_5.out) hb); have n1_ := Aside0.mk (blk_below (g := gb255) (o := .cells #[.int .i64 a0_0, .slice (some ad262) l0_1.length c0_1] 62 (0, 0)) (by (with_reducible repeat (first | refine blk_drewN ?_ _ | refine blk_drew ?_ | refine blk_alloc ?_ _)); exact BK255.out) hb); have n2_ := Aside0.mk (below_step (by repeat (first | (with_reducible first | exact HB.out | apply below_alloc | apply pw_below_drewN | apply below_drew1 | refine below_set ?_ GE255.out) | exact HB.out)) hb); have n3_ := Aside0.mk (hbox); have n4_ := Aside0.mk ((by rw [hg]; exact (below_size (by repeat (first | (with_reducible first | exact HB.out | apply below_alloc | apply pw_below_drewN | apply below_drew1 | refine below_set ?_ GE255.out) | exact HB.out))) : w.heap.size ≤ gb263)); have n5_ := Aside0.mk ((by rw [hg]; exact (below_size (by repeat (first | (with_reducible first | exact HB.out | apply below_alloc | apply pw_below_drewN | apply below_drew1 | refine below_set ?_ GE255.out) | exact HB.out))) : w.heap.size ≤ gb263)); have n6_ := Aside0.mk ((by rw [hg]; exact Nat.ne_of_lt (blk_lt (g := gb255) (o := .cells #[.int .i64 a0_0, .slice (some ad262) l0_1.length c0_1] 62 (0, 0)) (by (with_reducible repeat (first | refine blk_drewN ?_ _ | refine blk_drew ?_ | refine blk_alloc ?_ _)); exact BK255.out)) : gb255 ≠ gb263)); have n7_ := Aside0.mk ((by rw [hg]; exact Nat.ne_of_gt (blk_lt (g := gb255) (o := .cells #[.int .i64 a0_0, .slice (some ad262) l0_1.length c0_1] 62 (0, 0)) (by (with_reducible repeat (first | refine blk_drewN ?_ _ | refine blk_drew ?_ | refine blk_alloc ?_ _)); exact BK255.out)) : gb263 ≠ gb255)); clear HO_5; clear BK255; clear HB; have HO_5 := n0_; have BK255 := n1_; have HB := n2_; have BK263 := n3_; have GW263 := n4_; have GE263 := n5_; have NB255_263 := n6_; have NB263_255 := n7_; clear n0_ n1_ n2_ n3_ n4_ n5_ n6_ n7_; clear hb hbox hg; have hnb18 := NB263_255.out; have hnc18 := NB255_263.out; have hcz19_0 : w17.cell? ⟨gb263, 0, none⟩ = some (.int .i64 0) := (blk_cell BK263.out 0).trans rfl; have hcz19_1 : w17.cell? ⟨gb263, 1, none⟩ = some (.slice none 0 0) := (blk_cell BK263.out 1).trans rfl; have hfz19_0 := blk_frozen BK263.out 0; have hfz19_1 := blk_frozen BK263.out 1) | ((with_reducible refine gate_callee (f := 91) rfl ?_); refine goesL_ (some 25) rfl rfl Tryd.func91 (by kernel_rfl) rfl #[.agg #[.int .i64 ((rd_T62 l0_1 x17_1).f0), .slice A262_1 ((rd_T62 l0_1 x17_1).f1).length c262_1], .int .i64 (wrap64 (a1 - 1))] rfl (by (try simp only [List.map_toArray, List.map_cons, List.map_nil]); first | done | rfl | (simp only [List.length_drop, List.length_take]; rfl)) ?_; (with_reducible refine (ih k1 (by have := HK1.out; omega) ((rd_T62 l0_1 x17_1).f0) _ _ ((rd_T62 l0_1 x17_1).f1) (wrap64 (a1 - 1)) t264 _ ?side1 ?side2 A15.out).mono ?_); (case side1 => exact Kd.C_below HR262_1.out (by repeat (first | (with_reducible first | exact HB.out | apply below_alloc | apply pw_below_drewN | apply below_drew1 | refine below_set ?_ GE255.out | refine below_set ?_ GE263.out) | exact HB.out))); (case side2 => exact HC262_1.out); rintro e w20 ⟨v265, rfl, ho0, hb⟩; refine ⟨_, rfl, ?_⟩; have n0_ := Aside0.mk (Kd.R_elder' (by (with_reducible repeat (first | apply Kd.R_alloc | apply Kd.R_drewN | apply Kd.R_drew)); exact (Kd.R_mono (Kd.R_far (p := ⟨gb263, 1, none⟩) (Kd.R_far (p := ⟨gb263, 0, none⟩) (Kd.R_types HO_5.out BK263.out (by decide)) (fun _ hk => hk.2) (.int .i64 ((rd_T62 l0_1 x17_1).f0))) (fun _ hk => hk.2) (.slice A262_1 ((rd_T62 l0_1 x17_1).f1).length c262_1)) (fun _ h_ => h_.1))) (Kd.R_base ho0) hb); have n1_ := Aside0.mk (Kd.R_lower (Kd.R_new' ho0 (Kd.R_lt (by (with_reducible repeat (first | apply Kd.R_alloc | apply Kd.R_drewN | apply Kd.R_drew)); exact (Kd.R_mono (Kd.R_far (p := ⟨gb263, 1, none⟩) (Kd.R_far (p := ⟨gb263, 0, none⟩) (Kd.R_types HO_5.out BK263.out (by decide)) (fun _ hk => hk.2) (.int .i64 ((rd_T62 l0_1 x17_1).f0))) (fun _ hk => hk.2) (.slice A262_1 ((rd_T62 l0_1 x17_1).f1).length c262_1)) (fun _ h_ => h_.1))))) (below_size (by repeat (first | (with_reducible first | exact HB.out | apply below_alloc | apply pw_below_drewN | apply below_drew1 | refine below_set ?_ GE255.out | refine below_set ?_ GE263.out) | exact HB.out)))); have n2_ := Aside0.mk (blk_below (g := gb255) (o := .cells #[.int .i64 a0_0, .slice (some ad262) l0_1.length c0_1] 62 (0, 0)) (by (with_reducible repeat (first | refine blk_drewN ?_ _ | refine blk_drew ?_ | refine blk_alloc ?_ _)); refine blk_far ?_ NB255_263.out _; (with_reducible repeat (first | refine blk_drewN ?_ _ | refine blk_drew ?_ | refine blk_alloc ?_ _)); refine blk_far ?_ NB255_263.out _; (with_reducible repeat (first | refine blk_drewN ?_ _ | refine blk_drew ?_ | refine blk_alloc ?_ _)); exact BK255.out) hb); have n3_ := Aside0.mk (blk_below (g := gb263) (o := .cells #[.int .i64 ((rd_T62 l0_1 x17_1).f0), .slice A262_1 ((rd_T62 l0_1 x17_1).f1).length c262_1] 62 (0, 0)) (by (with_reducible repeat (first | refine blk_drewN ?_ _ | refine blk_drew ?_ | refine blk_alloc ?_ _)); refine blk_put (cs := #[.int .i64 ((rd_T62 l0_1 x17_1).f0), .slice none 0 0]) ?_ 1 _ rfl; (with_reducible repeat (first | refine blk_drewN ?_ _ | refine blk_drew ?_ | refine blk_alloc ?_ _)); refine blk_put (cs := #[.int .i64 0, .slice none 0 0]) ?_ 0 _ rfl; (with_reducible repeat (first | refine blk_drewN ?_ _ | refine blk_drew ?_ | refine blk_alloc ?_ _)); exact BK263.out) hb); have n4_ := Aside0.mk (below_step (by repeat (first | (with_reducible first | exact HB.out | apply below_alloc | apply pw_below_drewN | apply below_drew1 | refine below_set ?_ GE255.out | refine below_set ?_ GE263.out) | exact HB.out)) hb); clear HO_5; clear BK255; clear BK263; clear HB; have HO_5 := n0_; have HO266 := n1_; have BK255 := n2_; have BK263 := n3_; have HB := n4_; clear n0_ n1_ n2_ n3_ n4_; (try clear hb); (try clear hb2); (try clear hk); (try clear hi); (try clear ho0); obtain ⟨Ao22, co22, eo22⟩ := Kd.R_slice HO266.out; subst eo22) | ((with_reducible refine gate_builtin (b := .append) (xs := #[.tmp 21, .tmp 25]) rfl ?_); at_builtin; refine Kd.R_append_rows (Kd.int .i64) (w0 := w) w.heap.size rfl (.tmp 21) (.tmp 25) 25 3 (.int .i64 0) 8 rfl Tryd.underlying25 info3 rfl (by decide) (by omega) u5 x5_1 t264 _ _ _ (fun k_ => some k_ ≠ (.slice Ao22 t264.length co22 : Value).ownBlock) (fun _ => False) rfl rfl ?aO ?aR (fun _ _ h => h) (fun _ h => h.elim) ?aF ?aB ?aS ?aL ?_; (case aR => repeat (first | exact (Kd.R_reads' HO266.out).2.2 | (with_reducible refine Kd.C_alloc ?_ _) | (with_reducible refine Kd.C_drewN ?_ _) | (with_reducible refine Kd.C_drew ?_))); (case aB => exact (by repeat (first | (with_reducible first | exact HB.out | apply below_alloc | apply pw_below_drewN | apply below_drew1 | refine below_set ?_ GE255.out | refine below_set ?_ GE263.out) | exact HB.out))); (case aF => exact (fun k_ hk => Kd.fresh' (Kd.R_lt (by (with_reducible repeat (first | apply Kd.R_alloc | apply Kd.R_drewN | apply Kd.R_drew)); exact HO266.out)) k_ hk)); (case aO => exact (by (with_reducible repeat (first | apply Kd.R_alloc | apply Kd.R_drewN | apply Kd.R_drew)); exact Kd.R_mono HO_5.out (fun _ hk => hk.2))); (case aS => exact (below_size (by repeat (first | (with_reducible first | exact HB.out | apply below_alloc | apply pw_below_drewN | apply below_drew1 | refine below_set ?_ GE255.out | refine below_set ?_ GE263.out) | exact HB.out)))); (case aL => have := LMc16.out; omega); intro v268 w21 ho hb hg hat; rw [← Ny267.out] at ho; have n0_ := Aside0.mk (blk_grown (g := gb255) (o := .cells #[.int .i64 a0_0, .slice (some ad262) l0_1.length c0_1] 62 (0, 0)) (by (with_reducible repeat (first | refine blk_drewN ?_ _ | refine blk_drew ?_ | refine blk_alloc ?_ _)); exact BK255.out) hg (Kd.R_ne HO_5.out BK255.out (by decide))); have n1_ := Aside0.mk (blk_grown (g := gb263) (o := .cells #[.int .i64 ((rd_T62 l0_1 x17_1).f0), .slice A262_1 ((rd_T62 l0_1 x17_1).f1).length c262_1] 62 (0, 0)) (by (with_reducible repeat (first | refine blk_drewN ?_ _ | refine blk_drew ?_ | refine blk_alloc ?_ _)); exact BK263.out) hg (Kd.R_ne HO_5.out BK263.out (by decide))); have n2_ := Aside0.mk (Kd.R_after (ok := (fun _ => True)) (by (with_reducible repeat (first | apply Kd.R_alloc | apply Kd.R_drewN | apply Kd.R_drew)); exact HO266.out) hg hat); have n3_ := Aside0.mk (hb); have n4_ := Aside0.mk (ho); clear BK255; clear BK263; clear HO266; clear HB; clear HO_5; have BK255 := n0_; have BK263 := n1_; have HO266 := n2_; have HB := n3_; have HO269 := n4_; clear n0_ n1_ n2_ n3_ n4_; clear ho hb hg hat))
               go_roundg k1
               case measure => have := HK1.out; omega
               case rel => exact ⟨(y267), (wrap64 (x17_1 + 1)), (by first | rfl | (simp; done) | (simp [*]; done)), H', ⟨by have := HK1.out; omega⟩, ⟨by (with_reducible repeat (first | apply Kd.R_alloc | apply Kd.R_drewN | apply Kd.R_drew)); exact Kd.R_mono HO269.out (fun _ hk => trivial)⟩, ⟨by (with_reducible repeat (first | refine blk_drewN ?_ _ | refine blk_drew ?_ | refine blk_alloc ?_ _)); exact BK255.out⟩, ⟨by repeat (first | (with_reducible first | exact HB.out | apply below_alloc | apply pw_below_drewN | apply below_drew1 | refine below_set ?_ GE255.out | refine below_set ?_ GE263.out) | exact HB.out)⟩⟩
             · rw [if_neg c16] at H
               exact absurd H (by simp)
           · rw [if_neg c14] at H
             exact absurd H (by simp)
         · rw [if_neg c13] at H
           exact absurd H (by simp)
       · rw [if_neg c12] at H
         have c12b0 : decide (x17_1 < (l0_1.length : Int)) = false := decide_eq_false c12
         clear c12
         obtain rfl := Option.some.inj H
         go_wp2
         go_ret
         exact ⟨_, by first | rfl | (simp [errW_none, errW_some] <;> rfl) | (simp [*, errW_none, errW_some] <;> rfl), by (with_reducible repeat (first | apply Kd.R_alloc | apply Kd.R_drewN | apply Kd.R_drew)); exact HO_5.out, by repeat (first | (with_reducible first | exact HB.out | apply below_alloc | apply pw_below_drewN | apply below_drew1 | refine below_set ?_ GE255.out) | exact HB.out)⟩
set_option maxHeartbeats 8000000 in
set_option maxRecDepth 100000 in
theorem spec_l1Numbers.calls (k : Nat) : ∀ (a0_0 : Int) (A0_1 : Option Addr) (c0_1 : Nat) (l0_1 : List (S77)) (a1 : Int) (r : List Int) (w : World) (hr0_1 : Kd.C k77 w A0_1 l0_1.length l0_1) (hc0_1 : l0_1.length ≤ c0_1) (h : spec_l1Numbers.f k a0_0 l0_1 a1 = some r),
   Calls Tryd.prog 92 #[.agg #[.int .i64 a0_0, .slice A0_1 l0_1.length c0_1], .int .i64 a1] w fun e w' => ∃ v0_ : Value, e = .returned (v0_) ∧ Kd.R (Kd.int .i64) 3 w' w.heap.size (fun _ => True) v0_ r ∧ Below w.heap.size w w' := by
 induction k using Nat.strongRecOn with
 | _ k ih =>
 intro a0_0 A0_1 c0_1 l0_1 a1 r w hr0_1 hc0_1 h
 cases k with
 | zero => exact absurd h (by simp [spec_l1Numbers.f])
 | succ k =>
 simp only [spec_l1Numbers.f] at h
 have hu77 := Tryd.underlying77
 have HR0_1 := Aside0.mk hr0_1
 have HC0_1 := Aside0.mk hc0_1
 clear hr0_1 hc0_1
 have HB := Aside0.mk (Below.refl w.heap.size w)
 have H : (if a1 = 0 then (some (([a0_0] : List Int))) else (spec_l1Numbers.l0 k a1 (([] : List Int)) l0_1 (l0_1.length : Int) 0)) = some r := h
 clear h
 by_cases c3 : a1 = 0
 · rw [if_pos c3] at H
   have c3b0 : (a1 == 0) = true := beq_iff_eq.mpr c3
   have c3b1 : (a1 != 0) = false := bne_eq_false_iff_eq.mpr c3
   clear c3
   obtain ⟨y376, hy376⟩ : ∃ y_ : List Int, y_ = (([a0_0] : List Int)) := ⟨_, rfl⟩
   replace H : (some y376) = some r := by first | (rw [hy376]; with_reducible exact H) | (have H2_ := (Option.bind_some _ _).symm.trans H; rw [hy376]; with_reducible exact H2_) | (have H2_ := (Option.bind_some _ _).symm.trans H; with_reducible exact H2_) | with_reducible exact H | (rw [hy376]; exact H) | exact H
   have Ny376 := Aside0.mk hy376
   clear hy376
   obtain rfl := Option.some.inj H
   go_enter Tryd.func92, Tryd.ntmps92
   go_wp2_with (first | ((with_reducible refine gate_dst (N := 2) rfl ?_); refine box_event ?hg (N := 2) ?hd (cs := #[.int .i64 a0_0, .slice A0_1 l0_1.length c0_1]) (t := 77) ?hr ?_; (case hd => rfl); (case hg => rfl); (case hr => first | (go_simp; done) | (go_simp; rfl)); intro gb375 hg w4 hbox hb; have n0_ := Aside0.mk (below_step (by repeat (first | (with_reducible first | exact HB.out | apply below_alloc | apply pw_below_drewN | apply below_drew1) | exact HB.out)) hb); have n1_ := Aside0.mk (hbox); have n2_ := Aside0.mk ((by rw [hg]; exact (below_size (by repeat (first | (with_reducible first | exact HB.out | apply below_alloc | apply pw_below_drewN | apply below_drew1) | exact HB.out))) : w.heap.size ≤ gb375)); have n3_ := Aside0.mk ((by rw [hg]; exact (below_size (by repeat (first | (with_reducible first | exact HB.out | apply below_alloc | apply pw_below_drewN | apply below_drew1) | exact HB.out))) : w.heap.size ≤ gb375)); clear HB; have HB := n0_; have BK375 := n1_; have GW375 := n2_; have GE375 := n3_; clear n0_ n1_ n2_ n3_; clear hb hbox hg; have hcz5_0 : w4.cell? ⟨gb375, 0, none⟩ = some (.int .i64 a0_0) := (blk_cell BK375.out 0).trans rfl; have hcz5_1 : w4.cell? ⟨gb375, 1, none⟩ = some (.slice A0_1 l0_1.length c0_1) := (blk_cell BK375.out 1).trans rfl; have hfz5_0 := blk_frozen BK375.out 0; have hfz5_1 := blk_frozen BK375.out 1) | ((with_reducible refine gate_dst (N := 12) rfl ?_); refine Kd.R_lit (Kd.int .i64) _ 3 ?hg (N := 12) ?hd (xs := ([a0_0] : List Int)) (inner := [.int .i64 a0_0]) (ok := fun _ => True) (okp := fun _ => True) ?hr ?hp (fun _ hk => hk) trivial (Below.refl _ _) (Nat.le_refl _) (by simp) ?_; (case hd => rfl); (case hg => rfl); (case hr => first | (go_simp; done) | (go_simp; rfl)); (case hp => exact (Reps.one (show Kd.M (Kd.int .i64) _ _ _ a0_0 [.int .i64 a0_0] from rfl) (Reps.none _ _))); intro v377 w6 ho7 hb hg_ hnew_; clear hg_ hnew_; (first | rw [← Ny376.out] at ho7 | (simp only [Int.reduceToNat] at ho7; rw [← Ny376.out] at ho7)); have n0_ := Aside0.mk (Kd.R_lower ho7 (below_size (by repeat (first | (with_reducible first | exact HB.out | apply below_alloc | apply pw_below_drewN | apply below_drew1 | refine below_set ?_ GE375.out) | exact HB.out)))); have n1_ := Aside0.mk (blk_below (g := gb375) (o := .cells #[.int .i64 a0_0, .slice A0_1 l0_1.length c0_1] 77 (0, 0)) (by (with_reducible repeat (first | refine blk_drewN ?_ _ | refine blk_drew ?_ | refine blk_alloc ?_ _)); exact BK375.out) hb); have n2_ := Aside0.mk (below_step (by repeat (first | (with_reducible first | exact HB.out | apply below_alloc | apply pw_below_drewN | apply below_drew1 | refine below_set ?_ GE375.out) | exact HB.out)) hb); clear BK375; clear HB; have HO378 := n0_; have BK375 := n1_; have HB := n2_; clear n0_ n1_ n2_; clear hb ho7))
   go_ret
   exact ⟨_, by first | rfl | (simp [errW_none, errW_some] <;> rfl) | (simp [*, errW_none, errW_some] <;> rfl), by (with_reducible repeat (first | apply Kd.R_alloc | apply Kd.R_drewN | apply Kd.R_drew)); exact HO378.out, by repeat (first | (with_reducible first | exact HB.out | apply below_alloc | apply pw_below_drewN | apply below_drew1 | refine below_set ?_ GE375.out) | exact HB.out)⟩
 · rw [if_neg c3] at H
   have c3b0 : (a1 == 0) = false := beq_eq_false_iff_ne.mpr c3
   have c3b1 : (a1 != 0) = true := bne_iff_ne.mpr c3
   obtain ⟨y379, hy379⟩ : ∃ y_ : List Int, y_ = (([] : List Int)) := ⟨_, rfl⟩
   replace H : (spec_l1Numbers.l0 k a1 y379 l0_1 (l0_1.length : Int) 0) = some r := by first | (rw [hy379]; with_reducible exact H) | (have H2_ := (Option.bind_some _ _).symm.trans H; rw [hy379]; with_reducible exact H2_) | (have H2_ := (Option.bind_some _ _).symm.trans H; with_reducible exact H2_) | with_reducible exact H | (rw [hy379]; exact H) | exact H
   have Ny379 := Aside0.mk hy379
   clear hy379
   have H' := Aside0.mk H
   clear H
   go_enter Tryd.func92, Tryd.ntmps92
   go_wp2_with (first | ((with_reducible refine gate_dst (N := 2) rfl ?_); refine box_event ?hg (N := 2) ?hd (cs := #[.int .i64 a0_0, .slice A0_1 l0_1.length c0_1]) (t := 77) ?hr ?_; (case hd => rfl); (case hg => rfl); (case hr => first | (go_simp; done) | (go_simp; rfl)); intro gb375 hg w8 hbox hb; have n0_ := Aside0.mk (below_step (by repeat (first | (with_reducible first | exact HB.out | apply below_alloc | apply pw_below_drewN | apply below_drew1) | exact HB.out)) hb); have n1_ := Aside0.mk (hbox); have n2_ := Aside0.mk ((by rw [hg]; exact (below_size (by repeat (first | (with_reducible first | exact HB.out | apply below_alloc | apply pw_below_drewN | apply below_drew1) | exact HB.out))) : w.heap.size ≤ gb375)); have n3_ := Aside0.mk ((by rw [hg]; exact (below_size (by repeat (first | (with_reducible first | exact HB.out | apply below_alloc | apply pw_below_drewN | apply below_drew1) | exact HB.out))) : w.heap.size ≤ gb375)); clear HB; have HB := n0_; have BK375 := n1_; have GW375 := n2_; have GE375 := n3_; clear n0_ n1_ n2_ n3_; clear hb hbox hg) | ((with_reducible refine gate_dst (N := 13) rfl ?_); refine Kd.R_lit (Kd.int .i64) _ 3 ?hg (N := 13) ?hd (xs := ([] : List Int)) (inner := []) (ok := fun _ => True) (okp := fun _ => True) ?hr ?hp (fun _ hk => hk) trivial (Below.refl _ _) (Nat.le_refl _) (by simp) ?_; (case hd => rfl); (case hg => rfl); (case hr => first | (go_simp; done) | (go_simp; rfl)); (case hp => exact (Reps.none _ _)); intro v380 w9 ho10 hb hg_ hnew_; clear hg_ hnew_; (first | rw [← Ny379.out] at ho10 | (simp only [Int.reduceToNat] at ho10; rw [← Ny379.out] at ho10)); have n0_ := Aside0.mk (Kd.R_lower ho10 (below_size (by repeat (first | (with_reducible first | exact HB.out | apply below_alloc | apply pw_below_drewN | apply below_drew1 | refine below_set ?_ GE375.out) | exact HB.out)))); have n1_ := Aside0.mk (blk_below (g := gb375) (o := .cells #[.int .i64 a0_0, .slice A0_1 l0_1.length c0_1] 77 (0, 0)) (by (with_reducible repeat (first | refine blk_drewN ?_ _ | refine blk_drew ?_ | refine blk_alloc ?_ _)); exact BK375.out) hb); have n2_ := Aside0.mk (below_step (by repeat (first | (with_reducible first | exact HB.out | apply below_alloc | apply pw_below_drewN | apply below_drew1 | refine below_set ?_ GE375.out) | exact HB.out)) hb); clear BK375; clear HB; have HO381 := n0_; have BK375 := n1_; have HB := n2_; clear n0_ n1_ n2_; clear hb ho10; have hcz11_0 : w9.cell? ⟨gb375, 0, none⟩ = some (.int .i64 a0_0) := (blk_cell BK375.out 0).trans rfl; have hcz11_1 : w9.cell? ⟨gb375, 1, none⟩ = some (.slice A0_1 l0_1.length c0_1) := (blk_cell BK375.out 1).trans rfl; have hfz11_0 := blk_frozen BK375.out 0; have hfz11_1 := blk_frozen BK375.out 1))
   go_loopg [5, 17] k (fun kq v5 v17 w' => ∃ (x5_1 : List Int) (x17_1 : Int), v17 = .int .i64 x17_1 ∧ Aside0 (spec_l1Numbers.l0 kq a1 x5_1 l0_1 (l0_1.length : Int) x17_1 = some r) ∧ Aside0 (kq ≤ k) ∧ Aside0 (Kd.R (Kd.int .i64) 3 w' w.heap.size (fun _ => True) v5 x5_1) ∧ Aside0 (w'.heap[gb375]? = some (.cells #[.int .i64 a0_0, (.slice A0_1 l0_1.length c0_1)] 77 (0, 0))) ∧ Aside0 (Below w.heap.size w w'))
   case atStart => exact ⟨(y379), (0), (by first | rfl | (simp; done) | (simp [*]; done)), H', ⟨Nat.le_refl _⟩, ⟨by (with_reducible repeat (first | apply Kd.R_alloc | apply Kd.R_drewN | apply Kd.R_drew)); exact HO381.out⟩, ⟨by (with_reducible repeat (first | refine blk_drewN ?_ _ | refine blk_drew ?_ | refine blk_alloc ?_ _)); exact BK375.out⟩, ⟨by repeat (first | (with_reducible first | exact HB.out | apply below_alloc | apply pw_below_drewN | apply below_drew1 | refine below_set ?_ GE375.out) | exact HB.out)⟩⟩
   case round =>
     clear H'
     try clear p2
     try clear c3
     try clear c3b0
     try clear c3b1
     try clear c9
     try clear hcz11_0
     try clear hcz11_1
     try clear hcz5_0
     try clear hcz5_1
     try clear hfz11_0
     try clear hfz11_1
     try clear hfz5_0
     try clear hfz5_1
     obtain ⟨x5_1, x17_1, rfl, HA, HK1, HO_5, BK375, HB⟩ := hrel
     cases gk with
     | zero => exact absurd HA.out (by simp [spec_l1Numbers.l0])
     | succ k1 =>
       have H := HA.out
       clear HA
       simp only [spec_l1Numbers.l0] at H
       by_cases c12 : x17_1 < (l0_1.length : Int)
       · rw [if_pos c12] at H
         have c12b0 : decide (x17_1 < (l0_1.length : Int)) = true := decide_eq_true c12
         clear c12
         by_cases c13 : 0 ≤ x17_1
         · rw [if_pos c13] at H
           have c13b0 : decide (0 ≤ x17_1) = true := decide_eq_true c13
           clear c13
           by_cases c14 : x17_1 < (l0_1.length : Int)
           · rw [if_pos c14] at H
             have c14b0 : decide (x17_1 < (l0_1.length : Int)) = true := decide_eq_true c14
             clear c14
             replace H := Option.bind_eq_some_iff.mp H
             obtain ⟨t384, A150, H⟩ := H
             replace H : (if x5_1.length + t384.length < 17592186044416 then (spec_l1Numbers.l0 k1 a1 (x5_1 ++ t384) l0_1 (l0_1.length : Int) (wrap64 (x17_1 + 1))) else (none)) = some r := H
             have A15 := Aside0.mk A150
             clear A150
             by_cases c16 : x5_1.length + t384.length < 17592186044416
             · rw [if_pos c16] at H
               have LMc16 := Aside0.mk c16
               clear c16
               obtain ⟨y387, hy387⟩ : ∃ y_ : List Int, y_ = (x5_1 ++ t384) := ⟨_, rfl⟩
               replace H : (spec_l1Numbers.l0 k1 a1 y387 l0_1 (l0_1.length : Int) (wrap64 (x17_1 + 1))) = some r := by first | (rw [hy387]; with_reducible exact H) | (have H2_ := (Option.bind_some _ _).symm.trans H; rw [hy387]; with_reducible exact H2_) | (have H2_ := (Option.bind_some _ _).symm.trans H; with_reducible exact H2_) | with_reducible exact H | (rw [hy387]; exact H) | exact H
               have Ny387 := Aside0.mk hy387
               clear hy387
               have H' := Aside0.mk H
               clear H
               have p382 : 0 ≤ (x17_1 : Int) := of_decide_eq_true (by first | (with_reducible assumption) | assumption)
               have q382 : x17_1 < (l0_1.length : Int) := of_decide_eq_true (by first | (with_reducible assumption) | assumption)
               obtain ⟨ad382, A382_1, c382_1, e382, hx382_0, hx382_1, hl382_1, hi382_1⟩ := at_T77 HR0_1.out x17_1 p382 q382
               cases e382
               replace hx382_0 := (HB.out.cell (World.block_lt_of_cell? w _ hx382_0)).trans hx382_0
               replace hx382_1 := (HB.out.cell (World.block_lt_of_cell? w _ hx382_1)).trans hx382_1
               have HR382_1 := Aside0.mk hi382_1
               have HC382_1 := Aside0.mk hl382_1
               clear hi382_1 hl382_1
               replace p382 := eq_true p382
               replace q382 := eq_true q382
               go_wp2_with (first | ((with_reducible refine gate_dst (N := 7) rfl ?_); refine box_event ?hg (N := 7) ?hd (cs := #[.int .i64 0, .slice none 0 0]) (t := 77) ?hr ?_; (case hd => rfl); (case hg => rfl); (case hr => first | (go_simp; done) | (go_simp; rfl)); intro gb383 hg w17 hbox hb; have n0_ := Aside0.mk (Kd.R_below (by (with_reducible repeat (first | apply Kd.R_alloc | apply Kd.R_drewN | apply Kd.R_drew)); exact HO_5.out) hb); have n1_ := Aside0.mk (blk_below (g := gb375) (o := .cells #[.int .i64 a0_0, .slice (some ad382) l0_1.length c0_1] 77 (0, 0)) (by (with_reducible repeat (first | refine blk_drewN ?_ _ | refine blk_drew ?_ | refine blk_alloc ?_ _)); exact BK375.out) hb); have n2_ := Aside0.mk (below_step (by repeat (first | (with_reducible first | exact HB.out | apply below_alloc | apply pw_below_drewN | apply below_drew1 | refine below_set ?_ GE375.out) | exact HB.out)) hb); have n3_ := Aside0.mk (hbox); have n4_ := Aside0.mk ((by rw [hg]; exact (below_size (by repeat (first | (with_reducible first | exact HB.out | apply below_alloc | apply pw_below_drewN | apply below_drew1 | refine below_set ?_ GE375.out) | exact HB.out))) : w.heap.size ≤ gb383)); have n5_ := Aside0.mk ((by rw [hg]; exact (below_size (by repeat (first | (with_reducible first | exact HB.out | apply below_alloc | apply pw_below_drewN | apply below_drew1 | refine below_set ?_ GE375.out) | exact HB.out))) : w.heap.size ≤ gb383)); have n6_ := Aside0.mk ((by rw [hg]; exact Nat.ne_of_lt (blk_lt (g := gb375) (o := .cells #[.int .i64 a0_0, .slice (some ad382) l0_1.length c0_1] 77 (0, 0)) (by (with_reducible repeat (first | refine blk_drewN ?_ _ | refine blk_drew ?_ | refine blk_alloc ?_ _)); exact BK375.out)) : gb375 ≠ gb383)); have n7_ := Aside0.mk ((by rw [hg]; exact Nat.ne_of_gt (blk_lt (g := gb375) (o := .cells #[.int .i64 a0_0, .slice (some ad382) l0_1.length c0_1] 77 (0, 0)) (by (with_reducible repeat (first | refine blk_drewN ?_ _ | refine blk_drew ?_ | refine blk_alloc ?_ _)); exact BK375.out)) : gb383 ≠ gb375)); clear HO_5; clear BK375; clear HB; have HO_5 := n0_; have BK375 := n1_; have HB := n2_; have BK383 := n3_; have GW383 := n4_; have GE383 := n5_; have NB375_383 := n6_; have NB383_375 := n7_; clear n0_ n1_ n2_ n3_ n4_ n5_ n6_ n7_; clear hb hbox hg; have hnb18 := NB383_375.out; have hnc18 := NB375_383.out; have hcz19_0 : w17.cell? ⟨gb383, 0, none⟩ = some (.int .i64 0) := (blk_cell BK383.out 0).trans rfl; have hcz19_1 : w17.cell? ⟨gb383, 1, none⟩ = some (.slice none 0 0) := (blk_cell BK383.out 1).trans rfl; have hfz19_0 := blk_frozen BK383.out 0; have hfz19_1 := blk_frozen BK383.out 1) | ((with_reducible refine gate_callee (f := 92) rfl ?_); refine goesL_ (some 25) rfl rfl Tryd.func92 (by kernel_rfl) rfl #[.agg #[.int .i64 ((rd_T77 l0_1 x17_1).f0), .slice A382_1 ((rd_T77 l0_1 x17_1).f1).length c382_1], .int .i64 (wrap64 (a1 - 1))] rfl (by (try simp only [List.map_toArray, List.map_cons, List.map_nil]); first | done | rfl | (simp only [List.length_drop, List.length_take]; rfl)) ?_; (with_reducible refine (ih k1 (by have := HK1.out; omega) ((rd_T77 l0_1 x17_1).f0) _ _ ((rd_T77 l0_1 x17_1).f1) (wrap64 (a1 - 1)) t384 _ ?side1 ?side2 A15.out).mono ?_); (case side1 => exact Kd.C_below HR382_1.out (by repeat (first | (with_reducible first | exact HB.out | apply below_alloc | apply pw_below_drewN | apply below_drew1 | refine below_set ?_ GE375.out | refine below_set ?_ GE383.out) | exact HB.out))); (case side2 => exact HC382_1.out); rintro e w20 ⟨v385, rfl, ho0, hb⟩; refine ⟨_, rfl, ?_⟩; have n0_ := Aside0.mk (Kd.R_elder' (by (with_reducible repeat (first | apply Kd.R_alloc | apply Kd.R_drewN | apply Kd.R_drew)); exact (Kd.R_mono (Kd.R_far (p := ⟨gb383, 1, none⟩) (Kd.R_far (p := ⟨gb383, 0, none⟩) (Kd.R_types HO_5.out BK383.out (by decide)) (fun _ hk => hk.2) (.int .i64 ((rd_T77 l0_1 x17_1).f0))) (fun _ hk => hk.2) (.slice A382_1 ((rd_T77 l0_1 x17_1).f1).length c382_1)) (fun _ h_ => h_.1))) (Kd.R_base ho0) hb); have n1_ := Aside0.mk (Kd.R_lower (Kd.R_new' ho0 (Kd.R_lt (by (with_reducible repeat (first | apply Kd.R_alloc | apply Kd.R_drewN | apply Kd.R_drew)); exact (Kd.R_mono (Kd.R_far (p := ⟨gb383, 1, none⟩) (Kd.R_far (p := ⟨gb383, 0, none⟩) (Kd.R_types HO_5.out BK383.out (by decide)) (fun _ hk => hk.2) (.int .i64 ((rd_T77 l0_1 x17_1).f0))) (fun _ hk => hk.2) (.slice A382_1 ((rd_T77 l0_1 x17_1).f1).length c382_1)) (fun _ h_ => h_.1))))) (below_size (by repeat (first | (with_reducible first | exact HB.out | apply below_alloc | apply pw_below_drewN | apply below_drew1 | refine below_set ?_ GE375.out | refine below_set ?_ GE383.out) | exact HB.out)))); have n2_ := Aside0.mk (blk_below (g := gb375) (o := .cells #[.int .i64 a0_0, .slice (some ad382) l0_1.length c0_1] 77 (0, 0)) (by (with_reducible repeat (first | refine blk_drewN ?_ _ | refine blk_drew ?_ | refine blk_alloc ?_ _)); refine blk_far ?_ NB375_383.out _; (with_reducible repeat (first | refine blk_drewN ?_ _ | refine blk_drew ?_ | refine blk_alloc ?_ _)); refine blk_far ?_ NB375_383.out _; (with_reducible repeat (first | refine blk_drewN ?_ _ | refine blk_drew ?_ | refine blk_alloc ?_ _)); exact BK375.out) hb); have n3_ := Aside0.mk (blk_below (g := gb383) (o := .cells #[.int .i64 ((rd_T77 l0_1 x17_1).f0), .slice A382_1 ((rd_T77 l0_1 x17_1).f1).length c382_1] 77 (0, 0)) (by (with_reducible repeat (first | refine blk_drewN ?_ _ | refine blk_drew ?_ | refine blk_alloc ?_ _)); refine blk_put (cs := #[.int .i64 ((rd_T77 l0_1 x17_1).f0), .slice none 0 0]) ?_ 1 _ rfl; (with_reducible repeat (first | refine blk_drewN ?_ _ | refine blk_drew ?_ | refine blk_alloc ?_ _)); refine blk_put (cs := #[.int .i64 0, .slice none 0 0]) ?_ 0 _ rfl; (with_reducible repeat (first | refine blk_drewN ?_ _ | refine blk_drew ?_ | refine blk_alloc ?_ _)); exact BK383.out) hb); have n4_ := Aside0.mk (below_step (by repeat (first | (with_reducible first | exact HB.out | apply below_alloc | apply pw_below_drewN | apply below_drew1 | refine below_set ?_ GE375.out | refine below_set ?_ GE383.out) | exact HB.out)) hb); clear HO_5; clear BK375; clear BK383; clear HB; have HO_5 := n0_; have HO386 := n1_; have BK375 := n2_; have BK383 := n3_; have HB := n4_; clear n0_ n1_ n2_ n3_ n4_; (try clear hb); (try clear hb2); (try clear hk); (try clear hi); (try clear ho0); obtain ⟨Ao22, co22, eo22⟩ := Kd.R_slice HO386.out; subst eo22) | ((with_reducible refine gate_builtin (b := .append) (xs := #[.tmp 21, .tmp 25]) rfl ?_); at_builtin; refine Kd.R_append_rows (Kd.int .i64) (w0 := w) w.heap.size rfl (.tmp 21) (.tmp 25) 25 3 (.int .i64 0) 8 rfl Tryd.underlying25 info3 rfl (by decide) (by omega) u5 x5_1 t384 _ _ _ (fun k_ => some k_ ≠ (.slice Ao22 t384.length co22 : Value).ownBlock) (fun _ => False) rfl rfl ?aO ?aR (fun _ _ h => h) (fun _ h => h.elim) ?aF ?aB ?aS ?aL ?_; (case aR => repeat (first | exact (Kd.R_reads' HO386.out).2.2 | (with_reducible refine Kd.C_alloc ?_ _) | (with_reducible refine Kd.C_drewN ?_ _) | (with_reducible refine Kd.C_drew ?_))); (case aB => exact (by repeat (first | (with_reducible first | exact HB.out | apply below_alloc | apply pw_below_drewN | apply below_drew1 | refine below_set ?_ GE375.out | refine below_set ?_ GE383.out) | exact HB.out))); (case aF => exact (fun k_ hk => Kd.fresh' (Kd.R_lt (by (with_reducible repeat (first | apply Kd.R_alloc | apply Kd.R_drewN | apply Kd.R_drew)); exact HO386.out)) k_ hk)); (case aO => exact (by (with_reducible repeat (first | apply Kd.R_alloc | apply Kd.R_drewN | apply Kd.R_drew)); exact Kd.R_mono HO_5.out (fun _ hk => hk.2))); (case aS => exact (below_size (by repeat (first | (with_reducible first | exact HB.out | apply below_alloc | apply pw_below_drewN | apply below_drew1 | refine below_set ?_ GE375.out | refine below_set ?_ GE383.out) | exact HB.out)))); (case aL => have := LMc16.out; omega); intro v388 w21 ho hb hg hat; rw [← Ny387.out] at ho; have n0_ := Aside0.mk (blk_grown (g := gb375) (o := .cells #[.int .i64 a0_0, .slice (some ad382) l0_1.length c0_1] 77 (0, 0)) (by (with_reducible repeat (first | refine blk_drewN ?_ _ | refine blk_drew ?_ | refine blk_alloc ?_ _)); exact BK375.out) hg (Kd.R_ne HO_5.out BK375.out (by decide))); have n1_ := Aside0.mk (blk_grown (g := gb383) (o := .cells #[.int .i64 ((rd_T77 l0_1 x17_1).f0), .slice A382_1 ((rd_T77 l0_1 x17_1).f1).length c382_1] 77 (0, 0)) (by (with_reducible repeat (first | refine blk_drewN ?_ _ | refine blk_drew ?_ | refine blk_alloc ?_ _)); exact BK383.out) hg (Kd.R_ne HO_5.out BK383.out (by decide))); have n2_ := Aside0.mk (Kd.R_after (ok := (fun _ => True)) (by (with_reducible repeat (first | apply Kd.R_alloc | apply Kd.R_drewN | apply Kd.R_drew)); exact HO386.out) hg hat); have n3_ := Aside0.mk (hb); have n4_ := Aside0.mk (ho); clear BK375; clear BK383; clear HO386; clear HB; clear HO_5; have BK375 := n0_; have BK383 := n1_; have HO386 := n2_; have HB := n3_; have HO389 := n4_; clear n0_ n1_ n2_ n3_ n4_; clear ho hb hg hat))
               go_roundg k1
               case measure => have := HK1.out; omega
               case rel => exact ⟨(y387), (wrap64 (x17_1 + 1)), (by first | rfl | (simp; done) | (simp [*]; done)), H', ⟨by have := HK1.out; omega⟩, ⟨by (with_reducible repeat (first | apply Kd.R_alloc | apply Kd.R_drewN | apply Kd.R_drew)); exact Kd.R_mono HO389.out (fun _ hk => trivial)⟩, ⟨by (with_reducible repeat (first | refine blk_drewN ?_ _ | refine blk_drew ?_ | refine blk_alloc ?_ _)); exact BK375.out⟩, ⟨by repeat (first | (with_reducible first | exact HB.out | apply below_alloc | apply pw_below_drewN | apply below_drew1 | refine below_set ?_ GE375.out | refine below_set ?_ GE383.out) | exact HB.out)⟩⟩
             · rw [if_neg c16] at H
               exact absurd H (by simp)
           · rw [if_neg c14] at H
             exact absurd H (by simp)
         · rw [if_neg c13] at H
           exact absurd H (by simp)
       · rw [if_neg c12] at H
         have c12b0 : decide (x17_1 < (l0_1.length : Int)) = false := decide_eq_false c12
         clear c12
         obtain rfl := Option.some.inj H
         go_wp2
         go_ret
         exact ⟨_, by first | rfl | (simp [errW_none, errW_some] <;> rfl) | (simp [*, errW_none, errW_some] <;> rfl), by (with_reducible repeat (first | apply Kd.R_alloc | apply Kd.R_drewN | apply Kd.R_drew)); exact HO_5.out, by repeat (first | (with_reducible first | exact HB.out | apply below_alloc | apply pw_below_drewN | apply below_drew1 | refine below_set ?_ GE375.out) | exact HB.out)⟩
theorem impl_arrOf.callsX (k : Nat) (a0 : ByteArray) (a1 : Int) (r0 : Int) (r1 : List S62) (r2 : Bool) (w : World) (hL : Sg.LaidW w) (av : Option Nat) (hav : ∀ b, av = some b → b < w.heap.size) (h : impl_arrOf.f k a0 a1 = some (r0, r1, r2)) :
   Calls Tryd.prog 38 #[.string a0, .int .i64 a1] w fun e w' => ∃ v1_ : Value, e = .returned (.tuple #[.agg #[.int .i64 r0, v1_], .bool r2]) ∧ (∃ A c, v1_ = .slice A r1.length c ∧ r1.length ≤ c ∧ ∀ w'' : World, (∀ b, b < w'.heap.size → some b ≠ av → w''.heap[b]? = w'.heap[b]?) → Kd.C k62 w'' A r1.length r1) ∧ Below w.heap.size w w' :=
 ((impl_arrOf.ctr k a0 a1 r0 r1 r2 h).2 w (fun b => b < w.heap.size ∧ some b ≠ av) 0 [.string a0, .int .i64 a1] hL (fun _ hb => hb.1) (fun T cs e => by cases e) ⟨_, _, rfl, ⟨rfl, rfl⟩, _, _, rfl, ⟨rfl, rfl⟩, rfl⟩).mono fun e w' ⟨vs, ro', he, hs⟩ => by
   obtain ⟨v, r, rfl, ⟨us, rfl, u1, q1, rfl, hu1, u2, q2, rfl, hu2, hq2⟩, v2, r', rfl, hv2, hr⟩ := hs.res
   obtain rfl : r' = [] := hr
   obtain rfl : q2 = [] := hq2
   obtain rfl : u1 = .int .i64 r0 := (show u1 = .int .i64 r0 ∧ _ from hu1).1
   obtain rfl : v2 = .bool r2 := (show v2 = .bool r2 ∧ _ from hv2).1
   obtain ⟨A, c, rfl, hc, _⟩ := r62_of r1 u2 hu2
   refine ⟨_, he, ⟨A, c, rfl, hc, fun w'' hw => ?_⟩, hs.os, hs.tape, hs.output, hs.size, fun k hk => hs.same k hk (fun e => absurd rfl e)⟩
   have hm := rep_mono (ro' := fun _ => True) (w' := w'') (fun b hb => ⟨trivial, hw b (hs.rob b hb).1 (fun he_ => by
     rcases (hs.rob b hb).2 with h1 | h1
     · exact h1.2 he_
     · have := hav b he_.symm
       omega)⟩) _ _ hu2
   obtain ⟨A', c', e', _, hC⟩ := r62_of r1 _ hm
   cases e'
   exact hC
theorem spec_l1Read.callsX (k : Nat) (a0 : ByteArray) (a1 : Int) (r0 : Int) (r1 : List S77) (r2 : Bool) (w : World) (hL : Sg.LaidW w) (av : Option Nat) (hav : ∀ b, av = some b → b < w.heap.size) (h : spec_l1Read.f k a0 a1 = some (r0, r1, r2)) :
   Calls Tryd.prog 65 #[.string a0, .int .i64 a1] w fun e w' => ∃ v1_ : Value, e = .returned (.tuple #[.agg #[.int .i64 r0, v1_], .bool r2]) ∧ (∃ A c, v1_ = .slice A r1.length c ∧ r1.length ≤ c ∧ ∀ w'' : World, (∀ b, b < w'.heap.size → some b ≠ av → w''.heap[b]? = w'.heap[b]?) → Kd.C k77 w'' A r1.length r1) ∧ Below w.heap.size w w' :=
 ((spec_l1Read.ctr k a0 a1 r0 r1 r2 h).2 w (fun b => b < w.heap.size ∧ some b ≠ av) 0 [.string a0, .int .i64 a1] hL (fun _ hb => hb.1) (fun T cs e => by cases e) ⟨_, _, rfl, ⟨rfl, rfl⟩, _, _, rfl, ⟨rfl, rfl⟩, rfl⟩).mono fun e w' ⟨vs, ro', he, hs⟩ => by
   obtain ⟨v, r, rfl, ⟨us, rfl, u1, q1, rfl, hu1, u2, q2, rfl, hu2, hq2⟩, v2, r', rfl, hv2, hr⟩ := hs.res
   obtain rfl : r' = [] := hr
   obtain rfl : q2 = [] := hq2
   obtain rfl : u1 = .int .i64 r0 := (show u1 = .int .i64 r0 ∧ _ from hu1).1
   obtain rfl : v2 = .bool r2 := (show v2 = .bool r2 ∧ _ from hv2).1
   obtain ⟨A, c, rfl, hc, _⟩ := r77_of r1 u2 hu2
   refine ⟨_, he, ⟨A, c, rfl, hc, fun w'' hw => ?_⟩, hs.os, hs.tape, hs.output, hs.size, fun k hk => hs.same k hk (fun e => absurd rfl e)⟩
   have hm := rep_mono (ro' := fun _ => True) (w' := w'') (fun b hb => ⟨trivial, hw b (hs.rob b hb).1 (fun he_ => by
     rcases (hs.rob b hb).2 with h1 | h1
     · exact h1.2 he_
     · have := hav b he_.symm
       omega)⟩) _ _ hu2
   obtain ⟨A', c', e', _, hC⟩ := r77_of r1 _ hm
   cases e'
   exact hC
set_option maxHeartbeats 8000000 in
set_option maxRecDepth 100000 in
theorem impl_rowsOf.callsS (k : Nat) (a0 : ByteArray) (r1 : List (List Int)) (r2 : Bool) (w : World) (hL_ : Sg.LaidW w) (h : impl_rowsOf.f k a0 = some (r1, r2)) :
   Calls Tryd.prog 58 #[.string a0] w fun e w' => ∃ v0_ : Value, e = .returned (.tuple #[v0_, .bool r2]) ∧ Kd.S (Kd.slice 3 (Kd.int .i64)) 25 w' w.heap.size (fun _ => True) v0_ r1 ∧ Below w.heap.size w w' := by
 have hu62 := Tryd.underlying62
 have HLd := Aside0.mk hL_
 clear hL_
 have HB := Aside0.mk (Below.refl w.heap.size w)
 unfold impl_rowsOf.f at h
 obtain ⟨⟨t0, t1, t2⟩, A20, H⟩ := Option.bind_eq_some_iff.mp h
 clear h
 have H' := Aside0.mk (show impl_rowsOf.l0 k t2 [] t1 (t1.length : Int) 0 = some (r1, r2) from H)
 have A2 := Aside0.mk A20
 clear A20 H
 go_enter Tryd.func58, Tryd.ntmps58
 go_wp2_with (first | ((with_reducible refine gate_callee (f := 38) rfl ?_); refine goesL_ (some 11) rfl rfl Tryd.func38 (by kernel_rfl) rfl #[.string a0, .int .i64 2] rfl (by (try simp only [List.map_toArray, List.map_cons, List.map_nil]); first | done | rfl) ?_; (with_reducible refine (impl_arrOf.callsX k a0 2 t0 t1 t2 _ (laid_b HLd.out HB.out) none (fun _ e_ => by cases e_) A2.out).mono ?_); rintro e w3 ⟨v3, rfl, ho, hb⟩; refine ⟨_, rfl, ?_⟩;  have n1_ := Aside0.mk (below_step HB.out hb); clear HB; have HB := n1_; clear n1_ hb; obtain ⟨A3, c3, e3, hc3, hr3⟩ := ho; subst e3; have HC3 := Aside0.mk hc3; have HR3 := Aside0.mk hr3; clear hc3 hr3) | ((with_reducible refine gate_dst (N := 4) rfl ?_); refine box_event ?hg (N := 4) ?hd (cs := #[.int .i64 0, .slice none 0 0]) (t := 62) ?hr ?_; (case hd => rfl); (case hg => rfl); (case hr => first | (go_simp; done) | (go_simp; rfl)); intro g hg w4 hbox hb;  have BK := Aside0.mk hbox; have n1_ := Aside0.mk (below_step HB.out hb); have HGE := Aside0.mk (show w.heap.size ≤ g from by rw [hg]; exact below_size HB.out); have HG3 := Aside0.mk (show w3.heap.size ≤ g from (Nat.le_of_eq hg.symm)); have HQ := Aside0.mk (show ∀ b, b < w3.heap.size → some b ≠ (none : Option Nat) → w4.heap[b]? = w3.heap[b]? from fun b hb_ _ => hb.block b hb_); clear HB; have HB := n1_; clear n1_ hb hbox hg; have hcz0 : w4.cell? ⟨g, 0, none⟩ = some (.int .i64 0) := (blk_cell BK.out 0).trans rfl; have hcz1 : w4.cell? ⟨g, 1, none⟩ = some (.slice none 0 0) := (blk_cell BK.out 1).trans rfl; have hfz0 := blk_frozen BK.out 0; have hfz1 := blk_frozen BK.out 1) | ((with_reducible refine gate_dst (N := 14) rfl ?_); refine Kd.S_lit (Kd.slice 3 (Kd.int .i64)) _ 25 ?hg (N := 14) ?hd (xs := ([] : List (List Int))) (inner := []) (ok := fun _ => True) (okp := fun _ => True) ?hr ?hp (fun _ hk => hk) trivial (Below.refl _ _) (Nat.le_refl _) (by simp) ?_; (case hd => rfl); (case hg => rfl); (case hr => first | (go_simp; done) | (go_simp; rfl)); (case hp => exact (Reps.none _ _)); intro vl wl hS hb hg_ hnew_; have HB2 := Aside0.mk (below_set (j := 1) (v := .slice A3 t1.length c3) (below_set (j := 0) (v := .int .i64 t0) HB.out HGE.out) HGE.out); have HS' := Aside0.mk (Kd.S_lower hS (below_size HB2.out)); have HB' := Aside0.mk (below_step HB2.out hb); have HV' := Aside0.mk (show ∀ b, vl.ownBlock = some b → some b = (none : Option Nat) ∨ w3.heap.size ≤ b from fun b hb_ => .inr (by have h1_ := Kd.S_base hS b hb_; have h2_ := blk_lt BK.out; have h3_ := HG3.out; simp only [World.size_setCell] at h1_; omega)); have BK' := Aside0.mk (blk_below (blk_put (blk_put BK.out 0 (.int .i64 t0) rfl) 1 (.slice A3 t1.length c3) rfl) hb); have HQ' := Aside0.mk (show ∀ b, b < w3.heap.size → some b ≠ (none : Option Nat) → wl.heap[b]? = w3.heap[b]? from fun b hb_ hn_ => (hb.block b (by have h2_ := blk_lt BK.out; have h3_ := HG3.out; simp only [World.size_setCell]; omega)).trans ((Below.heap_setCell _ ⟨g, 1, none⟩ (.slice A3 t1.length c3) b (by have := HG3.out; show b ≠ g; omega)).trans ((Below.heap_setCell _ ⟨g, 0, none⟩ (.int .i64 t0) b (by have := HG3.out; show b ≠ g; omega)).trans (HQ.out b hb_ hn_)))); clear HB2 HB BK HQ hb hg_ hnew_ hS; have hcy0 : wl.cell? ⟨g, 0, none⟩ = some (.int .i64 t0) := (blk_cell BK'.out 0).trans rfl; have hcy1 : wl.cell? ⟨g, 1, none⟩ = some (.slice A3 t1.length c3) := (blk_cell BK'.out 1).trans rfl; have hfy0 := blk_frozen BK'.out 0; have hfy1 := blk_frozen BK'.out 1))
 skip
 go_loopg [6, 18] k (fun kq v6 v18 w' => ∃ (x : List (List Int)) (i : Int), v18 = .int .i64 i ∧ Aside0 (impl_rowsOf.l0 kq t2 x t1 (t1.length : Int) i = some (r1, r2)) ∧ Aside0 (kq ≤ k) ∧ Aside0 (Kd.S (Kd.slice 3 (Kd.int .i64)) 25 w' w.heap.size (fun _ => True) v6 x) ∧ Aside0 (∀ b, v6.ownBlock = some b → some b = (none : Option Nat) ∨ w3.heap.size ≤ b) ∧ Aside0 (∀ b, b < w3.heap.size → some b ≠ (none : Option Nat) → w'.heap[b]? = w3.heap[b]?) ∧ Aside0 (w'.heap[g]? = some (.cells #[.int .i64 t0, .slice A3 t1.length c3] 62 (0, 0))) ∧ Aside0 (w3.heap.size ≤ w'.heap.size) ∧ Aside0 (Below w.heap.size w w'))
 case atStart => exact ⟨[], 0, (by first | rfl | (simp; done)), H', ⟨Nat.le_refl _⟩, HS', HV', HQ', BK', ⟨by have := blk_lt BK'.out; have := HG3.out; omega⟩, HB'⟩
 case round =>
   clear H'
   obtain ⟨x, i, rfl, HA, HK1, HS, HV, HQ, BK, HZ, HB⟩ := hrel
   cases gk with
   | zero => exact absurd HA.out (by simp [impl_rowsOf.l0])
   | succ k1 =>
     have H := HA.out
     clear HA
     simp only [impl_rowsOf.l0] at H
     by_cases c1 : i < (t1.length : Int)
     · rw [if_pos c1] at H
       have c1b : decide (i < (t1.length : Int)) = true := decide_eq_true c1
       by_cases c2 : 0 ≤ i
       · rw [if_pos c2] at H
         rw [if_pos c1] at H
         have c2b : decide (0 ≤ i) = true := decide_eq_true c2
         replace H := Option.bind_eq_some_iff.mp H
         obtain ⟨p, A130, H⟩ := H
         have A13 := Aside0.mk A130
         clear A130
         by_cases c4 : x.length < 5864062014805
         · rw [if_pos c4] at H
           have LM := Aside0.mk c4
           clear c4
           have H' := Aside0.mk (show impl_rowsOf.l0 k1 t2 (x ++ [p]) t1 (t1.length : Int) (wrap64 (i + 1)) = some (r1, r2) from H)
           clear H
           obtain ⟨ad, A1, c1_, e1, hx0, hx1, hl1, hi1⟩ := at_T62 (HR3.out wr HQ.out) i c2 c1
           cases e1
           have HL1 := Aside0.mk hl1
           have HI1 := Aside0.mk hi1
           clear hl1 hi1
           have HI0 := HI1
           go_wp2_with (first | ((with_reducible refine gate_dst (N := 8) rfl ?_); refine box_event ?hg (N := 8) ?hd (cs := #[.int .i64 0, .slice none 0 0]) (t := 62) ?hr ?_; (case hd => rfl); (case hg => rfl); (case hr => first | (go_simp; done) | (go_simp; rfl)); intro g2 hg w5 hbox hb; have n0_ := Aside0.mk (Kd.S_below HS.out hb); have n1_ := Aside0.mk (Kd.C_below HI1.out hb); have n2_ := Aside0.mk (blk_below BK.out hb); have n3_ := Aside0.mk (below_step HB.out hb); have n4_ := Aside0.mk (show ∀ b, b < w3.heap.size → some b ≠ (none : Option Nat) → w5.heap[b]? = w3.heap[b]? from fun b hb_ hn_ => (hb.block b (Nat.lt_of_lt_of_le hb_ HZ.out)).trans (HQ.out b hb_ hn_)); have BK2 := Aside0.mk hbox; have HGE2 := Aside0.mk (show w.heap.size ≤ g2 from by rw [hg]; exact below_size HB.out); have HG2 := Aside0.mk (show w3.heap.size ≤ g2 from by rw [hg]; exact HZ.out); have HQ2 := Aside0.mk (show Below wr.heap.size wr w5 from hb); have HGW := Aside0.mk (show wr.heap.size ≤ g2 from (Nat.le_of_eq hg.symm)); have NB1 := Aside0.mk (show g ≠ g2 from by have := blk_lt BK.out; omega); have NB2 := Aside0.mk (show g2 ≠ g from by have := blk_lt BK.out; omega); clear HS HI1 BK HB HQ; have HS := n0_; have HI1 := n1_; have BK := n2_; have HB := n3_; have HQ := n4_; clear n0_ n1_ n2_ n3_ n4_ hb hbox hg; have hnb := NB2.out; have hnc := NB1.out; have hcv0 : w5.cell? ⟨g2, 0, none⟩ = some (.int .i64 0) := (blk_cell BK2.out 0).trans rfl; have hcv1 : w5.cell? ⟨g2, 1, none⟩ = some (.slice none 0 0) := (blk_cell BK2.out 1).trans rfl; have hfv0 := blk_frozen BK2.out 0; have hfv1 := blk_frozen BK2.out 1) | ((with_reducible refine gate_callee (f := 91) rfl ?_); refine goesL_ (some 24) rfl rfl Tryd.func91 (by kernel_rfl) rfl #[.agg #[.int .i64 ((rd_T62 t1 i).f0), .slice A1 ((rd_T62 t1 i).f1).length c1_], .int .i64 1] rfl (by (try simp only [List.map_toArray, List.map_cons, List.map_nil]); first | done | rfl) ?_; (with_reducible refine (impl_arr_numbers.calls k1 ((rd_T62 t1 i).f0) _ _ ((rd_T62 t1 i).f1) 1 p _ ?side1 ?side2 A13.out).mono ?_); (case side1 => exact Kd.C_below HI0.out (below_set (j := 1) (below_set (j := 0) HQ2.out HGW.out) HGW.out)); (case side2 => exact HL1.out); rintro e w6 ⟨v6_, rfl, ho0, hb⟩; refine ⟨_, rfl, ?_⟩; have n0_ := Aside0.mk (Kd.S_elder' (Kd.S_set (Kd.S_set HS.out BK2.out (by decide) 0 (.int .i64 ((rd_T62 t1 i).f0))) (blk_put BK2.out 0 (.int .i64 ((rd_T62 t1 i).f0)) rfl) (by decide) 1 (.slice A1 ((rd_T62 t1 i).f1).length c1_)) (Kd.R_base ho0) hb); have n2_ := Aside0.mk (blk_below (blk_far (blk_far BK.out NB1.out (.int .i64 ((rd_T62 t1 i).f0))) NB1.out (.slice A1 ((rd_T62 t1 i).f1).length c1_)) hb); have HBs := Aside0.mk (below_set (j := 1) (v := .slice A1 ((rd_T62 t1 i).f1).length c1_) (below_set (j := 0) (v := .int .i64 ((rd_T62 t1 i).f0)) HB.out HGE2.out) HGE2.out); have n3_ := Aside0.mk (below_step HBs.out hb); have n4_ := Aside0.mk (show ∀ b, b < w3.heap.size → some b ≠ (none : Option Nat) → w6.heap[b]? = w3.heap[b]? from fun b hb_ hn_ => (hb.block b (by have h1_ := blk_lt BK2.out; have h2_ := HG2.out; simp only [World.size_setCell]; omega)).trans ((Below.heap_setCell _ ⟨g2, 1, none⟩ (.slice A1 ((rd_T62 t1 i).f1).length c1_) b (by have := HG2.out; show b ≠ g2; omega)).trans ((Below.heap_setCell _ ⟨g2, 0, none⟩ (.int .i64 ((rd_T62 t1 i).f0)) b (by have := HG2.out; show b ≠ g2; omega)).trans (HQ.out b hb_ hn_)))); have n5_ := Aside0.mk (show w3.heap.size ≤ w6.heap.size from by have h1_ := below_size hb; have h2_ := blk_lt BK2.out; have h3_ := HG2.out; simp only [World.size_setCell] at h1_; omega); have HOP := Aside0.mk (Kd.R_lower ho0 (below_size HBs.out)); clear HS BK HB HQ HBs HZ; have HS := n0_; have BK := n2_; have HB := n3_; have HQ := n4_; have HZ := n5_; clear n0_ n2_ n3_ n4_ n5_ hb ho0; obtain ⟨Ao, co, eo⟩ := Kd.R_slice HOP.out; subst eo) | ((with_reducible refine gate_builtin (b := .append) (xs := #[.tmp 22, .tmp 25]) rfl ?_); at_builtin; refine Kd.S_append (Kd.slice 3 (Kd.int .i64)) (w0 := w) w.heap.size rfl (.tmp 22) (.tmp 25) 24 25 (.slice none 0 0) 24 rfl Tryd.underlying24 info22 rfl (by decide) (by omega) u6 x p [.slice Ao p.length co] (fun _ => True) (fun k_ => some k_ = (.slice Ao p.length co : Value).ownBlock) rfl rfl ?aP (fun k_ hk_ => ((Kd.R_mono (ok' := fun k_ => ((fun _ => True)) k_ ∧ some k_ ≠ (u6 : Value).ownBlock) (Kd.R_apart' (HOP.out) (Kd.S_typed HS.out) (by decide)) (fun k_ hk => ⟨trivial, hk.2⟩))).1 k_ hk_.symm) ?aF ?aO ?aB ?aS ?aL ?_; (case aP => exact Kd.M_row (Kd.R_tight rfl (Kd.R_mono (ok' := fun _ => True) HOP.out (fun _ _ => trivial)))); (case aB => exact HB.out); (case aF => exact (fun _ _ => trivial)); (case aO => exact Kd.S_mono HS.out (fun k_ hk => ⟨trivial, fun e_ => hk.2 e_⟩)); (case aS => exact below_size HB.out); (case aL => have := LM.out; omega); intro v7 w7 ho hb hg hat; have n0_ := Aside0.mk ho; have n1_ := Aside0.mk (blk_grown BK.out hg (Kd.S_ne HS.out BK.out (by decide))); have n2_ := Aside0.mk hb; have n3_ := Aside0.mk (show ∀ b, b < w3.heap.size → some b ≠ (none : Option Nat) → w7.heap[b]? = w3.heap[b]? from fun b hb_ hn_ => (hg.block b (Nat.lt_of_lt_of_le hb_ HZ.out) (fun e_ => by rcases HV.out b e_.symm with h1 | h1; exact hn_ h1; omega)).trans (HQ.out b hb_ hn_)); have n4_ := Aside0.mk (show ∀ b, v7.ownBlock = some b → some b = (none : Option Nat) ∨ w3.heap.size ≤ b from fun b e_ => by rcases hat with h1 | ⟨b', h1, h2⟩; exact HV.out b (h1 ▸ e_); (have h3 : b' = b := by rw [h1] at e_; exact Option.some.inj e_); exact .inr (by have := HZ.out; omega)); have n5_ := Aside0.mk (show w3.heap.size ≤ w7.heap.size from Nat.le_trans HZ.out hg.size); clear HS BK HB HQ HV HZ; have HS := n0_; have BK := n1_; have HB := n2_; have HQ := n3_; have HV := n4_; have HZ := n5_; clear n0_ n1_ n2_ n3_ n4_ n5_ ho hb hg hat))
           go_roundg k1
           case measure => have := HK1.out; omega
           case rel => exact ⟨_, _, (by first | rfl | (simp; done)), H', ⟨by have := HK1.out; omega⟩, HS, HV, HQ, BK, HZ, HB⟩
         · rw [if_neg c4] at H
           exact absurd H (by simp)
       · rw [if_neg c2] at H
         exact absurd H (by simp)
     · rw [if_neg c1] at H
       have c1b : decide (i < (t1.length : Int)) = false := decide_eq_false c1
       clear c1
       simp only [Option.some.injEq, Prod.mk.injEq] at H
       obtain ⟨rfl, rfl⟩ := H
       go_wp2
       go_ret2
       exact ⟨_, by first | rfl | (simp; done), HS.out, HB.out⟩
set_option maxHeartbeats 8000000 in
set_option maxRecDepth 100000 in
theorem spec_l11Any.callsS (k : Nat) (a0 : ByteArray) (r1 : List (List Int)) (r2 : Bool) (w : World) (hL_ : Sg.LaidW w) (h : spec_l11Any.f k a0 = some (r1, r2)) :
   Calls Tryd.prog 60 #[.string a0] w fun e w' => ∃ v0_ : Value, e = .returned (.tuple #[v0_, .bool r2]) ∧ Kd.S (Kd.slice 3 (Kd.int .i64)) 25 w' w.heap.size (fun _ => True) v0_ r1 ∧ Below w.heap.size w w' := by
 have hu77 := Tryd.underlying77
 have HLd := Aside0.mk hL_
 clear hL_
 have HB := Aside0.mk (Below.refl w.heap.size w)
 unfold spec_l11Any.f at h
 obtain ⟨⟨t0, t1, t2⟩, A20, H⟩ := Option.bind_eq_some_iff.mp h
 clear h
 have H' := Aside0.mk (show spec_l11Any.l0 k [] t2 t1 (t1.length : Int) 0 = some (r1, r2) from H)
 have A2 := Aside0.mk A20
 clear A20 H
 go_enter Tryd.func60, Tryd.ntmps60
 go_wp2_with (first | ((with_reducible refine gate_dst (N := 9) rfl ?_); refine Kd.S_lit (Kd.slice 3 (Kd.int .i64)) _ 25 ?hg (N := 9) ?hd (xs := ([] : List (List Int))) (inner := []) (ok := fun _ => True) (okp := fun _ => True) ?hr ?hp (fun _ hk => hk) trivial (Below.refl _ _) (Nat.le_refl _) (by simp) ?_; (case hd => rfl); (case hg => rfl); (case hr => first | (go_simp; done) | (go_simp; rfl)); (case hp => exact (Reps.none _ _)); intro vl wl hS hb hg_ hnew_; have HS := Aside0.mk (Kd.S_lower hS (below_size HB.out)); have n1_ := Aside0.mk (below_step HB.out hb); clear HB; have HB := n1_; have HVL := Aside0.mk (Kd.S_lt hS); clear n1_ hb hg_ hnew_ hS) | ((with_reducible refine gate_callee (f := 65) rfl ?_); refine goesL_ (some 12) rfl rfl Tryd.func65 (by kernel_rfl) rfl #[.string a0, .int .i64 2] rfl (by (try simp only [List.map_toArray, List.map_cons, List.map_nil]); first | done | rfl) ?_; (with_reducible refine (spec_l1Read.callsX k a0 2 t0 t1 t2 _ (laid_b HLd.out HB.out) vl.ownBlock HVL.out A2.out).mono ?_); rintro e w3 ⟨v3, rfl, ho, hb⟩; refine ⟨_, rfl, ?_⟩; have n0_ := Aside0.mk (Kd.S_below HS.out hb); clear HS; have HS := n0_; clear n0_; have n1_ := Aside0.mk (below_step HB.out hb); clear HB; have HB := n1_; clear n1_ hb; obtain ⟨A3, c3, e3, hc3, hr3⟩ := ho; subst e3; have HC3 := Aside0.mk hc3; have HR3 := Aside0.mk hr3; clear hc3 hr3) | ((with_reducible refine gate_dst (N := 5) rfl ?_); refine box_event ?hg (N := 5) ?hd (cs := #[.int .i64 0, .slice none 0 0]) (t := 77) ?hr ?_; (case hd => rfl); (case hg => rfl); (case hr => first | (go_simp; done) | (go_simp; rfl)); intro g hg w4 hbox hb; have n0_ := Aside0.mk (Kd.S_below HS.out hb); clear HS; have HS := n0_; clear n0_; have BK := Aside0.mk hbox; have n1_ := Aside0.mk (below_step HB.out hb); have HGE := Aside0.mk (show w.heap.size ≤ g from by rw [hg]; exact below_size HB.out); have HG3 := Aside0.mk (show w3.heap.size ≤ g from (Nat.le_of_eq hg.symm)); have HQ := Aside0.mk (show ∀ b, b < w3.heap.size → some b ≠ vl.ownBlock → w4.heap[b]? = w3.heap[b]? from fun b hb_ _ => hb.block b hb_); clear HB; have HB := n1_; clear n1_ hb hbox hg; have hcz0 : w4.cell? ⟨g, 0, none⟩ = some (.int .i64 0) := (blk_cell BK.out 0).trans rfl; have hcz1 : w4.cell? ⟨g, 1, none⟩ = some (.slice none 0 0) := (blk_cell BK.out 1).trans rfl; have hfz0 := blk_frozen BK.out 0; have hfz1 := blk_frozen BK.out 1))
 have HS' := Aside0.mk (show Kd.S (Kd.slice 3 (Kd.int .i64)) 25 _ w.heap.size (fun _ => True) vl [] from Kd.S_set (Kd.S_set HS.out BK.out (by decide) 0 (.int .i64 t0)) (blk_put BK.out 0 (.int .i64 t0) rfl) (by decide) 1 (.slice A3 t1.length c3))
 have HV' := Aside0.mk (show ∀ b, vl.ownBlock = some b → some b = vl.ownBlock ∨ w3.heap.size ≤ b from fun b hb_ => .inl hb_.symm)
 have HB' := Aside0.mk (below_set (j := 1) (v := .slice A3 t1.length c3) (below_set (j := 0) (v := .int .i64 t0) HB.out HGE.out) HGE.out)
 have BK' := Aside0.mk (blk_put (blk_put BK.out 0 (.int .i64 t0) rfl) 1 (.slice A3 t1.length c3) rfl)
 have HQ' := Aside0.mk (show ∀ b, b < w3.heap.size → some b ≠ vl.ownBlock → _ = w3.heap[b]? from fun b hb_ hn_ => (Below.heap_setCell _ ⟨g, 1, none⟩ (.slice A3 t1.length c3) b (by have := HG3.out; show b ≠ g; omega)).trans ((Below.heap_setCell _ ⟨g, 0, none⟩ (.int .i64 t0) b (by have := HG3.out; show b ≠ g; omega)).trans (HQ.out b hb_ hn_)))
 clear HS HB BK HQ
 go_loopg [4, 18] k (fun kq v6 v18 w' => ∃ (x : List (List Int)) (i : Int), v18 = .int .i64 i ∧ Aside0 (spec_l11Any.l0 kq x t2 t1 (t1.length : Int) i = some (r1, r2)) ∧ Aside0 (kq ≤ k) ∧ Aside0 (Kd.S (Kd.slice 3 (Kd.int .i64)) 25 w' w.heap.size (fun _ => True) v6 x) ∧ Aside0 (∀ b, v6.ownBlock = some b → some b = vl.ownBlock ∨ w3.heap.size ≤ b) ∧ Aside0 (∀ b, b < w3.heap.size → some b ≠ vl.ownBlock → w'.heap[b]? = w3.heap[b]?) ∧ Aside0 (w'.heap[g]? = some (.cells #[.int .i64 t0, .slice A3 t1.length c3] 77 (0, 0))) ∧ Aside0 (w3.heap.size ≤ w'.heap.size) ∧ Aside0 (Below w.heap.size w w'))
 case atStart => exact ⟨[], 0, (by first | rfl | (simp; done)), H', ⟨Nat.le_refl _⟩, HS', HV', HQ', BK', ⟨by have := blk_lt BK'.out; have := HG3.out; omega⟩, HB'⟩
 case round =>
   clear H'
   obtain ⟨x, i, rfl, HA, HK1, HS, HV, HQ, BK, HZ, HB⟩ := hrel
   cases gk with
   | zero => exact absurd HA.out (by simp [spec_l11Any.l0])
   | succ k1 =>
     have H := HA.out
     clear HA
     simp only [spec_l11Any.l0] at H
     by_cases c1 : i < (t1.length : Int)
     · rw [if_pos c1] at H
       have c1b : decide (i < (t1.length : Int)) = true := decide_eq_true c1
       by_cases c2 : 0 ≤ i
       · rw [if_pos c2] at H
         rw [if_pos c1] at H
         have c2b : decide (0 ≤ i) = true := decide_eq_true c2
         replace H := Option.bind_eq_some_iff.mp H
         obtain ⟨p, A130, H⟩ := H
         have A13 := Aside0.mk A130
         clear A130
         by_cases c4 : x.length < 5864062014805
         · rw [if_pos c4] at H
           have LM := Aside0.mk c4
           clear c4
           have H' := Aside0.mk (show spec_l11Any.l0 k1 (x ++ [p]) t2 t1 (t1.length : Int) (wrap64 (i + 1)) = some (r1, r2) from H)
           clear H
           obtain ⟨ad, A1, c1_, e1, hx0, hx1, hl1, hi1⟩ := at_T77 (HR3.out wr HQ.out) i c2 c1
           cases e1
           have HL1 := Aside0.mk hl1
           have HI1 := Aside0.mk hi1
           clear hl1 hi1
           have HI0 := HI1
           go_wp2_with (first | ((with_reducible refine gate_dst (N := 8) rfl ?_); refine box_event ?hg (N := 8) ?hd (cs := #[.int .i64 0, .slice none 0 0]) (t := 77) ?hr ?_; (case hd => rfl); (case hg => rfl); (case hr => first | (go_simp; done) | (go_simp; rfl)); intro g2 hg w5 hbox hb; have n0_ := Aside0.mk (Kd.S_below HS.out hb); have n1_ := Aside0.mk (Kd.C_below HI1.out hb); have n2_ := Aside0.mk (blk_below BK.out hb); have n3_ := Aside0.mk (below_step HB.out hb); have n4_ := Aside0.mk (show ∀ b, b < w3.heap.size → some b ≠ vl.ownBlock → w5.heap[b]? = w3.heap[b]? from fun b hb_ hn_ => (hb.block b (Nat.lt_of_lt_of_le hb_ HZ.out)).trans (HQ.out b hb_ hn_)); have BK2 := Aside0.mk hbox; have HGE2 := Aside0.mk (show w.heap.size ≤ g2 from by rw [hg]; exact below_size HB.out); have HG2 := Aside0.mk (show w3.heap.size ≤ g2 from by rw [hg]; exact HZ.out); have HQ2 := Aside0.mk (show Below wr.heap.size wr w5 from hb); have HGW := Aside0.mk (show wr.heap.size ≤ g2 from (Nat.le_of_eq hg.symm)); have NB1 := Aside0.mk (show g ≠ g2 from by have := blk_lt BK.out; omega); have NB2 := Aside0.mk (show g2 ≠ g from by have := blk_lt BK.out; omega); clear HS HI1 BK HB HQ; have HS := n0_; have HI1 := n1_; have BK := n2_; have HB := n3_; have HQ := n4_; clear n0_ n1_ n2_ n3_ n4_ hb hbox hg; have hnb := NB2.out; have hnc := NB1.out; have hcv0 : w5.cell? ⟨g2, 0, none⟩ = some (.int .i64 0) := (blk_cell BK2.out 0).trans rfl; have hcv1 : w5.cell? ⟨g2, 1, none⟩ = some (.slice none 0 0) := (blk_cell BK2.out 1).trans rfl; have hfv0 := blk_frozen BK2.out 0; have hfv1 := blk_frozen BK2.out 1) | ((with_reducible refine gate_callee (f := 92) rfl ?_); refine goesL_ (some 24) rfl rfl Tryd.func92 (by kernel_rfl) rfl #[.agg #[.int .i64 ((rd_T77 t1 i).f0), .slice A1 ((rd_T77 t1 i).f1).length c1_], .int .i64 1] rfl (by (try simp only [List.map_toArray, List.map_cons, List.map_nil]); first | done | rfl) ?_; (with_reducible refine (spec_l1Numbers.calls k1 ((rd_T77 t1 i).f0) _ _ ((rd_T77 t1 i).f1) 1 p _ ?side1 ?side2 A13.out).mono ?_); (case side1 => exact Kd.C_below HI0.out (below_set (j := 1) (below_set (j := 0) HQ2.out HGW.out) HGW.out)); (case side2 => exact HL1.out); rintro e w6 ⟨v6_, rfl, ho0, hb⟩; refine ⟨_, rfl, ?_⟩; have n0_ := Aside0.mk (Kd.S_elder' (Kd.S_set (Kd.S_set HS.out BK2.out (by decide) 0 (.int .i64 ((rd_T77 t1 i).f0))) (blk_put BK2.out 0 (.int .i64 ((rd_T77 t1 i).f0)) rfl) (by decide) 1 (.slice A1 ((rd_T77 t1 i).f1).length c1_)) (Kd.R_base ho0) hb); have n2_ := Aside0.mk (blk_below (blk_far (blk_far BK.out NB1.out (.int .i64 ((rd_T77 t1 i).f0))) NB1.out (.slice A1 ((rd_T77 t1 i).f1).length c1_)) hb); have HBs := Aside0.mk (below_set (j := 1) (v := .slice A1 ((rd_T77 t1 i).f1).length c1_) (below_set (j := 0) (v := .int .i64 ((rd_T77 t1 i).f0)) HB.out HGE2.out) HGE2.out); have n3_ := Aside0.mk (below_step HBs.out hb); have n4_ := Aside0.mk (show ∀ b, b < w3.heap.size → some b ≠ vl.ownBlock → w6.heap[b]? = w3.heap[b]? from fun b hb_ hn_ => (hb.block b (by have h1_ := blk_lt BK2.out; have h2_ := HG2.out; simp only [World.size_setCell]; omega)).trans ((Below.heap_setCell _ ⟨g2, 1, none⟩ (.slice A1 ((rd_T77 t1 i).f1).length c1_) b (by have := HG2.out; show b ≠ g2; omega)).trans ((Below.heap_setCell _ ⟨g2, 0, none⟩ (.int .i64 ((rd_T77 t1 i).f0)) b (by have := HG2.out; show b ≠ g2; omega)).trans (HQ.out b hb_ hn_)))); have n5_ := Aside0.mk (show w3.heap.size ≤ w6.heap.size from by have h1_ := below_size hb; have h2_ := blk_lt BK2.out; have h3_ := HG2.out; simp only [World.size_setCell] at h1_; omega); have HOP := Aside0.mk (Kd.R_lower ho0 (below_size HBs.out)); clear HS BK HB HQ HBs HZ; have HS := n0_; have BK := n2_; have HB := n3_; have HQ := n4_; have HZ := n5_; clear n0_ n2_ n3_ n4_ n5_ hb ho0; obtain ⟨Ao, co, eo⟩ := Kd.R_slice HOP.out; subst eo) | ((with_reducible refine gate_builtin (b := .append) (xs := #[.tmp 22, .tmp 25]) rfl ?_); at_builtin; refine Kd.S_append (Kd.slice 3 (Kd.int .i64)) (w0 := w) w.heap.size rfl (.tmp 22) (.tmp 25) 24 25 (.slice none 0 0) 24 rfl Tryd.underlying24 info22 rfl (by decide) (by omega) u4 x p [.slice Ao p.length co] (fun _ => True) (fun k_ => some k_ = (.slice Ao p.length co : Value).ownBlock) rfl rfl ?aP (fun k_ hk_ => ((Kd.R_mono (ok' := fun k_ => ((fun _ => True)) k_ ∧ some k_ ≠ (u4 : Value).ownBlock) (Kd.R_apart' (HOP.out) (Kd.S_typed HS.out) (by decide)) (fun k_ hk => ⟨trivial, hk.2⟩))).1 k_ hk_.symm) ?aF ?aO ?aB ?aS ?aL ?_; (case aP => exact Kd.M_row (Kd.R_tight rfl (Kd.R_mono (ok' := fun _ => True) HOP.out (fun _ _ => trivial)))); (case aB => exact HB.out); (case aF => exact (fun _ _ => trivial)); (case aO => exact Kd.S_mono HS.out (fun k_ hk => ⟨trivial, fun e_ => hk.2 e_⟩)); (case aS => exact below_size HB.out); (case aL => have := LM.out; omega); intro v7 w7 ho hb hg hat; have n0_ := Aside0.mk ho; have n1_ := Aside0.mk (blk_grown BK.out hg (Kd.S_ne HS.out BK.out (by decide))); have n2_ := Aside0.mk hb; have n3_ := Aside0.mk (show ∀ b, b < w3.heap.size → some b ≠ vl.ownBlock → w7.heap[b]? = w3.heap[b]? from fun b hb_ hn_ => (hg.block b (Nat.lt_of_lt_of_le hb_ HZ.out) (fun e_ => by rcases HV.out b e_.symm with h1 | h1; exact hn_ h1; omega)).trans (HQ.out b hb_ hn_)); have n4_ := Aside0.mk (show ∀ b, v7.ownBlock = some b → some b = vl.ownBlock ∨ w3.heap.size ≤ b from fun b e_ => by rcases hat with h1 | ⟨b', h1, h2⟩; exact HV.out b (h1 ▸ e_); (have h3 : b' = b := by rw [h1] at e_; exact Option.some.inj e_); exact .inr (by have := HZ.out; omega)); have n5_ := Aside0.mk (show w3.heap.size ≤ w7.heap.size from Nat.le_trans HZ.out hg.size); clear HS BK HB HQ HV HZ; have HS := n0_; have BK := n1_; have HB := n2_; have HQ := n3_; have HV := n4_; have HZ := n5_; clear n0_ n1_ n2_ n3_ n4_ n5_ ho hb hg hat))
           go_roundg k1
           case measure => have := HK1.out; omega
           case rel => exact ⟨_, _, (by first | rfl | (simp; done)), H', ⟨by have := HK1.out; omega⟩, HS, HV, HQ, BK, HZ, HB⟩
         · rw [if_neg c4] at H
           exact absurd H (by simp)
       · rw [if_neg c2] at H
         exact absurd H (by simp)
     · rw [if_neg c1] at H
       have c1b : decide (i < (t1.length : Int)) = false := decide_eq_false c1
       clear c1
       simp only [Option.some.injEq, Prod.mk.injEq] at H
       obtain ⟨rfl, rfl⟩ := H
       go_wp2
       go_ret2
       exact ⟨_, by first | rfl | (simp; done), HS.out, HB.out⟩
end Go.Proofs.YtoloblgjlnhioaaDoor.J
