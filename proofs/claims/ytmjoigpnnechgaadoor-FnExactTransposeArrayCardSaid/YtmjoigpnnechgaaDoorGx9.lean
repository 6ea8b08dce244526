-- PRINTED by print.py (a twelfth state) out of the translation. Not trusted: Lean checks it.
import Derived.Test.YtmjoigpnnechgaaDoorGx0
import Derived.Test.YtmjoigpnnechgaaDoorGGstr
namespace Go.Proofs.YtmjoigpnnechgaaDoor.G
open Go.RowKit Go.Proofs.YtmjoigpnnechgaaDoorW.PrintWords Go.Proofs.YtmjoigpnnechgaaDoorW.PrintLast Go.Proofs.YtmjoigpnnechgaaDoorW.PrintMore
attribute [local go_sem] max2_int min2_int max_two min_two max_three min_three max_four min_four   -- for this text's walks alone
set_option linter.unusedVariables false
set_option linter.unusedSimpArgs false

/-! ### impl_arr_text: function 88 -/
mutual
def impl_arr_text.l0 : Nat → Int → List ByteArray → List (S84) → Int → Int → Option (ByteArray)
 | 0, _, _, _, _, _ => none
 | k + 1, x1, x5, x15, x16, x17 => if x17 < x16 then (if 0 ≤ x17 then (if x17 < (x15.length : Int) then ((impl_arr_text.f k ((rd_T84 x15 x17).f0) ((rd_T84 x15 x17).f1) (wrap64 (x1 - 1))).bind fun t402 => (if x5.length < 8796093022208 then (impl_arr_text.l0 k x1 (x5 ++ [t402]) x15 x16 (wrap64 (x17 + 1))) else (none))) else (none)) else (none)) else ((strings_Join.f x5 (⟨#[44]⟩ : ByteArray)).bind fun t406 => (if 1 + t406.size ≤ 9223372036854775807 then (if 1 + t406.size + 1 ≤ 9223372036854775807 then (some (((⟨#[91]⟩ : ByteArray) ++ t406) ++ (⟨#[93]⟩ : ByteArray))) else (none)) else (none)))
def impl_arr_text.f : Nat → Int → List (S84) → Int → Option (ByteArray)
 | 0, _, _, _ => none
 | k + 1, a0_0, l0_1, a1 => if a1 = 0 then ((strconv_Itoa.f a0_0).bind fun t396 => (some t396)) else (impl_arr_text.l0 k a1 (([] : List ByteArray)) l0_1 (l0_1.length : Int) 0)
end
theorem impl_arr_text.mono_l : ∀ k, (∀ y0 y1 y2, LeO (impl_arr_text.f k y0 y1 y2) (impl_arr_text.f (k + 1) y0 y1 y2)) ∧ (∀ y0 y1 y2 y3 y4, LeO (impl_arr_text.l0 k y0 y1 y2 y3 y4) (impl_arr_text.l0 (k + 1) y0 y1 y2 y3 y4))
 | 0 => ⟨fun _ _ _ r h => by simp [impl_arr_text.f] at h, fun _ _ _ _ _ r h => by simp [impl_arr_text.l0] at h⟩
 | k + 1 => by
   obtain ⟨ih0, ih1⟩ := impl_arr_text.mono_l k
   refine ⟨?_, ?_⟩
   · intro y0 y1 y2
     unfold impl_arr_text.f
     repeat' first
     | (with_reducible exact ih0 _ _ _)
     | (with_reducible exact ih1 _ _ _ _ _)
     | (with_reducible exact LeO.refl _)
     | (with_reducible exact LeO.none _)
     | (with_reducible refine LeO.ite ?_ ?_)
     | (with_reducible refine LeO.bind ?_ (fun _ => ?_))
     | exact ih0 _ _ _
     | exact ih1 _ _ _ _ _
     | exact LeO.none _
     | refine LeO.ite ?_ ?_
     | refine LeO.bind ?_ (fun _ => ?_)
   · intro y0 y1 y2 y3 y4
     unfold impl_arr_text.l0
     repeat' first
     | (with_reducible exact ih0 _ _ _)
     | (with_reducible exact ih1 _ _ _ _ _)
     | (with_reducible exact LeO.refl _)
     | (with_reducible exact LeO.none _)
     | (with_reducible refine LeO.ite ?_ ?_)
     | (with_reducible refine LeO.bind ?_ (fun _ => ?_))
     | exact ih0 _ _ _
     | exact ih1 _ _ _ _ _
     | exact LeO.none _
     | refine LeO.ite ?_ ?_
     | refine LeO.bind ?_ (fun _ => ?_)
theorem impl_arr_text.mono : ∀ a0 a1 a2 k, LeO (impl_arr_text.f k a0 a1 a2) (impl_arr_text.f (k + 1) a0 a1 a2) := by
 intro a0 a1 a2 k
 obtain ⟨ih0, ih1⟩ := impl_arr_text.mono_l k
 exact ih0 a0 a1 a2
set_option maxHeartbeats 8000000 in
set_option maxRecDepth 100000 in
theorem impl_arr_text.calls (k : Nat) : ∀ (a0_0 : Int) (A0_1 : Option Addr) (c0_1 : Nat) (l0_1 : List (S84)) (a1 : Int) (r : ByteArray) (w : World) (hr0_1 : Kd.C k84 w A0_1 l0_1.length l0_1) (hc0_1 : l0_1.length ≤ c0_1) (h : impl_arr_text.f k a0_0 l0_1 a1 = some r) (hL_ : LaidW w),
   Calls Tryd.prog 88 #[.agg #[.int .i64 a0_0, .slice A0_1 l0_1.length c0_1], .int .i64 a1] w fun e w' => e = .returned (.string r) ∧ Below w.heap.size w w' := by
 induction k using Nat.strongRecOn with
 | _ k ih =>
 intro a0_0 A0_1 c0_1 l0_1 a1 r w hr0_1 hc0_1 h hL_
 cases k with
 | zero => exact absurd h (by simp [impl_arr_text.f])
 | succ k =>
 simp only [impl_arr_text.f] at h
 have HLd := Aside0.mk hL_
 clear hL_
 have hu84 := Tryd.underlying84
 have HR0_1 := Aside0.mk hr0_1
 have HC0_1 := Aside0.mk hc0_1
 clear hr0_1 hc0_1
 have HB := Aside0.mk (Below.refl w.heap.size w)
 have H : (if a1 = 0 then ((strconv_Itoa.f a0_0).bind fun t396 => (some t396)) else (impl_arr_text.l0 k a1 (([] : List ByteArray)) l0_1 (l0_1.length : Int) 0)) = some r := h
 clear h
 by_cases c3 : a1 = 0
 · rw [if_pos c3] at H
   have c3b0 : (a1 == 0) = true := beq_iff_eq.mpr c3
   have c3b1 : (a1 != 0) = false := bne_eq_false_iff_eq.mpr c3
   clear c3
   replace H := Option.bind_eq_some_iff.mp H
   obtain ⟨t396, A40, H⟩ := H
   replace H : (some t396) = some r := H
   have A4 := Aside0.mk A40
   clear A40
   obtain rfl := Option.some.inj H
   go_enter Tryd.func88, Tryd.ntmps88
   go_wp2_with (first | ((with_reducible refine gate_dst (N := 2) rfl ?_); refine box_event ?hg (N := 2) ?hd (cs := #[.int .i64 a0_0, .slice A0_1 l0_1.length c0_1]) (t := 84) ?hr ?_; (case hd => rfl); (case hg => rfl); (case hr => first | (go_simp; done) | (go_simp; rfl)); intro gb395 hg w5 hbox hb; have n0_ := Aside0.mk (below_step (FB HB.out) hb); have n1_ := Aside0.mk (hbox); have n2_ := Aside0.mk ((by rw [hg]; exact (below_size (FB HB.out)) : w.heap.size ≤ gb395)); have n3_ := Aside0.mk ((by rw [hg]; exact (below_size (FB HB.out)) : w.heap.size ≤ gb395)); clear HB; have HB := n0_; have BK395 := n1_; have GW395 := n2_; have GE395 := n3_; clear n0_ n1_ n2_ n3_; clear hb hbox hg; have hcz6_0 : w5.cell? ⟨gb395, 0, none⟩ = some (.int .i64 a0_0) := (blk_cell BK395.out 0).trans rfl; have hcz6_1 : w5.cell? ⟨gb395, 1, none⟩ = some (.slice A0_1 l0_1.length c0_1) := (blk_cell BK395.out 1).trans rfl; have hfz6_0 := blk_frozen BK395.out 0; have hfz6_1 := blk_frozen BK395.out 1) | ((with_reducible refine gate_callee (f := 125) rfl ?_); refine goesL_ (some 12) rfl rfl Tryd.func125 (by kernel_rfl) rfl #[.int .i64 a0_0] rfl (by (try simp only [List.map_toArray, List.map_cons, List.map_nil]); first | done | rfl | (simp only [List.length_drop, List.length_take]; rfl)) ?_; (with_reducible refine (strconv_Itoa.calls a0_0 t396 _ A4.out (LaidW.after HLd.out (by repeat (first | (with_reducible first | exact HB.out | apply below_alloc | apply pw_below_drewN | apply below_drew1 | refine below_set ?_ GE395.out) | exact HB.out)))).mono ?_); rintro e w7 ⟨rfl, hb⟩; refine ⟨_, rfl, ?_⟩; have n0_ := Aside0.mk (blk_below (g := gb395) (o := .cells #[.int .i64 a0_0, .slice A0_1 l0_1.length c0_1] 84 (0, 0)) (FK BK395.out) hb); have n1_ := Aside0.mk (below_step (by repeat (first | (with_reducible first | exact HB.out | apply below_alloc | apply pw_below_drewN | apply below_drew1 | refine below_set ?_ GE395.out) | exact HB.out)) hb); clear BK395; clear HB; have BK395 := n0_; have HB := n1_; clear n0_ n1_; (try clear hb); (try clear hb2); (try clear hk); (try clear hi)))
   go_ret
   exact ⟨by first | rfl | (simp [errW_none, errW_some] <;> rfl) | (simp [*, errW_none, errW_some] <;> rfl), by repeat (first | (with_reducible first | exact HB.out | apply below_alloc | apply pw_below_drewN | apply below_drew1 | refine below_set ?_ GE395.out) | exact HB.out)⟩
 · rw [if_neg c3] at H
   have c3b0 : (a1 == 0) = false := beq_eq_false_iff_ne.mpr c3
   have c3b1 : (a1 != 0) = true := bne_iff_ne.mpr c3
   obtain ⟨y397, hy397⟩ : ∃ y_ : List ByteArray, y_ = (([] : List ByteArray)) := ⟨_, rfl⟩
   replace H : (impl_arr_text.l0 k a1 y397 l0_1 (l0_1.length : Int) 0) = some r := by first | (rw [hy397]; with_reducible exact H) | (have H2_ := (Option.bind_some _ _).symm.trans H; rw [hy397]; with_reducible exact H2_) | (have H2_ := (Option.bind_some _ _).symm.trans H; with_reducible exact H2_) | with_reducible exact H | (rw [hy397]; exact H) | exact H
   have Ny397 := Aside0.mk hy397
   clear hy397
   have H' := Aside0.mk H
   clear H
   go_enter Tryd.func88, Tryd.ntmps88
   go_wp2_with (first | ((with_reducible refine gate_dst (N := 2) rfl ?_); refine box_event ?hg (N := 2) ?hd (cs := #[.int .i64 a0_0, .slice A0_1 l0_1.length c0_1]) (t := 84) ?hr ?_; (case hd => rfl); (case hg => rfl); (case hr => first | (go_simp; done) | (go_simp; rfl)); intro gb395 hg w8 hbox hb; have n0_ := Aside0.mk (below_step (FB HB.out) hb); have n1_ := Aside0.mk (hbox); have n2_ := Aside0.mk ((by rw [hg]; exact (below_size (FB HB.out)) : w.heap.size ≤ gb395)); have n3_ := Aside0.mk ((by rw [hg]; exact (below_size (FB HB.out)) : w.heap.size ≤ gb395)); clear HB; have HB := n0_; have BK395 := n1_; have GW395 := n2_; have GE395 := n3_; clear n0_ n1_ n2_ n3_; clear hb hbox hg) | ((with_reducible refine gate_dst (N := 13) rfl ?_); refine Kd.R_lit Kd.string _ 9 ?hg (N := 13) ?hd (xs := ([] : List ByteArray)) (inner := []) (ok := fun _ => True) (okp := fun _ => True) ?hr ?hp (fun _ hk => hk) trivial (Below.refl _ _) (Nat.le_refl _) (by simp) ?_; (case hd => rfl); (case hg => rfl); (case hr => first | (go_simp; done) | (go_simp; rfl)); (case hp => exact (Reps.none _ _)); intro v398 w9 ho10 hb hg_ hnew_; clear hg_ hnew_; (first | rw [← Ny397.out] at ho10 | (simp only [Int.reduceToNat] at ho10; rw [← Ny397.out] at ho10)); have n0_ := Aside0.mk (Kd.R_lower ho10 (below_size (by repeat (first | (with_reducible first | exact HB.out | apply below_alloc | apply pw_below_drewN | apply below_drew1 | refine below_set ?_ GE395.out) | exact HB.out)))); have n1_ := Aside0.mk (blk_below (g := gb395) (o := .cells #[.int .i64 a0_0, .slice A0_1 l0_1.length c0_1] 84 (0, 0)) (FK BK395.out) hb); have n2_ := Aside0.mk (below_step (by repeat (first | (with_reducible first | exact HB.out | apply below_alloc | apply pw_below_drewN | apply below_drew1 | refine below_set ?_ GE395.out) | exact HB.out)) hb); clear BK395; clear HB; have HO399 := n0_; have BK395 := n1_; have HB := n2_; clear n0_ n1_ n2_; clear hb ho10; have hcz11_0 : w9.cell? ⟨gb395, 0, none⟩ = some (.int .i64 a0_0) := (blk_cell BK395.out 0).trans rfl; have hcz11_1 : w9.cell? ⟨gb395, 1, none⟩ = some (.slice A0_1 l0_1.length c0_1) := (blk_cell BK395.out 1).trans rfl; have hfz11_0 := blk_frozen BK395.out 0; have hfz11_1 := blk_frozen BK395.out 1))
   go_loopg [5, 17] k (fun kq v5 v17 w' => ∃ (x5_1 : List ByteArray) (x17_1 : Int), v17 = .int .i64 x17_1 ∧ Aside0 (impl_arr_text.l0 kq a1 x5_1 l0_1 (l0_1.length : Int) x17_1 = some r) ∧ Aside0 (kq ≤ k) ∧ Aside0 (Kd.R Kd.string 9 w' w.heap.size (fun _ => True) v5 x5_1) ∧ Aside0 (w'.heap[gb395]? = some (.cells #[.int .i64 a0_0, (.slice A0_1 l0_1.length c0_1)] 84 (0, 0))) ∧ Aside0 (Below w.heap.size w w'))
   case atStart => exact ⟨(y397), (0), (by first | rfl | (simp; done) | (simp [*]; done)), H', ⟨Nat.le_refl _⟩, ⟨(FR HO399.out)⟩, ⟨(FK BK395.out)⟩, ⟨by repeat (first | (with_reducible first | exact HB.out | apply below_alloc | apply pw_below_drewN | apply below_drew1 | refine below_set ?_ GE395.out) | exact HB.out)⟩⟩
   case round =>
     clear H'
     (try clear c1); (try clear p2); (try clear c3); (try clear c3b0); (try clear c3b1); (try clear c8); (try clear hcz11_0); (try clear hcz11_1); (try clear hcz6_0); (try clear hcz6_1); (try clear hfz11_0); (try clear hfz11_1); (try clear hfz6_0); (try clear hfz6_1)
     obtain ⟨x5_1, x17_1, rfl, HA, HK1, HO_5, BK395, HB⟩ := hrel
     cases gk with
     | zero => exact absurd HA.out (by simp [impl_arr_text.l0])
     | succ k1 =>
       have H := HA.out
       clear HA
       simp only [impl_arr_text.l0] at H
       by_cases c12 : x17_1 < (l0_1.length : Int)
       · rw [if_pos c12] at H
         have c12b0 : decide (x17_1 < (l0_1.length : Int)) = true := decide_eq_true c12
         clear c12
         by_cases c13 : 0 ≤ x17_1
         · rw [if_pos c13] at H
           have c13b0 : decide (0 ≤ x17_1) = true := decide_eq_true c13
           clear c13
           by_cases c14 : x17_1 < (l0_1.length : Int)
           · rw [if_pos c14] at H
             have c14b0 : decide (x17_1 < (l0_1.length : Int)) = true := decide_eq_true c14
             clear c14
             replace H := Option.bind_eq_some_iff.mp H
             obtain ⟨t402, A150, H⟩ := H
             replace H : (if x5_1.length < 8796093022208 then (impl_arr_text.l0 k1 a1 (x5_1 ++ [t402]) l0_1 (l0_1.length : Int) (wrap64 (x17_1 + 1))) else (none)) = some r := H
             have A15 := Aside0.mk A150
             clear A150
             by_cases c16 : x5_1.length < 8796093022208
             · rw [if_pos c16] at H
               have LMc16 := Aside0.mk c16
               clear c16
               obtain ⟨y403, hy403⟩ : ∃ y_ : List ByteArray, y_ = (x5_1 ++ [t402]) := ⟨_, rfl⟩
               replace H : (impl_arr_text.l0 k1 a1 y403 l0_1 (l0_1.length : Int) (wrap64 (x17_1 + 1))) = some r := by first | (rw [hy403]; with_reducible exact H) | (have H2_ := (Option.bind_some _ _).symm.trans H; rw [hy403]; with_reducible exact H2_) | (have H2_ := (Option.bind_some _ _).symm.trans H; with_reducible exact H2_) | with_reducible exact H | (rw [hy403]; exact H) | exact H
               have Ny403 := Aside0.mk hy403
               clear hy403
               have H' := Aside0.mk H
               clear H
               have p400 : 0 ≤ (x17_1 : Int) := of_decide_eq_true (by assumption)
               have q400 : x17_1 < (l0_1.length : Int) := of_decide_eq_true (by assumption)
               obtain ⟨ad400, A400_1, c400_1, e400, hx400_0, hx400_1, hl400_1, hi400_1⟩ := at_T84 HR0_1.out x17_1 p400 q400
               cases e400
               replace hx400_0 := (HB.out.cell (World.block_lt_of_cell? w _ hx400_0)).trans hx400_0
               replace hx400_1 := (HB.out.cell (World.block_lt_of_cell? w _ hx400_1)).trans hx400_1
               have HR400_1 := Aside0.mk hi400_1
               have HC400_1 := Aside0.mk hl400_1
               clear hi400_1 hl400_1
               replace p400 := eq_true p400
               replace q400 := eq_true q400
               go_wp2_with (first | ((with_reducible refine gate_dst (N := 7) rfl ?_); refine box_event ?hg (N := 7) ?hd (cs := #[.int .i64 0, .slice none 0 0]) (t := 84) ?hr ?_; (case hd => rfl); (case hg => rfl); (case hr => first | (go_simp; done) | (go_simp; rfl)); intro gb401 hg w17 hbox hb; have n0_ := Aside0.mk (Kd.R_below (FR HO_5.out) hb); have n1_ := Aside0.mk (blk_below (g := gb395) (o := .cells #[.int .i64 a0_0, .slice (some ad400) l0_1.length c0_1] 84 (0, 0)) (FK BK395.out) hb); have n2_ := Aside0.mk (below_step (by repeat (first | (with_reducible first | exact HB.out | apply below_alloc | apply pw_below_drewN | apply below_drew1 | refine below_set ?_ GE395.out) | exact HB.out)) hb); have n3_ := Aside0.mk (hbox); have n4_ := Aside0.mk ((by rw [hg]; exact (below_size (by repeat (first | (with_reducible first | exact HB.out | apply below_alloc | apply pw_below_drewN | apply below_drew1 | refine below_set ?_ GE395.out) | exact HB.out))) : w.heap.size ≤ gb401)); have n5_ := Aside0.mk ((by rw [hg]; exact (below_size (by repeat (first | (with_reducible first | exact HB.out | apply below_alloc | apply pw_below_drewN | apply below_drew1 | refine below_set ?_ GE395.out) | exact HB.out))) : w.heap.size ≤ gb401)); have n6_ := Aside0.mk ((by rw [hg]; exact Nat.ne_of_lt (blk_lt (g := gb395) (o := .cells #[.int .i64 a0_0, .slice (some ad400) l0_1.length c0_1] 84 (0, 0)) (FK BK395.out)) : gb395 ≠ gb401)); have n7_ := Aside0.mk ((by rw [hg]; exact Nat.ne_of_gt (blk_lt (g := gb395) (o := .cells #[.int .i64 a0_0, .slice (some ad400) l0_1.length c0_1] 84 (0, 0)) (FK BK395.out)) : gb401 ≠ gb395)); clear HO_5; clear BK395; clear HB; have HO_5 := n0_; have BK395 := n1_; have HB := n2_; have BK401 := n3_; have GW401 := n4_; have GE401 := n5_; have NB395_401 := n6_; have NB401_395 := n7_; clear n0_ n1_ n2_ n3_ n4_ n5_ n6_ n7_; clear hb hbox hg; have hnb18 := NB401_395.out; have hnc18 := NB395_401.out; have hcz19_0 : w17.cell? ⟨gb401, 0, none⟩ = some (.int .i64 0) := (blk_cell BK401.out 0).trans rfl; have hcz19_1 : w17.cell? ⟨gb401, 1, none⟩ = some (.slice none 0 0) := (blk_cell BK401.out 1).trans rfl; have hfz19_0 := blk_frozen BK401.out 0; have hfz19_1 := blk_frozen BK401.out 1) | ((with_reducible refine gate_callee (f := 88) rfl ?_); refine goesL_ (some 25) rfl rfl Tryd.func88 (by kernel_rfl) rfl #[.agg #[.int .i64 ((rd_T84 l0_1 x17_1).f0), .slice A400_1 ((rd_T84 l0_1 x17_1).f1).length c400_1], .int .i64 (wrap64 (a1 - 1))] rfl (by (try simp only [List.map_toArray, List.map_cons, List.map_nil]); first | done | rfl | (simp only [List.length_drop, List.length_take]; rfl)) ?_; (with_reducible refine (ih k1 (by have := HK1.out; omega) ((rd_T84 l0_1 x17_1).f0) _ _ ((rd_T84 l0_1 x17_1).f1) (wrap64 (a1 - 1)) t402 _ ?side1 ?side2 A15.out (LaidW.after HLd.out (by repeat (first | (with_reducible first | exact HB.out | apply below_alloc | apply pw_below_drewN | apply below_drew1 | refine below_set ?_ GE395.out | refine below_set ?_ GE401.out) | exact HB.out)))).mono ?_); (case side1 => exact Kd.C_below HR400_1.out (by repeat (first | (with_reducible first | exact HB.out | apply below_alloc | apply pw_below_drewN | apply below_drew1 | refine below_set ?_ GE395.out | refine below_set ?_ GE401.out) | exact HB.out))); (case side2 => exact HC400_1.out); rintro e w20 ⟨rfl, hb⟩; refine ⟨_, rfl, ?_⟩; have n0_ := Aside0.mk (Kd.R_below (FR ((Kd.R_mono (Kd.R_far (p := ⟨gb401, 1, none⟩) (Kd.R_far (p := ⟨gb401, 0, none⟩) (Kd.R_types HO_5.out BK401.out (by decide)) (fun _ hk => hk.2) (.int .i64 ((rd_T84 l0_1 x17_1).f0))) (fun _ hk => hk.2) (.slice A400_1 ((rd_T84 l0_1 x17_1).f1).length c400_1)) (fun _ h_ => h_.1)))) hb); have n1_ := Aside0.mk (blk_below (g := gb395) (o := .cells #[.int .i64 a0_0, .slice (some ad400) l0_1.length c0_1] 84 (0, 0)) (by (with_reducible repeat (first | refine blk_drewN ?_ _ | refine blk_drew ?_ | refine blk_alloc ?_ _)); refine blk_far ?_ NB395_401.out _; (with_reducible repeat (first | refine blk_drewN ?_ _ | refine blk_drew ?_ | refine blk_alloc ?_ _)); refine blk_far ?_ NB395_401.out _; (with_reducible repeat (first | refine blk_drewN ?_ _ | refine blk_drew ?_ | refine blk_alloc ?_ _)); exact BK395.out) hb); have n2_ := Aside0.mk (blk_below (g := gb401) (o := .cells #[.int .i64 ((rd_T84 l0_1 x17_1).f0), .slice A400_1 ((rd_T84 l0_1 x17_1).f1).length c400_1] 84 (0, 0)) (by (with_reducible repeat (first | refine blk_drewN ?_ _ | refine blk_drew ?_ | refine blk_alloc ?_ _)); refine blk_put (cs := #[.int .i64 ((rd_T84 l0_1 x17_1).f0), .slice none 0 0]) ?_ 1 _ rfl; (with_reducible repeat (first | refine blk_drewN ?_ _ | refine blk_drew ?_ | refine blk_alloc ?_ _)); refine blk_put (cs := #[.int .i64 0, .slice none 0 0]) ?_ 0 _ rfl; (with_reducible repeat (first | refine blk_drewN ?_ _ | refine blk_drew ?_ | refine blk_alloc ?_ _)); exact BK401.out) hb); have n3_ := Aside0.mk (below_step (by repeat (first | (with_reducible first | exact HB.out | apply below_alloc | apply pw_below_drewN | apply below_drew1 | refine below_set ?_ GE395.out | refine below_set ?_ GE401.out) | exact HB.out)) hb); clear HO_5; clear BK395; clear BK401; clear HB; have HO_5 := n0_; have BK395 := n1_; have BK401 := n2_; have HB := n3_; clear n0_ n1_ n2_ n3_; (try clear hb); (try clear hb2); (try clear hk); (try clear hi)) | ((with_reducible refine gate_builtin (b := .append) (xs := #[.tmp 21, .tmp 26]) rfl ?_); at_builtin; refine Kd.R_append Kd.string (w0 := w) w.heap.size rfl (.tmp 21) (.tmp 26) 28 9 (.string ⟨#[]⟩) 16 rfl Tryd.underlying28 info9 rfl (by decide) (by omega) u5 x5_1 t402 [.string t402] (fun _ => True) (fun _ => False) rfl rfl ?aP (fun _ hk => hk.elim) ?aF ?aO ?aB ?aS ?aL ?_; (case aP => exact rfl); (case aB => exact (by repeat (first | (with_reducible first | exact HB.out | apply below_alloc | apply pw_below_drewN | apply below_drew1 | refine below_set ?_ GE395.out | refine below_set ?_ GE401.out) | exact HB.out))); (case aF => exact (fun _ _ => trivial)); (case aO => exact (FR HO_5.out)); (case aS => exact (below_size (by repeat (first | (with_reducible first | exact HB.out | apply below_alloc | apply pw_below_drewN | apply below_drew1 | refine below_set ?_ GE395.out | refine below_set ?_ GE401.out) | exact HB.out)))); (case aL => have := LMc16.out; omega); intro v404 w21 ho hb hg hat; rw [← Ny403.out] at ho; have n0_ := Aside0.mk (blk_grown (g := gb395) (o := .cells #[.int .i64 a0_0, .slice (some ad400) l0_1.length c0_1] 84 (0, 0)) (FK BK395.out) hg (Kd.R_ne HO_5.out BK395.out (by decide))); have n1_ := Aside0.mk (blk_grown (g := gb401) (o := .cells #[.int .i64 ((rd_T84 l0_1 x17_1).f0), .slice A400_1 ((rd_T84 l0_1 x17_1).f1).length c400_1] 84 (0, 0)) (FK BK401.out) hg (Kd.R_ne HO_5.out BK401.out (by decide))); have n2_ := Aside0.mk (hb); have n3_ := Aside0.mk (ho); clear BK395; clear BK401; clear HB; clear HO_5; have BK395 := n0_; have BK401 := n1_; have HB := n2_; have HO405 := n3_; clear n0_ n1_ n2_ n3_; clear ho hb hg hat))
               go_roundg k1
               case measure => have := HK1.out; omega
               case rel => exact ⟨(y403), (wrap64 (x17_1 + 1)), (by first | rfl | (simp; done) | (simp [*]; done)), H', ⟨by have := HK1.out; omega⟩, ⟨(FR HO405.out)⟩, ⟨(FK BK395.out)⟩, ⟨by repeat (first | (with_reducible first | exact HB.out | apply below_alloc | apply pw_below_drewN | apply below_drew1 | refine below_set ?_ GE395.out | refine below_set ?_ GE401.out) | exact HB.out)⟩⟩
             · rw [if_neg c16] at H
               exact absurd H (by simp)
           · rw [if_neg c14] at H
             exact absurd H (by simp)
         · rw [if_neg c13] at H
           exact absurd H (by simp)
       · rw [if_neg c12] at H
         have c12b0 : decide (x17_1 < (l0_1.length : Int)) = false := decide_eq_false c12
         clear c12
         replace H := Option.bind_eq_some_iff.mp H
         obtain ⟨t406, A220, H⟩ := H
         replace H : (if 1 + t406.size ≤ 9223372036854775807 then (if 1 + t406.size + 1 ≤ 9223372036854775807 then (some (((⟨#[91]⟩ : ByteArray) ++ t406) ++ (⟨#[93]⟩ : ByteArray))) else (none)) else (none)) = some r := H
         have A22 := Aside0.mk A220
         clear A220
         by_cases c23 : 1 + t406.size ≤ 9223372036854775807
         · rw [if_pos c23] at H
           have c23b0 := eq_true c23
           have c23b1 : decide (1 + t406.size ≤ 9223372036854775807) = true := decide_eq_true c23
           try have c23b2 : (9223372036854775807 < 1 + t406.size) = False := eq_false (Nat.not_lt.2 c23)
           by_cases c24 : 1 + t406.size + 1 ≤ 9223372036854775807
           · rw [if_pos c24] at H
             have c24b0 := eq_true c24
             have c24b1 : decide (1 + t406.size + 1 ≤ 9223372036854775807) = true := decide_eq_true c24
             try have c24b2 : (9223372036854775807 < 1 + t406.size + 1) = False := eq_false (Nat.not_lt.2 c24)
             obtain rfl := Option.some.inj H
             obtain ⟨Ao25, co25, eo25⟩ := Kd.R_slice HO_5.out
             subst eo25
             go_wp2_with (first | ((with_reducible refine gate_callee (f := 94) rfl ?_); refine goesL_ (some 30) rfl rfl Tryd.func94 (by kernel_rfl) rfl #[.slice Ao25 x5_1.length co25, .string (⟨#[44]⟩ : ByteArray)] rfl (by (try simp only [List.map_toArray, List.map_cons, List.map_nil]); first | done | rfl | (simp only [List.length_drop, List.length_take]; rfl)) ?_; (with_reducible refine (strings_Join.calls _ _ x5_1 (⟨#[44]⟩ : ByteArray) t406 _ ?side1 ?side2 A22.out).mono ?_); (case side1 => repeat (first | exact (Kd.R_reads' HO_5.out).2.2 | (with_reducible refine Kd.C_alloc ?_ _) | (with_reducible refine Kd.C_drewN ?_ _) | (with_reducible refine Kd.C_drew ?_))); (case side2 => exact (Kd.R_reads' HO_5.out).2.1); rintro e w26 ⟨rfl, hb⟩; refine ⟨_, rfl, ?_⟩; have n0_ := Aside0.mk (Kd.R_below (FR HO_5.out) hb); have n1_ := Aside0.mk (blk_below (g := gb395) (o := .cells #[.int .i64 a0_0, .slice A0_1 l0_1.length c0_1] 84 (0, 0)) (FK BK395.out) hb); have n2_ := Aside0.mk (below_step (by repeat (first | (with_reducible first | exact HB.out | apply below_alloc | apply pw_below_drewN | apply below_drew1 | refine below_set ?_ GE395.out) | exact HB.out)) hb); clear HO_5; clear BK395; clear HB; have HO_5 := n0_; have BK395 := n1_; have HB := n2_; clear n0_ n1_ n2_; (try clear hb); (try clear hb2); (try clear hk); (try clear hi)))
             go_ret
             exact ⟨by first | rfl | (simp [errW_none, errW_some] <;> rfl) | (simp [*, errW_none, errW_some] <;> rfl), by repeat (first | (with_reducible first | exact HB.out | apply below_alloc | apply pw_below_drewN | apply below_drew1 | refine below_set ?_ GE395.out) | exact HB.out)⟩
           · rw [if_neg c24] at H
             exact absurd H (by simp)
         · rw [if_neg c23] at H
           exact absurd H (by simp)

/-! ### impl_arr_short: function 101 -/
def impl_arr_short.f (k : Nat) (a0_0 : Int) (l0_1 : List (S84)) (a1 : Int) : Option (ByteArray × Bool) := (impl_arr_text.f k a0_0 l0_1 a1).bind fun t408 => (if (t408.size : Int) > 400 then (some ((⟨#[]⟩ : ByteArray), false)) else (some (t408, true)))
theorem impl_arr_short.mono : ∀ a0 a1 a2 k, LeO (impl_arr_short.f k a0 a1 a2) (impl_arr_short.f (k + 1) a0 a1 a2) := by
 intro a0 a1 a2 k
 unfold impl_arr_short.f
 repeat' first
     | (with_reducible exact impl_arr_text.mono _ _ _ _)
     | (with_reducible exact LeO.refl _)
     | (with_reducible exact LeO.none _)
     | (with_reducible refine LeO.ite ?_ ?_)
     | (with_reducible refine LeO.bind ?_ (fun _ => ?_))
     | exact impl_arr_text.mono _ _ _ _
     | exact LeO.none _
     | refine LeO.ite ?_ ?_
     | refine LeO.bind ?_ (fun _ => ?_)
set_option maxHeartbeats 8000000 in
set_option maxRecDepth 100000 in
theorem impl_arr_short.calls (k : Nat) (a0_0 : Int) (A0_1 : Option Addr) (c0_1 : Nat) (l0_1 : List (S84)) (a1 : Int) (r1 : ByteArray) (r2 : Bool) (w : World) (hr0_1 : Kd.C k84 w A0_1 l0_1.length l0_1) (hc0_1 : l0_1.length ≤ c0_1) (h : impl_arr_short.f k a0_0 l0_1 a1 = some (r1, r2)) (hL_ : LaidW w) :
   Calls Tryd.prog 101 #[.agg #[.int .i64 a0_0, .slice A0_1 l0_1.length c0_1], .int .i64 a1] w fun e w' => e = .returned (.tuple #[.string r1, .bool r2]) ∧ Below w.heap.size w w' := by
 have HLd := Aside0.mk hL_
 clear hL_
 have hu84 := Tryd.underlying84
 have HR0_1 := Aside0.mk hr0_1
 have HC0_1 := Aside0.mk hc0_1
 clear hr0_1 hc0_1
 have HB := Aside0.mk (Below.refl w.heap.size w)
 have H : ((impl_arr_text.f k a0_0 l0_1 a1).bind fun t408 => (if (t408.size : Int) > 400 then (some ((⟨#[]⟩ : ByteArray), false)) else (some (t408, true)))) = some (r1, r2) := h
 clear h
 replace H := Option.bind_eq_some_iff.mp H
 obtain ⟨t408, A30, H⟩ := H
 replace H : (if (t408.size : Int) > 400 then (some ((⟨#[]⟩ : ByteArray), false)) else (some (t408, true))) = some (r1, r2) := H
 have A3 := Aside0.mk A30
 clear A30
 by_cases c4 : (t408.size : Int) > 400
 · rw [if_pos c4] at H
   have c4b0 : decide (400 < (t408.size : Int)) = true := decide_eq_true c4
   have c4b1 : decide (400 < t408.size) = true := decide_eq_true (by omega)
   clear c4
   simp only [Option.some.injEq, Prod.mk.injEq] at H
   obtain ⟨rfl, rfl⟩ := H
   go_enter Tryd.func101, Tryd.ntmps101
   go_wp2_with (first | ((with_reducible refine gate_dst (N := 2) rfl ?_); refine box_event ?hg (N := 2) ?hd (cs := #[.int .i64 a0_0, .slice A0_1 l0_1.length c0_1]) (t := 84) ?hr ?_; (case hd => rfl); (case hg => rfl); (case hr => first | (go_simp; done) | (go_simp; rfl)); intro gb407 hg w5 hbox hb; have n0_ := Aside0.mk (below_step (FB HB.out) hb); have n1_ := Aside0.mk (hbox); have n2_ := Aside0.mk ((by rw [hg]; exact (below_size (FB HB.out)) : w.heap.size ≤ gb407)); have n3_ := Aside0.mk ((by rw [hg]; exact (below_size (FB HB.out)) : w.heap.size ≤ gb407)); clear HB; have HB := n0_; have BK407 := n1_; have GW407 := n2_; have GE407 := n3_; clear n0_ n1_ n2_ n3_; clear hb hbox hg; have hcz6_0 : w5.cell? ⟨gb407, 0, none⟩ = some (.int .i64 a0_0) := (blk_cell BK407.out 0).trans rfl; have hcz6_1 : w5.cell? ⟨gb407, 1, none⟩ = some (.slice A0_1 l0_1.length c0_1) := (blk_cell BK407.out 1).trans rfl; have hfz6_0 := blk_frozen BK407.out 0; have hfz6_1 := blk_frozen BK407.out 1) | ((with_reducible refine gate_callee (f := 88) rfl ?_); refine goesL_ (some 9) rfl rfl Tryd.func88 (by kernel_rfl) rfl #[.agg #[.int .i64 a0_0, .slice A0_1 l0_1.length c0_1], .int .i64 a1] rfl (by (try simp only [List.map_toArray, List.map_cons, List.map_nil]); first | done | rfl | (simp only [List.length_drop, List.length_take]; rfl)) ?_; (with_reducible refine (impl_arr_text.calls k a0_0 _ _ l0_1 a1 t408 _ ?side1 ?side2 A3.out (LaidW.after HLd.out (by repeat (first | (with_reducible first | exact HB.out | apply below_alloc | apply pw_below_drewN | apply below_drew1 | refine below_set ?_ GE407.out) | exact HB.out)))).mono ?_); (case side1 => repeat (first | exact (Kd.C_below HR0_1.out HB.out) | (with_reducible refine Kd.C_alloc ?_ _) | (with_reducible refine Kd.C_drewN ?_ _) | (with_reducible refine Kd.C_drew ?_))); (case side2 => exact HC0_1.out); rintro e w7 ⟨rfl, hb⟩; refine ⟨_, rfl, ?_⟩; have n0_ := Aside0.mk (blk_below (g := gb407) (o := .cells #[.int .i64 a0_0, .slice A0_1 l0_1.length c0_1] 84 (0, 0)) (FK BK407.out) hb); have n1_ := Aside0.mk (below_step (by repeat (first | (with_reducible first | exact HB.out | apply below_alloc | apply pw_below_drewN | apply below_drew1 | refine below_set ?_ GE407.out) | exact HB.out)) hb); clear BK407; clear HB; have BK407 := n0_; have HB := n1_; clear n0_ n1_; (try clear hb); (try clear hb2); (try clear hk); (try clear hi)))
   go_ret2
   exact ⟨by first | rfl | (simp [errW_none, errW_some] <;> rfl) | (simp [*, errW_none, errW_some] <;> rfl), by repeat (first | (with_reducible first | exact HB.out | apply below_alloc | apply pw_below_drewN | apply below_drew1 | refine below_set ?_ GE407.out) | exact HB.out)⟩
 · rw [if_neg c4] at H
   have c4b0 : decide (400 < (t408.size : Int)) = false := decide_eq_false c4
   have c4b1 : decide (400 < t408.size) = false := decide_eq_false (by omega)
   clear c4
   simp only [Option.some.injEq, Prod.mk.injEq] at H
   obtain ⟨rfl, rfl⟩ := H
   go_enter Tryd.func101, Tryd.ntmps101
   go_wp2_with (first | ((with_reducible refine gate_dst (N := 2) rfl ?_); refine box_event ?hg (N := 2) ?hd (cs := #[.int .i64 a0_0, .slice A0_1 l0_1.length c0_1]) (t := 84) ?hr ?_; (case hd => rfl); (case hg => rfl); (case hr => first | (go_simp; done) | (go_simp; rfl)); intro gb407 hg w8 hbox hb; have n0_ := Aside0.mk (below_step (FB HB.out) hb); have n1_ := Aside0.mk (hbox); have n2_ := Aside0.mk ((by rw [hg]; exact (below_size (FB HB.out)) : w.heap.size ≤ gb407)); have n3_ := Aside0.mk ((by rw [hg]; exact (below_size (FB HB.out)) : w.heap.size ≤ gb407)); clear HB; have HB := n0_; have BK407 := n1_; have GW407 := n2_; have GE407 := n3_; clear n0_ n1_ n2_ n3_; clear hb hbox hg; have hcz9_0 : w8.cell? ⟨gb407, 0, none⟩ = some (.int .i64 a0_0) := (blk_cell BK407.out 0).trans rfl; have hcz9_1 : w8.cell? ⟨gb407, 1, none⟩ = some (.slice A0_1 l0_1.length c0_1) := (blk_cell BK407.out 1).trans rfl; have hfz9_0 := blk_frozen BK407.out 0; have hfz9_1 := blk_frozen BK407.out 1) | ((with_reducible refine gate_callee (f := 88) rfl ?_); refine goesL_ (some 9) rfl rfl Tryd.func88 (by kernel_rfl) rfl #[.agg #[.int .i64 a0_0, .slice A0_1 l0_1.length c0_1], .int .i64 a1] rfl (by (try simp only [List.map_toArray, List.map_cons, List.map_nil]); first | done | rfl | (simp only [List.length_drop, List.length_take]; rfl)) ?_; (with_reducible refine (impl_arr_text.calls k a0_0 _ _ l0_1 a1 t408 _ ?side1 ?side2 A3.out (LaidW.after HLd.out (by repeat (first | (with_reducible first | exact HB.out | apply below_alloc | apply pw_below_drewN | apply below_drew1 | refine below_set ?_ GE407.out) | exact HB.out)))).mono ?_); (case side1 => repeat (first | exact (Kd.C_below HR0_1.out HB.out) | (with_reducible refine Kd.C_alloc ?_ _) | (with_reducible refine Kd.C_drewN ?_ _) | (with_reducible refine Kd.C_drew ?_))); (case side2 => exact HC0_1.out); rintro e w10 ⟨rfl, hb⟩; refine ⟨_, rfl, ?_⟩; have n0_ := Aside0.mk (blk_below (g := gb407) (o := .cells #[.int .i64 a0_0, .slice A0_1 l0_1.length c0_1] 84 (0, 0)) (FK BK407.out) hb); have n1_ := Aside0.mk (below_step (by repeat (first | (with_reducible first | exact HB.out | apply below_alloc | apply pw_below_drewN | apply below_drew1 | refine below_set ?_ GE407.out) | exact HB.out)) hb); clear BK407; clear HB; have BK407 := n0_; have HB := n1_; clear n0_ n1_; (try clear hb); (try clear hb2); (try clear hk); (try clear hi)))
   go_ret2
   exact ⟨by first | rfl | (simp [errW_none, errW_some] <;> rfl) | (simp [*, errW_none, errW_some] <;> rfl), by repeat (first | (with_reducible first | exact HB.out | apply below_alloc | apply pw_below_drewN | apply below_drew1 | refine below_set ?_ GE407.out) | exact HB.out)⟩

/-! ### impl_rowed: function 77 -/
mutual
def impl_rowed.l0 : Nat → List (List Int) → Int → Int → Int → List (S84) → Option (ByteArray × Bool)
 | 0, _, _, _, _, _ => none
 | k + 1, x10, x11, x12, x410000, x410001 => if x12 < x11 then (if 0 ≤ x12 then (if x12 < (x10.length : Int) then (impl_rowed.l1 k x10 x11 x12 (rd_L3 x10 x12) ((rd_L3 x10 x12).length : Int) 0 x410000 x410001 0 ([] : List (S84))) else (none)) else (none)) else ((impl_arr_short.f k x410000 x410001 2).bind fun bt410 => (some (bt410.1, bt410.2)))
def impl_rowed.l1 : Nat → List (List Int) → Int → Int → List Int → Int → Int → Int → List (S84) → Int → List (S84) → Option (ByteArray × Bool)
 | 0, _, _, _, _, _, _, _, _, _, _ => none
 | k + 1, x10, x11, x12, x16, x17, x18, x410000, x410001, x414000, x414001 => if x18 < x17 then (if 0 ≤ x18 then (if x18 < (x16.length : Int) then (if x414001.length < 4398046511104 then (impl_rowed.l1 k x10 x11 x12 x16 x17 (wrap64 (x18 + 1)) x410000 x410001 x414000 (x414001 ++ [(⟨rd x16 x18, ([] : List (S84))⟩ : S84)])) else (none)) else (none)) else (none)) else (if x410001.length < 4398046511104 then (impl_rowed.l0 k x10 x11 (wrap64 (x12 + 1)) x410000 (x410001 ++ [(⟨x414000, x414001⟩ : S84)])) else (none))
end
def impl_rowed.f (k : Nat) (l0 : List (List Int)) : Option (ByteArray × Bool) := impl_rowed.l0 k l0 (l0.length : Int) 0 0 ([] : List (S84))
theorem impl_rowed.mono_l : ∀ k, (∀ y0 y1 y2 y3 y4, LeO (impl_rowed.l0 k y0 y1 y2 y3 y4) (impl_rowed.l0 (k + 1) y0 y1 y2 y3 y4)) ∧ (∀ y0 y1 y2 y3 y4 y5 y6 y7 y8 y9, LeO (impl_rowed.l1 k y0 y1 y2 y3 y4 y5 y6 y7 y8 y9) (impl_rowed.l1 (k + 1) y0 y1 y2 y3 y4 y5 y6 y7 y8 y9))
 | 0 => ⟨fun _ _ _ _ _ r h => by simp [impl_rowed.l0] at h, fun _ _ _ _ _ _ _ _ _ _ r h => by simp [impl_rowed.l1] at h⟩
 | k + 1 => by
   obtain ⟨ih0, ih1⟩ := impl_rowed.mono_l k
   refine ⟨?_, ?_⟩
   · intro y0 y1 y2 y3 y4
     unfold impl_rowed.l0
     repeat' first
     | (with_reducible exact ih0 _ _ _ _ _)
     | (with_reducible exact ih1 _ _ _ _ _ _ _ _ _ _)
     | (with_reducible exact impl_arr_short.mono _ _ _ _)
     | (with_reducible exact LeO.refl _)
     | (with_reducible exact LeO.none _)
     | (with_reducible refine LeO.ite ?_ ?_)
     | (with_reducible refine LeO.bind ?_ (fun _ => ?_))
     | exact ih0 _ _ _ _ _
     | exact ih1 _ _ _ _ _ _ _ _ _ _
     | exact impl_arr_short.mono _ _ _ _
     | exact LeO.none _
     | refine LeO.ite ?_ ?_
     | refine LeO.bind ?_ (fun _ => ?_)
   · intro y0 y1 y2 y3 y4 y5 y6 y7 y8 y9
     unfold impl_rowed.l1
     repeat' first
     | (with_reducible exact ih0 _ _ _ _ _)
     | (with_reducible exact ih1 _ _ _ _ _ _ _ _ _ _)
     | (with_reducible exact impl_arr_short.mono _ _ _ _)
     | (with_reducible exact LeO.refl _)
     | (with_reducible exact LeO.none _)
     | (with_reducible refine LeO.ite ?_ ?_)
     | (with_reducible refine LeO.bind ?_ (fun _ => ?_))
     | exact ih0 _ _ _ _ _
     | exact ih1 _ _ _ _ _ _ _ _ _ _
     | exact impl_arr_short.mono _ _ _ _
     | exact LeO.none _
     | refine LeO.ite ?_ ?_
     | refine LeO.bind ?_ (fun _ => ?_)
theorem impl_rowed.mono : ∀ a0 k, LeO (impl_rowed.f k a0) (impl_rowed.f (k + 1) a0) := by
 intro a0 k
 obtain ⟨ih0, ih1⟩ := impl_rowed.mono_l k
 unfold impl_rowed.f
 repeat' first
     | (with_reducible exact ih0 _ _ _ _ _)
     | (with_reducible exact ih1 _ _ _ _ _ _ _ _ _ _)
     | (with_reducible exact impl_arr_short.mono _ _ _ _)
     | (with_reducible exact LeO.refl _)
     | (with_reducible exact LeO.none _)
     | (with_reducible refine LeO.ite ?_ ?_)
     | (with_reducible refine LeO.bind ?_ (fun _ => ?_))
     | exact ih0 _ _ _ _ _
     | exact ih1 _ _ _ _ _ _ _ _ _ _
     | exact impl_arr_short.mono _ _ _ _
     | exact LeO.none _
     | refine LeO.ite ?_ ?_
     | refine LeO.bind ?_ (fun _ => ?_)
set_option maxHeartbeats 8000000 in
set_option maxRecDepth 100000 in
theorem impl_rowed.calls (k : Nat) (A0 : Option Addr) (c0 : Nat) (l0 : List (List Int)) (r1 : ByteArray) (r2 : Bool) (w : World) (hr0 : Kd.C (Kd.slice 3 (Kd.int .i64)) w A0 l0.length l0) (hc0 : l0.length ≤ c0) (h : impl_rowed.f k l0 = some (r1, r2)) (hL_ : LaidW w) :
   Calls Tryd.prog 77 #[.slice A0 l0.length c0] w fun e w' => e = .returned (.tuple #[.string r1, .bool r2]) ∧ Below w.heap.size w w' := by
 have HLd := Aside0.mk hL_
 clear hL_
 have hu84 := Tryd.underlying84
 have HR0 := Aside0.mk hr0
 have HC0 := Aside0.mk hc0
 clear hr0 hc0
 have HB := Aside0.mk (Below.refl w.heap.size w)
 have H : (impl_rowed.l0 k l0 (l0.length : Int) 0 0 ([] : List (S84))) = some (r1, r2) := h
 clear h
 have H' := Aside0.mk H
 clear H
 go_enter Tryd.func77, Tryd.ntmps77
 go_wp2_with (first | ((with_reducible refine gate_dst (N := 4) rfl ?_); refine box_event ?hg (N := 4) ?hd (cs := #[.int .i64 0, .slice none 0 0]) (t := 84) ?hr ?_; (case hd => rfl); (case hg => rfl); (case hr => first | (go_simp; done) | (go_simp; rfl)); intro gb409 hg w2 hbox hb; have n0_ := Aside0.mk (below_step (FB HB.out) hb); have n1_ := Aside0.mk (hbox); have n2_ := Aside0.mk ((by rw [hg]; exact (below_size (FB HB.out)) : w.heap.size ≤ gb409)); have n3_ := Aside0.mk ((by rw [hg]; exact (below_size (FB HB.out)) : w.heap.size ≤ gb409)); clear HB; have HB := n0_; have BK409 := n1_; have GW409 := n2_; have GE409 := n3_; clear n0_ n1_ n2_ n3_; clear hb hbox hg))
 go_loopg [12] k (fun kq v12 w' => ∃ (x12_1 : Int) (x410001_1 : List (S84)) (u410001 : Value), v12 = .int .i64 x12_1 ∧ Aside0 (impl_rowed.l0 kq l0 (l0.length : Int) x12_1 0 x410001_1 = some (r1, r2)) ∧ Aside0 (kq ≤ k) ∧ Aside0 (Kd.R k84 84 w' w.heap.size (fun k_ => k_ ≠ gb409) u410001 x410001_1) ∧ Aside0 (w'.heap[gb409]? = some (.cells #[.int .i64 0, u410001] 84 (0, 0))) ∧ Aside0 (Below w.heap.size w w'))
 case atStart => exact ⟨(0), (([] : List (S84))), (.slice none 0 0), (by first | rfl | (simp; done) | (simp [*]; done)), H', ⟨Nat.le_refl _⟩, ⟨by first | exact Kd.R_nil _ _ _ _ _ | exact Kd.N_nil _ _ _ _ _ | exact Kd.V_nil _ _ _ _ _ | exact Kd.Q_nil _ _ _ _ _ | exact Kd.S_nil _ _ _ _ _⟩, ⟨(FK BK409.out)⟩, ⟨by repeat (first | (with_reducible first | exact HB.out | apply below_alloc | apply pw_below_drewN | apply below_drew1 | refine below_set ?_ GE409.out) | exact HB.out)⟩⟩
 case round =>
   clear H'
   try clear p2
   obtain ⟨x12_1, x410001_1, u410001, rfl, HA, HK1, HO_410001, BK409, HB⟩ := hrel
   cases gk with
   | zero => exact absurd HA.out (by simp [impl_rowed.l0])
   | succ k1 =>
     have H := HA.out
     clear HA
     simp only [impl_rowed.l0] at H
     by_cases c3 : x12_1 < (l0.length : Int)
     · rw [if_pos c3] at H
       have c3b0 : decide (x12_1 < (l0.length : Int)) = true := decide_eq_true c3
       clear c3
       by_cases c4 : 0 ≤ x12_1
       · rw [if_pos c4] at H
         have c4b0 : decide (0 ≤ x12_1) = true := decide_eq_true c4
         clear c4
         by_cases c5 : x12_1 < (l0.length : Int)
         · rw [if_pos c5] at H
           have c5b0 : decide (x12_1 < (l0.length : Int)) = true := decide_eq_true c5
           clear c5
           have H' := Aside0.mk H
           clear H
           have p412 : 0 ≤ (x12_1 : Int) := of_decide_eq_true (by assumption)
           have q412 : x12_1 < (l0.length : Int) := of_decide_eq_true (by assumption)
           obtain ⟨ad412, A412_0, c412_0, e412, hx412_0, hl412_0, hi412_0⟩ := at_L3 HR0.out x12_1 p412 q412
           cases e412
           replace hx412_0 := (HB.out.cell (World.block_lt_of_cell? w _ hx412_0)).trans hx412_0
           have HR412_0 := Aside0.mk hi412_0
           have HC412_0 := Aside0.mk hl412_0
           clear hi412_0 hl412_0
           replace p412 := eq_true p412
           replace q412 := eq_true q412
           go_wp2_with (first | ((with_reducible refine gate_dst (N := 7) rfl ?_); refine box_event ?hg (N := 7) ?hd (cs := #[.int .i64 0, .slice none 0 0]) (t := 84) ?hr ?_; (case hd => rfl); (case hg => rfl); (case hr => first | (go_simp; done) | (go_simp; rfl)); intro gb413 hg w6 hbox hb; have n0_ := Aside0.mk (Kd.R_below (Kd.R_elderB (FR HO_410001.out) gb413 (Nat.le_of_eq hg.symm)) hb); have n1_ := Aside0.mk (blk_below (g := gb409) (o := .cells #[.int .i64 0, u410001] 84 (0, 0)) (FK BK409.out) hb); have n2_ := Aside0.mk (below_step (by repeat (first | (with_reducible first | exact HB.out | apply below_alloc | apply pw_below_drewN | apply below_drew1 | refine below_set ?_ GE409.out) | exact HB.out)) hb); have n3_ := Aside0.mk (hbox); have n4_ := Aside0.mk ((by rw [hg]; exact (below_size (by repeat (first | (with_reducible first | exact HB.out | apply below_alloc | apply pw_below_drewN | apply below_drew1 | refine below_set ?_ GE409.out) | exact HB.out))) : w.heap.size ≤ gb413)); have n5_ := Aside0.mk ((by rw [hg]; exact (below_size (by repeat (first | (with_reducible first | exact HB.out | apply below_alloc | apply pw_below_drewN | apply below_drew1 | refine below_set ?_ GE409.out) | exact HB.out))) : w.heap.size ≤ gb413)); have n6_ := Aside0.mk ((by rw [hg]; exact Nat.ne_of_lt (blk_lt (g := gb409) (o := .cells #[.int .i64 0, u410001] 84 (0, 0)) (FK BK409.out)) : gb409 ≠ gb413)); have n7_ := Aside0.mk ((by rw [hg]; exact Nat.ne_of_gt (blk_lt (g := gb409) (o := .cells #[.int .i64 0, u410001] 84 (0, 0)) (FK BK409.out)) : gb413 ≠ gb409)); clear HO_410001; clear BK409; clear HB; have HO_410001 := n0_; have BK409 := n1_; have HB := n2_; have BK413 := n3_; have GW413 := n4_; have GE413 := n5_; have NB409_413 := n6_; have NB413_409 := n7_; clear n0_ n1_ n2_ n3_ n4_ n5_ n6_ n7_; clear hb hbox hg))
           go_loopg [18] k1 (fun kq v18 w' => ∃ (x18_2 : Int) (x414001_2 : List (S84)) (u414001 : Value), v18 = .int .i64 x18_2 ∧ Aside0 (impl_rowed.l1 kq l0 (l0.length : Int) x12_1 (rd_L3 l0 x12_1) ((rd_L3 l0 x12_1).length : Int) x18_2 0 x410001_1 0 x414001_2 = some (r1, r2)) ∧ Aside0 (kq ≤ k1) ∧ Aside0 (Kd.R k84 84 w' w.heap.size (fun k_ => some k_ ≠ (u414001 : Value).ownBlock ∧ k_ ≠ gb409 ∧ k_ ≠ gb413) u410001 x410001_1) ∧ Aside0 (Kd.R k84 84 w' w.heap.size (fun k_ => some k_ ≠ (u410001 : Value).ownBlock ∧ k_ ≠ gb409 ∧ k_ ≠ gb413) u414001 x414001_2) ∧ Aside0 (w'.heap[gb409]? = some (.cells #[.int .i64 0, u410001] 84 (0, 0))) ∧ Aside0 (w'.heap[gb413]? = some (.cells #[.int .i64 0, u414001] 84 (0, 0))) ∧ Aside0 (Below w.heap.size w w'))
           case atStart => exact ⟨(0), (([] : List (S84))), (.slice none 0 0), (by first | rfl | (simp; done) | (simp [*]; done)), H', ⟨Nat.le_refl _⟩, ⟨(FR (Kd.R_mono HO_410001.out (fun _ hk => ⟨(by simp [Value.ownBlock]), ⟨hk.1, hk.2⟩⟩)))⟩, ⟨by first | exact Kd.R_nil _ _ _ _ _ | exact Kd.N_nil _ _ _ _ _ | exact Kd.V_nil _ _ _ _ _ | exact Kd.Q_nil _ _ _ _ _ | exact Kd.S_nil _ _ _ _ _⟩, ⟨(FK BK409.out)⟩, ⟨(FK BK413.out)⟩, ⟨by repeat (first | (with_reducible first | exact HB.out | apply below_alloc | apply pw_below_drewN | apply below_drew1 | refine below_set ?_ GE409.out | refine below_set ?_ GE413.out) | exact HB.out)⟩⟩
           case round =>
             clear H'
             (try clear p2); (try clear c3); (try clear c3b0); (try clear c4); (try clear c4b0); (try clear p4); (try clear q4); (try clear hx4); (try clear c5); (try clear c5b0); (try clear hx412_0); (try clear p412); (try clear q412)
             obtain ⟨x18_2, x414001_2, u414001, rfl, HA, HK2, HO_410001, HO_414001, BK409, BK413, HB⟩ := hrel
             cases gk with
             | zero => exact absurd HA.out (by simp [impl_rowed.l1])
             | succ k2 =>
               have H := HA.out
               clear HA
               simp only [impl_rowed.l1] at H
               by_cases c7 : x18_2 < ((rd_L3 l0 x12_1).length : Int)
               · rw [if_pos c7] at H
                 have c7b0 : decide (x18_2 < ((rd_L3 l0 x12_1).length : Int)) = true := decide_eq_true c7
                 clear c7
                 by_cases c8 : 0 ≤ x18_2
                 · rw [if_pos c8] at H
                   have c8b0 : decide (0 ≤ x18_2) = true := decide_eq_true c8
                   clear c8
                   by_cases c9 : x18_2 < ((rd_L3 l0 x12_1).length : Int)
                   · rw [if_pos c9] at H
                     have c9b0 : decide (x18_2 < ((rd_L3 l0 x12_1).length : Int)) = true := decide_eq_true c9
                     clear c9
                     by_cases c10 : x414001_2.length < 4398046511104
                     · rw [if_pos c10] at H
                       have LMc10 := Aside0.mk c10
                       clear c10
                       obtain ⟨y415, hy415⟩ : ∃ y_ : List (S84), y_ = (x414001_2 ++ [(⟨rd (rd_L3 l0 x12_1) x18_2, ([] : List (S84))⟩ : S84)]) := ⟨_, rfl⟩
                       replace H : (impl_rowed.l1 k2 l0 (l0.length : Int) x12_1 (rd_L3 l0 x12_1) ((rd_L3 l0 x12_1).length : Int) (wrap64 (x18_2 + 1)) 0 x410001_1 0 y415) = some (r1, r2) := by first | (rw [hy415]; with_reducible exact H) | (have H2_ := (Option.bind_some _ _).symm.trans H; rw [hy415]; with_reducible exact H2_) | (have H2_ := (Option.bind_some _ _).symm.trans H; with_reducible exact H2_) | with_reducible exact H | (rw [hy415]; exact H) | exact H
                       have Ny415 := Aside0.mk hy415
                       clear hy415
                       have H' := Aside0.mk H
                       clear H
                       have p414 : 0 ≤ (x18_2 : Int) := of_decide_eq_true (by assumption)
                       have q414 : x18_2 < ((rd_L3 l0 x12_1).length : Int) := of_decide_eq_true (by assumption)
                       obtain ⟨ad414, e414, hx414_0⟩ := Kd.at_int HR412_0.out x18_2 p414 q414
                       cases e414
                       replace hx414_0 := (HB.out.cell (World.block_lt_of_cell? w _ hx414_0)).trans hx414_0
                       replace p414 := eq_true p414
                       replace q414 := eq_true q414
                       have hnb11 := NB413_409.out
                       have hnc11 := NB409_413.out
                       have hcz12_0 : wr.cell? ⟨gb413, 0, none⟩ = some (.int .i64 0) := (blk_cell BK413.out 0).trans rfl
                       have hcz12_1 : wr.cell? ⟨gb413, 1, none⟩ = some (u414001) := (blk_cell BK413.out 1).trans rfl
                       have hfz12_0 := blk_frozen BK413.out 0
                       have hfz12_1 := blk_frozen BK413.out 1
                       go_wp2_with (first | ((with_reducible refine gate_builtin (b := .append) (xs := #[.tmp 23, .tmp 26]) rfl ?_); at_builtin; refine Kd.R_append k84 (w0 := w) w.heap.size rfl (.tmp 23) (.tmp 26) 82 84 (.agg #[(.int .i64 0), (.slice none 0 0)]) 32 rfl Tryd.underlying82 info84 rfl (by decide) (by omega) u414001 x414001_2 (⟨rd (rd_L3 l0 x12_1) x18_2, ([] : List (S84))⟩ : S84) [.int .i64 (rd (rd_L3 l0 x12_1) x18_2), .slice none 0 0] (fun k_ => some k_ ≠ (u410001 : Value).ownBlock ∧ k_ ≠ gb409 ∧ k_ ≠ gb413) (fun k_ => ((fun k_ => some k_ ≠ (u410001 : Value).ownBlock ∧ k_ ≠ gb409 ∧ k_ ≠ gb413)) k_ ∧ some k_ ≠ (u414001 : Value).ownBlock) rfl rfl ?aP (fun _ hk => hk) ?aF ?aO ?aB ?aS ?aL ?_; (case aP => exact k84_mkM _ _ _ (⟨rd (rd_L3 l0 x12_1) x18_2, ([] : List (S84))⟩ : S84) (Kd.R_nil _ _ _ _ _)); (case aB => exact (by repeat (first | (with_reducible first | exact HB.out | apply below_alloc | apply pw_below_drewN | apply below_drew1 | refine below_set ?_ GE409.out | refine below_set ?_ GE413.out) | exact HB.out))); (case aF => exact (fun k_ hk => ⟨Kd.fresh' (Kd.R_lt (FR HO_410001.out)) k_ hk, Kd.freshB (g := gb409) (o := .cells #[.int .i64 0, u410001] 84 (0, 0)) (FK BK409.out) k_ hk, Kd.freshB (g := gb413) (o := .cells #[.int .i64 0, u414001] 84 (0, 0)) (FK BK413.out) k_ hk⟩)); (case aO => exact (FR HO_414001.out)); (case aS => exact (below_size (by repeat (first | (with_reducible first | exact HB.out | apply below_alloc | apply pw_below_drewN | apply below_drew1 | refine below_set ?_ GE409.out | refine below_set ?_ GE413.out) | exact HB.out)))); (case aL => have := LMc10.out; omega); intro v416 w13 ho hb hg hat; rw [← Ny415.out] at ho; have n0_ := Aside0.mk (Kd.R_after (ok := (fun k_ => k_ ≠ gb409 ∧ k_ ≠ gb413)) (FR (Kd.R_mono HO_410001.out (fun _ hk => ⟨⟨hk.2.1, hk.2.2⟩, hk.1⟩))) hg hat); have n1_ := Aside0.mk (blk_grown (g := gb409) (o := .cells #[.int .i64 0, u410001] 84 (0, 0)) (FK BK409.out) hg (Kd.R_away HO_414001.out (fun _ hk => hk.2.1))); have n2_ := Aside0.mk (blk_grown (g := gb413) (o := .cells #[.int .i64 0, u414001] 84 (0, 0)) (FK BK413.out) hg (Kd.R_away HO_414001.out (fun _ hk => hk.2.2))); have n3_ := Aside0.mk (hb); have n4_ := Aside0.mk (ho); clear HO_410001; clear BK409; clear BK413; clear HB; clear HO_414001; have HO_410001 := n0_; have BK409 := n1_; have BK413 := n2_; have HB := n3_; have HO417 := n4_; clear n0_ n1_ n2_ n3_ n4_; clear ho hb hg hat; obtain ⟨Ao14, co14, eo14⟩ := Kd.R_slice HO417.out; subst eo14; have hcz15_0 : w13.cell? ⟨gb413, 0, none⟩ = some (.int .i64 0) := (blk_cell BK413.out 0).trans rfl; have hcz15_1 : w13.cell? ⟨gb413, 1, none⟩ = some (u414001) := (blk_cell BK413.out 1).trans rfl; have hfz15_0 := blk_frozen BK413.out 0; have hfz15_1 := blk_frozen BK413.out 1))
                       go_roundg k2
                       case measure => have := HK1.out; have := HK2.out; omega
                       case rel => exact ⟨(wrap64 (x18_2 + 1)), (y415), (.slice Ao14 y415.length co14), (by first | rfl | (simp; done) | (simp [*]; done)), H', ⟨by have := HK1.out; have := HK2.out; omega⟩, ⟨(FR (Kd.R_mono (Kd.R_far (p := ⟨gb413, 1, none⟩) (Kd.R_mono HO_410001.out (fun k_ hk => (⟨hk, hk.1.2⟩ : _ ∧ k_ ≠ gb413))) (fun _ hk => hk.2) (.slice Ao14 y415.length co14)) (fun _ hk => ⟨hk.1.2, ⟨hk.1.1.1, hk.1.1.2⟩⟩)))⟩, ⟨(FR (Kd.R_mono (Kd.R_far (p := ⟨gb413, 1, none⟩) (Kd.R_mono HO417.out (fun k_ hk => (⟨hk, hk.2.2⟩ : _ ∧ k_ ≠ gb413))) (fun _ hk => hk.2) (.slice Ao14 y415.length co14)) (fun _ hk => ⟨hk.1.1, ⟨hk.1.2.1, hk.1.2.2⟩⟩)))⟩, ⟨by (with_reducible repeat (first | refine blk_drewN ?_ _ | refine blk_drew ?_ | refine blk_alloc ?_ _)); refine blk_far ?_ NB409_413.out _; (with_reducible repeat (first | refine blk_drewN ?_ _ | refine blk_drew ?_ | refine blk_alloc ?_ _)); exact BK409.out⟩, ⟨by (with_reducible repeat (first | refine blk_drewN ?_ _ | refine blk_drew ?_ | refine blk_alloc ?_ _)); refine blk_put (cs := #[.int .i64 0, u414001]) ?_ 1 _ rfl; (with_reducible repeat (first | refine blk_drewN ?_ _ | refine blk_drew ?_ | refine blk_alloc ?_ _)); exact BK413.out⟩, ⟨by repeat (first | (with_reducible first | exact HB.out | apply below_alloc | apply pw_below_drewN | apply below_drew1 | refine below_set ?_ GE409.out | refine below_set ?_ GE413.out) | exact HB.out)⟩⟩
                     · rw [if_neg c10] at H
                       exact absurd H (by simp)
                   · rw [if_neg c9] at H
                     exact absurd H (by simp)
                 · rw [if_neg c8] at H
                   exact absurd H (by simp)
               · rw [if_neg c7] at H
                 have c7b0 : decide (x18_2 < ((rd_L3 l0 x12_1).length : Int)) = false := decide_eq_false c7
                 clear c7
                 by_cases c16 : x410001_1.length < 4398046511104
                 · rw [if_pos c16] at H
                   have LMc16 := Aside0.mk c16
                   clear c16
                   obtain ⟨y418, hy418⟩ : ∃ y_ : List (S84), y_ = (x410001_1 ++ [(⟨0, x414001_2⟩ : S84)]) := ⟨_, rfl⟩
                   replace H : (impl_rowed.l0 k2 l0 (l0.length : Int) (wrap64 (x12_1 + 1)) 0 y418) = some (r1, r2) := by first | (rw [hy418]; with_reducible exact H) | (have H2_ := (Option.bind_some _ _).symm.trans H; rw [hy418]; with_reducible exact H2_) | (have H2_ := (Option.bind_some _ _).symm.trans H; with_reducible exact H2_) | with_reducible exact H | (rw [hy418]; exact H) | exact H
                   have Ny418 := Aside0.mk hy418
                   clear hy418
                   have H' := Aside0.mk H
                   clear H
                   have hnb17 := NB409_413.out
                   have hnc17 := NB413_409.out
                   have hcz18_0 : wr.cell? ⟨gb409, 0, none⟩ = some (.int .i64 0) := (blk_cell BK409.out 0).trans rfl
                   have hcz18_1 : wr.cell? ⟨gb409, 1, none⟩ = some (u410001) := (blk_cell BK409.out 1).trans rfl
                   have hfz18_0 := blk_frozen BK409.out 0
                   have hfz18_1 := blk_frozen BK409.out 1
                   have hcz19_0 : wr.cell? ⟨gb413, 0, none⟩ = some (.int .i64 0) := (blk_cell BK413.out 0).trans rfl
                   have hcz19_1 : wr.cell? ⟨gb413, 1, none⟩ = some (u414001) := (blk_cell BK413.out 1).trans rfl
                   have hfz19_0 := blk_frozen BK413.out 0
                   have hfz19_1 := blk_frozen BK413.out 1
                   obtain ⟨Ao21, co21, eo21⟩ := Kd.R_slice HO_414001.out
                   subst eo21
                   go_wp2_with (first | ((with_reducible refine gate_builtin (b := .append) (xs := #[.tmp 31, .tmp 33]) rfl ?_); at_builtin; refine Kd.R_append k84 (w0 := w) w.heap.size rfl (.tmp 31) (.tmp 33) 82 84 (.agg #[(.int .i64 0), (.slice none 0 0)]) 32 rfl Tryd.underlying82 info84 rfl (by decide) (by omega) u410001 x410001_1 (⟨0, x414001_2⟩ : S84) [.int .i64 0, .slice Ao21 x414001_2.length co21] (fun k_ => k_ ≠ gb409 ∧ k_ ≠ gb413) (fun k_ => ((fun k_ => k_ ≠ gb409 ∧ k_ ≠ gb413)) k_ ∧ some k_ ≠ (u410001 : Value).ownBlock) rfl rfl ?aP (fun _ hk => hk) ?aF ?aO ?aB ?aS ?aL ?_; (case aP => exact k84_mkM _ _ _ (⟨0, x414001_2⟩ : S84) (Kd.R_mono (HO_414001.out) (fun k_ hk => ⟨⟨hk.2.1, hk.2.2⟩, hk.1⟩))); (case aB => exact (by repeat (first | (with_reducible first | exact HB.out | apply below_alloc | apply pw_below_drewN | apply below_drew1 | refine below_set ?_ GE409.out | refine below_set ?_ GE413.out) | exact HB.out))); (case aF => exact (fun k_ hk => ⟨Kd.freshB (g := gb409) (o := .cells #[.int .i64 0, u410001] 84 (0, 0)) (FK BK409.out) k_ hk, Kd.freshB (g := gb413) (o := .cells #[.int .i64 0, .slice Ao21 x414001_2.length co21] 84 (0, 0)) (FK BK413.out) k_ hk⟩)); (case aO => exact (FR (Kd.R_mono HO_410001.out (fun _ hk => ⟨hk.2.1, hk.2.2⟩)))); (case aS => exact (below_size (by repeat (first | (with_reducible first | exact HB.out | apply below_alloc | apply pw_below_drewN | apply below_drew1 | refine below_set ?_ GE409.out | refine below_set ?_ GE413.out) | exact HB.out)))); (case aL => have := LMc16.out; omega); intro v419 w20 ho hb hg hat; rw [← Ny418.out] at ho; have n0_ := Aside0.mk (blk_grown (g := gb409) (o := .cells #[.int .i64 0, u410001] 84 (0, 0)) (FK BK409.out) hg (Kd.R_away HO_410001.out (fun _ hk => hk.2.1))); have n1_ := Aside0.mk (blk_grown (g := gb413) (o := .cells #[.int .i64 0, .slice Ao21 x414001_2.length co21] 84 (0, 0)) (FK BK413.out) hg (Kd.R_away HO_410001.out (fun _ hk => hk.2.2))); have n2_ := Aside0.mk (hb); have n3_ := Aside0.mk (ho); clear BK409; clear BK413; clear HB; clear HO_410001; clear HO_414001; have BK409 := n0_; have BK413 := n1_; have HB := n2_; have HO420 := n3_; clear n0_ n1_ n2_ n3_; clear ho hb hg hat; obtain ⟨Ao22, co22, eo22⟩ := Kd.R_slice HO420.out; subst eo22; have hcz23_0 : w20.cell? ⟨gb409, 0, none⟩ = some (.int .i64 0) := (blk_cell BK409.out 0).trans rfl; have hcz23_1 : w20.cell? ⟨gb409, 1, none⟩ = some (u410001) := (blk_cell BK409.out 1).trans rfl; have hfz23_0 := blk_frozen BK409.out 0; have hfz23_1 := blk_frozen BK409.out 1))
                   go_roundg k2
                   case measure => have := HK1.out; have := HK2.out; omega
                   case rel => exact ⟨(wrap64 (x12_1 + 1)), (y418), (.slice Ao22 y418.length co22), (by first | rfl | (simp; done) | (simp [*]; done)), H', ⟨by have := HK1.out; have := HK2.out; omega⟩, ⟨(FR (Kd.R_mono (Kd.R_far (p := ⟨gb409, 1, none⟩) (Kd.R_mono HO420.out (fun k_ hk => (⟨hk, hk.1⟩ : _ ∧ k_ ≠ gb409))) (fun _ hk => hk.2) (.slice Ao22 y418.length co22)) (fun _ hk => hk.1.1)))⟩, ⟨by (with_reducible repeat (first | refine blk_drewN ?_ _ | refine blk_drew ?_ | refine blk_alloc ?_ _)); refine blk_put (cs := #[.int .i64 0, u410001]) ?_ 1 _ rfl; (with_reducible repeat (first | refine blk_drewN ?_ _ | refine blk_drew ?_ | refine blk_alloc ?_ _)); exact BK409.out⟩, ⟨by repeat (first | (with_reducible first | exact HB.out | apply below_alloc | apply pw_below_drewN | apply below_drew1 | refine below_set ?_ GE409.out | refine below_set ?_ GE413.out) | exact HB.out)⟩⟩
                 · rw [if_neg c16] at H
                   exact absurd H (by simp)
         · rw [if_neg c5] at H
           exact absurd H (by simp)
       · rw [if_neg c4] at H
         exact absurd H (by simp)
     · rw [if_neg c3] at H
       have c3b0 : decide (x12_1 < (l0.length : Int)) = false := decide_eq_false c3
       clear c3
       replace H := Option.bind_eq_some_iff.mp H
       obtain ⟨⟨t410, t411⟩, A240, H⟩ := H
       replace H : (some (t410, t411)) = some (r1, r2) := H
       have A24 := Aside0.mk A240
       clear A240
       simp only [Option.some.injEq, Prod.mk.injEq] at H
       obtain ⟨rfl, rfl⟩ := H
       have hcz25_0 : wr.cell? ⟨gb409, 0, none⟩ = some (.int .i64 0) := (blk_cell BK409.out 0).trans rfl
       have hcz25_1 : wr.cell? ⟨gb409, 1, none⟩ = some (u410001) := (blk_cell BK409.out 1).trans rfl
       have hfz25_0 := blk_frozen BK409.out 0
       have hfz25_1 := blk_frozen BK409.out 1
       obtain ⟨Ao26, co26, eo26⟩ := Kd.R_slice HO_410001.out
       subst eo26
       go_wp2_with (first | ((with_reducible refine gate_callee (f := 101) rfl ?_); refine goesL_ (some 38) rfl rfl Tryd.func101 (by kernel_rfl) rfl #[.agg #[.int .i64 0, .slice Ao26 x410001_1.length co26], .int .i64 2] rfl (by (try simp only [List.map_toArray, List.map_cons, List.map_nil]); first | done | rfl | (simp only [List.length_drop, List.length_take]; rfl)) ?_; (with_reducible refine (impl_arr_short.calls k1 0 _ _ x410001_1 2 t410 t411 _ ?side1 ?side2 A24.out (LaidW.after HLd.out (by repeat (first | (with_reducible first | exact HB.out | apply below_alloc | apply pw_below_drewN | apply below_drew1 | refine below_set ?_ GE409.out) | exact HB.out)))).mono ?_); (case side1 => repeat (first | exact (Kd.R_reads' HO_410001.out).2.2 | (with_reducible refine Kd.C_alloc ?_ _) | (with_reducible refine Kd.C_drewN ?_ _) | (with_reducible refine Kd.C_drew ?_))); (case side2 => exact (Kd.R_reads' HO_410001.out).2.1); rintro e w27 ⟨rfl, hb⟩; refine ⟨_, rfl, ?_⟩; have n0_ := Aside0.mk (Kd.R_below (FR HO_410001.out) hb); have n1_ := Aside0.mk (blk_below (g := gb409) (o := .cells #[.int .i64 0, .slice Ao26 x410001_1.length co26] 84 (0, 0)) (FK BK409.out) hb); have n2_ := Aside0.mk (below_step (by repeat (first | (with_reducible first | exact HB.out | apply below_alloc | apply pw_below_drewN | apply below_drew1 | refine below_set ?_ GE409.out) | exact HB.out)) hb); clear HO_410001; clear BK409; clear HB; have HO_410001 := n0_; have BK409 := n1_; have HB := n2_; clear n0_ n1_ n2_; (try clear hb); (try clear hb2); (try clear hk); (try clear hi)))
       go_ret2
       exact ⟨by first | rfl | (simp [errW_none, errW_some] <;> rfl) | (simp [*, errW_none, errW_some] <;> rfl), by repeat (first | (with_reducible first | exact HB.out | apply below_alloc | apply pw_below_drewN | apply below_drew1 | refine below_set ?_ GE409.out) | exact HB.out)⟩

end Go.Proofs.YtmjoigpnnechgaaDoor.G
