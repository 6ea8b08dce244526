-- PRINTED by print.py (a twelfth state) out of the translation. Not trusted: Lean checks it.
import Derived.Test.YtmjoigpnnechgaaDoorDx0
import Derived.Test.YtmjoigpnnechgaaDoorDx2
import Derived.Test.YtmjoigpnnechgaaDoorDx8
import Derived.Test.YtmjoigpnnechgaaDoorDGstr
namespace Go.Proofs.YtmjoigpnnechgaaDoor.D
open Go.RowKit Go.Proofs.YtmjoigpnnechgaaDoorW.PrintWords Go.Proofs.YtmjoigpnnechgaaDoorW.PrintLast Go.Proofs.YtmjoigpnnechgaaDoorW.PrintMore
attribute [local go_sem] max2_int min2_int max_two min_two max_three min_three max_four min_four   -- for this text's walks alone
set_option linter.unusedVariables false
set_option linter.unusedSimpArgs false

/-! ### spec_TurnArray: function 51 -/
mutual
def spec_TurnArray.j0 : Nat → Int → Bool → Int → List (S95) → Option (ByteArray × Bool)
 | 0, _, _, _, _ => none
 | k + 1, x1, x21, x372000, x372001 => if x21 = true then (some ((⟨#[]⟩ : ByteArray), false)) else (spec_TurnArray.l0 k x1 (wrap64 ((x372001.length : Int) - 1)) x372000 x372001 0 (([] : List (S95))))
def spec_TurnArray.l0 : Nat → Int → Int → Int → List (S95) → Int → List (S95) → Option (ByteArray × Bool)
 | 0, _, _, _, _, _, _ => none
 | k + 1, x1, x9, x372000, x372001, x376000, x376001 => if x9 ≥ 0 then (if 0 ≤ x9 then (if x9 < (x372001.length : Int) then (if x376001.length < 4398046511104 then (spec_TurnArray.l0 k x1 (wrap64 (x9 - 1)) x372000 x372001 x376000 (x376001 ++ [(⟨(rd_T95 x372001 x9).f0, (rd_T95 x372001 x9).f1⟩ : S95)])) else (none)) else (none)) else (none)) else ((spec_l1Text.f k x376000 x376001 x1).bind fun t380 => (some (t380, true)))
end
def spec_TurnArray.f (k : Nat) (a0 : ByteArray) (a1 : Int) : Option (ByteArray × Bool) := (spec_l1Read.f k a0 a1).bind fun bt366 => (if bt366.2.2 = true then (spec_TurnArray.j0 k a1 (a1 == 0) bt366.1 bt366.2.1) else (spec_TurnArray.j0 k a1 true bt366.1 bt366.2.1))
theorem spec_TurnArray.mono_l : ∀ k, (∀ y0 y1 y2 y3, LeO (spec_TurnArray.j0 k y0 y1 y2 y3) (spec_TurnArray.j0 (k + 1) y0 y1 y2 y3)) ∧ (∀ y0 y1 y2 y3 y4 y5, LeO (spec_TurnArray.l0 k y0 y1 y2 y3 y4 y5) (spec_TurnArray.l0 (k + 1) y0 y1 y2 y3 y4 y5))
 | 0 => ⟨fun _ _ _ _ r h => by simp [spec_TurnArray.j0] at h, fun _ _ _ _ _ _ r h => by simp [spec_TurnArray.l0] at h⟩
 | k + 1 => by
   obtain ⟨ih0, ih1⟩ := spec_TurnArray.mono_l k
   refine ⟨?_, ?_⟩
   · intro y0 y1 y2 y3
     unfold spec_TurnArray.j0
     repeat' first
     | (with_reducible exact ih0 _ _ _ _)
     | (with_reducible exact ih1 _ _ _ _ _ _)
     | (with_reducible exact spec_l1Read.mono _ _ _)
     | (with_reducible exact spec_l1Text.mono _ _ _ _)
     | (with_reducible exact LeO.refl _)
     | (with_reducible exact LeO.none _)
     | (with_reducible refine LeO.ite ?_ ?_)
     | (with_reducible refine LeO.bind ?_ (fun _ => ?_))
     | exact ih0 _ _ _ _
     | exact ih1 _ _ _ _ _ _
     | exact spec_l1Read.mono _ _ _
     | exact spec_l1Text.mono _ _ _ _
     | exact LeO.none _
     | refine LeO.ite ?_ ?_
     | refine LeO.bind ?_ (fun _ => ?_)
   · intro y0 y1 y2 y3 y4 y5
     unfold spec_TurnArray.l0
     repeat' first
     | (with_reducible exact ih0 _ _ _ _)
     | (with_reducible exact ih1 _ _ _ _ _ _)
     | (with_reducible exact spec_l1Read.mono _ _ _)
     | (with_reducible exact spec_l1Text.mono _ _ _ _)
     | (with_reducible exact LeO.refl _)
     | (with_reducible exact LeO.none _)
     | (with_reducible refine LeO.ite ?_ ?_)
     | (with_reducible refine LeO.bind ?_ (fun _ => ?_))
     | exact ih0 _ _ _ _
     | exact ih1 _ _ _ _ _ _
     | exact spec_l1Read.mono _ _ _
     | exact spec_l1Text.mono _ _ _ _
     | exact LeO.none _
     | refine LeO.ite ?_ ?_
     | refine LeO.bind ?_ (fun _ => ?_)
theorem spec_TurnArray.mono : ∀ a0 a1 k, LeO (spec_TurnArray.f k a0 a1) (spec_TurnArray.f (k + 1) a0 a1) := by
 intro a0 a1 k
 obtain ⟨ih0, ih1⟩ := spec_TurnArray.mono_l k
 unfold spec_TurnArray.f
 repeat' first
     | (with_reducible exact ih0 _ _ _ _)
     | (with_reducible exact ih1 _ _ _ _ _ _)
     | (with_reducible exact spec_l1Read.mono _ _ _)
     | (with_reducible exact spec_l1Text.mono _ _ _ _)
     | (with_reducible exact LeO.refl _)
     | (with_reducible exact LeO.none _)
     | (with_reducible refine LeO.ite ?_ ?_)
     | (with_reducible refine LeO.bind ?_ (fun _ => ?_))
     | exact ih0 _ _ _ _
     | exact ih1 _ _ _ _ _ _
     | exact spec_l1Read.mono _ _ _
     | exact spec_l1Text.mono _ _ _ _
     | exact LeO.none _
     | refine LeO.ite ?_ ?_
     | refine LeO.bind ?_ (fun _ => ?_)
def spec_TurnArray.T8 : Bool × List (List Nat × List Nat) := (true, [([], []), ([0], [0]), ([], []), ([2], [2]), ([], []), ([3, 4], [3, 4]), ([5], [5]), ([6], [6]), ([1, 7], [1, 7]), ([0, 1, 2, 3, 4, 5, 6, 7, 8], []), ([9, 8, 8, 0, 1, 2, 3, 4, 5, 6, 7, 8], [8, 9])])
def spec_TurnArray.B8 : List Nat := [0, 1, 0, 4, 0, 28, 60, 124, 255, 511, 1023]
theorem spec_TurnArray.tab8 : rtab .any (opsOf Tryd.f51 8) = spec_TurnArray.T8 := by kernel_rfl
theorem spec_TurnArray.bits8 : waitsOk spec_TurnArray.T8.2 spec_TurnArray.B8 = true := by kernel_rfl
set_option maxHeartbeats 8000000 in
set_option maxRecDepth 100000 in
theorem spec_TurnArray.calls (k : Nat) (a0 : ByteArray) (a1 : Int) (r1 : ByteArray) (r2 : Bool) (w : World) (h : spec_TurnArray.f k a0 a1 = some (r1, r2)) :
   Calls Tryd.prog 51 #[.string a0, .int .i64 a1] w fun e w' => e = .returned (.tuple #[.string r1, .bool r2]) ∧ Below w.heap.size w w' := by
 have hu95 := Tryd.underlying95
 have HB := Aside0.mk (Below.refl w.heap.size w)
 have H : ((spec_l1Read.f k a0 a1).bind fun bt366 => (if bt366.2.2 = true then (spec_TurnArray.j0 k a1 (a1 == 0) bt366.1 bt366.2.1) else (spec_TurnArray.j0 k a1 true bt366.1 bt366.2.1))) = some (r1, r2) := h
 clear h
 replace H := Option.bind_eq_some_iff.mp H
 obtain ⟨⟨t366, t367, t370⟩, A30, H⟩ := H
 replace H : (if t370 = true then (spec_TurnArray.j0 k a1 (a1 == 0) t366 t367) else (spec_TurnArray.j0 k a1 true t366 t367)) = some (r1, r2) := H
 have A3 := Aside0.mk A30
 clear A30
 have HC4 := Aside0.mk H
 clear H
 go_enter Tryd.func51, Tryd.ntmps51
 go_upto_region 2 with (first | ((with_reducible refine gate_callee (f := 89) rfl ?_); refine goesL_ (some 13) rfl rfl Tryd.func89 (by kernel_rfl) rfl #[.string a0, .int .i64 a1] rfl (by (try simp only [List.map_toArray, List.map_cons, List.map_nil]); first | done | rfl | (simp only [List.length_drop, List.length_take]; rfl)) ?_; (with_reducible refine (spec_l1Read.calls k a0 a1 t366 t367 t370 _ A3.out).mono ?_); rintro e w5 ⟨v368, rfl, ho0, hb⟩; refine ⟨_, rfl, ?_⟩; have n0_ := Aside0.mk (Kd.N_lower (Kd.N_mono (ok' := fun k_ => True) (Kd.R_N (Kd.R_bound ho0)) (fun k_ hk_ => trivial)) (below_size (by repeat (first | (with_reducible first | exact HB.out | apply below_alloc | apply pw_below_drewN | apply below_drew1) | exact HB.out)))); have n1_ := Aside0.mk (below_step (by repeat (first | (with_reducible first | exact HB.out | apply below_alloc | apply pw_below_drewN | apply below_drew1) | exact HB.out)) hb); clear HB; have HO369 := n0_; have HB := n1_; clear n0_ n1_; (try clear hb); (try clear hb2); (try clear hk); (try clear hi); (try clear ho0)) | ((with_reducible refine gate_dst (N := 6) rfl ?_); refine box_event ?hg (N := 6) ?hd (cs := #[.int .i64 0, .slice none 0 0]) (t := 95) ?hr ?_; (case hd => rfl); (case hg => rfl); (case hr => first | (go_simp; done) | (go_simp; rfl)); intro gb371 hg w6 hbox hb; have n0_ := Aside0.mk (Kd.N_below (Kd.N_elderB (by (with_reducible repeat (first | apply Kd.N_alloc | apply Kd.N_drewN | apply Kd.N_drew)); exact HO369.out) gb371 (Nat.le_of_eq hg.symm)) hb); have n1_ := Aside0.mk (below_step (by repeat (first | (with_reducible first | exact HB.out | apply below_alloc | apply pw_below_drewN | apply below_drew1) | exact HB.out)) hb); have n2_ := Aside0.mk (hbox); have n3_ := Aside0.mk ((by rw [hg]; exact (below_size (by repeat (first | (with_reducible first | exact HB.out | apply below_alloc | apply pw_below_drewN | apply below_drew1) | exact HB.out))) : w.heap.size ≤ gb371)); have n4_ := Aside0.mk ((by rw [hg]; exact (below_size (by repeat (first | (with_reducible first | exact HB.out | apply below_alloc | apply pw_below_drewN | apply below_drew1) | exact HB.out))) : w.heap.size ≤ gb371)); clear HO369; clear HB; have HO369 := n0_; have HB := n1_; have BK371 := n2_; have GW371 := n3_; have GE371 := n4_; clear n0_ n1_ n2_ n3_ n4_; clear hb hbox hg; have hcz7_0 : w6.cell? ⟨gb371, 0, none⟩ = some (.int .i64 0) := (blk_cell BK371.out 0).trans rfl; have hcz7_1 : w6.cell? ⟨gb371, 1, none⟩ = some (.slice none 0 0) := (blk_cell BK371.out 1).trans rfl; have hfz7_0 := blk_frozen BK371.out 0; have hfz7_1 := blk_frozen BK371.out 1; obtain ⟨Ao8, co8, eo8⟩ := Kd.N_slice HO369.out; subst eo8))
 (try simp only [Act.put, List.setIfInBounds_toArray, List.set_cons_zero, List.set_cons_succ])
 go_cut [21] (fun v21 wc => ∃ (kq : Nat) (x21_3 : Bool), v21 = .bool x21_3 ∧ Aside0 (spec_TurnArray.j0 kq a1 x21_3 t366 t367 = some (r1, r2)) ∧ Aside0 (kq ≤ k) ∧ Aside0 (Kd.N k95 95 wc w.heap.size (fun k_ => k_ ≠ gb371) (.slice Ao8 t367.length co8) t367) ∧ Aside0 (wc.heap[gb371]? = some (.cells #[.int .i64 t366, (.slice Ao8 t367.length co8)] 95 (0, 0))) ∧ Aside0 (Below w.heap.size w wc))
 case first =>
   have H := HC4.out
   clear HC4
   by_cases c9 : t370 = true
   · subst c9
     have H1 : (spec_TurnArray.j0 k a1 (a1 == 0) t366 t367) = some (r1, r2) := by rw [if_pos rfl] at H; exact H
     clear H
     have H := H1
     clear H1
     have H' := Aside0.mk H
     clear H
     go_wp2
     go_meet
     case rel => exact ⟨_, ((a1 == 0)), (by first | rfl | (simp; done) | (simp [*]; done)), H', ⟨by first | omega | exact Nat.le_refl _⟩, ⟨by (with_reducible repeat (first | apply Kd.N_alloc | apply Kd.N_drewN | apply Kd.N_drew)); exact Kd.N_mono (Kd.N_far (p := ⟨gb371, 1, none⟩) (Kd.N_far (p := ⟨gb371, 0, none⟩) (Kd.N_mono HO369.out (fun k_ hk => (⟨hk, hk.2⟩ : _ ∧ k_ ≠ gb371))) (fun _ hk => hk.2) (.int .i64 t366)) (fun _ hk => hk.2) (.slice Ao8 t367.length co8)) (fun _ hk => hk.1.2)⟩, ⟨by (with_reducible repeat (first | refine blk_drewN ?_ _ | refine blk_drew ?_ | refine blk_alloc ?_ _)); refine blk_put (cs := #[.int .i64 t366, .slice none 0 0]) ?_ 1 _ rfl; (with_reducible repeat (first | refine blk_drewN ?_ _ | refine blk_drew ?_ | refine blk_alloc ?_ _)); refine blk_put (cs := #[.int .i64 0, .slice none 0 0]) ?_ 0 _ rfl; (with_reducible repeat (first | refine blk_drewN ?_ _ | refine blk_drew ?_ | refine blk_alloc ?_ _)); exact BK371.out⟩, ⟨by repeat (first | (with_reducible first | exact HB.out | apply below_alloc | apply pw_below_drewN | apply below_drew1 | refine below_set ?_ GE371.out) | exact HB.out)⟩⟩
   · replace c9 := Bool.eq_false_iff.mpr c9
     subst c9
     have H1 : (spec_TurnArray.j0 k a1 true t366 t367) = some (r1, r2) := by rw [if_neg (show ¬ (false = true) by decide)] at H; exact H
     clear H
     have H := H1
     clear H1
     have H' := Aside0.mk H
     clear H
     go_wp2
     go_meet
     case rel => exact ⟨_, (true), (by first | rfl | (simp; done) | (simp [*]; done)), H', ⟨by first | omega | exact Nat.le_refl _⟩, ⟨by (with_reducible repeat (first | apply Kd.N_alloc | apply Kd.N_drewN | apply Kd.N_drew)); exact Kd.N_mono (Kd.N_far (p := ⟨gb371, 1, none⟩) (Kd.N_far (p := ⟨gb371, 0, none⟩) (Kd.N_mono HO369.out (fun k_ hk => (⟨hk, hk.2⟩ : _ ∧ k_ ≠ gb371))) (fun _ hk => hk.2) (.int .i64 t366)) (fun _ hk => hk.2) (.slice Ao8 t367.length co8)) (fun _ hk => hk.1.2)⟩, ⟨by (with_reducible repeat (first | refine blk_drewN ?_ _ | refine blk_drew ?_ | refine blk_alloc ?_ _)); refine blk_put (cs := #[.int .i64 t366, .slice none 0 0]) ?_ 1 _ rfl; (with_reducible repeat (first | refine blk_drewN ?_ _ | refine blk_drew ?_ | refine blk_alloc ?_ _)); refine blk_put (cs := #[.int .i64 0, .slice none 0 0]) ?_ 0 _ rfl; (with_reducible repeat (first | refine blk_drewN ?_ _ | refine blk_drew ?_ | refine blk_alloc ?_ _)); exact BK371.out⟩, ⟨by repeat (first | (with_reducible first | exact HB.out | apply below_alloc | apply pw_below_drewN | apply below_drew1 | refine below_set ?_ GE371.out) | exact HB.out)⟩⟩
 case rest =>
   clear HC4
   try clear p2
   try clear c5
   try clear c8
   try clear c9
   try clear hcz7_0
   try clear hcz7_1
   try clear hfz7_0
   try clear hfz7_1
   obtain ⟨kq, x21_3, rfl, HA, HJ3, HO_372001, BK371, HB⟩ := hcut
   cases kq with
   | zero => exact absurd HA.out (by simp [spec_TurnArray.j0])
   | succ kj3 =>
     have H := HA.out
     clear HA
     simp only [spec_TurnArray.j0] at H
     by_cases c10 : x21_3 = true
     · subst c10
       have H1 : (some ((⟨#[]⟩ : ByteArray), false)) = some (r1, r2) := by rw [if_pos rfl] at H; exact H
       clear H
       have H := H1
       clear H1
       simp only [Option.some.injEq, Prod.mk.injEq] at H
       obtain ⟨rfl, rfl⟩ := H
       go_wp2
       go_ret2
       exact ⟨by first | rfl | (simp [errW_none, errW_some] <;> rfl) | (simp [*, errW_none, errW_some] <;> rfl), by repeat (first | (with_reducible first | exact HB.out | apply below_alloc | apply pw_below_drewN | apply below_drew1 | refine below_set ?_ GE371.out) | exact HB.out)⟩
     · replace c10 := Bool.eq_false_iff.mpr c10
       subst c10
       have H1 : (spec_TurnArray.l0 kj3 a1 (wrap64 ((t367.length : Int) - 1)) t366 t367 0 (([] : List (S95)))) = some (r1, r2) := by rw [if_neg (show ¬ (false = true) by decide)] at H; exact H
       clear H
       have H := H1
       clear H1
       obtain ⟨y372, hy372⟩ : ∃ y_ : List (S95), y_ = (([] : List (S95))) := ⟨_, rfl⟩
       replace H : (spec_TurnArray.l0 kj3 a1 (wrap64 ((t367.length : Int) - 1)) t366 t367 0 y372) = some (r1, r2) := by first | (rw [hy372]; with_reducible exact H) | (have H2_ := (Option.bind_some _ _).symm.trans H; rw [hy372]; with_reducible exact H2_) | (have H2_ := (Option.bind_some _ _).symm.trans H; with_reducible exact H2_) | with_reducible exact H | (rw [hy372]; exact H) | exact H
       have Ny372 := Aside0.mk hy372
       clear hy372
       have H' := Aside0.mk H
       clear H
       go_wp2_with (first | ((with_reducible refine gate_dst (N := 22) rfl ?_); refine Kd.N_lit k95 _ 95 ?hg (N' := 22) ?hd (xs := ([] : List (S95))) (inner := []) (ok := (fun k_ => some k_ ≠ (.slice Ao8 t367.length co8 : Value).ownBlock ∧ k_ ≠ gb371)) (okp := (fun k_ => some k_ ≠ (.slice Ao8 t367.length co8 : Value).ownBlock ∧ k_ ≠ gb371)) ?hr ?hp (fun _ hk => hk) ((show ∀ k_, wc.heap.size ≤ k_ → (fun k_ => some k_ ≠ (.slice Ao8 t367.length co8 : Value).ownBlock ∧ k_ ≠ gb371) k_ from fun k_ hk => ⟨Kd.fresh' (Kd.N_lt (by (with_reducible repeat (first | apply Kd.N_alloc | apply Kd.N_drewN | apply Kd.N_drew)); exact HO_372001.out)) k_ hk, Kd.freshB (g := gb371) (o := .cells #[.int .i64 t366, .slice Ao8 t367.length co8] 95 (0, 0)) (by (with_reducible repeat (first | refine blk_drewN ?_ _ | refine blk_drew ?_ | refine blk_alloc ?_ _)); exact BK371.out) k_ hk⟩) _ (Nat.le_refl _)) (Below.refl _ _) (Nat.le_refl _) (by simp) ?_; (case hd => rfl); (case hg => rfl); (case hr => first | (go_simp; done) | (go_simp; rfl)); (case hp => exact (Reps.none _ _)); intro v373 w11 ho12 hb hg_ hnew_; clear hg_ hnew_; (first | rw [← Ny372.out] at ho12 | (simp only [Int.reduceToNat] at ho12; rw [← Ny372.out] at ho12)); have n0_ := Aside0.mk (Kd.N_elder' (by (with_reducible repeat (first | apply Kd.N_alloc | apply Kd.N_drewN | apply Kd.N_drew)); exact HO_372001.out) (Kd.N_base ho12) hb); have n1_ := Aside0.mk (Kd.N_lower ho12 (below_size (by repeat (first | (with_reducible first | exact HB.out | apply below_alloc | apply pw_below_drewN | apply below_drew1 | refine below_set ?_ GE371.out) | exact HB.out)))); have n2_ := Aside0.mk (blk_below (g := gb371) (o := .cells #[.int .i64 t366, .slice Ao8 t367.length co8] 95 (0, 0)) (by (with_reducible repeat (first | refine blk_drewN ?_ _ | refine blk_drew ?_ | refine blk_alloc ?_ _)); exact BK371.out) hb); have n3_ := Aside0.mk (below_step (by repeat (first | (with_reducible first | exact HB.out | apply below_alloc | apply pw_below_drewN | apply below_drew1 | refine below_set ?_ GE371.out) | exact HB.out)) hb); clear HO_372001; clear BK371; clear HB; have HO_372001 := n0_; have HO374 := n1_; have BK371 := n2_; have HB := n3_; clear n0_ n1_ n2_ n3_; clear hb ho12; obtain ⟨Ao13, co13, eo13⟩ := Kd.N_slice HO374.out; subst eo13) | ((with_reducible refine gate_dst (N := 8) rfl ?_); refine box_event ?hg (N := 8) ?hd (cs := #[.int .i64 0, .slice none 0 0]) (t := 95) ?hr ?_; (case hd => rfl); (case hg => rfl); (case hr => first | (go_simp; done) | (go_simp; rfl)); intro gb375 hg w14 hbox hb; have n0_ := Aside0.mk (Kd.N_below (Kd.N_elderB (by (with_reducible repeat (first | apply Kd.N_alloc | apply Kd.N_drewN | apply Kd.N_drew)); exact HO_372001.out) gb375 (Nat.le_of_eq hg.symm)) hb); have n1_ := Aside0.mk (Kd.N_below (Kd.N_elderB (by (with_reducible repeat (first | apply Kd.N_alloc | apply Kd.N_drewN | apply Kd.N_drew)); exact HO374.out) gb375 (Nat.le_of_eq hg.symm)) hb); have n2_ := Aside0.mk (blk_below (g := gb371) (o := .cells #[.int .i64 t366, .slice Ao8 t367.length co8] 95 (0, 0)) (by (with_reducible repeat (first | refine blk_drewN ?_ _ | refine blk_drew ?_ | refine blk_alloc ?_ _)); exact BK371.out) hb); have n3_ := Aside0.mk (below_step (by repeat (first | (with_reducible first | exact HB.out | apply below_alloc | apply pw_below_drewN | apply below_drew1 | refine below_set ?_ GE371.out) | exact HB.out)) hb); have n4_ := Aside0.mk (hbox); have n5_ := Aside0.mk ((by rw [hg]; exact (below_size (by repeat (first | (with_reducible first | exact HB.out | apply below_alloc | apply pw_below_drewN | apply below_drew1 | refine below_set ?_ GE371.out) | exact HB.out))) : w.heap.size ≤ gb375)); have n6_ := Aside0.mk ((by rw [hg]; exact (below_size (by repeat (first | (with_reducible first | exact HB.out | apply below_alloc | apply pw_below_drewN | apply below_drew1 | refine below_set ?_ GE371.out) | exact HB.out))) : w.heap.size ≤ gb375)); have n7_ := Aside0.mk ((by rw [hg]; exact Nat.ne_of_lt (blk_lt (g := gb371) (o := .cells #[.int .i64 t366, .slice Ao8 t367.length co8] 95 (0, 0)) (by (with_reducible repeat (first | refine blk_drewN ?_ _ | refine blk_drew ?_ | refine blk_alloc ?_ _)); exact BK371.out)) : gb371 ≠ gb375)); have n8_ := Aside0.mk ((by rw [hg]; exact Nat.ne_of_gt (blk_lt (g := gb371) (o := .cells #[.int .i64 t366, .slice Ao8 t367.length co8] 95 (0, 0)) (by (with_reducible repeat (first | refine blk_drewN ?_ _ | refine blk_drew ?_ | refine blk_alloc ?_ _)); exact BK371.out)) : gb375 ≠ gb371)); clear HO_372001; clear HO374; clear BK371; clear HB; have HO_372001 := n0_; have HO374 := n1_; have BK371 := n2_; have HB := n3_; have BK375 := n4_; have GW375 := n5_; have GE375 := n6_; have NB371_375 := n7_; have NB375_371 := n8_; clear n0_ n1_ n2_ n3_ n4_ n5_ n6_ n7_ n8_; clear hb hbox hg; have hnb15 := NB375_371.out; have hnc15 := NB371_375.out; have hcz16_0 : w14.cell? ⟨gb375, 0, none⟩ = some (.int .i64 0) := (blk_cell BK375.out 0).trans rfl; have hcz16_1 : w14.cell? ⟨gb375, 1, none⟩ = some (.slice none 0 0) := (blk_cell BK375.out 1).trans rfl; have hfz16_0 := blk_frozen BK375.out 0; have hfz16_1 := blk_frozen BK375.out 1; have hcz17_0 : w14.cell? ⟨gb371, 0, none⟩ = some (.int .i64 t366) := (blk_cell BK371.out 0).trans rfl; have hcz17_1 : w14.cell? ⟨gb371, 1, none⟩ = some (.slice Ao8 t367.length co8) := (blk_cell BK371.out 1).trans rfl; have hfz17_0 := blk_frozen BK371.out 0; have hfz17_1 := blk_frozen BK371.out 1))
       go_loopg [9] kj3 (fun kq v9 w' => ∃ (x9_2 : Int) (x376001_2 : List (S95)) (u376001 : Value), v9 = .int .i64 x9_2 ∧ Aside0 (spec_TurnArray.l0 kq a1 x9_2 t366 t367 0 x376001_2 = some (r1, r2)) ∧ Aside0 (kq ≤ kj3) ∧ Aside0 (Kd.N k95 95 w' w.heap.size (fun k_ => some k_ ≠ (u376001 : Value).ownBlock ∧ k_ ≠ gb371 ∧ k_ ≠ gb375) (.slice Ao8 t367.length co8) t367) ∧ Aside0 (Kd.N k95 95 w' w.heap.size (fun k_ => some k_ ≠ ((.slice Ao8 t367.length co8) : Value).ownBlock ∧ k_ ≠ gb371 ∧ k_ ≠ gb375) u376001 x376001_2) ∧ Aside0 (w'.heap[gb371]? = some (.cells #[.int .i64 t366, (.slice Ao8 t367.length co8)] 95 (0, 0))) ∧ Aside0 (w'.heap[gb375]? = some (.cells #[.int .i64 0, u376001] 95 (0, 0))) ∧ Aside0 (Below w.heap.size w w'))
       case atStart => exact ⟨(wrap64 ((t367.length : Int) - 1)), (y372), (.slice Ao13 y372.length co13), (by first | rfl | (simp; done) | (simp [*]; done)), H', ⟨Nat.le_refl _⟩, ⟨by (with_reducible repeat (first | apply Kd.N_alloc | apply Kd.N_drewN | apply Kd.N_drew)); exact Kd.N_mono (Kd.N_far (p := ⟨gb375, 1, none⟩) (Kd.N_far (p := ⟨gb375, 0, none⟩) (Kd.N_mono HO_372001.out (fun k_ hk => (⟨hk, hk.2⟩ : _ ∧ k_ ≠ gb375))) (fun _ hk => hk.2) (.int .i64 0)) (fun _ hk => hk.2) (.slice Ao13 y372.length co13)) (fun _ hk => ⟨hk.1.1.2, ⟨hk.1.1.1, hk.1.2⟩⟩)⟩, ⟨by (with_reducible repeat (first | apply Kd.N_alloc | apply Kd.N_drewN | apply Kd.N_drew)); exact Kd.N_mono (Kd.N_far (p := ⟨gb375, 1, none⟩) (Kd.N_far (p := ⟨gb375, 0, none⟩) (Kd.N_mono HO374.out (fun k_ hk => (⟨hk, hk.2⟩ : _ ∧ k_ ≠ gb375))) (fun _ hk => hk.2) (.int .i64 0)) (fun _ hk => hk.2) (.slice Ao13 y372.length co13)) (fun _ hk => ⟨hk.1.1.1, ⟨hk.1.1.2, hk.1.2⟩⟩)⟩, ⟨by (with_reducible repeat (first | refine blk_drewN ?_ _ | refine blk_drew ?_ | refine blk_alloc ?_ _)); refine blk_far ?_ NB371_375.out _; (with_reducible repeat (first | refine blk_drewN ?_ _ | refine blk_drew ?_ | refine blk_alloc ?_ _)); refine blk_far ?_ NB371_375.out _; (with_reducible repeat (first | refine blk_drewN ?_ _ | refine blk_drew ?_ | refine blk_alloc ?_ _)); exact BK371.out⟩, ⟨by (with_reducible repeat (first | refine blk_drewN ?_ _ | refine blk_drew ?_ | refine blk_alloc ?_ _)); refine blk_put (cs := #[.int .i64 0, .slice none 0 0]) ?_ 1 _ rfl; (with_reducible repeat (first | refine blk_drewN ?_ _ | refine blk_drew ?_ | refine blk_alloc ?_ _)); refine blk_put (cs := #[.int .i64 0, .slice none 0 0]) ?_ 0 _ rfl; (with_reducible repeat (first | refine blk_drewN ?_ _ | refine blk_drew ?_ | refine blk_alloc ?_ _)); exact BK375.out⟩, ⟨by repeat (first | (with_reducible first | exact HB.out | apply below_alloc | apply pw_below_drewN | apply below_drew1 | refine below_set ?_ GE371.out | refine below_set ?_ GE375.out) | exact HB.out)⟩⟩
       case round =>
         clear H'
         try clear c1
         try clear p2
         try clear c5
         try clear p6
         try clear c8
         try clear c9
         try clear c10
         try clear c15
         try clear hcz16_0
         try clear hcz16_1
         try clear hcz17_0
         try clear hcz17_1
         try clear hcz7_0
         try clear hcz7_1
         try clear hfz16_0
         try clear hfz16_1
         try clear hfz17_0
         try clear hfz17_1
         try clear hfz7_0
         try clear hfz7_1
         try clear p2
         obtain ⟨x9_2, x376001_2, u376001, rfl, HA, HK2, HO_372001, HO_376001, BK371, BK375, HB⟩ := hrel
         cases gk with
         | zero => exact absurd HA.out (by simp [spec_TurnArray.l0])
         | succ k2 =>
           have H := HA.out
           clear HA
           simp only [spec_TurnArray.l0] at H
           by_cases c18 : x9_2 ≥ 0
           · rw [if_pos c18] at H
             have c18b0 : decide (0 ≤ x9_2) = true := decide_eq_true c18
             clear c18
             by_cases c19 : 0 ≤ x9_2
             · rw [if_pos c19] at H
               have c19b0 : decide (0 ≤ x9_2) = true := decide_eq_true c19
               clear c19
               by_cases c20 : x9_2 < (t367.length : Int)
               · rw [if_pos c20] at H
                 have c20b0 : decide (x9_2 < (t367.length : Int)) = true := decide_eq_true c20
                 clear c20
                 by_cases c21 : x376001_2.length < 4398046511104
                 · rw [if_pos c21] at H
                   have LMc21 := Aside0.mk c21
                   clear c21
                   obtain ⟨y377, hy377⟩ : ∃ y_ : List (S95), y_ = (x376001_2 ++ [(⟨(rd_T95 t367 x9_2).f0, (rd_T95 t367 x9_2).f1⟩ : S95)]) := ⟨_, rfl⟩
                   replace H : (spec_TurnArray.l0 k2 a1 (wrap64 (x9_2 - 1)) t366 t367 0 y377) = some (r1, r2) := by first | (rw [hy377]; with_reducible exact H) | (have H2_ := (Option.bind_some _ _).symm.trans H; rw [hy377]; with_reducible exact H2_) | (have H2_ := (Option.bind_some _ _).symm.trans H; with_reducible exact H2_) | with_reducible exact H | (rw [hy377]; exact H) | exact H
                   have Ny377 := Aside0.mk hy377
                   clear hy377
                   have H' := Aside0.mk H
                   clear H
                   try go_wp2
                   have n0_ := Aside0.mk (Kd.N_drew HO_372001.out)
                   have n1_ := Aside0.mk (Kd.N_drew HO_376001.out)
                   have n2_ := Aside0.mk (blk_drew BK371.out)
                   have n3_ := Aside0.mk (blk_drew BK375.out)
                   have n4_ := Aside0.mk (below_drew1 HB.out)
                   clear HO_372001
                   clear HO_376001
                   clear BK371
                   clear BK375
                   clear HB
                   have HO_372001 := n0_
                   have HO_376001 := n1_
                   have BK371 := n2_
                   have BK375 := n3_
                   have HB := n4_
                   clear n0_ n1_ n2_ n3_ n4_
                   have p376 : 0 ≤ (x9_2 : Int) := of_decide_eq_true (by first | (with_reducible assumption) | assumption)
                   have q376 : x9_2 < (t367.length : Int) := of_decide_eq_true (by first | (with_reducible assumption) | assumption)
                   obtain ⟨ad376, A376_1, c376_1, e376, hx376_0, hx376_1, hl376_1, hi376_1⟩ := at_T95 (Kd.N_reads' HO_372001.out).2.2 x9_2 p376 q376
                   cases e376
                   obtain ⟨ce376, hce376, hMe376, hcc376⟩ := Kd.N_get HO_372001.out z95 x9_2 p376 (by first | exact q376 | exact of_decide_eq_true (by first | (with_reducible assumption) | assumption) | (have e_ := (Kd.N_reads' HO_372001.out).1; omega))
                   obtain ⟨ua376_1, uc376_1, rfl, ul376_1, ge376_1⟩ := k95_openF hMe376
                   have hv376_1 := hcc376 1 _ rfl
                   rw [add_field _ _ 1 (by omega)] at hv376_1
                   replace hv376_1 := Option.some.inj (hv376_1.symm.trans hx376_1)
                   injection hv376_1 with hva_ hvn_ hvc_
                   rw [hva_] at ge376_1
                   rw [hvc_] at ul376_1
                   have HL376_1 := Aside0.mk (show Kd.V k95 95 _ w.heap.size _ _ ((rd_T95 t367 x9_2).f1) from Kd.V_mk ul376_1 ge376_1)
                   clear hva_ hvn_ hvc_ ge376_1 ul376_1
                   clear hcc376 hce376
                   have HR376_1 := Aside0.mk hi376_1
                   have HC376_1 := Aside0.mk hl376_1
                   clear hi376_1 hl376_1
                   replace p376 := eq_true p376
                   replace q376 := eq_true q376
                   refine start_ (n := 11) (S := fun w' => w'.cell? ⟨gb375, 0, none⟩ = some (.int .i64 0) ∧ w'.cell? ⟨gb375, 1, none⟩ = some (u376001) ∧ w'.cell? ⟨gb371, 0, none⟩ = some (.int .i64 t366) ∧ w'.cell? ⟨gb371, 1, none⟩ = some (.slice (some ad376) t367.length co8) ∧ w'.cell? (ad376.add ((x9_2).toNat * 2)) = some (.int .i64 ((rd_T95 t367 x9_2).f0)) ∧ w'.cell? ⟨(ad376.add ((x9_2).toNat * 2)).block, (ad376.add ((x9_2).toNat * 2)).off + 1, none⟩ = some (.slice A376_1 ((rd_T95 t367 x9_2).f1).length c376_1)) (ds := [8, 10]) #[false, false, false, false, false, false, false, false, false, false, false] (by kernel_rfl) rfl rfl ⟨(blk_cell BK375.out 0).trans rfl, (blk_cell BK375.out 1).trans rfl, (blk_cell BK371.out 0).trans rfl, (blk_cell BK371.out 1).trans rfl, hx376_0, hx376_1⟩ (fun hHeld => ?_); refine with_tabW spec_TurnArray.tab8 spec_TurnArray.bits8 (fun HT_ HW_ => ?_)
                   generalize wr.drew = w22 at HO_372001 HO_376001 BK371 BK375 HB HL376_1 HR376_1 hx376_0 hx376_1 hHeld ⊢
                   refine pure_ (i := 0) (N := some 32) (v := ?_) (a' := ?_) #[true, false, false, false, false, false, false, false, false, false, false] rfl rfl (any_of HT_.out (by kernel_rfl)) (fun _ _ _ h => h) (Or.inl ⟨by rfl, ?_⟩) ?_ ?_
                   rotate_left
                   · intro w'
                     go_simp
                     with_reducible rfl
                   rotate_left
                   · simp only [Act.put, List.setIfInBounds_toArray, List.set_cons_zero, List.set_cons_succ, i64_w, i32_w]
                     rfl
                   refine pure_ (i := 2) (N := some 34) (v := ?_) (a' := ?_) #[true, false, true, false, false, false, false, false, false, false, false] rfl rfl (any_of HT_.out (by kernel_rfl)) (fun _ _ _ h => h) (Or.inl ⟨by rfl, ?_⟩) ?_ ?_
                   rotate_left
                   · intro w'
                     go_simp
                     with_reducible rfl
                   rotate_left
                   · simp only [Act.put, List.setIfInBounds_toArray, List.set_cons_zero, List.set_cons_succ, i64_w, i32_w]
                     rfl
                   refine pure_ (i := 4) (N := some 36) (v := ?_) (a' := ?_) #[true, false, true, false, true, false, false, false, false, false, false] rfl rfl (any_of HT_.out (by kernel_rfl)) (fun _ _ _ h => h) (Or.inl ⟨by rfl, ?_⟩) ?_ ?_
                   rotate_left
                   · intro w'
                     go_simp
                     with_reducible rfl
                   rotate_left
                   · simp only [Act.put, List.setIfInBounds_toArray, List.set_cons_zero, List.set_cons_succ, i64_w, i32_w]
                     rfl
                   refine take_ (i := 1) (N := some 33) (v := ?_) (a' := ?_) #[true, true, true, false, true, false, false, false, false, false, false] rfl rfl (take_ofW HT_.out HW_.out (by kernel_rfl)) (fun _ _ _ h => h) (Or.inl ⟨by rfl, ?_⟩) hHeld ?_ ?_
                   rotate_left
                   · rintro w' ⟨s0, s1, s2, s3, s4, s5⟩
                     go_simp
                     with_reducible rfl
                   rotate_left
                   · simp only [Act.put, List.setIfInBounds_toArray, List.set_cons_zero, List.set_cons_succ, i64_w, i32_w]
                     rfl
                   refine take_ (i := 3) (N := some 35) (v := ?_) (a' := ?_) #[true, true, true, true, true, false, false, false, false, false, false] rfl rfl (take_ofW HT_.out HW_.out (by kernel_rfl)) (fun _ _ _ h => h) (Or.inl ⟨by rfl, ?_⟩) hHeld ?_ ?_
                   rotate_left
                   · rintro w' ⟨s0, s1, s2, s3, s4, s5⟩
                     go_simp
                     with_reducible rfl
                   rotate_left
                   · simp only [Act.put, List.setIfInBounds_toArray, List.set_cons_zero, List.set_cons_succ, i64_w, i32_w]
                     rfl
                   refine pure_ (i := 5) (N := some 37) (v := ?_) (a' := ?_) #[true, true, true, true, true, true, false, false, false, false, false] rfl rfl (any_of HT_.out (by kernel_rfl)) (fun _ _ _ h => h) (Or.inl ⟨by rfl, ?_⟩) ?_ ?_
                   rotate_left
                   · intro w'
                     go_simp
                     with_reducible rfl
                   rotate_left
                   · simp only [Act.put, List.setIfInBounds_toArray, List.set_cons_zero, List.set_cons_succ, i64_w, i32_w]
                     rfl
                   refine take_ (i := 6) (N := some 38) (v := ?_) (a' := ?_) #[true, true, true, true, true, true, true, false, false, false, false] rfl rfl (take_ofW HT_.out HW_.out (by kernel_rfl)) (fun _ _ _ h => h) (Or.inl ⟨by rfl, ?_⟩) hHeld ?_ ?_
                   rotate_left
                   · rintro w' ⟨s0, s1, s2, s3, s4, s5⟩
                     go_simp
                     with_reducible rfl
                   rotate_left
                   · simp only [Act.put, List.setIfInBounds_toArray, List.set_cons_zero, List.set_cons_succ, i64_w, i32_w]
                     rfl
                   refine one_ (i := 7) (N := some 39) #[true, true, true, true, true, true, true, true, false, false, false] rfl rfl (one_of HT_.out (by kernel_rfl)) (by decide) (fun K hK => ?_)
                   refine value_ (w1 := ?_) (v := ?_) (by rfl) rfl ?_ ?_
                   rotate_left 2
                   · go_simp
                     constructor
                     · rfl
                     · rfl
                   refine hK.out _ _ ⟨(blk_cell (blk_alloc BK375.out _) 0).trans rfl, (blk_cell (blk_alloc BK375.out _) 1).trans rfl, (blk_cell (blk_alloc BK371.out _) 0).trans rfl, (blk_cell (blk_alloc BK371.out _) 1).trans rfl, (World.cell?_alloc_lt _ _ _ (World.block_lt_of_cell? _ _ (hHeld.2.2.2.2.1))).trans (hHeld.2.2.2.2.1), (World.cell?_alloc_lt _ _ _ (World.block_lt_of_cell? _ _ (hHeld.2.2.2.2.2))).trans (hHeld.2.2.2.2.2)⟩ (fun hHeld => ?_)
                   clear hK K
                   refine norm_ (a' := ?_) ?_ ?_
                   rotate_left
                   · show Act.put _ (some 39) _ = _
                     simp only [Act.put, List.setIfInBounds_toArray, List.set_cons_zero, List.set_cons_succ, i64_w, i32_w]
                     rfl
                   refine last_ (i := 8) (N := some 40) #[true, true, true, true, true, true, true, true, true, false, false] rfl rfl (one_of HT_.out (by kernel_rfl)) (by decide) (fun K hK => ?_)
                   refine Kd.N_append_step k95 (w0 := w) w.heap.size (by rfl) (.tmp 33) (.tmp 39) 93 95 (.agg #[(.int .i64 0), (.slice none 0 0)]) 32 rfl Tryd.underlying93 info95 rfl (by decide) (by omega) u376001 x376001_2 (⟨(rd_T95 t367 x9_2).f0, (rd_T95 t367 x9_2).f1⟩ : S95) [.int .i64 ((rd_T95 t367 x9_2).f0), .slice A376_1 ((rd_T95 t367 x9_2).f1).length c376_1] (fun k_ => some k_ ≠ (.slice (some ad376) t367.length co8 : Value).ownBlock ∧ k_ ≠ gb371 ∧ k_ ≠ gb375) (fun k_ => ((fun k_ => some k_ ≠ (.slice (some ad376) t367.length co8 : Value).ownBlock ∧ k_ ≠ gb371 ∧ k_ ≠ gb375)) k_ ∧ some k_ ≠ (u376001 : Value).ownBlock) rfl rfl ?aP (fun _ hk => hk) ?aF ?aO ?aB ?aS ?aL ?_
                   (case aP => exact (k95_mkF _ _ (⟨(rd_T95 t367 x9_2).f0, (rd_T95 t367 x9_2).f1⟩ : S95) (Kd.V_reads' (Kd.V_mono (ok' := (fun k_ => ((fun k_ => some k_ ≠ (.slice (some ad376) t367.length co8 : Value).ownBlock ∧ k_ ≠ gb371 ∧ k_ ≠ gb375)) k_ ∧ some k_ ≠ (u376001 : Value).ownBlock)) (HL376_1.out) (fun k_ hk => ⟨⟨hk.2, ⟨hk.1.2.1, hk.1.2.2⟩⟩, hk.1.1⟩))).2.1 (Kd.V_F (Kd.V_mono (ok' := (fun k_ => ((fun k_ => some k_ ≠ (.slice (some ad376) t367.length co8 : Value).ownBlock ∧ k_ ≠ gb371 ∧ k_ ≠ gb375)) k_ ∧ some k_ ≠ (u376001 : Value).ownBlock)) (HL376_1.out) (fun k_ hk => ⟨⟨hk.2, ⟨hk.1.2.1, hk.1.2.2⟩⟩, hk.1.1⟩)))))
                   (case aB => exact (by repeat (first | (with_reducible first | exact HB.out | apply below_alloc | apply pw_below_drewN | apply below_drew1 | refine below_set ?_ GE371.out | refine below_set ?_ GE375.out) | exact HB.out)))
                   (case aF => exact (fun k_ hk => ⟨Kd.fresh' (Kd.N_lt (by (with_reducible repeat (first | apply Kd.N_alloc | apply Kd.N_drewN | apply Kd.N_drew)); exact HO_372001.out)) k_ hk, Kd.freshB (g := gb371) (o := .cells #[.int .i64 t366, .slice (some ad376) t367.length co8] 95 (0, 0)) (by (with_reducible repeat (first | refine blk_drewN ?_ _ | refine blk_drew ?_ | refine blk_alloc ?_ _)); exact BK371.out) k_ hk, Kd.freshB (g := gb375) (o := .cells #[.int .i64 0, u376001] 95 (0, 0)) (by (with_reducible repeat (first | refine blk_drewN ?_ _ | refine blk_drew ?_ | refine blk_alloc ?_ _)); exact BK375.out) k_ hk⟩))
                   (case aO => exact (by (with_reducible repeat (first | apply Kd.N_alloc | apply Kd.N_drewN | apply Kd.N_drew)); exact HO_376001.out))
                   (case aS => exact (below_size (by repeat (first | (with_reducible first | exact HB.out | apply below_alloc | apply pw_below_drewN | apply below_drew1 | refine below_set ?_ GE371.out | refine below_set ?_ GE375.out) | exact HB.out))))
                   (case aL => have := LMc21.out; omega)
                   intro v378 w23 ho hb hg hat
                   rw [← Ny377.out] at ho
                   have n0_ := Aside0.mk (Kd.N_afterv (ok := (fun k_ => k_ ≠ gb371 ∧ k_ ≠ gb375)) (by (with_reducible repeat (first | apply Kd.N_alloc | apply Kd.N_drewN | apply Kd.N_drew)); exact Kd.N_mono HO_372001.out (fun _ hk => ⟨⟨hk.2.1, hk.2.2⟩, hk.1⟩)) hg hat)
                   have n1_ := Aside0.mk (blk_grown (g := gb371) (o := .cells #[.int .i64 t366, .slice (some ad376) t367.length co8] 95 (0, 0)) (by (with_reducible repeat (first | refine blk_drewN ?_ _ | refine blk_drew ?_ | refine blk_alloc ?_ _)); exact BK371.out) hg (Kd.N_away HO_376001.out (fun _ hk => hk.2.1)))
                   have n2_ := Aside0.mk (blk_grown (g := gb375) (o := .cells #[.int .i64 0, u376001] 95 (0, 0)) (by (with_reducible repeat (first | refine blk_drewN ?_ _ | refine blk_drew ?_ | refine blk_alloc ?_ _)); exact BK375.out) hg (Kd.N_away HO_376001.out (fun _ hk => hk.2.2)))
                   have n3_ := Aside0.mk (Kd.V_afterv (ok := (fun k_ => some k_ ≠ (.slice (some ad376) t367.length co8 : Value).ownBlock ∧ k_ ≠ gb371 ∧ k_ ≠ gb375)) (by (with_reducible repeat (first | apply Kd.V_alloc | apply Kd.V_drewN | apply Kd.V_drew)); exact Kd.V_mono HL376_1.out (fun _ hk => ⟨⟨hk.2, ⟨hk.1.2.1, hk.1.2.2⟩⟩, hk.1.1⟩)) hg hat)
                   have n4_ := Aside0.mk (hb)
                   have n5_ := Aside0.mk (ho)
                   clear HO_372001
                   clear BK371
                   clear BK375
                   clear HL376_1
                   clear HB
                   clear HO_376001
                   have HO_372001 := n0_
                   have BK371 := n1_
                   have BK375 := n2_
                   have HL376_1 := n3_
                   have HB := n4_
                   have HO379 := n5_
                   clear n0_ n1_ n2_ n3_ n4_ n5_
                   clear ho hb hg hat
                   obtain ⟨Ao24, co24, eo24⟩ := Kd.N_slice HO379.out
                   (first | subst eo24 | (injection eo24 with f1_ f2_ f3_; have f4_ := f1_.symm; have f5_ := f3_.symm; clear f1_ f2_ f3_; subst f4_; subst f5_))
                   refine hK.out _ _ ?_
                   clear hK K
                   refine norm_ (a' := ?_) ?_ ?_
                   rotate_left
                   · show Act.put _ (some 40) _ = _
                     simp only [Act.put, List.setIfInBounds_toArray, List.set_cons_zero, List.set_cons_succ, i64_w, i32_w]
                     rfl
                   refine pure_ (i := 9) (N := some 41) (v := ?_) (a' := ?_) #[true, true, true, true, true, true, true, true, true, true, false] rfl rfl (any_of HT_.out (by kernel_rfl)) (fun _ _ _ h => h) (Or.inl ⟨by rfl, ?_⟩) ?_ ?_
                   rotate_left
                   · intro w'
                     go_simp
                     with_reducible rfl
                   rotate_left
                   · simp only [Act.put, List.setIfInBounds_toArray, List.set_cons_zero, List.set_cons_succ, i64_w, i32_w]
                     rfl
                   refine last_ (i := 10) (N := none) #[true, true, true, true, true, true, true, true, true, true, true] rfl rfl (one_of HT_.out (by kernel_rfl)) (by decide) (fun K hK => ?_)
                   have hs25 : w23.cell? ⟨gb375, 1, none⟩ = some (u376001) := (blk_cell BK375.out 1).trans rfl
                   have hfs25 := blk_frozen BK375.out 1
                   have hns25_0 := NB371_375.out
                   have hms25_0 := NB375_371.out
                   refine skip_ (w1 := ?_) (by rfl) rfl ?_ ?_
                   rotate_left
                   · go_simp
                     rfl
                   refine hK.out _ _ ?_
                   clear hK K
                   refine done_ (done_of HT_.out (by kernel_rfl)) ?_
                   try go_wp2
                   go_roundg k2
                   case measure => have := HJ3.out; have := HK2.out; omega
                   case rel => exact ⟨(wrap64 (x9_2 - 1)), (y377), (.slice Ao24 y377.length co24), (by first | rfl | (simp; done) | (simp [*]; done)), H', ⟨by have := HJ3.out; have := HK2.out; omega⟩, ⟨by (with_reducible repeat (first | apply Kd.N_alloc | apply Kd.N_drewN | apply Kd.N_drew)); exact Kd.N_mono (Kd.N_far (p := ⟨gb375, 1, none⟩) (Kd.N_mono HO_372001.out (fun k_ hk => (⟨hk, hk.1.2⟩ : _ ∧ k_ ≠ gb375))) (fun _ hk => hk.2) (.slice Ao24 y377.length co24)) (fun _ hk => ⟨hk.1.2, ⟨hk.1.1.1, hk.1.1.2⟩⟩)⟩, ⟨by (with_reducible repeat (first | apply Kd.N_alloc | apply Kd.N_drewN | apply Kd.N_drew)); exact Kd.N_mono (Kd.N_far (p := ⟨gb375, 1, none⟩) (Kd.N_mono HO379.out (fun k_ hk => (⟨hk, hk.2.2⟩ : _ ∧ k_ ≠ gb375))) (fun _ hk => hk.2) (.slice Ao24 y377.length co24)) (fun _ hk => ⟨hk.1.1, ⟨hk.1.2.1, hk.1.2.2⟩⟩)⟩, ⟨by (with_reducible repeat (first | refine blk_drewN ?_ _ | refine blk_drew ?_ | refine blk_alloc ?_ _)); refine blk_far ?_ NB371_375.out _; (with_reducible repeat (first | refine blk_drewN ?_ _ | refine blk_drew ?_ | refine blk_alloc ?_ _)); exact BK371.out⟩, ⟨by (with_reducible repeat (first | refine blk_drewN ?_ _ | refine blk_drew ?_ | refine blk_alloc ?_ _)); refine blk_put (cs := #[.int .i64 0, u376001]) ?_ 1 _ rfl; (with_reducible repeat (first | refine blk_drewN ?_ _ | refine blk_drew ?_ | refine blk_alloc ?_ _)); exact BK375.out⟩, ⟨by repeat (first | (with_reducible first | exact HB.out | apply below_alloc | apply pw_below_drewN | apply below_drew1 | refine below_set ?_ GE371.out | refine below_set ?_ GE375.out) | exact HB.out)⟩⟩
                 · rw [if_neg c21] at H
                   exact absurd H (by simp)
               · rw [if_neg c20] at H
                 exact absurd H (by simp)
             · rw [if_neg c19] at H
               exact absurd H (by simp)
           · rw [if_neg c18] at H
             have c18b0 : decide (0 ≤ x9_2) = false := decide_eq_false c18
             clear c18
             replace H := Option.bind_eq_some_iff.mp H
             obtain ⟨t380, A260, H⟩ := H
             replace H : (some (t380, true)) = some (r1, r2) := H
             have A26 := Aside0.mk A260
             clear A260
             simp only [Option.some.injEq, Prod.mk.injEq] at H
             obtain ⟨rfl, rfl⟩ := H
             have hnb27 := NB375_371.out
             have hnc27 := NB371_375.out
             have hcz28_0 : wr.cell? ⟨gb375, 0, none⟩ = some (.int .i64 0) := (blk_cell BK375.out 0).trans rfl
             have hcz28_1 : wr.cell? ⟨gb375, 1, none⟩ = some (u376001) := (blk_cell BK375.out 1).trans rfl
             have hfz28_0 := blk_frozen BK375.out 0
             have hfz28_1 := blk_frozen BK375.out 1
             obtain ⟨Ao29, co29, eo29⟩ := Kd.N_slice HO_376001.out
             subst eo29
             go_wp2_with (first | ((with_reducible refine gate_callee (f := 90) rfl ?_); refine goesL_ (some 44) rfl rfl Tryd.func90 (by kernel_rfl) rfl #[.agg #[.int .i64 0, .slice Ao29 x376001_2.length co29], .int .i64 a1] rfl (by (try simp only [List.map_toArray, List.map_cons, List.map_nil]); first | done | rfl | (simp only [List.length_drop, List.length_take]; rfl)) ?_; (with_reducible refine (spec_l1Text.calls k2 0 _ _ x376001_2 a1 t380 _ ?side1 ?side2 A26.out).mono ?_); (case side1 => repeat (first | exact (Kd.N_reads' HO_376001.out).2.2 | (with_reducible refine Kd.C_alloc ?_ _) | (with_reducible refine Kd.C_drewN ?_ _) | (with_reducible refine Kd.C_drew ?_))); (case side2 => exact (Kd.N_reads' HO_376001.out).2.1); rintro e w30 ⟨rfl, hb⟩; refine ⟨_, rfl, ?_⟩; have n0_ := Aside0.mk (Kd.N_below (by (with_reducible repeat (first | apply Kd.N_alloc | apply Kd.N_drewN | apply Kd.N_drew)); exact HO_372001.out) hb); have n1_ := Aside0.mk (Kd.N_below (by (with_reducible repeat (first | apply Kd.N_alloc | apply Kd.N_drewN | apply Kd.N_drew)); exact HO_376001.out) hb); have n2_ := Aside0.mk (blk_below (g := gb371) (o := .cells #[.int .i64 t366, .slice Ao8 t367.length co8] 95 (0, 0)) (by (with_reducible repeat (first | refine blk_drewN ?_ _ | refine blk_drew ?_ | refine blk_alloc ?_ _)); exact BK371.out) hb); have n3_ := Aside0.mk (blk_below (g := gb375) (o := .cells #[.int .i64 0, .slice Ao29 x376001_2.length co29] 95 (0, 0)) (by (with_reducible repeat (first | refine blk_drewN ?_ _ | refine blk_drew ?_ | refine blk_alloc ?_ _)); exact BK375.out) hb); have n4_ := Aside0.mk (below_step (by repeat (first | (with_reducible first | exact HB.out | apply below_alloc | apply pw_below_drewN | apply below_drew1 | refine below_set ?_ GE371.out | refine below_set ?_ GE375.out) | exact HB.out)) hb); clear HO_372001; clear HO_376001; clear BK371; clear BK375; clear HB; have HO_372001 := n0_; have HO_376001 := n1_; have BK371 := n2_; have BK375 := n3_; have HB := n4_; clear n0_ n1_ n2_ n3_ n4_; (try clear hb); (try clear hb2); (try clear hk); (try clear hi)))
             go_ret2
             exact ⟨by first | rfl | (simp [errW_none, errW_some] <;> rfl) | (simp [*, errW_none, errW_some] <;> rfl), by repeat (first | (with_reducible first | exact HB.out | apply below_alloc | apply pw_below_drewN | apply below_drew1 | refine below_set ?_ GE371.out | refine below_set ?_ GE375.out) | exact HB.out)⟩

/-! ### impl_LeastDepth: function 52 -/
def impl_LeastDepth.l0 : Nat → ByteArray → Int → Option (Int)
 | 0, _, _ => none
 | k + 1, x0, x4 => if x4 < 4 then ((impl_ArrayValid.f k x0 x4).bind fun t381 => (if t381 = true then (some x4) else (impl_LeastDepth.l0 k x0 (wrap64 (x4 + 1))))) else (some (-1))
def impl_LeastDepth.f (k : Nat) (a0 : ByteArray) : Option (Int) := impl_LeastDepth.l0 k a0 0
theorem impl_LeastDepth.mono_l : ∀ k, (∀ y0 y1, LeO (impl_LeastDepth.l0 k y0 y1) (impl_LeastDepth.l0 (k + 1) y0 y1))
 | 0 => fun _ _ r h => by simp [impl_LeastDepth.l0] at h
 | k + 1 => by
   have ih0 := impl_LeastDepth.mono_l k
   · intro y0 y1
     unfold impl_LeastDepth.l0
     repeat' first
     | (with_reducible exact ih0 _ _)
     | (with_reducible exact impl_ArrayValid.mono _ _ _)
     | (with_reducible exact LeO.refl _)
     | (with_reducible exact LeO.none _)
     | (with_reducible refine LeO.ite ?_ ?_)
     | (with_reducible refine LeO.bind ?_ (fun _ => ?_))
     | exact ih0 _ _
     | exact impl_ArrayValid.mono _ _ _
     | exact LeO.none _
     | refine LeO.ite ?_ ?_
     | refine LeO.bind ?_ (fun _ => ?_)
theorem impl_LeastDepth.mono : ∀ a0 k, LeO (impl_LeastDepth.f k a0) (impl_LeastDepth.f (k + 1) a0) := by
 intro a0 k
 have ih0 := impl_LeastDepth.mono_l k
 unfold impl_LeastDepth.f
 repeat' first
     | (with_reducible exact ih0 _ _)
     | (with_reducible exact impl_ArrayValid.mono _ _ _)
     | (with_reducible exact LeO.refl _)
     | (with_reducible exact LeO.none _)
     | (with_reducible refine LeO.ite ?_ ?_)
     | (with_reducible refine LeO.bind ?_ (fun _ => ?_))
     | exact ih0 _ _
     | exact impl_ArrayValid.mono _ _ _
     | exact LeO.none _
     | refine LeO.ite ?_ ?_
     | refine LeO.bind ?_ (fun _ => ?_)
set_option maxHeartbeats 8000000 in
set_option maxRecDepth 100000 in
theorem impl_LeastDepth.calls (k : Nat) (a0 : ByteArray) (r : Int) (w : World) (h : impl_LeastDepth.f k a0 = some r) (hL_ : LaidW w) :
   Calls Tryd.prog 52 #[.string a0] w fun e w' => e = .returned (.int .i64 r) ∧ Below w.heap.size w w' := by
 have HLd := Aside0.mk hL_
 clear hL_
 have HB := Aside0.mk (Below.refl w.heap.size w)
 have H : (impl_LeastDepth.l0 k a0 0) = some r := h
 clear h
 have H' := Aside0.mk H
 clear H
 go_enter Tryd.func52, Tryd.ntmps52
 go_wp2
 go_loopg [4] k (fun kq v4 w' => ∃ (x4_1 : Int), v4 = .int .i64 x4_1 ∧ Aside0 (impl_LeastDepth.l0 kq a0 x4_1 = some r) ∧ Aside0 (kq ≤ k) ∧ Aside0 (Below w.heap.size w w'))
 case atStart => exact ⟨(0), (by first | rfl | (simp; done) | (simp [*]; done)), H', ⟨Nat.le_refl _⟩, ⟨by repeat (first | (with_reducible first | exact HB.out | apply below_alloc | apply pw_below_drewN | apply below_drew1) | exact HB.out)⟩⟩
 case round =>
   clear H'
   obtain ⟨x4_1, rfl, HA, HK1, HB⟩ := hrel
   cases gk with
   | zero => exact absurd HA.out (by simp [impl_LeastDepth.l0])
   | succ k1 =>
     have H := HA.out
     clear HA
     simp only [impl_LeastDepth.l0] at H
     by_cases c2 : x4_1 < 4
     · rw [if_pos c2] at H
       have c2b0 : decide (x4_1 < 4) = true := decide_eq_true c2
       clear c2
       replace H := Option.bind_eq_some_iff.mp H
       obtain ⟨t381, A30, H⟩ := H
       replace H : (if t381 = true then (some x4_1) else (impl_LeastDepth.l0 k1 a0 (wrap64 (x4_1 + 1)))) = some r := H
       have A3 := Aside0.mk A30
       clear A30
       by_cases c4 : t381 = true
       · subst c4
         have H1 : (some x4_1) = some r := by rw [if_pos rfl] at H; exact H
         clear H
         have H := H1
         clear H1
         obtain rfl := Option.some.inj H
         go_wp2_with (first | ((with_reducible refine gate_callee (f := 32) rfl ?_); refine goesL_ (some 9) rfl rfl Tryd.func32 (by kernel_rfl) rfl #[.string a0, .int .i64 x4_1] rfl (by (try simp only [List.map_toArray, List.map_cons, List.map_nil]); first | done | rfl | (simp only [List.length_drop, List.length_take]; rfl)) ?_; (with_reducible refine (impl_ArrayValid.calls k1 a0 x4_1 true _ A3.out (LaidW.after HLd.out (by repeat (first | (with_reducible first | exact HB.out | apply below_alloc | apply pw_below_drewN | apply below_drew1) | exact HB.out)))).mono ?_); rintro e w5 ⟨rfl, hb⟩; refine ⟨_, rfl, ?_⟩; have n0_ := Aside0.mk (below_step (by repeat (first | (with_reducible first | exact HB.out | apply below_alloc | apply pw_below_drewN | apply below_drew1) | exact HB.out)) hb); clear HB; have HB := n0_; clear n0_; (try clear hb); (try clear hb2); (try clear hk); (try clear hi)))
         go_ret
         exact ⟨by first | rfl | (simp [errW_none, errW_some] <;> rfl) | (simp [*, errW_none, errW_some] <;> rfl), by repeat (first | (with_reducible first | exact HB.out | apply below_alloc | apply pw_below_drewN | apply below_drew1) | exact HB.out)⟩
       · replace c4 := Bool.eq_false_iff.mpr c4
         subst c4
         have H1 : (impl_LeastDepth.l0 k1 a0 (wrap64 (x4_1 + 1))) = some r := by rw [if_neg (show ¬ (false = true) by decide)] at H; exact H
         clear H
         have H := H1
         clear H1
         have H' := Aside0.mk H
         clear H
         go_wp2_with (first | ((with_reducible refine gate_callee (f := 32) rfl ?_); refine goesL_ (some 9) rfl rfl Tryd.func32 (by kernel_rfl) rfl #[.string a0, .int .i64 x4_1] rfl (by (try simp only [List.map_toArray, List.map_cons, List.map_nil]); first | done | rfl | (simp only [List.length_drop, List.length_take]; rfl)) ?_; (with_reducible refine (impl_ArrayValid.calls k1 a0 x4_1 false _ A3.out (LaidW.after HLd.out (by repeat (first | (with_reducible first | exact HB.out | apply below_alloc | apply pw_below_drewN | apply below_drew1) | exact HB.out)))).mono ?_); rintro e w6 ⟨rfl, hb⟩; refine ⟨_, rfl, ?_⟩; have n0_ := Aside0.mk (below_step (by repeat (first | (with_reducible first | exact HB.out | apply below_alloc | apply pw_below_drewN | apply below_drew1) | exact HB.out)) hb); clear HB; have HB := n0_; clear n0_; (try clear hb); (try clear hb2); (try clear hk); (try clear hi)))
         go_roundg k1
         case measure => have := HK1.out; omega
         case rel => exact ⟨(wrap64 (x4_1 + 1)), (by first | rfl | (simp; done) | (simp [*]; done)), H', ⟨by have := HK1.out; omega⟩, ⟨by repeat (first | (with_reducible first | exact HB.out | apply below_alloc | apply pw_below_drewN | apply below_drew1) | exact HB.out)⟩⟩
     · rw [if_neg c2] at H
       have c2b0 : decide (x4_1 < 4) = false := decide_eq_false c2
       clear c2
       obtain rfl := Option.some.inj H
       go_wp2
       go_ret
       exact ⟨by first | rfl | (simp [errW_none, errW_some] <;> rfl) | (simp [*, errW_none, errW_some] <;> rfl), by repeat (first | (with_reducible first | exact HB.out | apply below_alloc | apply pw_below_drewN | apply below_drew1) | exact HB.out)⟩

/-! ### spec_ArrayValid: function 33 -/
def spec_ArrayValid.f (k : Nat) (a0 : ByteArray) (a1 : Int) : Option (Bool) := (spec_l1Read.f k a0 a1).bind fun bt382 => (some bt382.2.2)
theorem spec_ArrayValid.mono : ∀ a0 a1 k, LeO (spec_ArrayValid.f k a0 a1) (spec_ArrayValid.f (k + 1) a0 a1) := by
 intro a0 a1 k
 unfold spec_ArrayValid.f
 repeat' first
     | (with_reducible exact spec_l1Read.mono _ _ _)
     | (with_reducible exact LeO.refl _)
     | (with_reducible exact LeO.none _)
     | (with_reducible refine LeO.ite ?_ ?_)
     | (with_reducible refine LeO.bind ?_ (fun _ => ?_))
     | exact spec_l1Read.mono _ _ _
     | exact LeO.none _
     | refine LeO.ite ?_ ?_
     | refine LeO.bind ?_ (fun _ => ?_)
set_option maxHeartbeats 8000000 in
set_option maxRecDepth 100000 in
theorem spec_ArrayValid.calls (k : Nat) (a0 : ByteArray) (a1 : Int) (r : Bool) (w : World) (h : spec_ArrayValid.f k a0 a1 = some r) :
   Calls Tryd.prog 33 #[.string a0, .int .i64 a1] w fun e w' => e = .returned (.bool r) ∧ Below w.heap.size w w' := by
 have hu95 := Tryd.underlying95
 have HB := Aside0.mk (Below.refl w.heap.size w)
 have H : ((spec_l1Read.f k a0 a1).bind fun bt382 => (some bt382.2.2)) = some r := h
 clear h
 replace H := Option.bind_eq_some_iff.mp H
 obtain ⟨⟨t382, t383, t386⟩, A30, H⟩ := H
 replace H : (some t386) = some r := H
 have A3 := Aside0.mk A30
 clear A30
 obtain rfl := Option.some.inj H
 go_enter Tryd.func33, Tryd.ntmps33
 go_wp2_with (first | ((with_reducible refine gate_callee (f := 89) rfl ?_); refine goesL_ (some 10) rfl rfl Tryd.func89 (by kernel_rfl) rfl #[.string a0, .int .i64 a1] rfl (by (try simp only [List.map_toArray, List.map_cons, List.map_nil]); first | done | rfl | (simp only [List.length_drop, List.length_take]; rfl)) ?_; (with_reducible refine (spec_l1Read.calls k a0 a1 t382 t383 t386 _ A3.out).mono ?_); rintro e w4 ⟨v384, rfl, ho0, hb⟩; refine ⟨_, rfl, ?_⟩; have n0_ := Aside0.mk (Kd.R_lower ho0 (below_size (by repeat (first | (with_reducible first | exact HB.out | apply below_alloc | apply pw_below_drewN | apply below_drew1) | exact HB.out)))); have n1_ := Aside0.mk (below_step (by repeat (first | (with_reducible first | exact HB.out | apply below_alloc | apply pw_below_drewN | apply below_drew1) | exact HB.out)) hb); clear HB; have HO385 := n0_; have HB := n1_; clear n0_ n1_; (try clear hb); (try clear hb2); (try clear hk); (try clear hi); (try clear ho0)) | ((with_reducible refine gate_dst (N := 5) rfl ?_); refine box_event ?hg (N := 5) ?hd (cs := #[.int .i64 0, .slice none 0 0]) (t := 95) ?hr ?_; (case hd => rfl); (case hg => rfl); (case hr => first | (go_simp; done) | (go_simp; rfl)); intro gb387 hg w5 hbox hb; have n0_ := Aside0.mk (Kd.R_below (Kd.R_elderB (by (with_reducible repeat (first | apply Kd.R_alloc | apply Kd.R_drewN | apply Kd.R_drew)); exact HO385.out) gb387 (Nat.le_of_eq hg.symm)) hb); have n1_ := Aside0.mk (below_step (by repeat (first | (with_reducible first | exact HB.out | apply below_alloc | apply pw_below_drewN | apply below_drew1) | exact HB.out)) hb); have n2_ := Aside0.mk (hbox); have n3_ := Aside0.mk ((by rw [hg]; exact (below_size (by repeat (first | (with_reducible first | exact HB.out | apply below_alloc | apply pw_below_drewN | apply below_drew1) | exact HB.out))) : w.heap.size ≤ gb387)); have n4_ := Aside0.mk ((by rw [hg]; exact (below_size (by repeat (first | (with_reducible first | exact HB.out | apply below_alloc | apply pw_below_drewN | apply below_drew1) | exact HB.out))) : w.heap.size ≤ gb387)); clear HO385; clear HB; have HO385 := n0_; have HB := n1_; have BK387 := n2_; have GW387 := n3_; have GE387 := n4_; clear n0_ n1_ n2_ n3_ n4_; clear hb hbox hg; have hcz6_0 : w5.cell? ⟨gb387, 0, none⟩ = some (.int .i64 0) := (blk_cell BK387.out 0).trans rfl; have hcz6_1 : w5.cell? ⟨gb387, 1, none⟩ = some (.slice none 0 0) := (blk_cell BK387.out 1).trans rfl; have hfz6_0 := blk_frozen BK387.out 0; have hfz6_1 := blk_frozen BK387.out 1; obtain ⟨Ao7, co7, eo7⟩ := Kd.R_slice HO385.out; subst eo7))
 go_ret
 exact ⟨by first | rfl | (simp [errW_none, errW_some] <;> rfl) | (simp [*, errW_none, errW_some] <;> rfl), by repeat (first | (with_reducible first | exact HB.out | apply below_alloc | apply pw_below_drewN | apply below_drew1 | refine below_set ?_ GE387.out) | exact HB.out)⟩

/-! ### spec_LeastDepth: function 53 -/
def spec_LeastDepth.l0 : Nat → ByteArray → Int → Option (Int)
 | 0, _, _ => none
 | k + 1, x0, x4 => if x4 < 4 then ((spec_ArrayValid.f k x0 x4).bind fun t388 => (if t388 = true then (some x4) else (spec_LeastDepth.l0 k x0 (wrap64 (x4 + 1))))) else (some (-1))
def spec_LeastDepth.f (k : Nat) (a0 : ByteArray) : Option (Int) := spec_LeastDepth.l0 k a0 0
theorem spec_LeastDepth.mono_l : ∀ k, (∀ y0 y1, LeO (spec_LeastDepth.l0 k y0 y1) (spec_LeastDepth.l0 (k + 1) y0 y1))
 | 0 => fun _ _ r h => by simp [spec_LeastDepth.l0] at h
 | k + 1 => by
   have ih0 := spec_LeastDepth.mono_l k
   · intro y0 y1
     unfold spec_LeastDepth.l0
     repeat' first
     | (with_reducible exact ih0 _ _)
     | (with_reducible exact spec_ArrayValid.mono _ _ _)
     | (with_reducible exact LeO.refl _)
     | (with_reducible exact LeO.none _)
     | (with_reducible refine LeO.ite ?_ ?_)
     | (with_reducible refine LeO.bind ?_ (fun _ => ?_))
     | exact ih0 _ _
     | exact spec_ArrayValid.mono _ _ _
     | exact LeO.none _
     | refine LeO.ite ?_ ?_
     | refine LeO.bind ?_ (fun _ => ?_)
theorem spec_LeastDepth.mono : ∀ a0 k, LeO (spec_LeastDepth.f k a0) (spec_LeastDepth.f (k + 1) a0) := by
 intro a0 k
 have ih0 := spec_LeastDepth.mono_l k
 unfold spec_LeastDepth.f
 repeat' first
     | (with_reducible exact ih0 _ _)
     | (with_reducible exact spec_ArrayValid.mono _ _ _)
     | (with_reducible exact LeO.refl _)
     | (with_reducible exact LeO.none _)
     | (with_reducible refine LeO.ite ?_ ?_)
     | (with_reducible refine LeO.bind ?_ (fun _ => ?_))
     | exact ih0 _ _
     | exact spec_ArrayValid.mono _ _ _
     | exact LeO.none _
     | refine LeO.ite ?_ ?_
     | refine LeO.bind ?_ (fun _ => ?_)
set_option maxHeartbeats 8000000 in
set_option maxRecDepth 100000 in
theorem spec_LeastDepth.calls (k : Nat) (a0 : ByteArray) (r : Int) (w : World) (h : spec_LeastDepth.f k a0 = some r) :
   Calls Tryd.prog 53 #[.string a0] w fun e w' => e = .returned (.int .i64 r) ∧ Below w.heap.size w w' := by
 have HB := Aside0.mk (Below.refl w.heap.size w)
 have H : (spec_LeastDepth.l0 k a0 0) = some r := h
 clear h
 have H' := Aside0.mk H
 clear H
 go_enter Tryd.func53, Tryd.ntmps53
 go_wp2
 go_loopg [4] k (fun kq v4 w' => ∃ (x4_1 : Int), v4 = .int .i64 x4_1 ∧ Aside0 (spec_LeastDepth.l0 kq a0 x4_1 = some r) ∧ Aside0 (kq ≤ k) ∧ Aside0 (Below w.heap.size w w'))
 case atStart => exact ⟨(0), (by first | rfl | (simp; done) | (simp [*]; done)), H', ⟨Nat.le_refl _⟩, ⟨by repeat (first | (with_reducible first | exact HB.out | apply below_alloc | apply pw_below_drewN | apply below_drew1) | exact HB.out)⟩⟩
 case round =>
   clear H'
   obtain ⟨x4_1, rfl, HA, HK1, HB⟩ := hrel
   cases gk with
   | zero => exact absurd HA.out (by simp [spec_LeastDepth.l0])
   | succ k1 =>
     have H := HA.out
     clear HA
     simp only [spec_LeastDepth.l0] at H
     by_cases c2 : x4_1 < 4
     · rw [if_pos c2] at H
       have c2b0 : decide (x4_1 < 4) = true := decide_eq_true c2
       clear c2
       replace H := Option.bind_eq_some_iff.mp H
       obtain ⟨t388, A30, H⟩ := H
       replace H : (if t388 = true then (some x4_1) else (spec_LeastDepth.l0 k1 a0 (wrap64 (x4_1 + 1)))) = some r := H
       have A3 := Aside0.mk A30
       clear A30
       by_cases c4 : t388 = true
       · subst c4
         have H1 : (some x4_1) = some r := by rw [if_pos rfl] at H; exact H
         clear H
         have H := H1
         clear H1
         obtain rfl := Option.some.inj H
         go_wp2_with (first | ((with_reducible refine gate_callee (f := 33) rfl ?_); refine goesL_ (some 9) rfl rfl Tryd.func33 (by kernel_rfl) rfl #[.string a0, .int .i64 x4_1] rfl (by (try simp only [List.map_toArray, List.map_cons, List.map_nil]); first | done | rfl | (simp only [List.length_drop, List.length_take]; rfl)) ?_; (with_reducible refine (spec_ArrayValid.calls k1 a0 x4_1 true _ A3.out).mono ?_); rintro e w5 ⟨rfl, hb⟩; refine ⟨_, rfl, ?_⟩; have n0_ := Aside0.mk (below_step (by repeat (first | (with_reducible first | exact HB.out | apply below_alloc | apply pw_below_drewN | apply below_drew1) | exact HB.out)) hb); clear HB; have HB := n0_; clear n0_; (try clear hb); (try clear hb2); (try clear hk); (try clear hi)))
         go_ret
         exact ⟨by first | rfl | (simp [errW_none, errW_some] <;> rfl) | (simp [*, errW_none, errW_some] <;> rfl), by repeat (first | (with_reducible first | exact HB.out | apply below_alloc | apply pw_below_drewN | apply below_drew1) | exact HB.out)⟩
       · replace c4 := Bool.eq_false_iff.mpr c4
         subst c4
         have H1 : (spec_LeastDepth.l0 k1 a0 (wrap64 (x4_1 + 1))) = some r := by rw [if_neg (show ¬ (false = true) by decide)] at H; exact H
         clear H
         have H := H1
         clear H1
         have H' := Aside0.mk H
         clear H
         go_wp2_with (first | ((with_reducible refine gate_callee (f := 33) rfl ?_); refine goesL_ (some 9) rfl rfl Tryd.func33 (by kernel_rfl) rfl #[.string a0, .int .i64 x4_1] rfl (by (try simp only [List.map_toArray, List.map_cons, List.map_nil]); first | done | rfl | (simp only [List.length_drop, List.length_take]; rfl)) ?_; (with_reducible refine (spec_ArrayValid.calls k1 a0 x4_1 false _ A3.out).mono ?_); rintro e w6 ⟨rfl, hb⟩; refine ⟨_, rfl, ?_⟩; have n0_ := Aside0.mk (below_step (by repeat (first | (with_reducible first | exact HB.out | apply below_alloc | apply pw_below_drewN | apply below_drew1) | exact HB.out)) hb); clear HB; have HB := n0_; clear n0_; (try clear hb); (try clear hb2); (try clear hk); (try clear hi)))
         go_roundg k1
         case measure => have := HK1.out; omega
         case rel => exact ⟨(wrap64 (x4_1 + 1)), (by first | rfl | (simp; done) | (simp [*]; done)), H', ⟨by have := HK1.out; omega⟩, ⟨by repeat (first | (with_reducible first | exact HB.out | apply below_alloc | apply pw_below_drewN | apply below_drew1) | exact HB.out)⟩⟩
     · rw [if_neg c2] at H
       have c2b0 : decide (x4_1 < 4) = false := decide_eq_false c2
       clear c2
       obtain rfl := Option.some.inj H
       go_wp2
       go_ret
       exact ⟨by first | rfl | (simp [errW_none, errW_some] <;> rfl) | (simp [*, errW_none, errW_some] <;> rfl), by repeat (first | (with_reducible first | exact HB.out | apply below_alloc | apply pw_below_drewN | apply below_drew1) | exact HB.out)⟩

end Go.Proofs.YtmjoigpnnechgaaDoor.D
