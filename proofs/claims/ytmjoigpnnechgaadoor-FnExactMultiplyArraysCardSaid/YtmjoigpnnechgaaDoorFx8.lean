-- PRINTED by print.py (a twelfth state) out of the translation. Not trusted: Lean checks it.
import Derived.Test.YtmjoigpnnechgaaDoorFx0
import Derived.Test.YtmjoigpnnechgaaDoorFx7
import Derived.Test.YtmjoigpnnechgaaDoorFGlaid
import Derived.Test.YtmjoigpnnechgaaDoorFGstr
namespace Go.Proofs.YtmjoigpnnechgaaDoor.F
open Go.RowKit Go.Proofs.YtmjoigpnnechgaaDoorW.PrintWords Go.Proofs.YtmjoigpnnechgaaDoorW.PrintLast Go.Proofs.YtmjoigpnnechgaaDoorW.PrintMore
attribute [local go_sem] max2_int min2_int max_two min_two max_three min_three max_four min_four   -- for this text's walks alone
set_option linter.unusedVariables false
set_option linter.unusedSimpArgs false

/-! ### impl_arrOf: function 80 -/
def impl_arrOf.f (k : Nat) (a0 : ByteArray) (a1 : Int) : Option (Int × (List (S84)) × Bool) := if a1 < 0 then (some (0, ([] : List (S84)), false)) else (if a1 > 3 then (some (0, ([] : List (S84)), false)) else (if (a0.size : Int) > 400 then (some (0, ([] : List (S84)), false)) else ((impl_readArr.f k a0 a1).bind fun bt336 => (if bt336.2.2.2 = true then (some (bt336.1, bt336.2.1, (bt336.2.2.1.toList == ([] : List UInt8)))) else (some (bt336.1, bt336.2.1, false))))))
theorem impl_arrOf.mono : ∀ a0 a1 k, LeO (impl_arrOf.f k a0 a1) (impl_arrOf.f (k + 1) a0 a1) := by
 intro a0 a1 k
 unfold impl_arrOf.f
 repeat' first
     | (with_reducible exact impl_readArr.mono _ _ _)
     | (with_reducible exact LeO.refl _)
     | (with_reducible exact LeO.none _)
     | (with_reducible refine LeO.ite ?_ ?_)
     | (with_reducible refine LeO.bind ?_ (fun _ => ?_))
     | exact impl_readArr.mono _ _ _
     | exact LeO.none _
     | refine LeO.ite ?_ ?_
     | refine LeO.bind ?_ (fun _ => ?_)
set_option maxHeartbeats 8000000 in
set_option maxRecDepth 100000 in
theorem impl_arrOf.calls (k : Nat) (a0 : ByteArray) (a1 : Int) (r1 : Int) (r2 : List (S84)) (r3 : Bool) (w : World) (h : impl_arrOf.f k a0 a1 = some (r1, r2, r3)) (hL_ : LaidW w) :
   Calls Tryd.prog 80 #[.string a0, .int .i64 a1] w fun e w' => ∃ v1_ : Value, e = .returned (.tuple #[.agg #[.int .i64 r1, v1_], .bool r3]) ∧ Kd.R k84 84 w' w.heap.size (fun _ => True) v1_ r2 ∧ Below w.heap.size w w' := by
 have HLd := Aside0.mk hL_
 clear hL_
 have hu84 := Tryd.underlying84
 have HB := Aside0.mk (Below.refl w.heap.size w)
 have H : (if a1 < 0 then (some (0, ([] : List (S84)), false)) else (if a1 > 3 then (some (0, ([] : List (S84)), false)) else (if (a0.size : Int) > 400 then (some (0, ([] : List (S84)), false)) else ((impl_readArr.f k a0 a1).bind fun bt336 => (if bt336.2.2.2 = true then (some (bt336.1, bt336.2.1, (bt336.2.2.1.toList == ([] : List UInt8)))) else (some (bt336.1, bt336.2.1, false))))))) = some (r1, r2, r3) := h
 clear h
 by_cases c3 : a1 < 0
 · rw [if_pos c3] at H
   have c3b0 : decide (a1 < 0) = true := decide_eq_true c3
   clear c3
   simp only [Option.some.injEq, Prod.mk.injEq] at H
   obtain ⟨rfl, rfl, rfl⟩ := H
   go_enter Tryd.func80, Tryd.ntmps80
   go_wp2_with (first | ((with_reducible refine gate_dst (N := 4) rfl ?_); (try (refine gate_guard (by rfl) ?_; dsimp only)); refine box_event ?hg (N := 4) ?hd (cs := #[.int .i64 0, .slice none 0 0]) (t := 84) ?hr ?_; (case hd => rfl); (case hg => rfl); (case hr => first | (go_simp; done) | (go_simp; rfl)); intro gb335 hg w4 hbox hb; have n0_ := Aside0.mk (below_step (FB HB.out) hb); have n1_ := Aside0.mk (hbox); have n2_ := Aside0.mk ((by rw [hg]; exact (below_size (FB HB.out)) : w.heap.size ≤ gb335)); have n3_ := Aside0.mk ((by rw [hg]; exact (below_size (FB HB.out)) : w.heap.size ≤ gb335)); clear HB; have HB := n0_; have BK335 := n1_; have GW335 := n2_; have GE335 := n3_; clear n0_ n1_ n2_ n3_; clear hb hbox hg; have hcz5_0 : w4.cell? ⟨gb335, 0, none⟩ = some (.int .i64 0) := (blk_cell BK335.out 0).trans rfl; have hcz5_1 : w4.cell? ⟨gb335, 1, none⟩ = some (.slice none 0 0) := (blk_cell BK335.out 1).trans rfl; have hfz5_0 := blk_frozen BK335.out 0; have hfz5_1 := blk_frozen BK335.out 1))
   refine bodyPost_ret (results_ct rfl _ _ gb335 84 #[.int .i64 0, .slice none 0 0] (0, 0) _ rfl (by (with_reducible repeat (first | refine blk_drewN ?_ _ | refine blk_drew ?_ | refine blk_alloc ?_ _)); refine blk_put (cs := #[.int .i64 0, .slice none 0 0]) ?_ 1 _ rfl; (with_reducible repeat (first | refine blk_drewN ?_ _ | refine blk_drew ?_ | refine blk_alloc ?_ _)); refine blk_put (cs := #[.int .i64 0, .slice none 0 0]) ?_ 0 _ rfl; (with_reducible repeat (first | refine blk_drewN ?_ _ | refine blk_drew ?_ | refine blk_alloc ?_ _)); exact BK335.out) Tryd.underlying84 rfl (by kernel_rfl)) rfl ?_
   exact ⟨_, by first | rfl | (simp [errW_none, errW_some] <;> rfl) | (simp [*, errW_none, errW_some] <;> rfl), by first | exact Kd.R_nil _ _ _ _ _ | exact Kd.N_nil _ _ _ _ _ | exact Kd.V_nil _ _ _ _ _ | exact Kd.Q_nil _ _ _ _ _ | exact Kd.S_nil _ _ _ _ _, by repeat (first | (with_reducible first | exact HB.out | apply below_alloc | apply pw_below_drewN | apply below_drew1 | refine below_set ?_ GE335.out) | exact HB.out)⟩
 · rw [if_neg c3] at H
   have c3b0 : decide (a1 < 0) = false := decide_eq_false c3
   clear c3
   by_cases c6 : a1 > 3
   · rw [if_pos c6] at H
     have c6b0 : decide (3 < a1) = true := decide_eq_true c6
     clear c6
     simp only [Option.some.injEq, Prod.mk.injEq] at H
     obtain ⟨rfl, rfl, rfl⟩ := H
     go_enter Tryd.func80, Tryd.ntmps80
     go_wp2_with (first | ((with_reducible refine gate_dst (N := 4) rfl ?_); (try (refine gate_guard (by rfl) ?_; dsimp only)); refine box_event ?hg (N := 4) ?hd (cs := #[.int .i64 0, .slice none 0 0]) (t := 84) ?hr ?_; (case hd => rfl); (case hg => rfl); (case hr => first | (go_simp; done) | (go_simp; rfl)); intro gb335 hg w7 hbox hb; have n0_ := Aside0.mk (below_step (FB HB.out) hb); have n1_ := Aside0.mk (hbox); have n2_ := Aside0.mk ((by rw [hg]; exact (below_size (FB HB.out)) : w.heap.size ≤ gb335)); have n3_ := Aside0.mk ((by rw [hg]; exact (below_size (FB HB.out)) : w.heap.size ≤ gb335)); clear HB; have HB := n0_; have BK335 := n1_; have GW335 := n2_; have GE335 := n3_; clear n0_ n1_ n2_ n3_; clear hb hbox hg; have hcz8_0 : w7.cell? ⟨gb335, 0, none⟩ = some (.int .i64 0) := (blk_cell BK335.out 0).trans rfl; have hcz8_1 : w7.cell? ⟨gb335, 1, none⟩ = some (.slice none 0 0) := (blk_cell BK335.out 1).trans rfl; have hfz8_0 := blk_frozen BK335.out 0; have hfz8_1 := blk_frozen BK335.out 1))
     refine bodyPost_ret (results_ct rfl _ _ gb335 84 #[.int .i64 0, .slice none 0 0] (0, 0) _ rfl (by (with_reducible repeat (first | refine blk_drewN ?_ _ | refine blk_drew ?_ | refine blk_alloc ?_ _)); refine blk_put (cs := #[.int .i64 0, .slice none 0 0]) ?_ 1 _ rfl; (with_reducible repeat (first | refine blk_drewN ?_ _ | refine blk_drew ?_ | refine blk_alloc ?_ _)); refine blk_put (cs := #[.int .i64 0, .slice none 0 0]) ?_ 0 _ rfl; (with_reducible repeat (first | refine blk_drewN ?_ _ | refine blk_drew ?_ | refine blk_alloc ?_ _)); exact BK335.out) Tryd.underlying84 rfl (by kernel_rfl)) rfl ?_
     exact ⟨_, by first | rfl | (simp [errW_none, errW_some] <;> rfl) | (simp [*, errW_none, errW_some] <;> rfl), by first | exact Kd.R_nil _ _ _ _ _ | exact Kd.N_nil _ _ _ _ _ | exact Kd.V_nil _ _ _ _ _ | exact Kd.Q_nil _ _ _ _ _ | exact Kd.S_nil _ _ _ _ _, by repeat (first | (with_reducible first | exact HB.out | apply below_alloc | apply pw_below_drewN | apply below_drew1 | refine below_set ?_ GE335.out) | exact HB.out)⟩
   · rw [if_neg c6] at H
     have c6b0 : decide (3 < a1) = false := decide_eq_false c6
     clear c6
     by_cases c9 : (a0.size : Int) > 400
     · rw [if_pos c9] at H
       have c9b0 : decide (400 < (a0.size : Int)) = true := decide_eq_true c9
       have c9b1 : decide (400 < a0.size) = true := decide_eq_true (by omega)
       clear c9
       simp only [Option.some.injEq, Prod.mk.injEq] at H
       obtain ⟨rfl, rfl, rfl⟩ := H
       go_enter Tryd.func80, Tryd.ntmps80
       go_wp2_with (first | ((with_reducible refine gate_dst (N := 4) rfl ?_); (try (refine gate_guard (by rfl) ?_; dsimp only)); refine box_event ?hg (N := 4) ?hd (cs := #[.int .i64 0, .slice none 0 0]) (t := 84) ?hr ?_; (case hd => rfl); (case hg => rfl); (case hr => first | (go_simp; done) | (go_simp; rfl)); intro gb335 hg w10 hbox hb; have n0_ := Aside0.mk (below_step (FB HB.out) hb); have n1_ := Aside0.mk (hbox); have n2_ := Aside0.mk ((by rw [hg]; exact (below_size (FB HB.out)) : w.heap.size ≤ gb335)); have n3_ := Aside0.mk ((by rw [hg]; exact (below_size (FB HB.out)) : w.heap.size ≤ gb335)); clear HB; have HB := n0_; have BK335 := n1_; have GW335 := n2_; have GE335 := n3_; clear n0_ n1_ n2_ n3_; clear hb hbox hg; have hcz11_0 : w10.cell? ⟨gb335, 0, none⟩ = some (.int .i64 0) := (blk_cell BK335.out 0).trans rfl; have hcz11_1 : w10.cell? ⟨gb335, 1, none⟩ = some (.slice none 0 0) := (blk_cell BK335.out 1).trans rfl; have hfz11_0 := blk_frozen BK335.out 0; have hfz11_1 := blk_frozen BK335.out 1))
       refine bodyPost_ret (results_ct rfl _ _ gb335 84 #[.int .i64 0, .slice none 0 0] (0, 0) _ rfl (by (with_reducible repeat (first | refine blk_drewN ?_ _ | refine blk_drew ?_ | refine blk_alloc ?_ _)); refine blk_put (cs := #[.int .i64 0, .slice none 0 0]) ?_ 1 _ rfl; (with_reducible repeat (first | refine blk_drewN ?_ _ | refine blk_drew ?_ | refine blk_alloc ?_ _)); refine blk_put (cs := #[.int .i64 0, .slice none 0 0]) ?_ 0 _ rfl; (with_reducible repeat (first | refine blk_drewN ?_ _ | refine blk_drew ?_ | refine blk_alloc ?_ _)); exact BK335.out) Tryd.underlying84 rfl (by kernel_rfl)) rfl ?_
       exact ⟨_, by first | rfl | (simp [errW_none, errW_some] <;> rfl) | (simp [*, errW_none, errW_some] <;> rfl), by first | exact Kd.R_nil _ _ _ _ _ | exact Kd.N_nil _ _ _ _ _ | exact Kd.V_nil _ _ _ _ _ | exact Kd.Q_nil _ _ _ _ _ | exact Kd.S_nil _ _ _ _ _, by repeat (first | (with_reducible first | exact HB.out | apply below_alloc | apply pw_below_drewN | apply below_drew1 | refine below_set ?_ GE335.out) | exact HB.out)⟩
     · rw [if_neg c9] at H
       have c9b0 : decide (400 < (a0.size : Int)) = false := decide_eq_false c9
       have c9b1 : decide (400 < a0.size) = false := decide_eq_false (by omega)
       clear c9
       replace H := Option.bind_eq_some_iff.mp H
       obtain ⟨⟨t336, t337, t340, t341⟩, A120, H⟩ := H
       replace H : (if t341 = true then (some (t336, t337, (t340.toList == ([] : List UInt8)))) else (some (t336, t337, false))) = some (r1, r2, r3) := H
       have A12 := Aside0.mk A120
       clear A120
       by_cases c13 : t341 = true
       · subst c13
         have H1 : (some (t336, t337, (t340.toList == ([] : List UInt8)))) = some (r1, r2, r3) := by rw [if_pos rfl] at H; exact H
         clear H
         have H := H1
         clear H1
         simp only [Option.some.injEq, Prod.mk.injEq] at H
         obtain ⟨rfl, rfl, rfl⟩ := H
         go_enter Tryd.func80, Tryd.ntmps80
         go_wp2_with (first | ((with_reducible refine gate_dst (N := 4) rfl ?_); (try (refine gate_guard (by rfl) ?_; dsimp only)); refine box_event ?hg (N := 4) ?hd (cs := #[.int .i64 0, .slice none 0 0]) (t := 84) ?hr ?_; (case hd => rfl); (case hg => rfl); (case hr => first | (go_simp; done) | (go_simp; rfl)); intro gb335 hg w14 hbox hb; have n0_ := Aside0.mk (below_step (FB HB.out) hb); have n1_ := Aside0.mk (hbox); have n2_ := Aside0.mk ((by rw [hg]; exact (below_size (FB HB.out)) : w.heap.size ≤ gb335)); have n3_ := Aside0.mk ((by rw [hg]; exact (below_size (FB HB.out)) : w.heap.size ≤ gb335)); clear HB; have HB := n0_; have BK335 := n1_; have GW335 := n2_; have GE335 := n3_; clear n0_ n1_ n2_ n3_; clear hb hbox hg) | ((with_reducible refine gate_callee (f := 117) rfl ?_); refine goesL_ (some 24) rfl rfl Tryd.func117 (by kernel_rfl) rfl #[.string a0, .int .i64 a1] rfl (by (try simp only [List.map_toArray, List.map_cons, List.map_nil]); first | done | rfl | (simp only [List.length_drop, List.length_take]; rfl)) ?_; (with_reducible refine (impl_readArr.calls k a0 a1 t336 t337 t340 true _ A12.out (LaidW.after HLd.out (by repeat (first | (with_reducible first | exact HB.out | apply below_alloc | apply pw_below_drewN | apply below_drew1 | refine below_set ?_ GE335.out) | exact HB.out)))).mono ?_); rintro e w15 ⟨v338, rfl, ho0, hb⟩; refine ⟨_, rfl, ?_⟩; have n0_ := Aside0.mk (Kd.R_lower (Kd.R_newB ho0 (g := gb335) (o := .cells #[.int .i64 0, .slice none 0 0] 84 (0, 0)) (FK BK335.out)) (below_size (by repeat (first | (with_reducible first | exact HB.out | apply below_alloc | apply pw_below_drewN | apply below_drew1 | refine below_set ?_ GE335.out) | exact HB.out)))); have n1_ := Aside0.mk (blk_below (g := gb335) (o := .cells #[.int .i64 0, .slice none 0 0] 84 (0, 0)) (FK BK335.out) hb); have n2_ := Aside0.mk (below_step (by repeat (first | (with_reducible first | exact HB.out | apply below_alloc | apply pw_below_drewN | apply below_drew1 | refine below_set ?_ GE335.out) | exact HB.out)) hb); clear BK335; clear HB; have HO339 := n0_; have BK335 := n1_; have HB := n2_; clear n0_ n1_ n2_; (try clear hb)) | ((with_reducible refine gate_dst (N := 6) rfl ?_); (try (refine gate_guard (by rfl) ?_; dsimp only)); refine box_event ?hg (N := 6) ?hd (cs := #[.int .i64 0, .slice none 0 0]) (t := 84) ?hr ?_; (case hd => rfl); (case hg => rfl); (case hr => first | (go_simp; done) | (go_simp; rfl)); intro gb342 hg w16 hbox hb; have n0_ := Aside0.mk (Kd.R_below (Kd.R_elderB (FR HO339.out) gb342 (Nat.le_of_eq hg.symm)) hb); have n1_ := Aside0.mk (blk_below (g := gb335) (o := .cells #[.int .i64 0, .slice none 0 0] 84 (0, 0)) (FK BK335.out) hb); have n2_ := Aside0.mk (below_step (by repeat (first | (with_reducible first | exact HB.out | apply below_alloc | apply pw_below_drewN | apply below_drew1 | refine below_set ?_ GE335.out) | exact HB.out)) hb); have n3_ := Aside0.mk (hbox); have n4_ := Aside0.mk ((by rw [hg]; exact (below_size (by repeat (first | (with_reducible first | exact HB.out | apply below_alloc | apply pw_below_drewN | apply below_drew1 | refine below_set ?_ GE335.out) | exact HB.out))) : w.heap.size ≤ gb342)); have n5_ := Aside0.mk ((by rw [hg]; exact (below_size (by repeat (first | (with_reducible first | exact HB.out | apply below_alloc | apply pw_below_drewN | apply below_drew1 | refine below_set ?_ GE335.out) | exact HB.out))) : w.heap.size ≤ gb342)); have n6_ := Aside0.mk ((by rw [hg]; exact Nat.ne_of_lt (blk_lt (g := gb335) (o := .cells #[.int .i64 0, .slice none 0 0] 84 (0, 0)) (FK BK335.out)) : gb335 ≠ gb342)); have n7_ := Aside0.mk ((by rw [hg]; exact Nat.ne_of_gt (blk_lt (g := gb335) (o := .cells #[.int .i64 0, .slice none 0 0] 84 (0, 0)) (FK BK335.out)) : gb342 ≠ gb335)); clear HO339; clear BK335; clear HB; have HO339 := n0_; have BK335 := n1_; have HB := n2_; have BK342 := n3_; have GW342 := n4_; have GE342 := n5_; have NB335_342 := n6_; have NB342_335 := n7_; clear n0_ n1_ n2_ n3_ n4_ n5_ n6_ n7_; clear hb hbox hg; have hnb17 := NB342_335.out; have hnc17 := NB335_342.out; have hcz18_0 : w16.cell? ⟨gb342, 0, none⟩ = some (.int .i64 0) := (blk_cell BK342.out 0).trans rfl; have hcz18_1 : w16.cell? ⟨gb342, 1, none⟩ = some (.slice none 0 0) := (blk_cell BK342.out 1).trans rfl; have hfz18_0 := blk_frozen BK342.out 0; have hfz18_1 := blk_frozen BK342.out 1; obtain ⟨Ao19, co19, eo19⟩ := Kd.R_slice HO339.out; subst eo19; have hcz20_0 : w16.cell? ⟨gb335, 0, none⟩ = some (.int .i64 0) := (blk_cell BK335.out 0).trans rfl; have hcz20_1 : w16.cell? ⟨gb335, 1, none⟩ = some (.slice none 0 0) := (blk_cell BK335.out 1).trans rfl; have hfz20_0 := blk_frozen BK335.out 0; have hfz20_1 := blk_frozen BK335.out 1))
         refine bodyPost_ret (results_ct rfl _ _ gb335 84 #[.int .i64 t336, .slice Ao19 t337.length co19] (0, 0) _ rfl (by (with_reducible repeat (first | refine blk_drewN ?_ _ | refine blk_drew ?_ | refine blk_alloc ?_ _)); refine blk_put (cs := #[.int .i64 t336, .slice none 0 0]) ?_ 1 _ rfl; (with_reducible repeat (first | refine blk_drewN ?_ _ | refine blk_drew ?_ | refine blk_alloc ?_ _)); refine blk_put (cs := #[.int .i64 0, .slice none 0 0]) ?_ 0 _ rfl; (with_reducible repeat (first | refine blk_drewN ?_ _ | refine blk_drew ?_ | refine blk_alloc ?_ _)); refine blk_far ?_ NB335_342.out _; (with_reducible repeat (first | refine blk_drewN ?_ _ | refine blk_drew ?_ | refine blk_alloc ?_ _)); refine blk_far ?_ NB335_342.out _; (with_reducible repeat (first | refine blk_drewN ?_ _ | refine blk_drew ?_ | refine blk_alloc ?_ _)); exact BK335.out) Tryd.underlying84 rfl (by kernel_rfl)) rfl ?_
         exact ⟨_, by first | rfl | (simp [errW_none, errW_some] <;> rfl) | (simp [*, errW_none, errW_some] <;> rfl), (FR (Kd.R_mono (Kd.R_far (p := ⟨gb335, 1, none⟩) (Kd.R_far (p := ⟨gb335, 0, none⟩) (Kd.R_far (p := ⟨gb342, 1, none⟩) (Kd.R_far (p := ⟨gb342, 0, none⟩) (Kd.R_mono (Kd.R_mono HO339.out (fun k_ hk => (⟨hk, hk.2⟩ : _ ∧ k_ ≠ gb342))) (fun k_ hk => (⟨hk, hk.1.1.2⟩ : _ ∧ k_ ≠ gb335))) (fun _ hk => hk.1.2) (.int .i64 t336)) (fun _ hk => hk.1.2) (.slice Ao19 t337.length co19)) (fun _ hk => hk.2) (.int .i64 t336)) (fun _ hk => hk.2) (.slice Ao19 t337.length co19)) (fun _ hk => trivial))), by repeat (first | (with_reducible first | exact HB.out | apply below_alloc | apply pw_below_drewN | apply below_drew1 | refine below_set ?_ GE335.out | refine below_set ?_ GE342.out) | exact HB.out)⟩
       · replace c13 := Bool.eq_false_iff.mpr c13
         subst c13
         have H1 : (some (t336, t337, false)) = some (r1, r2, r3) := by rw [if_neg (show ¬ (false = true) by decide)] at H; exact H
         clear H
         have H := H1
         clear H1
         simp only [Option.some.injEq, Prod.mk.injEq] at H
         obtain ⟨rfl, rfl, rfl⟩ := H
         go_enter Tryd.func80, Tryd.ntmps80
         go_wp2_with (first | ((with_reducible refine gate_dst (N := 4) rfl ?_); (try (refine gate_guard (by rfl) ?_; dsimp only)); refine box_event ?hg (N := 4) ?hd (cs := #[.int .i64 0, .slice none 0 0]) (t := 84) ?hr ?_; (case hd => rfl); (case hg => rfl); (case hr => first | (go_simp; done) | (go_simp; rfl)); intro gb335 hg w21 hbox hb; have n0_ := Aside0.mk (below_step (FB HB.out) hb); have n1_ := Aside0.mk (hbox); have n2_ := Aside0.mk ((by rw [hg]; exact (below_size (FB HB.out)) : w.heap.size ≤ gb335)); have n3_ := Aside0.mk ((by rw [hg]; exact (below_size (FB HB.out)) : w.heap.size ≤ gb335)); clear HB; have HB := n0_; have BK335 := n1_; have GW335 := n2_; have GE335 := n3_; clear n0_ n1_ n2_ n3_; clear hb hbox hg) | ((with_reducible refine gate_callee (f := 117) rfl ?_); refine goesL_ (some 24) rfl rfl Tryd.func117 (by kernel_rfl) rfl #[.string a0, .int .i64 a1] rfl (by (try simp only [List.map_toArray, List.map_cons, List.map_nil]); first | done | rfl | (simp only [List.length_drop, List.length_take]; rfl)) ?_; (with_reducible refine (impl_readArr.calls k a0 a1 t336 t337 t340 false _ A12.out (LaidW.after HLd.out (by repeat (first | (with_reducible first | exact HB.out | apply below_alloc | apply pw_below_drewN | apply below_drew1 | refine below_set ?_ GE335.out) | exact HB.out)))).mono ?_); rintro e w22 ⟨v338, rfl, ho0, hb⟩; refine ⟨_, rfl, ?_⟩; have n0_ := Aside0.mk (Kd.R_lower (Kd.R_newB ho0 (g := gb335) (o := .cells #[.int .i64 0, .slice none 0 0] 84 (0, 0)) (FK BK335.out)) (below_size (by repeat (first | (with_reducible first | exact HB.out | apply below_alloc | apply pw_below_drewN | apply below_drew1 | refine below_set ?_ GE335.out) | exact HB.out)))); have n1_ := Aside0.mk (blk_below (g := gb335) (o := .cells #[.int .i64 0, .slice none 0 0] 84 (0, 0)) (FK BK335.out) hb); have n2_ := Aside0.mk (below_step (by repeat (first | (with_reducible first | exact HB.out | apply below_alloc | apply pw_below_drewN | apply below_drew1 | refine below_set ?_ GE335.out) | exact HB.out)) hb); clear BK335; clear HB; have HO339 := n0_; have BK335 := n1_; have HB := n2_; clear n0_ n1_ n2_; (try clear hb)) | ((with_reducible refine gate_dst (N := 6) rfl ?_); (try (refine gate_guard (by rfl) ?_; dsimp only)); refine box_event ?hg (N := 6) ?hd (cs := #[.int .i64 0, .slice none 0 0]) (t := 84) ?hr ?_; (case hd => rfl); (case hg => rfl); (case hr => first | (go_simp; done) | (go_simp; rfl)); intro gb342 hg w23 hbox hb; have n0_ := Aside0.mk (Kd.R_below (Kd.R_elderB (FR HO339.out) gb342 (Nat.le_of_eq hg.symm)) hb); have n1_ := Aside0.mk (blk_below (g := gb335) (o := .cells #[.int .i64 0, .slice none 0 0] 84 (0, 0)) (FK BK335.out) hb); have n2_ := Aside0.mk (below_step (by repeat (first | (with_reducible first | exact HB.out | apply below_alloc | apply pw_below_drewN | apply below_drew1 | refine below_set ?_ GE335.out) | exact HB.out)) hb); have n3_ := Aside0.mk (hbox); have n4_ := Aside0.mk ((by rw [hg]; exact (below_size (by repeat (first | (with_reducible first | exact HB.out | apply below_alloc | apply pw_below_drewN | apply below_drew1 | refine below_set ?_ GE335.out) | exact HB.out))) : w.heap.size ≤ gb342)); have n5_ := Aside0.mk ((by rw [hg]; exact (below_size (by repeat (first | (with_reducible first | exact HB.out | apply below_alloc | apply pw_below_drewN | apply below_drew1 | refine below_set ?_ GE335.out) | exact HB.out))) : w.heap.size ≤ gb342)); have n6_ := Aside0.mk ((by rw [hg]; exact Nat.ne_of_lt (blk_lt (g := gb335) (o := .cells #[.int .i64 0, .slice none 0 0] 84 (0, 0)) (FK BK335.out)) : gb335 ≠ gb342)); have n7_ := Aside0.mk ((by rw [hg]; exact Nat.ne_of_gt (blk_lt (g := gb335) (o := .cells #[.int .i64 0, .slice none 0 0] 84 (0, 0)) (FK BK335.out)) : gb342 ≠ gb335)); clear HO339; clear BK335; clear HB; have HO339 := n0_; have BK335 := n1_; have HB := n2_; have BK342 := n3_; have GW342 := n4_; have GE342 := n5_; have NB335_342 := n6_; have NB342_335 := n7_; clear n0_ n1_ n2_ n3_ n4_ n5_ n6_ n7_; clear hb hbox hg; have hnb24 := NB342_335.out; have hnc24 := NB335_342.out; have hcz25_0 : w23.cell? ⟨gb342, 0, none⟩ = some (.int .i64 0) := (blk_cell BK342.out 0).trans rfl; have hcz25_1 : w23.cell? ⟨gb342, 1, none⟩ = some (.slice none 0 0) := (blk_cell BK342.out 1).trans rfl; have hfz25_0 := blk_frozen BK342.out 0; have hfz25_1 := blk_frozen BK342.out 1; obtain ⟨Ao26, co26, eo26⟩ := Kd.R_slice HO339.out; subst eo26; have hcz27_0 : w23.cell? ⟨gb335, 0, none⟩ = some (.int .i64 0) := (blk_cell BK335.out 0).trans rfl; have hcz27_1 : w23.cell? ⟨gb335, 1, none⟩ = some (.slice none 0 0) := (blk_cell BK335.out 1).trans rfl; have hfz27_0 := blk_frozen BK335.out 0; have hfz27_1 := blk_frozen BK335.out 1))
         refine bodyPost_ret (results_ct rfl _ _ gb335 84 #[.int .i64 t336, .slice Ao26 t337.length co26] (0, 0) _ rfl (by (with_reducible repeat (first | refine blk_drewN ?_ _ | refine blk_drew ?_ | refine blk_alloc ?_ _)); refine blk_put (cs := #[.int .i64 t336, .slice none 0 0]) ?_ 1 _ rfl; (with_reducible repeat (first | refine blk_drewN ?_ _ | refine blk_drew ?_ | refine blk_alloc ?_ _)); refine blk_put (cs := #[.int .i64 0, .slice none 0 0]) ?_ 0 _ rfl; (with_reducible repeat (first | refine blk_drewN ?_ _ | refine blk_drew ?_ | refine blk_alloc ?_ _)); refine blk_far ?_ NB335_342.out _; (with_reducible repeat (first | refine blk_drewN ?_ _ | refine blk_drew ?_ | refine blk_alloc ?_ _)); refine blk_far ?_ NB335_342.out _; (with_reducible repeat (first | refine blk_drewN ?_ _ | refine blk_drew ?_ | refine blk_alloc ?_ _)); exact BK335.out) Tryd.underlying84 rfl (by kernel_rfl)) rfl ?_
         exact ⟨_, by first | rfl | (simp [errW_none, errW_some] <;> rfl) | (simp [*, errW_none, errW_some] <;> rfl), (FR (Kd.R_mono (Kd.R_far (p := ⟨gb335, 1, none⟩) (Kd.R_far (p := ⟨gb335, 0, none⟩) (Kd.R_far (p := ⟨gb342, 1, none⟩) (Kd.R_far (p := ⟨gb342, 0, none⟩) (Kd.R_mono (Kd.R_mono HO339.out (fun k_ hk => (⟨hk, hk.2⟩ : _ ∧ k_ ≠ gb342))) (fun k_ hk => (⟨hk, hk.1.1.2⟩ : _ ∧ k_ ≠ gb335))) (fun _ hk => hk.1.2) (.int .i64 t336)) (fun _ hk => hk.1.2) (.slice Ao26 t337.length co26)) (fun _ hk => hk.2) (.int .i64 t336)) (fun _ hk => hk.2) (.slice Ao26 t337.length co26)) (fun _ hk => trivial))), by repeat (first | (with_reducible first | exact HB.out | apply below_alloc | apply pw_below_drewN | apply below_drew1 | refine below_set ?_ GE335.out | refine below_set ?_ GE342.out) | exact HB.out)⟩

/-! ### impl_shapeOf: function 110 -/
mutual
def impl_shapeOf.l0 : Nat → List Int → List (List Int) → Int → Int → Option (List Int × Bool)
 | 0, _, _, _, _ => none
 | k + 1, x6, x17, x18, x19 => if x19 < x18 then (if 0 ≤ x19 then (if x19 < (x17.length : Int) then (impl_shapeOf.l1 k x6 0 x17 x18 x19 (rd_L3 x17 x19) ((rd_L3 x17 x19).length : Int) 0) else (none)) else (none)) else (some (x6, true))
def impl_shapeOf.l1 : Nat → List Int → Int → List (List Int) → Int → Int → List Int → Int → Int → Option (List Int × Bool)
 | 0, _, _, _, _, _, _, _, _ => none
 | k + 1, x6, x9, x17, x18, x19, x23, x24, x25 => if x25 < x24 then (if 0 ≤ x25 then (if x25 < (x23.length : Int) then (if x25 > 0 then (if (rd x23 x25) = x9 then (impl_shapeOf.l1 k x6 (rd x23 x25) x17 x18 x19 x23 x24 (wrap64 (x25 + 1))) else (some (([] : List Int), false))) else (impl_shapeOf.l1 k x6 (rd x23 x25) x17 x18 x19 x23 x24 (wrap64 (x25 + 1)))) else (none)) else (none)) else (if x6.length < 17592186044416 then (impl_shapeOf.l0 k (x6 ++ [x9]) x17 x18 (wrap64 (x19 + 1))) else (none))
end
def impl_shapeOf.f (k : Nat) (a0_0 : Int) (l0_1 : List (S84)) (a1 : Int) : Option (List Int × Bool) := (impl_laid.f k (([(⟨a0_0, l0_1⟩ : S84)] : List (S84))) a1).bind fun bt350 => (impl_shapeOf.l0 k (([] : List Int)) bt350.1 (bt350.1.length : Int) 0)
theorem impl_shapeOf.mono_l : ∀ k, (∀ y0 y1 y2 y3, LeO (impl_shapeOf.l0 k y0 y1 y2 y3) (impl_shapeOf.l0 (k + 1) y0 y1 y2 y3)) ∧ (∀ y0 y1 y2 y3 y4 y5 y6 y7, LeO (impl_shapeOf.l1 k y0 y1 y2 y3 y4 y5 y6 y7) (impl_shapeOf.l1 (k + 1) y0 y1 y2 y3 y4 y5 y6 y7))
 | 0 => ⟨fun _ _ _ _ r h => by simp [impl_shapeOf.l0] at h, fun _ _ _ _ _ _ _ _ r h => by simp [impl_shapeOf.l1] at h⟩
 | k + 1 => by
   obtain ⟨ih0, ih1⟩ := impl_shapeOf.mono_l k
   refine ⟨?_, ?_⟩
   · intro y0 y1 y2 y3
     unfold impl_shapeOf.l0
     repeat' first
     | (with_reducible exact ih0 _ _ _ _)
     | (with_reducible exact ih1 _ _ _ _ _ _ _ _)
     | (with_reducible exact impl_laid.mono _ _ _)
     | (with_reducible exact LeO.refl _)
     | (with_reducible exact LeO.none _)
     | (with_reducible refine LeO.ite ?_ ?_)
     | (with_reducible refine LeO.bind ?_ (fun _ => ?_))
     | exact ih0 _ _ _ _
     | exact ih1 _ _ _ _ _ _ _ _
     | exact impl_laid.mono _ _ _
     | exact LeO.none _
     | refine LeO.ite ?_ ?_
     | refine LeO.bind ?_ (fun _ => ?_)
   · intro y0 y1 y2 y3 y4 y5 y6 y7
     unfold impl_shapeOf.l1
     repeat' first
     | (with_reducible exact ih0 _ _ _ _)
     | (with_reducible exact ih1 _ _ _ _ _ _ _ _)
     | (with_reducible exact impl_laid.mono _ _ _)
     | (with_reducible exact LeO.refl _)
     | (with_reducible exact LeO.none _)
     | (with_reducible refine LeO.ite ?_ ?_)
     | (with_reducible refine LeO.bind ?_ (fun _ => ?_))
     | exact ih0 _ _ _ _
     | exact ih1 _ _ _ _ _ _ _ _
     | exact impl_laid.mono _ _ _
     | exact LeO.none _
     | refine LeO.ite ?_ ?_
     | refine LeO.bind ?_ (fun _ => ?_)
theorem impl_shapeOf.mono : ∀ a0 a1 a2 k, LeO (impl_shapeOf.f k a0 a1 a2) (impl_shapeOf.f (k + 1) a0 a1 a2) := by
 intro a0 a1 a2 k
 obtain ⟨ih0, ih1⟩ := impl_shapeOf.mono_l k
 unfold impl_shapeOf.f
 repeat' first
     | (with_reducible exact ih0 _ _ _ _)
     | (with_reducible exact ih1 _ _ _ _ _ _ _ _)
     | (with_reducible exact impl_laid.mono _ _ _)
     | (with_reducible exact LeO.refl _)
     | (with_reducible exact LeO.none _)
     | (with_reducible refine LeO.ite ?_ ?_)
     | (with_reducible refine LeO.bind ?_ (fun _ => ?_))
     | exact ih0 _ _ _ _
     | exact ih1 _ _ _ _ _ _ _ _
     | exact impl_laid.mono _ _ _
     | exact LeO.none _
     | refine LeO.ite ?_ ?_
     | refine LeO.bind ?_ (fun _ => ?_)
set_option maxHeartbeats 8000000 in
set_option maxRecDepth 100000 in
theorem impl_shapeOf.calls (k : Nat) (a0_0 : Int) (P0_1_ : Nat → Prop) (A0_1 : Option Addr) (c0_1 : Nat) (l0_1 : List (S84)) (a1 : Int) (r1 : List Int) (r2 : Bool) (w : World) (hs0_1 : Kd.V k84 84 w w.heap.size (fun k_ => P0_1_ k_) (.slice A0_1 l0_1.length c0_1) l0_1) (h : impl_shapeOf.f k a0_0 l0_1 a1 = some (r1, r2)) :
   Calls Tryd.prog 110 #[.agg #[.int .i64 a0_0, .slice A0_1 l0_1.length c0_1], .int .i64 a1] w fun e w' => ∃ v0_ : Value, e = .returned (.tuple #[v0_, .bool r2]) ∧ Kd.R (Kd.int .i64) 3 w' w.heap.size (fun k_ => (w.heap.size ≤ k_)) v0_ r1 ∧ Below w.heap.size w w' := by
 have hu84 := Tryd.underlying84
 have hu32 := Tryd.underlying32
 have hfd_ : ∀ (x_ y_ : Value) (w_ : World), (Instr.field 32 (.agg #[x_, y_]) 0).run Tryd.prog w_ = .ok x_ w_ := fun _ _ _ => by kernel_rfl
 have HO0_1 := Aside0.mk (show Kd.V k84 84 w w.heap.size (fun k_ => (P0_1_ k_ ∨ w.heap.size ≤ k_)) (.slice A0_1 l0_1.length c0_1) l0_1 from Kd.V_mono hs0_1 (fun k_ hk => .inl hk))
 have HB := Aside0.mk (Below.refl w.heap.size w)
 have H : ((impl_laid.f k (([(⟨a0_0, l0_1⟩ : S84)] : List (S84))) a1).bind fun bt350 => (impl_shapeOf.l0 k (([] : List Int)) bt350.1 (bt350.1.length : Int) 0)) = some (r1, r2) := h
 clear h
 obtain ⟨y344, hy344⟩ : ∃ y_ : List Int, y_ = (([] : List Int)) := ⟨_, rfl⟩
 replace H : ((impl_laid.f k (([(⟨a0_0, l0_1⟩ : S84)] : List (S84))) a1).bind fun bt350 => (impl_shapeOf.l0 k y344 bt350.1 (bt350.1.length : Int) 0)) = some (r1, r2) := by first | (rw [hy344]; with_reducible exact H) | (have H2_ := (Option.bind_some _ _).symm.trans H; rw [hy344]; with_reducible exact H2_) | (have H2_ := (Option.bind_some _ _).symm.trans H; with_reducible exact H2_) | with_reducible exact H | (rw [hy344]; exact H) | exact H
 have Ny344 := Aside0.mk hy344
 clear hy344
 obtain ⟨y347, hy347⟩ : ∃ y_ : List (S84), y_ = (([(⟨a0_0, l0_1⟩ : S84)] : List (S84))) := ⟨_, rfl⟩
 replace H : ((impl_laid.f k y347 a1).bind fun bt350 => (impl_shapeOf.l0 k y344 bt350.1 (bt350.1.length : Int) 0)) = some (r1, r2) := by first | (rw [hy347]; with_reducible exact H) | (have H2_ := (Option.bind_some _ _).symm.trans H; rw [hy347]; with_reducible exact H2_) | (have H2_ := (Option.bind_some _ _).symm.trans H; with_reducible exact H2_) | with_reducible exact H | (rw [hy347]; exact H) | exact H
 have Ny347 := Aside0.mk hy347
 clear hy347
 replace H := Option.bind_eq_some_iff.mp H
 obtain ⟨⟨t350, t353⟩, A30, H⟩ := H
 replace H : (impl_shapeOf.l0 k y344 t350 (t350.length : Int) 0) = some (r1, r2) := H
 have A3 := Aside0.mk A30
 clear A30
 have H' := Aside0.mk H
 clear H
 go_enter Tryd.func110, Tryd.ntmps110
 go_wp2_with (first | ((with_reducible refine gate_dst (N := 2) rfl ?_); refine box_event ?hg (N := 2) ?hd (cs := #[.int .i64 a0_0, .slice A0_1 l0_1.length c0_1]) (t := 84) ?hr ?_; (case hd => rfl); (case hg => rfl); (case hr => first | (go_simp; done) | (go_simp; rfl)); intro gb343 hg w4 hbox hb; have n0_ := Aside0.mk (Kd.V_below (Kd.V_elderB (by (with_reducible repeat (first | apply Kd.V_alloc | apply Kd.V_drewN | apply Kd.V_drew)); exact HO0_1.out) gb343 (Nat.le_of_eq hg.symm)) hb); have n1_ := Aside0.mk (below_step (FB HB.out) hb); have n2_ := Aside0.mk (hbox); have n3_ := Aside0.mk ((by rw [hg]; exact (below_size (FB HB.out)) : w.heap.size ≤ gb343)); have n4_ := Aside0.mk ((by rw [hg]; exact (below_size (FB HB.out)) : w.heap.size ≤ gb343)); clear HO0_1; clear HB; have HO0_1 := n0_; have HB := n1_; have BK343 := n2_; have GW343 := n3_; have GE343 := n4_; clear n0_ n1_ n2_ n3_ n4_; clear hb hbox hg) | ((with_reducible refine gate_dst (N := 12) rfl ?_); refine Kd.R_lit (Kd.int .i64) _ 3 ?hg (N := 12) ?hd (xs := ([] : List Int)) (inner := []) (ok := fun _ => True) (okp := fun _ => True) ?hr ?hp (fun _ hk => hk) trivial (Below.refl _ _) (Nat.le_refl _) (by simp) ?_; (case hd => rfl); (case hg => rfl); (case hr => first | (go_simp; done) | (go_simp; rfl)); (case hp => exact (Reps.none _ _)); intro v345 w5 ho6 hb hg_ hnew_; clear hg_ hnew_; (first | rw [← Ny344.out] at ho6 | (simp only [Int.reduceToNat] at ho6; rw [← Ny344.out] at ho6)); have n0_ := Aside0.mk (Kd.V_elder' (by (with_reducible repeat (first | apply Kd.V_alloc | apply Kd.V_drewN | apply Kd.V_drew)); exact HO0_1.out) (Kd.R_base ho6) hb); have n1_ := Aside0.mk (Kd.R_lower (Kd.R_newM (M := fun k_ => (w.heap.size ≤ k_)) ho6 (below_size (by repeat (first | (with_reducible first | exact HB.out | apply below_alloc | apply pw_below_drewN | apply below_drew1 | refine below_set ?_ GE343.out) | exact HB.out))) (fun k_ h_ => h_)) (below_size (by repeat (first | (with_reducible first | exact HB.out | apply below_alloc | apply pw_below_drewN | apply below_drew1 | refine below_set ?_ GE343.out) | exact HB.out)))); have n2_ := Aside0.mk (blk_below (g := gb343) (o := .cells #[.int .i64 a0_0, .slice A0_1 l0_1.length c0_1] 84 (0, 0)) (FK BK343.out) hb); have n3_ := Aside0.mk (below_step (by repeat (first | (with_reducible first | exact HB.out | apply below_alloc | apply pw_below_drewN | apply below_drew1 | refine below_set ?_ GE343.out) | exact HB.out)) hb); clear HO0_1; clear BK343; clear HB; have HO0_1 := n0_; have HO346 := n1_; have BK343 := n2_; have HB := n3_; clear n0_ n1_ n2_ n3_; clear hb ho6; have hcz7_0 : w5.cell? ⟨gb343, 0, none⟩ = some (.int .i64 a0_0) := (blk_cell BK343.out 0).trans rfl; have hcz7_1 : w5.cell? ⟨gb343, 1, none⟩ = some (.slice A0_1 l0_1.length c0_1) := (blk_cell BK343.out 1).trans rfl; have hfz7_0 := blk_frozen BK343.out 0; have hfz7_1 := blk_frozen BK343.out 1) | ((with_reducible refine gate_dst (N := 14) rfl ?_); refine Kd.N_lit k84 _ 84 ?hg (N' := 14) ?hd (xs := ([(⟨a0_0, l0_1⟩ : S84)] : List (S84))) (inner := [.int .i64 a0_0, .slice A0_1 l0_1.length c0_1]) (ok := (fun k_ => (P0_1_ k_ ∨ w.heap.size ≤ k_) ∧ some k_ ≠ (v345 : Value).ownBlock ∧ k_ ≠ gb343)) (okp := (fun k_ => (P0_1_ k_ ∨ w.heap.size ≤ k_) ∧ some k_ ≠ (v345 : Value).ownBlock ∧ k_ ≠ gb343)) ?hr ?hp (fun _ hk => hk) ((show ∀ k_, w5.heap.size ≤ k_ → (fun k_ => (P0_1_ k_ ∨ w.heap.size ≤ k_) ∧ some k_ ≠ (v345 : Value).ownBlock ∧ k_ ≠ gb343) k_ from fun k_ hk => ⟨(.inr (Nat.le_trans (below_size (by repeat (first | (with_reducible first | exact HB.out | apply below_alloc | apply pw_below_drewN | apply below_drew1 | refine below_set ?_ GE343.out) | exact HB.out))) hk)), Kd.fresh' (Kd.R_lt (FR HO346.out)) k_ hk, Kd.freshB (g := gb343) (o := .cells #[.int .i64 a0_0, .slice A0_1 l0_1.length c0_1] 84 (0, 0)) (FK BK343.out) k_ hk⟩) _ (Nat.le_refl _)) (Below.refl _ _) (Nat.le_refl _) (by simp) ?_; (case hd => rfl); (case hg => rfl); (case hr => first | (go_simp; done) | (go_simp; rfl)); (case hp => exact (Reps.c2 (show Kd.FK k84 _ _ (⟨a0_0, l0_1⟩ : S84) [.int .i64 a0_0, .slice A0_1 l0_1.length c0_1] from (k84_mkF _ _ (⟨a0_0, l0_1⟩ : S84) (Kd.V_reads' (Kd.V_mono (ok' := (fun k_ => (P0_1_ k_ ∨ w.heap.size ≤ k_) ∧ some k_ ≠ (v345 : Value).ownBlock ∧ k_ ≠ gb343)) (HO0_1.out) (fun k_ hk => ⟨hk.1.1, ⟨hk.2, hk.1.2⟩⟩))).2.1 (Kd.V_F (Kd.V_mono (ok' := (fun k_ => (P0_1_ k_ ∨ w.heap.size ≤ k_) ∧ some k_ ≠ (v345 : Value).ownBlock ∧ k_ ≠ gb343)) (HO0_1.out) (fun k_ hk => ⟨hk.1.1, ⟨hk.2, hk.1.2⟩⟩))))) (Reps.none _ _))); intro v348 w8 ho9 hb hg_ hnew_; clear hg_ hnew_; (first | rw [← Ny347.out] at ho9 | (simp only [Int.reduceToNat] at ho9; rw [← Ny347.out] at ho9)); have n0_ := Aside0.mk (Kd.V_elder' (by (with_reducible repeat (first | apply Kd.V_alloc | apply Kd.V_drewN | apply Kd.V_drew)); exact HO0_1.out) (Kd.N_base (by first | exact ho9 | exact Kd.R_N ho9 | exact Kd.S_N ho9)) hb); have n1_ := Aside0.mk (Kd.R_below (FR HO346.out) hb); have n2_ := Aside0.mk (Kd.N_lower ho9 (below_size (by repeat (first | (with_reducible first | exact HB.out | apply below_alloc | apply pw_below_drewN | apply below_drew1 | refine below_set ?_ GE343.out) | exact HB.out)))); have n3_ := Aside0.mk (blk_below (g := gb343) (o := .cells #[.int .i64 a0_0, .slice A0_1 l0_1.length c0_1] 84 (0, 0)) (FK BK343.out) hb); have n4_ := Aside0.mk (below_step (by repeat (first | (with_reducible first | exact HB.out | apply below_alloc | apply pw_below_drewN | apply below_drew1 | refine below_set ?_ GE343.out) | exact HB.out)) hb); clear HO0_1; clear HO346; clear BK343; clear HB; have HO0_1 := n0_; have HO346 := n1_; have HO349 := n2_; have BK343 := n3_; have HB := n4_; clear n0_ n1_ n2_ n3_ n4_; clear hb ho9; obtain ⟨Ao10, co10, eo10⟩ := Kd.N_slice HO349.out; subst eo10) | ((with_reducible refine gate_callee (f := 81) rfl ?_); refine goesL_ (some 16) rfl rfl Tryd.func81 (by kernel_rfl) rfl #[.slice Ao10 y347.length co10, .int .i64 a1] rfl (by (try simp only [List.map_toArray, List.map_cons, List.map_nil]); first | done | rfl | (simp only [List.length_drop, List.length_take]; rfl)) ?_; (with_reducible refine (impl_laid.calls k _ _ y347 a1 t350 t353 _ ?side1 ?side2 A3.out).mono ?_); (case side1 => repeat (first | exact (Kd.N_reads' HO349.out).2.2 | (with_reducible refine Kd.C_alloc ?_ _) | (with_reducible refine Kd.C_drewN ?_ _) | (with_reducible refine Kd.C_drew ?_))); (case side2 => exact (Kd.N_reads' HO349.out).2.1); rintro e w11 ⟨v351, v354, rfl, ho0, ho1, hb⟩; refine ⟨_, rfl, ?_⟩; have n0_ := Aside0.mk (Kd.V_mono (Kd.V_told (Kd.V_told (Kd.V_old (by (with_reducible repeat (first | apply Kd.V_alloc | apply Kd.V_drewN | apply Kd.V_drew)); exact HO0_1.out) hb) (Kd.N_base (Kd.S_N ho0))) (Kd.R_base ho1)) (fun _ h_ => h_.1)); have n1_ := Aside0.mk (Kd.R_elder' (FR HO346.out) (Kd.R_base ho1) hb); have n2_ := Aside0.mk (Kd.N_mono (Kd.N_told (Kd.N_told (Kd.N_old (by (with_reducible repeat (first | apply Kd.N_alloc | apply Kd.N_drewN | apply Kd.N_drew)); exact HO349.out) hb) (Kd.N_base (Kd.S_N ho0))) (Kd.R_base ho1)) (fun _ h_ => h_.1)); have n3_ := Aside0.mk (Kd.N_lower (Kd.N_mono (ok' := fun k_ => (P0_1_ k_ ∨ w.heap.size ≤ k_) ∧ some k_ ≠ (v354 : Value).ownBlock ∧ some k_ ≠ (v345 : Value).ownBlock ∧ some k_ ≠ (.slice Ao10 y347.length co10 : Value).ownBlock ∧ k_ ≠ gb343) (Kd.S_N (Kd.S_bound ho0)) (fun k_ hk_ => ⟨(.inr (Nat.le_trans (below_size (by repeat (first | (with_reducible first | exact HB.out | apply below_alloc | apply pw_below_drewN | apply below_drew1 | refine below_set ?_ GE343.out) | exact HB.out))) hk_.2.1)), hk_.1, (Kd.fresh' (Kd.R_lt (FR HO346.out)) k_ hk_.2.1), (Kd.fresh' (Kd.N_lt (by (with_reducible repeat (first | apply Kd.N_alloc | apply Kd.N_drewN | apply Kd.N_drew)); exact HO349.out)) k_ hk_.2.1), (Kd.freshB (g := gb343) (o := .cells #[.int .i64 a0_0, .slice A0_1 l0_1.length c0_1] 84 (0, 0)) (FK BK343.out) k_ hk_.2.1)⟩)) (below_size (by repeat (first | (with_reducible first | exact HB.out | apply below_alloc | apply pw_below_drewN | apply below_drew1 | refine below_set ?_ GE343.out) | exact HB.out)))); have n4_ := Aside0.mk (Kd.R_lower (Kd.R_new' (Kd.R_newM (M := fun k_ => (w.heap.size ≤ k_)) ho1 (below_size (by repeat (first | (with_reducible first | exact HB.out | apply below_alloc | apply pw_below_drewN | apply below_drew1 | refine below_set ?_ GE343.out) | exact HB.out))) (fun k_ h_ => h_)) (Kd.R_lt (FR HO346.out))) (below_size (by repeat (first | (with_reducible first | exact HB.out | apply below_alloc | apply pw_below_drewN | apply below_drew1 | refine below_set ?_ GE343.out) | exact HB.out)))); have n5_ := Aside0.mk (blk_below (g := gb343) (o := .cells #[.int .i64 a0_0, .slice A0_1 l0_1.length c0_1] 84 (0, 0)) (FK BK343.out) hb); have n6_ := Aside0.mk (below_step (by repeat (first | (with_reducible first | exact HB.out | apply below_alloc | apply pw_below_drewN | apply below_drew1 | refine below_set ?_ GE343.out) | exact HB.out)) hb); clear HO0_1; clear HO346; clear HO349; clear BK343; clear HB; have HO0_1 := n0_; have HO346 := n1_; have HO349 := n2_; have HO352 := n3_; have HO355 := n4_; have BK343 := n5_; have HB := n6_; clear n0_ n1_ n2_ n3_ n4_ n5_ n6_; (try clear hb); (try clear ho1); obtain ⟨Ao12, co12, eo12⟩ := Kd.N_slice HO352.out; subst eo12))
 go_loopg [6, 19] k (fun kq v6 v19 w' => ∃ (x6_1 : List Int) (x19_1 : Int), v19 = .int .i64 x19_1 ∧ Aside0 (impl_shapeOf.l0 kq x6_1 t350 (t350.length : Int) x19_1 = some (r1, r2)) ∧ Aside0 (kq ≤ k) ∧ Aside0 (Kd.R (Kd.int .i64) 3 w' w.heap.size (fun k_ => (w.heap.size ≤ k_)) v6 x6_1) ∧ Aside0 (Kd.N (Kd.slice 3 (Kd.int .i64)) 22 w' w.heap.size (fun k_ => (P0_1_ k_ ∨ w.heap.size ≤ k_) ∧ some k_ ≠ (v6 : Value).ownBlock ∧ k_ ≠ gb343) (.slice Ao12 t350.length co12) t350) ∧ Aside0 (Kd.V k84 84 w' w.heap.size (fun k_ => (P0_1_ k_ ∨ w.heap.size ≤ k_) ∧ some k_ ≠ (v6 : Value).ownBlock ∧ some k_ ≠ ((.slice Ao12 t350.length co12) : Value).ownBlock ∧ k_ ≠ gb343) (.slice A0_1 l0_1.length c0_1) l0_1) ∧ Aside0 (w'.heap[gb343]? = some (.cells #[.int .i64 a0_0, (.slice A0_1 l0_1.length c0_1)] 84 (0, 0))) ∧ Aside0 (Below w.heap.size w w'))
 case atStart => exact ⟨(y344), (0), (by first | rfl | (simp; done) | (simp [*]; done)), H', ⟨Nat.le_refl _⟩, ⟨(FR (Kd.R_mono HO346.out (fun _ hk => hk.1.1)))⟩, ⟨by (with_reducible repeat (first | apply Kd.N_alloc | apply Kd.N_drewN | apply Kd.N_drew)); exact Kd.N_mono HO352.out (fun _ hk => ⟨hk.1, ⟨hk.2.2.1, hk.2.2.2.2⟩⟩)⟩, ⟨by (with_reducible repeat (first | apply Kd.V_alloc | apply Kd.V_drewN | apply Kd.V_drew)); exact Kd.V_mono HO0_1.out (fun _ hk => ⟨hk.1.1.1.1.1, ⟨hk.1.1.1.2, ⟨hk.1.2, hk.1.1.1.1.2⟩⟩⟩)⟩, ⟨(FK BK343.out)⟩, ⟨by repeat (first | (with_reducible first | exact HB.out | apply below_alloc | apply pw_below_drewN | apply below_drew1 | refine below_set ?_ GE343.out) | exact HB.out)⟩⟩
 case round =>
   clear H'
   (try clear c1); (try clear c2); (try clear p2); (try clear c8); (try clear c11); (try clear hcz7_0); (try clear hcz7_1); (try clear hfz7_0); (try clear hfz7_1)
   obtain ⟨x6_1, x19_1, rfl, HA, HK1, HO_6, HO_17, HO_344001, BK343, HB⟩ := hrel
   cases gk with
   | zero => exact absurd HA.out (by simp [impl_shapeOf.l0])
   | succ k1 =>
     have H := HA.out
     clear HA
     simp only [impl_shapeOf.l0] at H
     by_cases c13 : x19_1 < (t350.length : Int)
     · rw [if_pos c13] at H
       have c13b0 : decide (x19_1 < (t350.length : Int)) = true := decide_eq_true c13
       clear c13
       by_cases c14 : 0 ≤ x19_1
       · rw [if_pos c14] at H
         have c14b0 : decide (0 ≤ x19_1) = true := decide_eq_true c14
         clear c14
         by_cases c15 : x19_1 < (t350.length : Int)
         · rw [if_pos c15] at H
           have c15b0 : decide (x19_1 < (t350.length : Int)) = true := decide_eq_true c15
           clear c15
           have H' := Aside0.mk H
           clear H
           have p356 : 0 ≤ (x19_1 : Int) := of_decide_eq_true (by assumption)
           have q356 : x19_1 < (t350.length : Int) := of_decide_eq_true (by assumption)
           obtain ⟨ad356, A356_0, c356_0, e356, hx356_0, hl356_0, hi356_0⟩ := at_L3 (Kd.N_reads' HO_17.out).2.2 x19_1 p356 q356
           cases e356
           obtain ⟨ce356, hce356, hMe356, hcc356⟩ := Kd.N_get HO_17.out [] x19_1 p356 (by first | exact q356 | exact of_decide_eq_true (by assumption) | (have e_ := (Kd.N_reads' HO_17.out).1; omega))
           obtain ⟨ua356_0, uc356_0, rfl, ul356_0, ge356_0⟩ := Kd.FK_slice_open hMe356
           have hv356_0 := hcc356 0 _ rfl
           rw [Nat.add_zero, show ((Kd.slice 3 (Kd.int .i64))).sz = 1 from rfl, Nat.mul_one] at hv356_0
           replace hv356_0 := Option.some.inj (hv356_0.symm.trans hx356_0)
           injection hv356_0 with hva_ hvn_ hvc_
           rw [hva_] at ge356_0
           rw [hvc_] at ul356_0
           have HL356_0 := Aside0.mk (show Kd.V (Kd.int .i64) 3 _ w.heap.size _ _ (rd_L3 t350 x19_1) from Kd.V_mk ul356_0 ge356_0)
           clear hva_ hvn_ hvc_ ge356_0 ul356_0
           clear hcc356 hce356
           have HR356_0 := Aside0.mk hi356_0
           have HC356_0 := Aside0.mk hl356_0
           clear hi356_0 hl356_0
           replace p356 := eq_true p356
           replace q356 := eq_true q356
           go_wp2
           go_loopg [9, 25] k1 (fun kq v9 v25 w' => ∃ (x9_2 : Int) (x25_2 : Int), v9 = .int .i64 x9_2 ∧ v25 = .int .i64 x25_2 ∧ Aside0 (impl_shapeOf.l1 kq x6_1 x9_2 t350 (t350.length : Int) x19_1 (rd_L3 t350 x19_1) ((rd_L3 t350 x19_1).length : Int) x25_2 = some (r1, r2)) ∧ Aside0 (kq ≤ k1) ∧ Aside0 (Kd.R (Kd.int .i64) 3 w' w.heap.size (fun k_ => (w.heap.size ≤ k_)) u6 x6_1) ∧ Aside0 (Kd.N (Kd.slice 3 (Kd.int .i64)) 22 w' w.heap.size (fun k_ => (P0_1_ k_ ∨ w.heap.size ≤ k_) ∧ some k_ ≠ (u6 : Value).ownBlock ∧ k_ ≠ gb343) (.slice (some ad356) t350.length co12) t350) ∧ Aside0 (Kd.V k84 84 w' w.heap.size (fun k_ => (P0_1_ k_ ∨ w.heap.size ≤ k_) ∧ some k_ ≠ (u6 : Value).ownBlock ∧ some k_ ≠ ((.slice (some ad356) t350.length co12) : Value).ownBlock ∧ k_ ≠ gb343) (.slice A0_1 l0_1.length c0_1) l0_1) ∧ Aside0 (w'.heap[gb343]? = some (.cells #[.int .i64 a0_0, (.slice A0_1 l0_1.length c0_1)] 84 (0, 0))) ∧ Aside0 (Kd.C (Kd.int .i64) w' A356_0 (rd_L3 t350 x19_1).length (rd_L3 t350 x19_1)) ∧ Aside0 (Below w.heap.size w w'))
           case atStart => exact ⟨(0), (0), (by first | rfl | (simp; done) | (simp [*]; done)), (by first | rfl | (simp; done) | (simp [*]; done)), H', ⟨Nat.le_refl _⟩, ⟨(FR HO_6.out)⟩, ⟨by (with_reducible repeat (first | apply Kd.N_alloc | apply Kd.N_drewN | apply Kd.N_drew)); exact HO_17.out⟩, ⟨by (with_reducible repeat (first | apply Kd.V_alloc | apply Kd.V_drewN | apply Kd.V_drew)); exact HO_344001.out⟩, ⟨(FK BK343.out)⟩, ⟨FC HR356_0.out⟩, ⟨by repeat (first | (with_reducible first | exact HB.out | apply below_alloc | apply pw_below_drewN | apply below_drew1 | refine below_set ?_ GE343.out) | exact HB.out)⟩⟩
           case round =>
             clear H'
             (try clear c1); (try clear c2); (try clear p2); (try clear c3); (try clear p3); (try clear q3); (try clear hx3); (try clear c8); (try clear c11); (try clear c13); (try clear c13b0); (try clear c14); (try clear c14b0); (try clear c15); (try clear c15b0); (try clear hcz7_0); (try clear hcz7_1); (try clear hfz7_0); (try clear hfz7_1); (try clear hx356_0); (try clear p356); (try clear q356)
             obtain ⟨x9_2, x25_2, rfl, rfl, HA, HK2, HO_6, HO_17, HO_344001, BK343, HR356_0, HB⟩ := hrel
             cases gk with
             | zero => exact absurd HA.out (by simp [impl_shapeOf.l1])
             | succ k2 =>
               have H := HA.out
               clear HA
               simp only [impl_shapeOf.l1] at H
               by_cases c16 : x25_2 < ((rd_L3 t350 x19_1).length : Int)
               · rw [if_pos c16] at H
                 have c16b0 : decide (x25_2 < ((rd_L3 t350 x19_1).length : Int)) = true := decide_eq_true c16
                 clear c16
                 by_cases c17 : 0 ≤ x25_2
                 · rw [if_pos c17] at H
                   have c17b0 : decide (0 ≤ x25_2) = true := decide_eq_true c17
                   clear c17
                   by_cases c18 : x25_2 < ((rd_L3 t350 x19_1).length : Int)
                   · rw [if_pos c18] at H
                     have c18b0 : decide (x25_2 < ((rd_L3 t350 x19_1).length : Int)) = true := decide_eq_true c18
                     clear c18
                     by_cases c19 : x25_2 > 0
                     · rw [if_pos c19] at H
                       have c19b0 : decide (0 < x25_2) = true := decide_eq_true c19
                       clear c19
                       by_cases c20 : (rd (rd_L3 t350 x19_1) x25_2) = x9_2
                       · rw [if_pos c20] at H
                         have c20b0 : ((rd (rd_L3 t350 x19_1) x25_2) == x9_2) = true := beq_iff_eq.mpr c20
                         have c20b1 : ((rd (rd_L3 t350 x19_1) x25_2) != x9_2) = false := bne_eq_false_iff_eq.mpr c20
                         clear c20
                         have H' := Aside0.mk H
                         clear H
                         have p357 : 0 ≤ (x25_2 : Int) := of_decide_eq_true (by assumption)
                         have q357 : x25_2 < ((rd_L3 t350 x19_1).length : Int) := of_decide_eq_true (by assumption)
                         obtain ⟨ad357, e357, hx357_0⟩ := Kd.at_int HR356_0.out x25_2 p357 q357
                         cases e357
                         (try replace hx357_0 := (HB.out.cell (World.block_lt_of_cell? w _ hx357_0)).trans hx357_0)
                         replace p357 := eq_true p357
                         replace q357 := eq_true q357
                         go_wp2
                         go_roundg k2
                         case measure => have := HK1.out; have := HK2.out; omega
                         case rel => exact ⟨(rd (rd_L3 t350 x19_1) x25_2), (wrap64 (x25_2 + 1)), (by first | rfl | (simp; done) | (simp [*]; done)), (by first | rfl | (simp; done) | (simp [*]; done)), H', ⟨by have := HK1.out; have := HK2.out; omega⟩, ⟨(FR HO_6.out)⟩, ⟨by (with_reducible repeat (first | apply Kd.N_alloc | apply Kd.N_drewN | apply Kd.N_drew)); exact HO_17.out⟩, ⟨by (with_reducible repeat (first | apply Kd.V_alloc | apply Kd.V_drewN | apply Kd.V_drew)); exact HO_344001.out⟩, ⟨(FK BK343.out)⟩, ⟨FC HR356_0.out⟩, ⟨by repeat (first | (with_reducible first | exact HB.out | apply below_alloc | apply pw_below_drewN | apply below_drew1 | refine below_set ?_ GE343.out) | exact HB.out)⟩⟩
                       · rw [if_neg c20] at H
                         have c20b0 : ((rd (rd_L3 t350 x19_1) x25_2) == x9_2) = false := beq_eq_false_iff_ne.mpr c20
                         have c20b1 : ((rd (rd_L3 t350 x19_1) x25_2) != x9_2) = true := bne_iff_ne.mpr c20
                         simp only [Option.some.injEq, Prod.mk.injEq] at H
                         obtain ⟨rfl, rfl⟩ := H
                         have p357 : 0 ≤ (x25_2 : Int) := of_decide_eq_true (by assumption)
                         have q357 : x25_2 < ((rd_L3 t350 x19_1).length : Int) := of_decide_eq_true (by assumption)
                         obtain ⟨ad357, e357, hx357_0⟩ := Kd.at_int HR356_0.out x25_2 p357 q357
                         cases e357
                         (try replace hx357_0 := (HB.out.cell (World.block_lt_of_cell? w _ hx357_0)).trans hx357_0)
                         replace p357 := eq_true p357
                         replace q357 := eq_true q357
                         go_wp2
                         go_ret2
                         exact ⟨_, by first | rfl | (simp [errW_none, errW_some] <;> rfl) | (simp [*, errW_none, errW_some] <;> rfl), by first | exact Kd.R_nil _ _ _ _ _ | exact Kd.N_nil _ _ _ _ _ | exact Kd.V_nil _ _ _ _ _ | exact Kd.Q_nil _ _ _ _ _ | exact Kd.S_nil _ _ _ _ _, by repeat (first | (with_reducible first | exact HB.out | apply below_alloc | apply pw_below_drewN | apply below_drew1 | refine below_set ?_ GE343.out) | exact HB.out)⟩
                     · rw [if_neg c19] at H
                       have c19b0 : decide (0 < x25_2) = false := decide_eq_false c19
                       clear c19
                       have H' := Aside0.mk H
                       clear H
                       have p357 : 0 ≤ (x25_2 : Int) := of_decide_eq_true (by assumption)
                       have q357 : x25_2 < ((rd_L3 t350 x19_1).length : Int) := of_decide_eq_true (by assumption)
                       obtain ⟨ad357, e357, hx357_0⟩ := Kd.at_int HR356_0.out x25_2 p357 q357
                       cases e357
                       (try replace hx357_0 := (HB.out.cell (World.block_lt_of_cell? w _ hx357_0)).trans hx357_0)
                       replace p357 := eq_true p357
                       replace q357 := eq_true q357
                       go_wp2
                       go_roundg k2
                       case measure => have := HK1.out; have := HK2.out; omega
                       case rel => exact ⟨(rd (rd_L3 t350 x19_1) x25_2), (wrap64 (x25_2 + 1)), (by first | rfl | (simp; done) | (simp [*]; done)), (by first | rfl | (simp; done) | (simp [*]; done)), H', ⟨by have := HK1.out; have := HK2.out; omega⟩, ⟨(FR HO_6.out)⟩, ⟨by (with_reducible repeat (first | apply Kd.N_alloc | apply Kd.N_drewN | apply Kd.N_drew)); exact HO_17.out⟩, ⟨by (with_reducible repeat (first | apply Kd.V_alloc | apply Kd.V_drewN | apply Kd.V_drew)); exact HO_344001.out⟩, ⟨(FK BK343.out)⟩, ⟨FC HR356_0.out⟩, ⟨by repeat (first | (with_reducible first | exact HB.out | apply below_alloc | apply pw_below_drewN | apply below_drew1 | refine below_set ?_ GE343.out) | exact HB.out)⟩⟩
                   · rw [if_neg c18] at H
                     exact absurd H (by simp)
                 · rw [if_neg c17] at H
                   exact absurd H (by simp)
               · rw [if_neg c16] at H
                 have c16b0 : decide (x25_2 < ((rd_L3 t350 x19_1).length : Int)) = false := decide_eq_false c16
                 clear c16
                 by_cases c21 : x6_1.length < 17592186044416
                 · rw [if_pos c21] at H
                   have LMc21 := Aside0.mk c21
                   clear c21
                   obtain ⟨y358, hy358⟩ : ∃ y_ : List Int, y_ = (x6_1 ++ [x9_2]) := ⟨_, rfl⟩
                   replace H : (impl_shapeOf.l0 k2 y358 t350 (t350.length : Int) (wrap64 (x19_1 + 1))) = some (r1, r2) := by first | (rw [hy358]; with_reducible exact H) | (have H2_ := (Option.bind_some _ _).symm.trans H; rw [hy358]; with_reducible exact H2_) | (have H2_ := (Option.bind_some _ _).symm.trans H; with_reducible exact H2_) | with_reducible exact H | (rw [hy358]; exact H) | exact H
                   have Ny358 := Aside0.mk hy358
                   clear hy358
                   have H' := Aside0.mk H
                   clear H
                   go_wp2_with (first | ((with_reducible refine gate_builtin (b := .append) (xs := #[.tmp 39, .tmp 41]) rfl ?_); at_builtin; refine Kd.R_append (Kd.int .i64) (w0 := w) w.heap.size rfl (.tmp 39) (.tmp 41) 22 3 (.int .i64 0) 8 rfl Tryd.underlying22 info3 rfl (by decide) (by omega) u6 x6_1 x9_2 [.int .i64 x9_2] (fun k_ => (w.heap.size ≤ k_)) (fun _ => False) rfl rfl ?aP (fun _ hk => hk.elim) ?aF ?aO ?aB ?aS ?aL ?_; (case aP => exact rfl); (case aB => exact (by repeat (first | (with_reducible first | exact HB.out | apply below_alloc | apply pw_below_drewN | apply below_drew1 | refine below_set ?_ GE343.out) | exact HB.out))); (case aF => exact (fun k_ hk => (Nat.le_trans (below_size (by repeat (first | (with_reducible first | exact HB.out | apply below_alloc | apply pw_below_drewN | apply below_drew1 | refine below_set ?_ GE343.out) | exact HB.out))) hk))); (case aO => exact (FR HO_6.out)); (case aS => exact (below_size (by repeat (first | (with_reducible first | exact HB.out | apply below_alloc | apply pw_below_drewN | apply below_drew1 | refine below_set ?_ GE343.out) | exact HB.out)))); (case aL => have := LMc21.out; omega); intro v359 w22 ho hb hg hat; rw [← Ny358.out] at ho; have n0_ := Aside0.mk (Kd.N_afterv (ok := (fun k_ => (P0_1_ k_ ∨ w.heap.size ≤ k_) ∧ k_ ≠ gb343)) (by (with_reducible repeat (first | apply Kd.N_alloc | apply Kd.N_drewN | apply Kd.N_drew)); exact Kd.N_mono HO_17.out (fun _ hk => ⟨⟨hk.1, hk.2.2⟩, hk.2.1⟩)) hg hat); have n1_ := Aside0.mk (Kd.V_afterv (ok := (fun k_ => (P0_1_ k_ ∨ w.heap.size ≤ k_) ∧ some k_ ≠ (.slice (some ad356) t350.length co12 : Value).ownBlock ∧ k_ ≠ gb343)) (by (with_reducible repeat (first | apply Kd.V_alloc | apply Kd.V_drewN | apply Kd.V_drew)); exact Kd.V_mono HO_344001.out (fun _ hk => ⟨⟨hk.1, ⟨hk.2.2.1, hk.2.2.2⟩⟩, hk.2.1⟩)) hg hat); have n2_ := Aside0.mk (blk_grown (g := gb343) (o := .cells #[.int .i64 a0_0, .slice A0_1 l0_1.length c0_1] 84 (0, 0)) (FK BK343.out) hg (Kd.R_ne HO_6.out BK343.out (by decide))); have n3_ := Aside0.mk (hb); have n4_ := Aside0.mk (ho); clear HO_17; clear HO_344001; clear BK343; clear HB; clear HO_6; have HO_17 := n0_; have HO_344001 := n1_; have BK343 := n2_; have HB := n3_; have HO360 := n4_; clear n0_ n1_ n2_ n3_ n4_; clear ho hb hg hat))
                   go_roundg k2
                   case measure => have := HK1.out; have := HK2.out; omega
                   case rel => exact ⟨(y358), (wrap64 (x19_1 + 1)), (by first | rfl | (simp; done) | (simp [*]; done)), H', ⟨by have := HK1.out; have := HK2.out; omega⟩, ⟨(FR HO360.out)⟩, ⟨by (with_reducible repeat (first | apply Kd.N_alloc | apply Kd.N_drewN | apply Kd.N_drew)); exact Kd.N_mono HO_17.out (fun _ hk => ⟨hk.1.1, ⟨hk.2, hk.1.2⟩⟩)⟩, ⟨by (with_reducible repeat (first | apply Kd.V_alloc | apply Kd.V_drewN | apply Kd.V_drew)); exact Kd.V_mono HO_344001.out (fun _ hk => ⟨hk.1.1, ⟨hk.2, ⟨hk.1.2.1, hk.1.2.2⟩⟩⟩)⟩, ⟨(FK BK343.out)⟩, ⟨by repeat (first | (with_reducible first | exact HB.out | apply below_alloc | apply pw_below_drewN | apply below_drew1 | refine below_set ?_ GE343.out) | exact HB.out)⟩⟩
                 · rw [if_neg c21] at H
                   exact absurd H (by simp)
         · rw [if_neg c15] at H
           exact absurd H (by simp)
       · rw [if_neg c14] at H
         exact absurd H (by simp)
     · rw [if_neg c13] at H
       have c13b0 : decide (x19_1 < (t350.length : Int)) = false := decide_eq_false c13
       clear c13
       simp only [Option.some.injEq, Prod.mk.injEq] at H
       obtain ⟨rfl, rfl⟩ := H
       go_wp2
       go_ret2
       exact ⟨_, by first | rfl | (simp [errW_none, errW_some] <;> rfl) | (simp [*, errW_none, errW_some] <;> rfl), (FR HO_6.out), by repeat (first | (with_reducible first | exact HB.out | apply below_alloc | apply pw_below_drewN | apply below_drew1 | refine below_set ?_ GE343.out) | exact HB.out)⟩

/-! ### impl_ShapeOf: function 65 -/
def impl_ShapeOf.f (k : Nat) (a0 : ByteArray) (a1 : Int) : Option (List Int × Bool) := (impl_arrOf.f k a0 a1).bind fun bt361 => (if bt361.2.2 = true then ((impl_shapeOf.f k bt361.1 bt361.2.1 a1).bind fun bt367 => (some (bt367.1, bt367.2))) else (some (([] : List Int), false)))
theorem impl_ShapeOf.mono : ∀ a0 a1 k, LeO (impl_ShapeOf.f k a0 a1) (impl_ShapeOf.f (k + 1) a0 a1) := by
 intro a0 a1 k
 unfold impl_ShapeOf.f
 repeat' first
     | (with_reducible exact impl_arrOf.mono _ _ _)
     | (with_reducible exact impl_shapeOf.mono _ _ _ _)
     | (with_reducible exact LeO.refl _)
     | (with_reducible exact LeO.none _)
     | (with_reducible refine LeO.ite ?_ ?_)
     | (with_reducible refine LeO.bind ?_ (fun _ => ?_))
     | exact impl_arrOf.mono _ _ _
     | exact impl_shapeOf.mono _ _ _ _
     | exact LeO.none _
     | refine LeO.ite ?_ ?_
     | refine LeO.bind ?_ (fun _ => ?_)
set_option maxHeartbeats 8000000 in
set_option maxRecDepth 100000 in
theorem impl_ShapeOf.calls (k : Nat) (a0 : ByteArray) (a1 : Int) (r1 : List Int) (r2 : Bool) (w : World) (h : impl_ShapeOf.f k a0 a1 = some (r1, r2)) (hL_ : LaidW w) :
   Calls Tryd.prog 65 #[.string a0, .int .i64 a1] w fun e w' => ∃ v0_ : Value, e = .returned (.tuple #[v0_, .bool r2]) ∧ Kd.R (Kd.int .i64) 3 w' w.heap.size (fun _ => True) v0_ r1 ∧ Below w.heap.size w w' := by
 have HLd := Aside0.mk hL_
 clear hL_
 have hu84 := Tryd.underlying84
 have HB := Aside0.mk (Below.refl w.heap.size w)
 have H : ((impl_arrOf.f k a0 a1).bind fun bt361 => (if bt361.2.2 = true then ((impl_shapeOf.f k bt361.1 bt361.2.1 a1).bind fun bt367 => (some (bt367.1, bt367.2))) else (some (([] : List Int), false)))) = some (r1, r2) := h
 clear h
 replace H := Option.bind_eq_some_iff.mp H
 obtain ⟨⟨t361, t362, t365⟩, A30, H⟩ := H
 replace H : (if t365 = true then ((impl_shapeOf.f k t361 t362 a1).bind fun bt367 => (some (bt367.1, bt367.2))) else (some (([] : List Int), false))) = some (r1, r2) := H
 have A3 := Aside0.mk A30
 clear A30
 by_cases c4 : t365 = true
 · subst c4
   have H1 : ((impl_shapeOf.f k t361 t362 a1).bind fun bt367 => (some (bt367.1, bt367.2))) = some (r1, r2) := by rw [if_pos rfl] at H; exact H
   clear H
   have H := H1
   clear H1
   replace H := Option.bind_eq_some_iff.mp H
   obtain ⟨⟨t367, t370⟩, A50, H⟩ := H
   replace H : (some (t367, t370)) = some (r1, r2) := H
   have A5 := Aside0.mk A50
   clear A50
   simp only [Option.some.injEq, Prod.mk.injEq] at H
   obtain ⟨rfl, rfl⟩ := H
   go_enter Tryd.func65, Tryd.ntmps65
   go_wp2_with (first | ((with_reducible refine gate_callee (f := 80) rfl ?_); refine goesL_ (some 11) rfl rfl Tryd.func80 (by kernel_rfl) rfl #[.string a0, .int .i64 a1] rfl (by (try simp only [List.map_toArray, List.map_cons, List.map_nil]); first | done | rfl | (simp only [List.length_drop, List.length_take]; rfl)) ?_; (with_reducible refine (impl_arrOf.calls k a0 a1 t361 t362 true _ A3.out (LaidW.after HLd.out (FB HB.out))).mono ?_); rintro e w6 ⟨v363, rfl, ho0, hb⟩; refine ⟨_, rfl, ?_⟩; have n0_ := Aside0.mk (Kd.R_lower ho0 (below_size (FB HB.out))); have n1_ := Aside0.mk (below_step (FB HB.out) hb); clear HB; have HO364 := n0_; have HB := n1_; clear n0_ n1_; (try clear hb)) | ((with_reducible refine gate_dst (N := 6) rfl ?_); refine box_event ?hg (N := 6) ?hd (cs := #[.int .i64 0, .slice none 0 0]) (t := 84) ?hr ?_; (case hd => rfl); (case hg => rfl); (case hr => first | (go_simp; done) | (go_simp; rfl)); intro gb366 hg w7 hbox hb; have n0_ := Aside0.mk (Kd.R_below (Kd.R_elderB (FR HO364.out) gb366 (Nat.le_of_eq hg.symm)) hb); have n1_ := Aside0.mk (below_step (FB HB.out) hb); have n2_ := Aside0.mk (hbox); have n3_ := Aside0.mk ((by rw [hg]; exact (below_size (FB HB.out)) : w.heap.size ≤ gb366)); have n4_ := Aside0.mk ((by rw [hg]; exact (below_size (FB HB.out)) : w.heap.size ≤ gb366)); clear HO364; clear HB; have HO364 := n0_; have HB := n1_; have BK366 := n2_; have GW366 := n3_; have GE366 := n4_; clear n0_ n1_ n2_ n3_ n4_; clear hb hbox hg; have hcz8_0 : w7.cell? ⟨gb366, 0, none⟩ = some (.int .i64 0) := (blk_cell BK366.out 0).trans rfl; have hcz8_1 : w7.cell? ⟨gb366, 1, none⟩ = some (.slice none 0 0) := (blk_cell BK366.out 1).trans rfl; have hfz8_0 := blk_frozen BK366.out 0; have hfz8_1 := blk_frozen BK366.out 1; obtain ⟨Ao9, co9, eo9⟩ := Kd.R_slice HO364.out; subst eo9) | ((with_reducible refine gate_store (t := 84) (p := 6) rfl ?_); refine store_event (t := 84) (p := 6) (v := ?vo_w10) (w1 := ((w7.setCell ⟨gb366, 0, none⟩ (.int .i64 t361)).setCell ⟨gb366, 1, none⟩ (.slice Ao9 t362.length co9))) ?hg ?ho ?hn ?hr ?_; (case ho => rfl); (case hg => rfl); (case hn => rfl); (case hr => first | (go_simp; done) | (go_simp; rfl)); intro w10 hw; have n0_ : Aside0 (Kd.R k84 84 w10 w.heap.size (fun k_ => k_ ≠ gb366) (.slice Ao9 t362.length co9) t362) := ⟨(by rw [hw]; exact (FR (Kd.R_mono (Kd.R_far (p := ⟨gb366, 1, none⟩) (Kd.R_far (p := ⟨gb366, 0, none⟩) (Kd.R_mono HO364.out (fun k_ hk => (⟨hk, hk.2⟩ : _ ∧ k_ ≠ gb366))) (fun _ hk => hk.2) (.int .i64 t361)) (fun _ hk => hk.2) (.slice Ao9 t362.length co9)) (fun _ hk => hk.1.2))))⟩; have n1_ : Aside0 (w10.heap[gb366]? = some (.cells #[.int .i64 t361, .slice Ao9 t362.length co9] 84 (0, 0))) := ⟨(by rw [hw]; exact (by (with_reducible repeat (first | refine blk_drewN ?_ _ | refine blk_drew ?_ | refine blk_alloc ?_ _)); refine blk_put (cs := #[.int .i64 t361, .slice none 0 0]) ?_ 1 _ rfl; (with_reducible repeat (first | refine blk_drewN ?_ _ | refine blk_drew ?_ | refine blk_alloc ?_ _)); refine blk_put (cs := #[.int .i64 0, .slice none 0 0]) ?_ 0 _ rfl; (with_reducible repeat (first | refine blk_drewN ?_ _ | refine blk_drew ?_ | refine blk_alloc ?_ _)); exact BK366.out))⟩; have n2_ : Aside0 (Below w.heap.size w w10) := ⟨(by rw [hw]; exact (by repeat (first | (with_reducible first | exact HB.out | apply below_alloc | apply pw_below_drewN | apply below_drew1 | refine below_set ?_ GE366.out) | exact HB.out)))⟩; clear hw; clear HO364; clear BK366; clear HB; have HO364 := n0_; have BK366 := n1_; have HB := n2_; clear n0_ n1_ n2_; have hcz11_0 : w10.cell? ⟨gb366, 0, none⟩ = some (.int .i64 t361) := (blk_cell BK366.out 0).trans rfl; have hcz11_1 : w10.cell? ⟨gb366, 1, none⟩ = some (.slice Ao9 t362.length co9) := (blk_cell BK366.out 1).trans rfl; have hfz11_0 := blk_frozen BK366.out 0; have hfz11_1 := blk_frozen BK366.out 1) | ((with_reducible refine gate_callee (f := 110) rfl ?_); refine goesL_ (some 18) rfl rfl Tryd.func110 (by kernel_rfl) rfl #[.agg #[.int .i64 t361, .slice Ao9 t362.length co9], .int .i64 a1] rfl (by (try simp only [List.map_toArray, List.map_cons, List.map_nil]); first | done | rfl | (simp only [List.length_drop, List.length_take]; rfl)) ?_; (with_reducible refine (impl_shapeOf.calls k t361 (fun k_ => k_ ≠ gb366) _ _ t362 a1 t367 t370 _ ?side1 A5.out).mono ?_); (case side1 => exact Kd.R_V (HO364.out)); rintro e w12 ⟨v368, rfl, ho0, hb⟩; refine ⟨_, rfl, ?_⟩; have n0_ := Aside0.mk (Kd.R_below (FR HO364.out) hb); have n1_ := Aside0.mk (Kd.R_lower (Kd.R_mono (ok' := fun k_ => True) ho0 (fun _ hk_ => trivial)) (below_size (by repeat (first | (with_reducible first | exact HB.out | apply below_alloc | apply pw_below_drewN | apply below_drew1 | refine below_set ?_ GE366.out) | exact HB.out)))); have n2_ := Aside0.mk (blk_below (g := gb366) (o := .cells #[.int .i64 t361, .slice Ao9 t362.length co9] 84 (0, 0)) (FK BK366.out) hb); have n3_ := Aside0.mk (below_step (by repeat (first | (with_reducible first | exact HB.out | apply below_alloc | apply pw_below_drewN | apply below_drew1 | refine below_set ?_ GE366.out) | exact HB.out)) hb); clear HO364; clear BK366; clear HB; have HO364 := n0_; have HO369 := n1_; have BK366 := n2_; have HB := n3_; clear n0_ n1_ n2_ n3_; (try clear hb)))
   go_ret2
   exact ⟨_, by first | rfl | (simp [errW_none, errW_some] <;> rfl) | (simp [*, errW_none, errW_some] <;> rfl), (FR HO369.out), by repeat (first | (with_reducible first | exact HB.out | apply below_alloc | apply pw_below_drewN | apply below_drew1 | refine below_set ?_ GE366.out) | exact HB.out)⟩
 · replace c4 := Bool.eq_false_iff.mpr c4
   subst c4
   have H1 : (some (([] : List Int), false)) = some (r1, r2) := by rw [if_neg (show ¬ (false = true) by decide)] at H; exact H
   clear H
   have H := H1
   clear H1
   simp only [Option.some.injEq, Prod.mk.injEq] at H
   obtain ⟨rfl, rfl⟩ := H
   go_enter Tryd.func65, Tryd.ntmps65
   go_wp2_with (first | ((with_reducible refine gate_callee (f := 80) rfl ?_); refine goesL_ (some 11) rfl rfl Tryd.func80 (by kernel_rfl) rfl #[.string a0, .int .i64 a1] rfl (by (try simp only [List.map_toArray, List.map_cons, List.map_nil]); first | done | rfl | (simp only [List.length_drop, List.length_take]; rfl)) ?_; (with_reducible refine (impl_arrOf.calls k a0 a1 t361 t362 false _ A3.out (LaidW.after HLd.out (FB HB.out))).mono ?_); rintro e w13 ⟨v363, rfl, ho0, hb⟩; refine ⟨_, rfl, ?_⟩; have n0_ := Aside0.mk (Kd.R_lower ho0 (below_size (FB HB.out))); have n1_ := Aside0.mk (below_step (FB HB.out) hb); clear HB; have HO364 := n0_; have HB := n1_; clear n0_ n1_; (try clear hb)) | ((with_reducible refine gate_dst (N := 6) rfl ?_); refine box_event ?hg (N := 6) ?hd (cs := #[.int .i64 0, .slice none 0 0]) (t := 84) ?hr ?_; (case hd => rfl); (case hg => rfl); (case hr => first | (go_simp; done) | (go_simp; rfl)); intro gb366 hg w14 hbox hb; have n0_ := Aside0.mk (Kd.R_below (Kd.R_elderB (FR HO364.out) gb366 (Nat.le_of_eq hg.symm)) hb); have n1_ := Aside0.mk (below_step (FB HB.out) hb); have n2_ := Aside0.mk (hbox); have n3_ := Aside0.mk ((by rw [hg]; exact (below_size (FB HB.out)) : w.heap.size ≤ gb366)); have n4_ := Aside0.mk ((by rw [hg]; exact (below_size (FB HB.out)) : w.heap.size ≤ gb366)); clear HO364; clear HB; have HO364 := n0_; have HB := n1_; have BK366 := n2_; have GW366 := n3_; have GE366 := n4_; clear n0_ n1_ n2_ n3_ n4_; clear hb hbox hg; have hcz15_0 : w14.cell? ⟨gb366, 0, none⟩ = some (.int .i64 0) := (blk_cell BK366.out 0).trans rfl; have hcz15_1 : w14.cell? ⟨gb366, 1, none⟩ = some (.slice none 0 0) := (blk_cell BK366.out 1).trans rfl; have hfz15_0 := blk_frozen BK366.out 0; have hfz15_1 := blk_frozen BK366.out 1; obtain ⟨Ao16, co16, eo16⟩ := Kd.R_slice HO364.out; subst eo16))
   go_ret2
   exact ⟨_, by first | rfl | (simp [errW_none, errW_some] <;> rfl) | (simp [*, errW_none, errW_some] <;> rfl), by first | exact Kd.R_nil _ _ _ _ _ | exact Kd.N_nil _ _ _ _ _ | exact Kd.V_nil _ _ _ _ _ | exact Kd.Q_nil _ _ _ _ _ | exact Kd.S_nil _ _ _ _ _, by repeat (first | (with_reducible first | exact HB.out | apply below_alloc | apply pw_below_drewN | apply below_drew1 | refine below_set ?_ GE366.out) | exact HB.out)⟩

/-! ### impl_arr_numbers: function 96 -/
mutual
def impl_arr_numbers.l0 : Nat → Int → List Int → List (S84) → Int → Int → Option (List Int)
 | 0, _, _, _, _, _ => none
 | k + 1, x1, x5, x15, x16, x17 => if x17 < x16 then (if 0 ≤ x17 then (if x17 < (x15.length : Int) then ((impl_arr_numbers.f k ((rd_T84 x15 x17).f0) ((rd_T84 x15 x17).f1) (wrap64 (x1 - 1))).bind fun t380 => (if x5.length + t380.length < 17592186044416 then (impl_arr_numbers.l0 k x1 (x5 ++ t380) x15 x16 (wrap64 (x17 + 1))) else (none))) else (none)) else (none)) else (some x5)
def impl_arr_numbers.f : Nat → Int → List (S84) → Int → Option (List Int)
 | 0, _, _, _ => none
 | k + 1, a0_0, l0_1, a1 => if a1 = 0 then (some (([a0_0] : List Int))) else (impl_arr_numbers.l0 k a1 (([] : List Int)) l0_1 (l0_1.length : Int) 0)
end
theorem impl_arr_numbers.mono_l : ∀ k, (∀ y0 y1 y2, LeO (impl_arr_numbers.f k y0 y1 y2) (impl_arr_numbers.f (k + 1) y0 y1 y2)) ∧ (∀ y0 y1 y2 y3 y4, LeO (impl_arr_numbers.l0 k y0 y1 y2 y3 y4) (impl_arr_numbers.l0 (k + 1) y0 y1 y2 y3 y4))
 | 0 => ⟨fun _ _ _ r h => by simp [impl_arr_numbers.f] at h, fun _ _ _ _ _ r h => by simp [impl_arr_numbers.l0] at h⟩
 | k + 1 => by
   obtain ⟨ih0, ih1⟩ := impl_arr_numbers.mono_l k
   refine ⟨?_, ?_⟩
   · intro y0 y1 y2
     unfold impl_arr_numbers.f
     repeat' first
     | (with_reducible exact ih0 _ _ _)
     | (with_reducible exact ih1 _ _ _ _ _)
     | (with_reducible exact LeO.refl _)
     | (with_reducible exact LeO.none _)
     | (with_reducible refine LeO.ite ?_ ?_)
     | (with_reducible refine LeO.bind ?_ (fun _ => ?_))
     | exact ih0 _ _ _
     | exact ih1 _ _ _ _ _
     | exact LeO.none _
     | refine LeO.ite ?_ ?_
     | refine LeO.bind ?_ (fun _ => ?_)
   · intro y0 y1 y2 y3 y4
     unfold impl_arr_numbers.l0
     repeat' first
     | (with_reducible exact ih0 _ _ _)
     | (with_reducible exact ih1 _ _ _ _ _)
     | (with_reducible exact LeO.refl _)
     | (with_reducible exact LeO.none _)
     | (with_reducible refine LeO.ite ?_ ?_)
     | (with_reducible refine LeO.bind ?_ (fun _ => ?_))
     | exact ih0 _ _ _
     | exact ih1 _ _ _ _ _
     | exact LeO.none _
     | refine LeO.ite ?_ ?_
     | refine LeO.bind ?_ (fun _ => ?_)
theorem impl_arr_numbers.mono : ∀ a0 a1 a2 k, LeO (impl_arr_numbers.f k a0 a1 a2) (impl_arr_numbers.f (k + 1) a0 a1 a2) := by
 intro a0 a1 a2 k
 obtain ⟨ih0, ih1⟩ := impl_arr_numbers.mono_l k
 exact ih0 a0 a1 a2
set_option maxHeartbeats 8000000 in
set_option maxRecDepth 100000 in
theorem impl_arr_numbers.calls (k : Nat) : ∀ (a0_0 : Int) (A0_1 : Option Addr) (c0_1 : Nat) (l0_1 : List (S84)) (a1 : Int) (r : List Int) (w : World) (hr0_1 : Kd.C k84 w A0_1 l0_1.length l0_1) (hc0_1 : l0_1.length ≤ c0_1) (h : impl_arr_numbers.f k a0_0 l0_1 a1 = some r),
   Calls Tryd.prog 96 #[.agg #[.int .i64 a0_0, .slice A0_1 l0_1.length c0_1], .int .i64 a1] w fun e w' => ∃ v0_ : Value, e = .returned (v0_) ∧ Kd.R (Kd.int .i64) 3 w' w.heap.size (fun _ => True) v0_ r ∧ Below w.heap.size w w' := by
 induction k using Nat.strongRecOn with
 | _ k ih =>
 intro a0_0 A0_1 c0_1 l0_1 a1 r w hr0_1 hc0_1 h
 cases k with
 | zero => exact absurd h (by simp [impl_arr_numbers.f])
 | succ k =>
 simp only [impl_arr_numbers.f] at h
 have hu84 := Tryd.underlying84
 have HR0_1 := Aside0.mk hr0_1
 have HC0_1 := Aside0.mk hc0_1
 clear hr0_1 hc0_1
 have HB := Aside0.mk (Below.refl w.heap.size w)
 have H : (if a1 = 0 then (some (([a0_0] : List Int))) else (impl_arr_numbers.l0 k a1 (([] : List Int)) l0_1 (l0_1.length : Int) 0)) = some r := h
 clear h
 by_cases c3 : a1 = 0
 · rw [if_pos c3] at H
   have c3b0 : (a1 == 0) = true := beq_iff_eq.mpr c3
   have c3b1 : (a1 != 0) = false := bne_eq_false_iff_eq.mpr c3
   clear c3
   obtain ⟨y372, hy372⟩ : ∃ y_ : List Int, y_ = (([a0_0] : List Int)) := ⟨_, rfl⟩
   replace H : (some y372) = some r := by first | (rw [hy372]; with_reducible exact H) | (have H2_ := (Option.bind_some _ _).symm.trans H; rw [hy372]; with_reducible exact H2_) | (have H2_ := (Option.bind_some _ _).symm.trans H; with_reducible exact H2_) | with_reducible exact H | (rw [hy372]; exact H) | exact H
   have Ny372 := Aside0.mk hy372
   clear hy372
   obtain rfl := Option.some.inj H
   go_enter Tryd.func96, Tryd.ntmps96
   go_wp2_with (first | ((with_reducible refine gate_dst (N := 2) rfl ?_); refine box_event ?hg (N := 2) ?hd (cs := #[.int .i64 a0_0, .slice A0_1 l0_1.length c0_1]) (t := 84) ?hr ?_; (case hd => rfl); (case hg => rfl); (case hr => first | (go_simp; done) | (go_simp; rfl)); intro gb371 hg w4 hbox hb; have n0_ := Aside0.mk (below_step (FB HB.out) hb); have n1_ := Aside0.mk (hbox); have n2_ := Aside0.mk ((by rw [hg]; exact (below_size (FB HB.out)) : w.heap.size ≤ gb371)); have n3_ := Aside0.mk ((by rw [hg]; exact (below_size (FB HB.out)) : w.heap.size ≤ gb371)); clear HB; have HB := n0_; have BK371 := n1_; have GW371 := n2_; have GE371 := n3_; clear n0_ n1_ n2_ n3_; clear hb hbox hg; have hcz5_0 : w4.cell? ⟨gb371, 0, none⟩ = some (.int .i64 a0_0) := (blk_cell BK371.out 0).trans rfl; have hcz5_1 : w4.cell? ⟨gb371, 1, none⟩ = some (.slice A0_1 l0_1.length c0_1) := (blk_cell BK371.out 1).trans rfl; have hfz5_0 := blk_frozen BK371.out 0; have hfz5_1 := blk_frozen BK371.out 1) | ((with_reducible refine gate_dst (N := 12) rfl ?_); refine Kd.R_lit (Kd.int .i64) _ 3 ?hg (N := 12) ?hd (xs := ([a0_0] : List Int)) (inner := [.int .i64 a0_0]) (ok := fun _ => True) (okp := fun _ => True) ?hr ?hp (fun _ hk => hk) trivial (Below.refl _ _) (Nat.le_refl _) (by simp) ?_; (case hd => rfl); (case hg => rfl); (case hr => first | (go_simp; done) | (go_simp; rfl)); (case hp => exact (Reps.one (show Kd.M (Kd.int .i64) _ _ _ a0_0 [.int .i64 a0_0] from rfl) (Reps.none _ _))); intro v373 w6 ho7 hb hg_ hnew_; clear hg_ hnew_; (first | rw [← Ny372.out] at ho7 | (simp only [Int.reduceToNat] at ho7; rw [← Ny372.out] at ho7)); have n0_ := Aside0.mk (Kd.R_lower ho7 (below_size (by repeat (first | (with_reducible first | exact HB.out | apply below_alloc | apply pw_below_drewN | apply below_drew1 | refine below_set ?_ GE371.out) | exact HB.out)))); have n1_ := Aside0.mk (blk_below (g := gb371) (o := .cells #[.int .i64 a0_0, .slice A0_1 l0_1.length c0_1] 84 (0, 0)) (FK BK371.out) hb); have n2_ := Aside0.mk (below_step (by repeat (first | (with_reducible first | exact HB.out | apply below_alloc | apply pw_below_drewN | apply below_drew1 | refine below_set ?_ GE371.out) | exact HB.out)) hb); clear BK371; clear HB; have HO374 := n0_; have BK371 := n1_; have HB := n2_; clear n0_ n1_ n2_; clear hb ho7))
   go_ret
   exact ⟨_, by first | rfl | (simp [errW_none, errW_some] <;> rfl) | (simp [*, errW_none, errW_some] <;> rfl), (FR HO374.out), by repeat (first | (with_reducible first | exact HB.out | apply below_alloc | apply pw_below_drewN | apply below_drew1 | refine below_set ?_ GE371.out) | exact HB.out)⟩
 · rw [if_neg c3] at H
   have c3b0 : (a1 == 0) = false := beq_eq_false_iff_ne.mpr c3
   have c3b1 : (a1 != 0) = true := bne_iff_ne.mpr c3
   obtain ⟨y375, hy375⟩ : ∃ y_ : List Int, y_ = (([] : List Int)) := ⟨_, rfl⟩
   replace H : (impl_arr_numbers.l0 k a1 y375 l0_1 (l0_1.length : Int) 0) = some r := by first | (rw [hy375]; with_reducible exact H) | (have H2_ := (Option.bind_some _ _).symm.trans H; rw [hy375]; with_reducible exact H2_) | (have H2_ := (Option.bind_some _ _).symm.trans H; with_reducible exact H2_) | with_reducible exact H | (rw [hy375]; exact H) | exact H
   have Ny375 := Aside0.mk hy375
   clear hy375
   have H' := Aside0.mk H
   clear H
   go_enter Tryd.func96, Tryd.ntmps96
   go_wp2_with (first | ((with_reducible refine gate_dst (N := 2) rfl ?_); refine box_event ?hg (N := 2) ?hd (cs := #[.int .i64 a0_0, .slice A0_1 l0_1.length c0_1]) (t := 84) ?hr ?_; (case hd => rfl); (case hg => rfl); (case hr => first | (go_simp; done) | (go_simp; rfl)); intro gb371 hg w8 hbox hb; have n0_ := Aside0.mk (below_step (FB HB.out) hb); have n1_ := Aside0.mk (hbox); have n2_ := Aside0.mk ((by rw [hg]; exact (below_size (FB HB.out)) : w.heap.size ≤ gb371)); have n3_ := Aside0.mk ((by rw [hg]; exact (below_size (FB HB.out)) : w.heap.size ≤ gb371)); clear HB; have HB := n0_; have BK371 := n1_; have GW371 := n2_; have GE371 := n3_; clear n0_ n1_ n2_ n3_; clear hb hbox hg) | ((with_reducible refine gate_dst (N := 13) rfl ?_); refine Kd.R_lit (Kd.int .i64) _ 3 ?hg (N := 13) ?hd (xs := ([] : List Int)) (inner := []) (ok := fun _ => True) (okp := fun _ => True) ?hr ?hp (fun _ hk => hk) trivial (Below.refl _ _) (Nat.le_refl _) (by simp) ?_; (case hd => rfl); (case hg => rfl); (case hr => first | (go_simp; done) | (go_simp; rfl)); (case hp => exact (Reps.none _ _)); intro v376 w9 ho10 hb hg_ hnew_; clear hg_ hnew_; (first | rw [← Ny375.out] at ho10 | (simp only [Int.reduceToNat] at ho10; rw [← Ny375.out] at ho10)); have n0_ := Aside0.mk (Kd.R_lower ho10 (below_size (by repeat (first | (with_reducible first | exact HB.out | apply below_alloc | apply pw_below_drewN | apply below_drew1 | refine below_set ?_ GE371.out) | exact HB.out)))); have n1_ := Aside0.mk (blk_below (g := gb371) (o := .cells #[.int .i64 a0_0, .slice A0_1 l0_1.length c0_1] 84 (0, 0)) (FK BK371.out) hb); have n2_ := Aside0.mk (below_step (by repeat (first | (with_reducible first | exact HB.out | apply below_alloc | apply pw_below_drewN | apply below_drew1 | refine below_set ?_ GE371.out) | exact HB.out)) hb); clear BK371; clear HB; have HO377 := n0_; have BK371 := n1_; have HB := n2_; clear n0_ n1_ n2_; clear hb ho10; have hcz11_0 : w9.cell? ⟨gb371, 0, none⟩ = some (.int .i64 a0_0) := (blk_cell BK371.out 0).trans rfl; have hcz11_1 : w9.cell? ⟨gb371, 1, none⟩ = some (.slice A0_1 l0_1.length c0_1) := (blk_cell BK371.out 1).trans rfl; have hfz11_0 := blk_frozen BK371.out 0; have hfz11_1 := blk_frozen BK371.out 1))
   go_loopg [5, 17] k (fun kq v5 v17 w' => ∃ (x5_1 : List Int) (x17_1 : Int), v17 = .int .i64 x17_1 ∧ Aside0 (impl_arr_numbers.l0 kq a1 x5_1 l0_1 (l0_1.length : Int) x17_1 = some r) ∧ Aside0 (kq ≤ k) ∧ Aside0 (Kd.R (Kd.int .i64) 3 w' w.heap.size (fun _ => True) v5 x5_1) ∧ Aside0 (w'.heap[gb371]? = some (.cells #[.int .i64 a0_0, (.slice A0_1 l0_1.length c0_1)] 84 (0, 0))) ∧ Aside0 (Below w.heap.size w w'))
   case atStart => exact ⟨(y375), (0), (by first | rfl | (simp; done) | (simp [*]; done)), H', ⟨Nat.le_refl _⟩, ⟨(FR HO377.out)⟩, ⟨(FK BK371.out)⟩, ⟨by repeat (first | (with_reducible first | exact HB.out | apply below_alloc | apply pw_below_drewN | apply below_drew1 | refine below_set ?_ GE371.out) | exact HB.out)⟩⟩
   case round =>
     clear H'
     (try clear p2); (try clear c3); (try clear c3b0); (try clear c3b1); (try clear c9); (try clear hcz11_0); (try clear hcz11_1); (try clear hcz5_0); (try clear hcz5_1); (try clear hfz11_0); (try clear hfz11_1); (try clear hfz5_0); (try clear hfz5_1)
     obtain ⟨x5_1, x17_1, rfl, HA, HK1, HO_5, BK371, HB⟩ := hrel
     cases gk with
     | zero => exact absurd HA.out (by simp [impl_arr_numbers.l0])
     | succ k1 =>
       have H := HA.out
       clear HA
       simp only [impl_arr_numbers.l0] at H
       by_cases c12 : x17_1 < (l0_1.length : Int)
       · rw [if_pos c12] at H
         have c12b0 : decide (x17_1 < (l0_1.length : Int)) = true := decide_eq_true c12
         clear c12
         by_cases c13 : 0 ≤ x17_1
         · rw [if_pos c13] at H
           have c13b0 : decide (0 ≤ x17_1) = true := decide_eq_true c13
           clear c13
           by_cases c14 : x17_1 < (l0_1.length : Int)
           · rw [if_pos c14] at H
             have c14b0 : decide (x17_1 < (l0_1.length : Int)) = true := decide_eq_true c14
             clear c14
             replace H := Option.bind_eq_some_iff.mp H
             obtain ⟨t380, A150, H⟩ := H
             replace H : (if x5_1.length + t380.length < 17592186044416 then (impl_arr_numbers.l0 k1 a1 (x5_1 ++ t380) l0_1 (l0_1.length : Int) (wrap64 (x17_1 + 1))) else (none)) = some r := H
             have A15 := Aside0.mk A150
             clear A150
             by_cases c16 : x5_1.length + t380.length < 17592186044416
             · rw [if_pos c16] at H
               have LMc16 := Aside0.mk c16
               clear c16
               obtain ⟨y383, hy383⟩ : ∃ y_ : List Int, y_ = (x5_1 ++ t380) := ⟨_, rfl⟩
               replace H : (impl_arr_numbers.l0 k1 a1 y383 l0_1 (l0_1.length : Int) (wrap64 (x17_1 + 1))) = some r := by first | (rw [hy383]; with_reducible exact H) | (have H2_ := (Option.bind_some _ _).symm.trans H; rw [hy383]; with_reducible exact H2_) | (have H2_ := (Option.bind_some _ _).symm.trans H; with_reducible exact H2_) | with_reducible exact H | (rw [hy383]; exact H) | exact H
               have Ny383 := Aside0.mk hy383
               clear hy383
               have H' := Aside0.mk H
               clear H
               have p378 : 0 ≤ (x17_1 : Int) := of_decide_eq_true (by assumption)
               have q378 : x17_1 < (l0_1.length : Int) := of_decide_eq_true (by assumption)
               obtain ⟨ad378, A378_1, c378_1, e378, hx378_0, hx378_1, hl378_1, hi378_1⟩ := at_T84 HR0_1.out x17_1 p378 q378
               cases e378
               (try replace hx378_0 := (HB.out.cell (World.block_lt_of_cell? w _ hx378_0)).trans hx378_0)
               (try replace hx378_1 := (HB.out.cell (World.block_lt_of_cell? w _ hx378_1)).trans hx378_1)
               have HR378_1 := Aside0.mk hi378_1
               have HC378_1 := Aside0.mk hl378_1
               clear hi378_1 hl378_1
               replace p378 := eq_true p378
               replace q378 := eq_true q378
               go_wp2_with (first | ((with_reducible refine gate_dst (N := 7) rfl ?_); refine box_event ?hg (N := 7) ?hd (cs := #[.int .i64 0, .slice none 0 0]) (t := 84) ?hr ?_; (case hd => rfl); (case hg => rfl); (case hr => first | (go_simp; done) | (go_simp; rfl)); intro gb379 hg w17 hbox hb; have n0_ := Aside0.mk (Kd.R_below (FR HO_5.out) hb); have n1_ := Aside0.mk (blk_below (g := gb371) (o := .cells #[.int .i64 a0_0, .slice (some ad378) l0_1.length c0_1] 84 (0, 0)) (FK BK371.out) hb); have n2_ := Aside0.mk (below_step (by repeat (first | (with_reducible first | exact HB.out | apply below_alloc | apply pw_below_drewN | apply below_drew1 | refine below_set ?_ GE371.out) | exact HB.out)) hb); have n3_ := Aside0.mk (hbox); have n4_ := Aside0.mk ((by rw [hg]; exact (below_size (by repeat (first | (with_reducible first | exact HB.out | apply below_alloc | apply pw_below_drewN | apply below_drew1 | refine below_set ?_ GE371.out) | exact HB.out))) : w.heap.size ≤ gb379)); have n5_ := Aside0.mk ((by rw [hg]; exact (below_size (by repeat (first | (with_reducible first | exact HB.out | apply below_alloc | apply pw_below_drewN | apply below_drew1 | refine below_set ?_ GE371.out) | exact HB.out))) : w.heap.size ≤ gb379)); have n6_ := Aside0.mk ((by rw [hg]; exact Nat.ne_of_lt (blk_lt (g := gb371) (o := .cells #[.int .i64 a0_0, .slice (some ad378) l0_1.length c0_1] 84 (0, 0)) (FK BK371.out)) : gb371 ≠ gb379)); have n7_ := Aside0.mk ((by rw [hg]; exact Nat.ne_of_gt (blk_lt (g := gb371) (o := .cells #[.int .i64 a0_0, .slice (some ad378) l0_1.length c0_1] 84 (0, 0)) (FK BK371.out)) : gb379 ≠ gb371)); clear HO_5; clear BK371; clear HB; have HO_5 := n0_; have BK371 := n1_; have HB := n2_; have BK379 := n3_; have GW379 := n4_; have GE379 := n5_; have NB371_379 := n6_; have NB379_371 := n7_; clear n0_ n1_ n2_ n3_ n4_ n5_ n6_ n7_; clear hb hbox hg; have hnb18 := NB379_371.out; have hnc18 := NB371_379.out; have hcz19_0 : w17.cell? ⟨gb379, 0, none⟩ = some (.int .i64 0) := (blk_cell BK379.out 0).trans rfl; have hcz19_1 : w17.cell? ⟨gb379, 1, none⟩ = some (.slice none 0 0) := (blk_cell BK379.out 1).trans rfl; have hfz19_0 := blk_frozen BK379.out 0; have hfz19_1 := blk_frozen BK379.out 1) | ((with_reducible refine gate_callee (f := 96) rfl ?_); refine goesL_ (some 25) rfl rfl Tryd.func96 (by kernel_rfl) rfl #[.agg #[.int .i64 ((rd_T84 l0_1 x17_1).f0), .slice A378_1 ((rd_T84 l0_1 x17_1).f1).length c378_1], .int .i64 (wrap64 (a1 - 1))] rfl (by (try simp only [List.map_toArray, List.map_cons, List.map_nil]); first | done | rfl | (simp only [List.length_drop, List.length_take]; rfl)) ?_; (with_reducible refine (ih k1 (by have := HK1.out; omega) ((rd_T84 l0_1 x17_1).f0) _ _ ((rd_T84 l0_1 x17_1).f1) (wrap64 (a1 - 1)) t380 _ ?side1 ?side2 A15.out).mono ?_); (case side1 => exact Kd.C_below HR378_1.out (by repeat (first | (with_reducible first | exact HB.out | apply below_alloc | apply pw_below_drewN | apply below_drew1 | refine below_set ?_ GE371.out | refine below_set ?_ GE379.out) | exact HB.out))); (case side2 => exact HC378_1.out); rintro e w20 ⟨v381, rfl, ho0, hb⟩; refine ⟨_, rfl, ?_⟩; have n0_ := Aside0.mk (Kd.R_elder' (FR ((Kd.R_mono (Kd.R_far (p := ⟨gb379, 1, none⟩) (Kd.R_far (p := ⟨gb379, 0, none⟩) (Kd.R_types HO_5.out BK379.out (by decide)) (fun _ hk => hk.2) (.int .i64 ((rd_T84 l0_1 x17_1).f0))) (fun _ hk => hk.2) (.slice A378_1 ((rd_T84 l0_1 x17_1).f1).length c378_1)) (fun _ h_ => h_.1)))) (Kd.R_base ho0) hb); have n1_ := Aside0.mk (Kd.R_lower (Kd.R_new' ho0 (Kd.R_lt (FR ((Kd.R_mono (Kd.R_far (p := ⟨gb379, 1, none⟩) (Kd.R_far (p := ⟨gb379, 0, none⟩) (Kd.R_types HO_5.out BK379.out (by decide)) (fun _ hk => hk.2) (.int .i64 ((rd_T84 l0_1 x17_1).f0))) (fun _ hk => hk.2) (.slice A378_1 ((rd_T84 l0_1 x17_1).f1).length c378_1)) (fun _ h_ => h_.1)))))) (below_size (by repeat (first | (with_reducible first | exact HB.out | apply below_alloc | apply pw_below_drewN | apply below_drew1 | refine below_set ?_ GE371.out | refine below_set ?_ GE379.out) | exact HB.out)))); have n2_ := Aside0.mk (blk_below (g := gb371) (o := .cells #[.int .i64 a0_0, .slice (some ad378) l0_1.length c0_1] 84 (0, 0)) (by (with_reducible repeat (first | refine blk_drewN ?_ _ | refine blk_drew ?_ | refine blk_alloc ?_ _)); refine blk_far ?_ NB371_379.out _; (with_reducible repeat (first | refine blk_drewN ?_ _ | refine blk_drew ?_ | refine blk_alloc ?_ _)); refine blk_far ?_ NB371_379.out _; (with_reducible repeat (first | refine blk_drewN ?_ _ | refine blk_drew ?_ | refine blk_alloc ?_ _)); exact BK371.out) hb); have n3_ := Aside0.mk (blk_below (g := gb379) (o := .cells #[.int .i64 ((rd_T84 l0_1 x17_1).f0), .slice A378_1 ((rd_T84 l0_1 x17_1).f1).length c378_1] 84 (0, 0)) (by (with_reducible repeat (first | refine blk_drewN ?_ _ | refine blk_drew ?_ | refine blk_alloc ?_ _)); refine blk_put (cs := #[.int .i64 ((rd_T84 l0_1 x17_1).f0), .slice none 0 0]) ?_ 1 _ rfl; (with_reducible repeat (first | refine blk_drewN ?_ _ | refine blk_drew ?_ | refine blk_alloc ?_ _)); refine blk_put (cs := #[.int .i64 0, .slice none 0 0]) ?_ 0 _ rfl; (with_reducible repeat (first | refine blk_drewN ?_ _ | refine blk_drew ?_ | refine blk_alloc ?_ _)); exact BK379.out) hb); have n4_ := Aside0.mk (below_step (by repeat (first | (with_reducible first | exact HB.out | apply below_alloc | apply pw_below_drewN | apply below_drew1 | refine below_set ?_ GE371.out | refine below_set ?_ GE379.out) | exact HB.out)) hb); clear HO_5; clear BK371; clear BK379; clear HB; have HO_5 := n0_; have HO382 := n1_; have BK371 := n2_; have BK379 := n3_; have HB := n4_; clear n0_ n1_ n2_ n3_ n4_; (try clear hb); obtain ⟨Ao22, co22, eo22⟩ := Kd.R_slice HO382.out; subst eo22) | ((with_reducible refine gate_builtin (b := .append) (xs := #[.tmp 21, .tmp 25]) rfl ?_); at_builtin; refine Kd.R_append_rows (Kd.int .i64) (w0 := w) w.heap.size rfl (.tmp 21) (.tmp 25) 22 3 (.int .i64 0) 8 rfl Tryd.underlying22 info3 rfl (by decide) (by omega) u5 x5_1 t380 _ _ _ (fun k_ => some k_ ≠ (.slice Ao22 t380.length co22 : Value).ownBlock) (fun _ => False) rfl rfl ?aO ?aR (fun _ _ h => h) (fun _ h => h.elim) ?aF ?aB ?aS ?aL ?_; (case aR => repeat (first | exact (Kd.R_reads' HO382.out).2.2 | (with_reducible refine Kd.C_alloc ?_ _) | (with_reducible refine Kd.C_drewN ?_ _) | (with_reducible refine Kd.C_drew ?_))); (case aB => exact (by repeat (first | (with_reducible first | exact HB.out | apply below_alloc | apply pw_below_drewN | apply below_drew1 | refine below_set ?_ GE371.out | refine below_set ?_ GE379.out) | exact HB.out))); (case aF => exact (fun k_ hk => Kd.fresh' (Kd.R_lt (FR HO382.out)) k_ hk)); (case aO => exact (FR (Kd.R_mono HO_5.out (fun _ hk => hk.2)))); (case aS => exact (below_size (by repeat (first | (with_reducible first | exact HB.out | apply below_alloc | apply pw_below_drewN | apply below_drew1 | refine below_set ?_ GE371.out | refine below_set ?_ GE379.out) | exact HB.out)))); (case aL => have := LMc16.out; omega); intro v384 w21 ho hb hg hat; rw [← Ny383.out] at ho; have n0_ := Aside0.mk (blk_grown (g := gb371) (o := .cells #[.int .i64 a0_0, .slice (some ad378) l0_1.length c0_1] 84 (0, 0)) (FK BK371.out) hg (Kd.R_ne HO_5.out BK371.out (by decide))); have n1_ := Aside0.mk (blk_grown (g := gb379) (o := .cells #[.int .i64 ((rd_T84 l0_1 x17_1).f0), .slice A378_1 ((rd_T84 l0_1 x17_1).f1).length c378_1] 84 (0, 0)) (FK BK379.out) hg (Kd.R_ne HO_5.out BK379.out (by decide))); have n2_ := Aside0.mk (Kd.R_after (ok := (fun _ => True)) (FR HO382.out) hg hat); have n3_ := Aside0.mk (hb); have n4_ := Aside0.mk (ho); clear BK371; clear BK379; clear HO382; clear HB; clear HO_5; have BK371 := n0_; have BK379 := n1_; have HO382 := n2_; have HB := n3_; have HO385 := n4_; clear n0_ n1_ n2_ n3_ n4_; clear ho hb hg hat))
               go_roundg k1
               case measure => have := HK1.out; omega
               case rel => exact ⟨(y383), (wrap64 (x17_1 + 1)), (by first | rfl | (simp; done) | (simp [*]; done)), H', ⟨by have := HK1.out; omega⟩, ⟨(FR (Kd.R_mono HO385.out (fun _ hk => trivial)))⟩, ⟨(FK BK371.out)⟩, ⟨by repeat (first | (with_reducible first | exact HB.out | apply below_alloc | apply pw_below_drewN | apply below_drew1 | refine below_set ?_ GE371.out | refine below_set ?_ GE379.out) | exact HB.out)⟩⟩
             · rw [if_neg c16] at H
               exact absurd H (by simp)
           · rw [if_neg c14] at H
             exact absurd H (by simp)
         · rw [if_neg c13] at H
           exact absurd H (by simp)
       · rw [if_neg c12] at H
         have c12b0 : decide (x17_1 < (l0_1.length : Int)) = false := decide_eq_false c12
         clear c12
         obtain rfl := Option.some.inj H
         go_wp2
         go_ret
         exact ⟨_, by first | rfl | (simp [errW_none, errW_some] <;> rfl) | (simp [*, errW_none, errW_some] <;> rfl), (FR HO_5.out), by repeat (first | (with_reducible first | exact HB.out | apply below_alloc | apply pw_below_drewN | apply below_drew1 | refine below_set ?_ GE371.out) | exact HB.out)⟩

/-! ### impl_rowsOf: function 76 -/
def impl_rowsOf.l0 : Nat → Bool → List (List Int) → List (S84) → Int → Int → Option ((List (List Int)) × Bool)
 | 0, _, _, _, _, _ => none
 | k + 1, x5, x6, x16, x17, x18 => if x18 < x17 then (if 0 ≤ x18 then (if x18 < (x16.length : Int) then ((impl_arr_numbers.f k ((rd_T84 x16 x18).f0) ((rd_T84 x16 x18).f1) 1).bind fun t397 => (if x6.length < 5864062014805 then (impl_rowsOf.l0 k x5 (x6 ++ [t397]) x16 x17 (wrap64 (x18 + 1))) else (none))) else (none)) else (none)) else (some (x6, x5))
def impl_rowsOf.f (k : Nat) (a0 : ByteArray) : Option ((List (List Int)) × Bool) := (impl_arrOf.f k a0 2).bind fun bt386 => (impl_rowsOf.l0 k bt386.2.2 (([] : List (List Int))) bt386.2.1 (bt386.2.1.length : Int) 0)
theorem impl_rowsOf.mono_l : ∀ k, (∀ y0 y1 y2 y3 y4, LeO (impl_rowsOf.l0 k y0 y1 y2 y3 y4) (impl_rowsOf.l0 (k + 1) y0 y1 y2 y3 y4))
 | 0 => fun _ _ _ _ _ r h => by simp [impl_rowsOf.l0] at h
 | k + 1 => by
   have ih0 := impl_rowsOf.mono_l k
   · intro y0 y1 y2 y3 y4
     unfold impl_rowsOf.l0
     repeat' first
     | (with_reducible exact ih0 _ _ _ _ _)
     | (with_reducible exact impl_arrOf.mono _ _ _)
     | (with_reducible exact impl_arr_numbers.mono _ _ _ _)
     | (with_reducible exact LeO.refl _)
     | (with_reducible exact LeO.none _)
     | (with_reducible refine LeO.ite ?_ ?_)
     | (with_reducible refine LeO.bind ?_ (fun _ => ?_))
     | exact ih0 _ _ _ _ _
     | exact impl_arrOf.mono _ _ _
     | exact impl_arr_numbers.mono _ _ _ _
     | exact LeO.none _
     | refine LeO.ite ?_ ?_
     | refine LeO.bind ?_ (fun _ => ?_)
theorem impl_rowsOf.mono : ∀ a0 k, LeO (impl_rowsOf.f k a0) (impl_rowsOf.f (k + 1) a0) := by
 intro a0 k
 have ih0 := impl_rowsOf.mono_l k
 unfold impl_rowsOf.f
 repeat' first
     | (with_reducible exact ih0 _ _ _ _ _)
     | (with_reducible exact impl_arrOf.mono _ _ _)
     | (with_reducible exact impl_arr_numbers.mono _ _ _ _)
     | (with_reducible exact LeO.refl _)
     | (with_reducible exact LeO.none _)
     | (with_reducible refine LeO.ite ?_ ?_)
     | (with_reducible refine LeO.bind ?_ (fun _ => ?_))
     | exact ih0 _ _ _ _ _
     | exact impl_arrOf.mono _ _ _
     | exact impl_arr_numbers.mono _ _ _ _
     | exact LeO.none _
     | refine LeO.ite ?_ ?_
     | refine LeO.bind ?_ (fun _ => ?_)
set_option maxHeartbeats 8000000 in
set_option maxRecDepth 100000 in
theorem impl_rowsOf.calls (k : Nat) (a0 : ByteArray) (r1 : List (List Int)) (r2 : Bool) (w : World) (h : impl_rowsOf.f k a0 = some (r1, r2)) (hL_ : LaidW w) :
   Calls Tryd.prog 76 #[.string a0] w fun e w' => ∃ v0_ : Value, e = .returned (.tuple #[v0_, .bool r2]) ∧ Kd.S (Kd.slice 3 (Kd.int .i64)) 22 w' w.heap.size (fun _ => True) v0_ r1 ∧ Below w.heap.size w w' := by
 have HLd := Aside0.mk hL_
 clear hL_
 have hu84 := Tryd.underlying84
 have HB := Aside0.mk (Below.refl w.heap.size w)
 have H : ((impl_arrOf.f k a0 2).bind fun bt386 => (impl_rowsOf.l0 k bt386.2.2 (([] : List (List Int))) bt386.2.1 (bt386.2.1.length : Int) 0)) = some (r1, r2) := h
 clear h
 replace H := Option.bind_eq_some_iff.mp H
 obtain ⟨⟨t386, t387, t390⟩, A20, H⟩ := H
 replace H : (impl_rowsOf.l0 k t390 (([] : List (List Int))) t387 (t387.length : Int) 0) = some (r1, r2) := H
 have A2 := Aside0.mk A20
 clear A20
 obtain ⟨y392, hy392⟩ : ∃ y_ : List (List Int), y_ = (([] : List (List Int))) := ⟨_, rfl⟩
 replace H : (impl_rowsOf.l0 k t390 y392 t387 (t387.length : Int) 0) = some (r1, r2) := by first | (rw [hy392]; with_reducible exact H) | (have H2_ := (Option.bind_some _ _).symm.trans H; rw [hy392]; with_reducible exact H2_) | (have H2_ := (Option.bind_some _ _).symm.trans H; with_reducible exact H2_) | with_reducible exact H | (rw [hy392]; exact H) | exact H
 have Ny392 := Aside0.mk hy392
 clear hy392
 have H' := Aside0.mk H
 clear H
 go_enter Tryd.func76, Tryd.ntmps76
 go_wp2_with (first | ((with_reducible refine gate_callee (f := 80) rfl ?_); refine goesL_ (some 11) rfl rfl Tryd.func80 (by kernel_rfl) rfl #[.string a0, .int .i64 2] rfl (by (try simp only [List.map_toArray, List.map_cons, List.map_nil]); first | done | rfl | (simp only [List.length_drop, List.length_take]; rfl)) ?_; (with_reducible refine (impl_arrOf.calls k a0 2 t386 t387 t390 _ A2.out (LaidW.after HLd.out (FB HB.out))).mono ?_); rintro e w3 ⟨v388, rfl, ho0, hb⟩; refine ⟨_, rfl, ?_⟩; have n0_ := Aside0.mk (Kd.R_lower ho0 (below_size (FB HB.out))); have n1_ := Aside0.mk (below_step (FB HB.out) hb); clear HB; have HO389 := n0_; have HB := n1_; clear n0_ n1_; (try clear hb)) | ((with_reducible refine gate_dst (N := 4) rfl ?_); refine box_event ?hg (N := 4) ?hd (cs := #[.int .i64 0, .slice none 0 0]) (t := 84) ?hr ?_; (case hd => rfl); (case hg => rfl); (case hr => first | (go_simp; done) | (go_simp; rfl)); intro gb391 hg w4 hbox hb; have n0_ := Aside0.mk (Kd.R_below (Kd.R_elderB (FR HO389.out) gb391 (Nat.le_of_eq hg.symm)) hb); have n1_ := Aside0.mk (below_step (FB HB.out) hb); have n2_ := Aside0.mk (hbox); have n3_ := Aside0.mk ((by rw [hg]; exact (below_size (FB HB.out)) : w.heap.size ≤ gb391)); have n4_ := Aside0.mk ((by rw [hg]; exact (below_size (FB HB.out)) : w.heap.size ≤ gb391)); clear HO389; clear HB; have HO389 := n0_; have HB := n1_; have BK391 := n2_; have GW391 := n3_; have GE391 := n4_; clear n0_ n1_ n2_ n3_ n4_; clear hb hbox hg; have hcz5_0 : w4.cell? ⟨gb391, 0, none⟩ = some (.int .i64 0) := (blk_cell BK391.out 0).trans rfl; have hcz5_1 : w4.cell? ⟨gb391, 1, none⟩ = some (.slice none 0 0) := (blk_cell BK391.out 1).trans rfl; have hfz5_0 := blk_frozen BK391.out 0; have hfz5_1 := blk_frozen BK391.out 1; obtain ⟨Ao6, co6, eo6⟩ := Kd.R_slice HO389.out; subst eo6) | ((with_reducible refine gate_dst (N := 14) rfl ?_); refine Kd.S_lit (Kd.slice 3 (Kd.int .i64)) _ 22 ?hg (N := 14) ?hd (xs := ([] : List (List Int))) (inner := []) (ok := fun _ => True) (okp := fun _ => True) ?hr ?hp (fun _ hk => hk) trivial (Below.refl _ _) (Nat.le_refl _) (by simp) ?_; (case hd => rfl); (case hg => rfl); (case hr => first | (go_simp; done) | (go_simp; rfl)); (case hp => exact (Reps.none _ _)); intro v393 w7 ho8 hb hg_ hnew_; clear hg_ hnew_; (first | rw [← Ny392.out] at ho8 | (simp only [Int.reduceToNat] at ho8; rw [← Ny392.out] at ho8)); have n0_ := Aside0.mk (Kd.R_below (FR ((Kd.R_mono (Kd.R_far (p := ⟨gb391, 1, none⟩) (Kd.R_far (p := ⟨gb391, 0, none⟩) (Kd.R_mono HO389.out (fun k_ hk => (⟨hk, hk.2⟩ : _ ∧ k_ ≠ gb391))) (fun _ hk => hk.2) (.int .i64 t386)) (fun _ hk => hk.2) (.slice Ao6 t387.length co6)) (fun _ h_ => h_.1)))) hb); have n1_ := Aside0.mk (Kd.S_lower ho8 (below_size (by repeat (first | (with_reducible first | exact HB.out | apply below_alloc | apply pw_below_drewN | apply below_drew1 | refine below_set ?_ GE391.out) | exact HB.out)))); have n2_ := Aside0.mk (blk_below (g := gb391) (o := .cells #[.int .i64 t386, .slice Ao6 t387.length co6] 84 (0, 0)) (by (with_reducible repeat (first | refine blk_drewN ?_ _ | refine blk_drew ?_ | refine blk_alloc ?_ _)); refine blk_put (cs := #[.int .i64 t386, .slice none 0 0]) ?_ 1 _ rfl; (with_reducible repeat (first | refine blk_drewN ?_ _ | refine blk_drew ?_ | refine blk_alloc ?_ _)); refine blk_put (cs := #[.int .i64 0, .slice none 0 0]) ?_ 0 _ rfl; (with_reducible repeat (first | refine blk_drewN ?_ _ | refine blk_drew ?_ | refine blk_alloc ?_ _)); exact BK391.out) hb); have n3_ := Aside0.mk (below_step (by repeat (first | (with_reducible first | exact HB.out | apply below_alloc | apply pw_below_drewN | apply below_drew1 | refine below_set ?_ GE391.out) | exact HB.out)) hb); clear HO389; clear BK391; clear HB; have HO389 := n0_; have HO394 := n1_; have BK391 := n2_; have HB := n3_; clear n0_ n1_ n2_ n3_; clear hb ho8; have hcz9_0 : w7.cell? ⟨gb391, 0, none⟩ = some (.int .i64 t386) := (blk_cell BK391.out 0).trans rfl; have hcz9_1 : w7.cell? ⟨gb391, 1, none⟩ = some (.slice Ao6 t387.length co6) := (blk_cell BK391.out 1).trans rfl; have hfz9_0 := blk_frozen BK391.out 0; have hfz9_1 := blk_frozen BK391.out 1))
 go_loopg [6, 18] k (fun kq v6 v18 w' => ∃ (x6_1 : List (List Int)) (x18_1 : Int), v18 = .int .i64 x18_1 ∧ Aside0 (impl_rowsOf.l0 kq t390 x6_1 t387 (t387.length : Int) x18_1 = some (r1, r2)) ∧ Aside0 (kq ≤ k) ∧ Aside0 (Kd.S (Kd.slice 3 (Kd.int .i64)) 22 w' w.heap.size (fun _ => True) v6 x6_1) ∧ Aside0 (Kd.R k84 84 w' w.heap.size (fun k_ => k_ ≠ gb391) (.slice Ao6 t387.length co6) t387) ∧ Aside0 (Kd.R k84 84 w' w.heap.size (fun k_ => k_ ≠ gb391) (.slice Ao6 t387.length co6) t387) ∧ Aside0 (w'.heap[gb391]? = some (.cells #[.int .i64 t386, (.slice Ao6 t387.length co6)] 84 (0, 0))) ∧ Aside0 (Below w.heap.size w w'))
 case atStart => exact ⟨(y392), (0), (by first | rfl | (simp; done) | (simp [*]; done)), H', ⟨Nat.le_refl _⟩, ⟨(FS HO394.out)⟩, ⟨(FR (Kd.R_mono HO389.out (fun _ hk => hk.2)))⟩, ⟨(FR (Kd.R_mono HO389.out (fun _ hk => hk.2)))⟩, ⟨(FK BK391.out)⟩, ⟨by repeat (first | (with_reducible first | exact HB.out | apply below_alloc | apply pw_below_drewN | apply below_drew1 | refine below_set ?_ GE391.out) | exact HB.out)⟩⟩
 case round =>
   clear H'
   (try clear p2); (try clear c7); (try clear c8); (try clear hcz5_0); (try clear hcz5_1); (try clear hcz9_0); (try clear hcz9_1); (try clear hfz5_0); (try clear hfz5_1); (try clear hfz9_0); (try clear hfz9_1)
   obtain ⟨x6_1, x18_1, rfl, HA, HK1, HO_6, HO_16, HO_392001, BK391, HB⟩ := hrel
   cases gk with
   | zero => exact absurd HA.out (by simp [impl_rowsOf.l0])
   | succ k1 =>
     have H := HA.out
     clear HA
     simp only [impl_rowsOf.l0] at H
     by_cases c10 : x18_1 < (t387.length : Int)
     · rw [if_pos c10] at H
       have c10b0 : decide (x18_1 < (t387.length : Int)) = true := decide_eq_true c10
       clear c10
       by_cases c11 : 0 ≤ x18_1
       · rw [if_pos c11] at H
         have c11b0 : decide (0 ≤ x18_1) = true := decide_eq_true c11
         clear c11
         by_cases c12 : x18_1 < (t387.length : Int)
         · rw [if_pos c12] at H
           have c12b0 : decide (x18_1 < (t387.length : Int)) = true := decide_eq_true c12
           clear c12
           replace H := Option.bind_eq_some_iff.mp H
           obtain ⟨t397, A130, H⟩ := H
           replace H : (if x6_1.length < 5864062014805 then (impl_rowsOf.l0 k1 t390 (x6_1 ++ [t397]) t387 (t387.length : Int) (wrap64 (x18_1 + 1))) else (none)) = some (r1, r2) := H
           have A13 := Aside0.mk A130
           clear A130
           by_cases c14 : x6_1.length < 5864062014805
           · rw [if_pos c14] at H
             have LMc14 := Aside0.mk c14
             clear c14
             obtain ⟨y400, hy400⟩ : ∃ y_ : List (List Int), y_ = (x6_1 ++ [t397]) := ⟨_, rfl⟩
             replace H : (impl_rowsOf.l0 k1 t390 y400 t387 (t387.length : Int) (wrap64 (x18_1 + 1))) = some (r1, r2) := by first | (rw [hy400]; with_reducible exact H) | (have H2_ := (Option.bind_some _ _).symm.trans H; rw [hy400]; with_reducible exact H2_) | (have H2_ := (Option.bind_some _ _).symm.trans H; with_reducible exact H2_) | with_reducible exact H | (rw [hy400]; exact H) | exact H
             have Ny400 := Aside0.mk hy400
             clear hy400
             have H' := Aside0.mk H
             clear H
             have p395 : 0 ≤ (x18_1 : Int) := of_decide_eq_true (by assumption)
             have q395 : x18_1 < (t387.length : Int) := of_decide_eq_true (by assumption)
             obtain ⟨ad395, A395_1, c395_1, e395, hx395_0, hx395_1, hl395_1, hi395_1⟩ := at_T84 (Kd.R_reads' HO_16.out).2.2 x18_1 p395 q395
             cases e395
             obtain ⟨ce395, hce395, hMe395, hcc395⟩ := Kd.R_get HO_16.out z84 x18_1 p395 (by first | exact q395 | exact of_decide_eq_true (by assumption) | (have e_ := (Kd.R_reads' HO_16.out).1; omega))
             obtain ⟨ve395_1, rfl, ge395_1⟩ := k84_openM hMe395
             have hv395_1 := hcc395 1 _ rfl
             rw [add_field _ _ 1 (by omega)] at hv395_1
             replace hv395_1 := Option.some.inj (hv395_1.symm.trans hx395_1)
             rw [hv395_1] at ge395_1
             have HL395_1 := Aside0.mk (show Kd.R k84 84 _ _ _ _ ((rd_T84 t387 x18_1).f1) from ge395_1)
             clear hv395_1 ge395_1
             clear hcc395 hce395
             have HR395_1 := Aside0.mk hi395_1
             have HC395_1 := Aside0.mk hl395_1
             clear hi395_1 hl395_1
             replace p395 := eq_true p395
             replace q395 := eq_true q395
             go_wp2_with (first | ((with_reducible refine gate_dst (N := 8) rfl ?_); refine box_event ?hg (N := 8) ?hd (cs := #[.int .i64 0, .slice none 0 0]) (t := 84) ?hr ?_; (case hd => rfl); (case hg => rfl); (case hr => first | (go_simp; done) | (go_simp; rfl)); intro gb396 hg w15 hbox hb; have n0_ := Aside0.mk (Kd.S_below (FS HO_6.out) hb); have n1_ := Aside0.mk (Kd.R_below (Kd.R_elderB (FR HO_16.out) gb396 (Nat.le_of_eq hg.symm)) hb); have n2_ := Aside0.mk (Kd.R_below (Kd.R_elderB (FR HO_392001.out) gb396 (Nat.le_of_eq hg.symm)) hb); have n3_ := Aside0.mk (Kd.R_below (Kd.R_elderB (FR HL395_1.out) gb396 (Nat.le_of_eq hg.symm)) hb); have n4_ := Aside0.mk (blk_below (g := gb391) (o := .cells #[.int .i64 t386, .slice (some ad395) t387.length co6] 84 (0, 0)) (FK BK391.out) hb); have n5_ := Aside0.mk (Kd.C_below (FC HR395_1.out) hb); have n6_ := Aside0.mk (below_step (by repeat (first | (with_reducible first | exact HB.out | apply below_alloc | apply pw_below_drewN | apply below_drew1 | refine below_set ?_ GE391.out) | exact HB.out)) hb); have n7_ := Aside0.mk (hbox); have n8_ := Aside0.mk ((by rw [hg]; exact (below_size (by repeat (first | (with_reducible first | exact HB.out | apply below_alloc | apply pw_below_drewN | apply below_drew1 | refine below_set ?_ GE391.out) | exact HB.out))) : w.heap.size ≤ gb396)); have n9_ := Aside0.mk ((by rw [hg]; exact (below_size (by repeat (first | (with_reducible first | exact HB.out | apply below_alloc | apply pw_below_drewN | apply below_drew1 | refine below_set ?_ GE391.out) | exact HB.out))) : w.heap.size ≤ gb396)); have n10_ := Aside0.mk ((by rw [hg]; exact Nat.ne_of_lt (blk_lt (g := gb391) (o := .cells #[.int .i64 t386, .slice (some ad395) t387.length co6] 84 (0, 0)) (FK BK391.out)) : gb391 ≠ gb396)); have n11_ := Aside0.mk ((by rw [hg]; exact Nat.ne_of_gt (blk_lt (g := gb391) (o := .cells #[.int .i64 t386, .slice (some ad395) t387.length co6] 84 (0, 0)) (FK BK391.out)) : gb396 ≠ gb391)); clear HO_6; clear HO_16; clear HO_392001; clear HL395_1; clear BK391; clear HR395_1; clear HB; have HO_6 := n0_; have HO_16 := n1_; have HO_392001 := n2_; have HL395_1 := n3_; have BK391 := n4_; have HR395_1 := n5_; have HB := n6_; have BK396 := n7_; have GW396 := n8_; have GE396 := n9_; have NB391_396 := n10_; have NB396_391 := n11_; clear n0_ n1_ n2_ n3_ n4_ n5_ n6_ n7_ n8_ n9_ n10_ n11_; clear hb hbox hg; have hnb16 := NB396_391.out; have hnc16 := NB391_396.out; have hcz17_0 : w15.cell? ⟨gb396, 0, none⟩ = some (.int .i64 0) := (blk_cell BK396.out 0).trans rfl; have hcz17_1 : w15.cell? ⟨gb396, 1, none⟩ = some (.slice none 0 0) := (blk_cell BK396.out 1).trans rfl; have hfz17_0 := blk_frozen BK396.out 0; have hfz17_1 := blk_frozen BK396.out 1) | ((with_reducible refine gate_callee (f := 96) rfl ?_); refine goesL_ (some 24) rfl rfl Tryd.func96 (by kernel_rfl) rfl #[.agg #[.int .i64 ((rd_T84 t387 x18_1).f0), .slice A395_1 ((rd_T84 t387 x18_1).f1).length c395_1], .int .i64 1] rfl (by (try simp only [List.map_toArray, List.map_cons, List.map_nil]); first | done | rfl | (simp only [List.length_drop, List.length_take]; rfl)) ?_; (with_reducible refine (impl_arr_numbers.calls k1 ((rd_T84 t387 x18_1).f0) _ _ ((rd_T84 t387 x18_1).f1) 1 t397 _ ?side1 ?side2 A13.out).mono ?_); (case side1 => repeat (first | exact ((Kd.R_reads' (FR ((Kd.R_mono (Kd.R_far (p := ⟨gb396, 1, none⟩) (Kd.R_far (p := ⟨gb396, 0, none⟩) (Kd.R_mono HL395_1.out (fun k_ hk => (⟨hk, hk.2⟩ : _ ∧ k_ ≠ gb396))) (fun _ hk => hk.2) (.int .i64 ((rd_T84 t387 x18_1).f0))) (fun _ hk => hk.2) (.slice A395_1 ((rd_T84 t387 x18_1).f1).length c395_1)) (fun _ h_ => h_.1))))).2.2) | (with_reducible refine Kd.C_alloc ?_ _) | (with_reducible refine Kd.C_drewN ?_ _) | (with_reducible refine Kd.C_drew ?_))); (case side2 => exact HC395_1.out); rintro e w18 ⟨v398, rfl, ho0, hb⟩; refine ⟨_, rfl, ?_⟩; have n0_ := Aside0.mk (Kd.S_elder' (FS ((Kd.S_mono (Kd.S_far (p := ⟨gb396, 1, none⟩) (Kd.S_far (p := ⟨gb396, 0, none⟩) (Kd.S_types HO_6.out BK396.out (by decide)) (fun _ hk => hk.2) (.int .i64 ((rd_T84 t387 x18_1).f0))) (fun _ hk => hk.2) (.slice A395_1 ((rd_T84 t387 x18_1).f1).length c395_1)) (fun _ h_ => h_.1)))) (Kd.R_base ho0) hb); have n1_ := Aside0.mk (Kd.R_below (FR ((Kd.R_mono (Kd.R_far (p := ⟨gb396, 1, none⟩) (Kd.R_far (p := ⟨gb396, 0, none⟩) (Kd.R_mono HO_16.out (fun k_ hk => (⟨hk, hk.2⟩ : _ ∧ k_ ≠ gb396))) (fun _ hk => hk.2) (.int .i64 ((rd_T84 t387 x18_1).f0))) (fun _ hk => hk.2) (.slice A395_1 ((rd_T84 t387 x18_1).f1).length c395_1)) (fun _ h_ => h_.1)))) hb); have n2_ := Aside0.mk (Kd.R_below (FR ((Kd.R_mono (Kd.R_far (p := ⟨gb396, 1, none⟩) (Kd.R_far (p := ⟨gb396, 0, none⟩) (Kd.R_mono HO_392001.out (fun k_ hk => (⟨hk, hk.2⟩ : _ ∧ k_ ≠ gb396))) (fun _ hk => hk.2) (.int .i64 ((rd_T84 t387 x18_1).f0))) (fun _ hk => hk.2) (.slice A395_1 ((rd_T84 t387 x18_1).f1).length c395_1)) (fun _ h_ => h_.1)))) hb); have n3_ := Aside0.mk (Kd.R_below (FR ((Kd.R_mono (Kd.R_far (p := ⟨gb396, 1, none⟩) (Kd.R_far (p := ⟨gb396, 0, none⟩) (Kd.R_mono HL395_1.out (fun k_ hk => (⟨hk, hk.2⟩ : _ ∧ k_ ≠ gb396))) (fun _ hk => hk.2) (.int .i64 ((rd_T84 t387 x18_1).f0))) (fun _ hk => hk.2) (.slice A395_1 ((rd_T84 t387 x18_1).f1).length c395_1)) (fun _ h_ => h_.1)))) hb); have n4_ := Aside0.mk (Kd.R_lower ho0 (below_size (by repeat (first | (with_reducible first | exact HB.out | apply below_alloc | apply pw_below_drewN | apply below_drew1 | refine below_set ?_ GE391.out | refine below_set ?_ GE396.out) | exact HB.out)))); have n5_ := Aside0.mk (blk_below (g := gb391) (o := .cells #[.int .i64 t386, .slice (some ad395) t387.length co6] 84 (0, 0)) (by (with_reducible repeat (first | refine blk_drewN ?_ _ | refine blk_drew ?_ | refine blk_alloc ?_ _)); refine blk_far ?_ NB391_396.out _; (with_reducible repeat (first | refine blk_drewN ?_ _ | refine blk_drew ?_ | refine blk_alloc ?_ _)); refine blk_far ?_ NB391_396.out _; (with_reducible repeat (first | refine blk_drewN ?_ _ | refine blk_drew ?_ | refine blk_alloc ?_ _)); exact BK391.out) hb); have n6_ := Aside0.mk (Kd.C_below ((Kd.R_reads' (FR ((Kd.R_mono (Kd.R_far (p := ⟨gb396, 1, none⟩) (Kd.R_far (p := ⟨gb396, 0, none⟩) (Kd.R_mono HL395_1.out (fun k_ hk => (⟨hk, hk.2⟩ : _ ∧ k_ ≠ gb396))) (fun _ hk => hk.2) (.int .i64 ((rd_T84 t387 x18_1).f0))) (fun _ hk => hk.2) (.slice A395_1 ((rd_T84 t387 x18_1).f1).length c395_1)) (fun _ h_ => h_.1))))).2.2) hb); have n7_ := Aside0.mk (blk_below (g := gb396) (o := .cells #[.int .i64 ((rd_T84 t387 x18_1).f0), .slice A395_1 ((rd_T84 t387 x18_1).f1).length c395_1] 84 (0, 0)) (by (with_reducible repeat (first | refine blk_drewN ?_ _ | refine blk_drew ?_ | refine blk_alloc ?_ _)); refine blk_put (cs := #[.int .i64 ((rd_T84 t387 x18_1).f0), .slice none 0 0]) ?_ 1 _ rfl; (with_reducible repeat (first | refine blk_drewN ?_ _ | refine blk_drew ?_ | refine blk_alloc ?_ _)); refine blk_put (cs := #[.int .i64 0, .slice none 0 0]) ?_ 0 _ rfl; (with_reducible repeat (first | refine blk_drewN ?_ _ | refine blk_drew ?_ | refine blk_alloc ?_ _)); exact BK396.out) hb); have n8_ := Aside0.mk (below_step (by repeat (first | (with_reducible first | exact HB.out | apply below_alloc | apply pw_below_drewN | apply below_drew1 | refine below_set ?_ GE391.out | refine below_set ?_ GE396.out) | exact HB.out)) hb); clear HO_6; clear HO_16; clear HO_392001; clear HL395_1; clear BK391; clear HR395_1; clear BK396; clear HB; have HO_6 := n0_; have HO_16 := n1_; have HO_392001 := n2_; have HL395_1 := n3_; have HO399 := n4_; have BK391 := n5_; have HR395_1 := n6_; have BK396 := n7_; have HB := n8_; clear n0_ n1_ n2_ n3_ n4_ n5_ n6_ n7_ n8_; (try clear hb); obtain ⟨Ao20, co20, eo20⟩ := Kd.R_slice HO399.out; subst eo20) | ((with_reducible refine gate_builtin (b := .append) (xs := #[.tmp 22, .tmp 25]) rfl ?_); at_builtin; refine Kd.S_append (Kd.slice 3 (Kd.int .i64)) (w0 := w) w.heap.size rfl (.tmp 22) (.tmp 25) 30 22 (.slice none 0 0) 24 rfl Tryd.underlying30 info22 rfl (by decide) (by omega) u6 x6_1 t397 [.slice Ao20 t397.length co20] (fun _ => True) (fun k_ => some k_ = (.slice Ao20 t397.length co20 : Value).ownBlock) rfl rfl ?aP (fun k_ hk_ => ((Kd.R_mono (ok' := fun k_ => ((fun _ => True)) k_ ∧ some k_ ≠ (u6 : Value).ownBlock) (Kd.R_apart' (HO399.out) (Kd.S_typed HO_6.out) (by decide)) (fun k_ hk => ⟨trivial, hk.2⟩))).1 k_ hk_.symm) ?aF ?aO ?aB ?aS ?aL ?_; (case aP => exact Kd.M_row (Kd.R_mono (Kd.R_tight rfl (Kd.R_mono (ok' := fun k_ => ((fun _ => True)) k_ ∧ some k_ ≠ (u6 : Value).ownBlock) (Kd.R_apart' (HO399.out) (Kd.S_typed HO_6.out) (by decide)) (fun k_ hk => ⟨trivial, hk.2⟩))) (fun _ h_ => h_))); (case aB => exact (by repeat (first | (with_reducible first | exact HB.out | apply below_alloc | apply pw_below_drewN | apply below_drew1 | refine below_set ?_ GE391.out | refine below_set ?_ GE396.out) | exact HB.out))); (case aF => exact (fun _ _ => trivial)); (case aO => exact (FS (Kd.S_mono HO_6.out (fun k_ hk => ⟨trivial, fun e_ => hk.2 e_⟩)))); (case aS => exact (below_size (by repeat (first | (with_reducible first | exact HB.out | apply below_alloc | apply pw_below_drewN | apply below_drew1 | refine below_set ?_ GE391.out | refine below_set ?_ GE396.out) | exact HB.out)))); (case aL => have := LMc14.out; omega); intro v401 w19 ho hb hg hat; rw [← Ny400.out] at ho; have n0_ := Aside0.mk (Kd.R_over' (FR HO_16.out) (Kd.S_typed (FS HO_6.out)) (by decide) hg); have n1_ := Aside0.mk (Kd.R_over' (FR HO_392001.out) (Kd.S_typed (FS HO_6.out)) (by decide) hg); have n2_ := Aside0.mk (blk_grown (g := gb391) (o := .cells #[.int .i64 t386, .slice (some ad395) t387.length co6] 84 (0, 0)) (FK BK391.out) hg (Kd.S_ne HO_6.out BK391.out (by decide))); have n3_ := Aside0.mk (Kd.R_over' (FR HL395_1.out) (Kd.S_typed (FS HO_6.out)) (by decide) hg); have n4_ := Aside0.mk (blk_grown (g := gb396) (o := .cells #[.int .i64 ((rd_T84 t387 x18_1).f0), .slice A395_1 ((rd_T84 t387 x18_1).f1).length c395_1] 84 (0, 0)) (FK BK396.out) hg (Kd.S_ne HO_6.out BK396.out (by decide))); have n5_ := Aside0.mk (hb); have n6_ := Aside0.mk (ho); clear HO_16; clear HO_392001; clear BK391; clear HL395_1; clear BK396; clear HB; clear HO_6; clear HO399; have HO_16 := n0_; have HO_392001 := n1_; have BK391 := n2_; have HL395_1 := n3_; have BK396 := n4_; have HB := n5_; have HO402 := n6_; clear n0_ n1_ n2_ n3_ n4_ n5_ n6_; clear ho hb hg hat))
             go_roundg k1
             case measure => have := HK1.out; omega
             case rel => exact ⟨(y400), (wrap64 (x18_1 + 1)), (by first | rfl | (simp; done) | (simp [*]; done)), H', ⟨by have := HK1.out; omega⟩, ⟨(FS HO402.out)⟩, ⟨(FR (Kd.R_mono HO_16.out (fun _ hk => hk.1)))⟩, ⟨(FR (Kd.R_mono HO_392001.out (fun _ hk => hk.1)))⟩, ⟨(FK BK391.out)⟩, ⟨by repeat (first | (with_reducible first | exact HB.out | apply below_alloc | apply pw_below_drewN | apply below_drew1 | refine below_set ?_ GE391.out | refine below_set ?_ GE396.out) | exact HB.out)⟩⟩
           · rw [if_neg c14] at H
             exact absurd H (by simp)
         · rw [if_neg c12] at H
           exact absurd H (by simp)
       · rw [if_neg c11] at H
         exact absurd H (by simp)
     · rw [if_neg c10] at H
       have c10b0 : decide (x18_1 < (t387.length : Int)) = false := decide_eq_false c10
       clear c10
       simp only [Option.some.injEq, Prod.mk.injEq] at H
       obtain ⟨rfl, rfl⟩ := H
       go_wp2
       go_ret2
       exact ⟨_, by first | rfl | (simp [errW_none, errW_some] <;> rfl) | (simp [*, errW_none, errW_some] <;> rfl), (FS HO_6.out), by repeat (first | (with_reducible first | exact HB.out | apply below_alloc | apply pw_below_drewN | apply below_drew1 | refine below_set ?_ GE391.out) | exact HB.out)⟩

end Go.Proofs.YtmjoigpnnechgaaDoor.F
