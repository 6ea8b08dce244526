-- PRINTED by print.py (a twelfth state) out of the translation. Not trusted: Lean checks it.
import Derived.Test.YtmjoigpnnechgaaDoorGx0
import Derived.Test.YtmjoigpnnechgaaDoorGx1
import Derived.Test.YtmjoigpnnechgaaDoorGx5
namespace Go.Proofs.YtmjoigpnnechgaaDoor.G
open Go.RowKit Go.Proofs.YtmjoigpnnechgaaDoorW.PrintWords Go.Proofs.YtmjoigpnnechgaaDoorW.PrintLast Go.Proofs.YtmjoigpnnechgaaDoorW.PrintMore
attribute [local go_sem] max2_int min2_int max_two min_two max_three min_three max_four min_four   -- for this text's walks alone
set_option linter.unusedVariables false
set_option linter.unusedSimpArgs false

/-! ### spec_TransposeArray: function 54 -/
mutual
def spec_TransposeArray.l0 : Nat → List (List Int) → List (List Int) → Int → Int → Option (ByteArray × Bool)
 | 0, _, _, _, _ => none
 | k + 1, x4, x7, x21, x22 => if x22 < x21 then (spec_TransposeArray.l1 k x4 x7 x22 (([] : List Int)) x21 x22 x4 (x4.length : Int) 0) else ((spec_l11Text.f k x7).bind fun bt298 => (some (bt298.1, bt298.2)))
def spec_TransposeArray.l1 : Nat → List (List Int) → List (List Int) → Int → List Int → Int → Int → List (List Int) → Int → Int → Option (ByteArray × Bool)
 | 0, _, _, _, _, _, _, _, _, _ => none
 | k + 1, x4, x7, x8, x9, x21, x22, x26, x27, x28 => if x28 < x27 then (if 0 ≤ x28 then (if x28 < (x26.length : Int) then (if 0 ≤ x8 then (if x8 < ((rd_L3 x26 x28).length : Int) then (if x9.length < 17592186044416 then (spec_TransposeArray.l1 k x4 x7 x8 (x9 ++ [rd (rd_L3 x26 x28) x8]) x21 x22 x26 x27 (wrap64 (x28 + 1))) else (none)) else (none)) else (none)) else (none)) else (none)) else (if x7.length < 5864062014805 then (spec_TransposeArray.l0 k x4 (x7 ++ [x9]) x21 (wrap64 (x22 + 1))) else (none))
end
def spec_TransposeArray.f (k : Nat) (a0 : ByteArray) : Option (ByteArray × Bool) := (spec_l11Rows.f k a0).bind fun bt290 => (if bt290.2.2 = true then (spec_TransposeArray.l0 k bt290.1 (([] : List (List Int))) bt290.2.1 0) else (some ((⟨#[]⟩ : ByteArray), false)))
theorem spec_TransposeArray.mono_l : ∀ k, (∀ y0 y1 y2 y3, LeO (spec_TransposeArray.l0 k y0 y1 y2 y3) (spec_TransposeArray.l0 (k + 1) y0 y1 y2 y3)) ∧ (∀ y0 y1 y2 y3 y4 y5 y6 y7 y8, LeO (spec_TransposeArray.l1 k y0 y1 y2 y3 y4 y5 y6 y7 y8) (spec_TransposeArray.l1 (k + 1) y0 y1 y2 y3 y4 y5 y6 y7 y8))
 | 0 => ⟨fun _ _ _ _ r h => by simp [spec_TransposeArray.l0] at h, fun _ _ _ _ _ _ _ _ _ r h => by simp [spec_TransposeArray.l1] at h⟩
 | k + 1 => by
   obtain ⟨ih0, ih1⟩ := spec_TransposeArray.mono_l k
   refine ⟨?_, ?_⟩
   · intro y0 y1 y2 y3
     unfold spec_TransposeArray.l0
     repeat' first
     | (with_reducible exact ih0 _ _ _ _)
     | (with_reducible exact ih1 _ _ _ _ _ _ _ _ _)
     | (with_reducible exact spec_l11Rows.mono _ _)
     | (with_reducible exact spec_l11Text.mono _ _)
     | (with_reducible exact LeO.refl _)
     | (with_reducible exact LeO.none _)
     | (with_reducible refine LeO.ite ?_ ?_)
     | (with_reducible refine LeO.bind ?_ (fun _ => ?_))
     | exact ih0 _ _ _ _
     | exact ih1 _ _ _ _ _ _ _ _ _
     | exact spec_l11Rows.mono _ _
     | exact spec_l11Text.mono _ _
     | exact LeO.none _
     | refine LeO.ite ?_ ?_
     | refine LeO.bind ?_ (fun _ => ?_)
   · intro y0 y1 y2 y3 y4 y5 y6 y7 y8
     unfold spec_TransposeArray.l1
     repeat' first
     | (with_reducible exact ih0 _ _ _ _)
     | (with_reducible exact ih1 _ _ _ _ _ _ _ _ _)
     | (with_reducible exact spec_l11Rows.mono _ _)
     | (with_reducible exact spec_l11Text.mono _ _)
     | (with_reducible exact LeO.refl _)
     | (with_reducible exact LeO.none _)
     | (with_reducible refine LeO.ite ?_ ?_)
     | (with_reducible refine LeO.bind ?_ (fun _ => ?_))
     | exact ih0 _ _ _ _
     | exact ih1 _ _ _ _ _ _ _ _ _
     | exact spec_l11Rows.mono _ _
     | exact spec_l11Text.mono _ _
     | exact LeO.none _
     | refine LeO.ite ?_ ?_
     | refine LeO.bind ?_ (fun _ => ?_)
theorem spec_TransposeArray.mono : ∀ a0 k, LeO (spec_TransposeArray.f k a0) (spec_TransposeArray.f (k + 1) a0) := by
 intro a0 k
 obtain ⟨ih0, ih1⟩ := spec_TransposeArray.mono_l k
 unfold spec_TransposeArray.f
 repeat' first
     | (with_reducible exact ih0 _ _ _ _)
     | (with_reducible exact ih1 _ _ _ _ _ _ _ _ _)
     | (with_reducible exact spec_l11Rows.mono _ _)
     | (with_reducible exact spec_l11Text.mono _ _)
     | (with_reducible exact LeO.refl _)
     | (with_reducible exact LeO.none _)
     | (with_reducible refine LeO.ite ?_ ?_)
     | (with_reducible refine LeO.bind ?_ (fun _ => ?_))
     | exact ih0 _ _ _ _
     | exact ih1 _ _ _ _ _ _ _ _ _
     | exact spec_l11Rows.mono _ _
     | exact spec_l11Text.mono _ _
     | exact LeO.none _
     | refine LeO.ite ?_ ?_
     | refine LeO.bind ?_ (fun _ => ?_)
set_option maxHeartbeats 8000000 in
set_option maxRecDepth 100000 in
theorem spec_TransposeArray.calls (k : Nat) (a0 : ByteArray) (r1 : ByteArray) (r2 : Bool) (w : World) (h : spec_TransposeArray.f k a0 = some (r1, r2)) :
   Calls Tryd.prog 54 #[.string a0] w fun e w' => e = .returned (.tuple #[.string r1, .bool r2]) ∧ Below w.heap.size w w' := by
 have HB := Aside0.mk (Below.refl w.heap.size w)
 have H : ((spec_l11Rows.f k a0).bind fun bt290 => (if bt290.2.2 = true then (spec_TransposeArray.l0 k bt290.1 (([] : List (List Int))) bt290.2.1 0) else (some ((⟨#[]⟩ : ByteArray), false)))) = some (r1, r2) := h
 clear h
 replace H := Option.bind_eq_some_iff.mp H
 obtain ⟨⟨t290, t291, t292⟩, A20, H⟩ := H
 replace H : (if t292 = true then (spec_TransposeArray.l0 k t290 (([] : List (List Int))) t291 0) else (some ((⟨#[]⟩ : ByteArray), false))) = some (r1, r2) := H
 have A2 := Aside0.mk A20
 clear A20
 by_cases c3 : t292 = true
 · subst c3
   have H1 : (spec_TransposeArray.l0 k t290 (([] : List (List Int))) t291 0) = some (r1, r2) := by rw [if_pos rfl] at H; exact H
   clear H
   have H := H1
   clear H1
   obtain ⟨y295, hy295⟩ : ∃ y_ : List (List Int), y_ = (([] : List (List Int))) := ⟨_, rfl⟩
   replace H : (spec_TransposeArray.l0 k t290 y295 t291 0) = some (r1, r2) := by first | (rw [hy295]; with_reducible exact H) | (have H2_ := (Option.bind_some _ _).symm.trans H; rw [hy295]; with_reducible exact H2_) | (have H2_ := (Option.bind_some _ _).symm.trans H; with_reducible exact H2_) | with_reducible exact H | (rw [hy295]; exact H) | exact H
   have Ny295 := Aside0.mk hy295
   clear hy295
   have H' := Aside0.mk H
   clear H
   go_enter Tryd.func54, Tryd.ntmps54
   go_wp2_with (first | ((with_reducible refine gate_callee (f := 102) rfl ?_); refine goesL_ (some 14) rfl rfl Tryd.func102 (by kernel_rfl) rfl #[.string a0] rfl (by (try simp only [List.map_toArray, List.map_cons, List.map_nil]); first | done | rfl | (simp only [List.length_drop, List.length_take]; rfl)) ?_; (with_reducible refine (spec_l11Rows.calls k a0 t290 t291 true _ A2.out).mono ?_); rintro e w4 ⟨v293, rfl, ho0, hb⟩; refine ⟨_, rfl, ?_⟩; have n0_ := Aside0.mk (Kd.S_lower ho0 (below_size (FB HB.out))); have n1_ := Aside0.mk (below_step (FB HB.out) hb); clear HB; have HO294 := n0_; have HB := n1_; clear n0_ n1_; (try clear hb)) | ((with_reducible refine gate_dst (N := 20) rfl ?_); refine Kd.S_lit (Kd.slice 3 (Kd.int .i64)) _ 22 ?hg (N := 20) ?hd (xs := ([] : List (List Int))) (inner := []) (ok := fun _ => True) (okp := fun _ => True) ?hr ?hp (fun _ hk => hk) trivial (Below.refl _ _) (Nat.le_refl _) (by simp) ?_; (case hd => rfl); (case hg => rfl); (case hr => first | (go_simp; done) | (go_simp; rfl)); (case hp => exact (Reps.none _ _)); intro v296 w5 ho6 hb hg_ hnew_; clear hg_ hnew_; (first | rw [← Ny295.out] at ho6 | (simp only [Int.reduceToNat] at ho6; rw [← Ny295.out] at ho6)); have n0_ := Aside0.mk (Kd.S_elder' (FS HO294.out) (Kd.S_base ho6) hb); have n1_ := Aside0.mk (Kd.S_lower (Kd.S_new' ho6 (Kd.S_lt (FS HO294.out))) (below_size (FB HB.out))); have n2_ := Aside0.mk (below_step (FB HB.out) hb); clear HO294; clear HB; have HO294 := n0_; have HO297 := n1_; have HB := n2_; clear n0_ n1_ n2_; clear hb ho6))
   go_loopg [7, 22] k (fun kq v7 v22 w' => ∃ (x7_1 : List (List Int)) (x22_1 : Int), v22 = .int .i64 x22_1 ∧ Aside0 (spec_TransposeArray.l0 kq t290 x7_1 t291 x22_1 = some (r1, r2)) ∧ Aside0 (kq ≤ k) ∧ Aside0 (Kd.S (Kd.slice 3 (Kd.int .i64)) 22 w' w.heap.size (fun k_ => some k_ ≠ (v7 : Value).ownBlock) v293 t290) ∧ Aside0 (Kd.S (Kd.slice 3 (Kd.int .i64)) 22 w' w.heap.size (fun k_ => some k_ ≠ (v293 : Value).ownBlock) v7 x7_1) ∧ Aside0 (Below w.heap.size w w'))
   case atStart => exact ⟨(y295), (0), (by first | rfl | (simp; done) | (simp [*]; done)), H', ⟨Nat.le_refl _⟩, ⟨(FS (Kd.S_mono HO294.out (fun _ hk => hk.2)))⟩, ⟨(FS (Kd.S_mono HO297.out (fun _ hk => hk.2)))⟩, ⟨FB HB.out⟩⟩
   case round =>
     clear H'
     (try clear c1); (try clear p2); (try clear c3); (try clear c5)
     obtain ⟨x7_1, x22_1, rfl, HA, HK1, HO_4, HO_7, HB⟩ := hrel
     cases gk with
     | zero => exact absurd HA.out (by simp [spec_TransposeArray.l0])
     | succ k1 =>
       have H := HA.out
       clear HA
       simp only [spec_TransposeArray.l0] at H
       by_cases c7 : x22_1 < t291
       · rw [if_pos c7] at H
         have c7b0 : decide (x22_1 < t291) = true := decide_eq_true c7
         clear c7
         obtain ⟨y300, hy300⟩ : ∃ y_ : List Int, y_ = (([] : List Int)) := ⟨_, rfl⟩
         replace H : (spec_TransposeArray.l1 k1 t290 x7_1 x22_1 y300 t291 x22_1 t290 (t290.length : Int) 0) = some (r1, r2) := by first | (rw [hy300]; with_reducible exact H) | (have H2_ := (Option.bind_some _ _).symm.trans H; rw [hy300]; with_reducible exact H2_) | (have H2_ := (Option.bind_some _ _).symm.trans H; with_reducible exact H2_) | with_reducible exact H | (rw [hy300]; exact H) | exact H
         have Ny300 := Aside0.mk hy300
         clear hy300
         have H' := Aside0.mk H
         clear H
         go_wp2_with (first | ((with_reducible refine gate_dst (N := 25) rfl ?_); refine Kd.R_lit (Kd.int .i64) _ 3 ?hg (N := 25) ?hd (xs := ([] : List Int)) (inner := []) (ok := fun _ => True) (okp := fun _ => True) ?hr ?hp (fun _ hk => hk) trivial (Below.refl _ _) (Nat.le_refl _) (by simp) ?_; (case hd => rfl); (case hg => rfl); (case hr => first | (go_simp; done) | (go_simp; rfl)); (case hp => exact (Reps.none _ _)); intro v301 w8 ho9 hb hg_ hnew_; clear hg_ hnew_; (first | rw [← Ny300.out] at ho9 | (simp only [Int.reduceToNat] at ho9; rw [← Ny300.out] at ho9)); have n0_ := Aside0.mk (Kd.S_elder' (FS HO_4.out) (Kd.R_base ho9) hb); have n1_ := Aside0.mk (Kd.S_elder' (FS HO_7.out) (Kd.R_base ho9) hb); have n2_ := Aside0.mk (Kd.R_lower ho9 (below_size (FB HB.out))); have n3_ := Aside0.mk (below_step (FB HB.out) hb); clear HO_4; clear HO_7; clear HB; have HO_4 := n0_; have HO_7 := n1_; have HO302 := n2_; have HB := n3_; clear n0_ n1_ n2_ n3_; clear hb ho9; obtain ⟨Ao10, co10, eo10⟩ := Kd.S_slice HO_4.out; subst eo10))
         go_loopg [9, 28] k1 (fun kq v9 v28 w' => ∃ (x9_2 : List Int) (x28_2 : Int), v28 = .int .i64 x28_2 ∧ Aside0 (spec_TransposeArray.l1 kq t290 x7_1 x22_1 x9_2 t291 x22_1 t290 (t290.length : Int) x28_2 = some (r1, r2)) ∧ Aside0 (kq ≤ k1) ∧ Aside0 (Kd.S (Kd.slice 3 (Kd.int .i64)) 22 w' w.heap.size (fun k_ => some k_ ≠ (u7 : Value).ownBlock ∧ some k_ ≠ (v9 : Value).ownBlock) (.slice Ao10 t290.length co10) t290) ∧ Aside0 (Kd.S (Kd.slice 3 (Kd.int .i64)) 22 w' w.heap.size (fun k_ => some k_ ≠ ((.slice Ao10 t290.length co10) : Value).ownBlock ∧ some k_ ≠ (v9 : Value).ownBlock ∧ some k_ ≠ ((.slice Ao10 t290.length co10) : Value).ownBlock) u7 x7_1) ∧ Aside0 (Kd.R (Kd.int .i64) 3 w' w.heap.size (fun _ => True) v9 x9_2) ∧ Aside0 (Kd.S (Kd.slice 3 (Kd.int .i64)) 22 w' w.heap.size (fun k_ => some k_ ≠ (u7 : Value).ownBlock ∧ some k_ ≠ (v9 : Value).ownBlock) (.slice Ao10 t290.length co10) t290) ∧ Aside0 (Below w.heap.size w w'))
         case atStart => exact ⟨(y300), (0), (by first | rfl | (simp; done) | (simp [*]; done)), H', ⟨Nat.le_refl _⟩, ⟨(FS HO_4.out)⟩, ⟨(FS (Kd.S_mono HO_7.out (fun _ hk => ⟨hk.1, ⟨hk.2, hk.1⟩⟩)))⟩, ⟨(FR HO302.out)⟩, ⟨(FS HO_4.out)⟩, ⟨FB HB.out⟩⟩
         case round =>
           clear H'
           (try clear c1); (try clear p2); (try clear c3); (try clear c5); (try clear c7); (try clear c7b0); (try clear c10)
           obtain ⟨x9_2, x28_2, rfl, HA, HK2, HO_4, HO_7, HO_9, HO_26, HB⟩ := hrel
           cases gk with
           | zero => exact absurd HA.out (by simp [spec_TransposeArray.l1])
           | succ k2 =>
             have H := HA.out
             clear HA
             simp only [spec_TransposeArray.l1] at H
             by_cases c11 : x28_2 < (t290.length : Int)
             · rw [if_pos c11] at H
               have c11b0 : decide (x28_2 < (t290.length : Int)) = true := decide_eq_true c11
               clear c11
               by_cases c12 : 0 ≤ x28_2
               · rw [if_pos c12] at H
                 have c12b0 : decide (0 ≤ x28_2) = true := decide_eq_true c12
                 clear c12
                 by_cases c13 : x28_2 < (t290.length : Int)
                 · rw [if_pos c13] at H
                   have c13b0 : decide (x28_2 < (t290.length : Int)) = true := decide_eq_true c13
                   clear c13
                   by_cases c14 : 0 ≤ x22_1
                   · rw [if_pos c14] at H
                     have c14b0 : decide (0 ≤ x22_1) = true := decide_eq_true c14
                     clear c14
                     by_cases c15 : x22_1 < ((rd_L3 t290 x28_2).length : Int)
                     · rw [if_pos c15] at H
                       have c15b0 : decide (x22_1 < ((rd_L3 t290 x28_2).length : Int)) = true := decide_eq_true c15
                       clear c15
                       by_cases c16 : x9_2.length < 17592186044416
                       · rw [if_pos c16] at H
                         have LMc16 := Aside0.mk c16
                         clear c16
                         obtain ⟨y305, hy305⟩ : ∃ y_ : List Int, y_ = (x9_2 ++ [rd (rd_L3 t290 x28_2) x22_1]) := ⟨_, rfl⟩
                         replace H : (spec_TransposeArray.l1 k2 t290 x7_1 x22_1 y305 t291 x22_1 t290 (t290.length : Int) (wrap64 (x28_2 + 1))) = some (r1, r2) := by first | (rw [hy305]; with_reducible exact H) | (have H2_ := (Option.bind_some _ _).symm.trans H; rw [hy305]; with_reducible exact H2_) | (have H2_ := (Option.bind_some _ _).symm.trans H; with_reducible exact H2_) | with_reducible exact H | (rw [hy305]; exact H) | exact H
                         have Ny305 := Aside0.mk hy305
                         clear hy305
                         have H' := Aside0.mk H
                         clear H
                         have p303 : 0 ≤ (x28_2 : Int) := of_decide_eq_true (by assumption)
                         have q303 : x28_2 < (t290.length : Int) := of_decide_eq_true (by assumption)
                         obtain ⟨ad303, A303_0, c303_0, e303, hx303_0, hl303_0, hi303_0⟩ := at_L3 (Kd.S_reads' HO_26.out).2.2 x28_2 p303 q303
                         cases e303
                         obtain ⟨ce303, hce303, hMe303, hcc303⟩ := Kd.S_get HO_26.out [] x28_2 p303 (by first | exact q303 | exact of_decide_eq_true (by assumption) | (have e_ := (Kd.S_reads' HO_26.out).1; omega))
                         obtain ⟨ve303_0, rfl, ge303_0⟩ := hMe303
                         have hv303_0 := hcc303 0 _ rfl
                         rw [Nat.add_zero, show ((Kd.slice 3 (Kd.int .i64))).sz = 1 from rfl, Nat.mul_one] at hv303_0
                         replace hv303_0 := Option.some.inj (hv303_0.symm.trans hx303_0)
                         rw [hv303_0] at ge303_0
                         have HL303_0 := Aside0.mk (show Kd.R (Kd.int .i64) 3 _ _ _ _ (rd_L3 t290 x28_2) from ge303_0)
                         clear hv303_0 ge303_0
                         clear hcc303 hce303
                         have HR303_0 := Aside0.mk hi303_0
                         have HC303_0 := Aside0.mk hl303_0
                         clear hi303_0 hl303_0
                         replace p303 := eq_true p303
                         replace q303 := eq_true q303
                         have p304 : 0 ≤ (x22_1 : Int) := of_decide_eq_true (by assumption)
                         have q304 : x22_1 < ((rd_L3 t290 x28_2).length : Int) := of_decide_eq_true (by assumption)
                         obtain ⟨ad304, e304, hx304_0⟩ := Kd.at_int HR303_0.out x22_1 p304 q304
                         cases e304
                         replace p304 := eq_true p304
                         replace q304 := eq_true q304
                         go_wp2_with (first | ((with_reducible refine gate_builtin (b := .append) (xs := #[.tmp 32, .tmp 37]) rfl ?_); at_builtin; refine Kd.R_append (Kd.int .i64) (w0 := w) w.heap.size rfl (.tmp 32) (.tmp 37) 22 3 (.int .i64 0) 8 rfl Tryd.underlying22 info3 rfl (by decide) (by omega) u9 x9_2 (rd (rd_L3 t290 x28_2) x22_1) [.int .i64 (rd (rd_L3 t290 x28_2) x22_1)] (fun _ => True) (fun _ => False) rfl rfl ?aP (fun _ hk => hk.elim) ?aF ?aO ?aB ?aS ?aL ?_; (case aP => exact rfl); (case aB => exact (FB HB.out)); (case aF => exact (fun _ _ => trivial)); (case aO => exact (FR HO_9.out)); (case aS => exact (below_size (FB HB.out))); (case aL => have := LMc16.out; omega); intro v306 w17 ho hb hg hat; rw [← Ny305.out] at ho; have n0_ := Aside0.mk (Kd.S_after (ok := (fun k_ => some k_ ≠ (u7 : Value).ownBlock)) (FS HO_4.out) hg hat); have n1_ := Aside0.mk (Kd.S_after (ok := (fun k_ => some k_ ≠ (.slice (some ad303) t290.length co10 : Value).ownBlock ∧ some k_ ≠ (.slice (some ad303) t290.length co10 : Value).ownBlock)) (FS (Kd.S_mono HO_7.out (fun _ hk => ⟨⟨hk.1, hk.2.2⟩, hk.2.1⟩))) hg hat); have n2_ := Aside0.mk (Kd.S_after (ok := (fun k_ => some k_ ≠ (u7 : Value).ownBlock)) (FS HO_26.out) hg hat); have n3_ := Aside0.mk (Kd.R_after (ok := (fun k_ => some k_ ≠ (u7 : Value).ownBlock ∧ some k_ ≠ (.slice (some ad303) t290.length co10 : Value).ownBlock)) (FR (Kd.R_mono HL303_0.out (fun _ hk => ⟨⟨hk.1.1, hk.2⟩, hk.1.2⟩))) hg hat); have n4_ := Aside0.mk (hb); have n5_ := Aside0.mk (ho); clear HO_4; clear HO_7; clear HO_26; clear HL303_0; clear HB; clear HO_9; have HO_4 := n0_; have HO_7 := n1_; have HO_26 := n2_; have HL303_0 := n3_; have HB := n4_; have HO307 := n5_; clear n0_ n1_ n2_ n3_ n4_ n5_; clear ho hb hg hat))
                         go_roundg k2
                         case measure => have := HK1.out; have := HK2.out; omega
                         case rel => exact ⟨(y305), (wrap64 (x28_2 + 1)), (by first | rfl | (simp; done) | (simp [*]; done)), H', ⟨by have := HK1.out; have := HK2.out; omega⟩, ⟨(FS HO_4.out)⟩, ⟨(FS (Kd.S_mono HO_7.out (fun _ hk => ⟨hk.1.1, ⟨hk.2, hk.1.2⟩⟩)))⟩, ⟨(FR HO307.out)⟩, ⟨(FS HO_26.out)⟩, ⟨FB HB.out⟩⟩
                       · rw [if_neg c16] at H
                         exact absurd H (by simp)
                     · rw [if_neg c15] at H
                       exact absurd H (by simp)
                   · rw [if_neg c14] at H
                     exact absurd H (by simp)
                 · rw [if_neg c13] at H
                   exact absurd H (by simp)
               · rw [if_neg c12] at H
                 exact absurd H (by simp)
             · rw [if_neg c11] at H
               have c11b0 : decide (x28_2 < (t290.length : Int)) = false := decide_eq_false c11
               clear c11
               by_cases c18 : x7_1.length < 5864062014805
               · rw [if_pos c18] at H
                 have LMc18 := Aside0.mk c18
                 clear c18
                 obtain ⟨y308, hy308⟩ : ∃ y_ : List (List Int), y_ = (x7_1 ++ [x9_2]) := ⟨_, rfl⟩
                 replace H : (spec_TransposeArray.l0 k2 t290 y308 t291 (wrap64 (x22_1 + 1))) = some (r1, r2) := by first | (rw [hy308]; with_reducible exact H) | (have H2_ := (Option.bind_some _ _).symm.trans H; rw [hy308]; with_reducible exact H2_) | (have H2_ := (Option.bind_some _ _).symm.trans H; with_reducible exact H2_) | with_reducible exact H | (rw [hy308]; exact H) | exact H
                 have Ny308 := Aside0.mk hy308
                 clear hy308
                 have H' := Aside0.mk H
                 clear H
                 obtain ⟨Ao20, co20, eo20⟩ := Kd.R_slice HO_9.out
                 subst eo20
                 go_wp2_with (first | ((with_reducible refine gate_builtin (b := .append) (xs := #[.tmp 40, .tmp 42]) rfl ?_); at_builtin; refine Kd.S_append (Kd.slice 3 (Kd.int .i64)) (w0 := w) w.heap.size rfl (.tmp 40) (.tmp 42) 30 22 (.slice none 0 0) 24 rfl Tryd.underlying30 info22 rfl (by decide) (by omega) u7 x7_1 x9_2 [.slice Ao20 x9_2.length co20] (fun k_ => some k_ ≠ (.slice Ao10 t290.length co10 : Value).ownBlock ∧ some k_ ≠ (.slice Ao10 t290.length co10 : Value).ownBlock) (fun k_ => some k_ = (.slice Ao20 x9_2.length co20 : Value).ownBlock) rfl rfl ?aP (fun k_ hk_ => ((Kd.R_mono (ok' := fun k_ => ((fun k_ => some k_ ≠ (.slice Ao10 t290.length co10 : Value).ownBlock ∧ some k_ ≠ (.slice Ao10 t290.length co10 : Value).ownBlock)) k_ ∧ some k_ ≠ (u7 : Value).ownBlock) (Kd.R_apart' (Kd.R_apart' (Kd.R_apart' (HO_9.out) (Kd.S_typed HO_4.out) (by decide)) (Kd.S_typed HO_26.out) (by decide)) (Kd.S_typed HO_7.out) (by decide)) (fun k_ hk => ⟨⟨hk.1.1.2, hk.1.2⟩, hk.2⟩))).1 k_ hk_.symm) ?aF ?aO ?aB ?aS ?aL ?_; (case aP => exact Kd.M_row (Kd.R_mono (Kd.R_tight rfl (Kd.R_mono (ok' := fun k_ => ((fun k_ => some k_ ≠ (.slice Ao10 t290.length co10 : Value).ownBlock ∧ some k_ ≠ (.slice Ao10 t290.length co10 : Value).ownBlock)) k_ ∧ some k_ ≠ (u7 : Value).ownBlock) (Kd.R_apart' (Kd.R_apart' (Kd.R_apart' (HO_9.out) (Kd.S_typed HO_4.out) (by decide)) (Kd.S_typed HO_26.out) (by decide)) (Kd.S_typed HO_7.out) (by decide)) (fun k_ hk => ⟨⟨hk.1.1.2, hk.1.2⟩, hk.2⟩))) (fun _ h_ => h_))); (case aB => exact (FB HB.out)); (case aF => exact (fun k_ hk => ⟨Kd.fresh' (Kd.S_lt (FS HO_4.out)) k_ hk, Kd.fresh' (Kd.S_lt (FS HO_26.out)) k_ hk⟩)); (case aO => exact (FS (Kd.S_mono HO_7.out (fun k_ hk => ⟨⟨hk.1, hk.2.2⟩, fun e_ => hk.2.1 e_⟩)))); (case aS => exact (below_size (FB HB.out))); (case aL => have := LMc18.out; omega); intro v309 w19 ho hb hg hat; rw [← Ny308.out] at ho; have n0_ := Aside0.mk (Kd.S_after (ok := (fun k_ => some k_ ≠ (.slice Ao20 x9_2.length co20 : Value).ownBlock)) (FS (Kd.S_mono HO_4.out (fun _ hk => ⟨hk.2, hk.1⟩))) hg hat); have n1_ := Aside0.mk (Kd.S_after (ok := (fun k_ => some k_ ≠ (.slice Ao20 x9_2.length co20 : Value).ownBlock)) (FS (Kd.S_mono HO_26.out (fun _ hk => ⟨hk.2, hk.1⟩))) hg hat); have n2_ := Aside0.mk (hb); have n3_ := Aside0.mk (ho); clear HO_4; clear HO_26; clear HB; clear HO_7; clear HO_9; have HO_4 := n0_; have HO_26 := n1_; have HB := n2_; have HO310 := n3_; clear n0_ n1_ n2_ n3_; clear ho hb hg hat))
                 go_roundg k2
                 case measure => have := HK1.out; have := HK2.out; omega
                 case rel => exact ⟨(y308), (wrap64 (x22_1 + 1)), (by first | rfl | (simp; done) | (simp [*]; done)), H', ⟨by have := HK1.out; have := HK2.out; omega⟩, ⟨(FS (Kd.S_mono HO_4.out (fun _ hk => hk.2)))⟩, ⟨(FS (Kd.S_mono HO310.out (fun _ hk => hk.1)))⟩, ⟨FB HB.out⟩⟩
               · rw [if_neg c18] at H
                 exact absurd H (by simp)
       · rw [if_neg c7] at H
         have c7b0 : decide (x22_1 < t291) = false := decide_eq_false c7
         clear c7
         replace H := Option.bind_eq_some_iff.mp H
         obtain ⟨⟨t298, t299⟩, A210, H⟩ := H
         replace H : (some (t298, t299)) = some (r1, r2) := H
         have A21 := Aside0.mk A210
         clear A210
         simp only [Option.some.injEq, Prod.mk.injEq] at H
         obtain ⟨rfl, rfl⟩ := H
         obtain ⟨Ao22, co22, eo22⟩ := Kd.S_slice HO_7.out
         subst eo22
         go_wp2_with (first | ((with_reducible refine gate_callee (f := 75) rfl ?_); refine goesL_ (some 46) rfl rfl Tryd.func75 (by kernel_rfl) rfl #[.slice Ao22 x7_1.length co22] rfl (by (try simp only [List.map_toArray, List.map_cons, List.map_nil]); first | done | rfl | (simp only [List.length_drop, List.length_take]; rfl)) ?_; (with_reducible refine (spec_l11Text.calls k1 _ _ x7_1 t298 t299 _ ?side1 ?side2 A21.out).mono ?_); (case side1 => repeat (first | exact (Kd.S_reads' HO_7.out).2.2 | (with_reducible refine Kd.C_alloc ?_ _) | (with_reducible refine Kd.C_drewN ?_ _) | (with_reducible refine Kd.C_drew ?_))); (case side2 => exact (Kd.S_reads' HO_7.out).2.1); rintro e w23 ⟨rfl, hb⟩; refine ⟨_, rfl, ?_⟩; have n0_ := Aside0.mk (Kd.S_below (FS HO_4.out) hb); have n1_ := Aside0.mk (Kd.S_below (FS HO_7.out) hb); have n2_ := Aside0.mk (below_step (FB HB.out) hb); clear HO_4; clear HO_7; clear HB; have HO_4 := n0_; have HO_7 := n1_; have HB := n2_; clear n0_ n1_ n2_; (try clear hb); (try clear hb2); (try clear hk); (try clear hi)))
         go_ret2
         exact ⟨by first | rfl | (simp [errW_none, errW_some] <;> rfl) | (simp [*, errW_none, errW_some] <;> rfl), FB HB.out⟩
 · replace c3 := Bool.eq_false_iff.mpr c3
   subst c3
   have H1 : (some ((⟨#[]⟩ : ByteArray), false)) = some (r1, r2) := by rw [if_neg (show ¬ (false = true) by decide)] at H; exact H
   clear H
   have H := H1
   clear H1
   simp only [Option.some.injEq, Prod.mk.injEq] at H
   obtain ⟨rfl, rfl⟩ := H
   go_enter Tryd.func54, Tryd.ntmps54
   go_wp2_with (first | ((with_reducible refine gate_callee (f := 102) rfl ?_); refine goesL_ (some 14) rfl rfl Tryd.func102 (by kernel_rfl) rfl #[.string a0] rfl (by (try simp only [List.map_toArray, List.map_cons, List.map_nil]); first | done | rfl | (simp only [List.length_drop, List.length_take]; rfl)) ?_; (with_reducible refine (spec_l11Rows.calls k a0 t290 t291 false _ A2.out).mono ?_); rintro e w24 ⟨v293, rfl, ho0, hb⟩; refine ⟨_, rfl, ?_⟩; have n0_ := Aside0.mk (Kd.S_lower ho0 (below_size (FB HB.out))); have n1_ := Aside0.mk (below_step (FB HB.out) hb); clear HB; have HO294 := n0_; have HB := n1_; clear n0_ n1_; (try clear hb)))
   go_ret2
   exact ⟨by first | rfl | (simp [errW_none, errW_some] <;> rfl) | (simp [*, errW_none, errW_some] <;> rfl), FB HB.out⟩

end Go.Proofs.YtmjoigpnnechgaaDoor.G
