-- PRINTED by print.py (a twelfth state) out of the translation. Not trusted: Lean checks it.
import Derived.Test.YtmjoigpnnechgaaDoorFx0
import Derived.Test.YtmjoigpnnechgaaDoorFx6
import Derived.Test.YtmjoigpnnechgaaDoorFx8
import Derived.Test.YtmjoigpnnechgaaDoorFx9
import Derived.Test.YtmjoigpnnechgaaDoorFGstr
namespace Go.Proofs.YtmjoigpnnechgaaDoor.F
open Go.RowKit Go.Proofs.YtmjoigpnnechgaaDoorW.PrintWords Go.Proofs.YtmjoigpnnechgaaDoorW.PrintLast Go.Proofs.YtmjoigpnnechgaaDoorW.PrintMore
attribute [local go_sem] max2_int min2_int max_two min_two max_three min_three max_four min_four   -- for this text's walks alone
set_option linter.unusedVariables false
set_option linter.unusedSimpArgs false

/-! ### impl_MultiplyArrays: function 57 -/
mutual
def impl_MultiplyArrays.j0 : Nat → ByteArray → ByteArray → List Int → Bool → Option (ByteArray × Bool)
 | 0, _, _, _, _ => none
 | k + 1, x0, x1, x8, x46 => if x46 = true then (some ((⟨#[]⟩ : ByteArray), false)) else ((impl_rowsOf.f k x0).bind fun bt439 => ((impl_rowsOf.f k x1).bind fun bt443 => (impl_MultiplyArrays.l0 k x8 bt443.1 (([] : List (List Int))) bt439.1 (bt439.1.length : Int) 0)))
def impl_MultiplyArrays.l0 : Nat → List Int → List (List Int) → List (List Int) → List (List Int) → Int → Int → Option (ByteArray × Bool)
 | 0, _, _, _, _, _, _ => none
 | k + 1, x8, x12, x14, x58, x59, x60 => if x60 < x59 then (if 0 ≤ x60 then (if x60 < (x58.length : Int) then (if 1 < (x8.length : Int) then (impl_MultiplyArrays.l1 k x8 x12 x14 (rd_L3 x58 x60) (([] : List Int)) x58 x59 x60 (rd x8 1) 0) else (none)) else (none)) else (none)) else ((impl_rowed.f k x14).bind fun bt450 => (some (bt450.1, bt450.2)))
def impl_MultiplyArrays.l1 : Nat → List Int → List (List Int) → List (List Int) → List Int → List Int → List (List Int) → Int → Int → Int → Int → Option (ByteArray × Bool)
 | 0, _, _, _, _, _, _, _, _, _, _ => none
 | k + 1, x8, x12, x14, x16, x17, x58, x59, x60, x67, x68 => if x68 < x67 then (impl_MultiplyArrays.l2 k x8 x12 x14 x16 x17 x68 0 x58 x59 x60 x67 x68 x16 (x16.length : Int) 0) else (if x14.length < 5864062014805 then (impl_MultiplyArrays.l0 k x8 x12 (x14 ++ [x17]) x58 x59 (wrap64 (x60 + 1))) else (none))
def impl_MultiplyArrays.l2 : Nat → List Int → List (List Int) → List (List Int) → List Int → List Int → Int → Int → List (List Int) → Int → Int → Int → Int → List Int → Int → Int → Option (ByteArray × Bool)
 | 0, _, _, _, _, _, _, _, _, _, _, _, _, _, _, _ => none
 | k + 1, x8, x12, x14, x16, x17, x18, x19, x58, x59, x60, x67, x68, x71, x72, x73 => if x73 < x72 then (if 0 ≤ x73 then (if x73 < (x71.length : Int) then (if x73 < (x12.length : Int) then (if 0 ≤ x18 then (if x18 < ((rd_L3 x12 x73).length : Int) then (impl_MultiplyArrays.l2 k x8 x12 x14 x16 x17 x18 (Int.tmod (wrap64 (x19 + (wrap64 ((rd x71 x73) * (rd (rd_L3 x12 x73) x18))))) 10007) x58 x59 x60 x67 x68 x71 x72 (wrap64 (x73 + 1))) else (none)) else (none)) else (none)) else (none)) else (none)) else (if x17.length < 17592186044416 then (impl_MultiplyArrays.l1 k x8 x12 x14 x16 (x17 ++ [x19]) x58 x59 x60 x67 (wrap64 (x68 + 1))) else (none))
end
def impl_MultiplyArrays.f (k : Nat) (a0 : ByteArray) (a1 : ByteArray) : Option (ByteArray × Bool) := (impl_ShapeOf.f k a0 2).bind fun bt429 => ((impl_ShapeOf.f k a1 2).bind fun bt433 => (if bt429.2 = true then (if bt433.2 = true then (if 1 < (bt429.1.length : Int) then (if 0 < (bt433.1.length : Int) then (impl_MultiplyArrays.j0 k a0 a1 bt433.1 ((rd bt429.1 1) != (rd bt433.1 0))) else (none)) else (none)) else (impl_MultiplyArrays.j0 k a0 a1 bt433.1 true)) else (impl_MultiplyArrays.j0 k a0 a1 bt433.1 true)))
theorem impl_MultiplyArrays.mono_l : ∀ k, (∀ y0 y1 y2 y3, LeO (impl_MultiplyArrays.j0 k y0 y1 y2 y3) (impl_MultiplyArrays.j0 (k + 1) y0 y1 y2 y3)) ∧ (∀ y0 y1 y2 y3 y4 y5, LeO (impl_MultiplyArrays.l0 k y0 y1 y2 y3 y4 y5) (impl_MultiplyArrays.l0 (k + 1) y0 y1 y2 y3 y4 y5)) ∧ (∀ y0 y1 y2 y3 y4 y5 y6 y7 y8 y9, LeO (impl_MultiplyArrays.l1 k y0 y1 y2 y3 y4 y5 y6 y7 y8 y9) (impl_MultiplyArrays.l1 (k + 1) y0 y1 y2 y3 y4 y5 y6 y7 y8 y9)) ∧ (∀ y0 y1 y2 y3 y4 y5 y6 y7 y8 y9 y10 y11 y12 y13 y14, LeO (impl_MultiplyArrays.l2 k y0 y1 y2 y3 y4 y5 y6 y7 y8 y9 y10 y11 y12 y13 y14) (impl_MultiplyArrays.l2 (k + 1) y0 y1 y2 y3 y4 y5 y6 y7 y8 y9 y10 y11 y12 y13 y14))
 | 0 => ⟨fun _ _ _ _ r h => by simp [impl_MultiplyArrays.j0] at h, fun _ _ _ _ _ _ r h => by simp [impl_MultiplyArrays.l0] at h, fun _ _ _ _ _ _ _ _ _ _ r h => by simp [impl_MultiplyArrays.l1] at h, fun _ _ _ _ _ _ _ _ _ _ _ _ _ _ _ r h => by simp [impl_MultiplyArrays.l2] at h⟩
 | k + 1 => by
   obtain ⟨ih0, ih1, ih2, ih3⟩ := impl_MultiplyArrays.mono_l k
   refine ⟨?_, ?_, ?_, ?_⟩
   · intro y0 y1 y2 y3
     unfold impl_MultiplyArrays.j0
     repeat' first
     | (with_reducible exact ih0 _ _ _ _)
     | (with_reducible exact ih1 _ _ _ _ _ _)
     | (with_reducible exact ih2 _ _ _ _ _ _ _ _ _ _)
     | (with_reducible exact ih3 _ _ _ _ _ _ _ _ _ _ _ _ _ _ _)
     | (with_reducible exact impl_ShapeOf.mono _ _ _)
     | (with_reducible exact impl_rowed.mono _ _)
     | (with_reducible exact impl_rowsOf.mono _ _)
     | (with_reducible exact LeO.refl _)
     | (with_reducible exact LeO.none _)
     | (with_reducible refine LeO.ite ?_ ?_)
     | (with_reducible refine LeO.bind ?_ (fun _ => ?_))
     | exact ih0 _ _ _ _
     | exact ih1 _ _ _ _ _ _
     | exact ih2 _ _ _ _ _ _ _ _ _ _
     | exact ih3 _ _ _ _ _ _ _ _ _ _ _ _ _ _ _
     | exact impl_ShapeOf.mono _ _ _
     | exact impl_rowed.mono _ _
     | exact impl_rowsOf.mono _ _
     | exact LeO.none _
     | refine LeO.ite ?_ ?_
     | refine LeO.bind ?_ (fun _ => ?_)
   · intro y0 y1 y2 y3 y4 y5
     unfold impl_MultiplyArrays.l0
     repeat' first
     | (with_reducible exact ih0 _ _ _ _)
     | (with_reducible exact ih1 _ _ _ _ _ _)
     | (with_reducible exact ih2 _ _ _ _ _ _ _ _ _ _)
     | (with_reducible exact ih3 _ _ _ _ _ _ _ _ _ _ _ _ _ _ _)
     | (with_reducible exact impl_ShapeOf.mono _ _ _)
     | (with_reducible exact impl_rowed.mono _ _)
     | (with_reducible exact impl_rowsOf.mono _ _)
     | (with_reducible exact LeO.refl _)
     | (with_reducible exact LeO.none _)
     | (with_reducible refine LeO.ite ?_ ?_)
     | (with_reducible refine LeO.bind ?_ (fun _ => ?_))
     | exact ih0 _ _ _ _
     | exact ih1 _ _ _ _ _ _
     | exact ih2 _ _ _ _ _ _ _ _ _ _
     | exact ih3 _ _ _ _ _ _ _ _ _ _ _ _ _ _ _
     | exact impl_ShapeOf.mono _ _ _
     | exact impl_rowed.mono _ _
     | exact impl_rowsOf.mono _ _
     | exact LeO.none _
     | refine LeO.ite ?_ ?_
     | refine LeO.bind ?_ (fun _ => ?_)
   · intro y0 y1 y2 y3 y4 y5 y6 y7 y8 y9
     unfold impl_MultiplyArrays.l1
     repeat' first
     | (with_reducible exact ih0 _ _ _ _)
     | (with_reducible exact ih1 _ _ _ _ _ _)
     | (with_reducible exact ih2 _ _ _ _ _ _ _ _ _ _)
     | (with_reducible exact ih3 _ _ _ _ _ _ _ _ _ _ _ _ _ _ _)
     | (with_reducible exact impl_ShapeOf.mono _ _ _)
     | (with_reducible exact impl_rowed.mono _ _)
     | (with_reducible exact impl_rowsOf.mono _ _)
     | (with_reducible exact LeO.refl _)
     | (with_reducible exact LeO.none _)
     | (with_reducible refine LeO.ite ?_ ?_)
     | (with_reducible refine LeO.bind ?_ (fun _ => ?_))
     | exact ih0 _ _ _ _
     | exact ih1 _ _ _ _ _ _
     | exact ih2 _ _ _ _ _ _ _ _ _ _
     | exact ih3 _ _ _ _ _ _ _ _ _ _ _ _ _ _ _
     | exact impl_ShapeOf.mono _ _ _
     | exact impl_rowed.mono _ _
     | exact impl_rowsOf.mono _ _
     | exact LeO.none _
     | refine LeO.ite ?_ ?_
     | refine LeO.bind ?_ (fun _ => ?_)
   · intro y0 y1 y2 y3 y4 y5 y6 y7 y8 y9 y10 y11 y12 y13 y14
     unfold impl_MultiplyArrays.l2
     repeat' first
     | (with_reducible exact ih0 _ _ _ _)
     | (with_reducible exact ih1 _ _ _ _ _ _)
     | (with_reducible exact ih2 _ _ _ _ _ _ _ _ _ _)
     | (with_reducible exact ih3 _ _ _ _ _ _ _ _ _ _ _ _ _ _ _)
     | (with_reducible exact impl_ShapeOf.mono _ _ _)
     | (with_reducible exact impl_rowed.mono _ _)
     | (with_reducible exact impl_rowsOf.mono _ _)
     | (with_reducible exact LeO.refl _)
     | (with_reducible exact LeO.none _)
     | (with_reducible refine LeO.ite ?_ ?_)
     | (with_reducible refine LeO.bind ?_ (fun _ => ?_))
     | exact ih0 _ _ _ _
     | exact ih1 _ _ _ _ _ _
     | exact ih2 _ _ _ _ _ _ _ _ _ _
     | exact ih3 _ _ _ _ _ _ _ _ _ _ _ _ _ _ _
     | exact impl_ShapeOf.mono _ _ _
     | exact impl_rowed.mono _ _
     | exact impl_rowsOf.mono _ _
     | exact LeO.none _
     | refine LeO.ite ?_ ?_
     | refine LeO.bind ?_ (fun _ => ?_)
theorem impl_MultiplyArrays.mono : ∀ a0 a1 k, LeO (impl_MultiplyArrays.f k a0 a1) (impl_MultiplyArrays.f (k + 1) a0 a1) := by
 intro a0 a1 k
 obtain ⟨ih0, ih1, ih2, ih3⟩ := impl_MultiplyArrays.mono_l k
 unfold impl_MultiplyArrays.f
 repeat' first
     | (with_reducible exact ih0 _ _ _ _)
     | (with_reducible exact ih1 _ _ _ _ _ _)
     | (with_reducible exact ih2 _ _ _ _ _ _ _ _ _ _)
     | (with_reducible exact ih3 _ _ _ _ _ _ _ _ _ _ _ _ _ _ _)
     | (with_reducible exact impl_ShapeOf.mono _ _ _)
     | (with_reducible exact impl_rowed.mono _ _)
     | (with_reducible exact impl_rowsOf.mono _ _)
     | (with_reducible exact LeO.refl _)
     | (with_reducible exact LeO.none _)
     | (with_reducible refine LeO.ite ?_ ?_)
     | (with_reducible refine LeO.bind ?_ (fun _ => ?_))
     | exact ih0 _ _ _ _
     | exact ih1 _ _ _ _ _ _
     | exact ih2 _ _ _ _ _ _ _ _ _ _
     | exact ih3 _ _ _ _ _ _ _ _ _ _ _ _ _ _ _
     | exact impl_ShapeOf.mono _ _ _
     | exact impl_rowed.mono _ _
     | exact impl_rowsOf.mono _ _
     | exact LeO.none _
     | refine LeO.ite ?_ ?_
     | refine LeO.bind ?_ (fun _ => ?_)
set_option maxHeartbeats 8000000 in
set_option maxRecDepth 100000 in
theorem impl_MultiplyArrays.calls (k : Nat) (a0 : ByteArray) (a1 : ByteArray) (r1 : ByteArray) (r2 : Bool) (w : World) (h : impl_MultiplyArrays.f k a0 a1 = some (r1, r2)) (hL_ : LaidW w) :
   Calls Tryd.prog 57 #[.string a0, .string a1] w fun e w' => e = .returned (.tuple #[.string r1, .bool r2]) ∧ Below w.heap.size w w' := by
 have HLd := Aside0.mk hL_
 clear hL_
 have HB := Aside0.mk (Below.refl w.heap.size w)
 have H : ((impl_ShapeOf.f k a0 2).bind fun bt429 => ((impl_ShapeOf.f k a1 2).bind fun bt433 => (if bt429.2 = true then (if bt433.2 = true then (if 1 < (bt429.1.length : Int) then (if 0 < (bt433.1.length : Int) then (impl_MultiplyArrays.j0 k a0 a1 bt433.1 ((rd bt429.1 1) != (rd bt433.1 0))) else (none)) else (none)) else (impl_MultiplyArrays.j0 k a0 a1 bt433.1 true)) else (impl_MultiplyArrays.j0 k a0 a1 bt433.1 true)))) = some (r1, r2) := h
 clear h
 replace H := Option.bind_eq_some_iff.mp H
 obtain ⟨⟨t429, t430⟩, A30, H⟩ := H
 replace H : ((impl_ShapeOf.f k a1 2).bind fun bt433 => (if t430 = true then (if bt433.2 = true then (if 1 < (t429.length : Int) then (if 0 < (bt433.1.length : Int) then (impl_MultiplyArrays.j0 k a0 a1 bt433.1 ((rd t429 1) != (rd bt433.1 0))) else (none)) else (none)) else (impl_MultiplyArrays.j0 k a0 a1 bt433.1 true)) else (impl_MultiplyArrays.j0 k a0 a1 bt433.1 true))) = some (r1, r2) := H
 have A3 := Aside0.mk A30
 clear A30
 replace H := Option.bind_eq_some_iff.mp H
 obtain ⟨⟨t433, t434⟩, A40, H⟩ := H
 replace H : (if t430 = true then (if t434 = true then (if 1 < (t429.length : Int) then (if 0 < (t433.length : Int) then (impl_MultiplyArrays.j0 k a0 a1 t433 ((rd t429 1) != (rd t433 0))) else (none)) else (none)) else (impl_MultiplyArrays.j0 k a0 a1 t433 true)) else (impl_MultiplyArrays.j0 k a0 a1 t433 true)) = some (r1, r2) := H
 have A4 := Aside0.mk A40
 clear A40
 have HC5 := Aside0.mk H
 clear H
 go_enter Tryd.func57, Tryd.ntmps57
 iterate 3 ((try go_upto_region 3 with (first | (go_at_call 65; (with_reducible refine (impl_ShapeOf.calls k a0 2 t429 t430 _ A3.out (LaidW.after HLd.out (FB HB.out))).mono ?_); rintro e w6 ⟨v431, rfl, ho0, hb⟩; have n0_ := Aside0.mk (Kd.R_lower ho0 (below_size (FB HB.out))); have n1_ := Aside0.mk (below_step (FB HB.out) hb); clear HB; have HO432 := n0_; have HB := n1_; clear n0_ n1_; (try clear hb)) | (go_at_call 65; (with_reducible refine (impl_ShapeOf.calls k a1 2 t433 t434 _ A4.out (LaidW.after HLd.out (FB HB.out))).mono ?_); rintro e w7 ⟨v435, rfl, ho0, hb⟩; have n0_ := Aside0.mk (Kd.R_elder' (FR HO432.out) (Kd.R_base ho0) hb); have n1_ := Aside0.mk (Kd.R_lower (Kd.R_new' ho0 (Kd.R_lt (FR HO432.out))) (below_size (FB HB.out))); have n2_ := Aside0.mk (below_step (FB HB.out) hb); clear HO432; clear HB; have HO432 := n0_; have HO436 := n1_; have HB := n2_; clear n0_ n1_ n2_; (try clear hb)))); (try go_quiet (first | (go_at_call 65; (with_reducible refine (impl_ShapeOf.calls k a0 2 t429 t430 _ A3.out (LaidW.after HLd.out (FB HB.out))).mono ?_); rintro e w6 ⟨v431, rfl, ho0, hb⟩; have n0_ := Aside0.mk (Kd.R_lower ho0 (below_size (FB HB.out))); have n1_ := Aside0.mk (below_step (FB HB.out) hb); clear HB; have HO432 := n0_; have HB := n1_; clear n0_ n1_; (try clear hb)) | (go_at_call 65; (with_reducible refine (impl_ShapeOf.calls k a1 2 t433 t434 _ A4.out (LaidW.after HLd.out (FB HB.out))).mono ?_); rintro e w7 ⟨v435, rfl, ho0, hb⟩; have n0_ := Aside0.mk (Kd.R_elder' (FR HO432.out) (Kd.R_base ho0) hb); have n1_ := Aside0.mk (Kd.R_lower (Kd.R_new' ho0 (Kd.R_lt (FR HO432.out))) (below_size (FB HB.out))); have n2_ := Aside0.mk (below_step (FB HB.out) hb); clear HO432; clear HB; have HO432 := n0_; have HO436 := n1_; have HB := n2_; clear n0_ n1_ n2_; (try clear hb)))))
 (try simp only [Act.put, List.setIfInBounds_toArray, List.set_cons_zero, List.set_cons_succ])
 go_cut [46] (fun v46 wc => ∃ (kq : Nat) (x46_4 : Bool), v46 = .bool x46_4 ∧ Aside0 (impl_MultiplyArrays.j0 kq a0 a1 t433 x46_4 = some (r1, r2)) ∧ Aside0 (kq ≤ k) ∧ Aside0 (Kd.R (Kd.int .i64) 3 wc w.heap.size (fun _ => True) v435 t433) ∧ Aside0 (Below w.heap.size w wc))
 case first =>
   have H := HC5.out
   clear HC5
   by_cases c8 : t430 = true
   · subst c8
     have H1 : (if t434 = true then (if 1 < (t429.length : Int) then (if 0 < (t433.length : Int) then (impl_MultiplyArrays.j0 k a0 a1 t433 ((rd t429 1) != (rd t433 0))) else (none)) else (none)) else (impl_MultiplyArrays.j0 k a0 a1 t433 true)) = some (r1, r2) := by rw [if_pos rfl] at H; exact H
     clear H
     have H := H1
     clear H1
     by_cases c9 : t434 = true
     · subst c9
       have H1 : (if 1 < (t429.length : Int) then (if 0 < (t433.length : Int) then (impl_MultiplyArrays.j0 k a0 a1 t433 ((rd t429 1) != (rd t433 0))) else (none)) else (none)) = some (r1, r2) := by rw [if_pos rfl] at H; exact H
       clear H
       have H := H1
       clear H1
       by_cases c10 : 1 < (t429.length : Int)
       · rw [if_pos c10] at H
         have c10b0 : decide (1 < (t429.length : Int)) = true := decide_eq_true c10
         have c10b1 : decide (1 < t429.length) = true := decide_eq_true (by omega)
         clear c10
         (first | rw [c10b0] | (simp only [i64_w, i32_w]; rw [c10b0]) | skip)
         by_cases c11 : 0 < (t433.length : Int)
         · rw [if_pos c11] at H
           have c11b0 : decide (0 < (t433.length : Int)) = true := decide_eq_true c11
           have c11b1 : decide (0 < t433.length) = true := decide_eq_true (by omega)
           clear c11
           have H' := Aside0.mk H
           clear H
           obtain ⟨Ao12, co12, eo12⟩ := Kd.R_slice HO432.out
           subst eo12
           have p437 : 0 ≤ (1 : Int) := (by omega)
           have q437 : 1 < (t429.length : Int) := of_decide_eq_true (by assumption)
           obtain ⟨ad437, e437, hx437_0⟩ := Kd.at_int (Kd.R_reads' HO432.out).2.2 1 p437 q437
           cases e437
           (try simp only [show (1 : Int).toNat = 1 from rfl, Nat.reduceMul, Nat.reduceEqDiff, Go.Addr.add, ↓reduceIte] at hx437_0)
           have qi437 : (1 < t429.length) = True := eq_true (by omega)
           (try rw [show ((1 : Int)).toNat = 1 from rfl] at hx437_0)
           replace p437 := eq_true p437
           replace q437 := eq_true q437
           obtain ⟨Ao13, co13, eo13⟩ := Kd.R_slice HO436.out
           subst eo13
           have p438 : 0 ≤ (0 : Int) := (by omega)
           have q438 : 0 < (t433.length : Int) := of_decide_eq_true (by assumption)
           obtain ⟨ad438, e438, hx438_0⟩ := Kd.at_int (Kd.R_reads' HO436.out).2.2 0 p438 q438
           cases e438
           have qi438 : (0 < t433.length) = True := eq_true (by omega)
           (try rw [show ((0 : Int)).toNat = 0 from rfl] at hx438_0)
           (try rw [Addr.add_zero'] at hx438_0)
           replace p438 := eq_true p438
           replace q438 := eq_true q438
           go_wp2
           repeat (go_quiet (fail); try go_wp2)
           go_meet
           case rel => exact ⟨_, (((rd t429 1) != (rd t433 0))), (by first | rfl | (simp; done) | (simp [*]; done)), H', ⟨by first | omega | exact Nat.le_refl _⟩, ⟨(FR (Kd.R_mono HO436.out (fun _ hk => trivial)))⟩, ⟨FB HB.out⟩⟩
         · rw [if_neg c11] at H
           exact absurd H (by simp)
       · rw [if_neg c10] at H
         exact absurd H (by simp)
     · replace c9 := Bool.eq_false_iff.mpr c9
       subst c9
       have H1 : (impl_MultiplyArrays.j0 k a0 a1 t433 true) = some (r1, r2) := by rw [if_neg (show ¬ (false = true) by decide)] at H; exact H
       clear H
       have H := H1
       clear H1
       have H' := Aside0.mk H
       clear H
       go_wp2
       repeat (go_quiet (fail); try go_wp2)
       go_meet
       case rel => exact ⟨_, (true), (by first | rfl | (simp; done) | (simp [*]; done)), H', ⟨by first | omega | exact Nat.le_refl _⟩, ⟨(FR (Kd.R_mono HO436.out (fun _ hk => trivial)))⟩, ⟨FB HB.out⟩⟩
   · replace c8 := Bool.eq_false_iff.mpr c8
     subst c8
     have H1 : (impl_MultiplyArrays.j0 k a0 a1 t433 true) = some (r1, r2) := by rw [if_neg (show ¬ (false = true) by decide)] at H; exact H
     clear H
     have H := H1
     clear H1
     have H' := Aside0.mk H
     clear H
     go_wp2
     repeat (go_quiet (fail); try go_wp2)
     go_meet
     case rel => exact ⟨_, (true), (by first | rfl | (simp; done) | (simp [*]; done)), H', ⟨by first | omega | exact Nat.le_refl _⟩, ⟨(FR (Kd.R_mono HO436.out (fun _ hk => trivial)))⟩, ⟨FB HB.out⟩⟩
 case rest =>
   clear HC5
   (try clear c1); (try clear p2); (try clear p4); (try clear q4); (try clear hx4); (try clear qi4); (try clear c5); (try clear c8); (try clear c9); (try clear c10); (try clear c10b0); (try clear c10b1); (try clear c11); (try clear c11b0); (try clear c11b1); (try clear hx437_0); (try clear hx438_0); (try clear p437); (try clear p438); (try clear q437); (try clear q438)
   obtain ⟨kq, x46_4, rfl, HA, HJ4, HO_8, HB⟩ := hcut
   cases kq with
   | zero => exact absurd HA.out (by simp [impl_MultiplyArrays.j0])
   | succ kj4 =>
     have H := HA.out
     clear HA
     simp only [impl_MultiplyArrays.j0] at H
     by_cases c14 : x46_4 = true
     · subst c14
       have H1 : (some ((⟨#[]⟩ : ByteArray), false)) = some (r1, r2) := by rw [if_pos rfl] at H; exact H
       clear H
       have H := H1
       clear H1
       simp only [Option.some.injEq, Prod.mk.injEq] at H
       obtain ⟨rfl, rfl⟩ := H
       go_wp2
       repeat (go_quiet (fail); try go_wp2)
       go_ret2
       exact ⟨by first | rfl | (simp [errW_none, errW_some] <;> rfl) | (simp [*, errW_none, errW_some] <;> rfl), FB HB.out⟩
     · replace c14 := Bool.eq_false_iff.mpr c14
       subst c14
       have H1 : ((impl_rowsOf.f kj4 a0).bind fun bt439 => ((impl_rowsOf.f kj4 a1).bind fun bt443 => (impl_MultiplyArrays.l0 kj4 t433 bt443.1 (([] : List (List Int))) bt439.1 (bt439.1.length : Int) 0))) = some (r1, r2) := by rw [if_neg (show ¬ (false = true) by decide)] at H; exact H
       clear H
       have H := H1
       clear H1
       replace H := Option.bind_eq_some_iff.mp H
       obtain ⟨⟨t439, t440⟩, A150, H⟩ := H
       replace H : ((impl_rowsOf.f kj4 a1).bind fun bt443 => (impl_MultiplyArrays.l0 kj4 t433 bt443.1 (([] : List (List Int))) t439 (t439.length : Int) 0)) = some (r1, r2) := H
       have A15 := Aside0.mk A150
       clear A150
       replace H := Option.bind_eq_some_iff.mp H
       obtain ⟨⟨t443, t444⟩, A160, H⟩ := H
       replace H : (impl_MultiplyArrays.l0 kj4 t433 t443 (([] : List (List Int))) t439 (t439.length : Int) 0) = some (r1, r2) := H
       have A16 := Aside0.mk A160
       clear A160
       obtain ⟨y447, hy447⟩ : ∃ y_ : List (List Int), y_ = (([] : List (List Int))) := ⟨_, rfl⟩
       replace H : (impl_MultiplyArrays.l0 kj4 t433 t443 y447 t439 (t439.length : Int) 0) = some (r1, r2) := by first | (rw [hy447]; with_reducible exact H) | (have H2_ := (Option.bind_some _ _).symm.trans H; rw [hy447]; with_reducible exact H2_) | (have H2_ := (Option.bind_some _ _).symm.trans H; with_reducible exact H2_) | with_reducible exact H | (rw [hy447]; exact H) | exact H
       have Ny447 := Aside0.mk hy447
       clear hy447
       have H' := Aside0.mk H
       clear H
       iterate 3 ((try go_wp2_with (first | (go_at_call 76; (with_reducible refine (impl_rowsOf.calls kj4 a0 t439 t440 _ A15.out (LaidW.after HLd.out (FB HB.out))).mono ?_); rintro e w17 ⟨v441, rfl, ho0, hb⟩; have n0_ := Aside0.mk (Kd.R_below (FR HO_8.out) hb); have n1_ := Aside0.mk (Kd.S_lower (Kd.S_new' ho0 (Kd.R_lt (FR HO_8.out))) (below_size (FB HB.out))); have n2_ := Aside0.mk (below_step (FB HB.out) hb); clear HO_8; clear HB; have HO_8 := n0_; have HO442 := n1_; have HB := n2_; clear n0_ n1_ n2_; (try clear hb)) | (go_at_call 76; (with_reducible refine (impl_rowsOf.calls kj4 a1 t443 t444 _ A16.out (LaidW.after HLd.out (FB HB.out))).mono ?_); rintro e w18 ⟨v445, rfl, ho0, hb⟩; have n0_ := Aside0.mk (Kd.R_below (FR HO_8.out) hb); have n1_ := Aside0.mk (Kd.S_elder' (FS HO442.out) (Kd.S_base ho0) hb); have n2_ := Aside0.mk (Kd.S_lower (Kd.S_new' (Kd.S_new' ho0 (Kd.R_lt (FR HO_8.out))) (Kd.S_lt (FS HO442.out))) (below_size (FB HB.out))); have n3_ := Aside0.mk (below_step (FB HB.out) hb); clear HO_8; clear HO442; clear HB; have HO_8 := n0_; have HO442 := n1_; have HO446 := n2_; have HB := n3_; clear n0_ n1_ n2_ n3_; (try clear hb)) | ((with_reducible refine gate_dst (N := 57) rfl ?_); refine Kd.S_lit (Kd.slice 3 (Kd.int .i64)) _ 22 ?hg (N := 57) ?hd (xs := ([] : List (List Int))) (inner := []) (ok := fun _ => True) (okp := fun _ => True) ?hr ?hp (fun _ hk => hk) trivial (Below.refl _ _) (Nat.le_refl _) (by simp) ?_; (case hd => rfl); (case hg => rfl); (case hr => first | (go_simp; done) | (go_simp; rfl)); (case hp => exact (Reps.none _ _)); intro v448 w19 ho20 hb hg_ hnew_; clear hg_ hnew_; (first | rw [← Ny447.out] at ho20 | (simp only [Int.reduceToNat] at ho20; rw [← Ny447.out] at ho20)); have n0_ := Aside0.mk (Kd.R_below (FR HO_8.out) hb); have n1_ := Aside0.mk (Kd.S_elder' (FS HO442.out) (Kd.S_base ho20) hb); have n2_ := Aside0.mk (Kd.S_elder' (FS HO446.out) (Kd.S_base ho20) hb); have n3_ := Aside0.mk (Kd.S_lower (Kd.S_new' (Kd.S_new' (Kd.S_new' ho20 (Kd.R_lt (FR HO_8.out))) (Kd.S_lt (FS HO442.out))) (Kd.S_lt (FS HO446.out))) (below_size (FB HB.out))); have n4_ := Aside0.mk (below_step (FB HB.out) hb); clear HO_8; clear HO442; clear HO446; clear HB; have HO_8 := n0_; have HO442 := n1_; have HO446 := n2_; have HO449 := n3_; have HB := n4_; clear n0_ n1_ n2_ n3_ n4_; clear hb ho20; obtain ⟨Ao21, co21, eo21⟩ := Kd.S_slice HO442.out; subst eo21))); (try go_quiet (first | (go_at_call 76; (with_reducible refine (impl_rowsOf.calls kj4 a0 t439 t440 _ A15.out (LaidW.after HLd.out (FB HB.out))).mono ?_); rintro e w17 ⟨v441, rfl, ho0, hb⟩; have n0_ := Aside0.mk (Kd.R_below (FR HO_8.out) hb); have n1_ := Aside0.mk (Kd.S_lower (Kd.S_new' ho0 (Kd.R_lt (FR HO_8.out))) (below_size (FB HB.out))); have n2_ := Aside0.mk (below_step (FB HB.out) hb); clear HO_8; clear HB; have HO_8 := n0_; have HO442 := n1_; have HB := n2_; clear n0_ n1_ n2_; (try clear hb)) | (go_at_call 76; (with_reducible refine (impl_rowsOf.calls kj4 a1 t443 t444 _ A16.out (LaidW.after HLd.out (FB HB.out))).mono ?_); rintro e w18 ⟨v445, rfl, ho0, hb⟩; have n0_ := Aside0.mk (Kd.R_below (FR HO_8.out) hb); have n1_ := Aside0.mk (Kd.S_elder' (FS HO442.out) (Kd.S_base ho0) hb); have n2_ := Aside0.mk (Kd.S_lower (Kd.S_new' (Kd.S_new' ho0 (Kd.R_lt (FR HO_8.out))) (Kd.S_lt (FS HO442.out))) (below_size (FB HB.out))); have n3_ := Aside0.mk (below_step (FB HB.out) hb); clear HO_8; clear HO442; clear HB; have HO_8 := n0_; have HO442 := n1_; have HO446 := n2_; have HB := n3_; clear n0_ n1_ n2_ n3_; (try clear hb)) | ((with_reducible refine gate_dst (N := 57) rfl ?_); refine Kd.S_lit (Kd.slice 3 (Kd.int .i64)) _ 22 ?hg (N := 57) ?hd (xs := ([] : List (List Int))) (inner := []) (ok := fun _ => True) (okp := fun _ => True) ?hr ?hp (fun _ hk => hk) trivial (Below.refl _ _) (Nat.le_refl _) (by simp) ?_; (case hd => rfl); (case hg => rfl); (case hr => first | (go_simp; done) | (go_simp; rfl)); (case hp => exact (Reps.none _ _)); intro v448 w19 ho20 hb hg_ hnew_; clear hg_ hnew_; (first | rw [← Ny447.out] at ho20 | (simp only [Int.reduceToNat] at ho20; rw [← Ny447.out] at ho20)); have n0_ := Aside0.mk (Kd.R_below (FR HO_8.out) hb); have n1_ := Aside0.mk (Kd.S_elder' (FS HO442.out) (Kd.S_base ho20) hb); have n2_ := Aside0.mk (Kd.S_elder' (FS HO446.out) (Kd.S_base ho20) hb); have n3_ := Aside0.mk (Kd.S_lower (Kd.S_new' (Kd.S_new' (Kd.S_new' ho20 (Kd.R_lt (FR HO_8.out))) (Kd.S_lt (FS HO442.out))) (Kd.S_lt (FS HO446.out))) (below_size (FB HB.out))); have n4_ := Aside0.mk (below_step (FB HB.out) hb); clear HO_8; clear HO442; clear HO446; clear HB; have HO_8 := n0_; have HO442 := n1_; have HO446 := n2_; have HO449 := n3_; have HB := n4_; clear n0_ n1_ n2_ n3_ n4_; clear hb ho20; obtain ⟨Ao21, co21, eo21⟩ := Kd.S_slice HO442.out; subst eo21))))
       go_loopg [14, 60] kj4 (fun kq v14 v60 w' => ∃ (x14_2 : List (List Int)) (x60_2 : Int), v60 = .int .i64 x60_2 ∧ Aside0 (impl_MultiplyArrays.l0 kq t433 t443 x14_2 t439 (t439.length : Int) x60_2 = some (r1, r2)) ∧ Aside0 (kq ≤ kj4) ∧ Aside0 (Kd.R (Kd.int .i64) 3 w' w.heap.size (fun _ => True) v435 t433) ∧ Aside0 (Kd.S (Kd.slice 3 (Kd.int .i64)) 22 w' w.heap.size (fun k_ => some k_ ≠ (v435 : Value).ownBlock ∧ some k_ ≠ (v14 : Value).ownBlock ∧ some k_ ≠ ((.slice Ao21 t439.length co21) : Value).ownBlock) v445 t443) ∧ Aside0 (Kd.S (Kd.slice 3 (Kd.int .i64)) 22 w' w.heap.size (fun k_ => some k_ ≠ (v435 : Value).ownBlock ∧ some k_ ≠ (v445 : Value).ownBlock ∧ some k_ ≠ ((.slice Ao21 t439.length co21) : Value).ownBlock) v14 x14_2) ∧ Aside0 (Kd.S (Kd.slice 3 (Kd.int .i64)) 22 w' w.heap.size (fun k_ => some k_ ≠ (v435 : Value).ownBlock ∧ some k_ ≠ (v445 : Value).ownBlock ∧ some k_ ≠ (v14 : Value).ownBlock) (.slice Ao21 t439.length co21) t439) ∧ Aside0 (Below w.heap.size w w'))
       case atStart => exact ⟨(y447), (0), (by first | rfl | (simp; done) | (simp [*]; done)), H', ⟨Nat.le_refl _⟩, ⟨(FR HO_8.out)⟩, ⟨(FS (Kd.S_mono HO446.out (fun _ hk => ⟨hk.1.1.2, ⟨hk.2, hk.1.2⟩⟩)))⟩, ⟨(FS (Kd.S_mono HO449.out (fun _ hk => ⟨hk.1.1.2, ⟨hk.2, hk.1.2⟩⟩)))⟩, ⟨(FS (Kd.S_mono HO442.out (fun _ hk => ⟨hk.1.1.2, ⟨hk.1.2, hk.2⟩⟩)))⟩, ⟨FB HB.out⟩⟩
       case round =>
         clear H'
         (try clear c1); (try clear p2); (try clear p4); (try clear q4); (try clear hx4); (try clear qi4); (try clear c5); (try clear c8); (try clear c9); (try clear c10); (try clear c10b0); (try clear c10b1); (try clear c11); (try clear c11b0); (try clear c11b1); (try clear c14); (try clear hx437_0); (try clear hx438_0); (try clear p437); (try clear p438); (try clear q437); (try clear q438)
         obtain ⟨x14_2, x60_2, rfl, HA, HK2, HO_8, HO_12, HO_14, HO_58, HB⟩ := hrel
         cases gk with
         | zero => exact absurd HA.out (by simp [impl_MultiplyArrays.l0])
         | succ k2 =>
           have H := HA.out
           clear HA
           simp only [impl_MultiplyArrays.l0] at H
           by_cases c22 : x60_2 < (t439.length : Int)
           · rw [if_pos c22] at H
             have c22b0 : decide (x60_2 < (t439.length : Int)) = true := decide_eq_true c22
             clear c22
             by_cases c23 : 0 ≤ x60_2
             · rw [if_pos c23] at H
               have c23b0 : decide (0 ≤ x60_2) = true := decide_eq_true c23
               clear c23
               by_cases c24 : x60_2 < (t439.length : Int)
               · rw [if_pos c24] at H
                 have c24b0 : decide (x60_2 < (t439.length : Int)) = true := decide_eq_true c24
                 clear c24
                 obtain ⟨y453, hy453⟩ : ∃ y_ : List Int, y_ = (([] : List Int)) := ⟨_, rfl⟩
                 replace H : (if 1 < (t433.length : Int) then (impl_MultiplyArrays.l1 k2 t433 t443 x14_2 (rd_L3 t439 x60_2) y453 t439 (t439.length : Int) x60_2 (rd t433 1) 0) else (none)) = some (r1, r2) := by first | (rw [hy453]; with_reducible exact H) | (have H2_ := (Option.bind_some _ _).symm.trans H; rw [hy453]; with_reducible exact H2_) | (have H2_ := (Option.bind_some _ _).symm.trans H; with_reducible exact H2_) | with_reducible exact H | (rw [hy453]; exact H) | exact H
                 have Ny453 := Aside0.mk hy453
                 clear hy453
                 by_cases c25 : 1 < (t433.length : Int)
                 · rw [if_pos c25] at H
                   have c25b0 : decide (1 < (t433.length : Int)) = true := decide_eq_true c25
                   have c25b1 : decide (1 < t433.length) = true := decide_eq_true (by omega)
                   clear c25
                   have H' := Aside0.mk H
                   clear H
                   have p452 : 0 ≤ (x60_2 : Int) := of_decide_eq_true (by assumption)
                   have q452 : x60_2 < (t439.length : Int) := of_decide_eq_true (by assumption)
                   obtain ⟨ad452, A452_0, c452_0, e452, hx452_0, hl452_0, hi452_0⟩ := at_L3 (Kd.S_reads' HO_58.out).2.2 x60_2 p452 q452
                   cases e452
                   obtain ⟨ce452, hce452, hMe452, hcc452⟩ := Kd.S_get HO_58.out [] x60_2 p452 (by first | exact q452 | exact of_decide_eq_true (by assumption) | (have e_ := (Kd.S_reads' HO_58.out).1; omega))
                   obtain ⟨ve452_0, rfl, ge452_0⟩ := hMe452
                   have hv452_0 := hcc452 0 _ rfl
                   rw [Nat.add_zero, show ((Kd.slice 3 (Kd.int .i64))).sz = 1 from rfl, Nat.mul_one] at hv452_0
                   replace hv452_0 := Option.some.inj (hv452_0.symm.trans hx452_0)
                   rw [hv452_0] at ge452_0
                   have HL452_0 := Aside0.mk (show Kd.R (Kd.int .i64) 3 _ _ _ _ (rd_L3 t439 x60_2) from ge452_0)
                   clear hv452_0 ge452_0
                   clear hcc452 hce452
                   have HR452_0 := Aside0.mk hi452_0
                   have HC452_0 := Aside0.mk hl452_0
                   clear hi452_0 hl452_0
                   replace p452 := eq_true p452
                   replace q452 := eq_true q452
                   iterate 3 ((try go_wp2_with (first | ((with_reducible refine gate_dst (N := 64) rfl ?_); refine Kd.R_lit (Kd.int .i64) _ 3 ?hg (N := 64) ?hd (xs := ([] : List Int)) (inner := []) (ok := fun _ => True) (okp := fun _ => True) ?hr ?hp (fun _ hk => hk) trivial (Below.refl _ _) (Nat.le_refl _) (by simp) ?_; (case hd => rfl); (case hg => rfl); (case hr => first | (go_simp; done) | (go_simp; rfl)); (case hp => exact (Reps.none _ _)); intro v454 w26 ho27 hb hg_ hnew_; clear hg_ hnew_; have HQ452 := Aside0.mk (Kd.R_mono (Kd.R_elder' (FR HL452_0.out) (Kd.R_base ho27) hb) (fun _ hk => hk.2)); (first | rw [← Ny453.out] at ho27 | (simp only [Int.reduceToNat] at ho27; rw [← Ny453.out] at ho27)); have n0_ := Aside0.mk (Kd.R_elder' (FR HO_8.out) (Kd.R_base ho27) hb); have n1_ := Aside0.mk (Kd.S_elder' (FS HO_12.out) (Kd.R_base ho27) hb); have n2_ := Aside0.mk (Kd.S_elder' (FS HO_14.out) (Kd.R_base ho27) hb); have n3_ := Aside0.mk (Kd.S_elder' (FS HO_58.out) (Kd.R_base ho27) hb); have n4_ := Aside0.mk (Kd.R_elder' (FR HL452_0.out) (Kd.R_base ho27) hb); have n5_ := Aside0.mk (Kd.R_lower (Kd.R_new' (Kd.R_new' ho27 (Kd.R_lt (FR HO_8.out))) (Kd.R_lt (FR HL452_0.out))) (below_size (FB HB.out))); have n6_ := Aside0.mk (Kd.C_below (FC HR452_0.out) hb); have n7_ := Aside0.mk (below_step (FB HB.out) hb); clear HO_8; clear HO_12; clear HO_14; clear HO_58; clear HL452_0; clear HR452_0; clear HB; have HO_8 := n0_; have HO_12 := n1_; have HO_14 := n2_; have HO_58 := n3_; have HL452_0 := n4_; have HO455 := n5_; have HR452_0 := n6_; have HB := n7_; clear n0_ n1_ n2_ n3_ n4_ n5_ n6_ n7_; clear hb ho27; obtain ⟨Ao28, co28, eo28⟩ := Kd.R_slice HO_8.out; subst eo28; have p456 : 0 ≤ (1 : Int) := (by omega); have q456 : 1 < (t433.length : Int) := of_decide_eq_true (by assumption); obtain ⟨ad456, e456, hx456_0⟩ := Kd.at_int (Kd.R_reads' HO_8.out).2.2 1 p456 q456; cases e456; (try simp only [show (1 : Int).toNat = 1 from rfl, Nat.reduceMul, Nat.reduceEqDiff, Go.Addr.add, ↓reduceIte] at hx456_0); have qi456 : (1 < t433.length) = True := eq_true (by omega); (try rw [show ((1 : Int)).toNat = 1 from rfl] at hx456_0); replace p456 := eq_true p456; replace q456 := eq_true q456))); (try go_quiet (first | ((with_reducible refine gate_dst (N := 64) rfl ?_); refine Kd.R_lit (Kd.int .i64) _ 3 ?hg (N := 64) ?hd (xs := ([] : List Int)) (inner := []) (ok := fun _ => True) (okp := fun _ => True) ?hr ?hp (fun _ hk => hk) trivial (Below.refl _ _) (Nat.le_refl _) (by simp) ?_; (case hd => rfl); (case hg => rfl); (case hr => first | (go_simp; done) | (go_simp; rfl)); (case hp => exact (Reps.none _ _)); intro v454 w26 ho27 hb hg_ hnew_; clear hg_ hnew_; have HQ452 := Aside0.mk (Kd.R_mono (Kd.R_elder' (FR HL452_0.out) (Kd.R_base ho27) hb) (fun _ hk => hk.2)); (first | rw [← Ny453.out] at ho27 | (simp only [Int.reduceToNat] at ho27; rw [← Ny453.out] at ho27)); have n0_ := Aside0.mk (Kd.R_elder' (FR HO_8.out) (Kd.R_base ho27) hb); have n1_ := Aside0.mk (Kd.S_elder' (FS HO_12.out) (Kd.R_base ho27) hb); have n2_ := Aside0.mk (Kd.S_elder' (FS HO_14.out) (Kd.R_base ho27) hb); have n3_ := Aside0.mk (Kd.S_elder' (FS HO_58.out) (Kd.R_base ho27) hb); have n4_ := Aside0.mk (Kd.R_elder' (FR HL452_0.out) (Kd.R_base ho27) hb); have n5_ := Aside0.mk (Kd.R_lower (Kd.R_new' (Kd.R_new' ho27 (Kd.R_lt (FR HO_8.out))) (Kd.R_lt (FR HL452_0.out))) (below_size (FB HB.out))); have n6_ := Aside0.mk (Kd.C_below (FC HR452_0.out) hb); have n7_ := Aside0.mk (below_step (FB HB.out) hb); clear HO_8; clear HO_12; clear HO_14; clear HO_58; clear HL452_0; clear HR452_0; clear HB; have HO_8 := n0_; have HO_12 := n1_; have HO_14 := n2_; have HO_58 := n3_; have HL452_0 := n4_; have HO455 := n5_; have HR452_0 := n6_; have HB := n7_; clear n0_ n1_ n2_ n3_ n4_ n5_ n6_ n7_; clear hb ho27; obtain ⟨Ao28, co28, eo28⟩ := Kd.R_slice HO_8.out; subst eo28; have p456 : 0 ≤ (1 : Int) := (by omega); have q456 : 1 < (t433.length : Int) := of_decide_eq_true (by assumption); obtain ⟨ad456, e456, hx456_0⟩ := Kd.at_int (Kd.R_reads' HO_8.out).2.2 1 p456 q456; cases e456; (try simp only [show (1 : Int).toNat = 1 from rfl, Nat.reduceMul, Nat.reduceEqDiff, Go.Addr.add, ↓reduceIte] at hx456_0); have qi456 : (1 < t433.length) = True := eq_true (by omega); (try rw [show ((1 : Int)).toNat = 1 from rfl] at hx456_0); replace p456 := eq_true p456; replace q456 := eq_true q456))))
                   go_loopg [17, 68] k2 (fun kq v17 v68 w' => ∃ (x17_3 : List Int) (x68_3 : Int), v68 = .int .i64 x68_3 ∧ Aside0 (impl_MultiplyArrays.l1 kq t433 t443 x14_2 (rd_L3 t439 x60_2) x17_3 t439 (t439.length : Int) x60_2 (rd t433 1) x68_3 = some (r1, r2)) ∧ Aside0 (kq ≤ k2) ∧ Aside0 (Kd.R (Kd.int .i64) 3 w' w.heap.size (fun k_ => some k_ ≠ (v17 : Value).ownBlock) (.slice (some ad456) t433.length co28) t433) ∧ Aside0 (Kd.S (Kd.slice 3 (Kd.int .i64)) 22 w' w.heap.size (fun k_ => some k_ ≠ ((.slice (some ad456) t433.length co28) : Value).ownBlock ∧ some k_ ≠ (u14 : Value).ownBlock ∧ some k_ ≠ (v17 : Value).ownBlock ∧ some k_ ≠ ((.slice (some ad452) t439.length co21) : Value).ownBlock) v445 t443) ∧ Aside0 (Kd.S (Kd.slice 3 (Kd.int .i64)) 22 w' w.heap.size (fun k_ => some k_ ≠ ((.slice (some ad456) t433.length co28) : Value).ownBlock ∧ some k_ ≠ (v445 : Value).ownBlock ∧ some k_ ≠ (v17 : Value).ownBlock ∧ some k_ ≠ ((.slice (some ad452) t439.length co21) : Value).ownBlock) u14 x14_2) ∧ Aside0 (Kd.R (Kd.int .i64) 3 w' w.heap.size (fun k_ => some k_ ≠ ((.slice (some ad456) t433.length co28) : Value).ownBlock) v17 x17_3) ∧ Aside0 (Kd.S (Kd.slice 3 (Kd.int .i64)) 22 w' w.heap.size (fun k_ => some k_ ≠ ((.slice (some ad456) t433.length co28) : Value).ownBlock ∧ some k_ ≠ (v445 : Value).ownBlock ∧ some k_ ≠ (u14 : Value).ownBlock ∧ some k_ ≠ (v17 : Value).ownBlock) (.slice (some ad452) t439.length co21) t439) ∧ Aside0 (Below w.heap.size w w') ∧ Aside0 (Kd.R (Kd.int .i64) 3 w' w.heap.size (fun k_ => some k_ ≠ (v17 : Value).ownBlock) (.slice A452_0 (rd_L3 t439 x60_2).length c452_0) (rd_L3 t439 x60_2)))
                   case atStart => exact ⟨(y453), (0), (by first | rfl | (simp; done) | (simp [*]; done)), H', ⟨Nat.le_refl _⟩, ⟨(FR (Kd.R_mono HO_8.out (fun _ hk => hk.2)))⟩, ⟨(FS (Kd.S_mono HO_12.out (fun _ hk => ⟨hk.1.1, ⟨hk.1.2.1, ⟨hk.2, hk.1.2.2⟩⟩⟩)))⟩, ⟨(FS (Kd.S_mono HO_14.out (fun _ hk => ⟨hk.1.1, ⟨hk.1.2.1, ⟨hk.2, hk.1.2.2⟩⟩⟩)))⟩, ⟨(FR (Kd.R_mono HO455.out (fun _ hk => hk.1.2)))⟩, ⟨(FS (Kd.S_mono HO_58.out (fun _ hk => ⟨hk.1.1, ⟨hk.1.2.1, ⟨hk.1.2.2, hk.2⟩⟩⟩)))⟩, ⟨FB HB.out⟩, ⟨(FR HQ452.out)⟩⟩
                   case round =>
                     clear H'
                     (try clear c1); (try clear c2); (try clear p2); (try clear c4); (try clear p4); (try clear q4); (try clear hx4); (try clear qi4); (try clear c5); (try clear c8); (try clear c9); (try clear c10); (try clear c10b0); (try clear c10b1); (try clear c11); (try clear c11b0); (try clear c11b1); (try clear c14); (try clear c22); (try clear c22b0); (try clear c23); (try clear c23b0); (try clear c24); (try clear c24b0); (try clear c25); (try clear c25b0); (try clear c25b1); (try clear hx437_0); (try clear hx438_0); (try clear hx452_0); (try clear hx456_0); (try clear p437); (try clear p438); (try clear p452); (try clear p456); (try clear q437); (try clear q438); (try clear q452); (try clear q456)
                     obtain ⟨x17_3, x68_3, rfl, HA, HK3, HO_8, HO_12, HO_14, HO_17, HO_58, HB, HQ452⟩ := hrel
                     cases gk with
                     | zero => exact absurd HA.out (by simp [impl_MultiplyArrays.l1])
                     | succ k3 =>
                       have H := HA.out
                       clear HA
                       simp only [impl_MultiplyArrays.l1] at H
                       by_cases c29 : x68_3 < (rd t433 1)
                       · rw [if_pos c29] at H
                         have c29b0 : decide (x68_3 < (rd t433 1)) = true := decide_eq_true c29
                         clear c29
                         have H' := Aside0.mk H
                         clear H
                         go_wp2
                         repeat (go_quiet (fail); try go_wp2)
                         go_loopg [19, 73] k3 (fun kq v19 v73 w' => ∃ (x19_4 : Int) (x73_4 : Int), v19 = .int .i64 x19_4 ∧ v73 = .int .i64 x73_4 ∧ Aside0 (impl_MultiplyArrays.l2 kq t433 t443 x14_2 (rd_L3 t439 x60_2) x17_3 x68_3 x19_4 t439 (t439.length : Int) x60_2 (rd t433 1) x68_3 (rd_L3 t439 x60_2) ((rd_L3 t439 x60_2).length : Int) x73_4 = some (r1, r2)) ∧ Aside0 (kq ≤ k3) ∧ Aside0 (Kd.R (Kd.int .i64) 3 w' w.heap.size (fun k_ => some k_ ≠ (u17 : Value).ownBlock) (.slice (some ad456) t433.length co28) t433) ∧ Aside0 (Kd.S (Kd.slice 3 (Kd.int .i64)) 22 w' w.heap.size (fun k_ => some k_ ≠ ((.slice (some ad456) t433.length co28) : Value).ownBlock ∧ some k_ ≠ (u14 : Value).ownBlock ∧ some k_ ≠ (u17 : Value).ownBlock ∧ some k_ ≠ ((.slice (some ad452) t439.length co21) : Value).ownBlock) v445 t443) ∧ Aside0 (Kd.S (Kd.slice 3 (Kd.int .i64)) 22 w' w.heap.size (fun k_ => some k_ ≠ ((.slice (some ad456) t433.length co28) : Value).ownBlock ∧ some k_ ≠ (v445 : Value).ownBlock ∧ some k_ ≠ (u17 : Value).ownBlock ∧ some k_ ≠ ((.slice (some ad452) t439.length co21) : Value).ownBlock) u14 x14_2) ∧ Aside0 (Kd.R (Kd.int .i64) 3 w' w.heap.size (fun k_ => some k_ ≠ ((.slice (some ad456) t433.length co28) : Value).ownBlock) u17 x17_3) ∧ Aside0 (Kd.S (Kd.slice 3 (Kd.int .i64)) 22 w' w.heap.size (fun k_ => some k_ ≠ ((.slice (some ad456) t433.length co28) : Value).ownBlock ∧ some k_ ≠ (v445 : Value).ownBlock ∧ some k_ ≠ (u14 : Value).ownBlock ∧ some k_ ≠ (u17 : Value).ownBlock) (.slice (some ad452) t439.length co21) t439) ∧ Aside0 (Below w.heap.size w w') ∧ Aside0 (Kd.R (Kd.int .i64) 3 w' w.heap.size (fun k_ => some k_ ≠ (u17 : Value).ownBlock) (.slice A452_0 (rd_L3 t439 x60_2).length c452_0) (rd_L3 t439 x60_2)))
                         case atStart => exact ⟨(0), (0), (by first | rfl | (simp; done) | (simp [*]; done)), (by first | rfl | (simp; done) | (simp [*]; done)), H', ⟨Nat.le_refl _⟩, ⟨(FR HO_8.out)⟩, ⟨(FS HO_12.out)⟩, ⟨(FS HO_14.out)⟩, ⟨(FR HO_17.out)⟩, ⟨(FS HO_58.out)⟩, ⟨FB HB.out⟩, ⟨(FR HQ452.out)⟩⟩
                         case round =>
                           clear H'
                           (try clear c1); (try clear c2); (try clear p2); (try clear c4); (try clear p4); (try clear q4); (try clear hx4); (try clear qi4); (try clear c5); (try clear c8); (try clear c9); (try clear c10); (try clear c10b0); (try clear c10b1); (try clear c11); (try clear c11b0); (try clear c11b1); (try clear c14); (try clear c22); (try clear c22b0); (try clear c23); (try clear c23b0); (try clear c24); (try clear c24b0); (try clear c25); (try clear c25b0); (try clear c25b1); (try clear c29); (try clear c29b0); (try clear hx437_0); (try clear hx438_0); (try clear hx452_0); (try clear hx456_0); (try clear p437); (try clear p438); (try clear p452); (try clear p456); (try clear q437); (try clear q438); (try clear q452); (try clear q456)
                           obtain ⟨x19_4, x73_4, rfl, rfl, HA, HK4, HO_8, HO_12, HO_14, HO_17, HO_58, HB, HQ452⟩ := hrel
                           cases gk with
                           | zero => exact absurd HA.out (by simp [impl_MultiplyArrays.l2])
                           | succ k4 =>
                             have H := HA.out
                             clear HA
                             simp only [impl_MultiplyArrays.l2] at H
                             by_cases c30 : x73_4 < ((rd_L3 t439 x60_2).length : Int)
                             · rw [if_pos c30] at H
                               have c30b0 : decide (x73_4 < ((rd_L3 t439 x60_2).length : Int)) = true := decide_eq_true c30
                               clear c30
                               by_cases c31 : 0 ≤ x73_4
                               · rw [if_pos c31] at H
                                 have c31b0 : decide (0 ≤ x73_4) = true := decide_eq_true c31
                                 clear c31
                                 by_cases c32 : x73_4 < ((rd_L3 t439 x60_2).length : Int)
                                 · rw [if_pos c32] at H
                                   have c32b0 : decide (x73_4 < ((rd_L3 t439 x60_2).length : Int)) = true := decide_eq_true c32
                                   clear c32
                                   by_cases c33 : x73_4 < (t443.length : Int)
                                   · rw [if_pos c33] at H
                                     have c33b0 : decide (x73_4 < (t443.length : Int)) = true := decide_eq_true c33
                                     clear c33
                                     by_cases c34 : 0 ≤ x68_3
                                     · rw [if_pos c34] at H
                                       have c34b0 : decide (0 ≤ x68_3) = true := decide_eq_true c34
                                       clear c34
                                       by_cases c35 : x68_3 < ((rd_L3 t443 x73_4).length : Int)
                                       · rw [if_pos c35] at H
                                         have c35b0 : decide (x68_3 < ((rd_L3 t443 x73_4).length : Int)) = true := decide_eq_true c35
                                         clear c35
                                         have H' := Aside0.mk H
                                         clear H
                                         have p460 : 0 ≤ (x73_4 : Int) := of_decide_eq_true (by assumption)
                                         have q460 : x73_4 < ((rd_L3 t439 x60_2).length : Int) := of_decide_eq_true (by assumption)
                                         obtain ⟨ad460, e460, hx460_0⟩ := Kd.at_int (Kd.R_reads' HQ452.out).2.2 x73_4 p460 q460
                                         cases e460
                                         (try replace hx460_0 := (HB.out.cell (World.block_lt_of_cell? w _ hx460_0)).trans hx460_0)
                                         replace p460 := eq_true p460
                                         replace q460 := eq_true q460
                                         obtain ⟨Ao36, co36, eo36⟩ := Kd.S_slice HO_12.out
                                         subst eo36
                                         have p461 : 0 ≤ (x73_4 : Int) := of_decide_eq_true (by assumption)
                                         have q461 : x73_4 < (t443.length : Int) := of_decide_eq_true (by assumption)
                                         obtain ⟨ad461, A461_0, c461_0, e461, hx461_0, hl461_0, hi461_0⟩ := at_L3 (Kd.S_reads' HO_12.out).2.2 x73_4 p461 q461
                                         cases e461
                                         obtain ⟨ce461, hce461, hMe461, hcc461⟩ := Kd.S_get HO_12.out [] x73_4 p461 (by first | exact q461 | exact of_decide_eq_true (by assumption) | (have e_ := (Kd.S_reads' HO_12.out).1; omega))
                                         obtain ⟨ve461_0, rfl, ge461_0⟩ := hMe461
                                         have hv461_0 := hcc461 0 _ rfl
                                         rw [Nat.add_zero, show ((Kd.slice 3 (Kd.int .i64))).sz = 1 from rfl, Nat.mul_one] at hv461_0
                                         replace hv461_0 := Option.some.inj (hv461_0.symm.trans hx461_0)
                                         rw [hv461_0] at ge461_0
                                         have HL461_0 := Aside0.mk (show Kd.R (Kd.int .i64) 3 _ _ _ _ (rd_L3 t443 x73_4) from ge461_0)
                                         clear hv461_0 ge461_0
                                         clear hcc461 hce461
                                         have HR461_0 := Aside0.mk hi461_0
                                         have HC461_0 := Aside0.mk hl461_0
                                         clear hi461_0 hl461_0
                                         replace p461 := eq_true p461
                                         replace q461 := eq_true q461
                                         have p462 : 0 ≤ (x68_3 : Int) := of_decide_eq_true (by assumption)
                                         have q462 : x68_3 < ((rd_L3 t443 x73_4).length : Int) := of_decide_eq_true (by assumption)
                                         obtain ⟨ad462, e462, hx462_0⟩ := Kd.at_int HR461_0.out x68_3 p462 q462
                                         cases e462
                                         replace p462 := eq_true p462
                                         replace q462 := eq_true q462
                                         go_wp2
                                         repeat (go_quiet (fail); try go_wp2)
                                         go_roundg k4
                                         case measure => have := HJ4.out; have := HK2.out; have := HK3.out; have := HK4.out; omega
                                         case rel => exact ⟨(Int.tmod (wrap64 (x19_4 + (wrap64 ((rd (rd_L3 t439 x60_2) x73_4) * (rd (rd_L3 t443 x73_4) x68_3))))) 10007), (wrap64 (x73_4 + 1)), (by first | rfl | (simp; done) | (simp [*]; done)), (by first | rfl | (simp; done) | (simp [*]; done)), H', ⟨by have := HJ4.out; have := HK2.out; have := HK3.out; have := HK4.out; omega⟩, ⟨(FR HO_8.out)⟩, ⟨(FS HO_12.out)⟩, ⟨(FS HO_14.out)⟩, ⟨(FR HO_17.out)⟩, ⟨(FS HO_58.out)⟩, ⟨FB HB.out⟩, ⟨(FR HQ452.out)⟩⟩
                                       · rw [if_neg c35] at H
                                         exact absurd H (by simp)
                                     · rw [if_neg c34] at H
                                       exact absurd H (by simp)
                                   · rw [if_neg c33] at H
                                     exact absurd H (by simp)
                                 · rw [if_neg c32] at H
                                   exact absurd H (by simp)
                               · rw [if_neg c31] at H
                                 exact absurd H (by simp)
                             · rw [if_neg c30] at H
                               have c30b0 : decide (x73_4 < ((rd_L3 t439 x60_2).length : Int)) = false := decide_eq_false c30
                               clear c30
                               by_cases c37 : x17_3.length < 17592186044416
                               · rw [if_pos c37] at H
                                 have LMc37 := Aside0.mk c37
                                 clear c37
                                 obtain ⟨y463, hy463⟩ : ∃ y_ : List Int, y_ = (x17_3 ++ [x19_4]) := ⟨_, rfl⟩
                                 replace H : (impl_MultiplyArrays.l1 k4 t433 t443 x14_2 (rd_L3 t439 x60_2) y463 t439 (t439.length : Int) x60_2 (rd t433 1) (wrap64 (x68_3 + 1))) = some (r1, r2) := by first | (rw [hy463]; with_reducible exact H) | (have H2_ := (Option.bind_some _ _).symm.trans H; rw [hy463]; with_reducible exact H2_) | (have H2_ := (Option.bind_some _ _).symm.trans H; with_reducible exact H2_) | with_reducible exact H | (rw [hy463]; exact H) | exact H
                                 have Ny463 := Aside0.mk hy463
                                 clear hy463
                                 have H' := Aside0.mk H
                                 clear H
                                 go_wp2_with (first | ((with_reducible refine gate_builtin (b := .append) (xs := #[.tmp 91, .tmp 93]) rfl ?_); at_builtin; refine Kd.R_append (Kd.int .i64) (w0 := w) w.heap.size rfl (.tmp 91) (.tmp 93) 22 3 (.int .i64 0) 8 rfl Tryd.underlying22 info3 rfl (by decide) (by omega) u17 x17_3 x19_4 [.int .i64 x19_4] (fun k_ => some k_ ≠ (.slice (some ad456) t433.length co28 : Value).ownBlock) (fun _ => False) rfl rfl ?aP (fun _ hk => hk.elim) ?aF ?aO ?aB ?aS ?aL ?_; (case aP => exact rfl); (case aB => exact (FB HB.out)); (case aF => exact (fun k_ hk => Kd.fresh' (Kd.R_lt (FR HO_8.out)) k_ hk)); (case aO => exact (FR HO_17.out)); (case aS => exact (below_size (FB HB.out))); (case aL => have := LMc37.out; omega); intro v464 w38 ho hb hg hat; rw [← Ny463.out] at ho; have n452_ := Aside0.mk (Kd.R_mono (Kd.R_after (ok := fun _ => True) (Kd.R_mono (FR HQ452.out) (fun _ hk => (⟨trivial, hk⟩ : True ∧ _))) hg hat) (fun _ hk => hk.2)); clear HQ452; have HQ452 := n452_; clear n452_; have n0_ := Aside0.mk (Kd.R_after (ok := (fun _ => True)) (FR (Kd.R_mono HO_8.out (fun _ hk => ⟨trivial, hk⟩))) hg hat); have n1_ := Aside0.mk (Kd.S_after (ok := (fun k_ => some k_ ≠ (.slice (some ad456) t433.length co28 : Value).ownBlock ∧ some k_ ≠ (u14 : Value).ownBlock ∧ some k_ ≠ (.slice (some ad452) t439.length co21 : Value).ownBlock)) (FS (Kd.S_mono HO_12.out (fun _ hk => ⟨⟨hk.1, ⟨hk.2.1, hk.2.2.2⟩⟩, hk.2.2.1⟩))) hg hat); have n2_ := Aside0.mk (Kd.S_after (ok := (fun k_ => some k_ ≠ (.slice (some ad456) t433.length co28 : Value).ownBlock ∧ some k_ ≠ (v445 : Value).ownBlock ∧ some k_ ≠ (.slice (some ad452) t439.length co21 : Value).ownBlock)) (FS (Kd.S_mono HO_14.out (fun _ hk => ⟨⟨hk.1, ⟨hk.2.1, hk.2.2.2⟩⟩, hk.2.2.1⟩))) hg hat); have n3_ := Aside0.mk (Kd.S_after (ok := (fun k_ => some k_ ≠ (.slice (some ad456) t433.length co28 : Value).ownBlock ∧ some k_ ≠ (v445 : Value).ownBlock ∧ some k_ ≠ (u14 : Value).ownBlock)) (FS (Kd.S_mono HO_58.out (fun _ hk => ⟨⟨hk.1, ⟨hk.2.1, hk.2.2.1⟩⟩, hk.2.2.2⟩))) hg hat); have n4_ := Aside0.mk (hb); have n5_ := Aside0.mk (ho); clear HO_8; clear HO_12; clear HO_14; clear HO_58; clear HB; clear HO_17; have HO_8 := n0_; have HO_12 := n1_; have HO_14 := n2_; have HO_58 := n3_; have HB := n4_; have HO465 := n5_; clear n0_ n1_ n2_ n3_ n4_ n5_; clear ho hb hg hat))
                                 repeat (go_quiet (first | ((with_reducible refine gate_builtin (b := .append) (xs := #[.tmp 91, .tmp 93]) rfl ?_); at_builtin; refine Kd.R_append (Kd.int .i64) (w0 := w) w.heap.size rfl (.tmp 91) (.tmp 93) 22 3 (.int .i64 0) 8 rfl Tryd.underlying22 info3 rfl (by decide) (by omega) u17 x17_3 x19_4 [.int .i64 x19_4] (fun k_ => some k_ ≠ (.slice (some ad456) t433.length co28 : Value).ownBlock) (fun _ => False) rfl rfl ?aP (fun _ hk => hk.elim) ?aF ?aO ?aB ?aS ?aL ?_; (case aP => exact rfl); (case aB => exact (FB HB.out)); (case aF => exact (fun k_ hk => Kd.fresh' (Kd.R_lt (FR HO_8.out)) k_ hk)); (case aO => exact (FR HO_17.out)); (case aS => exact (below_size (FB HB.out))); (case aL => have := LMc37.out; omega); intro v464 w38 ho hb hg hat; rw [← Ny463.out] at ho; have n0_ := Aside0.mk (Kd.R_after (ok := (fun _ => True)) (FR (Kd.R_mono HO_8.out (fun _ hk => ⟨trivial, hk⟩))) hg hat); have n1_ := Aside0.mk (Kd.S_after (ok := (fun k_ => some k_ ≠ (.slice (some ad456) t433.length co28 : Value).ownBlock ∧ some k_ ≠ (u14 : Value).ownBlock ∧ some k_ ≠ (.slice (some ad452) t439.length co21 : Value).ownBlock)) (FS (Kd.S_mono HO_12.out (fun _ hk => ⟨⟨hk.1, ⟨hk.2.1, hk.2.2.2⟩⟩, hk.2.2.1⟩))) hg hat); have n2_ := Aside0.mk (Kd.S_after (ok := (fun k_ => some k_ ≠ (.slice (some ad456) t433.length co28 : Value).ownBlock ∧ some k_ ≠ (v445 : Value).ownBlock ∧ some k_ ≠ (.slice (some ad452) t439.length co21 : Value).ownBlock)) (FS (Kd.S_mono HO_14.out (fun _ hk => ⟨⟨hk.1, ⟨hk.2.1, hk.2.2.2⟩⟩, hk.2.2.1⟩))) hg hat); have n3_ := Aside0.mk (Kd.S_after (ok := (fun k_ => some k_ ≠ (.slice (some ad456) t433.length co28 : Value).ownBlock ∧ some k_ ≠ (v445 : Value).ownBlock ∧ some k_ ≠ (u14 : Value).ownBlock)) (FS (Kd.S_mono HO_58.out (fun _ hk => ⟨⟨hk.1, ⟨hk.2.1, hk.2.2.1⟩⟩, hk.2.2.2⟩))) hg hat); have n4_ := Aside0.mk (hb); have n5_ := Aside0.mk (ho); clear HO_8; clear HO_12; clear HO_14; clear HO_58; clear HB; clear HO_17; have HO_8 := n0_; have HO_12 := n1_; have HO_14 := n2_; have HO_58 := n3_; have HB := n4_; have HO465 := n5_; clear n0_ n1_ n2_ n3_ n4_ n5_; clear ho hb hg hat)); try go_wp2_with (first | ((with_reducible refine gate_builtin (b := .append) (xs := #[.tmp 91, .tmp 93]) rfl ?_); at_builtin; refine Kd.R_append (Kd.int .i64) (w0 := w) w.heap.size rfl (.tmp 91) (.tmp 93) 22 3 (.int .i64 0) 8 rfl Tryd.underlying22 info3 rfl (by decide) (by omega) u17 x17_3 x19_4 [.int .i64 x19_4] (fun k_ => some k_ ≠ (.slice (some ad456) t433.length co28 : Value).ownBlock) (fun _ => False) rfl rfl ?aP (fun _ hk => hk.elim) ?aF ?aO ?aB ?aS ?aL ?_; (case aP => exact rfl); (case aB => exact (FB HB.out)); (case aF => exact (fun k_ hk => Kd.fresh' (Kd.R_lt (FR HO_8.out)) k_ hk)); (case aO => exact (FR HO_17.out)); (case aS => exact (below_size (FB HB.out))); (case aL => have := LMc37.out; omega); intro v464 w38 ho hb hg hat; rw [← Ny463.out] at ho; have n0_ := Aside0.mk (Kd.R_after (ok := (fun _ => True)) (FR (Kd.R_mono HO_8.out (fun _ hk => ⟨trivial, hk⟩))) hg hat); have n1_ := Aside0.mk (Kd.S_after (ok := (fun k_ => some k_ ≠ (.slice (some ad456) t433.length co28 : Value).ownBlock ∧ some k_ ≠ (u14 : Value).ownBlock ∧ some k_ ≠ (.slice (some ad452) t439.length co21 : Value).ownBlock)) (FS (Kd.S_mono HO_12.out (fun _ hk => ⟨⟨hk.1, ⟨hk.2.1, hk.2.2.2⟩⟩, hk.2.2.1⟩))) hg hat); have n2_ := Aside0.mk (Kd.S_after (ok := (fun k_ => some k_ ≠ (.slice (some ad456) t433.length co28 : Value).ownBlock ∧ some k_ ≠ (v445 : Value).ownBlock ∧ some k_ ≠ (.slice (some ad452) t439.length co21 : Value).ownBlock)) (FS (Kd.S_mono HO_14.out (fun _ hk => ⟨⟨hk.1, ⟨hk.2.1, hk.2.2.2⟩⟩, hk.2.2.1⟩))) hg hat); have n3_ := Aside0.mk (Kd.S_after (ok := (fun k_ => some k_ ≠ (.slice (some ad456) t433.length co28 : Value).ownBlock ∧ some k_ ≠ (v445 : Value).ownBlock ∧ some k_ ≠ (u14 : Value).ownBlock)) (FS (Kd.S_mono HO_58.out (fun _ hk => ⟨⟨hk.1, ⟨hk.2.1, hk.2.2.1⟩⟩, hk.2.2.2⟩))) hg hat); have n4_ := Aside0.mk (hb); have n5_ := Aside0.mk (ho); clear HO_8; clear HO_12; clear HO_14; clear HO_58; clear HB; clear HO_17; have HO_8 := n0_; have HO_12 := n1_; have HO_14 := n2_; have HO_58 := n3_; have HB := n4_; have HO465 := n5_; clear n0_ n1_ n2_ n3_ n4_ n5_; clear ho hb hg hat)))
                                 go_roundg k4
                                 case measure => have := HJ4.out; have := HK2.out; have := HK3.out; have := HK4.out; omega
                                 case rel => exact ⟨(y463), (wrap64 (x68_3 + 1)), (by first | rfl | (simp; done) | (simp [*]; done)), H', ⟨by have := HJ4.out; have := HK2.out; have := HK3.out; have := HK4.out; omega⟩, ⟨(FR (Kd.R_mono HO_8.out (fun _ hk => hk.2)))⟩, ⟨(FS (Kd.S_mono HO_12.out (fun _ hk => ⟨hk.1.1, ⟨hk.1.2.1, ⟨hk.2, hk.1.2.2⟩⟩⟩)))⟩, ⟨(FS (Kd.S_mono HO_14.out (fun _ hk => ⟨hk.1.1, ⟨hk.1.2.1, ⟨hk.2, hk.1.2.2⟩⟩⟩)))⟩, ⟨(FR HO465.out)⟩, ⟨(FS (Kd.S_mono HO_58.out (fun _ hk => ⟨hk.1.1, ⟨hk.1.2.1, ⟨hk.1.2.2, hk.2⟩⟩⟩)))⟩, ⟨FB HB.out⟩, ⟨(FR HQ452.out)⟩⟩
                               · rw [if_neg c37] at H
                                 exact absurd H (by simp)
                       · rw [if_neg c29] at H
                         have c29b0 : decide (x68_3 < (rd t433 1)) = false := decide_eq_false c29
                         clear c29
                         by_cases c39 : x14_2.length < 5864062014805
                         · rw [if_pos c39] at H
                           have LMc39 := Aside0.mk c39
                           clear c39
                           obtain ⟨y457, hy457⟩ : ∃ y_ : List (List Int), y_ = (x14_2 ++ [x17_3]) := ⟨_, rfl⟩
                           replace H : (impl_MultiplyArrays.l0 k3 t433 t443 y457 t439 (t439.length : Int) (wrap64 (x60_2 + 1))) = some (r1, r2) := by first | (rw [hy457]; with_reducible exact H) | (have H2_ := (Option.bind_some _ _).symm.trans H; rw [hy457]; with_reducible exact H2_) | (have H2_ := (Option.bind_some _ _).symm.trans H; with_reducible exact H2_) | with_reducible exact H | (rw [hy457]; exact H) | exact H
                           have Ny457 := Aside0.mk hy457
                           clear hy457
                           have H' := Aside0.mk H
                           clear H
                           obtain ⟨Ao41, co41, eo41⟩ := Kd.R_slice HO_17.out
                           subst eo41
                           iterate 3 ((try go_wp2_with (first | ((with_reducible refine gate_builtin (b := .append) (xs := #[.tmp 96, .tmp 98]) rfl ?_); at_builtin; refine Kd.S_append (Kd.slice 3 (Kd.int .i64)) (w0 := w) w.heap.size rfl (.tmp 96) (.tmp 98) 30 22 (.slice none 0 0) 24 rfl Tryd.underlying30 info22 rfl (by decide) (by omega) u14 x14_2 x17_3 [.slice Ao41 x17_3.length co41] (fun k_ => some k_ ≠ (.slice (some ad456) t433.length co28 : Value).ownBlock ∧ some k_ ≠ (v445 : Value).ownBlock ∧ some k_ ≠ (.slice (some ad452) t439.length co21 : Value).ownBlock) (fun k_ => some k_ = (.slice Ao41 x17_3.length co41 : Value).ownBlock) rfl rfl ?aP (fun k_ hk_ => ((Kd.R_mono (ok' := fun k_ => ((fun k_ => some k_ ≠ (.slice (some ad456) t433.length co28 : Value).ownBlock ∧ some k_ ≠ (v445 : Value).ownBlock ∧ some k_ ≠ (.slice (some ad452) t439.length co21 : Value).ownBlock)) k_ ∧ some k_ ≠ (u14 : Value).ownBlock) (Kd.R_apart' (Kd.R_apart' (Kd.R_apart' (HO_17.out) (Kd.S_typed HO_12.out) (by decide)) (Kd.S_typed HO_58.out) (by decide)) (Kd.S_typed HO_14.out) (by decide)) (fun k_ hk => ⟨⟨hk.1.1.1, ⟨hk.1.1.2, hk.1.2⟩⟩, hk.2⟩))).1 k_ hk_.symm) ?aF ?aO ?aB ?aS ?aL ?_; (case aP => exact Kd.M_row (Kd.R_mono (Kd.R_tight rfl (Kd.R_mono (ok' := fun k_ => ((fun k_ => some k_ ≠ (.slice (some ad456) t433.length co28 : Value).ownBlock ∧ some k_ ≠ (v445 : Value).ownBlock ∧ some k_ ≠ (.slice (some ad452) t439.length co21 : Value).ownBlock)) k_ ∧ some k_ ≠ (u14 : Value).ownBlock) (Kd.R_apart' (Kd.R_apart' (Kd.R_apart' (HO_17.out) (Kd.S_typed HO_12.out) (by decide)) (Kd.S_typed HO_58.out) (by decide)) (Kd.S_typed HO_14.out) (by decide)) (fun k_ hk => ⟨⟨hk.1.1.1, ⟨hk.1.1.2, hk.1.2⟩⟩, hk.2⟩))) (fun _ h_ => h_))); (case aB => exact (FB HB.out)); (case aF => exact (fun k_ hk => ⟨Kd.fresh' (Kd.R_lt (FR HO_8.out)) k_ hk, Kd.fresh' (Kd.S_lt (FS HO_12.out)) k_ hk, Kd.fresh' (Kd.S_lt (FS HO_58.out)) k_ hk⟩)); (case aO => exact (FS (Kd.S_mono HO_14.out (fun k_ hk => ⟨⟨hk.1, ⟨hk.2.1, hk.2.2.2⟩⟩, fun e_ => hk.2.2.1 e_⟩)))); (case aS => exact (below_size (FB HB.out))); (case aL => have := LMc39.out; omega); intro v458 w40 ho hb hg hat; rw [← Ny457.out] at ho; have n0_ := Aside0.mk (Kd.R_over' (FR HO_8.out) (Kd.S_typed (FS HO_14.out)) (by decide) hg); have n1_ := Aside0.mk (Kd.S_after (ok := (fun k_ => some k_ ≠ (.slice (some ad456) t433.length co28 : Value).ownBlock ∧ some k_ ≠ (.slice Ao41 x17_3.length co41 : Value).ownBlock ∧ some k_ ≠ (.slice (some ad452) t439.length co21 : Value).ownBlock)) (FS (Kd.S_mono HO_12.out (fun _ hk => ⟨⟨hk.1, ⟨hk.2.2.1, hk.2.2.2⟩⟩, hk.2.1⟩))) hg hat); have n2_ := Aside0.mk (Kd.S_after (ok := (fun k_ => some k_ ≠ (.slice (some ad456) t433.length co28 : Value).ownBlock ∧ some k_ ≠ (v445 : Value).ownBlock ∧ some k_ ≠ (.slice Ao41 x17_3.length co41 : Value).ownBlock)) (FS (Kd.S_mono HO_58.out (fun _ hk => ⟨⟨hk.1, ⟨hk.2.1, hk.2.2.2⟩⟩, hk.2.2.1⟩))) hg hat); have n3_ := Aside0.mk (hb); have n4_ := Aside0.mk (ho); clear HO_8; clear HO_12; clear HO_58; clear HB; clear HO_14; clear HO_17; have HO_8 := n0_; have HO_12 := n1_; have HO_58 := n2_; have HB := n3_; have HO459 := n4_; clear n0_ n1_ n2_ n3_ n4_; clear ho hb hg hat))); (try go_quiet (first | ((with_reducible refine gate_builtin (b := .append) (xs := #[.tmp 96, .tmp 98]) rfl ?_); at_builtin; refine Kd.S_append (Kd.slice 3 (Kd.int .i64)) (w0 := w) w.heap.size rfl (.tmp 96) (.tmp 98) 30 22 (.slice none 0 0) 24 rfl Tryd.underlying30 info22 rfl (by decide) (by omega) u14 x14_2 x17_3 [.slice Ao41 x17_3.length co41] (fun k_ => some k_ ≠ (.slice (some ad456) t433.length co28 : Value).ownBlock ∧ some k_ ≠ (v445 : Value).ownBlock ∧ some k_ ≠ (.slice (some ad452) t439.length co21 : Value).ownBlock) (fun k_ => some k_ = (.slice Ao41 x17_3.length co41 : Value).ownBlock) rfl rfl ?aP (fun k_ hk_ => ((Kd.R_mono (ok' := fun k_ => ((fun k_ => some k_ ≠ (.slice (some ad456) t433.length co28 : Value).ownBlock ∧ some k_ ≠ (v445 : Value).ownBlock ∧ some k_ ≠ (.slice (some ad452) t439.length co21 : Value).ownBlock)) k_ ∧ some k_ ≠ (u14 : Value).ownBlock) (Kd.R_apart' (Kd.R_apart' (Kd.R_apart' (HO_17.out) (Kd.S_typed HO_12.out) (by decide)) (Kd.S_typed HO_58.out) (by decide)) (Kd.S_typed HO_14.out) (by decide)) (fun k_ hk => ⟨⟨hk.1.1.1, ⟨hk.1.1.2, hk.1.2⟩⟩, hk.2⟩))).1 k_ hk_.symm) ?aF ?aO ?aB ?aS ?aL ?_; (case aP => exact Kd.M_row (Kd.R_mono (Kd.R_tight rfl (Kd.R_mono (ok' := fun k_ => ((fun k_ => some k_ ≠ (.slice (some ad456) t433.length co28 : Value).ownBlock ∧ some k_ ≠ (v445 : Value).ownBlock ∧ some k_ ≠ (.slice (some ad452) t439.length co21 : Value).ownBlock)) k_ ∧ some k_ ≠ (u14 : Value).ownBlock) (Kd.R_apart' (Kd.R_apart' (Kd.R_apart' (HO_17.out) (Kd.S_typed HO_12.out) (by decide)) (Kd.S_typed HO_58.out) (by decide)) (Kd.S_typed HO_14.out) (by decide)) (fun k_ hk => ⟨⟨hk.1.1.1, ⟨hk.1.1.2, hk.1.2⟩⟩, hk.2⟩))) (fun _ h_ => h_))); (case aB => exact (FB HB.out)); (case aF => exact (fun k_ hk => ⟨Kd.fresh' (Kd.R_lt (FR HO_8.out)) k_ hk, Kd.fresh' (Kd.S_lt (FS HO_12.out)) k_ hk, Kd.fresh' (Kd.S_lt (FS HO_58.out)) k_ hk⟩)); (case aO => exact (FS (Kd.S_mono HO_14.out (fun k_ hk => ⟨⟨hk.1, ⟨hk.2.1, hk.2.2.2⟩⟩, fun e_ => hk.2.2.1 e_⟩)))); (case aS => exact (below_size (FB HB.out))); (case aL => have := LMc39.out; omega); intro v458 w40 ho hb hg hat; rw [← Ny457.out] at ho; have n0_ := Aside0.mk (Kd.R_over' (FR HO_8.out) (Kd.S_typed (FS HO_14.out)) (by decide) hg); have n1_ := Aside0.mk (Kd.S_after (ok := (fun k_ => some k_ ≠ (.slice (some ad456) t433.length co28 : Value).ownBlock ∧ some k_ ≠ (.slice Ao41 x17_3.length co41 : Value).ownBlock ∧ some k_ ≠ (.slice (some ad452) t439.length co21 : Value).ownBlock)) (FS (Kd.S_mono HO_12.out (fun _ hk => ⟨⟨hk.1, ⟨hk.2.2.1, hk.2.2.2⟩⟩, hk.2.1⟩))) hg hat); have n2_ := Aside0.mk (Kd.S_after (ok := (fun k_ => some k_ ≠ (.slice (some ad456) t433.length co28 : Value).ownBlock ∧ some k_ ≠ (v445 : Value).ownBlock ∧ some k_ ≠ (.slice Ao41 x17_3.length co41 : Value).ownBlock)) (FS (Kd.S_mono HO_58.out (fun _ hk => ⟨⟨hk.1, ⟨hk.2.1, hk.2.2.2⟩⟩, hk.2.2.1⟩))) hg hat); have n3_ := Aside0.mk (hb); have n4_ := Aside0.mk (ho); clear HO_8; clear HO_12; clear HO_58; clear HB; clear HO_14; clear HO_17; have HO_8 := n0_; have HO_12 := n1_; have HO_58 := n2_; have HB := n3_; have HO459 := n4_; clear n0_ n1_ n2_ n3_ n4_; clear ho hb hg hat))))
                           go_roundg k3
                           case measure => have := HJ4.out; have := HK2.out; have := HK3.out; omega
                           case rel => exact ⟨(y457), (wrap64 (x60_2 + 1)), (by first | rfl | (simp; done) | (simp [*]; done)), H', ⟨by have := HJ4.out; have := HK2.out; have := HK3.out; omega⟩, ⟨(FR (Kd.R_mono HO_8.out (fun _ hk => trivial)))⟩, ⟨(FS (Kd.S_mono HO_12.out (fun _ hk => ⟨hk.1.1, ⟨hk.2, hk.1.2.2⟩⟩)))⟩, ⟨(FS HO459.out)⟩, ⟨(FS (Kd.S_mono HO_58.out (fun _ hk => ⟨hk.1.1, ⟨hk.1.2.1, hk.2⟩⟩)))⟩, ⟨FB HB.out⟩⟩
                         · rw [if_neg c39] at H
                           exact absurd H (by simp)
                 · rw [if_neg c25] at H
                   exact absurd H (by simp)
               · rw [if_neg c24] at H
                 exact absurd H (by simp)
             · rw [if_neg c23] at H
               exact absurd H (by simp)
           · rw [if_neg c22] at H
             have c22b0 : decide (x60_2 < (t439.length : Int)) = false := decide_eq_false c22
             clear c22
             replace H := Option.bind_eq_some_iff.mp H
             obtain ⟨⟨t450, t451⟩, A420, H⟩ := H
             replace H : (some (t450, t451)) = some (r1, r2) := H
             have A42 := Aside0.mk A420
             clear A420
             simp only [Option.some.injEq, Prod.mk.injEq] at H
             obtain ⟨rfl, rfl⟩ := H
             obtain ⟨Ao43, co43, eo43⟩ := Kd.S_slice HO_14.out
             subst eo43
             iterate 3 ((try go_wp2_with (first | (go_at_call 77; (with_reducible refine (impl_rowed.calls k2 _ _ x14_2 t450 t451 _ ?side1 ?side2 A42.out (LaidW.after HLd.out (FB HB.out))).mono ?_); (case side1 => repeat (first | exact (Kd.S_reads' HO_14.out).2.2 | (with_reducible refine Kd.C_alloc ?_ _) | (with_reducible refine Kd.C_drewN ?_ _) | (with_reducible refine Kd.C_drew ?_))); (case side2 => exact (Kd.S_reads' HO_14.out).2.1); rintro e w44 ⟨rfl, hb⟩; have n0_ := Aside0.mk (Kd.R_below (FR HO_8.out) hb); have n1_ := Aside0.mk (Kd.S_below (FS HO_12.out) hb); have n2_ := Aside0.mk (Kd.S_below (FS HO_14.out) hb); have n3_ := Aside0.mk (Kd.S_below (FS HO_58.out) hb); have n4_ := Aside0.mk (below_step (FB HB.out) hb); clear HO_8; clear HO_12; clear HO_14; clear HO_58; clear HB; have HO_8 := n0_; have HO_12 := n1_; have HO_14 := n2_; have HO_58 := n3_; have HB := n4_; clear n0_ n1_ n2_ n3_ n4_; (try clear hb); (try clear hb2); (try clear hk); (try clear hi)))); (try go_quiet (first | (go_at_call 77; (with_reducible refine (impl_rowed.calls k2 _ _ x14_2 t450 t451 _ ?side1 ?side2 A42.out (LaidW.after HLd.out (FB HB.out))).mono ?_); (case side1 => repeat (first | exact (Kd.S_reads' HO_14.out).2.2 | (with_reducible refine Kd.C_alloc ?_ _) | (with_reducible refine Kd.C_drewN ?_ _) | (with_reducible refine Kd.C_drew ?_))); (case side2 => exact (Kd.S_reads' HO_14.out).2.1); rintro e w44 ⟨rfl, hb⟩; have n0_ := Aside0.mk (Kd.R_below (FR HO_8.out) hb); have n1_ := Aside0.mk (Kd.S_below (FS HO_12.out) hb); have n2_ := Aside0.mk (Kd.S_below (FS HO_14.out) hb); have n3_ := Aside0.mk (Kd.S_below (FS HO_58.out) hb); have n4_ := Aside0.mk (below_step (FB HB.out) hb); clear HO_8; clear HO_12; clear HO_14; clear HO_58; clear HB; have HO_8 := n0_; have HO_12 := n1_; have HO_14 := n2_; have HO_58 := n3_; have HB := n4_; clear n0_ n1_ n2_ n3_ n4_; (try clear hb); (try clear hb2); (try clear hk); (try clear hi)))))
             go_ret2
             exact ⟨by first | rfl | (simp [errW_none, errW_some] <;> rfl) | (simp [*, errW_none, errW_some] <;> rfl), FB HB.out⟩

/-! ### laws_FnExactMultiplyArrays: function 10 -/
def laws_FnExactMultiplyArrays.f (k : Nat) (a0 : ByteArray) (a1 : ByteArray) : Option (Bool) := if (a0.size : Int) > 1048576 then (some true) else (if (a1.size : Int) > 1048576 then (some true) else ((spec_MultiplyArrays.f k a0 a1).bind fun bt466 => ((impl_MultiplyArrays.f k a0 a1).bind fun bt468 => (if bt468.1.toList = bt466.1.toList then (if (bt468.2 != bt466.2) = true then (some false) else (some true)) else (some false)))))
theorem laws_FnExactMultiplyArrays.mono : ∀ a0 a1 k, LeO (laws_FnExactMultiplyArrays.f k a0 a1) (laws_FnExactMultiplyArrays.f (k + 1) a0 a1) := by
 intro a0 a1 k
 unfold laws_FnExactMultiplyArrays.f
 repeat' first
     | (with_reducible exact impl_MultiplyArrays.mono _ _ _)
     | (with_reducible exact spec_MultiplyArrays.mono _ _ _)
     | (with_reducible exact LeO.refl _)
     | (with_reducible exact LeO.none _)
     | (with_reducible refine LeO.ite ?_ ?_)
     | (with_reducible refine LeO.bind ?_ (fun _ => ?_))
     | exact impl_MultiplyArrays.mono _ _ _
     | exact spec_MultiplyArrays.mono _ _ _
     | exact LeO.none _
     | refine LeO.ite ?_ ?_
     | refine LeO.bind ?_ (fun _ => ?_)
set_option maxHeartbeats 8000000 in
set_option maxRecDepth 100000 in
theorem laws_FnExactMultiplyArrays.calls (k : Nat) (a0 : ByteArray) (a1 : ByteArray) (r : Bool) (w : World) (h : laws_FnExactMultiplyArrays.f k a0 a1 = some r) (hL_ : LaidW w) :
   Calls Tryd.prog 10 #[.string a0, .string a1] w fun e w' => e = .returned (.bool r) ∧ Below w.heap.size w w' := by
 have HLd := Aside0.mk hL_
 clear hL_
 have HB := Aside0.mk (Below.refl w.heap.size w)
 have H : (if (a0.size : Int) > 1048576 then (some true) else (if (a1.size : Int) > 1048576 then (some true) else ((spec_MultiplyArrays.f k a0 a1).bind fun bt466 => ((impl_MultiplyArrays.f k a0 a1).bind fun bt468 => (if bt468.1.toList = bt466.1.toList then (if (bt468.2 != bt466.2) = true then (some false) else (some true)) else (some false)))))) = some r := h
 clear h
 by_cases c3 : (a0.size : Int) > 1048576
 · rw [if_pos c3] at H
   have c3b0 : decide (1048576 < (a0.size : Int)) = true := decide_eq_true c3
   have c3b1 : decide (1048576 < a0.size) = true := decide_eq_true (by omega)
   clear c3
   obtain rfl := Option.some.inj H
   go_enter Tryd.func10, Tryd.ntmps10
   go_wp2
   go_ret
   exact ⟨by first | rfl | (simp [errW_none, errW_some] <;> rfl) | (simp [*, errW_none, errW_some] <;> rfl), FB HB.out⟩
 · rw [if_neg c3] at H
   have c3b0 : decide (1048576 < (a0.size : Int)) = false := decide_eq_false c3
   have c3b1 : decide (1048576 < a0.size) = false := decide_eq_false (by omega)
   clear c3
   by_cases c4 : (a1.size : Int) > 1048576
   · rw [if_pos c4] at H
     have c4b0 : decide (1048576 < (a1.size : Int)) = true := decide_eq_true c4
     have c4b1 : decide (1048576 < a1.size) = true := decide_eq_true (by omega)
     clear c4
     obtain rfl := Option.some.inj H
     go_enter Tryd.func10, Tryd.ntmps10
     go_wp2
     go_ret
     exact ⟨by first | rfl | (simp [errW_none, errW_some] <;> rfl) | (simp [*, errW_none, errW_some] <;> rfl), FB HB.out⟩
   · rw [if_neg c4] at H
     have c4b0 : decide (1048576 < (a1.size : Int)) = false := decide_eq_false c4
     have c4b1 : decide (1048576 < a1.size) = false := decide_eq_false (by omega)
     clear c4
     replace H := Option.bind_eq_some_iff.mp H
     obtain ⟨⟨t466, t467⟩, A50, H⟩ := H
     replace H : ((impl_MultiplyArrays.f k a0 a1).bind fun bt468 => (if bt468.1.toList = t466.toList then (if (bt468.2 != t467) = true then (some false) else (some true)) else (some false))) = some r := H
     have A5 := Aside0.mk A50
     clear A50
     replace H := Option.bind_eq_some_iff.mp H
     obtain ⟨⟨t468, t469⟩, A60, H⟩ := H
     replace H : (if t468.toList = t466.toList then (if (t469 != t467) = true then (some false) else (some true)) else (some false)) = some r := H
     have A6 := Aside0.mk A60
     clear A60
     by_cases c7 : t468.toList = t466.toList
     · rw [if_pos c7] at H
       have c7b0 : (t468.toList == t466.toList) = true := beq_iff_eq.mpr c7
       have c7b1 : (t468.toList != t466.toList) = false := bne_eq_false_iff_eq.mpr c7
       clear c7
       by_cases c8 : (t469 != t467) = true
       · rw [if_pos c8] at H
         have c8b0 : (t469 != t467) = true := c8
         (try (have c8b1 : decide (t469 = t467) = false := by simpa using c8))
         (try (have c8b2 : (t469 == t467) = false := by simpa using c8))
         (try (have c8b3 : ¬ (t469 = t467) := by simpa using c8))
         clear c8
         obtain rfl := Option.some.inj H
         go_enter Tryd.func10, Tryd.ntmps10
         go_wp2_with (first | ((with_reducible refine gate_callee (f := 56) rfl ?_); refine goesL_ (some 18) rfl rfl Tryd.func56 (by kernel_rfl) rfl #[.string a0, .string a1] rfl (by (try simp only [List.map_toArray, List.map_cons, List.map_nil]); first | done | rfl | (simp only [List.length_drop, List.length_take]; rfl)) ?_; (with_reducible refine (spec_MultiplyArrays.calls k a0 a1 t466 t467 _ A5.out).mono ?_); rintro e w9 ⟨rfl, hb⟩; refine ⟨_, rfl, ?_⟩; have n0_ := Aside0.mk (below_step (FB HB.out) hb); clear HB; have HB := n0_; clear n0_; (try clear hb); (try clear hb2); (try clear hk); (try clear hi)) | ((with_reducible refine gate_callee (f := 57) rfl ?_); refine goesL_ (some 24) rfl rfl Tryd.func57 (by kernel_rfl) rfl #[.string a0, .string a1] rfl (by (try simp only [List.map_toArray, List.map_cons, List.map_nil]); first | done | rfl | (simp only [List.length_drop, List.length_take]; rfl)) ?_; (with_reducible refine (impl_MultiplyArrays.calls k a0 a1 t468 t469 _ A6.out (LaidW.after HLd.out (FB HB.out))).mono ?_); rintro e w10 ⟨rfl, hb⟩; refine ⟨_, rfl, ?_⟩; have n0_ := Aside0.mk (below_step (FB HB.out) hb); clear HB; have HB := n0_; clear n0_; (try clear hb); (try clear hb2); (try clear hk); (try clear hi)))
         go_ret
         exact ⟨by first | rfl | (simp [errW_none, errW_some] <;> rfl) | (simp [*, errW_none, errW_some] <;> rfl), FB HB.out⟩
       · rw [if_neg c8] at H
         have c8b0 : (t469 != t467) = false := by simpa using c8
         (try (have c8b1 : decide (t469 = t467) = true := by simpa using c8))
         (try (have c8b2 : (t469 == t467) = true := by simpa using c8))
         clear c8
         obtain rfl := Option.some.inj H
         go_enter Tryd.func10, Tryd.ntmps10
         go_wp2_with (first | ((with_reducible refine gate_callee (f := 56) rfl ?_); refine goesL_ (some 18) rfl rfl Tryd.func56 (by kernel_rfl) rfl #[.string a0, .string a1] rfl (by (try simp only [List.map_toArray, List.map_cons, List.map_nil]); first | done | rfl | (simp only [List.length_drop, List.length_take]; rfl)) ?_; (with_reducible refine (spec_MultiplyArrays.calls k a0 a1 t466 t467 _ A5.out).mono ?_); rintro e w11 ⟨rfl, hb⟩; refine ⟨_, rfl, ?_⟩; have n0_ := Aside0.mk (below_step (FB HB.out) hb); clear HB; have HB := n0_; clear n0_; (try clear hb); (try clear hb2); (try clear hk); (try clear hi)) | ((with_reducible refine gate_callee (f := 57) rfl ?_); refine goesL_ (some 24) rfl rfl Tryd.func57 (by kernel_rfl) rfl #[.string a0, .string a1] rfl (by (try simp only [List.map_toArray, List.map_cons, List.map_nil]); first | done | rfl | (simp only [List.length_drop, List.length_take]; rfl)) ?_; (with_reducible refine (impl_MultiplyArrays.calls k a0 a1 t468 t469 _ A6.out (LaidW.after HLd.out (FB HB.out))).mono ?_); rintro e w12 ⟨rfl, hb⟩; refine ⟨_, rfl, ?_⟩; have n0_ := Aside0.mk (below_step (FB HB.out) hb); clear HB; have HB := n0_; clear n0_; (try clear hb); (try clear hb2); (try clear hk); (try clear hi)))
         go_ret
         exact ⟨by first | rfl | (simp [errW_none, errW_some] <;> rfl) | (simp [*, errW_none, errW_some] <;> rfl), FB HB.out⟩
     · rw [if_neg c7] at H
       have c7b0 : (t468.toList == t466.toList) = false := beq_eq_false_iff_ne.mpr c7
       have c7b1 : (t468.toList != t466.toList) = true := bne_iff_ne.mpr c7
       obtain rfl := Option.some.inj H
       go_enter Tryd.func10, Tryd.ntmps10
       go_wp2_with (first | ((with_reducible refine gate_callee (f := 56) rfl ?_); refine goesL_ (some 18) rfl rfl Tryd.func56 (by kernel_rfl) rfl #[.string a0, .string a1] rfl (by (try simp only [List.map_toArray, List.map_cons, List.map_nil]); first | done | rfl | (simp only [List.length_drop, List.length_take]; rfl)) ?_; (with_reducible refine (spec_MultiplyArrays.calls k a0 a1 t466 t467 _ A5.out).mono ?_); rintro e w13 ⟨rfl, hb⟩; refine ⟨_, rfl, ?_⟩; have n0_ := Aside0.mk (below_step (FB HB.out) hb); clear HB; have HB := n0_; clear n0_; (try clear hb); (try clear hb2); (try clear hk); (try clear hi)) | ((with_reducible refine gate_callee (f := 57) rfl ?_); refine goesL_ (some 24) rfl rfl Tryd.func57 (by kernel_rfl) rfl #[.string a0, .string a1] rfl (by (try simp only [List.map_toArray, List.map_cons, List.map_nil]); first | done | rfl | (simp only [List.length_drop, List.length_take]; rfl)) ?_; (with_reducible refine (impl_MultiplyArrays.calls k a0 a1 t468 t469 _ A6.out (LaidW.after HLd.out (FB HB.out))).mono ?_); rintro e w14 ⟨rfl, hb⟩; refine ⟨_, rfl, ?_⟩; have n0_ := Aside0.mk (below_step (FB HB.out) hb); clear HB; have HB := n0_; clear n0_; (try clear hb); (try clear hb2); (try clear hk); (try clear hi)))
       go_ret
       exact ⟨by first | rfl | (simp [errW_none, errW_some] <;> rfl) | (simp [*, errW_none, errW_some] <;> rfl), FB HB.out⟩

/-- THE ONE PURE STATEMENT of laws_FnExactMultiplyArrays: yours. -/
def laws_FnExactMultiplyArrays.Pure : Prop := ∀ (a0 : ByteArray) (a1 : ByteArray), a0.size ≤ 140737488351232 → a1.size ≤ 140737488351232 → ∃ k, laws_FnExactMultiplyArrays.f k a0 a1 = some true
theorem laws_FnExactMultiplyArrays.walk (P : laws_FnExactMultiplyArrays.Pure) (a0 : ByteArray) (a1 : ByteArray) (w : World) (w0 : a0.size ≤ 140737488351232) (w1 : a1.size ≤ 140737488351232) (hL_ : LaidW w) :
   Calls Tryd.prog 10 #[.string a0, .string a1] w fun e w' => e = .returned (.bool true) ∧ Below w.heap.size w w' := by
 obtain ⟨k, h⟩ := P a0 a1 w0 w1
 refine (laws_FnExactMultiplyArrays.calls k a0 a1 true w h hL_).mono ?_
 rintro e w' ⟨rfl, hd⟩
 exact ⟨rfl, hd⟩

end Go.Proofs.YtmjoigpnnechgaaDoor.F
