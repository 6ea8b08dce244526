-- PRINTED by print.py (a twelfth state) out of the translation. Not trusted: Lean checks it.
import Derived.Test.YtmjoigpnnechgaaDoorDx0
import Derived.Test.YtmjoigpnnechgaaDoorDx2
import Derived.Test.YtmjoigpnnechgaaDoorDx3
import Derived.Test.YtmjoigpnnechgaaDoorDx5
import Derived.Test.YtmjoigpnnechgaaDoorDx8
import Derived.Test.YtmjoigpnnechgaaDoorDx9
import Derived.Test.YtmjoigpnnechgaaDoorDGstr
namespace Go.Proofs.YtmjoigpnnechgaaDoor.D
open Go.RowKit Go.Proofs.YtmjoigpnnechgaaDoorW.PrintWords Go.Proofs.YtmjoigpnnechgaaDoorW.PrintLast Go.Proofs.YtmjoigpnnechgaaDoorW.PrintMore
attribute [local go_sem] max2_int min2_int max_two min_two max_three min_three max_four min_four   -- for this text's walks alone
set_option linter.unusedVariables false
set_option linter.unusedSimpArgs false

/-! ### laws_FnFlatten: function 8 -/
mutual
def laws_FnFlatten.j0 : Nat → List Int → List Int → Bool → Option (Bool)
 | 0, _, _, _ => none
 | k + 1, x0, x1, x36 => if x36 = true then (some true) else ((spec_DrawFlattenOnce.f k x0).bind fun bt389 => ((impl_FlattenOnce.f k bt389.1 bt389.2).bind fun bt391 => ((spec_FlattenOnce.f k bt389.1 bt389.2).bind fun bt393 => ((spec_DrawTurnArray.f k x1).bind fun bt395 => ((impl_TurnArray.f k bt395.1 bt395.2).bind fun bt397 => ((spec_TurnArray.f k bt395.1 bt395.2).bind fun bt399 => (if bt391.1.toList = bt393.1.toList then (if (bt391.2 != bt393.2) = true then (laws_FnFlatten.j1 k bt389.1 bt389.2 bt391.1 bt391.2 bt395.1 bt395.2 bt397.1 bt397.2 true) else (if bt397.1.toList = bt399.1.toList then (if (bt397.2 != bt399.2) = true then (laws_FnFlatten.j1 k bt389.1 bt389.2 bt391.1 bt391.2 bt395.1 bt395.2 bt397.1 bt397.2 true) else ((impl_LeastDepth.f k bt395.1).bind fun t401 => ((spec_LeastDepth.f k bt395.1).bind fun t402 => (laws_FnFlatten.j1 k bt389.1 bt389.2 bt391.1 bt391.2 bt395.1 bt395.2 bt397.1 bt397.2 (t401 != t402))))) else (laws_FnFlatten.j1 k bt389.1 bt389.2 bt391.1 bt391.2 bt395.1 bt395.2 bt397.1 bt397.2 true))) else (laws_FnFlatten.j1 k bt389.1 bt389.2 bt391.1 bt391.2 bt395.1 bt395.2 bt397.1 bt397.2 true))))))))
def laws_FnFlatten.j1 : Nat → ByteArray → Int → ByteArray → Bool → ByteArray → Int → ByteArray → Bool → Bool → Option (Bool)
 | 0, _, _, _, _, _, _, _, _, _ => none
 | k + 1, x5, x6, x7, x8, x11, x12, x13, x14, x95 => if x95 = true then (some false) else (if x14 = true then ((impl_TurnArray.f k x13 x12).bind fun bt403 => (if bt403.1.toList = x11.toList then ((impl_LengthOf.f k x13 x12).bind fun t405 => ((impl_LengthOf.f k x11 x12).bind fun t406 => (if t405 = t406 then (laws_FnFlatten.j2 k x5 x6 x7 x8) else (some false)))) else (some false))) else (laws_FnFlatten.j2 k x5 x6 x7 x8))
def laws_FnFlatten.j2 : Nat → ByteArray → Int → ByteArray → Bool → Option (Bool)
 | 0, _, _, _, _ => none
 | k + 1, x5, x6, x7, x8 => if x8 = true then ((impl_NumbersOf.f k x5 x6).bind fun bt407 => ((impl_NumbersOf.f k x7 (wrap64 (x6 - 1))).bind fun bt411 => ((impl_PartsOf.f k x5 x6).bind fun bt415 => (laws_FnFlatten.l0 k x5 x6 x7 bt407.1 bt411.1 bt411.2 0 bt415.1 (bt415.1.length : Int) 0)))) else (some (x7.toList == ([] : List UInt8)))
def laws_FnFlatten.l0 : Nat → ByteArray → Int → ByteArray → List Int → List Int → Bool → Int → List ByteArray → Int → Int → Option (Bool)
 | 0, _, _, _, _, _, _, _, _, _, _ => none
 | k + 1, x5, x6, x7, x19, x21, x22, x25, x138, x139, x140 => if x140 < x139 then (if 0 ≤ x140 then (if x140 < (x138.length : Int) then ((impl_LengthOf.f k (rdOf ByteArray.empty x138 x140) (wrap64 (x6 - 1))).bind fun t420 => (laws_FnFlatten.l0 k x5 x6 x7 x19 x21 x22 (wrap64 (x25 + t420)) x138 x139 (wrap64 (x140 + 1)))) else (none)) else (none)) else ((impl_LeastDepth.f k x5).bind fun t421 => (if x22 = true then ((laws_faSame.f k x19 x21).bind fun t422 => (if t422 = true then ((impl_LengthOf.f k x7 (wrap64 (x6 - 1))).bind fun t423 => (if t423 = x25 then (if t421 ≥ 1 then (some (decide (t421 ≤ x6))) else (some false)) else (some false))) else (some false))) else (some false)))
end
def laws_FnFlatten.f (k : Nat) (l0 : List Int) (l1 : List Int) : Option (Bool) := if (l0.length : Int) > 1048576 then (laws_FnFlatten.j0 k l0 l1 true) else (laws_FnFlatten.j0 k l0 l1 (decide ((l1.length : Int) > 1048576)))
theorem laws_FnFlatten.mono_l : ∀ k, (∀ y0 y1 y2, LeO (laws_FnFlatten.j0 k y0 y1 y2) (laws_FnFlatten.j0 (k + 1) y0 y1 y2)) ∧ (∀ y0 y1 y2 y3 y4 y5 y6 y7 y8, LeO (laws_FnFlatten.j1 k y0 y1 y2 y3 y4 y5 y6 y7 y8) (laws_FnFlatten.j1 (k + 1) y0 y1 y2 y3 y4 y5 y6 y7 y8)) ∧ (∀ y0 y1 y2 y3, LeO (laws_FnFlatten.j2 k y0 y1 y2 y3) (laws_FnFlatten.j2 (k + 1) y0 y1 y2 y3)) ∧ (∀ y0 y1 y2 y3 y4 y5 y6 y7 y8 y9, LeO (laws_FnFlatten.l0 k y0 y1 y2 y3 y4 y5 y6 y7 y8 y9) (laws_FnFlatten.l0 (k + 1) y0 y1 y2 y3 y4 y5 y6 y7 y8 y9))
 | 0 => ⟨fun _ _ _ r h => by simp [laws_FnFlatten.j0] at h, fun _ _ _ _ _ _ _ _ _ r h => by simp [laws_FnFlatten.j1] at h, fun _ _ _ _ r h => by simp [laws_FnFlatten.j2] at h, fun _ _ _ _ _ _ _ _ _ _ r h => by simp [laws_FnFlatten.l0] at h⟩
 | k + 1 => by
   obtain ⟨ih0, ih1, ih2, ih3⟩ := laws_FnFlatten.mono_l k
   refine ⟨?_, ?_, ?_, ?_⟩
   · intro y0 y1 y2
     unfold laws_FnFlatten.j0
     repeat' first
     | (with_reducible exact ih0 _ _ _)
     | (with_reducible exact ih1 _ _ _ _ _ _ _ _ _)
     | (with_reducible exact ih2 _ _ _ _)
     | (with_reducible exact ih3 _ _ _ _ _ _ _ _ _ _)
     | (with_reducible exact impl_FlattenOnce.mono _ _ _)
     | (with_reducible exact impl_LeastDepth.mono _ _)
     | (with_reducible exact impl_LengthOf.mono _ _ _)
     | (with_reducible exact impl_NumbersOf.mono _ _ _)
     | (with_reducible exact impl_PartsOf.mono _ _ _)
     | (with_reducible exact impl_TurnArray.mono _ _ _)
     | (with_reducible exact laws_faSame.mono _ _ _)
     | (with_reducible exact spec_DrawFlattenOnce.mono _ _)
     | (with_reducible exact spec_DrawTurnArray.mono _ _)
     | (with_reducible exact spec_FlattenOnce.mono _ _ _)
     | (with_reducible exact spec_LeastDepth.mono _ _)
     | (with_reducible exact spec_TurnArray.mono _ _ _)
     | (with_reducible exact LeO.refl _)
     | (with_reducible exact LeO.none _)
     | (with_reducible refine LeO.ite ?_ ?_)
     | (with_reducible refine LeO.bind ?_ (fun _ => ?_))
     | exact ih0 _ _ _
     | exact ih1 _ _ _ _ _ _ _ _ _
     | exact ih2 _ _ _ _
     | exact ih3 _ _ _ _ _ _ _ _ _ _
     | exact impl_FlattenOnce.mono _ _ _
     | exact impl_LeastDepth.mono _ _
     | exact impl_LengthOf.mono _ _ _
     | exact impl_NumbersOf.mono _ _ _
     | exact impl_PartsOf.mono _ _ _
     | exact impl_TurnArray.mono _ _ _
     | exact laws_faSame.mono _ _ _
     | exact spec_DrawFlattenOnce.mono _ _
     | exact spec_DrawTurnArray.mono _ _
     | exact spec_FlattenOnce.mono _ _ _
     | exact spec_LeastDepth.mono _ _
     | exact spec_TurnArray.mono _ _ _
     | exact LeO.none _
     | refine LeO.ite ?_ ?_
     | refine LeO.bind ?_ (fun _ => ?_)
   · intro y0 y1 y2 y3 y4 y5 y6 y7 y8
     unfold laws_FnFlatten.j1
     repeat' first
     | (with_reducible exact ih0 _ _ _)
     | (with_reducible exact ih1 _ _ _ _ _ _ _ _ _)
     | (with_reducible exact ih2 _ _ _ _)
     | (with_reducible exact ih3 _ _ _ _ _ _ _ _ _ _)
     | (with_reducible exact impl_FlattenOnce.mono _ _ _)
     | (with_reducible exact impl_LeastDepth.mono _ _)
     | (with_reducible exact impl_LengthOf.mono _ _ _)
     | (with_reducible exact impl_NumbersOf.mono _ _ _)
     | (with_reducible exact impl_PartsOf.mono _ _ _)
     | (with_reducible exact impl_TurnArray.mono _ _ _)
     | (with_reducible exact laws_faSame.mono _ _ _)
     | (with_reducible exact spec_DrawFlattenOnce.mono _ _)
     | (with_reducible exact spec_DrawTurnArray.mono _ _)
     | (with_reducible exact spec_FlattenOnce.mono _ _ _)
     | (with_reducible exact spec_LeastDepth.mono _ _)
     | (with_reducible exact spec_TurnArray.mono _ _ _)
     | (with_reducible exact LeO.refl _)
     | (with_reducible exact LeO.none _)
     | (with_reducible refine LeO.ite ?_ ?_)
     | (with_reducible refine LeO.bind ?_ (fun _ => ?_))
     | exact ih0 _ _ _
     | exact ih1 _ _ _ _ _ _ _ _ _
     | exact ih2 _ _ _ _
     | exact ih3 _ _ _ _ _ _ _ _ _ _
     | exact impl_FlattenOnce.mono _ _ _
     | exact impl_LeastDepth.mono _ _
     | exact impl_LengthOf.mono _ _ _
     | exact impl_NumbersOf.mono _ _ _
     | exact impl_PartsOf.mono _ _ _
     | exact impl_TurnArray.mono _ _ _
     | exact laws_faSame.mono _ _ _
     | exact spec_DrawFlattenOnce.mono _ _
     | exact spec_DrawTurnArray.mono _ _
     | exact spec_FlattenOnce.mono _ _ _
     | exact spec_LeastDepth.mono _ _
     | exact spec_TurnArray.mono _ _ _
     | exact LeO.none _
     | refine LeO.ite ?_ ?_
     | refine LeO.bind ?_ (fun _ => ?_)
   · intro y0 y1 y2 y3
     unfold laws_FnFlatten.j2
     repeat' first
     | (with_reducible exact ih0 _ _ _)
     | (with_reducible exact ih1 _ _ _ _ _ _ _ _ _)
     | (with_reducible exact ih2 _ _ _ _)
     | (with_reducible exact ih3 _ _ _ _ _ _ _ _ _ _)
     | (with_reducible exact impl_FlattenOnce.mono _ _ _)
     | (with_reducible exact impl_LeastDepth.mono _ _)
     | (with_reducible exact impl_LengthOf.mono _ _ _)
     | (with_reducible exact impl_NumbersOf.mono _ _ _)
     | (with_reducible exact impl_PartsOf.mono _ _ _)
     | (with_reducible exact impl_TurnArray.mono _ _ _)
     | (with_reducible exact laws_faSame.mono _ _ _)
     | (with_reducible exact spec_DrawFlattenOnce.mono _ _)
     | (with_reducible exact spec_DrawTurnArray.mono _ _)
     | (with_reducible exact spec_FlattenOnce.mono _ _ _)
     | (with_reducible exact spec_LeastDepth.mono _ _)
     | (with_reducible exact spec_TurnArray.mono _ _ _)
     | (with_reducible exact LeO.refl _)
     | (with_reducible exact LeO.none _)
     | (with_reducible refine LeO.ite ?_ ?_)
     | (with_reducible refine LeO.bind ?_ (fun _ => ?_))
     | exact ih0 _ _ _
     | exact ih1 _ _ _ _ _ _ _ _ _
     | exact ih2 _ _ _ _
     | exact ih3 _ _ _ _ _ _ _ _ _ _
     | exact impl_FlattenOnce.mono _ _ _
     | exact impl_LeastDepth.mono _ _
     | exact impl_LengthOf.mono _ _ _
     | exact impl_NumbersOf.mono _ _ _
     | exact impl_PartsOf.mono _ _ _
     | exact impl_TurnArray.mono _ _ _
     | exact laws_faSame.mono _ _ _
     | exact spec_DrawFlattenOnce.mono _ _
     | exact spec_DrawTurnArray.mono _ _
     | exact spec_FlattenOnce.mono _ _ _
     | exact spec_LeastDepth.mono _ _
     | exact spec_TurnArray.mono _ _ _
     | exact LeO.none _
     | refine LeO.ite ?_ ?_
     | refine LeO.bind ?_ (fun _ => ?_)
   · intro y0 y1 y2 y3 y4 y5 y6 y7 y8 y9
     unfold laws_FnFlatten.l0
     repeat' first
     | (with_reducible exact ih0 _ _ _)
     | (with_reducible exact ih1 _ _ _ _ _ _ _ _ _)
     | (with_reducible exact ih2 _ _ _ _)
     | (with_reducible exact ih3 _ _ _ _ _ _ _ _ _ _)
     | (with_reducible exact impl_FlattenOnce.mono _ _ _)
     | (with_reducible exact impl_LeastDepth.mono _ _)
     | (with_reducible exact impl_LengthOf.mono _ _ _)
     | (with_reducible exact impl_NumbersOf.mono _ _ _)
     | (with_reducible exact impl_PartsOf.mono _ _ _)
     | (with_reducible exact impl_TurnArray.mono _ _ _)
     | (with_reducible exact laws_faSame.mono _ _ _)
     | (with_reducible exact spec_DrawFlattenOnce.mono _ _)
     | (with_reducible exact spec_DrawTurnArray.mono _ _)
     | (with_reducible exact spec_FlattenOnce.mono _ _ _)
     | (with_reducible exact spec_LeastDepth.mono _ _)
     | (with_reducible exact spec_TurnArray.mono _ _ _)
     | (with_reducible exact LeO.refl _)
     | (with_reducible exact LeO.none _)
     | (with_reducible refine LeO.ite ?_ ?_)
     | (with_reducible refine LeO.bind ?_ (fun _ => ?_))
     | exact ih0 _ _ _
     | exact ih1 _ _ _ _ _ _ _ _ _
     | exact ih2 _ _ _ _
     | exact ih3 _ _ _ _ _ _ _ _ _ _
     | exact impl_FlattenOnce.mono _ _ _
     | exact impl_LeastDepth.mono _ _
     | exact impl_LengthOf.mono _ _ _
     | exact impl_NumbersOf.mono _ _ _
     | exact impl_PartsOf.mono _ _ _
     | exact impl_TurnArray.mono _ _ _
     | exact laws_faSame.mono _ _ _
     | exact spec_DrawFlattenOnce.mono _ _
     | exact spec_DrawTurnArray.mono _ _
     | exact spec_FlattenOnce.mono _ _ _
     | exact spec_LeastDepth.mono _ _
     | exact spec_TurnArray.mono _ _ _
     | exact LeO.none _
     | refine LeO.ite ?_ ?_
     | refine LeO.bind ?_ (fun _ => ?_)
theorem laws_FnFlatten.mono : ∀ a0 a1 k, LeO (laws_FnFlatten.f k a0 a1) (laws_FnFlatten.f (k + 1) a0 a1) := by
 intro a0 a1 k
 obtain ⟨ih0, ih1, ih2, ih3⟩ := laws_FnFlatten.mono_l k
 unfold laws_FnFlatten.f
 repeat' first
     | (with_reducible exact ih0 _ _ _)
     | (with_reducible exact ih1 _ _ _ _ _ _ _ _ _)
     | (with_reducible exact ih2 _ _ _ _)
     | (with_reducible exact ih3 _ _ _ _ _ _ _ _ _ _)
     | (with_reducible exact impl_FlattenOnce.mono _ _ _)
     | (with_reducible exact impl_LeastDepth.mono _ _)
     | (with_reducible exact impl_LengthOf.mono _ _ _)
     | (with_reducible exact impl_NumbersOf.mono _ _ _)
     | (with_reducible exact impl_PartsOf.mono _ _ _)
     | (with_reducible exact impl_TurnArray.mono _ _ _)
     | (with_reducible exact laws_faSame.mono _ _ _)
     | (with_reducible exact spec_DrawFlattenOnce.mono _ _)
     | (with_reducible exact spec_DrawTurnArray.mono _ _)
     | (with_reducible exact spec_FlattenOnce.mono _ _ _)
     | (with_reducible exact spec_LeastDepth.mono _ _)
     | (with_reducible exact spec_TurnArray.mono _ _ _)
     | (with_reducible exact LeO.refl _)
     | (with_reducible exact LeO.none _)
     | (with_reducible refine LeO.ite ?_ ?_)
     | (with_reducible refine LeO.bind ?_ (fun _ => ?_))
     | exact ih0 _ _ _
     | exact ih1 _ _ _ _ _ _ _ _ _
     | exact ih2 _ _ _ _
     | exact ih3 _ _ _ _ _ _ _ _ _ _
     | exact impl_FlattenOnce.mono _ _ _
     | exact impl_LeastDepth.mono _ _
     | exact impl_LengthOf.mono _ _ _
     | exact impl_NumbersOf.mono _ _ _
     | exact impl_PartsOf.mono _ _ _
     | exact impl_TurnArray.mono _ _ _
     | exact laws_faSame.mono _ _ _
     | exact spec_DrawFlattenOnce.mono _ _
     | exact spec_DrawTurnArray.mono _ _
     | exact spec_FlattenOnce.mono _ _ _
     | exact spec_LeastDepth.mono _ _
     | exact spec_TurnArray.mono _ _ _
     | exact LeO.none _
     | refine LeO.ite ?_ ?_
     | refine LeO.bind ?_ (fun _ => ?_)
set_option maxHeartbeats 8000000 in
set_option maxRecDepth 100000 in
theorem laws_FnFlatten.calls (k : Nat) (A0 : Option Addr) (c0 : Nat) (l0 : List Int) (A1 : Option Addr) (c1 : Nat) (l1 : List Int) (r : Bool) (w : World) (hr0 : Kd.C (Kd.int .u8) w A0 l0.length l0) (hc0 : l0.length ≤ c0) (hr1 : Kd.C (Kd.int .u8) w A1 l1.length l1) (hc1 : l1.length ≤ c1) (h : laws_FnFlatten.f k l0 l1 = some r) (hL_ : LaidW w) :
   Calls Tryd.prog 8 #[.slice A0 l0.length c0, .slice A1 l1.length c1] w fun e w' => e = .returned (.bool r) ∧ Below w.heap.size w w' := by
 have HLd := Aside0.mk hL_
 clear hL_
 have HR0 := Aside0.mk hr0
 have HC0 := Aside0.mk hc0
 clear hr0 hc0
 have HR1 := Aside0.mk hr1
 have HC1 := Aside0.mk hc1
 clear hr1 hc1
 have HB := Aside0.mk (Below.refl w.heap.size w)
 have H : (if (l0.length : Int) > 1048576 then (laws_FnFlatten.j0 k l0 l1 true) else (laws_FnFlatten.j0 k l0 l1 (decide ((l1.length : Int) > 1048576)))) = some r := h
 clear h
 have HC3 := Aside0.mk H
 clear H
 go_enter Tryd.func8, Tryd.ntmps8
 go_upto_region 1 with (fail)
 go_cut [36] (fun v36 wc => ∃ (kq : Nat) (x36_2 : Bool), v36 = .bool x36_2 ∧ Aside0 (laws_FnFlatten.j0 kq l0 l1 x36_2 = some r) ∧ Aside0 (kq ≤ k) ∧ Aside0 (Below w.heap.size w wc))
 case first =>
   have H := HC3.out
   clear HC3
   by_cases c4 : (l0.length : Int) > 1048576
   · rw [if_pos c4] at H
     have c4b0 : decide (1048576 < (l0.length : Int)) = true := decide_eq_true c4
     have c4b1 : decide (1048576 < l0.length) = true := decide_eq_true (by omega)
     clear c4
     (first | rw [c4b0] | (simp only [i64_w, i32_w]; rw [c4b0]) | skip)
     have H' := Aside0.mk H
     clear H
     go_wp2
     go_meet
     case rel => exact ⟨_, (true), (by first | rfl | (simp; done) | (simp [*]; done)), H', ⟨by first | omega | exact Nat.le_refl _⟩, ⟨by repeat (first | (with_reducible first | exact HB.out | apply below_alloc | apply pw_below_drewN | apply below_drew1) | exact HB.out)⟩⟩
   · rw [if_neg c4] at H
     have c4b0 : decide (1048576 < (l0.length : Int)) = false := decide_eq_false c4
     have c4b1 : decide (1048576 < l0.length) = false := decide_eq_false (by omega)
     clear c4
     (first | rw [c4b0] | (simp only [i64_w, i32_w]; rw [c4b0]) | skip)
     have H' := Aside0.mk H
     clear H
     go_wp2
     go_meet
     case rel => exact ⟨_, (decide ((l1.length : Int) > 1048576)), (by first | rfl | (simp; done) | (simp [*]; done)), H', ⟨by first | omega | exact Nat.le_refl _⟩, ⟨by repeat (first | (with_reducible first | exact HB.out | apply below_alloc | apply pw_below_drewN | apply below_drew1) | exact HB.out)⟩⟩
 case rest =>
   clear HC3
   try clear c1
   try clear p2
   try clear c4
   try clear c4b0
   try clear c4b1
   obtain ⟨kq, x36_2, rfl, HA, HJ2, HB⟩ := hcut
   cases kq with
   | zero => exact absurd HA.out (by simp [laws_FnFlatten.j0])
   | succ kj2 =>
     have H := HA.out
     clear HA
     simp only [laws_FnFlatten.j0] at H
     by_cases c5 : x36_2 = true
     · subst c5
       have H1 : (some true) = some r := by rw [if_pos rfl] at H; exact H
       clear H
       have H := H1
       clear H1
       obtain rfl := Option.some.inj H
       go_wp2
       go_ret
       exact ⟨by first | rfl | (simp [errW_none, errW_some] <;> rfl) | (simp [*, errW_none, errW_some] <;> rfl), by repeat (first | (with_reducible first | exact HB.out | apply below_alloc | apply pw_below_drewN | apply below_drew1) | exact HB.out)⟩
     · replace c5 := Bool.eq_false_iff.mpr c5
       subst c5
       have H1 : ((spec_DrawFlattenOnce.f kj2 l0).bind fun bt389 => ((impl_FlattenOnce.f kj2 bt389.1 bt389.2).bind fun bt391 => ((spec_FlattenOnce.f kj2 bt389.1 bt389.2).bind fun bt393 => ((spec_DrawTurnArray.f kj2 l1).bind fun bt395 => ((impl_TurnArray.f kj2 bt395.1 bt395.2).bind fun bt397 => ((spec_TurnArray.f kj2 bt395.1 bt395.2).bind fun bt399 => (if bt391.1.toList = bt393.1.toList then (if (bt391.2 != bt393.2) = true then (laws_FnFlatten.j1 kj2 bt389.1 bt389.2 bt391.1 bt391.2 bt395.1 bt395.2 bt397.1 bt397.2 true) else (if bt397.1.toList = bt399.1.toList then (if (bt397.2 != bt399.2) = true then (laws_FnFlatten.j1 kj2 bt389.1 bt389.2 bt391.1 bt391.2 bt395.1 bt395.2 bt397.1 bt397.2 true) else ((impl_LeastDepth.f kj2 bt395.1).bind fun t401 => ((spec_LeastDepth.f kj2 bt395.1).bind fun t402 => (laws_FnFlatten.j1 kj2 bt389.1 bt389.2 bt391.1 bt391.2 bt395.1 bt395.2 bt397.1 bt397.2 (t401 != t402))))) else (laws_FnFlatten.j1 kj2 bt389.1 bt389.2 bt391.1 bt391.2 bt395.1 bt395.2 bt397.1 bt397.2 true))) else (laws_FnFlatten.j1 kj2 bt389.1 bt389.2 bt391.1 bt391.2 bt395.1 bt395.2 bt397.1 bt397.2 true)))))))) = some r := by rw [if_neg (show ¬ (false = true) by decide)] at H; exact H
       clear H
       have H := H1
       clear H1
       replace H := Option.bind_eq_some_iff.mp H
       obtain ⟨⟨t389, t390⟩, A60, H⟩ := H
       replace H : ((impl_FlattenOnce.f kj2 t389 t390).bind fun bt391 => ((spec_FlattenOnce.f kj2 t389 t390).bind fun bt393 => ((spec_DrawTurnArray.f kj2 l1).bind fun bt395 => ((impl_TurnArray.f kj2 bt395.1 bt395.2).bind fun bt397 => ((spec_TurnArray.f kj2 bt395.1 bt395.2).bind fun bt399 => (if bt391.1.toList = bt393.1.toList then (if (bt391.2 != bt393.2) = true then (laws_FnFlatten.j1 kj2 t389 t390 bt391.1 bt391.2 bt395.1 bt395.2 bt397.1 bt397.2 true) else (if bt397.1.toList = bt399.1.toList then (if (bt397.2 != bt399.2) = true then (laws_FnFlatten.j1 kj2 t389 t390 bt391.1 bt391.2 bt395.1 bt395.2 bt397.1 bt397.2 true) else ((impl_LeastDepth.f kj2 bt395.1).bind fun t401 => ((spec_LeastDepth.f kj2 bt395.1).bind fun t402 => (laws_FnFlatten.j1 kj2 t389 t390 bt391.1 bt391.2 bt395.1 bt395.2 bt397.1 bt397.2 (t401 != t402))))) else (laws_FnFlatten.j1 kj2 t389 t390 bt391.1 bt391.2 bt395.1 bt395.2 bt397.1 bt397.2 true))) else (laws_FnFlatten.j1 kj2 t389 t390 bt391.1 bt391.2 bt395.1 bt395.2 bt397.1 bt397.2 true))))))) = some r := H
       have A6 := Aside0.mk A60
       clear A60
       replace H := Option.bind_eq_some_iff.mp H
       obtain ⟨⟨t391, t392⟩, A70, H⟩ := H
       replace H : ((spec_FlattenOnce.f kj2 t389 t390).bind fun bt393 => ((spec_DrawTurnArray.f kj2 l1).bind fun bt395 => ((impl_TurnArray.f kj2 bt395.1 bt395.2).bind fun bt397 => ((spec_TurnArray.f kj2 bt395.1 bt395.2).bind fun bt399 => (if t391.toList = bt393.1.toList then (if (t392 != bt393.2) = true then (laws_FnFlatten.j1 kj2 t389 t390 t391 t392 bt395.1 bt395.2 bt397.1 bt397.2 true) else (if bt397.1.toList = bt399.1.toList then (if (bt397.2 != bt399.2) = true then (laws_FnFlatten.j1 kj2 t389 t390 t391 t392 bt395.1 bt395.2 bt397.1 bt397.2 true) else ((impl_LeastDepth.f kj2 bt395.1).bind fun t401 => ((spec_LeastDepth.f kj2 bt395.1).bind fun t402 => (laws_FnFlatten.j1 kj2 t389 t390 t391 t392 bt395.1 bt395.2 bt397.1 bt397.2 (t401 != t402))))) else (laws_FnFlatten.j1 kj2 t389 t390 t391 t392 bt395.1 bt395.2 bt397.1 bt397.2 true))) else (laws_FnFlatten.j1 kj2 t389 t390 t391 t392 bt395.1 bt395.2 bt397.1 bt397.2 true)))))) = some r := H
       have A7 := Aside0.mk A70
       clear A70
       replace H := Option.bind_eq_some_iff.mp H
       obtain ⟨⟨t393, t394⟩, A80, H⟩ := H
       replace H : ((spec_DrawTurnArray.f kj2 l1).bind fun bt395 => ((impl_TurnArray.f kj2 bt395.1 bt395.2).bind fun bt397 => ((spec_TurnArray.f kj2 bt395.1 bt395.2).bind fun bt399 => (if t391.toList = t393.toList then (if (t392 != t394) = true then (laws_FnFlatten.j1 kj2 t389 t390 t391 t392 bt395.1 bt395.2 bt397.1 bt397.2 true) else (if bt397.1.toList = bt399.1.toList then (if (bt397.2 != bt399.2) = true then (laws_FnFlatten.j1 kj2 t389 t390 t391 t392 bt395.1 bt395.2 bt397.1 bt397.2 true) else ((impl_LeastDepth.f kj2 bt395.1).bind fun t401 => ((spec_LeastDepth.f kj2 bt395.1).bind fun t402 => (laws_FnFlatten.j1 kj2 t389 t390 t391 t392 bt395.1 bt395.2 bt397.1 bt397.2 (t401 != t402))))) else (laws_FnFlatten.j1 kj2 t389 t390 t391 t392 bt395.1 bt395.2 bt397.1 bt397.2 true))) else (laws_FnFlatten.j1 kj2 t389 t390 t391 t392 bt395.1 bt395.2 bt397.1 bt397.2 true))))) = some r := H
       have A8 := Aside0.mk A80
       clear A80
       replace H := Option.bind_eq_some_iff.mp H
       obtain ⟨⟨t395, t396⟩, A90, H⟩ := H
       replace H : ((impl_TurnArray.f kj2 t395 t396).bind fun bt397 => ((spec_TurnArray.f kj2 t395 t396).bind fun bt399 => (if t391.toList = t393.toList then (if (t392 != t394) = true then (laws_FnFlatten.j1 kj2 t389 t390 t391 t392 t395 t396 bt397.1 bt397.2 true) else (if bt397.1.toList = bt399.1.toList then (if (bt397.2 != bt399.2) = true then (laws_FnFlatten.j1 kj2 t389 t390 t391 t392 t395 t396 bt397.1 bt397.2 true) else ((impl_LeastDepth.f kj2 t395).bind fun t401 => ((spec_LeastDepth.f kj2 t395).bind fun t402 => (laws_FnFlatten.j1 kj2 t389 t390 t391 t392 t395 t396 bt397.1 bt397.2 (t401 != t402))))) else (laws_FnFlatten.j1 kj2 t389 t390 t391 t392 t395 t396 bt397.1 bt397.2 true))) else (laws_FnFlatten.j1 kj2 t389 t390 t391 t392 t395 t396 bt397.1 bt397.2 true)))) = some r := H
       have A9 := Aside0.mk A90
       clear A90
       replace H := Option.bind_eq_some_iff.mp H
       obtain ⟨⟨t397, t398⟩, A100, H⟩ := H
       replace H : ((spec_TurnArray.f kj2 t395 t396).bind fun bt399 => (if t391.toList = t393.toList then (if (t392 != t394) = true then (laws_FnFlatten.j1 kj2 t389 t390 t391 t392 t395 t396 t397 t398 true) else (if t397.toList = bt399.1.toList then (if (t398 != bt399.2) = true then (laws_FnFlatten.j1 kj2 t389 t390 t391 t392 t395 t396 t397 t398 true) else ((impl_LeastDepth.f kj2 t395).bind fun t401 => ((spec_LeastDepth.f kj2 t395).bind fun t402 => (laws_FnFlatten.j1 kj2 t389 t390 t391 t392 t395 t396 t397 t398 (t401 != t402))))) else (laws_FnFlatten.j1 kj2 t389 t390 t391 t392 t395 t396 t397 t398 true))) else (laws_FnFlatten.j1 kj2 t389 t390 t391 t392 t395 t396 t397 t398 true))) = some r := H
       have A10 := Aside0.mk A100
       clear A100
       replace H := Option.bind_eq_some_iff.mp H
       obtain ⟨⟨t399, t400⟩, A110, H⟩ := H
       replace H : (if t391.toList = t393.toList then (if (t392 != t394) = true then (laws_FnFlatten.j1 kj2 t389 t390 t391 t392 t395 t396 t397 t398 true) else (if t397.toList = t399.toList then (if (t398 != t400) = true then (laws_FnFlatten.j1 kj2 t389 t390 t391 t392 t395 t396 t397 t398 true) else ((impl_LeastDepth.f kj2 t395).bind fun t401 => ((spec_LeastDepth.f kj2 t395).bind fun t402 => (laws_FnFlatten.j1 kj2 t389 t390 t391 t392 t395 t396 t397 t398 (t401 != t402))))) else (laws_FnFlatten.j1 kj2 t389 t390 t391 t392 t395 t396 t397 t398 true))) else (laws_FnFlatten.j1 kj2 t389 t390 t391 t392 t395 t396 t397 t398 true)) = some r := H
       have A11 := Aside0.mk A110
       clear A110
       have HC12 := Aside0.mk H
       clear H
       go_upto_region 9 with (first | ((with_reducible refine gate_callee (f := 47) rfl ?_); refine goesL_ (some 39) rfl rfl Tryd.func47 (by kernel_rfl) rfl #[.slice A0 l0.length c0] rfl (by (try simp only [List.map_toArray, List.map_cons, List.map_nil]); first | done | rfl | (simp only [List.length_drop, List.length_take]; rfl)) ?_; (with_reducible refine (spec_DrawFlattenOnce.calls kj2 _ _ l0 t389 t390 _ ?side1 ?side2 A6.out).mono ?_); (case side1 => repeat (first | exact (Kd.C_below HR0.out HB.out) | (with_reducible refine Kd.C_alloc ?_ _) | (with_reducible refine Kd.C_drewN ?_ _) | (with_reducible refine Kd.C_drew ?_))); (case side2 => exact HC0.out); rintro e w13 ⟨rfl, hb⟩; refine ⟨_, rfl, ?_⟩; have n0_ := Aside0.mk (below_step (by repeat (first | (with_reducible first | exact HB.out | apply below_alloc | apply pw_below_drewN | apply below_drew1) | exact HB.out)) hb); clear HB; have HB := n0_; clear n0_; (try clear hb); (try clear hb2); (try clear hk); (try clear hi)) | ((with_reducible refine gate_callee (f := 48) rfl ?_); refine goesL_ (some 45) rfl rfl Tryd.func48 (by kernel_rfl) rfl #[.string t389, .int .i64 t390] rfl (by (try simp only [List.map_toArray, List.map_cons, List.map_nil]); first | done | rfl | (simp only [List.length_drop, List.length_take]; rfl)) ?_; (with_reducible refine (impl_FlattenOnce.calls kj2 t389 t390 t391 t392 _ A7.out (LaidW.after HLd.out (by repeat (first | (with_reducible first | exact HB.out | apply below_alloc | apply pw_below_drewN | apply below_drew1) | exact HB.out)))).mono ?_); rintro e w14 ⟨rfl, hb⟩; refine ⟨_, rfl, ?_⟩; have n0_ := Aside0.mk (below_step (by repeat (first | (with_reducible first | exact HB.out | apply below_alloc | apply pw_below_drewN | apply below_drew1) | exact HB.out)) hb); clear HB; have HB := n0_; clear n0_; (try clear hb); (try clear hb2); (try clear hk); (try clear hi)) | ((with_reducible refine gate_callee (f := 49) rfl ?_); refine goesL_ (some 51) rfl rfl Tryd.func49 (by kernel_rfl) rfl #[.string t389, .int .i64 t390] rfl (by (try simp only [List.map_toArray, List.map_cons, List.map_nil]); first | done | rfl | (simp only [List.length_drop, List.length_take]; rfl)) ?_; (with_reducible refine (spec_FlattenOnce.calls kj2 t389 t390 t393 t394 _ A8.out).mono ?_); rintro e w15 ⟨rfl, hb⟩; refine ⟨_, rfl, ?_⟩; have n0_ := Aside0.mk (below_step (by repeat (first | (with_reducible first | exact HB.out | apply below_alloc | apply pw_below_drewN | apply below_drew1) | exact HB.out)) hb); clear HB; have HB := n0_; clear n0_; (try clear hb); (try clear hb2); (try clear hk); (try clear hi)) | ((with_reducible refine gate_callee (f := 50) rfl ?_); refine goesL_ (some 56) rfl rfl Tryd.func50 (by kernel_rfl) rfl #[.slice A1 l1.length c1] rfl (by (try simp only [List.map_toArray, List.map_cons, List.map_nil]); first | done | rfl | (simp only [List.length_drop, List.length_take]; rfl)) ?_; (with_reducible refine (spec_DrawTurnArray.calls kj2 _ _ l1 t395 t396 _ ?side1 ?side2 A9.out).mono ?_); (case side1 => repeat (first | exact (Kd.C_below HR1.out HB.out) | (with_reducible refine Kd.C_alloc ?_ _) | (with_reducible refine Kd.C_drewN ?_ _) | (with_reducible refine Kd.C_drew ?_))); (case side2 => exact HC1.out); rintro e w16 ⟨rfl, hb⟩; refine ⟨_, rfl, ?_⟩; have n0_ := Aside0.mk (below_step (by repeat (first | (with_reducible first | exact HB.out | apply below_alloc | apply pw_below_drewN | apply below_drew1) | exact HB.out)) hb); clear HB; have HB := n0_; clear n0_; (try clear hb); (try clear hb2); (try clear hk); (try clear hi)) | ((with_reducible refine gate_callee (f := 43) rfl ?_); refine goesL_ (some 62) rfl rfl Tryd.func43 (by kernel_rfl) rfl #[.string t395, .int .i64 t396] rfl (by (try simp only [List.map_toArray, List.map_cons, List.map_nil]); first | done | rfl | (simp only [List.length_drop, List.length_take]; rfl)) ?_; (with_reducible refine (impl_TurnArray.calls kj2 t395 t396 t397 t398 _ A10.out (LaidW.after HLd.out (by repeat (first | (with_reducible first | exact HB.out | apply below_alloc | apply pw_below_drewN | apply below_drew1) | exact HB.out)))).mono ?_); rintro e w17 ⟨rfl, hb⟩; refine ⟨_, rfl, ?_⟩; have n0_ := Aside0.mk (below_step (by repeat (first | (with_reducible first | exact HB.out | apply below_alloc | apply pw_below_drewN | apply below_drew1) | exact HB.out)) hb); clear HB; have HB := n0_; clear n0_; (try clear hb); (try clear hb2); (try clear hk); (try clear hi)) | ((with_reducible refine gate_callee (f := 51) rfl ?_); refine goesL_ (some 68) rfl rfl Tryd.func51 (by kernel_rfl) rfl #[.string t395, .int .i64 t396] rfl (by (try simp only [List.map_toArray, List.map_cons, List.map_nil]); first | done | rfl | (simp only [List.length_drop, List.length_take]; rfl)) ?_; (with_reducible refine (spec_TurnArray.calls kj2 t395 t396 t399 t400 _ A11.out).mono ?_); rintro e w18 ⟨rfl, hb⟩; refine ⟨_, rfl, ?_⟩; have n0_ := Aside0.mk (below_step (by repeat (first | (with_reducible first | exact HB.out | apply below_alloc | apply pw_below_drewN | apply below_drew1) | exact HB.out)) hb); clear HB; have HB := n0_; clear n0_; (try clear hb); (try clear hb2); (try clear hk); (try clear hi)))
       (try simp only [Act.put, List.setIfInBounds_toArray, List.set_cons_zero, List.set_cons_succ])
       go_cut [95] (fun v95 wc => ∃ (kq : Nat) (x95_11 : Bool), v95 = .bool x95_11 ∧ Aside0 (laws_FnFlatten.j1 kq t389 t390 t391 t392 t395 t396 t397 t398 x95_11 = some r) ∧ Aside0 (kq ≤ kj2) ∧ Aside0 (Below w.heap.size w wc))
       case first =>
         have H := HC12.out
         clear HC12
         by_cases c19 : t391.toList = t393.toList
         · rw [if_pos c19] at H
           have c19b0 : (t391.toList == t393.toList) = true := beq_iff_eq.mpr c19
           have c19b1 : (t391.toList != t393.toList) = false := bne_eq_false_iff_eq.mpr c19
           clear c19
           (first | rw [c19b0] | (simp only [i64_w, i32_w]; rw [c19b0]) | skip)
           by_cases c20 : (t392 != t394) = true
           · rw [if_pos c20] at H
             have c20b0 : (t392 != t394) = true := c20
             (try (have c20b1 : decide (t392 = t394) = false := by simpa using c20))
             (try (have c20b2 : (t392 == t394) = false := by simpa using c20))
             (try (have c20b3 : ¬ (t392 = t394) := by simpa using c20))
             clear c20
             have H' := Aside0.mk H
             clear H
             go_wp2
             go_meet
             case rel => exact ⟨_, (true), (by first | rfl | (simp; done) | (simp [*]; done)), H', ⟨by have := HJ2.out; first | omega | exact Nat.le_refl _⟩, ⟨by repeat (first | (with_reducible first | exact HB.out | apply below_alloc | apply pw_below_drewN | apply below_drew1) | exact HB.out)⟩⟩
           · rw [if_neg c20] at H
             have c20b0 : (t392 != t394) = false := by simpa using c20
             (try (have c20b1 : decide (t392 = t394) = true := by simpa using c20))
             (try (have c20b2 : (t392 == t394) = true := by simpa using c20))
             clear c20
             by_cases c21 : t397.toList = t399.toList
             · rw [if_pos c21] at H
               have c21b0 : (t397.toList == t399.toList) = true := beq_iff_eq.mpr c21
               have c21b1 : (t397.toList != t399.toList) = false := bne_eq_false_iff_eq.mpr c21
               clear c21
               by_cases c22 : (t398 != t400) = true
               · rw [if_pos c22] at H
                 have c22b0 : (t398 != t400) = true := c22
                 (try (have c22b1 : decide (t398 = t400) = false := by simpa using c22))
                 (try (have c22b2 : (t398 == t400) = false := by simpa using c22))
                 (try (have c22b3 : ¬ (t398 = t400) := by simpa using c22))
                 clear c22
                 have H' := Aside0.mk H
                 clear H
                 go_wp2
                 go_meet
                 case rel => exact ⟨_, (true), (by first | rfl | (simp; done) | (simp [*]; done)), H', ⟨by have := HJ2.out; first | omega | exact Nat.le_refl _⟩, ⟨by repeat (first | (with_reducible first | exact HB.out | apply below_alloc | apply pw_below_drewN | apply below_drew1) | exact HB.out)⟩⟩
               · rw [if_neg c22] at H
                 have c22b0 : (t398 != t400) = false := by simpa using c22
                 (try (have c22b1 : decide (t398 = t400) = true := by simpa using c22))
                 (try (have c22b2 : (t398 == t400) = true := by simpa using c22))
                 clear c22
                 replace H := Option.bind_eq_some_iff.mp H
                 obtain ⟨t401, A230, H⟩ := H
                 replace H : ((spec_LeastDepth.f kj2 t395).bind fun t402 => (laws_FnFlatten.j1 kj2 t389 t390 t391 t392 t395 t396 t397 t398 (t401 != t402))) = some r := H
                 have A23 := Aside0.mk A230
                 clear A230
                 replace H := Option.bind_eq_some_iff.mp H
                 obtain ⟨t402, A240, H⟩ := H
                 replace H : (laws_FnFlatten.j1 kj2 t389 t390 t391 t392 t395 t396 t397 t398 (t401 != t402)) = some r := H
                 have A24 := Aside0.mk A240
                 clear A240
                 have H' := Aside0.mk H
                 clear H
                 go_wp2_with (first | (go_at_call 52; (with_reducible refine (impl_LeastDepth.calls kj2 t395 t401 _ A23.out (LaidW.after HLd.out (by repeat (first | (with_reducible first | exact HB.out | apply below_alloc | apply pw_below_drewN | apply below_drew1) | exact HB.out)))).mono ?_); rintro e w25 ⟨rfl, hb⟩; have n0_ := Aside0.mk (below_step (by repeat (first | (with_reducible first | exact HB.out | apply below_alloc | apply pw_below_drewN | apply below_drew1) | exact HB.out)) hb); clear HB; have HB := n0_; clear n0_; (try clear hb); (try clear hb2); (try clear hk); (try clear hi)) | (go_at_call 53; (with_reducible refine (spec_LeastDepth.calls kj2 t395 t402 _ A24.out).mono ?_); rintro e w26 ⟨rfl, hb⟩; have n0_ := Aside0.mk (below_step (by repeat (first | (with_reducible first | exact HB.out | apply below_alloc | apply pw_below_drewN | apply below_drew1) | exact HB.out)) hb); clear HB; have HB := n0_; clear n0_; (try clear hb); (try clear hb2); (try clear hk); (try clear hi)))
                 go_meet
                 case rel => exact ⟨_, ((t401 != t402)), (by first | rfl | (simp; done) | (simp [*]; done)), H', ⟨by have := HJ2.out; first | omega | exact Nat.le_refl _⟩, ⟨by repeat (first | (with_reducible first | exact HB.out | apply below_alloc | apply pw_below_drewN | apply below_drew1) | exact HB.out)⟩⟩
             · rw [if_neg c21] at H
               have c21b0 : (t397.toList == t399.toList) = false := beq_eq_false_iff_ne.mpr c21
               have c21b1 : (t397.toList != t399.toList) = true := bne_iff_ne.mpr c21
               have H' := Aside0.mk H
               clear H
               go_wp2
               go_meet
               case rel => exact ⟨_, (true), (by first | rfl | (simp; done) | (simp [*]; done)), H', ⟨by have := HJ2.out; first | omega | exact Nat.le_refl _⟩, ⟨by repeat (first | (with_reducible first | exact HB.out | apply below_alloc | apply pw_below_drewN | apply below_drew1) | exact HB.out)⟩⟩
         · rw [if_neg c19] at H
           have c19b0 : (t391.toList == t393.toList) = false := beq_eq_false_iff_ne.mpr c19
           have c19b1 : (t391.toList != t393.toList) = true := bne_iff_ne.mpr c19
           (first | rw [c19b0] | (simp only [i64_w, i32_w]; rw [c19b0]) | skip)
           have H' := Aside0.mk H
           clear H
           go_wp2
           go_meet
           case rel => exact ⟨_, (true), (by first | rfl | (simp; done) | (simp [*]; done)), H', ⟨by have := HJ2.out; first | omega | exact Nat.le_refl _⟩, ⟨by repeat (first | (with_reducible first | exact HB.out | apply below_alloc | apply pw_below_drewN | apply below_drew1) | exact HB.out)⟩⟩
       case rest =>
         clear HC12
         try clear c1
         try clear c2
         try clear p2
         try clear c4
         try clear c4b0
         try clear c4b1
         try clear c5
         try clear c8
         try clear c19
         try clear c19b0
         try clear c19b1
         try clear c20
         try clear c20b0
         try clear c20b1
         try clear c20b2
         try clear c21
         try clear c21b0
         try clear c21b1
         try clear c22
         try clear c22b0
         try clear c22b1
         try clear c22b2
         try clear p2
         obtain ⟨kq, x95_11, rfl, HA, HJ11, HB⟩ := hcut
         cases kq with
         | zero => exact absurd HA.out (by simp [laws_FnFlatten.j1])
         | succ kj11 =>
           have H := HA.out
           clear HA
           simp only [laws_FnFlatten.j1] at H
           by_cases c27 : x95_11 = true
           · subst c27
             have H1 : (some false) = some r := by rw [if_pos rfl] at H; exact H
             clear H
             have H := H1
             clear H1
             obtain rfl := Option.some.inj H
             go_wp2
             go_ret
             exact ⟨by first | rfl | (simp [errW_none, errW_some] <;> rfl) | (simp [*, errW_none, errW_some] <;> rfl), by repeat (first | (with_reducible first | exact HB.out | apply below_alloc | apply pw_below_drewN | apply below_drew1) | exact HB.out)⟩
           · replace c27 := Bool.eq_false_iff.mpr c27
             subst c27
             have H1 : (if t398 = true then ((impl_TurnArray.f kj11 t397 t396).bind fun bt403 => (if bt403.1.toList = t395.toList then ((impl_LengthOf.f kj11 t397 t396).bind fun t405 => ((impl_LengthOf.f kj11 t395 t396).bind fun t406 => (if t405 = t406 then (laws_FnFlatten.j2 kj11 t389 t390 t391 t392) else (some false)))) else (some false))) else (laws_FnFlatten.j2 kj11 t389 t390 t391 t392)) = some r := by rw [if_neg (show ¬ (false = true) by decide)] at H; exact H
             clear H
             have H := H1
             clear H1
             have HC28 := Aside0.mk H
             clear H
             go_upto_if 96 with (fail)
             go_cut [] (fun wc => ∃ (kq : Nat), Aside0 (laws_FnFlatten.j2 kq t389 t390 t391 t392 = some r) ∧ Aside0 (kq ≤ kj11) ∧ Aside0 (Below w.heap.size w wc))
             case first =>
               have H := HC28.out
               clear HC28
               by_cases c29 : t398 = true
               · subst c29
                 have H1 : ((impl_TurnArray.f kj11 t397 t396).bind fun bt403 => (if bt403.1.toList = t395.toList then ((impl_LengthOf.f kj11 t397 t396).bind fun t405 => ((impl_LengthOf.f kj11 t395 t396).bind fun t406 => (if t405 = t406 then (laws_FnFlatten.j2 kj11 t389 t390 t391 t392) else (some false)))) else (some false))) = some r := by rw [if_pos rfl] at H; exact H
                 clear H
                 have H := H1
                 clear H1
                 replace H := Option.bind_eq_some_iff.mp H
                 obtain ⟨⟨t403, t404⟩, A300, H⟩ := H
                 replace H : (if t403.toList = t395.toList then ((impl_LengthOf.f kj11 t397 t396).bind fun t405 => ((impl_LengthOf.f kj11 t395 t396).bind fun t406 => (if t405 = t406 then (laws_FnFlatten.j2 kj11 t389 t390 t391 t392) else (some false)))) else (some false)) = some r := H
                 have A30 := Aside0.mk A300
                 clear A300
                 by_cases c31 : t403.toList = t395.toList
                 · rw [if_pos c31] at H
                   have c31b0 : (t403.toList == t395.toList) = true := beq_iff_eq.mpr c31
                   have c31b1 : (t403.toList != t395.toList) = false := bne_eq_false_iff_eq.mpr c31
                   clear c31
                   (first | rw [c31b0] | (simp only [i64_w, i32_w]; rw [c31b0]) | skip)
                   replace H := Option.bind_eq_some_iff.mp H
                   obtain ⟨t405, A320, H⟩ := H
                   replace H : ((impl_LengthOf.f kj11 t395 t396).bind fun t406 => (if t405 = t406 then (laws_FnFlatten.j2 kj11 t389 t390 t391 t392) else (some false))) = some r := H
                   have A32 := Aside0.mk A320
                   clear A320
                   replace H := Option.bind_eq_some_iff.mp H
                   obtain ⟨t406, A330, H⟩ := H
                   replace H : (if t405 = t406 then (laws_FnFlatten.j2 kj11 t389 t390 t391 t392) else (some false)) = some r := H
                   have A33 := Aside0.mk A330
                   clear A330
                   by_cases c34 : t405 = t406
                   · rw [if_pos c34] at H
                     have c34b0 : (t405 == t406) = true := beq_iff_eq.mpr c34
                     have c34b1 : (t405 != t406) = false := bne_eq_false_iff_eq.mpr c34
                     clear c34
                     have H' := Aside0.mk H
                     clear H
                     go_wp2_with (first | ((with_reducible refine gate_callee (f := 43) rfl ?_); refine goesL_ (some 100) rfl rfl Tryd.func43 (by kernel_rfl) rfl #[.string t397, .int .i64 t396] rfl (by (try simp only [List.map_toArray, List.map_cons, List.map_nil]); first | done | rfl | (simp only [List.length_drop, List.length_take]; rfl)) ?_; (with_reducible refine (impl_TurnArray.calls kj11 t397 t396 t403 t404 _ A30.out (LaidW.after HLd.out (by repeat (first | (with_reducible first | exact HB.out | apply below_alloc | apply pw_below_drewN | apply below_drew1) | exact HB.out)))).mono ?_); rintro e w35 ⟨rfl, hb⟩; refine ⟨_, rfl, ?_⟩; have n0_ := Aside0.mk (below_step (by repeat (first | (with_reducible first | exact HB.out | apply below_alloc | apply pw_below_drewN | apply below_drew1) | exact HB.out)) hb); clear HB; have HB := n0_; clear n0_; (try clear hb); (try clear hb2); (try clear hk); (try clear hi)) | (go_at_call 34; (with_reducible refine (impl_LengthOf.calls kj11 t397 t396 t405 _ A32.out (LaidW.after HLd.out (by repeat (first | (with_reducible first | exact HB.out | apply below_alloc | apply pw_below_drewN | apply below_drew1) | exact HB.out)))).mono ?_); rintro e w36 ⟨rfl, hb⟩; have n0_ := Aside0.mk (below_step (by repeat (first | (with_reducible first | exact HB.out | apply below_alloc | apply pw_below_drewN | apply below_drew1) | exact HB.out)) hb); clear HB; have HB := n0_; clear n0_; (try clear hb); (try clear hb2); (try clear hk); (try clear hi)) | (go_at_call 34; (with_reducible refine (impl_LengthOf.calls kj11 t395 t396 t406 _ A33.out (LaidW.after HLd.out (by repeat (first | (with_reducible first | exact HB.out | apply below_alloc | apply pw_below_drewN | apply below_drew1) | exact HB.out)))).mono ?_); rintro e w37 ⟨rfl, hb⟩; have n0_ := Aside0.mk (below_step (by repeat (first | (with_reducible first | exact HB.out | apply below_alloc | apply pw_below_drewN | apply below_drew1) | exact HB.out)) hb); clear HB; have HB := n0_; clear n0_; (try clear hb); (try clear hb2); (try clear hk); (try clear hi)))
                     go_meet
                     case rel => exact ⟨_, H', ⟨by have := HJ2.out; have := HJ11.out; first | omega | exact Nat.le_refl _⟩, ⟨by repeat (first | (with_reducible first | exact HB.out | apply below_alloc | apply pw_below_drewN | apply below_drew1) | exact HB.out)⟩⟩
                   · rw [if_neg c34] at H
                     have c34b0 : (t405 == t406) = false := beq_eq_false_iff_ne.mpr c34
                     have c34b1 : (t405 != t406) = true := bne_iff_ne.mpr c34
                     obtain rfl := Option.some.inj H
                     go_wp2_with (first | ((with_reducible refine gate_callee (f := 43) rfl ?_); refine goesL_ (some 100) rfl rfl Tryd.func43 (by kernel_rfl) rfl #[.string t397, .int .i64 t396] rfl (by (try simp only [List.map_toArray, List.map_cons, List.map_nil]); first | done | rfl | (simp only [List.length_drop, List.length_take]; rfl)) ?_; (with_reducible refine (impl_TurnArray.calls kj11 t397 t396 t403 t404 _ A30.out (LaidW.after HLd.out (by repeat (first | (with_reducible first | exact HB.out | apply below_alloc | apply pw_below_drewN | apply below_drew1) | exact HB.out)))).mono ?_); rintro e w38 ⟨rfl, hb⟩; refine ⟨_, rfl, ?_⟩; have n0_ := Aside0.mk (below_step (by repeat (first | (with_reducible first | exact HB.out | apply below_alloc | apply pw_below_drewN | apply below_drew1) | exact HB.out)) hb); clear HB; have HB := n0_; clear n0_; (try clear hb); (try clear hb2); (try clear hk); (try clear hi)) | (go_at_call 34; (with_reducible refine (impl_LengthOf.calls kj11 t397 t396 t405 _ A32.out (LaidW.after HLd.out (by repeat (first | (with_reducible first | exact HB.out | apply below_alloc | apply pw_below_drewN | apply below_drew1) | exact HB.out)))).mono ?_); rintro e w39 ⟨rfl, hb⟩; have n0_ := Aside0.mk (below_step (by repeat (first | (with_reducible first | exact HB.out | apply below_alloc | apply pw_below_drewN | apply below_drew1) | exact HB.out)) hb); clear HB; have HB := n0_; clear n0_; (try clear hb); (try clear hb2); (try clear hk); (try clear hi)) | (go_at_call 34; (with_reducible refine (impl_LengthOf.calls kj11 t395 t396 t406 _ A33.out (LaidW.after HLd.out (by repeat (first | (with_reducible first | exact HB.out | apply below_alloc | apply pw_below_drewN | apply below_drew1) | exact HB.out)))).mono ?_); rintro e w40 ⟨rfl, hb⟩; have n0_ := Aside0.mk (below_step (by repeat (first | (with_reducible first | exact HB.out | apply below_alloc | apply pw_below_drewN | apply below_drew1) | exact HB.out)) hb); clear HB; have HB := n0_; clear n0_; (try clear hb); (try clear hb2); (try clear hk); (try clear hi)))
                     go_ret
                     exact ⟨by first | rfl | (simp [errW_none, errW_some] <;> rfl) | (simp [*, errW_none, errW_some] <;> rfl), by repeat (first | (with_reducible first | exact HB.out | apply below_alloc | apply pw_below_drewN | apply below_drew1) | exact HB.out)⟩
                 · rw [if_neg c31] at H
                   have c31b0 : (t403.toList == t395.toList) = false := beq_eq_false_iff_ne.mpr c31
                   have c31b1 : (t403.toList != t395.toList) = true := bne_iff_ne.mpr c31
                   (first | rw [c31b0] | (simp only [i64_w, i32_w]; rw [c31b0]) | skip)
                   obtain rfl := Option.some.inj H
                   go_wp2_with (first | ((with_reducible refine gate_callee (f := 43) rfl ?_); refine goesL_ (some 100) rfl rfl Tryd.func43 (by kernel_rfl) rfl #[.string t397, .int .i64 t396] rfl (by (try simp only [List.map_toArray, List.map_cons, List.map_nil]); first | done | rfl | (simp only [List.length_drop, List.length_take]; rfl)) ?_; (with_reducible refine (impl_TurnArray.calls kj11 t397 t396 t403 t404 _ A30.out (LaidW.after HLd.out (by repeat (first | (with_reducible first | exact HB.out | apply below_alloc | apply pw_below_drewN | apply below_drew1) | exact HB.out)))).mono ?_); rintro e w41 ⟨rfl, hb⟩; refine ⟨_, rfl, ?_⟩; have n0_ := Aside0.mk (below_step (by repeat (first | (with_reducible first | exact HB.out | apply below_alloc | apply pw_below_drewN | apply below_drew1) | exact HB.out)) hb); clear HB; have HB := n0_; clear n0_; (try clear hb); (try clear hb2); (try clear hk); (try clear hi)))
                   go_ret
                   exact ⟨by first | rfl | (simp [errW_none, errW_some] <;> rfl) | (simp [*, errW_none, errW_some] <;> rfl), by repeat (first | (with_reducible first | exact HB.out | apply below_alloc | apply pw_below_drewN | apply below_drew1) | exact HB.out)⟩
               · replace c29 := Bool.eq_false_iff.mpr c29
                 subst c29
                 have H1 : (laws_FnFlatten.j2 kj11 t389 t390 t391 t392) = some r := by rw [if_neg (show ¬ (false = true) by decide)] at H; exact H
                 clear H
                 have H := H1
                 clear H1
                 have H' := Aside0.mk H
                 clear H
                 go_wp2
                 go_meet
                 case rel => exact ⟨_, H', ⟨by have := HJ2.out; have := HJ11.out; first | omega | exact Nat.le_refl _⟩, ⟨by repeat (first | (with_reducible first | exact HB.out | apply below_alloc | apply pw_below_drewN | apply below_drew1) | exact HB.out)⟩⟩
             case rest =>
               clear HC28
               try clear c1
               try clear c2
               try clear p2
               try clear c3
               try clear c4
               try clear c4b0
               try clear c4b1
               try clear c5
               try clear c8
               try clear c19
               try clear c19b0
               try clear c19b1
               try clear c20
               try clear c20b0
               try clear c20b1
               try clear c20b2
               try clear c21
               try clear c21b0
               try clear c21b1
               try clear c22
               try clear c22b0
               try clear c22b1
               try clear c22b2
               try clear c27
               try clear c29
               try clear c31
               try clear c31b0
               try clear c31b1
               try clear c34
               try clear c34b0
               try clear c34b1
               try clear p2
               obtain ⟨kq, HA, HJ27, HB⟩ := hcut
               cases kq with
               | zero => exact absurd HA.out (by simp [laws_FnFlatten.j2])
               | succ kj27 =>
                 have H := HA.out
                 clear HA
                 simp only [laws_FnFlatten.j2] at H
                 by_cases c42 : t392 = true
                 · subst c42
                   have H1 : ((impl_NumbersOf.f kj27 t389 t390).bind fun bt407 => ((impl_NumbersOf.f kj27 t391 (wrap64 (t390 - 1))).bind fun bt411 => ((impl_PartsOf.f kj27 t389 t390).bind fun bt415 => (laws_FnFlatten.l0 kj27 t389 t390 t391 bt407.1 bt411.1 bt411.2 0 bt415.1 (bt415.1.length : Int) 0)))) = some r := by rw [if_pos rfl] at H; exact H
                   clear H
                   have H := H1
                   clear H1
                   replace H := Option.bind_eq_some_iff.mp H
                   obtain ⟨⟨t407, t408⟩, A430, H⟩ := H
                   replace H : ((impl_NumbersOf.f kj27 t391 (wrap64 (t390 - 1))).bind fun bt411 => ((impl_PartsOf.f kj27 t389 t390).bind fun bt415 => (laws_FnFlatten.l0 kj27 t389 t390 t391 t407 bt411.1 bt411.2 0 bt415.1 (bt415.1.length : Int) 0))) = some r := H
                   have A43 := Aside0.mk A430
                   clear A430
                   replace H := Option.bind_eq_some_iff.mp H
                   obtain ⟨⟨t411, t412⟩, A440, H⟩ := H
                   replace H : ((impl_PartsOf.f kj27 t389 t390).bind fun bt415 => (laws_FnFlatten.l0 kj27 t389 t390 t391 t407 t411 t412 0 bt415.1 (bt415.1.length : Int) 0)) = some r := H
                   have A44 := Aside0.mk A440
                   clear A440
                   replace H := Option.bind_eq_some_iff.mp H
                   obtain ⟨⟨t415, t416⟩, A450, H⟩ := H
                   replace H : (laws_FnFlatten.l0 kj27 t389 t390 t391 t407 t411 t412 0 t415 (t415.length : Int) 0) = some r := H
                   have A45 := Aside0.mk A450
                   clear A450
                   have H' := Aside0.mk H
                   clear H
                   go_wp2_with (first | ((with_reducible refine gate_callee (f := 42) rfl ?_); refine goesL_ (some 122) rfl rfl Tryd.func42 (by kernel_rfl) rfl #[.string t389, .int .i64 t390] rfl (by (try simp only [List.map_toArray, List.map_cons, List.map_nil]); first | done | rfl | (simp only [List.length_drop, List.length_take]; rfl)) ?_; (with_reducible refine (impl_NumbersOf.calls kj27 t389 t390 t407 t408 _ A43.out (LaidW.after HLd.out (by repeat (first | (with_reducible first | exact HB.out | apply below_alloc | apply pw_below_drewN | apply below_drew1) | exact HB.out)))).mono ?_); rintro e w46 ⟨v409, rfl, ho0, hb⟩; refine ⟨_, rfl, ?_⟩; have n0_ := Aside0.mk (Kd.R_lower ho0 (below_size (by repeat (first | (with_reducible first | exact HB.out | apply below_alloc | apply pw_below_drewN | apply below_drew1) | exact HB.out)))); have n1_ := Aside0.mk (below_step (by repeat (first | (with_reducible first | exact HB.out | apply below_alloc | apply pw_below_drewN | apply below_drew1) | exact HB.out)) hb); clear HB; have HO410 := n0_; have HB := n1_; clear n0_ n1_; (try clear hb); (try clear hb2); (try clear hk); (try clear hi); (try clear ho0)) | ((with_reducible refine gate_callee (f := 42) rfl ?_); refine goesL_ (some 129) rfl rfl Tryd.func42 (by kernel_rfl) rfl #[.string t391, .int .i64 (wrap64 (t390 - 1))] rfl (by (try simp only [List.map_toArray, List.map_cons, List.map_nil]); first | done | rfl | (simp only [List.length_drop, List.length_take]; rfl)) ?_; (with_reducible refine (impl_NumbersOf.calls kj27 t391 (wrap64 (t390 - 1)) t411 t412 _ A44.out (LaidW.after HLd.out (by repeat (first | (with_reducible first | exact HB.out | apply below_alloc | apply pw_below_drewN | apply below_drew1) | exact HB.out)))).mono ?_); rintro e w47 ⟨v413, rfl, ho0, hb⟩; refine ⟨_, rfl, ?_⟩; have n0_ := Aside0.mk (Kd.R_elder' (by (with_reducible repeat (first | apply Kd.R_alloc | apply Kd.R_drewN | apply Kd.R_drew)); exact HO410.out) (Kd.R_base ho0) hb); have n1_ := Aside0.mk (Kd.R_lower (Kd.R_new' ho0 (Kd.R_lt (by (with_reducible repeat (first | apply Kd.R_alloc | apply Kd.R_drewN | apply Kd.R_drew)); exact HO410.out))) (below_size (by repeat (first | (with_reducible first | exact HB.out | apply below_alloc | apply pw_below_drewN | apply below_drew1) | exact HB.out)))); have n2_ := Aside0.mk (below_step (by repeat (first | (with_reducible first | exact HB.out | apply below_alloc | apply pw_below_drewN | apply below_drew1) | exact HB.out)) hb); clear HO410; clear HB; have HO410 := n0_; have HO414 := n1_; have HB := n2_; clear n0_ n1_ n2_; (try clear hb); (try clear hb2); (try clear hk); (try clear hi); (try clear ho0)) | ((with_reducible refine gate_callee (f := 29) rfl ?_); refine goesL_ (some 135) rfl rfl Tryd.func29 (by kernel_rfl) rfl #[.string t389, .int .i64 t390] rfl (by (try simp only [List.map_toArray, List.map_cons, List.map_nil]); first | done | rfl | (simp only [List.length_drop, List.length_take]; rfl)) ?_; (with_reducible refine (impl_PartsOf.calls kj27 t389 t390 t415 t416 _ A45.out (LaidW.after HLd.out (by repeat (first | (with_reducible first | exact HB.out | apply below_alloc | apply pw_below_drewN | apply below_drew1) | exact HB.out)))).mono ?_); rintro e w48 ⟨v417, rfl, ho0, hb⟩; refine ⟨_, rfl, ?_⟩; have n0_ := Aside0.mk (Kd.R_below (by (with_reducible repeat (first | apply Kd.R_alloc | apply Kd.R_drewN | apply Kd.R_drew)); exact HO410.out) hb); have n1_ := Aside0.mk (Kd.R_below (by (with_reducible repeat (first | apply Kd.R_alloc | apply Kd.R_drewN | apply Kd.R_drew)); exact HO414.out) hb); have n2_ := Aside0.mk (Kd.R_lower ho0 (below_size (by repeat (first | (with_reducible first | exact HB.out | apply below_alloc | apply pw_below_drewN | apply below_drew1) | exact HB.out)))); have n3_ := Aside0.mk (below_step (by repeat (first | (with_reducible first | exact HB.out | apply below_alloc | apply pw_below_drewN | apply below_drew1) | exact HB.out)) hb); clear HO410; clear HO414; clear HB; have HO410 := n0_; have HO414 := n1_; have HO418 := n2_; have HB := n3_; clear n0_ n1_ n2_ n3_; (try clear hb); (try clear hb2); (try clear hk); (try clear hi); (try clear ho0); obtain ⟨Ao49, co49, eo49⟩ := Kd.R_slice HO418.out; subst eo49))
                   go_loopg [25, 140] kj27 (fun kq v25 v140 w' => ∃ (x25_4 : Int) (x140_4 : Int), v25 = .int .i64 x25_4 ∧ v140 = .int .i64 x140_4 ∧ Aside0 (laws_FnFlatten.l0 kq t389 t390 t391 t407 t411 t412 x25_4 t415 (t415.length : Int) x140_4 = some r) ∧ Aside0 (kq ≤ kj27) ∧ Aside0 (Kd.R (Kd.int .i64) 3 w' w.heap.size (fun k_ => some k_ ≠ (v413 : Value).ownBlock) v409 t407) ∧ Aside0 (Kd.R (Kd.int .i64) 3 w' w.heap.size (fun k_ => some k_ ≠ (v409 : Value).ownBlock) v413 t411) ∧ Aside0 (Kd.R Kd.string 9 w' w.heap.size (fun _ => True) (.slice Ao49 t415.length co49) t415) ∧ Aside0 (Below w.heap.size w w'))
                   case atStart => exact ⟨(0), (0), (by first | rfl | (simp; done) | (simp [*]; done)), (by first | rfl | (simp; done) | (simp [*]; done)), H', ⟨Nat.le_refl _⟩, ⟨by (with_reducible repeat (first | apply Kd.R_alloc | apply Kd.R_drewN | apply Kd.R_drew)); exact Kd.R_mono HO410.out (fun _ hk => hk.2)⟩, ⟨by (with_reducible repeat (first | apply Kd.R_alloc | apply Kd.R_drewN | apply Kd.R_drew)); exact Kd.R_mono HO414.out (fun _ hk => hk.2)⟩, ⟨by (with_reducible repeat (first | apply Kd.R_alloc | apply Kd.R_drewN | apply Kd.R_drew)); exact HO418.out⟩, ⟨by repeat (first | (with_reducible first | exact HB.out | apply below_alloc | apply pw_below_drewN | apply below_drew1) | exact HB.out)⟩⟩
                   case round =>
                     clear H'
                     try clear c1
                     try clear c2
                     try clear p2
                     try clear c3
                     try clear c4
                     try clear c4b0
                     try clear c4b1
                     try clear c5
                     try clear p6
                     try clear c8
                     try clear c19
                     try clear c19b0
                     try clear c19b1
                     try clear c20
                     try clear c20b0
                     try clear c20b1
                     try clear c20b2
                     try clear c21
                     try clear c21b0
                     try clear c21b1
                     try clear c22
                     try clear c22b0
                     try clear c22b1
                     try clear c22b2
                     try clear c27
                     try clear c29
                     try clear c31
                     try clear c31b0
                     try clear c31b1
                     try clear c34
                     try clear c34b0
                     try clear c34b1
                     try clear c42
                     try clear c43
                     try clear c47
                     try clear c48
                     try clear c49
                     try clear p2
                     obtain ⟨x25_4, x140_4, rfl, rfl, HA, HK4, HO_19, HO_21, HO_138, HB⟩ := hrel
                     cases gk with
                     | zero => exact absurd HA.out (by simp [laws_FnFlatten.l0])
                     | succ k4 =>
                       have H := HA.out
                       clear HA
                       simp only [laws_FnFlatten.l0] at H
                       by_cases c50 : x140_4 < (t415.length : Int)
                       · rw [if_pos c50] at H
                         have c50b0 : decide (x140_4 < (t415.length : Int)) = true := decide_eq_true c50
                         clear c50
                         by_cases c51 : 0 ≤ x140_4
                         · rw [if_pos c51] at H
                           have c51b0 : decide (0 ≤ x140_4) = true := decide_eq_true c51
                           clear c51
                           by_cases c52 : x140_4 < (t415.length : Int)
                           · rw [if_pos c52] at H
                             have c52b0 : decide (x140_4 < (t415.length : Int)) = true := decide_eq_true c52
                             clear c52
                             replace H := Option.bind_eq_some_iff.mp H
                             obtain ⟨t420, A530, H⟩ := H
                             replace H : (laws_FnFlatten.l0 k4 t389 t390 t391 t407 t411 t412 (wrap64 (x25_4 + t420)) t415 (t415.length : Int) (wrap64 (x140_4 + 1))) = some r := H
                             have A53 := Aside0.mk A530
                             clear A530
                             have H' := Aside0.mk H
                             clear H
                             have p419 : 0 ≤ (x140_4 : Int) := of_decide_eq_true (by first | (with_reducible assumption) | assumption)
                             have q419 : x140_4 < (t415.length : Int) := of_decide_eq_true (by first | (with_reducible assumption) | assumption)
                             obtain ⟨ad419, e419, hx419_0⟩ := Kd.at_string (Kd.R_reads' HO_138.out).2.2 x140_4 p419 q419
                             cases e419
                             replace p419 := eq_true p419
                             replace q419 := eq_true q419
                             go_wp2_with (first | ((with_reducible refine gate_callee (f := 34) rfl ?_); refine goesL_ (some 148) rfl rfl Tryd.func34 (by kernel_rfl) rfl #[.string (rdOf ByteArray.empty t415 x140_4), .int .i64 (wrap64 (t390 - 1))] rfl (by (try simp only [List.map_toArray, List.map_cons, List.map_nil]); first | done | rfl | (simp only [List.length_drop, List.length_take]; rfl)) ?_; (with_reducible refine (impl_LengthOf.calls k4 (rdOf ByteArray.empty t415 x140_4) (wrap64 (t390 - 1)) t420 _ A53.out (LaidW.after HLd.out (by repeat (first | (with_reducible first | exact HB.out | apply below_alloc | apply pw_below_drewN | apply below_drew1) | exact HB.out)))).mono ?_); rintro e w54 ⟨rfl, hb⟩; refine ⟨_, rfl, ?_⟩; have n0_ := Aside0.mk (Kd.R_below (by (with_reducible repeat (first | apply Kd.R_alloc | apply Kd.R_drewN | apply Kd.R_drew)); exact HO_19.out) hb); have n1_ := Aside0.mk (Kd.R_below (by (with_reducible repeat (first | apply Kd.R_alloc | apply Kd.R_drewN | apply Kd.R_drew)); exact HO_21.out) hb); have n2_ := Aside0.mk (Kd.R_below (by (with_reducible repeat (first | apply Kd.R_alloc | apply Kd.R_drewN | apply Kd.R_drew)); exact HO_138.out) hb); have n3_ := Aside0.mk (below_step (by repeat (first | (with_reducible first | exact HB.out | apply below_alloc | apply pw_below_drewN | apply below_drew1) | exact HB.out)) hb); clear HO_19; clear HO_21; clear HO_138; clear HB; have HO_19 := n0_; have HO_21 := n1_; have HO_138 := n2_; have HB := n3_; clear n0_ n1_ n2_ n3_; (try clear hb); (try clear hb2); (try clear hk); (try clear hi)))
                             go_roundg k4
                             case measure => have := HJ2.out; have := HJ11.out; have := HJ27.out; have := HK4.out; omega
                             case rel => exact ⟨(wrap64 (x25_4 + t420)), (wrap64 (x140_4 + 1)), (by first | rfl | (simp; done) | (simp [*]; done)), (by first | rfl | (simp; done) | (simp [*]; done)), H', ⟨by have := HJ2.out; have := HJ11.out; have := HJ27.out; have := HK4.out; omega⟩, ⟨by (with_reducible repeat (first | apply Kd.R_alloc | apply Kd.R_drewN | apply Kd.R_drew)); exact HO_19.out⟩, ⟨by (with_reducible repeat (first | apply Kd.R_alloc | apply Kd.R_drewN | apply Kd.R_drew)); exact HO_21.out⟩, ⟨by (with_reducible repeat (first | apply Kd.R_alloc | apply Kd.R_drewN | apply Kd.R_drew)); exact HO_138.out⟩, ⟨by repeat (first | (with_reducible first | exact HB.out | apply below_alloc | apply pw_below_drewN | apply below_drew1) | exact HB.out)⟩⟩
                           · rw [if_neg c52] at H
                             exact absurd H (by simp)
                         · rw [if_neg c51] at H
                           exact absurd H (by simp)
                       · rw [if_neg c50] at H
                         have c50b0 : decide (x140_4 < (t415.length : Int)) = false := decide_eq_false c50
                         clear c50
                         replace H := Option.bind_eq_some_iff.mp H
                         obtain ⟨t421, A550, H⟩ := H
                         replace H : (if t412 = true then ((laws_faSame.f k4 t407 t411).bind fun t422 => (if t422 = true then ((impl_LengthOf.f k4 t391 (wrap64 (t390 - 1))).bind fun t423 => (if t423 = x25_4 then (if t421 ≥ 1 then (some (decide (t421 ≤ t390))) else (some false)) else (some false))) else (some false))) else (some false)) = some r := H
                         have A55 := Aside0.mk A550
                         clear A550
                         by_cases c56 : t412 = true
                         · subst c56
                           have H1 : ((laws_faSame.f k4 t407 t411).bind fun t422 => (if t422 = true then ((impl_LengthOf.f k4 t391 (wrap64 (t390 - 1))).bind fun t423 => (if t423 = x25_4 then (if t421 ≥ 1 then (some (decide (t421 ≤ t390))) else (some false)) else (some false))) else (some false))) = some r := by rw [if_pos rfl] at H; exact H
                           clear H
                           have H := H1
                           clear H1
                           replace H := Option.bind_eq_some_iff.mp H
                           obtain ⟨t422, A570, H⟩ := H
                           replace H : (if t422 = true then ((impl_LengthOf.f k4 t391 (wrap64 (t390 - 1))).bind fun t423 => (if t423 = x25_4 then (if t421 ≥ 1 then (some (decide (t421 ≤ t390))) else (some false)) else (some false))) else (some false)) = some r := H
                           have A57 := Aside0.mk A570
                           clear A570
                           by_cases c58 : t422 = true
                           · subst c58
                             have H1 : ((impl_LengthOf.f k4 t391 (wrap64 (t390 - 1))).bind fun t423 => (if t423 = x25_4 then (if t421 ≥ 1 then (some (decide (t421 ≤ t390))) else (some false)) else (some false))) = some r := by rw [if_pos rfl] at H; exact H
                             clear H
                             have H := H1
                             clear H1
                             replace H := Option.bind_eq_some_iff.mp H
                             obtain ⟨t423, A590, H⟩ := H
                             replace H : (if t423 = x25_4 then (if t421 ≥ 1 then (some (decide (t421 ≤ t390))) else (some false)) else (some false)) = some r := H
                             have A59 := Aside0.mk A590
                             clear A590
                             by_cases c60 : t423 = x25_4
                             · rw [if_pos c60] at H
                               have c60b0 : (t423 == x25_4) = true := beq_iff_eq.mpr c60
                               have c60b1 : (t423 != x25_4) = false := bne_eq_false_iff_eq.mpr c60
                               clear c60
                               by_cases c61 : t421 ≥ 1
                               · rw [if_pos c61] at H
                                 have c61b0 : decide (1 ≤ t421) = true := decide_eq_true c61
                                 clear c61
                                 obtain rfl := Option.some.inj H
                                 go_wp2_with (first | ((with_reducible refine gate_callee (f := 52) rfl ?_); refine goesL_ (some 152) rfl rfl Tryd.func52 (by kernel_rfl) rfl #[.string t389] rfl (by (try simp only [List.map_toArray, List.map_cons, List.map_nil]); first | done | rfl | (simp only [List.length_drop, List.length_take]; rfl)) ?_; (with_reducible refine (impl_LeastDepth.calls k4 t389 t421 _ A55.out (LaidW.after HLd.out (by repeat (first | (with_reducible first | exact HB.out | apply below_alloc | apply pw_below_drewN | apply below_drew1) | exact HB.out)))).mono ?_); rintro e w62 ⟨rfl, hb⟩; refine ⟨_, rfl, ?_⟩; have n0_ := Aside0.mk (Kd.R_below (by (with_reducible repeat (first | apply Kd.R_alloc | apply Kd.R_drewN | apply Kd.R_drew)); exact HO_19.out) hb); have n1_ := Aside0.mk (Kd.R_below (by (with_reducible repeat (first | apply Kd.R_alloc | apply Kd.R_drewN | apply Kd.R_drew)); exact HO_21.out) hb); have n2_ := Aside0.mk (Kd.R_below (by (with_reducible repeat (first | apply Kd.R_alloc | apply Kd.R_drewN | apply Kd.R_drew)); exact HO_138.out) hb); have n3_ := Aside0.mk (below_step (by repeat (first | (with_reducible first | exact HB.out | apply below_alloc | apply pw_below_drewN | apply below_drew1) | exact HB.out)) hb); clear HO_19; clear HO_21; clear HO_138; clear HB; have HO_19 := n0_; have HO_21 := n1_; have HO_138 := n2_; have HB := n3_; clear n0_ n1_ n2_ n3_; (try clear hb); (try clear hb2); (try clear hk); (try clear hi); obtain ⟨Ao63, co63, eo63⟩ := Kd.R_slice HO_19.out; subst eo63; obtain ⟨Ao64, co64, eo64⟩ := Kd.R_slice HO_21.out; subst eo64) | (go_at_call 44; (with_reducible refine (laws_faSame.calls k4 _ _ t407 _ _ t411 true _ ?side1 ?side2 ?side3 ?side4 A57.out).mono ?_); (case side1 => repeat (first | exact (Kd.R_reads' HO_19.out).2.2 | (with_reducible refine Kd.C_alloc ?_ _) | (with_reducible refine Kd.C_drewN ?_ _) | (with_reducible refine Kd.C_drew ?_))); (case side2 => exact (Kd.R_reads' HO_19.out).2.1); (case side3 => repeat (first | exact (Kd.R_reads' HO_21.out).2.2 | (with_reducible refine Kd.C_alloc ?_ _) | (with_reducible refine Kd.C_drewN ?_ _) | (with_reducible refine Kd.C_drew ?_))); (case side4 => exact (Kd.R_reads' HO_21.out).2.1); rintro e w65 ⟨rfl, hb⟩; have n0_ := Aside0.mk (Kd.R_below (by (with_reducible repeat (first | apply Kd.R_alloc | apply Kd.R_drewN | apply Kd.R_drew)); exact HO_19.out) hb); have n1_ := Aside0.mk (Kd.R_below (by (with_reducible repeat (first | apply Kd.R_alloc | apply Kd.R_drewN | apply Kd.R_drew)); exact HO_21.out) hb); have n2_ := Aside0.mk (Kd.R_below (by (with_reducible repeat (first | apply Kd.R_alloc | apply Kd.R_drewN | apply Kd.R_drew)); exact HO_138.out) hb); have n3_ := Aside0.mk (below_step (by repeat (first | (with_reducible first | exact HB.out | apply below_alloc | apply pw_below_drewN | apply below_drew1) | exact HB.out)) hb); clear HO_19; clear HO_21; clear HO_138; clear HB; have HO_19 := n0_; have HO_21 := n1_; have HO_138 := n2_; have HB := n3_; clear n0_ n1_ n2_ n3_; (try clear hb); (try clear hb2); (try clear hk); (try clear hi)) | (go_at_call 34; (with_reducible refine (impl_LengthOf.calls k4 t391 (wrap64 (t390 - 1)) t423 _ A59.out (LaidW.after HLd.out (by repeat (first | (with_reducible first | exact HB.out | apply below_alloc | apply pw_below_drewN | apply below_drew1) | exact HB.out)))).mono ?_); rintro e w66 ⟨rfl, hb⟩; have n0_ := Aside0.mk (Kd.R_below (by (with_reducible repeat (first | apply Kd.R_alloc | apply Kd.R_drewN | apply Kd.R_drew)); exact HO_19.out) hb); have n1_ := Aside0.mk (Kd.R_below (by (with_reducible repeat (first | apply Kd.R_alloc | apply Kd.R_drewN | apply Kd.R_drew)); exact HO_21.out) hb); have n2_ := Aside0.mk (Kd.R_below (by (with_reducible repeat (first | apply Kd.R_alloc | apply Kd.R_drewN | apply Kd.R_drew)); exact HO_138.out) hb); have n3_ := Aside0.mk (below_step (by repeat (first | (with_reducible first | exact HB.out | apply below_alloc | apply pw_below_drewN | apply below_drew1) | exact HB.out)) hb); clear HO_19; clear HO_21; clear HO_138; clear HB; have HO_19 := n0_; have HO_21 := n1_; have HO_138 := n2_; have HB := n3_; clear n0_ n1_ n2_ n3_; (try clear hb); (try clear hb2); (try clear hk); (try clear hi)))
                                 go_ret
                                 exact ⟨by first | rfl | (simp [errW_none, errW_some] <;> rfl) | (simp [*, errW_none, errW_some] <;> rfl), by repeat (first | (with_reducible first | exact HB.out | apply below_alloc | apply pw_below_drewN | apply below_drew1) | exact HB.out)⟩
                               · rw [if_neg c61] at H
                                 have c61b0 : decide (1 ≤ t421) = false := decide_eq_false c61
                                 clear c61
                                 obtain rfl := Option.some.inj H
                                 go_wp2_with (first | ((with_reducible refine gate_callee (f := 52) rfl ?_); refine goesL_ (some 152) rfl rfl Tryd.func52 (by kernel_rfl) rfl #[.string t389] rfl (by (try simp only [List.map_toArray, List.map_cons, List.map_nil]); first | done | rfl | (simp only [List.length_drop, List.length_take]; rfl)) ?_; (with_reducible refine (impl_LeastDepth.calls k4 t389 t421 _ A55.out (LaidW.after HLd.out (by repeat (first | (with_reducible first | exact HB.out | apply below_alloc | apply pw_below_drewN | apply below_drew1) | exact HB.out)))).mono ?_); rintro e w67 ⟨rfl, hb⟩; refine ⟨_, rfl, ?_⟩; have n0_ := Aside0.mk (Kd.R_below (by (with_reducible repeat (first | apply Kd.R_alloc | apply Kd.R_drewN | apply Kd.R_drew)); exact HO_19.out) hb); have n1_ := Aside0.mk (Kd.R_below (by (with_reducible repeat (first | apply Kd.R_alloc | apply Kd.R_drewN | apply Kd.R_drew)); exact HO_21.out) hb); have n2_ := Aside0.mk (Kd.R_below (by (with_reducible repeat (first | apply Kd.R_alloc | apply Kd.R_drewN | apply Kd.R_drew)); exact HO_138.out) hb); have n3_ := Aside0.mk (below_step (by repeat (first | (with_reducible first | exact HB.out | apply below_alloc | apply pw_below_drewN | apply below_drew1) | exact HB.out)) hb); clear HO_19; clear HO_21; clear HO_138; clear HB; have HO_19 := n0_; have HO_21 := n1_; have HO_138 := n2_; have HB := n3_; clear n0_ n1_ n2_ n3_; (try clear hb); (try clear hb2); (try clear hk); (try clear hi); obtain ⟨Ao68, co68, eo68⟩ := Kd.R_slice HO_19.out; subst eo68; obtain ⟨Ao69, co69, eo69⟩ := Kd.R_slice HO_21.out; subst eo69) | (go_at_call 44; (with_reducible refine (laws_faSame.calls k4 _ _ t407 _ _ t411 true _ ?side1 ?side2 ?side3 ?side4 A57.out).mono ?_); (case side1 => repeat (first | exact (Kd.R_reads' HO_19.out).2.2 | (with_reducible refine Kd.C_alloc ?_ _) | (with_reducible refine Kd.C_drewN ?_ _) | (with_reducible refine Kd.C_drew ?_))); (case side2 => exact (Kd.R_reads' HO_19.out).2.1); (case side3 => repeat (first | exact (Kd.R_reads' HO_21.out).2.2 | (with_reducible refine Kd.C_alloc ?_ _) | (with_reducible refine Kd.C_drewN ?_ _) | (with_reducible refine Kd.C_drew ?_))); (case side4 => exact (Kd.R_reads' HO_21.out).2.1); rintro e w70 ⟨rfl, hb⟩; have n0_ := Aside0.mk (Kd.R_below (by (with_reducible repeat (first | apply Kd.R_alloc | apply Kd.R_drewN | apply Kd.R_drew)); exact HO_19.out) hb); have n1_ := Aside0.mk (Kd.R_below (by (with_reducible repeat (first | apply Kd.R_alloc | apply Kd.R_drewN | apply Kd.R_drew)); exact HO_21.out) hb); have n2_ := Aside0.mk (Kd.R_below (by (with_reducible repeat (first | apply Kd.R_alloc | apply Kd.R_drewN | apply Kd.R_drew)); exact HO_138.out) hb); have n3_ := Aside0.mk (below_step (by repeat (first | (with_reducible first | exact HB.out | apply below_alloc | apply pw_below_drewN | apply below_drew1) | exact HB.out)) hb); clear HO_19; clear HO_21; clear HO_138; clear HB; have HO_19 := n0_; have HO_21 := n1_; have HO_138 := n2_; have HB := n3_; clear n0_ n1_ n2_ n3_; (try clear hb); (try clear hb2); (try clear hk); (try clear hi)) | (go_at_call 34; (with_reducible refine (impl_LengthOf.calls k4 t391 (wrap64 (t390 - 1)) t423 _ A59.out (LaidW.after HLd.out (by repeat (first | (with_reducible first | exact HB.out | apply below_alloc | apply pw_below_drewN | apply below_drew1) | exact HB.out)))).mono ?_); rintro e w71 ⟨rfl, hb⟩; have n0_ := Aside0.mk (Kd.R_below (by (with_reducible repeat (first | apply Kd.R_alloc | apply Kd.R_drewN | apply Kd.R_drew)); exact HO_19.out) hb); have n1_ := Aside0.mk (Kd.R_below (by (with_reducible repeat (first | apply Kd.R_alloc | apply Kd.R_drewN | apply Kd.R_drew)); exact HO_21.out) hb); have n2_ := Aside0.mk (Kd.R_below (by (with_reducible repeat (first | apply Kd.R_alloc | apply Kd.R_drewN | apply Kd.R_drew)); exact HO_138.out) hb); have n3_ := Aside0.mk (below_step (by repeat (first | (with_reducible first | exact HB.out | apply below_alloc | apply pw_below_drewN | apply below_drew1) | exact HB.out)) hb); clear HO_19; clear HO_21; clear HO_138; clear HB; have HO_19 := n0_; have HO_21 := n1_; have HO_138 := n2_; have HB := n3_; clear n0_ n1_ n2_ n3_; (try clear hb); (try clear hb2); (try clear hk); (try clear hi)))
                                 go_ret
                                 exact ⟨by first | rfl | (simp [errW_none, errW_some] <;> rfl) | (simp [*, errW_none, errW_some] <;> rfl), by repeat (first | (with_reducible first | exact HB.out | apply below_alloc | apply pw_below_drewN | apply below_drew1) | exact HB.out)⟩
                             · rw [if_neg c60] at H
                               have c60b0 : (t423 == x25_4) = false := beq_eq_false_iff_ne.mpr c60
                               have c60b1 : (t423 != x25_4) = true := bne_iff_ne.mpr c60
                               obtain rfl := Option.some.inj H
                               go_wp2_with (first | ((with_reducible refine gate_callee (f := 52) rfl ?_); refine goesL_ (some 152) rfl rfl Tryd.func52 (by kernel_rfl) rfl #[.string t389] rfl (by (try simp only [List.map_toArray, List.map_cons, List.map_nil]); first | done | rfl | (simp only [List.length_drop, List.length_take]; rfl)) ?_; (with_reducible refine (impl_LeastDepth.calls k4 t389 t421 _ A55.out (LaidW.after HLd.out (by repeat (first | (with_reducible first | exact HB.out | apply below_alloc | apply pw_below_drewN | apply below_drew1) | exact HB.out)))).mono ?_); rintro e w72 ⟨rfl, hb⟩; refine ⟨_, rfl, ?_⟩; have n0_ := Aside0.mk (Kd.R_below (by (with_reducible repeat (first | apply Kd.R_alloc | apply Kd.R_drewN | apply Kd.R_drew)); exact HO_19.out) hb); have n1_ := Aside0.mk (Kd.R_below (by (with_reducible repeat (first | apply Kd.R_alloc | apply Kd.R_drewN | apply Kd.R_drew)); exact HO_21.out) hb); have n2_ := Aside0.mk (Kd.R_below (by (with_reducible repeat (first | apply Kd.R_alloc | apply Kd.R_drewN | apply Kd.R_drew)); exact HO_138.out) hb); have n3_ := Aside0.mk (below_step (by repeat (first | (with_reducible first | exact HB.out | apply below_alloc | apply pw_below_drewN | apply below_drew1) | exact HB.out)) hb); clear HO_19; clear HO_21; clear HO_138; clear HB; have HO_19 := n0_; have HO_21 := n1_; have HO_138 := n2_; have HB := n3_; clear n0_ n1_ n2_ n3_; (try clear hb); (try clear hb2); (try clear hk); (try clear hi); obtain ⟨Ao73, co73, eo73⟩ := Kd.R_slice HO_19.out; subst eo73; obtain ⟨Ao74, co74, eo74⟩ := Kd.R_slice HO_21.out; subst eo74) | (go_at_call 44; (with_reducible refine (laws_faSame.calls k4 _ _ t407 _ _ t411 true _ ?side1 ?side2 ?side3 ?side4 A57.out).mono ?_); (case side1 => repeat (first | exact (Kd.R_reads' HO_19.out).2.2 | (with_reducible refine Kd.C_alloc ?_ _) | (with_reducible refine Kd.C_drewN ?_ _) | (with_reducible refine Kd.C_drew ?_))); (case side2 => exact (Kd.R_reads' HO_19.out).2.1); (case side3 => repeat (first | exact (Kd.R_reads' HO_21.out).2.2 | (with_reducible refine Kd.C_alloc ?_ _) | (with_reducible refine Kd.C_drewN ?_ _) | (with_reducible refine Kd.C_drew ?_))); (case side4 => exact (Kd.R_reads' HO_21.out).2.1); rintro e w75 ⟨rfl, hb⟩; have n0_ := Aside0.mk (Kd.R_below (by (with_reducible repeat (first | apply Kd.R_alloc | apply Kd.R_drewN | apply Kd.R_drew)); exact HO_19.out) hb); have n1_ := Aside0.mk (Kd.R_below (by (with_reducible repeat (first | apply Kd.R_alloc | apply Kd.R_drewN | apply Kd.R_drew)); exact HO_21.out) hb); have n2_ := Aside0.mk (Kd.R_below (by (with_reducible repeat (first | apply Kd.R_alloc | apply Kd.R_drewN | apply Kd.R_drew)); exact HO_138.out) hb); have n3_ := Aside0.mk (below_step (by repeat (first | (with_reducible first | exact HB.out | apply below_alloc | apply pw_below_drewN | apply below_drew1) | exact HB.out)) hb); clear HO_19; clear HO_21; clear HO_138; clear HB; have HO_19 := n0_; have HO_21 := n1_; have HO_138 := n2_; have HB := n3_; clear n0_ n1_ n2_ n3_; (try clear hb); (try clear hb2); (try clear hk); (try clear hi)) | (go_at_call 34; (with_reducible refine (impl_LengthOf.calls k4 t391 (wrap64 (t390 - 1)) t423 _ A59.out (LaidW.after HLd.out (by repeat (first | (with_reducible first | exact HB.out | apply below_alloc | apply pw_below_drewN | apply below_drew1) | exact HB.out)))).mono ?_); rintro e w76 ⟨rfl, hb⟩; have n0_ := Aside0.mk (Kd.R_below (by (with_reducible repeat (first | apply Kd.R_alloc | apply Kd.R_drewN | apply Kd.R_drew)); exact HO_19.out) hb); have n1_ := Aside0.mk (Kd.R_below (by (with_reducible repeat (first | apply Kd.R_alloc | apply Kd.R_drewN | apply Kd.R_drew)); exact HO_21.out) hb); have n2_ := Aside0.mk (Kd.R_below (by (with_reducible repeat (first | apply Kd.R_alloc | apply Kd.R_drewN | apply Kd.R_drew)); exact HO_138.out) hb); have n3_ := Aside0.mk (below_step (by repeat (first | (with_reducible first | exact HB.out | apply below_alloc | apply pw_below_drewN | apply below_drew1) | exact HB.out)) hb); clear HO_19; clear HO_21; clear HO_138; clear HB; have HO_19 := n0_; have HO_21 := n1_; have HO_138 := n2_; have HB := n3_; clear n0_ n1_ n2_ n3_; (try clear hb); (try clear hb2); (try clear hk); (try clear hi)))
                               go_ret
                               exact ⟨by first | rfl | (simp [errW_none, errW_some] <;> rfl) | (simp [*, errW_none, errW_some] <;> rfl), by repeat (first | (with_reducible first | exact HB.out | apply below_alloc | apply pw_below_drewN | apply below_drew1) | exact HB.out)⟩
                           · replace c58 := Bool.eq_false_iff.mpr c58
                             subst c58
                             have H1 : (some false) = some r := by rw [if_neg (show ¬ (false = true) by decide)] at H; exact H
                             clear H
                             have H := H1
                             clear H1
                             obtain rfl := Option.some.inj H
                             go_wp2_with (first | ((with_reducible refine gate_callee (f := 52) rfl ?_); refine goesL_ (some 152) rfl rfl Tryd.func52 (by kernel_rfl) rfl #[.string t389] rfl (by (try simp only [List.map_toArray, List.map_cons, List.map_nil]); first | done | rfl | (simp only [List.length_drop, List.length_take]; rfl)) ?_; (with_reducible refine (impl_LeastDepth.calls k4 t389 t421 _ A55.out (LaidW.after HLd.out (by repeat (first | (with_reducible first | exact HB.out | apply below_alloc | apply pw_below_drewN | apply below_drew1) | exact HB.out)))).mono ?_); rintro e w77 ⟨rfl, hb⟩; refine ⟨_, rfl, ?_⟩; have n0_ := Aside0.mk (Kd.R_below (by (with_reducible repeat (first | apply Kd.R_alloc | apply Kd.R_drewN | apply Kd.R_drew)); exact HO_19.out) hb); have n1_ := Aside0.mk (Kd.R_below (by (with_reducible repeat (first | apply Kd.R_alloc | apply Kd.R_drewN | apply Kd.R_drew)); exact HO_21.out) hb); have n2_ := Aside0.mk (Kd.R_below (by (with_reducible repeat (first | apply Kd.R_alloc | apply Kd.R_drewN | apply Kd.R_drew)); exact HO_138.out) hb); have n3_ := Aside0.mk (below_step (by repeat (first | (with_reducible first | exact HB.out | apply below_alloc | apply pw_below_drewN | apply below_drew1) | exact HB.out)) hb); clear HO_19; clear HO_21; clear HO_138; clear HB; have HO_19 := n0_; have HO_21 := n1_; have HO_138 := n2_; have HB := n3_; clear n0_ n1_ n2_ n3_; (try clear hb); (try clear hb2); (try clear hk); (try clear hi); obtain ⟨Ao78, co78, eo78⟩ := Kd.R_slice HO_19.out; subst eo78; obtain ⟨Ao79, co79, eo79⟩ := Kd.R_slice HO_21.out; subst eo79) | (go_at_call 44; (with_reducible refine (laws_faSame.calls k4 _ _ t407 _ _ t411 false _ ?side1 ?side2 ?side3 ?side4 A57.out).mono ?_); (case side1 => repeat (first | exact (Kd.R_reads' HO_19.out).2.2 | (with_reducible refine Kd.C_alloc ?_ _) | (with_reducible refine Kd.C_drewN ?_ _) | (with_reducible refine Kd.C_drew ?_))); (case side2 => exact (Kd.R_reads' HO_19.out).2.1); (case side3 => repeat (first | exact (Kd.R_reads' HO_21.out).2.2 | (with_reducible refine Kd.C_alloc ?_ _) | (with_reducible refine Kd.C_drewN ?_ _) | (with_reducible refine Kd.C_drew ?_))); (case side4 => exact (Kd.R_reads' HO_21.out).2.1); rintro e w80 ⟨rfl, hb⟩; have n0_ := Aside0.mk (Kd.R_below (by (with_reducible repeat (first | apply Kd.R_alloc | apply Kd.R_drewN | apply Kd.R_drew)); exact HO_19.out) hb); have n1_ := Aside0.mk (Kd.R_below (by (with_reducible repeat (first | apply Kd.R_alloc | apply Kd.R_drewN | apply Kd.R_drew)); exact HO_21.out) hb); have n2_ := Aside0.mk (Kd.R_below (by (with_reducible repeat (first | apply Kd.R_alloc | apply Kd.R_drewN | apply Kd.R_drew)); exact HO_138.out) hb); have n3_ := Aside0.mk (below_step (by repeat (first | (with_reducible first | exact HB.out | apply below_alloc | apply pw_below_drewN | apply below_drew1) | exact HB.out)) hb); clear HO_19; clear HO_21; clear HO_138; clear HB; have HO_19 := n0_; have HO_21 := n1_; have HO_138 := n2_; have HB := n3_; clear n0_ n1_ n2_ n3_; (try clear hb); (try clear hb2); (try clear hk); (try clear hi)))
                             go_ret
                             exact ⟨by first | rfl | (simp [errW_none, errW_some] <;> rfl) | (simp [*, errW_none, errW_some] <;> rfl), by repeat (first | (with_reducible first | exact HB.out | apply below_alloc | apply pw_below_drewN | apply below_drew1) | exact HB.out)⟩
                         · replace c56 := Bool.eq_false_iff.mpr c56
                           subst c56
                           have H1 : (some false) = some r := by rw [if_neg (show ¬ (false = true) by decide)] at H; exact H
                           clear H
                           have H := H1
                           clear H1
                           obtain rfl := Option.some.inj H
                           go_wp2_with (first | ((with_reducible refine gate_callee (f := 52) rfl ?_); refine goesL_ (some 152) rfl rfl Tryd.func52 (by kernel_rfl) rfl #[.string t389] rfl (by (try simp only [List.map_toArray, List.map_cons, List.map_nil]); first | done | rfl | (simp only [List.length_drop, List.length_take]; rfl)) ?_; (with_reducible refine (impl_LeastDepth.calls k4 t389 t421 _ A55.out (LaidW.after HLd.out (by repeat (first | (with_reducible first | exact HB.out | apply below_alloc | apply pw_below_drewN | apply below_drew1) | exact HB.out)))).mono ?_); rintro e w81 ⟨rfl, hb⟩; refine ⟨_, rfl, ?_⟩; have n0_ := Aside0.mk (Kd.R_below (by (with_reducible repeat (first | apply Kd.R_alloc | apply Kd.R_drewN | apply Kd.R_drew)); exact HO_19.out) hb); have n1_ := Aside0.mk (Kd.R_below (by (with_reducible repeat (first | apply Kd.R_alloc | apply Kd.R_drewN | apply Kd.R_drew)); exact HO_21.out) hb); have n2_ := Aside0.mk (Kd.R_below (by (with_reducible repeat (first | apply Kd.R_alloc | apply Kd.R_drewN | apply Kd.R_drew)); exact HO_138.out) hb); have n3_ := Aside0.mk (below_step (by repeat (first | (with_reducible first | exact HB.out | apply below_alloc | apply pw_below_drewN | apply below_drew1) | exact HB.out)) hb); clear HO_19; clear HO_21; clear HO_138; clear HB; have HO_19 := n0_; have HO_21 := n1_; have HO_138 := n2_; have HB := n3_; clear n0_ n1_ n2_ n3_; (try clear hb); (try clear hb2); (try clear hk); (try clear hi)))
                           go_ret
                           exact ⟨by first | rfl | (simp [errW_none, errW_some] <;> rfl) | (simp [*, errW_none, errW_some] <;> rfl), by repeat (first | (with_reducible first | exact HB.out | apply below_alloc | apply pw_below_drewN | apply below_drew1) | exact HB.out)⟩
                 · replace c42 := Bool.eq_false_iff.mpr c42
                   subst c42
                   have H1 : (some (t391.toList == ([] : List UInt8))) = some r := by rw [if_neg (show ¬ (false = true) by decide)] at H; exact H
                   clear H
                   have H := H1
                   clear H1
                   obtain rfl := Option.some.inj H
                   go_wp2
                   go_ret
                   exact ⟨by first | rfl | (simp [errW_none, errW_some] <;> rfl) | (simp [*, errW_none, errW_some] <;> rfl), by repeat (first | (with_reducible first | exact HB.out | apply below_alloc | apply pw_below_drewN | apply below_drew1) | exact HB.out)⟩

/-- THE ONE PURE STATEMENT of laws_FnFlatten: yours. -/
def laws_FnFlatten.Pure : Prop := ∀ (l0 : List Int) (l1 : List Int), l0.length ≤ maxLen → l0.length * 1 ≤ 140737488351232 → (∀ x ∈ l0, (Lit.int .u8 x).wf = true) → l1.length ≤ maxLen → l1.length * 1 ≤ 140737488351232 → (∀ x ∈ l1, (Lit.int .u8 x).wf = true) → ∃ k, laws_FnFlatten.f k l0 l1 = some true
theorem laws_FnFlatten.walk (P : laws_FnFlatten.Pure) (a0 : Option Addr) (len0 cap0 : Nat) (z0 : List Int) (a1 : Option Addr) (len1 cap1 : Nat) (z1 : List Int) (w : World) (w0 : (a0 = none ∧ len0 = 0 ∧ cap0 = 0 ∧ z0 = []) ∨ ∃ x, a0 = some x ∧ len0 ≤ cap0 ∧ cap0 ≤ maxLen ∧ z0.length = cap0 ∧ (∀ i, i < z0.length → w.cell? (x.add i) = some (.int .u8 (z0.getD i 0))) ∧ ∀ n ∈ z0, (Lit.int .u8 n).wf = true) (y0 : len0 * 1 ≤ 140737488351232) (w1 : (a1 = none ∧ len1 = 0 ∧ cap1 = 0 ∧ z1 = []) ∨ ∃ x, a1 = some x ∧ len1 ≤ cap1 ∧ cap1 ≤ maxLen ∧ z1.length = cap1 ∧ (∀ i, i < z1.length → w.cell? (x.add i) = some (.int .u8 (z1.getD i 0))) ∧ ∀ n ∈ z1, (Lit.int .u8 n).wf = true) (y1 : len1 * 1 ≤ 140737488351232) (hL_ : LaidW w) :
   Calls Tryd.prog 8 #[.slice a0 len0 cap0, .slice a1 len1 cap1] w fun e w' => e = .returned (.bool true) ∧ Below w.heap.size w w' := by
 obtain ⟨l0, rfl, hr0, hm0, hw0, hc0⟩ := ReadsInt.ofRowC w0
 obtain ⟨l1, rfl, hr1, hm1, hw1, hc1⟩ := ReadsInt.ofRowC w1
 obtain ⟨k, h⟩ := P l0 l1 hm0 y0 hw0 hm1 y1 hw1
 refine (laws_FnFlatten.calls k _ _ l0 _ _ l1 true w (Kd.C_of_reads (d := (0 : Int)) (h1 := fun _ => rfl) hr0) hc0 (Kd.C_of_reads (d := (0 : Int)) (h1 := fun _ => rfl) hr1) hc1 h hL_).mono ?_
 rintro e w' ⟨rfl, hd⟩
 exact ⟨rfl, hd⟩

end Go.Proofs.YtmjoigpnnechgaaDoor.D
