-- PRINTED by print.py (a twelfth state) out of the translation. Not trusted: Lean checks it.
import Derived.Test.YtmjoigpnnechgaaDoorFx0
import Derived.Test.YtmjoigpnnechgaaDoorFx1
import Derived.Test.YtmjoigpnnechgaaDoorFx5
namespace Go.Proofs.YtmjoigpnnechgaaDoor.F
open Go.RowKit Go.Proofs.YtmjoigpnnechgaaDoorW.PrintWords Go.Proofs.YtmjoigpnnechgaaDoorW.PrintLast Go.Proofs.YtmjoigpnnechgaaDoorW.PrintMore
attribute [local go_sem] max2_int min2_int max_two min_two max_three min_three max_four min_four   -- for this text's walks alone
set_option linter.unusedVariables false
set_option linter.unusedSimpArgs false

/-! ### spec_MultiplyArrays: function 56 -/
mutual
def spec_MultiplyArrays.j0 : Nat → List (List Int) → List (List Int) → Int → Bool → Option (ByteArray × Bool)
 | 0, _, _, _, _ => none
 | k + 1, x6, x9, x10, x43 => if x43 = true then (some ((⟨#[]⟩ : ByteArray), false)) else (spec_MultiplyArrays.l0 k x9 x10 (([] : List (List Int))) x6 (x6.length : Int) 0)
def spec_MultiplyArrays.l0 : Nat → List (List Int) → Int → List (List Int) → List (List Int) → Int → Int → Option (ByteArray × Bool)
 | 0, _, _, _, _, _, _ => none
 | k + 1, x9, x10, x12, x45, x46, x47 => if x47 < x46 then (if 0 ≤ x47 then (if x47 < (x45.length : Int) then (spec_MultiplyArrays.l1 k x9 x10 x12 (rd_L3 x45 x47) (([] : List Int)) x45 x46 x47 x10 0) else (none)) else (none)) else ((spec_l11Text.f k x12).bind fun bt303 => (some (bt303.1, bt303.2)))
def spec_MultiplyArrays.l1 : Nat → List (List Int) → Int → List (List Int) → List Int → List Int → List (List Int) → Int → Int → Int → Int → Option (ByteArray × Bool)
 | 0, _, _, _, _, _, _, _, _, _, _ => none
 | k + 1, x9, x10, x12, x14, x15, x45, x46, x47, x52, x53 => if x53 < x52 then (spec_MultiplyArrays.l2 k x9 x10 x12 x14 x15 x53 0 x45 x46 x47 x52 x53 x14 (x14.length : Int) 0) else (if x12.length < 5864062014805 then (spec_MultiplyArrays.l0 k x9 x10 (x12 ++ [x15]) x45 x46 (wrap64 (x47 + 1))) else (none))
def spec_MultiplyArrays.l2 : Nat → List (List Int) → Int → List (List Int) → List Int → List Int → Int → Int → List (List Int) → Int → Int → Int → Int → List Int → Int → Int → Option (ByteArray × Bool)
 | 0, _, _, _, _, _, _, _, _, _, _, _, _, _, _, _ => none
 | k + 1, x9, x10, x12, x14, x15, x16, x17, x45, x46, x47, x52, x53, x56, x57, x58 => if x58 < x57 then (if 0 ≤ x58 then (if x58 < (x56.length : Int) then (if x58 < (x9.length : Int) then (if 0 ≤ x16 then (if x16 < ((rd_L3 x9 x58).length : Int) then ((spec_l3Add.f x17 (Int.tmod (wrap64 ((rd x56 x58) * (rd (rd_L3 x9 x58) x16))) 10007)).bind fun t315 => (spec_MultiplyArrays.l2 k x9 x10 x12 x14 x15 x16 t315 x45 x46 x47 x52 x53 x56 x57 (wrap64 (x58 + 1)))) else (none)) else (none)) else (none)) else (none)) else (none)) else (if x15.length < 17592186044416 then (spec_MultiplyArrays.l1 k x9 x10 x12 x14 (x15 ++ [x17]) x45 x46 x47 x52 (wrap64 (x53 + 1))) else (none))
end
def spec_MultiplyArrays.f (k : Nat) (a0 : ByteArray) (a1 : ByteArray) : Option (ByteArray × Bool) := (spec_l11Rows.f k a0).bind fun bt290 => ((spec_l11Rows.f k a1).bind fun bt295 => (if bt290.2.2 = true then (if bt295.2.2 = true then (spec_MultiplyArrays.j0 k bt290.1 bt295.1 bt295.2.1 (bt290.2.1 != (bt295.1.length : Int))) else (spec_MultiplyArrays.j0 k bt290.1 bt295.1 bt295.2.1 true)) else (spec_MultiplyArrays.j0 k bt290.1 bt295.1 bt295.2.1 true)))
theorem spec_MultiplyArrays.mono_l : ∀ k, (∀ y0 y1 y2 y3, LeO (spec_MultiplyArrays.j0 k y0 y1 y2 y3) (spec_MultiplyArrays.j0 (k + 1) y0 y1 y2 y3)) ∧ (∀ y0 y1 y2 y3 y4 y5, LeO (spec_MultiplyArrays.l0 k y0 y1 y2 y3 y4 y5) (spec_MultiplyArrays.l0 (k + 1) y0 y1 y2 y3 y4 y5)) ∧ (∀ y0 y1 y2 y3 y4 y5 y6 y7 y8 y9, LeO (spec_MultiplyArrays.l1 k y0 y1 y2 y3 y4 y5 y6 y7 y8 y9) (spec_MultiplyArrays.l1 (k + 1) y0 y1 y2 y3 y4 y5 y6 y7 y8 y9)) ∧ (∀ y0 y1 y2 y3 y4 y5 y6 y7 y8 y9 y10 y11 y12 y13 y14, LeO (spec_MultiplyArrays.l2 k y0 y1 y2 y3 y4 y5 y6 y7 y8 y9 y10 y11 y12 y13 y14) (spec_MultiplyArrays.l2 (k + 1) y0 y1 y2 y3 y4 y5 y6 y7 y8 y9 y10 y11 y12 y13 y14))
 | 0 => ⟨fun _ _ _ _ r h => by simp [spec_MultiplyArrays.j0] at h, fun _ _ _ _ _ _ r h => by simp [spec_MultiplyArrays.l0] at h, fun _ _ _ _ _ _ _ _ _ _ r h => by simp [spec_MultiplyArrays.l1] at h, fun _ _ _ _ _ _ _ _ _ _ _ _ _ _ _ r h => by simp [spec_MultiplyArrays.l2] at h⟩
 | k + 1 => by
   obtain ⟨ih0, ih1, ih2, ih3⟩ := spec_MultiplyArrays.mono_l k
   refine ⟨?_, ?_, ?_, ?_⟩
   · intro y0 y1 y2 y3
     unfold spec_MultiplyArrays.j0
     repeat' first
     | (with_reducible exact ih0 _ _ _ _)
     | (with_reducible exact ih1 _ _ _ _ _ _)
     | (with_reducible exact ih2 _ _ _ _ _ _ _ _ _ _)
     | (with_reducible exact ih3 _ _ _ _ _ _ _ _ _ _ _ _ _ _ _)
     | (with_reducible exact spec_l11Rows.mono _ _)
     | (with_reducible exact spec_l11Text.mono _ _)
     | (with_reducible exact LeO.refl _)
     | (with_reducible exact LeO.none _)
     | (with_reducible refine LeO.ite ?_ ?_)
     | (with_reducible refine LeO.bind ?_ (fun _ => ?_))
     | exact ih0 _ _ _ _
     | exact ih1 _ _ _ _ _ _
     | exact ih2 _ _ _ _ _ _ _ _ _ _
     | exact ih3 _ _ _ _ _ _ _ _ _ _ _ _ _ _ _
     | exact spec_l11Rows.mono _ _
     | exact spec_l11Text.mono _ _
     | exact LeO.none _
     | refine LeO.ite ?_ ?_
     | refine LeO.bind ?_ (fun _ => ?_)
   · intro y0 y1 y2 y3 y4 y5
     unfold spec_MultiplyArrays.l0
     repeat' first
     | (with_reducible exact ih0 _ _ _ _)
     | (with_reducible exact ih1 _ _ _ _ _ _)
     | (with_reducible exact ih2 _ _ _ _ _ _ _ _ _ _)
     | (with_reducible exact ih3 _ _ _ _ _ _ _ _ _ _ _ _ _ _ _)
     | (with_reducible exact spec_l11Rows.mono _ _)
     | (with_reducible exact spec_l11Text.mono _ _)
     | (with_reducible exact LeO.refl _)
     | (with_reducible exact LeO.none _)
     | (with_reducible refine LeO.ite ?_ ?_)
     | (with_reducible refine LeO.bind ?_ (fun _ => ?_))
     | exact ih0 _ _ _ _
     | exact ih1 _ _ _ _ _ _
     | exact ih2 _ _ _ _ _ _ _ _ _ _
     | exact ih3 _ _ _ _ _ _ _ _ _ _ _ _ _ _ _
     | exact spec_l11Rows.mono _ _
     | exact spec_l11Text.mono _ _
     | exact LeO.none _
     | refine LeO.ite ?_ ?_
     | refine LeO.bind ?_ (fun _ => ?_)
   · intro y0 y1 y2 y3 y4 y5 y6 y7 y8 y9
     unfold spec_MultiplyArrays.l1
     repeat' first
     | (with_reducible exact ih0 _ _ _ _)
     | (with_reducible exact ih1 _ _ _ _ _ _)
     | (with_reducible exact ih2 _ _ _ _ _ _ _ _ _ _)
     | (with_reducible exact ih3 _ _ _ _ _ _ _ _ _ _ _ _ _ _ _)
     | (with_reducible exact spec_l11Rows.mono _ _)
     | (with_reducible exact spec_l11Text.mono _ _)
     | (with_reducible exact LeO.refl _)
     | (with_reducible exact LeO.none _)
     | (with_reducible refine LeO.ite ?_ ?_)
     | (with_reducible refine LeO.bind ?_ (fun _ => ?_))
     | exact ih0 _ _ _ _
     | exact ih1 _ _ _ _ _ _
     | exact ih2 _ _ _ _ _ _ _ _ _ _
     | exact ih3 _ _ _ _ _ _ _ _ _ _ _ _ _ _ _
     | exact spec_l11Rows.mono _ _
     | exact spec_l11Text.mono _ _
     | exact LeO.none _
     | refine LeO.ite ?_ ?_
     | refine LeO.bind ?_ (fun _ => ?_)
   · intro y0 y1 y2 y3 y4 y5 y6 y7 y8 y9 y10 y11 y12 y13 y14
     unfold spec_MultiplyArrays.l2
     repeat' first
     | (with_reducible exact ih0 _ _ _ _)
     | (with_reducible exact ih1 _ _ _ _ _ _)
     | (with_reducible exact ih2 _ _ _ _ _ _ _ _ _ _)
     | (with_reducible exact ih3 _ _ _ _ _ _ _ _ _ _ _ _ _ _ _)
     | (with_reducible exact spec_l11Rows.mono _ _)
     | (with_reducible exact spec_l11Text.mono _ _)
     | (with_reducible exact LeO.refl _)
     | (with_reducible exact LeO.none _)
     | (with_reducible refine LeO.ite ?_ ?_)
     | (with_reducible refine LeO.bind ?_ (fun _ => ?_))
     | exact ih0 _ _ _ _
     | exact ih1 _ _ _ _ _ _
     | exact ih2 _ _ _ _ _ _ _ _ _ _
     | exact ih3 _ _ _ _ _ _ _ _ _ _ _ _ _ _ _
     | exact spec_l11Rows.mono _ _
     | exact spec_l11Text.mono _ _
     | exact LeO.none _
     | refine LeO.ite ?_ ?_
     | refine LeO.bind ?_ (fun _ => ?_)
theorem spec_MultiplyArrays.mono : ∀ a0 a1 k, LeO (spec_MultiplyArrays.f k a0 a1) (spec_MultiplyArrays.f (k + 1) a0 a1) := by
 intro a0 a1 k
 obtain ⟨ih0, ih1, ih2, ih3⟩ := spec_MultiplyArrays.mono_l k
 unfold spec_MultiplyArrays.f
 repeat' first
     | (with_reducible exact ih0 _ _ _ _)
     | (with_reducible exact ih1 _ _ _ _ _ _)
     | (with_reducible exact ih2 _ _ _ _ _ _ _ _ _ _)
     | (with_reducible exact ih3 _ _ _ _ _ _ _ _ _ _ _ _ _ _ _)
     | (with_reducible exact spec_l11Rows.mono _ _)
     | (with_reducible exact spec_l11Text.mono _ _)
     | (with_reducible exact LeO.refl _)
     | (with_reducible exact LeO.none _)
     | (with_reducible refine LeO.ite ?_ ?_)
     | (with_reducible refine LeO.bind ?_ (fun _ => ?_))
     | exact ih0 _ _ _ _
     | exact ih1 _ _ _ _ _ _
     | exact ih2 _ _ _ _ _ _ _ _ _ _
     | exact ih3 _ _ _ _ _ _ _ _ _ _ _ _ _ _ _
     | exact spec_l11Rows.mono _ _
     | exact spec_l11Text.mono _ _
     | exact LeO.none _
     | refine LeO.ite ?_ ?_
     | refine LeO.bind ?_ (fun _ => ?_)
set_option maxHeartbeats 8000000 in
set_option maxRecDepth 100000 in
theorem spec_MultiplyArrays.calls (k : Nat) (a0 : ByteArray) (a1 : ByteArray) (r1 : ByteArray) (r2 : Bool) (w : World) (h : spec_MultiplyArrays.f k a0 a1 = some (r1, r2)) :
   Calls Tryd.prog 56 #[.string a0, .string a1] w fun e w' => e = .returned (.tuple #[.string r1, .bool r2]) ∧ Below w.heap.size w w' := by
 have HB := Aside0.mk (Below.refl w.heap.size w)
 have H : ((spec_l11Rows.f k a0).bind fun bt290 => ((spec_l11Rows.f k a1).bind fun bt295 => (if bt290.2.2 = true then (if bt295.2.2 = true then (spec_MultiplyArrays.j0 k bt290.1 bt295.1 bt295.2.1 (bt290.2.1 != (bt295.1.length : Int))) else (spec_MultiplyArrays.j0 k bt290.1 bt295.1 bt295.2.1 true)) else (spec_MultiplyArrays.j0 k bt290.1 bt295.1 bt295.2.1 true)))) = some (r1, r2) := h
 clear h
 replace H := Option.bind_eq_some_iff.mp H
 obtain ⟨⟨t290, t291, t292⟩, A30, H⟩ := H
 replace H : ((spec_l11Rows.f k a1).bind fun bt295 => (if t292 = true then (if bt295.2.2 = true then (spec_MultiplyArrays.j0 k t290 bt295.1 bt295.2.1 (t291 != (bt295.1.length : Int))) else (spec_MultiplyArrays.j0 k t290 bt295.1 bt295.2.1 true)) else (spec_MultiplyArrays.j0 k t290 bt295.1 bt295.2.1 true))) = some (r1, r2) := H
 have A3 := Aside0.mk A30
 clear A30
 replace H := Option.bind_eq_some_iff.mp H
 obtain ⟨⟨t295, t296, t297⟩, A40, H⟩ := H
 replace H : (if t292 = true then (if t297 = true then (spec_MultiplyArrays.j0 k t290 t295 t296 (t291 != (t295.length : Int))) else (spec_MultiplyArrays.j0 k t290 t295 t296 true)) else (spec_MultiplyArrays.j0 k t290 t295 t296 true)) = some (r1, r2) := H
 have A4 := Aside0.mk A40
 clear A40
 have HC5 := Aside0.mk H
 clear H
 go_enter Tryd.func56, Tryd.ntmps56
 go_upto_region 3 with (first | ((with_reducible refine gate_callee (f := 102) rfl ?_); refine goesL_ (some 22) rfl rfl Tryd.func102 (by kernel_rfl) rfl #[.string a0] rfl (by (try simp only [List.map_toArray, List.map_cons, List.map_nil]); first | done | rfl | (simp only [List.length_drop, List.length_take]; rfl)) ?_; (with_reducible refine (spec_l11Rows.calls k a0 t290 t291 t292 _ A3.out).mono ?_); rintro e w6 ⟨v293, rfl, ho0, hb⟩; refine ⟨_, rfl, ?_⟩; have n0_ := Aside0.mk (Kd.S_lower ho0 (below_size (FB HB.out))); have n1_ := Aside0.mk (below_step (FB HB.out) hb); clear HB; have HO294 := n0_; have HB := n1_; clear n0_ n1_; (try clear hb)) | ((with_reducible refine gate_callee (f := 102) rfl ?_); refine goesL_ (some 28) rfl rfl Tryd.func102 (by kernel_rfl) rfl #[.string a1] rfl (by (try simp only [List.map_toArray, List.map_cons, List.map_nil]); first | done | rfl | (simp only [List.length_drop, List.length_take]; rfl)) ?_; (with_reducible refine (spec_l11Rows.calls k a1 t295 t296 t297 _ A4.out).mono ?_); rintro e w7 ⟨v298, rfl, ho0, hb⟩; refine ⟨_, rfl, ?_⟩; have n0_ := Aside0.mk (Kd.S_elder' (FS HO294.out) (Kd.S_base ho0) hb); have n1_ := Aside0.mk (Kd.S_lower (Kd.S_new' ho0 (Kd.S_lt (FS HO294.out))) (below_size (FB HB.out))); have n2_ := Aside0.mk (below_step (FB HB.out) hb); clear HO294; clear HB; have HO294 := n0_; have HO299 := n1_; have HB := n2_; clear n0_ n1_ n2_; (try clear hb)))
 (try simp only [Act.put, List.setIfInBounds_toArray, List.set_cons_zero, List.set_cons_succ])
 go_cut [43] (fun v43 wc => ∃ (kq : Nat) (x43_4 : Bool), v43 = .bool x43_4 ∧ Aside0 (spec_MultiplyArrays.j0 kq t290 t295 t296 x43_4 = some (r1, r2)) ∧ Aside0 (kq ≤ k) ∧ Aside0 (Kd.S (Kd.slice 3 (Kd.int .i64)) 22 wc w.heap.size (fun k_ => some k_ ≠ (v298 : Value).ownBlock) v293 t290) ∧ Aside0 (Kd.S (Kd.slice 3 (Kd.int .i64)) 22 wc w.heap.size (fun k_ => some k_ ≠ (v293 : Value).ownBlock) v298 t295) ∧ Aside0 (Below w.heap.size w wc))
 case first =>
   have H := HC5.out
   clear HC5
   by_cases c8 : t292 = true
   · subst c8
     have H1 : (if t297 = true then (spec_MultiplyArrays.j0 k t290 t295 t296 (t291 != (t295.length : Int))) else (spec_MultiplyArrays.j0 k t290 t295 t296 true)) = some (r1, r2) := by rw [if_pos rfl] at H; exact H
     clear H
     have H := H1
     clear H1
     by_cases c9 : t297 = true
     · subst c9
       have H1 : (spec_MultiplyArrays.j0 k t290 t295 t296 (t291 != (t295.length : Int))) = some (r1, r2) := by rw [if_pos rfl] at H; exact H
       clear H
       have H := H1
       clear H1
       have H' := Aside0.mk H
       clear H
       obtain ⟨Ao10, co10, eo10⟩ := Kd.S_slice HO299.out
       subst eo10
       go_wp2
       go_meet
       case rel => exact ⟨_, ((t291 != (t295.length : Int))), (by first | rfl | (simp; done) | (simp [*]; done)), H', ⟨by first | omega | exact Nat.le_refl _⟩, ⟨(FS (Kd.S_mono HO294.out (fun _ hk => hk.2)))⟩, ⟨(FS (Kd.S_mono HO299.out (fun _ hk => hk.2)))⟩, ⟨FB HB.out⟩⟩
     · replace c9 := Bool.eq_false_iff.mpr c9
       subst c9
       have H1 : (spec_MultiplyArrays.j0 k t290 t295 t296 true) = some (r1, r2) := by rw [if_neg (show ¬ (false = true) by decide)] at H; exact H
       clear H
       have H := H1
       clear H1
       have H' := Aside0.mk H
       clear H
       go_wp2
       go_meet
       case rel => exact ⟨_, (true), (by first | rfl | (simp; done) | (simp [*]; done)), H', ⟨by first | omega | exact Nat.le_refl _⟩, ⟨(FS (Kd.S_mono HO294.out (fun _ hk => hk.2)))⟩, ⟨(FS (Kd.S_mono HO299.out (fun _ hk => hk.2)))⟩, ⟨FB HB.out⟩⟩
   · replace c8 := Bool.eq_false_iff.mpr c8
     subst c8
     have H1 : (spec_MultiplyArrays.j0 k t290 t295 t296 true) = some (r1, r2) := by rw [if_neg (show ¬ (false = true) by decide)] at H; exact H
     clear H
     have H := H1
     clear H1
     have H' := Aside0.mk H
     clear H
     go_wp2
     go_meet
     case rel => exact ⟨_, (true), (by first | rfl | (simp; done) | (simp [*]; done)), H', ⟨by first | omega | exact Nat.le_refl _⟩, ⟨(FS (Kd.S_mono HO294.out (fun _ hk => hk.2)))⟩, ⟨(FS (Kd.S_mono HO299.out (fun _ hk => hk.2)))⟩, ⟨FB HB.out⟩⟩
 case rest =>
   clear HC5
   (try clear c1); (try clear p2); (try clear c5); (try clear c8); (try clear c9); (try clear c10)
   obtain ⟨kq, x43_4, rfl, HA, HJ4, HO_6, HO_9, HB⟩ := hcut
   cases kq with
   | zero => exact absurd HA.out (by simp [spec_MultiplyArrays.j0])
   | succ kj4 =>
     have H := HA.out
     clear HA
     simp only [spec_MultiplyArrays.j0] at H
     by_cases c11 : x43_4 = true
     · subst c11
       have H1 : (some ((⟨#[]⟩ : ByteArray), false)) = some (r1, r2) := by rw [if_pos rfl] at H; exact H
       clear H
       have H := H1
       clear H1
       simp only [Option.some.injEq, Prod.mk.injEq] at H
       obtain ⟨rfl, rfl⟩ := H
       go_wp2
       go_ret2
       exact ⟨by first | rfl | (simp [errW_none, errW_some] <;> rfl) | (simp [*, errW_none, errW_some] <;> rfl), FB HB.out⟩
     · replace c11 := Bool.eq_false_iff.mpr c11
       subst c11
       have H1 : (spec_MultiplyArrays.l0 kj4 t295 t296 (([] : List (List Int))) t290 (t290.length : Int) 0) = some (r1, r2) := by rw [if_neg (show ¬ (false = true) by decide)] at H; exact H
       clear H
       have H := H1
       clear H1
       obtain ⟨y300, hy300⟩ : ∃ y_ : List (List Int), y_ = (([] : List (List Int))) := ⟨_, rfl⟩
       replace H : (spec_MultiplyArrays.l0 kj4 t295 t296 y300 t290 (t290.length : Int) 0) = some (r1, r2) := by first | (rw [hy300]; with_reducible exact H) | (have H2_ := (Option.bind_some _ _).symm.trans H; rw [hy300]; with_reducible exact H2_) | (have H2_ := (Option.bind_some _ _).symm.trans H; with_reducible exact H2_) | with_reducible exact H | (rw [hy300]; exact H) | exact H
       have Ny300 := Aside0.mk hy300
       clear hy300
       have H' := Aside0.mk H
       clear H
       go_wp2_with (first | ((with_reducible refine gate_dst (N := 44) rfl ?_); (try (refine gate_guard (by rfl) ?_; dsimp only)); refine Kd.S_lit (Kd.slice 3 (Kd.int .i64)) _ 22 ?hg (N := 44) ?hd (xs := ([] : List (List Int))) (inner := []) (ok := fun _ => True) (okp := fun _ => True) ?hr ?hp (fun _ hk => hk) trivial (Below.refl _ _) (Nat.le_refl _) (by simp) ?_; (case hd => rfl); (case hg => rfl); (case hr => first | (go_simp; done) | (go_simp; rfl)); (case hp => exact (Reps.none _ _)); intro v301 w12 ho13 hb hg_ hnew_; clear hg_ hnew_; (first | rw [← Ny300.out] at ho13 | (simp only [Int.reduceToNat] at ho13; rw [← Ny300.out] at ho13)); have n0_ := Aside0.mk (Kd.S_elder' (FS HO_6.out) (Kd.S_base ho13) hb); have n1_ := Aside0.mk (Kd.S_elder' (FS HO_9.out) (Kd.S_base ho13) hb); have n2_ := Aside0.mk (Kd.S_lower (Kd.S_new' (Kd.S_new' ho13 (Kd.S_lt (FS HO_6.out))) (Kd.S_lt (FS HO_9.out))) (below_size (FB HB.out))); have n3_ := Aside0.mk (below_step (FB HB.out) hb); clear HO_6; clear HO_9; clear HB; have HO_6 := n0_; have HO_9 := n1_; have HO302 := n2_; have HB := n3_; clear n0_ n1_ n2_ n3_; clear hb ho13; obtain ⟨Ao14, co14, eo14⟩ := Kd.S_slice HO_6.out; subst eo14))
       go_loopg [12, 47] kj4 (fun kq v12 v47 w' => ∃ (x12_2 : List (List Int)) (x47_2 : Int), v47 = .int .i64 x47_2 ∧ Aside0 (spec_MultiplyArrays.l0 kq t295 t296 x12_2 t290 (t290.length : Int) x47_2 = some (r1, r2)) ∧ Aside0 (kq ≤ kj4) ∧ Aside0 (Kd.S (Kd.slice 3 (Kd.int .i64)) 22 w' w.heap.size (fun k_ => some k_ ≠ (v12 : Value).ownBlock ∧ some k_ ≠ ((.slice Ao14 t290.length co14) : Value).ownBlock) v298 t295) ∧ Aside0 (Kd.S (Kd.slice 3 (Kd.int .i64)) 22 w' w.heap.size (fun k_ => some k_ ≠ (v298 : Value).ownBlock ∧ some k_ ≠ ((.slice Ao14 t290.length co14) : Value).ownBlock) v12 x12_2) ∧ Aside0 (Kd.S (Kd.slice 3 (Kd.int .i64)) 22 w' w.heap.size (fun k_ => some k_ ≠ (v298 : Value).ownBlock ∧ some k_ ≠ (v12 : Value).ownBlock) (.slice Ao14 t290.length co14) t290) ∧ Aside0 (Below w.heap.size w w'))
       case atStart => exact ⟨(y300), (0), (by first | rfl | (simp; done) | (simp [*]; done)), H', ⟨Nat.le_refl _⟩, ⟨(FS (Kd.S_mono HO_9.out (fun _ hk => ⟨hk.2, hk.1⟩)))⟩, ⟨(FS (Kd.S_mono HO302.out (fun _ hk => ⟨hk.2, hk.1.2⟩)))⟩, ⟨(FS HO_6.out)⟩, ⟨FB HB.out⟩⟩
       case round =>
         clear H'
         (try clear c1); (try clear p2); (try clear c5); (try clear c8); (try clear c9); (try clear c10); (try clear c11)
         obtain ⟨x12_2, x47_2, rfl, HA, HK2, HO_9, HO_12, HO_45, HB⟩ := hrel
         cases gk with
         | zero => exact absurd HA.out (by simp [spec_MultiplyArrays.l0])
         | succ k2 =>
           have H := HA.out
           clear HA
           simp only [spec_MultiplyArrays.l0] at H
           by_cases c15 : x47_2 < (t290.length : Int)
           · rw [if_pos c15] at H
             have c15b0 : decide (x47_2 < (t290.length : Int)) = true := decide_eq_true c15
             clear c15
             by_cases c16 : 0 ≤ x47_2
             · rw [if_pos c16] at H
               have c16b0 : decide (0 ≤ x47_2) = true := decide_eq_true c16
               clear c16
               by_cases c17 : x47_2 < (t290.length : Int)
               · rw [if_pos c17] at H
                 have c17b0 : decide (x47_2 < (t290.length : Int)) = true := decide_eq_true c17
                 clear c17
                 obtain ⟨y306, hy306⟩ : ∃ y_ : List Int, y_ = (([] : List Int)) := ⟨_, rfl⟩
                 replace H : (spec_MultiplyArrays.l1 k2 t295 t296 x12_2 (rd_L3 t290 x47_2) y306 t290 (t290.length : Int) x47_2 t296 0) = some (r1, r2) := by first | (rw [hy306]; with_reducible exact H) | (have H2_ := (Option.bind_some _ _).symm.trans H; rw [hy306]; with_reducible exact H2_) | (have H2_ := (Option.bind_some _ _).symm.trans H; with_reducible exact H2_) | with_reducible exact H | (rw [hy306]; exact H) | exact H
                 have Ny306 := Aside0.mk hy306
                 clear hy306
                 have H' := Aside0.mk H
                 clear H
                 have p305 : 0 ≤ (x47_2 : Int) := of_decide_eq_true (by assumption)
                 have q305 : x47_2 < (t290.length : Int) := of_decide_eq_true (by assumption)
                 obtain ⟨ad305, A305_0, c305_0, e305, hx305_0, hl305_0, hi305_0⟩ := at_L3 (Kd.S_reads' HO_45.out).2.2 x47_2 p305 q305
                 cases e305
                 obtain ⟨ce305, hce305, hMe305, hcc305⟩ := Kd.S_get HO_45.out [] x47_2 p305 (by first | exact q305 | exact of_decide_eq_true (by assumption) | (have e_ := (Kd.S_reads' HO_45.out).1; omega))
                 obtain ⟨ve305_0, rfl, ge305_0⟩ := hMe305
                 have hv305_0 := hcc305 0 _ rfl
                 rw [Nat.add_zero, show ((Kd.slice 3 (Kd.int .i64))).sz = 1 from rfl, Nat.mul_one] at hv305_0
                 replace hv305_0 := Option.some.inj (hv305_0.symm.trans hx305_0)
                 rw [hv305_0] at ge305_0
                 have HL305_0 := Aside0.mk (show Kd.R (Kd.int .i64) 3 _ _ _ _ (rd_L3 t290 x47_2) from ge305_0)
                 clear hv305_0 ge305_0
                 clear hcc305 hce305
                 have HR305_0 := Aside0.mk hi305_0
                 have HC305_0 := Aside0.mk hl305_0
                 clear hi305_0 hl305_0
                 replace p305 := eq_true p305
                 replace q305 := eq_true q305
                 go_wp2_with (first | ((with_reducible refine gate_dst (N := 51) rfl ?_); (try (refine gate_guard (by rfl) ?_; dsimp only)); refine Kd.R_lit (Kd.int .i64) _ 3 ?hg (N := 51) ?hd (xs := ([] : List Int)) (inner := []) (ok := fun _ => True) (okp := fun _ => True) ?hr ?hp (fun _ hk => hk) trivial (Below.refl _ _) (Nat.le_refl _) (by simp) ?_; (case hd => rfl); (case hg => rfl); (case hr => first | (go_simp; done) | (go_simp; rfl)); (case hp => exact (Reps.none _ _)); intro v307 w18 ho19 hb hg_ hnew_; clear hg_ hnew_; have HQ305 := Aside0.mk (Kd.R_mono (Kd.R_elder' (FR HL305_0.out) (Kd.R_base ho19) hb) (fun _ hk => hk.2)); (first | rw [← Ny306.out] at ho19 | (simp only [Int.reduceToNat] at ho19; rw [← Ny306.out] at ho19)); have n0_ := Aside0.mk (Kd.S_elder' (FS HO_9.out) (Kd.R_base ho19) hb); have n1_ := Aside0.mk (Kd.S_elder' (FS HO_12.out) (Kd.R_base ho19) hb); have n2_ := Aside0.mk (Kd.S_elder' (FS HO_45.out) (Kd.R_base ho19) hb); have n3_ := Aside0.mk (Kd.R_elder' (FR HL305_0.out) (Kd.R_base ho19) hb); have n4_ := Aside0.mk (Kd.R_lower (Kd.R_new' ho19 (Kd.R_lt (FR HL305_0.out))) (below_size (FB HB.out))); have n5_ := Aside0.mk (Kd.C_below (FC HR305_0.out) hb); have n6_ := Aside0.mk (below_step (FB HB.out) hb); clear HO_9; clear HO_12; clear HO_45; clear HL305_0; clear HR305_0; clear HB; have HO_9 := n0_; have HO_12 := n1_; have HO_45 := n2_; have HL305_0 := n3_; have HO308 := n4_; have HR305_0 := n5_; have HB := n6_; clear n0_ n1_ n2_ n3_ n4_ n5_ n6_; clear hb ho19))
                 go_loopg [15, 53] k2 (fun kq v15 v53 w' => ∃ (x15_3 : List Int) (x53_3 : Int), v53 = .int .i64 x53_3 ∧ Aside0 (spec_MultiplyArrays.l1 kq t295 t296 x12_2 (rd_L3 t290 x47_2) x15_3 t290 (t290.length : Int) x47_2 t296 x53_3 = some (r1, r2)) ∧ Aside0 (kq ≤ k2) ∧ Aside0 (Kd.S (Kd.slice 3 (Kd.int .i64)) 22 w' w.heap.size (fun k_ => some k_ ≠ (u12 : Value).ownBlock ∧ some k_ ≠ (v15 : Value).ownBlock ∧ some k_ ≠ ((.slice (some ad305) t290.length co14) : Value).ownBlock) v298 t295) ∧ Aside0 (Kd.S (Kd.slice 3 (Kd.int .i64)) 22 w' w.heap.size (fun k_ => some k_ ≠ (v298 : Value).ownBlock ∧ some k_ ≠ (v15 : Value).ownBlock ∧ some k_ ≠ ((.slice (some ad305) t290.length co14) : Value).ownBlock) u12 x12_2) ∧ Aside0 (Kd.R (Kd.int .i64) 3 w' w.heap.size (fun _ => True) v15 x15_3) ∧ Aside0 (Kd.S (Kd.slice 3 (Kd.int .i64)) 22 w' w.heap.size (fun k_ => some k_ ≠ (v298 : Value).ownBlock ∧ some k_ ≠ (u12 : Value).ownBlock ∧ some k_ ≠ (v15 : Value).ownBlock) (.slice (some ad305) t290.length co14) t290) ∧ Aside0 (Below w.heap.size w w') ∧ Aside0 (Kd.R (Kd.int .i64) 3 w' w.heap.size (fun k_ => some k_ ≠ (v15 : Value).ownBlock) (.slice A305_0 (rd_L3 t290 x47_2).length c305_0) (rd_L3 t290 x47_2)))
                 case atStart => exact ⟨(y306), (0), (by first | rfl | (simp; done) | (simp [*]; done)), H', ⟨Nat.le_refl _⟩, ⟨(FS (Kd.S_mono HO_9.out (fun _ hk => ⟨hk.1.1, ⟨hk.2, hk.1.2⟩⟩)))⟩, ⟨(FS (Kd.S_mono HO_12.out (fun _ hk => ⟨hk.1.1, ⟨hk.2, hk.1.2⟩⟩)))⟩, ⟨(FR (Kd.R_mono HO308.out (fun _ hk => trivial)))⟩, ⟨(FS (Kd.S_mono HO_45.out (fun _ hk => ⟨hk.1.1, ⟨hk.1.2, hk.2⟩⟩)))⟩, ⟨FB HB.out⟩, ⟨(FR HQ305.out)⟩⟩
                 case round =>
                   clear H'
                   (try clear c1); (try clear p2); (try clear c3); (try clear p3); (try clear q3); (try clear hx3); (try clear c5); (try clear c8); (try clear c9); (try clear c10); (try clear c11); (try clear c15); (try clear c15b0); (try clear c16); (try clear c16b0); (try clear c17); (try clear c17b0); (try clear hx305_0); (try clear p305); (try clear q305)
                   obtain ⟨x15_3, x53_3, rfl, HA, HK3, HO_9, HO_12, HO_15, HO_45, HB, HQ305⟩ := hrel
                   cases gk with
                   | zero => exact absurd HA.out (by simp [spec_MultiplyArrays.l1])
                   | succ k3 =>
                     have H := HA.out
                     clear HA
                     simp only [spec_MultiplyArrays.l1] at H
                     by_cases c20 : x53_3 < t296
                     · rw [if_pos c20] at H
                       have c20b0 : decide (x53_3 < t296) = true := decide_eq_true c20
                       clear c20
                       have H' := Aside0.mk H
                       clear H
                       go_wp2
                       go_loopg [17, 58] k3 (fun kq v17 v58 w' => ∃ (x17_4 : Int) (x58_4 : Int), v17 = .int .i64 x17_4 ∧ v58 = .int .i64 x58_4 ∧ Aside0 (spec_MultiplyArrays.l2 kq t295 t296 x12_2 (rd_L3 t290 x47_2) x15_3 x53_3 x17_4 t290 (t290.length : Int) x47_2 t296 x53_3 (rd_L3 t290 x47_2) ((rd_L3 t290 x47_2).length : Int) x58_4 = some (r1, r2)) ∧ Aside0 (kq ≤ k3) ∧ Aside0 (Kd.S (Kd.slice 3 (Kd.int .i64)) 22 w' w.heap.size (fun k_ => some k_ ≠ (u12 : Value).ownBlock ∧ some k_ ≠ (u15 : Value).ownBlock ∧ some k_ ≠ ((.slice (some ad305) t290.length co14) : Value).ownBlock) v298 t295) ∧ Aside0 (Kd.S (Kd.slice 3 (Kd.int .i64)) 22 w' w.heap.size (fun k_ => some k_ ≠ (v298 : Value).ownBlock ∧ some k_ ≠ (u15 : Value).ownBlock ∧ some k_ ≠ ((.slice (some ad305) t290.length co14) : Value).ownBlock) u12 x12_2) ∧ Aside0 (Kd.R (Kd.int .i64) 3 w' w.heap.size (fun _ => True) u15 x15_3) ∧ Aside0 (Kd.S (Kd.slice 3 (Kd.int .i64)) 22 w' w.heap.size (fun k_ => some k_ ≠ (v298 : Value).ownBlock ∧ some k_ ≠ (u12 : Value).ownBlock ∧ some k_ ≠ (u15 : Value).ownBlock) (.slice (some ad305) t290.length co14) t290) ∧ Aside0 (Below w.heap.size w w') ∧ Aside0 (Kd.R (Kd.int .i64) 3 w' w.heap.size (fun k_ => some k_ ≠ (u15 : Value).ownBlock) (.slice A305_0 (rd_L3 t290 x47_2).length c305_0) (rd_L3 t290 x47_2)))
                       case atStart => exact ⟨(0), (0), (by first | rfl | (simp; done) | (simp [*]; done)), (by first | rfl | (simp; done) | (simp [*]; done)), H', ⟨Nat.le_refl _⟩, ⟨(FS HO_9.out)⟩, ⟨(FS HO_12.out)⟩, ⟨(FR HO_15.out)⟩, ⟨(FS HO_45.out)⟩, ⟨FB HB.out⟩, ⟨(FR HQ305.out)⟩⟩
                       case round =>
                         clear H'
                         (try clear c1); (try clear c2); (try clear p2); (try clear c3); (try clear p3); (try clear q3); (try clear hx3); (try clear c5); (try clear c8); (try clear c9); (try clear c10); (try clear c11); (try clear c15); (try clear c15b0); (try clear c16); (try clear c16b0); (try clear c17); (try clear c17b0); (try clear c20); (try clear c20b0); (try clear hx305_0); (try clear p305); (try clear q305)
                         obtain ⟨x17_4, x58_4, rfl, rfl, HA, HK4, HO_9, HO_12, HO_15, HO_45, HB, HQ305⟩ := hrel
                         cases gk with
                         | zero => exact absurd HA.out (by simp [spec_MultiplyArrays.l2])
                         | succ k4 =>
                           have H := HA.out
                           clear HA
                           simp only [spec_MultiplyArrays.l2] at H
                           by_cases c21 : x58_4 < ((rd_L3 t290 x47_2).length : Int)
                           · rw [if_pos c21] at H
                             have c21b0 : decide (x58_4 < ((rd_L3 t290 x47_2).length : Int)) = true := decide_eq_true c21
                             clear c21
                             by_cases c22 : 0 ≤ x58_4
                             · rw [if_pos c22] at H
                               have c22b0 : decide (0 ≤ x58_4) = true := decide_eq_true c22
                               clear c22
                               by_cases c23 : x58_4 < ((rd_L3 t290 x47_2).length : Int)
                               · rw [if_pos c23] at H
                                 have c23b0 : decide (x58_4 < ((rd_L3 t290 x47_2).length : Int)) = true := decide_eq_true c23
                                 clear c23
                                 by_cases c24 : x58_4 < (t295.length : Int)
                                 · rw [if_pos c24] at H
                                   have c24b0 : decide (x58_4 < (t295.length : Int)) = true := decide_eq_true c24
                                   clear c24
                                   by_cases c25 : 0 ≤ x53_3
                                   · rw [if_pos c25] at H
                                     have c25b0 : decide (0 ≤ x53_3) = true := decide_eq_true c25
                                     clear c25
                                     by_cases c26 : x53_3 < ((rd_L3 t295 x58_4).length : Int)
                                     · rw [if_pos c26] at H
                                       have c26b0 : decide (x53_3 < ((rd_L3 t295 x58_4).length : Int)) = true := decide_eq_true c26
                                       clear c26
                                       replace H := Option.bind_eq_some_iff.mp H
                                       obtain ⟨t315, A270, H⟩ := H
                                       replace H : (spec_MultiplyArrays.l2 k4 t295 t296 x12_2 (rd_L3 t290 x47_2) x15_3 x53_3 t315 t290 (t290.length : Int) x47_2 t296 x53_3 (rd_L3 t290 x47_2) ((rd_L3 t290 x47_2).length : Int) (wrap64 (x58_4 + 1))) = some (r1, r2) := H
                                       have A27 := Aside0.mk A270
                                       clear A270
                                       have H' := Aside0.mk H
                                       clear H
                                       have p312 : 0 ≤ (x58_4 : Int) := of_decide_eq_true (by assumption)
                                       have q312 : x58_4 < ((rd_L3 t290 x47_2).length : Int) := of_decide_eq_true (by assumption)
                                       obtain ⟨ad312, e312, hx312_0⟩ := Kd.at_int (Kd.R_reads' HQ305.out).2.2 x58_4 p312 q312
                                       cases e312
                                       (try replace hx312_0 := (HB.out.cell (World.block_lt_of_cell? w _ hx312_0)).trans hx312_0)
                                       replace p312 := eq_true p312
                                       replace q312 := eq_true q312
                                       obtain ⟨Ao28, co28, eo28⟩ := Kd.S_slice HO_9.out
                                       subst eo28
                                       have p313 : 0 ≤ (x58_4 : Int) := of_decide_eq_true (by assumption)
                                       have q313 : x58_4 < (t295.length : Int) := of_decide_eq_true (by assumption)
                                       obtain ⟨ad313, A313_0, c313_0, e313, hx313_0, hl313_0, hi313_0⟩ := at_L3 (Kd.S_reads' HO_9.out).2.2 x58_4 p313 q313
                                       cases e313
                                       obtain ⟨ce313, hce313, hMe313, hcc313⟩ := Kd.S_get HO_9.out [] x58_4 p313 (by first | exact q313 | exact of_decide_eq_true (by assumption) | (have e_ := (Kd.S_reads' HO_9.out).1; omega))
                                       obtain ⟨ve313_0, rfl, ge313_0⟩ := hMe313
                                       have hv313_0 := hcc313 0 _ rfl
                                       rw [Nat.add_zero, show ((Kd.slice 3 (Kd.int .i64))).sz = 1 from rfl, Nat.mul_one] at hv313_0
                                       replace hv313_0 := Option.some.inj (hv313_0.symm.trans hx313_0)
                                       rw [hv313_0] at ge313_0
                                       have HL313_0 := Aside0.mk (show Kd.R (Kd.int .i64) 3 _ _ _ _ (rd_L3 t295 x58_4) from ge313_0)
                                       clear hv313_0 ge313_0
                                       clear hcc313 hce313
                                       have HR313_0 := Aside0.mk hi313_0
                                       have HC313_0 := Aside0.mk hl313_0
                                       clear hi313_0 hl313_0
                                       replace p313 := eq_true p313
                                       replace q313 := eq_true q313
                                       have p314 : 0 ≤ (x53_3 : Int) := of_decide_eq_true (by assumption)
                                       have q314 : x53_3 < ((rd_L3 t295 x58_4).length : Int) := of_decide_eq_true (by assumption)
                                       obtain ⟨ad314, e314, hx314_0⟩ := Kd.at_int HR313_0.out x53_3 p314 q314
                                       cases e314
                                       replace p314 := eq_true p314
                                       replace q314 := eq_true q314
                                       go_wp2_with (first | ((with_reducible refine gate_callee (f := 103) rfl ?_); refine goesL_ (some 74) rfl rfl Tryd.func103 (by kernel_rfl) rfl #[.int .i64 x17_4, .int .i64 (Int.tmod (wrap64 ((rd (rd_L3 t290 x47_2) x58_4) * (rd (rd_L3 t295 x58_4) x53_3))) 10007)] rfl (by (try simp only [List.map_toArray, List.map_cons, List.map_nil]); first | done | rfl | (simp only [List.length_drop, List.length_take]; rfl)) ?_; (with_reducible refine (spec_l3Add.calls x17_4 (Int.tmod (wrap64 ((rd (rd_L3 t290 x47_2) x58_4) * (rd (rd_L3 t295 x58_4) x53_3))) 10007) t315 _ A27.out).mono ?_); rintro e w' ⟨rfl, ⟨nd, rfl⟩⟩; refine ⟨_, rfl, ?_⟩))
                                       go_roundg k4
                                       case measure => have := HJ4.out; have := HK2.out; have := HK3.out; have := HK4.out; omega
                                       case rel => exact ⟨(t315), (wrap64 (x58_4 + 1)), (by first | rfl | (simp; done) | (simp [*]; done)), (by first | rfl | (simp; done) | (simp [*]; done)), H', ⟨by have := HJ4.out; have := HK2.out; have := HK3.out; have := HK4.out; omega⟩, ⟨(FS HO_9.out)⟩, ⟨(FS HO_12.out)⟩, ⟨(FR HO_15.out)⟩, ⟨(FS HO_45.out)⟩, ⟨FB HB.out⟩, ⟨(FR HQ305.out)⟩⟩
                                     · rw [if_neg c26] at H
                                       exact absurd H (by simp)
                                   · rw [if_neg c25] at H
                                     exact absurd H (by simp)
                                 · rw [if_neg c24] at H
                                   exact absurd H (by simp)
                               · rw [if_neg c23] at H
                                 exact absurd H (by simp)
                             · rw [if_neg c22] at H
                               exact absurd H (by simp)
                           · rw [if_neg c21] at H
                             have c21b0 : decide (x58_4 < ((rd_L3 t290 x47_2).length : Int)) = false := decide_eq_false c21
                             clear c21
                             by_cases c29 : x15_3.length < 17592186044416
                             · rw [if_pos c29] at H
                               have LMc29 := Aside0.mk c29
                               clear c29
                               obtain ⟨y316, hy316⟩ : ∃ y_ : List Int, y_ = (x15_3 ++ [x17_4]) := ⟨_, rfl⟩
                               replace H : (spec_MultiplyArrays.l1 k4 t295 t296 x12_2 (rd_L3 t290 x47_2) y316 t290 (t290.length : Int) x47_2 t296 (wrap64 (x53_3 + 1))) = some (r1, r2) := by first | (rw [hy316]; with_reducible exact H) | (have H2_ := (Option.bind_some _ _).symm.trans H; rw [hy316]; with_reducible exact H2_) | (have H2_ := (Option.bind_some _ _).symm.trans H; with_reducible exact H2_) | with_reducible exact H | (rw [hy316]; exact H) | exact H
                               have Ny316 := Aside0.mk hy316
                               clear hy316
                               have H' := Aside0.mk H
                               clear H
                               go_wp2_with (first | ((with_reducible refine gate_builtin (b := .append) (xs := #[.tmp 76, .tmp 78]) rfl ?_); (try (refine gate_guard (by rfl) ?_; dsimp only)); at_builtin; refine Kd.R_append (Kd.int .i64) (w0 := w) w.heap.size rfl (.tmp 76) (.tmp 78) 22 3 (.int .i64 0) 8 rfl Tryd.underlying22 info3 rfl (by decide) (by omega) u15 x15_3 x17_4 [.int .i64 x17_4] (fun _ => True) (fun _ => False) rfl rfl ?aP (fun _ hk => hk.elim) ?aF ?aO ?aB ?aS ?aL ?_; (case aP => exact rfl); (case aB => exact (FB HB.out)); (case aF => exact (fun _ _ => trivial)); (case aO => exact (FR HO_15.out)); (case aS => exact (below_size (FB HB.out))); (case aL => have := LMc29.out; omega); intro v317 w30 ho hb hg hat; rw [← Ny316.out] at ho; have n305_ := Aside0.mk (Kd.R_mono (Kd.R_after (ok := fun _ => True) (Kd.R_mono (FR HQ305.out) (fun _ hk => (⟨trivial, hk⟩ : True ∧ _))) hg hat) (fun _ hk => hk.2)); clear HQ305; have HQ305 := n305_; clear n305_; have n0_ := Aside0.mk (Kd.S_after (ok := (fun k_ => some k_ ≠ (u12 : Value).ownBlock ∧ some k_ ≠ (.slice (some ad305) t290.length co14 : Value).ownBlock)) (FS (Kd.S_mono HO_9.out (fun _ hk => ⟨⟨hk.1, hk.2.2⟩, hk.2.1⟩))) hg hat); have n1_ := Aside0.mk (Kd.S_after (ok := (fun k_ => some k_ ≠ (v298 : Value).ownBlock ∧ some k_ ≠ (.slice (some ad305) t290.length co14 : Value).ownBlock)) (FS (Kd.S_mono HO_12.out (fun _ hk => ⟨⟨hk.1, hk.2.2⟩, hk.2.1⟩))) hg hat); have n2_ := Aside0.mk (Kd.S_after (ok := (fun k_ => some k_ ≠ (v298 : Value).ownBlock ∧ some k_ ≠ (u12 : Value).ownBlock)) (FS (Kd.S_mono HO_45.out (fun _ hk => ⟨⟨hk.1, hk.2.1⟩, hk.2.2⟩))) hg hat); have n3_ := Aside0.mk (hb); have n4_ := Aside0.mk (ho); clear HO_9; clear HO_12; clear HO_45; clear HB; clear HO_15; have HO_9 := n0_; have HO_12 := n1_; have HO_45 := n2_; have HB := n3_; have HO318 := n4_; clear n0_ n1_ n2_ n3_ n4_; clear ho hb hg hat))
                               go_roundg k4
                               case measure => have := HJ4.out; have := HK2.out; have := HK3.out; have := HK4.out; omega
                               case rel => exact ⟨(y316), (wrap64 (x53_3 + 1)), (by first | rfl | (simp; done) | (simp [*]; done)), H', ⟨by have := HJ4.out; have := HK2.out; have := HK3.out; have := HK4.out; omega⟩, ⟨(FS (Kd.S_mono HO_9.out (fun _ hk => ⟨hk.1.1, ⟨hk.2, hk.1.2⟩⟩)))⟩, ⟨(FS (Kd.S_mono HO_12.out (fun _ hk => ⟨hk.1.1, ⟨hk.2, hk.1.2⟩⟩)))⟩, ⟨(FR HO318.out)⟩, ⟨(FS (Kd.S_mono HO_45.out (fun _ hk => ⟨hk.1.1, ⟨hk.1.2, hk.2⟩⟩)))⟩, ⟨FB HB.out⟩, ⟨(FR HQ305.out)⟩⟩
                             · rw [if_neg c29] at H
                               exact absurd H (by simp)
                     · rw [if_neg c20] at H
                       have c20b0 : decide (x53_3 < t296) = false := decide_eq_false c20
                       clear c20
                       by_cases c31 : x12_2.length < 5864062014805
                       · rw [if_pos c31] at H
                         have LMc31 := Aside0.mk c31
                         clear c31
                         obtain ⟨y309, hy309⟩ : ∃ y_ : List (List Int), y_ = (x12_2 ++ [x15_3]) := ⟨_, rfl⟩
                         replace H : (spec_MultiplyArrays.l0 k3 t295 t296 y309 t290 (t290.length : Int) (wrap64 (x47_2 + 1))) = some (r1, r2) := by first | (rw [hy309]; with_reducible exact H) | (have H2_ := (Option.bind_some _ _).symm.trans H; rw [hy309]; with_reducible exact H2_) | (have H2_ := (Option.bind_some _ _).symm.trans H; with_reducible exact H2_) | with_reducible exact H | (rw [hy309]; exact H) | exact H
                         have Ny309 := Aside0.mk hy309
                         clear hy309
                         have H' := Aside0.mk H
                         clear H
                         obtain ⟨Ao33, co33, eo33⟩ := Kd.R_slice HO_15.out
                         subst eo33
                         go_wp2_with (first | ((with_reducible refine gate_builtin (b := .append) (xs := #[.tmp 81, .tmp 83]) rfl ?_); (try (refine gate_guard (by rfl) ?_; dsimp only)); at_builtin; refine Kd.S_append (Kd.slice 3 (Kd.int .i64)) (w0 := w) w.heap.size rfl (.tmp 81) (.tmp 83) 30 22 (.slice none 0 0) 24 rfl Tryd.underlying30 info22 rfl (by decide) (by omega) u12 x12_2 x15_3 [.slice Ao33 x15_3.length co33] (fun k_ => some k_ ≠ (v298 : Value).ownBlock ∧ some k_ ≠ (.slice (some ad305) t290.length co14 : Value).ownBlock) (fun k_ => some k_ = (.slice Ao33 x15_3.length co33 : Value).ownBlock) rfl rfl ?aP (fun k_ hk_ => ((Kd.R_mono (ok' := fun k_ => ((fun k_ => some k_ ≠ (v298 : Value).ownBlock ∧ some k_ ≠ (.slice (some ad305) t290.length co14 : Value).ownBlock)) k_ ∧ some k_ ≠ (u12 : Value).ownBlock) (Kd.R_apart' (Kd.R_apart' (Kd.R_apart' (HO_15.out) (Kd.S_typed HO_9.out) (by decide)) (Kd.S_typed HO_45.out) (by decide)) (Kd.S_typed HO_12.out) (by decide)) (fun k_ hk => ⟨⟨hk.1.1.2, hk.1.2⟩, hk.2⟩))).1 k_ hk_.symm) ?aF ?aO ?aB ?aS ?aL ?_; (case aP => exact Kd.M_row (Kd.R_mono (Kd.R_tight rfl (Kd.R_mono (ok' := fun k_ => ((fun k_ => some k_ ≠ (v298 : Value).ownBlock ∧ some k_ ≠ (.slice (some ad305) t290.length co14 : Value).ownBlock)) k_ ∧ some k_ ≠ (u12 : Value).ownBlock) (Kd.R_apart' (Kd.R_apart' (Kd.R_apart' (HO_15.out) (Kd.S_typed HO_9.out) (by decide)) (Kd.S_typed HO_45.out) (by decide)) (Kd.S_typed HO_12.out) (by decide)) (fun k_ hk => ⟨⟨hk.1.1.2, hk.1.2⟩, hk.2⟩))) (fun _ h_ => h_))); (case aB => exact (FB HB.out)); (case aF => exact (fun k_ hk => ⟨Kd.fresh' (Kd.S_lt (FS HO_9.out)) k_ hk, Kd.fresh' (Kd.S_lt (FS HO_45.out)) k_ hk⟩)); (case aO => exact (FS (Kd.S_mono HO_12.out (fun k_ hk => ⟨⟨hk.1, hk.2.2⟩, fun e_ => hk.2.1 e_⟩)))); (case aS => exact (below_size (FB HB.out))); (case aL => have := LMc31.out; omega); intro v310 w32 ho hb hg hat; rw [← Ny309.out] at ho; have n0_ := Aside0.mk (Kd.S_after (ok := (fun k_ => some k_ ≠ (.slice Ao33 x15_3.length co33 : Value).ownBlock ∧ some k_ ≠ (.slice (some ad305) t290.length co14 : Value).ownBlock)) (FS (Kd.S_mono HO_9.out (fun _ hk => ⟨⟨hk.2.1, hk.2.2⟩, hk.1⟩))) hg hat); have n1_ := Aside0.mk (Kd.S_after (ok := (fun k_ => some k_ ≠ (v298 : Value).ownBlock ∧ some k_ ≠ (.slice Ao33 x15_3.length co33 : Value).ownBlock)) (FS (Kd.S_mono HO_45.out (fun _ hk => ⟨⟨hk.1, hk.2.2⟩, hk.2.1⟩))) hg hat); have n2_ := Aside0.mk (hb); have n3_ := Aside0.mk (ho); clear HO_9; clear HO_45; clear HB; clear HO_12; clear HO_15; have HO_9 := n0_; have HO_45 := n1_; have HB := n2_; have HO311 := n3_; clear n0_ n1_ n2_ n3_; clear ho hb hg hat))
                         go_roundg k3
                         case measure => have := HJ4.out; have := HK2.out; have := HK3.out; omega
                         case rel => exact ⟨(y309), (wrap64 (x47_2 + 1)), (by first | rfl | (simp; done) | (simp [*]; done)), H', ⟨by have := HJ4.out; have := HK2.out; have := HK3.out; omega⟩, ⟨(FS (Kd.S_mono HO_9.out (fun _ hk => ⟨hk.2, hk.1.2⟩)))⟩, ⟨(FS HO311.out)⟩, ⟨(FS (Kd.S_mono HO_45.out (fun _ hk => ⟨hk.1.1, hk.2⟩)))⟩, ⟨FB HB.out⟩⟩
                       · rw [if_neg c31] at H
                         exact absurd H (by simp)
               · rw [if_neg c17] at H
                 exact absurd H (by simp)
             · rw [if_neg c16] at H
               exact absurd H (by simp)
           · rw [if_neg c15] at H
             have c15b0 : decide (x47_2 < (t290.length : Int)) = false := decide_eq_false c15
             clear c15
             replace H := Option.bind_eq_some_iff.mp H
             obtain ⟨⟨t303, t304⟩, A340, H⟩ := H
             replace H : (some (t303, t304)) = some (r1, r2) := H
             have A34 := Aside0.mk A340
             clear A340
             simp only [Option.some.injEq, Prod.mk.injEq] at H
             obtain ⟨rfl, rfl⟩ := H
             obtain ⟨Ao35, co35, eo35⟩ := Kd.S_slice HO_12.out
             subst eo35
             go_wp2_with (first | ((with_reducible refine gate_callee (f := 75) rfl ?_); refine goesL_ (some 87) rfl rfl Tryd.func75 (by kernel_rfl) rfl #[.slice Ao35 x12_2.length co35] rfl (by (try simp only [List.map_toArray, List.map_cons, List.map_nil]); first | done | rfl | (simp only [List.length_drop, List.length_take]; rfl)) ?_; (with_reducible refine (spec_l11Text.calls k2 _ _ x12_2 t303 t304 _ ?side1 ?side2 A34.out).mono ?_); (case side1 => repeat (first | exact (Kd.S_reads' HO_12.out).2.2 | (with_reducible refine Kd.C_alloc ?_ _) | (with_reducible refine Kd.C_drewN ?_ _) | (with_reducible refine Kd.C_drew ?_))); (case side2 => exact (Kd.S_reads' HO_12.out).2.1); rintro e w36 ⟨rfl, hb⟩; refine ⟨_, rfl, ?_⟩; have n0_ := Aside0.mk (Kd.S_below (FS HO_9.out) hb); have n1_ := Aside0.mk (Kd.S_below (FS HO_12.out) hb); have n2_ := Aside0.mk (Kd.S_below (FS HO_45.out) hb); have n3_ := Aside0.mk (below_step (FB HB.out) hb); clear HO_9; clear HO_12; clear HO_45; clear HB; have HO_9 := n0_; have HO_12 := n1_; have HO_45 := n2_; have HB := n3_; clear n0_ n1_ n2_ n3_; (try clear hb); (try clear hb2); (try clear hk); (try clear hi)))
             go_ret2
             exact ⟨by first | rfl | (simp [errW_none, errW_some] <;> rfl) | (simp [*, errW_none, errW_some] <;> rfl), FB HB.out⟩

end Go.Proofs.YtmjoigpnnechgaaDoor.F
