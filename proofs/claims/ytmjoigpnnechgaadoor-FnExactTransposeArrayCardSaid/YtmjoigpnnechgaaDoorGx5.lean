-- PRINTED by print.py (a twelfth state) out of the translation. Not trusted: Lean checks it.
import Derived.Test.YtmjoigpnnechgaaDoorGx0
import Derived.Test.YtmjoigpnnechgaaDoorGx4
import Derived.Test.YtmjoigpnnechgaaDoorGGl2lay
namespace Go.Proofs.YtmjoigpnnechgaaDoor.G
open Go.RowKit Go.Proofs.YtmjoigpnnechgaaDoorW.PrintWords Go.Proofs.YtmjoigpnnechgaaDoorW.PrintLast Go.Proofs.YtmjoigpnnechgaaDoorW.PrintMore
attribute [local go_sem] max2_int min2_int max_two min_two max_three min_three max_four min_four   -- for this text's walks alone
set_option linter.unusedVariables false
set_option linter.unusedSimpArgs false

/-! ### spec_l13OwnListListint: function 140 -/
def spec_l13OwnListListint.l0 : Nat → List (List Int) → List (List Int) → Int → Int → Option ((List (List Int)))
 | 0, _, _, _, _ => none
 | k + 1, x3, x7, x8, x9 => if x9 < x8 then (if 0 ≤ x9 then (if x9 < (x7.length : Int) then ((some (([] : List Int) : List Int)).bind fun y209 => (if y209.length + (rd_L3 x7 x9).length < 17592186044416 then (if x3.length < 5864062014805 then (spec_l13OwnListListint.l0 k (x3 ++ [(y209 ++ (rd_L3 x7 x9))]) x7 x8 (wrap64 (x9 + 1))) else (none)) else (none))) else (none)) else (none)) else (some x3)
def spec_l13OwnListListint.f (k : Nat) (l0 : List (List Int)) : Option ((List (List Int))) := spec_l13OwnListListint.l0 k (([] : List (List Int))) l0 (l0.length : Int) 0
theorem spec_l13OwnListListint.mono_l : ∀ k, (∀ y0 y1 y2 y3, LeO (spec_l13OwnListListint.l0 k y0 y1 y2 y3) (spec_l13OwnListListint.l0 (k + 1) y0 y1 y2 y3))
 | 0 => fun _ _ _ _ r h => by simp [spec_l13OwnListListint.l0] at h
 | k + 1 => by
   have ih0 := spec_l13OwnListListint.mono_l k
   · intro y0 y1 y2 y3
     unfold spec_l13OwnListListint.l0
     repeat' first
     | (with_reducible exact ih0 _ _ _ _)
     | (with_reducible exact LeO.refl _)
     | (with_reducible exact LeO.none _)
     | (with_reducible refine LeO.ite ?_ ?_)
     | (with_reducible refine LeO.bind ?_ (fun _ => ?_))
     | exact ih0 _ _ _ _
     | exact LeO.none _
     | refine LeO.ite ?_ ?_
     | refine LeO.bind ?_ (fun _ => ?_)
theorem spec_l13OwnListListint.mono : ∀ a0 k, LeO (spec_l13OwnListListint.f k a0) (spec_l13OwnListListint.f (k + 1) a0) := by
 intro a0 k
 have ih0 := spec_l13OwnListListint.mono_l k
 unfold spec_l13OwnListListint.f
 repeat' first
     | (with_reducible exact ih0 _ _ _ _)
     | (with_reducible exact LeO.refl _)
     | (with_reducible exact LeO.none _)
     | (with_reducible refine LeO.ite ?_ ?_)
     | (with_reducible refine LeO.bind ?_ (fun _ => ?_))
     | exact ih0 _ _ _ _
     | exact LeO.none _
     | refine LeO.ite ?_ ?_
     | refine LeO.bind ?_ (fun _ => ?_)
set_option maxHeartbeats 8000000 in
set_option maxRecDepth 100000 in
theorem spec_l13OwnListListint.calls (k : Nat) (A0 : Option Addr) (c0 : Nat) (l0 : List (List Int)) (r : List (List Int)) (w : World) (hr0 : Kd.C (Kd.slice 3 (Kd.int .i64)) w A0 l0.length l0) (hc0 : l0.length ≤ c0) (h : spec_l13OwnListListint.f k l0 = some r) :
   Calls Tryd.prog 140 #[.slice A0 l0.length c0] w fun e w' => ∃ v0_ : Value, e = .returned (v0_) ∧ Kd.S (Kd.slice 3 (Kd.int .i64)) 22 w' w.heap.size (fun _ => True) v0_ r ∧ Below w.heap.size w w' := by
 have HR0 := Aside0.mk hr0
 have HC0 := Aside0.mk hc0
 clear hr0 hc0
 have HB := Aside0.mk (Below.refl w.heap.size w)
 have H : (spec_l13OwnListListint.l0 k (([] : List (List Int))) l0 (l0.length : Int) 0) = some r := h
 clear h
 obtain ⟨y205, hy205⟩ : ∃ y_ : List (List Int), y_ = (([] : List (List Int))) := ⟨_, rfl⟩
 replace H : (spec_l13OwnListListint.l0 k y205 l0 (l0.length : Int) 0) = some r := by first | (rw [hy205]; with_reducible exact H) | (have H2_ := (Option.bind_some _ _).symm.trans H; rw [hy205]; with_reducible exact H2_) | (have H2_ := (Option.bind_some _ _).symm.trans H; with_reducible exact H2_) | with_reducible exact H | (rw [hy205]; exact H) | exact H
 have Ny205 := Aside0.mk hy205
 clear hy205
 have H' := Aside0.mk H
 clear H
 go_enter Tryd.func140, Tryd.ntmps140
 go_wp2_with (first | ((with_reducible refine gate_dst (N := 6) rfl ?_); refine Kd.S_lit (Kd.slice 3 (Kd.int .i64)) _ 22 ?hg (N := 6) ?hd (xs := ([] : List (List Int))) (inner := []) (ok := fun _ => True) (okp := fun _ => True) ?hr ?hp (fun _ hk => hk) trivial (Below.refl _ _) (Nat.le_refl _) (by simp) ?_; (case hd => rfl); (case hg => rfl); (case hr => first | (go_simp; done) | (go_simp; rfl)); (case hp => exact (Reps.none _ _)); intro v206 w2 ho3 hb hg_ hnew_; clear hg_ hnew_; (first | rw [← Ny205.out] at ho3 | (simp only [Int.reduceToNat] at ho3; rw [← Ny205.out] at ho3)); have n0_ := Aside0.mk (Kd.S_lower ho3 (below_size (FB HB.out))); have n1_ := Aside0.mk (below_step (FB HB.out) hb); clear HB; have HO207 := n0_; have HB := n1_; clear n0_ n1_; clear hb ho3))
 go_loopg [3, 9] k (fun kq v3 v9 w' => ∃ (x3_1 : List (List Int)) (x9_1 : Int), v9 = .int .i64 x9_1 ∧ Aside0 (spec_l13OwnListListint.l0 kq x3_1 l0 (l0.length : Int) x9_1 = some r) ∧ Aside0 (kq ≤ k) ∧ Aside0 (Kd.S (Kd.slice 3 (Kd.int .i64)) 22 w' w.heap.size (fun _ => True) v3 x3_1) ∧ Aside0 (Below w.heap.size w w'))
 case atStart => exact ⟨(y205), (0), (by first | rfl | (simp; done) | (simp [*]; done)), H', ⟨Nat.le_refl _⟩, ⟨(FS HO207.out)⟩, ⟨FB HB.out⟩⟩
 case round =>
   clear H'
   (try clear c1); (try clear p2)
   obtain ⟨x3_1, x9_1, rfl, HA, HK1, HO_3, HB⟩ := hrel
   cases gk with
   | zero => exact absurd HA.out (by simp [spec_l13OwnListListint.l0])
   | succ k1 =>
     have H := HA.out
     clear HA
     simp only [spec_l13OwnListListint.l0] at H
     by_cases c4 : x9_1 < (l0.length : Int)
     · rw [if_pos c4] at H
       have c4b0 : decide (x9_1 < (l0.length : Int)) = true := decide_eq_true c4
       clear c4
       by_cases c5 : 0 ≤ x9_1
       · rw [if_pos c5] at H
         have c5b0 : decide (0 ≤ x9_1) = true := decide_eq_true c5
         clear c5
         by_cases c6 : x9_1 < (l0.length : Int)
         · rw [if_pos c6] at H
           have c6b0 : decide (x9_1 < (l0.length : Int)) = true := decide_eq_true c6
           clear c6
           obtain ⟨y209, hy209⟩ : ∃ y_ : List Int, y_ = (([] : List Int)) := ⟨_, rfl⟩
           replace H : (if y209.length + (rd_L3 l0 x9_1).length < 17592186044416 then (if x3_1.length < 5864062014805 then (spec_l13OwnListListint.l0 k1 (x3_1 ++ [(y209 ++ (rd_L3 l0 x9_1))]) l0 (l0.length : Int) (wrap64 (x9_1 + 1))) else (none)) else (none)) = some r := by first | (rw [hy209]; with_reducible exact H) | (have H2_ := (Option.bind_some _ _).symm.trans H; rw [hy209]; with_reducible exact H2_) | (have H2_ := (Option.bind_some _ _).symm.trans H; with_reducible exact H2_) | with_reducible exact H | (rw [hy209]; exact H) | exact H
           have Ny209 := Aside0.mk hy209
           clear hy209
           by_cases c7 : y209.length + (rd_L3 l0 x9_1).length < 17592186044416
           · rw [if_pos c7] at H
             have LMc7 := Aside0.mk c7
             clear c7
             obtain ⟨y212, hy212⟩ : ∃ y_ : List Int, y_ = (y209 ++ (rd_L3 l0 x9_1)) := ⟨_, rfl⟩
             replace H : (if x3_1.length < 5864062014805 then (spec_l13OwnListListint.l0 k1 (x3_1 ++ [y212]) l0 (l0.length : Int) (wrap64 (x9_1 + 1))) else (none)) = some r := by first | (rw [hy212]; with_reducible exact H) | (have H2_ := (Option.bind_some _ _).symm.trans H; rw [hy212]; with_reducible exact H2_) | (have H2_ := (Option.bind_some _ _).symm.trans H; with_reducible exact H2_) | with_reducible exact H | (rw [hy212]; exact H) | exact H
             have Ny212 := Aside0.mk hy212
             clear hy212
             by_cases c8 : x3_1.length < 5864062014805
             · rw [if_pos c8] at H
               have LMc8 := Aside0.mk c8
               clear c8
               obtain ⟨y215, hy215⟩ : ∃ y_ : List (List Int), y_ = (x3_1 ++ [y212]) := ⟨_, rfl⟩
               replace H : (spec_l13OwnListListint.l0 k1 y215 l0 (l0.length : Int) (wrap64 (x9_1 + 1))) = some r := by first | (rw [hy215]; with_reducible exact H) | (have H2_ := (Option.bind_some _ _).symm.trans H; rw [hy215]; with_reducible exact H2_) | (have H2_ := (Option.bind_some _ _).symm.trans H; with_reducible exact H2_) | with_reducible exact H | (rw [hy215]; exact H) | exact H
               have Ny215 := Aside0.mk hy215
               clear hy215
               have H' := Aside0.mk H
               clear H
               have p208 : 0 ≤ (x9_1 : Int) := of_decide_eq_true (by assumption)
               have q208 : x9_1 < (l0.length : Int) := of_decide_eq_true (by assumption)
               obtain ⟨ad208, A208_0, c208_0, e208, hx208_0, hl208_0, hi208_0⟩ := at_L3 HR0.out x9_1 p208 q208
               cases e208
               (try replace hx208_0 := (HB.out.cell (World.block_lt_of_cell? w _ hx208_0)).trans hx208_0)
               have HR208_0 := Aside0.mk hi208_0
               have HC208_0 := Aside0.mk hl208_0
               clear hi208_0 hl208_0
               replace p208 := eq_true p208
               replace q208 := eq_true q208
               go_wp2_with (first | ((with_reducible refine gate_dst (N := 14) rfl ?_); refine Kd.R_lit (Kd.int .i64) _ 3 ?hg (N := 14) ?hd (xs := ([] : List Int)) (inner := []) (ok := fun _ => True) (okp := fun _ => True) ?hr ?hp (fun _ hk => hk) trivial (Below.refl _ _) (Nat.le_refl _) (by simp) ?_; (case hd => rfl); (case hg => rfl); (case hr => first | (go_simp; done) | (go_simp; rfl)); (case hp => exact (Reps.none _ _)); intro v210 w9 ho10 hb hg_ hnew_; clear hg_ hnew_; (first | rw [← Ny209.out] at ho10 | (simp only [Int.reduceToNat] at ho10; rw [← Ny209.out] at ho10)); have n0_ := Aside0.mk (Kd.S_elder' (FS HO_3.out) (Kd.R_base ho10) hb); have n1_ := Aside0.mk (Kd.R_lower ho10 (below_size (FB HB.out))); have n2_ := Aside0.mk (below_step (FB HB.out) hb); clear HO_3; clear HB; have HO_3 := n0_; have HO211 := n1_; have HB := n2_; clear n0_ n1_ n2_; clear hb ho10) | ((with_reducible refine gate_builtin (b := .append) (xs := #[.tmp 14, .tmp 15]) rfl ?_); at_builtin; refine Kd.R_append_rows (Kd.int .i64) (w0 := w) w.heap.size rfl (.tmp 14) (.tmp 15) 22 3 (.int .i64 0) 8 rfl Tryd.underlying22 info3 rfl (by decide) (by omega) v210 y209 (rd_L3 l0 x9_1) _ _ _ (fun _ => True) (fun _ => False) rfl rfl ?aO ?aR (fun _ _ h => h) (fun _ h => h.elim) ?aF ?aB ?aS ?aL ?_; (case aR => repeat (first | exact (Kd.C_below HR208_0.out HB.out) | (with_reducible refine Kd.C_alloc ?_ _) | (with_reducible refine Kd.C_drewN ?_ _) | (with_reducible refine Kd.C_drew ?_))); (case aB => exact (FB HB.out)); (case aF => exact (fun _ _ => trivial)); (case aO => exact (FR HO211.out)); (case aS => exact (below_size (FB HB.out))); (case aL => have := LMc7.out; omega); intro v213 w11 ho hb hg hat; rw [← Ny212.out] at ho; have n0_ := Aside0.mk (Kd.S_after (ok := (fun _ => True)) (FS HO_3.out) hg hat); have n1_ := Aside0.mk (hb); have n2_ := Aside0.mk (ho); clear HO_3; clear HB; clear HO211; have HO_3 := n0_; have HB := n1_; have HO214 := n2_; clear n0_ n1_ n2_; clear ho hb hg hat; obtain ⟨Ao13, co13, eo13⟩ := Kd.R_slice HO214.out; subst eo13) | ((with_reducible refine gate_builtin (b := .append) (xs := #[.tmp 13, .tmp 17]) rfl ?_); at_builtin; refine Kd.S_append (Kd.slice 3 (Kd.int .i64)) (w0 := w) w.heap.size rfl (.tmp 13) (.tmp 17) 30 22 (.slice none 0 0) 24 rfl Tryd.underlying30 info22 rfl (by decide) (by omega) u3 x3_1 y212 [.slice Ao13 y212.length co13] (fun _ => True) (fun k_ => some k_ = (.slice Ao13 y212.length co13 : Value).ownBlock) rfl rfl ?aP (fun k_ hk_ => ((Kd.R_mono (ok' := fun k_ => ((fun _ => True)) k_ ∧ some k_ ≠ (u3 : Value).ownBlock) (Kd.R_apart' (HO214.out) (Kd.S_typed HO_3.out) (by decide)) (fun k_ hk => ⟨trivial, hk.2⟩))).1 k_ hk_.symm) ?aF ?aO ?aB ?aS ?aL ?_; (case aP => exact Kd.M_row (Kd.R_mono (Kd.R_tight rfl (Kd.R_mono (ok' := fun k_ => ((fun _ => True)) k_ ∧ some k_ ≠ (u3 : Value).ownBlock) (Kd.R_apart' (HO214.out) (Kd.S_typed HO_3.out) (by decide)) (fun k_ hk => ⟨trivial, hk.2⟩))) (fun _ h_ => h_))); (case aB => exact (FB HB.out)); (case aF => exact (fun _ _ => trivial)); (case aO => exact (FS (Kd.S_mono HO_3.out (fun k_ hk => ⟨trivial, fun e_ => hk.2 e_⟩)))); (case aS => exact (below_size (FB HB.out))); (case aL => have := LMc8.out; omega); intro v216 w12 ho hb hg hat; rw [← Ny215.out] at ho; have n0_ := Aside0.mk (hb); have n1_ := Aside0.mk (ho); clear HB; clear HO_3; clear HO214; have HB := n0_; have HO217 := n1_; clear n0_ n1_; clear ho hb hg hat))
               go_roundg k1
               case measure => have := HK1.out; omega
               case rel => exact ⟨(y215), (wrap64 (x9_1 + 1)), (by first | rfl | (simp; done) | (simp [*]; done)), H', ⟨by have := HK1.out; omega⟩, ⟨(FS HO217.out)⟩, ⟨FB HB.out⟩⟩
             · rw [if_neg c8] at H
               exact absurd H (by simp)
           · rw [if_neg c7] at H
             exact absurd H (by simp)
         · rw [if_neg c6] at H
           exact absurd H (by simp)
       · rw [if_neg c5] at H
         exact absurd H (by simp)
     · rw [if_neg c4] at H
       have c4b0 : decide (x9_1 < (l0.length : Int)) = false := decide_eq_false c4
       clear c4
       obtain rfl := Option.some.inj H
       go_wp2
       go_ret
       exact ⟨_, by first | rfl | (simp [errW_none, errW_some] <;> rfl) | (simp [*, errW_none, errW_some] <;> rfl), (FS HO_3.out), FB HB.out⟩

/-! ### spec_l13OwnLayout: function 105 -/
def spec_l13OwnLayout.f (k : Nat) (l0_0 : List (List Int)) (l0_1 : List Int) : Option ((List (List Int)) × List Int) := (spec_l13OwnListListint.f k l0_0).bind fun t220 => ((some (([] : List Int) : List Int)).bind fun y223 => (if y223.length + l0_1.length < 17592186044416 then (some (t220, (y223 ++ l0_1))) else (none)))
theorem spec_l13OwnLayout.mono : ∀ a0 a1 k, LeO (spec_l13OwnLayout.f k a0 a1) (spec_l13OwnLayout.f (k + 1) a0 a1) := by
 intro a0 a1 k
 unfold spec_l13OwnLayout.f
 repeat' first
     | (with_reducible exact spec_l13OwnListListint.mono _ _)
     | (with_reducible exact LeO.refl _)
     | (with_reducible exact LeO.none _)
     | (with_reducible refine LeO.ite ?_ ?_)
     | (with_reducible refine LeO.bind ?_ (fun _ => ?_))
     | exact spec_l13OwnListListint.mono _ _
     | exact LeO.none _
     | refine LeO.ite ?_ ?_
     | refine LeO.bind ?_ (fun _ => ?_)
set_option maxHeartbeats 8000000 in
set_option maxRecDepth 100000 in
theorem spec_l13OwnLayout.calls (k : Nat) (A0_0 : Option Addr) (c0_0 : Nat) (l0_0 : List (List Int)) (A0_1 : Option Addr) (c0_1 : Nat) (l0_1 : List Int) (r1 : List (List Int)) (r2 : List Int) (w : World) (hr0_0 : Kd.C (Kd.slice 3 (Kd.int .i64)) w A0_0 l0_0.length l0_0) (hc0_0 : l0_0.length ≤ c0_0) (hr0_1 : Kd.C (Kd.int .i64) w A0_1 l0_1.length l0_1) (hc0_1 : l0_1.length ≤ c0_1) (h : spec_l13OwnLayout.f k l0_0 l0_1 = some (r1, r2)) :
   Calls Tryd.prog 105 #[.agg #[.slice A0_0 l0_0.length c0_0, .slice A0_1 l0_1.length c0_1]] w fun e w' => ∃ v0_ v1_ : Value, e = .returned (.agg #[v0_, v1_]) ∧ Kd.S (Kd.slice 3 (Kd.int .i64)) 22 w' w.heap.size (fun k_ => some k_ ≠ (v1_ : Value).ownBlock) v0_ r1 ∧ Kd.R (Kd.int .i64) 3 w' w.heap.size (fun _ => True) v1_ r2 ∧ Below w.heap.size w w' := by
 have hu32 := Tryd.underlying32
 have HR0_0 := Aside0.mk hr0_0
 have HC0_0 := Aside0.mk hc0_0
 clear hr0_0 hc0_0
 have HR0_1 := Aside0.mk hr0_1
 have HC0_1 := Aside0.mk hc0_1
 clear hr0_1 hc0_1
 have HB := Aside0.mk (Below.refl w.heap.size w)
 have H : ((spec_l13OwnListListint.f k l0_0).bind fun t220 => ((some (([] : List Int) : List Int)).bind fun y223 => (if y223.length + l0_1.length < 17592186044416 then (some (t220, (y223 ++ l0_1))) else (none)))) = some (r1, r2) := h
 clear h
 replace H := Option.bind_eq_some_iff.mp H
 obtain ⟨t220, A20, H⟩ := H
 replace H : ((some (([] : List Int) : List Int)).bind fun y223 => (if y223.length + l0_1.length < 17592186044416 then (some (t220, (y223 ++ l0_1))) else (none))) = some (r1, r2) := H
 have A2 := Aside0.mk A20
 clear A20
 obtain ⟨y223, hy223⟩ : ∃ y_ : List Int, y_ = (([] : List Int)) := ⟨_, rfl⟩
 replace H : (if y223.length + l0_1.length < 17592186044416 then (some (t220, (y223 ++ l0_1))) else (none)) = some (r1, r2) := by first | (rw [hy223]; with_reducible exact H) | (have H2_ := (Option.bind_some _ _).symm.trans H; rw [hy223]; with_reducible exact H2_) | (have H2_ := (Option.bind_some _ _).symm.trans H; with_reducible exact H2_) | with_reducible exact H | (rw [hy223]; exact H) | exact H
 have Ny223 := Aside0.mk hy223
 clear hy223
 by_cases c3 : y223.length + l0_1.length < 17592186044416
 · rw [if_pos c3] at H
   have LMc3 := Aside0.mk c3
   clear c3
   obtain ⟨y226, hy226⟩ : ∃ y_ : List Int, y_ = (y223 ++ l0_1) := ⟨_, rfl⟩
   replace H : (some (t220, y226)) = some (r1, r2) := by first | (rw [hy226]; with_reducible exact H) | (have H2_ := (Option.bind_some _ _).symm.trans H; rw [hy226]; with_reducible exact H2_) | (have H2_ := (Option.bind_some _ _).symm.trans H; with_reducible exact H2_) | with_reducible exact H | (rw [hy226]; exact H) | exact H
   have Ny226 := Aside0.mk hy226
   clear hy226
   simp only [Option.some.injEq, Prod.mk.injEq] at H
   obtain ⟨rfl, rfl⟩ := H
   go_enter Tryd.func105, Tryd.ntmps105
   go_wp2_with (first | ((with_reducible refine gate_dst (N := 1) rfl ?_); refine box_event ?hg (N := 1) ?hd (cs := #[.slice A0_0 l0_0.length c0_0, .slice A0_1 l0_1.length c0_1]) (t := 32) ?hr ?_; (case hd => rfl); (case hg => rfl); (case hr => first | (go_simp; done) | (go_simp; rfl)); intro gb218 hg w4 hbox hb; have n0_ := Aside0.mk (below_step (FB HB.out) hb); have n1_ := Aside0.mk (hbox); have n2_ := Aside0.mk ((by rw [hg]; exact (below_size (FB HB.out)) : w.heap.size ≤ gb218)); have n3_ := Aside0.mk ((by rw [hg]; exact (below_size (FB HB.out)) : w.heap.size ≤ gb218)); clear HB; have HB := n0_; have BK218 := n1_; have GW218 := n2_; have GE218 := n3_; clear n0_ n1_ n2_ n3_; clear hb hbox hg) | ((with_reducible refine gate_dst (N := 2) rfl ?_); refine box_event ?hg (N := 2) ?hd (cs := #[.slice none 0 0, .slice none 0 0]) (t := 32) ?hr ?_; (case hd => rfl); (case hg => rfl); (case hr => first | (go_simp; done) | (go_simp; rfl)); intro gb219 hg w5 hbox hb; have n0_ := Aside0.mk (blk_below (g := gb218) (o := .cells #[.slice A0_0 l0_0.length c0_0, .slice A0_1 l0_1.length c0_1] 32 (0, 0)) (FK BK218.out) hb); have n1_ := Aside0.mk (below_step (by repeat (first | (with_reducible first | exact HB.out | apply below_alloc | apply pw_below_drewN | apply below_drew1 | refine below_set ?_ GE218.out) | exact HB.out)) hb); have n2_ := Aside0.mk (hbox); have n3_ := Aside0.mk ((by rw [hg]; exact (below_size (by repeat (first | (with_reducible first | exact HB.out | apply below_alloc | apply pw_below_drewN | apply below_drew1 | refine below_set ?_ GE218.out) | exact HB.out))) : w.heap.size ≤ gb219)); have n4_ := Aside0.mk ((by rw [hg]; exact (below_size (by repeat (first | (with_reducible first | exact HB.out | apply below_alloc | apply pw_below_drewN | apply below_drew1 | refine below_set ?_ GE218.out) | exact HB.out))) : w.heap.size ≤ gb219)); have n5_ := Aside0.mk ((by rw [hg]; exact Nat.ne_of_lt (blk_lt (g := gb218) (o := .cells #[.slice A0_0 l0_0.length c0_0, .slice A0_1 l0_1.length c0_1] 32 (0, 0)) (FK BK218.out)) : gb218 ≠ gb219)); have n6_ := Aside0.mk ((by rw [hg]; exact Nat.ne_of_gt (blk_lt (g := gb218) (o := .cells #[.slice A0_0 l0_0.length c0_0, .slice A0_1 l0_1.length c0_1] 32 (0, 0)) (FK BK218.out)) : gb219 ≠ gb218)); clear BK218; clear HB; have BK218 := n0_; have HB := n1_; have BK219 := n2_; have GW219 := n3_; have GE219 := n4_; have NB218_219 := n5_; have NB219_218 := n6_; clear n0_ n1_ n2_ n3_ n4_ n5_ n6_; clear hb hbox hg; have hnb6 := NB218_219.out; have hnc6 := NB219_218.out; have hcz7_0 : w5.cell? ⟨gb218, 0, none⟩ = some (.slice A0_0 l0_0.length c0_0) := (blk_cell BK218.out 0).trans rfl; have hcz7_1 : w5.cell? ⟨gb218, 1, none⟩ = some (.slice A0_1 l0_1.length c0_1) := (blk_cell BK218.out 1).trans rfl; have hfz7_0 := blk_frozen BK218.out 0; have hfz7_1 := blk_frozen BK218.out 1) | ((with_reducible refine gate_callee (f := 140) rfl ?_); refine goesL_ (some 5) rfl rfl Tryd.func140 (by kernel_rfl) rfl #[.slice A0_0 l0_0.length c0_0] rfl (by (try simp only [List.map_toArray, List.map_cons, List.map_nil]); first | done | rfl | (simp only [List.length_drop, List.length_take]; rfl)) ?_; (with_reducible refine (spec_l13OwnListListint.calls k _ _ l0_0 t220 _ ?side1 ?side2 A2.out).mono ?_); (case side1 => repeat (first | exact (Kd.C_below HR0_0.out HB.out) | (with_reducible refine Kd.C_alloc ?_ _) | (with_reducible refine Kd.C_drewN ?_ _) | (with_reducible refine Kd.C_drew ?_))); (case side2 => exact HC0_0.out); rintro e w8 ⟨v221, rfl, ho0, hb⟩; refine ⟨_, rfl, ?_⟩; have n0_ := Aside0.mk (Kd.S_lower ho0 (below_size (by repeat (first | (with_reducible first | exact HB.out | apply below_alloc | apply pw_below_drewN | apply below_drew1 | refine below_set ?_ GE218.out | refine below_set ?_ GE219.out) | exact HB.out)))); have n1_ := Aside0.mk (blk_below (g := gb218) (o := .cells #[.slice A0_0 l0_0.length c0_0, .slice A0_1 l0_1.length c0_1] 32 (0, 0)) (FK BK218.out) hb); have n2_ := Aside0.mk (blk_below (g := gb219) (o := .cells #[.slice none 0 0, .slice none 0 0] 32 (0, 0)) (FK BK219.out) hb); have n3_ := Aside0.mk (below_step (by repeat (first | (with_reducible first | exact HB.out | apply below_alloc | apply pw_below_drewN | apply below_drew1 | refine below_set ?_ GE218.out | refine below_set ?_ GE219.out) | exact HB.out)) hb); clear BK218; clear BK219; clear HB; have HO222 := n0_; have BK218 := n1_; have BK219 := n2_; have HB := n3_; clear n0_ n1_ n2_ n3_; (try clear hb); obtain ⟨Ao9, co9, eo9⟩ := Kd.S_slice HO222.out; subst eo9; have hcz10_0 : w8.cell? ⟨gb218, 0, none⟩ = some (.slice A0_0 l0_0.length c0_0) := (blk_cell BK218.out 0).trans rfl; have hcz10_1 : w8.cell? ⟨gb218, 1, none⟩ = some (.slice A0_1 l0_1.length c0_1) := (blk_cell BK218.out 1).trans rfl; have hfz10_0 := blk_frozen BK218.out 0; have hfz10_1 := blk_frozen BK218.out 1) | ((with_reducible refine gate_dst (N := 7) rfl ?_); refine Kd.R_lit (Kd.int .i64) _ 3 ?hg (N := 7) ?hd (xs := ([] : List Int)) (inner := []) (ok := fun _ => True) (okp := fun _ => True) ?hr ?hp (fun _ hk => hk) trivial (Below.refl _ _) (Nat.le_refl _) (by simp) ?_; (case hd => rfl); (case hg => rfl); (case hr => first | (go_simp; done) | (go_simp; rfl)); (case hp => exact (Reps.none _ _)); intro v224 w11 ho12 hb hg_ hnew_; clear hg_ hnew_; (first | rw [← Ny223.out] at ho12 | (simp only [Int.reduceToNat] at ho12; rw [← Ny223.out] at ho12)); have n0_ := Aside0.mk (Kd.S_elder' (FS ((Kd.S_mono (Kd.S_far (p := ⟨gb218, 0, none⟩) (Kd.S_types HO222.out BK218.out (by decide)) (fun _ hk => hk.2) (.slice Ao9 t220.length co9)) (fun _ h_ => h_.1)))) (Kd.R_base ho12) hb); have n1_ := Aside0.mk (Kd.R_lower ho12 (below_size (by repeat (first | (with_reducible first | exact HB.out | apply below_alloc | apply pw_below_drewN | apply below_drew1 | refine below_set ?_ GE218.out | refine below_set ?_ GE219.out) | exact HB.out)))); have n2_ := Aside0.mk (blk_below (g := gb218) (o := .cells #[.slice Ao9 t220.length co9, .slice A0_1 l0_1.length c0_1] 32 (0, 0)) (by (with_reducible repeat (first | refine blk_drewN ?_ _ | refine blk_drew ?_ | refine blk_alloc ?_ _)); refine blk_put (cs := #[.slice A0_0 l0_0.length c0_0, .slice A0_1 l0_1.length c0_1]) ?_ 0 _ rfl; (with_reducible repeat (first | refine blk_drewN ?_ _ | refine blk_drew ?_ | refine blk_alloc ?_ _)); exact BK218.out) hb); have n3_ := Aside0.mk (blk_below (g := gb219) (o := .cells #[.slice none 0 0, .slice none 0 0] 32 (0, 0)) (by (with_reducible repeat (first | refine blk_drewN ?_ _ | refine blk_drew ?_ | refine blk_alloc ?_ _)); refine blk_far ?_ NB219_218.out _; (with_reducible repeat (first | refine blk_drewN ?_ _ | refine blk_drew ?_ | refine blk_alloc ?_ _)); exact BK219.out) hb); have n4_ := Aside0.mk (below_step (by repeat (first | (with_reducible first | exact HB.out | apply below_alloc | apply pw_below_drewN | apply below_drew1 | refine below_set ?_ GE218.out | refine below_set ?_ GE219.out) | exact HB.out)) hb); clear HO222; clear BK218; clear BK219; clear HB; have HO222 := n0_; have HO225 := n1_; have BK218 := n2_; have BK219 := n3_; have HB := n4_; clear n0_ n1_ n2_ n3_ n4_; clear hb ho12; have hcz13_0 : w11.cell? ⟨gb218, 0, none⟩ = some (.slice Ao9 t220.length co9) := (blk_cell BK218.out 0).trans rfl; have hcz13_1 : w11.cell? ⟨gb218, 1, none⟩ = some (.slice A0_1 l0_1.length c0_1) := (blk_cell BK218.out 1).trans rfl; have hfz13_0 := blk_frozen BK218.out 0; have hfz13_1 := blk_frozen BK218.out 1) | ((with_reducible refine gate_builtin (b := .append) (xs := #[.tmp 7, .tmp 9]) rfl ?_); at_builtin; refine Kd.R_append_rows (Kd.int .i64) (w0 := w) w.heap.size rfl (.tmp 7) (.tmp 9) 22 3 (.int .i64 0) 8 rfl Tryd.underlying22 info3 rfl (by decide) (by omega) v224 y223 l0_1 _ _ _ (fun _ => True) (fun _ => False) rfl rfl ?aO ?aR (fun _ _ h => h) (fun _ h => h.elim) ?aF ?aB ?aS ?aL ?_; (case aR => repeat (first | exact (Kd.C_below HR0_1.out HB.out) | (with_reducible refine Kd.C_alloc ?_ _) | (with_reducible refine Kd.C_drewN ?_ _) | (with_reducible refine Kd.C_drew ?_))); (case aB => exact (by repeat (first | (with_reducible first | exact HB.out | apply below_alloc | apply pw_below_drewN | apply below_drew1 | refine below_set ?_ GE218.out | refine below_set ?_ GE219.out) | exact HB.out))); (case aF => exact (fun _ _ => trivial)); (case aO => exact (FR HO225.out)); (case aS => exact (below_size (by repeat (first | (with_reducible first | exact HB.out | apply below_alloc | apply pw_below_drewN | apply below_drew1 | refine below_set ?_ GE218.out | refine below_set ?_ GE219.out) | exact HB.out)))); (case aL => have := LMc3.out; omega); intro v227 w14 ho hb hg hat; rw [← Ny226.out] at ho; have n0_ := Aside0.mk (blk_grown (g := gb218) (o := .cells #[.slice Ao9 t220.length co9, .slice A0_1 l0_1.length c0_1] 32 (0, 0)) (FK BK218.out) hg (Kd.R_ne HO225.out BK218.out (by decide))); have n1_ := Aside0.mk (blk_grown (g := gb219) (o := .cells #[.slice none 0 0, .slice none 0 0] 32 (0, 0)) (FK BK219.out) hg (Kd.R_ne HO225.out BK219.out (by decide))); have n2_ := Aside0.mk (Kd.S_after (ok := (fun _ => True)) (FS HO222.out) hg hat); have n3_ := Aside0.mk (hb); have n4_ := Aside0.mk (ho); clear BK218; clear BK219; clear HO222; clear HB; clear HO225; have BK218 := n0_; have BK219 := n1_; have HO222 := n2_; have HB := n3_; have HO228 := n4_; clear n0_ n1_ n2_ n3_ n4_; clear ho hb hg hat; obtain ⟨Ao15, co15, eo15⟩ := Kd.R_slice HO228.out; subst eo15; have hcz16_0 : w14.cell? ⟨gb218, 0, none⟩ = some (.slice Ao9 t220.length co9) := (blk_cell BK218.out 0).trans rfl; have hcz16_1 : w14.cell? ⟨gb218, 1, none⟩ = some (.slice A0_1 l0_1.length c0_1) := (blk_cell BK218.out 1).trans rfl; have hfz16_0 := blk_frozen BK218.out 0; have hfz16_1 := blk_frozen BK218.out 1; have hcz17_0 : w14.cell? ⟨gb219, 0, none⟩ = some (.slice none 0 0) := (blk_cell BK219.out 0).trans rfl; have hcz17_1 : w14.cell? ⟨gb219, 1, none⟩ = some (.slice none 0 0) := (blk_cell BK219.out 1).trans rfl; have hfz17_0 := blk_frozen BK219.out 0; have hfz17_1 := blk_frozen BK219.out 1))
   refine bodyPost_ret (results_cell_row rfl _ _ gb219 32 #[.slice Ao9 t220.length co9, .slice Ao15 y226.length co15] (0, 0) _ rfl (by (with_reducible repeat (first | refine blk_drewN ?_ _ | refine blk_drew ?_ | refine blk_alloc ?_ _)); refine blk_put (cs := #[.slice Ao9 t220.length co9, .slice none 0 0]) ?_ 1 _ rfl; (with_reducible repeat (first | refine blk_drewN ?_ _ | refine blk_drew ?_ | refine blk_alloc ?_ _)); refine blk_put (cs := #[.slice none 0 0, .slice none 0 0]) ?_ 0 _ rfl; (with_reducible repeat (first | refine blk_drewN ?_ _ | refine blk_drew ?_ | refine blk_alloc ?_ _)); refine blk_far ?_ NB219_218.out _; (with_reducible repeat (first | refine blk_drewN ?_ _ | refine blk_drew ?_ | refine blk_alloc ?_ _)); exact BK219.out) Tryd.underlying32 rfl (by kernel_rfl)) rfl ?_
   exact ⟨_, _, by first | rfl | (simp [errW_none, errW_some] <;> rfl) | (simp [*, errW_none, errW_some] <;> rfl), (FS (Kd.S_mono (Kd.S_far (p := ⟨gb219, 1, none⟩) (Kd.S_far (p := ⟨gb219, 0, none⟩) (Kd.S_far (p := ⟨gb218, 1, none⟩) (Kd.S_types (Kd.S_types HO222.out BK218.out (by decide)) BK219.out (by decide)) (fun _ hk => hk.1.2) (.slice Ao15 y226.length co15)) (fun _ hk => hk.2) (.slice Ao9 t220.length co9)) (fun _ hk => hk.2) (.slice Ao15 y226.length co15)) (fun _ hk => hk.1.1.2))), (FR (Kd.R_mono (Kd.R_far (p := ⟨gb219, 1, none⟩) (Kd.R_far (p := ⟨gb219, 0, none⟩) (Kd.R_far (p := ⟨gb218, 1, none⟩) (Kd.R_types (Kd.R_types HO228.out BK218.out (by decide)) BK219.out (by decide)) (fun _ hk => hk.1.2) (.slice Ao15 y226.length co15)) (fun _ hk => hk.2) (.slice Ao9 t220.length co9)) (fun _ hk => hk.2) (.slice Ao15 y226.length co15)) (fun _ hk => trivial))), by repeat (first | (with_reducible first | exact HB.out | apply below_alloc | apply pw_below_drewN | apply below_drew1 | refine below_set ?_ GE218.out | refine below_set ?_ GE219.out) | exact HB.out)⟩
 · rw [if_neg c3] at H
   exact absurd H (by simp)

/-! ### spec_LayOut: function 60 -/
def spec_LayOut.f (k : Nat) (a0 : ByteArray) (a1 : Int) : Option ((List (List Int)) × List Int × Bool) := (spec_l2RawLayOut.f k a0 a1).bind fun bt230 => ((spec_l13OwnLayout.f k bt230.1 bt230.2.1).bind fun bt238 => (some (bt238.1, bt238.2, bt230.2.2)))
theorem spec_LayOut.mono : ∀ a0 a1 k, LeO (spec_LayOut.f k a0 a1) (spec_LayOut.f (k + 1) a0 a1) := by
 intro a0 a1 k
 unfold spec_LayOut.f
 repeat' first
     | (with_reducible exact spec_l13OwnLayout.mono _ _ _)
     | (with_reducible exact spec_l2RawLayOut.mono _ _ _)
     | (with_reducible exact LeO.refl _)
     | (with_reducible exact LeO.none _)
     | (with_reducible refine LeO.ite ?_ ?_)
     | (with_reducible refine LeO.bind ?_ (fun _ => ?_))
     | exact spec_l13OwnLayout.mono _ _ _
     | exact spec_l2RawLayOut.mono _ _ _
     | exact LeO.none _
     | refine LeO.ite ?_ ?_
     | refine LeO.bind ?_ (fun _ => ?_)
set_option maxHeartbeats 8000000 in
set_option maxRecDepth 100000 in
theorem spec_LayOut.calls (k : Nat) (a0 : ByteArray) (a1 : Int) (r1 : List (List Int)) (r2 : List Int) (r3 : Bool) (w : World) (h : spec_LayOut.f k a0 a1 = some (r1, r2, r3)) :
   Calls Tryd.prog 60 #[.string a0, .int .i64 a1] w fun e w' => ∃ v0_ v1_ : Value, e = .returned (.tuple #[.agg #[v0_, v1_], .bool r3]) ∧ Kd.S (Kd.slice 3 (Kd.int .i64)) 22 w' w.heap.size (fun k_ => some k_ ≠ (v1_ : Value).ownBlock) v0_ r1 ∧ Kd.R (Kd.int .i64) 3 w' w.heap.size (fun _ => True) v1_ r2 ∧ Below w.heap.size w w' := by
 have hu32 := Tryd.underlying32
 have HB := Aside0.mk (Below.refl w.heap.size w)
 have H : ((spec_l2RawLayOut.f k a0 a1).bind fun bt230 => ((spec_l13OwnLayout.f k bt230.1 bt230.2.1).bind fun bt238 => (some (bt238.1, bt238.2, bt230.2.2)))) = some (r1, r2, r3) := h
 clear h
 replace H := Option.bind_eq_some_iff.mp H
 obtain ⟨⟨t230, t233, t236⟩, A30, H⟩ := H
 replace H : ((spec_l13OwnLayout.f k t230 t233).bind fun bt238 => (some (bt238.1, bt238.2, t236))) = some (r1, r2, r3) := H
 have A3 := Aside0.mk A30
 clear A30
 replace H := Option.bind_eq_some_iff.mp H
 obtain ⟨⟨t238, t241⟩, A40, H⟩ := H
 replace H : (some (t238, t241, t236)) = some (r1, r2, r3) := H
 have A4 := Aside0.mk A40
 clear A40
 simp only [Option.some.injEq, Prod.mk.injEq] at H
 obtain ⟨rfl, rfl, rfl⟩ := H
 go_enter Tryd.func60, Tryd.ntmps60
 go_wp2_with (first | ((with_reducible refine gate_dst (N := 4) rfl ?_); refine box_event ?hg (N := 4) ?hd (cs := #[.slice none 0 0, .slice none 0 0]) (t := 32) ?hr ?_; (case hd => rfl); (case hg => rfl); (case hr => first | (go_simp; done) | (go_simp; rfl)); intro gb229 hg w5 hbox hb; have n0_ := Aside0.mk (below_step (FB HB.out) hb); have n1_ := Aside0.mk (hbox); have n2_ := Aside0.mk ((by rw [hg]; exact (below_size (FB HB.out)) : w.heap.size ≤ gb229)); have n3_ := Aside0.mk ((by rw [hg]; exact (below_size (FB HB.out)) : w.heap.size ≤ gb229)); clear HB; have HB := n0_; have BK229 := n1_; have GW229 := n2_; have GE229 := n3_; clear n0_ n1_ n2_ n3_; clear hb hbox hg) | ((with_reducible refine gate_callee (f := 104) rfl ?_); refine goesL_ (some 11) rfl rfl Tryd.func104 (by kernel_rfl) rfl #[.string a0, .int .i64 a1] rfl (by (try simp only [List.map_toArray, List.map_cons, List.map_nil]); first | done | rfl | (simp only [List.length_drop, List.length_take]; rfl)) ?_; (with_reducible refine (spec_l2RawLayOut.calls k a0 a1 t230 t233 t236 _ A3.out).mono ?_); rintro e w6 ⟨v231, v234, rfl, ho0, ho1, hb⟩; refine ⟨_, rfl, ?_⟩; have n0_ := Aside0.mk (Kd.S_lower ho0 (below_size (by repeat (first | (with_reducible first | exact HB.out | apply below_alloc | apply pw_below_drewN | apply below_drew1 | refine below_set ?_ GE229.out) | exact HB.out)))); have n1_ := Aside0.mk (Kd.R_lower ho1 (below_size (by repeat (first | (with_reducible first | exact HB.out | apply below_alloc | apply pw_below_drewN | apply below_drew1 | refine below_set ?_ GE229.out) | exact HB.out)))); have n2_ := Aside0.mk (blk_below (g := gb229) (o := .cells #[.slice none 0 0, .slice none 0 0] 32 (0, 0)) (FK BK229.out) hb); have n3_ := Aside0.mk (below_step (by repeat (first | (with_reducible first | exact HB.out | apply below_alloc | apply pw_below_drewN | apply below_drew1 | refine below_set ?_ GE229.out) | exact HB.out)) hb); clear BK229; clear HB; have HO232 := n0_; have HO235 := n1_; have BK229 := n2_; have HB := n3_; clear n0_ n1_ n2_ n3_; (try clear hb); (try clear ho1)) | ((with_reducible refine gate_dst (N := 6) rfl ?_); refine box_event ?hg (N := 6) ?hd (cs := #[.slice none 0 0, .slice none 0 0]) (t := 32) ?hr ?_; (case hd => rfl); (case hg => rfl); (case hr => first | (go_simp; done) | (go_simp; rfl)); intro gb237 hg w7 hbox hb; have n0_ := Aside0.mk (Kd.S_below (FS HO232.out) hb); have n1_ := Aside0.mk (Kd.R_below (FR HO235.out) hb); have n2_ := Aside0.mk (blk_below (g := gb229) (o := .cells #[.slice none 0 0, .slice none 0 0] 32 (0, 0)) (FK BK229.out) hb); have n3_ := Aside0.mk (below_step (by repeat (first | (with_reducible first | exact HB.out | apply below_alloc | apply pw_below_drewN | apply below_drew1 | refine below_set ?_ GE229.out) | exact HB.out)) hb); have n4_ := Aside0.mk (hbox); have n5_ := Aside0.mk ((by rw [hg]; exact (below_size (by repeat (first | (with_reducible first | exact HB.out | apply below_alloc | apply pw_below_drewN | apply below_drew1 | refine below_set ?_ GE229.out) | exact HB.out))) : w.heap.size ≤ gb237)); have n6_ := Aside0.mk ((by rw [hg]; exact (below_size (by repeat (first | (with_reducible first | exact HB.out | apply below_alloc | apply pw_below_drewN | apply below_drew1 | refine below_set ?_ GE229.out) | exact HB.out))) : w.heap.size ≤ gb237)); have n7_ := Aside0.mk ((by rw [hg]; exact Nat.ne_of_lt (blk_lt (g := gb229) (o := .cells #[.slice none 0 0, .slice none 0 0] 32 (0, 0)) (FK BK229.out)) : gb229 ≠ gb237)); have n8_ := Aside0.mk ((by rw [hg]; exact Nat.ne_of_gt (blk_lt (g := gb229) (o := .cells #[.slice none 0 0, .slice none 0 0] 32 (0, 0)) (FK BK229.out)) : gb237 ≠ gb229)); clear HO232; clear HO235; clear BK229; clear HB; have HO232 := n0_; have HO235 := n1_; have BK229 := n2_; have HB := n3_; have BK237 := n4_; have GW237 := n5_; have GE237 := n6_; have NB229_237 := n7_; have NB237_229 := n8_; clear n0_ n1_ n2_ n3_ n4_ n5_ n6_ n7_ n8_; clear hb hbox hg; obtain ⟨Ao8, co8, eo8⟩ := Kd.S_slice HO232.out; subst eo8; have hnb9 := NB237_229.out; have hnc9 := NB229_237.out; have hcz10_0 : w7.cell? ⟨gb237, 0, none⟩ = some (.slice none 0 0) := (blk_cell BK237.out 0).trans rfl; have hcz10_1 : w7.cell? ⟨gb237, 1, none⟩ = some (.slice none 0 0) := (blk_cell BK237.out 1).trans rfl; have hfz10_0 := blk_frozen BK237.out 0; have hfz10_1 := blk_frozen BK237.out 1; obtain ⟨Ao11, co11, eo11⟩ := Kd.R_slice HO235.out; subst eo11) | ((with_reducible refine gate_callee (f := 105) rfl ?_); refine goesL_ (some 15) rfl rfl Tryd.func105 (by kernel_rfl) rfl #[.agg #[.slice Ao8 t230.length co8, .slice Ao11 t233.length co11]] rfl (by (try simp only [List.map_toArray, List.map_cons, List.map_nil]); first | done | rfl | (simp only [List.length_drop, List.length_take]; rfl)) ?_; (with_reducible refine (spec_l13OwnLayout.calls k _ _ t230 _ _ t233 t238 t241 _ ?side1 ?side2 ?side3 ?side4 A4.out).mono ?_); (case side1 => refine (Kd.S_reads' (e := 22) (base := w.heap.size) (ok := fun k_ => some k_ ≠ (.slice Ao11 t233.length co11 : Value).ownBlock) (n := t230.length) (c := co8) ?_).2.2; exact (FS ((Kd.S_mono (Kd.S_far (p := ⟨gb237, 1, none⟩) (Kd.S_far (p := ⟨gb237, 0, none⟩) (Kd.S_types HO232.out BK237.out (by decide)) (fun _ hk => hk.2) (.slice Ao8 t230.length co8)) (fun _ hk => hk.2) (.slice Ao11 t233.length co11)) (fun _ h_ => h_.1))))); (case side2 => exact (Kd.S_reads' HO232.out).2.1); (case side3 => refine (Kd.R_reads' (e := 3) (base := w.heap.size) (ok := fun k_ => True) (n := t233.length) (c := co11) ?_).2.2; exact (FR ((Kd.R_mono (Kd.R_far (p := ⟨gb237, 1, none⟩) (Kd.R_far (p := ⟨gb237, 0, none⟩) (Kd.R_types HO235.out BK237.out (by decide)) (fun _ hk => hk.2) (.slice Ao8 t230.length co8)) (fun _ hk => hk.2) (.slice Ao11 t233.length co11)) (fun _ h_ => h_.1))))); (case side4 => exact (Kd.R_reads' HO235.out).2.1); rintro e w12 ⟨v239, v242, rfl, ho0, ho1, hb⟩; refine ⟨_, rfl, ?_⟩; have n0_ := Aside0.mk (Kd.S_mono (Kd.S_told (Kd.S_told (Kd.S_old (FS ((Kd.S_mono (Kd.S_far (p := ⟨gb237, 1, none⟩) (Kd.S_far (p := ⟨gb237, 0, none⟩) (Kd.S_types HO232.out BK237.out (by decide)) (fun _ hk => hk.2) (.slice Ao8 t230.length co8)) (fun _ hk => hk.2) (.slice Ao11 t233.length co11)) (fun _ h_ => h_.1)))) hb) (Kd.S_base ho0)) (Kd.R_base ho1)) (fun _ h_ => h_.1)); have n1_ := Aside0.mk (Kd.R_elder' (FR ((Kd.R_mono (Kd.R_far (p := ⟨gb237, 1, none⟩) (Kd.R_far (p := ⟨gb237, 0, none⟩) (Kd.R_types HO235.out BK237.out (by decide)) (fun _ hk => hk.2) (.slice Ao8 t230.length co8)) (fun _ hk => hk.2) (.slice Ao11 t233.length co11)) (fun _ h_ => h_.1)))) (Kd.R_base ho1) hb); have n2_ := Aside0.mk (Kd.S_lower (Kd.S_new' (Kd.S_new' ho0 (Kd.S_lt (FS ((Kd.S_mono (Kd.S_far (p := ⟨gb237, 1, none⟩) (Kd.S_far (p := ⟨gb237, 0, none⟩) (Kd.S_types HO232.out BK237.out (by decide)) (fun _ hk => hk.2) (.slice Ao8 t230.length co8)) (fun _ hk => hk.2) (.slice Ao11 t233.length co11)) (fun _ h_ => h_.1)))))) (Kd.R_lt (FR ((Kd.R_mono (Kd.R_far (p := ⟨gb237, 1, none⟩) (Kd.R_far (p := ⟨gb237, 0, none⟩) (Kd.R_types HO235.out BK237.out (by decide)) (fun _ hk => hk.2) (.slice Ao8 t230.length co8)) (fun _ hk => hk.2) (.slice Ao11 t233.length co11)) (fun _ h_ => h_.1)))))) (below_size (by repeat (first | (with_reducible first | exact HB.out | apply below_alloc | apply pw_below_drewN | apply below_drew1 | refine below_set ?_ GE229.out | refine below_set ?_ GE237.out) | exact HB.out)))); have n3_ := Aside0.mk (Kd.R_lower (Kd.R_new' ho1 (Kd.R_lt (FR ((Kd.R_mono (Kd.R_far (p := ⟨gb237, 1, none⟩) (Kd.R_far (p := ⟨gb237, 0, none⟩) (Kd.R_types HO235.out BK237.out (by decide)) (fun _ hk => hk.2) (.slice Ao8 t230.length co8)) (fun _ hk => hk.2) (.slice Ao11 t233.length co11)) (fun _ h_ => h_.1)))))) (below_size (by repeat (first | (with_reducible first | exact HB.out | apply below_alloc | apply pw_below_drewN | apply below_drew1 | refine below_set ?_ GE229.out | refine below_set ?_ GE237.out) | exact HB.out)))); have n4_ := Aside0.mk (blk_below (g := gb229) (o := .cells #[.slice none 0 0, .slice none 0 0] 32 (0, 0)) (by (with_reducible repeat (first | refine blk_drewN ?_ _ | refine blk_drew ?_ | refine blk_alloc ?_ _)); refine blk_far ?_ NB229_237.out _; (with_reducible repeat (first | refine blk_drewN ?_ _ | refine blk_drew ?_ | refine blk_alloc ?_ _)); refine blk_far ?_ NB229_237.out _; (with_reducible repeat (first | refine blk_drewN ?_ _ | refine blk_drew ?_ | refine blk_alloc ?_ _)); exact BK229.out) hb); have n5_ := Aside0.mk (blk_below (g := gb237) (o := .cells #[.slice Ao8 t230.length co8, .slice Ao11 t233.length co11] 32 (0, 0)) (by (with_reducible repeat (first | refine blk_drewN ?_ _ | refine blk_drew ?_ | refine blk_alloc ?_ _)); refine blk_put (cs := #[.slice Ao8 t230.length co8, .slice none 0 0]) ?_ 1 _ rfl; (with_reducible repeat (first | refine blk_drewN ?_ _ | refine blk_drew ?_ | refine blk_alloc ?_ _)); refine blk_put (cs := #[.slice none 0 0, .slice none 0 0]) ?_ 0 _ rfl; (with_reducible repeat (first | refine blk_drewN ?_ _ | refine blk_drew ?_ | refine blk_alloc ?_ _)); exact BK237.out) hb); have n6_ := Aside0.mk (below_step (by repeat (first | (with_reducible first | exact HB.out | apply below_alloc | apply pw_below_drewN | apply below_drew1 | refine below_set ?_ GE229.out | refine below_set ?_ GE237.out) | exact HB.out)) hb); clear HO232; clear HO235; clear BK229; clear BK237; clear HB; have HO232 := n0_; have HO235 := n1_; have HO240 := n2_; have HO243 := n3_; have BK229 := n4_; have BK237 := n5_; have HB := n6_; clear n0_ n1_ n2_ n3_ n4_ n5_ n6_; (try clear hb); (try clear ho1); obtain ⟨Ao13, co13, eo13⟩ := Kd.S_slice HO240.out; subst eo13; have hcz14_0 : w12.cell? ⟨gb229, 0, none⟩ = some (.slice none 0 0) := (blk_cell BK229.out 0).trans rfl; have hcz14_1 : w12.cell? ⟨gb229, 1, none⟩ = some (.slice none 0 0) := (blk_cell BK229.out 1).trans rfl; have hfz14_0 := blk_frozen BK229.out 0; have hfz14_1 := blk_frozen BK229.out 1; obtain ⟨Ao15, co15, eo15⟩ := Kd.R_slice HO243.out; subst eo15))
 refine bodyPost_ret (results_ct rfl _ _ gb229 32 #[.slice Ao13 t238.length co13, .slice Ao15 t241.length co15] (0, 0) _ rfl (by (with_reducible repeat (first | refine blk_drewN ?_ _ | refine blk_drew ?_ | refine blk_alloc ?_ _)); refine blk_put (cs := #[.slice Ao13 t238.length co13, .slice none 0 0]) ?_ 1 _ rfl; (with_reducible repeat (first | refine blk_drewN ?_ _ | refine blk_drew ?_ | refine blk_alloc ?_ _)); refine blk_put (cs := #[.slice none 0 0, .slice none 0 0]) ?_ 0 _ rfl; (with_reducible repeat (first | refine blk_drewN ?_ _ | refine blk_drew ?_ | refine blk_alloc ?_ _)); exact BK229.out) Tryd.underlying32 rfl (by kernel_rfl)) rfl ?_
 exact ⟨_, _, by first | rfl | (simp [errW_none, errW_some] <;> rfl) | (simp [*, errW_none, errW_some] <;> rfl), (FS (Kd.S_mono (Kd.S_far (p := ⟨gb229, 1, none⟩) (Kd.S_far (p := ⟨gb229, 0, none⟩) (Kd.S_types HO240.out BK229.out (by decide)) (fun _ hk => hk.2) (.slice Ao13 t238.length co13)) (fun _ hk => hk.2) (.slice Ao15 t241.length co15)) (fun _ hk => hk.1.1.1))), (FR (Kd.R_mono (Kd.R_far (p := ⟨gb229, 1, none⟩) (Kd.R_far (p := ⟨gb229, 0, none⟩) (Kd.R_types HO243.out BK229.out (by decide)) (fun _ hk => hk.2) (.slice Ao13 t238.length co13)) (fun _ hk => hk.2) (.slice Ao15 t241.length co15)) (fun _ hk => trivial))), by repeat (first | (with_reducible first | exact HB.out | apply below_alloc | apply pw_below_drewN | apply below_drew1 | refine below_set ?_ GE229.out | refine below_set ?_ GE237.out) | exact HB.out)⟩

/-! ### spec_ShapeOf: function 138 -/
mutual
def spec_ShapeOf.l0 : Nat → Bool → List Int → List (List Int) → Int → Int → Option (List Int × Bool)
 | 0, _, _, _, _, _ => none
 | k + 1, x7, x8, x21, x22, x23 => if x23 < x22 then (if 0 ≤ x23 then (if x23 < (x21.length : Int) then (spec_ShapeOf.l1 k x7 x8 (rd_L3 x21 x23) x21 x22 x23 (rd_L3 x21 x23) ((rd_L3 x21 x23).length : Int) 0) else (none)) else (none)) else (some (x8, x7))
def spec_ShapeOf.l1 : Nat → Bool → List Int → List Int → List (List Int) → Int → Int → List Int → Int → Int → Option (List Int × Bool)
 | 0, _, _, _, _, _, _, _, _, _ => none
 | k + 1, x7, x8, x10, x21, x22, x23, x27, x28, x29 => if x29 < x28 then (if 0 ≤ x29 then (if x29 < (x27.length : Int) then (if 0 < (x10.length : Int) then (if (rd x27 x29) = (rd x10 0) then (spec_ShapeOf.l1 k x7 x8 x10 x21 x22 x23 x27 x28 (wrap64 (x29 + 1))) else (some ((([] : List Int)), false))) else (none)) else (none)) else (none)) else (if (x10.length : Int) = 0 then (if x8.length < 17592186044416 then (spec_ShapeOf.l0 k x7 (x8 ++ [0]) x21 x22 (wrap64 (x23 + 1))) else (none)) else (if 0 < (x10.length : Int) then (if x8.length < 17592186044416 then (spec_ShapeOf.l0 k x7 (x8 ++ [rd x10 0]) x21 x22 (wrap64 (x23 + 1))) else (none)) else (none)))
end
def spec_ShapeOf.f (k : Nat) (a0 : ByteArray) (a1 : Int) : Option (List Int × Bool) := (spec_LayOut.f k a0 a1).bind fun bt244 => (spec_ShapeOf.l0 k bt244.2.2 (([] : List Int)) bt244.1 (bt244.1.length : Int) 0)
theorem spec_ShapeOf.mono_l : ∀ k, (∀ y0 y1 y2 y3 y4, LeO (spec_ShapeOf.l0 k y0 y1 y2 y3 y4) (spec_ShapeOf.l0 (k + 1) y0 y1 y2 y3 y4)) ∧ (∀ y0 y1 y2 y3 y4 y5 y6 y7 y8, LeO (spec_ShapeOf.l1 k y0 y1 y2 y3 y4 y5 y6 y7 y8) (spec_ShapeOf.l1 (k + 1) y0 y1 y2 y3 y4 y5 y6 y7 y8))
 | 0 => ⟨fun _ _ _ _ _ r h => by simp [spec_ShapeOf.l0] at h, fun _ _ _ _ _ _ _ _ _ r h => by simp [spec_ShapeOf.l1] at h⟩
 | k + 1 => by
   obtain ⟨ih0, ih1⟩ := spec_ShapeOf.mono_l k
   refine ⟨?_, ?_⟩
   · intro y0 y1 y2 y3 y4
     unfold spec_ShapeOf.l0
     repeat' first
     | (with_reducible exact ih0 _ _ _ _ _)
     | (with_reducible exact ih1 _ _ _ _ _ _ _ _ _)
     | (with_reducible exact spec_LayOut.mono _ _ _)
     | (with_reducible exact LeO.refl _)
     | (with_reducible exact LeO.none _)
     | (with_reducible refine LeO.ite ?_ ?_)
     | (with_reducible refine LeO.bind ?_ (fun _ => ?_))
     | exact ih0 _ _ _ _ _
     | exact ih1 _ _ _ _ _ _ _ _ _
     | exact spec_LayOut.mono _ _ _
     | exact LeO.none _
     | refine LeO.ite ?_ ?_
     | refine LeO.bind ?_ (fun _ => ?_)
   · intro y0 y1 y2 y3 y4 y5 y6 y7 y8
     unfold spec_ShapeOf.l1
     repeat' first
     | (with_reducible exact ih0 _ _ _ _ _)
     | (with_reducible exact ih1 _ _ _ _ _ _ _ _ _)
     | (with_reducible exact spec_LayOut.mono _ _ _)
     | (with_reducible exact LeO.refl _)
     | (with_reducible exact LeO.none _)
     | (with_reducible refine LeO.ite ?_ ?_)
     | (with_reducible refine LeO.bind ?_ (fun _ => ?_))
     | exact ih0 _ _ _ _ _
     | exact ih1 _ _ _ _ _ _ _ _ _
     | exact spec_LayOut.mono _ _ _
     | exact LeO.none _
     | refine LeO.ite ?_ ?_
     | refine LeO.bind ?_ (fun _ => ?_)
theorem spec_ShapeOf.mono : ∀ a0 a1 k, LeO (spec_ShapeOf.f k a0 a1) (spec_ShapeOf.f (k + 1) a0 a1) := by
 intro a0 a1 k
 obtain ⟨ih0, ih1⟩ := spec_ShapeOf.mono_l k
 unfold spec_ShapeOf.f
 repeat' first
     | (with_reducible exact ih0 _ _ _ _ _)
     | (with_reducible exact ih1 _ _ _ _ _ _ _ _ _)
     | (with_reducible exact spec_LayOut.mono _ _ _)
     | (with_reducible exact LeO.refl _)
     | (with_reducible exact LeO.none _)
     | (with_reducible refine LeO.ite ?_ ?_)
     | (with_reducible refine LeO.bind ?_ (fun _ => ?_))
     | exact ih0 _ _ _ _ _
     | exact ih1 _ _ _ _ _ _ _ _ _
     | exact spec_LayOut.mono _ _ _
     | exact LeO.none _
     | refine LeO.ite ?_ ?_
     | refine LeO.bind ?_ (fun _ => ?_)
set_option maxHeartbeats 8000000 in
set_option maxRecDepth 100000 in
theorem spec_ShapeOf.calls (k : Nat) (a0 : ByteArray) (a1 : Int) (r1 : List Int) (r2 : Bool) (w : World) (h : spec_ShapeOf.f k a0 a1 = some (r1, r2)) :
   Calls Tryd.prog 138 #[.string a0, .int .i64 a1] w fun e w' => ∃ v0_ : Value, e = .returned (.tuple #[v0_, .bool r2]) ∧ Kd.R (Kd.int .i64) 3 w' w.heap.size (fun _ => True) v0_ r1 ∧ Below w.heap.size w w' := by
 have hu32 := Tryd.underlying32
 have HB := Aside0.mk (Below.refl w.heap.size w)
 have H : ((spec_LayOut.f k a0 a1).bind fun bt244 => (spec_ShapeOf.l0 k bt244.2.2 (([] : List Int)) bt244.1 (bt244.1.length : Int) 0)) = some (r1, r2) := h
 clear h
 replace H := Option.bind_eq_some_iff.mp H
 obtain ⟨⟨t244, t247, t250⟩, A30, H⟩ := H
 replace H : (spec_ShapeOf.l0 k t250 (([] : List Int)) t244 (t244.length : Int) 0) = some (r1, r2) := H
 have A3 := Aside0.mk A30
 clear A30
 obtain ⟨y252, hy252⟩ : ∃ y_ : List Int, y_ = (([] : List Int)) := ⟨_, rfl⟩
 replace H : (spec_ShapeOf.l0 k t250 y252 t244 (t244.length : Int) 0) = some (r1, r2) := by first | (rw [hy252]; with_reducible exact H) | (have H2_ := (Option.bind_some _ _).symm.trans H; rw [hy252]; with_reducible exact H2_) | (have H2_ := (Option.bind_some _ _).symm.trans H; with_reducible exact H2_) | with_reducible exact H | (rw [hy252]; exact H) | exact H
 have Ny252 := Aside0.mk hy252
 clear hy252
 have H' := Aside0.mk H
 clear H
 go_enter Tryd.func138, Tryd.ntmps138
 go_wp2_with (first | ((with_reducible refine gate_callee (f := 60) rfl ?_); refine goesL_ (some 16) rfl rfl Tryd.func60 (by kernel_rfl) rfl #[.string a0, .int .i64 a1] rfl (by (try simp only [List.map_toArray, List.map_cons, List.map_nil]); first | done | rfl | (simp only [List.length_drop, List.length_take]; rfl)) ?_; (with_reducible refine (spec_LayOut.calls k a0 a1 t244 t247 t250 _ A3.out).mono ?_); rintro e w4 ⟨v245, v248, rfl, ho0, ho1, hb⟩; refine ⟨_, rfl, ?_⟩; have n0_ := Aside0.mk (Kd.S_lower ho0 (below_size (FB HB.out))); have n1_ := Aside0.mk (Kd.R_lower ho1 (below_size (FB HB.out))); have n2_ := Aside0.mk (below_step (FB HB.out) hb); clear HB; have HO246 := n0_; have HO249 := n1_; have HB := n2_; clear n0_ n1_ n2_; (try clear hb); (try clear ho1)) | ((with_reducible refine gate_dst (N := 6) rfl ?_); refine box_event ?hg (N := 6) ?hd (cs := #[.slice none 0 0, .slice none 0 0]) (t := 32) ?hr ?_; (case hd => rfl); (case hg => rfl); (case hr => first | (go_simp; done) | (go_simp; rfl)); intro gb251 hg w5 hbox hb; have n0_ := Aside0.mk (Kd.S_below (FS HO246.out) hb); have n1_ := Aside0.mk (Kd.R_below (FR HO249.out) hb); have n2_ := Aside0.mk (below_step (FB HB.out) hb); have n3_ := Aside0.mk (hbox); have n4_ := Aside0.mk ((by rw [hg]; exact (below_size (FB HB.out)) : w.heap.size ≤ gb251)); have n5_ := Aside0.mk ((by rw [hg]; exact (below_size (FB HB.out)) : w.heap.size ≤ gb251)); clear HO246; clear HO249; clear HB; have HO246 := n0_; have HO249 := n1_; have HB := n2_; have BK251 := n3_; have GW251 := n4_; have GE251 := n5_; clear n0_ n1_ n2_ n3_ n4_ n5_; clear hb hbox hg; obtain ⟨Ao6, co6, eo6⟩ := Kd.S_slice HO246.out; subst eo6; have hcz7_0 : w5.cell? ⟨gb251, 0, none⟩ = some (.slice none 0 0) := (blk_cell BK251.out 0).trans rfl; have hcz7_1 : w5.cell? ⟨gb251, 1, none⟩ = some (.slice none 0 0) := (blk_cell BK251.out 1).trans rfl; have hfz7_0 := blk_frozen BK251.out 0; have hfz7_1 := blk_frozen BK251.out 1; obtain ⟨Ao8, co8, eo8⟩ := Kd.R_slice HO249.out; subst eo8) | ((with_reducible refine gate_dst (N := 19) rfl ?_); refine Kd.R_lit (Kd.int .i64) _ 3 ?hg (N := 19) ?hd (xs := ([] : List Int)) (inner := []) (ok := fun _ => True) (okp := fun _ => True) ?hr ?hp (fun _ hk => hk) trivial (Below.refl _ _) (Nat.le_refl _) (by simp) ?_; (case hd => rfl); (case hg => rfl); (case hr => first | (go_simp; done) | (go_simp; rfl)); (case hp => exact (Reps.none _ _)); intro v253 w9 ho10 hb hg_ hnew_; clear hg_ hnew_; (first | rw [← Ny252.out] at ho10 | (simp only [Int.reduceToNat] at ho10; rw [← Ny252.out] at ho10)); have n0_ := Aside0.mk (Kd.S_elder' (FS ((Kd.S_mono (Kd.S_far (p := ⟨gb251, 1, none⟩) (Kd.S_far (p := ⟨gb251, 0, none⟩) (Kd.S_types HO246.out BK251.out (by decide)) (fun _ hk => hk.2) (.slice Ao6 t244.length co6)) (fun _ hk => hk.2) (.slice Ao8 t247.length co8)) (fun _ h_ => h_.1)))) (Kd.R_base ho10) hb); have n1_ := Aside0.mk (Kd.R_elder' (FR ((Kd.R_mono (Kd.R_far (p := ⟨gb251, 1, none⟩) (Kd.R_far (p := ⟨gb251, 0, none⟩) (Kd.R_types HO249.out BK251.out (by decide)) (fun _ hk => hk.2) (.slice Ao6 t244.length co6)) (fun _ hk => hk.2) (.slice Ao8 t247.length co8)) (fun _ h_ => h_.1)))) (Kd.R_base ho10) hb); have n2_ := Aside0.mk (Kd.R_lower (Kd.R_new' ho10 (Kd.R_lt (FR ((Kd.R_mono (Kd.R_far (p := ⟨gb251, 1, none⟩) (Kd.R_far (p := ⟨gb251, 0, none⟩) (Kd.R_types HO249.out BK251.out (by decide)) (fun _ hk => hk.2) (.slice Ao6 t244.length co6)) (fun _ hk => hk.2) (.slice Ao8 t247.length co8)) (fun _ h_ => h_.1)))))) (below_size (by repeat (first | (with_reducible first | exact HB.out | apply below_alloc | apply pw_below_drewN | apply below_drew1 | refine below_set ?_ GE251.out) | exact HB.out)))); have n3_ := Aside0.mk (blk_below (g := gb251) (o := .cells #[.slice Ao6 t244.length co6, .slice Ao8 t247.length co8] 32 (0, 0)) (by (with_reducible repeat (first | refine blk_drewN ?_ _ | refine blk_drew ?_ | refine blk_alloc ?_ _)); refine blk_put (cs := #[.slice Ao6 t244.length co6, .slice none 0 0]) ?_ 1 _ rfl; (with_reducible repeat (first | refine blk_drewN ?_ _ | refine blk_drew ?_ | refine blk_alloc ?_ _)); refine blk_put (cs := #[.slice none 0 0, .slice none 0 0]) ?_ 0 _ rfl; (with_reducible repeat (first | refine blk_drewN ?_ _ | refine blk_drew ?_ | refine blk_alloc ?_ _)); exact BK251.out) hb); have n4_ := Aside0.mk (below_step (by repeat (first | (with_reducible first | exact HB.out | apply below_alloc | apply pw_below_drewN | apply below_drew1 | refine below_set ?_ GE251.out) | exact HB.out)) hb); clear HO246; clear HO249; clear BK251; clear HB; have HO246 := n0_; have HO249 := n1_; have HO254 := n2_; have BK251 := n3_; have HB := n4_; clear n0_ n1_ n2_ n3_ n4_; clear hb ho10; have hcz11_0 : w9.cell? ⟨gb251, 0, none⟩ = some (.slice Ao6 t244.length co6) := (blk_cell BK251.out 0).trans rfl; have hcz11_1 : w9.cell? ⟨gb251, 1, none⟩ = some (.slice Ao8 t247.length co8) := (blk_cell BK251.out 1).trans rfl; have hfz11_0 := blk_frozen BK251.out 0; have hfz11_1 := blk_frozen BK251.out 1))
 go_loopg [8, 23] k (fun kq v8 v23 w' => ∃ (x8_1 : List Int) (x23_1 : Int), v23 = .int .i64 x23_1 ∧ Aside0 (spec_ShapeOf.l0 kq t250 x8_1 t244 (t244.length : Int) x23_1 = some (r1, r2)) ∧ Aside0 (kq ≤ k) ∧ Aside0 (Kd.R (Kd.int .i64) 3 w' w.heap.size (fun k_ => some k_ ≠ ((.slice Ao8 t247.length co8) : Value).ownBlock) v8 x8_1) ∧ Aside0 (Kd.S (Kd.slice 3 (Kd.int .i64)) 22 w' w.heap.size (fun k_ => some k_ ≠ (v8 : Value).ownBlock ∧ some k_ ≠ ((.slice Ao8 t247.length co8) : Value).ownBlock) (.slice Ao6 t244.length co6) t244) ∧ Aside0 (Kd.S (Kd.slice 3 (Kd.int .i64)) 22 w' w.heap.size (fun k_ => some k_ ≠ (v8 : Value).ownBlock ∧ some k_ ≠ ((.slice Ao8 t247.length co8) : Value).ownBlock) (.slice Ao6 t244.length co6) t244) ∧ Aside0 (Kd.R (Kd.int .i64) 3 w' w.heap.size (fun k_ => some k_ ≠ (v8 : Value).ownBlock) (.slice Ao8 t247.length co8) t247) ∧ Aside0 (w'.heap[gb251]? = some (.cells #[(.slice Ao6 t244.length co6), (.slice Ao8 t247.length co8)] 32 (0, 0))) ∧ Aside0 (Below w.heap.size w w'))
 case atStart => exact ⟨(y252), (0), (by first | rfl | (simp; done) | (simp [*]; done)), H', ⟨Nat.le_refl _⟩, ⟨(FR (Kd.R_mono HO254.out (fun _ hk => hk.2)))⟩, ⟨(FS (Kd.S_mono HO246.out (fun _ hk => ⟨hk.2, hk.1⟩)))⟩, ⟨(FS (Kd.S_mono HO246.out (fun _ hk => ⟨hk.2, hk.1⟩)))⟩, ⟨(FR (Kd.R_mono HO249.out (fun _ hk => hk.2)))⟩, ⟨(FK BK251.out)⟩, ⟨by repeat (first | (with_reducible first | exact HB.out | apply below_alloc | apply pw_below_drewN | apply below_drew1 | refine below_set ?_ GE251.out) | exact HB.out)⟩⟩
 case round =>
   clear H'
   (try clear c1); (try clear p2); (try clear c6); (try clear hcz11_0); (try clear hcz11_1); (try clear hcz7_0); (try clear hcz7_1); (try clear hfz11_0); (try clear hfz11_1); (try clear hfz7_0); (try clear hfz7_1)
   obtain ⟨x8_1, x23_1, rfl, HA, HK1, HO_8, HO_21, HO_252000, HO_252001, BK251, HB⟩ := hrel
   cases gk with
   | zero => exact absurd HA.out (by simp [spec_ShapeOf.l0])
   | succ k1 =>
     have H := HA.out
     clear HA
     simp only [spec_ShapeOf.l0] at H
     by_cases c12 : x23_1 < (t244.length : Int)
     · rw [if_pos c12] at H
       have c12b0 : decide (x23_1 < (t244.length : Int)) = true := decide_eq_true c12
       clear c12
       by_cases c13 : 0 ≤ x23_1
       · rw [if_pos c13] at H
         have c13b0 : decide (0 ≤ x23_1) = true := decide_eq_true c13
         clear c13
         by_cases c14 : x23_1 < (t244.length : Int)
         · rw [if_pos c14] at H
           have c14b0 : decide (x23_1 < (t244.length : Int)) = true := decide_eq_true c14
           clear c14
           have H' := Aside0.mk H
           clear H
           have p255 : 0 ≤ (x23_1 : Int) := of_decide_eq_true (by assumption)
           have q255 : x23_1 < (t244.length : Int) := of_decide_eq_true (by assumption)
           obtain ⟨ad255, A255_0, c255_0, e255, hx255_0, hl255_0, hi255_0⟩ := at_L3 (Kd.S_reads' HO_21.out).2.2 x23_1 p255 q255
           cases e255
           obtain ⟨ce255, hce255, hMe255, hcc255⟩ := Kd.S_get HO_21.out [] x23_1 p255 (by first | exact q255 | exact of_decide_eq_true (by assumption) | (have e_ := (Kd.S_reads' HO_21.out).1; omega))
           obtain ⟨ve255_0, rfl, ge255_0⟩ := hMe255
           have hv255_0 := hcc255 0 _ rfl
           rw [Nat.add_zero, show ((Kd.slice 3 (Kd.int .i64))).sz = 1 from rfl, Nat.mul_one] at hv255_0
           replace hv255_0 := Option.some.inj (hv255_0.symm.trans hx255_0)
           rw [hv255_0] at ge255_0
           have HL255_0 := Aside0.mk (show Kd.R (Kd.int .i64) 3 _ _ _ _ (rd_L3 t244 x23_1) from ge255_0)
           clear hv255_0 ge255_0
           clear hcc255 hce255
           have HR255_0 := Aside0.mk hi255_0
           have HC255_0 := Aside0.mk hl255_0
           clear hi255_0 hl255_0
           replace p255 := eq_true p255
           replace q255 := eq_true q255
           go_wp2
           go_loopg [29] k1 (fun kq v29 w' => ∃ (x29_2 : Int), v29 = .int .i64 x29_2 ∧ Aside0 (spec_ShapeOf.l1 kq t250 x8_1 (rd_L3 t244 x23_1) t244 (t244.length : Int) x23_1 (rd_L3 t244 x23_1) ((rd_L3 t244 x23_1).length : Int) x29_2 = some (r1, r2)) ∧ Aside0 (kq ≤ k1) ∧ Aside0 (Kd.R (Kd.int .i64) 3 w' w.heap.size (fun k_ => some k_ ≠ ((.slice Ao8 t247.length co8) : Value).ownBlock) u8 x8_1) ∧ Aside0 (Kd.S (Kd.slice 3 (Kd.int .i64)) 22 w' w.heap.size (fun k_ => some k_ ≠ (u8 : Value).ownBlock ∧ some k_ ≠ ((.slice Ao8 t247.length co8) : Value).ownBlock) (.slice (some ad255) t244.length co6) t244) ∧ Aside0 (Kd.S (Kd.slice 3 (Kd.int .i64)) 22 w' w.heap.size (fun k_ => some k_ ≠ (u8 : Value).ownBlock ∧ some k_ ≠ ((.slice Ao8 t247.length co8) : Value).ownBlock) (.slice (some ad255) t244.length co6) t244) ∧ Aside0 (Kd.R (Kd.int .i64) 3 w' w.heap.size (fun k_ => some k_ ≠ (u8 : Value).ownBlock) (.slice Ao8 t247.length co8) t247) ∧ Aside0 (w'.heap[gb251]? = some (.cells #[(.slice (some ad255) t244.length co6), (.slice Ao8 t247.length co8)] 32 (0, 0))) ∧ Aside0 (Kd.C (Kd.int .i64) w' A255_0 (rd_L3 t244 x23_1).length (rd_L3 t244 x23_1)) ∧ Aside0 (Below w.heap.size w w'))
           case atStart => exact ⟨(0), (by first | rfl | (simp; done) | (simp [*]; done)), H', ⟨Nat.le_refl _⟩, ⟨(FR HO_8.out)⟩, ⟨(FS HO_21.out)⟩, ⟨(FS HO_252000.out)⟩, ⟨(FR HO_252001.out)⟩, ⟨(FK BK251.out)⟩, ⟨FC HR255_0.out⟩, ⟨by repeat (first | (with_reducible first | exact HB.out | apply below_alloc | apply pw_below_drewN | apply below_drew1 | refine below_set ?_ GE251.out) | exact HB.out)⟩⟩
           case round =>
             clear H'
             (try clear c1); (try clear c2); (try clear p2); (try clear q2); (try clear hx2); (try clear c6); (try clear c12); (try clear c12b0); (try clear c13); (try clear c13b0); (try clear c14); (try clear c14b0); (try clear hcz11_0); (try clear hcz11_1); (try clear hcz7_0); (try clear hcz7_1); (try clear hfz11_0); (try clear hfz11_1); (try clear hfz7_0); (try clear hfz7_1); (try clear hx255_0); (try clear p255); (try clear q255)
             obtain ⟨x29_2, rfl, HA, HK2, HO_8, HO_21, HO_252000, HO_252001, BK251, HR255_0, HB⟩ := hrel
             cases gk with
             | zero => exact absurd HA.out (by simp [spec_ShapeOf.l1])
             | succ k2 =>
               have H := HA.out
               clear HA
               simp only [spec_ShapeOf.l1] at H
               by_cases c15 : x29_2 < ((rd_L3 t244 x23_1).length : Int)
               · rw [if_pos c15] at H
                 have c15b0 : decide (x29_2 < ((rd_L3 t244 x23_1).length : Int)) = true := decide_eq_true c15
                 clear c15
                 by_cases c16 : 0 ≤ x29_2
                 · rw [if_pos c16] at H
                   have c16b0 : decide (0 ≤ x29_2) = true := decide_eq_true c16
                   clear c16
                   by_cases c17 : x29_2 < ((rd_L3 t244 x23_1).length : Int)
                   · rw [if_pos c17] at H
                     have c17b0 : decide (x29_2 < ((rd_L3 t244 x23_1).length : Int)) = true := decide_eq_true c17
                     clear c17
                     by_cases c18 : 0 < ((rd_L3 t244 x23_1).length : Int)
                     · rw [if_pos c18] at H
                       have c18b0 : decide (0 < ((rd_L3 t244 x23_1).length : Int)) = true := decide_eq_true c18
                       have c18b1 : decide (0 < (rd_L3 t244 x23_1).length) = true := decide_eq_true (by omega)
                       clear c18
                       by_cases c19 : (rd (rd_L3 t244 x23_1) x29_2) = (rd (rd_L3 t244 x23_1) 0)
                       · rw [if_pos c19] at H
                         have c19b0 : ((rd (rd_L3 t244 x23_1) x29_2) == (rd (rd_L3 t244 x23_1) 0)) = true := beq_iff_eq.mpr c19
                         have c19b1 : ((rd (rd_L3 t244 x23_1) x29_2) != (rd (rd_L3 t244 x23_1) 0)) = false := bne_eq_false_iff_eq.mpr c19
                         clear c19
                         have H' := Aside0.mk H
                         clear H
                         have p256 : 0 ≤ (x29_2 : Int) := of_decide_eq_true (by assumption)
                         have q256 : x29_2 < ((rd_L3 t244 x23_1).length : Int) := of_decide_eq_true (by assumption)
                         obtain ⟨ad256, e256, hx256_0⟩ := Kd.at_int HR255_0.out x29_2 p256 q256
                         cases e256
                         (try replace hx256_0 := (HB.out.cell (World.block_lt_of_cell? w _ hx256_0)).trans hx256_0)
                         replace p256 := eq_true p256
                         replace q256 := eq_true q256
                         have p257 : 0 ≤ (0 : Int) := (by omega)
                         have q257 : 0 < ((rd_L3 t244 x23_1).length : Int) := of_decide_eq_true (by assumption)
                         obtain ⟨ad257, e257, hx257_0⟩ := Kd.at_int HR255_0.out 0 p257 q257
                         obtain rfl : ad256 = ad257 := (by injection e257)
                         have qi257 : (0 < (rd_L3 t244 x23_1).length) = True := eq_true (by omega)
                         (try rw [show ((0 : Int)).toNat = 0 from rfl] at hx257_0)
                         (try rw [Addr.add_zero'] at hx257_0)
                         (try replace hx257_0 := (HB.out.cell (World.block_lt_of_cell? w _ hx257_0)).trans hx257_0)
                         replace p257 := eq_true p257
                         replace q257 := eq_true q257
                         go_wp2
                         go_roundg k2
                         case measure => have := HK1.out; have := HK2.out; omega
                         case rel => exact ⟨(wrap64 (x29_2 + 1)), (by first | rfl | (simp; done) | (simp [*]; done)), H', ⟨by have := HK1.out; have := HK2.out; omega⟩, ⟨(FR HO_8.out)⟩, ⟨(FS HO_21.out)⟩, ⟨(FS HO_252000.out)⟩, ⟨(FR HO_252001.out)⟩, ⟨(FK BK251.out)⟩, ⟨FC HR255_0.out⟩, ⟨by repeat (first | (with_reducible first | exact HB.out | apply below_alloc | apply pw_below_drewN | apply below_drew1 | refine below_set ?_ GE251.out) | exact HB.out)⟩⟩
                       · rw [if_neg c19] at H
                         have c19b0 : ((rd (rd_L3 t244 x23_1) x29_2) == (rd (rd_L3 t244 x23_1) 0)) = false := beq_eq_false_iff_ne.mpr c19
                         have c19b1 : ((rd (rd_L3 t244 x23_1) x29_2) != (rd (rd_L3 t244 x23_1) 0)) = true := bne_iff_ne.mpr c19
                         obtain ⟨y258, hy258⟩ : ∃ y_ : List Int, y_ = (([] : List Int)) := ⟨_, rfl⟩
                         replace H : (some (y258, false)) = some (r1, r2) := by first | (rw [hy258]; with_reducible exact H) | (have H2_ := (Option.bind_some _ _).symm.trans H; rw [hy258]; with_reducible exact H2_) | (have H2_ := (Option.bind_some _ _).symm.trans H; with_reducible exact H2_) | with_reducible exact H | (rw [hy258]; exact H) | exact H
                         have Ny258 := Aside0.mk hy258
                         clear hy258
                         simp only [Option.some.injEq, Prod.mk.injEq] at H
                         obtain ⟨rfl, rfl⟩ := H
                         have p256 : 0 ≤ (x29_2 : Int) := of_decide_eq_true (by assumption)
                         have q256 : x29_2 < ((rd_L3 t244 x23_1).length : Int) := of_decide_eq_true (by assumption)
                         obtain ⟨ad256, e256, hx256_0⟩ := Kd.at_int HR255_0.out x29_2 p256 q256
                         cases e256
                         (try replace hx256_0 := (HB.out.cell (World.block_lt_of_cell? w _ hx256_0)).trans hx256_0)
                         replace p256 := eq_true p256
                         replace q256 := eq_true q256
                         have p257 : 0 ≤ (0 : Int) := (by omega)
                         have q257 : 0 < ((rd_L3 t244 x23_1).length : Int) := of_decide_eq_true (by assumption)
                         obtain ⟨ad257, e257, hx257_0⟩ := Kd.at_int HR255_0.out 0 p257 q257
                         obtain rfl : ad256 = ad257 := (by injection e257)
                         have qi257 : (0 < (rd_L3 t244 x23_1).length) = True := eq_true (by omega)
                         (try rw [show ((0 : Int)).toNat = 0 from rfl] at hx257_0)
                         (try rw [Addr.add_zero'] at hx257_0)
                         (try replace hx257_0 := (HB.out.cell (World.block_lt_of_cell? w _ hx257_0)).trans hx257_0)
                         replace p257 := eq_true p257
                         replace q257 := eq_true q257
                         go_wp2_with (first | ((with_reducible refine gate_dst (N := 38) rfl ?_); refine Kd.R_lit (Kd.int .i64) _ 3 ?hg (N := 38) ?hd (xs := ([] : List Int)) (inner := []) (ok := fun _ => True) (okp := fun _ => True) ?hr ?hp (fun _ hk => hk) trivial (Below.refl _ _) (Nat.le_refl _) (by simp) ?_; (case hd => rfl); (case hg => rfl); (case hr => first | (go_simp; done) | (go_simp; rfl)); (case hp => exact (Reps.none _ _)); intro v259 w20 ho21 hb hg_ hnew_; clear hg_ hnew_; (first | rw [← Ny258.out] at ho21 | (simp only [Int.reduceToNat] at ho21; rw [← Ny258.out] at ho21)); have n0_ := Aside0.mk (Kd.R_elder' (FR HO_8.out) (Kd.R_base ho21) hb); have n1_ := Aside0.mk (Kd.S_elder' (FS HO_21.out) (Kd.R_base ho21) hb); have n2_ := Aside0.mk (Kd.S_elder' (FS HO_252000.out) (Kd.R_base ho21) hb); have n3_ := Aside0.mk (Kd.R_elder' (FR HO_252001.out) (Kd.R_base ho21) hb); have n4_ := Aside0.mk (Kd.R_lower (Kd.R_new' (Kd.R_new' ho21 (Kd.R_lt (FR HO_8.out))) (Kd.R_lt (FR HO_252001.out))) (below_size (by repeat (first | (with_reducible first | exact HB.out | apply below_alloc | apply pw_below_drewN | apply below_drew1 | refine below_set ?_ GE251.out) | exact HB.out)))); have n5_ := Aside0.mk (blk_below (g := gb251) (o := .cells #[.slice (some ad255) t244.length co6, .slice Ao8 t247.length co8] 32 (0, 0)) (FK BK251.out) hb); have n6_ := Aside0.mk (Kd.C_below (FC HR255_0.out) hb); have n7_ := Aside0.mk (below_step (by repeat (first | (with_reducible first | exact HB.out | apply below_alloc | apply pw_below_drewN | apply below_drew1 | refine below_set ?_ GE251.out) | exact HB.out)) hb); clear HO_8; clear HO_21; clear HO_252000; clear HO_252001; clear BK251; clear HR255_0; clear HB; have HO_8 := n0_; have HO_21 := n1_; have HO_252000 := n2_; have HO_252001 := n3_; have HO260 := n4_; have BK251 := n5_; have HR255_0 := n6_; have HB := n7_; clear n0_ n1_ n2_ n3_ n4_ n5_ n6_ n7_; clear hb ho21))
                         go_ret2
                         exact ⟨_, by first | rfl | (simp [errW_none, errW_some] <;> rfl) | (simp [*, errW_none, errW_some] <;> rfl), (FR (Kd.R_mono HO260.out (fun _ hk => trivial))), by repeat (first | (with_reducible first | exact HB.out | apply below_alloc | apply pw_below_drewN | apply below_drew1 | refine below_set ?_ GE251.out) | exact HB.out)⟩
                     · rw [if_neg c18] at H
                       exact absurd H (by simp)
                   · rw [if_neg c17] at H
                     exact absurd H (by simp)
                 · rw [if_neg c16] at H
                   exact absurd H (by simp)
               · rw [if_neg c15] at H
                 have c15b0 : decide (x29_2 < ((rd_L3 t244 x23_1).length : Int)) = false := decide_eq_false c15
                 clear c15
                 by_cases c22 : ((rd_L3 t244 x23_1).length : Int) = 0
                 · rw [if_pos c22] at H
                   have c22b0 : (((rd_L3 t244 x23_1).length : Int) == 0) = true := beq_iff_eq.mpr c22
                   have c22b1 : (((rd_L3 t244 x23_1).length : Int) != 0) = false := bne_eq_false_iff_eq.mpr c22
                   clear c22
                   by_cases c23 : x8_1.length < 17592186044416
                   · rw [if_pos c23] at H
                     have LMc23 := Aside0.mk c23
                     clear c23
                     obtain ⟨y261, hy261⟩ : ∃ y_ : List Int, y_ = (x8_1 ++ [0]) := ⟨_, rfl⟩
                     replace H : (spec_ShapeOf.l0 k2 t250 y261 t244 (t244.length : Int) (wrap64 (x23_1 + 1))) = some (r1, r2) := by first | (rw [hy261]; with_reducible exact H) | (have H2_ := (Option.bind_some _ _).symm.trans H; rw [hy261]; with_reducible exact H2_) | (have H2_ := (Option.bind_some _ _).symm.trans H; with_reducible exact H2_) | with_reducible exact H | (rw [hy261]; exact H) | exact H
                     have Ny261 := Aside0.mk hy261
                     clear hy261
                     have H' := Aside0.mk H
                     clear H
                     go_wp2_with (first | ((with_reducible refine gate_builtin (b := .append) (xs := #[.tmp 43, .tmp 44]) rfl ?_); at_builtin; refine Kd.R_append (Kd.int .i64) (w0 := w) w.heap.size rfl (.tmp 43) (.tmp 44) 22 3 (.int .i64 0) 8 rfl Tryd.underlying22 info3 rfl (by decide) (by omega) u8 x8_1 0 [.int .i64 0] (fun k_ => some k_ ≠ (.slice Ao8 t247.length co8 : Value).ownBlock) (fun _ => False) rfl rfl ?aP (fun _ hk => hk.elim) ?aF ?aO ?aB ?aS ?aL ?_; (case aP => exact rfl); (case aB => exact (by repeat (first | (with_reducible first | exact HB.out | apply below_alloc | apply pw_below_drewN | apply below_drew1 | refine below_set ?_ GE251.out) | exact HB.out))); (case aF => exact (fun k_ hk => Kd.fresh' (Kd.R_lt (FR HO_252001.out)) k_ hk)); (case aO => exact (FR HO_8.out)); (case aS => exact (below_size (by repeat (first | (with_reducible first | exact HB.out | apply below_alloc | apply pw_below_drewN | apply below_drew1 | refine below_set ?_ GE251.out) | exact HB.out)))); (case aL => have := LMc23.out; omega); intro v262 w24 ho hb hg hat; rw [← Ny261.out] at ho; have n0_ := Aside0.mk (Kd.S_after (ok := (fun k_ => some k_ ≠ (.slice Ao8 t247.length co8 : Value).ownBlock)) (FS (Kd.S_mono HO_21.out (fun _ hk => ⟨hk.2, hk.1⟩))) hg hat); have n1_ := Aside0.mk (Kd.S_after (ok := (fun k_ => some k_ ≠ (.slice Ao8 t247.length co8 : Value).ownBlock)) (FS (Kd.S_mono HO_252000.out (fun _ hk => ⟨hk.2, hk.1⟩))) hg hat); have n2_ := Aside0.mk (Kd.R_after (ok := (fun _ => True)) (FR (Kd.R_mono HO_252001.out (fun _ hk => ⟨trivial, hk⟩))) hg hat); have n3_ := Aside0.mk (blk_grown (g := gb251) (o := .cells #[.slice (some ad255) t244.length co6, .slice Ao8 t247.length co8] 32 (0, 0)) (FK BK251.out) hg (Kd.R_ne HO_8.out BK251.out (by decide))); have n4_ := Aside0.mk (hb); have n5_ := Aside0.mk (ho); clear HO_21; clear HO_252000; clear HO_252001; clear BK251; clear HB; clear HO_8; have HO_21 := n0_; have HO_252000 := n1_; have HO_252001 := n2_; have BK251 := n3_; have HB := n4_; have HO263 := n5_; clear n0_ n1_ n2_ n3_ n4_ n5_; clear ho hb hg hat))
                     go_roundg k2
                     case measure => have := HK1.out; have := HK2.out; omega
                     case rel => exact ⟨(y261), (wrap64 (x23_1 + 1)), (by first | rfl | (simp; done) | (simp [*]; done)), H', ⟨by have := HK1.out; have := HK2.out; omega⟩, ⟨(FR HO263.out)⟩, ⟨(FS (Kd.S_mono HO_21.out (fun _ hk => ⟨hk.2, hk.1⟩)))⟩, ⟨(FS (Kd.S_mono HO_252000.out (fun _ hk => ⟨hk.2, hk.1⟩)))⟩, ⟨(FR (Kd.R_mono HO_252001.out (fun _ hk => hk.2)))⟩, ⟨(FK BK251.out)⟩, ⟨by repeat (first | (with_reducible first | exact HB.out | apply below_alloc | apply pw_below_drewN | apply below_drew1 | refine below_set ?_ GE251.out) | exact HB.out)⟩⟩
                   · rw [if_neg c23] at H
                     exact absurd H (by simp)
                 · rw [if_neg c22] at H
                   have c22b0 : (((rd_L3 t244 x23_1).length : Int) == 0) = false := beq_eq_false_iff_ne.mpr c22
                   have c22b1 : (((rd_L3 t244 x23_1).length : Int) != 0) = true := bne_iff_ne.mpr c22
                   have c22b2 : ¬ ((rd_L3 t244 x23_1) = []) := fun h_ => c22 (by rw [h_]; rfl)
                   by_cases c25 : 0 < ((rd_L3 t244 x23_1).length : Int)
                   · rw [if_pos c25] at H
                     have c25b0 : decide (0 < ((rd_L3 t244 x23_1).length : Int)) = true := decide_eq_true c25
                     have c25b1 : decide (0 < (rd_L3 t244 x23_1).length) = true := decide_eq_true (by omega)
                     clear c25
                     by_cases c26 : x8_1.length < 17592186044416
                     · rw [if_pos c26] at H
                       have LMc26 := Aside0.mk c26
                       clear c26
                       obtain ⟨y265, hy265⟩ : ∃ y_ : List Int, y_ = (x8_1 ++ [rd (rd_L3 t244 x23_1) 0]) := ⟨_, rfl⟩
                       replace H : (spec_ShapeOf.l0 k2 t250 y265 t244 (t244.length : Int) (wrap64 (x23_1 + 1))) = some (r1, r2) := by first | (rw [hy265]; with_reducible exact H) | (have H2_ := (Option.bind_some _ _).symm.trans H; rw [hy265]; with_reducible exact H2_) | (have H2_ := (Option.bind_some _ _).symm.trans H; with_reducible exact H2_) | with_reducible exact H | (rw [hy265]; exact H) | exact H
                       have Ny265 := Aside0.mk hy265
                       clear hy265
                       have H' := Aside0.mk H
                       clear H
                       have p264 : 0 ≤ (0 : Int) := (by omega)
                       have q264 : 0 < ((rd_L3 t244 x23_1).length : Int) := of_decide_eq_true (by assumption)
                       obtain ⟨ad264, e264, hx264_0⟩ := Kd.at_int HR255_0.out 0 p264 q264
                       cases e264
                       have qi264 : (0 < (rd_L3 t244 x23_1).length) = True := eq_true (by omega)
                       (try rw [show ((0 : Int)).toNat = 0 from rfl] at hx264_0)
                       (try rw [Addr.add_zero'] at hx264_0)
                       (try replace hx264_0 := (HB.out.cell (World.block_lt_of_cell? w _ hx264_0)).trans hx264_0)
                       replace p264 := eq_true p264
                       replace q264 := eq_true q264
                       go_wp2_with (first | ((with_reducible refine gate_builtin (b := .append) (xs := #[.tmp 46, .tmp 50]) rfl ?_); at_builtin; refine Kd.R_append (Kd.int .i64) (w0 := w) w.heap.size rfl (.tmp 46) (.tmp 50) 22 3 (.int .i64 0) 8 rfl Tryd.underlying22 info3 rfl (by decide) (by omega) u8 x8_1 (rd (rd_L3 t244 x23_1) 0) [.int .i64 (rd (rd_L3 t244 x23_1) 0)] (fun k_ => some k_ ≠ (.slice Ao8 t247.length co8 : Value).ownBlock) (fun _ => False) rfl rfl ?aP (fun _ hk => hk.elim) ?aF ?aO ?aB ?aS ?aL ?_; (case aP => exact rfl); (case aB => exact (by repeat (first | (with_reducible first | exact HB.out | apply below_alloc | apply pw_below_drewN | apply below_drew1 | refine below_set ?_ GE251.out) | exact HB.out))); (case aF => exact (fun k_ hk => Kd.fresh' (Kd.R_lt (FR HO_252001.out)) k_ hk)); (case aO => exact (FR HO_8.out)); (case aS => exact (below_size (by repeat (first | (with_reducible first | exact HB.out | apply below_alloc | apply pw_below_drewN | apply below_drew1 | refine below_set ?_ GE251.out) | exact HB.out)))); (case aL => have := LMc26.out; omega); intro v266 w27 ho hb hg hat; rw [← Ny265.out] at ho; have n0_ := Aside0.mk (Kd.S_after (ok := (fun k_ => some k_ ≠ (.slice Ao8 t247.length co8 : Value).ownBlock)) (FS (Kd.S_mono HO_21.out (fun _ hk => ⟨hk.2, hk.1⟩))) hg hat); have n1_ := Aside0.mk (Kd.S_after (ok := (fun k_ => some k_ ≠ (.slice Ao8 t247.length co8 : Value).ownBlock)) (FS (Kd.S_mono HO_252000.out (fun _ hk => ⟨hk.2, hk.1⟩))) hg hat); have n2_ := Aside0.mk (Kd.R_after (ok := (fun _ => True)) (FR (Kd.R_mono HO_252001.out (fun _ hk => ⟨trivial, hk⟩))) hg hat); have n3_ := Aside0.mk (blk_grown (g := gb251) (o := .cells #[.slice (some ad255) t244.length co6, .slice Ao8 t247.length co8] 32 (0, 0)) (FK BK251.out) hg (Kd.R_ne HO_8.out BK251.out (by decide))); have n4_ := Aside0.mk (hb); have n5_ := Aside0.mk (ho); clear HO_21; clear HO_252000; clear HO_252001; clear BK251; clear HB; clear HO_8; have HO_21 := n0_; have HO_252000 := n1_; have HO_252001 := n2_; have BK251 := n3_; have HB := n4_; have HO267 := n5_; clear n0_ n1_ n2_ n3_ n4_ n5_; clear ho hb hg hat))
                       go_roundg k2
                       case measure => have := HK1.out; have := HK2.out; omega
                       case rel => exact ⟨(y265), (wrap64 (x23_1 + 1)), (by first | rfl | (simp; done) | (simp [*]; done)), H', ⟨by have := HK1.out; have := HK2.out; omega⟩, ⟨(FR HO267.out)⟩, ⟨(FS (Kd.S_mono HO_21.out (fun _ hk => ⟨hk.2, hk.1⟩)))⟩, ⟨(FS (Kd.S_mono HO_252000.out (fun _ hk => ⟨hk.2, hk.1⟩)))⟩, ⟨(FR (Kd.R_mono HO_252001.out (fun _ hk => hk.2)))⟩, ⟨(FK BK251.out)⟩, ⟨by repeat (first | (with_reducible first | exact HB.out | apply below_alloc | apply pw_below_drewN | apply below_drew1 | refine below_set ?_ GE251.out) | exact HB.out)⟩⟩
                     · rw [if_neg c26] at H
                       exact absurd H (by simp)
                   · rw [if_neg c25] at H
                     exact absurd H (by simp)
         · rw [if_neg c14] at H
           exact absurd H (by simp)
       · rw [if_neg c13] at H
         exact absurd H (by simp)
     · rw [if_neg c12] at H
       have c12b0 : decide (x23_1 < (t244.length : Int)) = false := decide_eq_false c12
       clear c12
       simp only [Option.some.injEq, Prod.mk.injEq] at H
       obtain ⟨rfl, rfl⟩ := H
       go_wp2
       go_ret2
       exact ⟨_, by first | rfl | (simp [errW_none, errW_some] <;> rfl) | (simp [*, errW_none, errW_some] <;> rfl), (FR (Kd.R_mono HO_8.out (fun _ hk => trivial))), by repeat (first | (with_reducible first | exact HB.out | apply below_alloc | apply pw_below_drewN | apply below_drew1 | refine below_set ?_ GE251.out) | exact HB.out)⟩

/-! ### spec_l11Rows: function 102 -/
def spec_l11Rows.l0 : Nat → List (List Int) → List Int → List (S95) → Int → Int → Option ((List (List Int)) × Int × Bool)
 | 0, _, _, _, _, _ => none
 | k + 1, x5, x6, x27, x28, x29 => if x29 < x28 then (if 0 ≤ x29 then (if x29 < (x27.length : Int) then ((spec_l1Numbers.f k ((rd_T95 x27 x29).f0) ((rd_T95 x27 x29).f1) 1).bind fun t283 => (if x5.length < 5864062014805 then (spec_l11Rows.l0 k (x5 ++ [t283]) x6 x27 x28 (wrap64 (x29 + 1))) else (none))) else (none)) else (none)) else (if 1 < (x6.length : Int) then (some (x5, rd x6 1, true)) else (none))
def spec_l11Rows.f (k : Nat) (a0 : ByteArray) : Option ((List (List Int)) × Int × Bool) := (some (([] : List (List Int)) : List (List Int))).bind fun y268 => ((spec_ShapeOf.f k a0 2).bind fun bt271 => (if bt271.2 = true then ((spec_l1Read.f k a0 2).bind fun bt275 => (spec_l11Rows.l0 k y268 bt271.1 bt275.2.1 (bt275.2.1.length : Int) 0)) else (some (y268, 0, false))))
theorem spec_l11Rows.mono_l : ∀ k, (∀ y0 y1 y2 y3 y4, LeO (spec_l11Rows.l0 k y0 y1 y2 y3 y4) (spec_l11Rows.l0 (k + 1) y0 y1 y2 y3 y4))
 | 0 => fun _ _ _ _ _ r h => by simp [spec_l11Rows.l0] at h
 | k + 1 => by
   have ih0 := spec_l11Rows.mono_l k
   · intro y0 y1 y2 y3 y4
     unfold spec_l11Rows.l0
     repeat' first
     | (with_reducible exact ih0 _ _ _ _ _)
     | (with_reducible exact spec_ShapeOf.mono _ _ _)
     | (with_reducible exact spec_l1Numbers.mono _ _ _ _)
     | (with_reducible exact spec_l1Read.mono _ _ _)
     | (with_reducible exact LeO.refl _)
     | (with_reducible exact LeO.none _)
     | (with_reducible refine LeO.ite ?_ ?_)
     | (with_reducible refine LeO.bind ?_ (fun _ => ?_))
     | exact ih0 _ _ _ _ _
     | exact spec_ShapeOf.mono _ _ _
     | exact spec_l1Numbers.mono _ _ _ _
     | exact spec_l1Read.mono _ _ _
     | exact LeO.none _
     | refine LeO.ite ?_ ?_
     | refine LeO.bind ?_ (fun _ => ?_)
theorem spec_l11Rows.mono : ∀ a0 k, LeO (spec_l11Rows.f k a0) (spec_l11Rows.f (k + 1) a0) := by
 intro a0 k
 have ih0 := spec_l11Rows.mono_l k
 unfold spec_l11Rows.f
 repeat' first
     | (with_reducible exact ih0 _ _ _ _ _)
     | (with_reducible exact spec_ShapeOf.mono _ _ _)
     | (with_reducible exact spec_l1Numbers.mono _ _ _ _)
     | (with_reducible exact spec_l1Read.mono _ _ _)
     | (with_reducible exact LeO.refl _)
     | (with_reducible exact LeO.none _)
     | (with_reducible refine LeO.ite ?_ ?_)
     | (with_reducible refine LeO.bind ?_ (fun _ => ?_))
     | exact ih0 _ _ _ _ _
     | exact spec_ShapeOf.mono _ _ _
     | exact spec_l1Numbers.mono _ _ _ _
     | exact spec_l1Read.mono _ _ _
     | exact LeO.none _
     | refine LeO.ite ?_ ?_
     | refine LeO.bind ?_ (fun _ => ?_)
set_option maxHeartbeats 8000000 in
set_option maxRecDepth 100000 in
theorem spec_l11Rows.calls (k : Nat) (a0 : ByteArray) (r1 : List (List Int)) (r2 : Int) (r3 : Bool) (w : World) (h : spec_l11Rows.f k a0 = some (r1, r2, r3)) :
   Calls Tryd.prog 102 #[.string a0] w fun e w' => ∃ v0_ : Value, e = .returned (.tuple #[v0_, .int .i64 r2, .bool r3]) ∧ Kd.S (Kd.slice 3 (Kd.int .i64)) 22 w' w.heap.size (fun _ => True) v0_ r1 ∧ Below w.heap.size w w' := by
 have hu95 := Tryd.underlying95
 have HB := Aside0.mk (Below.refl w.heap.size w)
 have H : ((some (([] : List (List Int)) : List (List Int))).bind fun y268 => ((spec_ShapeOf.f k a0 2).bind fun bt271 => (if bt271.2 = true then ((spec_l1Read.f k a0 2).bind fun bt275 => (spec_l11Rows.l0 k y268 bt271.1 bt275.2.1 (bt275.2.1.length : Int) 0)) else (some (y268, 0, false))))) = some (r1, r2, r3) := h
 clear h
 obtain ⟨y268, hy268⟩ : ∃ y_ : List (List Int), y_ = (([] : List (List Int))) := ⟨_, rfl⟩
 replace H : ((spec_ShapeOf.f k a0 2).bind fun bt271 => (if bt271.2 = true then ((spec_l1Read.f k a0 2).bind fun bt275 => (spec_l11Rows.l0 k y268 bt271.1 bt275.2.1 (bt275.2.1.length : Int) 0)) else (some (y268, 0, false)))) = some (r1, r2, r3) := by first | (rw [hy268]; with_reducible exact H) | (have H2_ := (Option.bind_some _ _).symm.trans H; rw [hy268]; with_reducible exact H2_) | (have H2_ := (Option.bind_some _ _).symm.trans H; with_reducible exact H2_) | with_reducible exact H | (rw [hy268]; exact H) | exact H
 have Ny268 := Aside0.mk hy268
 clear hy268
 replace H := Option.bind_eq_some_iff.mp H
 obtain ⟨⟨t271, t272⟩, A20, H⟩ := H
 replace H : (if t272 = true then ((spec_l1Read.f k a0 2).bind fun bt275 => (spec_l11Rows.l0 k y268 t271 bt275.2.1 (bt275.2.1.length : Int) 0)) else (some (y268, 0, false))) = some (r1, r2, r3) := H
 have A2 := Aside0.mk A20
 clear A20
 by_cases c3 : t272 = true
 · subst c3
   have H1 : ((spec_l1Read.f k a0 2).bind fun bt275 => (spec_l11Rows.l0 k y268 t271 bt275.2.1 (bt275.2.1.length : Int) 0)) = some (r1, r2, r3) := by rw [if_pos rfl] at H; exact H
   clear H
   have H := H1
   clear H1
   replace H := Option.bind_eq_some_iff.mp H
   obtain ⟨⟨t275, t276, t279⟩, A40, H⟩ := H
   replace H : (spec_l11Rows.l0 k y268 t271 t276 (t276.length : Int) 0) = some (r1, r2, r3) := H
   have A4 := Aside0.mk A40
   clear A40
   have H' := Aside0.mk H
   clear H
   go_enter Tryd.func102, Tryd.ntmps102
   iterate 3 ((try go_wp2_with (first | ((with_reducible refine gate_dst (N := 12) rfl ?_); refine Kd.S_lit (Kd.slice 3 (Kd.int .i64)) _ 22 ?hg (N := 12) ?hd (xs := ([] : List (List Int))) (inner := []) (ok := fun _ => True) (okp := fun _ => True) ?hr ?hp (fun _ hk => hk) trivial (Below.refl _ _) (Nat.le_refl _) (by simp) ?_; (case hd => rfl); (case hg => rfl); (case hr => first | (go_simp; done) | (go_simp; rfl)); (case hp => exact (Reps.none _ _)); intro v269 w5 ho6 hb hg_ hnew_; clear hg_ hnew_; (first | rw [← Ny268.out] at ho6 | (simp only [Int.reduceToNat] at ho6; rw [← Ny268.out] at ho6)); have n0_ := Aside0.mk (Kd.S_lower ho6 (below_size (FB HB.out))); have n1_ := Aside0.mk (below_step (FB HB.out) hb); clear HB; have HO270 := n0_; have HB := n1_; clear n0_ n1_; clear hb ho6) | (go_at_call 138; (with_reducible refine (spec_ShapeOf.calls k a0 2 t271 true _ A2.out).mono ?_); rintro e w7 ⟨v273, rfl, ho0, hb⟩; have n0_ := Aside0.mk (Kd.S_elder' (FS HO270.out) (Kd.R_base ho0) hb); have n1_ := Aside0.mk (Kd.R_lower ho0 (below_size (FB HB.out))); have n2_ := Aside0.mk (below_step (FB HB.out) hb); clear HO270; clear HB; have HO270 := n0_; have HO274 := n1_; have HB := n2_; clear n0_ n1_ n2_; (try clear hb)) | (go_at_call 89; (with_reducible refine (spec_l1Read.calls k a0 2 t275 t276 t279 _ A4.out).mono ?_); rintro e w8 ⟨v277, rfl, ho0, hb⟩; have n0_ := Aside0.mk (Kd.S_below (FS HO270.out) hb); have n1_ := Aside0.mk (Kd.R_below (FR HO274.out) hb); have n2_ := Aside0.mk (Kd.R_lower ho0 (below_size (FB HB.out))); have n3_ := Aside0.mk (below_step (FB HB.out) hb); clear HO270; clear HO274; clear HB; have HO270 := n0_; have HO274 := n1_; have HO278 := n2_; have HB := n3_; clear n0_ n1_ n2_ n3_; (try clear hb)) | ((with_reducible refine gate_dst (N := 8) rfl ?_); refine box_event ?hg (N := 8) ?hd (cs := #[.int .i64 0, .slice none 0 0]) (t := 95) ?hr ?_; (case hd => rfl); (case hg => rfl); (case hr => first | (go_simp; done) | (go_simp; rfl)); intro gb280 hg w9 hbox hb; have n0_ := Aside0.mk (Kd.S_below (FS HO270.out) hb); have n1_ := Aside0.mk (Kd.R_below (FR HO274.out) hb); have n2_ := Aside0.mk (Kd.R_below (Kd.R_elderB (FR HO278.out) gb280 (Nat.le_of_eq hg.symm)) hb); have n3_ := Aside0.mk (below_step (FB HB.out) hb); have n4_ := Aside0.mk (hbox); have n5_ := Aside0.mk ((by rw [hg]; exact (below_size (FB HB.out)) : w.heap.size ≤ gb280)); have n6_ := Aside0.mk ((by rw [hg]; exact (below_size (FB HB.out)) : w.heap.size ≤ gb280)); clear HO270; clear HO274; clear HO278; clear HB; have HO270 := n0_; have HO274 := n1_; have HO278 := n2_; have HB := n3_; have BK280 := n4_; have GW280 := n5_; have GE280 := n6_; clear n0_ n1_ n2_ n3_ n4_ n5_ n6_; clear hb hbox hg; have hcz10_0 : w9.cell? ⟨gb280, 0, none⟩ = some (.int .i64 0) := (blk_cell BK280.out 0).trans rfl; have hcz10_1 : w9.cell? ⟨gb280, 1, none⟩ = some (.slice none 0 0) := (blk_cell BK280.out 1).trans rfl; have hfz10_0 := blk_frozen BK280.out 0; have hfz10_1 := blk_frozen BK280.out 1; obtain ⟨Ao11, co11, eo11⟩ := Kd.R_slice HO278.out; subst eo11))); (try go_quiet (first | ((with_reducible refine gate_dst (N := 12) rfl ?_); refine Kd.S_lit (Kd.slice 3 (Kd.int .i64)) _ 22 ?hg (N := 12) ?hd (xs := ([] : List (List Int))) (inner := []) (ok := fun _ => True) (okp := fun _ => True) ?hr ?hp (fun _ hk => hk) trivial (Below.refl _ _) (Nat.le_refl _) (by simp) ?_; (case hd => rfl); (case hg => rfl); (case hr => first | (go_simp; done) | (go_simp; rfl)); (case hp => exact (Reps.none _ _)); intro v269 w5 ho6 hb hg_ hnew_; clear hg_ hnew_; (first | rw [← Ny268.out] at ho6 | (simp only [Int.reduceToNat] at ho6; rw [← Ny268.out] at ho6)); have n0_ := Aside0.mk (Kd.S_lower ho6 (below_size (FB HB.out))); have n1_ := Aside0.mk (below_step (FB HB.out) hb); clear HB; have HO270 := n0_; have HB := n1_; clear n0_ n1_; clear hb ho6) | (go_at_call 138; (with_reducible refine (spec_ShapeOf.calls k a0 2 t271 true _ A2.out).mono ?_); rintro e w7 ⟨v273, rfl, ho0, hb⟩; have n0_ := Aside0.mk (Kd.S_elder' (FS HO270.out) (Kd.R_base ho0) hb); have n1_ := Aside0.mk (Kd.R_lower ho0 (below_size (FB HB.out))); have n2_ := Aside0.mk (below_step (FB HB.out) hb); clear HO270; clear HB; have HO270 := n0_; have HO274 := n1_; have HB := n2_; clear n0_ n1_ n2_; (try clear hb)) | (go_at_call 89; (with_reducible refine (spec_l1Read.calls k a0 2 t275 t276 t279 _ A4.out).mono ?_); rintro e w8 ⟨v277, rfl, ho0, hb⟩; have n0_ := Aside0.mk (Kd.S_below (FS HO270.out) hb); have n1_ := Aside0.mk (Kd.R_below (FR HO274.out) hb); have n2_ := Aside0.mk (Kd.R_lower ho0 (below_size (FB HB.out))); have n3_ := Aside0.mk (below_step (FB HB.out) hb); clear HO270; clear HO274; clear HB; have HO270 := n0_; have HO274 := n1_; have HO278 := n2_; have HB := n3_; clear n0_ n1_ n2_ n3_; (try clear hb)) | ((with_reducible refine gate_dst (N := 8) rfl ?_); refine box_event ?hg (N := 8) ?hd (cs := #[.int .i64 0, .slice none 0 0]) (t := 95) ?hr ?_; (case hd => rfl); (case hg => rfl); (case hr => first | (go_simp; done) | (go_simp; rfl)); intro gb280 hg w9 hbox hb; have n0_ := Aside0.mk (Kd.S_below (FS HO270.out) hb); have n1_ := Aside0.mk (Kd.R_below (FR HO274.out) hb); have n2_ := Aside0.mk (Kd.R_below (Kd.R_elderB (FR HO278.out) gb280 (Nat.le_of_eq hg.symm)) hb); have n3_ := Aside0.mk (below_step (FB HB.out) hb); have n4_ := Aside0.mk (hbox); have n5_ := Aside0.mk ((by rw [hg]; exact (below_size (FB HB.out)) : w.heap.size ≤ gb280)); have n6_ := Aside0.mk ((by rw [hg]; exact (below_size (FB HB.out)) : w.heap.size ≤ gb280)); clear HO270; clear HO274; clear HO278; clear HB; have HO270 := n0_; have HO274 := n1_; have HO278 := n2_; have HB := n3_; have BK280 := n4_; have GW280 := n5_; have GE280 := n6_; clear n0_ n1_ n2_ n3_ n4_ n5_ n6_; clear hb hbox hg; have hcz10_0 : w9.cell? ⟨gb280, 0, none⟩ = some (.int .i64 0) := (blk_cell BK280.out 0).trans rfl; have hcz10_1 : w9.cell? ⟨gb280, 1, none⟩ = some (.slice none 0 0) := (blk_cell BK280.out 1).trans rfl; have hfz10_0 := blk_frozen BK280.out 0; have hfz10_1 := blk_frozen BK280.out 1; obtain ⟨Ao11, co11, eo11⟩ := Kd.R_slice HO278.out; subst eo11))))
   go_loopg [5, 29] k (fun kq v5 v29 w' => ∃ (x5_1 : List (List Int)) (x29_1 : Int), v29 = .int .i64 x29_1 ∧ Aside0 (spec_l11Rows.l0 kq x5_1 t271 t276 (t276.length : Int) x29_1 = some (r1, r2, r3)) ∧ Aside0 (kq ≤ k) ∧ Aside0 (Kd.S (Kd.slice 3 (Kd.int .i64)) 22 w' w.heap.size (fun k_ => some k_ ≠ (v273 : Value).ownBlock) v5 x5_1) ∧ Aside0 (Kd.R (Kd.int .i64) 3 w' w.heap.size (fun _ => True) v273 t271) ∧ Aside0 (Kd.R k95 95 w' w.heap.size (fun k_ => k_ ≠ gb280) (.slice Ao11 t276.length co11) t276) ∧ Aside0 (Kd.R k95 95 w' w.heap.size (fun k_ => k_ ≠ gb280) (.slice Ao11 t276.length co11) t276) ∧ Aside0 (w'.heap[gb280]? = some (.cells #[.int .i64 t275, (.slice Ao11 t276.length co11)] 95 (0, 0))) ∧ Aside0 (Below w.heap.size w w'))
   case atStart => exact ⟨(y268), (0), (by first | rfl | (simp; done) | (simp [*]; done)), H', ⟨Nat.le_refl _⟩, ⟨(FS (Kd.S_mono (Kd.S_far (p := ⟨gb280, 1, none⟩) (Kd.S_far (p := ⟨gb280, 0, none⟩) (Kd.S_types HO270.out BK280.out (by decide)) (fun _ hk => hk.2) (.int .i64 t275)) (fun _ hk => hk.2) (.slice Ao11 t276.length co11)) (fun _ hk => hk.1.2)))⟩, ⟨(FR (Kd.R_mono (Kd.R_far (p := ⟨gb280, 1, none⟩) (Kd.R_far (p := ⟨gb280, 0, none⟩) (Kd.R_types HO274.out BK280.out (by decide)) (fun _ hk => hk.2) (.int .i64 t275)) (fun _ hk => hk.2) (.slice Ao11 t276.length co11)) (fun _ hk => trivial)))⟩, ⟨(FR (Kd.R_mono (Kd.R_far (p := ⟨gb280, 1, none⟩) (Kd.R_far (p := ⟨gb280, 0, none⟩) (Kd.R_mono HO278.out (fun k_ hk => (⟨hk, hk.2⟩ : _ ∧ k_ ≠ gb280))) (fun _ hk => hk.2) (.int .i64 t275)) (fun _ hk => hk.2) (.slice Ao11 t276.length co11)) (fun _ hk => hk.1.2)))⟩, ⟨(FR (Kd.R_mono (Kd.R_far (p := ⟨gb280, 1, none⟩) (Kd.R_far (p := ⟨gb280, 0, none⟩) (Kd.R_mono HO278.out (fun k_ hk => (⟨hk, hk.2⟩ : _ ∧ k_ ≠ gb280))) (fun _ hk => hk.2) (.int .i64 t275)) (fun _ hk => hk.2) (.slice Ao11 t276.length co11)) (fun _ hk => hk.1.2)))⟩, ⟨by (with_reducible repeat (first | refine blk_drewN ?_ _ | refine blk_drew ?_ | refine blk_alloc ?_ _)); refine blk_put (cs := #[.int .i64 t275, .slice none 0 0]) ?_ 1 _ rfl; (with_reducible repeat (first | refine blk_drewN ?_ _ | refine blk_drew ?_ | refine blk_alloc ?_ _)); refine blk_put (cs := #[.int .i64 0, .slice none 0 0]) ?_ 0 _ rfl; (with_reducible repeat (first | refine blk_drewN ?_ _ | refine blk_drew ?_ | refine blk_alloc ?_ _)); exact BK280.out⟩, ⟨by repeat (first | (with_reducible first | exact HB.out | apply below_alloc | apply pw_below_drewN | apply below_drew1 | refine below_set ?_ GE280.out) | exact HB.out)⟩⟩
   case round =>
     clear H'
     (try clear c1); (try clear p2); (try clear c3); (try clear c10); (try clear hcz10_0); (try clear hcz10_1); (try clear hfz10_0); (try clear hfz10_1)
     obtain ⟨x5_1, x29_1, rfl, HA, HK1, HO_5, HO_6, HO_27, HO_281001, BK280, HB⟩ := hrel
     cases gk with
     | zero => exact absurd HA.out (by simp [spec_l11Rows.l0])
     | succ k1 =>
       have H := HA.out
       clear HA
       simp only [spec_l11Rows.l0] at H
       by_cases c12 : x29_1 < (t276.length : Int)
       · rw [if_pos c12] at H
         have c12b0 : decide (x29_1 < (t276.length : Int)) = true := decide_eq_true c12
         clear c12
         by_cases c13 : 0 ≤ x29_1
         · rw [if_pos c13] at H
           have c13b0 : decide (0 ≤ x29_1) = true := decide_eq_true c13
           clear c13
           by_cases c14 : x29_1 < (t276.length : Int)
           · rw [if_pos c14] at H
             have c14b0 : decide (x29_1 < (t276.length : Int)) = true := decide_eq_true c14
             clear c14
             replace H := Option.bind_eq_some_iff.mp H
             obtain ⟨t283, A150, H⟩ := H
             replace H : (if x5_1.length < 5864062014805 then (spec_l11Rows.l0 k1 (x5_1 ++ [t283]) t271 t276 (t276.length : Int) (wrap64 (x29_1 + 1))) else (none)) = some (r1, r2, r3) := H
             have A15 := Aside0.mk A150
             clear A150
             by_cases c16 : x5_1.length < 5864062014805
             · rw [if_pos c16] at H
               have LMc16 := Aside0.mk c16
               clear c16
               obtain ⟨y286, hy286⟩ : ∃ y_ : List (List Int), y_ = (x5_1 ++ [t283]) := ⟨_, rfl⟩
               replace H : (spec_l11Rows.l0 k1 y286 t271 t276 (t276.length : Int) (wrap64 (x29_1 + 1))) = some (r1, r2, r3) := by first | (rw [hy286]; with_reducible exact H) | (have H2_ := (Option.bind_some _ _).symm.trans H; rw [hy286]; with_reducible exact H2_) | (have H2_ := (Option.bind_some _ _).symm.trans H; with_reducible exact H2_) | with_reducible exact H | (rw [hy286]; exact H) | exact H
               have Ny286 := Aside0.mk hy286
               clear hy286
               have H' := Aside0.mk H
               clear H
               have p281 : 0 ≤ (x29_1 : Int) := of_decide_eq_true (by assumption)
               have q281 : x29_1 < (t276.length : Int) := of_decide_eq_true (by assumption)
               obtain ⟨ad281, A281_1, c281_1, e281, hx281_0, hx281_1, hl281_1, hi281_1⟩ := at_T95 (Kd.R_reads' HO_27.out).2.2 x29_1 p281 q281
               cases e281
               obtain ⟨ce281, hce281, hMe281, hcc281⟩ := Kd.R_get HO_27.out z95 x29_1 p281 (by first | exact q281 | exact of_decide_eq_true (by assumption) | (have e_ := (Kd.R_reads' HO_27.out).1; omega))
               obtain ⟨ve281_1, rfl, ge281_1⟩ := k95_openM hMe281
               have hv281_1 := hcc281 1 _ rfl
               rw [add_field _ _ 1 (by omega)] at hv281_1
               replace hv281_1 := Option.some.inj (hv281_1.symm.trans hx281_1)
               rw [hv281_1] at ge281_1
               have HL281_1 := Aside0.mk (show Kd.R k95 95 _ _ _ _ ((rd_T95 t276 x29_1).f1) from ge281_1)
               clear hv281_1 ge281_1
               clear hcc281 hce281
               have HR281_1 := Aside0.mk hi281_1
               have HC281_1 := Aside0.mk hl281_1
               clear hi281_1 hl281_1
               replace p281 := eq_true p281
               replace q281 := eq_true q281
               iterate 3 ((try go_wp2_with (first | ((with_reducible refine gate_dst (N := 11) rfl ?_); refine box_event ?hg (N := 11) ?hd (cs := #[.int .i64 0, .slice none 0 0]) (t := 95) ?hr ?_; (case hd => rfl); (case hg => rfl); (case hr => first | (go_simp; done) | (go_simp; rfl)); intro gb282 hg w17 hbox hb; have n0_ := Aside0.mk (Kd.S_below (FS HO_5.out) hb); have n1_ := Aside0.mk (Kd.R_below (FR HO_6.out) hb); have n2_ := Aside0.mk (Kd.R_below (Kd.R_elderB (FR HO_27.out) gb282 (Nat.le_of_eq hg.symm)) hb); have n3_ := Aside0.mk (Kd.R_below (Kd.R_elderB (FR HO_281001.out) gb282 (Nat.le_of_eq hg.symm)) hb); have n4_ := Aside0.mk (Kd.R_below (Kd.R_elderB (FR HL281_1.out) gb282 (Nat.le_of_eq hg.symm)) hb); have n5_ := Aside0.mk (blk_below (g := gb280) (o := .cells #[.int .i64 t275, .slice (some ad281) t276.length co11] 95 (0, 0)) (FK BK280.out) hb); have n6_ := Aside0.mk (Kd.C_below (FC HR281_1.out) hb); have n7_ := Aside0.mk (below_step (by repeat (first | (with_reducible first | exact HB.out | apply below_alloc | apply pw_below_drewN | apply below_drew1 | refine below_set ?_ GE280.out) | exact HB.out)) hb); have n8_ := Aside0.mk (hbox); have n9_ := Aside0.mk ((by rw [hg]; exact (below_size (by repeat (first | (with_reducible first | exact HB.out | apply below_alloc | apply pw_below_drewN | apply below_drew1 | refine below_set ?_ GE280.out) | exact HB.out))) : w.heap.size ≤ gb282)); have n10_ := Aside0.mk ((by rw [hg]; exact (below_size (by repeat (first | (with_reducible first | exact HB.out | apply below_alloc | apply pw_below_drewN | apply below_drew1 | refine below_set ?_ GE280.out) | exact HB.out))) : w.heap.size ≤ gb282)); have n11_ := Aside0.mk ((by rw [hg]; exact Nat.ne_of_lt (blk_lt (g := gb280) (o := .cells #[.int .i64 t275, .slice (some ad281) t276.length co11] 95 (0, 0)) (FK BK280.out)) : gb280 ≠ gb282)); have n12_ := Aside0.mk ((by rw [hg]; exact Nat.ne_of_gt (blk_lt (g := gb280) (o := .cells #[.int .i64 t275, .slice (some ad281) t276.length co11] 95 (0, 0)) (FK BK280.out)) : gb282 ≠ gb280)); clear HO_5; clear HO_6; clear HO_27; clear HO_281001; clear HL281_1; clear BK280; clear HR281_1; clear HB; have HO_5 := n0_; have HO_6 := n1_; have HO_27 := n2_; have HO_281001 := n3_; have HL281_1 := n4_; have BK280 := n5_; have HR281_1 := n6_; have HB := n7_; have BK282 := n8_; have GW282 := n9_; have GE282 := n10_; have NB280_282 := n11_; have NB282_280 := n12_; clear n0_ n1_ n2_ n3_ n4_ n5_ n6_ n7_ n8_ n9_ n10_ n11_ n12_; clear hb hbox hg; have hnb18 := NB282_280.out; have hnc18 := NB280_282.out; have hcz19_0 : w17.cell? ⟨gb282, 0, none⟩ = some (.int .i64 0) := (blk_cell BK282.out 0).trans rfl; have hcz19_1 : w17.cell? ⟨gb282, 1, none⟩ = some (.slice none 0 0) := (blk_cell BK282.out 1).trans rfl; have hfz19_0 := blk_frozen BK282.out 0; have hfz19_1 := blk_frozen BK282.out 1) | (go_at_call 115; (with_reducible refine (spec_l1Numbers.calls k1 ((rd_T95 t276 x29_1).f0) _ _ ((rd_T95 t276 x29_1).f1) 1 t283 _ ?side1 ?side2 A15.out).mono ?_); (case side1 => repeat (first | exact ((Kd.R_reads' (FR ((Kd.R_mono (Kd.R_far (p := ⟨gb282, 1, none⟩) (Kd.R_far (p := ⟨gb282, 0, none⟩) (Kd.R_mono HL281_1.out (fun k_ hk => (⟨hk, hk.2⟩ : _ ∧ k_ ≠ gb282))) (fun _ hk => hk.2) (.int .i64 ((rd_T95 t276 x29_1).f0))) (fun _ hk => hk.2) (.slice A281_1 ((rd_T95 t276 x29_1).f1).length c281_1)) (fun _ h_ => h_.1))))).2.2) | (with_reducible refine Kd.C_alloc ?_ _) | (with_reducible refine Kd.C_drewN ?_ _) | (with_reducible refine Kd.C_drew ?_))); (case side2 => exact HC281_1.out); rintro e w20 ⟨v284, rfl, ho0, hb⟩; have n0_ := Aside0.mk (Kd.S_elder' (FS ((Kd.S_mono (Kd.S_far (p := ⟨gb282, 1, none⟩) (Kd.S_far (p := ⟨gb282, 0, none⟩) (Kd.S_types HO_5.out BK282.out (by decide)) (fun _ hk => hk.2) (.int .i64 ((rd_T95 t276 x29_1).f0))) (fun _ hk => hk.2) (.slice A281_1 ((rd_T95 t276 x29_1).f1).length c281_1)) (fun _ h_ => h_.1)))) (Kd.R_base ho0) hb); have n1_ := Aside0.mk (Kd.R_elder' (FR ((Kd.R_mono (Kd.R_far (p := ⟨gb282, 1, none⟩) (Kd.R_far (p := ⟨gb282, 0, none⟩) (Kd.R_types HO_6.out BK282.out (by decide)) (fun _ hk => hk.2) (.int .i64 ((rd_T95 t276 x29_1).f0))) (fun _ hk => hk.2) (.slice A281_1 ((rd_T95 t276 x29_1).f1).length c281_1)) (fun _ h_ => h_.1)))) (Kd.R_base ho0) hb); have n2_ := Aside0.mk (Kd.R_below (FR ((Kd.R_mono (Kd.R_far (p := ⟨gb282, 1, none⟩) (Kd.R_far (p := ⟨gb282, 0, none⟩) (Kd.R_mono HO_27.out (fun k_ hk => (⟨hk, hk.2⟩ : _ ∧ k_ ≠ gb282))) (fun _ hk => hk.2) (.int .i64 ((rd_T95 t276 x29_1).f0))) (fun _ hk => hk.2) (.slice A281_1 ((rd_T95 t276 x29_1).f1).length c281_1)) (fun _ h_ => h_.1)))) hb); have n3_ := Aside0.mk (Kd.R_below (FR ((Kd.R_mono (Kd.R_far (p := ⟨gb282, 1, none⟩) (Kd.R_far (p := ⟨gb282, 0, none⟩) (Kd.R_mono HO_281001.out (fun k_ hk => (⟨hk, hk.2⟩ : _ ∧ k_ ≠ gb282))) (fun _ hk => hk.2) (.int .i64 ((rd_T95 t276 x29_1).f0))) (fun _ hk => hk.2) (.slice A281_1 ((rd_T95 t276 x29_1).f1).length c281_1)) (fun _ h_ => h_.1)))) hb); have n4_ := Aside0.mk (Kd.R_below (FR ((Kd.R_mono (Kd.R_far (p := ⟨gb282, 1, none⟩) (Kd.R_far (p := ⟨gb282, 0, none⟩) (Kd.R_mono HL281_1.out (fun k_ hk => (⟨hk, hk.2⟩ : _ ∧ k_ ≠ gb282))) (fun _ hk => hk.2) (.int .i64 ((rd_T95 t276 x29_1).f0))) (fun _ hk => hk.2) (.slice A281_1 ((rd_T95 t276 x29_1).f1).length c281_1)) (fun _ h_ => h_.1)))) hb); have n5_ := Aside0.mk (Kd.R_lower (Kd.R_new' ho0 (Kd.R_lt (FR ((Kd.R_mono (Kd.R_far (p := ⟨gb282, 1, none⟩) (Kd.R_far (p := ⟨gb282, 0, none⟩) (Kd.R_types HO_6.out BK282.out (by decide)) (fun _ hk => hk.2) (.int .i64 ((rd_T95 t276 x29_1).f0))) (fun _ hk => hk.2) (.slice A281_1 ((rd_T95 t276 x29_1).f1).length c281_1)) (fun _ h_ => h_.1)))))) (below_size (by repeat (first | (with_reducible first | exact HB.out | apply below_alloc | apply pw_below_drewN | apply below_drew1 | refine below_set ?_ GE280.out | refine below_set ?_ GE282.out) | exact HB.out)))); have n6_ := Aside0.mk (blk_below (g := gb280) (o := .cells #[.int .i64 t275, .slice (some ad281) t276.length co11] 95 (0, 0)) (by (with_reducible repeat (first | refine blk_drewN ?_ _ | refine blk_drew ?_ | refine blk_alloc ?_ _)); refine blk_far ?_ NB280_282.out _; (with_reducible repeat (first | refine blk_drewN ?_ _ | refine blk_drew ?_ | refine blk_alloc ?_ _)); refine blk_far ?_ NB280_282.out _; (with_reducible repeat (first | refine blk_drewN ?_ _ | refine blk_drew ?_ | refine blk_alloc ?_ _)); exact BK280.out) hb); have n7_ := Aside0.mk (Kd.C_below ((Kd.R_reads' (FR ((Kd.R_mono (Kd.R_far (p := ⟨gb282, 1, none⟩) (Kd.R_far (p := ⟨gb282, 0, none⟩) (Kd.R_mono HL281_1.out (fun k_ hk => (⟨hk, hk.2⟩ : _ ∧ k_ ≠ gb282))) (fun _ hk => hk.2) (.int .i64 ((rd_T95 t276 x29_1).f0))) (fun _ hk => hk.2) (.slice A281_1 ((rd_T95 t276 x29_1).f1).length c281_1)) (fun _ h_ => h_.1))))).2.2) hb); have n8_ := Aside0.mk (blk_below (g := gb282) (o := .cells #[.int .i64 ((rd_T95 t276 x29_1).f0), .slice A281_1 ((rd_T95 t276 x29_1).f1).length c281_1] 95 (0, 0)) (by (with_reducible repeat (first | refine blk_drewN ?_ _ | refine blk_drew ?_ | refine blk_alloc ?_ _)); refine blk_put (cs := #[.int .i64 ((rd_T95 t276 x29_1).f0), .slice none 0 0]) ?_ 1 _ rfl; (with_reducible repeat (first | refine blk_drewN ?_ _ | refine blk_drew ?_ | refine blk_alloc ?_ _)); refine blk_put (cs := #[.int .i64 0, .slice none 0 0]) ?_ 0 _ rfl; (with_reducible repeat (first | refine blk_drewN ?_ _ | refine blk_drew ?_ | refine blk_alloc ?_ _)); exact BK282.out) hb); have n9_ := Aside0.mk (below_step (by repeat (first | (with_reducible first | exact HB.out | apply below_alloc | apply pw_below_drewN | apply below_drew1 | refine below_set ?_ GE280.out | refine below_set ?_ GE282.out) | exact HB.out)) hb); clear HO_5; clear HO_6; clear HO_27; clear HO_281001; clear HL281_1; clear BK280; clear HR281_1; clear BK282; clear HB; have HO_5 := n0_; have HO_6 := n1_; have HO_27 := n2_; have HO_281001 := n3_; have HL281_1 := n4_; have HO285 := n5_; have BK280 := n6_; have HR281_1 := n7_; have BK282 := n8_; have HB := n9_; clear n0_ n1_ n2_ n3_ n4_ n5_ n6_ n7_ n8_ n9_; (try clear hb); obtain ⟨Ao22, co22, eo22⟩ := Kd.R_slice HO285.out; subst eo22) | ((with_reducible refine gate_builtin (b := .append) (xs := #[.tmp 33, .tmp 36]) rfl ?_); at_builtin; refine Kd.S_append (Kd.slice 3 (Kd.int .i64)) (w0 := w) w.heap.size rfl (.tmp 33) (.tmp 36) 30 22 (.slice none 0 0) 24 rfl Tryd.underlying30 info22 rfl (by decide) (by omega) u5 x5_1 t283 [.slice Ao22 t283.length co22] (fun k_ => some k_ ≠ (v273 : Value).ownBlock) (fun k_ => some k_ = (.slice Ao22 t283.length co22 : Value).ownBlock) rfl rfl ?aP (fun k_ hk_ => ((Kd.R_mono (ok' := fun k_ => ((fun k_ => some k_ ≠ (v273 : Value).ownBlock)) k_ ∧ some k_ ≠ (u5 : Value).ownBlock) (Kd.R_apart' (HO285.out) (Kd.S_typed HO_5.out) (by decide)) (fun k_ hk => ⟨hk.1.2, hk.2⟩))).1 k_ hk_.symm) ?aF ?aO ?aB ?aS ?aL ?_; (case aP => exact Kd.M_row (Kd.R_mono (Kd.R_tight rfl (Kd.R_mono (ok' := fun k_ => ((fun k_ => some k_ ≠ (v273 : Value).ownBlock)) k_ ∧ some k_ ≠ (u5 : Value).ownBlock) (Kd.R_apart' (HO285.out) (Kd.S_typed HO_5.out) (by decide)) (fun k_ hk => ⟨hk.1.2, hk.2⟩))) (fun _ h_ => h_))); (case aB => exact (by repeat (first | (with_reducible first | exact HB.out | apply below_alloc | apply pw_below_drewN | apply below_drew1 | refine below_set ?_ GE280.out | refine below_set ?_ GE282.out) | exact HB.out))); (case aF => exact (fun k_ hk => Kd.fresh' (Kd.R_lt (FR HO_6.out)) k_ hk)); (case aO => exact (FS (Kd.S_mono HO_5.out (fun k_ hk => ⟨hk.1, fun e_ => hk.2 e_⟩)))); (case aS => exact (below_size (by repeat (first | (with_reducible first | exact HB.out | apply below_alloc | apply pw_below_drewN | apply below_drew1 | refine below_set ?_ GE280.out | refine below_set ?_ GE282.out) | exact HB.out)))); (case aL => have := LMc16.out; omega); intro v287 w21 ho hb hg hat; rw [← Ny286.out] at ho; have n0_ := Aside0.mk (Kd.R_over' (FR HO_6.out) (Kd.S_typed (FS HO_5.out)) (by decide) hg); have n1_ := Aside0.mk (Kd.R_over' (FR HO_27.out) (Kd.S_typed (FS HO_5.out)) (by decide) hg); have n2_ := Aside0.mk (Kd.R_over' (FR HO_281001.out) (Kd.S_typed (FS HO_5.out)) (by decide) hg); have n3_ := Aside0.mk (blk_grown (g := gb280) (o := .cells #[.int .i64 t275, .slice (some ad281) t276.length co11] 95 (0, 0)) (FK BK280.out) hg (Kd.S_ne HO_5.out BK280.out (by decide))); have n4_ := Aside0.mk (Kd.R_over' (FR HL281_1.out) (Kd.S_typed (FS HO_5.out)) (by decide) hg); have n5_ := Aside0.mk (blk_grown (g := gb282) (o := .cells #[.int .i64 ((rd_T95 t276 x29_1).f0), .slice A281_1 ((rd_T95 t276 x29_1).f1).length c281_1] 95 (0, 0)) (FK BK282.out) hg (Kd.S_ne HO_5.out BK282.out (by decide))); have n6_ := Aside0.mk (hb); have n7_ := Aside0.mk (ho); clear HO_6; clear HO_27; clear HO_281001; clear BK280; clear HL281_1; clear BK282; clear HB; clear HO_5; clear HO285; have HO_6 := n0_; have HO_27 := n1_; have HO_281001 := n2_; have BK280 := n3_; have HL281_1 := n4_; have BK282 := n5_; have HB := n6_; have HO288 := n7_; clear n0_ n1_ n2_ n3_ n4_ n5_ n6_ n7_; clear ho hb hg hat))); (try go_quiet (first | ((with_reducible refine gate_dst (N := 11) rfl ?_); refine box_event ?hg (N := 11) ?hd (cs := #[.int .i64 0, .slice none 0 0]) (t := 95) ?hr ?_; (case hd => rfl); (case hg => rfl); (case hr => first | (go_simp; done) | (go_simp; rfl)); intro gb282 hg w17 hbox hb; have n0_ := Aside0.mk (Kd.S_below (FS HO_5.out) hb); have n1_ := Aside0.mk (Kd.R_below (FR HO_6.out) hb); have n2_ := Aside0.mk (Kd.R_below (Kd.R_elderB (FR HO_27.out) gb282 (Nat.le_of_eq hg.symm)) hb); have n3_ := Aside0.mk (Kd.R_below (Kd.R_elderB (FR HO_281001.out) gb282 (Nat.le_of_eq hg.symm)) hb); have n4_ := Aside0.mk (Kd.R_below (Kd.R_elderB (FR HL281_1.out) gb282 (Nat.le_of_eq hg.symm)) hb); have n5_ := Aside0.mk (blk_below (g := gb280) (o := .cells #[.int .i64 t275, .slice (some ad281) t276.length co11] 95 (0, 0)) (FK BK280.out) hb); have n6_ := Aside0.mk (Kd.C_below (FC HR281_1.out) hb); have n7_ := Aside0.mk (below_step (by repeat (first | (with_reducible first | exact HB.out | apply below_alloc | apply pw_below_drewN | apply below_drew1 | refine below_set ?_ GE280.out) | exact HB.out)) hb); have n8_ := Aside0.mk (hbox); have n9_ := Aside0.mk ((by rw [hg]; exact (below_size (by repeat (first | (with_reducible first | exact HB.out | apply below_alloc | apply pw_below_drewN | apply below_drew1 | refine below_set ?_ GE280.out) | exact HB.out))) : w.heap.size ≤ gb282)); have n10_ := Aside0.mk ((by rw [hg]; exact (below_size (by repeat (first | (with_reducible first | exact HB.out | apply below_alloc | apply pw_below_drewN | apply below_drew1 | refine below_set ?_ GE280.out) | exact HB.out))) : w.heap.size ≤ gb282)); have n11_ := Aside0.mk ((by rw [hg]; exact Nat.ne_of_lt (blk_lt (g := gb280) (o := .cells #[.int .i64 t275, .slice (some ad281) t276.length co11] 95 (0, 0)) (FK BK280.out)) : gb280 ≠ gb282)); have n12_ := Aside0.mk ((by rw [hg]; exact Nat.ne_of_gt (blk_lt (g := gb280) (o := .cells #[.int .i64 t275, .slice (some ad281) t276.length co11] 95 (0, 0)) (FK BK280.out)) : gb282 ≠ gb280)); clear HO_5; clear HO_6; clear HO_27; clear HO_281001; clear HL281_1; clear BK280; clear HR281_1; clear HB; have HO_5 := n0_; have HO_6 := n1_; have HO_27 := n2_; have HO_281001 := n3_; have HL281_1 := n4_; have BK280 := n5_; have HR281_1 := n6_; have HB := n7_; have BK282 := n8_; have GW282 := n9_; have GE282 := n10_; have NB280_282 := n11_; have NB282_280 := n12_; clear n0_ n1_ n2_ n3_ n4_ n5_ n6_ n7_ n8_ n9_ n10_ n11_ n12_; clear hb hbox hg; have hnb18 := NB282_280.out; have hnc18 := NB280_282.out; have hcz19_0 : w17.cell? ⟨gb282, 0, none⟩ = some (.int .i64 0) := (blk_cell BK282.out 0).trans rfl; have hcz19_1 : w17.cell? ⟨gb282, 1, none⟩ = some (.slice none 0 0) := (blk_cell BK282.out 1).trans rfl; have hfz19_0 := blk_frozen BK282.out 0; have hfz19_1 := blk_frozen BK282.out 1) | (go_at_call 115; (with_reducible refine (spec_l1Numbers.calls k1 ((rd_T95 t276 x29_1).f0) _ _ ((rd_T95 t276 x29_1).f1) 1 t283 _ ?side1 ?side2 A15.out).mono ?_); (case side1 => repeat (first | exact ((Kd.R_reads' (FR ((Kd.R_mono (Kd.R_far (p := ⟨gb282, 1, none⟩) (Kd.R_far (p := ⟨gb282, 0, none⟩) (Kd.R_mono HL281_1.out (fun k_ hk => (⟨hk, hk.2⟩ : _ ∧ k_ ≠ gb282))) (fun _ hk => hk.2) (.int .i64 ((rd_T95 t276 x29_1).f0))) (fun _ hk => hk.2) (.slice A281_1 ((rd_T95 t276 x29_1).f1).length c281_1)) (fun _ h_ => h_.1))))).2.2) | (with_reducible refine Kd.C_alloc ?_ _) | (with_reducible refine Kd.C_drewN ?_ _) | (with_reducible refine Kd.C_drew ?_))); (case side2 => exact HC281_1.out); rintro e w20 ⟨v284, rfl, ho0, hb⟩; have n0_ := Aside0.mk (Kd.S_elder' (FS ((Kd.S_mono (Kd.S_far (p := ⟨gb282, 1, none⟩) (Kd.S_far (p := ⟨gb282, 0, none⟩) (Kd.S_types HO_5.out BK282.out (by decide)) (fun _ hk => hk.2) (.int .i64 ((rd_T95 t276 x29_1).f0))) (fun _ hk => hk.2) (.slice A281_1 ((rd_T95 t276 x29_1).f1).length c281_1)) (fun _ h_ => h_.1)))) (Kd.R_base ho0) hb); have n1_ := Aside0.mk (Kd.R_elder' (FR ((Kd.R_mono (Kd.R_far (p := ⟨gb282, 1, none⟩) (Kd.R_far (p := ⟨gb282, 0, none⟩) (Kd.R_types HO_6.out BK282.out (by decide)) (fun _ hk => hk.2) (.int .i64 ((rd_T95 t276 x29_1).f0))) (fun _ hk => hk.2) (.slice A281_1 ((rd_T95 t276 x29_1).f1).length c281_1)) (fun _ h_ => h_.1)))) (Kd.R_base ho0) hb); have n2_ := Aside0.mk (Kd.R_below (FR ((Kd.R_mono (Kd.R_far (p := ⟨gb282, 1, none⟩) (Kd.R_far (p := ⟨gb282, 0, none⟩) (Kd.R_mono HO_27.out (fun k_ hk => (⟨hk, hk.2⟩ : _ ∧ k_ ≠ gb282))) (fun _ hk => hk.2) (.int .i64 ((rd_T95 t276 x29_1).f0))) (fun _ hk => hk.2) (.slice A281_1 ((rd_T95 t276 x29_1).f1).length c281_1)) (fun _ h_ => h_.1)))) hb); have n3_ := Aside0.mk (Kd.R_below (FR ((Kd.R_mono (Kd.R_far (p := ⟨gb282, 1, none⟩) (Kd.R_far (p := ⟨gb282, 0, none⟩) (Kd.R_mono HO_281001.out (fun k_ hk => (⟨hk, hk.2⟩ : _ ∧ k_ ≠ gb282))) (fun _ hk => hk.2) (.int .i64 ((rd_T95 t276 x29_1).f0))) (fun _ hk => hk.2) (.slice A281_1 ((rd_T95 t276 x29_1).f1).length c281_1)) (fun _ h_ => h_.1)))) hb); have n4_ := Aside0.mk (Kd.R_below (FR ((Kd.R_mono (Kd.R_far (p := ⟨gb282, 1, none⟩) (Kd.R_far (p := ⟨gb282, 0, none⟩) (Kd.R_mono HL281_1.out (fun k_ hk => (⟨hk, hk.2⟩ : _ ∧ k_ ≠ gb282))) (fun _ hk => hk.2) (.int .i64 ((rd_T95 t276 x29_1).f0))) (fun _ hk => hk.2) (.slice A281_1 ((rd_T95 t276 x29_1).f1).length c281_1)) (fun _ h_ => h_.1)))) hb); have n5_ := Aside0.mk (Kd.R_lower (Kd.R_new' ho0 (Kd.R_lt (FR ((Kd.R_mono (Kd.R_far (p := ⟨gb282, 1, none⟩) (Kd.R_far (p := ⟨gb282, 0, none⟩) (Kd.R_types HO_6.out BK282.out (by decide)) (fun _ hk => hk.2) (.int .i64 ((rd_T95 t276 x29_1).f0))) (fun _ hk => hk.2) (.slice A281_1 ((rd_T95 t276 x29_1).f1).length c281_1)) (fun _ h_ => h_.1)))))) (below_size (by repeat (first | (with_reducible first | exact HB.out | apply below_alloc | apply pw_below_drewN | apply below_drew1 | refine below_set ?_ GE280.out | refine below_set ?_ GE282.out) | exact HB.out)))); have n6_ := Aside0.mk (blk_below (g := gb280) (o := .cells #[.int .i64 t275, .slice (some ad281) t276.length co11] 95 (0, 0)) (by (with_reducible repeat (first | refine blk_drewN ?_ _ | refine blk_drew ?_ | refine blk_alloc ?_ _)); refine blk_far ?_ NB280_282.out _; (with_reducible repeat (first | refine blk_drewN ?_ _ | refine blk_drew ?_ | refine blk_alloc ?_ _)); refine blk_far ?_ NB280_282.out _; (with_reducible repeat (first | refine blk_drewN ?_ _ | refine blk_drew ?_ | refine blk_alloc ?_ _)); exact BK280.out) hb); have n7_ := Aside0.mk (Kd.C_below ((Kd.R_reads' (FR ((Kd.R_mono (Kd.R_far (p := ⟨gb282, 1, none⟩) (Kd.R_far (p := ⟨gb282, 0, none⟩) (Kd.R_mono HL281_1.out (fun k_ hk => (⟨hk, hk.2⟩ : _ ∧ k_ ≠ gb282))) (fun _ hk => hk.2) (.int .i64 ((rd_T95 t276 x29_1).f0))) (fun _ hk => hk.2) (.slice A281_1 ((rd_T95 t276 x29_1).f1).length c281_1)) (fun _ h_ => h_.1))))).2.2) hb); have n8_ := Aside0.mk (blk_below (g := gb282) (o := .cells #[.int .i64 ((rd_T95 t276 x29_1).f0), .slice A281_1 ((rd_T95 t276 x29_1).f1).length c281_1] 95 (0, 0)) (by (with_reducible repeat (first | refine blk_drewN ?_ _ | refine blk_drew ?_ | refine blk_alloc ?_ _)); refine blk_put (cs := #[.int .i64 ((rd_T95 t276 x29_1).f0), .slice none 0 0]) ?_ 1 _ rfl; (with_reducible repeat (first | refine blk_drewN ?_ _ | refine blk_drew ?_ | refine blk_alloc ?_ _)); refine blk_put (cs := #[.int .i64 0, .slice none 0 0]) ?_ 0 _ rfl; (with_reducible repeat (first | refine blk_drewN ?_ _ | refine blk_drew ?_ | refine blk_alloc ?_ _)); exact BK282.out) hb); have n9_ := Aside0.mk (below_step (by repeat (first | (with_reducible first | exact HB.out | apply below_alloc | apply pw_below_drewN | apply below_drew1 | refine below_set ?_ GE280.out | refine below_set ?_ GE282.out) | exact HB.out)) hb); clear HO_5; clear HO_6; clear HO_27; clear HO_281001; clear HL281_1; clear BK280; clear HR281_1; clear BK282; clear HB; have HO_5 := n0_; have HO_6 := n1_; have HO_27 := n2_; have HO_281001 := n3_; have HL281_1 := n4_; have HO285 := n5_; have BK280 := n6_; have HR281_1 := n7_; have BK282 := n8_; have HB := n9_; clear n0_ n1_ n2_ n3_ n4_ n5_ n6_ n7_ n8_ n9_; (try clear hb); obtain ⟨Ao22, co22, eo22⟩ := Kd.R_slice HO285.out; subst eo22) | ((with_reducible refine gate_builtin (b := .append) (xs := #[.tmp 33, .tmp 36]) rfl ?_); at_builtin; refine Kd.S_append (Kd.slice 3 (Kd.int .i64)) (w0 := w) w.heap.size rfl (.tmp 33) (.tmp 36) 30 22 (.slice none 0 0) 24 rfl Tryd.underlying30 info22 rfl (by decide) (by omega) u5 x5_1 t283 [.slice Ao22 t283.length co22] (fun k_ => some k_ ≠ (v273 : Value).ownBlock) (fun k_ => some k_ = (.slice Ao22 t283.length co22 : Value).ownBlock) rfl rfl ?aP (fun k_ hk_ => ((Kd.R_mono (ok' := fun k_ => ((fun k_ => some k_ ≠ (v273 : Value).ownBlock)) k_ ∧ some k_ ≠ (u5 : Value).ownBlock) (Kd.R_apart' (HO285.out) (Kd.S_typed HO_5.out) (by decide)) (fun k_ hk => ⟨hk.1.2, hk.2⟩))).1 k_ hk_.symm) ?aF ?aO ?aB ?aS ?aL ?_; (case aP => exact Kd.M_row (Kd.R_mono (Kd.R_tight rfl (Kd.R_mono (ok' := fun k_ => ((fun k_ => some k_ ≠ (v273 : Value).ownBlock)) k_ ∧ some k_ ≠ (u5 : Value).ownBlock) (Kd.R_apart' (HO285.out) (Kd.S_typed HO_5.out) (by decide)) (fun k_ hk => ⟨hk.1.2, hk.2⟩))) (fun _ h_ => h_))); (case aB => exact (by repeat (first | (with_reducible first | exact HB.out | apply below_alloc | apply pw_below_drewN | apply below_drew1 | refine below_set ?_ GE280.out | refine below_set ?_ GE282.out) | exact HB.out))); (case aF => exact (fun k_ hk => Kd.fresh' (Kd.R_lt (FR HO_6.out)) k_ hk)); (case aO => exact (FS (Kd.S_mono HO_5.out (fun k_ hk => ⟨hk.1, fun e_ => hk.2 e_⟩)))); (case aS => exact (below_size (by repeat (first | (with_reducible first | exact HB.out | apply below_alloc | apply pw_below_drewN | apply below_drew1 | refine below_set ?_ GE280.out | refine below_set ?_ GE282.out) | exact HB.out)))); (case aL => have := LMc16.out; omega); intro v287 w21 ho hb hg hat; rw [← Ny286.out] at ho; have n0_ := Aside0.mk (Kd.R_over' (FR HO_6.out) (Kd.S_typed (FS HO_5.out)) (by decide) hg); have n1_ := Aside0.mk (Kd.R_over' (FR HO_27.out) (Kd.S_typed (FS HO_5.out)) (by decide) hg); have n2_ := Aside0.mk (Kd.R_over' (FR HO_281001.out) (Kd.S_typed (FS HO_5.out)) (by decide) hg); have n3_ := Aside0.mk (blk_grown (g := gb280) (o := .cells #[.int .i64 t275, .slice (some ad281) t276.length co11] 95 (0, 0)) (FK BK280.out) hg (Kd.S_ne HO_5.out BK280.out (by decide))); have n4_ := Aside0.mk (Kd.R_over' (FR HL281_1.out) (Kd.S_typed (FS HO_5.out)) (by decide) hg); have n5_ := Aside0.mk (blk_grown (g := gb282) (o := .cells #[.int .i64 ((rd_T95 t276 x29_1).f0), .slice A281_1 ((rd_T95 t276 x29_1).f1).length c281_1] 95 (0, 0)) (FK BK282.out) hg (Kd.S_ne HO_5.out BK282.out (by decide))); have n6_ := Aside0.mk (hb); have n7_ := Aside0.mk (ho); clear HO_6; clear HO_27; clear HO_281001; clear BK280; clear HL281_1; clear BK282; clear HB; clear HO_5; clear HO285; have HO_6 := n0_; have HO_27 := n1_; have HO_281001 := n2_; have BK280 := n3_; have HL281_1 := n4_; have BK282 := n5_; have HB := n6_; have HO288 := n7_; clear n0_ n1_ n2_ n3_ n4_ n5_ n6_ n7_; clear ho hb hg hat))))
               go_roundg k1
               case measure => have := HK1.out; omega
               case rel => exact ⟨(y286), (wrap64 (x29_1 + 1)), (by first | rfl | (simp; done) | (simp [*]; done)), H', ⟨by have := HK1.out; omega⟩, ⟨(FS HO288.out)⟩, ⟨(FR (Kd.R_mono HO_6.out (fun _ hk => trivial)))⟩, ⟨(FR (Kd.R_mono HO_27.out (fun _ hk => hk.1)))⟩, ⟨(FR (Kd.R_mono HO_281001.out (fun _ hk => hk.1)))⟩, ⟨(FK BK280.out)⟩, ⟨by repeat (first | (with_reducible first | exact HB.out | apply below_alloc | apply pw_below_drewN | apply below_drew1 | refine below_set ?_ GE280.out | refine below_set ?_ GE282.out) | exact HB.out)⟩⟩
             · rw [if_neg c16] at H
               exact absurd H (by simp)
           · rw [if_neg c14] at H
             exact absurd H (by simp)
         · rw [if_neg c13] at H
           exact absurd H (by simp)
       · rw [if_neg c12] at H
         have c12b0 : decide (x29_1 < (t276.length : Int)) = false := decide_eq_false c12
         clear c12
         by_cases c23 : 1 < (t271.length : Int)
         · rw [if_pos c23] at H
           have c23b0 : decide (1 < (t271.length : Int)) = true := decide_eq_true c23
           have c23b1 : decide (1 < t271.length) = true := decide_eq_true (by omega)
           clear c23
           simp only [Option.some.injEq, Prod.mk.injEq] at H
           obtain ⟨rfl, rfl, rfl⟩ := H
           obtain ⟨Ao24, co24, eo24⟩ := Kd.R_slice HO_6.out
           subst eo24
           have p289 : 0 ≤ (1 : Int) := (by omega)
           have q289 : 1 < (t271.length : Int) := of_decide_eq_true (by assumption)
           obtain ⟨ad289, e289, hx289_0⟩ := Kd.at_int (Kd.R_reads' HO_6.out).2.2 1 p289 q289
           cases e289
           (try simp only [show (1 : Int).toNat = 1 from rfl, Nat.reduceMul, Nat.reduceEqDiff, Go.Addr.add, ↓reduceIte] at hx289_0)
           have qi289 : (1 < t271.length) = True := eq_true (by omega)
           (try rw [show ((1 : Int)).toNat = 1 from rfl] at hx289_0)
           replace p289 := eq_true p289
           replace q289 := eq_true q289
           go_wp2
           repeat (go_quiet (fail); try go_wp2)
           go_ret3
           exact ⟨_, by first | rfl | (simp [errW_none, errW_some] <;> rfl) | (simp [*, errW_none, errW_some] <;> rfl), (FS (Kd.S_mono HO_5.out (fun _ hk => trivial))), by repeat (first | (with_reducible first | exact HB.out | apply below_alloc | apply pw_below_drewN | apply below_drew1 | refine below_set ?_ GE280.out) | exact HB.out)⟩
         · rw [if_neg c23] at H
           exact absurd H (by simp)
 · replace c3 := Bool.eq_false_iff.mpr c3
   subst c3
   have H1 : (some (y268, 0, false)) = some (r1, r2, r3) := by rw [if_neg (show ¬ (false = true) by decide)] at H; exact H
   clear H
   have H := H1
   clear H1
   simp only [Option.some.injEq, Prod.mk.injEq] at H
   obtain ⟨rfl, rfl, rfl⟩ := H
   go_enter Tryd.func102, Tryd.ntmps102
   iterate 3 ((try go_wp2_with (first | ((with_reducible refine gate_dst (N := 12) rfl ?_); refine Kd.S_lit (Kd.slice 3 (Kd.int .i64)) _ 22 ?hg (N := 12) ?hd (xs := ([] : List (List Int))) (inner := []) (ok := fun _ => True) (okp := fun _ => True) ?hr ?hp (fun _ hk => hk) trivial (Below.refl _ _) (Nat.le_refl _) (by simp) ?_; (case hd => rfl); (case hg => rfl); (case hr => first | (go_simp; done) | (go_simp; rfl)); (case hp => exact (Reps.none _ _)); intro v269 w25 ho26 hb hg_ hnew_; clear hg_ hnew_; (first | rw [← Ny268.out] at ho26 | (simp only [Int.reduceToNat] at ho26; rw [← Ny268.out] at ho26)); have n0_ := Aside0.mk (Kd.S_lower ho26 (below_size (FB HB.out))); have n1_ := Aside0.mk (below_step (FB HB.out) hb); clear HB; have HO270 := n0_; have HB := n1_; clear n0_ n1_; clear hb ho26) | (go_at_call 138; (with_reducible refine (spec_ShapeOf.calls k a0 2 t271 false _ A2.out).mono ?_); rintro e w27 ⟨v273, rfl, ho0, hb⟩; have n0_ := Aside0.mk (Kd.S_elder' (FS HO270.out) (Kd.R_base ho0) hb); have n1_ := Aside0.mk (Kd.R_lower ho0 (below_size (FB HB.out))); have n2_ := Aside0.mk (below_step (FB HB.out) hb); clear HO270; clear HB; have HO270 := n0_; have HO274 := n1_; have HB := n2_; clear n0_ n1_ n2_; (try clear hb)))); (try go_quiet (first | ((with_reducible refine gate_dst (N := 12) rfl ?_); refine Kd.S_lit (Kd.slice 3 (Kd.int .i64)) _ 22 ?hg (N := 12) ?hd (xs := ([] : List (List Int))) (inner := []) (ok := fun _ => True) (okp := fun _ => True) ?hr ?hp (fun _ hk => hk) trivial (Below.refl _ _) (Nat.le_refl _) (by simp) ?_; (case hd => rfl); (case hg => rfl); (case hr => first | (go_simp; done) | (go_simp; rfl)); (case hp => exact (Reps.none _ _)); intro v269 w25 ho26 hb hg_ hnew_; clear hg_ hnew_; (first | rw [← Ny268.out] at ho26 | (simp only [Int.reduceToNat] at ho26; rw [← Ny268.out] at ho26)); have n0_ := Aside0.mk (Kd.S_lower ho26 (below_size (FB HB.out))); have n1_ := Aside0.mk (below_step (FB HB.out) hb); clear HB; have HO270 := n0_; have HB := n1_; clear n0_ n1_; clear hb ho26) | (go_at_call 138; (with_reducible refine (spec_ShapeOf.calls k a0 2 t271 false _ A2.out).mono ?_); rintro e w27 ⟨v273, rfl, ho0, hb⟩; have n0_ := Aside0.mk (Kd.S_elder' (FS HO270.out) (Kd.R_base ho0) hb); have n1_ := Aside0.mk (Kd.R_lower ho0 (below_size (FB HB.out))); have n2_ := Aside0.mk (below_step (FB HB.out) hb); clear HO270; clear HB; have HO270 := n0_; have HO274 := n1_; have HB := n2_; clear n0_ n1_ n2_; (try clear hb)))))
   go_ret3
   exact ⟨_, by first | rfl | (simp [errW_none, errW_some] <;> rfl) | (simp [*, errW_none, errW_some] <;> rfl), (FS (Kd.S_mono HO270.out (fun _ hk => trivial))), FB HB.out⟩

end Go.Proofs.YtmjoigpnnechgaaDoor.G
