/- A part of the claim. -/
import Derived.Test.YtoloblgjlnhioaaDoorJFSgq0
import Derived.Test.YtoloblgjlnhioaaDoorJFW1
import Derived.Test.YtoloblgjlnhioaaDoorJFx4
import Derived.Test.YtoloblgjlnhioaaDoorJFx5
namespace Go.Proofs.YtoloblgjlnhioaaDoor.J
open Go.RowKit Go.Proofs.YtoloblgjlnhioaaDoorW.St   Go.Proofs.YtoloblgjlnhioaaDoorW.PrintWords Go.Proofs.YtoloblgjlnhioaaDoorW.PrintLast Go.Proofs.YtoloblgjlnhioaaDoorW.PrintMore
attribute [local go_sem] max2_int min2_int max_two min_two max_three min_three max_four min_four
set_option linter.unusedVariables false
set_option linter.unusedSimpArgs false
theorem at_L5 {w : World} {A : Option Addr} {n : Nat} {xs : List (List Int)} (h : Kd.C (Kd.slice 3 (Kd.int .i64)) w A n xs) (i : Int) (h0 : 0 ≤ i) (h1 : i < n) : ∃ ad A0 c0, A = some ad ∧ w.cell? (ad.add i.toNat) = some (.slice A0 (rd_L5 xs i).length c0) ∧ (rd_L5 xs i).length ≤ c0 ∧ (Kd.int .i64).C w A0 (rd_L5 xs i).length (rd_L5 xs i) := by
 obtain ⟨ad, c, e, _, hK, hc0⟩ := Kd.C_get h ([] : List Int) i h0 h1
 have hc : ∀ j u, c[j]? = some u → w.cell? (ad.add (i.toNat * 1 + j)) = some u := hc0
 obtain ⟨A0, c0, rfl, l0, g0⟩ := hK
 exact ⟨ad, A0, c0, e, by have hq := hc 0 _ rfl; rwa [Nat.mul_one, Nat.add_zero] at hq, l0, g0⟩
theorem spec_PadArray.told (k : Nat) (A0 : Option Addr) (c0 : Nat) (l0 : List (List Int)) (r1 : ByteArray) (r2 : Bool) (w : World) (n base : Nat) (hS : Kd.S (Kd.slice 3 (Kd.int .i64)) 25 w base (fun _ => True) (.slice A0 n c0) l0) (h : spec_l11Text.f k l0 = some (r1, r2)) (hL_ : Sg.LaidW w) :
   Calls Tryd.prog 61 #[.slice A0 n c0] w fun e w' => e = .returned (.tuple #[.string r1, .bool r2]) ∧ Below w.heap.size w w' :=
 ((spec_l11Text.ctr k l0 r1 r2 h).2 w (fun b => b < w.heap.size) 0 [.slice A0 n c0] hL_ (fun _ hb => hb) (fun T cs e => by cases e) ⟨_, _, rfl, rep_ints (Kd.S_R hS) (fun b _ hb => hb), rfl⟩).mono fun e w' ⟨vs, ro', he, hs⟩ => by
   obtain ⟨v, r, rfl, hv, v2, r', rfl, hv2, hr⟩ := hs.res
   obtain rfl : r' = [] := hr
   obtain rfl : v = .string r1 := (show v = .string r1 ∧ _ from hv).1
   obtain rfl : v2 = .bool r2 := (show v2 = .bool r2 ∧ _ from hv2).1
   exact ⟨he, hs.os, hs.tape, hs.output, hs.size, fun k hk => hs.same k hk (fun e => absurd rfl e)⟩
theorem impl_PadArray.told (k : Nat) (A0 : Option Addr) (c0 : Nat) (l0 : List (List Int)) (r1 : ByteArray) (r2 : Bool) (w : World) (n base : Nat) (hS : Kd.S (Kd.slice 3 (Kd.int .i64)) 25 w base (fun _ => True) (.slice A0 n c0) l0) (h : impl_rowed.f k l0 = some (r1, r2)) (hL_ : Sg.LaidW w) :
   Calls Tryd.prog 59 #[.slice A0 n c0] w fun e w' => e = .returned (.tuple #[.string r1, .bool r2]) ∧ Below w.heap.size w w' :=
 ((impl_rowed.ctr k l0 r1 r2 h).2 w (fun b => b < w.heap.size) 0 [.slice A0 n c0] hL_ (fun _ hb => hb) (fun T cs e => by cases e) ⟨_, _, rfl, rep_ints (Kd.S_R hS) (fun b _ hb => hb), rfl⟩).mono fun e w' ⟨vs, ro', he, hs⟩ => by
   obtain ⟨v, r, rfl, hv, v2, r', rfl, hv2, hr⟩ := hs.res
   obtain rfl : r' = [] := hr
   obtain rfl : v = .string r1 := (show v = .string r1 ∧ _ from hv).1
   obtain rfl : v2 = .bool r2 := (show v2 = .bool r2 ∧ _ from hv2).1
   exact ⟨he, hs.os, hs.tape, hs.output, hs.size, fun k hk => hs.same k hk (fun e => absurd rfl e)⟩
mutual
def spec_PadArray.l0 : Nat → List (List Int) → Int → List (List Int) → Int → Int → Option (ByteArray × Bool)
 | 0, _, _, _, _, _ => none
 | k + 1, x4, x6, x17, x18, x19 => if x19 < x18 then (if 0 ≤ x19 then (if x19 < (x17.length : Int) then (spec_PadArray.l0 k x4 (mx x6 ((rd_L5 x17 x19).length : Int)) x17 x18 (wrap64 (x19 + 1))) else (none)) else (none)) else (spec_PadArray.l1 k x4 x6 (x4.length : Int) 0)
def spec_PadArray.l1 : Nat → List (List Int) → Int → Int → Int → Option (ByteArray × Bool)
 | 0, _, _, _, _ => none
 | k + 1, x4, x6, x29, x30 => if x30 < x29 then (spec_PadArray.l2 k x4 x6 x30 x29 x30) else ((spec_l11Text.f k x4).bind fun bt430 => (some (bt430.1, bt430.2)))
def spec_PadArray.l2 : Nat → List (List Int) → Int → Int → Int → Int → Option (ByteArray × Bool)
 | 0, _, _, _, _, _ => none
 | k + 1, x4, x6, x9, x29, x30 => if 0 ≤ x9 then (if x9 < (x4.length : Int) then (if ((rd_L5 x4 x9).length : Int) < x6 then (if (rd_L5 x4 x9).length < 17592186044416 then (spec_PadArray.l2 k (x4.set (x9 : Int).toNat ((rd_L5 x4 x9) ++ [0])) x6 x9 x29 x30) else (none)) else (spec_PadArray.l1 k x4 x6 x29 (wrap64 (x30 + 1)))) else (none)) else (none)
end
def spec_PadArray.f (k : Nat) (a0 : ByteArray) : Option (ByteArray × Bool) := (spec_l11Any.f k a0).bind fun bt425 => (if bt425.2 = true then (spec_PadArray.l0 k bt425.1 0 bt425.1 (bt425.1.length : Int) 0) else (some ((⟨#[]⟩ : ByteArray), false)))
set_option maxHeartbeats 8000000 in
set_option maxRecDepth 100000 in
theorem spec_PadArray.calls (k : Nat) (a0 : ByteArray) (r1 : ByteArray) (r2 : Bool) (w : World) (h : spec_PadArray.f k a0 = some (r1, r2)) (hL_ : Sg.LaidW w) :
   Calls Tryd.prog 27 #[.string a0] w fun e w' => e = .returned (.tuple #[.string r1, .bool r2]) ∧ Below w.heap.size w w' := by
 have HLd := Aside0.mk hL_
 clear hL_
 have HB := Aside0.mk (Below.refl w.heap.size w)
 have H : ((spec_l11Any.f k a0).bind fun bt425 => (if bt425.2 = true then (spec_PadArray.l0 k bt425.1 0 bt425.1 (bt425.1.length : Int) 0) else (some ((⟨#[]⟩ : ByteArray), false)))) = some (r1, r2) := h
 clear h
 replace H := Option.bind_eq_some_iff.mp H
 obtain ⟨⟨t425, t426⟩, A20, H⟩ := H
 replace H : (if t426 = true then (spec_PadArray.l0 k t425 0 t425 (t425.length : Int) 0) else (some ((⟨#[]⟩ : ByteArray), false))) = some (r1, r2) := H
 have A2 := Aside0.mk A20
 clear A20
 by_cases c3 : t426 = true
 · subst c3
   have H1 : (spec_PadArray.l0 k t425 0 t425 (t425.length : Int) 0) = some (r1, r2) := by rw [if_pos rfl] at H; exact H
   clear H
   have H := H1
   clear H1
   have H' := Aside0.mk H
   clear H
   go_enter Tryd.func27, Tryd.ntmps27
   go_wp2_with (first | ((with_reducible refine gate_callee (f := 60) rfl ?_); refine goesL_ (some 12) rfl rfl Tryd.func60 (by kernel_rfl) rfl #[.string a0] rfl (by (try simp only [List.map_toArray, List.map_cons, List.map_nil]); first | done | rfl | (simp only [List.length_drop, List.length_take]; rfl)) ?_; (with_reducible refine (spec_l11Any.callsS k a0 t425 true _ (laid_b HLd.out HB.out) A2.out).mono ?_); rintro e w4 ⟨v427, rfl, ho0, hb⟩; refine ⟨_, rfl, ?_⟩; have n0_ := Aside0.mk (Kd.S_lower ho0 (below_size (by repeat (first | (with_reducible first | exact HB.out | apply below_alloc | apply pw_below_drewN | apply below_drew1) | exact HB.out)))); have n1_ := Aside0.mk (below_step (by repeat (first | (with_reducible first | exact HB.out | apply below_alloc | apply pw_below_drewN | apply below_drew1) | exact HB.out)) hb); clear HB; have HO428 := n0_; have HB := n1_; clear n0_ n1_; (try clear hb); (try clear hb2); (try clear hk); (try clear hi); (try clear ho0); obtain ⟨Ao5, co5, eo5⟩ := Kd.S_slice HO428.out; subst eo5))
   go_loopg [6, 19] k (fun kq v6 v19 w' => ∃ (x6_1 : Int) (x19_1 : Int), v6 = .int .i64 x6_1 ∧ v19 = .int .i64 x19_1 ∧ Aside0 (spec_PadArray.l0 kq t425 x6_1 t425 (t425.length : Int) x19_1 = some (r1, r2)) ∧ Aside0 (kq ≤ k) ∧ Aside0 (Kd.S (Kd.slice 3 (Kd.int .i64)) 25 w' w.heap.size (fun _ => True) (.slice Ao5 t425.length co5) t425) ∧ Aside0 (Kd.S (Kd.slice 3 (Kd.int .i64)) 25 w' w.heap.size (fun _ => True) (.slice Ao5 t425.length co5) t425) ∧ Aside0 (Below w.heap.size w w'))
   case atStart => exact ⟨(0), (0), (by first | rfl | (simp; done) | (simp [*]; done)), (by first | rfl | (simp; done) | (simp [*]; done)), H', ⟨Nat.le_refl _⟩, ⟨by (with_reducible repeat (first | apply Kd.S_alloc | apply Kd.S_drewN | apply Kd.S_drew)); exact HO428.out⟩, ⟨by (with_reducible repeat (first | apply Kd.S_alloc | apply Kd.S_drewN | apply Kd.S_drew)); exact HO428.out⟩, ⟨by repeat (first | (with_reducible first | exact HB.out | apply below_alloc | apply pw_below_drewN | apply below_drew1) | exact HB.out)⟩⟩
   case round =>
     clear H'
     try clear c2
     try clear p2
     try clear c3
     obtain ⟨x6_1, x19_1, rfl, rfl, HA, HK1, HO_4, HO_17, HB⟩ := hrel
     cases gk with
     | zero => exact absurd HA.out (by simp [spec_PadArray.l0])
     | succ k1 =>
       have H := HA.out
       clear HA
       simp only [spec_PadArray.l0] at H
       by_cases c6 : x19_1 < (t425.length : Int)
       · rw [if_pos c6] at H
         have c6b0 : decide (x19_1 < (t425.length : Int)) = true := decide_eq_true c6
         clear c6
         by_cases c7 : 0 ≤ x19_1
         · rw [if_pos c7] at H
           have c7b0 : decide (0 ≤ x19_1) = true := decide_eq_true c7
           clear c7
           by_cases c8 : x19_1 < (t425.length : Int)
           · rw [if_pos c8] at H
             have c8b0 : decide (x19_1 < (t425.length : Int)) = true := decide_eq_true c8
             clear c8
             obtain ⟨ji9, hji9⟩ : ∃ j_ : Int, (mx x6_1 ((rd_L5 t425 x19_1).length : Int)) = j_ := ⟨_, rfl⟩
             replace H : (spec_PadArray.l0 k1 t425 ji9 t425 (t425.length : Int) (wrap64 (x19_1 + 1))) = some (r1, r2) := by first | (rw [hji9] at H; exact H) | (simp only [hji9] at H ⊢; exact H)
             have hji9_ : (if x6_1 < ((rd_L5 t425 x19_1).length : Int) then ((rd_L5 t425 x19_1).length : Int) else x6_1) = ji9 := hji9
             (try (have hji9n_ := hji9_; simp only [Int.ofNat_lt] at hji9n_))
             have H' := Aside0.mk H
             clear H
             have p429 : 0 ≤ (x19_1 : Int) := of_decide_eq_true (by first | (with_reducible assumption) | assumption)
             have q429 : x19_1 < (t425.length : Int) := of_decide_eq_true (by first | (with_reducible assumption) | assumption)
             obtain ⟨ad429, A429_0, c429_0, e429, hx429_0, hl429_0, hi429_0⟩ := at_L5 (Kd.S_reads' HO_17.out).2.2 x19_1 p429 q429
             cases e429
             obtain ⟨ce429, hce429, hMe429, hcc429⟩ := Kd.S_get HO_17.out [] x19_1 p429 (by first | exact q429 | exact of_decide_eq_true (by first | (with_reducible assumption) | assumption) | (have e_ := (Kd.S_reads' HO_17.out).1; omega))
             obtain ⟨ve429_0, rfl, ge429_0⟩ := hMe429
             have hv429_0 := hcc429 0 _ rfl
             rw [Nat.add_zero, show ((Kd.slice 3 (Kd.int .i64))).sz = 1 from rfl, Nat.mul_one] at hv429_0
             replace hv429_0 := Option.some.inj (hv429_0.symm.trans hx429_0)
             rw [hv429_0] at ge429_0
             have HL429_0 := Aside0.mk (show Kd.R (Kd.int .i64) 3 _ _ _ _ (rd_L5 t425 x19_1) from ge429_0)
             clear hv429_0 ge429_0
             have HX429_0 := Aside0.mk hx429_0
             clear hcc429 hce429
             have HR429_0 := Aside0.mk hi429_0
             have HC429_0 := Aside0.mk hl429_0
             clear hi429_0 hl429_0
             replace p429 := eq_true p429
             replace q429 := eq_true q429
             go_wp2
             go_roundg k1
             case measure => have := HK1.out; omega
             case rel => exact ⟨(ji9), (wrap64 (x19_1 + 1)), (by first | rfl | (simp; done) | (simp only [← hji9] <;> (first | rfl | simp)) | (simp [*]; done)), (by first | rfl | (simp; done) | (simp [*]; done)), H', ⟨by have := HK1.out; omega⟩, ⟨by (with_reducible repeat (first | apply Kd.S_alloc | apply Kd.S_drewN | apply Kd.S_drew)); exact HO_4.out⟩, ⟨by (with_reducible repeat (first | apply Kd.S_alloc | apply Kd.S_drewN | apply Kd.S_drew)); exact HO_17.out⟩, ⟨by repeat (first | (with_reducible first | exact HB.out | apply below_alloc | apply pw_below_drewN | apply below_drew1) | exact HB.out)⟩⟩
           · rw [if_neg c8] at H
             exact absurd H (by simp)
         · rw [if_neg c7] at H
           exact absurd H (by simp)
       · rw [if_neg c6] at H
         have c6b0 : decide (x19_1 < (t425.length : Int)) = false := decide_eq_false c6
         clear c6
         have H' := Aside0.mk H
         clear H
         go_wp2
         go_loopg [30] k1 (fun kq v30 w' => ∃ (x4_2 : List (List Int)) (x30_2 : Int), v30 = .int .i64 x30_2 ∧ Aside0 (spec_PadArray.l1 kq x4_2 x6_1 (t425.length : Int) x30_2 = some (r1, r2)) ∧ Aside0 (kq ≤ k1) ∧ Aside0 (Kd.S (Kd.slice 3 (Kd.int .i64)) 25 w' w.heap.size (fun _ => True) (.slice Ao5 t425.length co5) x4_2) ∧ Aside0 (Below w.heap.size w w'))
         case atStart => exact ⟨(t425), (0), (by first | rfl | (simp; done) | (simp [*]; done)), H', ⟨Nat.le_refl _⟩, ⟨by (with_reducible repeat (first | apply Kd.S_alloc | apply Kd.S_drewN | apply Kd.S_drew)); exact HO_4.out⟩, ⟨by repeat (first | (with_reducible first | exact HB.out | apply below_alloc | apply pw_below_drewN | apply below_drew1) | exact HB.out)⟩⟩
         case round =>
           clear H'
           try clear c2
           try clear p2
           try clear c3
           try clear c4
           try clear p4
           try clear q4
           try clear hx4
           try clear c6
           try clear c6b0
           try clear p6
           try clear c7
           try clear c7b0
           try clear c8
           try clear c8b0
           try clear hx429_0
           try clear p2
           try clear p429
           try clear q429
           obtain ⟨x4_2, x30_2, rfl, HA, HK2, HO_4, HB⟩ := hrel
           have hl4_2 := (Kd.S_reads' HO_4.out).1
           rw [hl4_2] at HO_4
           (try simp only [hl4_2])
           cases gk with
           | zero => exact absurd HA.out (by simp [spec_PadArray.l1])
           | succ k2 =>
             have H := HA.out
             clear HA
             simp only [spec_PadArray.l1] at H
             by_cases c10 : x30_2 < (t425.length : Int)
             · rw [if_pos c10] at H
               have c10b0 : decide (x30_2 < (t425.length : Int)) = true := decide_eq_true c10
               (try rw [hl4_2] at c10b0)
               clear c10
               have H' := Aside0.mk H
               clear H
               go_wp2
               go_loopg [] k2 (fun kq w' => ∃ (x4_3 : List (List Int)), Aside0 (spec_PadArray.l2 kq x4_3 x6_1 x30_2 (t425.length : Int) x30_2 = some (r1, r2)) ∧ Aside0 (kq ≤ k2) ∧ Aside0 (Kd.S (Kd.slice 3 (Kd.int .i64)) 25 w' w.heap.size (fun _ => True) (.slice Ao5 x4_2.length co5) x4_3) ∧ Aside0 (Below w.heap.size w w'))
               case atStart => exact ⟨(x4_2), H', ⟨Nat.le_refl _⟩, ⟨by (try simp only [hl4_2]); (with_reducible repeat (first | apply Kd.S_alloc | apply Kd.S_drewN | apply Kd.S_drew)); exact HO_4.out⟩, ⟨by repeat (first | (with_reducible first | exact HB.out | apply below_alloc | apply pw_below_drewN | apply below_drew1) | exact HB.out)⟩⟩
               case round =>
                 clear H'
                 try clear c1
                 try clear c2
                 try clear p2
                 try clear c3
                 try clear c4
                 try clear p4
                 try clear q4
                 try clear hx4
                 try clear c6
                 try clear c6b0
                 try clear p6
                 try clear c7
                 try clear c7b0
                 try clear c8
                 try clear c8b0
                 try clear c10
                 try clear c10b0
                 try clear hx429_0
                 try clear p2
                 try clear p4
                 try clear p429
                 try clear p6
                 try clear q4
                 try clear q429
                 obtain ⟨x4_3, HA, HK3, HO_4, HB⟩ := hrel
                 have hl4_3 := (Kd.S_reads' HO_4.out).1
                 rw [hl4_3] at HO_4
                 (try simp only [hl4_3])
                 cases gk with
                 | zero => exact absurd HA.out (by simp [spec_PadArray.l2])
                 | succ k3 =>
                   have H := HA.out
                   clear HA
                   simp only [spec_PadArray.l2] at H
                   by_cases c11 : 0 ≤ x30_2
                   · rw [if_pos c11] at H
                     have c11b0 : decide (0 ≤ x30_2) = true := decide_eq_true c11
                     clear c11
                     by_cases c12 : x30_2 < (x4_3.length : Int)
                     · rw [if_pos c12] at H
                       have c12b0 : decide (x30_2 < (x4_3.length : Int)) = true := decide_eq_true c12
                       clear c12
                       by_cases c13 : ((rd_L5 x4_3 x30_2).length : Int) < x6_1
                       · rw [if_pos c13] at H
                         have c13b0 : decide (((rd_L5 x4_3 x30_2).length : Int) < x6_1) = true := decide_eq_true c13
                         clear c13
                         by_cases c14 : (rd_L5 x4_3 x30_2).length < 17592186044416
                         · rw [if_pos c14] at H
                           have LMc14 := Aside0.mk c14
                           clear c14
                           obtain ⟨y434, hy434⟩ : ∃ y_ : List Int, y_ = ((rd_L5 x4_3 x30_2) ++ [0]) := ⟨_, rfl⟩
                           replace H : (spec_PadArray.l2 k3 (x4_3.set (x30_2 : Int).toNat y434) x6_1 x30_2 (t425.length : Int) x30_2) = some (r1, r2) := by first | (rw [hy434]; with_reducible exact H) | (have H2_ := (Option.bind_some _ _).symm.trans H; rw [hy434]; with_reducible exact H2_) | (have H2_ := (Option.bind_some _ _).symm.trans H; with_reducible exact H2_) | with_reducible exact H | (rw [hy434]; exact H) | exact H
                           have Ny434 := Aside0.mk hy434
                           clear hy434
                           obtain ⟨y437, hy437⟩ : ∃ y_ : List (List Int), y_ = (x4_3.set (x30_2 : Int).toNat y434) := ⟨_, rfl⟩
                           replace H : (spec_PadArray.l2 k3 y437 x6_1 x30_2 (t425.length : Int) x30_2) = some (r1, r2) := by first | (rw [hy437]; with_reducible exact H) | (have H2_ := (Option.bind_some _ _).symm.trans H; rw [hy437]; with_reducible exact H2_) | (have H2_ := (Option.bind_some _ _).symm.trans H; with_reducible exact H2_) | with_reducible exact H | (rw [hy437]; exact H) | exact H
                           have Ny437 := Aside0.mk hy437
                           clear hy437
                           have H' := Aside0.mk H
                           clear H
                           have p432 : 0 ≤ (x30_2 : Int) := of_decide_eq_true (by first | (with_reducible assumption) | assumption)
                           have q432 : x30_2 < (x4_3.length : Int) := of_decide_eq_true (by first | (with_reducible assumption) | assumption)
                           obtain ⟨ad432, A432_0, c432_0, e432, hx432_0, hl432_0, hi432_0⟩ := at_L5 (Kd.S_reads' HO_4.out).2.2 x30_2 p432 q432
                           cases e432
                           obtain ⟨ce432, hce432, hMe432, hcc432⟩ := Kd.S_get HO_4.out [] x30_2 p432 (by first | exact q432 | exact of_decide_eq_true (by first | (with_reducible assumption) | assumption) | (have e_ := (Kd.S_reads' HO_4.out).1; omega))
                           obtain ⟨ve432_0, rfl, ge432_0⟩ := hMe432
                           have hv432_0 := hcc432 0 _ rfl
                           rw [Nat.add_zero, show ((Kd.slice 3 (Kd.int .i64))).sz = 1 from rfl, Nat.mul_one] at hv432_0
                           replace hv432_0 := Option.some.inj (hv432_0.symm.trans hx432_0)
                           rw [hv432_0] at ge432_0
                           have HL432_0 := Aside0.mk (show Kd.R (Kd.int .i64) 3 _ _ _ _ (rd_L5 x4_3 x30_2) from ge432_0)
                           clear hv432_0 ge432_0
                           have HX432_0 := Aside0.mk hx432_0
                           clear hcc432 hce432
                           have HR432_0 := Aside0.mk hi432_0
                           have HC432_0 := Aside0.mk hl432_0
                           clear hi432_0 hl432_0
                           replace p432 := eq_true p432
                           replace q432 := eq_true q432
                           have p433 : 0 ≤ (x30_2 : Int) := of_decide_eq_true (by first | (with_reducible assumption) | assumption)
                           have q433 : x30_2 < (x4_3.length : Int) := of_decide_eq_true (by first | (with_reducible assumption) | assumption)
                           obtain ⟨ad433, A433_0, c433_0, e433, hx433_0, hl433_0, hi433_0⟩ := at_L5 (Kd.S_reads' HO_4.out).2.2 x30_2 p433 q433
                           obtain rfl : ad432 = ad433 := (by injection e433)
                           obtain ⟨ce433, hce433, hMe433, hcc433⟩ := Kd.S_get HO_4.out [] x30_2 p433 (by first | exact q433 | exact of_decide_eq_true (by first | (with_reducible assumption) | assumption) | (have e_ := (Kd.S_reads' HO_4.out).1; omega))
                           obtain ⟨ve433_0, rfl, ge433_0⟩ := hMe433
                           have hv433_0 := hcc433 0 _ rfl
                           rw [Nat.add_zero, show ((Kd.slice 3 (Kd.int .i64))).sz = 1 from rfl, Nat.mul_one] at hv433_0
                           replace hv433_0 := Option.some.inj (hv433_0.symm.trans hx433_0)
                           rw [hv433_0] at ge433_0
                           have HL433_0 := Aside0.mk (show Kd.R (Kd.int .i64) 3 _ _ _ _ (rd_L5 x4_3 x30_2) from ge433_0)
                           clear hv433_0 ge433_0
                           have HX433_0 := Aside0.mk hx433_0
                           clear hcc433 hce433
                           have HR433_0 := Aside0.mk hi433_0
                           have HC433_0 := Aside0.mk hl433_0
                           clear hi433_0 hl433_0
                           replace p433 := eq_true p433
                           replace q433 := eq_true q433
                           have ea_ := Option.some.inj (hx432_0.symm.trans hx433_0)
                           injection ea_ with ea_ en_ ec_
                           subst ea_
                           subst ec_
                           clear en_
                           obtain ⟨go16, co16, eo16, gb16, gl16, cl16, HG16⟩ := Kd.S_form HO_4.out (by have h_ : (x30_2 : Int) < ((x4_3.length : Int) : Int) := of_decide_eq_true (by first | (with_reducible assumption) | assumption); have h2_ : 0 ≤ (x30_2 : Int) := (of_decide_eq_true (by first | (with_reducible assumption) | assumption)); omega)
                           (first | cases eo16 | (injection eo16 with ea_ en_ ec_; (first | subst ea_ | (injection ea_ with ea_; subst ea_)); subst ec_; clear en_))
                           have GB16 := Aside0.mk gb16
                           have GG16 := Aside0.mk HG16
                           clear gb16 gl16 HG16
                           (first | simp only [add_plain] at hx432_0 | skip)
                           (first | simp only [add_plain] at hx433_0 | skip)
                           obtain ⟨oki16, ce16, hcl16, hM16, hcc16, _, _, hH16⟩ := Kd.S_elem HO_4.out [] (x30_2 : Int) (of_decide_eq_true (by first | (with_reducible assumption) | assumption)) (by have h_ : (x30_2 : Int) < ((x4_3.length : Int) : Int) := of_decide_eq_true (by first | (with_reducible assumption) | assumption); first | exact h_ | (have e_ := (Kd.S_reads' HO_4.out).1; omega) | simpa using h_)
                           obtain ⟨ve16_0, rfl, ge16_0⟩ := hM16
                           have hv16 := hcc16 0 _ rfl
                           have hX16 := HX433_0.out
                           (try simp only [add_plain] at hX16)
                           (try simp only [Nat.add_zero] at hv16)
                           (try rw [show ((Kd.slice 3 (Kd.int .i64))).sz = 1 from rfl, Nat.mul_one] at hv16)
                           replace hv16 := Option.some.inj (hv16.symm.trans hX16)
                           subst hv16
                           clear hX16 hcc16 hcl16
                           have UU16 := Aside0.mk (show Kd.R (Kd.int .i64) 3 _ w.heap.size oki16 (.slice A432_0 (rd_L5 x4_3 x30_2).length c432_0) (rd_L5 x4_3 x30_2) from ge16_0)
                           have HH16 := Aside0.mk hH16
                           have HN16 := Aside0.mk (Kd.S_reads' HO_4.out).1
                           clear hH16 ge16_0
                           go_wp2_with (first | ((with_reducible refine gate_builtin (b := .append) (xs := #[.tmp 45, .tmp 46]) rfl ?_); at_builtin; refine Kd.R_append (Kd.int .i64) (w0 := w) w.heap.size rfl (.tmp 45) (.tmp 46) 25 3 (.int .i64 0) 8 rfl Tryd.underlying25 info3 rfl (by decide) (by omega) (.slice A432_0 (rd_L5 x4_3 x30_2).length c432_0) (rd_L5 x4_3 x30_2) 0 [.int .i64 0] (fun k_ => oki16 k_ ∨ ((fun _ => True)) k_ ∧ wr.heap.size ≤ k_) (fun _ => False) rfl rfl ?aP (fun _ hk => hk.elim) ?aF ?aO ?aB ?aS ?aL ?_; (case aP => exact rfl); (case aB => exact (by repeat (first | (with_reducible first | exact HB.out | apply below_alloc | apply pw_below_drewN | apply below_drew1) | exact HB.out))); (case aF => exact (fun k_ hk => .inr ⟨trivial, hk⟩)); (case aO => exact (by (with_reducible repeat (first | apply Kd.R_alloc | apply Kd.R_drewN | apply Kd.R_drew)); exact Kd.R_mono UU16.out (fun _ hk => .inl hk))); (case aS => exact (below_size (by repeat (first | (with_reducible first | exact HB.out | apply below_alloc | apply pw_below_drewN | apply below_drew1) | exact HB.out)))); (case aL => have := LMc14.out; omega); intro v435 w17 ho hb hg hat; rw [← Ny434.out] at ho; have n0_ := Aside0.mk (hb); have n1_ := Aside0.mk (Kd.H_grown (Kd.H_widen (by repeat (first | exact HH16.out | refine Kd.H_alloc ?_ _ | refine Kd.H_drewN ?_ _ | refine Kd.H_drew ?_))) hg (fun k_ e_ => .inl (UU16.out.1 k_ e_))); have n2_ := Aside0.mk (ho); clear HB; clear HH16; clear HO_4; clear UU16; clear HL432_0; clear HL433_0; have HB := n0_; have HH16 := n1_; have HO436 := n2_; clear n0_ n1_ n2_; clear ho hb hg hat; have p15 : 0 ≤ (x30_2 : Int) := of_decide_eq_true (by first | (with_reducible assumption) | assumption); have q15 : (x30_2 : Int) < ((x4_3.length : Int) : Int) := of_decide_eq_true (by first | (with_reducible assumption) | assumption); replace p15 := eq_true p15; replace q15 := eq_true q15; obtain ⟨Ao20, co20, eo20⟩ := Kd.R_slice HO436.out; subst eo20; obtain ⟨_, _, hraw18, _, _, hcc18, _⟩ := Kd.H_raw HH16.out (of_decide_eq_true (by first | (with_reducible assumption) | assumption)) (by have h_ : (x30_2 : Int) < ((x4_3.length : Int) : Int) := of_decide_eq_true (by first | (with_reducible assumption) | assumption); first | exact h_ | (have e_ := (HN16.out); omega) | simpa using h_); obtain ⟨_, hfr18⟩ := Kd.H_at HH16.out (of_decide_eq_true (by first | (with_reducible assumption) | assumption)) (by have h_ : (x30_2 : Int) < ((x4_3.length : Int) : Int) := of_decide_eq_true (by first | (with_reducible assumption) | assumption); first | exact h_ | (have e_ := (HN16.out); omega) | simpa using h_); have hx18_0 := hcc18 0 _ rfl; have hf18_0 := hfr18 0; (try simp only [Nat.add_zero] at hx18_0 hf18_0); (try rw [show ((Kd.slice 3 (Kd.int .i64))).sz = 1 from rfl, Nat.mul_one] at hx18_0); (try rw [show ((Kd.slice 3 (Kd.int .i64))).sz = 1 from rfl, Nat.mul_one] at hf18_0); have HP18 := Kd.S_seg0 HH16.out (of_decide_eq_true (by first | (with_reducible assumption) | assumption)) (by have h_ : (x30_2 : Int) < ((x4_3.length : Int) : Int) := of_decide_eq_true (by first | (with_reducible assumption) | assumption); first | exact h_ | (have e_ := (HN16.out); omega) | simpa using h_) (seg := [.slice Ao20 y434.length co20]) (j := 0) (show 1 ≤ 1 from by decide) (x' := y434) (Kd.M_row HO436.out) (fun _ hk => hk); (try simp only [show ((Kd.slice 3 (Kd.int .i64))).sz = 1 from rfl, Nat.mul_one, Nat.add_zero] at HP18); clear hcc18 hfr18) | ((with_reducible refine gate_store (t := 25) (p := 48) rfl ?_); refine store_event (t := 25) (p := 48) (v := ?vo_w19) (w1 := (w17.setCell ⟨go16, (x30_2 : Int).toNat, none⟩ (.slice Ao20 y434.length co20))) ?hg ?ho ?hn ?hr ?_; (case ho => rfl); (case hg => rfl); (case hn => rfl); (case hr => first | (go_simp; done) | (go_simp; rfl)); intro w19 hw; have hg : w17.grownBy w19 (some go16) := (by rw [hw]; exact HP18.2); have hp_ : Kd.S (Kd.slice 3 (Kd.int .i64)) 25 w19 w.heap.size (fun _ => True) (.slice (some ⟨go16, 0, none⟩) x4_3.length co5) y437 := (by rw [hw, Ny437.out]; exact HP18.1); clear HP18; have n0_ := Aside0.mk ((by rw [hw]; exact below_set HB.out GB16.out : Below w.heap.size w w19)); have n1_ := Aside0.mk (hp_); clear HB; clear HO436; clear HH16; have HB := n0_; have HO_4 := n1_; clear n0_ n1_; clear hg hw hp_ hraw18))
                           (try simp only [← hl4_3])
                           go_roundg k3
                           case measure => have := HK1.out; have := HK2.out; have := HK3.out; omega
                           case rel => exact ⟨(y437), H', ⟨by have := HK1.out; have := HK2.out; have := HK3.out; omega⟩, ⟨by (try simp only [hl4_2]); (try simp only [hl4_3]); (with_reducible repeat (first | apply Kd.S_alloc | apply Kd.S_drewN | apply Kd.S_drew)); exact HO_4.out⟩, ⟨by repeat (first | (with_reducible first | exact HB.out | apply below_alloc | apply pw_below_drewN | apply below_drew1) | exact HB.out)⟩⟩
                         · rw [if_neg c14] at H
                           exact absurd H (by simp)
                       · rw [if_neg c13] at H
                         have c13b0 : decide (((rd_L5 x4_3 x30_2).length : Int) < x6_1) = false := decide_eq_false c13
                         clear c13
                         have H' := Aside0.mk H
                         clear H
                         have p432 : 0 ≤ (x30_2 : Int) := of_decide_eq_true (by first | (with_reducible assumption) | assumption)
                         have q432 : x30_2 < (x4_3.length : Int) := of_decide_eq_true (by first | (with_reducible assumption) | assumption)
                         obtain ⟨ad432, A432_0, c432_0, e432, hx432_0, hl432_0, hi432_0⟩ := at_L5 (Kd.S_reads' HO_4.out).2.2 x30_2 p432 q432
                         cases e432
                         obtain ⟨ce432, hce432, hMe432, hcc432⟩ := Kd.S_get HO_4.out [] x30_2 p432 (by first | exact q432 | exact of_decide_eq_true (by first | (with_reducible assumption) | assumption) | (have e_ := (Kd.S_reads' HO_4.out).1; omega))
                         obtain ⟨ve432_0, rfl, ge432_0⟩ := hMe432
                         have hv432_0 := hcc432 0 _ rfl
                         rw [Nat.add_zero, show ((Kd.slice 3 (Kd.int .i64))).sz = 1 from rfl, Nat.mul_one] at hv432_0
                         replace hv432_0 := Option.some.inj (hv432_0.symm.trans hx432_0)
                         rw [hv432_0] at ge432_0
                         have HL432_0 := Aside0.mk (show Kd.R (Kd.int .i64) 3 _ _ _ _ (rd_L5 x4_3 x30_2) from ge432_0)
                         clear hv432_0 ge432_0
                         have HX432_0 := Aside0.mk hx432_0
                         clear hcc432 hce432
                         have HR432_0 := Aside0.mk hi432_0
                         have HC432_0 := Aside0.mk hl432_0
                         clear hi432_0 hl432_0
                         replace p432 := eq_true p432
                         replace q432 := eq_true q432
                         go_wp2
                         (try simp only [← hl4_2, ← hl4_3])
                         go_roundg k3
                         case measure => have := HK1.out; have := HK2.out; have := HK3.out; omega
                         case rel => exact ⟨(x4_3), (wrap64 (x30_2 + 1)), (by first | rfl | (simp; done) | (simp [*]; done)), H', ⟨by have := HK1.out; have := HK2.out; have := HK3.out; omega⟩, ⟨by (try simp only [hl4_2]); (try simp only [hl4_3]); (with_reducible repeat (first | apply Kd.S_alloc | apply Kd.S_drewN | apply Kd.S_drew)); exact HO_4.out⟩, ⟨by repeat (first | (with_reducible first | exact HB.out | apply below_alloc | apply pw_below_drewN | apply below_drew1) | exact HB.out)⟩⟩
                     · rw [if_neg c12] at H
                       exact absurd H (by simp)
                   · rw [if_neg c11] at H
                     exact absurd H (by simp)
             · rw [if_neg c10] at H
               have c10b0 : decide (x30_2 < (t425.length : Int)) = false := decide_eq_false c10
               (try rw [hl4_2] at c10b0)
               clear c10
               replace H := Option.bind_eq_some_iff.mp H
               obtain ⟨⟨t430, t431⟩, A210, H⟩ := H
               replace H : (some (t430, t431)) = some (r1, r2) := H
               have A21 := Aside0.mk A210
               clear A210
               simp only [Option.some.injEq, Prod.mk.injEq] at H
               obtain ⟨rfl, rfl⟩ := H
               go_wp2_with (first | ((with_reducible refine gate_callee (f := 61) rfl ?_); refine goesL_ (some 51) rfl rfl Tryd.func61 (by kernel_rfl) rfl #[.slice Ao5 x4_2.length co5] rfl (by (try simp only [List.map_toArray, List.map_cons, List.map_nil]); first | done | rfl | (simp only [List.length_drop, List.length_take]; rfl)) ?_; (with_reducible refine (spec_PadArray.told k2 _ _ x4_2 t430 t431 _ _ _ HO_4.out A21.out (laid_b HLd.out HB.out)).mono ?_); rintro e w22 ⟨rfl, hb⟩; refine ⟨_, rfl, ?_⟩; have n0_ := Aside0.mk (Kd.S_below (by (with_reducible repeat (first | apply Kd.S_alloc | apply Kd.S_drewN | apply Kd.S_drew)); exact HO_4.out) hb); have n1_ := Aside0.mk (below_step (by repeat (first | (with_reducible first | exact HB.out | apply below_alloc | apply pw_below_drewN | apply below_drew1) | exact HB.out)) hb); clear HO_4; clear HB; have HO_4 := n0_; have HB := n1_; clear n0_ n1_; (try clear hb); (try clear hb2); (try clear hk); (try clear hi)))
               go_ret2
               exact ⟨by first | rfl | (simp [errW_none, errW_some] <;> rfl) | (simp [*, errW_none, errW_some] <;> rfl), by repeat (first | (with_reducible first | exact HB.out | apply below_alloc | apply pw_below_drewN | apply below_drew1) | exact HB.out)⟩
 · replace c3 := Bool.eq_false_iff.mpr c3
   subst c3
   have H1 : (some ((⟨#[]⟩ : ByteArray), false)) = some (r1, r2) := by rw [if_neg (show ¬ (false = true) by decide)] at H; exact H
   clear H
   have H := H1
   clear H1
   simp only [Option.some.injEq, Prod.mk.injEq] at H
   obtain ⟨rfl, rfl⟩ := H
   go_enter Tryd.func27, Tryd.ntmps27
   go_wp2_with (first | ((with_reducible refine gate_callee (f := 60) rfl ?_); refine goesL_ (some 12) rfl rfl Tryd.func60 (by kernel_rfl) rfl #[.string a0] rfl (by (try simp only [List.map_toArray, List.map_cons, List.map_nil]); first | done | rfl | (simp only [List.length_drop, List.length_take]; rfl)) ?_; (with_reducible refine (spec_l11Any.callsS k a0 t425 false _ (laid_b HLd.out HB.out) A2.out).mono ?_); rintro e w23 ⟨v427, rfl, ho0, hb⟩; refine ⟨_, rfl, ?_⟩; have n0_ := Aside0.mk (Kd.S_lower ho0 (below_size (by repeat (first | (with_reducible first | exact HB.out | apply below_alloc | apply pw_below_drewN | apply below_drew1) | exact HB.out)))); have n1_ := Aside0.mk (below_step (by repeat (first | (with_reducible first | exact HB.out | apply below_alloc | apply pw_below_drewN | apply below_drew1) | exact HB.out)) hb); clear HB; have HO428 := n0_; have HB := n1_; clear n0_ n1_; (try clear hb); (try clear hb2); (try clear hk); (try clear hi); (try clear ho0)))
   go_ret2
   exact ⟨by first | rfl | (simp [errW_none, errW_some] <;> rfl) | (simp [*, errW_none, errW_some] <;> rfl), by repeat (first | (with_reducible first | exact HB.out | apply below_alloc | apply pw_below_drewN | apply below_drew1) | exact HB.out)⟩
theorem spec_PadArray.ctr (k : Nat) (a0 : ByteArray) (r1 : ByteArray) (r2 : Bool) (h : spec_PadArray.f k a0 = some (r1, r2)) : Ctr TE 27 none [.v (.string a0)] [.ro (.v (.string r1)), .ro (.v (.bool r2))] [] := by
 refine ctr_made (callable_of Tryd.func27 (by kernel_rfl) (by kernel_rfl)) (fun w ro g vals hL hp => ?_)
 obtain ⟨u, q, rfl, hu, rfl⟩ := hp
 obtain rfl : u = .string a0 := (show u = .string a0 ∧ _ from hu).1
 refine (spec_PadArray.calls k a0 r1 r2 w h hL).mono ?_
 rintro e w' ⟨rfl, hb⟩
 exact ⟨[_, _], rfl, hb, fun ro' _ hr => ⟨_, [_], rfl, ⟨rfl, rfl⟩, _, [], rfl, ⟨rfl, rfl⟩, rfl⟩⟩
mutual
def impl_PadArray.l0 : Nat → List (List Int) → Int → List (List Int) → Int → Int → Option (ByteArray × Bool)
 | 0, _, _, _, _, _ => none
 | k + 1, x4, x6, x17, x18, x19 => if x19 < x18 then (if 0 ≤ x19 then (if x19 < (x17.length : Int) then (impl_PadArray.l0 k x4 (mx x6 ((rd_L5 x17 x19).length : Int)) x17 x18 (wrap64 (x19 + 1))) else (none)) else (none)) else (impl_PadArray.l1 k x4 x6 (x4.length : Int) 0)
def impl_PadArray.l1 : Nat → List (List Int) → Int → Int → Int → Option (ByteArray × Bool)
 | 0, _, _, _, _ => none
 | k + 1, x4, x6, x29, x30 => if x30 < x29 then (if 0 ≤ x30 then (if x30 < (x4.length : Int) then (if ((rd_L5 x4 x30).length : Int) ≤ x6 then (if x6 ≤ 1000000 then (impl_PadArray.l1 k (x4.set (x30 : Int).toNat ((rd_L5 x4 x30) ++ List.replicate (x6 - ((rd_L5 x4 x30).length : Int)).toNat 0)) x6 x29 (wrap64 (x30 + 1))) else (none)) else (none)) else (none)) else (none)) else ((impl_rowed.f k x4).bind fun bt430 => (some (bt430.1, bt430.2)))
end
def impl_PadArray.f (k : Nat) (a0 : ByteArray) : Option (ByteArray × Bool) := (impl_rowsOf.f k a0).bind fun bt425 => (if bt425.2 = true then (impl_PadArray.l0 k bt425.1 0 bt425.1 (bt425.1.length : Int) 0) else (some ((⟨#[]⟩ : ByteArray), false)))
set_option maxHeartbeats 8000000 in
set_option maxRecDepth 100000 in
theorem impl_PadArray.calls (k : Nat) (a0 : ByteArray) (r1 : ByteArray) (r2 : Bool) (w : World) (h : impl_PadArray.f k a0 = some (r1, r2)) (hL_ : Sg.LaidW w) :
   Calls Tryd.prog 26 #[.string a0] w fun e w' => e = .returned (.tuple #[.string r1, .bool r2]) ∧ Below w.heap.size w w' := by
 have HLd := Aside0.mk hL_
 clear hL_
 have HB := Aside0.mk (Below.refl w.heap.size w)
 have H : ((impl_rowsOf.f k a0).bind fun bt425 => (if bt425.2 = true then (impl_PadArray.l0 k bt425.1 0 bt425.1 (bt425.1.length : Int) 0) else (some ((⟨#[]⟩ : ByteArray), false)))) = some (r1, r2) := h
 clear h
 replace H := Option.bind_eq_some_iff.mp H
 obtain ⟨⟨t425, t426⟩, A20, H⟩ := H
 replace H : (if t426 = true then (impl_PadArray.l0 k t425 0 t425 (t425.length : Int) 0) else (some ((⟨#[]⟩ : ByteArray), false))) = some (r1, r2) := H
 have A2 := Aside0.mk A20
 clear A20
 by_cases c3 : t426 = true
 · subst c3
   have H1 : (impl_PadArray.l0 k t425 0 t425 (t425.length : Int) 0) = some (r1, r2) := by rw [if_pos rfl] at H; exact H
   clear H
   have H := H1
   clear H1
   have H' := Aside0.mk H
   clear H
   go_enter Tryd.func26, Tryd.ntmps26
   go_wp2_with (first | ((with_reducible refine gate_callee (f := 58) rfl ?_); refine goesL_ (some 13) rfl rfl Tryd.func58 (by kernel_rfl) rfl #[.string a0] rfl (by (try simp only [List.map_toArray, List.map_cons, List.map_nil]); first | done | rfl | (simp only [List.length_drop, List.length_take]; rfl)) ?_; (with_reducible refine (impl_rowsOf.callsS k a0 t425 true _ (laid_b HLd.out HB.out) A2.out).mono ?_); rintro e w4 ⟨v427, rfl, ho0, hb⟩; refine ⟨_, rfl, ?_⟩; have n0_ := Aside0.mk (Kd.S_lower ho0 (below_size (by repeat (first | (with_reducible first | exact HB.out | apply below_alloc | apply pw_below_drewN | apply below_drew1) | exact HB.out)))); have n1_ := Aside0.mk (below_step (by repeat (first | (with_reducible first | exact HB.out | apply below_alloc | apply pw_below_drewN | apply below_drew1) | exact HB.out)) hb); clear HB; have HO428 := n0_; have HB := n1_; clear n0_ n1_; (try clear hb); (try clear hb2); (try clear hk); (try clear hi); (try clear ho0); obtain ⟨Ao5, co5, eo5⟩ := Kd.S_slice HO428.out; subst eo5))
   go_loopg [6, 20] k (fun kq v6 v20 w' => ∃ (x6_1 : Int) (x19_1 : Int), v6 = .int .i64 x6_1 ∧ v20 = .int .i64 x19_1 ∧ Aside0 (impl_PadArray.l0 kq t425 x6_1 t425 (t425.length : Int) x19_1 = some (r1, r2)) ∧ Aside0 (kq ≤ k) ∧ Aside0 (Kd.S (Kd.slice 3 (Kd.int .i64)) 25 w' w.heap.size (fun _ => True) (.slice Ao5 t425.length co5) t425) ∧ Aside0 (Kd.S (Kd.slice 3 (Kd.int .i64)) 25 w' w.heap.size (fun _ => True) (.slice Ao5 t425.length co5) t425) ∧ Aside0 (Below w.heap.size w w'))
   case atStart => exact ⟨(0), (0), (by first | rfl | (simp; done) | (simp [*]; done)), (by first | rfl | (simp; done) | (simp [*]; done)), H', ⟨Nat.le_refl _⟩, ⟨by (with_reducible repeat (first | apply Kd.S_alloc | apply Kd.S_drewN | apply Kd.S_drew)); exact HO428.out⟩, ⟨by (with_reducible repeat (first | apply Kd.S_alloc | apply Kd.S_drewN | apply Kd.S_drew)); exact HO428.out⟩, ⟨by repeat (first | (with_reducible first | exact HB.out | apply below_alloc | apply pw_below_drewN | apply below_drew1) | exact HB.out)⟩⟩
   case round =>
     clear H'
     try clear c2
     try clear p2
     try clear c3
     obtain ⟨x6_1, x19_1, rfl, rfl, HA, HK1, HO_4, HO_17, HB⟩ := hrel
     cases gk with
     | zero => exact absurd HA.out (by simp [impl_PadArray.l0])
     | succ k1 =>
       have H := HA.out
       clear HA
       simp only [impl_PadArray.l0] at H
       by_cases c6 : x19_1 < (t425.length : Int)
       · rw [if_pos c6] at H
         have c6b0 : decide (x19_1 < (t425.length : Int)) = true := decide_eq_true c6
         clear c6
         by_cases c7 : 0 ≤ x19_1
         · rw [if_pos c7] at H
           have c7b0 : decide (0 ≤ x19_1) = true := decide_eq_true c7
           clear c7
           by_cases c8 : x19_1 < (t425.length : Int)
           · rw [if_pos c8] at H
             have c8b0 : decide (x19_1 < (t425.length : Int)) = true := decide_eq_true c8
             clear c8
             obtain ⟨ji9, hji9⟩ : ∃ j_ : Int, (mx x6_1 ((rd_L5 t425 x19_1).length : Int)) = j_ := ⟨_, rfl⟩
             replace H : (impl_PadArray.l0 k1 t425 ji9 t425 (t425.length : Int) (wrap64 (x19_1 + 1))) = some (r1, r2) := by first | (rw [hji9] at H; exact H) | (simp only [hji9] at H ⊢; exact H)
             have hji9_ : (if x6_1 < ((rd_L5 t425 x19_1).length : Int) then ((rd_L5 t425 x19_1).length : Int) else x6_1) = ji9 := hji9
             (try (have hji9n_ := hji9_; simp only [Int.ofNat_lt] at hji9n_))
             have H' := Aside0.mk H
             clear H
             have p429 : 0 ≤ (x19_1 : Int) := of_decide_eq_true (by first | (with_reducible assumption) | assumption)
             have q429 : x19_1 < (t425.length : Int) := of_decide_eq_true (by first | (with_reducible assumption) | assumption)
             obtain ⟨ad429, A429_0, c429_0, e429, hx429_0, hl429_0, hi429_0⟩ := at_L5 (Kd.S_reads' HO_17.out).2.2 x19_1 p429 q429
             cases e429
             obtain ⟨ce429, hce429, hMe429, hcc429⟩ := Kd.S_get HO_17.out [] x19_1 p429 (by first | exact q429 | exact of_decide_eq_true (by first | (with_reducible assumption) | assumption) | (have e_ := (Kd.S_reads' HO_17.out).1; omega))
             obtain ⟨ve429_0, rfl, ge429_0⟩ := hMe429
             have hv429_0 := hcc429 0 _ rfl
             rw [Nat.add_zero, show ((Kd.slice 3 (Kd.int .i64))).sz = 1 from rfl, Nat.mul_one] at hv429_0
             replace hv429_0 := Option.some.inj (hv429_0.symm.trans hx429_0)
             rw [hv429_0] at ge429_0
             have HL429_0 := Aside0.mk (show Kd.R (Kd.int .i64) 3 _ _ _ _ (rd_L5 t425 x19_1) from ge429_0)
             clear hv429_0 ge429_0
             have HX429_0 := Aside0.mk hx429_0
             clear hcc429 hce429
             have HR429_0 := Aside0.mk hi429_0
             have HC429_0 := Aside0.mk hl429_0
             clear hi429_0 hl429_0
             replace p429 := eq_true p429
             replace q429 := eq_true q429
             go_wp2
             go_roundg k1
             case measure => have := HK1.out; omega
             case rel => exact ⟨(ji9), (wrap64 (x19_1 + 1)), (by first | rfl | (simp; done) | (simp only [← hji9] <;> (first | rfl | simp)) | (simp [*]; done)), (by first | rfl | (simp; done) | (simp [*]; done)), H', ⟨by have := HK1.out; omega⟩, ⟨by (with_reducible repeat (first | apply Kd.S_alloc | apply Kd.S_drewN | apply Kd.S_drew)); exact HO_4.out⟩, ⟨by (with_reducible repeat (first | apply Kd.S_alloc | apply Kd.S_drewN | apply Kd.S_drew)); exact HO_17.out⟩, ⟨by repeat (first | (with_reducible first | exact HB.out | apply below_alloc | apply pw_below_drewN | apply below_drew1) | exact HB.out)⟩⟩
           · rw [if_neg c8] at H
             exact absurd H (by simp)
         · rw [if_neg c7] at H
           exact absurd H (by simp)
       · rw [if_neg c6] at H
         have c6b0 : decide (x19_1 < (t425.length : Int)) = false := decide_eq_false c6
         clear c6
         have H' := Aside0.mk H
         clear H
         go_wp2
         go_loopg [31] k1 (fun kq v31 w' => ∃ (x4_2 : List (List Int)) (x30_2 : Int), v31 = .int .i64 x30_2 ∧ Aside0 (impl_PadArray.l1 kq x4_2 x6_1 (t425.length : Int) x30_2 = some (r1, r2)) ∧ Aside0 (kq ≤ k1) ∧ Aside0 (Kd.S (Kd.slice 3 (Kd.int .i64)) 25 w' w.heap.size (fun _ => True) (.slice Ao5 t425.length co5) x4_2) ∧ Aside0 (Below w.heap.size w w'))
         case atStart => exact ⟨(t425), (0), (by first | rfl | (simp; done) | (simp [*]; done)), H', ⟨Nat.le_refl _⟩, ⟨by (with_reducible repeat (first | apply Kd.S_alloc | apply Kd.S_drewN | apply Kd.S_drew)); exact HO_4.out⟩, ⟨by repeat (first | (with_reducible first | exact HB.out | apply below_alloc | apply pw_below_drewN | apply below_drew1) | exact HB.out)⟩⟩
         case round =>
           clear H'
           try clear c2
           try clear p2
           try clear c3
           try clear c4
           try clear p4
           try clear q4
           try clear hx4
           try clear c6
           try clear c6b0
           try clear p6
           try clear c7
           try clear c7b0
           try clear c8
           try clear c8b0
           try clear hx429_0
           try clear p2
           try clear p429
           try clear q429
           obtain ⟨x4_2, x30_2, rfl, HA, HK2, HO_4, HB⟩ := hrel
           have hl4_2 := (Kd.S_reads' HO_4.out).1
           rw [hl4_2] at HO_4
           (try simp only [hl4_2])
           cases gk with
           | zero => exact absurd HA.out (by simp [impl_PadArray.l1])
           | succ k2 =>
             have H := HA.out
             clear HA
             simp only [impl_PadArray.l1] at H
             by_cases c10 : x30_2 < (t425.length : Int)
             · rw [if_pos c10] at H
               have c10b0 : decide (x30_2 < (t425.length : Int)) = true := decide_eq_true c10
               (try rw [hl4_2] at c10b0)
               clear c10
               by_cases c11 : 0 ≤ x30_2
               · rw [if_pos c11] at H
                 by_cases c12 : x30_2 < (x4_2.length : Int)
                 · rw [if_pos c12] at H
                   by_cases c13 : ((rd_L5 x4_2 x30_2).length : Int) ≤ x6_1
                   · rw [if_pos c13] at H
                     by_cases c14 : x6_1 ≤ 1000000
                     · rw [if_pos c14] at H
                       obtain ⟨m, hm⟩ : ∃ m : Nat, (x6_1 - ((rd_L5 x4_2 x30_2).length : Int)).toNat = m := ⟨_, rfl⟩
                       have HM := Aside0.mk (show (m : Int) = x6_1 - ((rd_L5 x4_2 x30_2).length : Int) from by omega)
                       have HWr := Aside0.mk (show wrap64 (x6_1 - ((rd_L5 x4_2 x30_2).length : Int)) = (m : Int) from by have := HM.out; unfold wrap64; omega)
                       have HML := Aside0.mk (show (rd_L5 x4_2 x30_2).length + m ≤ 1000000 from by have := HM.out; omega)
                       rw [hm] at H
                       obtain ⟨y434, hy434⟩ : ∃ y_ : List Int, y_ = (rd_L5 x4_2 x30_2) ++ List.replicate m 0 := ⟨_, rfl⟩
                       rw [← hy434] at H
                       obtain ⟨y437, hy437⟩ : ∃ y_ : List (List Int), y_ = x4_2.set (x30_2 : Int).toNat y434 := ⟨_, rfl⟩
                       rw [← hy437] at H
                       have Ny434 := Aside0.mk hy434
                       have Ny437 := Aside0.mk hy437
                       have H' := Aside0.mk H
                       clear H hy434 hy437 hm
                       have p11 := eq_true c11
                       have q12 := eq_true c12
                       obtain ⟨ad432, A432_0, c432_0, e432, hx432_0, hl432_0, hi432_0⟩ := at_L5 (Kd.S_reads' HO_4.out).2.2 x30_2 c11 c12
                       obtain ⟨go16, co16, eo16, gb16, gl16, cl16, HG16⟩ := Kd.S_form HO_4.out (by omega)
                       cases eo16
                       cases e432
                       have GB16 := Aside0.mk gb16
                       clear gb16 gl16 HG16
                       (first | simp only [add_plain] at hx432_0 | skip)
                       obtain ⟨oki16, ce16, hcl16, hM16, hcc16, _, _, hH16⟩ := Kd.S_elem HO_4.out [] (x30_2 : Int) c11 c12
                       obtain ⟨ve16_0, rfl, ge16_0⟩ := hM16
                       have hv16 := hcc16 0 _ rfl
                       have hX16 := hx432_0
                       (try simp only [add_plain] at hX16)
                       (try simp only [Nat.add_zero] at hv16)
                       (try rw [show ((Kd.slice 3 (Kd.int .i64))).sz = 1 from rfl, Nat.mul_one] at hv16)
                       replace hv16 := Option.some.inj (hv16.symm.trans hX16)
                       subst hv16
                       clear hX16 hcc16 hcl16
                       have UU16 := Aside0.mk (show Kd.R (Kd.int .i64) 3 _ w.heap.size oki16 (.slice A432_0 (rd_L5 x4_2 x30_2).length c432_0) (rd_L5 x4_2 x30_2) from ge16_0)
                       have HH16 := Aside0.mk hH16
                       clear hH16 ge16_0
                       have C11 := Aside0.mk c11
                       have C12 := Aside0.mk c12
                       clear c11 c12 c13 c14
                       go_wp2_with (first | ((with_reducible refine gate_builtin (b := .append) (xs := #[.tmp 38, .tmp 42]) rfl ?_); at_builtin; refine Kd.R_append_zeros (Kd.int .i64) (kx := .i64) (w0 := w) w.heap.size rfl (.tmp 38) (.tmp 42) 25 3 3 (.int .i64 0) 8 rfl Tryd.underlying25 Tryd.underlying3 info3 rfl (by decide) (by omega) (.slice A432_0 (rd_L5 x4_2 x30_2).length c432_0) (rd_L5 x4_2 x30_2) 0 (m : Int) (fun k_ => oki16 k_ ∨ ((fun _ => True)) k_ ∧ wr.heap.size ≤ k_) rfl ?aX ?aZ ?aF ?aO (Int.natCast_nonneg m) ?aB ?aS ?aL ?_; (case aZ => exact rfl); (case aX => first | exact congrArg (Value.int .i64) HWr.out | (show Value.int .i64 _ = _; exact congrArg (Value.int .i64) HWr.out)); (case aB => exact HB.out); (case aF => exact (fun k_ hk => .inr ⟨trivial, hk⟩)); (case aO => exact Kd.R_mono UU16.out (fun _ hk => .inl hk)); (case aS => exact below_size HB.out); (case aL => have := HML.out; rw [Int.toNat_natCast]; omega); intro v435 w17 ho hb hg hat; rw [Int.toNat_natCast, ← Ny434.out] at ho; have n0_ := Aside0.mk (hb); have n1_ := Aside0.mk (Kd.H_grown (Kd.H_widen HH16.out) hg (fun k_ e_ => .inl (UU16.out.1 k_ e_))); have n2_ := Aside0.mk (ho); clear HB; clear HH16; clear HO_4; clear UU16; have HB := n0_; have HH16 := n1_; have HO436 := n2_; clear n0_ n1_ n2_; clear ho hb hg hat; have p15 := eq_true C11.out; have q15 := eq_true C12.out; obtain ⟨Ao20, co20, eo20⟩ := Kd.R_slice HO436.out; subst eo20; obtain ⟨_, _, hraw18, _, _, hcc18, _⟩ := Kd.H_raw HH16.out C11.out C12.out; obtain ⟨_, hfr18⟩ := Kd.H_at HH16.out C11.out C12.out; have hx18_0 := hcc18 0 _ rfl; have hf18_0 := hfr18 0; (try simp only [Nat.add_zero] at hx18_0 hf18_0); (try rw [show ((Kd.slice 3 (Kd.int .i64))).sz = 1 from rfl, Nat.mul_one] at hx18_0); (try rw [show ((Kd.slice 3 (Kd.int .i64))).sz = 1 from rfl, Nat.mul_one] at hf18_0); have HP18 := Kd.S_seg0 HH16.out C11.out C12.out (seg := [.slice Ao20 y434.length co20]) (j := 0) (show 1 ≤ 1 from by decide) (x' := y434) (Kd.M_row HO436.out) (fun _ hk => hk); (try simp only [show ((Kd.slice 3 (Kd.int .i64))).sz = 1 from rfl, Nat.mul_one, Nat.add_zero] at HP18); clear hcc18 hfr18) | ((with_reducible refine gate_store (t := 25) (p := 44) rfl ?_); refine store_event (t := 25) (p := 44) (v := ?vo_w19) (w1 := (w17.setCell ⟨go16, (x30_2 : Int).toNat, none⟩ (.slice Ao20 y434.length co20))) ?hg ?ho ?hn ?hr ?_; (case ho => rfl); (case hg => rfl); (case hn => rfl); (case hr => first | (go_simp; done) | (go_simp; rfl)); intro w19 hw; have hg : w17.grownBy w19 (some go16) := (by rw [hw]; exact HP18.2); have hp_ : Kd.S (Kd.slice 3 (Kd.int .i64)) 25 w19 w.heap.size (fun _ => True) (.slice (some ⟨go16, 0, none⟩) x4_2.length co5) y437 := (by rw [hw, Ny437.out]; exact HP18.1); clear HP18; have n0_ := Aside0.mk ((by rw [hw]; exact below_set HB.out GB16.out : Below w.heap.size w w19)); have n1_ := Aside0.mk (hp_); clear HB; clear HO436; clear HH16; have HB := n0_; have HO_4 := n1_; clear n0_ n1_; clear hg hw hp_ hraw18))
                       (try simp only [← hl4_2])
                       go_roundg k2
                       case measure => have := HK1.out; have := HK2.out; omega
                       case rel => exact ⟨(y437), (wrap64 (x30_2 + 1)), (by first | rfl | (simp; done)), H', ⟨by have := HK1.out; have := HK2.out; omega⟩, ⟨by (try simp only [hl4_2]); exact HO_4.out⟩, HB⟩
                     · rw [if_neg c14] at H
                       exact absurd H (by simp)
                   · rw [if_neg c13] at H
                     exact absurd H (by simp)
                 · rw [if_neg c12] at H
                   exact absurd H (by simp)
               · rw [if_neg c11] at H
                 exact absurd H (by simp)
             · rw [if_neg c10] at H
               have c10b0 : decide (x30_2 < (t425.length : Int)) = false := decide_eq_false c10
               (try rw [hl4_2] at c10b0)
               clear c10
               replace H := Option.bind_eq_some_iff.mp H
               obtain ⟨⟨t430, t431⟩, A210, H⟩ := H
               replace H : (some (t430, t431)) = some (r1, r2) := H
               have A21 := Aside0.mk A210
               clear A210
               simp only [Option.some.injEq, Prod.mk.injEq] at H
               obtain ⟨rfl, rfl⟩ := H
               go_wp2_with (first | ((with_reducible refine gate_callee (f := 59) rfl ?_); refine goesL_ (some 47) rfl rfl Tryd.func59 (by kernel_rfl) rfl #[.slice Ao5 x4_2.length co5] rfl (by (try simp only [List.map_toArray, List.map_cons, List.map_nil]); first | done | rfl | (simp only [List.length_drop, List.length_take]; rfl)) ?_; (with_reducible refine (impl_PadArray.told k2 _ _ x4_2 t430 t431 _ _ _ HO_4.out A21.out (laid_b HLd.out HB.out)).mono ?_); rintro e w22 ⟨rfl, hb⟩; refine ⟨_, rfl, ?_⟩; have n0_ := Aside0.mk (Kd.S_below (by (with_reducible repeat (first | apply Kd.S_alloc | apply Kd.S_drewN | apply Kd.S_drew)); exact HO_4.out) hb); have n1_ := Aside0.mk (below_step (by repeat (first | (with_reducible first | exact HB.out | apply below_alloc | apply pw_below_drewN | apply below_drew1) | exact HB.out)) hb); clear HO_4; clear HB; have HO_4 := n0_; have HB := n1_; clear n0_ n1_; (try clear hb); (try clear hb2); (try clear hk); (try clear hi)))
               go_ret2
               exact ⟨by first | rfl | (simp [errW_none, errW_some] <;> rfl) | (simp [*, errW_none, errW_some] <;> rfl), by repeat (first | (with_reducible first | exact HB.out | apply below_alloc | apply pw_below_drewN | apply below_drew1) | exact HB.out)⟩
 · replace c3 := Bool.eq_false_iff.mpr c3
   subst c3
   have H1 : (some ((⟨#[]⟩ : ByteArray), false)) = some (r1, r2) := by rw [if_neg (show ¬ (false = true) by decide)] at H; exact H
   clear H
   have H := H1
   clear H1
   simp only [Option.some.injEq, Prod.mk.injEq] at H
   obtain ⟨rfl, rfl⟩ := H
   go_enter Tryd.func26, Tryd.ntmps26
   go_wp2_with (first | ((with_reducible refine gate_callee (f := 58) rfl ?_); refine goesL_ (some 13) rfl rfl Tryd.func58 (by kernel_rfl) rfl #[.string a0] rfl (by (try simp only [List.map_toArray, List.map_cons, List.map_nil]); first | done | rfl | (simp only [List.length_drop, List.length_take]; rfl)) ?_; (with_reducible refine (impl_rowsOf.callsS k a0 t425 false _ (laid_b HLd.out HB.out) A2.out).mono ?_); rintro e w23 ⟨v427, rfl, ho0, hb⟩; refine ⟨_, rfl, ?_⟩; have n0_ := Aside0.mk (Kd.S_lower ho0 (below_size (by repeat (first | (with_reducible first | exact HB.out | apply below_alloc | apply pw_below_drewN | apply below_drew1) | exact HB.out)))); have n1_ := Aside0.mk (below_step (by repeat (first | (with_reducible first | exact HB.out | apply below_alloc | apply pw_below_drewN | apply below_drew1) | exact HB.out)) hb); clear HB; have HO428 := n0_; have HB := n1_; clear n0_ n1_; (try clear hb); (try clear hb2); (try clear hk); (try clear hi); (try clear ho0)))
   go_ret2
   exact ⟨by first | rfl | (simp [errW_none, errW_some] <;> rfl) | (simp [*, errW_none, errW_some] <;> rfl), by repeat (first | (with_reducible first | exact HB.out | apply below_alloc | apply pw_below_drewN | apply below_drew1) | exact HB.out)⟩
theorem impl_PadArray.ctr (k : Nat) (a0 : ByteArray) (r1 : ByteArray) (r2 : Bool) (h : impl_PadArray.f k a0 = some (r1, r2)) : Ctr TE 26 none [.v (.string a0)] [.ro (.v (.string r1)), .ro (.v (.bool r2))] [] := by
 refine ctr_made (callable_of Tryd.func26 (by kernel_rfl) (by kernel_rfl)) (fun w ro g vals hL hp => ?_)
 obtain ⟨u, q, rfl, hu, rfl⟩ := hp
 obtain rfl : u = .string a0 := (show u = .string a0 ∧ _ from hu).1
 refine (impl_PadArray.calls k a0 r1 r2 w h hL).mono ?_
 rintro e w' ⟨rfl, hb⟩
 exact ⟨[_, _], rfl, hb, fun ro' _ hr => ⟨_, [_], rfl, ⟨rfl, rfl⟩, _, [], rfl, ⟨rfl, rfl⟩, rfl⟩⟩
end Go.Proofs.YtoloblgjlnhioaaDoor.J
