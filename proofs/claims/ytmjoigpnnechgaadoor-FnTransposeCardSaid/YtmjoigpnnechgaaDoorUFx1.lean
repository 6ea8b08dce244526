/- A part of the claim. -/
import Derived.Test.YtmjoigpnnechgaaDoorUFx0
-- PRINTED by print.py (a twelfth state) out of the translation. Not trusted: Lean checks it.
namespace Go.Proofs.YtmjoigpnnechgaaDoor.U
open Go.RowKit Go.Proofs.YtmjoigpnnechgaaDoorW.St Go.Proofs.YtmjoigpnnechgaaDoorW.PrintWords Go.Proofs.YtmjoigpnnechgaaDoorW.PrintLast Go.Proofs.YtmjoigpnnechgaaDoorW.PrintMore
attribute [local go_sem] max2_int min2_int max_two min_two max_three min_three max_four min_four   -- for this text's walks alone
set_option linter.unusedVariables false
set_option linter.unusedSimpArgs false
mutual
def spec_l13Dec.l0 : Nat → Int → ByteArray → Option (ByteArray)
  | 0, _, _ => none
  | k + 1, x0, x3 => if x0 > 9 then ((some (([(wrap64 (48 + (Int.tmod x0 10))) % 256] : List Int) : List Int)).bind fun y102 => (if (strOfNums y102).size + x3.size ≤ 9223372036854775807 then (spec_l13Dec.l0 k (wrap64 (Int.tdiv x0 10)) ((strOfNums y102) ++ x3)) else (none))) else ((some (([(wrap64 (48 + x0)) % 256] : List Int) : List Int)).bind fun y105 => (if (strOfNums y105).size + x3.size ≤ 9223372036854775807 then (some ((strOfNums y105) ++ x3)) else (none)))
def spec_l13Dec.f : Nat → Int → Option (ByteArray)
  | 0, _ => none
  | k + 1, a0 => if a0 < (-9223372036854775807) then (some (⟨#[45, 57, 50, 50, 51, 51, 55, 50, 48, 51, 54, 56, 53, 52, 55, 55, 53, 56, 48, 56]⟩ : ByteArray)) else (if a0 < 0 then ((spec_l13Dec.f k (wrap64 (-a0))).bind fun t101 => (if 1 + t101.size ≤ 9223372036854775807 then (some ((⟨#[45]⟩ : ByteArray) ++ t101)) else (none))) else (spec_l13Dec.l0 k a0 (⟨#[]⟩ : ByteArray)))
end
def spec_l13Dec.I0 (r : ByteArray) (m : Nat) (σ : St) : Prop := ∃ (x0 : Int) (x3 : ByteArray), spec_l13Dec.l0 m x0 x3 = some r ∧ σ = ⟨[(0, .v (.int .i64 x0)), (3, .v (.string x3))], []⟩
structure spec_l13Dec.C (k : Nat) : Prop where
 s_f : ∀ (a0 : Int) (r : ByteArray), spec_l13Dec.f k a0 = some r → Ctr TE 127 none [.v (.int .i64 a0)] [.ro (.v (.string r))] []
 s_l0 : ∀ (r : ByteArray) (w : World) (ro : Nat → Prop) (B : Nat) (_ : Fr TE (cx0 Tryd.f127 none w ro B)) (x0 : Int) (x3 : ByteArray) (_ : spec_l13Dec.l0 k x0 x3 = some r), Kp (WS TE (cx0 Tryd.f127 none w ro B) (stkAt [1, 1, 1, 1, 0, 0] [] (bodyOf Tryd.f127) []) ⟨[(0, .v (.int .i64 x0)), (3, .v (.string x3))], []⟩ (RetQ TE Tryd.f127 none [.ro (.v (.string r))] [] w ro B))
set_option maxRecDepth 100000 in
set_option maxHeartbeats 4000000 in
theorem spec_l13Dec.c_f (k : Nat) (ih : Kp (∀ m, m < k → spec_l13Dec.C m)) (a0 : Int) (r : ByteArray) (h : spec_l13Dec.f k a0 = some r) : Ctr TE 127 none [.v (.int .i64 a0)] [.ro (.v (.string r))] [] := by
 cases k with
 | zero => simp [spec_l13Dec.f] at h
 | succ k =>
 simp only [spec_l13Dec.f] at h
 refine ctr_of (fn := Tryd.f127) (c := (bodyOf Tryd.f127)) Tryd.func127 rfl (by kernel_rfl) (Nat.le_of_ble_eq_true (by kernel_rfl)) (fun w ro B hF _ => ?_)
 by_cases c1 : a0 < (-9223372036854775807)
 · rw [if_pos c1] at h
   refine path_ok (k := 9) hF (RetQ_mild _ _ _ _ _ _ _ _) (ds := [.b true]) (os := []) (c := none) rfl KD ?_
   cases h
   exact ret_as (ms := [.ro]) rfl KD
 · rw [if_neg c1] at h
   by_cases c2 : a0 < 0
   · rw [if_pos c2] at h
     obtain ⟨t101, q3, h⟩ := Option.bind_eq_some_iff.1 h
     have q3c := (ih.out k (by omega)).s_f _ _ q3
     by_cases c4 : 1 + t101.size ≤ 9223372036854775807
     · rw [if_pos c4] at h
       refine path_ok (k := 14) hF (RetQ_mild _ _ _ _ _ _ _ _) (ds := [.b false, .b true, .e 9 (.v (.int .i64 (wrap64 (-a0)))), .r [.ro (.v (.string t101))] []]) (os := []) (c := none) rfl KD ?_
       cases h
       exact ret_as (ms := [.ro]) rfl KD
     · rw [if_neg c4] at h
       cases h
   · rw [if_neg c2] at h
     refine path_ok (k := 16) hF (RetQ_mild _ _ _ _ _ _ _ _) (ds := [.b false, .b false]) (os := []) (c := none) rfl KD ?_
     exact WS.can [] (((ih.out k (by omega)).s_l0  r w ro B hF a0 (⟨#[]⟩ : ByteArray) h).out) KD
set_option maxRecDepth 100000 in
set_option maxHeartbeats 4000000 in
theorem spec_l13Dec.c_l0 (k : Nat) (ih : Kp (∀ m, m < k → spec_l13Dec.C m)) (r : ByteArray) (w : World) (ro : Nat → Prop) (B : Nat) (hF : Fr TE (cx0 Tryd.f127 none w ro B)) (x0 : Int) (x3 : ByteArray) (h : spec_l13Dec.l0 k x0 x3 = some r) : Kp (WS TE (cx0 Tryd.f127 none w ro B) (stkAt [1, 1, 1, 1, 0, 0] [] (bodyOf Tryd.f127) []) ⟨[(0, .v (.int .i64 x0)), (3, .v (.string x3))], []⟩ (RetQ TE Tryd.f127 none [.ro (.v (.string r))] [] w ro B)) := by
 refine ⟨WS.loop (fun m σ => m ≤ k ∧ spec_l13Dec.I0 r m σ) k ⟨Nat.le_refl k, x0, x3, h, rfl⟩ (fun m σ' hI J0 hJ0 => ?_)⟩
 clear h
 obtain ⟨hk, x0, x3, h, rfl⟩ := hI
 cases m with
 | zero => simp [spec_l13Dec.l0] at h
 | succ k' =>
 simp only [spec_l13Dec.l0] at h
 by_cases c5 : x0 > 9
 · rw [if_pos c5] at h
   obtain ⟨y102, hy102, h⟩ := Option.bind_eq_some_iff.1 h
   cases hy102
   by_cases c6 : (strOfNums (([(wrap64 (48 + (Int.tmod x0 10))) % 256] : List Int))).size + x3.size ≤ 9223372036854775807
   · rw [if_pos c6] at h
     refine path_ok (k := 10) hF (RetQ_mild _ _ _ _ _ _ _ _) (ds := [.b true, .e 15 (.v (.int .i64 (Int.tmod x0 10))), .e 17 (.v (.int .u8 ((wrap64 (48 + (Int.tmod x0 10))) % 256))), .p 18 ([[.v (.int .u8 ((wrap64 (48 + (Int.tmod x0 10))) % 256))]]), .w (([(wrap64 (48 + (Int.tmod x0 10))) % 256] : List Int)), .e 23 (.v (.int .i64 (wrap64 (Int.tdiv x0 10))))]) (os := []) (c := none) rfl KD ?_
     exact WS.lpc [] (hJ0 _ _ (Nat.lt_succ_self _) ⟨by omega, (wrap64 (Int.tdiv x0 10)), ((strOfNums (([(wrap64 (48 + (Int.tmod x0 10))) % 256] : List Int))) ++ x3), h, rfl⟩) KD
   · rw [if_neg c6] at h
     cases h
 · rw [if_neg c5] at h
   obtain ⟨y105, hy105, h⟩ := Option.bind_eq_some_iff.1 h
   cases hy105
   by_cases c7 : (strOfNums (([(wrap64 (48 + x0)) % 256] : List Int))).size + x3.size ≤ 9223372036854775807
   · rw [if_pos c7] at h
     refine path_ok (k := 8) hF (RetQ_mild _ _ _ _ _ _ _ _) (ds := [.b false, .e 26 (.v (.int .u8 ((wrap64 (48 + x0)) % 256))), .p 27 ([[.v (.int .u8 ((wrap64 (48 + x0)) % 256))]]), .w (([(wrap64 (48 + x0)) % 256] : List Int))]) (os := []) (c := none) rfl KD ?_
     cases h
     exact ret_as (ms := [.ro]) rfl KD
   · rw [if_neg c7] at h
     cases h
theorem spec_l13Dec.cs (k : Nat) : spec_l13Dec.C k := by
 induction k using Nat.strongRecOn with
 | _ k ih0 =>
 have ih : Kp (∀ m, m < k → spec_l13Dec.C m) := ⟨ih0⟩
 exact ⟨spec_l13Dec.c_f k ih, spec_l13Dec.c_l0 k ih⟩
theorem spec_l13Dec.ctr (k : Nat) (a0 : Int) (r : ByteArray) (h : spec_l13Dec.f k a0 = some r) : Ctr TE 127 none [.v (.int .i64 a0)] [.ro (.v (.string r))] [] := (spec_l13Dec.cs k).s_f a0 r h
mutual
def spec_l1Text.l0 : Nat → Int → ByteArray → List (S95) → Int → Int → Option (ByteArray)
  | 0, _, _, _, _, _ => none
  | k + 1, x1, x5, x14, x15, x16 => if x16 < x15 then (if 0 ≤ x16 then (if x16 < (x14.length : Int) then (if x16 > 0 then (if x5.size + 1 ≤ 9223372036854775807 then ((spec_l1Text.f k ((rd_T95 x14 x16).f0) ((rd_T95 x14 x16).f1) (wrap64 (x1 - 1))).bind fun t112 => (if x5.size + 1 + t112.size ≤ 9223372036854775807 then (spec_l1Text.l0 k x1 ((x5 ++ (⟨#[44]⟩ : ByteArray)) ++ t112) x14 x15 (wrap64 (x16 + 1))) else (none))) else (none)) else ((spec_l1Text.f k ((rd_T95 x14 x16).f0) ((rd_T95 x14 x16).f1) (wrap64 (x1 - 1))).bind fun t113 => (if x5.size + t113.size ≤ 9223372036854775807 then (spec_l1Text.l0 k x1 (x5 ++ t113) x14 x15 (wrap64 (x16 + 1))) else (none)))) else (none)) else (none)) else (if x5.size + 1 ≤ 9223372036854775807 then (some (x5 ++ (⟨#[93]⟩ : ByteArray))) else (none))
def spec_l1Text.f : Nat → Int → List (S95) → Int → Option (ByteArray)
  | 0, _, _, _ => none
  | k + 1, a0_0, l0_1, a1 => if a1 = 0 then ((spec_l13Dec.f k a0_0).bind fun t109 => (some t109)) else (spec_l1Text.l0 k a1 (⟨#[91]⟩ : ByteArray) l0_1 (l0_1.length : Int) 0)
end
def spec_l1Text.I0 (r : ByteArray) (m : Nat) (σ : St) : Prop := ∃ (x1 : Int) (x5 : ByteArray) (x14 : List (S95)) (x15 : Int) (x16 : Int), spec_l1Text.l0 m x1 x5 x14 x15 x16 = some r ∧ σ = ⟨[(1, .v (.int .i64 x1)), (5, .v (.string x5)), (14, .sl 2 (r95 x14)), (15, .v (.int .i64 x15)), (16, .v (.int .i64 x16))], []⟩
structure spec_l1Text.C (k : Nat) : Prop where
 s_f : ∀ (a0_0 : Int) (l0_1 : List (S95)) (a1 : Int) (r : ByteArray), spec_l1Text.f k a0_0 l0_1 a1 = some r → Ctr TE 90 none [.ag [.v (.int .i64 a0_0), .sl 2 (r95 l0_1)], .v (.int .i64 a1)] [.ro (.v (.string r))] []
 s_l0 : ∀ (r : ByteArray) (w : World) (ro : Nat → Prop) (B : Nat) (_ : Fr TE (cx0 Tryd.f90 none w ro B)) (x1 : Int) (x5 : ByteArray) (x14 : List (S95)) (x15 : Int) (x16 : Int) (_ : spec_l1Text.l0 k x1 x5 x14 x15 x16 = some r), Kp (WS TE (cx0 Tryd.f90 none w ro B) (stkAt [1, 1, 1, 0, 1, 0] [] (bodyOf Tryd.f90) []) ⟨[(1, .v (.int .i64 x1)), (5, .v (.string x5)), (14, .sl 2 (r95 x14)), (15, .v (.int .i64 x15)), (16, .v (.int .i64 x16))], []⟩ (RetQ TE Tryd.f90 none [.ro (.v (.string r))] [] w ro B))
set_option maxRecDepth 100000 in
set_option maxHeartbeats 4000000 in
theorem spec_l1Text.c_f (k : Nat) (ih : Kp (∀ m, m < k → spec_l1Text.C m)) (a0_0 : Int) (l0_1 : List (S95)) (a1 : Int) (r : ByteArray) (h : spec_l1Text.f k a0_0 l0_1 a1 = some r) : Ctr TE 90 none [.ag [.v (.int .i64 a0_0), .sl 2 (r95 l0_1)], .v (.int .i64 a1)] [.ro (.v (.string r))] [] := by
 cases k with
 | zero => simp [spec_l1Text.f] at h
 | succ k =>
 simp only [spec_l1Text.f] at h
 refine ctr_of (fn := Tryd.f90) (c := (bodyOf Tryd.f90)) Tryd.func90 rfl (by kernel_rfl) (Nat.le_of_ble_eq_true (by kernel_rfl)) (fun w ro B hF _ => ?_)
 by_cases c1 : a1 = 0
 · rw [if_pos c1] at h
   obtain ⟨t109, q2, h⟩ := Option.bind_eq_some_iff.1 h
   have q2c := spec_l13Dec.ctr k _ _ q2
   refine path_ok (k := 9) hF (RetQ_mild _ _ _ _ _ _ _ _) (ds := [.b true, .r [.ro (.v (.string t109))] []]) (os := []) (c := none) rfl KD ?_
   cases h
   exact ret_as (ms := [.ro]) rfl KD
 · rw [if_neg c1] at h
   refine path_ok (k := 13) hF (RetQ_mild _ _ _ _ _ _ _ _) (ds := [.b false, .e 15 (.v (.int .i64 (l0_1.length : Int)))]) (os := []) (c := none) rfl KD ?_
   exact WS.can [] (((ih.out k (by omega)).s_l0  r w ro B hF a1 (⟨#[91]⟩ : ByteArray) l0_1 (l0_1.length : Int) 0 h).out) KD
set_option maxRecDepth 100000 in
set_option maxHeartbeats 4000000 in
theorem spec_l1Text.c_l0 (k : Nat) (ih : Kp (∀ m, m < k → spec_l1Text.C m)) (r : ByteArray) (w : World) (ro : Nat → Prop) (B : Nat) (hF : Fr TE (cx0 Tryd.f90 none w ro B)) (x1 : Int) (x5 : ByteArray) (x14 : List (S95)) (x15 : Int) (x16 : Int) (h : spec_l1Text.l0 k x1 x5 x14 x15 x16 = some r) : Kp (WS TE (cx0 Tryd.f90 none w ro B) (stkAt [1, 1, 1, 0, 1, 0] [] (bodyOf Tryd.f90) []) ⟨[(1, .v (.int .i64 x1)), (5, .v (.string x5)), (14, .sl 2 (r95 x14)), (15, .v (.int .i64 x15)), (16, .v (.int .i64 x16))], []⟩ (RetQ TE Tryd.f90 none [.ro (.v (.string r))] [] w ro B)) := by
 refine ⟨WS.loop (fun m σ => m ≤ k ∧ spec_l1Text.I0 r m σ) k ⟨Nat.le_refl k, x1, x5, x14, x15, x16, h, rfl⟩ (fun m σ' hI J0 hJ0 => ?_)⟩
 clear h
 obtain ⟨hk, x1, x5, x14, x15, x16, h, rfl⟩ := hI
 cases m with
 | zero => simp [spec_l1Text.l0] at h
 | succ k' =>
 simp only [spec_l1Text.l0] at h
 by_cases c3 : x16 < x15
 · rw [if_pos c3] at h
   by_cases c4 : 0 ≤ x16
   · rw [if_pos c4] at h
     by_cases c5 : x16 < (x14.length : Int)
     · rw [if_pos c5] at h
       by_cases c6 : x16 > 0
       · rw [if_pos c6] at h
         by_cases c7 : x5.size + 1 ≤ 9223372036854775807
         · rw [if_pos c7] at h
           obtain ⟨t112, q8, h⟩ := Option.bind_eq_some_iff.1 h
           have q8c := (ih.out k' (by omega)).s_f _ _ _ _ q8
           by_cases c9 : x5.size + 1 + t112.size ≤ 9223372036854775807
           · rw [if_pos c9] at h
             refine path_ok (k := 17) hF (RetQ_mild _ _ _ _ _ _ _ _) (ds := [.b true, .e 19 (.rf [.v (.int .i64 ((rd_T95 x14 x16).f0)), .sl 2 (r95 ((rd_T95 x14 x16).f1))]), .b true, .r [.ro (.v (.string t112))] []]) (os := []) (c := none) rfl KD ?_
             exact WS.lpc [] (hJ0 _ _ (Nat.lt_succ_self _) ⟨by omega, x1, ((x5 ++ (⟨#[44]⟩ : ByteArray)) ++ t112), x14, x15, (wrap64 (x16 + 1)), h, rfl⟩) KD
           · rw [if_neg c9] at h
             cases h
         · rw [if_neg c7] at h
           cases h
       · rw [if_neg c6] at h
         obtain ⟨t113, q10, h⟩ := Option.bind_eq_some_iff.1 h
         have q10c := (ih.out k' (by omega)).s_f _ _ _ _ q10
         by_cases c11 : x5.size + t113.size ≤ 9223372036854775807
         · rw [if_pos c11] at h
           refine path_ok (k := 17) hF (RetQ_mild _ _ _ _ _ _ _ _) (ds := [.b true, .e 19 (.rf [.v (.int .i64 ((rd_T95 x14 x16).f0)), .sl 2 (r95 ((rd_T95 x14 x16).f1))]), .b false, .r [.ro (.v (.string t113))] []]) (os := []) (c := none) rfl KD ?_
           exact WS.lpc [] (hJ0 _ _ (Nat.lt_succ_self _) ⟨by omega, x1, (x5 ++ t113), x14, x15, (wrap64 (x16 + 1)), h, rfl⟩) KD
         · rw [if_neg c11] at h
           cases h
     · rw [if_neg c5] at h
       cases h
   · rw [if_neg c4] at h
     cases h
 · rw [if_neg c3] at h
   by_cases c12 : x5.size + 1 ≤ 9223372036854775807
   · rw [if_pos c12] at h
     refine path_ok (k := 8) hF (RetQ_mild _ _ _ _ _ _ _ _) (ds := [.b false]) (os := []) (c := none) rfl KD ?_
     cases h
     exact ret_as (ms := [.ro]) rfl KD
   · rw [if_neg c12] at h
     cases h
theorem spec_l1Text.cs (k : Nat) : spec_l1Text.C k := by
 induction k using Nat.strongRecOn with
 | _ k ih0 =>
 have ih : Kp (∀ m, m < k → spec_l1Text.C m) := ⟨ih0⟩
 exact ⟨spec_l1Text.c_f k ih, spec_l1Text.c_l0 k ih⟩
theorem spec_l1Text.ctr (k : Nat) (a0_0 : Int) (l0_1 : List (S95)) (a1 : Int) (r : ByteArray) (h : spec_l1Text.f k a0_0 l0_1 a1 = some r) : Ctr TE 90 none [.ag [.v (.int .i64 a0_0), .sl 2 (r95 l0_1)], .v (.int .i64 a1)] [.ro (.v (.string r))] [] := (spec_l1Text.cs k).s_f a0_0 l0_1 a1 r h
def spec_l1Told.f (k : Nat) (a0_0 : Int) (l0_1 : List (S95)) (a1 : Int) : Option (ByteArray × Bool) := (spec_l1Text.f k a0_0 l0_1 a1).bind fun t115 => (if (t115.size : Int) > 400 then (some ((⟨#[]⟩ : ByteArray), false)) else (some (t115, true)))
set_option maxRecDepth 100000 in
set_option maxHeartbeats 4000000 in
theorem spec_l1Told.ctr (k : Nat) (a0_0 : Int) (l0_1 : List (S95)) (a1 : Int) (r1 : ByteArray) (r2 : Bool) (h : spec_l1Told.f k a0_0 l0_1 a1 = some (r1, r2)) : Ctr TE 95 none [.ag [.v (.int .i64 a0_0), .sl 2 (r95 l0_1)], .v (.int .i64 a1)] [.ro (.v (.string r1)), .ro (.v (.bool r2))] [] := by
 refine ctr_of (fn := Tryd.f95) (c := (bodyOf Tryd.f95)) Tryd.func95 rfl (by kernel_rfl) (Nat.le_of_ble_eq_true (by kernel_rfl)) (fun w ro B hF _ => ?_)
 simp only [spec_l1Told.f] at h
 obtain ⟨t115, q1, h⟩ := Option.bind_eq_some_iff.1 h
 have q1c := spec_l1Text.ctr k _ _ _ _ q1
 by_cases c2 : (t115.size : Int) > 400
 · rw [if_pos c2] at h
   refine path_ok (k := 11) hF (RetQ_mild _ _ _ _ _ _ _ _) (ds := [.r [.ro (.v (.string t115))] [], .b true]) (os := []) (c := none) rfl KD ?_
   cases h
   exact ret_as (ms := [.ro, .ro]) rfl KD
 · rw [if_neg c2] at h
   refine path_ok (k := 12) hF (RetQ_mild _ _ _ _ _ _ _ _) (ds := [.r [.ro (.v (.string t115))] [], .b false]) (os := []) (c := none) rfl KD ?_
   cases h
   exact ret_as (ms := [.ro, .ro]) rfl KD
mutual
def spec_l11Text.l0 : Nat → List (List Int) → Int → Int → Int → List (S95) → Option (ByteArray × Bool)
  | 0, _, _, _, _, _ => none
  | k + 1, x12, x13, x14, x120000, x120001 => if x14 < x13 then (if 0 ≤ x14 then (if x14 < (x12.length : Int) then (spec_l11Text.l1 k x12 x13 x14 (rd_L3 x12 x14) ((rd_L3 x12 x14).length : Int) 0 x120000 x120001 0 (([] : List (S95)))) else (none)) else (none)) else ((spec_l1Told.f k x120000 x120001 2).bind fun bt120 => (some (bt120.1, bt120.2)))
def spec_l11Text.l1 : Nat → List (List Int) → Int → Int → List Int → Int → Int → Int → List (S95) → Int → List (S95) → Option (ByteArray × Bool)
  | 0, _, _, _, _, _, _, _, _, _, _ => none
  | k + 1, x12, x13, x14, x20, x21, x22, x120000, x120001, x127000, x127001 => if x22 < x21 then (if 0 ≤ x22 then (if x22 < (x20.length : Int) then (if x127001.length < 4398046511104 then (spec_l11Text.l1 k x12 x13 x14 x20 x21 (wrap64 (x22 + 1)) x120000 x120001 x127000 (x127001 ++ [(⟨rd x20 x22, ([] : List (S95))⟩ : S95)])) else (none)) else (none)) else (none)) else (if x120001.length < 4398046511104 then (spec_l11Text.l0 k x12 x13 (wrap64 (x14 + 1)) x120000 (x120001 ++ [(⟨x127000, x127001⟩ : S95)])) else (none))
end
def spec_l11Text.f (k : Nat) (l0 : List (List Int)) : Option (ByteArray × Bool) := spec_l11Text.l0 k l0 (l0.length : Int) 0 0 (([] : List (S95)))
def spec_l11Text.I0 (r1 : ByteArray) (r2 : Bool) (m : Nat) (σ : St) : Prop := ∃ (x12 : List (List Int)) (x13 : Int) (x14 : Int) (x120000 : Int) (x120001 : List (S95)), spec_l11Text.l0 m x12 x13 x14 x120000 x120001 = some (r1, r2) ∧ σ = ⟨[(4, .pt 1004 0 0), (12, .sl 1 (rX (cL (cI .i64) 1) x12)), (13, .v (.int .i64 x13)), (14, .v (.int .i64 x14))], [(3257, .own 0 95 2 (r95 x120001)), (1004, .box 0 95 false [.v (.int .i64 x120000), .ow 3257 0])]⟩
def spec_l11Text.I1 (r1 : ByteArray) (r2 : Bool) (m : Nat) (σ : St) : Prop := ∃ (x12 : List (List Int)) (x13 : Int) (x14 : Int) (x20 : List Int) (x21 : Int) (x22 : Int) (x120000 : Int) (x120001 : List (S95)) (x127000 : Int) (x127001 : List (S95)), spec_l11Text.l1 m x12 x13 x14 x20 x21 x22 x120000 x120001 x127000 x127001 = some (r1, r2) ∧ σ = ⟨[(4, .pt 1004 0 0), (7, .pt 1007 0 0), (12, .sl 1 (rX (cL (cI .i64) 1) x12)), (13, .v (.int .i64 x13)), (14, .v (.int .i64 x14)), (20, .sl 1 (rX (cI .i64) x20)), (21, .v (.int .i64 x21)), (22, .v (.int .i64 x22))], [(3257, .own 0 95 2 (r95 x120001)), (1004, .box 0 95 false [.v (.int .i64 x120000), .ow 3257 0]), (3449, .own 0 95 2 (r95 x127001)), (1007, .box 0 95 false [.v (.int .i64 x127000), .ow 3449 0])]⟩
structure spec_l11Text.C (k : Nat) : Prop where
 s_l0 : ∀ (r1 : ByteArray) (r2 : Bool) (w : World) (ro : Nat → Prop) (B : Nat) (_ : Fr TE (cx0 Tryd.f75 none w ro B)) (x12 : List (List Int)) (x13 : Int) (x14 : Int) (x120000 : Int) (x120001 : List (S95)) (_ : spec_l11Text.l0 k x12 x13 x14 x120000 x120001 = some (r1, r2)), Kp (WS TE (cx0 Tryd.f75 none w ro B) (stkAt [1, 1, 0, 1, 0] [] (bodyOf Tryd.f75) []) ⟨[(4, .pt 1004 0 0), (12, .sl 1 (rX (cL (cI .i64) 1) x12)), (13, .v (.int .i64 x13)), (14, .v (.int .i64 x14))], [(3257, .own 0 95 2 (r95 x120001)), (1004, .box 0 95 false [.v (.int .i64 x120000), .ow 3257 0])]⟩ (RetQ TE Tryd.f75 none [.ro (.v (.string r1)), .ro (.v (.bool r2))] [] w ro B))
 s_l1 : ∀ (r1 : ByteArray) (r2 : Bool) (w : World) (ro : Nat → Prop) (B : Nat) (_ : Fr TE (cx0 Tryd.f75 none w ro B)) (J0 : St → Prop) (_ : ∀ m σ, m ≤ k → spec_l11Text.I0 r1 r2 m σ → J0 σ) (x12 : List (List Int)) (x13 : Int) (x14 : Int) (x20 : List Int) (x21 : Int) (x22 : Int) (x120000 : Int) (x120001 : List (S95)) (x127000 : Int) (x127001 : List (S95)) (_ : spec_l11Text.l1 k x12 x13 x14 x20 x21 x22 x120000 x120001 x127000 x127001 = some (r1, r2)), Kp (WS TE (cx0 Tryd.f75 none w ro B) (stkAt [1, 1, 0, 1, 0, 0, 1, 1, 0, 0, 1, 1, 0, 1, 0] [J0] (bodyOf Tryd.f75) []) ⟨[(4, .pt 1004 0 0), (7, .pt 1007 0 0), (12, .sl 1 (rX (cL (cI .i64) 1) x12)), (13, .v (.int .i64 x13)), (14, .v (.int .i64 x14)), (20, .sl 1 (rX (cI .i64) x20)), (21, .v (.int .i64 x21)), (22, .v (.int .i64 x22))], [(3257, .own 0 95 2 (r95 x120001)), (1004, .box 0 95 false [.v (.int .i64 x120000), .ow 3257 0]), (3449, .own 0 95 2 (r95 x127001)), (1007, .box 0 95 false [.v (.int .i64 x127000), .ow 3449 0])]⟩ (RetQ TE Tryd.f75 none [.ro (.v (.string r1)), .ro (.v (.bool r2))] [] w ro B))
set_option maxRecDepth 100000 in
set_option maxHeartbeats 4000000 in
theorem spec_l11Text.c_l0 (k : Nat) (ih : Kp (∀ m, m < k → spec_l11Text.C m)) (r1 : ByteArray) (r2 : Bool) (w : World) (ro : Nat → Prop) (B : Nat) (hF : Fr TE (cx0 Tryd.f75 none w ro B)) (x12 : List (List Int)) (x13 : Int) (x14 : Int) (x120000 : Int) (x120001 : List (S95)) (h : spec_l11Text.l0 k x12 x13 x14 x120000 x120001 = some (r1, r2)) : Kp (WS TE (cx0 Tryd.f75 none w ro B) (stkAt [1, 1, 0, 1, 0] [] (bodyOf Tryd.f75) []) ⟨[(4, .pt 1004 0 0), (12, .sl 1 (rX (cL (cI .i64) 1) x12)), (13, .v (.int .i64 x13)), (14, .v (.int .i64 x14))], [(3257, .own 0 95 2 (r95 x120001)), (1004, .box 0 95 false [.v (.int .i64 x120000), .ow 3257 0])]⟩ (RetQ TE Tryd.f75 none [.ro (.v (.string r1)), .ro (.v (.bool r2))] [] w ro B)) := by
 refine ⟨WS.loop (fun m σ => m ≤ k ∧ spec_l11Text.I0 r1 r2 m σ) k ⟨Nat.le_refl k, x12, x13, x14, x120000, x120001, h, rfl⟩ (fun m σ' hI J0 hJ0 => ?_)⟩
 clear h
 obtain ⟨hk, x12, x13, x14, x120000, x120001, h, rfl⟩ := hI
 cases m with
 | zero => simp [spec_l11Text.l0] at h
 | succ k' =>
 simp only [spec_l11Text.l0] at h
 by_cases c1 : x14 < x13
 · rw [if_pos c1] at h
   by_cases c2 : 0 ≤ x14
   · rw [if_pos c2] at h
     by_cases c3 : x14 < (x12.length : Int)
     · rw [if_pos c3] at h
       refine path_ok (k := 15) hF (RetQ_mild _ _ _ _ _ _ _ _) (ds := [.b true, .e 16 (.rf [.sl 1 (rX (cI .i64) (rd_L3 x12 x14))]), .p 18 ([]), .e 21 (.v (.int .i64 ((rd_L3 x12 x14).length : Int)))]) (os := []) (c := none) rfl KD ?_
       exact WS.can [(1004, some 1004), (3257, some 3257), (1007, some 7), (3449, some 18)] (((ih.out k' (by omega)).s_l1  r1 r2 w ro B hF J0 (fun m σ hm hI => hJ0 m σ (by omega) ⟨by omega, hI⟩) x12 x13 x14 (rd_L3 x12 x14) ((rd_L3 x12 x14).length : Int) 0 x120000 x120001 0 (([] : List (S95))) h).out) KD
     · rw [if_neg c3] at h
       cases h
   · rw [if_neg c2] at h
     cases h
 · rw [if_neg c1] at h
   obtain ⟨⟨t120, t121⟩, q4, h⟩ := Option.bind_eq_some_iff.1 h
   dsimp only at h
   have q4c := spec_l1Told.ctr k' _ _ _ _ _ q4
   refine path_ok (k := 8) hF (RetQ_mild _ _ _ _ _ _ _ _) (ds := [.b false, .r [.ro (.v (.string t120)), .ro (.v (.bool t121))] []]) (os := []) (c := none) rfl KD ?_
   cases h
   exact ret_as (ms := [.ro, .ro]) rfl KD
set_option maxRecDepth 100000 in
set_option maxHeartbeats 4000000 in
theorem spec_l11Text.c_l1 (k : Nat) (ih : Kp (∀ m, m < k → spec_l11Text.C m)) (r1 : ByteArray) (r2 : Bool) (w : World) (ro : Nat → Prop) (B : Nat) (hF : Fr TE (cx0 Tryd.f75 none w ro B)) (J0 : St → Prop) (hJ0 : ∀ m σ, m ≤ k → spec_l11Text.I0 r1 r2 m σ → J0 σ) (x12 : List (List Int)) (x13 : Int) (x14 : Int) (x20 : List Int) (x21 : Int) (x22 : Int) (x120000 : Int) (x120001 : List (S95)) (x127000 : Int) (x127001 : List (S95)) (h : spec_l11Text.l1 k x12 x13 x14 x20 x21 x22 x120000 x120001 x127000 x127001 = some (r1, r2)) : Kp (WS TE (cx0 Tryd.f75 none w ro B) (stkAt [1, 1, 0, 1, 0, 0, 1, 1, 0, 0, 1, 1, 0, 1, 0] [J0] (bodyOf Tryd.f75) []) ⟨[(4, .pt 1004 0 0), (7, .pt 1007 0 0), (12, .sl 1 (rX (cL (cI .i64) 1) x12)), (13, .v (.int .i64 x13)), (14, .v (.int .i64 x14)), (20, .sl 1 (rX (cI .i64) x20)), (21, .v (.int .i64 x21)), (22, .v (.int .i64 x22))], [(3257, .own 0 95 2 (r95 x120001)), (1004, .box 0 95 false [.v (.int .i64 x120000), .ow 3257 0]), (3449, .own 0 95 2 (r95 x127001)), (1007, .box 0 95 false [.v (.int .i64 x127000), .ow 3449 0])]⟩ (RetQ TE Tryd.f75 none [.ro (.v (.string r1)), .ro (.v (.bool r2))] [] w ro B)) := by
 refine ⟨WS.loop (fun m σ => m ≤ k ∧ spec_l11Text.I1 r1 r2 m σ) k ⟨Nat.le_refl k, x12, x13, x14, x20, x21, x22, x120000, x120001, x127000, x127001, h, rfl⟩ (fun m σ' hI J1 hJ1 => ?_)⟩
 clear h
 obtain ⟨hk, x12, x13, x14, x20, x21, x22, x120000, x120001, x127000, x127001, h, rfl⟩ := hI
 cases m with
 | zero => simp [spec_l11Text.l1] at h
 | succ k' =>
 simp only [spec_l11Text.l1] at h
 by_cases c5 : x22 < x21
 · rw [if_pos c5] at h
   by_cases c6 : 0 ≤ x22
   · rw [if_pos c6] at h
     by_cases c7 : x22 < (x20.length : Int)
     · rw [if_pos c7] at h
       by_cases c8 : x127001.length < 4398046511104
       · rw [if_pos c8] at h
         refine path_ok (k := 12) hF (RetQ_mild _ _ _ _ _ _ _ _) (ds := [.b true, .e 24 (.rf [.v (.int .i64 (rd x20 x22))]), .p 30 ([[.v (.int .i64 (rd x20 x22)), .sl 2 (r95 [])]]), .o 31 (r95 (x127001 ++ [(⟨rd x20 x22, ([] : List (S95))⟩ : S95)]))]) (os := []) (c := none) rfl KD ?_
         exact WS.lpc [(1004, some 1004), (3257, some 3257), (1007, some 1007), (3449, some 3449)] (hJ1 _ _ (Nat.lt_succ_self _) ⟨by omega, x12, x13, x14, x20, x21, (wrap64 (x22 + 1)), x120000, x120001, x127000, (x127001 ++ [(⟨rd x20 x22, ([] : List (S95))⟩ : S95)]), h, rfl⟩) KD
       · rw [if_neg c8] at h
         cases h
     · rw [if_neg c7] at h
       cases h
   · rw [if_neg c6] at h
     cases h
 · rw [if_neg c5] at h
   by_cases c9 : x120001.length < 4398046511104
   · rw [if_pos c9] at h
     refine path_ok (k := 8) hF (RetQ_mild _ _ _ _ _ _ _ _) (ds := [.b false, .p 37 ([[.v (.int .i64 x127000), .sl 2 (r95 x127001)]]), .o 38 (r95 (x120001 ++ [(⟨x127000, x127001⟩ : S95)]))]) (os := []) (c := none) rfl KD ?_
     exact WS.lpc [(1004, some 1004), (3257, some 3257)] (hJ0 _ _ (by omega) ⟨x12, x13, (wrap64 (x14 + 1)), x120000, (x120001 ++ [(⟨x127000, x127001⟩ : S95)]), h, rfl⟩) KD
   · rw [if_neg c9] at h
     cases h
theorem spec_l11Text.cs (k : Nat) : spec_l11Text.C k := by
 induction k using Nat.strongRecOn with
 | _ k ih0 =>
 have ih : Kp (∀ m, m < k → spec_l11Text.C m) := ⟨ih0⟩
 exact ⟨spec_l11Text.c_l0 k ih, spec_l11Text.c_l1 k ih⟩
set_option maxRecDepth 100000 in
set_option maxHeartbeats 4000000 in
theorem spec_l11Text.ctr (k : Nat) (l0 : List (List Int)) (r1 : ByteArray) (r2 : Bool) (h : spec_l11Text.f k l0 = some (r1, r2)) : Ctr TE 75 none [.sl 1 (rX (cL (cI .i64) 1) l0)] [.ro (.v (.string r1)), .ro (.v (.bool r2))] [] := by
 refine ctr_of (fn := Tryd.f75) (c := (bodyOf Tryd.f75)) Tryd.func75 rfl (by kernel_rfl) (Nat.le_of_ble_eq_true (by kernel_rfl)) (fun w ro B hF _ => ?_)
 have ih : Kp (∀ m, m < k + 1 → spec_l11Text.C m) := ⟨fun m _ => spec_l11Text.cs m⟩
 simp only [spec_l11Text.f] at h
 refine path_ok (k := 8) hF (RetQ_mild _ _ _ _ _ _ _ _) (ds := [.p 10 ([]), .e 13 (.v (.int .i64 (l0.length : Int)))]) (os := []) (c := none) rfl KD ?_
 exact WS.can [(1004, some 4), (3257, some 10)] (((ih.out k (by omega)).s_l0  r1 r2 w ro B hF l0 (l0.length : Int) 0 0 (([] : List (S95))) h).out) KD
def spec_l1In.f (a0 : Int) (a1 : Int) (a2 : Int) : Option (Bool) := if a0 ≥ a1 then (some (decide (a0 ≤ a2))) else (some false)
set_option maxRecDepth 100000 in
set_option maxHeartbeats 4000000 in
theorem spec_l1In.ctr (a0 : Int) (a1 : Int) (a2 : Int) (r : Bool) (h : spec_l1In.f a0 a1 a2 = some r) : Ctr TE 74 none [.v (.int .i64 a0), .v (.int .i64 a1), .v (.int .i64 a2)] [.ro (.v (.bool r))] [] := by
 refine ctr_of (fn := Tryd.f74) (c := (bodyOf Tryd.f74)) Tryd.func74 rfl (by kernel_rfl) (Nat.le_of_ble_eq_true (by kernel_rfl)) (fun w ro B hF _ => ?_)
 simp only [spec_l1In.f] at h
 by_cases c1 : a0 ≥ a1
 · rw [if_pos c1] at h
   refine path_ok (k := 5) hF (RetQ_mild _ _ _ _ _ _ _ _) (ds := [.b true, .b true, .b true, .b true]) (os := []) (c := none) rfl KD ?_
   cases h
   exact ret_as (ms := [.ro]) rfl KD
 · rw [if_neg c1] at h
   refine path_ok (k := 5) hF (RetQ_mild _ _ _ _ _ _ _ _) (ds := [.b false, .b false, .b false, .b false]) (os := []) (c := none) rfl KD ?_
   cases h
   exact ret_as (ms := [.ro]) rfl KD
mutual
def spec_l13Num.j0 : Nat → ByteArray → Bool → Option (Int × Bool)
  | 0, _, _ => none
  | k + 1, x0, x4 => if x4 = true then (if 1 ≤ (x0.size : Int) then (spec_l13Num.j1 k (x0.extract 1 x0.size) x4) else (none)) else (spec_l13Num.j1 k x0 x4)
def spec_l13Num.j1 : Nat → ByteArray → Bool → Option (Int × Bool)
  | 0, _, _ => none
  | k + 1, x0, x4 => if (x0.size : Int) = 0 then (spec_l13Num.j2 k x0 x4 true) else (if (x0.size : Int) > 17 then (spec_l13Num.j2 k x0 x4 true) else (if 0 < (x0.size : Int) then (if (bt x0 0) = 48 then (if (x0.size : Int) > 1 then (spec_l13Num.j2 k x0 x4 true) else (spec_l13Num.j2 k x0 x4 x4)) else (spec_l13Num.j2 k x0 x4 false)) else (none)))
def spec_l13Num.j2 : Nat → ByteArray → Bool → Bool → Option (Int × Bool)
  | 0, _, _, _ => none
  | k + 1, x0, x4, x38 => if x38 = true then (some (0, false)) else (spec_l13Num.l0 k x0 x4 0 0)
def spec_l13Num.l0 : Nat → ByteArray → Bool → Int → Int → Option (Int × Bool)
  | 0, _, _, _, _ => none
  | k + 1, x0, x4, x5, x6 => if x6 < (x0.size : Int) then (if 0 ≤ x6 then (if (bt x0 x6) < 48 then (some (0, false)) else (if (bt x0 x6) > 57 then (some (0, false)) else (spec_l13Num.l0 k x0 x4 (wrap64 ((wrap64 (x5 * 10)) + (((bt x0 x6) - 48) % 256))) (wrap64 (x6 + 1))))) else (none)) else (if x4 = true then (some (wrap64 (-x5), true)) else (some (x5, true)))
end
def spec_l13Num.f (k : Nat) (a0 : ByteArray) : Option (Int × Bool) := if (a0.size : Int) > 0 then (if 0 < (a0.size : Int) then (spec_l13Num.j0 k a0 ((bt a0 0) == 45)) else (none)) else (spec_l13Num.j0 k a0 false)
def spec_l13Num.I0 (r1 : Int) (r2 : Bool) (m : Nat) (σ : St) : Prop := ∃ (x0 : ByteArray) (x4 : Bool) (x5 : Int) (x6 : Int), spec_l13Num.l0 m x0 x4 x5 x6 = some (r1, r2) ∧ σ = ⟨[(0, .v (.string x0)), (4, .v (.bool x4)), (5, .v (.int .i64 x5)), (6, .v (.int .i64 x6))], []⟩
structure spec_l13Num.C (k : Nat) : Prop where
 s_j0 : ∀ (r1 : Int) (r2 : Bool) (w : World) (ro : Nat → Prop) (B : Nat) (_ : Fr TE (cx0 Tryd.f157 none w ro B)) (x0 : ByteArray) (x4 : Bool) (_ : spec_l13Num.j0 k x0 x4 = some (r1, r2)), Kp (WS TE (cx0 Tryd.f157 none w ro B) (stkAt [1, 0, 9] [] (bodyOf Tryd.f157) []) ⟨[(0, .v (.string x0)), (4, .v (.bool x4))], []⟩ (RetQ TE Tryd.f157 none [.ro (.v (.int .i64 r1)), .ro (.v (.bool r2))] [] w ro B))
 s_j1 : ∀ (r1 : Int) (r2 : Bool) (w : World) (ro : Nat → Prop) (B : Nat) (_ : Fr TE (cx0 Tryd.f157 none w ro B)) (x0 : ByteArray) (x4 : Bool) (_ : spec_l13Num.j1 k x0 x4 = some (r1, r2)), Kp (WS TE (cx0 Tryd.f157 none w ro B) (stkAt [1, 1, 0, 1, 9] [] (bodyOf Tryd.f157) []) ⟨[(0, .v (.string x0)), (4, .v (.bool x4))], []⟩ (RetQ TE Tryd.f157 none [.ro (.v (.int .i64 r1)), .ro (.v (.bool r2))] [] w ro B))
 s_j2 : ∀ (r1 : Int) (r2 : Bool) (w : World) (ro : Nat → Prop) (B : Nat) (_ : Fr TE (cx0 Tryd.f157 none w ro B)) (x0 : ByteArray) (x4 : Bool) (x38 : Bool) (_ : spec_l13Num.j2 k x0 x4 x38 = some (r1, r2)), Kp (WS TE (cx0 Tryd.f157 none w ro B) (stkAt [1, 1, 1, 0, 0, 9] [] (bodyOf Tryd.f157) []) ⟨[(0, .v (.string x0)), (4, .v (.bool x4)), (38, .v (.bool x38))], []⟩ (RetQ TE Tryd.f157 none [.ro (.v (.int .i64 r1)), .ro (.v (.bool r2))] [] w ro B))
 s_l0 : ∀ (r1 : Int) (r2 : Bool) (w : World) (ro : Nat → Prop) (B : Nat) (_ : Fr TE (cx0 Tryd.f157 none w ro B)) (x0 : ByteArray) (x4 : Bool) (x5 : Int) (x6 : Int) (_ : spec_l13Num.l0 k x0 x4 x5 x6 = some (r1, r2)), Kp (WS TE (cx0 Tryd.f157 none w ro B) (stkAt [1, 1, 1, 1, 1, 0, 1, 0] [] (bodyOf Tryd.f157) []) ⟨[(0, .v (.string x0)), (4, .v (.bool x4)), (5, .v (.int .i64 x5)), (6, .v (.int .i64 x6))], []⟩ (RetQ TE Tryd.f157 none [.ro (.v (.int .i64 r1)), .ro (.v (.bool r2))] [] w ro B))
set_option maxRecDepth 100000 in
set_option maxHeartbeats 4000000 in
theorem spec_l13Num.c_j0 (k : Nat) (ih : Kp (∀ m, m < k → spec_l13Num.C m)) (r1 : Int) (r2 : Bool) (w : World) (ro : Nat → Prop) (B : Nat) (hF : Fr TE (cx0 Tryd.f157 none w ro B)) (x0 : ByteArray) (x4 : Bool) (h : spec_l13Num.j0 k x0 x4 = some (r1, r2)) : Kp (WS TE (cx0 Tryd.f157 none w ro B) (stkAt [1, 0, 9] [] (bodyOf Tryd.f157) []) ⟨[(0, .v (.string x0)), (4, .v (.bool x4))], []⟩ (RetQ TE Tryd.f157 none [.ro (.v (.int .i64 r1)), .ro (.v (.bool r2))] [] w ro B)) := by
 refine ⟨?_⟩
 cases k with
 | zero => simp [spec_l13Num.j0] at h
 | succ k =>
 simp only [spec_l13Num.j0] at h
 by_cases c4 : x4 = true
 · rw [if_pos c4] at h
   by_cases c5 : 1 ≤ (x0.size : Int)
   · rw [if_pos c5] at h
     refine path_ok (k := 5) hF (RetQ_mild _ _ _ _ _ _ _ _) (ds := [.b true]) (os := []) (c := none) rfl KD ?_
     exact WS.can [] (((ih.out k (by omega)).s_j1  r1 r2 w ro B hF (x0.extract 1 x0.size) x4 h).out) KD
   · rw [if_neg c5] at h
     cases h
 · rw [if_neg c4] at h
   refine path_ok (k := 5) hF (RetQ_mild _ _ _ _ _ _ _ _) (ds := [.b false]) (os := []) (c := none) rfl KD ?_
   exact WS.can [] (((ih.out k (by omega)).s_j1  r1 r2 w ro B hF x0 x4 h).out) KD
set_option maxRecDepth 100000 in
set_option maxHeartbeats 4000000 in
theorem spec_l13Num.c_j1 (k : Nat) (ih : Kp (∀ m, m < k → spec_l13Num.C m)) (r1 : Int) (r2 : Bool) (w : World) (ro : Nat → Prop) (B : Nat) (hF : Fr TE (cx0 Tryd.f157 none w ro B)) (x0 : ByteArray) (x4 : Bool) (h : spec_l13Num.j1 k x0 x4 = some (r1, r2)) : Kp (WS TE (cx0 Tryd.f157 none w ro B) (stkAt [1, 1, 0, 1, 9] [] (bodyOf Tryd.f157) []) ⟨[(0, .v (.string x0)), (4, .v (.bool x4))], []⟩ (RetQ TE Tryd.f157 none [.ro (.v (.int .i64 r1)), .ro (.v (.bool r2))] [] w ro B)) := by
 refine ⟨?_⟩
 cases k with
 | zero => simp [spec_l13Num.j1] at h
 | succ k =>
 simp only [spec_l13Num.j1] at h
 by_cases c6 : (x0.size : Int) = 0
 · rw [if_pos c6] at h
   refine path_ok (k := 3) hF (RetQ_mild _ _ _ _ _ _ _ _) (ds := [.b true, .b true, .b true, .b true, .b true, .b true, .b true, .b true, .b true, .b true]) (os := []) (c := none) rfl KD ?_
   exact WS.can [] (((ih.out k (by omega)).s_j2  r1 r2 w ro B hF x0 x4 true h).out) KD
 · rw [if_neg c6] at h
   by_cases c7 : (x0.size : Int) > 17
   · rw [if_pos c7] at h
     refine path_ok (k := 3) hF (RetQ_mild _ _ _ _ _ _ _ _) (ds := [.b false, .b false, .b false, .b false, .b true, .b true, .b true, .b true, .b true, .b true]) (os := []) (c := none) rfl KD ?_
     exact WS.can [] (((ih.out k (by omega)).s_j2  r1 r2 w ro B hF x0 x4 true h).out) KD
   · rw [if_neg c7] at h
     by_cases c8 : 0 < (x0.size : Int)
     · rw [if_pos c8] at h
       by_cases c9 : (bt x0 0) = 48
       · rw [if_pos c9] at h
         by_cases c10 : (x0.size : Int) > 1
         · rw [if_pos c10] at h
           have hb10 := bt_range x0 0
           refine path_ok (k := 3) hF (RetQ_mild _ _ _ _ _ _ _ _) (ds := [.b false, .b false, .b false, .b false, .b false, .b false, .b false, .b false, .b true, .b true, .b true, .b true, .b true, .b true, .b true, .b false, .b true, .b false]) (os := []) (c := none) rfl KD ?_
           exact WS.can [] (((ih.out k (by omega)).s_j2  r1 r2 w ro B hF x0 x4 true h).out) KD
         · rw [if_neg c10] at h
           have hb11 := bt_range x0 0
           refine path_ok (k := 3) hF (RetQ_mild _ _ _ _ _ _ _ _) (ds := [.b false, .b false, .b false, .b false, .b false, .b false, .b false, .b false, .b true, .b true, .b true, .b true, .b false, .b true, .b false, .b false, .b true, .b false]) (os := []) (c := none) rfl KD ?_
           exact WS.can [] (((ih.out k (by omega)).s_j2  r1 r2 w ro B hF x0 x4 x4 h).out) KD
       · rw [if_neg c9] at h
         have hb12 := bt_range x0 0
         refine path_ok (k := 3) hF (RetQ_mild _ _ _ _ _ _ _ _) (ds := [.b false, .b false, .b false, .b false, .b false, .b false, .b false, .b false, .b false, .b false, .b false, .b false, .b false, .b false, .b false, .b false]) (os := []) (c := none) rfl KD ?_
         exact WS.can [] (((ih.out k (by omega)).s_j2  r1 r2 w ro B hF x0 x4 false h).out) KD
     · rw [if_neg c8] at h
       cases h
set_option maxRecDepth 100000 in
set_option maxHeartbeats 4000000 in
theorem spec_l13Num.c_j2 (k : Nat) (ih : Kp (∀ m, m < k → spec_l13Num.C m)) (r1 : Int) (r2 : Bool) (w : World) (ro : Nat → Prop) (B : Nat) (hF : Fr TE (cx0 Tryd.f157 none w ro B)) (x0 : ByteArray) (x4 : Bool) (x38 : Bool) (h : spec_l13Num.j2 k x0 x4 x38 = some (r1, r2)) : Kp (WS TE (cx0 Tryd.f157 none w ro B) (stkAt [1, 1, 1, 0, 0, 9] [] (bodyOf Tryd.f157) []) ⟨[(0, .v (.string x0)), (4, .v (.bool x4)), (38, .v (.bool x38))], []⟩ (RetQ TE Tryd.f157 none [.ro (.v (.int .i64 r1)), .ro (.v (.bool r2))] [] w ro B)) := by
 refine ⟨?_⟩
 cases k with
 | zero => simp [spec_l13Num.j2] at h
 | succ k =>
 simp only [spec_l13Num.j2] at h
 by_cases c14 : x38 = true
 · rw [if_pos c14] at h
   refine path_ok (k := 4) hF (RetQ_mild _ _ _ _ _ _ _ _) (ds := [.b true]) (os := []) (c := none) rfl KD ?_
   cases h
   exact ret_as (ms := [.ro, .ro]) rfl KD
 · rw [if_neg c14] at h
   refine path_ok (k := 8) hF (RetQ_mild _ _ _ _ _ _ _ _) (ds := [.b false]) (os := []) (c := none) rfl KD ?_
   exact WS.can [] (((ih.out k (by omega)).s_l0  r1 r2 w ro B hF x0 x4 0 0 h).out) KD
set_option maxRecDepth 100000 in
set_option maxHeartbeats 4000000 in
theorem spec_l13Num.c_l0 (k : Nat) (ih : Kp (∀ m, m < k → spec_l13Num.C m)) (r1 : Int) (r2 : Bool) (w : World) (ro : Nat → Prop) (B : Nat) (hF : Fr TE (cx0 Tryd.f157 none w ro B)) (x0 : ByteArray) (x4 : Bool) (x5 : Int) (x6 : Int) (h : spec_l13Num.l0 k x0 x4 x5 x6 = some (r1, r2)) : Kp (WS TE (cx0 Tryd.f157 none w ro B) (stkAt [1, 1, 1, 1, 1, 0, 1, 0] [] (bodyOf Tryd.f157) []) ⟨[(0, .v (.string x0)), (4, .v (.bool x4)), (5, .v (.int .i64 x5)), (6, .v (.int .i64 x6))], []⟩ (RetQ TE Tryd.f157 none [.ro (.v (.int .i64 r1)), .ro (.v (.bool r2))] [] w ro B)) := by
 refine ⟨WS.loop (fun m σ => m ≤ k ∧ spec_l13Num.I0 r1 r2 m σ) k ⟨Nat.le_refl k, x0, x4, x5, x6, h, rfl⟩ (fun m σ' hI J0 hJ0 => ?_)⟩
 clear h
 obtain ⟨hk, x0, x4, x5, x6, h, rfl⟩ := hI
 cases m with
 | zero => simp [spec_l13Num.l0] at h
 | succ k' =>
 simp only [spec_l13Num.l0] at h
 by_cases c15 : x6 < (x0.size : Int)
 · rw [if_pos c15] at h
   by_cases c16 : 0 ≤ x6
   · rw [if_pos c16] at h
     by_cases c17 : (bt x0 x6) < 48
     · rw [if_pos c17] at h
       have hb17 := bt_range x0 x6
       refine path_ok (k := 14) hF (RetQ_mild _ _ _ _ _ _ _ _) (ds := [.b true, .b true, .b true, .b true, .b true, .b true, .b true]) (os := []) (c := none) rfl KD ?_
       cases h
       exact ret_as (ms := [.ro, .ro]) rfl KD
     · rw [if_neg c17] at h
       by_cases c19 : (bt x0 x6) > 57
       · rw [if_pos c19] at h
         have hb19 := bt_range x0 x6
         refine path_ok (k := 14) hF (RetQ_mild _ _ _ _ _ _ _ _) (ds := [.b true, .b false, .b false, .b false, .b false, .b false, .b true]) (os := []) (c := none) rfl KD ?_
         cases h
         exact ret_as (ms := [.ro, .ro]) rfl KD
       · rw [if_neg c19] at h
         have hb20 := bt_range x0 x6
         refine path_ok (k := 15) hF (RetQ_mild _ _ _ _ _ _ _ _) (ds := [.b true, .b false, .b false, .b false, .b false, .b false, .b false, .e 60 (.v (.int .u8 (((bt x0 x6) - 48) % 256))), .e 61 (.v (.int .i64 (((bt x0 x6) - 48) % 256)))]) (os := []) (c := none) rfl KD ?_
         exact WS.lpc [] (hJ0 _ _ (Nat.lt_succ_self _) ⟨by omega, x0, x4, (wrap64 ((wrap64 (x5 * 10)) + (((bt x0 x6) - 48) % 256))), (wrap64 (x6 + 1)), h, rfl⟩) KD
   · rw [if_neg c16] at h
     cases h
 · rw [if_neg c15] at h
   by_cases c22 : x4 = true
   · rw [if_pos c22] at h
     refine path_ok (k := 13) hF (RetQ_mild _ _ _ _ _ _ _ _) (ds := [.b false, .b true, .e 65 (.v (.int .i64 (wrap64 (-x5))))]) (os := []) (c := none) rfl KD ?_
     cases h
     exact ret_as (ms := [.ro, .ro]) rfl KD
   · rw [if_neg c22] at h
     refine path_ok (k := 13) hF (RetQ_mild _ _ _ _ _ _ _ _) (ds := [.b false, .b false]) (os := []) (c := none) rfl KD ?_
     cases h
     exact ret_as (ms := [.ro, .ro]) rfl KD
theorem spec_l13Num.cs (k : Nat) : spec_l13Num.C k := by
 induction k using Nat.strongRecOn with
 | _ k ih0 =>
 have ih : Kp (∀ m, m < k → spec_l13Num.C m) := ⟨ih0⟩
 exact ⟨spec_l13Num.c_j0 k ih, spec_l13Num.c_j1 k ih, spec_l13Num.c_j2 k ih, spec_l13Num.c_l0 k ih⟩
set_option maxRecDepth 100000 in
set_option maxHeartbeats 4000000 in
theorem spec_l13Num.ctr (k : Nat) (a0 : ByteArray) (r1 : Int) (r2 : Bool) (h : spec_l13Num.f k a0 = some (r1, r2)) : Ctr TE 157 none [.v (.string a0)] [.ro (.v (.int .i64 r1)), .ro (.v (.bool r2))] [] := by
 refine ctr_of (fn := Tryd.f157) (c := (bodyOf Tryd.f157)) Tryd.func157 rfl (by kernel_rfl) (Nat.le_of_ble_eq_true (by kernel_rfl)) (fun w ro B hF _ => ?_)
 have ih : Kp (∀ m, m < k + 1 → spec_l13Num.C m) := ⟨fun m _ => spec_l13Num.cs m⟩
 simp only [spec_l13Num.f] at h
 by_cases c1 : (a0.size : Int) > 0
 · rw [if_pos c1] at h
   by_cases c2 : 0 < (a0.size : Int)
   · rw [if_pos c2] at h
     have hb2 := bt_range a0 0
     refine path_ok (k := 4) hF (RetQ_mild _ _ _ _ _ _ _ _) (ds := [.b true, .b true, .b true, .b true]) (os := []) (c := none) rfl KD ?_
     exact WS.can [] (((ih.out k (by omega)).s_j0  r1 r2 w ro B hF a0 ((bt a0 0) == 45) h).out) KD
   · rw [if_neg c2] at h
     cases h
 · rw [if_neg c1] at h
   refine path_ok (k := 4) hF (RetQ_mild _ _ _ _ _ _ _ _) (ds := [.b false, .b false, .b false, .b false]) (os := []) (c := none) rfl KD ?_
   exact WS.can [] (((ih.out k (by omega)).s_j0  r1 r2 w ro B hF a0 false h).out) KD
def spec_l1Reader_number.l0 : Nat → Int → ByteArray → Int → Bool → Option (Int × ByteArray × Int × Bool)
  | 0, _, _, _, _ => none
  | k + 1, x3, x1000, x1001, x1002 => if x1001 < (x1000.size : Int) then (if 0 ≤ x1001 then ((spec_l1In.f (wrap64 (bt x1000 x1001)) 48 57).bind fun t134 => (if t134 = true then (if x1001 < (wrap64 (x3 + 6)) then (spec_l1Reader_number.l0 k x3 x1000 (wrap64 (x1001 + 1)) x1002) else (if 0 ≤ x3 then (if x3 ≤ x1001 then (if x1001 ≤ (x1000.size : Int) then ((spec_l13Num.f k (x1000.extract (x3 : Int).toNat (x1001 : Int).toNat)).bind fun bt135 => (if x1002 = true then (some (bt135.1, x1000, x1001, true)) else (if bt135.2 = true then ((spec_l1In.f bt135.1 0 10006).bind fun t137 => (some (bt135.1, x1000, x1001, !t137))) else (some (bt135.1, x1000, x1001, true))))) else (none)) else (none)) else (none))) else (if 0 ≤ x3 then (if x3 ≤ x1001 then (if x1001 ≤ (x1000.size : Int) then ((spec_l13Num.f k (x1000.extract (x3 : Int).toNat (x1001 : Int).toNat)).bind fun bt138 => (if x1002 = true then (some (bt138.1, x1000, x1001, true)) else (if bt138.2 = true then ((spec_l1In.f bt138.1 0 10006).bind fun t140 => (some (bt138.1, x1000, x1001, !t140))) else (some (bt138.1, x1000, x1001, true))))) else (none)) else (none)) else (none)))) else (none)) else (if 0 ≤ x3 then (if x3 ≤ x1001 then (if x1001 ≤ (x1000.size : Int) then ((spec_l13Num.f k (x1000.extract (x3 : Int).toNat (x1001 : Int).toNat)).bind fun bt141 => (if x1002 = true then (some (bt141.1, x1000, x1001, true)) else (if bt141.2 = true then ((spec_l1In.f bt141.1 0 10006).bind fun t143 => (some (bt141.1, x1000, x1001, !t143))) else (some (bt141.1, x1000, x1001, true))))) else (none)) else (none)) else (none))
def spec_l1Reader_number.f (k : Nat) (s0_0 : ByteArray) (s0_1 : Int) (s0_2 : Bool) : Option (Int × ByteArray × Int × Bool) := spec_l1Reader_number.l0 k s0_1 s0_0 s0_1 s0_2
def spec_l1Reader_number.I0 (s0_0 : ByteArray) (s0_1 : Int) (s0_2 : Bool) (r1 : Int) (r2 : ByteArray) (r3 : Int) (r4 : Bool) (m : Nat) (σ : St) : Prop := ∃ (x3 : Int) (x1000 : ByteArray) (x1001 : Int) (x1002 : Bool), spec_l1Reader_number.l0 m x3 x1000 x1001 x1002 = some (r1, r2, r3, r4) ∧ σ = ⟨[(0, .pt 0 0 0), (3, .v (.int .i64 x3))], [(0, .box 0 132 true [.v (.string x1000), .v (.int .i64 x1001), .v (.bool x1002)])]⟩
structure spec_l1Reader_number.C (k : Nat) : Prop where
 s_l0 : ∀ (s0_0 : ByteArray) (s0_1 : Int) (s0_2 : Bool) (r1 : Int) (r2 : ByteArray) (r3 : Int) (r4 : Bool) (w : World) (ro : Nat → Prop) (B : Nat) (_ : Fr TE (cx0 Tryd.f147 (some (132, [.v (.string s0_0), .v (.int .i64 s0_1), .v (.bool s0_2)])) w ro B)) (x3 : Int) (x1000 : ByteArray) (x1001 : Int) (x1002 : Bool) (_ : spec_l1Reader_number.l0 k x3 x1000 x1001 x1002 = some (r1, r2, r3, r4)), Kp (WS TE (cx0 Tryd.f147 (some (132, [.v (.string s0_0), .v (.int .i64 s0_1), .v (.bool s0_2)])) w ro B) (stkAt [1, 1, 0, 0] [] (bodyOf Tryd.f147) []) ⟨[(0, .pt 0 0 0), (3, .v (.int .i64 x3))], [(0, .box 0 132 true [.v (.string x1000), .v (.int .i64 x1001), .v (.bool x1002)])]⟩ (RetQ TE Tryd.f147 (some (132, [.v (.string s0_0), .v (.int .i64 s0_1), .v (.bool s0_2)])) [.ro (.v (.int .i64 r1))] [.v (.string r2), .v (.int .i64 r3), .v (.bool r4)] w ro B))
set_option maxRecDepth 100000 in
set_option maxHeartbeats 4000000 in
theorem spec_l1Reader_number.c_l0 (k : Nat) (ih : Kp (∀ m, m < k → spec_l1Reader_number.C m)) (s0_0 : ByteArray) (s0_1 : Int) (s0_2 : Bool) (r1 : Int) (r2 : ByteArray) (r3 : Int) (r4 : Bool) (w : World) (ro : Nat → Prop) (B : Nat) (hF : Fr TE (cx0 Tryd.f147 (some (132, [.v (.string s0_0), .v (.int .i64 s0_1), .v (.bool s0_2)])) w ro B)) (x3 : Int) (x1000 : ByteArray) (x1001 : Int) (x1002 : Bool) (h : spec_l1Reader_number.l0 k x3 x1000 x1001 x1002 = some (r1, r2, r3, r4)) : Kp (WS TE (cx0 Tryd.f147 (some (132, [.v (.string s0_0), .v (.int .i64 s0_1), .v (.bool s0_2)])) w ro B) (stkAt [1, 1, 0, 0] [] (bodyOf Tryd.f147) []) ⟨[(0, .pt 0 0 0), (3, .v (.int .i64 x3))], [(0, .box 0 132 true [.v (.string x1000), .v (.int .i64 x1001), .v (.bool x1002)])]⟩ (RetQ TE Tryd.f147 (some (132, [.v (.string s0_0), .v (.int .i64 s0_1), .v (.bool s0_2)])) [.ro (.v (.int .i64 r1))] [.v (.string r2), .v (.int .i64 r3), .v (.bool r4)] w ro B)) := by
 refine ⟨WS.loop (fun m σ => m ≤ k ∧ spec_l1Reader_number.I0 s0_0 s0_1 s0_2 r1 r2 r3 r4 m σ) k ⟨Nat.le_refl k, x3, x1000, x1001, x1002, h, rfl⟩ (fun m σ' hI J0 hJ0 => ?_)⟩
 clear h
 obtain ⟨hk, x3, x1000, x1001, x1002, h, rfl⟩ := hI
 cases m with
 | zero => simp [spec_l1Reader_number.l0] at h
 | succ k' =>
 simp only [spec_l1Reader_number.l0] at h
 by_cases c1 : x1001 < (x1000.size : Int)
 · rw [if_pos c1] at h
   by_cases c2 : 0 ≤ x1001
   · rw [if_pos c2] at h
     obtain ⟨t134, q3, h⟩ := Option.bind_eq_some_iff.1 h
     have q3c := spec_l1In.ctr _ _ _ _ q3
     by_cases c4 : t134 = true
     · rw [if_pos c4] at h
       by_cases c5 : x1001 < (wrap64 (x3 + 6))
       · rw [if_pos c5] at h
         have hb5 := bt_range x1000 x1001
         refine path_ok (k := 8) hF (RetQ_mild _ _ _ _ _ _ _ _) (ds := [.b true, .b true, .b true, .b true, .b true, .b true, .b true, .b true, .b true, .b true, .e 30 (.v (.int .i64 (wrap64 (bt x1000 x1001)))), .b true, .r [.ro (.v (.bool t134))] [], .b true, .b true, .b true, .b true, .b true, .b true, .b true, .b true, .b true, .b true]) (os := [.o [(0, 0), (1, 0), (2, 0), (3, 1), (4, 0), (5, 0), (6, 0), (7, 1), (8, 0), (9, 0), (10, 0), (11, 0), (12, 0), (13, 0), (14, 1), (15, 0), (16, 0), (17, 0), (18, 1), (19, 0), (20, 0), (21, 2), (22, 0), (23, 0), (24, 0), (25, 0), (26, 0), (28, 0), (29, 0), (27, 2), (30, 0), (31, 0)] []]) (c := none) rfl KD ?_
         exact WS.lpc [(0, some 0)] (hJ0 _ _ (Nat.lt_succ_self _) ⟨by omega, x3, x1000, (wrap64 (x1001 + 1)), x1002, h, rfl⟩) KD
       · rw [if_neg c5] at h
         by_cases c7 : 0 ≤ x3
         · rw [if_pos c7] at h
           by_cases c8 : x3 ≤ x1001
           · rw [if_pos c8] at h
             by_cases c9 : x1001 ≤ (x1000.size : Int)
             · rw [if_pos c9] at h
               obtain ⟨⟨t135, t136⟩, q10, h⟩ := Option.bind_eq_some_iff.1 h
               dsimp only at h
               have q10c := spec_l13Num.ctr k' _ _ _ q10
               by_cases c11 : x1002 = true
               · rw [if_pos c11] at h
                 have hb11 := bt_range x1000 x1001
                 refine path_ok (k := 12) hF (RetQ_mild _ _ _ _ _ _ _ _) (ds := [.b true, .b true, .b true, .b true, .b true, .b true, .b true, .b true, .b true, .b true, .e 30 (.v (.int .i64 (wrap64 (bt x1000 x1001)))), .b true, .r [.ro (.v (.bool t134))] [], .b true, .b true, .b true, .b true, .b true, .b true, .b true, .b true, .b true, .b false, .r [.ro (.v (.int .i64 t135)), .ro (.v (.bool t136))] [], .b true, .b true, .b true, .b true, .b true, .b true, .b true]) (os := [.o [(0, 0), (1, 0), (2, 0), (3, 1), (4, 0), (5, 0), (6, 0), (7, 1), (8, 0), (9, 0), (10, 0), (11, 0), (12, 0), (13, 0), (14, 1), (15, 0), (16, 0), (17, 0), (18, 1), (19, 0), (20, 0), (21, 2), (22, 0), (23, 0), (24, 0), (25, 0), (26, 0), (28, 0), (29, 0), (27, 2), (30, 0), (31, 0)] [], .o [(0, 0), (1, 0), (2, 0), (3, 1), (4, 0), (5, 0), (6, 0), (7, 0), (8, 1), (9, 0), (10, 2), (11, 0), (12, 0), (13, 0), (14, 0), (15, 0)] []]) (c := none) rfl KD ?_
                 cases h
                 exact ret_as (ms := [.ro]) rfl KD
               · rw [if_neg c11] at h
                 by_cases c13 : t136 = true
                 · rw [if_pos c13] at h
                   obtain ⟨t137, q14, h⟩ := Option.bind_eq_some_iff.1 h
                   have q14c := spec_l1In.ctr _ _ _ _ q14
                   have hb14 := bt_range x1000 x1001
                   refine path_ok (k := 12) hF (RetQ_mild _ _ _ _ _ _ _ _) (ds := [.b true, .b true, .b true, .b true, .b true, .b true, .b true, .b true, .b true, .b true, .e 30 (.v (.int .i64 (wrap64 (bt x1000 x1001)))), .b true, .r [.ro (.v (.bool t134))] [], .b true, .b true, .b true, .b true, .b true, .b true, .b true, .b true, .b true, .b false, .r [.ro (.v (.int .i64 t135)), .ro (.v (.bool t136))] [], .b false, .b false, .b false, .b false, .b false, .r [.ro (.v (.bool t137))] [], .b false, .b false]) (os := [.o [(0, 0), (1, 0), (2, 0), (3, 1), (4, 0), (5, 0), (6, 0), (7, 1), (8, 0), (9, 0), (10, 0), (11, 0), (12, 0), (13, 0), (14, 1), (15, 0), (16, 0), (17, 0), (18, 1), (19, 0), (20, 0), (21, 2), (22, 0), (23, 0), (24, 0), (25, 0), (26, 0), (28, 0), (29, 0), (27, 2), (30, 0), (31, 0)] [], .o [(0, 0), (1, 0), (2, 0), (3, 1), (4, 0), (5, 0), (6, 0), (7, 0), (8, 1), (9, 0), (10, 2), (11, 0), (12, 0), (13, 0), (14, 0), (15, 0)] []]) (c := none) rfl KD ?_
                   cases h
                   exact ret_as (ms := [.ro]) rfl KD
                 · rw [if_neg c13] at h
                   have hb15 := bt_range x1000 x1001
                   refine path_ok (k := 12) hF (RetQ_mild _ _ _ _ _ _ _ _) (ds := [.b true, .b true, .b true, .b true, .b true, .b true, .b true, .b true, .b true, .b true, .e 30 (.v (.int .i64 (wrap64 (bt x1000 x1001)))), .b true, .r [.ro (.v (.bool t134))] [], .b true, .b true, .b true, .b true, .b true, .b true, .b true, .b true, .b true, .b false, .r [.ro (.v (.int .i64 t135)), .ro (.v (.bool t136))] [], .b false, .b false, .b false, .b true, .b true, .b true, .b true]) (os := [.o [(0, 0), (1, 0), (2, 0), (3, 1), (4, 0), (5, 0), (6, 0), (7, 1), (8, 0), (9, 0), (10, 0), (11, 0), (12, 0), (13, 0), (14, 1), (15, 0), (16, 0), (17, 0), (18, 1), (19, 0), (20, 0), (21, 2), (22, 0), (23, 0), (24, 0), (25, 0), (26, 0), (28, 0), (29, 0), (27, 2), (30, 0), (31, 0)] [], .o [(0, 0), (1, 0), (2, 0), (3, 1), (4, 0), (5, 0), (6, 0), (7, 0), (8, 1), (9, 0), (10, 2), (11, 0), (12, 0), (13, 0), (14, 0), (15, 0)] []]) (c := none) rfl KD ?_
                   cases h
                   exact ret_as (ms := [.ro]) rfl KD
             · rw [if_neg c9] at h
               cases h
           · rw [if_neg c8] at h
             cases h
         · rw [if_neg c7] at h
           cases h
     · rw [if_neg c4] at h
       by_cases c17 : 0 ≤ x3
       · rw [if_pos c17] at h
         by_cases c18 : x3 ≤ x1001
         · rw [if_pos c18] at h
           by_cases c19 : x1001 ≤ (x1000.size : Int)
           · rw [if_pos c19] at h
             obtain ⟨⟨t138, t139⟩, q20, h⟩ := Option.bind_eq_some_iff.1 h
             dsimp only at h
             have q20c := spec_l13Num.ctr k' _ _ _ q20
             by_cases c21 : x1002 = true
             · rw [if_pos c21] at h
               have hb21 := bt_range x1000 x1001
               refine path_ok (k := 12) hF (RetQ_mild _ _ _ _ _ _ _ _) (ds := [.b true, .b true, .b true, .b true, .b true, .b true, .b true, .b true, .b true, .b true, .e 30 (.v (.int .i64 (wrap64 (bt x1000 x1001)))), .b true, .r [.ro (.v (.bool t134))] [], .b true, .b false, .b false, .b false, .b false, .b false, .b false, .b false, .b false, .b false, .r [.ro (.v (.int .i64 t138)), .ro (.v (.bool t139))] [], .b true, .b true, .b true, .b true, .b true, .b true, .b true]) (os := [.o [(0, 0), (1, 0), (2, 0), (3, 1), (4, 0), (5, 0), (6, 0), (7, 1), (8, 0), (9, 0), (10, 0), (11, 0), (12, 0), (13, 0), (14, 1), (15, 0), (16, 0), (17, 0), (18, 1), (19, 0), (20, 0), (21, 2), (22, 0), (23, 0), (24, 0), (25, 0), (26, 0), (28, 0), (29, 0), (27, 2), (30, 0), (31, 0)] [], .o [(0, 0), (1, 0), (2, 0), (3, 1), (4, 0), (5, 0), (6, 0), (7, 0), (8, 1), (9, 0), (10, 2), (11, 0), (12, 0), (13, 0), (14, 0), (15, 0)] []]) (c := none) rfl KD ?_
               cases h
               exact ret_as (ms := [.ro]) rfl KD
             · rw [if_neg c21] at h
               by_cases c23 : t139 = true
               · rw [if_pos c23] at h
                 obtain ⟨t140, q24, h⟩ := Option.bind_eq_some_iff.1 h
                 have q24c := spec_l1In.ctr _ _ _ _ q24
                 have hb24 := bt_range x1000 x1001
                 refine path_ok (k := 12) hF (RetQ_mild _ _ _ _ _ _ _ _) (ds := [.b true, .b true, .b true, .b true, .b true, .b true, .b true, .b true, .b true, .b true, .e 30 (.v (.int .i64 (wrap64 (bt x1000 x1001)))), .b true, .r [.ro (.v (.bool t134))] [], .b true, .b false, .b false, .b false, .b false, .b false, .b false, .b false, .b false, .b false, .r [.ro (.v (.int .i64 t138)), .ro (.v (.bool t139))] [], .b false, .b false, .b false, .b false, .b false, .r [.ro (.v (.bool t140))] [], .b false, .b false]) (os := [.o [(0, 0), (1, 0), (2, 0), (3, 1), (4, 0), (5, 0), (6, 0), (7, 1), (8, 0), (9, 0), (10, 0), (11, 0), (12, 0), (13, 0), (14, 1), (15, 0), (16, 0), (17, 0), (18, 1), (19, 0), (20, 0), (21, 2), (22, 0), (23, 0), (24, 0), (25, 0), (26, 0), (28, 0), (29, 0), (27, 2), (30, 0), (31, 0)] [], .o [(0, 0), (1, 0), (2, 0), (3, 1), (4, 0), (5, 0), (6, 0), (7, 0), (8, 1), (9, 0), (10, 2), (11, 0), (12, 0), (13, 0), (14, 0), (15, 0)] []]) (c := none) rfl KD ?_
                 cases h
                 exact ret_as (ms := [.ro]) rfl KD
               · rw [if_neg c23] at h
                 have hb25 := bt_range x1000 x1001
                 refine path_ok (k := 12) hF (RetQ_mild _ _ _ _ _ _ _ _) (ds := [.b true, .b true, .b true, .b true, .b true, .b true, .b true, .b true, .b true, .b true, .e 30 (.v (.int .i64 (wrap64 (bt x1000 x1001)))), .b true, .r [.ro (.v (.bool t134))] [], .b true, .b false, .b false, .b false, .b false, .b false, .b false, .b false, .b false, .b false, .r [.ro (.v (.int .i64 t138)), .ro (.v (.bool t139))] [], .b false, .b false, .b false, .b true, .b true, .b true, .b true]) (os := [.o [(0, 0), (1, 0), (2, 0), (3, 1), (4, 0), (5, 0), (6, 0), (7, 1), (8, 0), (9, 0), (10, 0), (11, 0), (12, 0), (13, 0), (14, 1), (15, 0), (16, 0), (17, 0), (18, 1), (19, 0), (20, 0), (21, 2), (22, 0), (23, 0), (24, 0), (25, 0), (26, 0), (28, 0), (29, 0), (27, 2), (30, 0), (31, 0)] [], .o [(0, 0), (1, 0), (2, 0), (3, 1), (4, 0), (5, 0), (6, 0), (7, 0), (8, 1), (9, 0), (10, 2), (11, 0), (12, 0), (13, 0), (14, 0), (15, 0)] []]) (c := none) rfl KD ?_
                 cases h
                 exact ret_as (ms := [.ro]) rfl KD
           · rw [if_neg c19] at h
             cases h
         · rw [if_neg c18] at h
           cases h
       · rw [if_neg c17] at h
         cases h
   · rw [if_neg c2] at h
     cases h
 · rw [if_neg c1] at h
   by_cases c27 : 0 ≤ x3
   · rw [if_pos c27] at h
     by_cases c28 : x3 ≤ x1001
     · rw [if_pos c28] at h
       by_cases c29 : x1001 ≤ (x1000.size : Int)
       · rw [if_pos c29] at h
         obtain ⟨⟨t141, t142⟩, q30, h⟩ := Option.bind_eq_some_iff.1 h
         dsimp only at h
         have q30c := spec_l13Num.ctr k' _ _ _ q30
         by_cases c31 : x1002 = true
         · rw [if_pos c31] at h
           refine path_ok (k := 12) hF (RetQ_mild _ _ _ _ _ _ _ _) (ds := [.b false, .b false, .b false, .b false, .b false, .b false, .b false, .b false, .b false, .b false, .b false, .b false, .b false, .b false, .b false, .b false, .b false, .b false, .b false, .b false, .b false, .r [.ro (.v (.int .i64 t141)), .ro (.v (.bool t142))] [], .b true, .b true, .b true, .b true, .b true, .b true, .b true]) (os := [.o [(0, 0), (1, 0), (2, 0), (3, 1), (4, 0), (5, 0), (6, 0), (7, 1), (8, 0), (9, 0), (10, 0), (11, 0), (12, 0), (13, 0), (14, 1), (15, 0), (16, 0), (17, 0), (18, 1), (19, 0), (20, 0), (21, 2), (22, 0), (23, 0), (24, 0), (25, 0), (26, 0), (28, 0), (29, 0), (27, 2), (30, 0), (31, 0)] [], .o [(0, 0), (1, 0), (2, 0), (3, 1), (4, 0), (5, 0), (6, 0), (7, 0), (8, 1), (9, 0), (10, 2), (11, 0), (12, 0), (13, 0), (14, 0), (15, 0)] []]) (c := none) rfl KD ?_
           cases h
           exact ret_as (ms := [.ro]) rfl KD
         · rw [if_neg c31] at h
           by_cases c32 : t142 = true
           · rw [if_pos c32] at h
             obtain ⟨t143, q33, h⟩ := Option.bind_eq_some_iff.1 h
             have q33c := spec_l1In.ctr _ _ _ _ q33
             refine path_ok (k := 12) hF (RetQ_mild _ _ _ _ _ _ _ _) (ds := [.b false, .b false, .b false, .b false, .b false, .b false, .b false, .b false, .b false, .b false, .b false, .b false, .b false, .b false, .b false, .b false, .b false, .b false, .b false, .b false, .b false, .r [.ro (.v (.int .i64 t141)), .ro (.v (.bool t142))] [], .b false, .b false, .b false, .b false, .b false, .r [.ro (.v (.bool t143))] [], .b false, .b false]) (os := [.o [(0, 0), (1, 0), (2, 0), (3, 1), (4, 0), (5, 0), (6, 0), (7, 1), (8, 0), (9, 0), (10, 0), (11, 0), (12, 0), (13, 0), (14, 1), (15, 0), (16, 0), (17, 0), (18, 1), (19, 0), (20, 0), (21, 2), (22, 0), (23, 0), (24, 0), (25, 0), (26, 0), (28, 0), (29, 0), (27, 2), (30, 0), (31, 0)] [], .o [(0, 0), (1, 0), (2, 0), (3, 1), (4, 0), (5, 0), (6, 0), (7, 0), (8, 1), (9, 0), (10, 2), (11, 0), (12, 0), (13, 0), (14, 0), (15, 0)] []]) (c := none) rfl KD ?_
             cases h
             exact ret_as (ms := [.ro]) rfl KD
           · rw [if_neg c32] at h
             refine path_ok (k := 12) hF (RetQ_mild _ _ _ _ _ _ _ _) (ds := [.b false, .b false, .b false, .b false, .b false, .b false, .b false, .b false, .b false, .b false, .b false, .b false, .b false, .b false, .b false, .b false, .b false, .b false, .b false, .b false, .b false, .r [.ro (.v (.int .i64 t141)), .ro (.v (.bool t142))] [], .b false, .b false, .b false, .b true, .b true, .b true, .b true]) (os := [.o [(0, 0), (1, 0), (2, 0), (3, 1), (4, 0), (5, 0), (6, 0), (7, 1), (8, 0), (9, 0), (10, 0), (11, 0), (12, 0), (13, 0), (14, 1), (15, 0), (16, 0), (17, 0), (18, 1), (19, 0), (20, 0), (21, 2), (22, 0), (23, 0), (24, 0), (25, 0), (26, 0), (28, 0), (29, 0), (27, 2), (30, 0), (31, 0)] [], .o [(0, 0), (1, 0), (2, 0), (3, 1), (4, 0), (5, 0), (6, 0), (7, 0), (8, 1), (9, 0), (10, 2), (11, 0), (12, 0), (13, 0), (14, 0), (15, 0)] []]) (c := none) rfl KD ?_
             cases h
             exact ret_as (ms := [.ro]) rfl KD
       · rw [if_neg c29] at h
         cases h
     · rw [if_neg c28] at h
       cases h
   · rw [if_neg c27] at h
     cases h
theorem spec_l1Reader_number.cs (k : Nat) : spec_l1Reader_number.C k := by
 induction k using Nat.strongRecOn with
 | _ k ih0 =>
 have ih : Kp (∀ m, m < k → spec_l1Reader_number.C m) := ⟨ih0⟩
 exact ⟨spec_l1Reader_number.c_l0 k ih⟩
set_option maxRecDepth 100000 in
set_option maxHeartbeats 4000000 in
theorem spec_l1Reader_number.ctr (k : Nat) (s0_0 : ByteArray) (s0_1 : Int) (s0_2 : Bool) (r1 : Int) (r2 : ByteArray) (r3 : Int) (r4 : Bool) (h : spec_l1Reader_number.f k s0_0 s0_1 s0_2 = some (r1, r2, r3, r4)) : Ctr TE 147 (some (132, [.v (.string s0_0), .v (.int .i64 s0_1), .v (.bool s0_2)])) [.pt 0 0 0] [.ro (.v (.int .i64 r1))] [.v (.string r2), .v (.int .i64 r3), .v (.bool r4)] := by
 refine ctr_of (fn := Tryd.f147) (c := (bodyOf Tryd.f147)) Tryd.func147 rfl (by kernel_rfl) (Nat.le_of_ble_eq_true (by kernel_rfl)) (fun w ro B hF _ => ?_)
 have ih : Kp (∀ m, m < k + 1 → spec_l1Reader_number.C m) := ⟨fun m _ => spec_l1Reader_number.cs m⟩
 simp only [spec_l1Reader_number.f] at h
 refine path_ok (k := 6) hF (RetQ_mild _ _ _ _ _ _ _ _) (ds := []) (os := []) (c := none) rfl KD ?_
 exact WS.can [(0, some 0)] (((ih.out k (by omega)).s_l0 s0_0 s0_1 s0_2 r1 r2 r3 r4 w ro B hF s0_1 s0_0 s0_1 s0_2 h).out) KD
def spec_l1Reader_is.f (s0_0 : ByteArray) (s0_1 : Int) (s0_2 : Bool) (a1 : Int) : Option (Bool × ByteArray × Int × Bool) := if s0_1 < (s0_0.size : Int) then (if 0 ≤ s0_1 then (if (bt s0_0 s0_1) = a1 then (some (true, s0_0, wrap64 (s0_1 + 1), s0_2)) else (some (false, s0_0, s0_1, s0_2))) else (none)) else (some (false, s0_0, s0_1, s0_2))
set_option maxRecDepth 100000 in
set_option maxHeartbeats 4000000 in
theorem spec_l1Reader_is.ctr (s0_0 : ByteArray) (s0_1 : Int) (s0_2 : Bool) (a1 : Int) (r1 : Bool) (r2 : ByteArray) (r3 : Int) (r4 : Bool) (h : spec_l1Reader_is.f s0_0 s0_1 s0_2 a1 = some (r1, r2, r3, r4)) : Ctr TE 148 (some (132, [.v (.string s0_0), .v (.int .i64 s0_1), .v (.bool s0_2)])) [.pt 0 0 0, .v (.int .u8 a1)] [.ro (.v (.bool r1))] [.v (.string r2), .v (.int .i64 r3), .v (.bool r4)] := by
 refine ctr_of (fn := Tryd.f148) (c := (bodyOf Tryd.f148)) Tryd.func148 rfl (by kernel_rfl) (Nat.le_of_ble_eq_true (by kernel_rfl)) (fun w ro B hF _ => ?_)
 simp only [spec_l1Reader_is.f] at h
 by_cases c1 : s0_1 < (s0_0.size : Int)
 · rw [if_pos c1] at h
   by_cases c2 : 0 ≤ s0_1
   · rw [if_pos c2] at h
     by_cases c3 : (bt s0_0 s0_1) = a1
     · rw [if_pos c3] at h
       have hb3 := bt_range s0_0 s0_1
       refine path_ok (k := 11) hF (RetQ_mild _ _ _ _ _ _ _ _) (ds := [.b true, .b true, .b true, .b true, .b true, .b true, .b true, .b true, .b true, .b true, .b true, .b true, .b true]) (os := [.o [(0, 0), (1, 0), (2, 0), (3, 1), (4, 0), (5, 0), (6, 0), (7, 1), (8, 0), (9, 0), (10, 0), (11, 0), (12, 0), (13, 0), (14, 1), (15, 0), (16, 0), (17, 0), (18, 1), (19, 0), (20, 0), (21, 0), (22, 0)] []]) (c := none) rfl KD ?_
       cases h
       exact ret_as (ms := [.ro]) rfl KD
     · rw [if_neg c3] at h
       have hb4 := bt_range s0_0 s0_1
       refine path_ok (k := 10) hF (RetQ_mild _ _ _ _ _ _ _ _) (ds := [.b true, .b true, .b true, .b true, .b true, .b true, .b true, .b true, .b true, .b true, .b true, .b true, .b false]) (os := [.o [(0, 0), (1, 0), (2, 0), (3, 1), (4, 0), (5, 0), (6, 0), (7, 1), (8, 0), (9, 0), (10, 0), (11, 0), (12, 0), (13, 0), (14, 1), (15, 0), (16, 0), (17, 0), (18, 1), (19, 0), (20, 0), (21, 0), (22, 0)] []]) (c := none) rfl KD ?_
       cases h
       exact ret_as (ms := [.ro]) rfl KD
   · rw [if_neg c2] at h
     cases h
 · rw [if_neg c1] at h
   refine path_ok (k := 10) hF (RetQ_mild _ _ _ _ _ _ _ _) (ds := [.b false, .b false, .b false, .b false, .b false, .b false, .b false, .b false, .b false, .b false, .b false, .b false, .b false]) (os := [.o [(0, 0), (1, 0), (2, 0), (3, 1), (4, 0), (5, 0), (6, 0), (7, 1), (8, 0), (9, 0), (10, 0), (11, 0), (12, 0), (13, 0), (14, 1), (15, 0), (16, 0), (17, 0), (18, 1), (19, 0), (20, 0), (21, 0), (22, 0)] []]) (c := none) rfl KD ?_
   cases h
   exact ret_as (ms := [.ro]) rfl KD
end Go.Proofs.YtmjoigpnnechgaaDoor.U
