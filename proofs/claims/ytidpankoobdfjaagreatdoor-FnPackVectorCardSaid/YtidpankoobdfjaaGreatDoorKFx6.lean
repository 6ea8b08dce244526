/- A part of the claim. -/
import Derived.Test.YtidpankoobdfjaaGreatDoorKFx0
import Derived.Test.YtidpankoobdfjaaGreatDoorKFx1
import Derived.Test.YtidpankoobdfjaaGreatDoorKFx5
import Derived.Test.YtidpankoobdfjaaGreatDoorKFSgc
-- PRINTED by print.py (a twelfth state) out of the translation. Not trusted: Lean checks it.
namespace Go.Proofs.YtidpankoobdfjaaGreatDoor.K
open Go.RowKit Go.Proofs.YtidpankoobdfjaaGreatDoorW.St Go.Proofs.YtidpankoobdfjaaGreatDoorW.PrintWords Go.Proofs.YtidpankoobdfjaaGreatDoorW.PrintLast Go.Proofs.YtidpankoobdfjaaGreatDoorW.PrintMore
attribute [local go_sem] max2_int min2_int max_two min_two max_three min_three max_four min_four   -- for this text's walks alone
set_option linter.unusedVariables false
set_option linter.unusedSimpArgs false
mutual
def spec_l1Text.l0 : Nat → Int → ByteArray → List (S79) → Int → Int → Option (ByteArray)
  | 0, _, _, _, _, _ => none
  | k + 1, x1, x5, x14, x15, x16 => if x16 < x15 then (if 0 ≤ x16 then (if x16 < (x14.length : Int) then (if x16 > 0 then (if x5.size + 1 ≤ 9223372036854775807 then ((spec_l1Text.f k ((rd_T79 x14 x16).f0) ((rd_T79 x14 x16).f1) (wrap64 (x1 - 1))).bind fun t548 => (if x5.size + 1 + t548.size ≤ 9223372036854775807 then (spec_l1Text.l0 k x1 ((x5 ++ (⟨#[44]⟩ : ByteArray)) ++ t548) x14 x15 (wrap64 (x16 + 1))) else (none))) else (none)) else ((spec_l1Text.f k ((rd_T79 x14 x16).f0) ((rd_T79 x14 x16).f1) (wrap64 (x1 - 1))).bind fun t549 => (if x5.size + t549.size ≤ 9223372036854775807 then (spec_l1Text.l0 k x1 (x5 ++ t549) x14 x15 (wrap64 (x16 + 1))) else (none)))) else (none)) else (none)) else (if x5.size + 1 ≤ 9223372036854775807 then (some (x5 ++ (⟨#[93]⟩ : ByteArray))) else (none))
def spec_l1Text.f : Nat → Int → List (S79) → Int → Option (ByteArray)
  | 0, _, _, _ => none
  | k + 1, a0_0, l0_1, a1 => if a1 = 0 then ((spec_l13Dec.f k a0_0).bind fun t545 => (some t545)) else (spec_l1Text.l0 k a1 (⟨#[91]⟩ : ByteArray) l0_1 (l0_1.length : Int) 0)
end
def spec_l1Text.I0 (r : ByteArray) (m : Nat) (σ : St) : Prop := ∃ (x1 : Int) (x5 : ByteArray) (x14 : List (S79)) (x15 : Int) (x16 : Int), spec_l1Text.l0 m x1 x5 x14 x15 x16 = some r ∧ σ = ⟨[(1, .v (.int .i64 x1)), (5, .v (.string x5)), (14, .sl 2 (r79 x14)), (15, .v (.int .i64 x15)), (16, .v (.int .i64 x16))], []⟩
structure spec_l1Text.C (k : Nat) : Prop where
 s_f : ∀ (a0_0 : Int) (l0_1 : List (S79)) (a1 : Int) (r : ByteArray), spec_l1Text.f k a0_0 l0_1 a1 = some r → Ctr TE 92 none [.ag [.v (.int .i64 a0_0), .sl 2 (r79 l0_1)], .v (.int .i64 a1)] [.ro (.v (.string r))] []
 s_l0 : ∀ (r : ByteArray) (w : World) (ro : Nat → Prop) (B : Nat) (_ : Fr TE (cx0 Tryz.f92 none w ro B)) (x1 : Int) (x5 : ByteArray) (x14 : List (S79)) (x15 : Int) (x16 : Int) (_ : spec_l1Text.l0 k x1 x5 x14 x15 x16 = some r), Kp (WS TE (cx0 Tryz.f92 none w ro B) (stkAt [1, 1, 1, 0, 1, 0] [] (bodyOf Tryz.f92) []) ⟨[(1, .v (.int .i64 x1)), (5, .v (.string x5)), (14, .sl 2 (r79 x14)), (15, .v (.int .i64 x15)), (16, .v (.int .i64 x16))], []⟩ (RetQ TE Tryz.f92 none [.ro (.v (.string r))] [] w ro B))
set_option maxRecDepth 100000 in
set_option maxHeartbeats 4000000 in
theorem spec_l1Text.c_f (k : Nat) (ih : Kp (∀ m, m < k → spec_l1Text.C m)) (a0_0 : Int) (l0_1 : List (S79)) (a1 : Int) (r : ByteArray) (h : spec_l1Text.f k a0_0 l0_1 a1 = some r) : Ctr TE 92 none [.ag [.v (.int .i64 a0_0), .sl 2 (r79 l0_1)], .v (.int .i64 a1)] [.ro (.v (.string r))] [] := by
 cases k with
 | zero => simp [spec_l1Text.f] at h
 | succ k =>
 simp only [spec_l1Text.f] at h
 refine ctr_of (fn := Tryz.f92) (c := (bodyOf Tryz.f92)) Tryz.func92 rfl (by kernel_rfl) (Nat.le_of_ble_eq_true (by kernel_rfl)) (fun w ro B hF _ => ?_)
 by_cases c1 : a1 = 0
 · rw [if_pos c1] at h
   obtain ⟨t545, q2, h⟩ := Option.bind_eq_some_iff.1 h
   have q2c := spec_l13Dec.ctr k _ _ q2
   refine path_ok (k := 9) hF (RetQ_mild _ _ _ _ _ _ _ _) (ds := [.b true, .r [.ro (.v (.string t545))] []]) (os := []) (c := none) rfl KD ?_
   cases h
   exact ret_as (ms := [.ro]) rfl KD
 · rw [if_neg c1] at h
   refine path_ok (k := 13) hF (RetQ_mild _ _ _ _ _ _ _ _) (ds := [.b false, .e 15 (.v (.int .i64 (l0_1.length : Int)))]) (os := []) (c := none) rfl KD ?_
   exact WS.can [] (((ih.out k (by omega)).s_l0  r w ro B hF a1 (⟨#[91]⟩ : ByteArray) l0_1 (l0_1.length : Int) 0 h).out) KD
set_option maxRecDepth 100000 in
set_option maxHeartbeats 4000000 in
theorem spec_l1Text.c_l0 (k : Nat) (ih : Kp (∀ m, m < k → spec_l1Text.C m)) (r : ByteArray) (w : World) (ro : Nat → Prop) (B : Nat) (hF : Fr TE (cx0 Tryz.f92 none w ro B)) (x1 : Int) (x5 : ByteArray) (x14 : List (S79)) (x15 : Int) (x16 : Int) (h : spec_l1Text.l0 k x1 x5 x14 x15 x16 = some r) : Kp (WS TE (cx0 Tryz.f92 none w ro B) (stkAt [1, 1, 1, 0, 1, 0] [] (bodyOf Tryz.f92) []) ⟨[(1, .v (.int .i64 x1)), (5, .v (.string x5)), (14, .sl 2 (r79 x14)), (15, .v (.int .i64 x15)), (16, .v (.int .i64 x16))], []⟩ (RetQ TE Tryz.f92 none [.ro (.v (.string r))] [] w ro B)) := by
 refine ⟨WS.loop (fun m σ => m ≤ k ∧ spec_l1Text.I0 r m σ) k ⟨Nat.le_refl k, x1, x5, x14, x15, x16, h, rfl⟩ (fun m σ' hI J0 hJ0 => ?_)⟩
 clear h
 obtain ⟨hk, x1, x5, x14, x15, x16, h, rfl⟩ := hI
 cases m with
 | zero => simp [spec_l1Text.l0] at h
 | succ k' =>
 simp only [spec_l1Text.l0] at h
 by_cases c3 : x16 < x15
 · rw [if_pos c3] at h
   by_cases c4 : 0 ≤ x16
   · rw [if_pos c4] at h
     by_cases c5 : x16 < (x14.length : Int)
     · rw [if_pos c5] at h
       by_cases c6 : x16 > 0
       · rw [if_pos c6] at h
         by_cases c7 : x5.size + 1 ≤ 9223372036854775807
         · rw [if_pos c7] at h
           obtain ⟨t548, q8, h⟩ := Option.bind_eq_some_iff.1 h
           have q8c := (ih.out k' (by omega)).s_f _ _ _ _ q8
           by_cases c9 : x5.size + 1 + t548.size ≤ 9223372036854775807
           · rw [if_pos c9] at h
             refine path_ok (k := 17) hF (RetQ_mild _ _ _ _ _ _ _ _) (ds := [.b true, .e 19 (.rf [.v (.int .i64 ((rd_T79 x14 x16).f0)), .sl 2 (r79 ((rd_T79 x14 x16).f1))]), .b true, .r [.ro (.v (.string t548))] []]) (os := []) (c := none) rfl KD ?_
             exact WS.lpc [] (hJ0 _ _ (Nat.lt_succ_self _) ⟨by omega, x1, ((x5 ++ (⟨#[44]⟩ : ByteArray)) ++ t548), x14, x15, (wrap64 (x16 + 1)), h, rfl⟩) KD
           · rw [if_neg c9] at h
             cases h
         · rw [if_neg c7] at h
           cases h
       · rw [if_neg c6] at h
         obtain ⟨t549, q10, h⟩ := Option.bind_eq_some_iff.1 h
         have q10c := (ih.out k' (by omega)).s_f _ _ _ _ q10
         by_cases c11 : x5.size + t549.size ≤ 9223372036854775807
         · rw [if_pos c11] at h
           refine path_ok (k := 17) hF (RetQ_mild _ _ _ _ _ _ _ _) (ds := [.b true, .e 19 (.rf [.v (.int .i64 ((rd_T79 x14 x16).f0)), .sl 2 (r79 ((rd_T79 x14 x16).f1))]), .b false, .r [.ro (.v (.string t549))] []]) (os := []) (c := none) rfl KD ?_
           exact WS.lpc [] (hJ0 _ _ (Nat.lt_succ_self _) ⟨by omega, x1, (x5 ++ t549), x14, x15, (wrap64 (x16 + 1)), h, rfl⟩) KD
         · rw [if_neg c11] at h
           cases h
     · rw [if_neg c5] at h
       cases h
   · rw [if_neg c4] at h
     cases h
 · rw [if_neg c3] at h
   by_cases c12 : x5.size + 1 ≤ 9223372036854775807
   · rw [if_pos c12] at h
     refine path_ok (k := 8) hF (RetQ_mild _ _ _ _ _ _ _ _) (ds := [.b false]) (os := []) (c := none) rfl KD ?_
     cases h
     exact ret_as (ms := [.ro]) rfl KD
   · rw [if_neg c12] at h
     cases h
theorem spec_l1Text.cs (k : Nat) : spec_l1Text.C k := by
 induction k using Nat.strongRecOn with
 | _ k ih0 =>
 have ih : Kp (∀ m, m < k → spec_l1Text.C m) := ⟨ih0⟩
 exact ⟨spec_l1Text.c_f k ih, spec_l1Text.c_l0 k ih⟩
theorem spec_l1Text.ctr (k : Nat) (a0_0 : Int) (l0_1 : List (S79)) (a1 : Int) (r : ByteArray) (h : spec_l1Text.f k a0_0 l0_1 a1 = some r) : Ctr TE 92 none [.ag [.v (.int .i64 a0_0), .sl 2 (r79 l0_1)], .v (.int .i64 a1)] [.ro (.v (.string r))] [] := (spec_l1Text.cs k).s_f a0_0 l0_1 a1 r h
def spec_l1Told.f (k : Nat) (a0_0 : Int) (l0_1 : List (S79)) (a1 : Int) : Option (ByteArray × Bool) := (spec_l1Text.f k a0_0 l0_1 a1).bind fun t551 => (if (t551.size : Int) > 400 then (some ((⟨#[]⟩ : ByteArray), false)) else (some (t551, true)))
set_option maxRecDepth 100000 in
set_option maxHeartbeats 4000000 in
theorem spec_l1Told.ctr (k : Nat) (a0_0 : Int) (l0_1 : List (S79)) (a1 : Int) (r1 : ByteArray) (r2 : Bool) (h : spec_l1Told.f k a0_0 l0_1 a1 = some (r1, r2)) : Ctr TE 50 none [.ag [.v (.int .i64 a0_0), .sl 2 (r79 l0_1)], .v (.int .i64 a1)] [.ro (.v (.string r1)), .ro (.v (.bool r2))] [] := by
 refine ctr_of (fn := Tryz.f50) (c := (bodyOf Tryz.f50)) Tryz.func50 rfl (by kernel_rfl) (Nat.le_of_ble_eq_true (by kernel_rfl)) (fun w ro B hF _ => ?_)
 simp only [spec_l1Told.f] at h
 obtain ⟨t551, q1, h⟩ := Option.bind_eq_some_iff.1 h
 have q1c := spec_l1Text.ctr k _ _ _ _ q1
 by_cases c2 : (t551.size : Int) > 400
 · rw [if_pos c2] at h
   refine path_ok (k := 11) hF (RetQ_mild _ _ _ _ _ _ _ _) (ds := [.r [.ro (.v (.string t551))] [], .b true]) (os := []) (c := none) rfl KD ?_
   cases h
   exact ret_as (ms := [.ro, .ro]) rfl KD
 · rw [if_neg c2] at h
   refine path_ok (k := 12) hF (RetQ_mild _ _ _ _ _ _ _ _) (ds := [.r [.ro (.v (.string t551))] [], .b false]) (os := []) (c := none) rfl KD ?_
   cases h
   exact ret_as (ms := [.ro, .ro]) rfl KD
def spec_UnpackVector.l0 : Nat → List ByteArray → List (S79) → Int → Int → Int → List (List Int) → List Int → Option (List ByteArray × Bool)
  | 0, _, _, _, _, _, _, _ => none
  | k + 1, x4, x15, x16, x17, x553000, x553001, x553002 => if x17 < x16 then (if 0 ≤ x17 then (if x17 < (x15.length : Int) then ((spec_l1Told.f k ((rd_T79 x15 x17).f0) ((rd_T79 x15 x17).f1) (x553001.length : Int)).bind fun bt562 => (if bt562.2 = true then (if x4.length < 8796093022208 then (spec_UnpackVector.l0 k (x4 ++ [bt562.1]) x15 x16 (wrap64 (x17 + 1)) x553000 x553001 x553002) else (none)) else (some ((([] : List ByteArray)), false)))) else (none)) else (none)) else (some (x4, true))
def spec_UnpackVector.f (k : Nat) (a0_0 : Int) (l0_1 : List (List Int)) (l0_2 : List Int) : Option (List ByteArray × Bool) := (some (([] : List ByteArray) : List ByteArray)).bind fun y553 => ((spec_VectorValid.f k a0_0 l0_1 l0_2).bind fun t556 => (if t556 = true then ((spec_l8Unpack.f k a0_0 l0_1 l0_2).bind fun t557 => (spec_UnpackVector.l0 k y553 t557 (t557.length : Int) 0 a0_0 l0_1 l0_2)) else (some (y553, false))))
def spec_UnpackVector.I0 (r1 : List ByteArray) (r2 : Bool) (m : Nat) (σ : St) : Prop := ∃ (x4 : List ByteArray) (x15 : List (S79)) (x16 : Int) (x17 : Int) (x553000 : Int) (x553001 : List (List Int)) (x553002 : List Int), spec_UnpackVector.l0 m x4 x15 x16 x17 x553000 x553001 x553002 = some (r1, r2) ∧ σ = ⟨[(1, .pt 1001 0 0), (4, .ow 1004 0), (15, .ow 1015 0), (16, .v (.int .i64 x16)), (17, .v (.int .i64 x17))], [(1001, .box 0 31 false [.v (.int .i64 x553000), .sl 1 (rX (cL (cI .i64) 1) x553001), .sl 1 (rX (cI .i64) x553002)]), (1004, .own 0 9 1 (rX cS x4)), (1015, .own 0 79 2 (r79 x15))]⟩
structure spec_UnpackVector.C (k : Nat) : Prop where
 s_l0 : ∀ (r1 : List ByteArray) (r2 : Bool) (w : World) (ro : Nat → Prop) (B : Nat) (_ : Fr TE (cx0 Tryz.f11 none w ro B)) (x4 : List ByteArray) (x15 : List (S79)) (x16 : Int) (x17 : Int) (x553000 : Int) (x553001 : List (List Int)) (x553002 : List Int) (_ : spec_UnpackVector.l0 k x4 x15 x16 x17 x553000 x553001 x553002 = some (r1, r2)), Kp (WS TE (cx0 Tryz.f11 none w ro B) (stkAt [1, 1, 1, 0, 1, 0] [] (bodyOf Tryz.f11) []) ⟨[(1, .pt 1001 0 0), (4, .ow 1004 0), (15, .ow 1015 0), (16, .v (.int .i64 x16)), (17, .v (.int .i64 x17))], [(1001, .box 0 31 false [.v (.int .i64 x553000), .sl 1 (rX (cL (cI .i64) 1) x553001), .sl 1 (rX (cI .i64) x553002)]), (1004, .own 0 9 1 (rX cS x4)), (1015, .own 0 79 2 (r79 x15))]⟩ (RetQ TE Tryz.f11 none [.own 9 1 (rX cS r1), .ro (.v (.bool r2))] [] w ro B))
set_option maxRecDepth 100000 in
set_option maxHeartbeats 4000000 in
theorem spec_UnpackVector.c_l0 (k : Nat) (ih : Kp (∀ m, m < k → spec_UnpackVector.C m)) (r1 : List ByteArray) (r2 : Bool) (w : World) (ro : Nat → Prop) (B : Nat) (hF : Fr TE (cx0 Tryz.f11 none w ro B)) (x4 : List ByteArray) (x15 : List (S79)) (x16 : Int) (x17 : Int) (x553000 : Int) (x553001 : List (List Int)) (x553002 : List Int) (h : spec_UnpackVector.l0 k x4 x15 x16 x17 x553000 x553001 x553002 = some (r1, r2)) : Kp (WS TE (cx0 Tryz.f11 none w ro B) (stkAt [1, 1, 1, 0, 1, 0] [] (bodyOf Tryz.f11) []) ⟨[(1, .pt 1001 0 0), (4, .ow 1004 0), (15, .ow 1015 0), (16, .v (.int .i64 x16)), (17, .v (.int .i64 x17))], [(1001, .box 0 31 false [.v (.int .i64 x553000), .sl 1 (rX (cL (cI .i64) 1) x553001), .sl 1 (rX (cI .i64) x553002)]), (1004, .own 0 9 1 (rX cS x4)), (1015, .own 0 79 2 (r79 x15))]⟩ (RetQ TE Tryz.f11 none [.own 9 1 (rX cS r1), .ro (.v (.bool r2))] [] w ro B)) := by
 refine ⟨WS.loop (fun m σ => m ≤ k ∧ spec_UnpackVector.I0 r1 r2 m σ) k ⟨Nat.le_refl k, x4, x15, x16, x17, x553000, x553001, x553002, h, rfl⟩ (fun m σ' hI J0 hJ0 => ?_)⟩
 clear h
 obtain ⟨hk, x4, x15, x16, x17, x553000, x553001, x553002, h, rfl⟩ := hI
 cases m with
 | zero => simp [spec_UnpackVector.l0] at h
 | succ k' =>
 simp only [spec_UnpackVector.l0] at h
 by_cases c4 : x17 < x16
 · rw [if_pos c4] at h
   by_cases c5 : 0 ≤ x17
   · rw [if_pos c5] at h
     by_cases c6 : x17 < (x15.length : Int)
     · rw [if_pos c6] at h
       obtain ⟨⟨t562, t563⟩, q7, h⟩ := Option.bind_eq_some_iff.1 h
       dsimp only at h
       have q7c := spec_l1Told.ctr k' _ _ _ _ _ q7
       by_cases c8 : t563 = true
       · rw [if_pos c8] at h
         by_cases c9 : x4.length < 8796093022208
         · rw [if_pos c9] at h
           refine path_ok (k := 19) hF (RetQ_mild _ _ _ _ _ _ _ _) (ds := [.b true, .g [.v (.int .i64 ((rd_T79 x15 x17).f0)), .sl 2 (r79 ((rd_T79 x15 x17).f1))], .e 26 (.v (.int .i64 (x553001.length : Int))), .r [.ro (.v (.string t562)), .ro (.v (.bool t563))] [], .b false, .p 35 ([[.v (.string t562)]]), .o 36 (rX cS (x4 ++ [t562]))]) (os := []) (c := none) rfl KD ?_
           exact WS.lpc [(1001, some 1001), (1004, some 1004), (1015, some 1015)] (hJ0 _ _ (Nat.lt_succ_self _) ⟨by omega, (x4 ++ [t562]), x15, x16, (wrap64 (x17 + 1)), x553000, x553001, x553002, h, rfl⟩) KD
         · rw [if_neg c9] at h
           cases h
       · rw [if_neg c8] at h
         refine path_ok (k := 18) hF (RetQ_mild _ _ _ _ _ _ _ _) (ds := [.b true, .g [.v (.int .i64 ((rd_T79 x15 x17).f0)), .sl 2 (r79 ((rd_T79 x15 x17).f1))], .e 26 (.v (.int .i64 (x553001.length : Int))), .r [.ro (.v (.string t562)), .ro (.v (.bool t563))] [], .b true, .p 32 ([])]) (os := []) (c := none) rfl KD ?_
         cases h
         exact ret_as (ms := [.own, .ro]) rfl KD
     · rw [if_neg c6] at h
       cases h
   · rw [if_neg c5] at h
     cases h
 · rw [if_neg c4] at h
   refine path_ok (k := 8) hF (RetQ_mild _ _ _ _ _ _ _ _) (ds := [.b false]) (os := []) (c := none) rfl KD ?_
   cases h
   exact ret_as (ms := [.own, .ro]) rfl KD
theorem spec_UnpackVector.cs (k : Nat) : spec_UnpackVector.C k := by
 induction k using Nat.strongRecOn with
 | _ k ih0 =>
 have ih : Kp (∀ m, m < k → spec_UnpackVector.C m) := ⟨ih0⟩
 exact ⟨spec_UnpackVector.c_l0 k ih⟩
set_option maxRecDepth 100000 in
set_option maxHeartbeats 4000000 in
theorem spec_UnpackVector.ctr (k : Nat) (a0_0 : Int) (l0_1 : List (List Int)) (l0_2 : List Int) (r1 : List ByteArray) (r2 : Bool) (h : spec_UnpackVector.f k a0_0 l0_1 l0_2 = some (r1, r2)) : Ctr TE 11 none [.ag [.v (.int .i64 a0_0), .sl 1 (rX (cL (cI .i64) 1) l0_1), .sl 1 (rX (cI .i64) l0_2)]] [.own 9 1 (rX cS r1), .ro (.v (.bool r2))] [] := by
 refine ctr_of (fn := Tryz.f11) (c := (bodyOf Tryz.f11)) Tryz.func11 rfl (by kernel_rfl) (Nat.le_of_ble_eq_true (by kernel_rfl)) (fun w ro B hF _ => ?_)
 have ih : Kp (∀ m, m < k + 1 → spec_UnpackVector.C m) := ⟨fun m _ => spec_UnpackVector.cs m⟩
 simp only [spec_UnpackVector.f] at h
 obtain ⟨y553, hy553, h⟩ := Option.bind_eq_some_iff.1 h
 cases hy553
 obtain ⟨t556, q1, h⟩ := Option.bind_eq_some_iff.1 h
 have q1c := spec_VectorValid.ctr k _ _ _ _ q1
 by_cases c2 : t556 = true
 · rw [if_pos c2] at h
   obtain ⟨t557, q3, h⟩ := Option.bind_eq_some_iff.1 h
   have q3c := spec_l8Unpack.ctr k _ _ _ _ q3
   refine path_ok (k := 13) hF (RetQ_mild _ _ _ _ _ _ _ _) (ds := [.p 9 ([]), .r [.ro (.v (.bool t556))] [], .b false, .r [.own 79 2 (r79 t557)] [], .e 16 (.v (.int .i64 (t557.length : Int)))]) (os := []) (c := none) rfl KD ?_
   exact WS.can [(1001, some 1), (1004, some 9), (1015, some 100240)] (((ih.out k (by omega)).s_l0  r1 r2 w ro B hF (([] : List ByteArray)) t557 (t557.length : Int) 0 a0_0 l0_1 l0_2 h).out) KD
 · rw [if_neg c2] at h
   refine path_ok (k := 11) hF (RetQ_mild _ _ _ _ _ _ _ _) (ds := [.p 9 ([]), .r [.ro (.v (.bool t556))] [], .b true]) (os := []) (c := none) rfl KD ?_
   cases h
   exact ret_as (ms := [.own, .ro]) rfl KD
def laws_faSame.l0 : Nat → List Int → List Int → Int → Int → Option (Bool)
  | 0, _, _, _, _ => none
  | k + 1, x0, x1, x10, x11 => if x11 < x10 then (if 0 ≤ x11 then (if x11 < (x0.length : Int) then (if x11 < (x1.length : Int) then (if (rd x0 x11) = (rd x1 x11) then (laws_faSame.l0 k x0 x1 x10 (wrap64 (x11 + 1))) else (some false)) else (none)) else (none)) else (none)) else (some ((x0.length : Int) == (x1.length : Int)))
def laws_faSame.f (k : Nat) (l0 : List Int) (l1 : List Int) : Option (Bool) := laws_faSame.l0 k l0 l1 (mn (l0.length : Int) (l1.length : Int)) 0
def laws_faSame.I0 (r : Bool) (m : Nat) (σ : St) : Prop := ∃ (x0 : List Int) (x1 : List Int) (x10 : Int) (x11 : Int), laws_faSame.l0 m x0 x1 x10 x11 = some r ∧ σ = ⟨[(0, .sl 1 (rX (cI .i64) x0)), (1, .sl 1 (rX (cI .i64) x1)), (10, .v (.int .i64 x10)), (11, .v (.int .i64 x11))], []⟩
structure laws_faSame.C (k : Nat) : Prop where
 s_l0 : ∀ (r : Bool) (w : World) (ro : Nat → Prop) (B : Nat) (_ : Fr TE (cx0 Tryz.f23 none w ro B)) (x0 : List Int) (x1 : List Int) (x10 : Int) (x11 : Int) (_ : laws_faSame.l0 k x0 x1 x10 x11 = some r), Kp (WS TE (cx0 Tryz.f23 none w ro B) (stkAt [1, 0, 1, 0] [] (bodyOf Tryz.f23) []) ⟨[(0, .sl 1 (rX (cI .i64) x0)), (1, .sl 1 (rX (cI .i64) x1)), (10, .v (.int .i64 x10)), (11, .v (.int .i64 x11))], []⟩ (RetQ TE Tryz.f23 none [.ro (.v (.bool r))] [] w ro B))
set_option maxRecDepth 100000 in
set_option maxHeartbeats 4000000 in
theorem laws_faSame.c_l0 (k : Nat) (ih : Kp (∀ m, m < k → laws_faSame.C m)) (r : Bool) (w : World) (ro : Nat → Prop) (B : Nat) (hF : Fr TE (cx0 Tryz.f23 none w ro B)) (x0 : List Int) (x1 : List Int) (x10 : Int) (x11 : Int) (h : laws_faSame.l0 k x0 x1 x10 x11 = some r) : Kp (WS TE (cx0 Tryz.f23 none w ro B) (stkAt [1, 0, 1, 0] [] (bodyOf Tryz.f23) []) ⟨[(0, .sl 1 (rX (cI .i64) x0)), (1, .sl 1 (rX (cI .i64) x1)), (10, .v (.int .i64 x10)), (11, .v (.int .i64 x11))], []⟩ (RetQ TE Tryz.f23 none [.ro (.v (.bool r))] [] w ro B)) := by
 refine ⟨WS.loop (fun m σ => m ≤ k ∧ laws_faSame.I0 r m σ) k ⟨Nat.le_refl k, x0, x1, x10, x11, h, rfl⟩ (fun m σ' hI J0 hJ0 => ?_)⟩
 clear h
 obtain ⟨hk, x0, x1, x10, x11, h, rfl⟩ := hI
 cases m with
 | zero => simp [laws_faSame.l0] at h
 | succ k' =>
 simp only [laws_faSame.l0] at h
 by_cases c1 : x11 < x10
 · rw [if_pos c1] at h
   by_cases c2 : 0 ≤ x11
   · rw [if_pos c2] at h
     by_cases c3 : x11 < (x0.length : Int)
     · rw [if_pos c3] at h
       by_cases c4 : x11 < (x1.length : Int)
       · rw [if_pos c4] at h
         by_cases c5 : (rd x0 x11) = (rd x1 x11)
         · rw [if_pos c5] at h
           refine path_ok (k := 15) hF (RetQ_mild _ _ _ _ _ _ _ _) (ds := [.b true, .e 16 (.rf [.v (.int .i64 (rd x0 x11))]), .e 20 (.rf [.v (.int .i64 (rd x1 x11))]), .b false]) (os := [.o [(0, 0), (1, 0), (2, 0), (3, 1), (4, 0), (5, 0), (6, 0), (7, 1), (8, 0)] []]) (c := none) rfl KD ?_
           exact WS.lpc [] (hJ0 _ _ (Nat.lt_succ_self _) ⟨by omega, x0, x1, x10, (wrap64 (x11 + 1)), h, rfl⟩) KD
         · rw [if_neg c5] at h
           refine path_ok (k := 15) hF (RetQ_mild _ _ _ _ _ _ _ _) (ds := [.b true, .e 16 (.rf [.v (.int .i64 (rd x0 x11))]), .e 20 (.rf [.v (.int .i64 (rd x1 x11))]), .b true]) (os := [.o [(0, 0), (1, 0), (2, 0), (3, 1), (4, 0), (5, 0), (6, 0), (7, 1), (8, 0)] []]) (c := none) rfl KD ?_
           cases h
           exact ret_as (ms := [.ro]) rfl KD
       · rw [if_neg c4] at h
         cases h
     · rw [if_neg c3] at h
       cases h
   · rw [if_neg c2] at h
     cases h
 · rw [if_neg c1] at h
   refine path_ok (k := 8) hF (RetQ_mild _ _ _ _ _ _ _ _) (ds := [.b false, .e 25 (.v (.int .i64 (x0.length : Int))), .e 27 (.v (.int .i64 (x1.length : Int)))]) (os := []) (c := none) rfl KD ?_
   cases h
   exact ret_as (ms := [.ro]) rfl KD
theorem laws_faSame.cs (k : Nat) : laws_faSame.C k := by
 induction k using Nat.strongRecOn with
 | _ k ih0 =>
 have ih : Kp (∀ m, m < k → laws_faSame.C m) := ⟨ih0⟩
 exact ⟨laws_faSame.c_l0 k ih⟩
set_option maxRecDepth 100000 in
set_option maxHeartbeats 4000000 in
theorem laws_faSame.ctr (k : Nat) (l0 : List Int) (l1 : List Int) (r : Bool) (h : laws_faSame.f k l0 l1 = some r) : Ctr TE 23 none [.sl 1 (rX (cI .i64) l0), .sl 1 (rX (cI .i64) l1)] [.ro (.v (.bool r))] [] := by
 refine ctr_of (fn := Tryz.f23) (c := (bodyOf Tryz.f23)) Tryz.func23 rfl (by kernel_rfl) (Nat.le_of_ble_eq_true (by kernel_rfl)) (fun w ro B hF _ => ?_)
 have ih : Kp (∀ m, m < k + 1 → laws_faSame.C m) := ⟨fun m _ => laws_faSame.cs m⟩
 simp only [laws_faSame.f] at h
 refine path_ok (k := 6) hF (RetQ_mild _ _ _ _ _ _ _ _) (ds := [.e 7 (.v (.int .i64 (l0.length : Int))), .e 9 (.v (.int .i64 (l1.length : Int)))]) (os := []) (c := none) rfl KD ?_
 exact WS.can [] (((ih.out k (by omega)).s_l0  r w ro B hF l0 l1 (mn (l0.length : Int) (l1.length : Int)) 0 h).out) KD
def laws_faLists.l0 : Nat → List (List Int) → List (List Int) → Int → Int → Option (Bool)
  | 0, _, _, _, _ => none
  | k + 1, x0, x1, x10, x11 => if x11 < x10 then (if 0 ≤ x11 then (if x11 < (x0.length : Int) then (if x11 < (x1.length : Int) then ((laws_faSame.f k (rd_L3 x0 x11) (rd_L3 x1 x11)).bind fun t574 => (if t574 = true then (laws_faLists.l0 k x0 x1 x10 (wrap64 (x11 + 1))) else (some false))) else (none)) else (none)) else (none)) else (some ((x0.length : Int) == (x1.length : Int)))
def laws_faLists.f (k : Nat) (l0 : List (List Int)) (l1 : List (List Int)) : Option (Bool) := laws_faLists.l0 k l0 l1 (mn (l0.length : Int) (l1.length : Int)) 0
def laws_faLists.I0 (r : Bool) (m : Nat) (σ : St) : Prop := ∃ (x0 : List (List Int)) (x1 : List (List Int)) (x10 : Int) (x11 : Int), laws_faLists.l0 m x0 x1 x10 x11 = some r ∧ σ = ⟨[(0, .sl 1 (rX (cL (cI .i64) 1) x0)), (1, .sl 1 (rX (cL (cI .i64) 1) x1)), (10, .v (.int .i64 x10)), (11, .v (.int .i64 x11))], []⟩
structure laws_faLists.C (k : Nat) : Prop where
 s_l0 : ∀ (r : Bool) (w : World) (ro : Nat → Prop) (B : Nat) (_ : Fr TE (cx0 Tryz.f81 none w ro B)) (x0 : List (List Int)) (x1 : List (List Int)) (x10 : Int) (x11 : Int) (_ : laws_faLists.l0 k x0 x1 x10 x11 = some r), Kp (WS TE (cx0 Tryz.f81 none w ro B) (stkAt [1, 0, 1, 0] [] (bodyOf Tryz.f81) []) ⟨[(0, .sl 1 (rX (cL (cI .i64) 1) x0)), (1, .sl 1 (rX (cL (cI .i64) 1) x1)), (10, .v (.int .i64 x10)), (11, .v (.int .i64 x11))], []⟩ (RetQ TE Tryz.f81 none [.ro (.v (.bool r))] [] w ro B))
set_option maxRecDepth 100000 in
set_option maxHeartbeats 4000000 in
theorem laws_faLists.c_l0 (k : Nat) (ih : Kp (∀ m, m < k → laws_faLists.C m)) (r : Bool) (w : World) (ro : Nat → Prop) (B : Nat) (hF : Fr TE (cx0 Tryz.f81 none w ro B)) (x0 : List (List Int)) (x1 : List (List Int)) (x10 : Int) (x11 : Int) (h : laws_faLists.l0 k x0 x1 x10 x11 = some r) : Kp (WS TE (cx0 Tryz.f81 none w ro B) (stkAt [1, 0, 1, 0] [] (bodyOf Tryz.f81) []) ⟨[(0, .sl 1 (rX (cL (cI .i64) 1) x0)), (1, .sl 1 (rX (cL (cI .i64) 1) x1)), (10, .v (.int .i64 x10)), (11, .v (.int .i64 x11))], []⟩ (RetQ TE Tryz.f81 none [.ro (.v (.bool r))] [] w ro B)) := by
 refine ⟨WS.loop (fun m σ => m ≤ k ∧ laws_faLists.I0 r m σ) k ⟨Nat.le_refl k, x0, x1, x10, x11, h, rfl⟩ (fun m σ' hI J0 hJ0 => ?_)⟩
 clear h
 obtain ⟨hk, x0, x1, x10, x11, h, rfl⟩ := hI
 cases m with
 | zero => simp [laws_faLists.l0] at h
 | succ k' =>
 simp only [laws_faLists.l0] at h
 by_cases c1 : x11 < x10
 · rw [if_pos c1] at h
   by_cases c2 : 0 ≤ x11
   · rw [if_pos c2] at h
     by_cases c3 : x11 < (x0.length : Int)
     · rw [if_pos c3] at h
       by_cases c4 : x11 < (x1.length : Int)
       · rw [if_pos c4] at h
         obtain ⟨t574, q5, h⟩ := Option.bind_eq_some_iff.1 h
         have q5c := laws_faSame.ctr k' _ _ _ q5
         by_cases c6 : t574 = true
         · rw [if_pos c6] at h
           refine path_ok (k := 15) hF (RetQ_mild _ _ _ _ _ _ _ _) (ds := [.b true, .e 16 (.rf [.sl 1 (rX (cI .i64) (rd_L3 x0 x11))]), .e 20 (.rf [.sl 1 (rX (cI .i64) (rd_L3 x1 x11))]), .r [.ro (.v (.bool t574))] [], .b false]) (os := [.o [(0, 0), (1, 0), (2, 0), (3, 1), (4, 0), (5, 0), (6, 0), (7, 1), (8, 2), (9, 0)] []]) (c := none) rfl KD ?_
           exact WS.lpc [] (hJ0 _ _ (Nat.lt_succ_self _) ⟨by omega, x0, x1, x10, (wrap64 (x11 + 1)), h, rfl⟩) KD
         · rw [if_neg c6] at h
           refine path_ok (k := 15) hF (RetQ_mild _ _ _ _ _ _ _ _) (ds := [.b true, .e 16 (.rf [.sl 1 (rX (cI .i64) (rd_L3 x0 x11))]), .e 20 (.rf [.sl 1 (rX (cI .i64) (rd_L3 x1 x11))]), .r [.ro (.v (.bool t574))] [], .b true]) (os := [.o [(0, 0), (1, 0), (2, 0), (3, 1), (4, 0), (5, 0), (6, 0), (7, 1), (8, 2), (9, 0)] []]) (c := none) rfl KD ?_
           cases h
           exact ret_as (ms := [.ro]) rfl KD
       · rw [if_neg c4] at h
         cases h
     · rw [if_neg c3] at h
       cases h
   · rw [if_neg c2] at h
     cases h
 · rw [if_neg c1] at h
   refine path_ok (k := 8) hF (RetQ_mild _ _ _ _ _ _ _ _) (ds := [.b false, .e 26 (.v (.int .i64 (x0.length : Int))), .e 28 (.v (.int .i64 (x1.length : Int)))]) (os := []) (c := none) rfl KD ?_
   cases h
   exact ret_as (ms := [.ro]) rfl KD
theorem laws_faLists.cs (k : Nat) : laws_faLists.C k := by
 induction k using Nat.strongRecOn with
 | _ k ih0 =>
 have ih : Kp (∀ m, m < k → laws_faLists.C m) := ⟨ih0⟩
 exact ⟨laws_faLists.c_l0 k ih⟩
set_option maxRecDepth 100000 in
set_option maxHeartbeats 4000000 in
theorem laws_faLists.ctr (k : Nat) (l0 : List (List Int)) (l1 : List (List Int)) (r : Bool) (h : laws_faLists.f k l0 l1 = some r) : Ctr TE 81 none [.sl 1 (rX (cL (cI .i64) 1) l0), .sl 1 (rX (cL (cI .i64) 1) l1)] [.ro (.v (.bool r))] [] := by
 refine ctr_of (fn := Tryz.f81) (c := (bodyOf Tryz.f81)) Tryz.func81 rfl (by kernel_rfl) (Nat.le_of_ble_eq_true (by kernel_rfl)) (fun w ro B hF _ => ?_)
 have ih : Kp (∀ m, m < k + 1 → laws_faLists.C m) := ⟨fun m _ => laws_faLists.cs m⟩
 simp only [laws_faLists.f] at h
 refine path_ok (k := 6) hF (RetQ_mild _ _ _ _ _ _ _ _) (ds := [.e 7 (.v (.int .i64 (l0.length : Int))), .e 9 (.v (.int .i64 (l1.length : Int)))]) (os := []) (c := none) rfl KD ?_
 exact WS.can [] (((ih.out k (by omega)).s_l0  r w ro B hF l0 l1 (mn (l0.length : Int) (l1.length : Int)) 0 h).out) KD
def laws_faLayout.f (k : Nat) (l0_0 : List (List Int)) (l0_1 : List Int) (l1_0 : List (List Int)) (l1_1 : List Int) : Option (Bool) := (laws_faLists.f k l0_0 l1_0).bind fun t577 => (if t577 = true then ((laws_faSame.f k l0_1 l1_1).bind fun t578 => (some t578)) else (some false))
set_option maxRecDepth 100000 in
set_option maxHeartbeats 4000000 in
theorem laws_faLayout.ctr (k : Nat) (l0_0 : List (List Int)) (l0_1 : List Int) (l1_0 : List (List Int)) (l1_1 : List Int) (r : Bool) (h : laws_faLayout.f k l0_0 l0_1 l1_0 l1_1 = some r) : Ctr TE 34 none [.ag [.sl 1 (rX (cL (cI .i64) 1) l0_0), .sl 1 (rX (cI .i64) l0_1)], .ag [.sl 1 (rX (cL (cI .i64) 1) l1_0), .sl 1 (rX (cI .i64) l1_1)]] [.ro (.v (.bool r))] [] := by
 refine ctr_of (fn := Tryz.f34) (c := (bodyOf Tryz.f34)) Tryz.func34 rfl (by kernel_rfl) (Nat.le_of_ble_eq_true (by kernel_rfl)) (fun w ro B hF _ => ?_)
 simp only [laws_faLayout.f] at h
 obtain ⟨t577, q1, h⟩ := Option.bind_eq_some_iff.1 h
 have q1c := laws_faLists.ctr k _ _ _ q1
 by_cases c2 : t577 = true
 · rw [if_pos c2] at h
   obtain ⟨t578, q3, h⟩ := Option.bind_eq_some_iff.1 h
   have q3c := laws_faSame.ctr k _ _ _ q3
   refine path_ok (k := 5) hF (RetQ_mild _ _ _ _ _ _ _ _) (ds := [.r [.ro (.v (.bool t577))] [], .b true, .b true, .b true, .b true, .b true, .r [.ro (.v (.bool t578))] [], .b true]) (os := []) (c := none) rfl KD ?_
   cases h
   exact ret_as (ms := [.ro]) rfl KD
 · rw [if_neg c2] at h
   refine path_ok (k := 5) hF (RetQ_mild _ _ _ _ _ _ _ _) (ds := [.r [.ro (.v (.bool t577))] [], .b false, .b false, .b false, .b false, .b false, .b false]) (os := []) (c := none) rfl KD ?_
   cases h
   exact ret_as (ms := [.ro]) rfl KD
def laws_faVector.f (k : Nat) (a0_0 : Int) (l0_1 : List (List Int)) (l0_2 : List Int) (a1_0 : Int) (l1_1 : List (List Int)) (l1_2 : List Int) : Option (Bool) := if a0_0 = a1_0 then ((laws_faLayout.f k l0_1 l0_2 l1_1 l1_2).bind fun t581 => (some t581)) else (some false)
set_option maxRecDepth 100000 in
set_option maxHeartbeats 4000000 in
theorem laws_faVector.ctr (k : Nat) (a0_0 : Int) (l0_1 : List (List Int)) (l0_2 : List Int) (a1_0 : Int) (l1_1 : List (List Int)) (l1_2 : List Int) (r : Bool) (h : laws_faVector.f k a0_0 l0_1 l0_2 a1_0 l1_1 l1_2 = some r) : Ctr TE 12 none [.ag [.v (.int .i64 a0_0), .sl 1 (rX (cL (cI .i64) 1) l0_1), .sl 1 (rX (cI .i64) l0_2)], .ag [.v (.int .i64 a1_0), .sl 1 (rX (cL (cI .i64) 1) l1_1), .sl 1 (rX (cI .i64) l1_2)]] [.ro (.v (.bool r))] [] := by
 refine ctr_of (fn := Tryz.f12) (c := (bodyOf Tryz.f12)) Tryz.func12 rfl (by kernel_rfl) (Nat.le_of_ble_eq_true (by kernel_rfl)) (fun w ro B hF _ => ?_)
 simp only [laws_faVector.f] at h
 by_cases c1 : a0_0 = a1_0
 · rw [if_pos c1] at h
   obtain ⟨t581, q2, h⟩ := Option.bind_eq_some_iff.1 h
   have q2c := laws_faLayout.ctr k _ _ _ _ _ q2
   refine path_ok (k := 5) hF (RetQ_mild _ _ _ _ _ _ _ _) (ds := [.b true, .b true, .b true, .b true, .b true, .r [.ro (.v (.bool t581))] [], .b true]) (os := []) (c := none) rfl KD ?_
   cases h
   exact ret_as (ms := [.ro]) rfl KD
 · rw [if_neg c1] at h
   refine path_ok (k := 5) hF (RetQ_mild _ _ _ _ _ _ _ _) (ds := [.b false, .b false, .b false, .b false, .b false, .b false]) (os := []) (c := none) rfl KD ?_
   cases h
   exact ret_as (ms := [.ro]) rfl KD
def laws_faTexts.l0 : Nat → List ByteArray → List ByteArray → Int → Int → Option (Bool)
  | 0, _, _, _, _ => none
  | k + 1, x0, x1, x10, x11 => if x11 < x10 then (if 0 ≤ x11 then (if x11 < (x0.length : Int) then (if x11 < (x1.length : Int) then (if (rdOf ByteArray.empty x0 x11).toList = (rdOf ByteArray.empty x1 x11).toList then (laws_faTexts.l0 k x0 x1 x10 (wrap64 (x11 + 1))) else (some false)) else (none)) else (none)) else (none)) else (some ((x0.length : Int) == (x1.length : Int)))
def laws_faTexts.f (k : Nat) (l0 : List ByteArray) (l1 : List ByteArray) : Option (Bool) := laws_faTexts.l0 k l0 l1 (mn (l0.length : Int) (l1.length : Int)) 0
def laws_faTexts.I0 (r : Bool) (m : Nat) (σ : St) : Prop := ∃ (x0 : List ByteArray) (x1 : List ByteArray) (x10 : Int) (x11 : Int), laws_faTexts.l0 m x0 x1 x10 x11 = some r ∧ σ = ⟨[(0, .sl 1 (rX cS x0)), (1, .sl 1 (rX cS x1)), (10, .v (.int .i64 x10)), (11, .v (.int .i64 x11))], []⟩
structure laws_faTexts.C (k : Nat) : Prop where
 s_l0 : ∀ (r : Bool) (w : World) (ro : Nat → Prop) (B : Nat) (_ : Fr TE (cx0 Tryz.f13 none w ro B)) (x0 : List ByteArray) (x1 : List ByteArray) (x10 : Int) (x11 : Int) (_ : laws_faTexts.l0 k x0 x1 x10 x11 = some r), Kp (WS TE (cx0 Tryz.f13 none w ro B) (stkAt [1, 0, 1, 0] [] (bodyOf Tryz.f13) []) ⟨[(0, .sl 1 (rX cS x0)), (1, .sl 1 (rX cS x1)), (10, .v (.int .i64 x10)), (11, .v (.int .i64 x11))], []⟩ (RetQ TE Tryz.f13 none [.ro (.v (.bool r))] [] w ro B))
set_option maxRecDepth 100000 in
set_option maxHeartbeats 4000000 in
theorem laws_faTexts.c_l0 (k : Nat) (ih : Kp (∀ m, m < k → laws_faTexts.C m)) (r : Bool) (w : World) (ro : Nat → Prop) (B : Nat) (hF : Fr TE (cx0 Tryz.f13 none w ro B)) (x0 : List ByteArray) (x1 : List ByteArray) (x10 : Int) (x11 : Int) (h : laws_faTexts.l0 k x0 x1 x10 x11 = some r) : Kp (WS TE (cx0 Tryz.f13 none w ro B) (stkAt [1, 0, 1, 0] [] (bodyOf Tryz.f13) []) ⟨[(0, .sl 1 (rX cS x0)), (1, .sl 1 (rX cS x1)), (10, .v (.int .i64 x10)), (11, .v (.int .i64 x11))], []⟩ (RetQ TE Tryz.f13 none [.ro (.v (.bool r))] [] w ro B)) := by
 refine ⟨WS.loop (fun m σ => m ≤ k ∧ laws_faTexts.I0 r m σ) k ⟨Nat.le_refl k, x0, x1, x10, x11, h, rfl⟩ (fun m σ' hI J0 hJ0 => ?_)⟩
 clear h
 obtain ⟨hk, x0, x1, x10, x11, h, rfl⟩ := hI
 cases m with
 | zero => simp [laws_faTexts.l0] at h
 | succ k' =>
 simp only [laws_faTexts.l0] at h
 by_cases c1 : x11 < x10
 · rw [if_pos c1] at h
   by_cases c2 : 0 ≤ x11
   · rw [if_pos c2] at h
     by_cases c3 : x11 < (x0.length : Int)
     · rw [if_pos c3] at h
       by_cases c4 : x11 < (x1.length : Int)
       · rw [if_pos c4] at h
         by_cases c5 : (rdOf ByteArray.empty x0 x11).toList = (rdOf ByteArray.empty x1 x11).toList
         · rw [if_pos c5] at h
           refine path_ok (k := 15) hF (RetQ_mild _ _ _ _ _ _ _ _) (ds := [.b true, .e 16 (.rf [.v (.string (rdOf ByteArray.empty x0 x11))]), .e 20 (.rf [.v (.string (rdOf ByteArray.empty x1 x11))]), .b false]) (os := [.o [(0, 0), (1, 0), (2, 0), (3, 1), (4, 0), (5, 0), (6, 0), (7, 1), (8, 0)] []]) (c := none) rfl KD ?_
           exact WS.lpc [] (hJ0 _ _ (Nat.lt_succ_self _) ⟨by omega, x0, x1, x10, (wrap64 (x11 + 1)), h, rfl⟩) KD
         · rw [if_neg c5] at h
           refine path_ok (k := 15) hF (RetQ_mild _ _ _ _ _ _ _ _) (ds := [.b true, .e 16 (.rf [.v (.string (rdOf ByteArray.empty x0 x11))]), .e 20 (.rf [.v (.string (rdOf ByteArray.empty x1 x11))]), .b true]) (os := [.o [(0, 0), (1, 0), (2, 0), (3, 1), (4, 0), (5, 0), (6, 0), (7, 1), (8, 0)] []]) (c := none) rfl KD ?_
           cases h
           exact ret_as (ms := [.ro]) rfl KD
       · rw [if_neg c4] at h
         cases h
     · rw [if_neg c3] at h
       cases h
   · rw [if_neg c2] at h
     cases h
 · rw [if_neg c1] at h
   refine path_ok (k := 8) hF (RetQ_mild _ _ _ _ _ _ _ _) (ds := [.b false, .e 25 (.v (.int .i64 (x0.length : Int))), .e 27 (.v (.int .i64 (x1.length : Int)))]) (os := []) (c := none) rfl KD ?_
   cases h
   exact ret_as (ms := [.ro]) rfl KD
theorem laws_faTexts.cs (k : Nat) : laws_faTexts.C k := by
 induction k using Nat.strongRecOn with
 | _ k ih0 =>
 have ih : Kp (∀ m, m < k → laws_faTexts.C m) := ⟨ih0⟩
 exact ⟨laws_faTexts.c_l0 k ih⟩
set_option maxRecDepth 100000 in
set_option maxHeartbeats 4000000 in
theorem laws_faTexts.ctr (k : Nat) (l0 : List ByteArray) (l1 : List ByteArray) (r : Bool) (h : laws_faTexts.f k l0 l1 = some r) : Ctr TE 13 none [.sl 1 (rX cS l0), .sl 1 (rX cS l1)] [.ro (.v (.bool r))] [] := by
 refine ctr_of (fn := Tryz.f13) (c := (bodyOf Tryz.f13)) Tryz.func13 rfl (by kernel_rfl) (Nat.le_of_ble_eq_true (by kernel_rfl)) (fun w ro B hF _ => ?_)
 have ih : Kp (∀ m, m < k + 1 → laws_faTexts.C m) := ⟨fun m _ => laws_faTexts.cs m⟩
 simp only [laws_faTexts.f] at h
 refine path_ok (k := 6) hF (RetQ_mild _ _ _ _ _ _ _ _) (ds := [.e 7 (.v (.int .i64 (l0.length : Int))), .e 9 (.v (.int .i64 (l1.length : Int)))]) (os := []) (c := none) rfl KD ?_
 exact WS.can [] (((ih.out k (by omega)).s_l0  r w ro B hF l0 l1 (mn (l0.length : Int) (l1.length : Int)) 0 h).out) KD
def impl_spaced.l0 : Nat → List ByteArray → List Int → Int → Int → Option (ByteArray)
  | 0, _, _, _, _ => none
  | k + 1, x3, x10, x11, x12 => if x12 < x11 then (if 0 ≤ x12 then (if x12 < (x10.length : Int) then ((strconv_Itoa.f (rd x10 x12)).bind fun t588 => (if x3.length < 8796093022208 then (impl_spaced.l0 k (x3 ++ [t588]) x10 x11 (wrap64 (x12 + 1))) else (none))) else (none)) else (none)) else ((strings_Join.f x3 (⟨#[32]⟩ : ByteArray)).bind fun t592 => (some t592))
def impl_spaced.f (k : Nat) (l0 : List Int) : Option (ByteArray) := if (l0.length : Int) = 0 then (some (⟨#[45]⟩ : ByteArray)) else (impl_spaced.l0 k (([] : List ByteArray)) l0 (l0.length : Int) 0)
def impl_spaced.I0 (r : ByteArray) (m : Nat) (σ : St) : Prop := ∃ (x3 : List ByteArray) (x10 : List Int) (x11 : Int) (x12 : Int), impl_spaced.l0 m x3 x10 x11 x12 = some r ∧ σ = ⟨[(3, .ow 1003 0), (10, .sl 1 (rX (cI .i64) x10)), (11, .v (.int .i64 x11)), (12, .v (.int .i64 x12))], [(1003, .own 0 9 1 (rX cS x3))]⟩
structure impl_spaced.C (k : Nat) : Prop where
 s_l0 : ∀ (r : ByteArray) (w : World) (ro : Nat → Prop) (B : Nat) (_ : Fr TE (cx0 Tryz.f76 none w ro B)) (x3 : List ByteArray) (x10 : List Int) (x11 : Int) (x12 : Int) (_ : impl_spaced.l0 k x3 x10 x11 x12 = some r), Kp (WS TE (cx0 Tryz.f76 none w ro B) (stkAt [1, 1, 1, 0, 1, 0] [] (bodyOf Tryz.f76) []) ⟨[(3, .ow 1003 0), (10, .sl 1 (rX (cI .i64) x10)), (11, .v (.int .i64 x11)), (12, .v (.int .i64 x12))], [(1003, .own 0 9 1 (rX cS x3))]⟩ (RetQ TE Tryz.f76 none [.ro (.v (.string r))] [] w ro B))
set_option maxRecDepth 100000 in
set_option maxHeartbeats 4000000 in
theorem impl_spaced.c_l0 (k : Nat) (ih : Kp (∀ m, m < k → impl_spaced.C m)) (r : ByteArray) (w : World) (ro : Nat → Prop) (B : Nat) (hF : Fr TE (cx0 Tryz.f76 none w ro B)) (x3 : List ByteArray) (x10 : List Int) (x11 : Int) (x12 : Int) (h : impl_spaced.l0 k x3 x10 x11 x12 = some r) : Kp (WS TE (cx0 Tryz.f76 none w ro B) (stkAt [1, 1, 1, 0, 1, 0] [] (bodyOf Tryz.f76) []) ⟨[(3, .ow 1003 0), (10, .sl 1 (rX (cI .i64) x10)), (11, .v (.int .i64 x11)), (12, .v (.int .i64 x12))], [(1003, .own 0 9 1 (rX cS x3))]⟩ (RetQ TE Tryz.f76 none [.ro (.v (.string r))] [] w ro B)) := by
 refine ⟨WS.loop (fun m σ => m ≤ k ∧ impl_spaced.I0 r m σ) k ⟨Nat.le_refl k, x3, x10, x11, x12, h, rfl⟩ (fun m σ' hI J0 hJ0 => ?_)⟩
 clear h
 obtain ⟨hk, x3, x10, x11, x12, h, rfl⟩ := hI
 cases m with
 | zero => simp [impl_spaced.l0] at h
 | succ k' =>
 simp only [impl_spaced.l0] at h
 by_cases c2 : x12 < x11
 · rw [if_pos c2] at h
   by_cases c3 : 0 ≤ x12
   · rw [if_pos c3] at h
     by_cases c4 : x12 < (x10.length : Int)
     · rw [if_pos c4] at h
       obtain ⟨t588, q5, h⟩ := Option.bind_eq_some_iff.1 h
       have q5c := strconv_Itoa.ctr _ _ q5
       by_cases c6 : x3.length < 8796093022208
       · rw [if_pos c6] at h
         refine path_ok (k := 12) hF (RetQ_mild _ _ _ _ _ _ _ _) (ds := [.b true, .e 14 (.rf [.v (.int .i64 (rd x10 x12))]), .r [.ro (.v (.string t588))] [], .p 19 ([[.v (.string t588)]]), .o 20 (rX cS (x3 ++ [t588]))]) (os := []) (c := none) rfl KD ?_
         exact WS.lpc [(1003, some 1003)] (hJ0 _ _ (Nat.lt_succ_self _) ⟨by omega, (x3 ++ [t588]), x10, x11, (wrap64 (x12 + 1)), h, rfl⟩) KD
       · rw [if_neg c6] at h
         cases h
     · rw [if_neg c4] at h
       cases h
   · rw [if_neg c3] at h
     cases h
 · rw [if_neg c2] at h
   obtain ⟨t592, q7, h⟩ := Option.bind_eq_some_iff.1 h
   have q7c := strings_Join.ctr _ _ _ q7
   refine path_ok (k := 8) hF (RetQ_mild _ _ _ _ _ _ _ _) (ds := [.b false, .r [.ro (.v (.string t592))] []]) (os := []) (c := none) rfl KD ?_
   cases h
   exact ret_as (ms := [.ro]) rfl KD
theorem impl_spaced.cs (k : Nat) : impl_spaced.C k := by
 induction k using Nat.strongRecOn with
 | _ k ih0 =>
 have ih : Kp (∀ m, m < k → impl_spaced.C m) := ⟨ih0⟩
 exact ⟨impl_spaced.c_l0 k ih⟩
set_option maxRecDepth 100000 in
set_option maxHeartbeats 4000000 in
theorem impl_spaced.ctr (k : Nat) (l0 : List Int) (r : ByteArray) (h : impl_spaced.f k l0 = some r) : Ctr TE 76 none [.sl 1 (rX (cI .i64) l0)] [.ro (.v (.string r))] [] := by
 refine ctr_of (fn := Tryz.f76) (c := (bodyOf Tryz.f76)) Tryz.func76 rfl (by kernel_rfl) (Nat.le_of_ble_eq_true (by kernel_rfl)) (fun w ro B hF _ => ?_)
 have ih : Kp (∀ m, m < k + 1 → impl_spaced.C m) := ⟨fun m _ => impl_spaced.cs m⟩
 simp only [impl_spaced.f] at h
 by_cases c1 : (l0.length : Int) = 0
 · rw [if_pos c1] at h
   refine path_ok (k := 9) hF (RetQ_mild _ _ _ _ _ _ _ _) (ds := [.e 7 (.v (.int .i64 (l0.length : Int))), .b true]) (os := []) (c := none) rfl KD ?_
   cases h
   exact ret_as (ms := [.ro]) rfl KD
 · rw [if_neg c1] at h
   refine path_ok (k := 13) hF (RetQ_mild _ _ _ _ _ _ _ _) (ds := [.e 7 (.v (.int .i64 (l0.length : Int))), .b false, .p 9 ([]), .e 11 (.v (.int .i64 (l0.length : Int)))]) (os := []) (c := none) rfl KD ?_
   exact WS.can [(1003, some 9)] (((ih.out k (by omega)).s_l0  r w ro B hF (([] : List ByteArray)) l0 (l0.length : Int) 0 h).out) KD
def impl_FormatLayout.l0 : Nat → ByteArray → List (List Int) → Int → Int → List (List Int) → List Int → Option (ByteArray)
  | 0, _, _, _, _, _, _ => none
  | k + 1, x3, x7, x8, x9, x594000, x594001 => if x9 < x8 then (if 0 ≤ x9 then (if x9 < (x7.length : Int) then ((impl_spaced.f k (rd_L3 x7 x9)).bind fun t595 => (if t595.size + 1 ≤ 9223372036854775807 then (if x3.size + (t595.size + 1) ≤ 9223372036854775807 then (impl_FormatLayout.l0 k (x3 ++ (t595 ++ (⟨#[124]⟩ : ByteArray))) x7 x8 (wrap64 (x9 + 1)) x594000 x594001) else (none)) else (none))) else (none)) else (none)) else ((impl_spaced.f k x594001).bind fun t596 => (if x3.size + t596.size ≤ 9223372036854775807 then (some (x3 ++ t596)) else (none)))
def impl_FormatLayout.f (k : Nat) (l0_0 : List (List Int)) (l0_1 : List Int) : Option (ByteArray) := impl_FormatLayout.l0 k (⟨#[]⟩ : ByteArray) l0_0 (l0_0.length : Int) 0 l0_0 l0_1
def impl_FormatLayout.I0 (r : ByteArray) (m : Nat) (σ : St) : Prop := ∃ (x3 : ByteArray) (x7 : List (List Int)) (x8 : Int) (x9 : Int) (x594000 : List (List Int)) (x594001 : List Int), impl_FormatLayout.l0 m x3 x7 x8 x9 x594000 x594001 = some r ∧ σ = ⟨[(1, .pt 1001 0 0), (3, .v (.string x3)), (7, .sl 1 (rX (cL (cI .i64) 1) x7)), (8, .v (.int .i64 x8)), (9, .v (.int .i64 x9))], [(1001, .box 0 29 false [.sl 1 (rX (cL (cI .i64) 1) x594000), .sl 1 (rX (cI .i64) x594001)])]⟩
structure impl_FormatLayout.C (k : Nat) : Prop where
 s_l0 : ∀ (r : ByteArray) (w : World) (ro : Nat → Prop) (B : Nat) (_ : Fr TE (cx0 Tryz.f30 none w ro B)) (x3 : ByteArray) (x7 : List (List Int)) (x8 : Int) (x9 : Int) (x594000 : List (List Int)) (x594001 : List Int) (_ : impl_FormatLayout.l0 k x3 x7 x8 x9 x594000 x594001 = some r), Kp (WS TE (cx0 Tryz.f30 none w ro B) (stkAt [1, 1, 0, 1, 0] [] (bodyOf Tryz.f30) []) ⟨[(1, .pt 1001 0 0), (3, .v (.string x3)), (7, .sl 1 (rX (cL (cI .i64) 1) x7)), (8, .v (.int .i64 x8)), (9, .v (.int .i64 x9))], [(1001, .box 0 29 false [.sl 1 (rX (cL (cI .i64) 1) x594000), .sl 1 (rX (cI .i64) x594001)])]⟩ (RetQ TE Tryz.f30 none [.ro (.v (.string r))] [] w ro B))
set_option maxRecDepth 100000 in
set_option maxHeartbeats 4000000 in
theorem impl_FormatLayout.c_l0 (k : Nat) (ih : Kp (∀ m, m < k → impl_FormatLayout.C m)) (r : ByteArray) (w : World) (ro : Nat → Prop) (B : Nat) (hF : Fr TE (cx0 Tryz.f30 none w ro B)) (x3 : ByteArray) (x7 : List (List Int)) (x8 : Int) (x9 : Int) (x594000 : List (List Int)) (x594001 : List Int) (h : impl_FormatLayout.l0 k x3 x7 x8 x9 x594000 x594001 = some r) : Kp (WS TE (cx0 Tryz.f30 none w ro B) (stkAt [1, 1, 0, 1, 0] [] (bodyOf Tryz.f30) []) ⟨[(1, .pt 1001 0 0), (3, .v (.string x3)), (7, .sl 1 (rX (cL (cI .i64) 1) x7)), (8, .v (.int .i64 x8)), (9, .v (.int .i64 x9))], [(1001, .box 0 29 false [.sl 1 (rX (cL (cI .i64) 1) x594000), .sl 1 (rX (cI .i64) x594001)])]⟩ (RetQ TE Tryz.f30 none [.ro (.v (.string r))] [] w ro B)) := by
 refine ⟨WS.loop (fun m σ => m ≤ k ∧ impl_FormatLayout.I0 r m σ) k ⟨Nat.le_refl k, x3, x7, x8, x9, x594000, x594001, h, rfl⟩ (fun m σ' hI J0 hJ0 => ?_)⟩
 clear h
 obtain ⟨hk, x3, x7, x8, x9, x594000, x594001, h, rfl⟩ := hI
 cases m with
 | zero => simp [impl_FormatLayout.l0] at h
 | succ k' =>
 simp only [impl_FormatLayout.l0] at h
 by_cases c1 : x9 < x8
 · rw [if_pos c1] at h
   by_cases c2 : 0 ≤ x9
   · rw [if_pos c2] at h
     by_cases c3 : x9 < (x7.length : Int)
     · rw [if_pos c3] at h
       obtain ⟨t595, q4, h⟩ := Option.bind_eq_some_iff.1 h
       have q4c := impl_spaced.ctr k' _ _ q4
       by_cases c5 : t595.size + 1 ≤ 9223372036854775807
       · rw [if_pos c5] at h
         by_cases c6 : x3.size + (t595.size + 1) ≤ 9223372036854775807
         · rw [if_pos c6] at h
           refine path_ok (k := 12) hF (RetQ_mild _ _ _ _ _ _ _ _) (ds := [.b true, .e 11 (.rf [.sl 1 (rX (cI .i64) (rd_L3 x7 x9))]), .r [.ro (.v (.string t595))] []]) (os := []) (c := none) rfl KD ?_
           exact WS.lpc [(1001, some 1001)] (hJ0 _ _ (Nat.lt_succ_self _) ⟨by omega, (x3 ++ (t595 ++ (⟨#[124]⟩ : ByteArray))), x7, x8, (wrap64 (x9 + 1)), x594000, x594001, h, rfl⟩) KD
         · rw [if_neg c6] at h
           cases h
       · rw [if_neg c5] at h
         cases h
     · rw [if_neg c3] at h
       cases h
   · rw [if_neg c2] at h
     cases h
 · rw [if_neg c1] at h
   obtain ⟨t596, q7, h⟩ := Option.bind_eq_some_iff.1 h
   have q7c := impl_spaced.ctr k' _ _ q7
   by_cases c8 : x3.size + t596.size ≤ 9223372036854775807
   · rw [if_pos c8] at h
     refine path_ok (k := 8) hF (RetQ_mild _ _ _ _ _ _ _ _) (ds := [.b false, .r [.ro (.v (.string t596))] []]) (os := []) (c := none) rfl KD ?_
     cases h
     exact ret_as (ms := [.ro]) rfl KD
   · rw [if_neg c8] at h
     cases h
theorem impl_FormatLayout.cs (k : Nat) : impl_FormatLayout.C k := by
 induction k using Nat.strongRecOn with
 | _ k ih0 =>
 have ih : Kp (∀ m, m < k → impl_FormatLayout.C m) := ⟨ih0⟩
 exact ⟨impl_FormatLayout.c_l0 k ih⟩
set_option maxRecDepth 100000 in
set_option maxHeartbeats 4000000 in
theorem impl_FormatLayout.ctr (k : Nat) (l0_0 : List (List Int)) (l0_1 : List Int) (r : ByteArray) (h : impl_FormatLayout.f k l0_0 l0_1 = some r) : Ctr TE 30 none [.ag [.sl 1 (rX (cL (cI .i64) 1) l0_0), .sl 1 (rX (cI .i64) l0_1)]] [.ro (.v (.string r))] [] := by
 refine ctr_of (fn := Tryz.f30) (c := (bodyOf Tryz.f30)) Tryz.func30 rfl (by kernel_rfl) (Nat.le_of_ble_eq_true (by kernel_rfl)) (fun w ro B hF _ => ?_)
 have ih : Kp (∀ m, m < k + 1 → impl_FormatLayout.C m) := ⟨fun m _ => impl_FormatLayout.cs m⟩
 simp only [impl_FormatLayout.f] at h
 refine path_ok (k := 8) hF (RetQ_mild _ _ _ _ _ _ _ _) (ds := [.e 8 (.v (.int .i64 (l0_0.length : Int)))]) (os := []) (c := none) rfl KD ?_
 exact WS.can [(1001, some 1)] (((ih.out k (by omega)).s_l0  r w ro B hF (⟨#[]⟩ : ByteArray) l0_0 (l0_0.length : Int) 0 l0_0 l0_1 h).out) KD
def impl_FormatVector.f (k : Nat) (a0_0 : Int) (l0_1 : List (List Int)) (l0_2 : List Int) : Option (ByteArray) := (strconv_Itoa.f a0_0).bind fun t598 => (if t598.size + 1 ≤ 9223372036854775807 then ((impl_FormatLayout.f k l0_1 l0_2).bind fun t599 => (if t598.size + 1 + t599.size ≤ 9223372036854775807 then (some ((t598 ++ (⟨#[42]⟩ : ByteArray)) ++ t599)) else (none))) else (none))
set_option maxRecDepth 100000 in
set_option maxHeartbeats 4000000 in
theorem impl_FormatVector.ctr (k : Nat) (a0_0 : Int) (l0_1 : List (List Int)) (l0_2 : List Int) (r : ByteArray) (h : impl_FormatVector.f k a0_0 l0_1 l0_2 = some r) : Ctr TE 16 none [.ag [.v (.int .i64 a0_0), .sl 1 (rX (cL (cI .i64) 1) l0_1), .sl 1 (rX (cI .i64) l0_2)]] [.ro (.v (.string r))] [] := by
 refine ctr_of (fn := Tryz.f16) (c := (bodyOf Tryz.f16)) Tryz.func16 rfl (by kernel_rfl) (Nat.le_of_ble_eq_true (by kernel_rfl)) (fun w ro B hF _ => ?_)
 simp only [impl_FormatVector.f] at h
 obtain ⟨t598, q1, h⟩ := Option.bind_eq_some_iff.1 h
 have q1c := strconv_Itoa.ctr _ _ q1
 by_cases c2 : t598.size + 1 ≤ 9223372036854775807
 · rw [if_pos c2] at h
   obtain ⟨t599, q3, h⟩ := Option.bind_eq_some_iff.1 h
   have q3c := impl_FormatLayout.ctr k _ _ _ q3
   by_cases c4 : t598.size + 1 + t599.size ≤ 9223372036854775807
   · rw [if_pos c4] at h
     refine path_ok (k := 5) hF (RetQ_mild _ _ _ _ _ _ _ _) (ds := [.r [.ro (.v (.string t598))] [], .r [.ro (.v (.string t599))] []]) (os := [.o [(0, 0), (1, 1), (4, 0), (5, 1), (2, 2), (3, 0), (6, 2), (7, 0), (8, 0)] []]) (c := none) rfl KD ?_
     cases h
     exact ret_as (ms := [.ro]) rfl KD
   · rw [if_neg c4] at h
     cases h
 · rw [if_neg c2] at h
   cases h
end Go.Proofs.YtidpankoobdfjaaGreatDoor.K
