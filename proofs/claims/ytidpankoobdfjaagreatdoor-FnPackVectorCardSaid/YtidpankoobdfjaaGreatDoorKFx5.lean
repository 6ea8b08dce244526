/- A part of the claim. -/
import Derived.Test.YtidpankoobdfjaaGreatDoorKFx0
import Derived.Test.YtidpankoobdfjaaGreatDoorKFx2
import Derived.Test.YtidpankoobdfjaaGreatDoorKFx4
import Derived.Test.YtidpankoobdfjaaGreatDoorKFSgc
-- PRINTED by print.py (a twelfth state) out of the translation. Not trusted: Lean checks it.
namespace Go.Proofs.YtidpankoobdfjaaGreatDoor.K
open Go.RowKit Go.Proofs.YtidpankoobdfjaaGreatDoorW.St Go.Proofs.YtidpankoobdfjaaGreatDoorW.PrintWords Go.Proofs.YtidpankoobdfjaaGreatDoorW.PrintLast Go.Proofs.YtidpankoobdfjaaGreatDoorW.PrintMore
attribute [local go_sem] max2_int min2_int max_two min_two max_three min_three max_four min_four   -- for this text's walks alone
set_option linter.unusedVariables false
set_option linter.unusedSimpArgs false
mutual
def impl_arr_text.l0 : Nat → Int → List ByteArray → List (S68) → Int → Int → Option (ByteArray)
  | 0, _, _, _, _, _ => none
  | k + 1, x1, x5, x15, x16, x17 => if x17 < x16 then (if 0 ≤ x17 then (if x17 < (x15.length : Int) then ((impl_arr_text.f k ((rd_T68 x15 x17).f0) ((rd_T68 x15 x17).f1) (wrap64 (x1 - 1))).bind fun t470 => (if x5.length < 8796093022208 then (impl_arr_text.l0 k x1 (x5 ++ [t470]) x15 x16 (wrap64 (x17 + 1))) else (none))) else (none)) else (none)) else ((strings_Join.f x5 (⟨#[44]⟩ : ByteArray)).bind fun t474 => (if 1 + t474.size ≤ 9223372036854775807 then (if 1 + t474.size + 1 ≤ 9223372036854775807 then (some (((⟨#[91]⟩ : ByteArray) ++ t474) ++ (⟨#[93]⟩ : ByteArray))) else (none)) else (none)))
def impl_arr_text.f : Nat → Int → List (S68) → Int → Option (ByteArray)
  | 0, _, _, _ => none
  | k + 1, a0_0, l0_1, a1 => if a1 = 0 then ((strconv_Itoa.f a0_0).bind fun t464 => (some t464)) else (impl_arr_text.l0 k a1 (([] : List ByteArray)) l0_1 (l0_1.length : Int) 0)
end
def impl_arr_text.I0 (r : ByteArray) (m : Nat) (σ : St) : Prop := ∃ (x1 : Int) (x5 : List ByteArray) (x15 : List (S68)) (x16 : Int) (x17 : Int), impl_arr_text.l0 m x1 x5 x15 x16 x17 = some r ∧ σ = ⟨[(1, .v (.int .i64 x1)), (5, .ow 1005 0), (15, .sl 2 (r68 x15)), (16, .v (.int .i64 x16)), (17, .v (.int .i64 x17))], [(1005, .own 0 9 1 (rX cS x5))]⟩
structure impl_arr_text.C (k : Nat) : Prop where
 s_f : ∀ (a0_0 : Int) (l0_1 : List (S68)) (a1 : Int) (r : ByteArray), impl_arr_text.f k a0_0 l0_1 a1 = some r → Ctr TE 90 none [.ag [.v (.int .i64 a0_0), .sl 2 (r68 l0_1)], .v (.int .i64 a1)] [.ro (.v (.string r))] []
 s_l0 : ∀ (r : ByteArray) (w : World) (ro : Nat → Prop) (B : Nat) (_ : Fr TE (cx0 Tryz.f90 none w ro B)) (x1 : Int) (x5 : List ByteArray) (x15 : List (S68)) (x16 : Int) (x17 : Int) (_ : impl_arr_text.l0 k x1 x5 x15 x16 x17 = some r), Kp (WS TE (cx0 Tryz.f90 none w ro B) (stkAt [1, 1, 1, 0, 1, 0] [] (bodyOf Tryz.f90) []) ⟨[(1, .v (.int .i64 x1)), (5, .ow 1005 0), (15, .sl 2 (r68 x15)), (16, .v (.int .i64 x16)), (17, .v (.int .i64 x17))], [(1005, .own 0 9 1 (rX cS x5))]⟩ (RetQ TE Tryz.f90 none [.ro (.v (.string r))] [] w ro B))
set_option maxRecDepth 100000 in
set_option maxHeartbeats 4000000 in
theorem impl_arr_text.c_f (k : Nat) (ih : Kp (∀ m, m < k → impl_arr_text.C m)) (a0_0 : Int) (l0_1 : List (S68)) (a1 : Int) (r : ByteArray) (h : impl_arr_text.f k a0_0 l0_1 a1 = some r) : Ctr TE 90 none [.ag [.v (.int .i64 a0_0), .sl 2 (r68 l0_1)], .v (.int .i64 a1)] [.ro (.v (.string r))] [] := by
 cases k with
 | zero => simp [impl_arr_text.f] at h
 | succ k =>
 simp only [impl_arr_text.f] at h
 refine ctr_of (fn := Tryz.f90) (c := (bodyOf Tryz.f90)) Tryz.func90 rfl (by kernel_rfl) (Nat.le_of_ble_eq_true (by kernel_rfl)) (fun w ro B hF _ => ?_)
 by_cases c1 : a1 = 0
 · rw [if_pos c1] at h
   obtain ⟨t464, q2, h⟩ := Option.bind_eq_some_iff.1 h
   have q2c := strconv_Itoa.ctr _ _ q2
   refine path_ok (k := 9) hF (RetQ_mild _ _ _ _ _ _ _ _) (ds := [.b true, .r [.ro (.v (.string t464))] []]) (os := []) (c := none) rfl KD ?_
   cases h
   exact ret_as (ms := [.ro]) rfl KD
 · rw [if_neg c1] at h
   refine path_ok (k := 13) hF (RetQ_mild _ _ _ _ _ _ _ _) (ds := [.b false, .p 13 ([]), .e 16 (.v (.int .i64 (l0_1.length : Int)))]) (os := []) (c := none) rfl KD ?_
   exact WS.can [(1005, some 13)] (((ih.out k (by omega)).s_l0  r w ro B hF a1 (([] : List ByteArray)) l0_1 (l0_1.length : Int) 0 h).out) KD
set_option maxRecDepth 100000 in
set_option maxHeartbeats 4000000 in
theorem impl_arr_text.c_l0 (k : Nat) (ih : Kp (∀ m, m < k → impl_arr_text.C m)) (r : ByteArray) (w : World) (ro : Nat → Prop) (B : Nat) (hF : Fr TE (cx0 Tryz.f90 none w ro B)) (x1 : Int) (x5 : List ByteArray) (x15 : List (S68)) (x16 : Int) (x17 : Int) (h : impl_arr_text.l0 k x1 x5 x15 x16 x17 = some r) : Kp (WS TE (cx0 Tryz.f90 none w ro B) (stkAt [1, 1, 1, 0, 1, 0] [] (bodyOf Tryz.f90) []) ⟨[(1, .v (.int .i64 x1)), (5, .ow 1005 0), (15, .sl 2 (r68 x15)), (16, .v (.int .i64 x16)), (17, .v (.int .i64 x17))], [(1005, .own 0 9 1 (rX cS x5))]⟩ (RetQ TE Tryz.f90 none [.ro (.v (.string r))] [] w ro B)) := by
 refine ⟨WS.loop (fun m σ => m ≤ k ∧ impl_arr_text.I0 r m σ) k ⟨Nat.le_refl k, x1, x5, x15, x16, x17, h, rfl⟩ (fun m σ' hI J0 hJ0 => ?_)⟩
 clear h
 obtain ⟨hk, x1, x5, x15, x16, x17, h, rfl⟩ := hI
 cases m with
 | zero => simp [impl_arr_text.l0] at h
 | succ k' =>
 simp only [impl_arr_text.l0] at h
 by_cases c3 : x17 < x16
 · rw [if_pos c3] at h
   by_cases c4 : 0 ≤ x17
   · rw [if_pos c4] at h
     by_cases c5 : x17 < (x15.length : Int)
     · rw [if_pos c5] at h
       obtain ⟨t470, q6, h⟩ := Option.bind_eq_some_iff.1 h
       have q6c := (ih.out k' (by omega)).s_f _ _ _ _ q6
       by_cases c7 : x5.length < 8796093022208
       · rw [if_pos c7] at h
         refine path_ok (k := 12) hF (RetQ_mild _ _ _ _ _ _ _ _) (ds := [.b true, .e 19 (.rf [.v (.int .i64 ((rd_T68 x15 x17).f0)), .sl 2 (r68 ((rd_T68 x15 x17).f1))]), .r [.ro (.v (.string t470))] [], .p 26 ([[.v (.string t470)]]), .o 27 (rX cS (x5 ++ [t470]))]) (os := []) (c := none) rfl KD ?_
         exact WS.lpc [(1005, some 1005)] (hJ0 _ _ (Nat.lt_succ_self _) ⟨by omega, x1, (x5 ++ [t470]), x15, x16, (wrap64 (x17 + 1)), h, rfl⟩) KD
       · rw [if_neg c7] at h
         cases h
     · rw [if_neg c5] at h
       cases h
   · rw [if_neg c4] at h
     cases h
 · rw [if_neg c3] at h
   obtain ⟨t474, q8, h⟩ := Option.bind_eq_some_iff.1 h
   have q8c := strings_Join.ctr _ _ _ q8
   by_cases c9 : 1 + t474.size ≤ 9223372036854775807
   · rw [if_pos c9] at h
     by_cases c10 : 1 + t474.size + 1 ≤ 9223372036854775807
     · rw [if_pos c10] at h
       refine path_ok (k := 8) hF (RetQ_mild _ _ _ _ _ _ _ _) (ds := [.b false, .r [.ro (.v (.string t474))] []]) (os := []) (c := none) rfl KD ?_
       cases h
       exact ret_as (ms := [.ro]) rfl KD
     · rw [if_neg c10] at h
       cases h
   · rw [if_neg c9] at h
     cases h
theorem impl_arr_text.cs (k : Nat) : impl_arr_text.C k := by
 induction k using Nat.strongRecOn with
 | _ k ih0 =>
 have ih : Kp (∀ m, m < k → impl_arr_text.C m) := ⟨ih0⟩
 exact ⟨impl_arr_text.c_f k ih, impl_arr_text.c_l0 k ih⟩
theorem impl_arr_text.ctr (k : Nat) (a0_0 : Int) (l0_1 : List (S68)) (a1 : Int) (r : ByteArray) (h : impl_arr_text.f k a0_0 l0_1 a1 = some r) : Ctr TE 90 none [.ag [.v (.int .i64 a0_0), .sl 2 (r68 l0_1)], .v (.int .i64 a1)] [.ro (.v (.string r))] [] := (impl_arr_text.cs k).s_f a0_0 l0_1 a1 r h
def impl_arr_short.f (k : Nat) (a0_0 : Int) (l0_1 : List (S68)) (a1 : Int) : Option (ByteArray × Bool) := (impl_arr_text.f k a0_0 l0_1 a1).bind fun t476 => (if (t476.size : Int) > 400 then (some ((⟨#[]⟩ : ByteArray), false)) else (some (t476, true)))
set_option maxRecDepth 100000 in
set_option maxHeartbeats 4000000 in
theorem impl_arr_short.ctr (k : Nat) (a0_0 : Int) (l0_1 : List (S68)) (a1 : Int) (r1 : ByteArray) (r2 : Bool) (h : impl_arr_short.f k a0_0 l0_1 a1 = some (r1, r2)) : Ctr TE 48 none [.ag [.v (.int .i64 a0_0), .sl 2 (r68 l0_1)], .v (.int .i64 a1)] [.ro (.v (.string r1)), .ro (.v (.bool r2))] [] := by
 refine ctr_of (fn := Tryz.f48) (c := (bodyOf Tryz.f48)) Tryz.func48 rfl (by kernel_rfl) (Nat.le_of_ble_eq_true (by kernel_rfl)) (fun w ro B hF _ => ?_)
 simp only [impl_arr_short.f] at h
 obtain ⟨t476, q1, h⟩ := Option.bind_eq_some_iff.1 h
 have q1c := impl_arr_text.ctr k _ _ _ _ q1
 by_cases c2 : (t476.size : Int) > 400
 · rw [if_pos c2] at h
   refine path_ok (k := 11) hF (RetQ_mild _ _ _ _ _ _ _ _) (ds := [.r [.ro (.v (.string t476))] [], .b true]) (os := []) (c := none) rfl KD ?_
   cases h
   exact ret_as (ms := [.ro, .ro]) rfl KD
 · rw [if_neg c2] at h
   refine path_ok (k := 12) hF (RetQ_mild _ _ _ _ _ _ _ _) (ds := [.r [.ro (.v (.string t476))] [], .b false]) (os := []) (c := none) rfl KD ?_
   cases h
   exact ret_as (ms := [.ro, .ro]) rfl KD
def impl_UnpackVector.l0 : Nat → List ByteArray → List (S68) → Int → Int → Int → List (List Int) → List Int → Option (List ByteArray × Bool)
  | 0, _, _, _, _, _, _, _ => none
  | k + 1, x4, x14, x15, x16, x478000, x478001, x478002 => if x16 < x15 then (if 0 ≤ x16 then (if x16 < (x14.length : Int) then ((impl_arr_short.f k ((rd_T68 x14 x16).f0) ((rd_T68 x14 x16).f1) (x478001.length : Int)).bind fun bt487 => (if bt487.2 = true then (if x4.length < 8796093022208 then (impl_UnpackVector.l0 k (x4 ++ [bt487.1]) x14 x15 (wrap64 (x16 + 1)) x478000 x478001 x478002) else (none)) else (some (([] : List ByteArray), false)))) else (none)) else (none)) else (some (x4, true))
def impl_UnpackVector.f (k : Nat) (a0_0 : Int) (l0_1 : List (List Int)) (l0_2 : List Int) : Option (List ByteArray × Bool) := (impl_VectorValid.f k a0_0 l0_1 l0_2).bind fun t478 => (if t478 = true then ((impl_Vector_arrays.f k a0_0 l0_1 l0_2).bind fun t482 => (impl_UnpackVector.l0 k (([] : List ByteArray)) t482 (t482.length : Int) 0 a0_0 l0_1 l0_2)) else (some (([] : List ByteArray), false)))
def impl_UnpackVector.I0 (r1 : List ByteArray) (r2 : Bool) (m : Nat) (σ : St) : Prop := ∃ (x4 : List ByteArray) (x14 : List (S68)) (x15 : Int) (x16 : Int) (x478000 : Int) (x478001 : List (List Int)) (x478002 : List Int), impl_UnpackVector.l0 m x4 x14 x15 x16 x478000 x478001 x478002 = some (r1, r2) ∧ σ = ⟨[(1, .pt 1001 0 0), (4, .ow 1004 0), (14, .ow 1014 0), (15, .v (.int .i64 x15)), (16, .v (.int .i64 x16))], [(1001, .box 0 31 false [.v (.int .i64 x478000), .sl 1 (rX (cL (cI .i64) 1) x478001), .sl 1 (rX (cI .i64) x478002)]), (1004, .own 0 9 1 (rX cS x4)), (1014, .own 0 68 2 (r68 x14))]⟩
structure impl_UnpackVector.C (k : Nat) : Prop where
 s_l0 : ∀ (r1 : List ByteArray) (r2 : Bool) (w : World) (ro : Nat → Prop) (B : Nat) (_ : Fr TE (cx0 Tryz.f10 none w ro B)) (x4 : List ByteArray) (x14 : List (S68)) (x15 : Int) (x16 : Int) (x478000 : Int) (x478001 : List (List Int)) (x478002 : List Int) (_ : impl_UnpackVector.l0 k x4 x14 x15 x16 x478000 x478001 x478002 = some (r1, r2)), Kp (WS TE (cx0 Tryz.f10 none w ro B) (stkAt [1, 1, 1, 0, 1, 0] [] (bodyOf Tryz.f10) []) ⟨[(1, .pt 1001 0 0), (4, .ow 1004 0), (14, .ow 1014 0), (15, .v (.int .i64 x15)), (16, .v (.int .i64 x16))], [(1001, .box 0 31 false [.v (.int .i64 x478000), .sl 1 (rX (cL (cI .i64) 1) x478001), .sl 1 (rX (cI .i64) x478002)]), (1004, .own 0 9 1 (rX cS x4)), (1014, .own 0 68 2 (r68 x14))]⟩ (RetQ TE Tryz.f10 none [.own 9 1 (rX cS r1), .ro (.v (.bool r2))] [] w ro B))
set_option maxRecDepth 100000 in
set_option maxHeartbeats 4000000 in
theorem impl_UnpackVector.c_l0 (k : Nat) (ih : Kp (∀ m, m < k → impl_UnpackVector.C m)) (r1 : List ByteArray) (r2 : Bool) (w : World) (ro : Nat → Prop) (B : Nat) (hF : Fr TE (cx0 Tryz.f10 none w ro B)) (x4 : List ByteArray) (x14 : List (S68)) (x15 : Int) (x16 : Int) (x478000 : Int) (x478001 : List (List Int)) (x478002 : List Int) (h : impl_UnpackVector.l0 k x4 x14 x15 x16 x478000 x478001 x478002 = some (r1, r2)) : Kp (WS TE (cx0 Tryz.f10 none w ro B) (stkAt [1, 1, 1, 0, 1, 0] [] (bodyOf Tryz.f10) []) ⟨[(1, .pt 1001 0 0), (4, .ow 1004 0), (14, .ow 1014 0), (15, .v (.int .i64 x15)), (16, .v (.int .i64 x16))], [(1001, .box 0 31 false [.v (.int .i64 x478000), .sl 1 (rX (cL (cI .i64) 1) x478001), .sl 1 (rX (cI .i64) x478002)]), (1004, .own 0 9 1 (rX cS x4)), (1014, .own 0 68 2 (r68 x14))]⟩ (RetQ TE Tryz.f10 none [.own 9 1 (rX cS r1), .ro (.v (.bool r2))] [] w ro B)) := by
 refine ⟨WS.loop (fun m σ => m ≤ k ∧ impl_UnpackVector.I0 r1 r2 m σ) k ⟨Nat.le_refl k, x4, x14, x15, x16, x478000, x478001, x478002, h, rfl⟩ (fun m σ' hI J0 hJ0 => ?_)⟩
 clear h
 obtain ⟨hk, x4, x14, x15, x16, x478000, x478001, x478002, h, rfl⟩ := hI
 cases m with
 | zero => simp [impl_UnpackVector.l0] at h
 | succ k' =>
 simp only [impl_UnpackVector.l0] at h
 by_cases c4 : x16 < x15
 · rw [if_pos c4] at h
   by_cases c5 : 0 ≤ x16
   · rw [if_pos c5] at h
     by_cases c6 : x16 < (x14.length : Int)
     · rw [if_pos c6] at h
       obtain ⟨⟨t487, t488⟩, q7, h⟩ := Option.bind_eq_some_iff.1 h
       dsimp only at h
       have q7c := impl_arr_short.ctr k' _ _ _ _ _ q7
       by_cases c8 : t488 = true
       · rw [if_pos c8] at h
         by_cases c9 : x4.length < 8796093022208
         · rw [if_pos c9] at h
           refine path_ok (k := 19) hF (RetQ_mild _ _ _ _ _ _ _ _) (ds := [.b true, .g [.v (.int .i64 ((rd_T68 x14 x16).f0)), .sl 2 (r68 ((rd_T68 x14 x16).f1))], .e 25 (.v (.int .i64 (x478001.length : Int))), .r [.ro (.v (.string t487)), .ro (.v (.bool t488))] [], .b false, .p 33 ([[.v (.string t487)]]), .o 34 (rX cS (x4 ++ [t487]))]) (os := []) (c := none) rfl KD ?_
           exact WS.lpc [(1001, some 1001), (1004, some 1004), (1014, some 1014)] (hJ0 _ _ (Nat.lt_succ_self _) ⟨by omega, (x4 ++ [t487]), x14, x15, (wrap64 (x16 + 1)), x478000, x478001, x478002, h, rfl⟩) KD
         · rw [if_neg c9] at h
           cases h
       · rw [if_neg c8] at h
         refine path_ok (k := 18) hF (RetQ_mild _ _ _ _ _ _ _ _) (ds := [.b true, .g [.v (.int .i64 ((rd_T68 x14 x16).f0)), .sl 2 (r68 ((rd_T68 x14 x16).f1))], .e 25 (.v (.int .i64 (x478001.length : Int))), .r [.ro (.v (.string t487)), .ro (.v (.bool t488))] [], .b true]) (os := []) (c := none) rfl KD ?_
         cases h
         exact ret_as (ms := [.nil 9 1, .ro]) rfl KD
     · rw [if_neg c6] at h
       cases h
   · rw [if_neg c5] at h
     cases h
 · rw [if_neg c4] at h
   refine path_ok (k := 8) hF (RetQ_mild _ _ _ _ _ _ _ _) (ds := [.b false]) (os := []) (c := none) rfl KD ?_
   cases h
   exact ret_as (ms := [.own, .ro]) rfl KD
theorem impl_UnpackVector.cs (k : Nat) : impl_UnpackVector.C k := by
 induction k using Nat.strongRecOn with
 | _ k ih0 =>
 have ih : Kp (∀ m, m < k → impl_UnpackVector.C m) := ⟨ih0⟩
 exact ⟨impl_UnpackVector.c_l0 k ih⟩
set_option maxRecDepth 100000 in
set_option maxHeartbeats 4000000 in
theorem impl_UnpackVector.ctr (k : Nat) (a0_0 : Int) (l0_1 : List (List Int)) (l0_2 : List Int) (r1 : List ByteArray) (r2 : Bool) (h : impl_UnpackVector.f k a0_0 l0_1 l0_2 = some (r1, r2)) : Ctr TE 10 none [.ag [.v (.int .i64 a0_0), .sl 1 (rX (cL (cI .i64) 1) l0_1), .sl 1 (rX (cI .i64) l0_2)]] [.own 9 1 (rX cS r1), .ro (.v (.bool r2))] [] := by
 refine ctr_of (fn := Tryz.f10) (c := (bodyOf Tryz.f10)) Tryz.func10 rfl (by kernel_rfl) (Nat.le_of_ble_eq_true (by kernel_rfl)) (fun w ro B hF _ => ?_)
 have ih : Kp (∀ m, m < k + 1 → impl_UnpackVector.C m) := ⟨fun m _ => impl_UnpackVector.cs m⟩
 simp only [impl_UnpackVector.f] at h
 obtain ⟨t478, q1, h⟩ := Option.bind_eq_some_iff.1 h
 have q1c := impl_VectorValid.ctr k _ _ _ _ q1
 by_cases c2 : t478 = true
 · rw [if_pos c2] at h
   obtain ⟨t482, q3, h⟩ := Option.bind_eq_some_iff.1 h
   have q3c := impl_Vector_arrays.ctr k _ _ _ _ q3
   refine path_ok (k := 13) hF (RetQ_mild _ _ _ _ _ _ _ _) (ds := [.r [.ro (.v (.bool t478))] [], .b false, .p 12 ([]), .r [.own 68 2 (r68 t482)] [], .e 15 (.v (.int .i64 (t482.length : Int)))]) (os := []) (c := none) rfl KD ?_
   exact WS.can [(1001, some 1), (1004, some 12), (1014, some 100224)] (((ih.out k (by omega)).s_l0  r1 r2 w ro B hF (([] : List ByteArray)) t482 (t482.length : Int) 0 a0_0 l0_1 l0_2 h).out) KD
 · rw [if_neg c2] at h
   refine path_ok (k := 9) hF (RetQ_mild _ _ _ _ _ _ _ _) (ds := [.r [.ro (.v (.bool t478))] [], .b true]) (os := []) (c := none) rfl KD ?_
   cases h
   exact ret_as (ms := [.nil 9 1, .ro]) rfl KD
def spec_l3Numbers.l0 : Nat → List Int → Int → Int → Option (Bool)
  | 0, _, _, _ => none
  | k + 1, x5, x6, x7 => if x7 < x6 then (if 0 ≤ x7 then (if x7 < (x5.length : Int) then ((spec_l1In.f (rd x5 x7) 0 10006).bind fun t493 => (if t493 = true then (spec_l3Numbers.l0 k x5 x6 (wrap64 (x7 + 1))) else (some false))) else (none)) else (none)) else (some true)
def spec_l3Numbers.f (k : Nat) (l0 : List Int) : Option (Bool) := spec_l3Numbers.l0 k l0 (l0.length : Int) 0
def spec_l3Numbers.I0 (r : Bool) (m : Nat) (σ : St) : Prop := ∃ (x5 : List Int) (x6 : Int) (x7 : Int), spec_l3Numbers.l0 m x5 x6 x7 = some r ∧ σ = ⟨[(5, .sl 1 (rX (cI .i64) x5)), (6, .v (.int .i64 x6)), (7, .v (.int .i64 x7))], []⟩
structure spec_l3Numbers.C (k : Nat) : Prop where
 s_l0 : ∀ (r : Bool) (w : World) (ro : Nat → Prop) (B : Nat) (_ : Fr TE (cx0 Tryz.f53 none w ro B)) (x5 : List Int) (x6 : Int) (x7 : Int) (_ : spec_l3Numbers.l0 k x5 x6 x7 = some r), Kp (WS TE (cx0 Tryz.f53 none w ro B) (stkAt [1, 0, 1, 0] [] (bodyOf Tryz.f53) []) ⟨[(5, .sl 1 (rX (cI .i64) x5)), (6, .v (.int .i64 x6)), (7, .v (.int .i64 x7))], []⟩ (RetQ TE Tryz.f53 none [.ro (.v (.bool r))] [] w ro B))
set_option maxRecDepth 100000 in
set_option maxHeartbeats 4000000 in
theorem spec_l3Numbers.c_l0 (k : Nat) (ih : Kp (∀ m, m < k → spec_l3Numbers.C m)) (r : Bool) (w : World) (ro : Nat → Prop) (B : Nat) (hF : Fr TE (cx0 Tryz.f53 none w ro B)) (x5 : List Int) (x6 : Int) (x7 : Int) (h : spec_l3Numbers.l0 k x5 x6 x7 = some r) : Kp (WS TE (cx0 Tryz.f53 none w ro B) (stkAt [1, 0, 1, 0] [] (bodyOf Tryz.f53) []) ⟨[(5, .sl 1 (rX (cI .i64) x5)), (6, .v (.int .i64 x6)), (7, .v (.int .i64 x7))], []⟩ (RetQ TE Tryz.f53 none [.ro (.v (.bool r))] [] w ro B)) := by
 refine ⟨WS.loop (fun m σ => m ≤ k ∧ spec_l3Numbers.I0 r m σ) k ⟨Nat.le_refl k, x5, x6, x7, h, rfl⟩ (fun m σ' hI J0 hJ0 => ?_)⟩
 clear h
 obtain ⟨hk, x5, x6, x7, h, rfl⟩ := hI
 cases m with
 | zero => simp [spec_l3Numbers.l0] at h
 | succ k' =>
 simp only [spec_l3Numbers.l0] at h
 by_cases c1 : x7 < x6
 · rw [if_pos c1] at h
   by_cases c2 : 0 ≤ x7
   · rw [if_pos c2] at h
     by_cases c3 : x7 < (x5.length : Int)
     · rw [if_pos c3] at h
       obtain ⟨t493, q4, h⟩ := Option.bind_eq_some_iff.1 h
       have q4c := spec_l1In.ctr _ _ _ _ q4
       by_cases c5 : t493 = true
       · rw [if_pos c5] at h
         refine path_ok (k := 15) hF (RetQ_mild _ _ _ _ _ _ _ _) (ds := [.b true, .e 9 (.rf [.v (.int .i64 (rd x5 x7))]), .r [.ro (.v (.bool t493))] [], .b false]) (os := []) (c := none) rfl KD ?_
         exact WS.lpc [] (hJ0 _ _ (Nat.lt_succ_self _) ⟨by omega, x5, x6, (wrap64 (x7 + 1)), h, rfl⟩) KD
       · rw [if_neg c5] at h
         refine path_ok (k := 15) hF (RetQ_mild _ _ _ _ _ _ _ _) (ds := [.b true, .e 9 (.rf [.v (.int .i64 (rd x5 x7))]), .r [.ro (.v (.bool t493))] [], .b true]) (os := []) (c := none) rfl KD ?_
         cases h
         exact ret_as (ms := [.ro]) rfl KD
     · rw [if_neg c3] at h
       cases h
   · rw [if_neg c2] at h
     cases h
 · rw [if_neg c1] at h
   refine path_ok (k := 8) hF (RetQ_mild _ _ _ _ _ _ _ _) (ds := [.b false]) (os := []) (c := none) rfl KD ?_
   cases h
   exact ret_as (ms := [.ro]) rfl KD
theorem spec_l3Numbers.cs (k : Nat) : spec_l3Numbers.C k := by
 induction k using Nat.strongRecOn with
 | _ k ih0 =>
 have ih : Kp (∀ m, m < k → spec_l3Numbers.C m) := ⟨ih0⟩
 exact ⟨spec_l3Numbers.c_l0 k ih⟩
set_option maxRecDepth 100000 in
set_option maxHeartbeats 4000000 in
theorem spec_l3Numbers.ctr (k : Nat) (l0 : List Int) (r : Bool) (h : spec_l3Numbers.f k l0 = some r) : Ctr TE 53 none [.sl 1 (rX (cI .i64) l0)] [.ro (.v (.bool r))] [] := by
 refine ctr_of (fn := Tryz.f53) (c := (bodyOf Tryz.f53)) Tryz.func53 rfl (by kernel_rfl) (Nat.le_of_ble_eq_true (by kernel_rfl)) (fun w ro B hF _ => ?_)
 have ih : Kp (∀ m, m < k + 1 → spec_l3Numbers.C m) := ⟨fun m _ => spec_l3Numbers.cs m⟩
 simp only [spec_l3Numbers.f] at h
 refine path_ok (k := 6) hF (RetQ_mild _ _ _ _ _ _ _ _) (ds := [.e 6 (.v (.int .i64 (l0.length : Int)))]) (os := []) (c := none) rfl KD ?_
 exact WS.can [] (((ih.out k (by omega)).s_l0  r w ro B hF l0 (l0.length : Int) 0 h).out) KD
mutual
def spec_VectorValid.j0 : Nat → Int → Bool → Int → List (List Int) → List Int → Option (Bool)
  | 0, _, _, _, _, _ => none
  | k + 1, x3, x20, x495000, x495001, x495002 => if x20 = true then (some false) else (spec_VectorValid.l0 k x3 x495001 (x495001.length : Int) 0 x495000 x495001 x495002)
def spec_VectorValid.l0 : Nat → Int → List (List Int) → Int → Int → Int → List (List Int) → List Int → Option (Bool)
  | 0, _, _, _, _, _, _, _ => none
  | k + 1, x3, x23, x24, x25, x495000, x495001, x495002 => if x25 < x24 then (if 0 ≤ x25 then (if x25 < (x23.length : Int) then (if ((rd_L3 x23 x25).length : Int) = x3 then (spec_VectorValid.l1 k 0 x23 x24 x25 (rd_L3 x23 x25) ((rd_L3 x23 x25).length : Int) 0 x495000 x495001 x495002) else (some false)) else (none)) else (none)) else (if (x495002.length : Int) = x3 then ((spec_l3Numbers.f k x495002).bind fun t496 => (some t496)) else (some false))
def spec_VectorValid.l1 : Nat → Int → List (List Int) → Int → Int → List Int → Int → Int → Int → List (List Int) → List Int → Option (Bool)
  | 0, _, _, _, _, _, _, _, _, _, _ => none
  | k + 1, x6, x23, x24, x25, x33, x34, x35, x495000, x495001, x495002 => if x35 < x34 then (if 0 ≤ x35 then (if x35 < (x33.length : Int) then ((spec_l1In.f (rd x33 x35) 0 400).bind fun t499 => (if t499 = true then (spec_VectorValid.l1 k (wrap64 (x6 + (rd x33 x35))) x23 x24 x25 x33 x34 (wrap64 (x35 + 1)) x495000 x495001 x495002) else (some false))) else (none)) else (none)) else (spec_VectorValid.l0 k x6 x23 x24 (wrap64 (x25 + 1)) x495000 x495001 x495002)
end
def spec_VectorValid.f (k : Nat) (a0_0 : Int) (l0_1 : List (List Int)) (l0_2 : List Int) : Option (Bool) := (spec_l1In.f a0_0 0 2000).bind fun t495 => (if t495 = true then (spec_VectorValid.j0 k a0_0 (decide ((l0_1.length : Int) > 3)) a0_0 l0_1 l0_2) else (spec_VectorValid.j0 k a0_0 true a0_0 l0_1 l0_2))
def spec_VectorValid.I0 (r : Bool) (m : Nat) (σ : St) : Prop := ∃ (x3 : Int) (x23 : List (List Int)) (x24 : Int) (x25 : Int) (x495000 : Int) (x495001 : List (List Int)) (x495002 : List Int), spec_VectorValid.l0 m x3 x23 x24 x25 x495000 x495001 x495002 = some r ∧ σ = ⟨[(1, .pt 1001 0 0), (3, .v (.int .i64 x3)), (23, .sl 1 (rX (cL (cI .i64) 1) x23)), (24, .v (.int .i64 x24)), (25, .v (.int .i64 x25))], [(1001, .box 0 31 false [.v (.int .i64 x495000), .sl 1 (rX (cL (cI .i64) 1) x495001), .sl 1 (rX (cI .i64) x495002)])]⟩
def spec_VectorValid.I1 (r : Bool) (m : Nat) (σ : St) : Prop := ∃ (x6 : Int) (x23 : List (List Int)) (x24 : Int) (x25 : Int) (x33 : List Int) (x34 : Int) (x35 : Int) (x495000 : Int) (x495001 : List (List Int)) (x495002 : List Int), spec_VectorValid.l1 m x6 x23 x24 x25 x33 x34 x35 x495000 x495001 x495002 = some r ∧ σ = ⟨[(1, .pt 1001 0 0), (6, .v (.int .i64 x6)), (23, .sl 1 (rX (cL (cI .i64) 1) x23)), (24, .v (.int .i64 x24)), (25, .v (.int .i64 x25)), (33, .sl 1 (rX (cI .i64) x33)), (34, .v (.int .i64 x34)), (35, .v (.int .i64 x35))], [(1001, .box 0 31 false [.v (.int .i64 x495000), .sl 1 (rX (cL (cI .i64) 1) x495001), .sl 1 (rX (cI .i64) x495002)])]⟩
structure spec_VectorValid.C (k : Nat) : Prop where
 s_j0 : ∀ (r : Bool) (w : World) (ro : Nat → Prop) (B : Nat) (_ : Fr TE (cx0 Tryz.f15 none w ro B)) (x3 : Int) (x20 : Bool) (x495000 : Int) (x495001 : List (List Int)) (x495002 : List Int) (_ : spec_VectorValid.j0 k x3 x20 x495000 x495001 x495002 = some r), Kp (WS TE (cx0 Tryz.f15 none w ro B) (stkAt [1, 1, 0, 0, 9] [] (bodyOf Tryz.f15) []) ⟨[(1, .pt 1001 0 0), (3, .v (.int .i64 x3)), (20, .v (.bool x20))], [(1001, .box 0 31 false [.v (.int .i64 x495000), .sl 1 (rX (cL (cI .i64) 1) x495001), .sl 1 (rX (cI .i64) x495002)])]⟩ (RetQ TE Tryz.f15 none [.ro (.v (.bool r))] [] w ro B))
 s_l0 : ∀ (r : Bool) (w : World) (ro : Nat → Prop) (B : Nat) (_ : Fr TE (cx0 Tryz.f15 none w ro B)) (x3 : Int) (x23 : List (List Int)) (x24 : Int) (x25 : Int) (x495000 : Int) (x495001 : List (List Int)) (x495002 : List Int) (_ : spec_VectorValid.l0 k x3 x23 x24 x25 x495000 x495001 x495002 = some r), Kp (WS TE (cx0 Tryz.f15 none w ro B) (stkAt [1, 1, 1, 0, 1, 0] [] (bodyOf Tryz.f15) []) ⟨[(1, .pt 1001 0 0), (3, .v (.int .i64 x3)), (23, .sl 1 (rX (cL (cI .i64) 1) x23)), (24, .v (.int .i64 x24)), (25, .v (.int .i64 x25))], [(1001, .box 0 31 false [.v (.int .i64 x495000), .sl 1 (rX (cL (cI .i64) 1) x495001), .sl 1 (rX (cI .i64) x495002)])]⟩ (RetQ TE Tryz.f15 none [.ro (.v (.bool r))] [] w ro B))
 s_l1 : ∀ (r : Bool) (w : World) (ro : Nat → Prop) (B : Nat) (_ : Fr TE (cx0 Tryz.f15 none w ro B)) (J0 : St → Prop) (_ : ∀ m σ, m ≤ k → spec_VectorValid.I0 r m σ → J0 σ) (x6 : Int) (x23 : List (List Int)) (x24 : Int) (x25 : Int) (x33 : List Int) (x34 : Int) (x35 : Int) (x495000 : Int) (x495001 : List (List Int)) (x495002 : List Int) (_ : spec_VectorValid.l1 k x6 x23 x24 x25 x33 x34 x35 x495000 x495001 x495002 = some r), Kp (WS TE (cx0 Tryz.f15 none w ro B) (stkAt [1, 1, 1, 0, 1, 0, 0, 1, 1, 0, 0, 1, 1, 1, 0, 1, 0] [J0] (bodyOf Tryz.f15) []) ⟨[(1, .pt 1001 0 0), (6, .v (.int .i64 x6)), (23, .sl 1 (rX (cL (cI .i64) 1) x23)), (24, .v (.int .i64 x24)), (25, .v (.int .i64 x25)), (33, .sl 1 (rX (cI .i64) x33)), (34, .v (.int .i64 x34)), (35, .v (.int .i64 x35))], [(1001, .box 0 31 false [.v (.int .i64 x495000), .sl 1 (rX (cL (cI .i64) 1) x495001), .sl 1 (rX (cI .i64) x495002)])]⟩ (RetQ TE Tryz.f15 none [.ro (.v (.bool r))] [] w ro B))
set_option maxRecDepth 100000 in
set_option maxHeartbeats 4000000 in
theorem spec_VectorValid.c_j0 (k : Nat) (ih : Kp (∀ m, m < k → spec_VectorValid.C m)) (r : Bool) (w : World) (ro : Nat → Prop) (B : Nat) (hF : Fr TE (cx0 Tryz.f15 none w ro B)) (x3 : Int) (x20 : Bool) (x495000 : Int) (x495001 : List (List Int)) (x495002 : List Int) (h : spec_VectorValid.j0 k x3 x20 x495000 x495001 x495002 = some r) : Kp (WS TE (cx0 Tryz.f15 none w ro B) (stkAt [1, 1, 0, 0, 9] [] (bodyOf Tryz.f15) []) ⟨[(1, .pt 1001 0 0), (3, .v (.int .i64 x3)), (20, .v (.bool x20))], [(1001, .box 0 31 false [.v (.int .i64 x495000), .sl 1 (rX (cL (cI .i64) 1) x495001), .sl 1 (rX (cI .i64) x495002)])]⟩ (RetQ TE Tryz.f15 none [.ro (.v (.bool r))] [] w ro B)) := by
 refine ⟨?_⟩
 cases k with
 | zero => simp [spec_VectorValid.j0] at h
 | succ k =>
 simp only [spec_VectorValid.j0] at h
 by_cases c3 : x20 = true
 · rw [if_pos c3] at h
   refine path_ok (k := 4) hF (RetQ_mild _ _ _ _ _ _ _ _) (ds := [.b true]) (os := []) (c := none) rfl KD ?_
   cases h
   exact ret_as (ms := [.ro]) rfl KD
 · rw [if_neg c3] at h
   refine path_ok (k := 6) hF (RetQ_mild _ _ _ _ _ _ _ _) (ds := [.b false, .e 24 (.v (.int .i64 (x495001.length : Int)))]) (os := []) (c := none) rfl KD ?_
   exact WS.can [(1001, some 1001)] (((ih.out k (by omega)).s_l0  r w ro B hF x3 x495001 (x495001.length : Int) 0 x495000 x495001 x495002 h).out) KD
set_option maxRecDepth 100000 in
set_option maxHeartbeats 4000000 in
theorem spec_VectorValid.c_l0 (k : Nat) (ih : Kp (∀ m, m < k → spec_VectorValid.C m)) (r : Bool) (w : World) (ro : Nat → Prop) (B : Nat) (hF : Fr TE (cx0 Tryz.f15 none w ro B)) (x3 : Int) (x23 : List (List Int)) (x24 : Int) (x25 : Int) (x495000 : Int) (x495001 : List (List Int)) (x495002 : List Int) (h : spec_VectorValid.l0 k x3 x23 x24 x25 x495000 x495001 x495002 = some r) : Kp (WS TE (cx0 Tryz.f15 none w ro B) (stkAt [1, 1, 1, 0, 1, 0] [] (bodyOf Tryz.f15) []) ⟨[(1, .pt 1001 0 0), (3, .v (.int .i64 x3)), (23, .sl 1 (rX (cL (cI .i64) 1) x23)), (24, .v (.int .i64 x24)), (25, .v (.int .i64 x25))], [(1001, .box 0 31 false [.v (.int .i64 x495000), .sl 1 (rX (cL (cI .i64) 1) x495001), .sl 1 (rX (cI .i64) x495002)])]⟩ (RetQ TE Tryz.f15 none [.ro (.v (.bool r))] [] w ro B)) := by
 refine ⟨WS.loop (fun m σ => m ≤ k ∧ spec_VectorValid.I0 r m σ) k ⟨Nat.le_refl k, x3, x23, x24, x25, x495000, x495001, x495002, h, rfl⟩ (fun m σ' hI J0 hJ0 => ?_)⟩
 clear h
 obtain ⟨hk, x3, x23, x24, x25, x495000, x495001, x495002, h, rfl⟩ := hI
 cases m with
 | zero => simp [spec_VectorValid.l0] at h
 | succ k' =>
 simp only [spec_VectorValid.l0] at h
 by_cases c4 : x25 < x24
 · rw [if_pos c4] at h
   by_cases c5 : 0 ≤ x25
   · rw [if_pos c5] at h
     by_cases c6 : x25 < (x23.length : Int)
     · rw [if_pos c6] at h
       by_cases c7 : ((rd_L3 x23 x25).length : Int) = x3
       · rw [if_pos c7] at h
         refine path_ok (k := 20) hF (RetQ_mild _ _ _ _ _ _ _ _) (ds := [.b true, .e 27 (.rf [.sl 1 (rX (cI .i64) (rd_L3 x23 x25))]), .e 30 (.v (.int .i64 ((rd_L3 x23 x25).length : Int))), .b false, .e 34 (.v (.int .i64 ((rd_L3 x23 x25).length : Int)))]) (os := []) (c := none) rfl KD ?_
         exact WS.can [(1001, some 1001)] (((ih.out k' (by omega)).s_l1  r w ro B hF J0 (fun m σ hm hI => hJ0 m σ (by omega) ⟨by omega, hI⟩) 0 x23 x24 x25 (rd_L3 x23 x25) ((rd_L3 x23 x25).length : Int) 0 x495000 x495001 x495002 h).out) KD
       · rw [if_neg c7] at h
         refine path_ok (k := 16) hF (RetQ_mild _ _ _ _ _ _ _ _) (ds := [.b true, .e 27 (.rf [.sl 1 (rX (cI .i64) (rd_L3 x23 x25))]), .e 30 (.v (.int .i64 ((rd_L3 x23 x25).length : Int))), .b true]) (os := []) (c := none) rfl KD ?_
         cases h
         exact ret_as (ms := [.ro]) rfl KD
     · rw [if_neg c6] at h
       cases h
   · rw [if_neg c5] at h
     cases h
 · rw [if_neg c4] at h
   by_cases c8 : (x495002.length : Int) = x3
   · rw [if_pos c8] at h
     obtain ⟨t496, q9, h⟩ := Option.bind_eq_some_iff.1 h
     have q9c := spec_l3Numbers.ctr k' _ _ q9
     refine path_ok (k := 8) hF (RetQ_mild _ _ _ _ _ _ _ _) (ds := [.b false, .e 51 (.v (.int .i64 (x495002.length : Int))), .b true, .b true, .b true, .b true, .r [.ro (.v (.bool t496))] [], .b true]) (os := []) (c := none) rfl KD ?_
     cases h
     exact ret_as (ms := [.ro]) rfl KD
   · rw [if_neg c8] at h
     refine path_ok (k := 8) hF (RetQ_mild _ _ _ _ _ _ _ _) (ds := [.b false, .e 51 (.v (.int .i64 (x495002.length : Int))), .b false, .b false, .b false, .b false, .b false]) (os := []) (c := none) rfl KD ?_
     cases h
     exact ret_as (ms := [.ro]) rfl KD
set_option maxRecDepth 100000 in
set_option maxHeartbeats 4000000 in
theorem spec_VectorValid.c_l1 (k : Nat) (ih : Kp (∀ m, m < k → spec_VectorValid.C m)) (r : Bool) (w : World) (ro : Nat → Prop) (B : Nat) (hF : Fr TE (cx0 Tryz.f15 none w ro B)) (J0 : St → Prop) (hJ0 : ∀ m σ, m ≤ k → spec_VectorValid.I0 r m σ → J0 σ) (x6 : Int) (x23 : List (List Int)) (x24 : Int) (x25 : Int) (x33 : List Int) (x34 : Int) (x35 : Int) (x495000 : Int) (x495001 : List (List Int)) (x495002 : List Int) (h : spec_VectorValid.l1 k x6 x23 x24 x25 x33 x34 x35 x495000 x495001 x495002 = some r) : Kp (WS TE (cx0 Tryz.f15 none w ro B) (stkAt [1, 1, 1, 0, 1, 0, 0, 1, 1, 0, 0, 1, 1, 1, 0, 1, 0] [J0] (bodyOf Tryz.f15) []) ⟨[(1, .pt 1001 0 0), (6, .v (.int .i64 x6)), (23, .sl 1 (rX (cL (cI .i64) 1) x23)), (24, .v (.int .i64 x24)), (25, .v (.int .i64 x25)), (33, .sl 1 (rX (cI .i64) x33)), (34, .v (.int .i64 x34)), (35, .v (.int .i64 x35))], [(1001, .box 0 31 false [.v (.int .i64 x495000), .sl 1 (rX (cL (cI .i64) 1) x495001), .sl 1 (rX (cI .i64) x495002)])]⟩ (RetQ TE Tryz.f15 none [.ro (.v (.bool r))] [] w ro B)) := by
 refine ⟨WS.loop (fun m σ => m ≤ k ∧ spec_VectorValid.I1 r m σ) k ⟨Nat.le_refl k, x6, x23, x24, x25, x33, x34, x35, x495000, x495001, x495002, h, rfl⟩ (fun m σ' hI J1 hJ1 => ?_)⟩
 clear h
 obtain ⟨hk, x6, x23, x24, x25, x33, x34, x35, x495000, x495001, x495002, h, rfl⟩ := hI
 cases m with
 | zero => simp [spec_VectorValid.l1] at h
 | succ k' =>
 simp only [spec_VectorValid.l1] at h
 by_cases c10 : x35 < x34
 · rw [if_pos c10] at h
   by_cases c11 : 0 ≤ x35
   · rw [if_pos c11] at h
     by_cases c12 : x35 < (x33.length : Int)
     · rw [if_pos c12] at h
       obtain ⟨t499, q13, h⟩ := Option.bind_eq_some_iff.1 h
       have q13c := spec_l1In.ctr _ _ _ _ q13
       by_cases c14 : t499 = true
       · rw [if_pos c14] at h
         refine path_ok (k := 17) hF (RetQ_mild _ _ _ _ _ _ _ _) (ds := [.b true, .e 37 (.rf [.v (.int .i64 (rd x33 x35))]), .r [.ro (.v (.bool t499))] [], .b false]) (os := []) (c := none) rfl KD ?_
         exact WS.lpc [(1001, some 1001)] (hJ1 _ _ (Nat.lt_succ_self _) ⟨by omega, (wrap64 (x6 + (rd x33 x35))), x23, x24, x25, x33, x34, (wrap64 (x35 + 1)), x495000, x495001, x495002, h, rfl⟩) KD
       · rw [if_neg c14] at h
         refine path_ok (k := 16) hF (RetQ_mild _ _ _ _ _ _ _ _) (ds := [.b true, .e 37 (.rf [.v (.int .i64 (rd x33 x35))]), .r [.ro (.v (.bool t499))] [], .b true]) (os := []) (c := none) rfl KD ?_
         cases h
         exact ret_as (ms := [.ro]) rfl KD
     · rw [if_neg c12] at h
       cases h
   · rw [if_neg c11] at h
     cases h
 · rw [if_neg c10] at h
   refine path_ok (k := 8) hF (RetQ_mild _ _ _ _ _ _ _ _) (ds := [.b false]) (os := []) (c := none) rfl KD ?_
   exact WS.lpc [(1001, some 1001)] (hJ0 _ _ (by omega) ⟨x6, x23, x24, (wrap64 (x25 + 1)), x495000, x495001, x495002, h, rfl⟩) KD
theorem spec_VectorValid.cs (k : Nat) : spec_VectorValid.C k := by
 induction k using Nat.strongRecOn with
 | _ k ih0 =>
 have ih : Kp (∀ m, m < k → spec_VectorValid.C m) := ⟨ih0⟩
 exact ⟨spec_VectorValid.c_j0 k ih, spec_VectorValid.c_l0 k ih, spec_VectorValid.c_l1 k ih⟩
set_option maxRecDepth 100000 in
set_option maxHeartbeats 4000000 in
theorem spec_VectorValid.ctr (k : Nat) (a0_0 : Int) (l0_1 : List (List Int)) (l0_2 : List Int) (r : Bool) (h : spec_VectorValid.f k a0_0 l0_1 l0_2 = some r) : Ctr TE 15 none [.ag [.v (.int .i64 a0_0), .sl 1 (rX (cL (cI .i64) 1) l0_1), .sl 1 (rX (cI .i64) l0_2)]] [.ro (.v (.bool r))] [] := by
 refine ctr_of (fn := Tryz.f15) (c := (bodyOf Tryz.f15)) Tryz.func15 rfl (by kernel_rfl) (Nat.le_of_ble_eq_true (by kernel_rfl)) (fun w ro B hF _ => ?_)
 have ih : Kp (∀ m, m < k + 1 → spec_VectorValid.C m) := ⟨fun m _ => spec_VectorValid.cs m⟩
 simp only [spec_VectorValid.f] at h
 obtain ⟨t495, q1, h⟩ := Option.bind_eq_some_iff.1 h
 have q1c := spec_l1In.ctr _ _ _ _ q1
 by_cases c2 : t495 = true
 · rw [if_pos c2] at h
   refine path_ok (k := 7) hF (RetQ_mild _ _ _ _ _ _ _ _) (ds := [.r [.ro (.v (.bool t495))] [], .b false, .b false, .b false, .b false, .e 18 (.v (.int .i64 (l0_1.length : Int))), .b false, .b false]) (os := []) (c := none) rfl KD ?_
   exact WS.can [(1001, some 1)] (((ih.out k (by omega)).s_j0  r w ro B hF a0_0 (decide ((l0_1.length : Int) > 3)) a0_0 l0_1 l0_2 h).out) KD
 · rw [if_neg c2] at h
   refine path_ok (k := 7) hF (RetQ_mild _ _ _ _ _ _ _ _) (ds := [.r [.ro (.v (.bool t495))] [], .b true, .b true, .b true, .b true, .b true, .b true]) (os := []) (c := none) rfl KD ?_
   exact WS.can [(1001, some 1)] (((ih.out k (by omega)).s_j0  r w ro B hF a0_0 true a0_0 l0_1 l0_2 h).out) KD
mutual
def spec_l2Folder_next.l0 : Nat → Int → Int → Int → List (List Int) → List Int → Int → Int → Int → Int → Int → List (S79) → Option (Int × (List (S79)) × Int × Int × Int × Int)
  | 0, _, _, _, _, _, _, _, _, _, _, _ => none
  | k + 1, x1, x53, x54, x1000, x1001, x1002, x1003, x1004, x1005, x505000, x505001 => if x54 < x53 then ((spec_l2Folder_next.f k x1000 x1001 x1002 x1003 x1004 x1005 (wrap64 (x1 + 1))).bind fun bt508 => (if x505001.length < 4398046511104 then (spec_l2Folder_next.l0 k x1 x53 (wrap64 (x54 + 1)) x1000 x1001 bt508.2.2.1 bt508.2.2.2.1 bt508.2.2.2.2.1 bt508.2.2.2.2.2 x505000 (x505001 ++ [(⟨bt508.1, bt508.2.1⟩ : S79)])) else (none))) else (some (x505000, x505001, x1002, x1003, x1004, x1005))
def spec_l2Folder_next.f : Nat → List (List Int) → List Int → Int → Int → Int → Int → Int → Option (Int × (List (S79)) × Int × Int × Int × Int)
  | 0, _, _, _, _, _, _, _ => none
  | k + 1, s0_0, s0_1, s0_2, s0_3, s0_4, s0_5, a1 => (some (([] : List (S79)) : List (S79))).bind fun y501 => (if a1 = 0 then (if a1 = (s0_0.length : Int) then (if 0 ≤ s0_2 then (if s0_2 < (s0_1.length : Int) then (some (rd s0_1 s0_2, y501, wrap64 (s0_2 + 1), s0_3, s0_4, s0_5)) else (none)) else (none)) else (if 0 ≤ a1 then (if a1 < (s0_0.length : Int) then (if 0 ≤ s0_2 then (if s0_2 < ((rd_L3 s0_0 a1).length : Int) then (spec_l2Folder_next.l0 k a1 (rd (rd_L3 s0_0 a1) s0_2) 0 s0_0 s0_1 (wrap64 (s0_2 + 1)) s0_3 s0_4 s0_5 0 y501) else (none)) else (none)) else (none)) else (none))) else (if a1 = 1 then (if a1 = (s0_0.length : Int) then (if 0 ≤ s0_3 then (if s0_3 < (s0_1.length : Int) then (some (rd s0_1 s0_3, y501, s0_2, wrap64 (s0_3 + 1), s0_4, s0_5)) else (none)) else (none)) else (if 0 ≤ a1 then (if a1 < (s0_0.length : Int) then (if 0 ≤ s0_3 then (if s0_3 < ((rd_L3 s0_0 a1).length : Int) then (spec_l2Folder_next.l0 k a1 (rd (rd_L3 s0_0 a1) s0_3) 0 s0_0 s0_1 s0_2 (wrap64 (s0_3 + 1)) s0_4 s0_5 0 y501) else (none)) else (none)) else (none)) else (none))) else (if a1 = 2 then (if a1 = (s0_0.length : Int) then (if 0 ≤ s0_4 then (if s0_4 < (s0_1.length : Int) then (some (rd s0_1 s0_4, y501, s0_2, s0_3, wrap64 (s0_4 + 1), s0_5)) else (none)) else (none)) else (if 0 ≤ a1 then (if a1 < (s0_0.length : Int) then (if 0 ≤ s0_4 then (if s0_4 < ((rd_L3 s0_0 a1).length : Int) then (spec_l2Folder_next.l0 k a1 (rd (rd_L3 s0_0 a1) s0_4) 0 s0_0 s0_1 s0_2 s0_3 (wrap64 (s0_4 + 1)) s0_5 0 y501) else (none)) else (none)) else (none)) else (none))) else (if a1 = 3 then (if a1 = (s0_0.length : Int) then (if 0 ≤ s0_5 then (if s0_5 < (s0_1.length : Int) then (some (rd s0_1 s0_5, y501, s0_2, s0_3, s0_4, wrap64 (s0_5 + 1))) else (none)) else (none)) else (if 0 ≤ a1 then (if a1 < (s0_0.length : Int) then (if 0 ≤ s0_5 then (if s0_5 < ((rd_L3 s0_0 a1).length : Int) then (spec_l2Folder_next.l0 k a1 (rd (rd_L3 s0_0 a1) s0_5) 0 s0_0 s0_1 s0_2 s0_3 s0_4 (wrap64 (s0_5 + 1)) 0 y501) else (none)) else (none)) else (none)) else (none))) else (none)))))
end
def spec_l2Folder_next.I0 (s0_0 : List (List Int)) (s0_1 : List Int) (s0_2 : Int) (s0_3 : Int) (s0_4 : Int) (s0_5 : Int) (r1 : Int) (r2 : List (S79)) (r3 : Int) (r4 : Int) (r5 : Int) (r6 : Int) (m : Nat) (σ : St) : Prop := ∃ (x1 : Int) (x53 : Int) (x54 : Int) (x1002 : Int) (x1003 : Int) (x1004 : Int) (x1005 : Int) (x501000 : Int) (x505000 : Int) (x505001 : List (S79)), spec_l2Folder_next.l0 m x1 x53 x54 s0_0 s0_1 x1002 x1003 x1004 x1005 x505000 x505001 = some (r1, r2, r3, r4, r5, r6) ∧ σ = ⟨[(0, .pt 0 0 0), (1, .v (.int .i64 x1)), (4, .pt 1004 0 0), (5, .pt 1005 0 0), (53, .v (.int .i64 x53)), (54, .v (.int .i64 x54))], [(0, .box 0 122 true [.sl 1 (rX (cL (cI .i64) 1) s0_0), .sl 1 (rX (cI .i64) s0_1), .v (.int .i64 x1002), .v (.int .i64 x1003), .v (.int .i64 x1004), .v (.int .i64 x1005)]), (1004, .box 0 79 false [.v (.int .i64 x501000), .v (.slice none 0 0)]), (3321, .own 0 79 2 (r79 x505001)), (1005, .box 0 79 false [.v (.int .i64 x505000), .ow 3321 0])]⟩
structure spec_l2Folder_next.C (k : Nat) : Prop where
 s_f : ∀ (s0_0 : List (List Int)) (s0_1 : List Int) (s0_2 : Int) (s0_3 : Int) (s0_4 : Int) (s0_5 : Int) (a1 : Int) (r1 : Int) (r2 : List (S79)) (r3 : Int) (r4 : Int) (r5 : Int) (r6 : Int), spec_l2Folder_next.f k s0_0 s0_1 s0_2 s0_3 s0_4 s0_5 a1 = some (r1, r2, r3, r4, r5, r6) → Ctr TE 91 (some (122, [.sl 1 (rX (cL (cI .i64) 1) s0_0), .sl 1 (rX (cI .i64) s0_1), .v (.int .i64 s0_2), .v (.int .i64 s0_3), .v (.int .i64 s0_4), .v (.int .i64 s0_5)])) [.pt 0 0 0, .v (.int .i64 a1)] [.ro (.ag [.v (.int .i64 r1), .sl 2 (r79 r2)])] [.sl 1 (rX (cL (cI .i64) 1) s0_0), .sl 1 (rX (cI .i64) s0_1), .v (.int .i64 r3), .v (.int .i64 r4), .v (.int .i64 r5), .v (.int .i64 r6)]
 s_l0 : ∀ (s0_0 : List (List Int)) (s0_1 : List Int) (s0_2 : Int) (s0_3 : Int) (s0_4 : Int) (s0_5 : Int) (r1 : Int) (r2 : List (S79)) (r3 : Int) (r4 : Int) (r5 : Int) (r6 : Int) (w : World) (ro : Nat → Prop) (B : Nat) (_ : Fr TE (cx0 Tryz.f91 (some (122, [.sl 1 (rX (cL (cI .i64) 1) s0_0), .sl 1 (rX (cI .i64) s0_1), .v (.int .i64 s0_2), .v (.int .i64 s0_3), .v (.int .i64 s0_4), .v (.int .i64 s0_5)])) w ro B)) (x1 : Int) (x53 : Int) (x54 : Int) (x1002 : Int) (x1003 : Int) (x1004 : Int) (x1005 : Int) (x501000 : Int) (x505000 : Int) (x505001 : List (S79)) (_ : spec_l2Folder_next.l0 k x1 x53 x54 s0_0 s0_1 x1002 x1003 x1004 x1005 x505000 x505001 = some (r1, r2, r3, r4, r5, r6)), Kp (WS TE (cx0 Tryz.f91 (some (122, [.sl 1 (rX (cL (cI .i64) 1) s0_0), .sl 1 (rX (cI .i64) s0_1), .v (.int .i64 s0_2), .v (.int .i64 s0_3), .v (.int .i64 s0_4), .v (.int .i64 s0_5)])) w ro B) (stkAt [1, 1, 1, 1, 1, 0, 1, 0] [] (bodyOf Tryz.f91) []) ⟨[(0, .pt 0 0 0), (1, .v (.int .i64 x1)), (4, .pt 1004 0 0), (5, .pt 1005 0 0), (53, .v (.int .i64 x53)), (54, .v (.int .i64 x54))], [(0, .box 0 122 true [.sl 1 (rX (cL (cI .i64) 1) s0_0), .sl 1 (rX (cI .i64) s0_1), .v (.int .i64 x1002), .v (.int .i64 x1003), .v (.int .i64 x1004), .v (.int .i64 x1005)]), (1004, .box 0 79 false [.v (.int .i64 x501000), .v (.slice none 0 0)]), (3321, .own 0 79 2 (r79 x505001)), (1005, .box 0 79 false [.v (.int .i64 x505000), .ow 3321 0])]⟩ (RetQ TE Tryz.f91 (some (122, [.sl 1 (rX (cL (cI .i64) 1) s0_0), .sl 1 (rX (cI .i64) s0_1), .v (.int .i64 s0_2), .v (.int .i64 s0_3), .v (.int .i64 s0_4), .v (.int .i64 s0_5)])) [.ro (.ag [.v (.int .i64 r1), .sl 2 (r79 r2)])] [.sl 1 (rX (cL (cI .i64) 1) s0_0), .sl 1 (rX (cI .i64) s0_1), .v (.int .i64 r3), .v (.int .i64 r4), .v (.int .i64 r5), .v (.int .i64 r6)] w ro B))
set_option maxRecDepth 100000 in
set_option maxHeartbeats 4000000 in
theorem spec_l2Folder_next.c_f (k : Nat) (ih : Kp (∀ m, m < k → spec_l2Folder_next.C m)) (s0_0 : List (List Int)) (s0_1 : List Int) (s0_2 : Int) (s0_3 : Int) (s0_4 : Int) (s0_5 : Int) (a1 : Int) (r1 : Int) (r2 : List (S79)) (r3 : Int) (r4 : Int) (r5 : Int) (r6 : Int) (h : spec_l2Folder_next.f k s0_0 s0_1 s0_2 s0_3 s0_4 s0_5 a1 = some (r1, r2, r3, r4, r5, r6)) : Ctr TE 91 (some (122, [.sl 1 (rX (cL (cI .i64) 1) s0_0), .sl 1 (rX (cI .i64) s0_1), .v (.int .i64 s0_2), .v (.int .i64 s0_3), .v (.int .i64 s0_4), .v (.int .i64 s0_5)])) [.pt 0 0 0, .v (.int .i64 a1)] [.ro (.ag [.v (.int .i64 r1), .sl 2 (r79 r2)])] [.sl 1 (rX (cL (cI .i64) 1) s0_0), .sl 1 (rX (cI .i64) s0_1), .v (.int .i64 r3), .v (.int .i64 r4), .v (.int .i64 r5), .v (.int .i64 r6)] := by
 cases k with
 | zero => simp [spec_l2Folder_next.f] at h
 | succ k =>
 simp only [spec_l2Folder_next.f] at h
 refine ctr_of (fn := Tryz.f91) (c := (bodyOf Tryz.f91)) Tryz.func91 rfl (by kernel_rfl) (Nat.le_of_ble_eq_true (by kernel_rfl)) (fun w ro B hF _ => ?_)
 obtain ⟨y501, hy501, h⟩ := Option.bind_eq_some_iff.1 h
 cases hy501
 by_cases c1 : a1 = 0
 · rw [if_pos c1] at h
   by_cases c2 : a1 = (s0_0.length : Int)
   · rw [if_pos c2] at h
     by_cases c3 : 0 ≤ s0_2
     · rw [if_pos c3] at h
       by_cases c4 : s0_2 < (s0_1.length : Int)
       · rw [if_pos c4] at h
         refine path_ok (k := 17) hF (RetQ_mild _ _ _ _ _ _ _ _) (ds := [.p 7 ([]), .e 13 (.pt 0 0 2), .e 19 (.pt 0 0 2), .e 24 (.pt 0 0 2), .e 31 (.v (.int .i64 (s0_0.length : Int))), .b true, .e 39 (.rf [.v (.int .i64 (rd s0_1 s0_2))])]) (os := [.o [(0, 0), (1, 0), (2, 0), (3, 0), (4, 0), (5, 1), (6, 0), (7, 0), (8, 0), (9, 0), (10, 2)] [10]]) (c := none) rfl KD ?_
         cases h
         exact ret_as (ms := [.ro]) rfl KD
       · rw [if_neg c4] at h
         cases h
     · rw [if_neg c3] at h
       cases h
   · rw [if_neg c2] at h
     by_cases c5 : 0 ≤ a1
     · rw [if_pos c5] at h
       by_cases c6 : a1 < (s0_0.length : Int)
       · rw [if_pos c6] at h
         by_cases c7 : 0 ≤ s0_2
         · rw [if_pos c7] at h
           by_cases c8 : s0_2 < ((rd_L3 s0_0 a1).length : Int)
           · rw [if_pos c8] at h
             refine path_ok (k := 17) hF (RetQ_mild _ _ _ _ _ _ _ _) (ds := [.p 7 ([]), .e 13 (.pt 0 0 2), .e 19 (.pt 0 0 2), .e 24 (.pt 0 0 2), .e 31 (.v (.int .i64 (s0_0.length : Int))), .b false, .e 49 (.rf [.sl 1 (rX (cI .i64) (rd_L3 s0_0 a1))]), .e 52 (.rf [.v (.int .i64 (rd (rd_L3 s0_0 a1) s0_2))])]) (os := [.o [(0, 0), (1, 0), (2, 0), (3, 0), (4, 0), (5, 1), (6, 0), (7, 0), (8, 0), (9, 0), (10, 2)] [10]]) (c := none) rfl KD ?_
             exact WS.can [(0, some 0), (1004, some 4), (1005, some 5), (3321, some 7)] (((ih.out k (by omega)).s_l0 s0_0 s0_1 s0_2 s0_3 s0_4 s0_5 r1 r2 r3 r4 r5 r6 w ro B hF a1 (rd (rd_L3 s0_0 a1) s0_2) 0 (wrap64 (s0_2 + 1)) s0_3 s0_4 s0_5 0 0 (([] : List (S79))) h).out) KD
           · rw [if_neg c8] at h
             cases h
         · rw [if_neg c7] at h
           cases h
       · rw [if_neg c6] at h
         cases h
     · rw [if_neg c5] at h
       cases h
 · rw [if_neg c1] at h
   by_cases c9 : a1 = 1
   · rw [if_pos c9] at h
     by_cases c10 : a1 = (s0_0.length : Int)
     · rw [if_pos c10] at h
       by_cases c11 : 0 ≤ s0_3
       · rw [if_pos c11] at h
         by_cases c12 : s0_3 < (s0_1.length : Int)
         · rw [if_pos c12] at h
           refine path_ok (k := 17) hF (RetQ_mild _ _ _ _ _ _ _ _) (ds := [.p 7 ([]), .e 13 (.pt 0 0 3), .e 19 (.pt 0 0 3), .e 24 (.pt 0 0 3), .e 31 (.v (.int .i64 (s0_0.length : Int))), .b true, .e 39 (.rf [.v (.int .i64 (rd s0_1 s0_3))])]) (os := [.o [(0, 0), (1, 0), (2, 0), (3, 0), (4, 0), (5, 1), (6, 0), (7, 0), (8, 0), (9, 0), (10, 2)] [10]]) (c := none) rfl KD ?_
           cases h
           exact ret_as (ms := [.ro]) rfl KD
         · rw [if_neg c12] at h
           cases h
       · rw [if_neg c11] at h
         cases h
     · rw [if_neg c10] at h
       by_cases c13 : 0 ≤ a1
       · rw [if_pos c13] at h
         by_cases c14 : a1 < (s0_0.length : Int)
         · rw [if_pos c14] at h
           by_cases c15 : 0 ≤ s0_3
           · rw [if_pos c15] at h
             by_cases c16 : s0_3 < ((rd_L3 s0_0 a1).length : Int)
             · rw [if_pos c16] at h
               refine path_ok (k := 17) hF (RetQ_mild _ _ _ _ _ _ _ _) (ds := [.p 7 ([]), .e 13 (.pt 0 0 3), .e 19 (.pt 0 0 3), .e 24 (.pt 0 0 3), .e 31 (.v (.int .i64 (s0_0.length : Int))), .b false, .e 49 (.rf [.sl 1 (rX (cI .i64) (rd_L3 s0_0 a1))]), .e 52 (.rf [.v (.int .i64 (rd (rd_L3 s0_0 a1) s0_3))])]) (os := [.o [(0, 0), (1, 0), (2, 0), (3, 0), (4, 0), (5, 1), (6, 0), (7, 0), (8, 0), (9, 0), (10, 2)] [10]]) (c := none) rfl KD ?_
               exact WS.can [(0, some 0), (1004, some 4), (1005, some 5), (3321, some 7)] (((ih.out k (by omega)).s_l0 s0_0 s0_1 s0_2 s0_3 s0_4 s0_5 r1 r2 r3 r4 r5 r6 w ro B hF a1 (rd (rd_L3 s0_0 a1) s0_3) 0 s0_2 (wrap64 (s0_3 + 1)) s0_4 s0_5 0 0 (([] : List (S79))) h).out) KD
             · rw [if_neg c16] at h
               cases h
           · rw [if_neg c15] at h
             cases h
         · rw [if_neg c14] at h
           cases h
       · rw [if_neg c13] at h
         cases h
   · rw [if_neg c9] at h
     by_cases c17 : a1 = 2
     · rw [if_pos c17] at h
       by_cases c18 : a1 = (s0_0.length : Int)
       · rw [if_pos c18] at h
         by_cases c19 : 0 ≤ s0_4
         · rw [if_pos c19] at h
           by_cases c20 : s0_4 < (s0_1.length : Int)
           · rw [if_pos c20] at h
             refine path_ok (k := 17) hF (RetQ_mild _ _ _ _ _ _ _ _) (ds := [.p 7 ([]), .e 13 (.pt 0 0 4), .e 19 (.pt 0 0 4), .e 24 (.pt 0 0 4), .e 31 (.v (.int .i64 (s0_0.length : Int))), .b true, .e 39 (.rf [.v (.int .i64 (rd s0_1 s0_4))])]) (os := [.o [(0, 0), (1, 0), (2, 0), (3, 0), (4, 0), (5, 1), (6, 0), (7, 0), (8, 0), (9, 0), (10, 2)] [10]]) (c := none) rfl KD ?_
             cases h
             exact ret_as (ms := [.ro]) rfl KD
           · rw [if_neg c20] at h
             cases h
         · rw [if_neg c19] at h
           cases h
       · rw [if_neg c18] at h
         by_cases c21 : 0 ≤ a1
         · rw [if_pos c21] at h
           by_cases c22 : a1 < (s0_0.length : Int)
           · rw [if_pos c22] at h
             by_cases c23 : 0 ≤ s0_4
             · rw [if_pos c23] at h
               by_cases c24 : s0_4 < ((rd_L3 s0_0 a1).length : Int)
               · rw [if_pos c24] at h
                 refine path_ok (k := 17) hF (RetQ_mild _ _ _ _ _ _ _ _) (ds := [.p 7 ([]), .e 13 (.pt 0 0 4), .e 19 (.pt 0 0 4), .e 24 (.pt 0 0 4), .e 31 (.v (.int .i64 (s0_0.length : Int))), .b false, .e 49 (.rf [.sl 1 (rX (cI .i64) (rd_L3 s0_0 a1))]), .e 52 (.rf [.v (.int .i64 (rd (rd_L3 s0_0 a1) s0_4))])]) (os := [.o [(0, 0), (1, 0), (2, 0), (3, 0), (4, 0), (5, 1), (6, 0), (7, 0), (8, 0), (9, 0), (10, 2)] [10]]) (c := none) rfl KD ?_
                 exact WS.can [(0, some 0), (1004, some 4), (1005, some 5), (3321, some 7)] (((ih.out k (by omega)).s_l0 s0_0 s0_1 s0_2 s0_3 s0_4 s0_5 r1 r2 r3 r4 r5 r6 w ro B hF a1 (rd (rd_L3 s0_0 a1) s0_4) 0 s0_2 s0_3 (wrap64 (s0_4 + 1)) s0_5 0 0 (([] : List (S79))) h).out) KD
               · rw [if_neg c24] at h
                 cases h
             · rw [if_neg c23] at h
               cases h
           · rw [if_neg c22] at h
             cases h
         · rw [if_neg c21] at h
           cases h
     · rw [if_neg c17] at h
       by_cases c25 : a1 = 3
       · rw [if_pos c25] at h
         by_cases c26 : a1 = (s0_0.length : Int)
         · rw [if_pos c26] at h
           by_cases c27 : 0 ≤ s0_5
           · rw [if_pos c27] at h
             by_cases c28 : s0_5 < (s0_1.length : Int)
             · rw [if_pos c28] at h
               refine path_ok (k := 17) hF (RetQ_mild _ _ _ _ _ _ _ _) (ds := [.p 7 ([]), .e 13 (.pt 0 0 5), .e 19 (.pt 0 0 5), .e 24 (.pt 0 0 5), .e 31 (.v (.int .i64 (s0_0.length : Int))), .b true, .e 39 (.rf [.v (.int .i64 (rd s0_1 s0_5))])]) (os := [.o [(0, 0), (1, 0), (2, 0), (3, 0), (4, 0), (5, 1), (6, 0), (7, 0), (8, 0), (9, 0), (10, 2)] [10]]) (c := none) rfl KD ?_
               cases h
               exact ret_as (ms := [.ro]) rfl KD
             · rw [if_neg c28] at h
               cases h
           · rw [if_neg c27] at h
             cases h
         · rw [if_neg c26] at h
           by_cases c29 : 0 ≤ a1
           · rw [if_pos c29] at h
             by_cases c30 : a1 < (s0_0.length : Int)
             · rw [if_pos c30] at h
               by_cases c31 : 0 ≤ s0_5
               · rw [if_pos c31] at h
                 by_cases c32 : s0_5 < ((rd_L3 s0_0 a1).length : Int)
                 · rw [if_pos c32] at h
                   refine path_ok (k := 17) hF (RetQ_mild _ _ _ _ _ _ _ _) (ds := [.p 7 ([]), .e 13 (.pt 0 0 5), .e 19 (.pt 0 0 5), .e 24 (.pt 0 0 5), .e 31 (.v (.int .i64 (s0_0.length : Int))), .b false, .e 49 (.rf [.sl 1 (rX (cI .i64) (rd_L3 s0_0 a1))]), .e 52 (.rf [.v (.int .i64 (rd (rd_L3 s0_0 a1) s0_5))])]) (os := [.o [(0, 0), (1, 0), (2, 0), (3, 0), (4, 0), (5, 1), (6, 0), (7, 0), (8, 0), (9, 0), (10, 2)] [10]]) (c := none) rfl KD ?_
                   exact WS.can [(0, some 0), (1004, some 4), (1005, some 5), (3321, some 7)] (((ih.out k (by omega)).s_l0 s0_0 s0_1 s0_2 s0_3 s0_4 s0_5 r1 r2 r3 r4 r5 r6 w ro B hF a1 (rd (rd_L3 s0_0 a1) s0_5) 0 s0_2 s0_3 s0_4 (wrap64 (s0_5 + 1)) 0 0 (([] : List (S79))) h).out) KD
                 · rw [if_neg c32] at h
                   cases h
               · rw [if_neg c31] at h
                 cases h
             · rw [if_neg c30] at h
               cases h
           · rw [if_neg c29] at h
             cases h
       · rw [if_neg c25] at h
         cases h
set_option maxRecDepth 100000 in
set_option maxHeartbeats 4000000 in
theorem spec_l2Folder_next.c_l0 (k : Nat) (ih : Kp (∀ m, m < k → spec_l2Folder_next.C m)) (s0_0 : List (List Int)) (s0_1 : List Int) (s0_2 : Int) (s0_3 : Int) (s0_4 : Int) (s0_5 : Int) (r1 : Int) (r2 : List (S79)) (r3 : Int) (r4 : Int) (r5 : Int) (r6 : Int) (w : World) (ro : Nat → Prop) (B : Nat) (hF : Fr TE (cx0 Tryz.f91 (some (122, [.sl 1 (rX (cL (cI .i64) 1) s0_0), .sl 1 (rX (cI .i64) s0_1), .v (.int .i64 s0_2), .v (.int .i64 s0_3), .v (.int .i64 s0_4), .v (.int .i64 s0_5)])) w ro B)) (x1 : Int) (x53 : Int) (x54 : Int) (x1002 : Int) (x1003 : Int) (x1004 : Int) (x1005 : Int) (x501000 : Int) (x505000 : Int) (x505001 : List (S79)) (h : spec_l2Folder_next.l0 k x1 x53 x54 s0_0 s0_1 x1002 x1003 x1004 x1005 x505000 x505001 = some (r1, r2, r3, r4, r5, r6)) : Kp (WS TE (cx0 Tryz.f91 (some (122, [.sl 1 (rX (cL (cI .i64) 1) s0_0), .sl 1 (rX (cI .i64) s0_1), .v (.int .i64 s0_2), .v (.int .i64 s0_3), .v (.int .i64 s0_4), .v (.int .i64 s0_5)])) w ro B) (stkAt [1, 1, 1, 1, 1, 0, 1, 0] [] (bodyOf Tryz.f91) []) ⟨[(0, .pt 0 0 0), (1, .v (.int .i64 x1)), (4, .pt 1004 0 0), (5, .pt 1005 0 0), (53, .v (.int .i64 x53)), (54, .v (.int .i64 x54))], [(0, .box 0 122 true [.sl 1 (rX (cL (cI .i64) 1) s0_0), .sl 1 (rX (cI .i64) s0_1), .v (.int .i64 x1002), .v (.int .i64 x1003), .v (.int .i64 x1004), .v (.int .i64 x1005)]), (1004, .box 0 79 false [.v (.int .i64 x501000), .v (.slice none 0 0)]), (3321, .own 0 79 2 (r79 x505001)), (1005, .box 0 79 false [.v (.int .i64 x505000), .ow 3321 0])]⟩ (RetQ TE Tryz.f91 (some (122, [.sl 1 (rX (cL (cI .i64) 1) s0_0), .sl 1 (rX (cI .i64) s0_1), .v (.int .i64 s0_2), .v (.int .i64 s0_3), .v (.int .i64 s0_4), .v (.int .i64 s0_5)])) [.ro (.ag [.v (.int .i64 r1), .sl 2 (r79 r2)])] [.sl 1 (rX (cL (cI .i64) 1) s0_0), .sl 1 (rX (cI .i64) s0_1), .v (.int .i64 r3), .v (.int .i64 r4), .v (.int .i64 r5), .v (.int .i64 r6)] w ro B)) := by
 refine ⟨WS.loop (fun m σ => m ≤ k ∧ spec_l2Folder_next.I0 s0_0 s0_1 s0_2 s0_3 s0_4 s0_5 r1 r2 r3 r4 r5 r6 m σ) k ⟨Nat.le_refl k, x1, x53, x54, x1002, x1003, x1004, x1005, x501000, x505000, x505001, h, rfl⟩ (fun m σ' hI J0 hJ0 => ?_)⟩
 clear h
 obtain ⟨hk, x1, x53, x54, x1002, x1003, x1004, x1005, x501000, x505000, x505001, h, rfl⟩ := hI
 cases m with
 | zero => simp [spec_l2Folder_next.l0] at h
 | succ k' =>
 simp only [spec_l2Folder_next.l0] at h
 by_cases c33 : x54 < x53
 · rw [if_pos c33] at h
   obtain ⟨⟨t508, t509, t512, t513, t514, t515⟩, q34, h⟩ := Option.bind_eq_some_iff.1 h
   dsimp only at h
   have q34c := (ih.out k' (by omega)).s_f _ _ _ _ _ _ _ _ _ _ _ _ _ q34
   by_cases c35 : x505001.length < 4398046511104
   · rw [if_pos c35] at h
     refine path_ok (k := 10) hF (RetQ_mild _ _ _ _ _ _ _ _) (ds := [.b true]) (os := [.p 1023 [⟨0, 10, true, [0]⟩, ⟨1, 9, true, [2]⟩, ⟨5, 8, true, [3]⟩, ⟨13, 7, true, [4]⟩, ⟨29, 6, false, [1, 5]⟩, ⟨31, 5, false, [5]⟩, ⟨61, 5, false, [1, 6]⟩, ⟨63, 4, false, [6]⟩, ⟨125, 4, false, [1]⟩, ⟨127, 3, false, [7]⟩, ⟨255, 2, true, [8]⟩, ⟨511, 1, false, [9]⟩] [(0, true), (2, true), (3, true), (4, true), (1, false), (5, false), (6, false), (7, false), (8, true), (9, false)] [(5, [.r [.ro (.ag [.v (.int .i64 t508), .sl 2 (r79 t509)])] [.sl 1 (rX (cL (cI .i64) 1) s0_0), .sl 1 (rX (cI .i64) s0_1), .v (.int .i64 t512), .v (.int .i64 t513), .v (.int .i64 t514), .v (.int .i64 t515)]]), (6, [.p 62 ([[.v (.int .i64 t508), .sl 2 (r79 t509)]])]), (7, [.o 63 (r79 (x505001 ++ [(⟨t508, t509⟩ : S79)]))])]]) (c := none) rfl KD ?_
     exact WS.lpc [(0, some 0), (1004, some 1004), (1005, some 1005), (3321, some 3321)] (hJ0 _ _ (Nat.lt_succ_self _) ⟨by omega, x1, x53, (wrap64 (x54 + 1)), t512, t513, t514, t515, x501000, x505000, (x505001 ++ [(⟨t508, t509⟩ : S79)]), h, rfl⟩) KD
   · rw [if_neg c35] at h
     cases h
 · rw [if_neg c33] at h
   refine path_ok (k := 8) hF (RetQ_mild _ _ _ _ _ _ _ _) (ds := [.b false]) (os := []) (c := none) rfl KD ?_
   cases h
   exact ret_as (ms := [.ro]) rfl KD
theorem spec_l2Folder_next.cs (k : Nat) : spec_l2Folder_next.C k := by
 induction k using Nat.strongRecOn with
 | _ k ih0 =>
 have ih : Kp (∀ m, m < k → spec_l2Folder_next.C m) := ⟨ih0⟩
 exact ⟨spec_l2Folder_next.c_f k ih, spec_l2Folder_next.c_l0 k ih⟩
theorem spec_l2Folder_next.ctr (k : Nat) (s0_0 : List (List Int)) (s0_1 : List Int) (s0_2 : Int) (s0_3 : Int) (s0_4 : Int) (s0_5 : Int) (a1 : Int) (r1 : Int) (r2 : List (S79)) (r3 : Int) (r4 : Int) (r5 : Int) (r6 : Int) (h : spec_l2Folder_next.f k s0_0 s0_1 s0_2 s0_3 s0_4 s0_5 a1 = some (r1, r2, r3, r4, r5, r6)) : Ctr TE 91 (some (122, [.sl 1 (rX (cL (cI .i64) 1) s0_0), .sl 1 (rX (cI .i64) s0_1), .v (.int .i64 s0_2), .v (.int .i64 s0_3), .v (.int .i64 s0_4), .v (.int .i64 s0_5)])) [.pt 0 0 0, .v (.int .i64 a1)] [.ro (.ag [.v (.int .i64 r1), .sl 2 (r79 r2)])] [.sl 1 (rX (cL (cI .i64) 1) s0_0), .sl 1 (rX (cI .i64) s0_1), .v (.int .i64 r3), .v (.int .i64 r4), .v (.int .i64 r5), .v (.int .i64 r6)] := (spec_l2Folder_next.cs k).s_f s0_0 s0_1 s0_2 s0_3 s0_4 s0_5 a1 r1 r2 r3 r4 r5 r6 h
def spec_l8Unpack.l0 : Nat → List (S79) → Int → Int → List (List Int) → List Int → Int → Int → Int → Int → Option ((List (S79)))
  | 0, _, _, _, _, _, _, _, _, _ => none
  | k + 1, x4, x11, x12, x530000, x530001, x530002, x530003, x530004, x530005 => if x12 < x11 then ((spec_l2Folder_next.f k x530000 x530001 x530002 x530003 x530004 x530005 0).bind fun bt533 => (if x4.length < 4398046511104 then (spec_l8Unpack.l0 k (x4 ++ [(⟨bt533.1, bt533.2.1⟩ : S79)]) x11 (wrap64 (x12 + 1)) x530000 x530001 bt533.2.2.1 bt533.2.2.2.1 bt533.2.2.2.2.1 bt533.2.2.2.2.2) else (none))) else (some x4)
def spec_l8Unpack.f (k : Nat) (a0_0 : Int) (l0_1 : List (List Int)) (l0_2 : List Int) : Option ((List (S79))) := spec_l8Unpack.l0 k (([] : List (S79))) a0_0 0 l0_1 l0_2 0 0 0 0
def spec_l8Unpack.I0 (r : List (S79)) (m : Nat) (σ : St) : Prop := ∃ (x4 : List (S79)) (x11 : Int) (x12 : Int) (x530000 : List (List Int)) (x530001 : List Int) (x530002 : Int) (x530003 : Int) (x530004 : Int) (x530005 : Int), spec_l8Unpack.l0 m x4 x11 x12 x530000 x530001 x530002 x530003 x530004 x530005 = some r ∧ σ = ⟨[(3, .pt 1003 0 0), (4, .ow 1004 0), (11, .v (.int .i64 x11)), (12, .v (.int .i64 x12))], [(1003, .box 0 122 false [.sl 1 (rX (cL (cI .i64) 1) x530000), .sl 1 (rX (cI .i64) x530001), .v (.int .i64 x530002), .v (.int .i64 x530003), .v (.int .i64 x530004), .v (.int .i64 x530005)]), (1004, .own 0 79 2 (r79 x4))]⟩
structure spec_l8Unpack.C (k : Nat) : Prop where
 s_l0 : ∀ (r : List (S79)) (w : World) (ro : Nat → Prop) (B : Nat) (_ : Fr TE (cx0 Tryz.f49 none w ro B)) (x4 : List (S79)) (x11 : Int) (x12 : Int) (x530000 : List (List Int)) (x530001 : List Int) (x530002 : Int) (x530003 : Int) (x530004 : Int) (x530005 : Int) (_ : spec_l8Unpack.l0 k x4 x11 x12 x530000 x530001 x530002 x530003 x530004 x530005 = some r), Kp (WS TE (cx0 Tryz.f49 none w ro B) (stkAt [1, 1, 1, 0, 1, 0] [] (bodyOf Tryz.f49) []) ⟨[(3, .pt 1003 0 0), (4, .ow 1004 0), (11, .v (.int .i64 x11)), (12, .v (.int .i64 x12))], [(1003, .box 0 122 false [.sl 1 (rX (cL (cI .i64) 1) x530000), .sl 1 (rX (cI .i64) x530001), .v (.int .i64 x530002), .v (.int .i64 x530003), .v (.int .i64 x530004), .v (.int .i64 x530005)]), (1004, .own 0 79 2 (r79 x4))]⟩ (RetQ TE Tryz.f49 none [.own 79 2 (r79 r)] [] w ro B))
set_option maxRecDepth 100000 in
set_option maxHeartbeats 4000000 in
theorem spec_l8Unpack.c_l0 (k : Nat) (ih : Kp (∀ m, m < k → spec_l8Unpack.C m)) (r : List (S79)) (w : World) (ro : Nat → Prop) (B : Nat) (hF : Fr TE (cx0 Tryz.f49 none w ro B)) (x4 : List (S79)) (x11 : Int) (x12 : Int) (x530000 : List (List Int)) (x530001 : List Int) (x530002 : Int) (x530003 : Int) (x530004 : Int) (x530005 : Int) (h : spec_l8Unpack.l0 k x4 x11 x12 x530000 x530001 x530002 x530003 x530004 x530005 = some r) : Kp (WS TE (cx0 Tryz.f49 none w ro B) (stkAt [1, 1, 1, 0, 1, 0] [] (bodyOf Tryz.f49) []) ⟨[(3, .pt 1003 0 0), (4, .ow 1004 0), (11, .v (.int .i64 x11)), (12, .v (.int .i64 x12))], [(1003, .box 0 122 false [.sl 1 (rX (cL (cI .i64) 1) x530000), .sl 1 (rX (cI .i64) x530001), .v (.int .i64 x530002), .v (.int .i64 x530003), .v (.int .i64 x530004), .v (.int .i64 x530005)]), (1004, .own 0 79 2 (r79 x4))]⟩ (RetQ TE Tryz.f49 none [.own 79 2 (r79 r)] [] w ro B)) := by
 refine ⟨WS.loop (fun m σ => m ≤ k ∧ spec_l8Unpack.I0 r m σ) k ⟨Nat.le_refl k, x4, x11, x12, x530000, x530001, x530002, x530003, x530004, x530005, h, rfl⟩ (fun m σ' hI J0 hJ0 => ?_)⟩
 clear h
 obtain ⟨hk, x4, x11, x12, x530000, x530001, x530002, x530003, x530004, x530005, h, rfl⟩ := hI
 cases m with
 | zero => simp [spec_l8Unpack.l0] at h
 | succ k' =>
 simp only [spec_l8Unpack.l0] at h
 by_cases c1 : x12 < x11
 · rw [if_pos c1] at h
   obtain ⟨⟨t533, t534, t537, t538, t539, t540⟩, q2, h⟩ := Option.bind_eq_some_iff.1 h
   dsimp only at h
   have q2c := spec_l2Folder_next.ctr k' _ _ _ _ _ _ _ _ _ _ _ _ _ q2
   by_cases c3 : x4.length < 4398046511104
   · rw [if_pos c3] at h
     refine path_ok (k := 10) hF (RetQ_mild _ _ _ _ _ _ _ _) (ds := [.b true, .r [.ro (.ag [.v (.int .i64 t533), .sl 2 (r79 t534)])] [.sl 1 (rX (cL (cI .i64) 1) x530000), .sl 1 (rX (cI .i64) x530001), .v (.int .i64 t537), .v (.int .i64 t538), .v (.int .i64 t539), .v (.int .i64 t540)], .p 17 ([[.v (.int .i64 t533), .sl 2 (r79 t534)]]), .o 18 (r79 (x4 ++ [(⟨t533, t534⟩ : S79)]))]) (os := []) (c := none) rfl KD ?_
     exact WS.lpc [(1003, some 1003), (1004, some 1004)] (hJ0 _ _ (Nat.lt_succ_self _) ⟨by omega, (x4 ++ [(⟨t533, t534⟩ : S79)]), x11, (wrap64 (x12 + 1)), x530000, x530001, t537, t538, t539, t540, h, rfl⟩) KD
   · rw [if_neg c3] at h
     cases h
 · rw [if_neg c1] at h
   refine path_ok (k := 8) hF (RetQ_mild _ _ _ _ _ _ _ _) (ds := [.b false]) (os := []) (c := none) rfl KD ?_
   cases h
   exact ret_as (ms := [.own]) rfl KD
theorem spec_l8Unpack.cs (k : Nat) : spec_l8Unpack.C k := by
 induction k using Nat.strongRecOn with
 | _ k ih0 =>
 have ih : Kp (∀ m, m < k → spec_l8Unpack.C m) := ⟨ih0⟩
 exact ⟨spec_l8Unpack.c_l0 k ih⟩
set_option maxRecDepth 100000 in
set_option maxHeartbeats 4000000 in
theorem spec_l8Unpack.ctr (k : Nat) (a0_0 : Int) (l0_1 : List (List Int)) (l0_2 : List Int) (r : List (S79)) (h : spec_l8Unpack.f k a0_0 l0_1 l0_2 = some r) : Ctr TE 49 none [.ag [.v (.int .i64 a0_0), .sl 1 (rX (cL (cI .i64) 1) l0_1), .sl 1 (rX (cI .i64) l0_2)]] [.own 79 2 (r79 r)] [] := by
 refine ctr_of (fn := Tryz.f49) (c := (bodyOf Tryz.f49)) Tryz.func49 rfl (by kernel_rfl) (Nat.le_of_ble_eq_true (by kernel_rfl)) (fun w ro B hF _ => ?_)
 have ih : Kp (∀ m, m < k + 1 → spec_l8Unpack.C m) := ⟨fun m _ => spec_l8Unpack.cs m⟩
 simp only [spec_l8Unpack.f] at h
 refine path_ok (k := 10) hF (RetQ_mild _ _ _ _ _ _ _ _) (ds := [.p 9 ([])]) (os := []) (c := none) rfl KD ?_
 exact WS.can [(1003, some 8), (1004, some 9)] (((ih.out k (by omega)).s_l0  r w ro B hF (([] : List (S79))) a0_0 0 l0_1 l0_2 0 0 0 0 h).out) KD
end Go.Proofs.YtidpankoobdfjaaGreatDoor.K
