/- A part of the claim. -/
import Derived.Test.YtidpankoobdfjaaGreatDoorKFx0
import Derived.Test.YtidpankoobdfjaaGreatDoorKFx1
import Derived.Test.YtidpankoobdfjaaGreatDoorKFx2
import Derived.Test.YtidpankoobdfjaaGreatDoorKFx4
import Derived.Test.YtidpankoobdfjaaGreatDoorKFx5
import Derived.Test.YtidpankoobdfjaaGreatDoorKFx6
-- PRINTED by print.py (a twelfth state) out of the translation. Not trusted: Lean checks it.
namespace Go.Proofs.YtidpankoobdfjaaGreatDoor.K
open Go.RowKit Go.Proofs.YtidpankoobdfjaaGreatDoorW.St Go.Proofs.YtidpankoobdfjaaGreatDoorW.PrintWords Go.Proofs.YtidpankoobdfjaaGreatDoorW.PrintLast Go.Proofs.YtidpankoobdfjaaGreatDoorW.PrintMore
attribute [local go_sem] max2_int min2_int max_two min_two max_three min_three max_four min_four   -- for this text's walks alone
set_option linter.unusedVariables false
set_option linter.unusedSimpArgs false
def spec_l2Numbers.l0 : Nat → ByteArray → List Int → Int → Int → Option (ByteArray)
  | 0, _, _, _, _ => none
  | k + 1, x3, x6, x7, x8 => if x8 < x7 then (if 0 ≤ x8 then (if x8 < (x6.length : Int) then (if x8 > 0 then (if x3.size + 1 ≤ 9223372036854775807 then ((spec_l13Dec.f k (rd x6 x8)).bind fun t601 => (if x3.size + 1 + t601.size ≤ 9223372036854775807 then (spec_l2Numbers.l0 k ((x3 ++ (⟨#[32]⟩ : ByteArray)) ++ t601) x6 x7 (wrap64 (x8 + 1))) else (none))) else (none)) else ((spec_l13Dec.f k (rd x6 x8)).bind fun t602 => (if x3.size + t602.size ≤ 9223372036854775807 then (spec_l2Numbers.l0 k (x3 ++ t602) x6 x7 (wrap64 (x8 + 1))) else (none)))) else (none)) else (none)) else (if x3.toList = ([] : List UInt8) then (some (⟨#[45]⟩ : ByteArray)) else (some x3))
def spec_l2Numbers.f (k : Nat) (l0 : List Int) : Option (ByteArray) := spec_l2Numbers.l0 k (⟨#[]⟩ : ByteArray) l0 (l0.length : Int) 0
def spec_l2Numbers.I0 (r : ByteArray) (m : Nat) (σ : St) : Prop := ∃ (x3 : ByteArray) (x6 : List Int) (x7 : Int) (x8 : Int), spec_l2Numbers.l0 m x3 x6 x7 x8 = some r ∧ σ = ⟨[(3, .v (.string x3)), (6, .sl 1 (rX (cI .i64) x6)), (7, .v (.int .i64 x7)), (8, .v (.int .i64 x8))], []⟩
structure spec_l2Numbers.C (k : Nat) : Prop where
 s_l0 : ∀ (r : ByteArray) (w : World) (ro : Nat → Prop) (B : Nat) (_ : Fr TE (cx0 Tryz.f80 none w ro B)) (x3 : ByteArray) (x6 : List Int) (x7 : Int) (x8 : Int) (_ : spec_l2Numbers.l0 k x3 x6 x7 x8 = some r), Kp (WS TE (cx0 Tryz.f80 none w ro B) (stkAt [1, 1, 0, 1, 0] [] (bodyOf Tryz.f80) []) ⟨[(3, .v (.string x3)), (6, .sl 1 (rX (cI .i64) x6)), (7, .v (.int .i64 x7)), (8, .v (.int .i64 x8))], []⟩ (RetQ TE Tryz.f80 none [.ro (.v (.string r))] [] w ro B))
set_option maxRecDepth 100000 in
set_option maxHeartbeats 4000000 in
theorem spec_l2Numbers.c_l0 (k : Nat) (ih : Kp (∀ m, m < k → spec_l2Numbers.C m)) (r : ByteArray) (w : World) (ro : Nat → Prop) (B : Nat) (hF : Fr TE (cx0 Tryz.f80 none w ro B)) (x3 : ByteArray) (x6 : List Int) (x7 : Int) (x8 : Int) (h : spec_l2Numbers.l0 k x3 x6 x7 x8 = some r) : Kp (WS TE (cx0 Tryz.f80 none w ro B) (stkAt [1, 1, 0, 1, 0] [] (bodyOf Tryz.f80) []) ⟨[(3, .v (.string x3)), (6, .sl 1 (rX (cI .i64) x6)), (7, .v (.int .i64 x7)), (8, .v (.int .i64 x8))], []⟩ (RetQ TE Tryz.f80 none [.ro (.v (.string r))] [] w ro B)) := by
 refine ⟨WS.loop (fun m σ => m ≤ k ∧ spec_l2Numbers.I0 r m σ) k ⟨Nat.le_refl k, x3, x6, x7, x8, h, rfl⟩ (fun m σ' hI J0 hJ0 => ?_)⟩
 clear h
 obtain ⟨hk, x3, x6, x7, x8, h, rfl⟩ := hI
 cases m with
 | zero => simp [spec_l2Numbers.l0] at h
 | succ k' =>
 simp only [spec_l2Numbers.l0] at h
 by_cases c1 : x8 < x7
 · rw [if_pos c1] at h
   by_cases c2 : 0 ≤ x8
   · rw [if_pos c2] at h
     by_cases c3 : x8 < (x6.length : Int)
     · rw [if_pos c3] at h
       by_cases c4 : x8 > 0
       · rw [if_pos c4] at h
         by_cases c5 : x3.size + 1 ≤ 9223372036854775807
         · rw [if_pos c5] at h
           obtain ⟨t601, q6, h⟩ := Option.bind_eq_some_iff.1 h
           have q6c := spec_l13Dec.ctr k' _ _ q6
           by_cases c7 : x3.size + 1 + t601.size ≤ 9223372036854775807
           · rw [if_pos c7] at h
             refine path_ok (k := 17) hF (RetQ_mild _ _ _ _ _ _ _ _) (ds := [.b true, .e 11 (.rf [.v (.int .i64 (rd x6 x8))]), .b true, .r [.ro (.v (.string t601))] []]) (os := []) (c := none) rfl KD ?_
             exact WS.lpc [] (hJ0 _ _ (Nat.lt_succ_self _) ⟨by omega, ((x3 ++ (⟨#[32]⟩ : ByteArray)) ++ t601), x6, x7, (wrap64 (x8 + 1)), h, rfl⟩) KD
           · rw [if_neg c7] at h
             cases h
         · rw [if_neg c5] at h
           cases h
       · rw [if_neg c4] at h
         obtain ⟨t602, q8, h⟩ := Option.bind_eq_some_iff.1 h
         have q8c := spec_l13Dec.ctr k' _ _ q8
         by_cases c9 : x3.size + t602.size ≤ 9223372036854775807
         · rw [if_pos c9] at h
           refine path_ok (k := 17) hF (RetQ_mild _ _ _ _ _ _ _ _) (ds := [.b true, .e 11 (.rf [.v (.int .i64 (rd x6 x8))]), .b false, .r [.ro (.v (.string t602))] []]) (os := []) (c := none) rfl KD ?_
           exact WS.lpc [] (hJ0 _ _ (Nat.lt_succ_self _) ⟨by omega, (x3 ++ t602), x6, x7, (wrap64 (x8 + 1)), h, rfl⟩) KD
         · rw [if_neg c9] at h
           cases h
     · rw [if_neg c3] at h
       cases h
   · rw [if_neg c2] at h
     cases h
 · rw [if_neg c1] at h
   by_cases c10 : x3.toList = ([] : List UInt8)
   · rw [if_pos c10] at h
     refine path_ok (k := 12) hF (RetQ_mild _ _ _ _ _ _ _ _) (ds := [.b false, .b true]) (os := []) (c := none) rfl KD ?_
     cases h
     exact ret_as (ms := [.ro]) rfl KD
   · rw [if_neg c10] at h
     refine path_ok (k := 13) hF (RetQ_mild _ _ _ _ _ _ _ _) (ds := [.b false, .b false]) (os := []) (c := none) rfl KD ?_
     cases h
     exact ret_as (ms := [.ro]) rfl KD
theorem spec_l2Numbers.cs (k : Nat) : spec_l2Numbers.C k := by
 induction k using Nat.strongRecOn with
 | _ k ih0 =>
 have ih : Kp (∀ m, m < k → spec_l2Numbers.C m) := ⟨ih0⟩
 exact ⟨spec_l2Numbers.c_l0 k ih⟩
set_option maxRecDepth 100000 in
set_option maxHeartbeats 4000000 in
theorem spec_l2Numbers.ctr (k : Nat) (l0 : List Int) (r : ByteArray) (h : spec_l2Numbers.f k l0 = some r) : Ctr TE 80 none [.sl 1 (rX (cI .i64) l0)] [.ro (.v (.string r))] [] := by
 refine ctr_of (fn := Tryz.f80) (c := (bodyOf Tryz.f80)) Tryz.func80 rfl (by kernel_rfl) (Nat.le_of_ble_eq_true (by kernel_rfl)) (fun w ro B hF _ => ?_)
 have ih : Kp (∀ m, m < k + 1 → spec_l2Numbers.C m) := ⟨fun m _ => spec_l2Numbers.cs m⟩
 simp only [spec_l2Numbers.f] at h
 refine path_ok (k := 8) hF (RetQ_mild _ _ _ _ _ _ _ _) (ds := [.e 7 (.v (.int .i64 (l0.length : Int)))]) (os := []) (c := none) rfl KD ?_
 exact WS.can [] (((ih.out k (by omega)).s_l0  r w ro B hF (⟨#[]⟩ : ByteArray) l0 (l0.length : Int) 0 h).out) KD
def spec_FormatLayout.l0 : Nat → ByteArray → List (List Int) → Int → Int → List (List Int) → List Int → Option (ByteArray)
  | 0, _, _, _, _, _, _ => none
  | k + 1, x3, x7, x8, x9, x604000, x604001 => if x9 < x8 then (if 0 ≤ x9 then (if x9 < (x7.length : Int) then ((spec_l2Numbers.f k (rd_L3 x7 x9)).bind fun t605 => (if x3.size + t605.size ≤ 9223372036854775807 then (if x3.size + t605.size + 1 ≤ 9223372036854775807 then (spec_FormatLayout.l0 k ((x3 ++ t605) ++ (⟨#[124]⟩ : ByteArray)) x7 x8 (wrap64 (x9 + 1)) x604000 x604001) else (none)) else (none))) else (none)) else (none)) else ((spec_l2Numbers.f k x604001).bind fun t606 => (if x3.size + t606.size ≤ 9223372036854775807 then (some (x3 ++ t606)) else (none)))
def spec_FormatLayout.f (k : Nat) (l0_0 : List (List Int)) (l0_1 : List Int) : Option (ByteArray) := spec_FormatLayout.l0 k (⟨#[]⟩ : ByteArray) l0_0 (l0_0.length : Int) 0 l0_0 l0_1
def spec_FormatLayout.I0 (r : ByteArray) (m : Nat) (σ : St) : Prop := ∃ (x3 : ByteArray) (x7 : List (List Int)) (x8 : Int) (x9 : Int) (x604000 : List (List Int)) (x604001 : List Int), spec_FormatLayout.l0 m x3 x7 x8 x9 x604000 x604001 = some r ∧ σ = ⟨[(1, .pt 1001 0 0), (3, .v (.string x3)), (7, .sl 1 (rX (cL (cI .i64) 1) x7)), (8, .v (.int .i64 x8)), (9, .v (.int .i64 x9))], [(1001, .box 0 29 false [.sl 1 (rX (cL (cI .i64) 1) x604000), .sl 1 (rX (cI .i64) x604001)])]⟩
structure spec_FormatLayout.C (k : Nat) : Prop where
 s_l0 : ∀ (r : ByteArray) (w : World) (ro : Nat → Prop) (B : Nat) (_ : Fr TE (cx0 Tryz.f32 none w ro B)) (x3 : ByteArray) (x7 : List (List Int)) (x8 : Int) (x9 : Int) (x604000 : List (List Int)) (x604001 : List Int) (_ : spec_FormatLayout.l0 k x3 x7 x8 x9 x604000 x604001 = some r), Kp (WS TE (cx0 Tryz.f32 none w ro B) (stkAt [1, 1, 0, 1, 0] [] (bodyOf Tryz.f32) []) ⟨[(1, .pt 1001 0 0), (3, .v (.string x3)), (7, .sl 1 (rX (cL (cI .i64) 1) x7)), (8, .v (.int .i64 x8)), (9, .v (.int .i64 x9))], [(1001, .box 0 29 false [.sl 1 (rX (cL (cI .i64) 1) x604000), .sl 1 (rX (cI .i64) x604001)])]⟩ (RetQ TE Tryz.f32 none [.ro (.v (.string r))] [] w ro B))
set_option maxRecDepth 100000 in
set_option maxHeartbeats 4000000 in
theorem spec_FormatLayout.c_l0 (k : Nat) (ih : Kp (∀ m, m < k → spec_FormatLayout.C m)) (r : ByteArray) (w : World) (ro : Nat → Prop) (B : Nat) (hF : Fr TE (cx0 Tryz.f32 none w ro B)) (x3 : ByteArray) (x7 : List (List Int)) (x8 : Int) (x9 : Int) (x604000 : List (List Int)) (x604001 : List Int) (h : spec_FormatLayout.l0 k x3 x7 x8 x9 x604000 x604001 = some r) : Kp (WS TE (cx0 Tryz.f32 none w ro B) (stkAt [1, 1, 0, 1, 0] [] (bodyOf Tryz.f32) []) ⟨[(1, .pt 1001 0 0), (3, .v (.string x3)), (7, .sl 1 (rX (cL (cI .i64) 1) x7)), (8, .v (.int .i64 x8)), (9, .v (.int .i64 x9))], [(1001, .box 0 29 false [.sl 1 (rX (cL (cI .i64) 1) x604000), .sl 1 (rX (cI .i64) x604001)])]⟩ (RetQ TE Tryz.f32 none [.ro (.v (.string r))] [] w ro B)) := by
 refine ⟨WS.loop (fun m σ => m ≤ k ∧ spec_FormatLayout.I0 r m σ) k ⟨Nat.le_refl k, x3, x7, x8, x9, x604000, x604001, h, rfl⟩ (fun m σ' hI J0 hJ0 => ?_)⟩
 clear h
 obtain ⟨hk, x3, x7, x8, x9, x604000, x604001, h, rfl⟩ := hI
 cases m with
 | zero => simp [spec_FormatLayout.l0] at h
 | succ k' =>
 simp only [spec_FormatLayout.l0] at h
 by_cases c1 : x9 < x8
 · rw [if_pos c1] at h
   by_cases c2 : 0 ≤ x9
   · rw [if_pos c2] at h
     by_cases c3 : x9 < (x7.length : Int)
     · rw [if_pos c3] at h
       obtain ⟨t605, q4, h⟩ := Option.bind_eq_some_iff.1 h
       have q4c := spec_l2Numbers.ctr k' _ _ q4
       by_cases c5 : x3.size + t605.size ≤ 9223372036854775807
       · rw [if_pos c5] at h
         by_cases c6 : x3.size + t605.size + 1 ≤ 9223372036854775807
         · rw [if_pos c6] at h
           refine path_ok (k := 12) hF (RetQ_mild _ _ _ _ _ _ _ _) (ds := [.b true, .e 11 (.rf [.sl 1 (rX (cI .i64) (rd_L3 x7 x9))]), .r [.ro (.v (.string t605))] []]) (os := []) (c := none) rfl KD ?_
           exact WS.lpc [(1001, some 1001)] (hJ0 _ _ (Nat.lt_succ_self _) ⟨by omega, ((x3 ++ t605) ++ (⟨#[124]⟩ : ByteArray)), x7, x8, (wrap64 (x9 + 1)), x604000, x604001, h, rfl⟩) KD
         · rw [if_neg c6] at h
           cases h
       · rw [if_neg c5] at h
         cases h
     · rw [if_neg c3] at h
       cases h
   · rw [if_neg c2] at h
     cases h
 · rw [if_neg c1] at h
   obtain ⟨t606, q7, h⟩ := Option.bind_eq_some_iff.1 h
   have q7c := spec_l2Numbers.ctr k' _ _ q7
   by_cases c8 : x3.size + t606.size ≤ 9223372036854775807
   · rw [if_pos c8] at h
     refine path_ok (k := 8) hF (RetQ_mild _ _ _ _ _ _ _ _) (ds := [.b false, .r [.ro (.v (.string t606))] []]) (os := []) (c := none) rfl KD ?_
     cases h
     exact ret_as (ms := [.ro]) rfl KD
   · rw [if_neg c8] at h
     cases h
theorem spec_FormatLayout.cs (k : Nat) : spec_FormatLayout.C k := by
 induction k using Nat.strongRecOn with
 | _ k ih0 =>
 have ih : Kp (∀ m, m < k → spec_FormatLayout.C m) := ⟨ih0⟩
 exact ⟨spec_FormatLayout.c_l0 k ih⟩
set_option maxRecDepth 100000 in
set_option maxHeartbeats 4000000 in
theorem spec_FormatLayout.ctr (k : Nat) (l0_0 : List (List Int)) (l0_1 : List Int) (r : ByteArray) (h : spec_FormatLayout.f k l0_0 l0_1 = some r) : Ctr TE 32 none [.ag [.sl 1 (rX (cL (cI .i64) 1) l0_0), .sl 1 (rX (cI .i64) l0_1)]] [.ro (.v (.string r))] [] := by
 refine ctr_of (fn := Tryz.f32) (c := (bodyOf Tryz.f32)) Tryz.func32 rfl (by kernel_rfl) (Nat.le_of_ble_eq_true (by kernel_rfl)) (fun w ro B hF _ => ?_)
 have ih : Kp (∀ m, m < k + 1 → spec_FormatLayout.C m) := ⟨fun m _ => spec_FormatLayout.cs m⟩
 simp only [spec_FormatLayout.f] at h
 refine path_ok (k := 8) hF (RetQ_mild _ _ _ _ _ _ _ _) (ds := [.e 8 (.v (.int .i64 (l0_0.length : Int)))]) (os := []) (c := none) rfl KD ?_
 exact WS.can [(1001, some 1)] (((ih.out k (by omega)).s_l0  r w ro B hF (⟨#[]⟩ : ByteArray) l0_0 (l0_0.length : Int) 0 l0_0 l0_1 h).out) KD
def spec_FormatVector.f (k : Nat) (a0_0 : Int) (l0_1 : List (List Int)) (l0_2 : List Int) : Option (ByteArray) := (spec_l13Dec.f k a0_0).bind fun t608 => (if t608.size + 1 ≤ 9223372036854775807 then ((spec_FormatLayout.f k l0_1 l0_2).bind fun t609 => (if t608.size + 1 + t609.size ≤ 9223372036854775807 then (some ((t608 ++ (⟨#[42]⟩ : ByteArray)) ++ t609)) else (none))) else (none))
set_option maxRecDepth 100000 in
set_option maxHeartbeats 4000000 in
theorem spec_FormatVector.ctr (k : Nat) (a0_0 : Int) (l0_1 : List (List Int)) (l0_2 : List Int) (r : ByteArray) (h : spec_FormatVector.f k a0_0 l0_1 l0_2 = some r) : Ctr TE 17 none [.ag [.v (.int .i64 a0_0), .sl 1 (rX (cL (cI .i64) 1) l0_1), .sl 1 (rX (cI .i64) l0_2)]] [.ro (.v (.string r))] [] := by
 refine ctr_of (fn := Tryz.f17) (c := (bodyOf Tryz.f17)) Tryz.func17 rfl (by kernel_rfl) (Nat.le_of_ble_eq_true (by kernel_rfl)) (fun w ro B hF _ => ?_)
 simp only [spec_FormatVector.f] at h
 obtain ⟨t608, q1, h⟩ := Option.bind_eq_some_iff.1 h
 have q1c := spec_l13Dec.ctr k _ _ q1
 by_cases c2 : t608.size + 1 ≤ 9223372036854775807
 · rw [if_pos c2] at h
   obtain ⟨t609, q3, h⟩ := Option.bind_eq_some_iff.1 h
   have q3c := spec_FormatLayout.ctr k _ _ _ q3
   by_cases c4 : t608.size + 1 + t609.size ≤ 9223372036854775807
   · rw [if_pos c4] at h
     refine path_ok (k := 5) hF (RetQ_mild _ _ _ _ _ _ _ _) (ds := [.r [.ro (.v (.string t608))] [], .r [.ro (.v (.string t609))] []]) (os := [.o [(0, 0), (1, 1), (4, 0), (5, 1), (2, 2), (3, 0), (6, 2), (7, 0), (8, 0)] []]) (c := none) rfl KD ?_
     cases h
     exact ret_as (ms := [.ro]) rfl KD
   · rw [if_neg c4] at h
     cases h
 · rw [if_neg c2] at h
   cases h
mutual
def laws_FnPackVector.j0 : Nat → List Int → List Int → Bool → Option (Bool)
  | 0, _, _, _ => none
  | k + 1, x0, x1, x27 => if x27 = true then (some true) else ((spec_DrawPackVector.f k x0).bind fun bt610 => ((impl_PackVector.f k bt610.1 bt610.2).bind fun bt614 => ((spec_PackVector.f k bt610.1 bt610.2).bind fun bt623 => ((spec_DrawUnpackVector.f k x1).bind fun bt632 => ((impl_UnpackVector.f k bt632.1 bt632.2.1 bt632.2.2).bind fun bt640 => ((spec_UnpackVector.f k bt632.1 bt632.2.1 bt632.2.2).bind fun bt644 => ((laws_faVector.f k bt614.1 bt614.2.1 bt614.2.2.1 bt623.1 bt623.2.1 bt623.2.2.1).bind fun t648 => (if t648 = true then (if (bt614.2.2.2 != bt623.2.2.2) = true then (laws_FnPackVector.j1 k bt610.1 bt610.2 bt614.2.2.2 bt640.1 bt640.2 true bt614.1 bt614.2.1 bt614.2.2.1 bt632.1 bt632.2.1 bt632.2.2) else ((laws_faTexts.f k bt640.1 bt644.1).bind fun t649 => (if t649 = true then (if (bt640.2 != bt644.2) = true then (laws_FnPackVector.j1 k bt610.1 bt610.2 bt614.2.2.2 bt640.1 bt640.2 true bt614.1 bt614.2.1 bt614.2.2.1 bt632.1 bt632.2.1 bt632.2.2) else ((impl_VectorValid.f k bt632.1 bt632.2.1 bt632.2.2).bind fun t650 => ((spec_VectorValid.f k bt632.1 bt632.2.1 bt632.2.2).bind fun t651 => (if (t650 != t651) = true then (laws_FnPackVector.j1 k bt610.1 bt610.2 bt614.2.2.2 bt640.1 bt640.2 true bt614.1 bt614.2.1 bt614.2.2.1 bt632.1 bt632.2.1 bt632.2.2) else ((impl_FormatVector.f k bt632.1 bt632.2.1 bt632.2.2).bind fun t652 => ((spec_FormatVector.f k bt632.1 bt632.2.1 bt632.2.2).bind fun t653 => (laws_FnPackVector.j1 k bt610.1 bt610.2 bt614.2.2.2 bt640.1 bt640.2 (t652.toList != t653.toList) bt614.1 bt614.2.1 bt614.2.2.1 bt632.1 bt632.2.1 bt632.2.2))))))) else (laws_FnPackVector.j1 k bt610.1 bt610.2 bt614.2.2.2 bt640.1 bt640.2 true bt614.1 bt614.2.1 bt614.2.2.1 bt632.1 bt632.2.1 bt632.2.2)))) else (laws_FnPackVector.j1 k bt610.1 bt610.2 bt614.2.2.2 bt640.1 bt640.2 true bt614.1 bt614.2.1 bt614.2.2.1 bt632.1 bt632.2.1 bt632.2.2)))))))))
def laws_FnPackVector.j1 : Nat → List ByteArray → Int → Bool → List ByteArray → Bool → Bool → Int → List (List Int) → List Int → Int → List (List Int) → List Int → Option (Bool)
  | 0, _, _, _, _, _, _, _, _, _, _, _, _ => none
  | k + 1, x5, x6, x8, x12, x13, x90, x623000, x623001, x623002, x640000, x640001, x640002 => if x90 = true then (some false) else (if x13 = true then ((impl_PackVector.f k x12 (x640001.length : Int)).bind fun bt654 => (if bt654.2.2.2 = true then ((laws_faVector.f k bt654.1 bt654.2.1 bt654.2.2.1 x640000 x640001 x640002).bind fun t663 => (if t663 = true then (laws_FnPackVector.j2 k x5 x6 x8 x623000 x623001 x623002) else (some false))) else (some false))) else (laws_FnPackVector.j2 k x5 x6 x8 x623000 x623001 x623002))
def laws_FnPackVector.j2 : Nat → List ByteArray → Int → Bool → Int → List (List Int) → List Int → Option (Bool)
  | 0, _, _, _, _, _, _ => none
  | k + 1, x5, x6, x8, x623000, x623001, x623002 => if x8 = true then ((impl_UnpackVector.f k x623000 x623001 x623002).bind fun bt664 => (if bt664.2 = true then ((laws_faTexts.f k bt664.1 x5).bind fun t668 => (if t668 = true then ((impl_VectorValid.f k x623000 x623001 x623002).bind fun t669 => (if t669 = true then (if x623000 = (x5.length : Int) then (some ((x623001.length : Int) == x6)) else (some false)) else (some false))) else (some false))) else (some false))) else (some (x623000 == 0))
end
def laws_FnPackVector.f (k : Nat) (l0 : List Int) (l1 : List Int) : Option (Bool) := if (l0.length : Int) > 1048576 then (laws_FnPackVector.j0 k l0 l1 true) else (laws_FnPackVector.j0 k l0 l1 (decide ((l1.length : Int) > 1048576)))
structure laws_FnPackVector.C (k : Nat) : Prop where
 s_j0 : ∀ (r : Bool) (w : World) (ro : Nat → Prop) (B : Nat) (_ : Fr TE (cx0 Tryz.f3 none w ro B)) (x0 : List Int) (x1 : List Int) (x27 : Bool) (_ : laws_FnPackVector.j0 k x0 x1 x27 = some r), Kp (WS TE (cx0 Tryz.f3 none w ro B) (stkAt [1, 0, 0, 9] [] (bodyOf Tryz.f3) []) ⟨[(0, .sl 1 (rX (cI .u8) x0)), (1, .sl 1 (rX (cI .u8) x1)), (27, .v (.bool x27))], []⟩ (RetQ TE Tryz.f3 none [.ro (.v (.bool r))] [] w ro B))
 s_j1 : ∀ (r : Bool) (w : World) (ro : Nat → Prop) (B : Nat) (_ : Fr TE (cx0 Tryz.f3 none w ro B)) (x5 : List ByteArray) (x6 : Int) (x8 : Bool) (x12 : List ByteArray) (x13 : Bool) (x90 : Bool) (x623000 : Int) (x623001 : List (List Int)) (x623002 : List Int) (x640000 : Int) (x640001 : List (List Int)) (x640002 : List Int) (_ : laws_FnPackVector.j1 k x5 x6 x8 x12 x13 x90 x623000 x623001 x623002 x640000 x640001 x640002 = some r), Kp (WS TE (cx0 Tryz.f3 none w ro B) (stkAt [1, 1, 1, 1, 1, 1, 1, 1, 0, 0, 9] [] (bodyOf Tryz.f3) []) ⟨[(5, .sl 1 (rX cS x5)), (6, .v (.int .i64 x6)), (7, .pt 1007 0 0), (8, .v (.bool x8)), (11, .pt 1011 0 0), (12, .sl 1 (rX cS x12)), (13, .v (.bool x13)), (90, .v (.bool x90))], [(1007, .box 0 31 false [.v (.int .i64 x623000), .sl 1 (rX (cL (cI .i64) 1) x623001), .sl 1 (rX (cI .i64) x623002)]), (1011, .box 0 31 false [.v (.int .i64 x640000), .sl 1 (rX (cL (cI .i64) 1) x640001), .sl 1 (rX (cI .i64) x640002)])]⟩ (RetQ TE Tryz.f3 none [.ro (.v (.bool r))] [] w ro B))
 s_j2 : ∀ (r : Bool) (w : World) (ro : Nat → Prop) (B : Nat) (_ : Fr TE (cx0 Tryz.f3 none w ro B)) (x5 : List ByteArray) (x6 : Int) (x8 : Bool) (x623000 : Int) (x623001 : List (List Int)) (x623002 : List Int) (_ : laws_FnPackVector.j2 k x5 x6 x8 x623000 x623001 x623002 = some r), Kp (WS TE (cx0 Tryz.f3 none w ro B) (stkAt [1, 1, 1, 1, 1, 1, 1, 1, 1, 0, 1, 9] [] (bodyOf Tryz.f3) []) ⟨[(5, .sl 1 (rX cS x5)), (6, .v (.int .i64 x6)), (7, .pt 1007 0 0), (8, .v (.bool x8))], [(1007, .box 0 31 false [.v (.int .i64 x623000), .sl 1 (rX (cL (cI .i64) 1) x623001), .sl 1 (rX (cI .i64) x623002)])]⟩ (RetQ TE Tryz.f3 none [.ro (.v (.bool r))] [] w ro B))
set_option maxRecDepth 100000 in
set_option maxHeartbeats 4000000 in
theorem laws_FnPackVector.c_j0 (k : Nat) (ih : Kp (∀ m, m < k → laws_FnPackVector.C m)) (r : Bool) (w : World) (ro : Nat → Prop) (B : Nat) (hF : Fr TE (cx0 Tryz.f3 none w ro B)) (x0 : List Int) (x1 : List Int) (x27 : Bool) (h : laws_FnPackVector.j0 k x0 x1 x27 = some r) : Kp (WS TE (cx0 Tryz.f3 none w ro B) (stkAt [1, 0, 0, 9] [] (bodyOf Tryz.f3) []) ⟨[(0, .sl 1 (rX (cI .u8) x0)), (1, .sl 1 (rX (cI .u8) x1)), (27, .v (.bool x27))], []⟩ (RetQ TE Tryz.f3 none [.ro (.v (.bool r))] [] w ro B)) := by
 refine ⟨?_⟩
 cases k with
 | zero => simp [laws_FnPackVector.j0] at h
 | succ k =>
 simp only [laws_FnPackVector.j0] at h
 by_cases c2 : x27 = true
 · rw [if_pos c2] at h
   refine path_ok (k := 4) hF (RetQ_mild _ _ _ _ _ _ _ _) (ds := [.b true]) (os := []) (c := none) rfl KD ?_
   cases h
   exact ret_as (ms := [.ro]) rfl KD
 · rw [if_neg c2] at h
   obtain ⟨⟨t610, t611⟩, q3, h⟩ := Option.bind_eq_some_iff.1 h
   dsimp only at h
   have q3c := spec_DrawPackVector.ctr k _ _ _ q3
   obtain ⟨⟨t614, t615, t618, t621⟩, q4, h⟩ := Option.bind_eq_some_iff.1 h
   dsimp only at h
   have q4c := impl_PackVector.ctr k _ _ _ _ _ _ q4
   obtain ⟨⟨t623, t624, t627, t630⟩, q5, h⟩ := Option.bind_eq_some_iff.1 h
   dsimp only at h
   have q5c := spec_PackVector.ctr k _ _ _ _ _ _ q5
   obtain ⟨⟨t632, t633, t636⟩, q6, h⟩ := Option.bind_eq_some_iff.1 h
   dsimp only at h
   have q6c := spec_DrawUnpackVector.ctr k _ _ _ _ q6
   obtain ⟨⟨t640, t643⟩, q7, h⟩ := Option.bind_eq_some_iff.1 h
   dsimp only at h
   have q7c := impl_UnpackVector.ctr k _ _ _ _ _ q7
   obtain ⟨⟨t644, t647⟩, q8, h⟩ := Option.bind_eq_some_iff.1 h
   dsimp only at h
   have q8c := spec_UnpackVector.ctr k _ _ _ _ _ q8
   obtain ⟨t648, q9, h⟩ := Option.bind_eq_some_iff.1 h
   have q9c := laws_faVector.ctr k _ _ _ _ _ _ _ q9
   by_cases c10 : t648 = true
   · rw [if_pos c10] at h
     by_cases c11 : (t621 != t630) = true
     · rw [if_pos c11] at h
       refine path_ok (k := 17) hF (RetQ_mild _ _ _ _ _ _ _ _) (ds := [.b false, .r [.own 9 1 (rX cS t610), .ro (.v (.int .i64 t611))] [], .r [.ro (.ag [.v (.int .i64 t614), .sl 1 (rX (cL (cI .i64) 1) t615), .sl 1 (rX (cI .i64) t618)]), .ro (.v (.bool t621))] [], .r [.ro (.ag [.v (.int .i64 t623), .sl 1 (rX (cL (cI .i64) 1) t624), .sl 1 (rX (cI .i64) t627)]), .ro (.v (.bool t630))] [], .r [.ro (.ag [.v (.int .i64 t632), .sl 1 (rX (cL (cI .i64) 1) t633), .sl 1 (rX (cI .i64) t636)])] [], .r [.own 9 1 (rX cS t640), .ro (.v (.bool t643))] [], .r [.own 9 1 (rX cS t644), .ro (.v (.bool t647))] []]) (os := [.p 17179869183 [⟨0, 34, false, [0, 1]⟩, ⟨1, 33, false, [1]⟩, ⟨2, 33, false, [0]⟩, ⟨3, 32, false, [2]⟩, ⟨7, 31, true, [3]⟩, ⟨15, 30, true, [4]⟩, ⟨31, 29, true, [5]⟩, ⟨63, 28, true, [6]⟩, ⟨127, 27, true, [7]⟩, ⟨255, 26, true, [8]⟩, ⟨511, 25, true, [9]⟩, ⟨1023, 24, true, [10]⟩, ⟨2047, 23, true, [11]⟩, ⟨4095, 22, false, [12]⟩, ⟨8191, 21, true, [13]⟩, ⟨16383, 20, true, [14]⟩, ⟨32767, 19, true, [15]⟩, ⟨65535, 18, true, [16]⟩, ⟨131071, 17, true, [17]⟩, ⟨262143, 16, true, [18]⟩, ⟨524287, 15, true, [19]⟩, ⟨1048575, 14, true, [20]⟩, ⟨2097151, 13, false, [21, 23]⟩, ⟨4194303, 12, false, [22, 23]⟩, ⟨10485759, 12, false, [21]⟩, ⟨8388607, 11, false, [23]⟩, ⟨12582911, 11, false, [22]⟩, ⟨16777215, 10, false, [24]⟩, ⟨33554431, 9, true, [25]⟩, ⟨67108863, 8, true, [26]⟩, ⟨134217727, 7, true, [27]⟩, ⟨268435455, 6, false, [28, 30]⟩, ⟨536870911, 5, false, [29, 30]⟩, ⟨1342177279, 5, false, [28]⟩, ⟨1073741823, 4, false, [30]⟩, ⟨1610612735, 4, false, [29]⟩, ⟨2147483647, 3, false, [31]⟩, ⟨4294967295, 2, true, [32]⟩, ⟨8589934591, 1, true, [33]⟩] [(0, false), (1, false), (2, false), (3, true), (4, true), (5, true), (6, true), (7, true), (8, true), (9, true), (10, true), (11, true), (12, false), (13, true), (14, true), (15, true), (16, true), (17, true), (18, true), (19, true), (20, true), (21, false), (22, false), (23, false), (24, false), (25, true), (26, true), (27, true), (28, false), (29, false), (30, false), (31, false), (32, true), (33, true)] [(2, [.r [.ro (.v (.bool t648))] []]), (5, [.b false]), (6, [.b false]), (7, [.b false]), (8, [.b false]), (10, [.b true]), (11, [.b true]), (12, [.b true]), (13, [.b true]), (14, [.b true]), (16, [.b true]), (17, [.b true]), (18, [.b true]), (19, [.b true]), (21, [.c true]), (22, [.c true]), (23, [.c true]), (24, [.c true]), (25, [.c true]), (26, [.b true]), (28, [.c true]), (29, [.c true]), (30, [.c true]), (31, [.c true]), (32, [.c true]), (33, [.b true])]]) (c := none) rfl KD ?_
       refine WS.freeze 100784 ?_ rfl
       exact WS.can [(1007, some 7), (1011, some 11)] (((ih.out k (by omega)).s_j1  r w ro B hF t610 t611 t621 t640 t643 true t614 t615 t618 t632 t633 t636 h).out) KD
     · rw [if_neg c11] at h
       obtain ⟨t649, q12, h⟩ := Option.bind_eq_some_iff.1 h
       have q12c := laws_faTexts.ctr k _ _ _ q12
       by_cases c13 : t649 = true
       · rw [if_pos c13] at h
         by_cases c14 : (t643 != t647) = true
         · rw [if_pos c14] at h
           refine path_ok (k := 17) hF (RetQ_mild _ _ _ _ _ _ _ _) (ds := [.b false, .r [.own 9 1 (rX cS t610), .ro (.v (.int .i64 t611))] [], .r [.ro (.ag [.v (.int .i64 t614), .sl 1 (rX (cL (cI .i64) 1) t615), .sl 1 (rX (cI .i64) t618)]), .ro (.v (.bool t621))] [], .r [.ro (.ag [.v (.int .i64 t623), .sl 1 (rX (cL (cI .i64) 1) t624), .sl 1 (rX (cI .i64) t627)]), .ro (.v (.bool t630))] [], .r [.ro (.ag [.v (.int .i64 t632), .sl 1 (rX (cL (cI .i64) 1) t633), .sl 1 (rX (cI .i64) t636)])] [], .r [.own 9 1 (rX cS t640), .ro (.v (.bool t643))] [], .r [.own 9 1 (rX cS t644), .ro (.v (.bool t647))] []]) (os := [.p 17179869183 [⟨0, 34, false, [0, 1]⟩, ⟨1, 33, false, [1]⟩, ⟨2, 33, false, [0]⟩, ⟨3, 32, false, [2]⟩, ⟨7, 31, true, [3]⟩, ⟨15, 30, true, [4]⟩, ⟨31, 29, true, [5]⟩, ⟨63, 28, true, [6]⟩, ⟨127, 27, true, [7]⟩, ⟨255, 26, true, [8]⟩, ⟨511, 25, true, [9]⟩, ⟨1023, 24, true, [10]⟩, ⟨2047, 23, true, [11]⟩, ⟨4095, 22, false, [12]⟩, ⟨8191, 21, true, [13]⟩, ⟨16383, 20, true, [14]⟩, ⟨32767, 19, true, [15]⟩, ⟨65535, 18, true, [16]⟩, ⟨131071, 17, true, [17]⟩, ⟨262143, 16, true, [18]⟩, ⟨524287, 15, true, [19]⟩, ⟨1048575, 14, true, [20]⟩, ⟨2097151, 13, false, [21, 23]⟩, ⟨4194303, 12, false, [22, 23]⟩, ⟨10485759, 12, false, [21]⟩, ⟨8388607, 11, false, [23]⟩, ⟨12582911, 11, false, [22]⟩, ⟨16777215, 10, false, [24]⟩, ⟨33554431, 9, true, [25]⟩, ⟨67108863, 8, true, [26]⟩, ⟨134217727, 7, true, [27]⟩, ⟨268435455, 6, false, [28, 30]⟩, ⟨536870911, 5, false, [29, 30]⟩, ⟨1342177279, 5, false, [28]⟩, ⟨1073741823, 4, false, [30]⟩, ⟨1610612735, 4, false, [29]⟩, ⟨2147483647, 3, false, [31]⟩, ⟨4294967295, 2, true, [32]⟩, ⟨8589934591, 1, true, [33]⟩] [(0, false), (1, false), (2, false), (3, true), (4, true), (5, true), (6, true), (7, true), (8, true), (9, true), (10, true), (11, true), (12, false), (13, true), (14, true), (15, true), (16, true), (17, true), (18, true), (19, true), (20, true), (21, false), (22, false), (23, false), (24, false), (25, true), (26, true), (27, true), (28, false), (29, false), (30, false), (31, false), (32, true), (33, true)] [(2, [.r [.ro (.v (.bool t648))] []]), (5, [.b false]), (6, [.b false]), (7, [.b false]), (8, [.b false]), (10, [.b false]), (11, [.b false]), (12, [.b false, .r [.ro (.v (.bool t649))] []]), (13, [.b false]), (14, [.b false]), (16, [.b false]), (17, [.b false]), (18, [.b false]), (19, [.b false]), (21, [.c true]), (22, [.c true]), (23, [.c true]), (24, [.c true]), (25, [.c true]), (26, [.b true]), (28, [.c true]), (29, [.c true]), (30, [.c true]), (31, [.c true]), (32, [.c true]), (33, [.b true])]]) (c := none) rfl KD ?_
           exact WS.can [(1007, some 7), (1011, some 11)] (((ih.out k (by omega)).s_j1  r w ro B hF t610 t611 t621 t640 t643 true t614 t615 t618 t632 t633 t636 h).out) KD
         · rw [if_neg c14] at h
           obtain ⟨t650, q15, h⟩ := Option.bind_eq_some_iff.1 h
           have q15c := impl_VectorValid.ctr k _ _ _ _ q15
           obtain ⟨t651, q16, h⟩ := Option.bind_eq_some_iff.1 h
           have q16c := spec_VectorValid.ctr k _ _ _ _ q16
           by_cases c17 : (t650 != t651) = true
           · rw [if_pos c17] at h
             refine path_ok (k := 17) hF (RetQ_mild _ _ _ _ _ _ _ _) (ds := [.b false, .r [.own 9 1 (rX cS t610), .ro (.v (.int .i64 t611))] [], .r [.ro (.ag [.v (.int .i64 t614), .sl 1 (rX (cL (cI .i64) 1) t615), .sl 1 (rX (cI .i64) t618)]), .ro (.v (.bool t621))] [], .r [.ro (.ag [.v (.int .i64 t623), .sl 1 (rX (cL (cI .i64) 1) t624), .sl 1 (rX (cI .i64) t627)]), .ro (.v (.bool t630))] [], .r [.ro (.ag [.v (.int .i64 t632), .sl 1 (rX (cL (cI .i64) 1) t633), .sl 1 (rX (cI .i64) t636)])] [], .r [.own 9 1 (rX cS t640), .ro (.v (.bool t643))] [], .r [.own 9 1 (rX cS t644), .ro (.v (.bool t647))] []]) (os := [.p 17179869183 [⟨0, 34, false, [0, 1]⟩, ⟨1, 33, false, [1]⟩, ⟨2, 33, false, [0]⟩, ⟨3, 32, false, [2]⟩, ⟨7, 31, true, [3]⟩, ⟨15, 30, true, [4]⟩, ⟨31, 29, true, [5]⟩, ⟨63, 28, true, [6]⟩, ⟨127, 27, true, [7]⟩, ⟨255, 26, true, [8]⟩, ⟨511, 25, true, [9]⟩, ⟨1023, 24, true, [10]⟩, ⟨2047, 23, true, [11]⟩, ⟨4095, 22, false, [12]⟩, ⟨8191, 21, true, [13]⟩, ⟨16383, 20, true, [14]⟩, ⟨32767, 19, true, [15]⟩, ⟨65535, 18, true, [16]⟩, ⟨131071, 17, true, [17]⟩, ⟨262143, 16, true, [18]⟩, ⟨524287, 15, true, [19]⟩, ⟨1048575, 14, true, [20]⟩, ⟨2097151, 13, false, [21, 23]⟩, ⟨4194303, 12, false, [22, 23]⟩, ⟨10485759, 12, false, [21]⟩, ⟨8388607, 11, false, [23]⟩, ⟨12582911, 11, false, [22]⟩, ⟨16777215, 10, false, [24]⟩, ⟨33554431, 9, true, [25]⟩, ⟨67108863, 8, true, [26]⟩, ⟨134217727, 7, true, [27]⟩, ⟨268435455, 6, false, [28, 30]⟩, ⟨536870911, 5, false, [29, 30]⟩, ⟨1342177279, 5, false, [28]⟩, ⟨1073741823, 4, false, [30]⟩, ⟨1610612735, 4, false, [29]⟩, ⟨2147483647, 3, false, [31]⟩, ⟨4294967295, 2, true, [32]⟩, ⟨8589934591, 1, true, [33]⟩] [(0, false), (1, false), (2, false), (3, true), (4, true), (5, true), (6, true), (7, true), (8, true), (9, true), (10, true), (11, true), (12, false), (13, true), (14, true), (15, true), (16, true), (17, true), (18, true), (19, true), (20, true), (21, false), (22, false), (23, false), (24, false), (25, true), (26, true), (27, true), (28, false), (29, false), (30, false), (31, false), (32, true), (33, true)] [(2, [.r [.ro (.v (.bool t648))] []]), (5, [.b false]), (6, [.b false]), (7, [.b false]), (8, [.b false]), (10, [.b false]), (11, [.b false]), (12, [.b false, .r [.ro (.v (.bool t649))] []]), (13, [.b false]), (14, [.b false]), (16, [.b false]), (17, [.b false]), (18, [.b false]), (19, [.b false]), (21, [.c false]), (22, [.c false, .r [.ro (.v (.bool t650))] []]), (23, [.c false]), (24, [.c false, .r [.ro (.v (.bool t651))] []]), (25, [.c false]), (26, [.b false]), (28, [.c true]), (29, [.c true]), (30, [.c true]), (31, [.c true]), (32, [.c true]), (33, [.b true])]]) (c := none) rfl KD ?_
             exact WS.can [(1007, some 7), (1011, some 11)] (((ih.out k (by omega)).s_j1  r w ro B hF t610 t611 t621 t640 t643 true t614 t615 t618 t632 t633 t636 h).out) KD
           · rw [if_neg c17] at h
             obtain ⟨t652, q18, h⟩ := Option.bind_eq_some_iff.1 h
             have q18c := impl_FormatVector.ctr k _ _ _ _ q18
             obtain ⟨t653, q19, h⟩ := Option.bind_eq_some_iff.1 h
             have q19c := spec_FormatVector.ctr k _ _ _ _ q19
             refine path_ok (k := 17) hF (RetQ_mild _ _ _ _ _ _ _ _) (ds := [.b false, .r [.own 9 1 (rX cS t610), .ro (.v (.int .i64 t611))] [], .r [.ro (.ag [.v (.int .i64 t614), .sl 1 (rX (cL (cI .i64) 1) t615), .sl 1 (rX (cI .i64) t618)]), .ro (.v (.bool t621))] [], .r [.ro (.ag [.v (.int .i64 t623), .sl 1 (rX (cL (cI .i64) 1) t624), .sl 1 (rX (cI .i64) t627)]), .ro (.v (.bool t630))] [], .r [.ro (.ag [.v (.int .i64 t632), .sl 1 (rX (cL (cI .i64) 1) t633), .sl 1 (rX (cI .i64) t636)])] [], .r [.own 9 1 (rX cS t640), .ro (.v (.bool t643))] [], .r [.own 9 1 (rX cS t644), .ro (.v (.bool t647))] []]) (os := [.p 17179869183 [⟨0, 34, false, [0, 1]⟩, ⟨1, 33, false, [1]⟩, ⟨2, 33, false, [0]⟩, ⟨3, 32, false, [2]⟩, ⟨7, 31, true, [3]⟩, ⟨15, 30, true, [4]⟩, ⟨31, 29, true, [5]⟩, ⟨63, 28, true, [6]⟩, ⟨127, 27, true, [7]⟩, ⟨255, 26, true, [8]⟩, ⟨511, 25, true, [9]⟩, ⟨1023, 24, true, [10]⟩, ⟨2047, 23, true, [11]⟩, ⟨4095, 22, false, [12]⟩, ⟨8191, 21, true, [13]⟩, ⟨16383, 20, true, [14]⟩, ⟨32767, 19, true, [15]⟩, ⟨65535, 18, true, [16]⟩, ⟨131071, 17, true, [17]⟩, ⟨262143, 16, true, [18]⟩, ⟨524287, 15, true, [19]⟩, ⟨1048575, 14, true, [20]⟩, ⟨2097151, 13, false, [21, 23]⟩, ⟨4194303, 12, false, [22, 23]⟩, ⟨10485759, 12, false, [21]⟩, ⟨8388607, 11, false, [23]⟩, ⟨12582911, 11, false, [22]⟩, ⟨16777215, 10, false, [24]⟩, ⟨33554431, 9, true, [25]⟩, ⟨67108863, 8, true, [26]⟩, ⟨134217727, 7, true, [27]⟩, ⟨268435455, 6, false, [28, 30]⟩, ⟨536870911, 5, false, [29, 30]⟩, ⟨1342177279, 5, false, [28]⟩, ⟨1073741823, 4, false, [30]⟩, ⟨1610612735, 4, false, [29]⟩, ⟨2147483647, 3, false, [31]⟩, ⟨4294967295, 2, true, [32]⟩, ⟨8589934591, 1, true, [33]⟩] [(0, false), (1, false), (2, false), (3, true), (4, true), (5, true), (6, true), (7, true), (8, true), (9, true), (10, true), (11, true), (12, false), (13, true), (14, true), (15, true), (16, true), (17, true), (18, true), (19, true), (20, true), (21, false), (22, false), (23, false), (24, false), (25, true), (26, true), (27, true), (28, false), (29, false), (30, false), (31, false), (32, true), (33, true)] [(2, [.r [.ro (.v (.bool t648))] []]), (5, [.b false]), (6, [.b false]), (7, [.b false]), (8, [.b false]), (10, [.b false]), (11, [.b false]), (12, [.b false, .r [.ro (.v (.bool t649))] []]), (13, [.b false]), (14, [.b false]), (16, [.b false]), (17, [.b false]), (18, [.b false]), (19, [.b false]), (21, [.c false]), (22, [.c false, .r [.ro (.v (.bool t650))] []]), (23, [.c false]), (24, [.c false, .r [.ro (.v (.bool t651))] []]), (25, [.c false]), (26, [.b false]), (28, [.c false]), (29, [.c false, .r [.ro (.v (.string t652))] []]), (30, [.c false]), (31, [.c false, .r [.ro (.v (.string t653))] []]), (32, [.c false]), (33, [.b false])]]) (c := none) rfl KD ?_
             exact WS.can [(1007, some 7), (1011, some 11)] (((ih.out k (by omega)).s_j1  r w ro B hF t610 t611 t621 t640 t643 (t652.toList != t653.toList) t614 t615 t618 t632 t633 t636 h).out) KD
       · rw [if_neg c13] at h
         refine path_ok (k := 17) hF (RetQ_mild _ _ _ _ _ _ _ _) (ds := [.b false, .r [.own 9 1 (rX cS t610), .ro (.v (.int .i64 t611))] [], .r [.ro (.ag [.v (.int .i64 t614), .sl 1 (rX (cL (cI .i64) 1) t615), .sl 1 (rX (cI .i64) t618)]), .ro (.v (.bool t621))] [], .r [.ro (.ag [.v (.int .i64 t623), .sl 1 (rX (cL (cI .i64) 1) t624), .sl 1 (rX (cI .i64) t627)]), .ro (.v (.bool t630))] [], .r [.ro (.ag [.v (.int .i64 t632), .sl 1 (rX (cL (cI .i64) 1) t633), .sl 1 (rX (cI .i64) t636)])] [], .r [.own 9 1 (rX cS t640), .ro (.v (.bool t643))] [], .r [.own 9 1 (rX cS t644), .ro (.v (.bool t647))] []]) (os := [.p 17179869183 [⟨0, 34, false, [0, 1]⟩, ⟨1, 33, false, [1]⟩, ⟨2, 33, false, [0]⟩, ⟨3, 32, false, [2]⟩, ⟨7, 31, true, [3]⟩, ⟨15, 30, true, [4]⟩, ⟨31, 29, true, [5]⟩, ⟨63, 28, true, [6]⟩, ⟨127, 27, true, [7]⟩, ⟨255, 26, true, [8]⟩, ⟨511, 25, true, [9]⟩, ⟨1023, 24, true, [10]⟩, ⟨2047, 23, true, [11]⟩, ⟨4095, 22, false, [12]⟩, ⟨8191, 21, true, [13]⟩, ⟨16383, 20, true, [14]⟩, ⟨32767, 19, true, [15]⟩, ⟨65535, 18, true, [16]⟩, ⟨131071, 17, true, [17]⟩, ⟨262143, 16, true, [18]⟩, ⟨524287, 15, true, [19]⟩, ⟨1048575, 14, true, [20]⟩, ⟨2097151, 13, false, [21, 23]⟩, ⟨4194303, 12, false, [22, 23]⟩, ⟨10485759, 12, false, [21]⟩, ⟨8388607, 11, false, [23]⟩, ⟨12582911, 11, false, [22]⟩, ⟨16777215, 10, false, [24]⟩, ⟨33554431, 9, true, [25]⟩, ⟨67108863, 8, true, [26]⟩, ⟨134217727, 7, true, [27]⟩, ⟨268435455, 6, false, [28, 30]⟩, ⟨536870911, 5, false, [29, 30]⟩, ⟨1342177279, 5, false, [28]⟩, ⟨1073741823, 4, false, [30]⟩, ⟨1610612735, 4, false, [29]⟩, ⟨2147483647, 3, false, [31]⟩, ⟨4294967295, 2, true, [32]⟩, ⟨8589934591, 1, true, [33]⟩] [(0, false), (1, false), (2, false), (3, true), (4, true), (5, true), (6, true), (7, true), (8, true), (9, true), (10, true), (11, true), (12, false), (13, true), (14, true), (15, true), (16, true), (17, true), (18, true), (19, true), (20, true), (21, false), (22, false), (23, false), (24, false), (25, true), (26, true), (27, true), (28, false), (29, false), (30, false), (31, false), (32, true), (33, true)] [(2, [.r [.ro (.v (.bool t648))] []]), (5, [.b false]), (6, [.b false]), (7, [.b false]), (8, [.b false]), (10, [.b false]), (11, [.b false]), (12, [.b false, .r [.ro (.v (.bool t649))] []]), (13, [.b false]), (14, [.b false]), (16, [.b true]), (17, [.b true]), (18, [.b true]), (19, [.b true]), (21, [.c true]), (22, [.c true]), (23, [.c true]), (24, [.c true]), (25, [.c true]), (26, [.b true]), (28, [.c true]), (29, [.c true]), (30, [.c true]), (31, [.c true]), (32, [.c true]), (33, [.b true])]]) (c := none) rfl KD ?_
         exact WS.can [(1007, some 7), (1011, some 11)] (((ih.out k (by omega)).s_j1  r w ro B hF t610 t611 t621 t640 t643 true t614 t615 t618 t632 t633 t636 h).out) KD
   · rw [if_neg c10] at h
     refine path_ok (k := 17) hF (RetQ_mild _ _ _ _ _ _ _ _) (ds := [.b false, .r [.own 9 1 (rX cS t610), .ro (.v (.int .i64 t611))] [], .r [.ro (.ag [.v (.int .i64 t614), .sl 1 (rX (cL (cI .i64) 1) t615), .sl 1 (rX (cI .i64) t618)]), .ro (.v (.bool t621))] [], .r [.ro (.ag [.v (.int .i64 t623), .sl 1 (rX (cL (cI .i64) 1) t624), .sl 1 (rX (cI .i64) t627)]), .ro (.v (.bool t630))] [], .r [.ro (.ag [.v (.int .i64 t632), .sl 1 (rX (cL (cI .i64) 1) t633), .sl 1 (rX (cI .i64) t636)])] [], .r [.own 9 1 (rX cS t640), .ro (.v (.bool t643))] [], .r [.own 9 1 (rX cS t644), .ro (.v (.bool t647))] []]) (os := [.p 17179869183 [⟨0, 34, false, [0, 1]⟩, ⟨1, 33, false, [1]⟩, ⟨2, 33, false, [0]⟩, ⟨3, 32, false, [2]⟩, ⟨7, 31, true, [3]⟩, ⟨15, 30, true, [4]⟩, ⟨31, 29, true, [5]⟩, ⟨63, 28, true, [6]⟩, ⟨127, 27, true, [7]⟩, ⟨255, 26, true, [8]⟩, ⟨511, 25, true, [9]⟩, ⟨1023, 24, true, [10]⟩, ⟨2047, 23, true, [11]⟩, ⟨4095, 22, false, [12]⟩, ⟨8191, 21, true, [13]⟩, ⟨16383, 20, true, [14]⟩, ⟨32767, 19, true, [15]⟩, ⟨65535, 18, true, [16]⟩, ⟨131071, 17, true, [17]⟩, ⟨262143, 16, true, [18]⟩, ⟨524287, 15, true, [19]⟩, ⟨1048575, 14, true, [20]⟩, ⟨2097151, 13, false, [21, 23]⟩, ⟨4194303, 12, false, [22, 23]⟩, ⟨10485759, 12, false, [21]⟩, ⟨8388607, 11, false, [23]⟩, ⟨12582911, 11, false, [22]⟩, ⟨16777215, 10, false, [24]⟩, ⟨33554431, 9, true, [25]⟩, ⟨67108863, 8, true, [26]⟩, ⟨134217727, 7, true, [27]⟩, ⟨268435455, 6, false, [28, 30]⟩, ⟨536870911, 5, false, [29, 30]⟩, ⟨1342177279, 5, false, [28]⟩, ⟨1073741823, 4, false, [30]⟩, ⟨1610612735, 4, false, [29]⟩, ⟨2147483647, 3, false, [31]⟩, ⟨4294967295, 2, true, [32]⟩, ⟨8589934591, 1, true, [33]⟩] [(0, false), (1, false), (2, false), (3, true), (4, true), (5, true), (6, true), (7, true), (8, true), (9, true), (10, true), (11, true), (12, false), (13, true), (14, true), (15, true), (16, true), (17, true), (18, true), (19, true), (20, true), (21, false), (22, false), (23, false), (24, false), (25, true), (26, true), (27, true), (28, false), (29, false), (30, false), (31, false), (32, true), (33, true)] [(2, [.r [.ro (.v (.bool t648))] []]), (5, [.b true]), (6, [.b true]), (7, [.b true]), (8, [.b true]), (10, [.b true]), (11, [.b true]), (12, [.b true]), (13, [.b true]), (14, [.b true]), (16, [.b true]), (17, [.b true]), (18, [.b true]), (19, [.b true]), (21, [.c true]), (22, [.c true]), (23, [.c true]), (24, [.c true]), (25, [.c true]), (26, [.b true]), (28, [.c true]), (29, [.c true]), (30, [.c true]), (31, [.c true]), (32, [.c true]), (33, [.b true])]]) (c := none) rfl KD ?_
     refine WS.freeze 100784 ?_ rfl
     exact WS.can [(1007, some 7), (1011, some 11)] (((ih.out k (by omega)).s_j1  r w ro B hF t610 t611 t621 t640 t643 true t614 t615 t618 t632 t633 t636 h).out) KD
set_option maxRecDepth 100000 in
set_option maxHeartbeats 4000000 in
theorem laws_FnPackVector.c_j1 (k : Nat) (ih : Kp (∀ m, m < k → laws_FnPackVector.C m)) (r : Bool) (w : World) (ro : Nat → Prop) (B : Nat) (hF : Fr TE (cx0 Tryz.f3 none w ro B)) (x5 : List ByteArray) (x6 : Int) (x8 : Bool) (x12 : List ByteArray) (x13 : Bool) (x90 : Bool) (x623000 : Int) (x623001 : List (List Int)) (x623002 : List Int) (x640000 : Int) (x640001 : List (List Int)) (x640002 : List Int) (h : laws_FnPackVector.j1 k x5 x6 x8 x12 x13 x90 x623000 x623001 x623002 x640000 x640001 x640002 = some r) : Kp (WS TE (cx0 Tryz.f3 none w ro B) (stkAt [1, 1, 1, 1, 1, 1, 1, 1, 0, 0, 9] [] (bodyOf Tryz.f3) []) ⟨[(5, .sl 1 (rX cS x5)), (6, .v (.int .i64 x6)), (7, .pt 1007 0 0), (8, .v (.bool x8)), (11, .pt 1011 0 0), (12, .sl 1 (rX cS x12)), (13, .v (.bool x13)), (90, .v (.bool x90))], [(1007, .box 0 31 false [.v (.int .i64 x623000), .sl 1 (rX (cL (cI .i64) 1) x623001), .sl 1 (rX (cI .i64) x623002)]), (1011, .box 0 31 false [.v (.int .i64 x640000), .sl 1 (rX (cL (cI .i64) 1) x640001), .sl 1 (rX (cI .i64) x640002)])]⟩ (RetQ TE Tryz.f3 none [.ro (.v (.bool r))] [] w ro B)) := by
 refine ⟨?_⟩
 cases k with
 | zero => simp [laws_FnPackVector.j1] at h
 | succ k =>
 simp only [laws_FnPackVector.j1] at h
 by_cases c20 : x90 = true
 · rw [if_pos c20] at h
   refine path_ok (k := 4) hF (RetQ_mild _ _ _ _ _ _ _ _) (ds := [.b true]) (os := []) (c := none) rfl KD ?_
   cases h
   exact ret_as (ms := [.ro]) rfl KD
 · rw [if_neg c20] at h
   by_cases c21 : x13 = true
   · rw [if_pos c21] at h
     obtain ⟨⟨t654, t655, t658, t661⟩, q22, h⟩ := Option.bind_eq_some_iff.1 h
     dsimp only at h
     have q22c := impl_PackVector.ctr k _ _ _ _ _ _ q22
     by_cases c23 : t661 = true
     · rw [if_pos c23] at h
       obtain ⟨t663, q24, h⟩ := Option.bind_eq_some_iff.1 h
       have q24c := laws_faVector.ctr k _ _ _ _ _ _ _ q24
       by_cases c25 : t663 = true
       · rw [if_pos c25] at h
         refine path_ok (k := 12) hF (RetQ_mild _ _ _ _ _ _ _ _) (ds := [.b false, .b true, .e 97 (.v (.int .i64 (x640001.length : Int))), .r [.ro (.ag [.v (.int .i64 t654), .sl 1 (rX (cL (cI .i64) 1) t655), .sl 1 (rX (cI .i64) t658)]), .ro (.v (.bool t661))] [], .b false, .b false, .b false, .r [.ro (.v (.bool t663))] [], .b false, .b false, .b false]) (os := []) (c := none) rfl KD ?_
         exact WS.can [(1007, some 1007)] (((ih.out k (by omega)).s_j2  r w ro B hF x5 x6 x8 x623000 x623001 x623002 h).out) KD
       · rw [if_neg c25] at h
         refine path_ok (k := 14) hF (RetQ_mild _ _ _ _ _ _ _ _) (ds := [.b false, .b true, .e 97 (.v (.int .i64 (x640001.length : Int))), .r [.ro (.ag [.v (.int .i64 t654), .sl 1 (rX (cL (cI .i64) 1) t655), .sl 1 (rX (cI .i64) t658)]), .ro (.v (.bool t661))] [], .b false, .b false, .b false, .r [.ro (.v (.bool t663))] [], .b false, .b false, .b true]) (os := []) (c := none) rfl KD ?_
         cases h
         exact ret_as (ms := [.ro]) rfl KD
     · rw [if_neg c23] at h
       refine path_ok (k := 14) hF (RetQ_mild _ _ _ _ _ _ _ _) (ds := [.b false, .b true, .e 97 (.v (.int .i64 (x640001.length : Int))), .r [.ro (.ag [.v (.int .i64 t654), .sl 1 (rX (cL (cI .i64) 1) t655), .sl 1 (rX (cI .i64) t658)]), .ro (.v (.bool t661))] [], .b true, .b true, .b true, .b true, .b true, .b true]) (os := []) (c := none) rfl KD ?_
       cases h
       exact ret_as (ms := [.ro]) rfl KD
   · rw [if_neg c21] at h
     refine path_ok (k := 7) hF (RetQ_mild _ _ _ _ _ _ _ _) (ds := [.b false, .b false]) (os := []) (c := none) rfl KD ?_
     exact WS.can [(1007, some 1007)] (((ih.out k (by omega)).s_j2  r w ro B hF x5 x6 x8 x623000 x623001 x623002 h).out) KD
set_option maxRecDepth 100000 in
set_option maxHeartbeats 4000000 in
theorem laws_FnPackVector.c_j2 (k : Nat) (ih : Kp (∀ m, m < k → laws_FnPackVector.C m)) (r : Bool) (w : World) (ro : Nat → Prop) (B : Nat) (hF : Fr TE (cx0 Tryz.f3 none w ro B)) (x5 : List ByteArray) (x6 : Int) (x8 : Bool) (x623000 : Int) (x623001 : List (List Int)) (x623002 : List Int) (h : laws_FnPackVector.j2 k x5 x6 x8 x623000 x623001 x623002 = some r) : Kp (WS TE (cx0 Tryz.f3 none w ro B) (stkAt [1, 1, 1, 1, 1, 1, 1, 1, 1, 0, 1, 9] [] (bodyOf Tryz.f3) []) ⟨[(5, .sl 1 (rX cS x5)), (6, .v (.int .i64 x6)), (7, .pt 1007 0 0), (8, .v (.bool x8))], [(1007, .box 0 31 false [.v (.int .i64 x623000), .sl 1 (rX (cL (cI .i64) 1) x623001), .sl 1 (rX (cI .i64) x623002)])]⟩ (RetQ TE Tryz.f3 none [.ro (.v (.bool r))] [] w ro B)) := by
 refine ⟨?_⟩
 cases k with
 | zero => simp [laws_FnPackVector.j2] at h
 | succ k =>
 simp only [laws_FnPackVector.j2] at h
 by_cases c26 : x8 = true
 · rw [if_pos c26] at h
   obtain ⟨⟨t664, t667⟩, q27, h⟩ := Option.bind_eq_some_iff.1 h
   dsimp only at h
   have q27c := impl_UnpackVector.ctr k _ _ _ _ _ q27
   by_cases c28 : t667 = true
   · rw [if_pos c28] at h
     obtain ⟨t668, q29, h⟩ := Option.bind_eq_some_iff.1 h
     have q29c := laws_faTexts.ctr k _ _ _ q29
     by_cases c30 : t668 = true
     · rw [if_pos c30] at h
       obtain ⟨t669, q31, h⟩ := Option.bind_eq_some_iff.1 h
       have q31c := impl_VectorValid.ctr k _ _ _ _ q31
       by_cases c32 : t669 = true
       · rw [if_pos c32] at h
         by_cases c33 : x623000 = (x5.length : Int)
         · rw [if_pos c33] at h
           refine path_ok (k := 10) hF (RetQ_mild _ _ _ _ _ _ _ _) (ds := [.b false, .r [.own 9 1 (rX cS t664), .ro (.v (.bool t667))] [], .b true, .b true, .b true, .r [.ro (.v (.bool t668))] [], .b true, .b true, .b true, .r [.ro (.v (.bool t669))] [], .b true, .b true, .b true, .b true, .b true, .e 133 (.v (.int .i64 (x5.length : Int))), .b true, .b true, .b true, .b true, .b true, .b true, .e 140 (.v (.int .i64 (x623001.length : Int))), .b true, .b true, .b true]) (os := []) (c := none) rfl KD ?_
           cases h
           exact ret_as (ms := [.ro]) rfl KD
         · rw [if_neg c33] at h
           refine path_ok (k := 10) hF (RetQ_mild _ _ _ _ _ _ _ _) (ds := [.b false, .r [.own 9 1 (rX cS t664), .ro (.v (.bool t667))] [], .b true, .b true, .b true, .r [.ro (.v (.bool t668))] [], .b true, .b true, .b true, .r [.ro (.v (.bool t669))] [], .b true, .b true, .b true, .b true, .b true, .e 133 (.v (.int .i64 (x5.length : Int))), .b true, .b true, .b false, .b false, .b false, .b false, .b false, .b false, .b false]) (os := []) (c := none) rfl KD ?_
           cases h
           exact ret_as (ms := [.ro]) rfl KD
       · rw [if_neg c32] at h
         refine path_ok (k := 10) hF (RetQ_mild _ _ _ _ _ _ _ _) (ds := [.b false, .r [.own 9 1 (rX cS t664), .ro (.v (.bool t667))] [], .b true, .b true, .b true, .r [.ro (.v (.bool t668))] [], .b true, .b true, .b true, .r [.ro (.v (.bool t669))] [], .b true, .b false, .b false, .b false, .b false, .b false, .b false, .b false, .b false, .b false, .b false, .b false, .b false, .b false]) (os := []) (c := none) rfl KD ?_
         cases h
         exact ret_as (ms := [.ro]) rfl KD
     · rw [if_neg c30] at h
       refine path_ok (k := 10) hF (RetQ_mild _ _ _ _ _ _ _ _) (ds := [.b false, .r [.own 9 1 (rX cS t664), .ro (.v (.bool t667))] [], .b true, .b true, .b true, .r [.ro (.v (.bool t668))] [], .b true, .b false, .b false, .b false, .b false, .b false, .b false, .b false, .b false, .b false, .b false, .b false, .b false, .b false, .b false, .b false, .b false]) (os := []) (c := none) rfl KD ?_
       cases h
       exact ret_as (ms := [.ro]) rfl KD
   · rw [if_neg c28] at h
     refine path_ok (k := 10) hF (RetQ_mild _ _ _ _ _ _ _ _) (ds := [.b false, .r [.own 9 1 (rX cS t664), .ro (.v (.bool t667))] [], .b false, .b false, .b false, .b false, .b false, .b false, .b false, .b false, .b false, .b false, .b false, .b false, .b false, .b false, .b false, .b false, .b false, .b false, .b false, .b false]) (os := []) (c := none) rfl KD ?_
     cases h
     exact ret_as (ms := [.ro]) rfl KD
 · rw [if_neg c26] at h
   refine path_ok (k := 7) hF (RetQ_mild _ _ _ _ _ _ _ _) (ds := [.b true]) (os := []) (c := none) rfl KD ?_
   cases h
   exact ret_as (ms := [.ro]) rfl KD
theorem laws_FnPackVector.cs (k : Nat) : laws_FnPackVector.C k := by
 induction k using Nat.strongRecOn with
 | _ k ih0 =>
 have ih : Kp (∀ m, m < k → laws_FnPackVector.C m) := ⟨ih0⟩
 exact ⟨laws_FnPackVector.c_j0 k ih, laws_FnPackVector.c_j1 k ih, laws_FnPackVector.c_j2 k ih⟩
set_option maxRecDepth 100000 in
set_option maxHeartbeats 4000000 in
theorem laws_FnPackVector.ctr (k : Nat) (l0 : List Int) (l1 : List Int) (r : Bool) (h : laws_FnPackVector.f k l0 l1 = some r) : Ctr TE 3 none [.sl 1 (rX (cI .u8) l0), .sl 1 (rX (cI .u8) l1)] [.ro (.v (.bool r))] [] := by
 refine ctr_of (fn := Tryz.f3) (c := (bodyOf Tryz.f3)) Tryz.func3 rfl (by kernel_rfl) (Nat.le_of_ble_eq_true (by kernel_rfl)) (fun w ro B hF _ => ?_)
 have ih : Kp (∀ m, m < k + 1 → laws_FnPackVector.C m) := ⟨fun m _ => laws_FnPackVector.cs m⟩
 simp only [laws_FnPackVector.f] at h
 by_cases c1 : (l0.length : Int) > 1048576
 · rw [if_pos c1] at h
   refine path_ok (k := 5) hF (RetQ_mild _ _ _ _ _ _ _ _) (ds := [.e 21 (.v (.int .i64 (l0.length : Int))), .b true, .b true, .b true, .b true]) (os := []) (c := none) rfl KD ?_
   exact WS.can [] (((ih.out k (by omega)).s_j0  r w ro B hF l0 l1 true h).out) KD
 · rw [if_neg c1] at h
   refine path_ok (k := 5) hF (RetQ_mild _ _ _ _ _ _ _ _) (ds := [.e 21 (.v (.int .i64 (l0.length : Int))), .b false, .b false, .e 25 (.v (.int .i64 (l1.length : Int))), .b false, .b false]) (os := []) (c := none) rfl KD ?_
   exact WS.can [] (((ih.out k (by omega)).s_j0  r w ro B hF l0 l1 (decide ((l1.length : Int) > 1048576)) h).out) KD
def laws_FnPackVector.Pure : Prop := ∀ (l0 : List Int) (l1 : List Int), l0.length ≤ maxLen → l0.length * 1 ≤ 140737488351232 → (∀ x ∈ l0, (Lit.int .u8 x).wf = true) → l1.length ≤ maxLen → l1.length * 1 ≤ 140737488351232 → (∀ x ∈ l1, (Lit.int .u8 x).wf = true) → ∃ k, laws_FnPackVector.f k l0 l1 = some true
end Go.Proofs.YtidpankoobdfjaaGreatDoor.K
