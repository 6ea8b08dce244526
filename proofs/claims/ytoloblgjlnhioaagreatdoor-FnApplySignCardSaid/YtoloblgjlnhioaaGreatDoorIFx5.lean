/- A part of the claim. -/
import Derived.Test.YtoloblgjlnhioaaGreatDoorIFx0
import Derived.Test.YtoloblgjlnhioaaGreatDoorIFx4
-- PRINTED by print.py (a twelfth state) out of the translation. Not trusted: Lean checks it.
namespace Go.Proofs.YtoloblgjlnhioaaGreatDoor.I
open Go.RowKit Go.Proofs.YtoloblgjlnhioaaGreatDoorW.St Go.Proofs.YtoloblgjlnhioaaGreatDoorW.PrintWords Go.Proofs.YtoloblgjlnhioaaGreatDoorW.PrintLast Go.Proofs.YtoloblgjlnhioaaGreatDoorW.PrintMore
attribute [local go_sem] max2_int min2_int max_two min_two max_three min_three max_four min_four   -- for this text's walks alone
set_option linter.unusedVariables false
set_option linter.unusedSimpArgs false
mutual
def spec_l13Num.j0 : Nat → ByteArray → Bool → Option (Int × Bool)
  | 0, _, _ => none
  | k + 1, x0, x4 => if x4 = true then (if 1 ≤ (x0.size : Int) then (spec_l13Num.j1 k (x0.extract 1 x0.size) x4) else (none)) else (spec_l13Num.j1 k x0 x4)
def spec_l13Num.j1 : Nat → ByteArray → Bool → Option (Int × Bool)
  | 0, _, _ => none
  | k + 1, x0, x4 => if (x0.size : Int) = 0 then (spec_l13Num.j2 k x0 x4 true) else (if (x0.size : Int) > 17 then (spec_l13Num.j2 k x0 x4 true) else (if 0 < (x0.size : Int) then (if (bt x0 0) = 48 then (if (x0.size : Int) > 1 then (spec_l13Num.j2 k x0 x4 true) else (spec_l13Num.j2 k x0 x4 x4)) else (spec_l13Num.j2 k x0 x4 false)) else (none)))
def spec_l13Num.j2 : Nat → ByteArray → Bool → Bool → Option (Int × Bool)
  | 0, _, _, _ => none
  | k + 1, x0, x4, x38 => if x38 = true then (some (0, false)) else (spec_l13Num.l0 k x0 x4 0 0)
def spec_l13Num.l0 : Nat → ByteArray → Bool → Int → Int → Option (Int × Bool)
  | 0, _, _, _, _ => none
  | k + 1, x0, x4, x5, x6 => if x6 < (x0.size : Int) then (if 0 ≤ x6 then (if (bt x0 x6) < 48 then (some (0, false)) else (if (bt x0 x6) > 57 then (some (0, false)) else (spec_l13Num.l0 k x0 x4 (wrap64 ((wrap64 (x5 * 10)) + (((bt x0 x6) - 48) % 256))) (wrap64 (x6 + 1))))) else (none)) else (if x4 = true then (some (wrap64 (-x5), true)) else (some (x5, true)))
end
def spec_l13Num.f (k : Nat) (a0 : ByteArray) : Option (Int × Bool) := if (a0.size : Int) > 0 then (if 0 < (a0.size : Int) then (spec_l13Num.j0 k a0 ((bt a0 0) == 45)) else (none)) else (spec_l13Num.j0 k a0 false)
def spec_l13Num.I0 (r1 : Int) (r2 : Bool) (m : Nat) (σ : St) : Prop := ∃ (x0 : ByteArray) (x4 : Bool) (x5 : Int) (x6 : Int), spec_l13Num.l0 m x0 x4 x5 x6 = some (r1, r2) ∧ σ = ⟨[(0, .v (.string x0)), (4, .v (.bool x4)), (5, .v (.int .i64 x5)), (6, .v (.int .i64 x6))], []⟩
structure spec_l13Num.C (k : Nat) : Prop where
 s_j0 : ∀ (r1 : Int) (r2 : Bool) (w : World) (ro : Nat → Prop) (B : Nat) (_ : Fr TE (cx0 Tryz.f143 none w ro B)) (x0 : ByteArray) (x4 : Bool) (_ : spec_l13Num.j0 k x0 x4 = some (r1, r2)), Kp (WS TE (cx0 Tryz.f143 none w ro B) (stkAt [1, 0, 9] [] (bodyOf Tryz.f143) []) ⟨[(0, .v (.string x0)), (4, .v (.bool x4))], []⟩ (RetQ TE Tryz.f143 none [.ro (.v (.int .i64 r1)), .ro (.v (.bool r2))] [] w ro B))
 s_j1 : ∀ (r1 : Int) (r2 : Bool) (w : World) (ro : Nat → Prop) (B : Nat) (_ : Fr TE (cx0 Tryz.f143 none w ro B)) (x0 : ByteArray) (x4 : Bool) (_ : spec_l13Num.j1 k x0 x4 = some (r1, r2)), Kp (WS TE (cx0 Tryz.f143 none w ro B) (stkAt [1, 1, 0, 1, 9] [] (bodyOf Tryz.f143) []) ⟨[(0, .v (.string x0)), (4, .v (.bool x4))], []⟩ (RetQ TE Tryz.f143 none [.ro (.v (.int .i64 r1)), .ro (.v (.bool r2))] [] w ro B))
 s_j2 : ∀ (r1 : Int) (r2 : Bool) (w : World) (ro : Nat → Prop) (B : Nat) (_ : Fr TE (cx0 Tryz.f143 none w ro B)) (x0 : ByteArray) (x4 : Bool) (x38 : Bool) (_ : spec_l13Num.j2 k x0 x4 x38 = some (r1, r2)), Kp (WS TE (cx0 Tryz.f143 none w ro B) (stkAt [1, 1, 1, 0, 0, 9] [] (bodyOf Tryz.f143) []) ⟨[(0, .v (.string x0)), (4, .v (.bool x4)), (38, .v (.bool x38))], []⟩ (RetQ TE Tryz.f143 none [.ro (.v (.int .i64 r1)), .ro (.v (.bool r2))] [] w ro B))
 s_l0 : ∀ (r1 : Int) (r2 : Bool) (w : World) (ro : Nat → Prop) (B : Nat) (_ : Fr TE (cx0 Tryz.f143 none w ro B)) (x0 : ByteArray) (x4 : Bool) (x5 : Int) (x6 : Int) (_ : spec_l13Num.l0 k x0 x4 x5 x6 = some (r1, r2)), Kp (WS TE (cx0 Tryz.f143 none w ro B) (stkAt [1, 1, 1, 1, 1, 0, 1, 0] [] (bodyOf Tryz.f143) []) ⟨[(0, .v (.string x0)), (4, .v (.bool x4)), (5, .v (.int .i64 x5)), (6, .v (.int .i64 x6))], []⟩ (RetQ TE Tryz.f143 none [.ro (.v (.int .i64 r1)), .ro (.v (.bool r2))] [] w ro B))
set_option maxRecDepth 100000 in
set_option maxHeartbeats 4000000 in
theorem spec_l13Num.c_j0 (k : Nat) (ih : Kp (∀ m, m < k → spec_l13Num.C m)) (r1 : Int) (r2 : Bool) (w : World) (ro : Nat → Prop) (B : Nat) (hF : Fr TE (cx0 Tryz.f143 none w ro B)) (x0 : ByteArray) (x4 : Bool) (h : spec_l13Num.j0 k x0 x4 = some (r1, r2)) : Kp (WS TE (cx0 Tryz.f143 none w ro B) (stkAt [1, 0, 9] [] (bodyOf Tryz.f143) []) ⟨[(0, .v (.string x0)), (4, .v (.bool x4))], []⟩ (RetQ TE Tryz.f143 none [.ro (.v (.int .i64 r1)), .ro (.v (.bool r2))] [] w ro B)) := by
 refine ⟨?_⟩
 cases k with
 | zero => simp [spec_l13Num.j0] at h
 | succ k =>
 simp only [spec_l13Num.j0] at h
 by_cases c4 : x4 = true
 · rw [if_pos c4] at h
   by_cases c5 : 1 ≤ (x0.size : Int)
   · rw [if_pos c5] at h
     refine path_ok (k := 5) hF (RetQ_mild _ _ _ _ _ _ _ _) (ds := [.b true]) (os := []) (c := none) rfl KD ?_
     exact WS.can [] (((ih.out k (by omega)).s_j1  r1 r2 w ro B hF (x0.extract 1 x0.size) x4 h).out) KD
   · rw [if_neg c5] at h
     cases h
 · rw [if_neg c4] at h
   refine path_ok (k := 5) hF (RetQ_mild _ _ _ _ _ _ _ _) (ds := [.b false]) (os := []) (c := none) rfl KD ?_
   exact WS.can [] (((ih.out k (by omega)).s_j1  r1 r2 w ro B hF x0 x4 h).out) KD
set_option maxRecDepth 100000 in
set_option maxHeartbeats 4000000 in
theorem spec_l13Num.c_j1 (k : Nat) (ih : Kp (∀ m, m < k → spec_l13Num.C m)) (r1 : Int) (r2 : Bool) (w : World) (ro : Nat → Prop) (B : Nat) (hF : Fr TE (cx0 Tryz.f143 none w ro B)) (x0 : ByteArray) (x4 : Bool) (h : spec_l13Num.j1 k x0 x4 = some (r1, r2)) : Kp (WS TE (cx0 Tryz.f143 none w ro B) (stkAt [1, 1, 0, 1, 9] [] (bodyOf Tryz.f143) []) ⟨[(0, .v (.string x0)), (4, .v (.bool x4))], []⟩ (RetQ TE Tryz.f143 none [.ro (.v (.int .i64 r1)), .ro (.v (.bool r2))] [] w ro B)) := by
 refine ⟨?_⟩
 cases k with
 | zero => simp [spec_l13Num.j1] at h
 | succ k =>
 simp only [spec_l13Num.j1] at h
 by_cases c6 : (x0.size : Int) = 0
 · rw [if_pos c6] at h
   refine path_ok (k := 3) hF (RetQ_mild _ _ _ _ _ _ _ _) (ds := [.b true, .b true, .b true, .b true, .b true, .b true, .b true, .b true, .b true, .b true]) (os := []) (c := none) rfl KD ?_
   exact WS.can [] (((ih.out k (by omega)).s_j2  r1 r2 w ro B hF x0 x4 true h).out) KD
 · rw [if_neg c6] at h
   by_cases c7 : (x0.size : Int) > 17
   · rw [if_pos c7] at h
     refine path_ok (k := 3) hF (RetQ_mild _ _ _ _ _ _ _ _) (ds := [.b false, .b false, .b false, .b false, .b true, .b true, .b true, .b true, .b true, .b true]) (os := []) (c := none) rfl KD ?_
     exact WS.can [] (((ih.out k (by omega)).s_j2  r1 r2 w ro B hF x0 x4 true h).out) KD
   · rw [if_neg c7] at h
     by_cases c8 : 0 < (x0.size : Int)
     · rw [if_pos c8] at h
       by_cases c9 : (bt x0 0) = 48
       · rw [if_pos c9] at h
         by_cases c10 : (x0.size : Int) > 1
         · rw [if_pos c10] at h
           have hb10 := bt_range x0 0
           refine path_ok (k := 3) hF (RetQ_mild _ _ _ _ _ _ _ _) (ds := [.b false, .b false, .b false, .b false, .b false, .b false, .b false, .b false, .b true, .b true, .b true, .b true, .b true, .b true, .b true, .b false, .b true, .b false]) (os := []) (c := none) rfl KD ?_
           exact WS.can [] (((ih.out k (by omega)).s_j2  r1 r2 w ro B hF x0 x4 true h).out) KD
         · rw [if_neg c10] at h
           have hb11 := bt_range x0 0
           refine path_ok (k := 3) hF (RetQ_mild _ _ _ _ _ _ _ _) (ds := [.b false, .b false, .b false, .b false, .b false, .b false, .b false, .b false, .b true, .b true, .b true, .b true, .b false, .b true, .b false, .b false, .b true, .b false]) (os := []) (c := none) rfl KD ?_
           exact WS.can [] (((ih.out k (by omega)).s_j2  r1 r2 w ro B hF x0 x4 x4 h).out) KD
       · rw [if_neg c9] at h
         have hb12 := bt_range x0 0
         refine path_ok (k := 3) hF (RetQ_mild _ _ _ _ _ _ _ _) (ds := [.b false, .b false, .b false, .b false, .b false, .b false, .b false, .b false, .b false, .b false, .b false, .b false, .b false, .b false, .b false, .b false]) (os := []) (c := none) rfl KD ?_
         exact WS.can [] (((ih.out k (by omega)).s_j2  r1 r2 w ro B hF x0 x4 false h).out) KD
     · rw [if_neg c8] at h
       cases h
set_option maxRecDepth 100000 in
set_option maxHeartbeats 4000000 in
theorem spec_l13Num.c_j2 (k : Nat) (ih : Kp (∀ m, m < k → spec_l13Num.C m)) (r1 : Int) (r2 : Bool) (w : World) (ro : Nat → Prop) (B : Nat) (hF : Fr TE (cx0 Tryz.f143 none w ro B)) (x0 : ByteArray) (x4 : Bool) (x38 : Bool) (h : spec_l13Num.j2 k x0 x4 x38 = some (r1, r2)) : Kp (WS TE (cx0 Tryz.f143 none w ro B) (stkAt [1, 1, 1, 0, 0, 9] [] (bodyOf Tryz.f143) []) ⟨[(0, .v (.string x0)), (4, .v (.bool x4)), (38, .v (.bool x38))], []⟩ (RetQ TE Tryz.f143 none [.ro (.v (.int .i64 r1)), .ro (.v (.bool r2))] [] w ro B)) := by
 refine ⟨?_⟩
 cases k with
 | zero => simp [spec_l13Num.j2] at h
 | succ k =>
 simp only [spec_l13Num.j2] at h
 by_cases c14 : x38 = true
 · rw [if_pos c14] at h
   refine path_ok (k := 4) hF (RetQ_mild _ _ _ _ _ _ _ _) (ds := [.b true]) (os := []) (c := none) rfl KD ?_
   cases h
   exact ret_as (ms := [.ro, .ro]) rfl KD
 · rw [if_neg c14] at h
   refine path_ok (k := 8) hF (RetQ_mild _ _ _ _ _ _ _ _) (ds := [.b false]) (os := []) (c := none) rfl KD ?_
   exact WS.can [] (((ih.out k (by omega)).s_l0  r1 r2 w ro B hF x0 x4 0 0 h).out) KD
set_option maxRecDepth 100000 in
set_option maxHeartbeats 4000000 in
theorem spec_l13Num.c_l0 (k : Nat) (ih : Kp (∀ m, m < k → spec_l13Num.C m)) (r1 : Int) (r2 : Bool) (w : World) (ro : Nat → Prop) (B : Nat) (hF : Fr TE (cx0 Tryz.f143 none w ro B)) (x0 : ByteArray) (x4 : Bool) (x5 : Int) (x6 : Int) (h : spec_l13Num.l0 k x0 x4 x5 x6 = some (r1, r2)) : Kp (WS TE (cx0 Tryz.f143 none w ro B) (stkAt [1, 1, 1, 1, 1, 0, 1, 0] [] (bodyOf Tryz.f143) []) ⟨[(0, .v (.string x0)), (4, .v (.bool x4)), (5, .v (.int .i64 x5)), (6, .v (.int .i64 x6))], []⟩ (RetQ TE Tryz.f143 none [.ro (.v (.int .i64 r1)), .ro (.v (.bool r2))] [] w ro B)) := by
 refine ⟨WS.loop (fun m σ => m ≤ k ∧ spec_l13Num.I0 r1 r2 m σ) k ⟨Nat.le_refl k, x0, x4, x5, x6, h, rfl⟩ (fun m σ' hI J0 hJ0 => ?_)⟩
 clear h
 obtain ⟨hk, x0, x4, x5, x6, h, rfl⟩ := hI
 cases m with
 | zero => simp [spec_l13Num.l0] at h
 | succ k' =>
 simp only [spec_l13Num.l0] at h
 by_cases c15 : x6 < (x0.size : Int)
 · rw [if_pos c15] at h
   by_cases c16 : 0 ≤ x6
   · rw [if_pos c16] at h
     by_cases c17 : (bt x0 x6) < 48
     · rw [if_pos c17] at h
       have hb17 := bt_range x0 x6
       refine path_ok (k := 14) hF (RetQ_mild _ _ _ _ _ _ _ _) (ds := [.b true, .b true, .b true, .b true, .b true, .b true, .b true]) (os := []) (c := none) rfl KD ?_
       cases h
       exact ret_as (ms := [.ro, .ro]) rfl KD
     · rw [if_neg c17] at h
       by_cases c19 : (bt x0 x6) > 57
       · rw [if_pos c19] at h
         have hb19 := bt_range x0 x6
         refine path_ok (k := 14) hF (RetQ_mild _ _ _ _ _ _ _ _) (ds := [.b true, .b false, .b false, .b false, .b false, .b false, .b true]) (os := []) (c := none) rfl KD ?_
         cases h
         exact ret_as (ms := [.ro, .ro]) rfl KD
       · rw [if_neg c19] at h
         have hb20 := bt_range x0 x6
         refine path_ok (k := 15) hF (RetQ_mild _ _ _ _ _ _ _ _) (ds := [.b true, .b false, .b false, .b false, .b false, .b false, .b false, .e 60 (.v (.int .u8 (((bt x0 x6) - 48) % 256))), .e 61 (.v (.int .i64 (((bt x0 x6) - 48) % 256)))]) (os := []) (c := none) rfl KD ?_
         exact WS.lpc [] (hJ0 _ _ (Nat.lt_succ_self _) ⟨by omega, x0, x4, (wrap64 ((wrap64 (x5 * 10)) + (((bt x0 x6) - 48) % 256))), (wrap64 (x6 + 1)), h, rfl⟩) KD
   · rw [if_neg c16] at h
     cases h
 · rw [if_neg c15] at h
   by_cases c22 : x4 = true
   · rw [if_pos c22] at h
     refine path_ok (k := 13) hF (RetQ_mild _ _ _ _ _ _ _ _) (ds := [.b false, .b true, .e 65 (.v (.int .i64 (wrap64 (-x5))))]) (os := []) (c := none) rfl KD ?_
     cases h
     exact ret_as (ms := [.ro, .ro]) rfl KD
   · rw [if_neg c22] at h
     refine path_ok (k := 13) hF (RetQ_mild _ _ _ _ _ _ _ _) (ds := [.b false, .b false]) (os := []) (c := none) rfl KD ?_
     cases h
     exact ret_as (ms := [.ro, .ro]) rfl KD
theorem spec_l13Num.cs (k : Nat) : spec_l13Num.C k := by
 induction k using Nat.strongRecOn with
 | _ k ih0 =>
 have ih : Kp (∀ m, m < k → spec_l13Num.C m) := ⟨ih0⟩
 exact ⟨spec_l13Num.c_j0 k ih, spec_l13Num.c_j1 k ih, spec_l13Num.c_j2 k ih, spec_l13Num.c_l0 k ih⟩
set_option maxRecDepth 100000 in
set_option maxHeartbeats 4000000 in
theorem spec_l13Num.ctr (k : Nat) (a0 : ByteArray) (r1 : Int) (r2 : Bool) (h : spec_l13Num.f k a0 = some (r1, r2)) : Ctr TE 143 none [.v (.string a0)] [.ro (.v (.int .i64 r1)), .ro (.v (.bool r2))] [] := by
 refine ctr_of (fn := Tryz.f143) (c := (bodyOf Tryz.f143)) Tryz.func143 rfl (by kernel_rfl) (Nat.le_of_ble_eq_true (by kernel_rfl)) (fun w ro B hF _ => ?_)
 have ih : Kp (∀ m, m < k + 1 → spec_l13Num.C m) := ⟨fun m _ => spec_l13Num.cs m⟩
 simp only [spec_l13Num.f] at h
 by_cases c1 : (a0.size : Int) > 0
 · rw [if_pos c1] at h
   by_cases c2 : 0 < (a0.size : Int)
   · rw [if_pos c2] at h
     have hb2 := bt_range a0 0
     refine path_ok (k := 4) hF (RetQ_mild _ _ _ _ _ _ _ _) (ds := [.b true, .b true, .b true, .b true]) (os := []) (c := none) rfl KD ?_
     exact WS.can [] (((ih.out k (by omega)).s_j0  r1 r2 w ro B hF a0 ((bt a0 0) == 45) h).out) KD
   · rw [if_neg c2] at h
     cases h
 · rw [if_neg c1] at h
   refine path_ok (k := 4) hF (RetQ_mild _ _ _ _ _ _ _ _) (ds := [.b false, .b false, .b false, .b false]) (os := []) (c := none) rfl KD ?_
   exact WS.can [] (((ih.out k (by omega)).s_j0  r1 r2 w ro B hF a0 false h).out) KD
def spec_l1Reader_number.l0 : Nat → Int → ByteArray → Int → Bool → Option (Int × ByteArray × Int × Bool)
  | 0, _, _, _, _ => none
  | k + 1, x3, x1000, x1001, x1002 => if x1001 < (x1000.size : Int) then (if 0 ≤ x1001 then ((spec_l1In.f (wrap64 (bt x1000 x1001)) 48 57).bind fun t354 => (if t354 = true then (if x1001 < (wrap64 (x3 + 6)) then (spec_l1Reader_number.l0 k x3 x1000 (wrap64 (x1001 + 1)) x1002) else (if 0 ≤ x3 then (if x3 ≤ x1001 then (if x1001 ≤ (x1000.size : Int) then ((spec_l13Num.f k (x1000.extract (x3 : Int).toNat (x1001 : Int).toNat)).bind fun bt355 => (if x1002 = true then (some (bt355.1, x1000, x1001, true)) else (if bt355.2 = true then ((spec_l1In.f bt355.1 0 10006).bind fun t357 => (some (bt355.1, x1000, x1001, !t357))) else (some (bt355.1, x1000, x1001, true))))) else (none)) else (none)) else (none))) else (if 0 ≤ x3 then (if x3 ≤ x1001 then (if x1001 ≤ (x1000.size : Int) then ((spec_l13Num.f k (x1000.extract (x3 : Int).toNat (x1001 : Int).toNat)).bind fun bt358 => (if x1002 = true then (some (bt358.1, x1000, x1001, true)) else (if bt358.2 = true then ((spec_l1In.f bt358.1 0 10006).bind fun t360 => (some (bt358.1, x1000, x1001, !t360))) else (some (bt358.1, x1000, x1001, true))))) else (none)) else (none)) else (none)))) else (none)) else (if 0 ≤ x3 then (if x3 ≤ x1001 then (if x1001 ≤ (x1000.size : Int) then ((spec_l13Num.f k (x1000.extract (x3 : Int).toNat (x1001 : Int).toNat)).bind fun bt361 => (if x1002 = true then (some (bt361.1, x1000, x1001, true)) else (if bt361.2 = true then ((spec_l1In.f bt361.1 0 10006).bind fun t363 => (some (bt361.1, x1000, x1001, !t363))) else (some (bt361.1, x1000, x1001, true))))) else (none)) else (none)) else (none))
def spec_l1Reader_number.f (k : Nat) (s0_0 : ByteArray) (s0_1 : Int) (s0_2 : Bool) : Option (Int × ByteArray × Int × Bool) := spec_l1Reader_number.l0 k s0_1 s0_0 s0_1 s0_2
def spec_l1Reader_number.I0 (s0_0 : ByteArray) (s0_1 : Int) (s0_2 : Bool) (r1 : Int) (r2 : ByteArray) (r3 : Int) (r4 : Bool) (m : Nat) (σ : St) : Prop := ∃ (x3 : Int) (x1000 : ByteArray) (x1001 : Int) (x1002 : Bool), spec_l1Reader_number.l0 m x3 x1000 x1001 x1002 = some (r1, r2, r3, r4) ∧ σ = ⟨[(0, .pt 0 0 0), (3, .v (.int .i64 x3))], [(0, .box 0 134 true [.v (.string x1000), .v (.int .i64 x1001), .v (.bool x1002)])]⟩
structure spec_l1Reader_number.C (k : Nat) : Prop where
 s_l0 : ∀ (s0_0 : ByteArray) (s0_1 : Int) (s0_2 : Bool) (r1 : Int) (r2 : ByteArray) (r3 : Int) (r4 : Bool) (w : World) (ro : Nat → Prop) (B : Nat) (_ : Fr TE (cx0 Tryz.f126 (some (134, [.v (.string s0_0), .v (.int .i64 s0_1), .v (.bool s0_2)])) w ro B)) (x3 : Int) (x1000 : ByteArray) (x1001 : Int) (x1002 : Bool) (_ : spec_l1Reader_number.l0 k x3 x1000 x1001 x1002 = some (r1, r2, r3, r4)), Kp (WS TE (cx0 Tryz.f126 (some (134, [.v (.string s0_0), .v (.int .i64 s0_1), .v (.bool s0_2)])) w ro B) (stkAt [1, 1, 0, 0] [] (bodyOf Tryz.f126) []) ⟨[(0, .pt 0 0 0), (3, .v (.int .i64 x3))], [(0, .box 0 134 true [.v (.string x1000), .v (.int .i64 x1001), .v (.bool x1002)])]⟩ (RetQ TE Tryz.f126 (some (134, [.v (.string s0_0), .v (.int .i64 s0_1), .v (.bool s0_2)])) [.ro (.v (.int .i64 r1))] [.v (.string r2), .v (.int .i64 r3), .v (.bool r4)] w ro B))
set_option maxRecDepth 100000 in
set_option maxHeartbeats 4000000 in
theorem spec_l1Reader_number.c_l0 (k : Nat) (ih : Kp (∀ m, m < k → spec_l1Reader_number.C m)) (s0_0 : ByteArray) (s0_1 : Int) (s0_2 : Bool) (r1 : Int) (r2 : ByteArray) (r3 : Int) (r4 : Bool) (w : World) (ro : Nat → Prop) (B : Nat) (hF : Fr TE (cx0 Tryz.f126 (some (134, [.v (.string s0_0), .v (.int .i64 s0_1), .v (.bool s0_2)])) w ro B)) (x3 : Int) (x1000 : ByteArray) (x1001 : Int) (x1002 : Bool) (h : spec_l1Reader_number.l0 k x3 x1000 x1001 x1002 = some (r1, r2, r3, r4)) : Kp (WS TE (cx0 Tryz.f126 (some (134, [.v (.string s0_0), .v (.int .i64 s0_1), .v (.bool s0_2)])) w ro B) (stkAt [1, 1, 0, 0] [] (bodyOf Tryz.f126) []) ⟨[(0, .pt 0 0 0), (3, .v (.int .i64 x3))], [(0, .box 0 134 true [.v (.string x1000), .v (.int .i64 x1001), .v (.bool x1002)])]⟩ (RetQ TE Tryz.f126 (some (134, [.v (.string s0_0), .v (.int .i64 s0_1), .v (.bool s0_2)])) [.ro (.v (.int .i64 r1))] [.v (.string r2), .v (.int .i64 r3), .v (.bool r4)] w ro B)) := by
 refine ⟨WS.loop (fun m σ => m ≤ k ∧ spec_l1Reader_number.I0 s0_0 s0_1 s0_2 r1 r2 r3 r4 m σ) k ⟨Nat.le_refl k, x3, x1000, x1001, x1002, h, rfl⟩ (fun m σ' hI J0 hJ0 => ?_)⟩
 clear h
 obtain ⟨hk, x3, x1000, x1001, x1002, h, rfl⟩ := hI
 cases m with
 | zero => simp [spec_l1Reader_number.l0] at h
 | succ k' =>
 simp only [spec_l1Reader_number.l0] at h
 by_cases c1 : x1001 < (x1000.size : Int)
 · rw [if_pos c1] at h
   by_cases c2 : 0 ≤ x1001
   · rw [if_pos c2] at h
     obtain ⟨t354, q3, h⟩ := Option.bind_eq_some_iff.1 h
     have q3c := spec_l1In.ctr _ _ _ _ q3
     by_cases c4 : t354 = true
     · rw [if_pos c4] at h
       by_cases c5 : x1001 < (wrap64 (x3 + 6))
       · rw [if_pos c5] at h
         have hb5 := bt_range x1000 x1001
         refine path_ok (k := 8) hF (RetQ_mild _ _ _ _ _ _ _ _) (ds := [.b true, .b true, .b true, .b true, .b true, .b true, .b true, .b true, .b true, .b true, .e 30 (.v (.int .i64 (wrap64 (bt x1000 x1001)))), .b true, .r [.ro (.v (.bool t354))] [], .b true, .b true, .b true, .b true, .b true, .b true, .b true, .b true, .b true, .b true]) (os := [.o [(0, 0), (1, 0), (2, 0), (3, 1), (4, 0), (5, 0), (6, 0), (7, 1), (8, 0), (9, 0), (10, 0), (11, 0), (12, 0), (13, 0), (14, 1), (15, 0), (16, 0), (17, 0), (18, 1), (19, 0), (20, 0), (21, 2), (22, 0), (23, 0), (24, 0), (25, 0), (26, 0), (28, 0), (29, 0), (27, 2), (30, 0), (31, 0)] []]) (c := none) rfl KD ?_
         exact WS.lpc [(0, some 0)] (hJ0 _ _ (Nat.lt_succ_self _) ⟨by omega, x3, x1000, (wrap64 (x1001 + 1)), x1002, h, rfl⟩) KD
       · rw [if_neg c5] at h
         by_cases c7 : 0 ≤ x3
         · rw [if_pos c7] at h
           by_cases c8 : x3 ≤ x1001
           · rw [if_pos c8] at h
             by_cases c9 : x1001 ≤ (x1000.size : Int)
             · rw [if_pos c9] at h
               obtain ⟨⟨t355, t356⟩, q10, h⟩ := Option.bind_eq_some_iff.1 h
               dsimp only at h
               have q10c := spec_l13Num.ctr k' _ _ _ q10
               by_cases c11 : x1002 = true
               · rw [if_pos c11] at h
                 have hb11 := bt_range x1000 x1001
                 refine path_ok (k := 12) hF (RetQ_mild _ _ _ _ _ _ _ _) (ds := [.b true, .b true, .b true, .b true, .b true, .b true, .b true, .b true, .b true, .b true, .e 30 (.v (.int .i64 (wrap64 (bt x1000 x1001)))), .b true, .r [.ro (.v (.bool t354))] [], .b true, .b true, .b true, .b true, .b true, .b true, .b true, .b true, .b true, .b false, .r [.ro (.v (.int .i64 t355)), .ro (.v (.bool t356))] [], .b true, .b true, .b true, .b true, .b true, .b true, .b true]) (os := [.o [(0, 0), (1, 0), (2, 0), (3, 1), (4, 0), (5, 0), (6, 0), (7, 1), (8, 0), (9, 0), (10, 0), (11, 0), (12, 0), (13, 0), (14, 1), (15, 0), (16, 0), (17, 0), (18, 1), (19, 0), (20, 0), (21, 2), (22, 0), (23, 0), (24, 0), (25, 0), (26, 0), (28, 0), (29, 0), (27, 2), (30, 0), (31, 0)] [], .o [(0, 0), (1, 0), (2, 0), (3, 1), (4, 0), (5, 0), (6, 0), (7, 0), (8, 1), (9, 0), (10, 2), (11, 0), (12, 0), (13, 0), (14, 0), (15, 0)] []]) (c := none) rfl KD ?_
                 cases h
                 exact ret_as (ms := [.ro]) rfl KD
               · rw [if_neg c11] at h
                 by_cases c13 : t356 = true
                 · rw [if_pos c13] at h
                   obtain ⟨t357, q14, h⟩ := Option.bind_eq_some_iff.1 h
                   have q14c := spec_l1In.ctr _ _ _ _ q14
                   have hb14 := bt_range x1000 x1001
                   refine path_ok (k := 12) hF (RetQ_mild _ _ _ _ _ _ _ _) (ds := [.b true, .b true, .b true, .b true, .b true, .b true, .b true, .b true, .b true, .b true, .e 30 (.v (.int .i64 (wrap64 (bt x1000 x1001)))), .b true, .r [.ro (.v (.bool t354))] [], .b true, .b true, .b true, .b true, .b true, .b true, .b true, .b true, .b true, .b false, .r [.ro (.v (.int .i64 t355)), .ro (.v (.bool t356))] [], .b false, .b false, .b false, .b false, .b false, .r [.ro (.v (.bool t357))] [], .b false, .b false]) (os := [.o [(0, 0), (1, 0), (2, 0), (3, 1), (4, 0), (5, 0), (6, 0), (7, 1), (8, 0), (9, 0), (10, 0), (11, 0), (12, 0), (13, 0), (14, 1), (15, 0), (16, 0), (17, 0), (18, 1), (19, 0), (20, 0), (21, 2), (22, 0), (23, 0), (24, 0), (25, 0), (26, 0), (28, 0), (29, 0), (27, 2), (30, 0), (31, 0)] [], .o [(0, 0), (1, 0), (2, 0), (3, 1), (4, 0), (5, 0), (6, 0), (7, 0), (8, 1), (9, 0), (10, 2), (11, 0), (12, 0), (13, 0), (14, 0), (15, 0)] []]) (c := none) rfl KD ?_
                   cases h
                   exact ret_as (ms := [.ro]) rfl KD
                 · rw [if_neg c13] at h
                   have hb15 := bt_range x1000 x1001
                   refine path_ok (k := 12) hF (RetQ_mild _ _ _ _ _ _ _ _) (ds := [.b true, .b true, .b true, .b true, .b true, .b true, .b true, .b true, .b true, .b true, .e 30 (.v (.int .i64 (wrap64 (bt x1000 x1001)))), .b true, .r [.ro (.v (.bool t354))] [], .b true, .b true, .b true, .b true, .b true, .b true, .b true, .b true, .b true, .b false, .r [.ro (.v (.int .i64 t355)), .ro (.v (.bool t356))] [], .b false, .b false, .b false, .b true, .b true, .b true, .b true]) (os := [.o [(0, 0), (1, 0), (2, 0), (3, 1), (4, 0), (5, 0), (6, 0), (7, 1), (8, 0), (9, 0), (10, 0), (11, 0), (12, 0), (13, 0), (14, 1), (15, 0), (16, 0), (17, 0), (18, 1), (19, 0), (20, 0), (21, 2), (22, 0), (23, 0), (24, 0), (25, 0), (26, 0), (28, 0), (29, 0), (27, 2), (30, 0), (31, 0)] [], .o [(0, 0), (1, 0), (2, 0), (3, 1), (4, 0), (5, 0), (6, 0), (7, 0), (8, 1), (9, 0), (10, 2), (11, 0), (12, 0), (13, 0), (14, 0), (15, 0)] []]) (c := none) rfl KD ?_
                   cases h
                   exact ret_as (ms := [.ro]) rfl KD
             · rw [if_neg c9] at h
               cases h
           · rw [if_neg c8] at h
             cases h
         · rw [if_neg c7] at h
           cases h
     · rw [if_neg c4] at h
       by_cases c17 : 0 ≤ x3
       · rw [if_pos c17] at h
         by_cases c18 : x3 ≤ x1001
         · rw [if_pos c18] at h
           by_cases c19 : x1001 ≤ (x1000.size : Int)
           · rw [if_pos c19] at h
             obtain ⟨⟨t358, t359⟩, q20, h⟩ := Option.bind_eq_some_iff.1 h
             dsimp only at h
             have q20c := spec_l13Num.ctr k' _ _ _ q20
             by_cases c21 : x1002 = true
             · rw [if_pos c21] at h
               have hb21 := bt_range x1000 x1001
               refine path_ok (k := 12) hF (RetQ_mild _ _ _ _ _ _ _ _) (ds := [.b true, .b true, .b true, .b true, .b true, .b true, .b true, .b true, .b true, .b true, .e 30 (.v (.int .i64 (wrap64 (bt x1000 x1001)))), .b true, .r [.ro (.v (.bool t354))] [], .b true, .b false, .b false, .b false, .b false, .b false, .b false, .b false, .b false, .b false, .r [.ro (.v (.int .i64 t358)), .ro (.v (.bool t359))] [], .b true, .b true, .b true, .b true, .b true, .b true, .b true]) (os := [.o [(0, 0), (1, 0), (2, 0), (3, 1), (4, 0), (5, 0), (6, 0), (7, 1), (8, 0), (9, 0), (10, 0), (11, 0), (12, 0), (13, 0), (14, 1), (15, 0), (16, 0), (17, 0), (18, 1), (19, 0), (20, 0), (21, 2), (22, 0), (23, 0), (24, 0), (25, 0), (26, 0), (28, 0), (29, 0), (27, 2), (30, 0), (31, 0)] [], .o [(0, 0), (1, 0), (2, 0), (3, 1), (4, 0), (5, 0), (6, 0), (7, 0), (8, 1), (9, 0), (10, 2), (11, 0), (12, 0), (13, 0), (14, 0), (15, 0)] []]) (c := none) rfl KD ?_
               cases h
               exact ret_as (ms := [.ro]) rfl KD
             · rw [if_neg c21] at h
               by_cases c23 : t359 = true
               · rw [if_pos c23] at h
                 obtain ⟨t360, q24, h⟩ := Option.bind_eq_some_iff.1 h
                 have q24c := spec_l1In.ctr _ _ _ _ q24
                 have hb24 := bt_range x1000 x1001
                 refine path_ok (k := 12) hF (RetQ_mild _ _ _ _ _ _ _ _) (ds := [.b true, .b true, .b true, .b true, .b true, .b true, .b true, .b true, .b true, .b true, .e 30 (.v (.int .i64 (wrap64 (bt x1000 x1001)))), .b true, .r [.ro (.v (.bool t354))] [], .b true, .b false, .b false, .b false, .b false, .b false, .b false, .b false, .b false, .b false, .r [.ro (.v (.int .i64 t358)), .ro (.v (.bool t359))] [], .b false, .b false, .b false, .b false, .b false, .r [.ro (.v (.bool t360))] [], .b false, .b false]) (os := [.o [(0, 0), (1, 0), (2, 0), (3, 1), (4, 0), (5, 0), (6, 0), (7, 1), (8, 0), (9, 0), (10, 0), (11, 0), (12, 0), (13, 0), (14, 1), (15, 0), (16, 0), (17, 0), (18, 1), (19, 0), (20, 0), (21, 2), (22, 0), (23, 0), (24, 0), (25, 0), (26, 0), (28, 0), (29, 0), (27, 2), (30, 0), (31, 0)] [], .o [(0, 0), (1, 0), (2, 0), (3, 1), (4, 0), (5, 0), (6, 0), (7, 0), (8, 1), (9, 0), (10, 2), (11, 0), (12, 0), (13, 0), (14, 0), (15, 0)] []]) (c := none) rfl KD ?_
                 cases h
                 exact ret_as (ms := [.ro]) rfl KD
               · rw [if_neg c23] at h
                 have hb25 := bt_range x1000 x1001
                 refine path_ok (k := 12) hF (RetQ_mild _ _ _ _ _ _ _ _) (ds := [.b true, .b true, .b true, .b true, .b true, .b true, .b true, .b true, .b true, .b true, .e 30 (.v (.int .i64 (wrap64 (bt x1000 x1001)))), .b true, .r [.ro (.v (.bool t354))] [], .b true, .b false, .b false, .b false, .b false, .b false, .b false, .b false, .b false, .b false, .r [.ro (.v (.int .i64 t358)), .ro (.v (.bool t359))] [], .b false, .b false, .b false, .b true, .b true, .b true, .b true]) (os := [.o [(0, 0), (1, 0), (2, 0), (3, 1), (4, 0), (5, 0), (6, 0), (7, 1), (8, 0), (9, 0), (10, 0), (11, 0), (12, 0), (13, 0), (14, 1), (15, 0), (16, 0), (17, 0), (18, 1), (19, 0), (20, 0), (21, 2), (22, 0), (23, 0), (24, 0), (25, 0), (26, 0), (28, 0), (29, 0), (27, 2), (30, 0), (31, 0)] [], .o [(0, 0), (1, 0), (2, 0), (3, 1), (4, 0), (5, 0), (6, 0), (7, 0), (8, 1), (9, 0), (10, 2), (11, 0), (12, 0), (13, 0), (14, 0), (15, 0)] []]) (c := none) rfl KD ?_
                 cases h
                 exact ret_as (ms := [.ro]) rfl KD
           · rw [if_neg c19] at h
             cases h
         · rw [if_neg c18] at h
           cases h
       · rw [if_neg c17] at h
         cases h
   · rw [if_neg c2] at h
     cases h
 · rw [if_neg c1] at h
   by_cases c27 : 0 ≤ x3
   · rw [if_pos c27] at h
     by_cases c28 : x3 ≤ x1001
     · rw [if_pos c28] at h
       by_cases c29 : x1001 ≤ (x1000.size : Int)
       · rw [if_pos c29] at h
         obtain ⟨⟨t361, t362⟩, q30, h⟩ := Option.bind_eq_some_iff.1 h
         dsimp only at h
         have q30c := spec_l13Num.ctr k' _ _ _ q30
         by_cases c31 : x1002 = true
         · rw [if_pos c31] at h
           refine path_ok (k := 12) hF (RetQ_mild _ _ _ _ _ _ _ _) (ds := [.b false, .b false, .b false, .b false, .b false, .b false, .b false, .b false, .b false, .b false, .b false, .b false, .b false, .b false, .b false, .b false, .b false, .b false, .b false, .b false, .b false, .r [.ro (.v (.int .i64 t361)), .ro (.v (.bool t362))] [], .b true, .b true, .b true, .b true, .b true, .b true, .b true]) (os := [.o [(0, 0), (1, 0), (2, 0), (3, 1), (4, 0), (5, 0), (6, 0), (7, 1), (8, 0), (9, 0), (10, 0), (11, 0), (12, 0), (13, 0), (14, 1), (15, 0), (16, 0), (17, 0), (18, 1), (19, 0), (20, 0), (21, 2), (22, 0), (23, 0), (24, 0), (25, 0), (26, 0), (28, 0), (29, 0), (27, 2), (30, 0), (31, 0)] [], .o [(0, 0), (1, 0), (2, 0), (3, 1), (4, 0), (5, 0), (6, 0), (7, 0), (8, 1), (9, 0), (10, 2), (11, 0), (12, 0), (13, 0), (14, 0), (15, 0)] []]) (c := none) rfl KD ?_
           cases h
           exact ret_as (ms := [.ro]) rfl KD
         · rw [if_neg c31] at h
           by_cases c32 : t362 = true
           · rw [if_pos c32] at h
             obtain ⟨t363, q33, h⟩ := Option.bind_eq_some_iff.1 h
             have q33c := spec_l1In.ctr _ _ _ _ q33
             refine path_ok (k := 12) hF (RetQ_mild _ _ _ _ _ _ _ _) (ds := [.b false, .b false, .b false, .b false, .b false, .b false, .b false, .b false, .b false, .b false, .b false, .b false, .b false, .b false, .b false, .b false, .b false, .b false, .b false, .b false, .b false, .r [.ro (.v (.int .i64 t361)), .ro (.v (.bool t362))] [], .b false, .b false, .b false, .b false, .b false, .r [.ro (.v (.bool t363))] [], .b false, .b false]) (os := [.o [(0, 0), (1, 0), (2, 0), (3, 1), (4, 0), (5, 0), (6, 0), (7, 1), (8, 0), (9, 0), (10, 0), (11, 0), (12, 0), (13, 0), (14, 1), (15, 0), (16, 0), (17, 0), (18, 1), (19, 0), (20, 0), (21, 2), (22, 0), (23, 0), (24, 0), (25, 0), (26, 0), (28, 0), (29, 0), (27, 2), (30, 0), (31, 0)] [], .o [(0, 0), (1, 0), (2, 0), (3, 1), (4, 0), (5, 0), (6, 0), (7, 0), (8, 1), (9, 0), (10, 2), (11, 0), (12, 0), (13, 0), (14, 0), (15, 0)] []]) (c := none) rfl KD ?_
             cases h
             exact ret_as (ms := [.ro]) rfl KD
           · rw [if_neg c32] at h
             refine path_ok (k := 12) hF (RetQ_mild _ _ _ _ _ _ _ _) (ds := [.b false, .b false, .b false, .b false, .b false, .b false, .b false, .b false, .b false, .b false, .b false, .b false, .b false, .b false, .b false, .b false, .b false, .b false, .b false, .b false, .b false, .r [.ro (.v (.int .i64 t361)), .ro (.v (.bool t362))] [], .b false, .b false, .b false, .b true, .b true, .b true, .b true]) (os := [.o [(0, 0), (1, 0), (2, 0), (3, 1), (4, 0), (5, 0), (6, 0), (7, 1), (8, 0), (9, 0), (10, 0), (11, 0), (12, 0), (13, 0), (14, 1), (15, 0), (16, 0), (17, 0), (18, 1), (19, 0), (20, 0), (21, 2), (22, 0), (23, 0), (24, 0), (25, 0), (26, 0), (28, 0), (29, 0), (27, 2), (30, 0), (31, 0)] [], .o [(0, 0), (1, 0), (2, 0), (3, 1), (4, 0), (5, 0), (6, 0), (7, 0), (8, 1), (9, 0), (10, 2), (11, 0), (12, 0), (13, 0), (14, 0), (15, 0)] []]) (c := none) rfl KD ?_
             cases h
             exact ret_as (ms := [.ro]) rfl KD
       · rw [if_neg c29] at h
         cases h
     · rw [if_neg c28] at h
       cases h
   · rw [if_neg c27] at h
     cases h
theorem spec_l1Reader_number.cs (k : Nat) : spec_l1Reader_number.C k := by
 induction k using Nat.strongRecOn with
 | _ k ih0 =>
 have ih : Kp (∀ m, m < k → spec_l1Reader_number.C m) := ⟨ih0⟩
 exact ⟨spec_l1Reader_number.c_l0 k ih⟩
set_option maxRecDepth 100000 in
set_option maxHeartbeats 4000000 in
theorem spec_l1Reader_number.ctr (k : Nat) (s0_0 : ByteArray) (s0_1 : Int) (s0_2 : Bool) (r1 : Int) (r2 : ByteArray) (r3 : Int) (r4 : Bool) (h : spec_l1Reader_number.f k s0_0 s0_1 s0_2 = some (r1, r2, r3, r4)) : Ctr TE 126 (some (134, [.v (.string s0_0), .v (.int .i64 s0_1), .v (.bool s0_2)])) [.pt 0 0 0] [.ro (.v (.int .i64 r1))] [.v (.string r2), .v (.int .i64 r3), .v (.bool r4)] := by
 refine ctr_of (fn := Tryz.f126) (c := (bodyOf Tryz.f126)) Tryz.func126 rfl (by kernel_rfl) (Nat.le_of_ble_eq_true (by kernel_rfl)) (fun w ro B hF _ => ?_)
 have ih : Kp (∀ m, m < k + 1 → spec_l1Reader_number.C m) := ⟨fun m _ => spec_l1Reader_number.cs m⟩
 simp only [spec_l1Reader_number.f] at h
 refine path_ok (k := 6) hF (RetQ_mild _ _ _ _ _ _ _ _) (ds := []) (os := []) (c := none) rfl KD ?_
 exact WS.can [(0, some 0)] (((ih.out k (by omega)).s_l0 s0_0 s0_1 s0_2 r1 r2 r3 r4 w ro B hF s0_1 s0_0 s0_1 s0_2 h).out) KD
def spec_l1Reader_is.f (s0_0 : ByteArray) (s0_1 : Int) (s0_2 : Bool) (a1 : Int) : Option (Bool × ByteArray × Int × Bool) := if s0_1 < (s0_0.size : Int) then (if 0 ≤ s0_1 then (if (bt s0_0 s0_1) = a1 then (some (true, s0_0, wrap64 (s0_1 + 1), s0_2)) else (some (false, s0_0, s0_1, s0_2))) else (none)) else (some (false, s0_0, s0_1, s0_2))
set_option maxRecDepth 100000 in
set_option maxHeartbeats 4000000 in
theorem spec_l1Reader_is.ctr (s0_0 : ByteArray) (s0_1 : Int) (s0_2 : Bool) (a1 : Int) (r1 : Bool) (r2 : ByteArray) (r3 : Int) (r4 : Bool) (h : spec_l1Reader_is.f s0_0 s0_1 s0_2 a1 = some (r1, r2, r3, r4)) : Ctr TE 127 (some (134, [.v (.string s0_0), .v (.int .i64 s0_1), .v (.bool s0_2)])) [.pt 0 0 0, .v (.int .u8 a1)] [.ro (.v (.bool r1))] [.v (.string r2), .v (.int .i64 r3), .v (.bool r4)] := by
 refine ctr_of (fn := Tryz.f127) (c := (bodyOf Tryz.f127)) Tryz.func127 rfl (by kernel_rfl) (Nat.le_of_ble_eq_true (by kernel_rfl)) (fun w ro B hF _ => ?_)
 simp only [spec_l1Reader_is.f] at h
 by_cases c1 : s0_1 < (s0_0.size : Int)
 · rw [if_pos c1] at h
   by_cases c2 : 0 ≤ s0_1
   · rw [if_pos c2] at h
     by_cases c3 : (bt s0_0 s0_1) = a1
     · rw [if_pos c3] at h
       have hb3 := bt_range s0_0 s0_1
       refine path_ok (k := 11) hF (RetQ_mild _ _ _ _ _ _ _ _) (ds := [.b true, .b true, .b true, .b true, .b true, .b true, .b true, .b true, .b true, .b true, .b true, .b true, .b true]) (os := [.o [(0, 0), (1, 0), (2, 0), (3, 1), (4, 0), (5, 0), (6, 0), (7, 1), (8, 0), (9, 0), (10, 0), (11, 0), (12, 0), (13, 0), (14, 1), (15, 0), (16, 0), (17, 0), (18, 1), (19, 0), (20, 0), (21, 0), (22, 0)] []]) (c := none) rfl KD ?_
       cases h
       exact ret_as (ms := [.ro]) rfl KD
     · rw [if_neg c3] at h
       have hb4 := bt_range s0_0 s0_1
       refine path_ok (k := 10) hF (RetQ_mild _ _ _ _ _ _ _ _) (ds := [.b true, .b true, .b true, .b true, .b true, .b true, .b true, .b true, .b true, .b true, .b true, .b true, .b false]) (os := [.o [(0, 0), (1, 0), (2, 0), (3, 1), (4, 0), (5, 0), (6, 0), (7, 1), (8, 0), (9, 0), (10, 0), (11, 0), (12, 0), (13, 0), (14, 1), (15, 0), (16, 0), (17, 0), (18, 1), (19, 0), (20, 0), (21, 0), (22, 0)] []]) (c := none) rfl KD ?_
       cases h
       exact ret_as (ms := [.ro]) rfl KD
   · rw [if_neg c2] at h
     cases h
 · rw [if_neg c1] at h
   refine path_ok (k := 10) hF (RetQ_mild _ _ _ _ _ _ _ _) (ds := [.b false, .b false, .b false, .b false, .b false, .b false, .b false, .b false, .b false, .b false, .b false, .b false, .b false]) (os := [.o [(0, 0), (1, 0), (2, 0), (3, 1), (4, 0), (5, 0), (6, 0), (7, 1), (8, 0), (9, 0), (10, 0), (11, 0), (12, 0), (13, 0), (14, 1), (15, 0), (16, 0), (17, 0), (18, 1), (19, 0), (20, 0), (21, 0), (22, 0)] []]) (c := none) rfl KD ?_
   cases h
   exact ret_as (ms := [.ro]) rfl KD
mutual
def spec_l1Reader_node.l0 : Nat → Int → ByteArray → Int → Bool → Int → List (S79) → Option (Int × (List (S79)) × ByteArray × Int × Bool)
  | 0, _, _, _, _, _, _ => none
  | k + 1, x1, x1000, x1001, x1002, x369000, x369001 => if x1002 = true then (some (x369000, x369001, x1000, x1001, true)) else ((spec_l1Reader_is.f x1000 x1001 x1002 44).bind fun bt391 => (if bt391.1 = true then ((spec_l1Reader_node.f k bt391.2.1 bt391.2.2.1 bt391.2.2.2 (wrap64 (x1 - 1))).bind fun bt395 => (if x369001.length < 4398046511104 then (spec_l1Reader_node.l0 k x1 bt395.2.2.1 bt395.2.2.2.1 bt395.2.2.2.2 x369000 (x369001 ++ [(⟨bt395.1, bt395.2.1⟩ : S79)])) else (none))) else (if bt391.2.2.2 = true then (some (x369000, x369001, bt391.2.1, bt391.2.2.1, true)) else ((spec_l1Reader_is.f bt391.2.1 bt391.2.2.1 bt391.2.2.2 93).bind fun bt405 => (some (x369000, x369001, bt405.2.1, bt405.2.2.1, !bt405.1))))))
def spec_l1Reader_node.f : Nat → ByteArray → Int → Bool → Int → Option (Int × (List (S79)) × ByteArray × Int × Bool)
  | 0, _, _, _, _ => none
  | k + 1, s0_0, s0_1, s0_2, a1 => (some (([] : List (S79)) : List (S79))).bind fun y365 => (if a1 = 0 then ((spec_l1Reader_number.f k s0_0 s0_1 s0_2).bind fun bt369 => (some (bt369.1, y365, bt369.2.1, bt369.2.2.1, bt369.2.2.2))) else ((spec_l1Reader_is.f s0_0 s0_1 s0_2 91).bind fun bt373 => (if bt373.1 = true then ((spec_l1Reader_is.f bt373.2.1 bt373.2.2.1 bt373.2.2.2 93).bind fun bt377 => (if bt377.1 = true then (some (0, y365, bt377.2.1, bt377.2.2.1, bt377.2.2.2)) else ((spec_l1Reader_node.f k bt377.2.1 bt377.2.2.1 bt377.2.2.2 (wrap64 (a1 - 1))).bind fun bt381 => (if y365.length < 4398046511104 then (spec_l1Reader_node.l0 k a1 bt381.2.2.1 bt381.2.2.2.1 bt381.2.2.2.2 0 (y365 ++ [(⟨bt381.1, bt381.2.1⟩ : S79)])) else (none))))) else (some (0, y365, bt373.2.1, bt373.2.2.1, true)))))
end
def spec_l1Reader_node.I0 (s0_0 : ByteArray) (s0_1 : Int) (s0_2 : Bool) (r1 : Int) (r2 : List (S79)) (r3 : ByteArray) (r4 : Int) (r5 : Bool) (m : Nat) (σ : St) : Prop := ∃ (x1 : Int) (x1000 : ByteArray) (x1001 : Int) (x1002 : Bool) (x365000 : Int) (x369000 : Int) (x369001 : List (S79)), spec_l1Reader_node.l0 m x1 x1000 x1001 x1002 x369000 x369001 = some (r1, r2, r3, r4, r5) ∧ σ = ⟨[(0, .pt 0 0 0), (1, .v (.int .i64 x1)), (4, .pt 1004 0 0), (5, .pt 1005 0 0)], [(0, .box 0 134 true [.v (.string x1000), .v (.int .i64 x1001), .v (.bool x1002)]), (1004, .box 0 79 false [.v (.int .i64 x365000), .v (.slice none 0 0)]), (3321, .own 0 79 2 (r79 x369001)), (1005, .box 0 79 false [.v (.int .i64 x369000), .ow 3321 0])]⟩
structure spec_l1Reader_node.C (k : Nat) : Prop where
 s_f : ∀ (s0_0 : ByteArray) (s0_1 : Int) (s0_2 : Bool) (a1 : Int) (r1 : Int) (r2 : List (S79)) (r3 : ByteArray) (r4 : Int) (r5 : Bool), spec_l1Reader_node.f k s0_0 s0_1 s0_2 a1 = some (r1, r2, r3, r4, r5) → Ctr TE 102 (some (134, [.v (.string s0_0), .v (.int .i64 s0_1), .v (.bool s0_2)])) [.pt 0 0 0, .v (.int .i64 a1)] [.ro (.ag [.v (.int .i64 r1), .sl 2 (r79 r2)])] [.v (.string r3), .v (.int .i64 r4), .v (.bool r5)]
 s_l0 : ∀ (s0_0 : ByteArray) (s0_1 : Int) (s0_2 : Bool) (r1 : Int) (r2 : List (S79)) (r3 : ByteArray) (r4 : Int) (r5 : Bool) (w : World) (ro : Nat → Prop) (B : Nat) (_ : Fr TE (cx0 Tryz.f102 (some (134, [.v (.string s0_0), .v (.int .i64 s0_1), .v (.bool s0_2)])) w ro B)) (x1 : Int) (x1000 : ByteArray) (x1001 : Int) (x1002 : Bool) (x365000 : Int) (x369000 : Int) (x369001 : List (S79)) (_ : spec_l1Reader_node.l0 k x1 x1000 x1001 x1002 x369000 x369001 = some (r1, r2, r3, r4, r5)), Kp (WS TE (cx0 Tryz.f102 (some (134, [.v (.string s0_0), .v (.int .i64 s0_1), .v (.bool s0_2)])) w ro B) (stkAt [1, 1, 1, 1, 1, 1, 0, 0] [] (bodyOf Tryz.f102) []) ⟨[(0, .pt 0 0 0), (1, .v (.int .i64 x1)), (4, .pt 1004 0 0), (5, .pt 1005 0 0)], [(0, .box 0 134 true [.v (.string x1000), .v (.int .i64 x1001), .v (.bool x1002)]), (1004, .box 0 79 false [.v (.int .i64 x365000), .v (.slice none 0 0)]), (3321, .own 0 79 2 (r79 x369001)), (1005, .box 0 79 false [.v (.int .i64 x369000), .ow 3321 0])]⟩ (RetQ TE Tryz.f102 (some (134, [.v (.string s0_0), .v (.int .i64 s0_1), .v (.bool s0_2)])) [.ro (.ag [.v (.int .i64 r1), .sl 2 (r79 r2)])] [.v (.string r3), .v (.int .i64 r4), .v (.bool r5)] w ro B))
set_option maxRecDepth 100000 in
set_option maxHeartbeats 4000000 in
theorem spec_l1Reader_node.c_f (k : Nat) (ih : Kp (∀ m, m < k → spec_l1Reader_node.C m)) (s0_0 : ByteArray) (s0_1 : Int) (s0_2 : Bool) (a1 : Int) (r1 : Int) (r2 : List (S79)) (r3 : ByteArray) (r4 : Int) (r5 : Bool) (h : spec_l1Reader_node.f k s0_0 s0_1 s0_2 a1 = some (r1, r2, r3, r4, r5)) : Ctr TE 102 (some (134, [.v (.string s0_0), .v (.int .i64 s0_1), .v (.bool s0_2)])) [.pt 0 0 0, .v (.int .i64 a1)] [.ro (.ag [.v (.int .i64 r1), .sl 2 (r79 r2)])] [.v (.string r3), .v (.int .i64 r4), .v (.bool r5)] := by
 cases k with
 | zero => simp [spec_l1Reader_node.f] at h
 | succ k =>
 simp only [spec_l1Reader_node.f] at h
 refine ctr_of (fn := Tryz.f102) (c := (bodyOf Tryz.f102)) Tryz.func102 rfl (by kernel_rfl) (Nat.le_of_ble_eq_true (by kernel_rfl)) (fun w ro B hF _ => ?_)
 obtain ⟨y365, hy365, h⟩ := Option.bind_eq_some_iff.1 h
 cases hy365
 by_cases c1 : a1 = 0
 · rw [if_pos c1] at h
   obtain ⟨⟨t369, t370, t371, t372⟩, q2, h⟩ := Option.bind_eq_some_iff.1 h
   dsimp only at h
   have q2c := spec_l1Reader_number.ctr k _ _ _ _ _ _ _ q2
   refine path_ok (k := 13) hF (RetQ_mild _ _ _ _ _ _ _ _) (ds := [.p 6 ([]), .b true, .r [.ro (.v (.int .i64 t369))] [.v (.string t370), .v (.int .i64 t371), .v (.bool t372)]]) (os := []) (c := none) rfl KD ?_
   cases h
   exact ret_as (ms := [.ro]) rfl KD
 · rw [if_neg c1] at h
   obtain ⟨⟨t373, t374, t375, t376⟩, q3, h⟩ := Option.bind_eq_some_iff.1 h
   dsimp only at h
   have q3c := spec_l1Reader_is.ctr _ _ _ _ _ _ _ _ q3
   by_cases c4 : t373 = true
   · rw [if_pos c4] at h
     obtain ⟨⟨t377, t378, t379, t380⟩, q5, h⟩ := Option.bind_eq_some_iff.1 h
     dsimp only at h
     have q5c := spec_l1Reader_is.ctr _ _ _ _ _ _ _ _ q5
     by_cases c6 : t377 = true
     · rw [if_pos c6] at h
       refine path_ok (k := 21) hF (RetQ_mild _ _ _ _ _ _ _ _) (ds := [.p 6 ([]), .b false, .r [.ro (.v (.bool t373))] [.v (.string t374), .v (.int .i64 t375), .v (.bool t376)], .b false, .r [.ro (.v (.bool t377))] [.v (.string t378), .v (.int .i64 t379), .v (.bool t380)], .b true]) (os := []) (c := none) rfl KD ?_
       cases h
       exact ret_as (ms := [.ro]) rfl KD
     · rw [if_neg c6] at h
       obtain ⟨⟨t381, t382, t385, t386, t387⟩, q7, h⟩ := Option.bind_eq_some_iff.1 h
       dsimp only at h
       have q7c := (ih.out k (by omega)).s_f _ _ _ _ _ _ _ _ _ q7
       by_cases c8 : (([] : List (S79))).length < 4398046511104
       · rw [if_pos c8] at h
         refine path_ok (k := 23) hF (RetQ_mild _ _ _ _ _ _ _ _) (ds := [.p 6 ([]), .b false, .r [.ro (.v (.bool t373))] [.v (.string t374), .v (.int .i64 t375), .v (.bool t376)], .b false, .r [.ro (.v (.bool t377))] [.v (.string t378), .v (.int .i64 t379), .v (.bool t380)], .b false]) (os := [.p 1023 [⟨0, 10, true, [0]⟩, ⟨1, 9, true, [2]⟩, ⟨5, 8, true, [3]⟩, ⟨13, 7, true, [4]⟩, ⟨29, 6, false, [1, 5]⟩, ⟨31, 5, false, [5]⟩, ⟨61, 5, false, [1, 6]⟩, ⟨63, 4, false, [6]⟩, ⟨125, 4, false, [1]⟩, ⟨127, 3, false, [7]⟩, ⟨255, 2, true, [8]⟩, ⟨511, 1, false, [9]⟩] [(0, true), (2, true), (3, true), (4, true), (1, false), (5, false), (6, false), (7, false), (8, true), (9, false)] [(5, [.r [.ro (.ag [.v (.int .i64 t381), .sl 2 (r79 t382)])] [.v (.string t385), .v (.int .i64 t386), .v (.bool t387)]]), (6, [.p 30 ([[.v (.int .i64 t381), .sl 2 (r79 t382)]])]), (7, [.o 31 (r79 ((([] : List (S79))) ++ [(⟨t381, t382⟩ : S79)]))])]]) (c := none) rfl KD ?_
         exact WS.can [(0, some 0), (1004, some 4), (1005, some 5), (3321, some 6)] (((ih.out k (by omega)).s_l0 s0_0 s0_1 s0_2 r1 r2 r3 r4 r5 w ro B hF a1 t385 t386 t387 0 0 ((([] : List (S79))) ++ [(⟨t381, t382⟩ : S79)]) h).out) KD
       · rw [if_neg c8] at h
         cases h
   · rw [if_neg c4] at h
     refine path_ok (k := 18) hF (RetQ_mild _ _ _ _ _ _ _ _) (ds := [.p 6 ([]), .b false, .r [.ro (.v (.bool t373))] [.v (.string t374), .v (.int .i64 t375), .v (.bool t376)], .b true]) (os := []) (c := none) rfl KD ?_
     cases h
     exact ret_as (ms := [.ro]) rfl KD
set_option maxRecDepth 100000 in
set_option maxHeartbeats 4000000 in
theorem spec_l1Reader_node.c_l0 (k : Nat) (ih : Kp (∀ m, m < k → spec_l1Reader_node.C m)) (s0_0 : ByteArray) (s0_1 : Int) (s0_2 : Bool) (r1 : Int) (r2 : List (S79)) (r3 : ByteArray) (r4 : Int) (r5 : Bool) (w : World) (ro : Nat → Prop) (B : Nat) (hF : Fr TE (cx0 Tryz.f102 (some (134, [.v (.string s0_0), .v (.int .i64 s0_1), .v (.bool s0_2)])) w ro B)) (x1 : Int) (x1000 : ByteArray) (x1001 : Int) (x1002 : Bool) (x365000 : Int) (x369000 : Int) (x369001 : List (S79)) (h : spec_l1Reader_node.l0 k x1 x1000 x1001 x1002 x369000 x369001 = some (r1, r2, r3, r4, r5)) : Kp (WS TE (cx0 Tryz.f102 (some (134, [.v (.string s0_0), .v (.int .i64 s0_1), .v (.bool s0_2)])) w ro B) (stkAt [1, 1, 1, 1, 1, 1, 0, 0] [] (bodyOf Tryz.f102) []) ⟨[(0, .pt 0 0 0), (1, .v (.int .i64 x1)), (4, .pt 1004 0 0), (5, .pt 1005 0 0)], [(0, .box 0 134 true [.v (.string x1000), .v (.int .i64 x1001), .v (.bool x1002)]), (1004, .box 0 79 false [.v (.int .i64 x365000), .v (.slice none 0 0)]), (3321, .own 0 79 2 (r79 x369001)), (1005, .box 0 79 false [.v (.int .i64 x369000), .ow 3321 0])]⟩ (RetQ TE Tryz.f102 (some (134, [.v (.string s0_0), .v (.int .i64 s0_1), .v (.bool s0_2)])) [.ro (.ag [.v (.int .i64 r1), .sl 2 (r79 r2)])] [.v (.string r3), .v (.int .i64 r4), .v (.bool r5)] w ro B)) := by
 refine ⟨WS.loop (fun m σ => m ≤ k ∧ spec_l1Reader_node.I0 s0_0 s0_1 s0_2 r1 r2 r3 r4 r5 m σ) k ⟨Nat.le_refl k, x1, x1000, x1001, x1002, x365000, x369000, x369001, h, rfl⟩ (fun m σ' hI J0 hJ0 => ?_)⟩
 clear h
 obtain ⟨hk, x1, x1000, x1001, x1002, x365000, x369000, x369001, h, rfl⟩ := hI
 cases m with
 | zero => simp [spec_l1Reader_node.l0] at h
 | succ k' =>
 simp only [spec_l1Reader_node.l0] at h
 by_cases c9 : x1002 = true
 · rw [if_pos c9] at h
   refine path_ok (k := 10) hF (RetQ_mild _ _ _ _ _ _ _ _) (ds := [.b false, .b false, .b false, .b false, .b true, .b true, .b true, .b true]) (os := []) (c := none) rfl KD ?_
   cases h
   exact ret_as (ms := [.ro]) rfl KD
 · rw [if_neg c9] at h
   obtain ⟨⟨t391, t392, t393, t394⟩, q10, h⟩ := Option.bind_eq_some_iff.1 h
   dsimp only at h
   have q10c := spec_l1Reader_is.ctr _ _ _ _ _ _ _ _ q10
   by_cases c11 : t391 = true
   · rw [if_pos c11] at h
     obtain ⟨⟨t395, t396, t399, t400, t401⟩, q12, h⟩ := Option.bind_eq_some_iff.1 h
     dsimp only at h
     have q12c := (ih.out k' (by omega)).s_f _ _ _ _ _ _ _ _ _ q12
     by_cases c13 : x369001.length < 4398046511104
     · rw [if_pos c13] at h
       refine path_ok (k := 8) hF (RetQ_mild _ _ _ _ _ _ _ _) (ds := [.b true, .b true, .r [.ro (.v (.bool t391))] [.v (.string t392), .v (.int .i64 t393), .v (.bool t394)], .b true, .b true]) (os := [.p 1023 [⟨0, 10, true, [0]⟩, ⟨1, 9, true, [2]⟩, ⟨5, 8, true, [3]⟩, ⟨13, 7, true, [4]⟩, ⟨29, 6, false, [1, 5]⟩, ⟨31, 5, false, [5]⟩, ⟨61, 5, false, [1, 6]⟩, ⟨63, 4, false, [6]⟩, ⟨125, 4, false, [1]⟩, ⟨127, 3, false, [7]⟩, ⟨255, 2, true, [8]⟩, ⟨511, 1, false, [9]⟩] [(0, true), (2, true), (3, true), (4, true), (1, false), (5, false), (6, false), (7, false), (8, true), (9, false)] [(5, [.r [.ro (.ag [.v (.int .i64 t395), .sl 2 (r79 t396)])] [.v (.string t399), .v (.int .i64 t400), .v (.bool t401)]]), (6, [.p 48 ([[.v (.int .i64 t395), .sl 2 (r79 t396)]])]), (7, [.o 49 (r79 (x369001 ++ [(⟨t395, t396⟩ : S79)]))])]]) (c := none) rfl KD ?_
       exact WS.lpc [(0, some 0), (1004, some 1004), (1005, some 1005), (3321, some 3321)] (hJ0 _ _ (Nat.lt_succ_self _) ⟨by omega, x1, t399, t400, t401, x365000, x369000, (x369001 ++ [(⟨t395, t396⟩ : S79)]), h, rfl⟩) KD
     · rw [if_neg c13] at h
       cases h
   · rw [if_neg c11] at h
     by_cases c14 : t394 = true
     · rw [if_pos c14] at h
       refine path_ok (k := 10) hF (RetQ_mild _ _ _ _ _ _ _ _) (ds := [.b true, .b true, .r [.ro (.v (.bool t391))] [.v (.string t392), .v (.int .i64 t393), .v (.bool t394)], .b true, .b false, .b true, .b true, .b true, .b true]) (os := []) (c := none) rfl KD ?_
       cases h
       exact ret_as (ms := [.ro]) rfl KD
     · rw [if_neg c14] at h
       obtain ⟨⟨t405, t406, t407, t408⟩, q15, h⟩ := Option.bind_eq_some_iff.1 h
       dsimp only at h
       have q15c := spec_l1Reader_is.ctr _ _ _ _ _ _ _ _ q15
       refine path_ok (k := 10) hF (RetQ_mild _ _ _ _ _ _ _ _) (ds := [.b true, .b true, .r [.ro (.v (.bool t391))] [.v (.string t392), .v (.int .i64 t393), .v (.bool t394)], .b true, .b false, .b false, .b false, .r [.ro (.v (.bool t405))] [.v (.string t406), .v (.int .i64 t407), .v (.bool t408)], .b false, .b false]) (os := []) (c := none) rfl KD ?_
       cases h
       exact ret_as (ms := [.ro]) rfl KD
theorem spec_l1Reader_node.cs (k : Nat) : spec_l1Reader_node.C k := by
 induction k using Nat.strongRecOn with
 | _ k ih0 =>
 have ih : Kp (∀ m, m < k → spec_l1Reader_node.C m) := ⟨ih0⟩
 exact ⟨spec_l1Reader_node.c_f k ih, spec_l1Reader_node.c_l0 k ih⟩
theorem spec_l1Reader_node.ctr (k : Nat) (s0_0 : ByteArray) (s0_1 : Int) (s0_2 : Bool) (a1 : Int) (r1 : Int) (r2 : List (S79)) (r3 : ByteArray) (r4 : Int) (r5 : Bool) (h : spec_l1Reader_node.f k s0_0 s0_1 s0_2 a1 = some (r1, r2, r3, r4, r5)) : Ctr TE 102 (some (134, [.v (.string s0_0), .v (.int .i64 s0_1), .v (.bool s0_2)])) [.pt 0 0 0, .v (.int .i64 a1)] [.ro (.ag [.v (.int .i64 r1), .sl 2 (r79 r2)])] [.v (.string r3), .v (.int .i64 r4), .v (.bool r5)] := (spec_l1Reader_node.cs k).s_f s0_0 s0_1 s0_2 a1 r1 r2 r3 r4 r5 h
def spec_l1Read.j0 : Nat → ByteArray → Int → Bool → Option (Int × (List (S79)) × Bool)
  | 0, _, _, _ => none
  | k + 1, x0, x1, x15 => if x15 = true then (some (0, ([] : List (S79)), false)) else ((spec_l1Reader_node.f k x0 0 false x1).bind fun bt412 => (if bt412.2.2.2.2 = true then (some (0, ([] : List (S79)), false)) else (if bt412.2.2.2.1 = (x0.size : Int) then (some (bt412.1, bt412.2.1, true)) else (some (0, ([] : List (S79)), false)))))
def spec_l1Read.f (k : Nat) (a0 : ByteArray) (a1 : Int) : Option (Int × (List (S79)) × Bool) := (spec_l1In.f a1 0 3).bind fun t410 => (if t410 = true then (spec_l1Read.j0 k a0 a1 (decide ((a0.size : Int) > 400))) else (spec_l1Read.j0 k a0 a1 true))
structure spec_l1Read.C (k : Nat) : Prop where
 s_j0 : ∀ (r1 : Int) (r2 : List (S79)) (r3 : Bool) (w : World) (ro : Nat → Prop) (B : Nat) (_ : Fr TE (cx0 Tryz.f60 none w ro B)) (x0 : ByteArray) (x1 : Int) (x15 : Bool) (x410000 : Int) (_ : spec_l1Read.j0 k x0 x1 x15 = some (r1, r2, r3)), Kp (WS TE (cx0 Tryz.f60 none w ro B) (stkAt [1, 0, 0, 9] [] (bodyOf Tryz.f60) []) ⟨[(0, .v (.string x0)), (1, .v (.int .i64 x1)), (4, .pt 1004 0 0), (15, .v (.bool x15))], [(1004, .box 0 79 false [.v (.int .i64 x410000), .v (.slice none 0 0)])]⟩ (RetQ TE Tryz.f60 none [.ro (.ag [.v (.int .i64 r1), .sl 2 (r79 r2)]), .ro (.v (.bool r3))] [] w ro B))
set_option maxRecDepth 100000 in
set_option maxHeartbeats 4000000 in
theorem spec_l1Read.c_j0 (k : Nat) (ih : Kp (∀ m, m < k → spec_l1Read.C m)) (r1 : Int) (r2 : List (S79)) (r3 : Bool) (w : World) (ro : Nat → Prop) (B : Nat) (hF : Fr TE (cx0 Tryz.f60 none w ro B)) (x0 : ByteArray) (x1 : Int) (x15 : Bool) (x410000 : Int) (h : spec_l1Read.j0 k x0 x1 x15 = some (r1, r2, r3)) : Kp (WS TE (cx0 Tryz.f60 none w ro B) (stkAt [1, 0, 0, 9] [] (bodyOf Tryz.f60) []) ⟨[(0, .v (.string x0)), (1, .v (.int .i64 x1)), (4, .pt 1004 0 0), (15, .v (.bool x15))], [(1004, .box 0 79 false [.v (.int .i64 x410000), .v (.slice none 0 0)])]⟩ (RetQ TE Tryz.f60 none [.ro (.ag [.v (.int .i64 r1), .sl 2 (r79 r2)]), .ro (.v (.bool r3))] [] w ro B)) := by
 refine ⟨?_⟩
 cases k with
 | zero => simp [spec_l1Read.j0] at h
 | succ k =>
 simp only [spec_l1Read.j0] at h
 by_cases c3 : x15 = true
 · rw [if_pos c3] at h
   refine path_ok (k := 4) hF (RetQ_mild _ _ _ _ _ _ _ _) (ds := [.b true]) (os := []) (c := none) rfl KD ?_
   cases h
   exact ret_as (ms := [.ro, .ro]) rfl KD
 · rw [if_neg c3] at h
   obtain ⟨⟨t412, t413, t416, t417, t418⟩, q4, h⟩ := Option.bind_eq_some_iff.1 h
   dsimp only at h
   have q4c := spec_l1Reader_node.ctr k _ _ _ _ _ _ _ _ _ q4
   by_cases c5 : t418 = true
   · rw [if_pos c5] at h
     refine path_ok (k := 13) hF (RetQ_mild _ _ _ _ _ _ _ _) (ds := [.b false, .r [.ro (.ag [.v (.int .i64 t412), .sl 2 (r79 t413)])] [.v (.string t416), .v (.int .i64 t417), .v (.bool t418)], .b true, .b true, .b true, .b true, .b true, .b true, .b true, .b true, .b true]) (os := []) (c := none) rfl KD ?_
     cases h
     exact ret_as (ms := [.ro, .ro]) rfl KD
   · rw [if_neg c5] at h
     by_cases c6 : t417 = (x0.size : Int)
     · rw [if_pos c6] at h
       refine path_ok (k := 14) hF (RetQ_mild _ _ _ _ _ _ _ _) (ds := [.b false, .r [.ro (.ag [.v (.int .i64 t412), .sl 2 (r79 t413)])] [.v (.string t416), .v (.int .i64 t417), .v (.bool t418)], .b false, .b false, .b false, .b false, .b false, .b false, .b false, .b false, .b false]) (os := []) (c := none) rfl KD ?_
       cases h
       exact ret_as (ms := [.ro, .ro]) rfl KD
     · rw [if_neg c6] at h
       refine path_ok (k := 13) hF (RetQ_mild _ _ _ _ _ _ _ _) (ds := [.b false, .r [.ro (.ag [.v (.int .i64 t412), .sl 2 (r79 t413)])] [.v (.string t416), .v (.int .i64 t417), .v (.bool t418)], .b false, .b false, .b false, .b false, .b false, .b false, .b false, .b false, .b true]) (os := []) (c := none) rfl KD ?_
       cases h
       exact ret_as (ms := [.ro, .ro]) rfl KD
theorem spec_l1Read.cs (k : Nat) : spec_l1Read.C k := by
 induction k using Nat.strongRecOn with
 | _ k ih0 =>
 have ih : Kp (∀ m, m < k → spec_l1Read.C m) := ⟨ih0⟩
 exact ⟨spec_l1Read.c_j0 k ih⟩
set_option maxRecDepth 100000 in
set_option maxHeartbeats 4000000 in
theorem spec_l1Read.ctr (k : Nat) (a0 : ByteArray) (a1 : Int) (r1 : Int) (r2 : List (S79)) (r3 : Bool) (h : spec_l1Read.f k a0 a1 = some (r1, r2, r3)) : Ctr TE 60 none [.v (.string a0), .v (.int .i64 a1)] [.ro (.ag [.v (.int .i64 r1), .sl 2 (r79 r2)]), .ro (.v (.bool r3))] [] := by
 refine ctr_of (fn := Tryz.f60) (c := (bodyOf Tryz.f60)) Tryz.func60 rfl (by kernel_rfl) (Nat.le_of_ble_eq_true (by kernel_rfl)) (fun w ro B hF _ => ?_)
 have ih : Kp (∀ m, m < k + 1 → spec_l1Read.C m) := ⟨fun m _ => spec_l1Read.cs m⟩
 simp only [spec_l1Read.f] at h
 obtain ⟨t410, q1, h⟩ := Option.bind_eq_some_iff.1 h
 have q1c := spec_l1In.ctr _ _ _ _ q1
 by_cases c2 : t410 = true
 · rw [if_pos c2] at h
   refine path_ok (k := 5) hF (RetQ_mild _ _ _ _ _ _ _ _) (ds := [.r [.ro (.v (.bool t410))] [], .b false, .b false, .b false, .b false]) (os := []) (c := none) rfl KD ?_
   exact WS.can [(1004, some 4)] (((ih.out k (by omega)).s_j0  r1 r2 r3 w ro B hF a0 a1 (decide ((a0.size : Int) > 400)) 0 h).out) KD
 · rw [if_neg c2] at h
   refine path_ok (k := 5) hF (RetQ_mild _ _ _ _ _ _ _ _) (ds := [.r [.ro (.v (.bool t410))] [], .b true, .b true, .b true, .b true]) (os := []) (c := none) rfl KD ?_
   exact WS.can [(1004, some 4)] (((ih.out k (by omega)).s_j0  r1 r2 r3 w ro B hF a0 a1 true 0 h).out) KD
def spec_l5One.j0 : Nat → Int → Int → Bool → Option (Int)
  | 0, _, _, _ => none
  | k + 1, x1, x5, x6 => if x6 = true then (if x1 = 1 then (some 0) else (some (-1))) else (if x5 = 73 then (if x1 = 0 then (some 1) else (some (-1))) else (if x5 = 78 then (if x1 ≥ 1 then (some 0) else (some (-1))) else (if x5 = 82 then (if x1 ≥ 1 then (some x1) else (some (-1))) else (if x5 = 67 then (if x1 ≥ 2 then (some (wrap64 (x1 - 1))) else (some (-1))) else (if x5 = 80 then (if x1 = 1 then (some 1) else (some (-1))) else (some (-1)))))))
def spec_l5One.f (k : Nat) (a0 : Int) (a1 : Int) : Option (Int) := if a0 = 83 then (spec_l5One.j0 k a1 a0 (a0 == 83)) else (spec_l5One.j0 k a1 a0 (a0 == 77))
theorem spec_l5One.mono_l : ∀ k, (∀ y0 y1 y2, LeO (spec_l5One.j0 k y0 y1 y2) (spec_l5One.j0 (k + 1) y0 y1 y2))
  | 0 => fun _ _ _ r h => by simp [spec_l5One.j0] at h
  | k + 1 => by
    have ih0 := spec_l5One.mono_l k
    · intro y0 y1 y2
      unfold spec_l5One.j0
      repeat' first
      | (with_reducible exact ih0 _ _ _)
      | (with_reducible exact LeO.refl _)
      | (with_reducible exact LeO.none _)
      | (with_reducible refine LeO.ite ?_ ?_)
      | (with_reducible refine LeO.bind ?_ (fun _ => ?_))
      | exact ih0 _ _ _
      | exact LeO.none _
      | refine LeO.ite ?_ ?_
      | refine LeO.bind ?_ (fun _ => ?_)
theorem spec_l5One.mono : ∀ a0 a1 k, LeO (spec_l5One.f k a0 a1) (spec_l5One.f (k + 1) a0 a1) := by
  intro a0 a1 k
  have ih0 := spec_l5One.mono_l k
  unfold spec_l5One.f
  repeat' first
      | (with_reducible exact ih0 _ _ _)
      | (with_reducible exact LeO.refl _)
      | (with_reducible exact LeO.none _)
      | (with_reducible refine LeO.ite ?_ ?_)
      | (with_reducible refine LeO.bind ?_ (fun _ => ?_))
      | exact ih0 _ _ _
      | exact LeO.none _
      | refine LeO.ite ?_ ?_
      | refine LeO.bind ?_ (fun _ => ?_)
structure spec_l5One.C (k : Nat) : Prop where
 s_j0 : ∀ (r : Int) (w : World) (ro : Nat → Prop) (B : Nat) (_ : Fr TE (cx0 Tryz.f61 none w ro B)) (x1 : Int) (x5 : Int) (x6 : Bool) (_ : spec_l5One.j0 k x1 x5 x6 = some r), Kp (WS TE (cx0 Tryz.f61 none w ro B) (stkAt [1, 0, 1, 0, 0, 1, 9] [] (bodyOf Tryz.f61) []) ⟨[(1, .v (.int .i64 x1)), (5, .v (.int .u8 x5)), (6, .v (.bool x6))], []⟩ (RetQ TE Tryz.f61 none [.ro (.v (.int .i64 r))] [] w ro B))
set_option maxRecDepth 100000 in
set_option maxHeartbeats 4000000 in
theorem spec_l5One.c_j0 (k : Nat) (ih : Kp (∀ m, m < k → spec_l5One.C m)) (r : Int) (w : World) (ro : Nat → Prop) (B : Nat) (hF : Fr TE (cx0 Tryz.f61 none w ro B)) (x1 : Int) (x5 : Int) (x6 : Bool) (h : spec_l5One.j0 k x1 x5 x6 = some r) : Kp (WS TE (cx0 Tryz.f61 none w ro B) (stkAt [1, 0, 1, 0, 0, 1, 9] [] (bodyOf Tryz.f61) []) ⟨[(1, .v (.int .i64 x1)), (5, .v (.int .u8 x5)), (6, .v (.bool x6))], []⟩ (RetQ TE Tryz.f61 none [.ro (.v (.int .i64 r))] [] w ro B)) := by
 refine ⟨?_⟩
 cases k with
 | zero => simp [spec_l5One.j0] at h
 | succ k =>
 simp only [spec_l5One.j0] at h
 by_cases c2 : x6 = true
 · rw [if_pos c2] at h
   by_cases c3 : x1 = 1
   · rw [if_pos c3] at h
     refine path_ok (k := 7) hF (RetQ_mild _ _ _ _ _ _ _ _) (ds := [.b true, .b true]) (os := []) (c := none) rfl KD ?_
     cases h
     exact ret_as (ms := [.ro]) rfl KD
   · rw [if_neg c3] at h
     refine path_ok (k := 9) hF (RetQ_mild _ _ _ _ _ _ _ _) (ds := [.b true, .b false]) (os := []) (c := none) rfl KD ?_
     cases h
     exact ret_as (ms := [.ro]) rfl KD
 · rw [if_neg c2] at h
   by_cases c4 : x5 = 73
   · rw [if_pos c4] at h
     by_cases c5 : x1 = 0
     · rw [if_pos c5] at h
       refine path_ok (k := 10) hF (RetQ_mild _ _ _ _ _ _ _ _) (ds := [.b false, .b true, .b true]) (os := []) (c := none) rfl KD ?_
       cases h
       exact ret_as (ms := [.ro]) rfl KD
     · rw [if_neg c5] at h
       refine path_ok (k := 12) hF (RetQ_mild _ _ _ _ _ _ _ _) (ds := [.b false, .b true, .b false]) (os := []) (c := none) rfl KD ?_
       cases h
       exact ret_as (ms := [.ro]) rfl KD
   · rw [if_neg c4] at h
     by_cases c6 : x5 = 78
     · rw [if_pos c6] at h
       by_cases c7 : x1 ≥ 1
       · rw [if_pos c7] at h
         refine path_ok (k := 13) hF (RetQ_mild _ _ _ _ _ _ _ _) (ds := [.b false, .b false, .b true, .b true]) (os := []) (c := none) rfl KD ?_
         cases h
         exact ret_as (ms := [.ro]) rfl KD
       · rw [if_neg c7] at h
         refine path_ok (k := 15) hF (RetQ_mild _ _ _ _ _ _ _ _) (ds := [.b false, .b false, .b true, .b false]) (os := []) (c := none) rfl KD ?_
         cases h
         exact ret_as (ms := [.ro]) rfl KD
     · rw [if_neg c6] at h
       by_cases c8 : x5 = 82
       · rw [if_pos c8] at h
         by_cases c9 : x1 ≥ 1
         · rw [if_pos c9] at h
           refine path_ok (k := 16) hF (RetQ_mild _ _ _ _ _ _ _ _) (ds := [.b false, .b false, .b false, .b true, .b true]) (os := []) (c := none) rfl KD ?_
           cases h
           exact ret_as (ms := [.ro]) rfl KD
         · rw [if_neg c9] at h
           refine path_ok (k := 18) hF (RetQ_mild _ _ _ _ _ _ _ _) (ds := [.b false, .b false, .b false, .b true, .b false]) (os := []) (c := none) rfl KD ?_
           cases h
           exact ret_as (ms := [.ro]) rfl KD
       · rw [if_neg c8] at h
         by_cases c10 : x5 = 67
         · rw [if_pos c10] at h
           by_cases c11 : x1 ≥ 2
           · rw [if_pos c11] at h
             refine path_ok (k := 19) hF (RetQ_mild _ _ _ _ _ _ _ _) (ds := [.b false, .b false, .b false, .b false, .b true, .b true]) (os := []) (c := none) rfl KD ?_
             cases h
             exact ret_as (ms := [.ro]) rfl KD
           · rw [if_neg c11] at h
             refine path_ok (k := 21) hF (RetQ_mild _ _ _ _ _ _ _ _) (ds := [.b false, .b false, .b false, .b false, .b true, .b false]) (os := []) (c := none) rfl KD ?_
             cases h
             exact ret_as (ms := [.ro]) rfl KD
         · rw [if_neg c10] at h
           by_cases c12 : x5 = 80
           · rw [if_pos c12] at h
             by_cases c13 : x1 = 1
             · rw [if_pos c13] at h
               refine path_ok (k := 22) hF (RetQ_mild _ _ _ _ _ _ _ _) (ds := [.b false, .b false, .b false, .b false, .b false, .b true, .b true]) (os := []) (c := none) rfl KD ?_
               cases h
               exact ret_as (ms := [.ro]) rfl KD
             · rw [if_neg c13] at h
               refine path_ok (k := 24) hF (RetQ_mild _ _ _ _ _ _ _ _) (ds := [.b false, .b false, .b false, .b false, .b false, .b true, .b false]) (os := []) (c := none) rfl KD ?_
               cases h
               exact ret_as (ms := [.ro]) rfl KD
           · rw [if_neg c12] at h
             refine path_ok (k := 21) hF (RetQ_mild _ _ _ _ _ _ _ _) (ds := [.b false, .b false, .b false, .b false, .b false, .b false]) (os := []) (c := none) rfl KD ?_
             cases h
             exact ret_as (ms := [.ro]) rfl KD
theorem spec_l5One.cs (k : Nat) : spec_l5One.C k := by
 induction k using Nat.strongRecOn with
 | _ k ih0 =>
 have ih : Kp (∀ m, m < k → spec_l5One.C m) := ⟨ih0⟩
 exact ⟨spec_l5One.c_j0 k ih⟩
set_option maxRecDepth 100000 in
set_option maxHeartbeats 4000000 in
theorem spec_l5One.ctr (k : Nat) (a0 : Int) (a1 : Int) (r : Int) (h : spec_l5One.f k a0 a1 = some r) : Ctr TE 61 none [.v (.int .u8 a0), .v (.int .i64 a1)] [.ro (.v (.int .i64 r))] [] := by
 refine ctr_of (fn := Tryz.f61) (c := (bodyOf Tryz.f61)) Tryz.func61 rfl (by kernel_rfl) (Nat.le_of_ble_eq_true (by kernel_rfl)) (fun w ro B hF _ => ?_)
 have ih : Kp (∀ m, m < k + 1 → spec_l5One.C m) := ⟨fun m _ => spec_l5One.cs m⟩
 simp only [spec_l5One.f] at h
 by_cases c1 : a0 = 83
 · rw [if_pos c1] at h
   refine path_ok (k := 11) hF (RetQ_mild _ _ _ _ _ _ _ _) (ds := [.b true]) (os := []) (c := none) rfl KD ?_
   exact WS.can [] (((ih.out k (by omega)).s_j0  r w ro B hF a1 a0 (a0 == 83) h).out) KD
 · rw [if_neg c1] at h
   refine path_ok (k := 11) hF (RetQ_mild _ _ _ _ _ _ _ _) (ds := [.b false]) (os := []) (c := none) rfl KD ?_
   exact WS.can [] (((ih.out k (by omega)).s_j0  r w ro B hF a1 a0 (a0 == 77) h).out) KD
def spec_l3Add.f (a0 : Int) (a1 : Int) : Option (Int) := some (Int.tmod (wrap64 (a0 + a1)) 10007)
set_option maxRecDepth 100000 in
set_option maxHeartbeats 4000000 in
theorem spec_l3Add.ctr (a0 : Int) (a1 : Int) (r : Int) (h : spec_l3Add.f a0 a1 = some r) : Ctr TE 103 none [.v (.int .i64 a0), .v (.int .i64 a1)] [.ro (.v (.int .i64 r))] [] := by
 refine ctr_of (fn := Tryz.f103) (c := (bodyOf Tryz.f103)) Tryz.func103 rfl (by kernel_rfl) (Nat.le_of_ble_eq_true (by kernel_rfl)) (fun w ro B hF _ => ?_)
 simp only [spec_l3Add.f] at h
 refine path_ok (k := 5) hF (RetQ_mild _ _ _ _ _ _ _ _) (ds := [.e 8 (.v (.int .i64 (Int.tmod (wrap64 (a0 + a1)) 10007)))]) (os := []) (c := none) rfl KD ?_
 cases h
 exact ret_as (ms := [.ro]) rfl KD
end Go.Proofs.YtoloblgjlnhioaaGreatDoor.I
