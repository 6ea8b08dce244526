/- A part of the claim. -/
import Derived.Test.YtoloblgjlnhioaaDoorHFx0
-- PRINTED by print.py (a twelfth state) out of the translation. Not trusted: Lean checks it.
namespace Go.Proofs.YtoloblgjlnhioaaDoor.H
open Go.RowKit Go.Proofs.YtoloblgjlnhioaaDoorW.St Go.Proofs.YtoloblgjlnhioaaDoorW.PrintWords Go.Proofs.YtoloblgjlnhioaaDoorW.PrintLast Go.Proofs.YtoloblgjlnhioaaDoorW.PrintMore
attribute [local go_sem] max2_int min2_int max_two min_two max_three min_three max_four min_four   -- for this text's walks alone
set_option linter.unusedVariables false
set_option linter.unusedSimpArgs false
def laws_szStringS.l0 : Nat → List ByteArray → Int → Int → Option (Int)
  | 0, _, _, _ => none
  | k + 1, x0, x1, x5 => if x5 < (x0.length : Int) then (if 0 ≤ x5 then (if (wrap64 (x1 - ((rdOf ByteArray.empty x0 x5).size : Int))) < 0 then (some (-1)) else (laws_szStringS.l0 k x0 (wrap64 (x1 - ((rdOf ByteArray.empty x0 x5).size : Int))) (wrap64 (x5 + 1)))) else (none)) else (some x1)
def laws_szStringS.f (k : Nat) (l0 : List ByteArray) (a1 : Int) : Option (Int) := if (wrap64 (a1 - (l0.length : Int))) < 0 then (some (-1)) else (laws_szStringS.l0 k l0 (wrap64 (a1 - (l0.length : Int))) 0)
def laws_szStringS.I0 (r : Int) (m : Nat) (σ : St) : Prop := ∃ (x0 : List ByteArray) (x1 : Int) (x5 : Int), laws_szStringS.l0 m x0 x1 x5 = some r ∧ σ = ⟨[(0, .sl 1 (rX cS x0)), (1, .v (.int .i64 x1)), (5, .v (.int .i64 x5))], []⟩
structure laws_szStringS.C (k : Nat) : Prop where
 s_l0 : ∀ (r : Int) (w : World) (ro : Nat → Prop) (B : Nat) (_ : Fr TE (cx0 Tryd.f7 none w ro B)) (x0 : List ByteArray) (x1 : Int) (x5 : Int) (_ : laws_szStringS.l0 k x0 x1 x5 = some r), Kp (WS TE (cx0 Tryd.f7 none w ro B) (stkAt [1, 1, 1, 0, 1, 0] [] (bodyOf Tryd.f7) []) ⟨[(0, .sl 1 (rX cS x0)), (1, .v (.int .i64 x1)), (5, .v (.int .i64 x5))], []⟩ (RetQ TE Tryd.f7 none [.ro (.v (.int .i64 r))] [] w ro B))
set_option maxRecDepth 100000 in
set_option maxHeartbeats 4000000 in
theorem laws_szStringS.c_l0 (k : Nat) (ih : Kp (∀ m, m < k → laws_szStringS.C m)) (r : Int) (w : World) (ro : Nat → Prop) (B : Nat) (hF : Fr TE (cx0 Tryd.f7 none w ro B)) (x0 : List ByteArray) (x1 : Int) (x5 : Int) (h : laws_szStringS.l0 k x0 x1 x5 = some r) : Kp (WS TE (cx0 Tryd.f7 none w ro B) (stkAt [1, 1, 1, 0, 1, 0] [] (bodyOf Tryd.f7) []) ⟨[(0, .sl 1 (rX cS x0)), (1, .v (.int .i64 x1)), (5, .v (.int .i64 x5))], []⟩ (RetQ TE Tryd.f7 none [.ro (.v (.int .i64 r))] [] w ro B)) := by
 refine ⟨WS.loop (fun m σ => m ≤ k ∧ laws_szStringS.I0 r m σ) k ⟨Nat.le_refl k, x0, x1, x5, h, rfl⟩ (fun m σ' hI J0 hJ0 => ?_)⟩
 clear h
 obtain ⟨hk, x0, x1, x5, h, rfl⟩ := hI
 cases m with
 | zero => simp [laws_szStringS.l0] at h
 | succ k' =>
 simp only [laws_szStringS.l0] at h
 by_cases c2 : x5 < (x0.length : Int)
 · rw [if_pos c2] at h
   by_cases c3 : 0 ≤ x5
   · rw [if_pos c3] at h
     by_cases c4 : (wrap64 (x1 - ((rdOf ByteArray.empty x0 x5).size : Int))) < 0
     · rw [if_pos c4] at h
       refine path_ok (k := 15) hF (RetQ_mild _ _ _ _ _ _ _ _) (ds := [.e 14 (.v (.int .i64 (x0.length : Int))), .b true, .e 21 (.rf [.v (.string (rdOf ByteArray.empty x0 x5))]), .b true]) (os := []) (c := none) rfl KD ?_
       cases h
       exact ret_as (ms := [.ro]) rfl KD
     · rw [if_neg c4] at h
       refine path_ok (k := 15) hF (RetQ_mild _ _ _ _ _ _ _ _) (ds := [.e 14 (.v (.int .i64 (x0.length : Int))), .b true, .e 21 (.rf [.v (.string (rdOf ByteArray.empty x0 x5))]), .b false]) (os := []) (c := none) rfl KD ?_
       exact WS.lpc [] (hJ0 _ _ (Nat.lt_succ_self _) ⟨by omega, x0, (wrap64 (x1 - ((rdOf ByteArray.empty x0 x5).size : Int))), (wrap64 (x5 + 1)), h, rfl⟩) KD
   · rw [if_neg c3] at h
     cases h
 · rw [if_neg c2] at h
   refine path_ok (k := 8) hF (RetQ_mild _ _ _ _ _ _ _ _) (ds := [.e 14 (.v (.int .i64 (x0.length : Int))), .b false]) (os := []) (c := none) rfl KD ?_
   cases h
   exact ret_as (ms := [.ro]) rfl KD
theorem laws_szStringS.cs (k : Nat) : laws_szStringS.C k := by
 induction k using Nat.strongRecOn with
 | _ k ih0 =>
 have ih : Kp (∀ m, m < k → laws_szStringS.C m) := ⟨ih0⟩
 exact ⟨laws_szStringS.c_l0 k ih⟩
set_option maxRecDepth 100000 in
set_option maxHeartbeats 4000000 in
theorem laws_szStringS.ctr (k : Nat) (l0 : List ByteArray) (a1 : Int) (r : Int) (h : laws_szStringS.f k l0 a1 = some r) : Ctr TE 7 none [.sl 1 (rX cS l0), .v (.int .i64 a1)] [.ro (.v (.int .i64 r))] [] := by
 refine ctr_of (fn := Tryd.f7) (c := (bodyOf Tryd.f7)) Tryd.func7 rfl (by kernel_rfl) (Nat.le_of_ble_eq_true (by kernel_rfl)) (fun w ro B hF _ => ?_)
 have ih : Kp (∀ m, m < k + 1 → laws_szStringS.C m) := ⟨fun m _ => laws_szStringS.cs m⟩
 simp only [laws_szStringS.f] at h
 by_cases c1 : (wrap64 (a1 - (l0.length : Int))) < 0
 · rw [if_pos c1] at h
   refine path_ok (k := 11) hF (RetQ_mild _ _ _ _ _ _ _ _) (ds := [.e 8 (.v (.int .i64 (l0.length : Int))), .b true]) (os := []) (c := none) rfl KD ?_
   cases h
   exact ret_as (ms := [.ro]) rfl KD
 · rw [if_neg c1] at h
   refine path_ok (k := 13) hF (RetQ_mild _ _ _ _ _ _ _ _) (ds := [.e 8 (.v (.int .i64 (l0.length : Int))), .b false]) (os := []) (c := none) rfl KD ?_
   exact WS.can [] (((ih.out k (by omega)).s_l0  r w ro B hF l0 (wrap64 (a1 - (l0.length : Int))) 0 h).out) KD
def laws_toStringS.l0 : Nat → List ByteArray → List ByteArray → Int → Option (List ByteArray)
  | 0, _, _, _ => none
  | k + 1, x0, x3, x4 => if x4 < (x0.length : Int) then (if 0 ≤ x4 then (if x4 < (x3.length : Int) then (laws_toStringS.l0 k x0 (x3.set (x4 : Int).toNat (rdOf ByteArray.empty x0 x4)) (wrap64 (x4 + 1))) else (none)) else (none)) else (some x3)
def laws_toStringS.f (k : Nat) (l0 : List ByteArray) : Option (List ByteArray) := if 0 ≤ (l0.length : Int) then (if ((l0.length : Int) : Int).toNat ≤ 17592186044416 then (laws_toStringS.l0 k l0 (List.replicate ((l0.length : Int) : Int).toNat (⟨#[]⟩ : ByteArray)) 0) else (none)) else (none)
def laws_toStringS.I0 (r : List ByteArray) (m : Nat) (σ : St) : Prop := ∃ (x0 : List ByteArray) (x3 : List ByteArray) (x4 : Int), laws_toStringS.l0 m x0 x3 x4 = some r ∧ σ = ⟨[(0, .sl 1 (rX cS x0)), (3, .ow 1003 0), (4, .v (.int .i64 x4))], [(1003, .own 0 9 1 (rX cS x3))]⟩
structure laws_toStringS.C (k : Nat) : Prop where
 s_l0 : ∀ (r : List ByteArray) (w : World) (ro : Nat → Prop) (B : Nat) (_ : Fr TE (cx0 Tryd.f9 none w ro B)) (x0 : List ByteArray) (x3 : List ByteArray) (x4 : Int) (_ : laws_toStringS.l0 k x0 x3 x4 = some r), Kp (WS TE (cx0 Tryd.f9 none w ro B) (stkAt [1, 1, 0, 1, 0] [] (bodyOf Tryd.f9) []) ⟨[(0, .sl 1 (rX cS x0)), (3, .ow 1003 0), (4, .v (.int .i64 x4))], [(1003, .own 0 9 1 (rX cS x3))]⟩ (RetQ TE Tryd.f9 none [.own 9 1 (rX cS r)] [] w ro B))
set_option maxRecDepth 100000 in
set_option maxHeartbeats 4000000 in
theorem laws_toStringS.c_l0 (k : Nat) (ih : Kp (∀ m, m < k → laws_toStringS.C m)) (r : List ByteArray) (w : World) (ro : Nat → Prop) (B : Nat) (hF : Fr TE (cx0 Tryd.f9 none w ro B)) (x0 : List ByteArray) (x3 : List ByteArray) (x4 : Int) (h : laws_toStringS.l0 k x0 x3 x4 = some r) : Kp (WS TE (cx0 Tryd.f9 none w ro B) (stkAt [1, 1, 0, 1, 0] [] (bodyOf Tryd.f9) []) ⟨[(0, .sl 1 (rX cS x0)), (3, .ow 1003 0), (4, .v (.int .i64 x4))], [(1003, .own 0 9 1 (rX cS x3))]⟩ (RetQ TE Tryd.f9 none [.own 9 1 (rX cS r)] [] w ro B)) := by
 refine ⟨WS.loop (fun m σ => m ≤ k ∧ laws_toStringS.I0 r m σ) k ⟨Nat.le_refl k, x0, x3, x4, h, rfl⟩ (fun m σ' hI J0 hJ0 => ?_)⟩
 clear h
 obtain ⟨hk, x0, x3, x4, h, rfl⟩ := hI
 cases m with
 | zero => simp [laws_toStringS.l0] at h
 | succ k' =>
 simp only [laws_toStringS.l0] at h
 by_cases c3 : x4 < (x0.length : Int)
 · rw [if_pos c3] at h
   by_cases c4 : 0 ≤ x4
   · rw [if_pos c4] at h
     by_cases c5 : x4 < (x3.length : Int)
     · rw [if_pos c5] at h
       refine path_ok (k := 10) hF (RetQ_mild _ _ _ _ _ _ _ _) (ds := [.e 10 (.v (.int .i64 (x0.length : Int))), .b true, .e 18 (.rf [.v (.string (rdOf ByteArray.empty x0 x4))]), .g [.v (.string (rdOf ByteArray.empty x3 x4))], .o 0 (rX cS (x3.set (x4 : Int).toNat (rdOf ByteArray.empty x0 x4)))]) (os := []) (c := none) rfl KD ?_
       exact WS.lpc [(1003, some 1003)] (hJ0 _ _ (Nat.lt_succ_self _) ⟨by omega, x0, (x3.set (x4 : Int).toNat (rdOf ByteArray.empty x0 x4)), (wrap64 (x4 + 1)), h, rfl⟩) KD
     · rw [if_neg c5] at h
       cases h
   · rw [if_neg c4] at h
     cases h
 · rw [if_neg c3] at h
   refine path_ok (k := 8) hF (RetQ_mild _ _ _ _ _ _ _ _) (ds := [.e 10 (.v (.int .i64 (x0.length : Int))), .b false]) (os := []) (c := none) rfl KD ?_
   cases h
   exact ret_as (ms := [.own]) rfl KD
theorem laws_toStringS.cs (k : Nat) : laws_toStringS.C k := by
 induction k using Nat.strongRecOn with
 | _ k ih0 =>
 have ih : Kp (∀ m, m < k → laws_toStringS.C m) := ⟨ih0⟩
 exact ⟨laws_toStringS.c_l0 k ih⟩
set_option maxRecDepth 100000 in
set_option maxHeartbeats 4000000 in
theorem laws_toStringS.ctr (k : Nat) (l0 : List ByteArray) (r : List ByteArray) (h : laws_toStringS.f k l0 = some r) : Ctr TE 9 none [.sl 1 (rX cS l0)] [.own 9 1 (rX cS r)] [] := by
 refine ctr_of (fn := Tryd.f9) (c := (bodyOf Tryd.f9)) Tryd.func9 rfl (by kernel_rfl) (Nat.le_of_ble_eq_true (by kernel_rfl)) (fun w ro B hF _ => ?_)
 have ih : Kp (∀ m, m < k + 1 → laws_toStringS.C m) := ⟨fun m _ => laws_toStringS.cs m⟩
 simp only [laws_toStringS.f] at h
 by_cases c1 : 0 ≤ (l0.length : Int)
 · rw [if_pos c1] at h
   by_cases c2 : ((l0.length : Int) : Int).toNat ≤ 17592186044416
   · rw [if_pos c2] at h
     refine path_ok (k := 8) hF (RetQ_mild _ _ _ _ _ _ _ _) (ds := [.e 6 (.v (.int .i64 (l0.length : Int))), .o 7 (rX cS (List.replicate ((l0.length : Int) : Int).toNat (⟨#[]⟩ : ByteArray)))]) (os := []) (c := none) rfl KD ?_
     exact WS.can [(1003, some 7)] (((ih.out k (by omega)).s_l0  r w ro B hF l0 (List.replicate ((l0.length : Int) : Int).toNat (⟨#[]⟩ : ByteArray)) 0 h).out) KD
   · rw [if_neg c2] at h
     cases h
 · rw [if_neg c1] at h
   cases h
def laws_eqStringS.l0 : Nat → List ByteArray → List ByteArray → Int → Option (Bool)
  | 0, _, _, _ => none
  | k + 1, x0, x1, x5 => if x5 < (x0.length : Int) then (if 0 ≤ x5 then (if x5 < (x1.length : Int) then (if (rdOf ByteArray.empty x0 x5).toList = (rdOf ByteArray.empty x1 x5).toList then (laws_eqStringS.l0 k x0 x1 (wrap64 (x5 + 1))) else (some false)) else (none)) else (none)) else (some true)
def laws_eqStringS.f (k : Nat) (l0 : List ByteArray) (l1 : List ByteArray) : Option (Bool) := if (l0.length : Int) = (l1.length : Int) then (laws_eqStringS.l0 k l0 l1 0) else (some false)
def laws_eqStringS.I0 (r : Bool) (m : Nat) (σ : St) : Prop := ∃ (x0 : List ByteArray) (x1 : List ByteArray) (x5 : Int), laws_eqStringS.l0 m x0 x1 x5 = some r ∧ σ = ⟨[(0, .sl 1 (rX cS x0)), (1, .sl 1 (rX cS x1)), (5, .v (.int .i64 x5))], []⟩
structure laws_eqStringS.C (k : Nat) : Prop where
 s_l0 : ∀ (r : Bool) (w : World) (ro : Nat → Prop) (B : Nat) (_ : Fr TE (cx0 Tryd.f12 none w ro B)) (x0 : List ByteArray) (x1 : List ByteArray) (x5 : Int) (_ : laws_eqStringS.l0 k x0 x1 x5 = some r), Kp (WS TE (cx0 Tryd.f12 none w ro B) (stkAt [1, 1, 0, 1, 0] [] (bodyOf Tryd.f12) []) ⟨[(0, .sl 1 (rX cS x0)), (1, .sl 1 (rX cS x1)), (5, .v (.int .i64 x5))], []⟩ (RetQ TE Tryd.f12 none [.ro (.v (.bool r))] [] w ro B))
set_option maxRecDepth 100000 in
set_option maxHeartbeats 4000000 in
theorem laws_eqStringS.c_l0 (k : Nat) (ih : Kp (∀ m, m < k → laws_eqStringS.C m)) (r : Bool) (w : World) (ro : Nat → Prop) (B : Nat) (hF : Fr TE (cx0 Tryd.f12 none w ro B)) (x0 : List ByteArray) (x1 : List ByteArray) (x5 : Int) (h : laws_eqStringS.l0 k x0 x1 x5 = some r) : Kp (WS TE (cx0 Tryd.f12 none w ro B) (stkAt [1, 1, 0, 1, 0] [] (bodyOf Tryd.f12) []) ⟨[(0, .sl 1 (rX cS x0)), (1, .sl 1 (rX cS x1)), (5, .v (.int .i64 x5))], []⟩ (RetQ TE Tryd.f12 none [.ro (.v (.bool r))] [] w ro B)) := by
 refine ⟨WS.loop (fun m σ => m ≤ k ∧ laws_eqStringS.I0 r m σ) k ⟨Nat.le_refl k, x0, x1, x5, h, rfl⟩ (fun m σ' hI J0 hJ0 => ?_)⟩
 clear h
 obtain ⟨hk, x0, x1, x5, h, rfl⟩ := hI
 cases m with
 | zero => simp [laws_eqStringS.l0] at h
 | succ k' =>
 simp only [laws_eqStringS.l0] at h
 by_cases c2 : x5 < (x0.length : Int)
 · rw [if_pos c2] at h
   by_cases c3 : 0 ≤ x5
   · rw [if_pos c3] at h
     by_cases c4 : x5 < (x1.length : Int)
     · rw [if_pos c4] at h
       by_cases c5 : (rdOf ByteArray.empty x0 x5).toList = (rdOf ByteArray.empty x1 x5).toList
       · rw [if_pos c5] at h
         refine path_ok (k := 13) hF (RetQ_mild _ _ _ _ _ _ _ _) (ds := [.e 13 (.v (.int .i64 (x0.length : Int))), .b true, .e 19 (.rf [.v (.string (rdOf ByteArray.empty x0 x5))]), .e 23 (.rf [.v (.string (rdOf ByteArray.empty x1 x5))]), .b false]) (os := [.o [(0, 0), (1, 0), (2, 0), (3, 1), (4, 0), (5, 0), (6, 0), (7, 1), (8, 0)] []]) (c := none) rfl KD ?_
         exact WS.lpc [] (hJ0 _ _ (Nat.lt_succ_self _) ⟨by omega, x0, x1, (wrap64 (x5 + 1)), h, rfl⟩) KD
       · rw [if_neg c5] at h
         refine path_ok (k := 13) hF (RetQ_mild _ _ _ _ _ _ _ _) (ds := [.e 13 (.v (.int .i64 (x0.length : Int))), .b true, .e 19 (.rf [.v (.string (rdOf ByteArray.empty x0 x5))]), .e 23 (.rf [.v (.string (rdOf ByteArray.empty x1 x5))]), .b true]) (os := [.o [(0, 0), (1, 0), (2, 0), (3, 1), (4, 0), (5, 0), (6, 0), (7, 1), (8, 0)] []]) (c := none) rfl KD ?_
         cases h
         exact ret_as (ms := [.ro]) rfl KD
     · rw [if_neg c4] at h
       cases h
   · rw [if_neg c3] at h
     cases h
 · rw [if_neg c2] at h
   refine path_ok (k := 8) hF (RetQ_mild _ _ _ _ _ _ _ _) (ds := [.e 13 (.v (.int .i64 (x0.length : Int))), .b false]) (os := []) (c := none) rfl KD ?_
   cases h
   exact ret_as (ms := [.ro]) rfl KD
theorem laws_eqStringS.cs (k : Nat) : laws_eqStringS.C k := by
 induction k using Nat.strongRecOn with
 | _ k ih0 =>
 have ih : Kp (∀ m, m < k → laws_eqStringS.C m) := ⟨ih0⟩
 exact ⟨laws_eqStringS.c_l0 k ih⟩
set_option maxRecDepth 100000 in
set_option maxHeartbeats 4000000 in
theorem laws_eqStringS.ctr (k : Nat) (l0 : List ByteArray) (l1 : List ByteArray) (r : Bool) (h : laws_eqStringS.f k l0 l1 = some r) : Ctr TE 12 none [.sl 1 (rX cS l0), .sl 1 (rX cS l1)] [.ro (.v (.bool r))] [] := by
 refine ctr_of (fn := Tryd.f12) (c := (bodyOf Tryd.f12)) Tryd.func12 rfl (by kernel_rfl) (Nat.le_of_ble_eq_true (by kernel_rfl)) (fun w ro B hF _ => ?_)
 have ih : Kp (∀ m, m < k + 1 → laws_eqStringS.C m) := ⟨fun m _ => laws_eqStringS.cs m⟩
 simp only [laws_eqStringS.f] at h
 by_cases c1 : (l0.length : Int) = (l1.length : Int)
 · rw [if_pos c1] at h
   refine path_ok (k := 11) hF (RetQ_mild _ _ _ _ _ _ _ _) (ds := [.e 7 (.v (.int .i64 (l0.length : Int))), .e 9 (.v (.int .i64 (l1.length : Int))), .b false]) (os := []) (c := none) rfl KD ?_
   exact WS.can [] (((ih.out k (by omega)).s_l0  r w ro B hF l0 l1 0 h).out) KD
 · rw [if_neg c1] at h
   refine path_ok (k := 9) hF (RetQ_mild _ _ _ _ _ _ _ _) (ds := [.e 7 (.v (.int .i64 (l0.length : Int))), .e 9 (.v (.int .i64 (l1.length : Int))), .b true]) (os := []) (c := none) rfl KD ?_
   cases h
   exact ret_as (ms := [.ro]) rfl KD
mutual
def spec_l13Dec.l0 : Nat → Int → ByteArray → Option (ByteArray)
  | 0, _, _ => none
  | k + 1, x0, x3 => if x0 > 9 then ((some (([(wrap64 (48 + (Int.tmod x0 10))) % 256] : List Int) : List Int)).bind fun y110 => (if (strOfNums y110).size + x3.size ≤ 9223372036854775807 then (spec_l13Dec.l0 k (wrap64 (Int.tdiv x0 10)) ((strOfNums y110) ++ x3)) else (none))) else ((some (([(wrap64 (48 + x0)) % 256] : List Int) : List Int)).bind fun y113 => (if (strOfNums y113).size + x3.size ≤ 9223372036854775807 then (some ((strOfNums y113) ++ x3)) else (none)))
def spec_l13Dec.f : Nat → Int → Option (ByteArray)
  | 0, _ => none
  | k + 1, a0 => if a0 < (-9223372036854775807) then (some (⟨#[45, 57, 50, 50, 51, 51, 55, 50, 48, 51, 54, 56, 53, 52, 55, 55, 53, 56, 48, 56]⟩ : ByteArray)) else (if a0 < 0 then ((spec_l13Dec.f k (wrap64 (-a0))).bind fun t109 => (if 1 + t109.size ≤ 9223372036854775807 then (some ((⟨#[45]⟩ : ByteArray) ++ t109)) else (none))) else (spec_l13Dec.l0 k a0 (⟨#[]⟩ : ByteArray)))
end
def spec_l13Dec.I0 (r : ByteArray) (m : Nat) (σ : St) : Prop := ∃ (x0 : Int) (x3 : ByteArray), spec_l13Dec.l0 m x0 x3 = some r ∧ σ = ⟨[(0, .v (.int .i64 x0)), (3, .v (.string x3))], []⟩
structure spec_l13Dec.C (k : Nat) : Prop where
 s_f : ∀ (a0 : Int) (r : ByteArray), spec_l13Dec.f k a0 = some r → Ctr TE 88 none [.v (.int .i64 a0)] [.ro (.v (.string r))] []
 s_l0 : ∀ (r : ByteArray) (w : World) (ro : Nat → Prop) (B : Nat) (_ : Fr TE (cx0 Tryd.f88 none w ro B)) (x0 : Int) (x3 : ByteArray) (_ : spec_l13Dec.l0 k x0 x3 = some r), Kp (WS TE (cx0 Tryd.f88 none w ro B) (stkAt [1, 1, 1, 1, 0, 0] [] (bodyOf Tryd.f88) []) ⟨[(0, .v (.int .i64 x0)), (3, .v (.string x3))], []⟩ (RetQ TE Tryd.f88 none [.ro (.v (.string r))] [] w ro B))
set_option maxRecDepth 100000 in
set_option maxHeartbeats 4000000 in
theorem spec_l13Dec.c_f (k : Nat) (ih : Kp (∀ m, m < k → spec_l13Dec.C m)) (a0 : Int) (r : ByteArray) (h : spec_l13Dec.f k a0 = some r) : Ctr TE 88 none [.v (.int .i64 a0)] [.ro (.v (.string r))] [] := by
 cases k with
 | zero => simp [spec_l13Dec.f] at h
 | succ k =>
 simp only [spec_l13Dec.f] at h
 refine ctr_of (fn := Tryd.f88) (c := (bodyOf Tryd.f88)) Tryd.func88 rfl (by kernel_rfl) (Nat.le_of_ble_eq_true (by kernel_rfl)) (fun w ro B hF _ => ?_)
 by_cases c1 : a0 < (-9223372036854775807)
 · rw [if_pos c1] at h
   refine path_ok (k := 9) hF (RetQ_mild _ _ _ _ _ _ _ _) (ds := [.b true]) (os := []) (c := none) rfl KD ?_
   cases h
   exact ret_as (ms := [.ro]) rfl KD
 · rw [if_neg c1] at h
   by_cases c2 : a0 < 0
   · rw [if_pos c2] at h
     obtain ⟨t109, q3, h⟩ := Option.bind_eq_some_iff.1 h
     have q3c := (ih.out k (by omega)).s_f _ _ q3
     by_cases c4 : 1 + t109.size ≤ 9223372036854775807
     · rw [if_pos c4] at h
       refine path_ok (k := 14) hF (RetQ_mild _ _ _ _ _ _ _ _) (ds := [.b false, .b true, .e 9 (.v (.int .i64 (wrap64 (-a0)))), .r [.ro (.v (.string t109))] []]) (os := []) (c := none) rfl KD ?_
       cases h
       exact ret_as (ms := [.ro]) rfl KD
     · rw [if_neg c4] at h
       cases h
   · rw [if_neg c2] at h
     refine path_ok (k := 16) hF (RetQ_mild _ _ _ _ _ _ _ _) (ds := [.b false, .b false]) (os := []) (c := none) rfl KD ?_
     exact WS.can [] (((ih.out k (by omega)).s_l0  r w ro B hF a0 (⟨#[]⟩ : ByteArray) h).out) KD
set_option maxRecDepth 100000 in
set_option maxHeartbeats 4000000 in
theorem spec_l13Dec.c_l0 (k : Nat) (ih : Kp (∀ m, m < k → spec_l13Dec.C m)) (r : ByteArray) (w : World) (ro : Nat → Prop) (B : Nat) (hF : Fr TE (cx0 Tryd.f88 none w ro B)) (x0 : Int) (x3 : ByteArray) (h : spec_l13Dec.l0 k x0 x3 = some r) : Kp (WS TE (cx0 Tryd.f88 none w ro B) (stkAt [1, 1, 1, 1, 0, 0] [] (bodyOf Tryd.f88) []) ⟨[(0, .v (.int .i64 x0)), (3, .v (.string x3))], []⟩ (RetQ TE Tryd.f88 none [.ro (.v (.string r))] [] w ro B)) := by
 refine ⟨WS.loop (fun m σ => m ≤ k ∧ spec_l13Dec.I0 r m σ) k ⟨Nat.le_refl k, x0, x3, h, rfl⟩ (fun m σ' hI J0 hJ0 => ?_)⟩
 clear h
 obtain ⟨hk, x0, x3, h, rfl⟩ := hI
 cases m with
 | zero => simp [spec_l13Dec.l0] at h
 | succ k' =>
 simp only [spec_l13Dec.l0] at h
 by_cases c5 : x0 > 9
 · rw [if_pos c5] at h
   obtain ⟨y110, hy110, h⟩ := Option.bind_eq_some_iff.1 h
   cases hy110
   by_cases c6 : (strOfNums (([(wrap64 (48 + (Int.tmod x0 10))) % 256] : List Int))).size + x3.size ≤ 9223372036854775807
   · rw [if_pos c6] at h
     refine path_ok (k := 10) hF (RetQ_mild _ _ _ _ _ _ _ _) (ds := [.b true, .e 15 (.v (.int .i64 (Int.tmod x0 10))), .e 17 (.v (.int .u8 ((wrap64 (48 + (Int.tmod x0 10))) % 256))), .p 18 ([[.v (.int .u8 ((wrap64 (48 + (Int.tmod x0 10))) % 256))]]), .w (([(wrap64 (48 + (Int.tmod x0 10))) % 256] : List Int)), .e 23 (.v (.int .i64 (wrap64 (Int.tdiv x0 10))))]) (os := []) (c := none) rfl KD ?_
     exact WS.lpc [] (hJ0 _ _ (Nat.lt_succ_self _) ⟨by omega, (wrap64 (Int.tdiv x0 10)), ((strOfNums (([(wrap64 (48 + (Int.tmod x0 10))) % 256] : List Int))) ++ x3), h, rfl⟩) KD
   · rw [if_neg c6] at h
     cases h
 · rw [if_neg c5] at h
   obtain ⟨y113, hy113, h⟩ := Option.bind_eq_some_iff.1 h
   cases hy113
   by_cases c7 : (strOfNums (([(wrap64 (48 + x0)) % 256] : List Int))).size + x3.size ≤ 9223372036854775807
   · rw [if_pos c7] at h
     refine path_ok (k := 8) hF (RetQ_mild _ _ _ _ _ _ _ _) (ds := [.b false, .e 26 (.v (.int .u8 ((wrap64 (48 + x0)) % 256))), .p 27 ([[.v (.int .u8 ((wrap64 (48 + x0)) % 256))]]), .w (([(wrap64 (48 + x0)) % 256] : List Int))]) (os := []) (c := none) rfl KD ?_
     cases h
     exact ret_as (ms := [.ro]) rfl KD
   · rw [if_neg c7] at h
     cases h
theorem spec_l13Dec.cs (k : Nat) : spec_l13Dec.C k := by
 induction k using Nat.strongRecOn with
 | _ k ih0 =>
 have ih : Kp (∀ m, m < k → spec_l13Dec.C m) := ⟨ih0⟩
 exact ⟨spec_l13Dec.c_f k ih, spec_l13Dec.c_l0 k ih⟩
theorem spec_l13Dec.ctr (k : Nat) (a0 : Int) (r : ByteArray) (h : spec_l13Dec.f k a0 = some r) : Ctr TE 88 none [.v (.int .i64 a0)] [.ro (.v (.string r))] [] := (spec_l13Dec.cs k).s_f a0 r h
mutual
def spec_l1Text.l0 : Nat → Int → ByteArray → List (S77) → Int → Int → Option (ByteArray)
  | 0, _, _, _, _, _ => none
  | k + 1, x1, x5, x14, x15, x16 => if x16 < x15 then (if 0 ≤ x16 then (if x16 < (x14.length : Int) then (if x16 > 0 then (if x5.size + 1 ≤ 9223372036854775807 then ((spec_l1Text.f k ((rd_T77 x14 x16).f0) ((rd_T77 x14 x16).f1) (wrap64 (x1 - 1))).bind fun t120 => (if x5.size + 1 + t120.size ≤ 9223372036854775807 then (spec_l1Text.l0 k x1 ((x5 ++ (⟨#[44]⟩ : ByteArray)) ++ t120) x14 x15 (wrap64 (x16 + 1))) else (none))) else (none)) else ((spec_l1Text.f k ((rd_T77 x14 x16).f0) ((rd_T77 x14 x16).f1) (wrap64 (x1 - 1))).bind fun t121 => (if x5.size + t121.size ≤ 9223372036854775807 then (spec_l1Text.l0 k x1 (x5 ++ t121) x14 x15 (wrap64 (x16 + 1))) else (none)))) else (none)) else (none)) else (if x5.size + 1 ≤ 9223372036854775807 then (some (x5 ++ (⟨#[93]⟩ : ByteArray))) else (none))
def spec_l1Text.f : Nat → Int → List (S77) → Int → Option (ByteArray)
  | 0, _, _, _ => none
  | k + 1, a0_0, l0_1, a1 => if a1 = 0 then ((spec_l13Dec.f k a0_0).bind fun t117 => (some t117)) else (spec_l1Text.l0 k a1 (⟨#[91]⟩ : ByteArray) l0_1 (l0_1.length : Int) 0)
end
def spec_l1Text.I0 (r : ByteArray) (m : Nat) (σ : St) : Prop := ∃ (x1 : Int) (x5 : ByteArray) (x14 : List (S77)) (x15 : Int) (x16 : Int), spec_l1Text.l0 m x1 x5 x14 x15 x16 = some r ∧ σ = ⟨[(1, .v (.int .i64 x1)), (5, .v (.string x5)), (14, .sl 2 (r77 x14)), (15, .v (.int .i64 x15)), (16, .v (.int .i64 x16))], []⟩
structure spec_l1Text.C (k : Nat) : Prop where
 s_f : ∀ (a0_0 : Int) (l0_1 : List (S77)) (a1 : Int) (r : ByteArray), spec_l1Text.f k a0_0 l0_1 a1 = some r → Ctr TE 84 none [.ag [.v (.int .i64 a0_0), .sl 2 (r77 l0_1)], .v (.int .i64 a1)] [.ro (.v (.string r))] []
 s_l0 : ∀ (r : ByteArray) (w : World) (ro : Nat → Prop) (B : Nat) (_ : Fr TE (cx0 Tryd.f84 none w ro B)) (x1 : Int) (x5 : ByteArray) (x14 : List (S77)) (x15 : Int) (x16 : Int) (_ : spec_l1Text.l0 k x1 x5 x14 x15 x16 = some r), Kp (WS TE (cx0 Tryd.f84 none w ro B) (stkAt [1, 1, 1, 0, 1, 0] [] (bodyOf Tryd.f84) []) ⟨[(1, .v (.int .i64 x1)), (5, .v (.string x5)), (14, .sl 2 (r77 x14)), (15, .v (.int .i64 x15)), (16, .v (.int .i64 x16))], []⟩ (RetQ TE Tryd.f84 none [.ro (.v (.string r))] [] w ro B))
set_option maxRecDepth 100000 in
set_option maxHeartbeats 4000000 in
theorem spec_l1Text.c_f (k : Nat) (ih : Kp (∀ m, m < k → spec_l1Text.C m)) (a0_0 : Int) (l0_1 : List (S77)) (a1 : Int) (r : ByteArray) (h : spec_l1Text.f k a0_0 l0_1 a1 = some r) : Ctr TE 84 none [.ag [.v (.int .i64 a0_0), .sl 2 (r77 l0_1)], .v (.int .i64 a1)] [.ro (.v (.string r))] [] := by
 cases k with
 | zero => simp [spec_l1Text.f] at h
 | succ k =>
 simp only [spec_l1Text.f] at h
 refine ctr_of (fn := Tryd.f84) (c := (bodyOf Tryd.f84)) Tryd.func84 rfl (by kernel_rfl) (Nat.le_of_ble_eq_true (by kernel_rfl)) (fun w ro B hF _ => ?_)
 by_cases c1 : a1 = 0
 · rw [if_pos c1] at h
   obtain ⟨t117, q2, h⟩ := Option.bind_eq_some_iff.1 h
   have q2c := spec_l13Dec.ctr k _ _ q2
   refine path_ok (k := 9) hF (RetQ_mild _ _ _ _ _ _ _ _) (ds := [.b true, .r [.ro (.v (.string t117))] []]) (os := []) (c := none) rfl KD ?_
   cases h
   exact ret_as (ms := [.ro]) rfl KD
 · rw [if_neg c1] at h
   refine path_ok (k := 13) hF (RetQ_mild _ _ _ _ _ _ _ _) (ds := [.b false, .e 15 (.v (.int .i64 (l0_1.length : Int)))]) (os := []) (c := none) rfl KD ?_
   exact WS.can [] (((ih.out k (by omega)).s_l0  r w ro B hF a1 (⟨#[91]⟩ : ByteArray) l0_1 (l0_1.length : Int) 0 h).out) KD
set_option maxRecDepth 100000 in
set_option maxHeartbeats 4000000 in
theorem spec_l1Text.c_l0 (k : Nat) (ih : Kp (∀ m, m < k → spec_l1Text.C m)) (r : ByteArray) (w : World) (ro : Nat → Prop) (B : Nat) (hF : Fr TE (cx0 Tryd.f84 none w ro B)) (x1 : Int) (x5 : ByteArray) (x14 : List (S77)) (x15 : Int) (x16 : Int) (h : spec_l1Text.l0 k x1 x5 x14 x15 x16 = some r) : Kp (WS TE (cx0 Tryd.f84 none w ro B) (stkAt [1, 1, 1, 0, 1, 0] [] (bodyOf Tryd.f84) []) ⟨[(1, .v (.int .i64 x1)), (5, .v (.string x5)), (14, .sl 2 (r77 x14)), (15, .v (.int .i64 x15)), (16, .v (.int .i64 x16))], []⟩ (RetQ TE Tryd.f84 none [.ro (.v (.string r))] [] w ro B)) := by
 refine ⟨WS.loop (fun m σ => m ≤ k ∧ spec_l1Text.I0 r m σ) k ⟨Nat.le_refl k, x1, x5, x14, x15, x16, h, rfl⟩ (fun m σ' hI J0 hJ0 => ?_)⟩
 clear h
 obtain ⟨hk, x1, x5, x14, x15, x16, h, rfl⟩ := hI
 cases m with
 | zero => simp [spec_l1Text.l0] at h
 | succ k' =>
 simp only [spec_l1Text.l0] at h
 by_cases c3 : x16 < x15
 · rw [if_pos c3] at h
   by_cases c4 : 0 ≤ x16
   · rw [if_pos c4] at h
     by_cases c5 : x16 < (x14.length : Int)
     · rw [if_pos c5] at h
       by_cases c6 : x16 > 0
       · rw [if_pos c6] at h
         by_cases c7 : x5.size + 1 ≤ 9223372036854775807
         · rw [if_pos c7] at h
           obtain ⟨t120, q8, h⟩ := Option.bind_eq_some_iff.1 h
           have q8c := (ih.out k' (by omega)).s_f _ _ _ _ q8
           by_cases c9 : x5.size + 1 + t120.size ≤ 9223372036854775807
           · rw [if_pos c9] at h
             refine path_ok (k := 17) hF (RetQ_mild _ _ _ _ _ _ _ _) (ds := [.b true, .e 19 (.rf [.v (.int .i64 ((rd_T77 x14 x16).f0)), .sl 2 (r77 ((rd_T77 x14 x16).f1))]), .b true, .r [.ro (.v (.string t120))] []]) (os := []) (c := none) rfl KD ?_
             exact WS.lpc [] (hJ0 _ _ (Nat.lt_succ_self _) ⟨by omega, x1, ((x5 ++ (⟨#[44]⟩ : ByteArray)) ++ t120), x14, x15, (wrap64 (x16 + 1)), h, rfl⟩) KD
           · rw [if_neg c9] at h
             cases h
         · rw [if_neg c7] at h
           cases h
       · rw [if_neg c6] at h
         obtain ⟨t121, q10, h⟩ := Option.bind_eq_some_iff.1 h
         have q10c := (ih.out k' (by omega)).s_f _ _ _ _ q10
         by_cases c11 : x5.size + t121.size ≤ 9223372036854775807
         · rw [if_pos c11] at h
           refine path_ok (k := 17) hF (RetQ_mild _ _ _ _ _ _ _ _) (ds := [.b true, .e 19 (.rf [.v (.int .i64 ((rd_T77 x14 x16).f0)), .sl 2 (r77 ((rd_T77 x14 x16).f1))]), .b false, .r [.ro (.v (.string t121))] []]) (os := []) (c := none) rfl KD ?_
           exact WS.lpc [] (hJ0 _ _ (Nat.lt_succ_self _) ⟨by omega, x1, (x5 ++ t121), x14, x15, (wrap64 (x16 + 1)), h, rfl⟩) KD
         · rw [if_neg c11] at h
           cases h
     · rw [if_neg c5] at h
       cases h
   · rw [if_neg c4] at h
     cases h
 · rw [if_neg c3] at h
   by_cases c12 : x5.size + 1 ≤ 9223372036854775807
   · rw [if_pos c12] at h
     refine path_ok (k := 8) hF (RetQ_mild _ _ _ _ _ _ _ _) (ds := [.b false]) (os := []) (c := none) rfl KD ?_
     cases h
     exact ret_as (ms := [.ro]) rfl KD
   · rw [if_neg c12] at h
     cases h
theorem spec_l1Text.cs (k : Nat) : spec_l1Text.C k := by
 induction k using Nat.strongRecOn with
 | _ k ih0 =>
 have ih : Kp (∀ m, m < k → spec_l1Text.C m) := ⟨ih0⟩
 exact ⟨spec_l1Text.c_f k ih, spec_l1Text.c_l0 k ih⟩
theorem spec_l1Text.ctr (k : Nat) (a0_0 : Int) (l0_1 : List (S77)) (a1 : Int) (r : ByteArray) (h : spec_l1Text.f k a0_0 l0_1 a1 = some r) : Ctr TE 84 none [.ag [.v (.int .i64 a0_0), .sl 2 (r77 l0_1)], .v (.int .i64 a1)] [.ro (.v (.string r))] [] := (spec_l1Text.cs k).s_f a0_0 l0_1 a1 r h
def spec_l1Told.f (k : Nat) (a0_0 : Int) (l0_1 : List (S77)) (a1 : Int) : Option (ByteArray × Bool) := (spec_l1Text.f k a0_0 l0_1 a1).bind fun t123 => (if (t123.size : Int) > 400 then (some ((⟨#[]⟩ : ByteArray), false)) else (some (t123, true)))
set_option maxRecDepth 100000 in
set_option maxHeartbeats 4000000 in
theorem spec_l1Told.ctr (k : Nat) (a0_0 : Int) (l0_1 : List (S77)) (a1 : Int) (r1 : ByteArray) (r2 : Bool) (h : spec_l1Told.f k a0_0 l0_1 a1 = some (r1, r2)) : Ctr TE 49 none [.ag [.v (.int .i64 a0_0), .sl 2 (r77 l0_1)], .v (.int .i64 a1)] [.ro (.v (.string r1)), .ro (.v (.bool r2))] [] := by
 refine ctr_of (fn := Tryd.f49) (c := (bodyOf Tryd.f49)) Tryd.func49 rfl (by kernel_rfl) (Nat.le_of_ble_eq_true (by kernel_rfl)) (fun w ro B hF _ => ?_)
 simp only [spec_l1Told.f] at h
 obtain ⟨t123, q1, h⟩ := Option.bind_eq_some_iff.1 h
 have q1c := spec_l1Text.ctr k _ _ _ _ q1
 by_cases c2 : (t123.size : Int) > 400
 · rw [if_pos c2] at h
   refine path_ok (k := 11) hF (RetQ_mild _ _ _ _ _ _ _ _) (ds := [.r [.ro (.v (.string t123))] [], .b true]) (os := []) (c := none) rfl KD ?_
   cases h
   exact ret_as (ms := [.ro, .ro]) rfl KD
 · rw [if_neg c2] at h
   refine path_ok (k := 12) hF (RetQ_mild _ _ _ _ _ _ _ _) (ds := [.r [.ro (.v (.string t123))] [], .b false]) (os := []) (c := none) rfl KD ?_
   cases h
   exact ret_as (ms := [.ro, .ro]) rfl KD
def spec_l1In.f (a0 : Int) (a1 : Int) (a2 : Int) : Option (Bool) := if a0 ≥ a1 then (some (decide (a0 ≤ a2))) else (some false)
set_option maxRecDepth 100000 in
set_option maxHeartbeats 4000000 in
theorem spec_l1In.ctr (a0 : Int) (a1 : Int) (a2 : Int) (r : Bool) (h : spec_l1In.f a0 a1 a2 = some r) : Ctr TE 53 none [.v (.int .i64 a0), .v (.int .i64 a1), .v (.int .i64 a2)] [.ro (.v (.bool r))] [] := by
 refine ctr_of (fn := Tryd.f53) (c := (bodyOf Tryd.f53)) Tryd.func53 rfl (by kernel_rfl) (Nat.le_of_ble_eq_true (by kernel_rfl)) (fun w ro B hF _ => ?_)
 simp only [spec_l1In.f] at h
 by_cases c1 : a0 ≥ a1
 · rw [if_pos c1] at h
   refine path_ok (k := 5) hF (RetQ_mild _ _ _ _ _ _ _ _) (ds := [.b true, .b true, .b true, .b true]) (os := []) (c := none) rfl KD ?_
   cases h
   exact ret_as (ms := [.ro]) rfl KD
 · rw [if_neg c1] at h
   refine path_ok (k := 5) hF (RetQ_mild _ _ _ _ _ _ _ _) (ds := [.b false, .b false, .b false, .b false]) (os := []) (c := none) rfl KD ?_
   cases h
   exact ret_as (ms := [.ro]) rfl KD
mutual
def spec_l13Num.j0 : Nat → ByteArray → Bool → Option (Int × Bool)
  | 0, _, _ => none
  | k + 1, x0, x4 => if x4 = true then (if 1 ≤ (x0.size : Int) then (spec_l13Num.j1 k (x0.extract 1 x0.size) x4) else (none)) else (spec_l13Num.j1 k x0 x4)
def spec_l13Num.j1 : Nat → ByteArray → Bool → Option (Int × Bool)
  | 0, _, _ => none
  | k + 1, x0, x4 => if (x0.size : Int) = 0 then (spec_l13Num.j2 k x0 x4 true) else (if (x0.size : Int) > 17 then (spec_l13Num.j2 k x0 x4 true) else (if 0 < (x0.size : Int) then (if (bt x0 0) = 48 then (if (x0.size : Int) > 1 then (spec_l13Num.j2 k x0 x4 true) else (spec_l13Num.j2 k x0 x4 x4)) else (spec_l13Num.j2 k x0 x4 false)) else (none)))
def spec_l13Num.j2 : Nat → ByteArray → Bool → Bool → Option (Int × Bool)
  | 0, _, _, _ => none
  | k + 1, x0, x4, x38 => if x38 = true then (some (0, false)) else (spec_l13Num.l0 k x0 x4 0 0)
def spec_l13Num.l0 : Nat → ByteArray → Bool → Int → Int → Option (Int × Bool)
  | 0, _, _, _, _ => none
  | k + 1, x0, x4, x5, x6 => if x6 < (x0.size : Int) then (if 0 ≤ x6 then (if (bt x0 x6) < 48 then (some (0, false)) else (if (bt x0 x6) > 57 then (some (0, false)) else (spec_l13Num.l0 k x0 x4 (wrap64 ((wrap64 (x5 * 10)) + (((bt x0 x6) - 48) % 256))) (wrap64 (x6 + 1))))) else (none)) else (if x4 = true then (some (wrap64 (-x5), true)) else (some (x5, true)))
end
def spec_l13Num.f (k : Nat) (a0 : ByteArray) : Option (Int × Bool) := if (a0.size : Int) > 0 then (if 0 < (a0.size : Int) then (spec_l13Num.j0 k a0 ((bt a0 0) == 45)) else (none)) else (spec_l13Num.j0 k a0 false)
def spec_l13Num.I0 (r1 : Int) (r2 : Bool) (m : Nat) (σ : St) : Prop := ∃ (x0 : ByteArray) (x4 : Bool) (x5 : Int) (x6 : Int), spec_l13Num.l0 m x0 x4 x5 x6 = some (r1, r2) ∧ σ = ⟨[(0, .v (.string x0)), (4, .v (.bool x4)), (5, .v (.int .i64 x5)), (6, .v (.int .i64 x6))], []⟩
structure spec_l13Num.C (k : Nat) : Prop where
 s_j0 : ∀ (r1 : Int) (r2 : Bool) (w : World) (ro : Nat → Prop) (B : Nat) (_ : Fr TE (cx0 Tryd.f134 none w ro B)) (x0 : ByteArray) (x4 : Bool) (_ : spec_l13Num.j0 k x0 x4 = some (r1, r2)), Kp (WS TE (cx0 Tryd.f134 none w ro B) (stkAt [1, 0, 9] [] (bodyOf Tryd.f134) []) ⟨[(0, .v (.string x0)), (4, .v (.bool x4))], []⟩ (RetQ TE Tryd.f134 none [.ro (.v (.int .i64 r1)), .ro (.v (.bool r2))] [] w ro B))
 s_j1 : ∀ (r1 : Int) (r2 : Bool) (w : World) (ro : Nat → Prop) (B : Nat) (_ : Fr TE (cx0 Tryd.f134 none w ro B)) (x0 : ByteArray) (x4 : Bool) (_ : spec_l13Num.j1 k x0 x4 = some (r1, r2)), Kp (WS TE (cx0 Tryd.f134 none w ro B) (stkAt [1, 1, 0, 1, 9] [] (bodyOf Tryd.f134) []) ⟨[(0, .v (.string x0)), (4, .v (.bool x4))], []⟩ (RetQ TE Tryd.f134 none [.ro (.v (.int .i64 r1)), .ro (.v (.bool r2))] [] w ro B))
 s_j2 : ∀ (r1 : Int) (r2 : Bool) (w : World) (ro : Nat → Prop) (B : Nat) (_ : Fr TE (cx0 Tryd.f134 none w ro B)) (x0 : ByteArray) (x4 : Bool) (x38 : Bool) (_ : spec_l13Num.j2 k x0 x4 x38 = some (r1, r2)), Kp (WS TE (cx0 Tryd.f134 none w ro B) (stkAt [1, 1, 1, 0, 0, 9] [] (bodyOf Tryd.f134) []) ⟨[(0, .v (.string x0)), (4, .v (.bool x4)), (38, .v (.bool x38))], []⟩ (RetQ TE Tryd.f134 none [.ro (.v (.int .i64 r1)), .ro (.v (.bool r2))] [] w ro B))
 s_l0 : ∀ (r1 : Int) (r2 : Bool) (w : World) (ro : Nat → Prop) (B : Nat) (_ : Fr TE (cx0 Tryd.f134 none w ro B)) (x0 : ByteArray) (x4 : Bool) (x5 : Int) (x6 : Int) (_ : spec_l13Num.l0 k x0 x4 x5 x6 = some (r1, r2)), Kp (WS TE (cx0 Tryd.f134 none w ro B) (stkAt [1, 1, 1, 1, 1, 0, 1, 0] [] (bodyOf Tryd.f134) []) ⟨[(0, .v (.string x0)), (4, .v (.bool x4)), (5, .v (.int .i64 x5)), (6, .v (.int .i64 x6))], []⟩ (RetQ TE Tryd.f134 none [.ro (.v (.int .i64 r1)), .ro (.v (.bool r2))] [] w ro B))
set_option maxRecDepth 100000 in
set_option maxHeartbeats 4000000 in
theorem spec_l13Num.c_j0 (k : Nat) (ih : Kp (∀ m, m < k → spec_l13Num.C m)) (r1 : Int) (r2 : Bool) (w : World) (ro : Nat → Prop) (B : Nat) (hF : Fr TE (cx0 Tryd.f134 none w ro B)) (x0 : ByteArray) (x4 : Bool) (h : spec_l13Num.j0 k x0 x4 = some (r1, r2)) : Kp (WS TE (cx0 Tryd.f134 none w ro B) (stkAt [1, 0, 9] [] (bodyOf Tryd.f134) []) ⟨[(0, .v (.string x0)), (4, .v (.bool x4))], []⟩ (RetQ TE Tryd.f134 none [.ro (.v (.int .i64 r1)), .ro (.v (.bool r2))] [] w ro B)) := by
 refine ⟨?_⟩
 cases k with
 | zero => simp [spec_l13Num.j0] at h
 | succ k =>
 simp only [spec_l13Num.j0] at h
 by_cases c4 : x4 = true
 · rw [if_pos c4] at h
   by_cases c5 : 1 ≤ (x0.size : Int)
   · rw [if_pos c5] at h
     refine path_ok (k := 5) hF (RetQ_mild _ _ _ _ _ _ _ _) (ds := [.b true]) (os := []) (c := none) rfl KD ?_
     exact WS.can [] (((ih.out k (by omega)).s_j1  r1 r2 w ro B hF (x0.extract 1 x0.size) x4 h).out) KD
   · rw [if_neg c5] at h
     cases h
 · rw [if_neg c4] at h
   refine path_ok (k := 5) hF (RetQ_mild _ _ _ _ _ _ _ _) (ds := [.b false]) (os := []) (c := none) rfl KD ?_
   exact WS.can [] (((ih.out k (by omega)).s_j1  r1 r2 w ro B hF x0 x4 h).out) KD
set_option maxRecDepth 100000 in
set_option maxHeartbeats 4000000 in
theorem spec_l13Num.c_j1 (k : Nat) (ih : Kp (∀ m, m < k → spec_l13Num.C m)) (r1 : Int) (r2 : Bool) (w : World) (ro : Nat → Prop) (B : Nat) (hF : Fr TE (cx0 Tryd.f134 none w ro B)) (x0 : ByteArray) (x4 : Bool) (h : spec_l13Num.j1 k x0 x4 = some (r1, r2)) : Kp (WS TE (cx0 Tryd.f134 none w ro B) (stkAt [1, 1, 0, 1, 9] [] (bodyOf Tryd.f134) []) ⟨[(0, .v (.string x0)), (4, .v (.bool x4))], []⟩ (RetQ TE Tryd.f134 none [.ro (.v (.int .i64 r1)), .ro (.v (.bool r2))] [] w ro B)) := by
 refine ⟨?_⟩
 cases k with
 | zero => simp [spec_l13Num.j1] at h
 | succ k =>
 simp only [spec_l13Num.j1] at h
 by_cases c6 : (x0.size : Int) = 0
 · rw [if_pos c6] at h
   refine path_ok (k := 3) hF (RetQ_mild _ _ _ _ _ _ _ _) (ds := [.b true, .b true, .b true, .b true, .b true, .b true, .b true, .b true, .b true, .b true]) (os := []) (c := none) rfl KD ?_
   exact WS.can [] (((ih.out k (by omega)).s_j2  r1 r2 w ro B hF x0 x4 true h).out) KD
 · rw [if_neg c6] at h
   by_cases c7 : (x0.size : Int) > 17
   · rw [if_pos c7] at h
     refine path_ok (k := 3) hF (RetQ_mild _ _ _ _ _ _ _ _) (ds := [.b false, .b false, .b false, .b false, .b true, .b true, .b true, .b true, .b true, .b true]) (os := []) (c := none) rfl KD ?_
     exact WS.can [] (((ih.out k (by omega)).s_j2  r1 r2 w ro B hF x0 x4 true h).out) KD
   · rw [if_neg c7] at h
     by_cases c8 : 0 < (x0.size : Int)
     · rw [if_pos c8] at h
       by_cases c9 : (bt x0 0) = 48
       · rw [if_pos c9] at h
         by_cases c10 : (x0.size : Int) > 1
         · rw [if_pos c10] at h
           have hb10 := bt_range x0 0
           refine path_ok (k := 3) hF (RetQ_mild _ _ _ _ _ _ _ _) (ds := [.b false, .b false, .b false, .b false, .b false, .b false, .b false, .b false, .b true, .b true, .b true, .b true, .b true, .b true, .b true, .b false, .b true, .b false]) (os := []) (c := none) rfl KD ?_
           exact WS.can [] (((ih.out k (by omega)).s_j2  r1 r2 w ro B hF x0 x4 true h).out) KD
         · rw [if_neg c10] at h
           have hb11 := bt_range x0 0
           refine path_ok (k := 3) hF (RetQ_mild _ _ _ _ _ _ _ _) (ds := [.b false, .b false, .b false, .b false, .b false, .b false, .b false, .b false, .b true, .b true, .b true, .b true, .b false, .b true, .b false, .b false, .b true, .b false]) (os := []) (c := none) rfl KD ?_
           exact WS.can [] (((ih.out k (by omega)).s_j2  r1 r2 w ro B hF x0 x4 x4 h).out) KD
       · rw [if_neg c9] at h
         have hb12 := bt_range x0 0
         refine path_ok (k := 3) hF (RetQ_mild _ _ _ _ _ _ _ _) (ds := [.b false, .b false, .b false, .b false, .b false, .b false, .b false, .b false, .b false, .b false, .b false, .b false, .b false, .b false, .b false, .b false]) (os := []) (c := none) rfl KD ?_
         exact WS.can [] (((ih.out k (by omega)).s_j2  r1 r2 w ro B hF x0 x4 false h).out) KD
     · rw [if_neg c8] at h
       cases h
set_option maxRecDepth 100000 in
set_option maxHeartbeats 4000000 in
theorem spec_l13Num.c_j2 (k : Nat) (ih : Kp (∀ m, m < k → spec_l13Num.C m)) (r1 : Int) (r2 : Bool) (w : World) (ro : Nat → Prop) (B : Nat) (hF : Fr TE (cx0 Tryd.f134 none w ro B)) (x0 : ByteArray) (x4 : Bool) (x38 : Bool) (h : spec_l13Num.j2 k x0 x4 x38 = some (r1, r2)) : Kp (WS TE (cx0 Tryd.f134 none w ro B) (stkAt [1, 1, 1, 0, 0, 9] [] (bodyOf Tryd.f134) []) ⟨[(0, .v (.string x0)), (4, .v (.bool x4)), (38, .v (.bool x38))], []⟩ (RetQ TE Tryd.f134 none [.ro (.v (.int .i64 r1)), .ro (.v (.bool r2))] [] w ro B)) := by
 refine ⟨?_⟩
 cases k with
 | zero => simp [spec_l13Num.j2] at h
 | succ k =>
 simp only [spec_l13Num.j2] at h
 by_cases c14 : x38 = true
 · rw [if_pos c14] at h
   refine path_ok (k := 4) hF (RetQ_mild _ _ _ _ _ _ _ _) (ds := [.b true]) (os := []) (c := none) rfl KD ?_
   cases h
   exact ret_as (ms := [.ro, .ro]) rfl KD
 · rw [if_neg c14] at h
   refine path_ok (k := 8) hF (RetQ_mild _ _ _ _ _ _ _ _) (ds := [.b false]) (os := []) (c := none) rfl KD ?_
   exact WS.can [] (((ih.out k (by omega)).s_l0  r1 r2 w ro B hF x0 x4 0 0 h).out) KD
set_option maxRecDepth 100000 in
set_option maxHeartbeats 4000000 in
theorem spec_l13Num.c_l0 (k : Nat) (ih : Kp (∀ m, m < k → spec_l13Num.C m)) (r1 : Int) (r2 : Bool) (w : World) (ro : Nat → Prop) (B : Nat) (hF : Fr TE (cx0 Tryd.f134 none w ro B)) (x0 : ByteArray) (x4 : Bool) (x5 : Int) (x6 : Int) (h : spec_l13Num.l0 k x0 x4 x5 x6 = some (r1, r2)) : Kp (WS TE (cx0 Tryd.f134 none w ro B) (stkAt [1, 1, 1, 1, 1, 0, 1, 0] [] (bodyOf Tryd.f134) []) ⟨[(0, .v (.string x0)), (4, .v (.bool x4)), (5, .v (.int .i64 x5)), (6, .v (.int .i64 x6))], []⟩ (RetQ TE Tryd.f134 none [.ro (.v (.int .i64 r1)), .ro (.v (.bool r2))] [] w ro B)) := by
 refine ⟨WS.loop (fun m σ => m ≤ k ∧ spec_l13Num.I0 r1 r2 m σ) k ⟨Nat.le_refl k, x0, x4, x5, x6, h, rfl⟩ (fun m σ' hI J0 hJ0 => ?_)⟩
 clear h
 obtain ⟨hk, x0, x4, x5, x6, h, rfl⟩ := hI
 cases m with
 | zero => simp [spec_l13Num.l0] at h
 | succ k' =>
 simp only [spec_l13Num.l0] at h
 by_cases c15 : x6 < (x0.size : Int)
 · rw [if_pos c15] at h
   by_cases c16 : 0 ≤ x6
   · rw [if_pos c16] at h
     by_cases c17 : (bt x0 x6) < 48
     · rw [if_pos c17] at h
       have hb17 := bt_range x0 x6
       refine path_ok (k := 14) hF (RetQ_mild _ _ _ _ _ _ _ _) (ds := [.b true, .b true, .b true, .b true, .b true, .b true, .b true]) (os := []) (c := none) rfl KD ?_
       cases h
       exact ret_as (ms := [.ro, .ro]) rfl KD
     · rw [if_neg c17] at h
       by_cases c19 : (bt x0 x6) > 57
       · rw [if_pos c19] at h
         have hb19 := bt_range x0 x6
         refine path_ok (k := 14) hF (RetQ_mild _ _ _ _ _ _ _ _) (ds := [.b true, .b false, .b false, .b false, .b false, .b false, .b true]) (os := []) (c := none) rfl KD ?_
         cases h
         exact ret_as (ms := [.ro, .ro]) rfl KD
       · rw [if_neg c19] at h
         have hb20 := bt_range x0 x6
         refine path_ok (k := 15) hF (RetQ_mild _ _ _ _ _ _ _ _) (ds := [.b true, .b false, .b false, .b false, .b false, .b false, .b false, .e 60 (.v (.int .u8 (((bt x0 x6) - 48) % 256))), .e 61 (.v (.int .i64 (((bt x0 x6) - 48) % 256)))]) (os := []) (c := none) rfl KD ?_
         exact WS.lpc [] (hJ0 _ _ (Nat.lt_succ_self _) ⟨by omega, x0, x4, (wrap64 ((wrap64 (x5 * 10)) + (((bt x0 x6) - 48) % 256))), (wrap64 (x6 + 1)), h, rfl⟩) KD
   · rw [if_neg c16] at h
     cases h
 · rw [if_neg c15] at h
   by_cases c22 : x4 = true
   · rw [if_pos c22] at h
     refine path_ok (k := 13) hF (RetQ_mild _ _ _ _ _ _ _ _) (ds := [.b false, .b true, .e 65 (.v (.int .i64 (wrap64 (-x5))))]) (os := []) (c := none) rfl KD ?_
     cases h
     exact ret_as (ms := [.ro, .ro]) rfl KD
   · rw [if_neg c22] at h
     refine path_ok (k := 13) hF (RetQ_mild _ _ _ _ _ _ _ _) (ds := [.b false, .b false]) (os := []) (c := none) rfl KD ?_
     cases h
     exact ret_as (ms := [.ro, .ro]) rfl KD
theorem spec_l13Num.cs (k : Nat) : spec_l13Num.C k := by
 induction k using Nat.strongRecOn with
 | _ k ih0 =>
 have ih : Kp (∀ m, m < k → spec_l13Num.C m) := ⟨ih0⟩
 exact ⟨spec_l13Num.c_j0 k ih, spec_l13Num.c_j1 k ih, spec_l13Num.c_j2 k ih, spec_l13Num.c_l0 k ih⟩
set_option maxRecDepth 100000 in
set_option maxHeartbeats 4000000 in
theorem spec_l13Num.ctr (k : Nat) (a0 : ByteArray) (r1 : Int) (r2 : Bool) (h : spec_l13Num.f k a0 = some (r1, r2)) : Ctr TE 134 none [.v (.string a0)] [.ro (.v (.int .i64 r1)), .ro (.v (.bool r2))] [] := by
 refine ctr_of (fn := Tryd.f134) (c := (bodyOf Tryd.f134)) Tryd.func134 rfl (by kernel_rfl) (Nat.le_of_ble_eq_true (by kernel_rfl)) (fun w ro B hF _ => ?_)
 have ih : Kp (∀ m, m < k + 1 → spec_l13Num.C m) := ⟨fun m _ => spec_l13Num.cs m⟩
 simp only [spec_l13Num.f] at h
 by_cases c1 : (a0.size : Int) > 0
 · rw [if_pos c1] at h
   by_cases c2 : 0 < (a0.size : Int)
   · rw [if_pos c2] at h
     have hb2 := bt_range a0 0
     refine path_ok (k := 4) hF (RetQ_mild _ _ _ _ _ _ _ _) (ds := [.b true, .b true, .b true, .b true]) (os := []) (c := none) rfl KD ?_
     exact WS.can [] (((ih.out k (by omega)).s_j0  r1 r2 w ro B hF a0 ((bt a0 0) == 45) h).out) KD
   · rw [if_neg c2] at h
     cases h
 · rw [if_neg c1] at h
   refine path_ok (k := 4) hF (RetQ_mild _ _ _ _ _ _ _ _) (ds := [.b false, .b false, .b false, .b false]) (os := []) (c := none) rfl KD ?_
   exact WS.can [] (((ih.out k (by omega)).s_j0  r1 r2 w ro B hF a0 false h).out) KD
end Go.Proofs.YtoloblgjlnhioaaDoor.H
