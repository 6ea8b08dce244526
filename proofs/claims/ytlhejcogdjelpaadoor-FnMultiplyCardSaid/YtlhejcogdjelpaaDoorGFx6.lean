/- A part of the claim. -/
import Derived.Test.YtlhejcogdjelpaaDoorGFx0
import Derived.Test.YtlhejcogdjelpaaDoorGFx2
import Derived.Test.YtlhejcogdjelpaaDoorGFx5
import Derived.Test.YtlhejcogdjelpaaDoorGFSgv
-- PRINTED by print.py (a twelfth state) out of the translation. Not trusted: Lean checks it.
namespace Go.Proofs.YtlhejcogdjelpaaDoor.G
open Go.RowKit Go.Proofs.YtlhejcogdjelpaaDoorW.St Go.Proofs.YtlhejcogdjelpaaDoorW.PrintWords Go.Proofs.YtlhejcogdjelpaaDoorW.PrintLast Go.Proofs.YtlhejcogdjelpaaDoorW.PrintMore
attribute [local go_sem] max2_int min2_int max_two min_two max_three min_three max_four min_four   -- for this text's walks alone
set_option linter.unusedVariables false
set_option linter.unusedSimpArgs false
def spec_LayOut.f (k : Nat) (a0 : ByteArray) (a1 : Int) : Option ((List (List Int)) × List Int × Bool) := (spec_l2RawLayOut.f k a0 a1).bind fun bt481 => ((spec_l13OwnLayout.f k bt481.1 bt481.2.1).bind fun bt489 => (some (bt489.1, bt489.2, bt481.2.2)))
set_option maxRecDepth 100000 in
set_option maxHeartbeats 4000000 in
theorem spec_LayOut.ctr (k : Nat) (a0 : ByteArray) (a1 : Int) (r1 : List (List Int)) (r2 : List Int) (r3 : Bool) (h : spec_LayOut.f k a0 a1 = some (r1, r2, r3)) : Ctr TE 34 none [.v (.string a0), .v (.int .i64 a1)] [.ro (.ag [.sl 1 (rX (cL (cI .i64) 1) r1), .sl 1 (rX (cI .i64) r2)]), .ro (.v (.bool r3))] [] := by
 refine ctr_of (fn := Tryd.f34) (c := (bodyOf Tryd.f34)) Tryd.func34 rfl (by kernel_rfl) (Nat.le_of_ble_eq_true (by kernel_rfl)) (fun w ro B hF _ => ?_)
 simp only [spec_LayOut.f] at h
 obtain ⟨⟨t481, t484, t487⟩, q1, h⟩ := Option.bind_eq_some_iff.1 h
 dsimp only at h
 have q1c := spec_l2RawLayOut.ctr k _ _ _ _ _ q1
 obtain ⟨⟨t489, t492⟩, q2, h⟩ := Option.bind_eq_some_iff.1 h
 dsimp only at h
 have q2c := spec_l13OwnLayout.ctr k _ _ _ _ q2
 refine path_ok (k := 7) hF (RetQ_mild _ _ _ _ _ _ _ _) (ds := [.r [.ro (.ag [.sl 1 (rX (cL (cI .i64) 1) t481), .sl 1 (rX (cI .i64) t484)]), .ro (.v (.bool t487))] [], .r [.ro (.ag [.sl 1 (rX (cL (cI .i64) 1) t489), .sl 1 (rX (cI .i64) t492)])] []]) (os := []) (c := none) rfl KD ?_
 cases h
 exact ret_as (ms := [.ro, .ro]) rfl KD
mutual
def spec_ShapeOf.l0 : Nat → Bool → List Int → List (List Int) → Int → Int → Option (List Int × Bool)
  | 0, _, _, _, _, _ => none
  | k + 1, x7, x8, x21, x22, x23 => if x23 < x22 then (if 0 ≤ x23 then (if x23 < (x21.length : Int) then (spec_ShapeOf.l1 k x7 x8 (rd_L3 x21 x23) x21 x22 x23 (rd_L3 x21 x23) ((rd_L3 x21 x23).length : Int) 0) else (none)) else (none)) else (some (x8, x7))
def spec_ShapeOf.l1 : Nat → Bool → List Int → List Int → List (List Int) → Int → Int → List Int → Int → Int → Option (List Int × Bool)
  | 0, _, _, _, _, _, _, _, _, _ => none
  | k + 1, x7, x8, x10, x21, x22, x23, x27, x28, x29 => if x29 < x28 then (if 0 ≤ x29 then (if x29 < (x27.length : Int) then (if 0 < (x10.length : Int) then (if (rd x27 x29) = (rd x10 0) then (spec_ShapeOf.l1 k x7 x8 x10 x21 x22 x23 x27 x28 (wrap64 (x29 + 1))) else (some ((([] : List Int)), false))) else (none)) else (none)) else (none)) else (if (x10.length : Int) = 0 then (if x8.length < 17592186044416 then (spec_ShapeOf.l0 k x7 (x8 ++ [0]) x21 x22 (wrap64 (x23 + 1))) else (none)) else (if 0 < (x10.length : Int) then (if x8.length < 17592186044416 then (spec_ShapeOf.l0 k x7 (x8 ++ [rd x10 0]) x21 x22 (wrap64 (x23 + 1))) else (none)) else (none)))
end
def spec_ShapeOf.f (k : Nat) (a0 : ByteArray) (a1 : Int) : Option (List Int × Bool) := (spec_LayOut.f k a0 a1).bind fun bt495 => (spec_ShapeOf.l0 k bt495.2.2 (([] : List Int)) bt495.1 (bt495.1.length : Int) 0)
def spec_ShapeOf.I0 (r1 : List Int) (r2 : Bool) (m : Nat) (σ : St) : Prop := ∃ (x7 : Bool) (x8 : List Int) (x21 : List (List Int)) (x22 : Int) (x23 : Int), spec_ShapeOf.l0 m x7 x8 x21 x22 x23 = some (r1, r2) ∧ σ = ⟨[(7, .v (.bool x7)), (8, .ow 1008 0), (21, .sl 1 (rX (cL (cI .i64) 1) x21)), (22, .v (.int .i64 x22)), (23, .v (.int .i64 x23))], [(1008, .own 0 3 1 (rX (cI .i64) x8))]⟩
def spec_ShapeOf.I1 (r1 : List Int) (r2 : Bool) (m : Nat) (σ : St) : Prop := ∃ (x7 : Bool) (x8 : List Int) (x10 : List Int) (x21 : List (List Int)) (x22 : Int) (x23 : Int) (x27 : List Int) (x28 : Int) (x29 : Int), spec_ShapeOf.l1 m x7 x8 x10 x21 x22 x23 x27 x28 x29 = some (r1, r2) ∧ σ = ⟨[(7, .v (.bool x7)), (8, .ow 1008 0), (10, .sl 1 (rX (cI .i64) x10)), (21, .sl 1 (rX (cL (cI .i64) 1) x21)), (22, .v (.int .i64 x22)), (23, .v (.int .i64 x23)), (27, .sl 1 (rX (cI .i64) x27)), (28, .v (.int .i64 x28)), (29, .v (.int .i64 x29))], [(1008, .own 0 3 1 (rX (cI .i64) x8))]⟩
structure spec_ShapeOf.C (k : Nat) : Prop where
 s_l0 : ∀ (r1 : List Int) (r2 : Bool) (w : World) (ro : Nat → Prop) (B : Nat) (_ : Fr TE (cx0 Tryd.f8 none w ro B)) (x7 : Bool) (x8 : List Int) (x21 : List (List Int)) (x22 : Int) (x23 : Int) (_ : spec_ShapeOf.l0 k x7 x8 x21 x22 x23 = some (r1, r2)), Kp (WS TE (cx0 Tryd.f8 none w ro B) (stkAt [1, 1, 1, 0, 1, 0] [] (bodyOf Tryd.f8) []) ⟨[(7, .v (.bool x7)), (8, .ow 1008 0), (21, .sl 1 (rX (cL (cI .i64) 1) x21)), (22, .v (.int .i64 x22)), (23, .v (.int .i64 x23))], [(1008, .own 0 3 1 (rX (cI .i64) x8))]⟩ (RetQ TE Tryd.f8 none [.own 3 1 (rX (cI .i64) r1), .ro (.v (.bool r2))] [] w ro B))
 s_l1 : ∀ (r1 : List Int) (r2 : Bool) (w : World) (ro : Nat → Prop) (B : Nat) (_ : Fr TE (cx0 Tryd.f8 none w ro B)) (J0 : St → Prop) (_ : ∀ m σ, m ≤ k → spec_ShapeOf.I0 r1 r2 m σ → J0 σ) (x7 : Bool) (x8 : List Int) (x10 : List Int) (x21 : List (List Int)) (x22 : Int) (x23 : Int) (x27 : List Int) (x28 : Int) (x29 : Int) (_ : spec_ShapeOf.l1 k x7 x8 x10 x21 x22 x23 x27 x28 x29 = some (r1, r2)), Kp (WS TE (cx0 Tryd.f8 none w ro B) (stkAt [1, 1, 1, 0, 1, 0, 0, 1, 1, 0, 0, 1, 0, 1, 0] [J0] (bodyOf Tryd.f8) []) ⟨[(7, .v (.bool x7)), (8, .ow 1008 0), (10, .sl 1 (rX (cI .i64) x10)), (21, .sl 1 (rX (cL (cI .i64) 1) x21)), (22, .v (.int .i64 x22)), (23, .v (.int .i64 x23)), (27, .sl 1 (rX (cI .i64) x27)), (28, .v (.int .i64 x28)), (29, .v (.int .i64 x29))], [(1008, .own 0 3 1 (rX (cI .i64) x8))]⟩ (RetQ TE Tryd.f8 none [.own 3 1 (rX (cI .i64) r1), .ro (.v (.bool r2))] [] w ro B))
set_option maxRecDepth 100000 in
set_option maxHeartbeats 4000000 in
theorem spec_ShapeOf.c_l0 (k : Nat) (ih : Kp (∀ m, m < k → spec_ShapeOf.C m)) (r1 : List Int) (r2 : Bool) (w : World) (ro : Nat → Prop) (B : Nat) (hF : Fr TE (cx0 Tryd.f8 none w ro B)) (x7 : Bool) (x8 : List Int) (x21 : List (List Int)) (x22 : Int) (x23 : Int) (h : spec_ShapeOf.l0 k x7 x8 x21 x22 x23 = some (r1, r2)) : Kp (WS TE (cx0 Tryd.f8 none w ro B) (stkAt [1, 1, 1, 0, 1, 0] [] (bodyOf Tryd.f8) []) ⟨[(7, .v (.bool x7)), (8, .ow 1008 0), (21, .sl 1 (rX (cL (cI .i64) 1) x21)), (22, .v (.int .i64 x22)), (23, .v (.int .i64 x23))], [(1008, .own 0 3 1 (rX (cI .i64) x8))]⟩ (RetQ TE Tryd.f8 none [.own 3 1 (rX (cI .i64) r1), .ro (.v (.bool r2))] [] w ro B)) := by
 refine ⟨WS.loop (fun m σ => m ≤ k ∧ spec_ShapeOf.I0 r1 r2 m σ) k ⟨Nat.le_refl k, x7, x8, x21, x22, x23, h, rfl⟩ (fun m σ' hI J0 hJ0 => ?_)⟩
 clear h
 obtain ⟨hk, x7, x8, x21, x22, x23, h, rfl⟩ := hI
 cases m with
 | zero => simp [spec_ShapeOf.l0] at h
 | succ k' =>
 simp only [spec_ShapeOf.l0] at h
 by_cases c2 : x23 < x22
 · rw [if_pos c2] at h
   by_cases c3 : 0 ≤ x23
   · rw [if_pos c3] at h
     by_cases c4 : x23 < (x21.length : Int)
     · rw [if_pos c4] at h
       refine path_ok (k := 13) hF (RetQ_mild _ _ _ _ _ _ _ _) (ds := [.b true, .e 25 (.rf [.sl 1 (rX (cI .i64) (rd_L3 x21 x23))]), .e 28 (.v (.int .i64 ((rd_L3 x21 x23).length : Int)))]) (os := []) (c := none) rfl KD ?_
       exact WS.can [(1008, some 1008)] (((ih.out k' (by omega)).s_l1  r1 r2 w ro B hF J0 (fun m σ hm hI => hJ0 m σ (by omega) ⟨by omega, hI⟩) x7 x8 (rd_L3 x21 x23) x21 x22 x23 (rd_L3 x21 x23) ((rd_L3 x21 x23).length : Int) 0 h).out) KD
     · rw [if_neg c4] at h
       cases h
   · rw [if_neg c3] at h
     cases h
 · rw [if_neg c2] at h
   refine path_ok (k := 8) hF (RetQ_mild _ _ _ _ _ _ _ _) (ds := [.b false]) (os := []) (c := none) rfl KD ?_
   cases h
   exact ret_as (ms := [.own, .ro]) rfl KD
set_option maxRecDepth 100000 in
set_option maxHeartbeats 4000000 in
theorem spec_ShapeOf.c_l1 (k : Nat) (ih : Kp (∀ m, m < k → spec_ShapeOf.C m)) (r1 : List Int) (r2 : Bool) (w : World) (ro : Nat → Prop) (B : Nat) (hF : Fr TE (cx0 Tryd.f8 none w ro B)) (J0 : St → Prop) (hJ0 : ∀ m σ, m ≤ k → spec_ShapeOf.I0 r1 r2 m σ → J0 σ) (x7 : Bool) (x8 : List Int) (x10 : List Int) (x21 : List (List Int)) (x22 : Int) (x23 : Int) (x27 : List Int) (x28 : Int) (x29 : Int) (h : spec_ShapeOf.l1 k x7 x8 x10 x21 x22 x23 x27 x28 x29 = some (r1, r2)) : Kp (WS TE (cx0 Tryd.f8 none w ro B) (stkAt [1, 1, 1, 0, 1, 0, 0, 1, 1, 0, 0, 1, 0, 1, 0] [J0] (bodyOf Tryd.f8) []) ⟨[(7, .v (.bool x7)), (8, .ow 1008 0), (10, .sl 1 (rX (cI .i64) x10)), (21, .sl 1 (rX (cL (cI .i64) 1) x21)), (22, .v (.int .i64 x22)), (23, .v (.int .i64 x23)), (27, .sl 1 (rX (cI .i64) x27)), (28, .v (.int .i64 x28)), (29, .v (.int .i64 x29))], [(1008, .own 0 3 1 (rX (cI .i64) x8))]⟩ (RetQ TE Tryd.f8 none [.own 3 1 (rX (cI .i64) r1), .ro (.v (.bool r2))] [] w ro B)) := by
 refine ⟨WS.loop (fun m σ => m ≤ k ∧ spec_ShapeOf.I1 r1 r2 m σ) k ⟨Nat.le_refl k, x7, x8, x10, x21, x22, x23, x27, x28, x29, h, rfl⟩ (fun m σ' hI J1 hJ1 => ?_)⟩
 clear h
 obtain ⟨hk, x7, x8, x10, x21, x22, x23, x27, x28, x29, h, rfl⟩ := hI
 cases m with
 | zero => simp [spec_ShapeOf.l1] at h
 | succ k' =>
 simp only [spec_ShapeOf.l1] at h
 by_cases c5 : x29 < x28
 · rw [if_pos c5] at h
   by_cases c6 : 0 ≤ x29
   · rw [if_pos c6] at h
     by_cases c7 : x29 < (x27.length : Int)
     · rw [if_pos c7] at h
       by_cases c8 : 0 < (x10.length : Int)
       · rw [if_pos c8] at h
         by_cases c9 : (rd x27 x29) = (rd x10 0)
         · rw [if_pos c9] at h
           refine path_ok (k := 15) hF (RetQ_mild _ _ _ _ _ _ _ _) (ds := [.b true, .e 31 (.rf [.v (.int .i64 (rd x27 x29))]), .e 35 (.rf [.v (.int .i64 (rd x10 0))]), .b false]) (os := []) (c := none) rfl KD ?_
           exact WS.lpc [(1008, some 1008)] (hJ1 _ _ (Nat.lt_succ_self _) ⟨by omega, x7, x8, x10, x21, x22, x23, x27, x28, (wrap64 (x29 + 1)), h, rfl⟩) KD
         · rw [if_neg c9] at h
           refine path_ok (k := 15) hF (RetQ_mild _ _ _ _ _ _ _ _) (ds := [.b true, .e 31 (.rf [.v (.int .i64 (rd x27 x29))]), .e 35 (.rf [.v (.int .i64 (rd x10 0))]), .b true, .p 38 ([])]) (os := []) (c := none) rfl KD ?_
           cases h
           exact ret_as (ms := [.own, .ro]) rfl KD
       · rw [if_neg c8] at h
         cases h
     · rw [if_neg c7] at h
       cases h
   · rw [if_neg c6] at h
     cases h
 · rw [if_neg c5] at h
   by_cases c10 : (x10.length : Int) = 0
   · rw [if_pos c10] at h
     by_cases c11 : x8.length < 17592186044416
     · rw [if_pos c11] at h
       refine path_ok (k := 11) hF (RetQ_mild _ _ _ _ _ _ _ _) (ds := [.b false, .e 41 (.v (.int .i64 (x10.length : Int))), .b true, .p 44 ([[.v (.int .i64 0)]]), .o 45 (rX (cI .i64) (x8 ++ [0]))]) (os := []) (c := none) rfl KD ?_
       exact WS.lpc [(1008, some 1008)] (hJ0 _ _ (by omega) ⟨x7, (x8 ++ [0]), x21, x22, (wrap64 (x23 + 1)), h, rfl⟩) KD
     · rw [if_neg c11] at h
       cases h
   · rw [if_neg c10] at h
     by_cases c12 : 0 < (x10.length : Int)
     · rw [if_pos c12] at h
       by_cases c13 : x8.length < 17592186044416
       · rw [if_pos c13] at h
         refine path_ok (k := 11) hF (RetQ_mild _ _ _ _ _ _ _ _) (ds := [.b false, .e 41 (.v (.int .i64 (x10.length : Int))), .b false, .e 48 (.rf [.v (.int .i64 (rd x10 0))]), .p 50 ([[.v (.int .i64 (rd x10 0))]]), .o 51 (rX (cI .i64) (x8 ++ [rd x10 0]))]) (os := []) (c := none) rfl KD ?_
         exact WS.lpc [(1008, some 1008)] (hJ0 _ _ (by omega) ⟨x7, (x8 ++ [rd x10 0]), x21, x22, (wrap64 (x23 + 1)), h, rfl⟩) KD
       · rw [if_neg c13] at h
         cases h
     · rw [if_neg c12] at h
       cases h
theorem spec_ShapeOf.cs (k : Nat) : spec_ShapeOf.C k := by
 induction k using Nat.strongRecOn with
 | _ k ih0 =>
 have ih : Kp (∀ m, m < k → spec_ShapeOf.C m) := ⟨ih0⟩
 exact ⟨spec_ShapeOf.c_l0 k ih, spec_ShapeOf.c_l1 k ih⟩
set_option maxRecDepth 100000 in
set_option maxHeartbeats 4000000 in
theorem spec_ShapeOf.ctr (k : Nat) (a0 : ByteArray) (a1 : Int) (r1 : List Int) (r2 : Bool) (h : spec_ShapeOf.f k a0 a1 = some (r1, r2)) : Ctr TE 8 none [.v (.string a0), .v (.int .i64 a1)] [.own 3 1 (rX (cI .i64) r1), .ro (.v (.bool r2))] [] := by
 refine ctr_of (fn := Tryd.f8) (c := (bodyOf Tryd.f8)) Tryd.func8 rfl (by kernel_rfl) (Nat.le_of_ble_eq_true (by kernel_rfl)) (fun w ro B hF _ => ?_)
 have ih : Kp (∀ m, m < k + 1 → spec_ShapeOf.C m) := ⟨fun m _ => spec_ShapeOf.cs m⟩
 simp only [spec_ShapeOf.f] at h
 obtain ⟨⟨t495, t498, t501⟩, q1, h⟩ := Option.bind_eq_some_iff.1 h
 dsimp only at h
 have q1c := spec_LayOut.ctr k _ _ _ _ _ q1
 refine path_ok (k := 10) hF (RetQ_mild _ _ _ _ _ _ _ _) (ds := [.r [.ro (.ag [.sl 1 (rX (cL (cI .i64) 1) t495), .sl 1 (rX (cI .i64) t498)]), .ro (.v (.bool t501))] [], .p 19 ([]), .e 22 (.v (.int .i64 (t495.length : Int)))]) (os := []) (c := none) rfl KD ?_
 exact WS.can [(1008, some 19)] (((ih.out k (by omega)).s_l0  r1 r2 w ro B hF t501 (([] : List Int)) t495 (t495.length : Int) 0 h).out) KD
mutual
def spec_l1Numbers.l0 : Nat → Int → List Int → List (S73) → Int → Int → Option (List Int)
  | 0, _, _, _, _, _ => none
  | k + 1, x1, x5, x15, x16, x17 => if x17 < x16 then (if 0 ≤ x17 then (if x17 < (x15.length : Int) then ((spec_l1Numbers.f k ((rd_T73 x15 x17).f0) ((rd_T73 x15 x17).f1) (wrap64 (x1 - 1))).bind fun t528 => (if x5.length + t528.length < 17592186044416 then (spec_l1Numbers.l0 k x1 (x5 ++ t528) x15 x16 (wrap64 (x17 + 1))) else (none))) else (none)) else (none)) else (some x5)
def spec_l1Numbers.f : Nat → Int → List (S73) → Int → Option (List Int)
  | 0, _, _, _ => none
  | k + 1, a0_0, l0_1, a1 => if a1 = 0 then (some (([a0_0] : List Int))) else (spec_l1Numbers.l0 k a1 (([] : List Int)) l0_1 (l0_1.length : Int) 0)
end
def spec_l1Numbers.I0 (r : List Int) (m : Nat) (σ : St) : Prop := ∃ (x1 : Int) (x5 : List Int) (x15 : List (S73)) (x16 : Int) (x17 : Int), spec_l1Numbers.l0 m x1 x5 x15 x16 x17 = some r ∧ σ = ⟨[(1, .v (.int .i64 x1)), (5, .ow 1005 0), (15, .sl 2 (r73 x15)), (16, .v (.int .i64 x16)), (17, .v (.int .i64 x17))], [(1005, .own 0 3 1 (rX (cI .i64) x5))]⟩
structure spec_l1Numbers.C (k : Nat) : Prop where
 s_f : ∀ (a0_0 : Int) (l0_1 : List (S73)) (a1 : Int) (r : List Int), spec_l1Numbers.f k a0_0 l0_1 a1 = some r → Ctr TE 66 none [.ag [.v (.int .i64 a0_0), .sl 2 (r73 l0_1)], .v (.int .i64 a1)] [.ro (.sl 1 (rX (cI .i64) r))] []
 s_l0 : ∀ (r : List Int) (w : World) (ro : Nat → Prop) (B : Nat) (_ : Fr TE (cx0 Tryd.f66 none w ro B)) (x1 : Int) (x5 : List Int) (x15 : List (S73)) (x16 : Int) (x17 : Int) (_ : spec_l1Numbers.l0 k x1 x5 x15 x16 x17 = some r), Kp (WS TE (cx0 Tryd.f66 none w ro B) (stkAt [1, 1, 1, 0, 1, 0] [] (bodyOf Tryd.f66) []) ⟨[(1, .v (.int .i64 x1)), (5, .ow 1005 0), (15, .sl 2 (r73 x15)), (16, .v (.int .i64 x16)), (17, .v (.int .i64 x17))], [(1005, .own 0 3 1 (rX (cI .i64) x5))]⟩ (RetQ TE Tryd.f66 none [.ro (.sl 1 (rX (cI .i64) r))] [] w ro B))
set_option maxRecDepth 100000 in
set_option maxHeartbeats 4000000 in
theorem spec_l1Numbers.c_f (k : Nat) (ih : Kp (∀ m, m < k → spec_l1Numbers.C m)) (a0_0 : Int) (l0_1 : List (S73)) (a1 : Int) (r : List Int) (h : spec_l1Numbers.f k a0_0 l0_1 a1 = some r) : Ctr TE 66 none [.ag [.v (.int .i64 a0_0), .sl 2 (r73 l0_1)], .v (.int .i64 a1)] [.ro (.sl 1 (rX (cI .i64) r))] [] := by
 cases k with
 | zero => simp [spec_l1Numbers.f] at h
 | succ k =>
 simp only [spec_l1Numbers.f] at h
 refine ctr_of (fn := Tryd.f66) (c := (bodyOf Tryd.f66)) Tryd.func66 rfl (by kernel_rfl) (Nat.le_of_ble_eq_true (by kernel_rfl)) (fun w ro B hF _ => ?_)
 by_cases c1 : a1 = 0
 · rw [if_pos c1] at h
   refine path_ok (k := 9) hF (RetQ_mild _ _ _ _ _ _ _ _) (ds := [.b true, .p 12 ([[.v (.int .i64 a0_0)]])]) (os := []) (c := none) rfl KD ?_
   cases h
   exact ret_as (ms := [.ro]) rfl KD
 · rw [if_neg c1] at h
   refine path_ok (k := 13) hF (RetQ_mild _ _ _ _ _ _ _ _) (ds := [.b false, .p 13 ([]), .e 16 (.v (.int .i64 (l0_1.length : Int)))]) (os := []) (c := none) rfl KD ?_
   exact WS.can [(1005, some 13)] (((ih.out k (by omega)).s_l0  r w ro B hF a1 (([] : List Int)) l0_1 (l0_1.length : Int) 0 h).out) KD
set_option maxRecDepth 100000 in
set_option maxHeartbeats 4000000 in
theorem spec_l1Numbers.c_l0 (k : Nat) (ih : Kp (∀ m, m < k → spec_l1Numbers.C m)) (r : List Int) (w : World) (ro : Nat → Prop) (B : Nat) (hF : Fr TE (cx0 Tryd.f66 none w ro B)) (x1 : Int) (x5 : List Int) (x15 : List (S73)) (x16 : Int) (x17 : Int) (h : spec_l1Numbers.l0 k x1 x5 x15 x16 x17 = some r) : Kp (WS TE (cx0 Tryd.f66 none w ro B) (stkAt [1, 1, 1, 0, 1, 0] [] (bodyOf Tryd.f66) []) ⟨[(1, .v (.int .i64 x1)), (5, .ow 1005 0), (15, .sl 2 (r73 x15)), (16, .v (.int .i64 x16)), (17, .v (.int .i64 x17))], [(1005, .own 0 3 1 (rX (cI .i64) x5))]⟩ (RetQ TE Tryd.f66 none [.ro (.sl 1 (rX (cI .i64) r))] [] w ro B)) := by
 refine ⟨WS.loop (fun m σ => m ≤ k ∧ spec_l1Numbers.I0 r m σ) k ⟨Nat.le_refl k, x1, x5, x15, x16, x17, h, rfl⟩ (fun m σ' hI J0 hJ0 => ?_)⟩
 clear h
 obtain ⟨hk, x1, x5, x15, x16, x17, h, rfl⟩ := hI
 cases m with
 | zero => simp [spec_l1Numbers.l0] at h
 | succ k' =>
 simp only [spec_l1Numbers.l0] at h
 by_cases c2 : x17 < x16
 · rw [if_pos c2] at h
   by_cases c3 : 0 ≤ x17
   · rw [if_pos c3] at h
     by_cases c4 : x17 < (x15.length : Int)
     · rw [if_pos c4] at h
       obtain ⟨t528, q5, h⟩ := Option.bind_eq_some_iff.1 h
       have q5c := (ih.out k' (by omega)).s_f _ _ _ _ q5
       by_cases c6 : x5.length + t528.length < 17592186044416
       · rw [if_pos c6] at h
         refine path_ok (k := 12) hF (RetQ_mild _ _ _ _ _ _ _ _) (ds := [.b true, .e 19 (.rf [.v (.int .i64 ((rd_T73 x15 x17).f0)), .sl 2 (r73 ((rd_T73 x15 x17).f1))]), .r [.ro (.sl 1 (rX (cI .i64) t528))] [], .o 26 (rX (cI .i64) (x5 ++ t528))]) (os := []) (c := none) rfl KD ?_
         exact WS.lpc [(1005, some 1005)] (hJ0 _ _ (Nat.lt_succ_self _) ⟨by omega, x1, (x5 ++ t528), x15, x16, (wrap64 (x17 + 1)), h, rfl⟩) KD
       · rw [if_neg c6] at h
         cases h
     · rw [if_neg c4] at h
       cases h
   · rw [if_neg c3] at h
     cases h
 · rw [if_neg c2] at h
   refine path_ok (k := 8) hF (RetQ_mild _ _ _ _ _ _ _ _) (ds := [.b false]) (os := []) (c := none) rfl KD ?_
   cases h
   exact ret_as (ms := [.ro]) rfl KD
theorem spec_l1Numbers.cs (k : Nat) : spec_l1Numbers.C k := by
 induction k using Nat.strongRecOn with
 | _ k ih0 =>
 have ih : Kp (∀ m, m < k → spec_l1Numbers.C m) := ⟨ih0⟩
 exact ⟨spec_l1Numbers.c_f k ih, spec_l1Numbers.c_l0 k ih⟩
theorem spec_l1Numbers.ctr (k : Nat) (a0_0 : Int) (l0_1 : List (S73)) (a1 : Int) (r : List Int) (h : spec_l1Numbers.f k a0_0 l0_1 a1 = some r) : Ctr TE 66 none [.ag [.v (.int .i64 a0_0), .sl 2 (r73 l0_1)], .v (.int .i64 a1)] [.ro (.sl 1 (rX (cI .i64) r))] [] := (spec_l1Numbers.cs k).s_f a0_0 l0_1 a1 r h
def spec_l11Rows.l0 : Nat → List (List Int) → List Int → List (S73) → Int → Int → Option ((List (List Int)) × Int × Bool)
  | 0, _, _, _, _, _ => none
  | k + 1, x5, x6, x27, x28, x29 => if x29 < x28 then (if 0 ≤ x29 then (if x29 < (x27.length : Int) then ((spec_l1Numbers.f k ((rd_T73 x27 x29).f0) ((rd_T73 x27 x29).f1) 1).bind fun t549 => (if x5.length < 5864062014805 then (spec_l11Rows.l0 k (x5 ++ [t549]) x6 x27 x28 (wrap64 (x29 + 1))) else (none))) else (none)) else (none)) else (if 1 < (x6.length : Int) then (some (x5, rd x6 1, true)) else (none))
def spec_l11Rows.f (k : Nat) (a0 : ByteArray) : Option ((List (List Int)) × Int × Bool) := (some (([] : List (List Int)) : List (List Int))).bind fun y534 => ((spec_ShapeOf.f k a0 2).bind fun bt537 => (if bt537.2 = true then ((spec_l1Read.f k a0 2).bind fun bt541 => (spec_l11Rows.l0 k y534 bt537.1 bt541.2.1 (bt541.2.1.length : Int) 0)) else (some (y534, 0, false))))
def spec_l11Rows.I0 (r1 : List (List Int)) (r2 : Int) (r3 : Bool) (m : Nat) (σ : St) : Prop := ∃ (x5 : List (List Int)) (x6 : List Int) (x27 : List (S73)) (x28 : Int) (x29 : Int), spec_l11Rows.l0 m x5 x6 x27 x28 x29 = some (r1, r2, r3) ∧ σ = ⟨[(5, .ow 1005 0), (6, .ow 1006 0), (27, .sl 2 (r73 x27)), (28, .v (.int .i64 x28)), (29, .v (.int .i64 x29))], [(1005, .own 0 25 1 (rX (cL (cI .i64) 1) x5)), (1006, .own 0 3 1 (rX (cI .i64) x6))]⟩
structure spec_l11Rows.C (k : Nat) : Prop where
 s_l0 : ∀ (r1 : List (List Int)) (r2 : Int) (r3 : Bool) (w : World) (ro : Nat → Prop) (B : Nat) (_ : Fr TE (cx0 Tryd.f49 none w ro B)) (x5 : List (List Int)) (x6 : List Int) (x27 : List (S73)) (x28 : Int) (x29 : Int) (_ : spec_l11Rows.l0 k x5 x6 x27 x28 x29 = some (r1, r2, r3)), Kp (WS TE (cx0 Tryd.f49 none w ro B) (stkAt [1, 1, 1, 1, 1, 0, 1, 0] [] (bodyOf Tryd.f49) []) ⟨[(5, .ow 1005 0), (6, .ow 1006 0), (27, .sl 2 (r73 x27)), (28, .v (.int .i64 x28)), (29, .v (.int .i64 x29))], [(1005, .own 0 25 1 (rX (cL (cI .i64) 1) x5)), (1006, .own 0 3 1 (rX (cI .i64) x6))]⟩ (RetQ TE Tryd.f49 none [.own 25 1 (rX (cL (cI .i64) 1) r1), .ro (.v (.int .i64 r2)), .ro (.v (.bool r3))] [] w ro B))
set_option maxRecDepth 100000 in
set_option maxHeartbeats 4000000 in
theorem spec_l11Rows.c_l0 (k : Nat) (ih : Kp (∀ m, m < k → spec_l11Rows.C m)) (r1 : List (List Int)) (r2 : Int) (r3 : Bool) (w : World) (ro : Nat → Prop) (B : Nat) (hF : Fr TE (cx0 Tryd.f49 none w ro B)) (x5 : List (List Int)) (x6 : List Int) (x27 : List (S73)) (x28 : Int) (x29 : Int) (h : spec_l11Rows.l0 k x5 x6 x27 x28 x29 = some (r1, r2, r3)) : Kp (WS TE (cx0 Tryd.f49 none w ro B) (stkAt [1, 1, 1, 1, 1, 0, 1, 0] [] (bodyOf Tryd.f49) []) ⟨[(5, .ow 1005 0), (6, .ow 1006 0), (27, .sl 2 (r73 x27)), (28, .v (.int .i64 x28)), (29, .v (.int .i64 x29))], [(1005, .own 0 25 1 (rX (cL (cI .i64) 1) x5)), (1006, .own 0 3 1 (rX (cI .i64) x6))]⟩ (RetQ TE Tryd.f49 none [.own 25 1 (rX (cL (cI .i64) 1) r1), .ro (.v (.int .i64 r2)), .ro (.v (.bool r3))] [] w ro B)) := by
 refine ⟨WS.loop (fun m σ => m ≤ k ∧ spec_l11Rows.I0 r1 r2 r3 m σ) k ⟨Nat.le_refl k, x5, x6, x27, x28, x29, h, rfl⟩ (fun m σ' hI J0 hJ0 => ?_)⟩
 clear h
 obtain ⟨hk, x5, x6, x27, x28, x29, h, rfl⟩ := hI
 cases m with
 | zero => simp [spec_l11Rows.l0] at h
 | succ k' =>
 simp only [spec_l11Rows.l0] at h
 by_cases c4 : x29 < x28
 · rw [if_pos c4] at h
   by_cases c5 : 0 ≤ x29
   · rw [if_pos c5] at h
     by_cases c6 : x29 < (x27.length : Int)
     · rw [if_pos c6] at h
       obtain ⟨t549, q7, h⟩ := Option.bind_eq_some_iff.1 h
       have q7c := spec_l1Numbers.ctr k' _ _ _ _ q7
       by_cases c8 : x5.length < 5864062014805
       · rw [if_pos c8] at h
         refine path_ok (k := 12) hF (RetQ_mild _ _ _ _ _ _ _ _) (ds := [.b true, .e 31 (.rf [.v (.int .i64 ((rd_T73 x27 x29).f0)), .sl 2 (r73 ((rd_T73 x27 x29).f1))]), .r [.ro (.sl 1 (rX (cI .i64) t549))] [], .p 36 ([[.sl 1 (rX (cI .i64) t549)]]), .o 37 (rX (cL (cI .i64) 1) (x5 ++ [t549]))]) (os := []) (c := none) rfl KD ?_
         exact WS.lpc [(1005, some 1005), (1006, some 1006)] (hJ0 _ _ (Nat.lt_succ_self _) ⟨by omega, (x5 ++ [t549]), x6, x27, x28, (wrap64 (x29 + 1)), h, rfl⟩) KD
       · rw [if_neg c8] at h
         cases h
     · rw [if_neg c6] at h
       cases h
   · rw [if_neg c5] at h
     cases h
 · rw [if_neg c4] at h
   by_cases c9 : 1 < (x6.length : Int)
   · rw [if_pos c9] at h
     refine path_ok (k := 8) hF (RetQ_mild _ _ _ _ _ _ _ _) (ds := [.b false, .g [.v (.int .i64 (rd x6 1))]]) (os := [.o [(0, 0), (1, 0), (2, 0), (3, 1), (4, 0), (5, 0), (6, 0)] []]) (c := none) rfl KD ?_
     cases h
     exact ret_as (ms := [.own, .ro, .ro]) rfl KD
   · rw [if_neg c9] at h
     cases h
theorem spec_l11Rows.cs (k : Nat) : spec_l11Rows.C k := by
 induction k using Nat.strongRecOn with
 | _ k ih0 =>
 have ih : Kp (∀ m, m < k → spec_l11Rows.C m) := ⟨ih0⟩
 exact ⟨spec_l11Rows.c_l0 k ih⟩
set_option maxRecDepth 100000 in
set_option maxHeartbeats 4000000 in
theorem spec_l11Rows.ctr (k : Nat) (a0 : ByteArray) (r1 : List (List Int)) (r2 : Int) (r3 : Bool) (h : spec_l11Rows.f k a0 = some (r1, r2, r3)) : Ctr TE 49 none [.v (.string a0)] [.own 25 1 (rX (cL (cI .i64) 1) r1), .ro (.v (.int .i64 r2)), .ro (.v (.bool r3))] [] := by
 refine ctr_of (fn := Tryd.f49) (c := (bodyOf Tryd.f49)) Tryd.func49 rfl (by kernel_rfl) (Nat.le_of_ble_eq_true (by kernel_rfl)) (fun w ro B hF _ => ?_)
 have ih : Kp (∀ m, m < k + 1 → spec_l11Rows.C m) := ⟨fun m _ => spec_l11Rows.cs m⟩
 simp only [spec_l11Rows.f] at h
 obtain ⟨y534, hy534, h⟩ := Option.bind_eq_some_iff.1 h
 cases hy534
 obtain ⟨⟨t537, t538⟩, q1, h⟩ := Option.bind_eq_some_iff.1 h
 dsimp only at h
 have q1c := spec_ShapeOf.ctr k _ _ _ _ q1
 by_cases c2 : t538 = true
 · rw [if_pos c2] at h
   obtain ⟨⟨t541, t542, t545⟩, q3, h⟩ := Option.bind_eq_some_iff.1 h
   dsimp only at h
   have q3c := spec_l1Read.ctr k _ _ _ _ _ q3
   refine path_ok (k := 17) hF (RetQ_mild _ _ _ _ _ _ _ _) (ds := [.p 12 ([]), .r [.own 3 1 (rX (cI .i64) t537), .ro (.v (.bool t538))] [], .b false, .r [.ro (.ag [.v (.int .i64 t541), .sl 2 (r73 t542)]), .ro (.v (.bool t545))] [], .e 28 (.v (.int .i64 (t542.length : Int)))]) (os := []) (c := none) rfl KD ?_
   exact WS.can [(1005, some 12), (1006, some 100240)] (((ih.out k (by omega)).s_l0  r1 r2 r3 w ro B hF (([] : List (List Int))) t537 t542 (t542.length : Int) 0 h).out) KD
 · rw [if_neg c2] at h
   refine path_ok (k := 13) hF (RetQ_mild _ _ _ _ _ _ _ _) (ds := [.p 12 ([]), .r [.own 3 1 (rX (cI .i64) t537), .ro (.v (.bool t538))] [], .b true]) (os := []) (c := none) rfl KD ?_
   cases h
   exact ret_as (ms := [.own, .ro, .ro]) rfl KD
def spec_l3Add.f (a0 : Int) (a1 : Int) : Option (Int) := some (Int.tmod (wrap64 (a0 + a1)) 10007)
set_option maxRecDepth 100000 in
set_option maxHeartbeats 4000000 in
theorem spec_l3Add.ctr (a0 : Int) (a1 : Int) (r : Int) (h : spec_l3Add.f a0 a1 = some r) : Ctr TE 50 none [.v (.int .i64 a0), .v (.int .i64 a1)] [.ro (.v (.int .i64 r))] [] := by
 refine ctr_of (fn := Tryd.f50) (c := (bodyOf Tryd.f50)) Tryd.func50 rfl (by kernel_rfl) (Nat.le_of_ble_eq_true (by kernel_rfl)) (fun w ro B hF _ => ?_)
 simp only [spec_l3Add.f] at h
 refine path_ok (k := 5) hF (RetQ_mild _ _ _ _ _ _ _ _) (ds := [.e 8 (.v (.int .i64 (Int.tmod (wrap64 (a0 + a1)) 10007)))]) (os := []) (c := none) rfl KD ?_
 cases h
 exact ret_as (ms := [.ro]) rfl KD
mutual
def spec_l11Text.l0 : Nat → List (List Int) → Int → Int → Int → List (S73) → Option (ByteArray × Bool)
  | 0, _, _, _, _, _ => none
  | k + 1, x12, x13, x14, x560000, x560001 => if x14 < x13 then (if 0 ≤ x14 then (if x14 < (x12.length : Int) then (spec_l11Text.l1 k x12 x13 x14 (rd_L3 x12 x14) ((rd_L3 x12 x14).length : Int) 0 x560000 x560001 0 (([] : List (S73)))) else (none)) else (none)) else ((spec_l1Told.f k x560000 x560001 2).bind fun bt560 => (some (bt560.1, bt560.2)))
def spec_l11Text.l1 : Nat → List (List Int) → Int → Int → List Int → Int → Int → Int → List (S73) → Int → List (S73) → Option (ByteArray × Bool)
  | 0, _, _, _, _, _, _, _, _, _, _ => none
  | k + 1, x12, x13, x14, x20, x21, x22, x560000, x560001, x567000, x567001 => if x22 < x21 then (if 0 ≤ x22 then (if x22 < (x20.length : Int) then (if x567001.length < 4398046511104 then (spec_l11Text.l1 k x12 x13 x14 x20 x21 (wrap64 (x22 + 1)) x560000 x560001 x567000 (x567001 ++ [(⟨rd x20 x22, ([] : List (S73))⟩ : S73)])) else (none)) else (none)) else (none)) else (if x560001.length < 4398046511104 then (spec_l11Text.l0 k x12 x13 (wrap64 (x14 + 1)) x560000 (x560001 ++ [(⟨x567000, x567001⟩ : S73)])) else (none))
end
def spec_l11Text.f (k : Nat) (l0 : List (List Int)) : Option (ByteArray × Bool) := spec_l11Text.l0 k l0 (l0.length : Int) 0 0 (([] : List (S73)))
def spec_l11Text.I0 (r1 : ByteArray) (r2 : Bool) (m : Nat) (σ : St) : Prop := ∃ (x12 : List (List Int)) (x13 : Int) (x14 : Int) (x560000 : Int) (x560001 : List (S73)), spec_l11Text.l0 m x12 x13 x14 x560000 x560001 = some (r1, r2) ∧ σ = ⟨[(4, .pt 1004 0 0), (12, .sl 1 (rX (cL (cI .i64) 1) x12)), (13, .v (.int .i64 x13)), (14, .v (.int .i64 x14))], [(3257, .own 0 73 2 (r73 x560001)), (1004, .box 0 73 false [.v (.int .i64 x560000), .ow 3257 0])]⟩
def spec_l11Text.I1 (r1 : ByteArray) (r2 : Bool) (m : Nat) (σ : St) : Prop := ∃ (x12 : List (List Int)) (x13 : Int) (x14 : Int) (x20 : List Int) (x21 : Int) (x22 : Int) (x560000 : Int) (x560001 : List (S73)) (x567000 : Int) (x567001 : List (S73)), spec_l11Text.l1 m x12 x13 x14 x20 x21 x22 x560000 x560001 x567000 x567001 = some (r1, r2) ∧ σ = ⟨[(4, .pt 1004 0 0), (7, .pt 1007 0 0), (12, .sl 1 (rX (cL (cI .i64) 1) x12)), (13, .v (.int .i64 x13)), (14, .v (.int .i64 x14)), (20, .sl 1 (rX (cI .i64) x20)), (21, .v (.int .i64 x21)), (22, .v (.int .i64 x22))], [(3257, .own 0 73 2 (r73 x560001)), (1004, .box 0 73 false [.v (.int .i64 x560000), .ow 3257 0]), (3449, .own 0 73 2 (r73 x567001)), (1007, .box 0 73 false [.v (.int .i64 x567000), .ow 3449 0])]⟩
structure spec_l11Text.C (k : Nat) : Prop where
 s_l0 : ∀ (r1 : ByteArray) (r2 : Bool) (w : World) (ro : Nat → Prop) (B : Nat) (_ : Fr TE (cx0 Tryd.f51 none w ro B)) (x12 : List (List Int)) (x13 : Int) (x14 : Int) (x560000 : Int) (x560001 : List (S73)) (_ : spec_l11Text.l0 k x12 x13 x14 x560000 x560001 = some (r1, r2)), Kp (WS TE (cx0 Tryd.f51 none w ro B) (stkAt [1, 1, 0, 1, 0] [] (bodyOf Tryd.f51) []) ⟨[(4, .pt 1004 0 0), (12, .sl 1 (rX (cL (cI .i64) 1) x12)), (13, .v (.int .i64 x13)), (14, .v (.int .i64 x14))], [(3257, .own 0 73 2 (r73 x560001)), (1004, .box 0 73 false [.v (.int .i64 x560000), .ow 3257 0])]⟩ (RetQ TE Tryd.f51 none [.ro (.v (.string r1)), .ro (.v (.bool r2))] [] w ro B))
 s_l1 : ∀ (r1 : ByteArray) (r2 : Bool) (w : World) (ro : Nat → Prop) (B : Nat) (_ : Fr TE (cx0 Tryd.f51 none w ro B)) (J0 : St → Prop) (_ : ∀ m σ, m ≤ k → spec_l11Text.I0 r1 r2 m σ → J0 σ) (x12 : List (List Int)) (x13 : Int) (x14 : Int) (x20 : List Int) (x21 : Int) (x22 : Int) (x560000 : Int) (x560001 : List (S73)) (x567000 : Int) (x567001 : List (S73)) (_ : spec_l11Text.l1 k x12 x13 x14 x20 x21 x22 x560000 x560001 x567000 x567001 = some (r1, r2)), Kp (WS TE (cx0 Tryd.f51 none w ro B) (stkAt [1, 1, 0, 1, 0, 0, 1, 1, 0, 0, 1, 1, 0, 1, 0] [J0] (bodyOf Tryd.f51) []) ⟨[(4, .pt 1004 0 0), (7, .pt 1007 0 0), (12, .sl 1 (rX (cL (cI .i64) 1) x12)), (13, .v (.int .i64 x13)), (14, .v (.int .i64 x14)), (20, .sl 1 (rX (cI .i64) x20)), (21, .v (.int .i64 x21)), (22, .v (.int .i64 x22))], [(3257, .own 0 73 2 (r73 x560001)), (1004, .box 0 73 false [.v (.int .i64 x560000), .ow 3257 0]), (3449, .own 0 73 2 (r73 x567001)), (1007, .box 0 73 false [.v (.int .i64 x567000), .ow 3449 0])]⟩ (RetQ TE Tryd.f51 none [.ro (.v (.string r1)), .ro (.v (.bool r2))] [] w ro B))
set_option maxRecDepth 100000 in
set_option maxHeartbeats 4000000 in
theorem spec_l11Text.c_l0 (k : Nat) (ih : Kp (∀ m, m < k → spec_l11Text.C m)) (r1 : ByteArray) (r2 : Bool) (w : World) (ro : Nat → Prop) (B : Nat) (hF : Fr TE (cx0 Tryd.f51 none w ro B)) (x12 : List (List Int)) (x13 : Int) (x14 : Int) (x560000 : Int) (x560001 : List (S73)) (h : spec_l11Text.l0 k x12 x13 x14 x560000 x560001 = some (r1, r2)) : Kp (WS TE (cx0 Tryd.f51 none w ro B) (stkAt [1, 1, 0, 1, 0] [] (bodyOf Tryd.f51) []) ⟨[(4, .pt 1004 0 0), (12, .sl 1 (rX (cL (cI .i64) 1) x12)), (13, .v (.int .i64 x13)), (14, .v (.int .i64 x14))], [(3257, .own 0 73 2 (r73 x560001)), (1004, .box 0 73 false [.v (.int .i64 x560000), .ow 3257 0])]⟩ (RetQ TE Tryd.f51 none [.ro (.v (.string r1)), .ro (.v (.bool r2))] [] w ro B)) := by
 refine ⟨WS.loop (fun m σ => m ≤ k ∧ spec_l11Text.I0 r1 r2 m σ) k ⟨Nat.le_refl k, x12, x13, x14, x560000, x560001, h, rfl⟩ (fun m σ' hI J0 hJ0 => ?_)⟩
 clear h
 obtain ⟨hk, x12, x13, x14, x560000, x560001, h, rfl⟩ := hI
 cases m with
 | zero => simp [spec_l11Text.l0] at h
 | succ k' =>
 simp only [spec_l11Text.l0] at h
 by_cases c1 : x14 < x13
 · rw [if_pos c1] at h
   by_cases c2 : 0 ≤ x14
   · rw [if_pos c2] at h
     by_cases c3 : x14 < (x12.length : Int)
     · rw [if_pos c3] at h
       refine path_ok (k := 15) hF (RetQ_mild _ _ _ _ _ _ _ _) (ds := [.b true, .e 16 (.rf [.sl 1 (rX (cI .i64) (rd_L3 x12 x14))]), .p 18 ([]), .e 21 (.v (.int .i64 ((rd_L3 x12 x14).length : Int)))]) (os := []) (c := none) rfl KD ?_
       exact WS.can [(1004, some 1004), (3257, some 3257), (1007, some 7), (3449, some 18)] (((ih.out k' (by omega)).s_l1  r1 r2 w ro B hF J0 (fun m σ hm hI => hJ0 m σ (by omega) ⟨by omega, hI⟩) x12 x13 x14 (rd_L3 x12 x14) ((rd_L3 x12 x14).length : Int) 0 x560000 x560001 0 (([] : List (S73))) h).out) KD
     · rw [if_neg c3] at h
       cases h
   · rw [if_neg c2] at h
     cases h
 · rw [if_neg c1] at h
   obtain ⟨⟨t560, t561⟩, q4, h⟩ := Option.bind_eq_some_iff.1 h
   dsimp only at h
   have q4c := spec_l1Told.ctr k' _ _ _ _ _ q4
   refine path_ok (k := 8) hF (RetQ_mild _ _ _ _ _ _ _ _) (ds := [.b false, .r [.ro (.v (.string t560)), .ro (.v (.bool t561))] []]) (os := []) (c := none) rfl KD ?_
   cases h
   exact ret_as (ms := [.ro, .ro]) rfl KD
set_option maxRecDepth 100000 in
set_option maxHeartbeats 4000000 in
theorem spec_l11Text.c_l1 (k : Nat) (ih : Kp (∀ m, m < k → spec_l11Text.C m)) (r1 : ByteArray) (r2 : Bool) (w : World) (ro : Nat → Prop) (B : Nat) (hF : Fr TE (cx0 Tryd.f51 none w ro B)) (J0 : St → Prop) (hJ0 : ∀ m σ, m ≤ k → spec_l11Text.I0 r1 r2 m σ → J0 σ) (x12 : List (List Int)) (x13 : Int) (x14 : Int) (x20 : List Int) (x21 : Int) (x22 : Int) (x560000 : Int) (x560001 : List (S73)) (x567000 : Int) (x567001 : List (S73)) (h : spec_l11Text.l1 k x12 x13 x14 x20 x21 x22 x560000 x560001 x567000 x567001 = some (r1, r2)) : Kp (WS TE (cx0 Tryd.f51 none w ro B) (stkAt [1, 1, 0, 1, 0, 0, 1, 1, 0, 0, 1, 1, 0, 1, 0] [J0] (bodyOf Tryd.f51) []) ⟨[(4, .pt 1004 0 0), (7, .pt 1007 0 0), (12, .sl 1 (rX (cL (cI .i64) 1) x12)), (13, .v (.int .i64 x13)), (14, .v (.int .i64 x14)), (20, .sl 1 (rX (cI .i64) x20)), (21, .v (.int .i64 x21)), (22, .v (.int .i64 x22))], [(3257, .own 0 73 2 (r73 x560001)), (1004, .box 0 73 false [.v (.int .i64 x560000), .ow 3257 0]), (3449, .own 0 73 2 (r73 x567001)), (1007, .box 0 73 false [.v (.int .i64 x567000), .ow 3449 0])]⟩ (RetQ TE Tryd.f51 none [.ro (.v (.string r1)), .ro (.v (.bool r2))] [] w ro B)) := by
 refine ⟨WS.loop (fun m σ => m ≤ k ∧ spec_l11Text.I1 r1 r2 m σ) k ⟨Nat.le_refl k, x12, x13, x14, x20, x21, x22, x560000, x560001, x567000, x567001, h, rfl⟩ (fun m σ' hI J1 hJ1 => ?_)⟩
 clear h
 obtain ⟨hk, x12, x13, x14, x20, x21, x22, x560000, x560001, x567000, x567001, h, rfl⟩ := hI
 cases m with
 | zero => simp [spec_l11Text.l1] at h
 | succ k' =>
 simp only [spec_l11Text.l1] at h
 by_cases c5 : x22 < x21
 · rw [if_pos c5] at h
   by_cases c6 : 0 ≤ x22
   · rw [if_pos c6] at h
     by_cases c7 : x22 < (x20.length : Int)
     · rw [if_pos c7] at h
       by_cases c8 : x567001.length < 4398046511104
       · rw [if_pos c8] at h
         refine path_ok (k := 12) hF (RetQ_mild _ _ _ _ _ _ _ _) (ds := [.b true, .e 24 (.rf [.v (.int .i64 (rd x20 x22))]), .p 30 ([[.v (.int .i64 (rd x20 x22)), .sl 2 (r73 [])]]), .o 31 (r73 (x567001 ++ [(⟨rd x20 x22, ([] : List (S73))⟩ : S73)]))]) (os := []) (c := none) rfl KD ?_
         exact WS.lpc [(1004, some 1004), (3257, some 3257), (1007, some 1007), (3449, some 3449)] (hJ1 _ _ (Nat.lt_succ_self _) ⟨by omega, x12, x13, x14, x20, x21, (wrap64 (x22 + 1)), x560000, x560001, x567000, (x567001 ++ [(⟨rd x20 x22, ([] : List (S73))⟩ : S73)]), h, rfl⟩) KD
       · rw [if_neg c8] at h
         cases h
     · rw [if_neg c7] at h
       cases h
   · rw [if_neg c6] at h
     cases h
 · rw [if_neg c5] at h
   by_cases c9 : x560001.length < 4398046511104
   · rw [if_pos c9] at h
     refine path_ok (k := 8) hF (RetQ_mild _ _ _ _ _ _ _ _) (ds := [.b false, .p 37 ([[.v (.int .i64 x567000), .sl 2 (r73 x567001)]]), .o 38 (r73 (x560001 ++ [(⟨x567000, x567001⟩ : S73)]))]) (os := []) (c := none) rfl KD ?_
     exact WS.lpc [(1004, some 1004), (3257, some 3257)] (hJ0 _ _ (by omega) ⟨x12, x13, (wrap64 (x14 + 1)), x560000, (x560001 ++ [(⟨x567000, x567001⟩ : S73)]), h, rfl⟩) KD
   · rw [if_neg c9] at h
     cases h
theorem spec_l11Text.cs (k : Nat) : spec_l11Text.C k := by
 induction k using Nat.strongRecOn with
 | _ k ih0 =>
 have ih : Kp (∀ m, m < k → spec_l11Text.C m) := ⟨ih0⟩
 exact ⟨spec_l11Text.c_l0 k ih, spec_l11Text.c_l1 k ih⟩
set_option maxRecDepth 100000 in
set_option maxHeartbeats 4000000 in
theorem spec_l11Text.ctr (k : Nat) (l0 : List (List Int)) (r1 : ByteArray) (r2 : Bool) (h : spec_l11Text.f k l0 = some (r1, r2)) : Ctr TE 51 none [.sl 1 (rX (cL (cI .i64) 1) l0)] [.ro (.v (.string r1)), .ro (.v (.bool r2))] [] := by
 refine ctr_of (fn := Tryd.f51) (c := (bodyOf Tryd.f51)) Tryd.func51 rfl (by kernel_rfl) (Nat.le_of_ble_eq_true (by kernel_rfl)) (fun w ro B hF _ => ?_)
 have ih : Kp (∀ m, m < k + 1 → spec_l11Text.C m) := ⟨fun m _ => spec_l11Text.cs m⟩
 simp only [spec_l11Text.f] at h
 refine path_ok (k := 8) hF (RetQ_mild _ _ _ _ _ _ _ _) (ds := [.p 10 ([]), .e 13 (.v (.int .i64 (l0.length : Int)))]) (os := []) (c := none) rfl KD ?_
 exact WS.can [(1004, some 4), (3257, some 10)] (((ih.out k (by omega)).s_l0  r1 r2 w ro B hF l0 (l0.length : Int) 0 0 (([] : List (S73))) h).out) KD
mutual
def spec_MultiplyArrays.j0 : Nat → List (List Int) → List (List Int) → Int → Bool → Option (ByteArray × Bool)
  | 0, _, _, _, _ => none
  | k + 1, x6, x9, x10, x43 => if x43 = true then (some ((⟨#[]⟩ : ByteArray), false)) else (spec_MultiplyArrays.l0 k x9 x10 (([] : List (List Int))) x6 (x6.length : Int) 0)
def spec_MultiplyArrays.l0 : Nat → List (List Int) → Int → List (List Int) → List (List Int) → Int → Int → Option (ByteArray × Bool)
  | 0, _, _, _, _, _, _ => none
  | k + 1, x9, x10, x12, x45, x46, x47 => if x47 < x46 then (if 0 ≤ x47 then (if x47 < (x45.length : Int) then (spec_MultiplyArrays.l1 k x9 x10 x12 (rd_L3 x45 x47) (([] : List Int)) x45 x46 x47 x10 0) else (none)) else (none)) else ((spec_l11Text.f k x12).bind fun bt587 => (some (bt587.1, bt587.2)))
def spec_MultiplyArrays.l1 : Nat → List (List Int) → Int → List (List Int) → List Int → List Int → List (List Int) → Int → Int → Int → Int → Option (ByteArray × Bool)
  | 0, _, _, _, _, _, _, _, _, _, _ => none
  | k + 1, x9, x10, x12, x14, x15, x45, x46, x47, x52, x53 => if x53 < x52 then (spec_MultiplyArrays.l2 k x9 x10 x12 x14 x15 x53 0 x45 x46 x47 x52 x53 x14 (x14.length : Int) 0) else (if x12.length < 5864062014805 then (spec_MultiplyArrays.l0 k x9 x10 (x12 ++ [x15]) x45 x46 (wrap64 (x47 + 1))) else (none))
def spec_MultiplyArrays.l2 : Nat → List (List Int) → Int → List (List Int) → List Int → List Int → Int → Int → List (List Int) → Int → Int → Int → Int → List Int → Int → Int → Option (ByteArray × Bool)
  | 0, _, _, _, _, _, _, _, _, _, _, _, _, _, _, _ => none
  | k + 1, x9, x10, x12, x14, x15, x16, x17, x45, x46, x47, x52, x53, x56, x57, x58 => if x58 < x57 then (if 0 ≤ x58 then (if x58 < (x56.length : Int) then (if x58 < (x9.length : Int) then (if 0 ≤ x16 then (if x16 < ((rd_L3 x9 x58).length : Int) then ((spec_l3Add.f x17 (Int.tmod (wrap64 ((rd x56 x58) * (rd (rd_L3 x9 x58) x16))) 10007)).bind fun t599 => (spec_MultiplyArrays.l2 k x9 x10 x12 x14 x15 x16 t599 x45 x46 x47 x52 x53 x56 x57 (wrap64 (x58 + 1)))) else (none)) else (none)) else (none)) else (none)) else (none)) else (if x15.length < 17592186044416 then (spec_MultiplyArrays.l1 k x9 x10 x12 x14 (x15 ++ [x17]) x45 x46 x47 x52 (wrap64 (x53 + 1))) else (none))
end
def spec_MultiplyArrays.f (k : Nat) (a0 : ByteArray) (a1 : ByteArray) : Option (ByteArray × Bool) := (spec_l11Rows.f k a0).bind fun bt574 => ((spec_l11Rows.f k a1).bind fun bt579 => (if bt574.2.2 = true then (if bt579.2.2 = true then (spec_MultiplyArrays.j0 k bt574.1 bt579.1 bt579.2.1 (bt574.2.1 != (bt579.1.length : Int))) else (spec_MultiplyArrays.j0 k bt574.1 bt579.1 bt579.2.1 true)) else (spec_MultiplyArrays.j0 k bt574.1 bt579.1 bt579.2.1 true)))
def spec_MultiplyArrays.I0 (r1 : ByteArray) (r2 : Bool) (m : Nat) (σ : St) : Prop := ∃ (x9 : List (List Int)) (x10 : Int) (x12 : List (List Int)) (x45 : List (List Int)) (x46 : Int) (x47 : Int), spec_MultiplyArrays.l0 m x9 x10 x12 x45 x46 x47 = some (r1, r2) ∧ σ = ⟨[(9, .ow 1009 0), (10, .v (.int .i64 x10)), (12, .ow 1012 0), (45, .ow 1045 0), (46, .v (.int .i64 x46)), (47, .v (.int .i64 x47))], [(1009, .own 0 25 1 (rX (cL (cI .i64) 1) x9)), (1012, .own 0 25 1 (rX (cL (cI .i64) 1) x12)), (1045, .own 0 25 1 (rX (cL (cI .i64) 1) x45))]⟩
def spec_MultiplyArrays.I1 (r1 : ByteArray) (r2 : Bool) (m : Nat) (σ : St) : Prop := ∃ (x9 : List (List Int)) (x10 : Int) (x12 : List (List Int)) (x14 : List Int) (x15 : List Int) (x45 : List (List Int)) (x46 : Int) (x47 : Int) (x52 : Int) (x53 : Int), spec_MultiplyArrays.l1 m x9 x10 x12 x14 x15 x45 x46 x47 x52 x53 = some (r1, r2) ∧ σ = ⟨[(9, .ow 1009 0), (10, .v (.int .i64 x10)), (12, .ow 1012 0), (14, .sl 1 (rX (cI .i64) x14)), (15, .ow 1015 0), (45, .ow 1045 0), (46, .v (.int .i64 x46)), (47, .v (.int .i64 x47)), (52, .v (.int .i64 x52)), (53, .v (.int .i64 x53))], [(1009, .own 0 25 1 (rX (cL (cI .i64) 1) x9)), (1012, .own 0 25 1 (rX (cL (cI .i64) 1) x12)), (1015, .own 0 3 1 (rX (cI .i64) x15)), (1045, .own 0 25 1 (rX (cL (cI .i64) 1) x45))]⟩
def spec_MultiplyArrays.I2 (r1 : ByteArray) (r2 : Bool) (m : Nat) (σ : St) : Prop := ∃ (x9 : List (List Int)) (x10 : Int) (x12 : List (List Int)) (x14 : List Int) (x15 : List Int) (x16 : Int) (x17 : Int) (x45 : List (List Int)) (x46 : Int) (x47 : Int) (x52 : Int) (x53 : Int) (x56 : List Int) (x57 : Int) (x58 : Int), spec_MultiplyArrays.l2 m x9 x10 x12 x14 x15 x16 x17 x45 x46 x47 x52 x53 x56 x57 x58 = some (r1, r2) ∧ σ = ⟨[(9, .ow 1009 0), (10, .v (.int .i64 x10)), (12, .ow 1012 0), (14, .sl 1 (rX (cI .i64) x14)), (15, .ow 1015 0), (16, .v (.int .i64 x16)), (17, .v (.int .i64 x17)), (45, .ow 1045 0), (46, .v (.int .i64 x46)), (47, .v (.int .i64 x47)), (52, .v (.int .i64 x52)), (53, .v (.int .i64 x53)), (56, .sl 1 (rX (cI .i64) x56)), (57, .v (.int .i64 x57)), (58, .v (.int .i64 x58))], [(1009, .own 0 25 1 (rX (cL (cI .i64) 1) x9)), (1012, .own 0 25 1 (rX (cL (cI .i64) 1) x12)), (1015, .own 0 3 1 (rX (cI .i64) x15)), (1045, .own 0 25 1 (rX (cL (cI .i64) 1) x45))]⟩
structure spec_MultiplyArrays.C (k : Nat) : Prop where
 s_j0 : ∀ (r1 : ByteArray) (r2 : Bool) (w : World) (ro : Nat → Prop) (B : Nat) (_ : Fr TE (cx0 Tryd.f18 none w ro B)) (x6 : List (List Int)) (x9 : List (List Int)) (x10 : Int) (x43 : Bool) (_ : spec_MultiplyArrays.j0 k x6 x9 x10 x43 = some (r1, r2)), Kp (WS TE (cx0 Tryd.f18 none w ro B) (stkAt [1, 1, 1, 0, 0, 9] [] (bodyOf Tryd.f18) []) ⟨[(6, .ow 1006 0), (9, .ow 1009 0), (10, .v (.int .i64 x10)), (43, .v (.bool x43))], [(1006, .own 0 25 1 (rX (cL (cI .i64) 1) x6)), (1009, .own 0 25 1 (rX (cL (cI .i64) 1) x9))]⟩ (RetQ TE Tryd.f18 none [.ro (.v (.string r1)), .ro (.v (.bool r2))] [] w ro B))
 s_l0 : ∀ (r1 : ByteArray) (r2 : Bool) (w : World) (ro : Nat → Prop) (B : Nat) (_ : Fr TE (cx0 Tryd.f18 none w ro B)) (x9 : List (List Int)) (x10 : Int) (x12 : List (List Int)) (x45 : List (List Int)) (x46 : Int) (x47 : Int) (_ : spec_MultiplyArrays.l0 k x9 x10 x12 x45 x46 x47 = some (r1, r2)), Kp (WS TE (cx0 Tryd.f18 none w ro B) (stkAt [1, 1, 1, 1, 1, 0, 1, 0] [] (bodyOf Tryd.f18) []) ⟨[(9, .ow 1009 0), (10, .v (.int .i64 x10)), (12, .ow 1012 0), (45, .ow 1045 0), (46, .v (.int .i64 x46)), (47, .v (.int .i64 x47))], [(1009, .own 0 25 1 (rX (cL (cI .i64) 1) x9)), (1012, .own 0 25 1 (rX (cL (cI .i64) 1) x12)), (1045, .own 0 25 1 (rX (cL (cI .i64) 1) x45))]⟩ (RetQ TE Tryd.f18 none [.ro (.v (.string r1)), .ro (.v (.bool r2))] [] w ro B))
 s_l1 : ∀ (r1 : ByteArray) (r2 : Bool) (w : World) (ro : Nat → Prop) (B : Nat) (_ : Fr TE (cx0 Tryd.f18 none w ro B)) (J0 : St → Prop) (_ : ∀ m σ, m ≤ k → spec_MultiplyArrays.I0 r1 r2 m σ → J0 σ) (x9 : List (List Int)) (x10 : Int) (x12 : List (List Int)) (x14 : List Int) (x15 : List Int) (x45 : List (List Int)) (x46 : Int) (x47 : Int) (x52 : Int) (x53 : Int) (_ : spec_MultiplyArrays.l1 k x9 x10 x12 x14 x15 x45 x46 x47 x52 x53 = some (r1, r2)), Kp (WS TE (cx0 Tryd.f18 none w ro B) (stkAt [1, 1, 1, 1, 1, 0, 1, 0, 0, 1, 1, 0, 0, 1, 1, 0, 1, 0] [J0] (bodyOf Tryd.f18) []) ⟨[(9, .ow 1009 0), (10, .v (.int .i64 x10)), (12, .ow 1012 0), (14, .sl 1 (rX (cI .i64) x14)), (15, .ow 1015 0), (45, .ow 1045 0), (46, .v (.int .i64 x46)), (47, .v (.int .i64 x47)), (52, .v (.int .i64 x52)), (53, .v (.int .i64 x53))], [(1009, .own 0 25 1 (rX (cL (cI .i64) 1) x9)), (1012, .own 0 25 1 (rX (cL (cI .i64) 1) x12)), (1015, .own 0 3 1 (rX (cI .i64) x15)), (1045, .own 0 25 1 (rX (cL (cI .i64) 1) x45))]⟩ (RetQ TE Tryd.f18 none [.ro (.v (.string r1)), .ro (.v (.bool r2))] [] w ro B))
 s_l2 : ∀ (r1 : ByteArray) (r2 : Bool) (w : World) (ro : Nat → Prop) (B : Nat) (_ : Fr TE (cx0 Tryd.f18 none w ro B)) (J0 : St → Prop) (_ : ∀ m σ, m ≤ k → spec_MultiplyArrays.I0 r1 r2 m σ → J0 σ) (J1 : St → Prop) (_ : ∀ m σ, m ≤ k → spec_MultiplyArrays.I1 r1 r2 m σ → J1 σ) (x9 : List (List Int)) (x10 : Int) (x12 : List (List Int)) (x14 : List Int) (x15 : List Int) (x16 : Int) (x17 : Int) (x45 : List (List Int)) (x46 : Int) (x47 : Int) (x52 : Int) (x53 : Int) (x56 : List Int) (x57 : Int) (x58 : Int) (_ : spec_MultiplyArrays.l2 k x9 x10 x12 x14 x15 x16 x17 x45 x46 x47 x52 x53 x56 x57 x58 = some (r1, r2)), Kp (WS TE (cx0 Tryd.f18 none w ro B) (stkAt [1, 1, 1, 1, 1, 0, 1, 0, 0, 1, 1, 0, 0, 1, 1, 0, 1, 0, 0, 1, 1, 0, 0, 1, 1, 0, 1, 0] [J0, J1] (bodyOf Tryd.f18) []) ⟨[(9, .ow 1009 0), (10, .v (.int .i64 x10)), (12, .ow 1012 0), (14, .sl 1 (rX (cI .i64) x14)), (15, .ow 1015 0), (16, .v (.int .i64 x16)), (17, .v (.int .i64 x17)), (45, .ow 1045 0), (46, .v (.int .i64 x46)), (47, .v (.int .i64 x47)), (52, .v (.int .i64 x52)), (53, .v (.int .i64 x53)), (56, .sl 1 (rX (cI .i64) x56)), (57, .v (.int .i64 x57)), (58, .v (.int .i64 x58))], [(1009, .own 0 25 1 (rX (cL (cI .i64) 1) x9)), (1012, .own 0 25 1 (rX (cL (cI .i64) 1) x12)), (1015, .own 0 3 1 (rX (cI .i64) x15)), (1045, .own 0 25 1 (rX (cL (cI .i64) 1) x45))]⟩ (RetQ TE Tryd.f18 none [.ro (.v (.string r1)), .ro (.v (.bool r2))] [] w ro B))
set_option maxRecDepth 100000 in
set_option maxHeartbeats 4000000 in
theorem spec_MultiplyArrays.c_j0 (k : Nat) (ih : Kp (∀ m, m < k → spec_MultiplyArrays.C m)) (r1 : ByteArray) (r2 : Bool) (w : World) (ro : Nat → Prop) (B : Nat) (hF : Fr TE (cx0 Tryd.f18 none w ro B)) (x6 : List (List Int)) (x9 : List (List Int)) (x10 : Int) (x43 : Bool) (h : spec_MultiplyArrays.j0 k x6 x9 x10 x43 = some (r1, r2)) : Kp (WS TE (cx0 Tryd.f18 none w ro B) (stkAt [1, 1, 1, 0, 0, 9] [] (bodyOf Tryd.f18) []) ⟨[(6, .ow 1006 0), (9, .ow 1009 0), (10, .v (.int .i64 x10)), (43, .v (.bool x43))], [(1006, .own 0 25 1 (rX (cL (cI .i64) 1) x6)), (1009, .own 0 25 1 (rX (cL (cI .i64) 1) x9))]⟩ (RetQ TE Tryd.f18 none [.ro (.v (.string r1)), .ro (.v (.bool r2))] [] w ro B)) := by
 refine ⟨?_⟩
 cases k with
 | zero => simp [spec_MultiplyArrays.j0] at h
 | succ k =>
 simp only [spec_MultiplyArrays.j0] at h
 by_cases c5 : x43 = true
 · rw [if_pos c5] at h
   refine path_ok (k := 4) hF (RetQ_mild _ _ _ _ _ _ _ _) (ds := [.b true]) (os := []) (c := none) rfl KD ?_
   cases h
   exact ret_as (ms := [.ro, .ro]) rfl KD
 · rw [if_neg c5] at h
   refine path_ok (k := 8) hF (RetQ_mild _ _ _ _ _ _ _ _) (ds := [.b false, .p 44 ([]), .e 46 (.v (.int .i64 (x6.length : Int)))]) (os := []) (c := none) rfl KD ?_
   exact WS.can [(1009, some 1009), (1012, some 44), (1045, some 1006)] (((ih.out k (by omega)).s_l0  r1 r2 w ro B hF x9 x10 (([] : List (List Int))) x6 (x6.length : Int) 0 h).out) KD
set_option maxRecDepth 100000 in
set_option maxHeartbeats 4000000 in
theorem spec_MultiplyArrays.c_l0 (k : Nat) (ih : Kp (∀ m, m < k → spec_MultiplyArrays.C m)) (r1 : ByteArray) (r2 : Bool) (w : World) (ro : Nat → Prop) (B : Nat) (hF : Fr TE (cx0 Tryd.f18 none w ro B)) (x9 : List (List Int)) (x10 : Int) (x12 : List (List Int)) (x45 : List (List Int)) (x46 : Int) (x47 : Int) (h : spec_MultiplyArrays.l0 k x9 x10 x12 x45 x46 x47 = some (r1, r2)) : Kp (WS TE (cx0 Tryd.f18 none w ro B) (stkAt [1, 1, 1, 1, 1, 0, 1, 0] [] (bodyOf Tryd.f18) []) ⟨[(9, .ow 1009 0), (10, .v (.int .i64 x10)), (12, .ow 1012 0), (45, .ow 1045 0), (46, .v (.int .i64 x46)), (47, .v (.int .i64 x47))], [(1009, .own 0 25 1 (rX (cL (cI .i64) 1) x9)), (1012, .own 0 25 1 (rX (cL (cI .i64) 1) x12)), (1045, .own 0 25 1 (rX (cL (cI .i64) 1) x45))]⟩ (RetQ TE Tryd.f18 none [.ro (.v (.string r1)), .ro (.v (.bool r2))] [] w ro B)) := by
 refine ⟨WS.loop (fun m σ => m ≤ k ∧ spec_MultiplyArrays.I0 r1 r2 m σ) k ⟨Nat.le_refl k, x9, x10, x12, x45, x46, x47, h, rfl⟩ (fun m σ' hI J0 hJ0 => ?_)⟩
 clear h
 obtain ⟨hk, x9, x10, x12, x45, x46, x47, h, rfl⟩ := hI
 cases m with
 | zero => simp [spec_MultiplyArrays.l0] at h
 | succ k' =>
 simp only [spec_MultiplyArrays.l0] at h
 by_cases c6 : x47 < x46
 · rw [if_pos c6] at h
   by_cases c7 : 0 ≤ x47
   · rw [if_pos c7] at h
     by_cases c8 : x47 < (x45.length : Int)
     · rw [if_pos c8] at h
       refine path_ok (k := 15) hF (RetQ_mild _ _ _ _ _ _ _ _) (ds := [.b true, .g [.sl 1 (rX (cI .i64) (rd_L3 x45 x47))], .p 51 ([])]) (os := []) (c := none) rfl KD ?_
       exact WS.can [(1009, some 1009), (1012, some 1012), (1015, some 51), (1045, some 1045)] (((ih.out k' (by omega)).s_l1  r1 r2 w ro B hF J0 (fun m σ hm hI => hJ0 m σ (by omega) ⟨by omega, hI⟩) x9 x10 x12 (rd_L3 x45 x47) (([] : List Int)) x45 x46 x47 x10 0 h).out) KD
     · rw [if_neg c8] at h
       cases h
   · rw [if_neg c7] at h
     cases h
 · rw [if_neg c6] at h
   obtain ⟨⟨t587, t588⟩, q9, h⟩ := Option.bind_eq_some_iff.1 h
   dsimp only at h
   have q9c := spec_l11Text.ctr k' _ _ _ q9
   refine path_ok (k := 8) hF (RetQ_mild _ _ _ _ _ _ _ _) (ds := [.b false, .r [.ro (.v (.string t587)), .ro (.v (.bool t588))] []]) (os := []) (c := none) rfl KD ?_
   cases h
   exact ret_as (ms := [.ro, .ro]) rfl KD
set_option maxRecDepth 100000 in
set_option maxHeartbeats 4000000 in
theorem spec_MultiplyArrays.c_l1 (k : Nat) (ih : Kp (∀ m, m < k → spec_MultiplyArrays.C m)) (r1 : ByteArray) (r2 : Bool) (w : World) (ro : Nat → Prop) (B : Nat) (hF : Fr TE (cx0 Tryd.f18 none w ro B)) (J0 : St → Prop) (hJ0 : ∀ m σ, m ≤ k → spec_MultiplyArrays.I0 r1 r2 m σ → J0 σ) (x9 : List (List Int)) (x10 : Int) (x12 : List (List Int)) (x14 : List Int) (x15 : List Int) (x45 : List (List Int)) (x46 : Int) (x47 : Int) (x52 : Int) (x53 : Int) (h : spec_MultiplyArrays.l1 k x9 x10 x12 x14 x15 x45 x46 x47 x52 x53 = some (r1, r2)) : Kp (WS TE (cx0 Tryd.f18 none w ro B) (stkAt [1, 1, 1, 1, 1, 0, 1, 0, 0, 1, 1, 0, 0, 1, 1, 0, 1, 0] [J0] (bodyOf Tryd.f18) []) ⟨[(9, .ow 1009 0), (10, .v (.int .i64 x10)), (12, .ow 1012 0), (14, .sl 1 (rX (cI .i64) x14)), (15, .ow 1015 0), (45, .ow 1045 0), (46, .v (.int .i64 x46)), (47, .v (.int .i64 x47)), (52, .v (.int .i64 x52)), (53, .v (.int .i64 x53))], [(1009, .own 0 25 1 (rX (cL (cI .i64) 1) x9)), (1012, .own 0 25 1 (rX (cL (cI .i64) 1) x12)), (1015, .own 0 3 1 (rX (cI .i64) x15)), (1045, .own 0 25 1 (rX (cL (cI .i64) 1) x45))]⟩ (RetQ TE Tryd.f18 none [.ro (.v (.string r1)), .ro (.v (.bool r2))] [] w ro B)) := by
 refine ⟨WS.loop (fun m σ => m ≤ k ∧ spec_MultiplyArrays.I1 r1 r2 m σ) k ⟨Nat.le_refl k, x9, x10, x12, x14, x15, x45, x46, x47, x52, x53, h, rfl⟩ (fun m σ' hI J1 hJ1 => ?_)⟩
 clear h
 obtain ⟨hk, x9, x10, x12, x14, x15, x45, x46, x47, x52, x53, h, rfl⟩ := hI
 cases m with
 | zero => simp [spec_MultiplyArrays.l1] at h
 | succ k' =>
 simp only [spec_MultiplyArrays.l1] at h
 by_cases c10 : x53 < x52
 · rw [if_pos c10] at h
   refine path_ok (k := 15) hF (RetQ_mild _ _ _ _ _ _ _ _) (ds := [.b true, .e 57 (.v (.int .i64 (x14.length : Int)))]) (os := []) (c := none) rfl KD ?_
   exact WS.can [(1009, some 1009), (1012, some 1012), (1015, some 1015), (1045, some 1045)] (((ih.out k' (by omega)).s_l2  r1 r2 w ro B hF J0 (fun m σ hm hI => hJ0 m σ (by omega) hI) J1 (fun m σ hm hI => hJ1 m σ (by omega) ⟨by omega, hI⟩) x9 x10 x12 x14 x15 x53 0 x45 x46 x47 x52 x53 x14 (x14.length : Int) 0 h).out) KD
 · rw [if_neg c10] at h
   by_cases c11 : x12.length < 5864062014805
   · rw [if_pos c11] at h
     refine path_ok (k := 8) hF (RetQ_mild _ _ _ _ _ _ _ _) (ds := [.b false, .p 83 ([[.sl 1 (rX (cI .i64) x15)]]), .o 84 (rX (cL (cI .i64) 1) (x12 ++ [x15]))]) (os := []) (c := none) rfl KD ?_
     exact WS.lpc [(1009, some 1009), (1012, some 1012), (1045, some 1045)] (hJ0 _ _ (by omega) ⟨x9, x10, (x12 ++ [x15]), x45, x46, (wrap64 (x47 + 1)), h, rfl⟩) KD
   · rw [if_neg c11] at h
     cases h
set_option maxRecDepth 100000 in
set_option maxHeartbeats 4000000 in
theorem spec_MultiplyArrays.c_l2 (k : Nat) (ih : Kp (∀ m, m < k → spec_MultiplyArrays.C m)) (r1 : ByteArray) (r2 : Bool) (w : World) (ro : Nat → Prop) (B : Nat) (hF : Fr TE (cx0 Tryd.f18 none w ro B)) (J0 : St → Prop) (hJ0 : ∀ m σ, m ≤ k → spec_MultiplyArrays.I0 r1 r2 m σ → J0 σ) (J1 : St → Prop) (hJ1 : ∀ m σ, m ≤ k → spec_MultiplyArrays.I1 r1 r2 m σ → J1 σ) (x9 : List (List Int)) (x10 : Int) (x12 : List (List Int)) (x14 : List Int) (x15 : List Int) (x16 : Int) (x17 : Int) (x45 : List (List Int)) (x46 : Int) (x47 : Int) (x52 : Int) (x53 : Int) (x56 : List Int) (x57 : Int) (x58 : Int) (h : spec_MultiplyArrays.l2 k x9 x10 x12 x14 x15 x16 x17 x45 x46 x47 x52 x53 x56 x57 x58 = some (r1, r2)) : Kp (WS TE (cx0 Tryd.f18 none w ro B) (stkAt [1, 1, 1, 1, 1, 0, 1, 0, 0, 1, 1, 0, 0, 1, 1, 0, 1, 0, 0, 1, 1, 0, 0, 1, 1, 0, 1, 0] [J0, J1] (bodyOf Tryd.f18) []) ⟨[(9, .ow 1009 0), (10, .v (.int .i64 x10)), (12, .ow 1012 0), (14, .sl 1 (rX (cI .i64) x14)), (15, .ow 1015 0), (16, .v (.int .i64 x16)), (17, .v (.int .i64 x17)), (45, .ow 1045 0), (46, .v (.int .i64 x46)), (47, .v (.int .i64 x47)), (52, .v (.int .i64 x52)), (53, .v (.int .i64 x53)), (56, .sl 1 (rX (cI .i64) x56)), (57, .v (.int .i64 x57)), (58, .v (.int .i64 x58))], [(1009, .own 0 25 1 (rX (cL (cI .i64) 1) x9)), (1012, .own 0 25 1 (rX (cL (cI .i64) 1) x12)), (1015, .own 0 3 1 (rX (cI .i64) x15)), (1045, .own 0 25 1 (rX (cL (cI .i64) 1) x45))]⟩ (RetQ TE Tryd.f18 none [.ro (.v (.string r1)), .ro (.v (.bool r2))] [] w ro B)) := by
 refine ⟨WS.loop (fun m σ => m ≤ k ∧ spec_MultiplyArrays.I2 r1 r2 m σ) k ⟨Nat.le_refl k, x9, x10, x12, x14, x15, x16, x17, x45, x46, x47, x52, x53, x56, x57, x58, h, rfl⟩ (fun m σ' hI J2 hJ2 => ?_)⟩
 clear h
 obtain ⟨hk, x9, x10, x12, x14, x15, x16, x17, x45, x46, x47, x52, x53, x56, x57, x58, h, rfl⟩ := hI
 cases m with
 | zero => simp [spec_MultiplyArrays.l2] at h
 | succ k' =>
 simp only [spec_MultiplyArrays.l2] at h
 by_cases c12 : x58 < x57
 · rw [if_pos c12] at h
   by_cases c13 : 0 ≤ x58
   · rw [if_pos c13] at h
     by_cases c14 : x58 < (x56.length : Int)
     · rw [if_pos c14] at h
       by_cases c15 : x58 < (x9.length : Int)
       · rw [if_pos c15] at h
         by_cases c16 : 0 ≤ x16
         · rw [if_pos c16] at h
           by_cases c17 : x16 < ((rd_L3 x9 x58).length : Int)
           · rw [if_pos c17] at h
             obtain ⟨t599, q18, h⟩ := Option.bind_eq_some_iff.1 h
             have q18c := spec_l3Add.ctr _ _ _ q18
             refine path_ok (k := 12) hF (RetQ_mild _ _ _ _ _ _ _ _) (ds := [.b true, .e 61 (.rf [.v (.int .i64 (rd x56 x58))]), .g [.sl 1 (rX (cI .i64) (rd_L3 x9 x58))], .e 70 (.rf [.v (.int .i64 (rd (rd_L3 x9 x58) x16))]), .e 73 (.v (.int .i64 (Int.tmod (wrap64 ((rd x56 x58) * (rd (rd_L3 x9 x58) x16))) 10007))), .r [.ro (.v (.int .i64 t599))] []]) (os := []) (c := none) rfl KD ?_
             exact WS.lpc [(1009, some 1009), (1012, some 1012), (1015, some 1015), (1045, some 1045)] (hJ2 _ _ (Nat.lt_succ_self _) ⟨by omega, x9, x10, x12, x14, x15, x16, t599, x45, x46, x47, x52, x53, x56, x57, (wrap64 (x58 + 1)), h, rfl⟩) KD
           · rw [if_neg c17] at h
             cases h
         · rw [if_neg c16] at h
           cases h
       · rw [if_neg c15] at h
         cases h
     · rw [if_neg c14] at h
       cases h
   · rw [if_neg c13] at h
     cases h
 · rw [if_neg c12] at h
   by_cases c19 : x15.length < 17592186044416
   · rw [if_pos c19] at h
     refine path_ok (k := 8) hF (RetQ_mild _ _ _ _ _ _ _ _) (ds := [.b false, .p 78 ([[.v (.int .i64 x17)]]), .o 79 (rX (cI .i64) (x15 ++ [x17]))]) (os := []) (c := none) rfl KD ?_
     exact WS.lpc [(1009, some 1009), (1012, some 1012), (1015, some 1015), (1045, some 1045)] (hJ1 _ _ (by omega) ⟨x9, x10, x12, x14, (x15 ++ [x17]), x45, x46, x47, x52, (wrap64 (x53 + 1)), h, rfl⟩) KD
   · rw [if_neg c19] at h
     cases h
theorem spec_MultiplyArrays.cs (k : Nat) : spec_MultiplyArrays.C k := by
 induction k using Nat.strongRecOn with
 | _ k ih0 =>
 have ih : Kp (∀ m, m < k → spec_MultiplyArrays.C m) := ⟨ih0⟩
 exact ⟨spec_MultiplyArrays.c_j0 k ih, spec_MultiplyArrays.c_l0 k ih, spec_MultiplyArrays.c_l1 k ih, spec_MultiplyArrays.c_l2 k ih⟩
set_option maxRecDepth 100000 in
set_option maxHeartbeats 4000000 in
theorem spec_MultiplyArrays.ctr (k : Nat) (a0 : ByteArray) (a1 : ByteArray) (r1 : ByteArray) (r2 : Bool) (h : spec_MultiplyArrays.f k a0 a1 = some (r1, r2)) : Ctr TE 18 none [.v (.string a0), .v (.string a1)] [.ro (.v (.string r1)), .ro (.v (.bool r2))] [] := by
 refine ctr_of (fn := Tryd.f18) (c := (bodyOf Tryd.f18)) Tryd.func18 rfl (by kernel_rfl) (Nat.le_of_ble_eq_true (by kernel_rfl)) (fun w ro B hF _ => ?_)
 have ih : Kp (∀ m, m < k + 1 → spec_MultiplyArrays.C m) := ⟨fun m _ => spec_MultiplyArrays.cs m⟩
 simp only [spec_MultiplyArrays.f] at h
 obtain ⟨⟨t574, t575, t576⟩, q1, h⟩ := Option.bind_eq_some_iff.1 h
 dsimp only at h
 have q1c := spec_l11Rows.ctr k _ _ _ _ q1
 obtain ⟨⟨t579, t580, t581⟩, q2, h⟩ := Option.bind_eq_some_iff.1 h
 dsimp only at h
 have q2c := spec_l11Rows.ctr k _ _ _ _ q2
 by_cases c3 : t576 = true
 · rw [if_pos c3] at h
   by_cases c4 : t581 = true
   · rw [if_pos c4] at h
     refine path_ok (k := 9) hF (RetQ_mild _ _ _ _ _ _ _ _) (ds := [.r [.own 25 1 (rX (cL (cI .i64) 1) t574), .ro (.v (.int .i64 t575)), .ro (.v (.bool t576))] [], .r [.own 25 1 (rX (cL (cI .i64) 1) t579), .ro (.v (.int .i64 t580)), .ro (.v (.bool t581))] [], .b false, .b false, .b false, .b false, .b false, .b false, .e 41 (.v (.int .i64 (t579.length : Int))), .b false, .b false]) (os := []) (c := none) rfl KD ?_
     exact WS.can [(1006, some 100352), (1009, some 100448)] (((ih.out k (by omega)).s_j0  r1 r2 w ro B hF t574 t579 t580 (t575 != (t579.length : Int)) h).out) KD
   · rw [if_neg c4] at h
     refine path_ok (k := 9) hF (RetQ_mild _ _ _ _ _ _ _ _) (ds := [.r [.own 25 1 (rX (cL (cI .i64) 1) t574), .ro (.v (.int .i64 t575)), .ro (.v (.bool t576))] [], .r [.own 25 1 (rX (cL (cI .i64) 1) t579), .ro (.v (.int .i64 t580)), .ro (.v (.bool t581))] [], .b false, .b false, .b false, .b true, .b true, .b true, .b true, .b true]) (os := []) (c := none) rfl KD ?_
     exact WS.can [(1006, some 100352), (1009, some 100448)] (((ih.out k (by omega)).s_j0  r1 r2 w ro B hF t574 t579 t580 true h).out) KD
 · rw [if_neg c3] at h
   refine path_ok (k := 9) hF (RetQ_mild _ _ _ _ _ _ _ _) (ds := [.r [.own 25 1 (rX (cL (cI .i64) 1) t574), .ro (.v (.int .i64 t575)), .ro (.v (.bool t576))] [], .r [.own 25 1 (rX (cL (cI .i64) 1) t579), .ro (.v (.int .i64 t580)), .ro (.v (.bool t581))] [], .b true, .b true, .b true, .b true, .b true, .b true, .b true, .b true]) (os := []) (c := none) rfl KD ?_
   exact WS.can [(1006, some 100352), (1009, some 100448)] (((ih.out k (by omega)).s_j0  r1 r2 w ro B hF t574 t579 t580 true h).out) KD
end Go.Proofs.YtlhejcogdjelpaaDoor.G
