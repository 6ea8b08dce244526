/- A part of the claim. -/
import Derived.Test.YtlhejcogdjelpaaDoorHFx0
import Derived.Test.YtlhejcogdjelpaaDoorHFx1
import Derived.Test.YtlhejcogdjelpaaDoorHFx2
import Derived.Test.YtlhejcogdjelpaaDoorHFx3
import Derived.Test.YtlhejcogdjelpaaDoorHFx4
import Derived.Test.YtlhejcogdjelpaaDoorHFSgc
import Derived.Test.YtlhejcogdjelpaaDoorHFSgv
import Derived.Test.YtlhejcogdjelpaaDoorHFSgw
-- PRINTED by print.py (a twelfth state) out of the translation. Not trusted: Lean checks it.
namespace Go.Proofs.YtlhejcogdjelpaaDoor.H
open Go.RowKit Go.Proofs.YtlhejcogdjelpaaDoorW.St Go.Proofs.YtlhejcogdjelpaaDoorW.PrintWords Go.Proofs.YtlhejcogdjelpaaDoorW.PrintLast Go.Proofs.YtlhejcogdjelpaaDoorW.PrintMore
attribute [local go_sem] max2_int min2_int max_two min_two max_three min_three max_four min_four   -- for this text's walks alone
set_option linter.unusedVariables false
set_option linter.unusedSimpArgs false
def spec_LayOut.f (k : Nat) (a0 : ByteArray) (a1 : Int) : Option ((List (List Int)) × List Int × Bool) := (spec_l2RawLayOut.f k a0 a1).bind fun bt397 => ((spec_l13OwnLayout.f k bt397.1 bt397.2.1).bind fun bt405 => (some (bt405.1, bt405.2, bt397.2.2)))
set_option maxRecDepth 100000 in
set_option maxHeartbeats 4000000 in
theorem spec_LayOut.ctr (k : Nat) (a0 : ByteArray) (a1 : Int) (r1 : List (List Int)) (r2 : List Int) (r3 : Bool) (h : spec_LayOut.f k a0 a1 = some (r1, r2, r3)) : Ctr TE 34 none [.v (.string a0), .v (.int .i64 a1)] [.ro (.ag [.sl 1 (rX (cL (cI .i64) 1) r1), .sl 1 (rX (cI .i64) r2)]), .ro (.v (.bool r3))] [] := by
 refine ctr_of (fn := Tryd.f34) (c := (bodyOf Tryd.f34)) Tryd.func34 rfl (by kernel_rfl) (Nat.le_of_ble_eq_true (by kernel_rfl)) (fun w ro B hF _ => ?_)
 simp only [spec_LayOut.f] at h
 obtain ⟨⟨t397, t400, t403⟩, q1, h⟩ := Option.bind_eq_some_iff.1 h
 dsimp only at h
 have q1c := spec_l2RawLayOut.ctr k _ _ _ _ _ q1
 obtain ⟨⟨t405, t408⟩, q2, h⟩ := Option.bind_eq_some_iff.1 h
 dsimp only at h
 have q2c := spec_l13OwnLayout.ctr k _ _ _ _ q2
 refine path_ok (k := 7) hF (RetQ_mild _ _ _ _ _ _ _ _) (ds := [.r [.ro (.ag [.sl 1 (rX (cL (cI .i64) 1) t397), .sl 1 (rX (cI .i64) t400)]), .ro (.v (.bool t403))] [], .r [.ro (.ag [.sl 1 (rX (cL (cI .i64) 1) t405), .sl 1 (rX (cI .i64) t408)])] []]) (os := []) (c := none) rfl KD ?_
 cases h
 exact ret_as (ms := [.ro, .ro]) rfl KD
mutual
def spec_ShapeOf.l0 : Nat → Bool → List Int → List (List Int) → Int → Int → Option (List Int × Bool)
  | 0, _, _, _, _, _ => none
  | k + 1, x7, x8, x21, x22, x23 => if x23 < x22 then (if 0 ≤ x23 then (if x23 < (x21.length : Int) then (spec_ShapeOf.l1 k x7 x8 (rd_L5 x21 x23) x21 x22 x23 (rd_L5 x21 x23) ((rd_L5 x21 x23).length : Int) 0) else (none)) else (none)) else (some (x8, x7))
def spec_ShapeOf.l1 : Nat → Bool → List Int → List Int → List (List Int) → Int → Int → List Int → Int → Int → Option (List Int × Bool)
  | 0, _, _, _, _, _, _, _, _, _ => none
  | k + 1, x7, x8, x10, x21, x22, x23, x27, x28, x29 => if x29 < x28 then (if 0 ≤ x29 then (if x29 < (x27.length : Int) then (if 0 < (x10.length : Int) then (if (rd x27 x29) = (rd x10 0) then (spec_ShapeOf.l1 k x7 x8 x10 x21 x22 x23 x27 x28 (wrap64 (x29 + 1))) else (some ((([] : List Int)), false))) else (none)) else (none)) else (none)) else (if (x10.length : Int) = 0 then (if x8.length < 17592186044416 then (spec_ShapeOf.l0 k x7 (x8 ++ [0]) x21 x22 (wrap64 (x23 + 1))) else (none)) else (if 0 < (x10.length : Int) then (if x8.length < 17592186044416 then (spec_ShapeOf.l0 k x7 (x8 ++ [rd x10 0]) x21 x22 (wrap64 (x23 + 1))) else (none)) else (none)))
end
def spec_ShapeOf.f (k : Nat) (a0 : ByteArray) (a1 : Int) : Option (List Int × Bool) := (spec_LayOut.f k a0 a1).bind fun bt411 => (spec_ShapeOf.l0 k bt411.2.2 (([] : List Int)) bt411.1 (bt411.1.length : Int) 0)
def spec_ShapeOf.I0 (r1 : List Int) (r2 : Bool) (m : Nat) (σ : St) : Prop := ∃ (x7 : Bool) (x8 : List Int) (x21 : List (List Int)) (x22 : Int) (x23 : Int), spec_ShapeOf.l0 m x7 x8 x21 x22 x23 = some (r1, r2) ∧ σ = ⟨[(7, .v (.bool x7)), (8, .ow 1008 0), (21, .sl 1 (rX (cL (cI .i64) 1) x21)), (22, .v (.int .i64 x22)), (23, .v (.int .i64 x23))], [(1008, .own 0 3 1 (rX (cI .i64) x8))]⟩
def spec_ShapeOf.I1 (r1 : List Int) (r2 : Bool) (m : Nat) (σ : St) : Prop := ∃ (x7 : Bool) (x8 : List Int) (x10 : List Int) (x21 : List (List Int)) (x22 : Int) (x23 : Int) (x27 : List Int) (x28 : Int) (x29 : Int), spec_ShapeOf.l1 m x7 x8 x10 x21 x22 x23 x27 x28 x29 = some (r1, r2) ∧ σ = ⟨[(7, .v (.bool x7)), (8, .ow 1008 0), (10, .sl 1 (rX (cI .i64) x10)), (21, .sl 1 (rX (cL (cI .i64) 1) x21)), (22, .v (.int .i64 x22)), (23, .v (.int .i64 x23)), (27, .sl 1 (rX (cI .i64) x27)), (28, .v (.int .i64 x28)), (29, .v (.int .i64 x29))], [(1008, .own 0 3 1 (rX (cI .i64) x8))]⟩
structure spec_ShapeOf.C (k : Nat) : Prop where
 s_l0 : ∀ (r1 : List Int) (r2 : Bool) (w : World) (ro : Nat → Prop) (B : Nat) (_ : Fr TE (cx0 Tryd.f8 none w ro B)) (x7 : Bool) (x8 : List Int) (x21 : List (List Int)) (x22 : Int) (x23 : Int) (_ : spec_ShapeOf.l0 k x7 x8 x21 x22 x23 = some (r1, r2)), Kp (WS TE (cx0 Tryd.f8 none w ro B) (stkAt [1, 1, 1, 0, 1, 0] [] (bodyOf Tryd.f8) []) ⟨[(7, .v (.bool x7)), (8, .ow 1008 0), (21, .sl 1 (rX (cL (cI .i64) 1) x21)), (22, .v (.int .i64 x22)), (23, .v (.int .i64 x23))], [(1008, .own 0 3 1 (rX (cI .i64) x8))]⟩ (RetQ TE Tryd.f8 none [.own 3 1 (rX (cI .i64) r1), .ro (.v (.bool r2))] [] w ro B))
 s_l1 : ∀ (r1 : List Int) (r2 : Bool) (w : World) (ro : Nat → Prop) (B : Nat) (_ : Fr TE (cx0 Tryd.f8 none w ro B)) (J0 : St → Prop) (_ : ∀ m σ, m ≤ k → spec_ShapeOf.I0 r1 r2 m σ → J0 σ) (x7 : Bool) (x8 : List Int) (x10 : List Int) (x21 : List (List Int)) (x22 : Int) (x23 : Int) (x27 : List Int) (x28 : Int) (x29 : Int) (_ : spec_ShapeOf.l1 k x7 x8 x10 x21 x22 x23 x27 x28 x29 = some (r1, r2)), Kp (WS TE (cx0 Tryd.f8 none w ro B) (stkAt [1, 1, 1, 0, 1, 0, 0, 1, 1, 0, 0, 1, 0, 1, 0] [J0] (bodyOf Tryd.f8) []) ⟨[(7, .v (.bool x7)), (8, .ow 1008 0), (10, .sl 1 (rX (cI .i64) x10)), (21, .sl 1 (rX (cL (cI .i64) 1) x21)), (22, .v (.int .i64 x22)), (23, .v (.int .i64 x23)), (27, .sl 1 (rX (cI .i64) x27)), (28, .v (.int .i64 x28)), (29, .v (.int .i64 x29))], [(1008, .own 0 3 1 (rX (cI .i64) x8))]⟩ (RetQ TE Tryd.f8 none [.own 3 1 (rX (cI .i64) r1), .ro (.v (.bool r2))] [] w ro B))
set_option maxRecDepth 100000 in
set_option maxHeartbeats 4000000 in
theorem spec_ShapeOf.c_l0 (k : Nat) (ih : Kp (∀ m, m < k → spec_ShapeOf.C m)) (r1 : List Int) (r2 : Bool) (w : World) (ro : Nat → Prop) (B : Nat) (hF : Fr TE (cx0 Tryd.f8 none w ro B)) (x7 : Bool) (x8 : List Int) (x21 : List (List Int)) (x22 : Int) (x23 : Int) (h : spec_ShapeOf.l0 k x7 x8 x21 x22 x23 = some (r1, r2)) : Kp (WS TE (cx0 Tryd.f8 none w ro B) (stkAt [1, 1, 1, 0, 1, 0] [] (bodyOf Tryd.f8) []) ⟨[(7, .v (.bool x7)), (8, .ow 1008 0), (21, .sl 1 (rX (cL (cI .i64) 1) x21)), (22, .v (.int .i64 x22)), (23, .v (.int .i64 x23))], [(1008, .own 0 3 1 (rX (cI .i64) x8))]⟩ (RetQ TE Tryd.f8 none [.own 3 1 (rX (cI .i64) r1), .ro (.v (.bool r2))] [] w ro B)) := by
 refine ⟨WS.loop (fun m σ => m ≤ k ∧ spec_ShapeOf.I0 r1 r2 m σ) k ⟨Nat.le_refl k, x7, x8, x21, x22, x23, h, rfl⟩ (fun m σ' hI J0 hJ0 => ?_)⟩
 clear h
 obtain ⟨hk, x7, x8, x21, x22, x23, h, rfl⟩ := hI
 cases m with
 | zero => simp [spec_ShapeOf.l0] at h
 | succ k' =>
 simp only [spec_ShapeOf.l0] at h
 by_cases c2 : x23 < x22
 · rw [if_pos c2] at h
   by_cases c3 : 0 ≤ x23
   · rw [if_pos c3] at h
     by_cases c4 : x23 < (x21.length : Int)
     · rw [if_pos c4] at h
       refine path_ok (k := 13) hF (RetQ_mild _ _ _ _ _ _ _ _) (ds := [.b true, .e 25 (.rf [.sl 1 (rX (cI .i64) (rd_L5 x21 x23))]), .e 28 (.v (.int .i64 ((rd_L5 x21 x23).length : Int)))]) (os := []) (c := none) rfl KD ?_
       exact WS.can [(1008, some 1008)] (((ih.out k' (by omega)).s_l1  r1 r2 w ro B hF J0 (fun m σ hm hI => hJ0 m σ (by omega) ⟨by omega, hI⟩) x7 x8 (rd_L5 x21 x23) x21 x22 x23 (rd_L5 x21 x23) ((rd_L5 x21 x23).length : Int) 0 h).out) KD
     · rw [if_neg c4] at h
       cases h
   · rw [if_neg c3] at h
     cases h
 · rw [if_neg c2] at h
   refine path_ok (k := 8) hF (RetQ_mild _ _ _ _ _ _ _ _) (ds := [.b false]) (os := []) (c := none) rfl KD ?_
   cases h
   exact ret_as (ms := [.own, .ro]) rfl KD
set_option maxRecDepth 100000 in
set_option maxHeartbeats 4000000 in
theorem spec_ShapeOf.c_l1 (k : Nat) (ih : Kp (∀ m, m < k → spec_ShapeOf.C m)) (r1 : List Int) (r2 : Bool) (w : World) (ro : Nat → Prop) (B : Nat) (hF : Fr TE (cx0 Tryd.f8 none w ro B)) (J0 : St → Prop) (hJ0 : ∀ m σ, m ≤ k → spec_ShapeOf.I0 r1 r2 m σ → J0 σ) (x7 : Bool) (x8 : List Int) (x10 : List Int) (x21 : List (List Int)) (x22 : Int) (x23 : Int) (x27 : List Int) (x28 : Int) (x29 : Int) (h : spec_ShapeOf.l1 k x7 x8 x10 x21 x22 x23 x27 x28 x29 = some (r1, r2)) : Kp (WS TE (cx0 Tryd.f8 none w ro B) (stkAt [1, 1, 1, 0, 1, 0, 0, 1, 1, 0, 0, 1, 0, 1, 0] [J0] (bodyOf Tryd.f8) []) ⟨[(7, .v (.bool x7)), (8, .ow 1008 0), (10, .sl 1 (rX (cI .i64) x10)), (21, .sl 1 (rX (cL (cI .i64) 1) x21)), (22, .v (.int .i64 x22)), (23, .v (.int .i64 x23)), (27, .sl 1 (rX (cI .i64) x27)), (28, .v (.int .i64 x28)), (29, .v (.int .i64 x29))], [(1008, .own 0 3 1 (rX (cI .i64) x8))]⟩ (RetQ TE Tryd.f8 none [.own 3 1 (rX (cI .i64) r1), .ro (.v (.bool r2))] [] w ro B)) := by
 refine ⟨WS.loop (fun m σ => m ≤ k ∧ spec_ShapeOf.I1 r1 r2 m σ) k ⟨Nat.le_refl k, x7, x8, x10, x21, x22, x23, x27, x28, x29, h, rfl⟩ (fun m σ' hI J1 hJ1 => ?_)⟩
 clear h
 obtain ⟨hk, x7, x8, x10, x21, x22, x23, x27, x28, x29, h, rfl⟩ := hI
 cases m with
 | zero => simp [spec_ShapeOf.l1] at h
 | succ k' =>
 simp only [spec_ShapeOf.l1] at h
 by_cases c5 : x29 < x28
 · rw [if_pos c5] at h
   by_cases c6 : 0 ≤ x29
   · rw [if_pos c6] at h
     by_cases c7 : x29 < (x27.length : Int)
     · rw [if_pos c7] at h
       by_cases c8 : 0 < (x10.length : Int)
       · rw [if_pos c8] at h
         by_cases c9 : (rd x27 x29) = (rd x10 0)
         · rw [if_pos c9] at h
           refine path_ok (k := 15) hF (RetQ_mild _ _ _ _ _ _ _ _) (ds := [.b true, .e 31 (.rf [.v (.int .i64 (rd x27 x29))]), .e 35 (.rf [.v (.int .i64 (rd x10 0))]), .b false]) (os := []) (c := none) rfl KD ?_
           exact WS.lpc [(1008, some 1008)] (hJ1 _ _ (Nat.lt_succ_self _) ⟨by omega, x7, x8, x10, x21, x22, x23, x27, x28, (wrap64 (x29 + 1)), h, rfl⟩) KD
         · rw [if_neg c9] at h
           refine path_ok (k := 15) hF (RetQ_mild _ _ _ _ _ _ _ _) (ds := [.b true, .e 31 (.rf [.v (.int .i64 (rd x27 x29))]), .e 35 (.rf [.v (.int .i64 (rd x10 0))]), .b true, .p 38 ([])]) (os := []) (c := none) rfl KD ?_
           cases h
           exact ret_as (ms := [.own, .ro]) rfl KD
       · rw [if_neg c8] at h
         cases h
     · rw [if_neg c7] at h
       cases h
   · rw [if_neg c6] at h
     cases h
 · rw [if_neg c5] at h
   by_cases c10 : (x10.length : Int) = 0
   · rw [if_pos c10] at h
     by_cases c11 : x8.length < 17592186044416
     · rw [if_pos c11] at h
       refine path_ok (k := 11) hF (RetQ_mild _ _ _ _ _ _ _ _) (ds := [.b false, .e 41 (.v (.int .i64 (x10.length : Int))), .b true, .p 44 ([[.v (.int .i64 0)]]), .o 45 (rX (cI .i64) (x8 ++ [0]))]) (os := []) (c := none) rfl KD ?_
       exact WS.lpc [(1008, some 1008)] (hJ0 _ _ (by omega) ⟨x7, (x8 ++ [0]), x21, x22, (wrap64 (x23 + 1)), h, rfl⟩) KD
     · rw [if_neg c11] at h
       cases h
   · rw [if_neg c10] at h
     by_cases c12 : 0 < (x10.length : Int)
     · rw [if_pos c12] at h
       by_cases c13 : x8.length < 17592186044416
       · rw [if_pos c13] at h
         refine path_ok (k := 11) hF (RetQ_mild _ _ _ _ _ _ _ _) (ds := [.b false, .e 41 (.v (.int .i64 (x10.length : Int))), .b false, .e 48 (.rf [.v (.int .i64 (rd x10 0))]), .p 50 ([[.v (.int .i64 (rd x10 0))]]), .o 51 (rX (cI .i64) (x8 ++ [rd x10 0]))]) (os := []) (c := none) rfl KD ?_
         exact WS.lpc [(1008, some 1008)] (hJ0 _ _ (by omega) ⟨x7, (x8 ++ [rd x10 0]), x21, x22, (wrap64 (x23 + 1)), h, rfl⟩) KD
       · rw [if_neg c13] at h
         cases h
     · rw [if_neg c12] at h
       cases h
theorem spec_ShapeOf.cs (k : Nat) : spec_ShapeOf.C k := by
 induction k using Nat.strongRecOn with
 | _ k ih0 =>
 have ih : Kp (∀ m, m < k → spec_ShapeOf.C m) := ⟨ih0⟩
 exact ⟨spec_ShapeOf.c_l0 k ih, spec_ShapeOf.c_l1 k ih⟩
set_option maxRecDepth 100000 in
set_option maxHeartbeats 4000000 in
theorem spec_ShapeOf.ctr (k : Nat) (a0 : ByteArray) (a1 : Int) (r1 : List Int) (r2 : Bool) (h : spec_ShapeOf.f k a0 a1 = some (r1, r2)) : Ctr TE 8 none [.v (.string a0), .v (.int .i64 a1)] [.own 3 1 (rX (cI .i64) r1), .ro (.v (.bool r2))] [] := by
 refine ctr_of (fn := Tryd.f8) (c := (bodyOf Tryd.f8)) Tryd.func8 rfl (by kernel_rfl) (Nat.le_of_ble_eq_true (by kernel_rfl)) (fun w ro B hF _ => ?_)
 have ih : Kp (∀ m, m < k + 1 → spec_ShapeOf.C m) := ⟨fun m _ => spec_ShapeOf.cs m⟩
 simp only [spec_ShapeOf.f] at h
 obtain ⟨⟨t411, t414, t417⟩, q1, h⟩ := Option.bind_eq_some_iff.1 h
 dsimp only at h
 have q1c := spec_LayOut.ctr k _ _ _ _ _ q1
 refine path_ok (k := 10) hF (RetQ_mild _ _ _ _ _ _ _ _) (ds := [.r [.ro (.ag [.sl 1 (rX (cL (cI .i64) 1) t411), .sl 1 (rX (cI .i64) t414)]), .ro (.v (.bool t417))] [], .p 19 ([]), .e 22 (.v (.int .i64 (t411.length : Int)))]) (os := []) (c := none) rfl KD ?_
 exact WS.can [(1008, some 19)] (((ih.out k (by omega)).s_l0  r1 r2 w ro B hF t417 (([] : List Int)) t411 (t411.length : Int) 0 h).out) KD
def laws_faSame.l0 : Nat → List Int → List Int → Int → Int → Option (Bool)
  | 0, _, _, _, _ => none
  | k + 1, x0, x1, x10, x11 => if x11 < x10 then (if 0 ≤ x11 then (if x11 < (x0.length : Int) then (if x11 < (x1.length : Int) then (if (rd x0 x11) = (rd x1 x11) then (laws_faSame.l0 k x0 x1 x10 (wrap64 (x11 + 1))) else (some false)) else (none)) else (none)) else (none)) else (some ((x0.length : Int) == (x1.length : Int)))
def laws_faSame.f (k : Nat) (l0 : List Int) (l1 : List Int) : Option (Bool) := laws_faSame.l0 k l0 l1 (mn (l0.length : Int) (l1.length : Int)) 0
def laws_faSame.I0 (r : Bool) (m : Nat) (σ : St) : Prop := ∃ (x0 : List Int) (x1 : List Int) (x10 : Int) (x11 : Int), laws_faSame.l0 m x0 x1 x10 x11 = some r ∧ σ = ⟨[(0, .sl 1 (rX (cI .i64) x0)), (1, .sl 1 (rX (cI .i64) x1)), (10, .v (.int .i64 x10)), (11, .v (.int .i64 x11))], []⟩
structure laws_faSame.C (k : Nat) : Prop where
 s_l0 : ∀ (r : Bool) (w : World) (ro : Nat → Prop) (B : Nat) (_ : Fr TE (cx0 Tryd.f9 none w ro B)) (x0 : List Int) (x1 : List Int) (x10 : Int) (x11 : Int) (_ : laws_faSame.l0 k x0 x1 x10 x11 = some r), Kp (WS TE (cx0 Tryd.f9 none w ro B) (stkAt [1, 0, 1, 0] [] (bodyOf Tryd.f9) []) ⟨[(0, .sl 1 (rX (cI .i64) x0)), (1, .sl 1 (rX (cI .i64) x1)), (10, .v (.int .i64 x10)), (11, .v (.int .i64 x11))], []⟩ (RetQ TE Tryd.f9 none [.ro (.v (.bool r))] [] w ro B))
set_option maxRecDepth 100000 in
set_option maxHeartbeats 4000000 in
theorem laws_faSame.c_l0 (k : Nat) (ih : Kp (∀ m, m < k → laws_faSame.C m)) (r : Bool) (w : World) (ro : Nat → Prop) (B : Nat) (hF : Fr TE (cx0 Tryd.f9 none w ro B)) (x0 : List Int) (x1 : List Int) (x10 : Int) (x11 : Int) (h : laws_faSame.l0 k x0 x1 x10 x11 = some r) : Kp (WS TE (cx0 Tryd.f9 none w ro B) (stkAt [1, 0, 1, 0] [] (bodyOf Tryd.f9) []) ⟨[(0, .sl 1 (rX (cI .i64) x0)), (1, .sl 1 (rX (cI .i64) x1)), (10, .v (.int .i64 x10)), (11, .v (.int .i64 x11))], []⟩ (RetQ TE Tryd.f9 none [.ro (.v (.bool r))] [] w ro B)) := by
 refine ⟨WS.loop (fun m σ => m ≤ k ∧ laws_faSame.I0 r m σ) k ⟨Nat.le_refl k, x0, x1, x10, x11, h, rfl⟩ (fun m σ' hI J0 hJ0 => ?_)⟩
 clear h
 obtain ⟨hk, x0, x1, x10, x11, h, rfl⟩ := hI
 cases m with
 | zero => simp [laws_faSame.l0] at h
 | succ k' =>
 simp only [laws_faSame.l0] at h
 by_cases c1 : x11 < x10
 · rw [if_pos c1] at h
   by_cases c2 : 0 ≤ x11
   · rw [if_pos c2] at h
     by_cases c3 : x11 < (x0.length : Int)
     · rw [if_pos c3] at h
       by_cases c4 : x11 < (x1.length : Int)
       · rw [if_pos c4] at h
         by_cases c5 : (rd x0 x11) = (rd x1 x11)
         · rw [if_pos c5] at h
           refine path_ok (k := 15) hF (RetQ_mild _ _ _ _ _ _ _ _) (ds := [.b true, .e 16 (.rf [.v (.int .i64 (rd x0 x11))]), .e 20 (.rf [.v (.int .i64 (rd x1 x11))]), .b false]) (os := [.o [(0, 0), (1, 0), (2, 0), (3, 1), (4, 0), (5, 0), (6, 0), (7, 1), (8, 0)] []]) (c := none) rfl KD ?_
           exact WS.lpc [] (hJ0 _ _ (Nat.lt_succ_self _) ⟨by omega, x0, x1, x10, (wrap64 (x11 + 1)), h, rfl⟩) KD
         · rw [if_neg c5] at h
           refine path_ok (k := 15) hF (RetQ_mild _ _ _ _ _ _ _ _) (ds := [.b true, .e 16 (.rf [.v (.int .i64 (rd x0 x11))]), .e 20 (.rf [.v (.int .i64 (rd x1 x11))]), .b true]) (os := [.o [(0, 0), (1, 0), (2, 0), (3, 1), (4, 0), (5, 0), (6, 0), (7, 1), (8, 0)] []]) (c := none) rfl KD ?_
           cases h
           exact ret_as (ms := [.ro]) rfl KD
       · rw [if_neg c4] at h
         cases h
     · rw [if_neg c3] at h
       cases h
   · rw [if_neg c2] at h
     cases h
 · rw [if_neg c1] at h
   refine path_ok (k := 8) hF (RetQ_mild _ _ _ _ _ _ _ _) (ds := [.b false, .e 25 (.v (.int .i64 (x0.length : Int))), .e 27 (.v (.int .i64 (x1.length : Int)))]) (os := []) (c := none) rfl KD ?_
   cases h
   exact ret_as (ms := [.ro]) rfl KD
theorem laws_faSame.cs (k : Nat) : laws_faSame.C k := by
 induction k using Nat.strongRecOn with
 | _ k ih0 =>
 have ih : Kp (∀ m, m < k → laws_faSame.C m) := ⟨ih0⟩
 exact ⟨laws_faSame.c_l0 k ih⟩
set_option maxRecDepth 100000 in
set_option maxHeartbeats 4000000 in
theorem laws_faSame.ctr (k : Nat) (l0 : List Int) (l1 : List Int) (r : Bool) (h : laws_faSame.f k l0 l1 = some r) : Ctr TE 9 none [.sl 1 (rX (cI .i64) l0), .sl 1 (rX (cI .i64) l1)] [.ro (.v (.bool r))] [] := by
 refine ctr_of (fn := Tryd.f9) (c := (bodyOf Tryd.f9)) Tryd.func9 rfl (by kernel_rfl) (Nat.le_of_ble_eq_true (by kernel_rfl)) (fun w ro B hF _ => ?_)
 have ih : Kp (∀ m, m < k + 1 → laws_faSame.C m) := ⟨fun m _ => laws_faSame.cs m⟩
 simp only [laws_faSame.f] at h
 refine path_ok (k := 6) hF (RetQ_mild _ _ _ _ _ _ _ _) (ds := [.e 7 (.v (.int .i64 (l0.length : Int))), .e 9 (.v (.int .i64 (l1.length : Int)))]) (os := []) (c := none) rfl KD ?_
 exact WS.can [] (((ih.out k (by omega)).s_l0  r w ro B hF l0 l1 (mn (l0.length : Int) (l1.length : Int)) 0 h).out) KD
def impl_IsRegular.f (k : Nat) (a0 : ByteArray) (a1 : Int) : Option (Bool) := (impl_ShapeOf.f k a0 a1).bind fun bt437 => (some bt437.2)
set_option maxRecDepth 100000 in
set_option maxHeartbeats 4000000 in
theorem impl_IsRegular.ctr (k : Nat) (a0 : ByteArray) (a1 : Int) (r : Bool) (h : impl_IsRegular.f k a0 a1 = some r) : Ctr TE 10 none [.v (.string a0), .v (.int .i64 a1)] [.ro (.v (.bool r))] [] := by
 refine ctr_of (fn := Tryd.f10) (c := (bodyOf Tryd.f10)) Tryd.func10 rfl (by kernel_rfl) (Nat.le_of_ble_eq_true (by kernel_rfl)) (fun w ro B hF _ => ?_)
 simp only [impl_IsRegular.f] at h
 obtain ⟨⟨t437, t438⟩, q1, h⟩ := Option.bind_eq_some_iff.1 h
 dsimp only at h
 have q1c := impl_ShapeOf.ctr k _ _ _ _ q1
 refine path_ok (k := 7) hF (RetQ_mild _ _ _ _ _ _ _ _) (ds := [.r [.own 3 1 (rX (cI .i64) t437), .ro (.v (.bool t438))] []]) (os := []) (c := none) rfl KD ?_
 cases h
 exact ret_as (ms := [.ro]) rfl KD
def spec_IsRegular.f (k : Nat) (a0 : ByteArray) (a1 : Int) : Option (Bool) := (spec_ShapeOf.f k a0 a1).bind fun bt441 => (some bt441.2)
set_option maxRecDepth 100000 in
set_option maxHeartbeats 4000000 in
theorem spec_IsRegular.ctr (k : Nat) (a0 : ByteArray) (a1 : Int) (r : Bool) (h : spec_IsRegular.f k a0 a1 = some r) : Ctr TE 11 none [.v (.string a0), .v (.int .i64 a1)] [.ro (.v (.bool r))] [] := by
 refine ctr_of (fn := Tryd.f11) (c := (bodyOf Tryd.f11)) Tryd.func11 rfl (by kernel_rfl) (Nat.le_of_ble_eq_true (by kernel_rfl)) (fun w ro B hF _ => ?_)
 simp only [spec_IsRegular.f] at h
 obtain ⟨⟨t441, t442⟩, q1, h⟩ := Option.bind_eq_some_iff.1 h
 dsimp only at h
 have q1c := spec_ShapeOf.ctr k _ _ _ _ q1
 refine path_ok (k := 7) hF (RetQ_mild _ _ _ _ _ _ _ _) (ds := [.r [.own 3 1 (rX (cI .i64) t441), .ro (.v (.bool t442))] []]) (os := []) (c := none) rfl KD ?_
 cases h
 exact ret_as (ms := [.ro]) rfl KD
mutual
def spec_DrawFillShape.l0 : Nat → List Int → Int → Int → Int → List Int → Int → Option (List Int × List Int)
  | 0, _, _, _, _, _, _ => none
  | k + 1, x5, x6, x13, x14, x448000, x448001 => if x14 < x13 then ((spec_l13Rd_num.f k x448000 x448001 (([2, 1, 3, 0, 2] : List Int))).bind fun bt456 => (if x5.length < 17592186044416 then (spec_DrawFillShape.l0 k (x5 ++ [bt456.1]) (wrap64 (x6 * bt456.1)) x13 (wrap64 (x14 + 1)) x448000 bt456.2) else (none))) else (spec_DrawFillShape.l1 k x5 (([] : List Int)) x6 0 x448000 x448001)
def spec_DrawFillShape.l1 : Nat → List Int → List Int → Int → Int → List Int → Int → Option (List Int × List Int)
  | 0, _, _, _, _, _, _ => none
  | k + 1, x5, x8, x28, x29, x448000, x448001 => if x29 < x28 then ((spec_l13Rd_pick.f k x448000 x448001 100).bind fun bt464 => (if x8.length < 17592186044416 then (spec_DrawFillShape.l1 k x5 (x8 ++ [bt464.1]) x28 (wrap64 (x29 + 1)) x448000 bt464.2) else (none))) else ((spec_l13Rd_pick.f k x448000 x448001 16).bind fun bt469 => (if bt469.1 = 0 then ((spec_l13Rd_num.f k x448000 bt469.2 (([1, (-1)] : List Int))).bind fun bt474 => (if x8.length < 17592186044416 then (some (x5, (x8 ++ [bt474.1]))) else (none))) else (if bt469.1 = 1 then ((spec_l13Rd_num.f k x448000 bt469.2 (([(-1), 401, 1, 9223372036854775807] : List Int))).bind fun bt482 => (if x5.length < 17592186044416 then (some ((x5 ++ [bt482.1]), x8)) else (none))) else (some (x5, x8)))))
end
def spec_DrawFillShape.f (k : Nat) (l0 : List Int) : Option (List Int × List Int) := (spec_l13Open.f l0).bind fun bt445 => ((spec_l13Rd_pick.f k bt445.1 bt445.2 4).bind fun bt451 => (spec_DrawFillShape.l0 k (([] : List Int)) 1 bt451.1 0 bt445.1 bt451.2))
def spec_DrawFillShape.I0 (r1 : List Int) (r2 : List Int) (m : Nat) (σ : St) : Prop := ∃ (x5 : List Int) (x6 : Int) (x13 : Int) (x14 : Int) (x448000 : List Int) (x448001 : Int), spec_DrawFillShape.l0 m x5 x6 x13 x14 x448000 x448001 = some (r1, r2) ∧ σ = ⟨[(4, .pt 1004 0 0), (5, .ow 1005 0), (6, .v (.int .i64 x6)), (13, .v (.int .i64 x13)), (14, .v (.int .i64 x14))], [(1004, .box 0 88 false [.sl 1 (rX (cI .u8) x448000), .v (.int .i64 x448001)]), (1005, .own 0 3 1 (rX (cI .i64) x5))]⟩
def spec_DrawFillShape.I1 (r1 : List Int) (r2 : List Int) (m : Nat) (σ : St) : Prop := ∃ (x5 : List Int) (x8 : List Int) (x28 : Int) (x29 : Int) (x448000 : List Int) (x448001 : Int), spec_DrawFillShape.l1 m x5 x8 x28 x29 x448000 x448001 = some (r1, r2) ∧ σ = ⟨[(4, .pt 1004 0 0), (5, .ow 1005 0), (8, .ow 1008 0), (28, .v (.int .i64 x28)), (29, .v (.int .i64 x29))], [(1004, .box 0 88 false [.sl 1 (rX (cI .u8) x448000), .v (.int .i64 x448001)]), (1005, .own 0 3 1 (rX (cI .i64) x5)), (1008, .own 0 3 1 (rX (cI .i64) x8))]⟩
structure spec_DrawFillShape.C (k : Nat) : Prop where
 s_l0 : ∀ (r1 : List Int) (r2 : List Int) (w : World) (ro : Nat → Prop) (B : Nat) (_ : Fr TE (cx0 Tryd.f12 none w ro B)) (x5 : List Int) (x6 : Int) (x13 : Int) (x14 : Int) (x448000 : List Int) (x448001 : Int) (_ : spec_DrawFillShape.l0 k x5 x6 x13 x14 x448000 x448001 = some (r1, r2)), Kp (WS TE (cx0 Tryd.f12 none w ro B) (stkAt [1, 1, 1, 1, 0, 1, 0] [] (bodyOf Tryd.f12) []) ⟨[(4, .pt 1004 0 0), (5, .ow 1005 0), (6, .v (.int .i64 x6)), (13, .v (.int .i64 x13)), (14, .v (.int .i64 x14))], [(1004, .box 0 88 false [.sl 1 (rX (cI .u8) x448000), .v (.int .i64 x448001)]), (1005, .own 0 3 1 (rX (cI .i64) x5))]⟩ (RetQ TE Tryd.f12 none [.own 3 1 (rX (cI .i64) r1), .own 3 1 (rX (cI .i64) r2)] [] w ro B))
 s_l1 : ∀ (r1 : List Int) (r2 : List Int) (w : World) (ro : Nat → Prop) (B : Nat) (_ : Fr TE (cx0 Tryd.f12 none w ro B)) (x5 : List Int) (x8 : List Int) (x28 : Int) (x29 : Int) (x448000 : List Int) (x448001 : Int) (_ : spec_DrawFillShape.l1 k x5 x8 x28 x29 x448000 x448001 = some (r1, r2)), Kp (WS TE (cx0 Tryd.f12 none w ro B) (stkAt [1, 1, 1, 1, 1, 1, 0, 1, 0] [] (bodyOf Tryd.f12) []) ⟨[(4, .pt 1004 0 0), (5, .ow 1005 0), (8, .ow 1008 0), (28, .v (.int .i64 x28)), (29, .v (.int .i64 x29))], [(1004, .box 0 88 false [.sl 1 (rX (cI .u8) x448000), .v (.int .i64 x448001)]), (1005, .own 0 3 1 (rX (cI .i64) x5)), (1008, .own 0 3 1 (rX (cI .i64) x8))]⟩ (RetQ TE Tryd.f12 none [.own 3 1 (rX (cI .i64) r1), .own 3 1 (rX (cI .i64) r2)] [] w ro B))
set_option maxRecDepth 100000 in
set_option maxHeartbeats 4000000 in
theorem spec_DrawFillShape.c_l0 (k : Nat) (ih : Kp (∀ m, m < k → spec_DrawFillShape.C m)) (r1 : List Int) (r2 : List Int) (w : World) (ro : Nat → Prop) (B : Nat) (hF : Fr TE (cx0 Tryd.f12 none w ro B)) (x5 : List Int) (x6 : Int) (x13 : Int) (x14 : Int) (x448000 : List Int) (x448001 : Int) (h : spec_DrawFillShape.l0 k x5 x6 x13 x14 x448000 x448001 = some (r1, r2)) : Kp (WS TE (cx0 Tryd.f12 none w ro B) (stkAt [1, 1, 1, 1, 0, 1, 0] [] (bodyOf Tryd.f12) []) ⟨[(4, .pt 1004 0 0), (5, .ow 1005 0), (6, .v (.int .i64 x6)), (13, .v (.int .i64 x13)), (14, .v (.int .i64 x14))], [(1004, .box 0 88 false [.sl 1 (rX (cI .u8) x448000), .v (.int .i64 x448001)]), (1005, .own 0 3 1 (rX (cI .i64) x5))]⟩ (RetQ TE Tryd.f12 none [.own 3 1 (rX (cI .i64) r1), .own 3 1 (rX (cI .i64) r2)] [] w ro B)) := by
 refine ⟨WS.loop (fun m σ => m ≤ k ∧ spec_DrawFillShape.I0 r1 r2 m σ) k ⟨Nat.le_refl k, x5, x6, x13, x14, x448000, x448001, h, rfl⟩ (fun m σ' hI J0 hJ0 => ?_)⟩
 clear h
 obtain ⟨hk, x5, x6, x13, x14, x448000, x448001, h, rfl⟩ := hI
 cases m with
 | zero => simp [spec_DrawFillShape.l0] at h
 | succ k' =>
 simp only [spec_DrawFillShape.l0] at h
 by_cases c3 : x14 < x13
 · rw [if_pos c3] at h
   obtain ⟨⟨t456, t457⟩, q4, h⟩ := Option.bind_eq_some_iff.1 h
   dsimp only at h
   have q4c := spec_l13Rd_num.ctr k' _ _ _ _ _ q4
   by_cases c5 : x5.length < 17592186044416
   · rw [if_pos c5] at h
     refine path_ok (k := 14) hF (RetQ_mild _ _ _ _ _ _ _ _) (ds := [.b true, .p 17 ([[.v (.int .i64 2)], [.v (.int .i64 1)], [.v (.int .i64 3)], [.v (.int .i64 0)], [.v (.int .i64 2)]]), .r [.ro (.v (.int .i64 t456))] [.sl 1 (rX (cI .u8) x448000), .v (.int .i64 t457)], .p 21 ([[.v (.int .i64 t456)]]), .o 22 (rX (cI .i64) (x5 ++ [t456]))]) (os := []) (c := none) rfl KD ?_
     exact WS.lpc [(1004, some 1004), (1005, some 1005)] (hJ0 _ _ (Nat.lt_succ_self _) ⟨by omega, (x5 ++ [t456]), (wrap64 (x6 * t456)), x13, (wrap64 (x14 + 1)), x448000, t457, h, rfl⟩) KD
   · rw [if_neg c5] at h
     cases h
 · rw [if_neg c3] at h
   refine path_ok (k := 11) hF (RetQ_mild _ _ _ _ _ _ _ _) (ds := [.b false, .p 27 ([])]) (os := []) (c := none) rfl KD ?_
   exact WS.can [(1004, some 1004), (1005, some 1005), (1008, some 27)] (((ih.out k' (by omega)).s_l1  r1 r2 w ro B hF x5 (([] : List Int)) x6 0 x448000 x448001 h).out) KD
set_option maxRecDepth 100000 in
set_option maxHeartbeats 4000000 in
theorem spec_DrawFillShape.c_l1 (k : Nat) (ih : Kp (∀ m, m < k → spec_DrawFillShape.C m)) (r1 : List Int) (r2 : List Int) (w : World) (ro : Nat → Prop) (B : Nat) (hF : Fr TE (cx0 Tryd.f12 none w ro B)) (x5 : List Int) (x8 : List Int) (x28 : Int) (x29 : Int) (x448000 : List Int) (x448001 : Int) (h : spec_DrawFillShape.l1 k x5 x8 x28 x29 x448000 x448001 = some (r1, r2)) : Kp (WS TE (cx0 Tryd.f12 none w ro B) (stkAt [1, 1, 1, 1, 1, 1, 0, 1, 0] [] (bodyOf Tryd.f12) []) ⟨[(4, .pt 1004 0 0), (5, .ow 1005 0), (8, .ow 1008 0), (28, .v (.int .i64 x28)), (29, .v (.int .i64 x29))], [(1004, .box 0 88 false [.sl 1 (rX (cI .u8) x448000), .v (.int .i64 x448001)]), (1005, .own 0 3 1 (rX (cI .i64) x5)), (1008, .own 0 3 1 (rX (cI .i64) x8))]⟩ (RetQ TE Tryd.f12 none [.own 3 1 (rX (cI .i64) r1), .own 3 1 (rX (cI .i64) r2)] [] w ro B)) := by
 refine ⟨WS.loop (fun m σ => m ≤ k ∧ spec_DrawFillShape.I1 r1 r2 m σ) k ⟨Nat.le_refl k, x5, x8, x28, x29, x448000, x448001, h, rfl⟩ (fun m σ' hI J1 hJ1 => ?_)⟩
 clear h
 obtain ⟨hk, x5, x8, x28, x29, x448000, x448001, h, rfl⟩ := hI
 cases m with
 | zero => simp [spec_DrawFillShape.l1] at h
 | succ k' =>
 simp only [spec_DrawFillShape.l1] at h
 by_cases c6 : x29 < x28
 · rw [if_pos c6] at h
   obtain ⟨⟨t464, t465⟩, q7, h⟩ := Option.bind_eq_some_iff.1 h
   dsimp only at h
   have q7c := spec_l13Rd_pick.ctr k' _ _ _ _ _ q7
   by_cases c8 : x8.length < 17592186044416
   · rw [if_pos c8] at h
     refine path_ok (k := 10) hF (RetQ_mild _ _ _ _ _ _ _ _) (ds := [.b true, .r [.ro (.v (.int .i64 t464))] [.sl 1 (rX (cI .u8) x448000), .v (.int .i64 t465)], .p 34 ([[.v (.int .i64 t464)]]), .o 35 (rX (cI .i64) (x8 ++ [t464]))]) (os := []) (c := none) rfl KD ?_
     exact WS.lpc [(1004, some 1004), (1005, some 1005), (1008, some 1008)] (hJ1 _ _ (Nat.lt_succ_self _) ⟨by omega, x5, (x8 ++ [t464]), x28, (wrap64 (x29 + 1)), x448000, t465, h, rfl⟩) KD
   · rw [if_neg c8] at h
     cases h
 · rw [if_neg c6] at h
   obtain ⟨⟨t469, t470⟩, q9, h⟩ := Option.bind_eq_some_iff.1 h
   dsimp only at h
   have q9c := spec_l13Rd_pick.ctr k' _ _ _ _ _ q9
   by_cases c10 : t469 = 0
   · rw [if_pos c10] at h
     obtain ⟨⟨t474, t475⟩, q11, h⟩ := Option.bind_eq_some_iff.1 h
     dsimp only at h
     have q11c := spec_l13Rd_num.ctr k' _ _ _ _ _ q11
     by_cases c12 : x8.length < 17592186044416
     · rw [if_pos c12] at h
       refine path_ok (k := 17) hF (RetQ_mild _ _ _ _ _ _ _ _) (ds := [.b false, .r [.ro (.v (.int .i64 t469))] [.sl 1 (rX (cI .u8) x448000), .v (.int .i64 t470)], .b true, .p 43 ([[.v (.int .i64 1)], [.v (.int .i64 (-1))]]), .r [.ro (.v (.int .i64 t474))] [.sl 1 (rX (cI .u8) x448000), .v (.int .i64 t475)], .p 45 ([[.v (.int .i64 t474)]]), .o 46 (rX (cI .i64) (x8 ++ [t474]))]) (os := []) (c := none) rfl KD ?_
       cases h
       exact ret_as (ms := [.own, .own]) rfl KD
     · rw [if_neg c12] at h
       cases h
   · rw [if_neg c10] at h
     by_cases c13 : t469 = 1
     · rw [if_pos c13] at h
       obtain ⟨⟨t482, t483⟩, q14, h⟩ := Option.bind_eq_some_iff.1 h
       dsimp only at h
       have q14c := spec_l13Rd_num.ctr k' _ _ _ _ _ q14
       by_cases c15 : x5.length < 17592186044416
       · rw [if_pos c15] at h
         refine path_ok (k := 20) hF (RetQ_mild _ _ _ _ _ _ _ _) (ds := [.b false, .r [.ro (.v (.int .i64 t469))] [.sl 1 (rX (cI .u8) x448000), .v (.int .i64 t470)], .b false, .b true, .p 51 ([[.v (.int .i64 (-1))], [.v (.int .i64 401)], [.v (.int .i64 1)], [.v (.int .i64 9223372036854775807)]]), .r [.ro (.v (.int .i64 t482))] [.sl 1 (rX (cI .u8) x448000), .v (.int .i64 t483)], .p 53 ([[.v (.int .i64 t482)]]), .o 54 (rX (cI .i64) (x5 ++ [t482]))]) (os := []) (c := none) rfl KD ?_
         cases h
         exact ret_as (ms := [.own, .own]) rfl KD
       · rw [if_neg c15] at h
         cases h
     · rw [if_neg c13] at h
       refine path_ok (k := 20) hF (RetQ_mild _ _ _ _ _ _ _ _) (ds := [.b false, .r [.ro (.v (.int .i64 t469))] [.sl 1 (rX (cI .u8) x448000), .v (.int .i64 t470)], .b false, .b false]) (os := []) (c := none) rfl KD ?_
       cases h
       exact ret_as (ms := [.own, .own]) rfl KD
theorem spec_DrawFillShape.cs (k : Nat) : spec_DrawFillShape.C k := by
 induction k using Nat.strongRecOn with
 | _ k ih0 =>
 have ih : Kp (∀ m, m < k → spec_DrawFillShape.C m) := ⟨ih0⟩
 exact ⟨spec_DrawFillShape.c_l0 k ih, spec_DrawFillShape.c_l1 k ih⟩
set_option maxRecDepth 100000 in
set_option maxHeartbeats 4000000 in
theorem spec_DrawFillShape.ctr (k : Nat) (l0 : List Int) (r1 : List Int) (r2 : List Int) (h : spec_DrawFillShape.f k l0 = some (r1, r2)) : Ctr TE 12 none [.sl 1 (rX (cI .u8) l0)] [.own 3 1 (rX (cI .i64) r1), .own 3 1 (rX (cI .i64) r2)] [] := by
 refine ctr_of (fn := Tryd.f12) (c := (bodyOf Tryd.f12)) Tryd.func12 rfl (by kernel_rfl) (Nat.le_of_ble_eq_true (by kernel_rfl)) (fun w ro B hF _ => ?_)
 have ih : Kp (∀ m, m < k + 1 → spec_DrawFillShape.C m) := ⟨fun m _ => spec_DrawFillShape.cs m⟩
 simp only [spec_DrawFillShape.f] at h
 obtain ⟨⟨t445, t446⟩, q1, h⟩ := Option.bind_eq_some_iff.1 h
 dsimp only at h
 have q1c := spec_l13Open.ctr _ _ _ q1
 obtain ⟨⟨t451, t452⟩, q2, h⟩ := Option.bind_eq_some_iff.1 h
 dsimp only at h
 have q2c := spec_l13Rd_pick.ctr k _ _ _ _ _ q2
 refine path_ok (k := 12) hF (RetQ_mild _ _ _ _ _ _ _ _) (ds := [.r [.nb 88 [.sl 1 (rX (cI .u8) t445), .v (.int .i64 t446)]] [], .p 11 ([]), .r [.ro (.v (.int .i64 t451))] [.sl 1 (rX (cI .u8) t445), .v (.int .i64 t452)]]) (os := []) (c := none) rfl KD ?_
 exact WS.can [(1004, some 100160), (1005, some 11)] (((ih.out k (by omega)).s_l0  r1 r2 w ro B hF (([] : List Int)) 1 t451 0 t445 t452 h).out) KD
def impl_dataOk.f (l0 : List Int) : Option (Bool) := if (l0.length : Int) ≤ 400 then ((impl_within.f l0 10006).bind fun t487 => (some t487)) else (some false)
set_option maxRecDepth 100000 in
set_option maxHeartbeats 4000000 in
theorem impl_dataOk.ctr (l0 : List Int) (r : Bool) (h : impl_dataOk.f l0 = some r) : Ctr TE 37 none [.sl 1 (rX (cI .i64) l0)] [.ro (.v (.bool r))] [] := by
 refine ctr_of (fn := Tryd.f37) (c := (bodyOf Tryd.f37)) Tryd.func37 rfl (by kernel_rfl) (Nat.le_of_ble_eq_true (by kernel_rfl)) (fun w ro B hF _ => ?_)
 simp only [impl_dataOk.f] at h
 by_cases c1 : (l0.length : Int) ≤ 400
 · rw [if_pos c1] at h
   obtain ⟨t487, q2, h⟩ := Option.bind_eq_some_iff.1 h
   have q2c := impl_within.ctr _ _ _ q2
   refine path_ok (k := 5) hF (RetQ_mild _ _ _ _ _ _ _ _) (ds := [.e 4 (.v (.int .i64 (l0.length : Int))), .b true, .b true, .r [.ro (.v (.bool t487))] [], .b true]) (os := []) (c := none) rfl KD ?_
   cases h
   exact ret_as (ms := [.ro]) rfl KD
 · rw [if_neg c1] at h
   refine path_ok (k := 5) hF (RetQ_mild _ _ _ _ _ _ _ _) (ds := [.e 4 (.v (.int .i64 (l0.length : Int))), .b false, .b false, .b false]) (os := []) (c := none) rfl KD ?_
   cases h
   exact ret_as (ms := [.ro]) rfl KD
mutual
def impl_fill.l0 : Nat → List Int → List Int → Int → Int → Int → List (S55) → Option (Int × (List (S55)) × List Int)
  | 0, _, _, _, _, _, _ => none
  | k + 1, x0, x1, x19, x20, x496000, x496001 => if x20 < x19 then (if 1 ≤ (x0.length : Int) then ((impl_fill.f k (x0.drop 1) x1).bind fun bt499 => (if x496001.length < 4398046511104 then (impl_fill.l0 k x0 bt499.2.2 x19 (wrap64 (x20 + 1)) x496000 (x496001 ++ [(⟨bt499.1, bt499.2.1⟩ : S55)])) else (none))) else (none)) else (some (x496000, x496001, x1))
def impl_fill.f : Nat → List Int → List Int → Option (Int × (List (S55)) × List Int)
  | 0, _, _ => none
  | k + 1, l0, l1 => if (l0.length : Int) = 0 then (if 0 < (l1.length : Int) then (if 1 ≤ (l1.length : Int) then (some (rd l1 0, ([] : List (S55)), (l1.drop 1))) else (none)) else (none)) else (if 0 < (l0.length : Int) then (impl_fill.l0 k l0 l1 (rd l0 0) 0 0 ([] : List (S55))) else (none))
end
def impl_fill.I0 (r1 : Int) (r2 : List (S55)) (r3 : List Int) (m : Nat) (σ : St) : Prop := ∃ (x0 : List Int) (x1 : List Int) (x19 : Int) (x20 : Int) (x489000 : Int) (x496000 : Int) (x496001 : List (S55)), impl_fill.l0 m x0 x1 x19 x20 x496000 x496001 = some (r1, r2, r3) ∧ σ = ⟨[(0, .sl 1 (rX (cI .i64) x0)), (1, .sl 1 (rX (cI .i64) x1)), (4, .pt 1004 0 0), (6, .pt 1006 0 0), (19, .v (.int .i64 x19)), (20, .v (.int .i64 x20))], [(1004, .box 0 55 false [.v (.int .i64 x489000), .v (.slice none 0 0)]), (3385, .own 0 55 2 (r55 x496001)), (1006, .box 0 55 false [.v (.int .i64 x496000), .ow 3385 0])]⟩
structure impl_fill.C (k : Nat) : Prop where
 s_f : ∀ (l0 : List Int) (l1 : List Int) (r1 : Int) (r2 : List (S55)) (r3 : List Int), impl_fill.f k l0 l1 = some (r1, r2, r3) → Ctr TE 38 none [.sl 1 (rX (cI .i64) l0), .sl 1 (rX (cI .i64) l1)] [.ro (.ag [.v (.int .i64 r1), .sl 2 (r55 r2)]), .ro (.sl 1 (rX (cI .i64) r3))] []
 s_l0 : ∀ (r1 : Int) (r2 : List (S55)) (r3 : List Int) (w : World) (ro : Nat → Prop) (B : Nat) (_ : Fr TE (cx0 Tryd.f38 none w ro B)) (x0 : List Int) (x1 : List Int) (x19 : Int) (x20 : Int) (x489000 : Int) (x496000 : Int) (x496001 : List (S55)) (_ : impl_fill.l0 k x0 x1 x19 x20 x496000 x496001 = some (r1, r2, r3)), Kp (WS TE (cx0 Tryd.f38 none w ro B) (stkAt [1, 1, 1, 0, 1, 0] [] (bodyOf Tryd.f38) []) ⟨[(0, .sl 1 (rX (cI .i64) x0)), (1, .sl 1 (rX (cI .i64) x1)), (4, .pt 1004 0 0), (6, .pt 1006 0 0), (19, .v (.int .i64 x19)), (20, .v (.int .i64 x20))], [(1004, .box 0 55 false [.v (.int .i64 x489000), .v (.slice none 0 0)]), (3385, .own 0 55 2 (r55 x496001)), (1006, .box 0 55 false [.v (.int .i64 x496000), .ow 3385 0])]⟩ (RetQ TE Tryd.f38 none [.ro (.ag [.v (.int .i64 r1), .sl 2 (r55 r2)]), .ro (.sl 1 (rX (cI .i64) r3))] [] w ro B))
set_option maxRecDepth 100000 in
set_option maxHeartbeats 4000000 in
theorem impl_fill.c_f (k : Nat) (ih : Kp (∀ m, m < k → impl_fill.C m)) (l0 : List Int) (l1 : List Int) (r1 : Int) (r2 : List (S55)) (r3 : List Int) (h : impl_fill.f k l0 l1 = some (r1, r2, r3)) : Ctr TE 38 none [.sl 1 (rX (cI .i64) l0), .sl 1 (rX (cI .i64) l1)] [.ro (.ag [.v (.int .i64 r1), .sl 2 (r55 r2)]), .ro (.sl 1 (rX (cI .i64) r3))] [] := by
 cases k with
 | zero => simp [impl_fill.f] at h
 | succ k =>
 simp only [impl_fill.f] at h
 refine ctr_of (fn := Tryd.f38) (c := (bodyOf Tryd.f38)) Tryd.func38 rfl (by kernel_rfl) (Nat.le_of_ble_eq_true (by kernel_rfl)) (fun w ro B hF _ => ?_)
 by_cases c1 : (l0.length : Int) = 0
 · rw [if_pos c1] at h
   by_cases c2 : 0 < (l1.length : Int)
   · rw [if_pos c2] at h
     by_cases c3 : 1 ≤ (l1.length : Int)
     · rw [if_pos c3] at h
       refine path_ok (k := 9) hF (RetQ_mild _ _ _ _ _ _ _ _) (ds := [.e 9 (.v (.int .i64 (l0.length : Int))), .b true, .e 12 (.rf [.v (.int .i64 (rd l1 0))]), .e 16 (.sl 1 (rX (cI .i64) (l1.drop 1)))]) (os := [.o [(0, 0), (1, 0), (2, 1), (3, 0), (4, 0), (5, 0), (6, 2), (7, 0)] [6]]) (c := none) rfl KD ?_
       cases h
       exact ret_as (ms := [.ro, .ro]) rfl KD
     · rw [if_neg c3] at h
       cases h
   · rw [if_neg c2] at h
     cases h
 · rw [if_neg c1] at h
   by_cases c4 : 0 < (l0.length : Int)
   · rw [if_pos c4] at h
     refine path_ok (k := 13) hF (RetQ_mild _ _ _ _ _ _ _ _) (ds := [.e 9 (.v (.int .i64 (l0.length : Int))), .b false, .e 18 (.rf [.v (.int .i64 (rd l0 0))])]) (os := []) (c := none) rfl KD ?_
     exact WS.can [(1004, some 4), (1006, some 6), (3385, none)] (((ih.out k (by omega)).s_l0  r1 r2 r3 w ro B hF l0 l1 (rd l0 0) 0 0 0 ([] : List (S55)) h).out) KD
   · rw [if_neg c4] at h
     cases h
set_option maxRecDepth 100000 in
set_option maxHeartbeats 4000000 in
theorem impl_fill.c_l0 (k : Nat) (ih : Kp (∀ m, m < k → impl_fill.C m)) (r1 : Int) (r2 : List (S55)) (r3 : List Int) (w : World) (ro : Nat → Prop) (B : Nat) (hF : Fr TE (cx0 Tryd.f38 none w ro B)) (x0 : List Int) (x1 : List Int) (x19 : Int) (x20 : Int) (x489000 : Int) (x496000 : Int) (x496001 : List (S55)) (h : impl_fill.l0 k x0 x1 x19 x20 x496000 x496001 = some (r1, r2, r3)) : Kp (WS TE (cx0 Tryd.f38 none w ro B) (stkAt [1, 1, 1, 0, 1, 0] [] (bodyOf Tryd.f38) []) ⟨[(0, .sl 1 (rX (cI .i64) x0)), (1, .sl 1 (rX (cI .i64) x1)), (4, .pt 1004 0 0), (6, .pt 1006 0 0), (19, .v (.int .i64 x19)), (20, .v (.int .i64 x20))], [(1004, .box 0 55 false [.v (.int .i64 x489000), .v (.slice none 0 0)]), (3385, .own 0 55 2 (r55 x496001)), (1006, .box 0 55 false [.v (.int .i64 x496000), .ow 3385 0])]⟩ (RetQ TE Tryd.f38 none [.ro (.ag [.v (.int .i64 r1), .sl 2 (r55 r2)]), .ro (.sl 1 (rX (cI .i64) r3))] [] w ro B)) := by
 refine ⟨WS.loop (fun m σ => m ≤ k ∧ impl_fill.I0 r1 r2 r3 m σ) k ⟨Nat.le_refl k, x0, x1, x19, x20, x489000, x496000, x496001, h, rfl⟩ (fun m σ' hI J0 hJ0 => ?_)⟩
 clear h
 obtain ⟨hk, x0, x1, x19, x20, x489000, x496000, x496001, h, rfl⟩ := hI
 cases m with
 | zero => simp [impl_fill.l0] at h
 | succ k' =>
 simp only [impl_fill.l0] at h
 by_cases c5 : x20 < x19
 · rw [if_pos c5] at h
   by_cases c6 : 1 ≤ (x0.length : Int)
   · rw [if_pos c6] at h
     obtain ⟨⟨t499, t500, t503⟩, q7, h⟩ := Option.bind_eq_some_iff.1 h
     dsimp only at h
     have q7c := (ih.out k' (by omega)).s_f _ _ _ _ _ q7
     by_cases c8 : x496001.length < 4398046511104
     · rw [if_pos c8] at h
       refine path_ok (k := 14) hF (RetQ_mild _ _ _ _ _ _ _ _) (ds := [.b true, .e 24 (.sl 1 (rX (cI .i64) (x0.drop 1))), .r [.ro (.ag [.v (.int .i64 t499), .sl 2 (r55 t500)]), .ro (.sl 1 (rX (cI .i64) t503))] [], .p 32 ([[.v (.int .i64 t499), .sl 2 (r55 t500)]]), .o 33 (r55 (x496001 ++ [(⟨t499, t500⟩ : S55)]))]) (os := []) (c := none) rfl KD ?_
       exact WS.lpc [(1004, some 1004), (1006, some 1006), (3385, some 3385)] (hJ0 _ _ (Nat.lt_succ_self _) ⟨by omega, x0, t503, x19, (wrap64 (x20 + 1)), x489000, x496000, (x496001 ++ [(⟨t499, t500⟩ : S55)]), h, rfl⟩) KD
     · rw [if_neg c8] at h
       cases h
   · rw [if_neg c6] at h
     cases h
 · rw [if_neg c5] at h
   refine path_ok (k := 8) hF (RetQ_mild _ _ _ _ _ _ _ _) (ds := [.b false]) (os := []) (c := none) rfl KD ?_
   cases h
   exact ret_as (ms := [.ro, .ro]) rfl KD
theorem impl_fill.cs (k : Nat) : impl_fill.C k := by
 induction k using Nat.strongRecOn with
 | _ k ih0 =>
 have ih : Kp (∀ m, m < k → impl_fill.C m) := ⟨ih0⟩
 exact ⟨impl_fill.c_f k ih, impl_fill.c_l0 k ih⟩
theorem impl_fill.ctr (k : Nat) (l0 : List Int) (l1 : List Int) (r1 : Int) (r2 : List (S55)) (r3 : List Int) (h : impl_fill.f k l0 l1 = some (r1, r2, r3)) : Ctr TE 38 none [.sl 1 (rX (cI .i64) l0), .sl 1 (rX (cI .i64) l1)] [.ro (.ag [.v (.int .i64 r1), .sl 2 (r55 r2)]), .ro (.sl 1 (rX (cI .i64) r3))] [] := (impl_fill.cs k).s_f l0 l1 r1 r2 r3 h
mutual
def impl_arr_text.l0 : Nat → Int → List ByteArray → List (S55) → Int → Int → Option (ByteArray)
  | 0, _, _, _, _, _ => none
  | k + 1, x1, x5, x15, x16, x17 => if x17 < x16 then (if 0 ≤ x17 then (if x17 < (x15.length : Int) then ((impl_arr_text.f k ((rd_T55 x15 x17).f0) ((rd_T55 x15 x17).f1) (wrap64 (x1 - 1))).bind fun t516 => (if x5.length < 8796093022208 then (impl_arr_text.l0 k x1 (x5 ++ [t516]) x15 x16 (wrap64 (x17 + 1))) else (none))) else (none)) else (none)) else ((strings_Join.f x5 (⟨#[44]⟩ : ByteArray)).bind fun t520 => (if 1 + t520.size ≤ 9223372036854775807 then (if 1 + t520.size + 1 ≤ 9223372036854775807 then (some (((⟨#[91]⟩ : ByteArray) ++ t520) ++ (⟨#[93]⟩ : ByteArray))) else (none)) else (none)))
def impl_arr_text.f : Nat → Int → List (S55) → Int → Option (ByteArray)
  | 0, _, _, _ => none
  | k + 1, a0_0, l0_1, a1 => if a1 = 0 then ((strconv_Itoa.f a0_0).bind fun t510 => (some t510)) else (impl_arr_text.l0 k a1 (([] : List ByteArray)) l0_1 (l0_1.length : Int) 0)
end
def impl_arr_text.I0 (r : ByteArray) (m : Nat) (σ : St) : Prop := ∃ (x1 : Int) (x5 : List ByteArray) (x15 : List (S55)) (x16 : Int) (x17 : Int), impl_arr_text.l0 m x1 x5 x15 x16 x17 = some r ∧ σ = ⟨[(1, .v (.int .i64 x1)), (5, .ow 1005 0), (15, .sl 2 (r55 x15)), (16, .v (.int .i64 x16)), (17, .v (.int .i64 x17))], [(1005, .own 0 9 1 (rX cS x5))]⟩
structure impl_arr_text.C (k : Nat) : Prop where
 s_f : ∀ (a0_0 : Int) (l0_1 : List (S55)) (a1 : Int) (r : ByteArray), impl_arr_text.f k a0_0 l0_1 a1 = some r → Ctr TE 54 none [.ag [.v (.int .i64 a0_0), .sl 2 (r55 l0_1)], .v (.int .i64 a1)] [.ro (.v (.string r))] []
 s_l0 : ∀ (r : ByteArray) (w : World) (ro : Nat → Prop) (B : Nat) (_ : Fr TE (cx0 Tryd.f54 none w ro B)) (x1 : Int) (x5 : List ByteArray) (x15 : List (S55)) (x16 : Int) (x17 : Int) (_ : impl_arr_text.l0 k x1 x5 x15 x16 x17 = some r), Kp (WS TE (cx0 Tryd.f54 none w ro B) (stkAt [1, 1, 1, 0, 1, 0] [] (bodyOf Tryd.f54) []) ⟨[(1, .v (.int .i64 x1)), (5, .ow 1005 0), (15, .sl 2 (r55 x15)), (16, .v (.int .i64 x16)), (17, .v (.int .i64 x17))], [(1005, .own 0 9 1 (rX cS x5))]⟩ (RetQ TE Tryd.f54 none [.ro (.v (.string r))] [] w ro B))
set_option maxRecDepth 100000 in
set_option maxHeartbeats 4000000 in
theorem impl_arr_text.c_f (k : Nat) (ih : Kp (∀ m, m < k → impl_arr_text.C m)) (a0_0 : Int) (l0_1 : List (S55)) (a1 : Int) (r : ByteArray) (h : impl_arr_text.f k a0_0 l0_1 a1 = some r) : Ctr TE 54 none [.ag [.v (.int .i64 a0_0), .sl 2 (r55 l0_1)], .v (.int .i64 a1)] [.ro (.v (.string r))] [] := by
 cases k with
 | zero => simp [impl_arr_text.f] at h
 | succ k =>
 simp only [impl_arr_text.f] at h
 refine ctr_of (fn := Tryd.f54) (c := (bodyOf Tryd.f54)) Tryd.func54 rfl (by kernel_rfl) (Nat.le_of_ble_eq_true (by kernel_rfl)) (fun w ro B hF _ => ?_)
 by_cases c1 : a1 = 0
 · rw [if_pos c1] at h
   obtain ⟨t510, q2, h⟩ := Option.bind_eq_some_iff.1 h
   have q2c := strconv_Itoa.ctr _ _ q2
   refine path_ok (k := 9) hF (RetQ_mild _ _ _ _ _ _ _ _) (ds := [.b true, .r [.ro (.v (.string t510))] []]) (os := []) (c := none) rfl KD ?_
   cases h
   exact ret_as (ms := [.ro]) rfl KD
 · rw [if_neg c1] at h
   refine path_ok (k := 13) hF (RetQ_mild _ _ _ _ _ _ _ _) (ds := [.b false, .p 13 ([]), .e 16 (.v (.int .i64 (l0_1.length : Int)))]) (os := []) (c := none) rfl KD ?_
   exact WS.can [(1005, some 13)] (((ih.out k (by omega)).s_l0  r w ro B hF a1 (([] : List ByteArray)) l0_1 (l0_1.length : Int) 0 h).out) KD
set_option maxRecDepth 100000 in
set_option maxHeartbeats 4000000 in
theorem impl_arr_text.c_l0 (k : Nat) (ih : Kp (∀ m, m < k → impl_arr_text.C m)) (r : ByteArray) (w : World) (ro : Nat → Prop) (B : Nat) (hF : Fr TE (cx0 Tryd.f54 none w ro B)) (x1 : Int) (x5 : List ByteArray) (x15 : List (S55)) (x16 : Int) (x17 : Int) (h : impl_arr_text.l0 k x1 x5 x15 x16 x17 = some r) : Kp (WS TE (cx0 Tryd.f54 none w ro B) (stkAt [1, 1, 1, 0, 1, 0] [] (bodyOf Tryd.f54) []) ⟨[(1, .v (.int .i64 x1)), (5, .ow 1005 0), (15, .sl 2 (r55 x15)), (16, .v (.int .i64 x16)), (17, .v (.int .i64 x17))], [(1005, .own 0 9 1 (rX cS x5))]⟩ (RetQ TE Tryd.f54 none [.ro (.v (.string r))] [] w ro B)) := by
 refine ⟨WS.loop (fun m σ => m ≤ k ∧ impl_arr_text.I0 r m σ) k ⟨Nat.le_refl k, x1, x5, x15, x16, x17, h, rfl⟩ (fun m σ' hI J0 hJ0 => ?_)⟩
 clear h
 obtain ⟨hk, x1, x5, x15, x16, x17, h, rfl⟩ := hI
 cases m with
 | zero => simp [impl_arr_text.l0] at h
 | succ k' =>
 simp only [impl_arr_text.l0] at h
 by_cases c3 : x17 < x16
 · rw [if_pos c3] at h
   by_cases c4 : 0 ≤ x17
   · rw [if_pos c4] at h
     by_cases c5 : x17 < (x15.length : Int)
     · rw [if_pos c5] at h
       obtain ⟨t516, q6, h⟩ := Option.bind_eq_some_iff.1 h
       have q6c := (ih.out k' (by omega)).s_f _ _ _ _ q6
       by_cases c7 : x5.length < 8796093022208
       · rw [if_pos c7] at h
         refine path_ok (k := 12) hF (RetQ_mild _ _ _ _ _ _ _ _) (ds := [.b true, .e 19 (.rf [.v (.int .i64 ((rd_T55 x15 x17).f0)), .sl 2 (r55 ((rd_T55 x15 x17).f1))]), .r [.ro (.v (.string t516))] [], .p 26 ([[.v (.string t516)]]), .o 27 (rX cS (x5 ++ [t516]))]) (os := []) (c := none) rfl KD ?_
         exact WS.lpc [(1005, some 1005)] (hJ0 _ _ (Nat.lt_succ_self _) ⟨by omega, x1, (x5 ++ [t516]), x15, x16, (wrap64 (x17 + 1)), h, rfl⟩) KD
       · rw [if_neg c7] at h
         cases h
     · rw [if_neg c5] at h
       cases h
   · rw [if_neg c4] at h
     cases h
 · rw [if_neg c3] at h
   obtain ⟨t520, q8, h⟩ := Option.bind_eq_some_iff.1 h
   have q8c := strings_Join.ctr _ _ _ q8
   by_cases c9 : 1 + t520.size ≤ 9223372036854775807
   · rw [if_pos c9] at h
     by_cases c10 : 1 + t520.size + 1 ≤ 9223372036854775807
     · rw [if_pos c10] at h
       refine path_ok (k := 8) hF (RetQ_mild _ _ _ _ _ _ _ _) (ds := [.b false, .r [.ro (.v (.string t520))] []]) (os := []) (c := none) rfl KD ?_
       cases h
       exact ret_as (ms := [.ro]) rfl KD
     · rw [if_neg c10] at h
       cases h
   · rw [if_neg c9] at h
     cases h
theorem impl_arr_text.cs (k : Nat) : impl_arr_text.C k := by
 induction k using Nat.strongRecOn with
 | _ k ih0 =>
 have ih : Kp (∀ m, m < k → impl_arr_text.C m) := ⟨ih0⟩
 exact ⟨impl_arr_text.c_f k ih, impl_arr_text.c_l0 k ih⟩
theorem impl_arr_text.ctr (k : Nat) (a0_0 : Int) (l0_1 : List (S55)) (a1 : Int) (r : ByteArray) (h : impl_arr_text.f k a0_0 l0_1 a1 = some r) : Ctr TE 54 none [.ag [.v (.int .i64 a0_0), .sl 2 (r55 l0_1)], .v (.int .i64 a1)] [.ro (.v (.string r))] [] := (impl_arr_text.cs k).s_f a0_0 l0_1 a1 r h
def impl_arr_short.f (k : Nat) (a0_0 : Int) (l0_1 : List (S55)) (a1 : Int) : Option (ByteArray × Bool) := (impl_arr_text.f k a0_0 l0_1 a1).bind fun t522 => (if (t522.size : Int) > 400 then (some ((⟨#[]⟩ : ByteArray), false)) else (some (t522, true)))
set_option maxRecDepth 100000 in
set_option maxHeartbeats 4000000 in
theorem impl_arr_short.ctr (k : Nat) (a0_0 : Int) (l0_1 : List (S55)) (a1 : Int) (r1 : ByteArray) (r2 : Bool) (h : impl_arr_short.f k a0_0 l0_1 a1 = some (r1, r2)) : Ctr TE 39 none [.ag [.v (.int .i64 a0_0), .sl 2 (r55 l0_1)], .v (.int .i64 a1)] [.ro (.v (.string r1)), .ro (.v (.bool r2))] [] := by
 refine ctr_of (fn := Tryd.f39) (c := (bodyOf Tryd.f39)) Tryd.func39 rfl (by kernel_rfl) (Nat.le_of_ble_eq_true (by kernel_rfl)) (fun w ro B hF _ => ?_)
 simp only [impl_arr_short.f] at h
 obtain ⟨t522, q1, h⟩ := Option.bind_eq_some_iff.1 h
 have q1c := impl_arr_text.ctr k _ _ _ _ q1
 by_cases c2 : (t522.size : Int) > 400
 · rw [if_pos c2] at h
   refine path_ok (k := 11) hF (RetQ_mild _ _ _ _ _ _ _ _) (ds := [.r [.ro (.v (.string t522))] [], .b true]) (os := []) (c := none) rfl KD ?_
   cases h
   exact ret_as (ms := [.ro, .ro]) rfl KD
 · rw [if_neg c2] at h
   refine path_ok (k := 12) hF (RetQ_mild _ _ _ _ _ _ _ _) (ds := [.r [.ro (.v (.string t522))] [], .b false]) (os := []) (c := none) rfl KD ?_
   cases h
   exact ret_as (ms := [.ro, .ro]) rfl KD
end Go.Proofs.YtlhejcogdjelpaaDoor.H
