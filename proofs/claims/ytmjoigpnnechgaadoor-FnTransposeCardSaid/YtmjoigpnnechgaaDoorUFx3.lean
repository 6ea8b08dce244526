/- A part of the claim. -/
import Derived.Test.YtmjoigpnnechgaaDoorUFx0
import Derived.Test.YtmjoigpnnechgaaDoorUFx1
import Derived.Test.YtmjoigpnnechgaaDoorUFx2
import Derived.Test.YtmjoigpnnechgaaDoorUFSgv
-- PRINTED by print.py (a twelfth state) out of the translation. Not trusted: Lean checks it.
namespace Go.Proofs.YtmjoigpnnechgaaDoor.U
open Go.RowKit Go.Proofs.YtmjoigpnnechgaaDoorW.St Go.Proofs.YtmjoigpnnechgaaDoorW.PrintWords Go.Proofs.YtmjoigpnnechgaaDoorW.PrintLast Go.Proofs.YtmjoigpnnechgaaDoorW.PrintMore
attribute [local go_sem] max2_int min2_int max_two min_two max_three min_three max_four min_four   -- for this text's walks alone
set_option linter.unusedVariables false
set_option linter.unusedSimpArgs false
def spec_LayOut.f (k : Nat) (a0 : ByteArray) (a1 : Int) : Option ((List (List Int)) × List Int × Bool) := (spec_l2RawLayOut.f k a0 a1).bind fun bt240 => ((spec_l13OwnLayout.f k bt240.1 bt240.2.1).bind fun bt248 => (some (bt248.1, bt248.2, bt240.2.2)))
set_option maxRecDepth 100000 in
set_option maxHeartbeats 4000000 in
theorem spec_LayOut.ctr (k : Nat) (a0 : ByteArray) (a1 : Int) (r1 : List (List Int)) (r2 : List Int) (r3 : Bool) (h : spec_LayOut.f k a0 a1 = some (r1, r2, r3)) : Ctr TE 60 none [.v (.string a0), .v (.int .i64 a1)] [.ro (.ag [.sl 1 (rX (cL (cI .i64) 1) r1), .sl 1 (rX (cI .i64) r2)]), .ro (.v (.bool r3))] [] := by
 refine ctr_of (fn := Tryd.f60) (c := (bodyOf Tryd.f60)) Tryd.func60 rfl (by kernel_rfl) (Nat.le_of_ble_eq_true (by kernel_rfl)) (fun w ro B hF _ => ?_)
 simp only [spec_LayOut.f] at h
 obtain ⟨⟨t240, t243, t246⟩, q1, h⟩ := Option.bind_eq_some_iff.1 h
 dsimp only at h
 have q1c := spec_l2RawLayOut.ctr k _ _ _ _ _ q1
 obtain ⟨⟨t248, t251⟩, q2, h⟩ := Option.bind_eq_some_iff.1 h
 dsimp only at h
 have q2c := spec_l13OwnLayout.ctr k _ _ _ _ q2
 refine path_ok (k := 7) hF (RetQ_mild _ _ _ _ _ _ _ _) (ds := [.r [.ro (.ag [.sl 1 (rX (cL (cI .i64) 1) t240), .sl 1 (rX (cI .i64) t243)]), .ro (.v (.bool t246))] [], .r [.ro (.ag [.sl 1 (rX (cL (cI .i64) 1) t248), .sl 1 (rX (cI .i64) t251)])] []]) (os := []) (c := none) rfl KD ?_
 cases h
 exact ret_as (ms := [.ro, .ro]) rfl KD
mutual
def spec_ShapeOf.l0 : Nat → Bool → List Int → List (List Int) → Int → Int → Option (List Int × Bool)
  | 0, _, _, _, _, _ => none
  | k + 1, x7, x8, x21, x22, x23 => if x23 < x22 then (if 0 ≤ x23 then (if x23 < (x21.length : Int) then (spec_ShapeOf.l1 k x7 x8 (rd_L3 x21 x23) x21 x22 x23 (rd_L3 x21 x23) ((rd_L3 x21 x23).length : Int) 0) else (none)) else (none)) else (some (x8, x7))
def spec_ShapeOf.l1 : Nat → Bool → List Int → List Int → List (List Int) → Int → Int → List Int → Int → Int → Option (List Int × Bool)
  | 0, _, _, _, _, _, _, _, _, _ => none
  | k + 1, x7, x8, x10, x21, x22, x23, x27, x28, x29 => if x29 < x28 then (if 0 ≤ x29 then (if x29 < (x27.length : Int) then (if 0 < (x10.length : Int) then (if (rd x27 x29) = (rd x10 0) then (spec_ShapeOf.l1 k x7 x8 x10 x21 x22 x23 x27 x28 (wrap64 (x29 + 1))) else (some ((([] : List Int)), false))) else (none)) else (none)) else (none)) else (if (x10.length : Int) = 0 then (if x8.length < 17592186044416 then (spec_ShapeOf.l0 k x7 (x8 ++ [0]) x21 x22 (wrap64 (x23 + 1))) else (none)) else (if 0 < (x10.length : Int) then (if x8.length < 17592186044416 then (spec_ShapeOf.l0 k x7 (x8 ++ [rd x10 0]) x21 x22 (wrap64 (x23 + 1))) else (none)) else (none)))
end
def spec_ShapeOf.f (k : Nat) (a0 : ByteArray) (a1 : Int) : Option (List Int × Bool) := (spec_LayOut.f k a0 a1).bind fun bt254 => (spec_ShapeOf.l0 k bt254.2.2 (([] : List Int)) bt254.1 (bt254.1.length : Int) 0)
def spec_ShapeOf.I0 (r1 : List Int) (r2 : Bool) (m : Nat) (σ : St) : Prop := ∃ (x7 : Bool) (x8 : List Int) (x21 : List (List Int)) (x22 : Int) (x23 : Int), spec_ShapeOf.l0 m x7 x8 x21 x22 x23 = some (r1, r2) ∧ σ = ⟨[(7, .v (.bool x7)), (8, .ow 1008 0), (21, .sl 1 (rX (cL (cI .i64) 1) x21)), (22, .v (.int .i64 x22)), (23, .v (.int .i64 x23))], [(1008, .own 0 3 1 (rX (cI .i64) x8))]⟩
def spec_ShapeOf.I1 (r1 : List Int) (r2 : Bool) (m : Nat) (σ : St) : Prop := ∃ (x7 : Bool) (x8 : List Int) (x10 : List Int) (x21 : List (List Int)) (x22 : Int) (x23 : Int) (x27 : List Int) (x28 : Int) (x29 : Int), spec_ShapeOf.l1 m x7 x8 x10 x21 x22 x23 x27 x28 x29 = some (r1, r2) ∧ σ = ⟨[(7, .v (.bool x7)), (8, .ow 1008 0), (10, .sl 1 (rX (cI .i64) x10)), (21, .sl 1 (rX (cL (cI .i64) 1) x21)), (22, .v (.int .i64 x22)), (23, .v (.int .i64 x23)), (27, .sl 1 (rX (cI .i64) x27)), (28, .v (.int .i64 x28)), (29, .v (.int .i64 x29))], [(1008, .own 0 3 1 (rX (cI .i64) x8))]⟩
structure spec_ShapeOf.C (k : Nat) : Prop where
 s_l0 : ∀ (r1 : List Int) (r2 : Bool) (w : World) (ro : Nat → Prop) (B : Nat) (_ : Fr TE (cx0 Tryd.f138 none w ro B)) (x7 : Bool) (x8 : List Int) (x21 : List (List Int)) (x22 : Int) (x23 : Int) (_ : spec_ShapeOf.l0 k x7 x8 x21 x22 x23 = some (r1, r2)), Kp (WS TE (cx0 Tryd.f138 none w ro B) (stkAt [1, 1, 1, 0, 1, 0] [] (bodyOf Tryd.f138) []) ⟨[(7, .v (.bool x7)), (8, .ow 1008 0), (21, .sl 1 (rX (cL (cI .i64) 1) x21)), (22, .v (.int .i64 x22)), (23, .v (.int .i64 x23))], [(1008, .own 0 3 1 (rX (cI .i64) x8))]⟩ (RetQ TE Tryd.f138 none [.own 3 1 (rX (cI .i64) r1), .ro (.v (.bool r2))] [] w ro B))
 s_l1 : ∀ (r1 : List Int) (r2 : Bool) (w : World) (ro : Nat → Prop) (B : Nat) (_ : Fr TE (cx0 Tryd.f138 none w ro B)) (J0 : St → Prop) (_ : ∀ m σ, m ≤ k → spec_ShapeOf.I0 r1 r2 m σ → J0 σ) (x7 : Bool) (x8 : List Int) (x10 : List Int) (x21 : List (List Int)) (x22 : Int) (x23 : Int) (x27 : List Int) (x28 : Int) (x29 : Int) (_ : spec_ShapeOf.l1 k x7 x8 x10 x21 x22 x23 x27 x28 x29 = some (r1, r2)), Kp (WS TE (cx0 Tryd.f138 none w ro B) (stkAt [1, 1, 1, 0, 1, 0, 0, 1, 1, 0, 0, 1, 0, 1, 0] [J0] (bodyOf Tryd.f138) []) ⟨[(7, .v (.bool x7)), (8, .ow 1008 0), (10, .sl 1 (rX (cI .i64) x10)), (21, .sl 1 (rX (cL (cI .i64) 1) x21)), (22, .v (.int .i64 x22)), (23, .v (.int .i64 x23)), (27, .sl 1 (rX (cI .i64) x27)), (28, .v (.int .i64 x28)), (29, .v (.int .i64 x29))], [(1008, .own 0 3 1 (rX (cI .i64) x8))]⟩ (RetQ TE Tryd.f138 none [.own 3 1 (rX (cI .i64) r1), .ro (.v (.bool r2))] [] w ro B))
set_option maxRecDepth 100000 in
set_option maxHeartbeats 4000000 in
theorem spec_ShapeOf.c_l0 (k : Nat) (ih : Kp (∀ m, m < k → spec_ShapeOf.C m)) (r1 : List Int) (r2 : Bool) (w : World) (ro : Nat → Prop) (B : Nat) (hF : Fr TE (cx0 Tryd.f138 none w ro B)) (x7 : Bool) (x8 : List Int) (x21 : List (List Int)) (x22 : Int) (x23 : Int) (h : spec_ShapeOf.l0 k x7 x8 x21 x22 x23 = some (r1, r2)) : Kp (WS TE (cx0 Tryd.f138 none w ro B) (stkAt [1, 1, 1, 0, 1, 0] [] (bodyOf Tryd.f138) []) ⟨[(7, .v (.bool x7)), (8, .ow 1008 0), (21, .sl 1 (rX (cL (cI .i64) 1) x21)), (22, .v (.int .i64 x22)), (23, .v (.int .i64 x23))], [(1008, .own 0 3 1 (rX (cI .i64) x8))]⟩ (RetQ TE Tryd.f138 none [.own 3 1 (rX (cI .i64) r1), .ro (.v (.bool r2))] [] w ro B)) := by
 refine ⟨WS.loop (fun m σ => m ≤ k ∧ spec_ShapeOf.I0 r1 r2 m σ) k ⟨Nat.le_refl k, x7, x8, x21, x22, x23, h, rfl⟩ (fun m σ' hI J0 hJ0 => ?_)⟩
 clear h
 obtain ⟨hk, x7, x8, x21, x22, x23, h, rfl⟩ := hI
 cases m with
 | zero => simp [spec_ShapeOf.l0] at h
 | succ k' =>
 simp only [spec_ShapeOf.l0] at h
 by_cases c2 : x23 < x22
 · rw [if_pos c2] at h
   by_cases c3 : 0 ≤ x23
   · rw [if_pos c3] at h
     by_cases c4 : x23 < (x21.length : Int)
     · rw [if_pos c4] at h
       refine path_ok (k := 13) hF (RetQ_mild _ _ _ _ _ _ _ _) (ds := [.b true, .e 25 (.rf [.sl 1 (rX (cI .i64) (rd_L3 x21 x23))]), .e 28 (.v (.int .i64 ((rd_L3 x21 x23).length : Int)))]) (os := []) (c := none) rfl KD ?_
       exact WS.can [(1008, some 1008)] (((ih.out k' (by omega)).s_l1  r1 r2 w ro B hF J0 (fun m σ hm hI => hJ0 m σ (by omega) ⟨by omega, hI⟩) x7 x8 (rd_L3 x21 x23) x21 x22 x23 (rd_L3 x21 x23) ((rd_L3 x21 x23).length : Int) 0 h).out) KD
     · rw [if_neg c4] at h
       cases h
   · rw [if_neg c3] at h
     cases h
 · rw [if_neg c2] at h
   refine path_ok (k := 8) hF (RetQ_mild _ _ _ _ _ _ _ _) (ds := [.b false]) (os := []) (c := none) rfl KD ?_
   cases h
   exact ret_as (ms := [.own, .ro]) rfl KD
set_option maxRecDepth 100000 in
set_option maxHeartbeats 4000000 in
theorem spec_ShapeOf.c_l1 (k : Nat) (ih : Kp (∀ m, m < k → spec_ShapeOf.C m)) (r1 : List Int) (r2 : Bool) (w : World) (ro : Nat → Prop) (B : Nat) (hF : Fr TE (cx0 Tryd.f138 none w ro B)) (J0 : St → Prop) (hJ0 : ∀ m σ, m ≤ k → spec_ShapeOf.I0 r1 r2 m σ → J0 σ) (x7 : Bool) (x8 : List Int) (x10 : List Int) (x21 : List (List Int)) (x22 : Int) (x23 : Int) (x27 : List Int) (x28 : Int) (x29 : Int) (h : spec_ShapeOf.l1 k x7 x8 x10 x21 x22 x23 x27 x28 x29 = some (r1, r2)) : Kp (WS TE (cx0 Tryd.f138 none w ro B) (stkAt [1, 1, 1, 0, 1, 0, 0, 1, 1, 0, 0, 1, 0, 1, 0] [J0] (bodyOf Tryd.f138) []) ⟨[(7, .v (.bool x7)), (8, .ow 1008 0), (10, .sl 1 (rX (cI .i64) x10)), (21, .sl 1 (rX (cL (cI .i64) 1) x21)), (22, .v (.int .i64 x22)), (23, .v (.int .i64 x23)), (27, .sl 1 (rX (cI .i64) x27)), (28, .v (.int .i64 x28)), (29, .v (.int .i64 x29))], [(1008, .own 0 3 1 (rX (cI .i64) x8))]⟩ (RetQ TE Tryd.f138 none [.own 3 1 (rX (cI .i64) r1), .ro (.v (.bool r2))] [] w ro B)) := by
 refine ⟨WS.loop (fun m σ => m ≤ k ∧ spec_ShapeOf.I1 r1 r2 m σ) k ⟨Nat.le_refl k, x7, x8, x10, x21, x22, x23, x27, x28, x29, h, rfl⟩ (fun m σ' hI J1 hJ1 => ?_)⟩
 clear h
 obtain ⟨hk, x7, x8, x10, x21, x22, x23, x27, x28, x29, h, rfl⟩ := hI
 cases m with
 | zero => simp [spec_ShapeOf.l1] at h
 | succ k' =>
 simp only [spec_ShapeOf.l1] at h
 by_cases c5 : x29 < x28
 · rw [if_pos c5] at h
   by_cases c6 : 0 ≤ x29
   · rw [if_pos c6] at h
     by_cases c7 : x29 < (x27.length : Int)
     · rw [if_pos c7] at h
       by_cases c8 : 0 < (x10.length : Int)
       · rw [if_pos c8] at h
         by_cases c9 : (rd x27 x29) = (rd x10 0)
         · rw [if_pos c9] at h
           refine path_ok (k := 15) hF (RetQ_mild _ _ _ _ _ _ _ _) (ds := [.b true, .e 31 (.rf [.v (.int .i64 (rd x27 x29))]), .e 35 (.rf [.v (.int .i64 (rd x10 0))]), .b false]) (os := []) (c := none) rfl KD ?_
           exact WS.lpc [(1008, some 1008)] (hJ1 _ _ (Nat.lt_succ_self _) ⟨by omega, x7, x8, x10, x21, x22, x23, x27, x28, (wrap64 (x29 + 1)), h, rfl⟩) KD
         · rw [if_neg c9] at h
           refine path_ok (k := 15) hF (RetQ_mild _ _ _ _ _ _ _ _) (ds := [.b true, .e 31 (.rf [.v (.int .i64 (rd x27 x29))]), .e 35 (.rf [.v (.int .i64 (rd x10 0))]), .b true, .p 38 ([])]) (os := []) (c := none) rfl KD ?_
           cases h
           exact ret_as (ms := [.own, .ro]) rfl KD
       · rw [if_neg c8] at h
         cases h
     · rw [if_neg c7] at h
       cases h
   · rw [if_neg c6] at h
     cases h
 · rw [if_neg c5] at h
   by_cases c10 : (x10.length : Int) = 0
   · rw [if_pos c10] at h
     by_cases c11 : x8.length < 17592186044416
     · rw [if_pos c11] at h
       refine path_ok (k := 11) hF (RetQ_mild _ _ _ _ _ _ _ _) (ds := [.b false, .e 41 (.v (.int .i64 (x10.length : Int))), .b true, .p 44 ([[.v (.int .i64 0)]]), .o 45 (rX (cI .i64) (x8 ++ [0]))]) (os := []) (c := none) rfl KD ?_
       exact WS.lpc [(1008, some 1008)] (hJ0 _ _ (by omega) ⟨x7, (x8 ++ [0]), x21, x22, (wrap64 (x23 + 1)), h, rfl⟩) KD
     · rw [if_neg c11] at h
       cases h
   · rw [if_neg c10] at h
     by_cases c12 : 0 < (x10.length : Int)
     · rw [if_pos c12] at h
       by_cases c13 : x8.length < 17592186044416
       · rw [if_pos c13] at h
         refine path_ok (k := 11) hF (RetQ_mild _ _ _ _ _ _ _ _) (ds := [.b false, .e 41 (.v (.int .i64 (x10.length : Int))), .b false, .e 48 (.rf [.v (.int .i64 (rd x10 0))]), .p 50 ([[.v (.int .i64 (rd x10 0))]]), .o 51 (rX (cI .i64) (x8 ++ [rd x10 0]))]) (os := []) (c := none) rfl KD ?_
         exact WS.lpc [(1008, some 1008)] (hJ0 _ _ (by omega) ⟨x7, (x8 ++ [rd x10 0]), x21, x22, (wrap64 (x23 + 1)), h, rfl⟩) KD
       · rw [if_neg c13] at h
         cases h
     · rw [if_neg c12] at h
       cases h
theorem spec_ShapeOf.cs (k : Nat) : spec_ShapeOf.C k := by
 induction k using Nat.strongRecOn with
 | _ k ih0 =>
 have ih : Kp (∀ m, m < k → spec_ShapeOf.C m) := ⟨ih0⟩
 exact ⟨spec_ShapeOf.c_l0 k ih, spec_ShapeOf.c_l1 k ih⟩
set_option maxRecDepth 100000 in
set_option maxHeartbeats 4000000 in
theorem spec_ShapeOf.ctr (k : Nat) (a0 : ByteArray) (a1 : Int) (r1 : List Int) (r2 : Bool) (h : spec_ShapeOf.f k a0 a1 = some (r1, r2)) : Ctr TE 138 none [.v (.string a0), .v (.int .i64 a1)] [.own 3 1 (rX (cI .i64) r1), .ro (.v (.bool r2))] [] := by
 refine ctr_of (fn := Tryd.f138) (c := (bodyOf Tryd.f138)) Tryd.func138 rfl (by kernel_rfl) (Nat.le_of_ble_eq_true (by kernel_rfl)) (fun w ro B hF _ => ?_)
 have ih : Kp (∀ m, m < k + 1 → spec_ShapeOf.C m) := ⟨fun m _ => spec_ShapeOf.cs m⟩
 simp only [spec_ShapeOf.f] at h
 obtain ⟨⟨t254, t257, t260⟩, q1, h⟩ := Option.bind_eq_some_iff.1 h
 dsimp only at h
 have q1c := spec_LayOut.ctr k _ _ _ _ _ q1
 refine path_ok (k := 10) hF (RetQ_mild _ _ _ _ _ _ _ _) (ds := [.r [.ro (.ag [.sl 1 (rX (cL (cI .i64) 1) t254), .sl 1 (rX (cI .i64) t257)]), .ro (.v (.bool t260))] [], .p 19 ([]), .e 22 (.v (.int .i64 (t254.length : Int)))]) (os := []) (c := none) rfl KD ?_
 exact WS.can [(1008, some 19)] (((ih.out k (by omega)).s_l0  r1 r2 w ro B hF t260 (([] : List Int)) t254 (t254.length : Int) 0 h).out) KD
def spec_l11Rows.l0 : Nat → List (List Int) → List Int → List (S95) → Int → Int → Option ((List (List Int)) × Int × Bool)
  | 0, _, _, _, _, _ => none
  | k + 1, x5, x6, x27, x28, x29 => if x29 < x28 then (if 0 ≤ x29 then (if x29 < (x27.length : Int) then ((spec_l1Numbers.f k ((rd_T95 x27 x29).f0) ((rd_T95 x27 x29).f1) 1).bind fun t293 => (if x5.length < 5864062014805 then (spec_l11Rows.l0 k (x5 ++ [t293]) x6 x27 x28 (wrap64 (x29 + 1))) else (none))) else (none)) else (none)) else (if 1 < (x6.length : Int) then (some (x5, rd x6 1, true)) else (none))
def spec_l11Rows.f (k : Nat) (a0 : ByteArray) : Option ((List (List Int)) × Int × Bool) := (some (([] : List (List Int)) : List (List Int))).bind fun y278 => ((spec_ShapeOf.f k a0 2).bind fun bt281 => (if bt281.2 = true then ((spec_l1Read.f k a0 2).bind fun bt285 => (spec_l11Rows.l0 k y278 bt281.1 bt285.2.1 (bt285.2.1.length : Int) 0)) else (some (y278, 0, false))))
def spec_l11Rows.I0 (r1 : List (List Int)) (r2 : Int) (r3 : Bool) (m : Nat) (σ : St) : Prop := ∃ (x5 : List (List Int)) (x6 : List Int) (x27 : List (S95)) (x28 : Int) (x29 : Int), spec_l11Rows.l0 m x5 x6 x27 x28 x29 = some (r1, r2, r3) ∧ σ = ⟨[(5, .ow 1005 0), (6, .ow 1006 0), (27, .sl 2 (r95 x27)), (28, .v (.int .i64 x28)), (29, .v (.int .i64 x29))], [(1005, .own 0 22 1 (rX (cL (cI .i64) 1) x5)), (1006, .own 0 3 1 (rX (cI .i64) x6))]⟩
structure spec_l11Rows.C (k : Nat) : Prop where
 s_l0 : ∀ (r1 : List (List Int)) (r2 : Int) (r3 : Bool) (w : World) (ro : Nat → Prop) (B : Nat) (_ : Fr TE (cx0 Tryd.f102 none w ro B)) (x5 : List (List Int)) (x6 : List Int) (x27 : List (S95)) (x28 : Int) (x29 : Int) (_ : spec_l11Rows.l0 k x5 x6 x27 x28 x29 = some (r1, r2, r3)), Kp (WS TE (cx0 Tryd.f102 none w ro B) (stkAt [1, 1, 1, 1, 1, 0, 1, 0] [] (bodyOf Tryd.f102) []) ⟨[(5, .ow 1005 0), (6, .ow 1006 0), (27, .sl 2 (r95 x27)), (28, .v (.int .i64 x28)), (29, .v (.int .i64 x29))], [(1005, .own 0 22 1 (rX (cL (cI .i64) 1) x5)), (1006, .own 0 3 1 (rX (cI .i64) x6))]⟩ (RetQ TE Tryd.f102 none [.own 22 1 (rX (cL (cI .i64) 1) r1), .ro (.v (.int .i64 r2)), .ro (.v (.bool r3))] [] w ro B))
set_option maxRecDepth 100000 in
set_option maxHeartbeats 4000000 in
theorem spec_l11Rows.c_l0 (k : Nat) (ih : Kp (∀ m, m < k → spec_l11Rows.C m)) (r1 : List (List Int)) (r2 : Int) (r3 : Bool) (w : World) (ro : Nat → Prop) (B : Nat) (hF : Fr TE (cx0 Tryd.f102 none w ro B)) (x5 : List (List Int)) (x6 : List Int) (x27 : List (S95)) (x28 : Int) (x29 : Int) (h : spec_l11Rows.l0 k x5 x6 x27 x28 x29 = some (r1, r2, r3)) : Kp (WS TE (cx0 Tryd.f102 none w ro B) (stkAt [1, 1, 1, 1, 1, 0, 1, 0] [] (bodyOf Tryd.f102) []) ⟨[(5, .ow 1005 0), (6, .ow 1006 0), (27, .sl 2 (r95 x27)), (28, .v (.int .i64 x28)), (29, .v (.int .i64 x29))], [(1005, .own 0 22 1 (rX (cL (cI .i64) 1) x5)), (1006, .own 0 3 1 (rX (cI .i64) x6))]⟩ (RetQ TE Tryd.f102 none [.own 22 1 (rX (cL (cI .i64) 1) r1), .ro (.v (.int .i64 r2)), .ro (.v (.bool r3))] [] w ro B)) := by
 refine ⟨WS.loop (fun m σ => m ≤ k ∧ spec_l11Rows.I0 r1 r2 r3 m σ) k ⟨Nat.le_refl k, x5, x6, x27, x28, x29, h, rfl⟩ (fun m σ' hI J0 hJ0 => ?_)⟩
 clear h
 obtain ⟨hk, x5, x6, x27, x28, x29, h, rfl⟩ := hI
 cases m with
 | zero => simp [spec_l11Rows.l0] at h
 | succ k' =>
 simp only [spec_l11Rows.l0] at h
 by_cases c4 : x29 < x28
 · rw [if_pos c4] at h
   by_cases c5 : 0 ≤ x29
   · rw [if_pos c5] at h
     by_cases c6 : x29 < (x27.length : Int)
     · rw [if_pos c6] at h
       obtain ⟨t293, q7, h⟩ := Option.bind_eq_some_iff.1 h
       have q7c := spec_l1Numbers.ctr k' _ _ _ _ q7
       by_cases c8 : x5.length < 5864062014805
       · rw [if_pos c8] at h
         refine path_ok (k := 12) hF (RetQ_mild _ _ _ _ _ _ _ _) (ds := [.b true, .e 31 (.rf [.v (.int .i64 ((rd_T95 x27 x29).f0)), .sl 2 (r95 ((rd_T95 x27 x29).f1))]), .r [.ro (.sl 1 (rX (cI .i64) t293))] [], .p 36 ([[.sl 1 (rX (cI .i64) t293)]]), .o 37 (rX (cL (cI .i64) 1) (x5 ++ [t293]))]) (os := []) (c := none) rfl KD ?_
         exact WS.lpc [(1005, some 1005), (1006, some 1006)] (hJ0 _ _ (Nat.lt_succ_self _) ⟨by omega, (x5 ++ [t293]), x6, x27, x28, (wrap64 (x29 + 1)), h, rfl⟩) KD
       · rw [if_neg c8] at h
         cases h
     · rw [if_neg c6] at h
       cases h
   · rw [if_neg c5] at h
     cases h
 · rw [if_neg c4] at h
   by_cases c9 : 1 < (x6.length : Int)
   · rw [if_pos c9] at h
     refine path_ok (k := 8) hF (RetQ_mild _ _ _ _ _ _ _ _) (ds := [.b false, .g [.v (.int .i64 (rd x6 1))]]) (os := [.o [(0, 0), (1, 0), (2, 0), (3, 1), (4, 0), (5, 0), (6, 0)] []]) (c := none) rfl KD ?_
     cases h
     exact ret_as (ms := [.own, .ro, .ro]) rfl KD
   · rw [if_neg c9] at h
     cases h
theorem spec_l11Rows.cs (k : Nat) : spec_l11Rows.C k := by
 induction k using Nat.strongRecOn with
 | _ k ih0 =>
 have ih : Kp (∀ m, m < k → spec_l11Rows.C m) := ⟨ih0⟩
 exact ⟨spec_l11Rows.c_l0 k ih⟩
set_option maxRecDepth 100000 in
set_option maxHeartbeats 4000000 in
theorem spec_l11Rows.ctr (k : Nat) (a0 : ByteArray) (r1 : List (List Int)) (r2 : Int) (r3 : Bool) (h : spec_l11Rows.f k a0 = some (r1, r2, r3)) : Ctr TE 102 none [.v (.string a0)] [.own 22 1 (rX (cL (cI .i64) 1) r1), .ro (.v (.int .i64 r2)), .ro (.v (.bool r3))] [] := by
 refine ctr_of (fn := Tryd.f102) (c := (bodyOf Tryd.f102)) Tryd.func102 rfl (by kernel_rfl) (Nat.le_of_ble_eq_true (by kernel_rfl)) (fun w ro B hF _ => ?_)
 have ih : Kp (∀ m, m < k + 1 → spec_l11Rows.C m) := ⟨fun m _ => spec_l11Rows.cs m⟩
 simp only [spec_l11Rows.f] at h
 obtain ⟨y278, hy278, h⟩ := Option.bind_eq_some_iff.1 h
 cases hy278
 obtain ⟨⟨t281, t282⟩, q1, h⟩ := Option.bind_eq_some_iff.1 h
 dsimp only at h
 have q1c := spec_ShapeOf.ctr k _ _ _ _ q1
 by_cases c2 : t282 = true
 · rw [if_pos c2] at h
   obtain ⟨⟨t285, t286, t289⟩, q3, h⟩ := Option.bind_eq_some_iff.1 h
   dsimp only at h
   have q3c := spec_l1Read.ctr k _ _ _ _ _ q3
   refine path_ok (k := 17) hF (RetQ_mild _ _ _ _ _ _ _ _) (ds := [.p 12 ([]), .r [.own 3 1 (rX (cI .i64) t281), .ro (.v (.bool t282))] [], .b false, .r [.ro (.ag [.v (.int .i64 t285), .sl 2 (r95 t286)]), .ro (.v (.bool t289))] [], .e 28 (.v (.int .i64 (t286.length : Int)))]) (os := []) (c := none) rfl KD ?_
   exact WS.can [(1005, some 12), (1006, some 100240)] (((ih.out k (by omega)).s_l0  r1 r2 r3 w ro B hF (([] : List (List Int))) t281 t286 (t286.length : Int) 0 h).out) KD
 · rw [if_neg c2] at h
   refine path_ok (k := 13) hF (RetQ_mild _ _ _ _ _ _ _ _) (ds := [.p 12 ([]), .r [.own 3 1 (rX (cI .i64) t281), .ro (.v (.bool t282))] [], .b true]) (os := []) (c := none) rfl KD ?_
   cases h
   exact ret_as (ms := [.own, .ro, .ro]) rfl KD
mutual
def spec_TransposeArray.l0 : Nat → List (List Int) → List (List Int) → Int → Int → Option (ByteArray × Bool)
  | 0, _, _, _, _ => none
  | k + 1, x4, x7, x21, x22 => if x22 < x21 then (spec_TransposeArray.l1 k x4 x7 x22 (([] : List Int)) x21 x22 x4 (x4.length : Int) 0) else ((spec_l11Text.f k x7).bind fun bt308 => (some (bt308.1, bt308.2)))
def spec_TransposeArray.l1 : Nat → List (List Int) → List (List Int) → Int → List Int → Int → Int → List (List Int) → Int → Int → Option (ByteArray × Bool)
  | 0, _, _, _, _, _, _, _, _, _ => none
  | k + 1, x4, x7, x8, x9, x21, x22, x26, x27, x28 => if x28 < x27 then (if 0 ≤ x28 then (if x28 < (x26.length : Int) then (if 0 ≤ x8 then (if x8 < ((rd_L3 x26 x28).length : Int) then (if x9.length < 17592186044416 then (spec_TransposeArray.l1 k x4 x7 x8 (x9 ++ [rd (rd_L3 x26 x28) x8]) x21 x22 x26 x27 (wrap64 (x28 + 1))) else (none)) else (none)) else (none)) else (none)) else (none)) else (if x7.length < 5864062014805 then (spec_TransposeArray.l0 k x4 (x7 ++ [x9]) x21 (wrap64 (x22 + 1))) else (none))
end
def spec_TransposeArray.f (k : Nat) (a0 : ByteArray) : Option (ByteArray × Bool) := (spec_l11Rows.f k a0).bind fun bt300 => (if bt300.2.2 = true then (spec_TransposeArray.l0 k bt300.1 (([] : List (List Int))) bt300.2.1 0) else (some ((⟨#[]⟩ : ByteArray), false)))
def spec_TransposeArray.I0 (r1 : ByteArray) (r2 : Bool) (m : Nat) (σ : St) : Prop := ∃ (x4 : List (List Int)) (x7 : List (List Int)) (x21 : Int) (x22 : Int), spec_TransposeArray.l0 m x4 x7 x21 x22 = some (r1, r2) ∧ σ = ⟨[(4, .sl 1 (rX (cL (cI .i64) 1) x4)), (7, .ow 1007 0), (21, .v (.int .i64 x21)), (22, .v (.int .i64 x22))], [(1007, .own 0 22 1 (rX (cL (cI .i64) 1) x7))]⟩
def spec_TransposeArray.I1 (r1 : ByteArray) (r2 : Bool) (m : Nat) (σ : St) : Prop := ∃ (x4 : List (List Int)) (x7 : List (List Int)) (x8 : Int) (x9 : List Int) (x21 : Int) (x22 : Int) (x26 : List (List Int)) (x27 : Int) (x28 : Int), spec_TransposeArray.l1 m x4 x7 x8 x9 x21 x22 x26 x27 x28 = some (r1, r2) ∧ σ = ⟨[(4, .sl 1 (rX (cL (cI .i64) 1) x4)), (7, .ow 1007 0), (8, .v (.int .i64 x8)), (9, .ow 1009 0), (21, .v (.int .i64 x21)), (22, .v (.int .i64 x22)), (26, .sl 1 (rX (cL (cI .i64) 1) x26)), (27, .v (.int .i64 x27)), (28, .v (.int .i64 x28))], [(1007, .own 0 22 1 (rX (cL (cI .i64) 1) x7)), (1009, .own 0 3 1 (rX (cI .i64) x9))]⟩
structure spec_TransposeArray.C (k : Nat) : Prop where
 s_l0 : ∀ (r1 : ByteArray) (r2 : Bool) (w : World) (ro : Nat → Prop) (B : Nat) (_ : Fr TE (cx0 Tryd.f54 none w ro B)) (x4 : List (List Int)) (x7 : List (List Int)) (x21 : Int) (x22 : Int) (_ : spec_TransposeArray.l0 k x4 x7 x21 x22 = some (r1, r2)), Kp (WS TE (cx0 Tryd.f54 none w ro B) (stkAt [1, 1, 1, 1, 0, 1, 0] [] (bodyOf Tryd.f54) []) ⟨[(4, .sl 1 (rX (cL (cI .i64) 1) x4)), (7, .ow 1007 0), (21, .v (.int .i64 x21)), (22, .v (.int .i64 x22))], [(1007, .own 0 22 1 (rX (cL (cI .i64) 1) x7))]⟩ (RetQ TE Tryd.f54 none [.ro (.v (.string r1)), .ro (.v (.bool r2))] [] w ro B))
 s_l1 : ∀ (r1 : ByteArray) (r2 : Bool) (w : World) (ro : Nat → Prop) (B : Nat) (_ : Fr TE (cx0 Tryd.f54 none w ro B)) (J0 : St → Prop) (_ : ∀ m σ, m ≤ k → spec_TransposeArray.I0 r1 r2 m σ → J0 σ) (x4 : List (List Int)) (x7 : List (List Int)) (x8 : Int) (x9 : List Int) (x21 : Int) (x22 : Int) (x26 : List (List Int)) (x27 : Int) (x28 : Int) (_ : spec_TransposeArray.l1 k x4 x7 x8 x9 x21 x22 x26 x27 x28 = some (r1, r2)), Kp (WS TE (cx0 Tryd.f54 none w ro B) (stkAt [1, 1, 1, 1, 0, 1, 0, 0, 1, 1, 0, 0, 1, 1, 0, 1, 0] [J0] (bodyOf Tryd.f54) []) ⟨[(4, .sl 1 (rX (cL (cI .i64) 1) x4)), (7, .ow 1007 0), (8, .v (.int .i64 x8)), (9, .ow 1009 0), (21, .v (.int .i64 x21)), (22, .v (.int .i64 x22)), (26, .sl 1 (rX (cL (cI .i64) 1) x26)), (27, .v (.int .i64 x27)), (28, .v (.int .i64 x28))], [(1007, .own 0 22 1 (rX (cL (cI .i64) 1) x7)), (1009, .own 0 3 1 (rX (cI .i64) x9))]⟩ (RetQ TE Tryd.f54 none [.ro (.v (.string r1)), .ro (.v (.bool r2))] [] w ro B))
set_option maxRecDepth 100000 in
set_option maxHeartbeats 4000000 in
theorem spec_TransposeArray.c_l0 (k : Nat) (ih : Kp (∀ m, m < k → spec_TransposeArray.C m)) (r1 : ByteArray) (r2 : Bool) (w : World) (ro : Nat → Prop) (B : Nat) (hF : Fr TE (cx0 Tryd.f54 none w ro B)) (x4 : List (List Int)) (x7 : List (List Int)) (x21 : Int) (x22 : Int) (h : spec_TransposeArray.l0 k x4 x7 x21 x22 = some (r1, r2)) : Kp (WS TE (cx0 Tryd.f54 none w ro B) (stkAt [1, 1, 1, 1, 0, 1, 0] [] (bodyOf Tryd.f54) []) ⟨[(4, .sl 1 (rX (cL (cI .i64) 1) x4)), (7, .ow 1007 0), (21, .v (.int .i64 x21)), (22, .v (.int .i64 x22))], [(1007, .own 0 22 1 (rX (cL (cI .i64) 1) x7))]⟩ (RetQ TE Tryd.f54 none [.ro (.v (.string r1)), .ro (.v (.bool r2))] [] w ro B)) := by
 refine ⟨WS.loop (fun m σ => m ≤ k ∧ spec_TransposeArray.I0 r1 r2 m σ) k ⟨Nat.le_refl k, x4, x7, x21, x22, h, rfl⟩ (fun m σ' hI J0 hJ0 => ?_)⟩
 clear h
 obtain ⟨hk, x4, x7, x21, x22, h, rfl⟩ := hI
 cases m with
 | zero => simp [spec_TransposeArray.l0] at h
 | succ k' =>
 simp only [spec_TransposeArray.l0] at h
 by_cases c3 : x22 < x21
 · rw [if_pos c3] at h
   refine path_ok (k := 15) hF (RetQ_mild _ _ _ _ _ _ _ _) (ds := [.b true, .p 25 ([]), .e 27 (.v (.int .i64 (x4.length : Int)))]) (os := []) (c := none) rfl KD ?_
   exact WS.can [(1007, some 1007), (1009, some 25)] (((ih.out k' (by omega)).s_l1  r1 r2 w ro B hF J0 (fun m σ hm hI => hJ0 m σ (by omega) ⟨by omega, hI⟩) x4 x7 x22 (([] : List Int)) x21 x22 x4 (x4.length : Int) 0 h).out) KD
 · rw [if_neg c3] at h
   obtain ⟨⟨t308, t309⟩, q4, h⟩ := Option.bind_eq_some_iff.1 h
   dsimp only at h
   have q4c := spec_l11Text.ctr k' _ _ _ q4
   refine path_ok (k := 8) hF (RetQ_mild _ _ _ _ _ _ _ _) (ds := [.b false, .r [.ro (.v (.string t308)), .ro (.v (.bool t309))] []]) (os := []) (c := none) rfl KD ?_
   cases h
   exact ret_as (ms := [.ro, .ro]) rfl KD
set_option maxRecDepth 100000 in
set_option maxHeartbeats 4000000 in
theorem spec_TransposeArray.c_l1 (k : Nat) (ih : Kp (∀ m, m < k → spec_TransposeArray.C m)) (r1 : ByteArray) (r2 : Bool) (w : World) (ro : Nat → Prop) (B : Nat) (hF : Fr TE (cx0 Tryd.f54 none w ro B)) (J0 : St → Prop) (hJ0 : ∀ m σ, m ≤ k → spec_TransposeArray.I0 r1 r2 m σ → J0 σ) (x4 : List (List Int)) (x7 : List (List Int)) (x8 : Int) (x9 : List Int) (x21 : Int) (x22 : Int) (x26 : List (List Int)) (x27 : Int) (x28 : Int) (h : spec_TransposeArray.l1 k x4 x7 x8 x9 x21 x22 x26 x27 x28 = some (r1, r2)) : Kp (WS TE (cx0 Tryd.f54 none w ro B) (stkAt [1, 1, 1, 1, 0, 1, 0, 0, 1, 1, 0, 0, 1, 1, 0, 1, 0] [J0] (bodyOf Tryd.f54) []) ⟨[(4, .sl 1 (rX (cL (cI .i64) 1) x4)), (7, .ow 1007 0), (8, .v (.int .i64 x8)), (9, .ow 1009 0), (21, .v (.int .i64 x21)), (22, .v (.int .i64 x22)), (26, .sl 1 (rX (cL (cI .i64) 1) x26)), (27, .v (.int .i64 x27)), (28, .v (.int .i64 x28))], [(1007, .own 0 22 1 (rX (cL (cI .i64) 1) x7)), (1009, .own 0 3 1 (rX (cI .i64) x9))]⟩ (RetQ TE Tryd.f54 none [.ro (.v (.string r1)), .ro (.v (.bool r2))] [] w ro B)) := by
 refine ⟨WS.loop (fun m σ => m ≤ k ∧ spec_TransposeArray.I1 r1 r2 m σ) k ⟨Nat.le_refl k, x4, x7, x8, x9, x21, x22, x26, x27, x28, h, rfl⟩ (fun m σ' hI J1 hJ1 => ?_)⟩
 clear h
 obtain ⟨hk, x4, x7, x8, x9, x21, x22, x26, x27, x28, h, rfl⟩ := hI
 cases m with
 | zero => simp [spec_TransposeArray.l1] at h
 | succ k' =>
 simp only [spec_TransposeArray.l1] at h
 by_cases c5 : x28 < x27
 · rw [if_pos c5] at h
   by_cases c6 : 0 ≤ x28
   · rw [if_pos c6] at h
     by_cases c7 : x28 < (x26.length : Int)
     · rw [if_pos c7] at h
       by_cases c8 : 0 ≤ x8
       · rw [if_pos c8] at h
         by_cases c9 : x8 < ((rd_L3 x26 x28).length : Int)
         · rw [if_pos c9] at h
           by_cases c10 : x9.length < 17592186044416
           · rw [if_pos c10] at h
             refine path_ok (k := 12) hF (RetQ_mild _ _ _ _ _ _ _ _) (ds := [.b true, .e 30 (.rf [.sl 1 (rX (cI .i64) (rd_L3 x26 x28))]), .e 35 (.rf [.v (.int .i64 (rd (rd_L3 x26 x28) x8))]), .p 37 ([[.v (.int .i64 (rd (rd_L3 x26 x28) x8))]]), .o 38 (rX (cI .i64) (x9 ++ [rd (rd_L3 x26 x28) x8]))]) (os := []) (c := none) rfl KD ?_
             exact WS.lpc [(1007, some 1007), (1009, some 1009)] (hJ1 _ _ (Nat.lt_succ_self _) ⟨by omega, x4, x7, x8, (x9 ++ [rd (rd_L3 x26 x28) x8]), x21, x22, x26, x27, (wrap64 (x28 + 1)), h, rfl⟩) KD
           · rw [if_neg c10] at h
             cases h
         · rw [if_neg c9] at h
           cases h
       · rw [if_neg c8] at h
         cases h
     · rw [if_neg c7] at h
       cases h
   · rw [if_neg c6] at h
     cases h
 · rw [if_neg c5] at h
   by_cases c11 : x7.length < 5864062014805
   · rw [if_pos c11] at h
     refine path_ok (k := 8) hF (RetQ_mild _ _ _ _ _ _ _ _) (ds := [.b false, .p 42 ([[.sl 1 (rX (cI .i64) x9)]]), .o 43 (rX (cL (cI .i64) 1) (x7 ++ [x9]))]) (os := []) (c := none) rfl KD ?_
     exact WS.lpc [(1007, some 1007)] (hJ0 _ _ (by omega) ⟨x4, (x7 ++ [x9]), x21, (wrap64 (x22 + 1)), h, rfl⟩) KD
   · rw [if_neg c11] at h
     cases h
theorem spec_TransposeArray.cs (k : Nat) : spec_TransposeArray.C k := by
 induction k using Nat.strongRecOn with
 | _ k ih0 =>
 have ih : Kp (∀ m, m < k → spec_TransposeArray.C m) := ⟨ih0⟩
 exact ⟨spec_TransposeArray.c_l0 k ih, spec_TransposeArray.c_l1 k ih⟩
set_option maxRecDepth 100000 in
set_option maxHeartbeats 4000000 in
theorem spec_TransposeArray.ctr (k : Nat) (a0 : ByteArray) (r1 : ByteArray) (r2 : Bool) (h : spec_TransposeArray.f k a0 = some (r1, r2)) : Ctr TE 54 none [.v (.string a0)] [.ro (.v (.string r1)), .ro (.v (.bool r2))] [] := by
 refine ctr_of (fn := Tryd.f54) (c := (bodyOf Tryd.f54)) Tryd.func54 rfl (by kernel_rfl) (Nat.le_of_ble_eq_true (by kernel_rfl)) (fun w ro B hF _ => ?_)
 have ih : Kp (∀ m, m < k + 1 → spec_TransposeArray.C m) := ⟨fun m _ => spec_TransposeArray.cs m⟩
 simp only [spec_TransposeArray.f] at h
 obtain ⟨⟨t300, t301, t302⟩, q1, h⟩ := Option.bind_eq_some_iff.1 h
 dsimp only at h
 have q1c := spec_l11Rows.ctr k _ _ _ _ q1
 by_cases c2 : t302 = true
 · rw [if_pos c2] at h
   refine path_ok (k := 15) hF (RetQ_mild _ _ _ _ _ _ _ _) (ds := [.r [.own 22 1 (rX (cL (cI .i64) 1) t300), .ro (.v (.int .i64 t301)), .ro (.v (.bool t302))] [], .b false, .p 20 ([])]) (os := []) (c := none) rfl KD ?_
   refine WS.freeze 100224 ?_ rfl
   exact WS.can [(1007, some 20)] (((ih.out k (by omega)).s_l0  r1 r2 w ro B hF t300 (([] : List (List Int))) t301 0 h).out) KD
 · rw [if_neg c2] at h
   refine path_ok (k := 11) hF (RetQ_mild _ _ _ _ _ _ _ _) (ds := [.r [.own 22 1 (rX (cL (cI .i64) 1) t300), .ro (.v (.int .i64 t301)), .ro (.v (.bool t302))] [], .b true]) (os := []) (c := none) rfl KD ?_
   cases h
   exact ret_as (ms := [.ro, .ro]) rfl KD
end Go.Proofs.YtmjoigpnnechgaaDoor.U
