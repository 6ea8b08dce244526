/- A part of the claim. -/
import Derived.Test.YtlhejcogdjelpaaDoorGFx0
-- PRINTED by print.py (a twelfth state) out of the translation. Not trusted: Lean checks it.
namespace Go.Proofs.YtlhejcogdjelpaaDoor.G
open Go.RowKit Go.Proofs.YtlhejcogdjelpaaDoorW.St Go.Proofs.YtlhejcogdjelpaaDoorW.PrintWords Go.Proofs.YtlhejcogdjelpaaDoorW.PrintLast Go.Proofs.YtlhejcogdjelpaaDoorW.PrintMore
attribute [local go_sem] max2_int min2_int max_two min_two max_three min_three max_four min_four   -- for this text's walks alone
set_option linter.unusedVariables false
set_option linter.unusedSimpArgs false
def spec_l13Rd_pick.j0 : Nat → Int → Bool → List Int → Int → Option (Int × Int)
  | 0, _, _, _, _ => none
  | k + 1, x1, x24, x1000, x1001 => if x24 = true then (some (0, x1001)) else (if (wrap64 (x1001 - 1)) < (x1000.length : Int) then (if 0 ≤ (wrap64 (x1001 - 1)) then (if x1 = 0 then (none) else (some (Int.tmod (wrap64 (rd x1000 (wrap64 (x1001 - 1)))) x1, x1001))) else (none)) else (if (x1000.length : Int) = 0 then (none) else (if 0 ≤ (Int.tmod (wrap64 (x1001 - 1)) (x1000.length : Int)) then (if (Int.tmod (wrap64 (x1001 - 1)) (x1000.length : Int)) < (x1000.length : Int) then (if 0 ≤ (Int.tmod (wrap64 ((wrap64 ((wrap64 (x1001 - 1)) * 7)) + 3)) (x1000.length : Int)) then (if (Int.tmod (wrap64 ((wrap64 ((wrap64 (x1001 - 1)) * 7)) + 3)) (x1000.length : Int)) < (x1000.length : Int) then (if x1 = 0 then (none) else (some (Int.tmod (Go.bits .xor .i64 (wrap64 ((wrap64 ((wrap64 ((wrap64 ((wrap64 (rd x1000 (Int.tmod (wrap64 (x1001 - 1)) (x1000.length : Int)))) * 131)) + (wrap64 ((wrap64 (rd x1000 (Int.tmod (wrap64 ((wrap64 ((wrap64 (x1001 - 1)) * 7)) + 3)) (x1000.length : Int)))) * 1117)))) + (wrap64 ((wrap64 (x1001 - 1)) * 29)))) + (wrap64 ((wrap64 (Int.tdiv (wrap64 (x1001 - 1)) (x1000.length : Int))) * 53)))) (wrap64 (Int.tdiv (wrap64 ((wrap64 ((wrap64 ((wrap64 ((wrap64 (rd x1000 (Int.tmod (wrap64 (x1001 - 1)) (x1000.length : Int)))) * 131)) + (wrap64 ((wrap64 (rd x1000 (Int.tmod (wrap64 ((wrap64 ((wrap64 (x1001 - 1)) * 7)) + 3)) (x1000.length : Int)))) * 1117)))) + (wrap64 ((wrap64 (x1001 - 1)) * 29)))) + (wrap64 ((wrap64 (Int.tdiv (wrap64 (x1001 - 1)) (x1000.length : Int))) * 53)))) 64))) x1, x1001))) else (none)) else (none)) else (none)) else (none))))
def spec_l13Rd_pick.f (k : Nat) (s0_0 : List Int) (s0_1 : Int) (a1 : Int) : Option (Int × Int) := if a1 < 1 then (spec_l13Rd_pick.j0 k a1 true s0_0 (wrap64 (s0_1 + 1))) else (spec_l13Rd_pick.j0 k a1 ((s0_0.length : Int) == 0) s0_0 (wrap64 (s0_1 + 1)))
structure spec_l13Rd_pick.C (k : Nat) : Prop where
 s_j0 : ∀ (s0_0 : List Int) (s0_1 : Int) (r1 : Int) (r2 : Int) (w : World) (ro : Nat → Prop) (B : Nat) (_ : Fr TE (cx0 Tryd.f29 (some (88, [.sl 1 (rX (cI .u8) s0_0), .v (.int .i64 s0_1)])) w ro B)) (x1 : Int) (x24 : Bool) (x1001 : Int) (_ : spec_l13Rd_pick.j0 k x1 x24 s0_0 x1001 = some (r1, r2)), Kp (WS TE (cx0 Tryd.f29 (some (88, [.sl 1 (rX (cI .u8) s0_0), .v (.int .i64 s0_1)])) w ro B) (stkAt [1, 1, 0, 0, 9] [] (bodyOf Tryd.f29) []) ⟨[(0, .pt 0 0 0), (1, .v (.int .i64 x1)), (24, .v (.bool x24))], [(0, .box 0 88 true [.sl 1 (rX (cI .u8) s0_0), .v (.int .i64 x1001)])]⟩ (RetQ TE Tryd.f29 (some (88, [.sl 1 (rX (cI .u8) s0_0), .v (.int .i64 s0_1)])) [.ro (.v (.int .i64 r1))] [.sl 1 (rX (cI .u8) s0_0), .v (.int .i64 r2)] w ro B))
set_option maxRecDepth 100000 in
set_option maxHeartbeats 4000000 in
theorem spec_l13Rd_pick.c_j0 (k : Nat) (ih : Kp (∀ m, m < k → spec_l13Rd_pick.C m)) (s0_0 : List Int) (s0_1 : Int) (r1 : Int) (r2 : Int) (w : World) (ro : Nat → Prop) (B : Nat) (hF : Fr TE (cx0 Tryd.f29 (some (88, [.sl 1 (rX (cI .u8) s0_0), .v (.int .i64 s0_1)])) w ro B)) (x1 : Int) (x24 : Bool) (x1001 : Int) (h : spec_l13Rd_pick.j0 k x1 x24 s0_0 x1001 = some (r1, r2)) : Kp (WS TE (cx0 Tryd.f29 (some (88, [.sl 1 (rX (cI .u8) s0_0), .v (.int .i64 s0_1)])) w ro B) (stkAt [1, 1, 0, 0, 9] [] (bodyOf Tryd.f29) []) ⟨[(0, .pt 0 0 0), (1, .v (.int .i64 x1)), (24, .v (.bool x24))], [(0, .box 0 88 true [.sl 1 (rX (cI .u8) s0_0), .v (.int .i64 x1001)])]⟩ (RetQ TE Tryd.f29 (some (88, [.sl 1 (rX (cI .u8) s0_0), .v (.int .i64 s0_1)])) [.ro (.v (.int .i64 r1))] [.sl 1 (rX (cI .u8) s0_0), .v (.int .i64 r2)] w ro B)) := by
 refine ⟨?_⟩
 cases k with
 | zero => simp [spec_l13Rd_pick.j0] at h
 | succ k =>
 simp only [spec_l13Rd_pick.j0] at h
 by_cases c2 : x24 = true
 · rw [if_pos c2] at h
   refine path_ok (k := 4) hF (RetQ_mild _ _ _ _ _ _ _ _) (ds := [.b true]) (os := []) (c := none) rfl KD ?_
   cases h
   exact ret_as (ms := [.ro]) rfl KD
 · rw [if_neg c2] at h
   by_cases c3 : (wrap64 (x1001 - 1)) < (s0_0.length : Int)
   · rw [if_pos c3] at h
     by_cases c4 : 0 ≤ (wrap64 (x1001 - 1))
     · rw [if_pos c4] at h
       by_cases c5 : x1 = 0
       · rw [if_pos c5] at h
         cases h
       · rw [if_neg c5] at h
         refine path_ok (k := 11) hF (RetQ_mild _ _ _ _ _ _ _ _) (ds := [.b false, .e 35 (.v (.int .i64 (s0_0.length : Int))), .b true, .e 42 (.rf [.v (.int .u8 (rd s0_0 (wrap64 (x1001 - 1))))]), .e 44 (.v (.int .i64 (wrap64 (rd s0_0 (wrap64 (x1001 - 1)))))), .e 46 (.v (.int .i64 (Int.tmod (wrap64 (rd s0_0 (wrap64 (x1001 - 1)))) x1)))]) (os := []) (c := none) rfl KD ?_
         cases h
         exact ret_as (ms := [.ro]) rfl KD
     · rw [if_neg c4] at h
       cases h
   · rw [if_neg c3] at h
     by_cases c6 : (s0_0.length : Int) = 0
     · rw [if_pos c6] at h
       cases h
     · rw [if_neg c6] at h
       by_cases c7 : 0 ≤ (Int.tmod (wrap64 (x1001 - 1)) (s0_0.length : Int))
       · rw [if_pos c7] at h
         by_cases c8 : (Int.tmod (wrap64 (x1001 - 1)) (s0_0.length : Int)) < (s0_0.length : Int)
         · rw [if_pos c8] at h
           by_cases c9 : 0 ≤ (Int.tmod (wrap64 ((wrap64 ((wrap64 (x1001 - 1)) * 7)) + 3)) (s0_0.length : Int))
           · rw [if_pos c9] at h
             by_cases c10 : (Int.tmod (wrap64 ((wrap64 ((wrap64 (x1001 - 1)) * 7)) + 3)) (s0_0.length : Int)) < (s0_0.length : Int)
             · rw [if_pos c10] at h
               by_cases c11 : x1 = 0
               · rw [if_pos c11] at h
                 cases h
               · rw [if_neg c11] at h
                 refine path_ok (k := 16) hF (RetQ_mild _ _ _ _ _ _ _ _) (ds := [.b false, .e 35 (.v (.int .i64 (s0_0.length : Int))), .b false, .e 56 (.v (.int .i64 (s0_0.length : Int))), .e 57 (.v (.int .i64 (Int.tmod (wrap64 (x1001 - 1)) (s0_0.length : Int)))), .e 58 (.rf [.v (.int .u8 (rd s0_0 (Int.tmod (wrap64 (x1001 - 1)) (s0_0.length : Int))))]), .e 60 (.v (.int .i64 (wrap64 (rd s0_0 (Int.tmod (wrap64 (x1001 - 1)) (s0_0.length : Int)))))), .e 73 (.v (.int .i64 (s0_0.length : Int))), .e 74 (.v (.int .i64 (Int.tmod (wrap64 ((wrap64 ((wrap64 (x1001 - 1)) * 7)) + 3)) (s0_0.length : Int)))), .e 75 (.rf [.v (.int .u8 (rd s0_0 (Int.tmod (wrap64 ((wrap64 ((wrap64 (x1001 - 1)) * 7)) + 3)) (s0_0.length : Int))))]), .e 77 (.v (.int .i64 (wrap64 (rd s0_0 (Int.tmod (wrap64 ((wrap64 ((wrap64 (x1001 - 1)) * 7)) + 3)) (s0_0.length : Int)))))), .e 88 (.v (.int .i64 (s0_0.length : Int))), .e 89 (.v (.int .i64 (wrap64 (Int.tdiv (wrap64 (x1001 - 1)) (s0_0.length : Int))))), .e 94 (.v (.int .i64 (wrap64 (Int.tdiv (wrap64 ((wrap64 ((wrap64 ((wrap64 ((wrap64 (rd s0_0 (Int.tmod (wrap64 (x1001 - 1)) (s0_0.length : Int)))) * 131)) + (wrap64 ((wrap64 (rd s0_0 (Int.tmod (wrap64 ((wrap64 ((wrap64 (x1001 - 1)) * 7)) + 3)) (s0_0.length : Int)))) * 1117)))) + (wrap64 ((wrap64 (x1001 - 1)) * 29)))) + (wrap64 ((wrap64 (Int.tdiv (wrap64 (x1001 - 1)) (s0_0.length : Int))) * 53)))) 64)))), .e 98 (.v (.int .i64 (Int.tmod (Go.bits .xor .i64 (wrap64 ((wrap64 ((wrap64 ((wrap64 ((wrap64 (rd s0_0 (Int.tmod (wrap64 (x1001 - 1)) (s0_0.length : Int)))) * 131)) + (wrap64 ((wrap64 (rd s0_0 (Int.tmod (wrap64 ((wrap64 ((wrap64 (x1001 - 1)) * 7)) + 3)) (s0_0.length : Int)))) * 1117)))) + (wrap64 ((wrap64 (x1001 - 1)) * 29)))) + (wrap64 ((wrap64 (Int.tdiv (wrap64 (x1001 - 1)) (s0_0.length : Int))) * 53)))) (wrap64 (Int.tdiv (wrap64 ((wrap64 ((wrap64 ((wrap64 ((wrap64 (rd s0_0 (Int.tmod (wrap64 (x1001 - 1)) (s0_0.length : Int)))) * 131)) + (wrap64 ((wrap64 (rd s0_0 (Int.tmod (wrap64 ((wrap64 ((wrap64 (x1001 - 1)) * 7)) + 3)) (s0_0.length : Int)))) * 1117)))) + (wrap64 ((wrap64 (x1001 - 1)) * 29)))) + (wrap64 ((wrap64 (Int.tdiv (wrap64 (x1001 - 1)) (s0_0.length : Int))) * 53)))) 64))) x1)))]) (os := [.o [(0, 0), (1, 0), (2, 0), (3, 1), (4, 0), (5, 0), (6, 0), (7, 0), (8, 1), (9, 0), (10, 0), (11, 0), (12, 1), (13, 0), (14, 0), (15, 0), (16, 0), (17, 0), (18, 1), (19, 0), (20, 0), (21, 0), (22, 0), (23, 0), (24, 0), (25, 1), (26, 0), (27, 0), (28, 0), (29, 1), (30, 0), (31, 0), (32, 0), (33, 0), (34, 0), (35, 0), (36, 0), (37, 0), (38, 0), (39, 0), (40, 1), (41, 0), (42, 0), (43, 0), (44, 0), (45, 0)] []]) (c := none) rfl KD ?_
                 cases h
                 exact ret_as (ms := [.ro]) rfl KD
             · rw [if_neg c10] at h
               cases h
           · rw [if_neg c9] at h
             cases h
         · rw [if_neg c8] at h
           cases h
       · rw [if_neg c7] at h
         cases h
theorem spec_l13Rd_pick.cs (k : Nat) : spec_l13Rd_pick.C k := by
 induction k using Nat.strongRecOn with
 | _ k ih0 =>
 have ih : Kp (∀ m, m < k → spec_l13Rd_pick.C m) := ⟨ih0⟩
 exact ⟨spec_l13Rd_pick.c_j0 k ih⟩
set_option maxRecDepth 100000 in
set_option maxHeartbeats 4000000 in
theorem spec_l13Rd_pick.ctr (k : Nat) (s0_0 : List Int) (s0_1 : Int) (a1 : Int) (r1 : Int) (r2 : Int) (h : spec_l13Rd_pick.f k s0_0 s0_1 a1 = some (r1, r2)) : Ctr TE 29 (some (88, [.sl 1 (rX (cI .u8) s0_0), .v (.int .i64 s0_1)])) [.pt 0 0 0, .v (.int .i64 a1)] [.ro (.v (.int .i64 r1))] [.sl 1 (rX (cI .u8) s0_0), .v (.int .i64 r2)] := by
 refine ctr_of (fn := Tryd.f29) (c := (bodyOf Tryd.f29)) Tryd.func29 rfl (by kernel_rfl) (Nat.le_of_ble_eq_true (by kernel_rfl)) (fun w ro B hF _ => ?_)
 have ih : Kp (∀ m, m < k + 1 → spec_l13Rd_pick.C m) := ⟨fun m _ => spec_l13Rd_pick.cs m⟩
 simp only [spec_l13Rd_pick.f] at h
 by_cases c1 : a1 < 1
 · rw [if_pos c1] at h
   refine path_ok (k := 7) hF (RetQ_mild _ _ _ _ _ _ _ _) (ds := [.b true, .b true, .b true, .b true, .b true, .b true, .b true]) (os := []) (c := none) rfl KD ?_
   exact WS.can [(0, some 0)] (((ih.out k (by omega)).s_j0 s0_0 s0_1 r1 r2 w ro B hF a1 true (wrap64 (s0_1 + 1)) h).out) KD
 · rw [if_neg c1] at h
   refine path_ok (k := 7) hF (RetQ_mild _ _ _ _ _ _ _ _) (ds := [.b false, .b false, .b false, .b false, .b false, .e 22 (.v (.int .i64 (s0_0.length : Int))), .b false, .b false]) (os := []) (c := none) rfl KD ?_
   exact WS.can [(0, some 0)] (((ih.out k (by omega)).s_j0 s0_0 s0_1 r1 r2 w ro B hF a1 ((s0_0.length : Int) == 0) (wrap64 (s0_1 + 1)) h).out) KD
def spec_l1In.f (a0 : Int) (a1 : Int) (a2 : Int) : Option (Bool) := if a0 ≥ a1 then (some (decide (a0 ≤ a2))) else (some false)
set_option maxRecDepth 100000 in
set_option maxHeartbeats 4000000 in
theorem spec_l1In.ctr (a0 : Int) (a1 : Int) (a2 : Int) (r : Bool) (h : spec_l1In.f a0 a1 a2 = some r) : Ctr TE 41 none [.v (.int .i64 a0), .v (.int .i64 a1), .v (.int .i64 a2)] [.ro (.v (.bool r))] [] := by
 refine ctr_of (fn := Tryd.f41) (c := (bodyOf Tryd.f41)) Tryd.func41 rfl (by kernel_rfl) (Nat.le_of_ble_eq_true (by kernel_rfl)) (fun w ro B hF _ => ?_)
 simp only [spec_l1In.f] at h
 by_cases c1 : a0 ≥ a1
 · rw [if_pos c1] at h
   refine path_ok (k := 5) hF (RetQ_mild _ _ _ _ _ _ _ _) (ds := [.b true, .b true, .b true, .b true]) (os := []) (c := none) rfl KD ?_
   cases h
   exact ret_as (ms := [.ro]) rfl KD
 · rw [if_neg c1] at h
   refine path_ok (k := 5) hF (RetQ_mild _ _ _ _ _ _ _ _) (ds := [.b false, .b false, .b false, .b false]) (os := []) (c := none) rfl KD ?_
   cases h
   exact ret_as (ms := [.ro]) rfl KD
def spec_l3Numbers.l0 : Nat → List Int → Int → Int → Option (Bool)
  | 0, _, _, _ => none
  | k + 1, x5, x6, x7 => if x7 < x6 then (if 0 ≤ x7 then (if x7 < (x5.length : Int) then ((spec_l1In.f (rd x5 x7) 0 10006).bind fun t162 => (if t162 = true then (spec_l3Numbers.l0 k x5 x6 (wrap64 (x7 + 1))) else (some false))) else (none)) else (none)) else (some true)
def spec_l3Numbers.f (k : Nat) (l0 : List Int) : Option (Bool) := spec_l3Numbers.l0 k l0 (l0.length : Int) 0
def spec_l3Numbers.I0 (r : Bool) (m : Nat) (σ : St) : Prop := ∃ (x5 : List Int) (x6 : Int) (x7 : Int), spec_l3Numbers.l0 m x5 x6 x7 = some r ∧ σ = ⟨[(5, .sl 1 (rX (cI .i64) x5)), (6, .v (.int .i64 x6)), (7, .v (.int .i64 x7))], []⟩
structure spec_l3Numbers.C (k : Nat) : Prop where
 s_l0 : ∀ (r : Bool) (w : World) (ro : Nat → Prop) (B : Nat) (_ : Fr TE (cx0 Tryd.f63 none w ro B)) (x5 : List Int) (x6 : Int) (x7 : Int) (_ : spec_l3Numbers.l0 k x5 x6 x7 = some r), Kp (WS TE (cx0 Tryd.f63 none w ro B) (stkAt [1, 0, 1, 0] [] (bodyOf Tryd.f63) []) ⟨[(5, .sl 1 (rX (cI .i64) x5)), (6, .v (.int .i64 x6)), (7, .v (.int .i64 x7))], []⟩ (RetQ TE Tryd.f63 none [.ro (.v (.bool r))] [] w ro B))
set_option maxRecDepth 100000 in
set_option maxHeartbeats 4000000 in
theorem spec_l3Numbers.c_l0 (k : Nat) (ih : Kp (∀ m, m < k → spec_l3Numbers.C m)) (r : Bool) (w : World) (ro : Nat → Prop) (B : Nat) (hF : Fr TE (cx0 Tryd.f63 none w ro B)) (x5 : List Int) (x6 : Int) (x7 : Int) (h : spec_l3Numbers.l0 k x5 x6 x7 = some r) : Kp (WS TE (cx0 Tryd.f63 none w ro B) (stkAt [1, 0, 1, 0] [] (bodyOf Tryd.f63) []) ⟨[(5, .sl 1 (rX (cI .i64) x5)), (6, .v (.int .i64 x6)), (7, .v (.int .i64 x7))], []⟩ (RetQ TE Tryd.f63 none [.ro (.v (.bool r))] [] w ro B)) := by
 refine ⟨WS.loop (fun m σ => m ≤ k ∧ spec_l3Numbers.I0 r m σ) k ⟨Nat.le_refl k, x5, x6, x7, h, rfl⟩ (fun m σ' hI J0 hJ0 => ?_)⟩
 clear h
 obtain ⟨hk, x5, x6, x7, h, rfl⟩ := hI
 cases m with
 | zero => simp [spec_l3Numbers.l0] at h
 | succ k' =>
 simp only [spec_l3Numbers.l0] at h
 by_cases c1 : x7 < x6
 · rw [if_pos c1] at h
   by_cases c2 : 0 ≤ x7
   · rw [if_pos c2] at h
     by_cases c3 : x7 < (x5.length : Int)
     · rw [if_pos c3] at h
       obtain ⟨t162, q4, h⟩ := Option.bind_eq_some_iff.1 h
       have q4c := spec_l1In.ctr _ _ _ _ q4
       by_cases c5 : t162 = true
       · rw [if_pos c5] at h
         refine path_ok (k := 15) hF (RetQ_mild _ _ _ _ _ _ _ _) (ds := [.b true, .e 9 (.rf [.v (.int .i64 (rd x5 x7))]), .r [.ro (.v (.bool t162))] [], .b false]) (os := []) (c := none) rfl KD ?_
         exact WS.lpc [] (hJ0 _ _ (Nat.lt_succ_self _) ⟨by omega, x5, x6, (wrap64 (x7 + 1)), h, rfl⟩) KD
       · rw [if_neg c5] at h
         refine path_ok (k := 15) hF (RetQ_mild _ _ _ _ _ _ _ _) (ds := [.b true, .e 9 (.rf [.v (.int .i64 (rd x5 x7))]), .r [.ro (.v (.bool t162))] [], .b true]) (os := []) (c := none) rfl KD ?_
         cases h
         exact ret_as (ms := [.ro]) rfl KD
     · rw [if_neg c3] at h
       cases h
   · rw [if_neg c2] at h
     cases h
 · rw [if_neg c1] at h
   refine path_ok (k := 8) hF (RetQ_mild _ _ _ _ _ _ _ _) (ds := [.b false]) (os := []) (c := none) rfl KD ?_
   cases h
   exact ret_as (ms := [.ro]) rfl KD
theorem spec_l3Numbers.cs (k : Nat) : spec_l3Numbers.C k := by
 induction k using Nat.strongRecOn with
 | _ k ih0 =>
 have ih : Kp (∀ m, m < k → spec_l3Numbers.C m) := ⟨ih0⟩
 exact ⟨spec_l3Numbers.c_l0 k ih⟩
set_option maxRecDepth 100000 in
set_option maxHeartbeats 4000000 in
theorem spec_l3Numbers.ctr (k : Nat) (l0 : List Int) (r : Bool) (h : spec_l3Numbers.f k l0 = some r) : Ctr TE 63 none [.sl 1 (rX (cI .i64) l0)] [.ro (.v (.bool r))] [] := by
 refine ctr_of (fn := Tryd.f63) (c := (bodyOf Tryd.f63)) Tryd.func63 rfl (by kernel_rfl) (Nat.le_of_ble_eq_true (by kernel_rfl)) (fun w ro B hF _ => ?_)
 have ih : Kp (∀ m, m < k + 1 → spec_l3Numbers.C m) := ⟨fun m _ => spec_l3Numbers.cs m⟩
 simp only [spec_l3Numbers.f] at h
 refine path_ok (k := 6) hF (RetQ_mild _ _ _ _ _ _ _ _) (ds := [.e 6 (.v (.int .i64 (l0.length : Int)))]) (os := []) (c := none) rfl KD ?_
 exact WS.can [] (((ih.out k (by omega)).s_l0  r w ro B hF l0 (l0.length : Int) 0 h).out) KD
def spec_l4Data.f (k : Nat) (l0 : List Int) : Option (Bool) := (spec_l3Numbers.f k l0).bind fun t163 => (if t163 = true then (some (decide ((l0.length : Int) ≤ 400))) else (some false))
set_option maxRecDepth 100000 in
set_option maxHeartbeats 4000000 in
theorem spec_l4Data.ctr (k : Nat) (l0 : List Int) (r : Bool) (h : spec_l4Data.f k l0 = some r) : Ctr TE 40 none [.sl 1 (rX (cI .i64) l0)] [.ro (.v (.bool r))] [] := by
 refine ctr_of (fn := Tryd.f40) (c := (bodyOf Tryd.f40)) Tryd.func40 rfl (by kernel_rfl) (Nat.le_of_ble_eq_true (by kernel_rfl)) (fun w ro B hF _ => ?_)
 simp only [spec_l4Data.f] at h
 obtain ⟨t163, q1, h⟩ := Option.bind_eq_some_iff.1 h
 have q1c := spec_l3Numbers.ctr k _ _ q1
 by_cases c2 : t163 = true
 · rw [if_pos c2] at h
   refine path_ok (k := 5) hF (RetQ_mild _ _ _ _ _ _ _ _) (ds := [.r [.ro (.v (.bool t163))] [], .b true, .b true, .e 7 (.v (.int .i64 (l0.length : Int))), .b true, .b true]) (os := []) (c := none) rfl KD ?_
   cases h
   exact ret_as (ms := [.ro]) rfl KD
 · rw [if_neg c2] at h
   refine path_ok (k := 5) hF (RetQ_mild _ _ _ _ _ _ _ _) (ds := [.r [.ro (.v (.bool t163))] [], .b false, .b false, .b false, .b false]) (os := []) (c := none) rfl KD ?_
   cases h
   exact ret_as (ms := [.ro]) rfl KD
def spec_l11Product.l0 : Nat → Int → List Int → Int → Int → Option (Int)
  | 0, _, _, _, _ => none
  | k + 1, x3, x6, x7, x8 => if x8 < x7 then (if 0 ≤ x8 then (if x8 < (x6.length : Int) then (spec_l11Product.l0 k (mn (wrap64 (x3 * (rd x6 x8))) 401) x6 x7 (wrap64 (x8 + 1))) else (none)) else (none)) else (some x3)
def spec_l11Product.f (k : Nat) (l0 : List Int) : Option (Int) := spec_l11Product.l0 k 1 l0 (l0.length : Int) 0
def spec_l11Product.I0 (r : Int) (m : Nat) (σ : St) : Prop := ∃ (x3 : Int) (x6 : List Int) (x7 : Int) (x8 : Int), spec_l11Product.l0 m x3 x6 x7 x8 = some r ∧ σ = ⟨[(3, .v (.int .i64 x3)), (6, .sl 1 (rX (cI .i64) x6)), (7, .v (.int .i64 x7)), (8, .v (.int .i64 x8))], []⟩
structure spec_l11Product.C (k : Nat) : Prop where
 s_l0 : ∀ (r : Int) (w : World) (ro : Nat → Prop) (B : Nat) (_ : Fr TE (cx0 Tryd.f42 none w ro B)) (x3 : Int) (x6 : List Int) (x7 : Int) (x8 : Int) (_ : spec_l11Product.l0 k x3 x6 x7 x8 = some r), Kp (WS TE (cx0 Tryd.f42 none w ro B) (stkAt [1, 1, 0, 1, 0] [] (bodyOf Tryd.f42) []) ⟨[(3, .v (.int .i64 x3)), (6, .sl 1 (rX (cI .i64) x6)), (7, .v (.int .i64 x7)), (8, .v (.int .i64 x8))], []⟩ (RetQ TE Tryd.f42 none [.ro (.v (.int .i64 r))] [] w ro B))
set_option maxRecDepth 100000 in
set_option maxHeartbeats 4000000 in
theorem spec_l11Product.c_l0 (k : Nat) (ih : Kp (∀ m, m < k → spec_l11Product.C m)) (r : Int) (w : World) (ro : Nat → Prop) (B : Nat) (hF : Fr TE (cx0 Tryd.f42 none w ro B)) (x3 : Int) (x6 : List Int) (x7 : Int) (x8 : Int) (h : spec_l11Product.l0 k x3 x6 x7 x8 = some r) : Kp (WS TE (cx0 Tryd.f42 none w ro B) (stkAt [1, 1, 0, 1, 0] [] (bodyOf Tryd.f42) []) ⟨[(3, .v (.int .i64 x3)), (6, .sl 1 (rX (cI .i64) x6)), (7, .v (.int .i64 x7)), (8, .v (.int .i64 x8))], []⟩ (RetQ TE Tryd.f42 none [.ro (.v (.int .i64 r))] [] w ro B)) := by
 refine ⟨WS.loop (fun m σ => m ≤ k ∧ spec_l11Product.I0 r m σ) k ⟨Nat.le_refl k, x3, x6, x7, x8, h, rfl⟩ (fun m σ' hI J0 hJ0 => ?_)⟩
 clear h
 obtain ⟨hk, x3, x6, x7, x8, h, rfl⟩ := hI
 cases m with
 | zero => simp [spec_l11Product.l0] at h
 | succ k' =>
 simp only [spec_l11Product.l0] at h
 by_cases c1 : x8 < x7
 · rw [if_pos c1] at h
   by_cases c2 : 0 ≤ x8
   · rw [if_pos c2] at h
     by_cases c3 : x8 < (x6.length : Int)
     · rw [if_pos c3] at h
       refine path_ok (k := 12) hF (RetQ_mild _ _ _ _ _ _ _ _) (ds := [.b true, .e 10 (.rf [.v (.int .i64 (rd x6 x8))])]) (os := []) (c := none) rfl KD ?_
       exact WS.lpc [] (hJ0 _ _ (Nat.lt_succ_self _) ⟨by omega, (mn (wrap64 (x3 * (rd x6 x8))) 401), x6, x7, (wrap64 (x8 + 1)), h, rfl⟩) KD
     · rw [if_neg c3] at h
       cases h
   · rw [if_neg c2] at h
     cases h
 · rw [if_neg c1] at h
   refine path_ok (k := 8) hF (RetQ_mild _ _ _ _ _ _ _ _) (ds := [.b false]) (os := []) (c := none) rfl KD ?_
   cases h
   exact ret_as (ms := [.ro]) rfl KD
theorem spec_l11Product.cs (k : Nat) : spec_l11Product.C k := by
 induction k using Nat.strongRecOn with
 | _ k ih0 =>
 have ih : Kp (∀ m, m < k → spec_l11Product.C m) := ⟨ih0⟩
 exact ⟨spec_l11Product.c_l0 k ih⟩
set_option maxRecDepth 100000 in
set_option maxHeartbeats 4000000 in
theorem spec_l11Product.ctr (k : Nat) (l0 : List Int) (r : Int) (h : spec_l11Product.f k l0 = some r) : Ctr TE 42 none [.sl 1 (rX (cI .i64) l0)] [.ro (.v (.int .i64 r))] [] := by
 refine ctr_of (fn := Tryd.f42) (c := (bodyOf Tryd.f42)) Tryd.func42 rfl (by kernel_rfl) (Nat.le_of_ble_eq_true (by kernel_rfl)) (fun w ro B hF _ => ?_)
 have ih : Kp (∀ m, m < k + 1 → spec_l11Product.C m) := ⟨fun m _ => spec_l11Product.cs m⟩
 simp only [spec_l11Product.f] at h
 refine path_ok (k := 8) hF (RetQ_mild _ _ _ _ _ _ _ _) (ds := [.e 7 (.v (.int .i64 (l0.length : Int)))]) (os := []) (c := none) rfl KD ?_
 exact WS.can [] (((ih.out k (by omega)).s_l0  r w ro B hF 1 l0 (l0.length : Int) 0 h).out) KD
mutual
def spec_l11Fill.l0 : Nat → List Int → List Int → Int → Int → Int → List (S73) → Option (Int × (List (S73)) × List Int)
  | 0, _, _, _, _, _, _ => none
  | k + 1, x0, x1, x23, x24, x170000, x170001 => if x24 < x23 then (if 1 ≤ (x0.length : Int) then ((spec_l11Fill.f k (x0.drop 1) x1).bind fun bt178 => (if x170001.length < 4398046511104 then (spec_l11Fill.l0 k x0 bt178.2.2 x23 (wrap64 (x24 + 1)) x170000 (x170001 ++ [(⟨bt178.1, bt178.2.1⟩ : S73)])) else (none))) else (none)) else (some (x170000, x170001, x1))
def spec_l11Fill.f : Nat → List Int → List Int → Option (Int × (List (S73)) × List Int)
  | 0, _, _ => none
  | k + 1, l0, l1 => (some (([] : List (S73)) : List (S73))).bind fun y166 => (if (l0.length : Int) = 0 then (if 0 < (l1.length : Int) then (if 1 ≤ (l1.length : Int) then (some (rd l1 0, y166, (l1.drop 1))) else (none)) else (none)) else (if 0 < (l0.length : Int) then (spec_l11Fill.l0 k l0 l1 (rd l0 0) 0 0 y166) else (none)))
end
def spec_l11Fill.I0 (r1 : Int) (r2 : List (S73)) (r3 : List Int) (m : Nat) (σ : St) : Prop := ∃ (x0 : List Int) (x1 : List Int) (x23 : Int) (x24 : Int) (x166000 : Int) (x170000 : Int) (x170001 : List (S73)), spec_l11Fill.l0 m x0 x1 x23 x24 x170000 x170001 = some (r1, r2, r3) ∧ σ = ⟨[(0, .sl 1 (rX (cI .i64) x0)), (1, .sl 1 (rX (cI .i64) x1)), (4, .pt 1004 0 0), (6, .pt 1006 0 0), (23, .v (.int .i64 x23)), (24, .v (.int .i64 x24))], [(1004, .box 0 73 false [.v (.int .i64 x166000), .v (.slice none 0 0)]), (3385, .own 0 73 2 (r73 x170001)), (1006, .box 0 73 false [.v (.int .i64 x170000), .ow 3385 0])]⟩
structure spec_l11Fill.C (k : Nat) : Prop where
 s_f : ∀ (l0 : List Int) (l1 : List Int) (r1 : Int) (r2 : List (S73)) (r3 : List Int), spec_l11Fill.f k l0 l1 = some (r1, r2, r3) → Ctr TE 43 none [.sl 1 (rX (cI .i64) l0), .sl 1 (rX (cI .i64) l1)] [.ro (.ag [.v (.int .i64 r1), .sl 2 (r73 r2)]), .ro (.sl 1 (rX (cI .i64) r3))] []
 s_l0 : ∀ (r1 : Int) (r2 : List (S73)) (r3 : List Int) (w : World) (ro : Nat → Prop) (B : Nat) (_ : Fr TE (cx0 Tryd.f43 none w ro B)) (x0 : List Int) (x1 : List Int) (x23 : Int) (x24 : Int) (x166000 : Int) (x170000 : Int) (x170001 : List (S73)) (_ : spec_l11Fill.l0 k x0 x1 x23 x24 x170000 x170001 = some (r1, r2, r3)), Kp (WS TE (cx0 Tryd.f43 none w ro B) (stkAt [1, 1, 1, 0, 1, 0] [] (bodyOf Tryd.f43) []) ⟨[(0, .sl 1 (rX (cI .i64) x0)), (1, .sl 1 (rX (cI .i64) x1)), (4, .pt 1004 0 0), (6, .pt 1006 0 0), (23, .v (.int .i64 x23)), (24, .v (.int .i64 x24))], [(1004, .box 0 73 false [.v (.int .i64 x166000), .v (.slice none 0 0)]), (3385, .own 0 73 2 (r73 x170001)), (1006, .box 0 73 false [.v (.int .i64 x170000), .ow 3385 0])]⟩ (RetQ TE Tryd.f43 none [.ro (.ag [.v (.int .i64 r1), .sl 2 (r73 r2)]), .ro (.sl 1 (rX (cI .i64) r3))] [] w ro B))
set_option maxRecDepth 100000 in
set_option maxHeartbeats 4000000 in
theorem spec_l11Fill.c_f (k : Nat) (ih : Kp (∀ m, m < k → spec_l11Fill.C m)) (l0 : List Int) (l1 : List Int) (r1 : Int) (r2 : List (S73)) (r3 : List Int) (h : spec_l11Fill.f k l0 l1 = some (r1, r2, r3)) : Ctr TE 43 none [.sl 1 (rX (cI .i64) l0), .sl 1 (rX (cI .i64) l1)] [.ro (.ag [.v (.int .i64 r1), .sl 2 (r73 r2)]), .ro (.sl 1 (rX (cI .i64) r3))] [] := by
 cases k with
 | zero => simp [spec_l11Fill.f] at h
 | succ k =>
 simp only [spec_l11Fill.f] at h
 refine ctr_of (fn := Tryd.f43) (c := (bodyOf Tryd.f43)) Tryd.func43 rfl (by kernel_rfl) (Nat.le_of_ble_eq_true (by kernel_rfl)) (fun w ro B hF _ => ?_)
 obtain ⟨y166, hy166, h⟩ := Option.bind_eq_some_iff.1 h
 cases hy166
 by_cases c1 : (l0.length : Int) = 0
 · rw [if_pos c1] at h
   by_cases c2 : 0 < (l1.length : Int)
   · rw [if_pos c2] at h
     by_cases c3 : 1 ≤ (l1.length : Int)
     · rw [if_pos c3] at h
       refine path_ok (k := 13) hF (RetQ_mild _ _ _ _ _ _ _ _) (ds := [.p 9 ([]), .e 12 (.v (.int .i64 (l0.length : Int))), .b true, .e 15 (.rf [.v (.int .i64 (rd l1 0))]), .e 20 (.sl 1 (rX (cI .i64) (l1.drop 1)))]) (os := [.o [(0, 1), (1, 0), (2, 0), (3, 2), (4, 0)] [3]]) (c := none) rfl KD ?_
       cases h
       exact ret_as (ms := [.ro, .ro]) rfl KD
     · rw [if_neg c3] at h
       cases h
   · rw [if_neg c2] at h
     cases h
 · rw [if_neg c1] at h
   by_cases c4 : 0 < (l0.length : Int)
   · rw [if_pos c4] at h
     refine path_ok (k := 13) hF (RetQ_mild _ _ _ _ _ _ _ _) (ds := [.p 9 ([]), .e 12 (.v (.int .i64 (l0.length : Int))), .b false, .e 22 (.rf [.v (.int .i64 (rd l0 0))])]) (os := []) (c := none) rfl KD ?_
     exact WS.can [(1004, some 4), (1006, some 6), (3385, some 9)] (((ih.out k (by omega)).s_l0  r1 r2 r3 w ro B hF l0 l1 (rd l0 0) 0 0 0 (([] : List (S73))) h).out) KD
   · rw [if_neg c4] at h
     cases h
set_option maxRecDepth 100000 in
set_option maxHeartbeats 4000000 in
theorem spec_l11Fill.c_l0 (k : Nat) (ih : Kp (∀ m, m < k → spec_l11Fill.C m)) (r1 : Int) (r2 : List (S73)) (r3 : List Int) (w : World) (ro : Nat → Prop) (B : Nat) (hF : Fr TE (cx0 Tryd.f43 none w ro B)) (x0 : List Int) (x1 : List Int) (x23 : Int) (x24 : Int) (x166000 : Int) (x170000 : Int) (x170001 : List (S73)) (h : spec_l11Fill.l0 k x0 x1 x23 x24 x170000 x170001 = some (r1, r2, r3)) : Kp (WS TE (cx0 Tryd.f43 none w ro B) (stkAt [1, 1, 1, 0, 1, 0] [] (bodyOf Tryd.f43) []) ⟨[(0, .sl 1 (rX (cI .i64) x0)), (1, .sl 1 (rX (cI .i64) x1)), (4, .pt 1004 0 0), (6, .pt 1006 0 0), (23, .v (.int .i64 x23)), (24, .v (.int .i64 x24))], [(1004, .box 0 73 false [.v (.int .i64 x166000), .v (.slice none 0 0)]), (3385, .own 0 73 2 (r73 x170001)), (1006, .box 0 73 false [.v (.int .i64 x170000), .ow 3385 0])]⟩ (RetQ TE Tryd.f43 none [.ro (.ag [.v (.int .i64 r1), .sl 2 (r73 r2)]), .ro (.sl 1 (rX (cI .i64) r3))] [] w ro B)) := by
 refine ⟨WS.loop (fun m σ => m ≤ k ∧ spec_l11Fill.I0 r1 r2 r3 m σ) k ⟨Nat.le_refl k, x0, x1, x23, x24, x166000, x170000, x170001, h, rfl⟩ (fun m σ' hI J0 hJ0 => ?_)⟩
 clear h
 obtain ⟨hk, x0, x1, x23, x24, x166000, x170000, x170001, h, rfl⟩ := hI
 cases m with
 | zero => simp [spec_l11Fill.l0] at h
 | succ k' =>
 simp only [spec_l11Fill.l0] at h
 by_cases c5 : x24 < x23
 · rw [if_pos c5] at h
   by_cases c6 : 1 ≤ (x0.length : Int)
   · rw [if_pos c6] at h
     obtain ⟨⟨t178, t179, t182⟩, q7, h⟩ := Option.bind_eq_some_iff.1 h
     dsimp only at h
     have q7c := (ih.out k' (by omega)).s_f _ _ _ _ _ q7
     by_cases c8 : x170001.length < 4398046511104
     · rw [if_pos c8] at h
       refine path_ok (k := 14) hF (RetQ_mild _ _ _ _ _ _ _ _) (ds := [.b true, .e 28 (.sl 1 (rX (cI .i64) (x0.drop 1))), .r [.ro (.ag [.v (.int .i64 t178), .sl 2 (r73 t179)]), .ro (.sl 1 (rX (cI .i64) t182))] [], .p 36 ([[.v (.int .i64 t178), .sl 2 (r73 t179)]]), .o 37 (r73 (x170001 ++ [(⟨t178, t179⟩ : S73)]))]) (os := []) (c := none) rfl KD ?_
       exact WS.lpc [(1004, some 1004), (1006, some 1006), (3385, some 3385)] (hJ0 _ _ (Nat.lt_succ_self _) ⟨by omega, x0, t182, x23, (wrap64 (x24 + 1)), x166000, x170000, (x170001 ++ [(⟨t178, t179⟩ : S73)]), h, rfl⟩) KD
     · rw [if_neg c8] at h
       cases h
   · rw [if_neg c6] at h
     cases h
 · rw [if_neg c5] at h
   refine path_ok (k := 8) hF (RetQ_mild _ _ _ _ _ _ _ _) (ds := [.b false]) (os := []) (c := none) rfl KD ?_
   cases h
   exact ret_as (ms := [.ro, .ro]) rfl KD
theorem spec_l11Fill.cs (k : Nat) : spec_l11Fill.C k := by
 induction k using Nat.strongRecOn with
 | _ k ih0 =>
 have ih : Kp (∀ m, m < k → spec_l11Fill.C m) := ⟨ih0⟩
 exact ⟨spec_l11Fill.c_f k ih, spec_l11Fill.c_l0 k ih⟩
theorem spec_l11Fill.ctr (k : Nat) (l0 : List Int) (l1 : List Int) (r1 : Int) (r2 : List (S73)) (r3 : List Int) (h : spec_l11Fill.f k l0 l1 = some (r1, r2, r3)) : Ctr TE 43 none [.sl 1 (rX (cI .i64) l0), .sl 1 (rX (cI .i64) l1)] [.ro (.ag [.v (.int .i64 r1), .sl 2 (r73 r2)]), .ro (.sl 1 (rX (cI .i64) r3))] [] := (spec_l11Fill.cs k).s_f l0 l1 r1 r2 r3 h
mutual
def spec_l13Dec.l0 : Nat → Int → ByteArray → Option (ByteArray)
  | 0, _, _ => none
  | k + 1, x0, x3 => if x0 > 9 then ((some (([(wrap64 (48 + (Int.tmod x0 10))) % 256] : List Int) : List Int)).bind fun y190 => (if (strOfNums y190).size + x3.size ≤ 9223372036854775807 then (spec_l13Dec.l0 k (wrap64 (Int.tdiv x0 10)) ((strOfNums y190) ++ x3)) else (none))) else ((some (([(wrap64 (48 + x0)) % 256] : List Int) : List Int)).bind fun y193 => (if (strOfNums y193).size + x3.size ≤ 9223372036854775807 then (some ((strOfNums y193) ++ x3)) else (none)))
def spec_l13Dec.f : Nat → Int → Option (ByteArray)
  | 0, _ => none
  | k + 1, a0 => if a0 < (-9223372036854775807) then (some (⟨#[45, 57, 50, 50, 51, 51, 55, 50, 48, 51, 54, 56, 53, 52, 55, 55, 53, 56, 48, 56]⟩ : ByteArray)) else (if a0 < 0 then ((spec_l13Dec.f k (wrap64 (-a0))).bind fun t189 => (if 1 + t189.size ≤ 9223372036854775807 then (some ((⟨#[45]⟩ : ByteArray) ++ t189)) else (none))) else (spec_l13Dec.l0 k a0 (⟨#[]⟩ : ByteArray)))
end
def spec_l13Dec.I0 (r : ByteArray) (m : Nat) (σ : St) : Prop := ∃ (x0 : Int) (x3 : ByteArray), spec_l13Dec.l0 m x0 x3 = some r ∧ σ = ⟨[(0, .v (.int .i64 x0)), (3, .v (.string x3))], []⟩
structure spec_l13Dec.C (k : Nat) : Prop where
 s_f : ∀ (a0 : Int) (r : ByteArray), spec_l13Dec.f k a0 = some r → Ctr TE 67 none [.v (.int .i64 a0)] [.ro (.v (.string r))] []
 s_l0 : ∀ (r : ByteArray) (w : World) (ro : Nat → Prop) (B : Nat) (_ : Fr TE (cx0 Tryd.f67 none w ro B)) (x0 : Int) (x3 : ByteArray) (_ : spec_l13Dec.l0 k x0 x3 = some r), Kp (WS TE (cx0 Tryd.f67 none w ro B) (stkAt [1, 1, 1, 1, 0, 0] [] (bodyOf Tryd.f67) []) ⟨[(0, .v (.int .i64 x0)), (3, .v (.string x3))], []⟩ (RetQ TE Tryd.f67 none [.ro (.v (.string r))] [] w ro B))
set_option maxRecDepth 100000 in
set_option maxHeartbeats 4000000 in
theorem spec_l13Dec.c_f (k : Nat) (ih : Kp (∀ m, m < k → spec_l13Dec.C m)) (a0 : Int) (r : ByteArray) (h : spec_l13Dec.f k a0 = some r) : Ctr TE 67 none [.v (.int .i64 a0)] [.ro (.v (.string r))] [] := by
 cases k with
 | zero => simp [spec_l13Dec.f] at h
 | succ k =>
 simp only [spec_l13Dec.f] at h
 refine ctr_of (fn := Tryd.f67) (c := (bodyOf Tryd.f67)) Tryd.func67 rfl (by kernel_rfl) (Nat.le_of_ble_eq_true (by kernel_rfl)) (fun w ro B hF _ => ?_)
 by_cases c1 : a0 < (-9223372036854775807)
 · rw [if_pos c1] at h
   refine path_ok (k := 9) hF (RetQ_mild _ _ _ _ _ _ _ _) (ds := [.b true]) (os := []) (c := none) rfl KD ?_
   cases h
   exact ret_as (ms := [.ro]) rfl KD
 · rw [if_neg c1] at h
   by_cases c2 : a0 < 0
   · rw [if_pos c2] at h
     obtain ⟨t189, q3, h⟩ := Option.bind_eq_some_iff.1 h
     have q3c := (ih.out k (by omega)).s_f _ _ q3
     by_cases c4 : 1 + t189.size ≤ 9223372036854775807
     · rw [if_pos c4] at h
       refine path_ok (k := 14) hF (RetQ_mild _ _ _ _ _ _ _ _) (ds := [.b false, .b true, .e 9 (.v (.int .i64 (wrap64 (-a0)))), .r [.ro (.v (.string t189))] []]) (os := []) (c := none) rfl KD ?_
       cases h
       exact ret_as (ms := [.ro]) rfl KD
     · rw [if_neg c4] at h
       cases h
   · rw [if_neg c2] at h
     refine path_ok (k := 16) hF (RetQ_mild _ _ _ _ _ _ _ _) (ds := [.b false, .b false]) (os := []) (c := none) rfl KD ?_
     exact WS.can [] (((ih.out k (by omega)).s_l0  r w ro B hF a0 (⟨#[]⟩ : ByteArray) h).out) KD
set_option maxRecDepth 100000 in
set_option maxHeartbeats 4000000 in
theorem spec_l13Dec.c_l0 (k : Nat) (ih : Kp (∀ m, m < k → spec_l13Dec.C m)) (r : ByteArray) (w : World) (ro : Nat → Prop) (B : Nat) (hF : Fr TE (cx0 Tryd.f67 none w ro B)) (x0 : Int) (x3 : ByteArray) (h : spec_l13Dec.l0 k x0 x3 = some r) : Kp (WS TE (cx0 Tryd.f67 none w ro B) (stkAt [1, 1, 1, 1, 0, 0] [] (bodyOf Tryd.f67) []) ⟨[(0, .v (.int .i64 x0)), (3, .v (.string x3))], []⟩ (RetQ TE Tryd.f67 none [.ro (.v (.string r))] [] w ro B)) := by
 refine ⟨WS.loop (fun m σ => m ≤ k ∧ spec_l13Dec.I0 r m σ) k ⟨Nat.le_refl k, x0, x3, h, rfl⟩ (fun m σ' hI J0 hJ0 => ?_)⟩
 clear h
 obtain ⟨hk, x0, x3, h, rfl⟩ := hI
 cases m with
 | zero => simp [spec_l13Dec.l0] at h
 | succ k' =>
 simp only [spec_l13Dec.l0] at h
 by_cases c5 : x0 > 9
 · rw [if_pos c5] at h
   obtain ⟨y190, hy190, h⟩ := Option.bind_eq_some_iff.1 h
   cases hy190
   by_cases c6 : (strOfNums (([(wrap64 (48 + (Int.tmod x0 10))) % 256] : List Int))).size + x3.size ≤ 9223372036854775807
   · rw [if_pos c6] at h
     refine path_ok (k := 10) hF (RetQ_mild _ _ _ _ _ _ _ _) (ds := [.b true, .e 15 (.v (.int .i64 (Int.tmod x0 10))), .e 17 (.v (.int .u8 ((wrap64 (48 + (Int.tmod x0 10))) % 256))), .p 18 ([[.v (.int .u8 ((wrap64 (48 + (Int.tmod x0 10))) % 256))]]), .w (([(wrap64 (48 + (Int.tmod x0 10))) % 256] : List Int)), .e 23 (.v (.int .i64 (wrap64 (Int.tdiv x0 10))))]) (os := []) (c := none) rfl KD ?_
     exact WS.lpc [] (hJ0 _ _ (Nat.lt_succ_self _) ⟨by omega, (wrap64 (Int.tdiv x0 10)), ((strOfNums (([(wrap64 (48 + (Int.tmod x0 10))) % 256] : List Int))) ++ x3), h, rfl⟩) KD
   · rw [if_neg c6] at h
     cases h
 · rw [if_neg c5] at h
   obtain ⟨y193, hy193, h⟩ := Option.bind_eq_some_iff.1 h
   cases hy193
   by_cases c7 : (strOfNums (([(wrap64 (48 + x0)) % 256] : List Int))).size + x3.size ≤ 9223372036854775807
   · rw [if_pos c7] at h
     refine path_ok (k := 8) hF (RetQ_mild _ _ _ _ _ _ _ _) (ds := [.b false, .e 26 (.v (.int .u8 ((wrap64 (48 + x0)) % 256))), .p 27 ([[.v (.int .u8 ((wrap64 (48 + x0)) % 256))]]), .w (([(wrap64 (48 + x0)) % 256] : List Int))]) (os := []) (c := none) rfl KD ?_
     cases h
     exact ret_as (ms := [.ro]) rfl KD
   · rw [if_neg c7] at h
     cases h
theorem spec_l13Dec.cs (k : Nat) : spec_l13Dec.C k := by
 induction k using Nat.strongRecOn with
 | _ k ih0 =>
 have ih : Kp (∀ m, m < k → spec_l13Dec.C m) := ⟨ih0⟩
 exact ⟨spec_l13Dec.c_f k ih, spec_l13Dec.c_l0 k ih⟩
theorem spec_l13Dec.ctr (k : Nat) (a0 : Int) (r : ByteArray) (h : spec_l13Dec.f k a0 = some r) : Ctr TE 67 none [.v (.int .i64 a0)] [.ro (.v (.string r))] [] := (spec_l13Dec.cs k).s_f a0 r h
mutual
def spec_l1Text.l0 : Nat → Int → ByteArray → List (S73) → Int → Int → Option (ByteArray)
  | 0, _, _, _, _, _ => none
  | k + 1, x1, x5, x14, x15, x16 => if x16 < x15 then (if 0 ≤ x16 then (if x16 < (x14.length : Int) then (if x16 > 0 then (if x5.size + 1 ≤ 9223372036854775807 then ((spec_l1Text.f k ((rd_T73 x14 x16).f0) ((rd_T73 x14 x16).f1) (wrap64 (x1 - 1))).bind fun t200 => (if x5.size + 1 + t200.size ≤ 9223372036854775807 then (spec_l1Text.l0 k x1 ((x5 ++ (⟨#[44]⟩ : ByteArray)) ++ t200) x14 x15 (wrap64 (x16 + 1))) else (none))) else (none)) else ((spec_l1Text.f k ((rd_T73 x14 x16).f0) ((rd_T73 x14 x16).f1) (wrap64 (x1 - 1))).bind fun t201 => (if x5.size + t201.size ≤ 9223372036854775807 then (spec_l1Text.l0 k x1 (x5 ++ t201) x14 x15 (wrap64 (x16 + 1))) else (none)))) else (none)) else (none)) else (if x5.size + 1 ≤ 9223372036854775807 then (some (x5 ++ (⟨#[93]⟩ : ByteArray))) else (none))
def spec_l1Text.f : Nat → Int → List (S73) → Int → Option (ByteArray)
  | 0, _, _, _ => none
  | k + 1, a0_0, l0_1, a1 => if a1 = 0 then ((spec_l13Dec.f k a0_0).bind fun t197 => (some t197)) else (spec_l1Text.l0 k a1 (⟨#[91]⟩ : ByteArray) l0_1 (l0_1.length : Int) 0)
end
def spec_l1Text.I0 (r : ByteArray) (m : Nat) (σ : St) : Prop := ∃ (x1 : Int) (x5 : ByteArray) (x14 : List (S73)) (x15 : Int) (x16 : Int), spec_l1Text.l0 m x1 x5 x14 x15 x16 = some r ∧ σ = ⟨[(1, .v (.int .i64 x1)), (5, .v (.string x5)), (14, .sl 2 (r73 x14)), (15, .v (.int .i64 x15)), (16, .v (.int .i64 x16))], []⟩
structure spec_l1Text.C (k : Nat) : Prop where
 s_f : ∀ (a0_0 : Int) (l0_1 : List (S73)) (a1 : Int) (r : ByteArray), spec_l1Text.f k a0_0 l0_1 a1 = some r → Ctr TE 64 none [.ag [.v (.int .i64 a0_0), .sl 2 (r73 l0_1)], .v (.int .i64 a1)] [.ro (.v (.string r))] []
 s_l0 : ∀ (r : ByteArray) (w : World) (ro : Nat → Prop) (B : Nat) (_ : Fr TE (cx0 Tryd.f64 none w ro B)) (x1 : Int) (x5 : ByteArray) (x14 : List (S73)) (x15 : Int) (x16 : Int) (_ : spec_l1Text.l0 k x1 x5 x14 x15 x16 = some r), Kp (WS TE (cx0 Tryd.f64 none w ro B) (stkAt [1, 1, 1, 0, 1, 0] [] (bodyOf Tryd.f64) []) ⟨[(1, .v (.int .i64 x1)), (5, .v (.string x5)), (14, .sl 2 (r73 x14)), (15, .v (.int .i64 x15)), (16, .v (.int .i64 x16))], []⟩ (RetQ TE Tryd.f64 none [.ro (.v (.string r))] [] w ro B))
set_option maxRecDepth 100000 in
set_option maxHeartbeats 4000000 in
theorem spec_l1Text.c_f (k : Nat) (ih : Kp (∀ m, m < k → spec_l1Text.C m)) (a0_0 : Int) (l0_1 : List (S73)) (a1 : Int) (r : ByteArray) (h : spec_l1Text.f k a0_0 l0_1 a1 = some r) : Ctr TE 64 none [.ag [.v (.int .i64 a0_0), .sl 2 (r73 l0_1)], .v (.int .i64 a1)] [.ro (.v (.string r))] [] := by
 cases k with
 | zero => simp [spec_l1Text.f] at h
 | succ k =>
 simp only [spec_l1Text.f] at h
 refine ctr_of (fn := Tryd.f64) (c := (bodyOf Tryd.f64)) Tryd.func64 rfl (by kernel_rfl) (Nat.le_of_ble_eq_true (by kernel_rfl)) (fun w ro B hF _ => ?_)
 by_cases c1 : a1 = 0
 · rw [if_pos c1] at h
   obtain ⟨t197, q2, h⟩ := Option.bind_eq_some_iff.1 h
   have q2c := spec_l13Dec.ctr k _ _ q2
   refine path_ok (k := 9) hF (RetQ_mild _ _ _ _ _ _ _ _) (ds := [.b true, .r [.ro (.v (.string t197))] []]) (os := []) (c := none) rfl KD ?_
   cases h
   exact ret_as (ms := [.ro]) rfl KD
 · rw [if_neg c1] at h
   refine path_ok (k := 13) hF (RetQ_mild _ _ _ _ _ _ _ _) (ds := [.b false, .e 15 (.v (.int .i64 (l0_1.length : Int)))]) (os := []) (c := none) rfl KD ?_
   exact WS.can [] (((ih.out k (by omega)).s_l0  r w ro B hF a1 (⟨#[91]⟩ : ByteArray) l0_1 (l0_1.length : Int) 0 h).out) KD
set_option maxRecDepth 100000 in
set_option maxHeartbeats 4000000 in
theorem spec_l1Text.c_l0 (k : Nat) (ih : Kp (∀ m, m < k → spec_l1Text.C m)) (r : ByteArray) (w : World) (ro : Nat → Prop) (B : Nat) (hF : Fr TE (cx0 Tryd.f64 none w ro B)) (x1 : Int) (x5 : ByteArray) (x14 : List (S73)) (x15 : Int) (x16 : Int) (h : spec_l1Text.l0 k x1 x5 x14 x15 x16 = some r) : Kp (WS TE (cx0 Tryd.f64 none w ro B) (stkAt [1, 1, 1, 0, 1, 0] [] (bodyOf Tryd.f64) []) ⟨[(1, .v (.int .i64 x1)), (5, .v (.string x5)), (14, .sl 2 (r73 x14)), (15, .v (.int .i64 x15)), (16, .v (.int .i64 x16))], []⟩ (RetQ TE Tryd.f64 none [.ro (.v (.string r))] [] w ro B)) := by
 refine ⟨WS.loop (fun m σ => m ≤ k ∧ spec_l1Text.I0 r m σ) k ⟨Nat.le_refl k, x1, x5, x14, x15, x16, h, rfl⟩ (fun m σ' hI J0 hJ0 => ?_)⟩
 clear h
 obtain ⟨hk, x1, x5, x14, x15, x16, h, rfl⟩ := hI
 cases m with
 | zero => simp [spec_l1Text.l0] at h
 | succ k' =>
 simp only [spec_l1Text.l0] at h
 by_cases c3 : x16 < x15
 · rw [if_pos c3] at h
   by_cases c4 : 0 ≤ x16
   · rw [if_pos c4] at h
     by_cases c5 : x16 < (x14.length : Int)
     · rw [if_pos c5] at h
       by_cases c6 : x16 > 0
       · rw [if_pos c6] at h
         by_cases c7 : x5.size + 1 ≤ 9223372036854775807
         · rw [if_pos c7] at h
           obtain ⟨t200, q8, h⟩ := Option.bind_eq_some_iff.1 h
           have q8c := (ih.out k' (by omega)).s_f _ _ _ _ q8
           by_cases c9 : x5.size + 1 + t200.size ≤ 9223372036854775807
           · rw [if_pos c9] at h
             refine path_ok (k := 17) hF (RetQ_mild _ _ _ _ _ _ _ _) (ds := [.b true, .e 19 (.rf [.v (.int .i64 ((rd_T73 x14 x16).f0)), .sl 2 (r73 ((rd_T73 x14 x16).f1))]), .b true, .r [.ro (.v (.string t200))] []]) (os := []) (c := none) rfl KD ?_
             exact WS.lpc [] (hJ0 _ _ (Nat.lt_succ_self _) ⟨by omega, x1, ((x5 ++ (⟨#[44]⟩ : ByteArray)) ++ t200), x14, x15, (wrap64 (x16 + 1)), h, rfl⟩) KD
           · rw [if_neg c9] at h
             cases h
         · rw [if_neg c7] at h
           cases h
       · rw [if_neg c6] at h
         obtain ⟨t201, q10, h⟩ := Option.bind_eq_some_iff.1 h
         have q10c := (ih.out k' (by omega)).s_f _ _ _ _ q10
         by_cases c11 : x5.size + t201.size ≤ 9223372036854775807
         · rw [if_pos c11] at h
           refine path_ok (k := 17) hF (RetQ_mild _ _ _ _ _ _ _ _) (ds := [.b true, .e 19 (.rf [.v (.int .i64 ((rd_T73 x14 x16).f0)), .sl 2 (r73 ((rd_T73 x14 x16).f1))]), .b false, .r [.ro (.v (.string t201))] []]) (os := []) (c := none) rfl KD ?_
           exact WS.lpc [] (hJ0 _ _ (Nat.lt_succ_self _) ⟨by omega, x1, (x5 ++ t201), x14, x15, (wrap64 (x16 + 1)), h, rfl⟩) KD
         · rw [if_neg c11] at h
           cases h
     · rw [if_neg c5] at h
       cases h
   · rw [if_neg c4] at h
     cases h
 · rw [if_neg c3] at h
   by_cases c12 : x5.size + 1 ≤ 9223372036854775807
   · rw [if_pos c12] at h
     refine path_ok (k := 8) hF (RetQ_mild _ _ _ _ _ _ _ _) (ds := [.b false]) (os := []) (c := none) rfl KD ?_
     cases h
     exact ret_as (ms := [.ro]) rfl KD
   · rw [if_neg c12] at h
     cases h
theorem spec_l1Text.cs (k : Nat) : spec_l1Text.C k := by
 induction k using Nat.strongRecOn with
 | _ k ih0 =>
 have ih : Kp (∀ m, m < k → spec_l1Text.C m) := ⟨ih0⟩
 exact ⟨spec_l1Text.c_f k ih, spec_l1Text.c_l0 k ih⟩
theorem spec_l1Text.ctr (k : Nat) (a0_0 : Int) (l0_1 : List (S73)) (a1 : Int) (r : ByteArray) (h : spec_l1Text.f k a0_0 l0_1 a1 = some r) : Ctr TE 64 none [.ag [.v (.int .i64 a0_0), .sl 2 (r73 l0_1)], .v (.int .i64 a1)] [.ro (.v (.string r))] [] := (spec_l1Text.cs k).s_f a0_0 l0_1 a1 r h
def spec_l1Told.f (k : Nat) (a0_0 : Int) (l0_1 : List (S73)) (a1 : Int) : Option (ByteArray × Bool) := (spec_l1Text.f k a0_0 l0_1 a1).bind fun t203 => (if (t203.size : Int) > 400 then (some ((⟨#[]⟩ : ByteArray), false)) else (some (t203, true)))
set_option maxRecDepth 100000 in
set_option maxHeartbeats 4000000 in
theorem spec_l1Told.ctr (k : Nat) (a0_0 : Int) (l0_1 : List (S73)) (a1 : Int) (r1 : ByteArray) (r2 : Bool) (h : spec_l1Told.f k a0_0 l0_1 a1 = some (r1, r2)) : Ctr TE 44 none [.ag [.v (.int .i64 a0_0), .sl 2 (r73 l0_1)], .v (.int .i64 a1)] [.ro (.v (.string r1)), .ro (.v (.bool r2))] [] := by
 refine ctr_of (fn := Tryd.f44) (c := (bodyOf Tryd.f44)) Tryd.func44 rfl (by kernel_rfl) (Nat.le_of_ble_eq_true (by kernel_rfl)) (fun w ro B hF _ => ?_)
 simp only [spec_l1Told.f] at h
 obtain ⟨t203, q1, h⟩ := Option.bind_eq_some_iff.1 h
 have q1c := spec_l1Text.ctr k _ _ _ _ q1
 by_cases c2 : (t203.size : Int) > 400
 · rw [if_pos c2] at h
   refine path_ok (k := 11) hF (RetQ_mild _ _ _ _ _ _ _ _) (ds := [.r [.ro (.v (.string t203))] [], .b true]) (os := []) (c := none) rfl KD ?_
   cases h
   exact ret_as (ms := [.ro, .ro]) rfl KD
 · rw [if_neg c2] at h
   refine path_ok (k := 12) hF (RetQ_mild _ _ _ _ _ _ _ _) (ds := [.r [.ro (.v (.string t203))] [], .b false]) (os := []) (c := none) rfl KD ?_
   cases h
   exact ret_as (ms := [.ro, .ro]) rfl KD
mutual
def spec_FillShape.j0 : Nat → List Int → List Int → Bool → Option (ByteArray × Bool)
  | 0, _, _, _ => none
  | k + 1, x0, x1, x17 => if x17 = true then (some ((⟨#[]⟩ : ByteArray), false)) else (spec_FillShape.l0 k x0 x1 x0 (x0.length : Int) 0)
def spec_FillShape.l0 : Nat → List Int → List Int → List Int → Int → Int → Option (ByteArray × Bool)
  | 0, _, _, _, _, _ => none
  | k + 1, x0, x1, x18, x19, x20 => if x20 < x19 then (if 0 ≤ x20 then (if x20 < (x18.length : Int) then ((spec_l1In.f (rd x18 x20) 0 400).bind fun t206 => (if t206 = true then (spec_FillShape.l0 k x0 x1 x18 x19 (wrap64 (x20 + 1))) else (some ((⟨#[]⟩ : ByteArray), false)))) else (none)) else (none)) else ((spec_l11Product.f k x0).bind fun t207 => (if t207 = (x1.length : Int) then ((spec_l11Fill.f k x0 x1).bind fun bt208 => ((spec_l1Told.f k bt208.1 bt208.2.1 (x0.length : Int)).bind fun bt216 => (some (bt216.1, bt216.2)))) else (some ((⟨#[]⟩ : ByteArray), false))))
end
def spec_FillShape.f (k : Nat) (l0 : List Int) (l1 : List Int) : Option (ByteArray × Bool) := if (l0.length : Int) > 3 then (spec_FillShape.j0 k l0 l1 true) else ((spec_l4Data.f k l1).bind fun t204 => (spec_FillShape.j0 k l0 l1 (!t204)))
def spec_FillShape.I0 (r1 : ByteArray) (r2 : Bool) (m : Nat) (σ : St) : Prop := ∃ (x0 : List Int) (x1 : List Int) (x18 : List Int) (x19 : Int) (x20 : Int), spec_FillShape.l0 m x0 x1 x18 x19 x20 = some (r1, r2) ∧ σ = ⟨[(0, .sl 1 (rX (cI .i64) x0)), (1, .sl 1 (rX (cI .i64) x1)), (18, .sl 1 (rX (cI .i64) x18)), (19, .v (.int .i64 x19)), (20, .v (.int .i64 x20))], []⟩
structure spec_FillShape.C (k : Nat) : Prop where
 s_j0 : ∀ (r1 : ByteArray) (r2 : Bool) (w : World) (ro : Nat → Prop) (B : Nat) (_ : Fr TE (cx0 Tryd.f14 none w ro B)) (x0 : List Int) (x1 : List Int) (x17 : Bool) (_ : spec_FillShape.j0 k x0 x1 x17 = some (r1, r2)), Kp (WS TE (cx0 Tryd.f14 none w ro B) (stkAt [1, 0, 0, 9] [] (bodyOf Tryd.f14) []) ⟨[(0, .sl 1 (rX (cI .i64) x0)), (1, .sl 1 (rX (cI .i64) x1)), (17, .v (.bool x17))], []⟩ (RetQ TE Tryd.f14 none [.ro (.v (.string r1)), .ro (.v (.bool r2))] [] w ro B))
 s_l0 : ∀ (r1 : ByteArray) (r2 : Bool) (w : World) (ro : Nat → Prop) (B : Nat) (_ : Fr TE (cx0 Tryd.f14 none w ro B)) (x0 : List Int) (x1 : List Int) (x18 : List Int) (x19 : Int) (x20 : Int) (_ : spec_FillShape.l0 k x0 x1 x18 x19 x20 = some (r1, r2)), Kp (WS TE (cx0 Tryd.f14 none w ro B) (stkAt [1, 1, 0, 1, 0] [] (bodyOf Tryd.f14) []) ⟨[(0, .sl 1 (rX (cI .i64) x0)), (1, .sl 1 (rX (cI .i64) x1)), (18, .sl 1 (rX (cI .i64) x18)), (19, .v (.int .i64 x19)), (20, .v (.int .i64 x20))], []⟩ (RetQ TE Tryd.f14 none [.ro (.v (.string r1)), .ro (.v (.bool r2))] [] w ro B))
set_option maxRecDepth 100000 in
set_option maxHeartbeats 4000000 in
theorem spec_FillShape.c_j0 (k : Nat) (ih : Kp (∀ m, m < k → spec_FillShape.C m)) (r1 : ByteArray) (r2 : Bool) (w : World) (ro : Nat → Prop) (B : Nat) (hF : Fr TE (cx0 Tryd.f14 none w ro B)) (x0 : List Int) (x1 : List Int) (x17 : Bool) (h : spec_FillShape.j0 k x0 x1 x17 = some (r1, r2)) : Kp (WS TE (cx0 Tryd.f14 none w ro B) (stkAt [1, 0, 0, 9] [] (bodyOf Tryd.f14) []) ⟨[(0, .sl 1 (rX (cI .i64) x0)), (1, .sl 1 (rX (cI .i64) x1)), (17, .v (.bool x17))], []⟩ (RetQ TE Tryd.f14 none [.ro (.v (.string r1)), .ro (.v (.bool r2))] [] w ro B)) := by
 refine ⟨?_⟩
 cases k with
 | zero => simp [spec_FillShape.j0] at h
 | succ k =>
 simp only [spec_FillShape.j0] at h
 by_cases c3 : x17 = true
 · rw [if_pos c3] at h
   refine path_ok (k := 4) hF (RetQ_mild _ _ _ _ _ _ _ _) (ds := [.b true]) (os := []) (c := none) rfl KD ?_
   cases h
   exact ret_as (ms := [.ro, .ro]) rfl KD
 · rw [if_neg c3] at h
   refine path_ok (k := 6) hF (RetQ_mild _ _ _ _ _ _ _ _) (ds := [.b false, .e 19 (.v (.int .i64 (x0.length : Int)))]) (os := []) (c := none) rfl KD ?_
   exact WS.can [] (((ih.out k (by omega)).s_l0  r1 r2 w ro B hF x0 x1 x0 (x0.length : Int) 0 h).out) KD
set_option maxRecDepth 100000 in
set_option maxHeartbeats 4000000 in
theorem spec_FillShape.c_l0 (k : Nat) (ih : Kp (∀ m, m < k → spec_FillShape.C m)) (r1 : ByteArray) (r2 : Bool) (w : World) (ro : Nat → Prop) (B : Nat) (hF : Fr TE (cx0 Tryd.f14 none w ro B)) (x0 : List Int) (x1 : List Int) (x18 : List Int) (x19 : Int) (x20 : Int) (h : spec_FillShape.l0 k x0 x1 x18 x19 x20 = some (r1, r2)) : Kp (WS TE (cx0 Tryd.f14 none w ro B) (stkAt [1, 1, 0, 1, 0] [] (bodyOf Tryd.f14) []) ⟨[(0, .sl 1 (rX (cI .i64) x0)), (1, .sl 1 (rX (cI .i64) x1)), (18, .sl 1 (rX (cI .i64) x18)), (19, .v (.int .i64 x19)), (20, .v (.int .i64 x20))], []⟩ (RetQ TE Tryd.f14 none [.ro (.v (.string r1)), .ro (.v (.bool r2))] [] w ro B)) := by
 refine ⟨WS.loop (fun m σ => m ≤ k ∧ spec_FillShape.I0 r1 r2 m σ) k ⟨Nat.le_refl k, x0, x1, x18, x19, x20, h, rfl⟩ (fun m σ' hI J0 hJ0 => ?_)⟩
 clear h
 obtain ⟨hk, x0, x1, x18, x19, x20, h, rfl⟩ := hI
 cases m with
 | zero => simp [spec_FillShape.l0] at h
 | succ k' =>
 simp only [spec_FillShape.l0] at h
 by_cases c4 : x20 < x19
 · rw [if_pos c4] at h
   by_cases c5 : 0 ≤ x20
   · rw [if_pos c5] at h
     by_cases c6 : x20 < (x18.length : Int)
     · rw [if_pos c6] at h
       obtain ⟨t206, q7, h⟩ := Option.bind_eq_some_iff.1 h
       have q7c := spec_l1In.ctr _ _ _ _ q7
       by_cases c8 : t206 = true
       · rw [if_pos c8] at h
         refine path_ok (k := 15) hF (RetQ_mild _ _ _ _ _ _ _ _) (ds := [.b true, .e 22 (.rf [.v (.int .i64 (rd x18 x20))]), .r [.ro (.v (.bool t206))] [], .b false]) (os := []) (c := none) rfl KD ?_
         exact WS.lpc [] (hJ0 _ _ (Nat.lt_succ_self _) ⟨by omega, x0, x1, x18, x19, (wrap64 (x20 + 1)), h, rfl⟩) KD
       · rw [if_neg c8] at h
         refine path_ok (k := 15) hF (RetQ_mild _ _ _ _ _ _ _ _) (ds := [.b true, .e 22 (.rf [.v (.int .i64 (rd x18 x20))]), .r [.ro (.v (.bool t206))] [], .b true]) (os := []) (c := none) rfl KD ?_
         cases h
         exact ret_as (ms := [.ro, .ro]) rfl KD
     · rw [if_neg c6] at h
       cases h
   · rw [if_neg c5] at h
     cases h
 · rw [if_neg c4] at h
   obtain ⟨t207, q9, h⟩ := Option.bind_eq_some_iff.1 h
   have q9c := spec_l11Product.ctr k' _ _ q9
   by_cases c10 : t207 = (x1.length : Int)
   · rw [if_pos c10] at h
     obtain ⟨⟨t208, t209, t212⟩, q11, h⟩ := Option.bind_eq_some_iff.1 h
     dsimp only at h
     have q11c := spec_l11Fill.ctr k' _ _ _ _ _ q11
     obtain ⟨⟨t216, t217⟩, q12, h⟩ := Option.bind_eq_some_iff.1 h
     dsimp only at h
     have q12c := spec_l1Told.ctr k' _ _ _ _ _ q12
     refine path_ok (k := 15) hF (RetQ_mild _ _ _ _ _ _ _ _) (ds := [.b false, .r [.ro (.v (.int .i64 t207))] [], .e 31 (.v (.int .i64 (x1.length : Int))), .b false, .r [.ro (.ag [.v (.int .i64 t208), .sl 2 (r73 t209)]), .ro (.sl 1 (rX (cI .i64) t212))] [], .e 41 (.v (.int .i64 (x0.length : Int))), .r [.ro (.v (.string t216)), .ro (.v (.bool t217))] []]) (os := []) (c := none) rfl KD ?_
     cases h
     exact ret_as (ms := [.ro, .ro]) rfl KD
   · rw [if_neg c10] at h
     refine path_ok (k := 12) hF (RetQ_mild _ _ _ _ _ _ _ _) (ds := [.b false, .r [.ro (.v (.int .i64 t207))] [], .e 31 (.v (.int .i64 (x1.length : Int))), .b true]) (os := []) (c := none) rfl KD ?_
     cases h
     exact ret_as (ms := [.ro, .ro]) rfl KD
theorem spec_FillShape.cs (k : Nat) : spec_FillShape.C k := by
 induction k using Nat.strongRecOn with
 | _ k ih0 =>
 have ih : Kp (∀ m, m < k → spec_FillShape.C m) := ⟨ih0⟩
 exact ⟨spec_FillShape.c_j0 k ih, spec_FillShape.c_l0 k ih⟩
set_option maxRecDepth 100000 in
set_option maxHeartbeats 4000000 in
theorem spec_FillShape.ctr (k : Nat) (l0 : List Int) (l1 : List Int) (r1 : ByteArray) (r2 : Bool) (h : spec_FillShape.f k l0 l1 = some (r1, r2)) : Ctr TE 14 none [.sl 1 (rX (cI .i64) l0), .sl 1 (rX (cI .i64) l1)] [.ro (.v (.string r1)), .ro (.v (.bool r2))] [] := by
 refine ctr_of (fn := Tryd.f14) (c := (bodyOf Tryd.f14)) Tryd.func14 rfl (by kernel_rfl) (Nat.le_of_ble_eq_true (by kernel_rfl)) (fun w ro B hF _ => ?_)
 have ih : Kp (∀ m, m < k + 1 → spec_FillShape.C m) := ⟨fun m _ => spec_FillShape.cs m⟩
 simp only [spec_FillShape.f] at h
 by_cases c1 : (l0.length : Int) > 3
 · rw [if_pos c1] at h
   refine path_ok (k := 5) hF (RetQ_mild _ _ _ _ _ _ _ _) (ds := [.e 11 (.v (.int .i64 (l0.length : Int))), .b true, .b true, .b true, .b true]) (os := []) (c := none) rfl KD ?_
   exact WS.can [] (((ih.out k (by omega)).s_j0  r1 r2 w ro B hF l0 l1 true h).out) KD
 · rw [if_neg c1] at h
   obtain ⟨t204, q2, h⟩ := Option.bind_eq_some_iff.1 h
   have q2c := spec_l4Data.ctr k _ _ q2
   refine path_ok (k := 5) hF (RetQ_mild _ _ _ _ _ _ _ _) (ds := [.e 11 (.v (.int .i64 (l0.length : Int))), .b false, .b false, .r [.ro (.v (.bool t204))] [], .b false, .b false]) (os := []) (c := none) rfl KD ?_
   exact WS.can [] (((ih.out k (by omega)).s_j0  r1 r2 w ro B hF l0 l1 (!t204) h).out) KD
end Go.Proofs.YtlhejcogdjelpaaDoor.G
