/- A part of the claim. -/
import Derived.Test.YtoloblgjlnhioaaGreatDoorIFx0
-- PRINTED by print.py (a twelfth state) out of the translation. Not trusted: Lean checks it.
namespace Go.Proofs.YtoloblgjlnhioaaGreatDoor.I
open Go.RowKit Go.Proofs.YtoloblgjlnhioaaGreatDoorW.St Go.Proofs.YtoloblgjlnhioaaGreatDoorW.PrintWords Go.Proofs.YtoloblgjlnhioaaGreatDoorW.PrintLast Go.Proofs.YtoloblgjlnhioaaGreatDoorW.PrintMore
attribute [local go_sem] max2_int min2_int max_two min_two max_three min_three max_four min_four   -- for this text's walks alone
set_option linter.unusedVariables false
set_option linter.unusedSimpArgs false
def spec_l13Open.f (l0 : List Int) : Option (List Int × Int) := if (l0.length : Int) > 2000 then (if 2000 ≤ (l0.length : Int) then (some (l0.take 2000, 0)) else (none)) else (some (l0, 0))
set_option maxRecDepth 100000 in
set_option maxHeartbeats 4000000 in
theorem spec_l13Open.ctr (l0 : List Int) (r1 : List Int) (r2 : Int) (h : spec_l13Open.f l0 = some (r1, r2)) : Ctr TE 37 none [.sl 1 (rX (cI .u8) l0)] [.nb 112 [.sl 1 (rX (cI .u8) r1), .v (.int .i64 r2)]] [] := by
 refine ctr_of (fn := Tryz.f37) (c := (bodyOf Tryz.f37)) Tryz.func37 rfl (by kernel_rfl) (Nat.le_of_ble_eq_true (by kernel_rfl)) (fun w ro B hF _ => ?_)
 simp only [spec_l13Open.f] at h
 by_cases c1 : (l0.length : Int) > 2000
 · rw [if_pos c1] at h
   by_cases c2 : 2000 ≤ (l0.length : Int)
   · rw [if_pos c2] at h
     refine path_ok (k := 10) hF (RetQ_mild _ _ _ _ _ _ _ _) (ds := [.e 4 (.v (.int .i64 (l0.length : Int))), .b true, .e 7 (.sl 1 (rX (cI .u8) (l0.take 2000)))]) (os := []) (c := none) rfl KD ?_
     cases h
     exact ret_as (ms := [.nb]) rfl KD
   · rw [if_neg c2] at h
     cases h
 · rw [if_neg c1] at h
   refine path_ok (k := 10) hF (RetQ_mild _ _ _ _ _ _ _ _) (ds := [.e 4 (.v (.int .i64 (l0.length : Int))), .b false]) (os := []) (c := none) rfl KD ?_
   cases h
   exact ret_as (ms := [.nb]) rfl KD
def spec_l13Rd_pick.j0 : Nat → Int → Bool → List Int → Int → Option (Int × Int)
  | 0, _, _, _, _ => none
  | k + 1, x1, x24, x1000, x1001 => if x24 = true then (some (0, x1001)) else (if (wrap64 (x1001 - 1)) < (x1000.length : Int) then (if 0 ≤ (wrap64 (x1001 - 1)) then (if x1 = 0 then (none) else (some (Int.tmod (wrap64 (rd x1000 (wrap64 (x1001 - 1)))) x1, x1001))) else (none)) else (if (x1000.length : Int) = 0 then (none) else (if 0 ≤ (Int.tmod (wrap64 (x1001 - 1)) (x1000.length : Int)) then (if (Int.tmod (wrap64 (x1001 - 1)) (x1000.length : Int)) < (x1000.length : Int) then (if 0 ≤ (Int.tmod (wrap64 ((wrap64 ((wrap64 (x1001 - 1)) * 7)) + 3)) (x1000.length : Int)) then (if (Int.tmod (wrap64 ((wrap64 ((wrap64 (x1001 - 1)) * 7)) + 3)) (x1000.length : Int)) < (x1000.length : Int) then (if x1 = 0 then (none) else (some (Int.tmod (Go.bits .xor .i64 (wrap64 ((wrap64 ((wrap64 ((wrap64 ((wrap64 (rd x1000 (Int.tmod (wrap64 (x1001 - 1)) (x1000.length : Int)))) * 131)) + (wrap64 ((wrap64 (rd x1000 (Int.tmod (wrap64 ((wrap64 ((wrap64 (x1001 - 1)) * 7)) + 3)) (x1000.length : Int)))) * 1117)))) + (wrap64 ((wrap64 (x1001 - 1)) * 29)))) + (wrap64 ((wrap64 (Int.tdiv (wrap64 (x1001 - 1)) (x1000.length : Int))) * 53)))) (wrap64 (Int.tdiv (wrap64 ((wrap64 ((wrap64 ((wrap64 ((wrap64 (rd x1000 (Int.tmod (wrap64 (x1001 - 1)) (x1000.length : Int)))) * 131)) + (wrap64 ((wrap64 (rd x1000 (Int.tmod (wrap64 ((wrap64 ((wrap64 (x1001 - 1)) * 7)) + 3)) (x1000.length : Int)))) * 1117)))) + (wrap64 ((wrap64 (x1001 - 1)) * 29)))) + (wrap64 ((wrap64 (Int.tdiv (wrap64 (x1001 - 1)) (x1000.length : Int))) * 53)))) 64))) x1, x1001))) else (none)) else (none)) else (none)) else (none))))
def spec_l13Rd_pick.f (k : Nat) (s0_0 : List Int) (s0_1 : Int) (a1 : Int) : Option (Int × Int) := if a1 < 1 then (spec_l13Rd_pick.j0 k a1 true s0_0 (wrap64 (s0_1 + 1))) else (spec_l13Rd_pick.j0 k a1 ((s0_0.length : Int) == 0) s0_0 (wrap64 (s0_1 + 1)))
structure spec_l13Rd_pick.C (k : Nat) : Prop where
 s_j0 : ∀ (s0_0 : List Int) (s0_1 : Int) (r1 : Int) (r2 : Int) (w : World) (ro : Nat → Prop) (B : Nat) (_ : Fr TE (cx0 Tryz.f39 (some (112, [.sl 1 (rX (cI .u8) s0_0), .v (.int .i64 s0_1)])) w ro B)) (x1 : Int) (x24 : Bool) (x1001 : Int) (_ : spec_l13Rd_pick.j0 k x1 x24 s0_0 x1001 = some (r1, r2)), Kp (WS TE (cx0 Tryz.f39 (some (112, [.sl 1 (rX (cI .u8) s0_0), .v (.int .i64 s0_1)])) w ro B) (stkAt [1, 1, 0, 0, 9] [] (bodyOf Tryz.f39) []) ⟨[(0, .pt 0 0 0), (1, .v (.int .i64 x1)), (24, .v (.bool x24))], [(0, .box 0 112 true [.sl 1 (rX (cI .u8) s0_0), .v (.int .i64 x1001)])]⟩ (RetQ TE Tryz.f39 (some (112, [.sl 1 (rX (cI .u8) s0_0), .v (.int .i64 s0_1)])) [.ro (.v (.int .i64 r1))] [.sl 1 (rX (cI .u8) s0_0), .v (.int .i64 r2)] w ro B))
set_option maxRecDepth 100000 in
set_option maxHeartbeats 4000000 in
theorem spec_l13Rd_pick.c_j0 (k : Nat) (ih : Kp (∀ m, m < k → spec_l13Rd_pick.C m)) (s0_0 : List Int) (s0_1 : Int) (r1 : Int) (r2 : Int) (w : World) (ro : Nat → Prop) (B : Nat) (hF : Fr TE (cx0 Tryz.f39 (some (112, [.sl 1 (rX (cI .u8) s0_0), .v (.int .i64 s0_1)])) w ro B)) (x1 : Int) (x24 : Bool) (x1001 : Int) (h : spec_l13Rd_pick.j0 k x1 x24 s0_0 x1001 = some (r1, r2)) : Kp (WS TE (cx0 Tryz.f39 (some (112, [.sl 1 (rX (cI .u8) s0_0), .v (.int .i64 s0_1)])) w ro B) (stkAt [1, 1, 0, 0, 9] [] (bodyOf Tryz.f39) []) ⟨[(0, .pt 0 0 0), (1, .v (.int .i64 x1)), (24, .v (.bool x24))], [(0, .box 0 112 true [.sl 1 (rX (cI .u8) s0_0), .v (.int .i64 x1001)])]⟩ (RetQ TE Tryz.f39 (some (112, [.sl 1 (rX (cI .u8) s0_0), .v (.int .i64 s0_1)])) [.ro (.v (.int .i64 r1))] [.sl 1 (rX (cI .u8) s0_0), .v (.int .i64 r2)] w ro B)) := by
 refine ⟨?_⟩
 cases k with
 | zero => simp [spec_l13Rd_pick.j0] at h
 | succ k =>
 simp only [spec_l13Rd_pick.j0] at h
 by_cases c2 : x24 = true
 · rw [if_pos c2] at h
   refine path_ok (k := 4) hF (RetQ_mild _ _ _ _ _ _ _ _) (ds := [.b true]) (os := []) (c := none) rfl KD ?_
   cases h
   exact ret_as (ms := [.ro]) rfl KD
 · rw [if_neg c2] at h
   by_cases c3 : (wrap64 (x1001 - 1)) < (s0_0.length : Int)
   · rw [if_pos c3] at h
     by_cases c4 : 0 ≤ (wrap64 (x1001 - 1))
     · rw [if_pos c4] at h
       by_cases c5 : x1 = 0
       · rw [if_pos c5] at h
         cases h
       · rw [if_neg c5] at h
         refine path_ok (k := 11) hF (RetQ_mild _ _ _ _ _ _ _ _) (ds := [.b false, .e 35 (.v (.int .i64 (s0_0.length : Int))), .b true, .e 42 (.rf [.v (.int .u8 (rd s0_0 (wrap64 (x1001 - 1))))]), .e 44 (.v (.int .i64 (wrap64 (rd s0_0 (wrap64 (x1001 - 1)))))), .e 46 (.v (.int .i64 (Int.tmod (wrap64 (rd s0_0 (wrap64 (x1001 - 1)))) x1)))]) (os := []) (c := none) rfl KD ?_
         cases h
         exact ret_as (ms := [.ro]) rfl KD
     · rw [if_neg c4] at h
       cases h
   · rw [if_neg c3] at h
     by_cases c6 : (s0_0.length : Int) = 0
     · rw [if_pos c6] at h
       cases h
     · rw [if_neg c6] at h
       by_cases c7 : 0 ≤ (Int.tmod (wrap64 (x1001 - 1)) (s0_0.length : Int))
       · rw [if_pos c7] at h
         by_cases c8 : (Int.tmod (wrap64 (x1001 - 1)) (s0_0.length : Int)) < (s0_0.length : Int)
         · rw [if_pos c8] at h
           by_cases c9 : 0 ≤ (Int.tmod (wrap64 ((wrap64 ((wrap64 (x1001 - 1)) * 7)) + 3)) (s0_0.length : Int))
           · rw [if_pos c9] at h
             by_cases c10 : (Int.tmod (wrap64 ((wrap64 ((wrap64 (x1001 - 1)) * 7)) + 3)) (s0_0.length : Int)) < (s0_0.length : Int)
             · rw [if_pos c10] at h
               by_cases c11 : x1 = 0
               · rw [if_pos c11] at h
                 cases h
               · rw [if_neg c11] at h
                 refine path_ok (k := 16) hF (RetQ_mild _ _ _ _ _ _ _ _) (ds := [.b false, .e 35 (.v (.int .i64 (s0_0.length : Int))), .b false, .e 56 (.v (.int .i64 (s0_0.length : Int))), .e 57 (.v (.int .i64 (Int.tmod (wrap64 (x1001 - 1)) (s0_0.length : Int)))), .e 58 (.rf [.v (.int .u8 (rd s0_0 (Int.tmod (wrap64 (x1001 - 1)) (s0_0.length : Int))))]), .e 60 (.v (.int .i64 (wrap64 (rd s0_0 (Int.tmod (wrap64 (x1001 - 1)) (s0_0.length : Int)))))), .e 73 (.v (.int .i64 (s0_0.length : Int))), .e 74 (.v (.int .i64 (Int.tmod (wrap64 ((wrap64 ((wrap64 (x1001 - 1)) * 7)) + 3)) (s0_0.length : Int)))), .e 75 (.rf [.v (.int .u8 (rd s0_0 (Int.tmod (wrap64 ((wrap64 ((wrap64 (x1001 - 1)) * 7)) + 3)) (s0_0.length : Int))))]), .e 77 (.v (.int .i64 (wrap64 (rd s0_0 (Int.tmod (wrap64 ((wrap64 ((wrap64 (x1001 - 1)) * 7)) + 3)) (s0_0.length : Int)))))), .e 88 (.v (.int .i64 (s0_0.length : Int))), .e 89 (.v (.int .i64 (wrap64 (Int.tdiv (wrap64 (x1001 - 1)) (s0_0.length : Int))))), .e 94 (.v (.int .i64 (wrap64 (Int.tdiv (wrap64 ((wrap64 ((wrap64 ((wrap64 ((wrap64 (rd s0_0 (Int.tmod (wrap64 (x1001 - 1)) (s0_0.length : Int)))) * 131)) + (wrap64 ((wrap64 (rd s0_0 (Int.tmod (wrap64 ((wrap64 ((wrap64 (x1001 - 1)) * 7)) + 3)) (s0_0.length : Int)))) * 1117)))) + (wrap64 ((wrap64 (x1001 - 1)) * 29)))) + (wrap64 ((wrap64 (Int.tdiv (wrap64 (x1001 - 1)) (s0_0.length : Int))) * 53)))) 64)))), .e 98 (.v (.int .i64 (Int.tmod (Go.bits .xor .i64 (wrap64 ((wrap64 ((wrap64 ((wrap64 ((wrap64 (rd s0_0 (Int.tmod (wrap64 (x1001 - 1)) (s0_0.length : Int)))) * 131)) + (wrap64 ((wrap64 (rd s0_0 (Int.tmod (wrap64 ((wrap64 ((wrap64 (x1001 - 1)) * 7)) + 3)) (s0_0.length : Int)))) * 1117)))) + (wrap64 ((wrap64 (x1001 - 1)) * 29)))) + (wrap64 ((wrap64 (Int.tdiv (wrap64 (x1001 - 1)) (s0_0.length : Int))) * 53)))) (wrap64 (Int.tdiv (wrap64 ((wrap64 ((wrap64 ((wrap64 ((wrap64 (rd s0_0 (Int.tmod (wrap64 (x1001 - 1)) (s0_0.length : Int)))) * 131)) + (wrap64 ((wrap64 (rd s0_0 (Int.tmod (wrap64 ((wrap64 ((wrap64 (x1001 - 1)) * 7)) + 3)) (s0_0.length : Int)))) * 1117)))) + (wrap64 ((wrap64 (x1001 - 1)) * 29)))) + (wrap64 ((wrap64 (Int.tdiv (wrap64 (x1001 - 1)) (s0_0.length : Int))) * 53)))) 64))) x1)))]) (os := [.o [(0, 0), (1, 0), (2, 0), (3, 1), (4, 0), (5, 0), (6, 0), (7, 0), (8, 1), (9, 0), (10, 0), (11, 0), (12, 1), (13, 0), (14, 0), (15, 0), (16, 0), (17, 0), (18, 1), (19, 0), (20, 0), (21, 0), (22, 0), (23, 0), (24, 0), (25, 1), (26, 0), (27, 0), (28, 0), (29, 1), (30, 0), (31, 0), (32, 0), (33, 0), (34, 0), (35, 0), (36, 0), (37, 0), (38, 0), (39, 0), (40, 1), (41, 0), (42, 0), (43, 0), (44, 0), (45, 0)] []]) (c := none) rfl KD ?_
                 cases h
                 exact ret_as (ms := [.ro]) rfl KD
             · rw [if_neg c10] at h
               cases h
           · rw [if_neg c9] at h
             cases h
         · rw [if_neg c8] at h
           cases h
       · rw [if_neg c7] at h
         cases h
theorem spec_l13Rd_pick.cs (k : Nat) : spec_l13Rd_pick.C k := by
 induction k using Nat.strongRecOn with
 | _ k ih0 =>
 have ih : Kp (∀ m, m < k → spec_l13Rd_pick.C m) := ⟨ih0⟩
 exact ⟨spec_l13Rd_pick.c_j0 k ih⟩
set_option maxRecDepth 100000 in
set_option maxHeartbeats 4000000 in
theorem spec_l13Rd_pick.ctr (k : Nat) (s0_0 : List Int) (s0_1 : Int) (a1 : Int) (r1 : Int) (r2 : Int) (h : spec_l13Rd_pick.f k s0_0 s0_1 a1 = some (r1, r2)) : Ctr TE 39 (some (112, [.sl 1 (rX (cI .u8) s0_0), .v (.int .i64 s0_1)])) [.pt 0 0 0, .v (.int .i64 a1)] [.ro (.v (.int .i64 r1))] [.sl 1 (rX (cI .u8) s0_0), .v (.int .i64 r2)] := by
 refine ctr_of (fn := Tryz.f39) (c := (bodyOf Tryz.f39)) Tryz.func39 rfl (by kernel_rfl) (Nat.le_of_ble_eq_true (by kernel_rfl)) (fun w ro B hF _ => ?_)
 have ih : Kp (∀ m, m < k + 1 → spec_l13Rd_pick.C m) := ⟨fun m _ => spec_l13Rd_pick.cs m⟩
 simp only [spec_l13Rd_pick.f] at h
 by_cases c1 : a1 < 1
 · rw [if_pos c1] at h
   refine path_ok (k := 7) hF (RetQ_mild _ _ _ _ _ _ _ _) (ds := [.b true, .b true, .b true, .b true, .b true, .b true, .b true]) (os := []) (c := none) rfl KD ?_
   exact WS.can [(0, some 0)] (((ih.out k (by omega)).s_j0 s0_0 s0_1 r1 r2 w ro B hF a1 true (wrap64 (s0_1 + 1)) h).out) KD
 · rw [if_neg c1] at h
   refine path_ok (k := 7) hF (RetQ_mild _ _ _ _ _ _ _ _) (ds := [.b false, .b false, .b false, .b false, .b false, .e 22 (.v (.int .i64 (s0_0.length : Int))), .b false, .b false]) (os := []) (c := none) rfl KD ?_
   exact WS.can [(0, some 0)] (((ih.out k (by omega)).s_j0 s0_0 s0_1 r1 r2 w ro B hF a1 ((s0_0.length : Int) == 0) (wrap64 (s0_1 + 1)) h).out) KD
mutual
def spec_l13Dec.l0 : Nat → Int → ByteArray → Option (ByteArray)
  | 0, _, _ => none
  | k + 1, x0, x3 => if x0 > 9 then ((some (([(wrap64 (48 + (Int.tmod x0 10))) % 256] : List Int) : List Int)).bind fun y108 => (if (strOfNums y108).size + x3.size ≤ 9223372036854775807 then (spec_l13Dec.l0 k (wrap64 (Int.tdiv x0 10)) ((strOfNums y108) ++ x3)) else (none))) else ((some (([(wrap64 (48 + x0)) % 256] : List Int) : List Int)).bind fun y111 => (if (strOfNums y111).size + x3.size ≤ 9223372036854775807 then (some ((strOfNums y111) ++ x3)) else (none)))
def spec_l13Dec.f : Nat → Int → Option (ByteArray)
  | 0, _ => none
  | k + 1, a0 => if a0 < (-9223372036854775807) then (some (⟨#[45, 57, 50, 50, 51, 51, 55, 50, 48, 51, 54, 56, 53, 52, 55, 55, 53, 56, 48, 56]⟩ : ByteArray)) else (if a0 < 0 then ((spec_l13Dec.f k (wrap64 (-a0))).bind fun t107 => (if 1 + t107.size ≤ 9223372036854775807 then (some ((⟨#[45]⟩ : ByteArray) ++ t107)) else (none))) else (spec_l13Dec.l0 k a0 (⟨#[]⟩ : ByteArray)))
end
def spec_l13Dec.I0 (r : ByteArray) (m : Nat) (σ : St) : Prop := ∃ (x0 : Int) (x3 : ByteArray), spec_l13Dec.l0 m x0 x3 = some r ∧ σ = ⟨[(0, .v (.int .i64 x0)), (3, .v (.string x3))], []⟩
structure spec_l13Dec.C (k : Nat) : Prop where
 s_f : ∀ (a0 : Int) (r : ByteArray), spec_l13Dec.f k a0 = some r → Ctr TE 55 none [.v (.int .i64 a0)] [.ro (.v (.string r))] []
 s_l0 : ∀ (r : ByteArray) (w : World) (ro : Nat → Prop) (B : Nat) (_ : Fr TE (cx0 Tryz.f55 none w ro B)) (x0 : Int) (x3 : ByteArray) (_ : spec_l13Dec.l0 k x0 x3 = some r), Kp (WS TE (cx0 Tryz.f55 none w ro B) (stkAt [1, 1, 1, 1, 0, 0] [] (bodyOf Tryz.f55) []) ⟨[(0, .v (.int .i64 x0)), (3, .v (.string x3))], []⟩ (RetQ TE Tryz.f55 none [.ro (.v (.string r))] [] w ro B))
set_option maxRecDepth 100000 in
set_option maxHeartbeats 4000000 in
theorem spec_l13Dec.c_f (k : Nat) (ih : Kp (∀ m, m < k → spec_l13Dec.C m)) (a0 : Int) (r : ByteArray) (h : spec_l13Dec.f k a0 = some r) : Ctr TE 55 none [.v (.int .i64 a0)] [.ro (.v (.string r))] [] := by
 cases k with
 | zero => simp [spec_l13Dec.f] at h
 | succ k =>
 simp only [spec_l13Dec.f] at h
 refine ctr_of (fn := Tryz.f55) (c := (bodyOf Tryz.f55)) Tryz.func55 rfl (by kernel_rfl) (Nat.le_of_ble_eq_true (by kernel_rfl)) (fun w ro B hF _ => ?_)
 by_cases c1 : a0 < (-9223372036854775807)
 · rw [if_pos c1] at h
   refine path_ok (k := 9) hF (RetQ_mild _ _ _ _ _ _ _ _) (ds := [.b true]) (os := []) (c := none) rfl KD ?_
   cases h
   exact ret_as (ms := [.ro]) rfl KD
 · rw [if_neg c1] at h
   by_cases c2 : a0 < 0
   · rw [if_pos c2] at h
     obtain ⟨t107, q3, h⟩ := Option.bind_eq_some_iff.1 h
     have q3c := (ih.out k (by omega)).s_f _ _ q3
     by_cases c4 : 1 + t107.size ≤ 9223372036854775807
     · rw [if_pos c4] at h
       refine path_ok (k := 14) hF (RetQ_mild _ _ _ _ _ _ _ _) (ds := [.b false, .b true, .e 9 (.v (.int .i64 (wrap64 (-a0)))), .r [.ro (.v (.string t107))] []]) (os := []) (c := none) rfl KD ?_
       cases h
       exact ret_as (ms := [.ro]) rfl KD
     · rw [if_neg c4] at h
       cases h
   · rw [if_neg c2] at h
     refine path_ok (k := 16) hF (RetQ_mild _ _ _ _ _ _ _ _) (ds := [.b false, .b false]) (os := []) (c := none) rfl KD ?_
     exact WS.can [] (((ih.out k (by omega)).s_l0  r w ro B hF a0 (⟨#[]⟩ : ByteArray) h).out) KD
set_option maxRecDepth 100000 in
set_option maxHeartbeats 4000000 in
theorem spec_l13Dec.c_l0 (k : Nat) (ih : Kp (∀ m, m < k → spec_l13Dec.C m)) (r : ByteArray) (w : World) (ro : Nat → Prop) (B : Nat) (hF : Fr TE (cx0 Tryz.f55 none w ro B)) (x0 : Int) (x3 : ByteArray) (h : spec_l13Dec.l0 k x0 x3 = some r) : Kp (WS TE (cx0 Tryz.f55 none w ro B) (stkAt [1, 1, 1, 1, 0, 0] [] (bodyOf Tryz.f55) []) ⟨[(0, .v (.int .i64 x0)), (3, .v (.string x3))], []⟩ (RetQ TE Tryz.f55 none [.ro (.v (.string r))] [] w ro B)) := by
 refine ⟨WS.loop (fun m σ => m ≤ k ∧ spec_l13Dec.I0 r m σ) k ⟨Nat.le_refl k, x0, x3, h, rfl⟩ (fun m σ' hI J0 hJ0 => ?_)⟩
 clear h
 obtain ⟨hk, x0, x3, h, rfl⟩ := hI
 cases m with
 | zero => simp [spec_l13Dec.l0] at h
 | succ k' =>
 simp only [spec_l13Dec.l0] at h
 by_cases c5 : x0 > 9
 · rw [if_pos c5] at h
   obtain ⟨y108, hy108, h⟩ := Option.bind_eq_some_iff.1 h
   cases hy108
   by_cases c6 : (strOfNums (([(wrap64 (48 + (Int.tmod x0 10))) % 256] : List Int))).size + x3.size ≤ 9223372036854775807
   · rw [if_pos c6] at h
     refine path_ok (k := 10) hF (RetQ_mild _ _ _ _ _ _ _ _) (ds := [.b true, .e 15 (.v (.int .i64 (Int.tmod x0 10))), .e 17 (.v (.int .u8 ((wrap64 (48 + (Int.tmod x0 10))) % 256))), .p 18 ([[.v (.int .u8 ((wrap64 (48 + (Int.tmod x0 10))) % 256))]]), .w (([(wrap64 (48 + (Int.tmod x0 10))) % 256] : List Int)), .e 23 (.v (.int .i64 (wrap64 (Int.tdiv x0 10))))]) (os := []) (c := none) rfl KD ?_
     exact WS.lpc [] (hJ0 _ _ (Nat.lt_succ_self _) ⟨by omega, (wrap64 (Int.tdiv x0 10)), ((strOfNums (([(wrap64 (48 + (Int.tmod x0 10))) % 256] : List Int))) ++ x3), h, rfl⟩) KD
   · rw [if_neg c6] at h
     cases h
 · rw [if_neg c5] at h
   obtain ⟨y111, hy111, h⟩ := Option.bind_eq_some_iff.1 h
   cases hy111
   by_cases c7 : (strOfNums (([(wrap64 (48 + x0)) % 256] : List Int))).size + x3.size ≤ 9223372036854775807
   · rw [if_pos c7] at h
     refine path_ok (k := 8) hF (RetQ_mild _ _ _ _ _ _ _ _) (ds := [.b false, .e 26 (.v (.int .u8 ((wrap64 (48 + x0)) % 256))), .p 27 ([[.v (.int .u8 ((wrap64 (48 + x0)) % 256))]]), .w (([(wrap64 (48 + x0)) % 256] : List Int))]) (os := []) (c := none) rfl KD ?_
     cases h
     exact ret_as (ms := [.ro]) rfl KD
   · rw [if_neg c7] at h
     cases h
theorem spec_l13Dec.cs (k : Nat) : spec_l13Dec.C k := by
 induction k using Nat.strongRecOn with
 | _ k ih0 =>
 have ih : Kp (∀ m, m < k → spec_l13Dec.C m) := ⟨ih0⟩
 exact ⟨spec_l13Dec.c_f k ih, spec_l13Dec.c_l0 k ih⟩
theorem spec_l13Dec.ctr (k : Nat) (a0 : Int) (r : ByteArray) (h : spec_l13Dec.f k a0 = some r) : Ctr TE 55 none [.v (.int .i64 a0)] [.ro (.v (.string r))] [] := (spec_l13Dec.cs k).s_f a0 r h
def spec_l13Rd_num.f (k : Nat) (s0_0 : List Int) (s0_1 : Int) (l1 : List Int) : Option (Int × Int) := (spec_l13Rd_pick.f k s0_0 s0_1 (l1.length : Int)).bind fun bt114 => (if 0 ≤ bt114.1 then (if bt114.1 < (l1.length : Int) then (some (rd l1 bt114.1, bt114.2)) else (none)) else (none))
set_option maxRecDepth 100000 in
set_option maxHeartbeats 4000000 in
theorem spec_l13Rd_num.ctr (k : Nat) (s0_0 : List Int) (s0_1 : Int) (l1 : List Int) (r1 : Int) (r2 : Int) (h : spec_l13Rd_num.f k s0_0 s0_1 l1 = some (r1, r2)) : Ctr TE 56 (some (112, [.sl 1 (rX (cI .u8) s0_0), .v (.int .i64 s0_1)])) [.pt 0 0 0, .sl 1 (rX (cI .i64) l1)] [.ro (.v (.int .i64 r1))] [.sl 1 (rX (cI .u8) s0_0), .v (.int .i64 r2)] := by
 refine ctr_of (fn := Tryz.f56) (c := (bodyOf Tryz.f56)) Tryz.func56 rfl (by kernel_rfl) (Nat.le_of_ble_eq_true (by kernel_rfl)) (fun w ro B hF _ => ?_)
 simp only [spec_l13Rd_num.f] at h
 obtain ⟨⟨t114, t115⟩, q1, h⟩ := Option.bind_eq_some_iff.1 h
 dsimp only at h
 have q1c := spec_l13Rd_pick.ctr k _ _ _ _ _ q1
 by_cases c2 : 0 ≤ t114
 · rw [if_pos c2] at h
   by_cases c3 : t114 < (l1.length : Int)
   · rw [if_pos c3] at h
     refine path_ok (k := 5) hF (RetQ_mild _ _ _ _ _ _ _ _) (ds := [.e 8 (.v (.int .i64 (l1.length : Int))), .r [.ro (.v (.int .i64 t114))] [.sl 1 (rX (cI .u8) s0_0), .v (.int .i64 t115)], .e 10 (.rf [.v (.int .i64 (rd l1 t114))])]) (os := []) (c := none) rfl KD ?_
     cases h
     exact ret_as (ms := [.ro]) rfl KD
   · rw [if_neg c3] at h
     cases h
 · rw [if_neg c2] at h
   cases h
mutual
def spec_l1Draw.l0 : Nat → Int → ByteArray → Int → Int → List Int → Int → Option (ByteArray × Int)
  | 0, _, _, _, _, _, _ => none
  | k + 1, x1, x5, x17, x18, x1000, x1001 => if x18 < x17 then (if x18 > 0 then (if x5.size + 1 ≤ 9223372036854775807 then ((spec_l1Draw.f k x1000 x1001 (wrap64 (x1 - 1))).bind fun bt130 => (if x5.size + 1 + bt130.1.size ≤ 9223372036854775807 then (spec_l1Draw.l0 k x1 ((x5 ++ (⟨#[44]⟩ : ByteArray)) ++ bt130.1) x17 (wrap64 (x18 + 1)) x1000 bt130.2) else (none))) else (none)) else ((spec_l1Draw.f k x1000 x1001 (wrap64 (x1 - 1))).bind fun bt132 => (if x5.size + bt132.1.size ≤ 9223372036854775807 then (spec_l1Draw.l0 k x1 (x5 ++ bt132.1) x17 (wrap64 (x18 + 1)) x1000 bt132.2) else (none)))) else (if x5.size + 1 ≤ 9223372036854775807 then (some (x5 ++ (⟨#[93]⟩ : ByteArray), x1001)) else (none))
def spec_l1Draw.f : Nat → List Int → Int → Int → Option (ByteArray × Int)
  | 0, _, _, _ => none
  | k + 1, s0_0, s0_1, a1 => if a1 = 0 then ((spec_l13Rd_pick.f k s0_0 s0_1 9).bind fun bt117 => ((spec_l13Rd_num.f k s0_0 bt117.2 (([1, 0, 2, 3, bt117.1, 5, 10006, 100] : List Int))).bind fun bt122 => ((spec_l13Dec.f k bt122.1).bind fun t124 => (some (t124, bt122.2))))) else ((spec_l13Rd_num.f k s0_0 s0_1 (([2, 0, 1, 3, 4] : List Int))).bind fun bt128 => (spec_l1Draw.l0 k a1 (⟨#[91]⟩ : ByteArray) bt128.1 0 s0_0 bt128.2))
end
def spec_l1Draw.I0 (s0_0 : List Int) (s0_1 : Int) (r1 : ByteArray) (r2 : Int) (m : Nat) (σ : St) : Prop := ∃ (x1 : Int) (x5 : ByteArray) (x17 : Int) (x18 : Int) (x1001 : Int), spec_l1Draw.l0 m x1 x5 x17 x18 s0_0 x1001 = some (r1, r2) ∧ σ = ⟨[(0, .pt 0 0 0), (1, .v (.int .i64 x1)), (5, .v (.string x5)), (17, .v (.int .i64 x17)), (18, .v (.int .i64 x18))], [(0, .box 0 112 true [.sl 1 (rX (cI .u8) s0_0), .v (.int .i64 x1001)])]⟩
structure spec_l1Draw.C (k : Nat) : Prop where
 s_f : ∀ (s0_0 : List Int) (s0_1 : Int) (a1 : Int) (r1 : ByteArray) (r2 : Int), spec_l1Draw.f k s0_0 s0_1 a1 = some (r1, r2) → Ctr TE 40 (some (112, [.sl 1 (rX (cI .u8) s0_0), .v (.int .i64 s0_1)])) [.pt 0 0 0, .v (.int .i64 a1)] [.ro (.v (.string r1))] [.sl 1 (rX (cI .u8) s0_0), .v (.int .i64 r2)]
 s_l0 : ∀ (s0_0 : List Int) (s0_1 : Int) (r1 : ByteArray) (r2 : Int) (w : World) (ro : Nat → Prop) (B : Nat) (_ : Fr TE (cx0 Tryz.f40 (some (112, [.sl 1 (rX (cI .u8) s0_0), .v (.int .i64 s0_1)])) w ro B)) (x1 : Int) (x5 : ByteArray) (x17 : Int) (x18 : Int) (x1001 : Int) (_ : spec_l1Draw.l0 k x1 x5 x17 x18 s0_0 x1001 = some (r1, r2)), Kp (WS TE (cx0 Tryz.f40 (some (112, [.sl 1 (rX (cI .u8) s0_0), .v (.int .i64 s0_1)])) w ro B) (stkAt [1, 1, 1, 0, 1, 0] [] (bodyOf Tryz.f40) []) ⟨[(0, .pt 0 0 0), (1, .v (.int .i64 x1)), (5, .v (.string x5)), (17, .v (.int .i64 x17)), (18, .v (.int .i64 x18))], [(0, .box 0 112 true [.sl 1 (rX (cI .u8) s0_0), .v (.int .i64 x1001)])]⟩ (RetQ TE Tryz.f40 (some (112, [.sl 1 (rX (cI .u8) s0_0), .v (.int .i64 s0_1)])) [.ro (.v (.string r1))] [.sl 1 (rX (cI .u8) s0_0), .v (.int .i64 r2)] w ro B))
set_option maxRecDepth 100000 in
set_option maxHeartbeats 4000000 in
theorem spec_l1Draw.c_f (k : Nat) (ih : Kp (∀ m, m < k → spec_l1Draw.C m)) (s0_0 : List Int) (s0_1 : Int) (a1 : Int) (r1 : ByteArray) (r2 : Int) (h : spec_l1Draw.f k s0_0 s0_1 a1 = some (r1, r2)) : Ctr TE 40 (some (112, [.sl 1 (rX (cI .u8) s0_0), .v (.int .i64 s0_1)])) [.pt 0 0 0, .v (.int .i64 a1)] [.ro (.v (.string r1))] [.sl 1 (rX (cI .u8) s0_0), .v (.int .i64 r2)] := by
 cases k with
 | zero => simp [spec_l1Draw.f] at h
 | succ k =>
 simp only [spec_l1Draw.f] at h
 refine ctr_of (fn := Tryz.f40) (c := (bodyOf Tryz.f40)) Tryz.func40 rfl (by kernel_rfl) (Nat.le_of_ble_eq_true (by kernel_rfl)) (fun w ro B hF _ => ?_)
 by_cases c1 : a1 = 0
 · rw [if_pos c1] at h
   obtain ⟨⟨t117, t118⟩, q2, h⟩ := Option.bind_eq_some_iff.1 h
   dsimp only at h
   have q2c := spec_l13Rd_pick.ctr k _ _ _ _ _ q2
   obtain ⟨⟨t122, t123⟩, q3, h⟩ := Option.bind_eq_some_iff.1 h
   dsimp only at h
   have q3c := spec_l13Rd_num.ctr k _ _ _ _ _ q3
   obtain ⟨t124, q4, h⟩ := Option.bind_eq_some_iff.1 h
   have q4c := spec_l13Dec.ctr k _ _ q4
   refine path_ok (k := 9) hF (RetQ_mild _ _ _ _ _ _ _ _) (ds := [.b true, .r [.ro (.v (.int .i64 t117))] [.sl 1 (rX (cI .u8) s0_0), .v (.int .i64 t118)], .p 12 ([[.v (.int .i64 1)], [.v (.int .i64 0)], [.v (.int .i64 2)], [.v (.int .i64 3)], [.v (.int .i64 t117)], [.v (.int .i64 5)], [.v (.int .i64 10006)], [.v (.int .i64 100)]]), .r [.ro (.v (.int .i64 t122))] [.sl 1 (rX (cI .u8) s0_0), .v (.int .i64 t123)], .r [.ro (.v (.string t124))] []]) (os := []) (c := none) rfl KD ?_
   cases h
   exact ret_as (ms := [.ro]) rfl KD
 · rw [if_neg c1] at h
   obtain ⟨⟨t128, t129⟩, q5, h⟩ := Option.bind_eq_some_iff.1 h
   dsimp only at h
   have q5c := spec_l13Rd_num.ctr k _ _ _ _ _ q5
   refine path_ok (k := 13) hF (RetQ_mild _ _ _ _ _ _ _ _) (ds := [.b false, .p 16 ([[.v (.int .i64 2)], [.v (.int .i64 0)], [.v (.int .i64 1)], [.v (.int .i64 3)], [.v (.int .i64 4)]]), .r [.ro (.v (.int .i64 t128))] [.sl 1 (rX (cI .u8) s0_0), .v (.int .i64 t129)]]) (os := []) (c := none) rfl KD ?_
   exact WS.can [(0, some 0)] (((ih.out k (by omega)).s_l0 s0_0 s0_1 r1 r2 w ro B hF a1 (⟨#[91]⟩ : ByteArray) t128 0 t129 h).out) KD
set_option maxRecDepth 100000 in
set_option maxHeartbeats 4000000 in
theorem spec_l1Draw.c_l0 (k : Nat) (ih : Kp (∀ m, m < k → spec_l1Draw.C m)) (s0_0 : List Int) (s0_1 : Int) (r1 : ByteArray) (r2 : Int) (w : World) (ro : Nat → Prop) (B : Nat) (hF : Fr TE (cx0 Tryz.f40 (some (112, [.sl 1 (rX (cI .u8) s0_0), .v (.int .i64 s0_1)])) w ro B)) (x1 : Int) (x5 : ByteArray) (x17 : Int) (x18 : Int) (x1001 : Int) (h : spec_l1Draw.l0 k x1 x5 x17 x18 s0_0 x1001 = some (r1, r2)) : Kp (WS TE (cx0 Tryz.f40 (some (112, [.sl 1 (rX (cI .u8) s0_0), .v (.int .i64 s0_1)])) w ro B) (stkAt [1, 1, 1, 0, 1, 0] [] (bodyOf Tryz.f40) []) ⟨[(0, .pt 0 0 0), (1, .v (.int .i64 x1)), (5, .v (.string x5)), (17, .v (.int .i64 x17)), (18, .v (.int .i64 x18))], [(0, .box 0 112 true [.sl 1 (rX (cI .u8) s0_0), .v (.int .i64 x1001)])]⟩ (RetQ TE Tryz.f40 (some (112, [.sl 1 (rX (cI .u8) s0_0), .v (.int .i64 s0_1)])) [.ro (.v (.string r1))] [.sl 1 (rX (cI .u8) s0_0), .v (.int .i64 r2)] w ro B)) := by
 refine ⟨WS.loop (fun m σ => m ≤ k ∧ spec_l1Draw.I0 s0_0 s0_1 r1 r2 m σ) k ⟨Nat.le_refl k, x1, x5, x17, x18, x1001, h, rfl⟩ (fun m σ' hI J0 hJ0 => ?_)⟩
 clear h
 obtain ⟨hk, x1, x5, x17, x18, x1001, h, rfl⟩ := hI
 cases m with
 | zero => simp [spec_l1Draw.l0] at h
 | succ k' =>
 simp only [spec_l1Draw.l0] at h
 by_cases c6 : x18 < x17
 · rw [if_pos c6] at h
   by_cases c7 : x18 > 0
   · rw [if_pos c7] at h
     by_cases c8 : x5.size + 1 ≤ 9223372036854775807
     · rw [if_pos c8] at h
       obtain ⟨⟨t130, t131⟩, q9, h⟩ := Option.bind_eq_some_iff.1 h
       dsimp only at h
       have q9c := (ih.out k' (by omega)).s_f _ _ _ _ _ q9
       by_cases c10 : x5.size + 1 + t130.size ≤ 9223372036854775807
       · rw [if_pos c10] at h
         refine path_ok (k := 17) hF (RetQ_mild _ _ _ _ _ _ _ _) (ds := [.b true, .b true, .r [.ro (.v (.string t130))] [.sl 1 (rX (cI .u8) s0_0), .v (.int .i64 t131)]]) (os := []) (c := none) rfl KD ?_
         exact WS.lpc [(0, some 0)] (hJ0 _ _ (Nat.lt_succ_self _) ⟨by omega, x1, ((x5 ++ (⟨#[44]⟩ : ByteArray)) ++ t130), x17, (wrap64 (x18 + 1)), t131, h, rfl⟩) KD
       · rw [if_neg c10] at h
         cases h
     · rw [if_neg c8] at h
       cases h
   · rw [if_neg c7] at h
     obtain ⟨⟨t132, t133⟩, q11, h⟩ := Option.bind_eq_some_iff.1 h
     dsimp only at h
     have q11c := (ih.out k' (by omega)).s_f _ _ _ _ _ q11
     by_cases c12 : x5.size + t132.size ≤ 9223372036854775807
     · rw [if_pos c12] at h
       refine path_ok (k := 17) hF (RetQ_mild _ _ _ _ _ _ _ _) (ds := [.b true, .b false, .r [.ro (.v (.string t132))] [.sl 1 (rX (cI .u8) s0_0), .v (.int .i64 t133)]]) (os := []) (c := none) rfl KD ?_
       exact WS.lpc [(0, some 0)] (hJ0 _ _ (Nat.lt_succ_self _) ⟨by omega, x1, (x5 ++ t132), x17, (wrap64 (x18 + 1)), t133, h, rfl⟩) KD
     · rw [if_neg c12] at h
       cases h
 · rw [if_neg c6] at h
   by_cases c13 : x5.size + 1 ≤ 9223372036854775807
   · rw [if_pos c13] at h
     refine path_ok (k := 8) hF (RetQ_mild _ _ _ _ _ _ _ _) (ds := [.b false]) (os := []) (c := none) rfl KD ?_
     cases h
     exact ret_as (ms := [.ro]) rfl KD
   · rw [if_neg c13] at h
     cases h
theorem spec_l1Draw.cs (k : Nat) : spec_l1Draw.C k := by
 induction k using Nat.strongRecOn with
 | _ k ih0 =>
 have ih : Kp (∀ m, m < k → spec_l1Draw.C m) := ⟨ih0⟩
 exact ⟨spec_l1Draw.c_f k ih, spec_l1Draw.c_l0 k ih⟩
theorem spec_l1Draw.ctr (k : Nat) (s0_0 : List Int) (s0_1 : Int) (a1 : Int) (r1 : ByteArray) (r2 : Int) (h : spec_l1Draw.f k s0_0 s0_1 a1 = some (r1, r2)) : Ctr TE 40 (some (112, [.sl 1 (rX (cI .u8) s0_0), .v (.int .i64 s0_1)])) [.pt 0 0 0, .v (.int .i64 a1)] [.ro (.v (.string r1))] [.sl 1 (rX (cI .u8) s0_0), .v (.int .i64 r2)] := (spec_l1Draw.cs k).s_f s0_0 s0_1 a1 r1 r2 h
def spec_l13Rd_of.f (k : Nat) (s0_0 : List Int) (s0_1 : Int) (l1 : List ByteArray) : Option (ByteArray × Int) := (spec_l13Rd_pick.f k s0_0 s0_1 (l1.length : Int)).bind fun bt134 => (if 0 ≤ bt134.1 then (if bt134.1 < (l1.length : Int) then (some (rdOf ByteArray.empty l1 bt134.1, bt134.2)) else (none)) else (none))
set_option maxRecDepth 100000 in
set_option maxHeartbeats 4000000 in
theorem spec_l13Rd_of.ctr (k : Nat) (s0_0 : List Int) (s0_1 : Int) (l1 : List ByteArray) (r1 : ByteArray) (r2 : Int) (h : spec_l13Rd_of.f k s0_0 s0_1 l1 = some (r1, r2)) : Ctr TE 41 (some (112, [.sl 1 (rX (cI .u8) s0_0), .v (.int .i64 s0_1)])) [.pt 0 0 0, .sl 1 (rX cS l1)] [.ro (.v (.string r1))] [.sl 1 (rX (cI .u8) s0_0), .v (.int .i64 r2)] := by
 refine ctr_of (fn := Tryz.f41) (c := (bodyOf Tryz.f41)) Tryz.func41 rfl (by kernel_rfl) (Nat.le_of_ble_eq_true (by kernel_rfl)) (fun w ro B hF _ => ?_)
 simp only [spec_l13Rd_of.f] at h
 obtain ⟨⟨t134, t135⟩, q1, h⟩ := Option.bind_eq_some_iff.1 h
 dsimp only at h
 have q1c := spec_l13Rd_pick.ctr k _ _ _ _ _ q1
 by_cases c2 : 0 ≤ t134
 · rw [if_pos c2] at h
   by_cases c3 : t134 < (l1.length : Int)
   · rw [if_pos c3] at h
     refine path_ok (k := 5) hF (RetQ_mild _ _ _ _ _ _ _ _) (ds := [.e 8 (.v (.int .i64 (l1.length : Int))), .r [.ro (.v (.int .i64 t134))] [.sl 1 (rX (cI .u8) s0_0), .v (.int .i64 t135)], .e 10 (.rf [.v (.string (rdOf ByteArray.empty l1 t134))])]) (os := []) (c := none) rfl KD ?_
     cases h
     exact ret_as (ms := [.ro]) rfl KD
   · rw [if_neg c3] at h
     cases h
 · rw [if_neg c2] at h
   cases h
def spec_l13Find.l0 : Nat → ByteArray → Int → Int → Option (Int)
  | 0, _, _, _ => none
  | k + 1, x0, x1, x5 => if x5 < (x0.size : Int) then (if 0 ≤ x5 then (if (bt x0 x5) = x1 then (some x5) else (spec_l13Find.l0 k x0 x1 (wrap64 (x5 + 1)))) else (none)) else (some (-1))
def spec_l13Find.f (k : Nat) (a0 : ByteArray) (a1 : Int) : Option (Int) := spec_l13Find.l0 k a0 a1 0
def spec_l13Find.I0 (r : Int) (m : Nat) (σ : St) : Prop := ∃ (x0 : ByteArray) (x1 : Int) (x5 : Int), spec_l13Find.l0 m x0 x1 x5 = some r ∧ σ = ⟨[(0, .v (.string x0)), (1, .v (.int .u8 x1)), (5, .v (.int .i64 x5))], []⟩
structure spec_l13Find.C (k : Nat) : Prop where
 s_l0 : ∀ (r : Int) (w : World) (ro : Nat → Prop) (B : Nat) (_ : Fr TE (cx0 Tryz.f57 none w ro B)) (x0 : ByteArray) (x1 : Int) (x5 : Int) (_ : spec_l13Find.l0 k x0 x1 x5 = some r), Kp (WS TE (cx0 Tryz.f57 none w ro B) (stkAt [1, 0, 1, 0] [] (bodyOf Tryz.f57) []) ⟨[(0, .v (.string x0)), (1, .v (.int .u8 x1)), (5, .v (.int .i64 x5))], []⟩ (RetQ TE Tryz.f57 none [.ro (.v (.int .i64 r))] [] w ro B))
set_option maxRecDepth 100000 in
set_option maxHeartbeats 4000000 in
theorem spec_l13Find.c_l0 (k : Nat) (ih : Kp (∀ m, m < k → spec_l13Find.C m)) (r : Int) (w : World) (ro : Nat → Prop) (B : Nat) (hF : Fr TE (cx0 Tryz.f57 none w ro B)) (x0 : ByteArray) (x1 : Int) (x5 : Int) (h : spec_l13Find.l0 k x0 x1 x5 = some r) : Kp (WS TE (cx0 Tryz.f57 none w ro B) (stkAt [1, 0, 1, 0] [] (bodyOf Tryz.f57) []) ⟨[(0, .v (.string x0)), (1, .v (.int .u8 x1)), (5, .v (.int .i64 x5))], []⟩ (RetQ TE Tryz.f57 none [.ro (.v (.int .i64 r))] [] w ro B)) := by
 refine ⟨WS.loop (fun m σ => m ≤ k ∧ spec_l13Find.I0 r m σ) k ⟨Nat.le_refl k, x0, x1, x5, h, rfl⟩ (fun m σ' hI J0 hJ0 => ?_)⟩
 clear h
 obtain ⟨hk, x0, x1, x5, h, rfl⟩ := hI
 cases m with
 | zero => simp [spec_l13Find.l0] at h
 | succ k' =>
 simp only [spec_l13Find.l0] at h
 by_cases c1 : x5 < (x0.size : Int)
 · rw [if_pos c1] at h
   by_cases c2 : 0 ≤ x5
   · rw [if_pos c2] at h
     by_cases c3 : (bt x0 x5) = x1
     · rw [if_pos c3] at h
       have hb3 := bt_range x0 x5
       refine path_ok (k := 13) hF (RetQ_mild _ _ _ _ _ _ _ _) (ds := [.b true, .b true]) (os := []) (c := none) rfl KD ?_
       cases h
       exact ret_as (ms := [.ro]) rfl KD
     · rw [if_neg c3] at h
       have hb4 := bt_range x0 x5
       refine path_ok (k := 13) hF (RetQ_mild _ _ _ _ _ _ _ _) (ds := [.b true, .b false]) (os := []) (c := none) rfl KD ?_
       exact WS.lpc [] (hJ0 _ _ (Nat.lt_succ_self _) ⟨by omega, x0, x1, (wrap64 (x5 + 1)), h, rfl⟩) KD
   · rw [if_neg c2] at h
     cases h
 · rw [if_neg c1] at h
   refine path_ok (k := 8) hF (RetQ_mild _ _ _ _ _ _ _ _) (ds := [.b false]) (os := []) (c := none) rfl KD ?_
   cases h
   exact ret_as (ms := [.ro]) rfl KD
theorem spec_l13Find.cs (k : Nat) : spec_l13Find.C k := by
 induction k using Nat.strongRecOn with
 | _ k ih0 =>
 have ih : Kp (∀ m, m < k → spec_l13Find.C m) := ⟨ih0⟩
 exact ⟨spec_l13Find.c_l0 k ih⟩
set_option maxRecDepth 100000 in
set_option maxHeartbeats 4000000 in
theorem spec_l13Find.ctr (k : Nat) (a0 : ByteArray) (a1 : Int) (r : Int) (h : spec_l13Find.f k a0 a1 = some r) : Ctr TE 57 none [.v (.string a0), .v (.int .u8 a1)] [.ro (.v (.int .i64 r))] [] := by
 refine ctr_of (fn := Tryz.f57) (c := (bodyOf Tryz.f57)) Tryz.func57 rfl (by kernel_rfl) (Nat.le_of_ble_eq_true (by kernel_rfl)) (fun w ro B hF _ => ?_)
 have ih : Kp (∀ m, m < k + 1 → spec_l13Find.C m) := ⟨fun m _ => spec_l13Find.cs m⟩
 simp only [spec_l13Find.f] at h
 refine path_ok (k := 6) hF (RetQ_mild _ _ _ _ _ _ _ _) (ds := []) (os := []) (c := none) rfl KD ?_
 exact WS.can [] (((ih.out k (by omega)).s_l0  r w ro B hF a0 a1 0 h).out) KD
mutual
def spec_DrawApplySign.j0 : Nat → ByteArray → Int → List ByteArray → Bool → List Int → Int → Option (ByteArray × List ByteArray × Int)
  | 0, _, _, _, _, _, _ => none
  | k + 1, x6, x7, x8, x32, x140000, x140001 => if x32 = true then ((spec_l13Rd_num.f k x140000 x140001 (([0, 0, 0, 0, 1] : List Int))).bind fun bt161 => ((spec_l1Draw.f k x140000 bt161.2 bt161.1).bind fun bt163 => (if x8.length < 8796093022208 then (spec_DrawApplySign.j1 k x6 x7 (x8 ++ [bt163.1]) x140000 bt163.2) else (none)))) else (spec_DrawApplySign.j1 k x6 x7 x8 x140000 x140001)
def spec_DrawApplySign.j1 : Nat → ByteArray → Int → List ByteArray → List Int → Int → Option (ByteArray × List ByteArray × Int)
  | 0, _, _, _, _, _ => none
  | k + 1, x6, x7, x8, x140000, x140001 => (spec_l13Rd_pick.f k x140000 x140001 20).bind fun bt168 => (if bt168.1 = 0 then ((spec_l13Rd_pick.f k x140000 bt168.2 2).bind fun bt170 => (if 0 ≤ bt170.1 then (if bt170.1 ≤ (x8.length : Int) then (some (x6, (x8.take (bt170.1 : Int).toNat), x7)) else (none)) else (none))) else (some (x6, x8, x7)))
end
def spec_DrawApplySign.f (k : Nat) (l0 : List Int) : Option (ByteArray × List ByteArray × Int) := (spec_l13Open.f l0).bind fun bt137 => ((spec_l13Rd_of.f k bt137.1 bt137.2 (([(⟨#[83]⟩ : ByteArray), (⟨#[77]⟩ : ByteArray), (⟨#[73]⟩ : ByteArray), (⟨#[78]⟩ : ByteArray), (⟨#[82]⟩ : ByteArray), (⟨#[67]⟩ : ByteArray), (⟨#[80]⟩ : ByteArray), (⟨#[43]⟩ : ByteArray), (⟨#[42]⟩ : ByteArray), (⟨#[94]⟩ : ByteArray), (⟨#[45]⟩ : ByteArray), (⟨#[61]⟩ : ByteArray), (⟨#[60]⟩ : ByteArray), (⟨#[64]⟩ : ByteArray), (⟨#[91]⟩ : ByteArray), (⟨#[]⟩ : ByteArray), (⟨#[113]⟩ : ByteArray)] : List ByteArray))).bind fun bt143 => ((spec_l13Rd_num.f k bt137.1 bt143.2 (([1, 0, 2, 1, 3, 0, 4, (-1)] : List Int))).bind fun bt148 => ((spec_l1Draw.f k bt137.1 bt148.2 (mx (mn bt148.1 2) 0)).bind fun bt150 => ((some (([bt150.1] : List ByteArray) : List ByteArray)).bind fun y152 => (if bt143.1.size + 1 ≤ 9223372036854775807 then (if 0 < ((bt143.1.size : Int) + 1) then ((spec_l13Find.f k (⟨#[43, 42, 94, 45, 61, 60, 64]⟩ : ByteArray) (bt (bt143.1 ++ (⟨#[83]⟩ : ByteArray)) 0)).bind fun t155 => (if t155 ≥ 0 then (spec_DrawApplySign.j0 k bt143.1 bt148.1 y152 true bt137.1 bt150.2) else ((spec_l13Rd_pick.f k bt137.1 bt150.2 12).bind fun bt156 => (spec_DrawApplySign.j0 k bt143.1 bt148.1 y152 (bt156.1 == 0) bt137.1 bt156.2)))) else (none)) else (none))))))
structure spec_DrawApplySign.C (k : Nat) : Prop where
 s_j0 : ∀ (r1 : ByteArray) (r2 : List ByteArray) (r3 : Int) (w : World) (ro : Nat → Prop) (B : Nat) (_ : Fr TE (cx0 Tryz.f18 none w ro B)) (x6 : ByteArray) (x7 : Int) (x8 : List ByteArray) (x32 : Bool) (x140000 : List Int) (x140001 : Int) (_ : spec_DrawApplySign.j0 k x6 x7 x8 x32 x140000 x140001 = some (r1, r2, r3)), Kp (WS TE (cx0 Tryz.f18 none w ro B) (stkAt [1, 1, 1, 1, 1, 0, 0, 9] [] (bodyOf Tryz.f18) []) ⟨[(5, .pt 1005 0 0), (6, .v (.string x6)), (7, .v (.int .i64 x7)), (8, .ow 1008 0), (32, .v (.bool x32))], [(1005, .box 0 112 false [.sl 1 (rX (cI .u8) x140000), .v (.int .i64 x140001)]), (1008, .own 0 9 1 (rX cS x8))]⟩ (RetQ TE Tryz.f18 none [.ro (.v (.string r1)), .ro (.sl 1 (rX cS r2)), .ro (.v (.int .i64 r3))] [] w ro B))
 s_j1 : ∀ (r1 : ByteArray) (r2 : List ByteArray) (r3 : Int) (w : World) (ro : Nat → Prop) (B : Nat) (_ : Fr TE (cx0 Tryz.f18 none w ro B)) (x6 : ByteArray) (x7 : Int) (x8 : List ByteArray) (x140000 : List Int) (x140001 : Int) (_ : spec_DrawApplySign.j1 k x6 x7 x8 x140000 x140001 = some (r1, r2, r3)), Kp (WS TE (cx0 Tryz.f18 none w ro B) (stkAt [1, 1, 1, 1, 1, 0, 1, 9] [] (bodyOf Tryz.f18) []) ⟨[(5, .pt 1005 0 0), (6, .v (.string x6)), (7, .v (.int .i64 x7)), (8, .sl 1 (rX cS x8))], [(1005, .box 0 112 false [.sl 1 (rX (cI .u8) x140000), .v (.int .i64 x140001)])]⟩ (RetQ TE Tryz.f18 none [.ro (.v (.string r1)), .ro (.sl 1 (rX cS r2)), .ro (.v (.int .i64 r3))] [] w ro B))
set_option maxRecDepth 100000 in
set_option maxHeartbeats 4000000 in
theorem spec_DrawApplySign.c_j0 (k : Nat) (ih : Kp (∀ m, m < k → spec_DrawApplySign.C m)) (r1 : ByteArray) (r2 : List ByteArray) (r3 : Int) (w : World) (ro : Nat → Prop) (B : Nat) (hF : Fr TE (cx0 Tryz.f18 none w ro B)) (x6 : ByteArray) (x7 : Int) (x8 : List ByteArray) (x32 : Bool) (x140000 : List Int) (x140001 : Int) (h : spec_DrawApplySign.j0 k x6 x7 x8 x32 x140000 x140001 = some (r1, r2, r3)) : Kp (WS TE (cx0 Tryz.f18 none w ro B) (stkAt [1, 1, 1, 1, 1, 0, 0, 9] [] (bodyOf Tryz.f18) []) ⟨[(5, .pt 1005 0 0), (6, .v (.string x6)), (7, .v (.int .i64 x7)), (8, .ow 1008 0), (32, .v (.bool x32))], [(1005, .box 0 112 false [.sl 1 (rX (cI .u8) x140000), .v (.int .i64 x140001)]), (1008, .own 0 9 1 (rX cS x8))]⟩ (RetQ TE Tryz.f18 none [.ro (.v (.string r1)), .ro (.sl 1 (rX cS r2)), .ro (.v (.int .i64 r3))] [] w ro B)) := by
 refine ⟨?_⟩
 cases k with
 | zero => simp [spec_DrawApplySign.j0] at h
 | succ k =>
 simp only [spec_DrawApplySign.j0] at h
 by_cases c12 : x32 = true
 · rw [if_pos c12] at h
   obtain ⟨⟨t161, t162⟩, q13, h⟩ := Option.bind_eq_some_iff.1 h
   dsimp only at h
   have q13c := spec_l13Rd_num.ctr k _ _ _ _ _ q13
   obtain ⟨⟨t163, t164⟩, q14, h⟩ := Option.bind_eq_some_iff.1 h
   dsimp only at h
   have q14c := spec_l1Draw.ctr k _ _ _ _ _ q14
   by_cases c15 : x8.length < 8796093022208
   · rw [if_pos c15] at h
     refine path_ok (k := 2) hF (RetQ_mild _ _ _ _ _ _ _ _) (ds := [.b true, .p 36 ([[.v (.int .i64 0)], [.v (.int .i64 0)], [.v (.int .i64 0)], [.v (.int .i64 0)], [.v (.int .i64 1)]]), .r [.ro (.v (.int .i64 t161))] [.sl 1 (rX (cI .u8) x140000), .v (.int .i64 t162)], .r [.ro (.v (.string t163))] [.sl 1 (rX (cI .u8) x140000), .v (.int .i64 t164)], .p 39 ([[.v (.string t163)]]), .o 40 (rX cS (x8 ++ [t163]))]) (os := []) (c := none) rfl KD ?_
     refine WS.freeze 1008 ?_ rfl
     exact WS.can [(1005, some 1005)] (((ih.out k (by omega)).s_j1  r1 r2 r3 w ro B hF x6 x7 (x8 ++ [t163]) x140000 t164 h).out) KD
   · rw [if_neg c15] at h
     cases h
 · rw [if_neg c12] at h
   refine path_ok (k := 2) hF (RetQ_mild _ _ _ _ _ _ _ _) (ds := [.b false]) (os := []) (c := none) rfl KD ?_
   refine WS.freeze 1008 ?_ rfl
   exact WS.can [(1005, some 1005)] (((ih.out k (by omega)).s_j1  r1 r2 r3 w ro B hF x6 x7 x8 x140000 x140001 h).out) KD
set_option maxRecDepth 100000 in
set_option maxHeartbeats 4000000 in
theorem spec_DrawApplySign.c_j1 (k : Nat) (ih : Kp (∀ m, m < k → spec_DrawApplySign.C m)) (r1 : ByteArray) (r2 : List ByteArray) (r3 : Int) (w : World) (ro : Nat → Prop) (B : Nat) (hF : Fr TE (cx0 Tryz.f18 none w ro B)) (x6 : ByteArray) (x7 : Int) (x8 : List ByteArray) (x140000 : List Int) (x140001 : Int) (h : spec_DrawApplySign.j1 k x6 x7 x8 x140000 x140001 = some (r1, r2, r3)) : Kp (WS TE (cx0 Tryz.f18 none w ro B) (stkAt [1, 1, 1, 1, 1, 0, 1, 9] [] (bodyOf Tryz.f18) []) ⟨[(5, .pt 1005 0 0), (6, .v (.string x6)), (7, .v (.int .i64 x7)), (8, .sl 1 (rX cS x8))], [(1005, .box 0 112 false [.sl 1 (rX (cI .u8) x140000), .v (.int .i64 x140001)])]⟩ (RetQ TE Tryz.f18 none [.ro (.v (.string r1)), .ro (.sl 1 (rX cS r2)), .ro (.v (.int .i64 r3))] [] w ro B)) := by
 refine ⟨?_⟩
 cases k with
 | zero => simp [spec_DrawApplySign.j1] at h
 | succ k =>
 simp only [spec_DrawApplySign.j1] at h
 obtain ⟨⟨t168, t169⟩, q16, h⟩ := Option.bind_eq_some_iff.1 h
 dsimp only at h
 have q16c := spec_l13Rd_pick.ctr k _ _ _ _ _ q16
 by_cases c17 : t168 = 0
 · rw [if_pos c17] at h
   obtain ⟨⟨t170, t171⟩, q18, h⟩ := Option.bind_eq_some_iff.1 h
   dsimp only at h
   have q18c := spec_l13Rd_pick.ctr k _ _ _ _ _ q18
   by_cases c19 : 0 ≤ t170
   · rw [if_pos c19] at h
     by_cases c20 : t170 ≤ (x8.length : Int)
     · rw [if_pos c20] at h
       refine path_ok (k := 8) hF (RetQ_mild _ _ _ _ _ _ _ _) (ds := [.r [.ro (.v (.int .i64 t168))] [.sl 1 (rX (cI .u8) x140000), .v (.int .i64 t169)], .b true, .r [.ro (.v (.int .i64 t170))] [.sl 1 (rX (cI .u8) x140000), .v (.int .i64 t171)], .e 47 (.sl 1 (rX cS (x8.take (t170 : Int).toNat)))]) (os := []) (c := none) rfl KD ?_
       cases h
       exact ret_as (ms := [.ro, .ro, .ro]) rfl KD
     · rw [if_neg c20] at h
       cases h
   · rw [if_neg c19] at h
     cases h
 · rw [if_neg c17] at h
   refine path_ok (k := 8) hF (RetQ_mild _ _ _ _ _ _ _ _) (ds := [.r [.ro (.v (.int .i64 t168))] [.sl 1 (rX (cI .u8) x140000), .v (.int .i64 t169)], .b false]) (os := []) (c := none) rfl KD ?_
   cases h
   exact ret_as (ms := [.ro, .ro, .ro]) rfl KD
theorem spec_DrawApplySign.cs (k : Nat) : spec_DrawApplySign.C k := by
 induction k using Nat.strongRecOn with
 | _ k ih0 =>
 have ih : Kp (∀ m, m < k → spec_DrawApplySign.C m) := ⟨ih0⟩
 exact ⟨spec_DrawApplySign.c_j0 k ih, spec_DrawApplySign.c_j1 k ih⟩
set_option maxRecDepth 100000 in
set_option maxHeartbeats 4000000 in
theorem spec_DrawApplySign.ctr (k : Nat) (l0 : List Int) (r1 : ByteArray) (r2 : List ByteArray) (r3 : Int) (h : spec_DrawApplySign.f k l0 = some (r1, r2, r3)) : Ctr TE 18 none [.sl 1 (rX (cI .u8) l0)] [.ro (.v (.string r1)), .ro (.sl 1 (rX cS r2)), .ro (.v (.int .i64 r3))] [] := by
 refine ctr_of (fn := Tryz.f18) (c := (bodyOf Tryz.f18)) Tryz.func18 rfl (by kernel_rfl) (Nat.le_of_ble_eq_true (by kernel_rfl)) (fun w ro B hF _ => ?_)
 have ih : Kp (∀ m, m < k + 1 → spec_DrawApplySign.C m) := ⟨fun m _ => spec_DrawApplySign.cs m⟩
 simp only [spec_DrawApplySign.f] at h
 obtain ⟨⟨t137, t138⟩, q1, h⟩ := Option.bind_eq_some_iff.1 h
 dsimp only at h
 have q1c := spec_l13Open.ctr _ _ _ q1
 obtain ⟨⟨t143, t144⟩, q2, h⟩ := Option.bind_eq_some_iff.1 h
 dsimp only at h
 have q2c := spec_l13Rd_of.ctr k _ _ _ _ _ q2
 obtain ⟨⟨t148, t149⟩, q3, h⟩ := Option.bind_eq_some_iff.1 h
 dsimp only at h
 have q3c := spec_l13Rd_num.ctr k _ _ _ _ _ q3
 obtain ⟨⟨t150, t151⟩, q4, h⟩ := Option.bind_eq_some_iff.1 h
 dsimp only at h
 have q4c := spec_l1Draw.ctr k _ _ _ _ _ q4
 obtain ⟨y152, hy152, h⟩ := Option.bind_eq_some_iff.1 h
 cases hy152
 by_cases c5 : t143.size + 1 ≤ 9223372036854775807
 · rw [if_pos c5] at h
   by_cases c6 : 0 < ((t143.size : Int) + 1)
   · rw [if_pos c6] at h
     obtain ⟨t155, q7, h⟩ := Option.bind_eq_some_iff.1 h
     have q7c := spec_l13Find.ctr k _ _ _ q7
     by_cases c8 : t155 ≥ 0
     · rw [if_pos c8] at h
       have hb8 := bt_range (t143 ++ (⟨#[83]⟩ : ByteArray)) 0
       refine path_ok (k := 13) hF (RetQ_mild _ _ _ _ _ _ _ _) (ds := [.r [.nb 112 [.sl 1 (rX (cI .u8) t137), .v (.int .i64 t138)]] [], .p 12 ([[.v (.string (⟨#[83]⟩ : ByteArray))], [.v (.string (⟨#[77]⟩ : ByteArray))], [.v (.string (⟨#[73]⟩ : ByteArray))], [.v (.string (⟨#[78]⟩ : ByteArray))], [.v (.string (⟨#[82]⟩ : ByteArray))], [.v (.string (⟨#[67]⟩ : ByteArray))], [.v (.string (⟨#[80]⟩ : ByteArray))], [.v (.string (⟨#[43]⟩ : ByteArray))], [.v (.string (⟨#[42]⟩ : ByteArray))], [.v (.string (⟨#[94]⟩ : ByteArray))], [.v (.string (⟨#[45]⟩ : ByteArray))], [.v (.string (⟨#[61]⟩ : ByteArray))], [.v (.string (⟨#[60]⟩ : ByteArray))], [.v (.string (⟨#[64]⟩ : ByteArray))], [.v (.string (⟨#[91]⟩ : ByteArray))], [.v (.string (⟨#[]⟩ : ByteArray))], [.v (.string (⟨#[113]⟩ : ByteArray))]]), .r [.ro (.v (.string t143))] [.sl 1 (rX (cI .u8) t137), .v (.int .i64 t144)], .p 15 ([[.v (.int .i64 1)], [.v (.int .i64 0)], [.v (.int .i64 2)], [.v (.int .i64 1)], [.v (.int .i64 3)], [.v (.int .i64 0)], [.v (.int .i64 4)], [.v (.int .i64 (-1))]]), .r [.ro (.v (.int .i64 t148))] [.sl 1 (rX (cI .u8) t137), .v (.int .i64 t149)], .r [.ro (.v (.string t150))] [.sl 1 (rX (cI .u8) t137), .v (.int .i64 t151)], .p 22 ([[.v (.string t150)]]), .r [.ro (.v (.int .i64 t155))] [], .b true, .b true, .b true, .b true]) (os := []) (c := none) rfl KD ?_
       exact WS.can [(1005, some 100160), (1008, some 22)] (((ih.out k (by omega)).s_j0  r1 r2 r3 w ro B hF t143 t148 (([t150] : List ByteArray)) true t137 t151 h).out) KD
     · rw [if_neg c8] at h
       obtain ⟨⟨t156, t157⟩, q10, h⟩ := Option.bind_eq_some_iff.1 h
       dsimp only at h
       have q10c := spec_l13Rd_pick.ctr k _ _ _ _ _ q10
       have hb10 := bt_range (t143 ++ (⟨#[83]⟩ : ByteArray)) 0
       refine path_ok (k := 13) hF (RetQ_mild _ _ _ _ _ _ _ _) (ds := [.r [.nb 112 [.sl 1 (rX (cI .u8) t137), .v (.int .i64 t138)]] [], .p 12 ([[.v (.string (⟨#[83]⟩ : ByteArray))], [.v (.string (⟨#[77]⟩ : ByteArray))], [.v (.string (⟨#[73]⟩ : ByteArray))], [.v (.string (⟨#[78]⟩ : ByteArray))], [.v (.string (⟨#[82]⟩ : ByteArray))], [.v (.string (⟨#[67]⟩ : ByteArray))], [.v (.string (⟨#[80]⟩ : ByteArray))], [.v (.string (⟨#[43]⟩ : ByteArray))], [.v (.string (⟨#[42]⟩ : ByteArray))], [.v (.string (⟨#[94]⟩ : ByteArray))], [.v (.string (⟨#[45]⟩ : ByteArray))], [.v (.string (⟨#[61]⟩ : ByteArray))], [.v (.string (⟨#[60]⟩ : ByteArray))], [.v (.string (⟨#[64]⟩ : ByteArray))], [.v (.string (⟨#[91]⟩ : ByteArray))], [.v (.string (⟨#[]⟩ : ByteArray))], [.v (.string (⟨#[113]⟩ : ByteArray))]]), .r [.ro (.v (.string t143))] [.sl 1 (rX (cI .u8) t137), .v (.int .i64 t144)], .p 15 ([[.v (.int .i64 1)], [.v (.int .i64 0)], [.v (.int .i64 2)], [.v (.int .i64 1)], [.v (.int .i64 3)], [.v (.int .i64 0)], [.v (.int .i64 4)], [.v (.int .i64 (-1))]]), .r [.ro (.v (.int .i64 t148))] [.sl 1 (rX (cI .u8) t137), .v (.int .i64 t149)], .r [.ro (.v (.string t150))] [.sl 1 (rX (cI .u8) t137), .v (.int .i64 t151)], .p 22 ([[.v (.string t150)]]), .r [.ro (.v (.int .i64 t155))] [], .b false, .b false, .r [.ro (.v (.int .i64 t156))] [.sl 1 (rX (cI .u8) t137), .v (.int .i64 t157)], .b false, .b false]) (os := []) (c := none) rfl KD ?_
       exact WS.can [(1005, some 100160), (1008, some 22)] (((ih.out k (by omega)).s_j0  r1 r2 r3 w ro B hF t143 t148 (([t150] : List ByteArray)) (t156 == 0) t137 t157 h).out) KD
   · rw [if_neg c6] at h
     cases h
 · rw [if_neg c5] at h
   cases h
end Go.Proofs.YtoloblgjlnhioaaGreatDoor.I
