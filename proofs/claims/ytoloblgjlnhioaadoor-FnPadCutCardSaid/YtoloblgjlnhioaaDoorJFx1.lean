/- A part of the claim. -/
import Derived.Test.YtoloblgjlnhioaaDoorJFx0
-- PRINTED by print.py (a twelfth state) out of the translation. Not trusted: Lean checks it.
namespace Go.Proofs.YtoloblgjlnhioaaDoor.J
open Go.RowKit Go.Proofs.YtoloblgjlnhioaaDoorW.St Go.Proofs.YtoloblgjlnhioaaDoorW.PrintWords Go.Proofs.YtoloblgjlnhioaaDoorW.PrintLast Go.Proofs.YtoloblgjlnhioaaDoorW.PrintMore
attribute [local go_sem] max2_int min2_int max_two min_two max_three min_three max_four min_four   -- for this text's walks alone
set_option linter.unusedVariables false
set_option linter.unusedSimpArgs false
def spec_l13Open.f (l0 : List Int) : Option (List Int × Int) := if (l0.length : Int) > 2000 then (if 2000 ≤ (l0.length : Int) then (some (l0.take 2000, 0)) else (none)) else (some (l0, 0))
set_option maxRecDepth 100000 in
set_option maxHeartbeats 4000000 in
theorem spec_l13Open.ctr (l0 : List Int) (r1 : List Int) (r2 : Int) (h : spec_l13Open.f l0 = some (r1, r2)) : Ctr TE 44 none [.sl 1 (rX (cI .u8) l0)] [.nb 107 [.sl 1 (rX (cI .u8) r1), .v (.int .i64 r2)]] [] := by
 refine ctr_of (fn := Tryd.f44) (c := (bodyOf Tryd.f44)) Tryd.func44 rfl (by kernel_rfl) (Nat.le_of_ble_eq_true (by kernel_rfl)) (fun w ro B hF _ => ?_)
 simp only [spec_l13Open.f] at h
 by_cases c1 : (l0.length : Int) > 2000
 · rw [if_pos c1] at h
   by_cases c2 : 2000 ≤ (l0.length : Int)
   · rw [if_pos c2] at h
     refine path_ok (k := 10) hF (RetQ_mild _ _ _ _ _ _ _ _) (ds := [.e 4 (.v (.int .i64 (l0.length : Int))), .b true, .e 7 (.sl 1 (rX (cI .u8) (l0.take 2000)))]) (os := []) (c := none) rfl KD ?_
     cases h
     exact ret_as (ms := [.nb]) rfl KD
   · rw [if_neg c2] at h
     cases h
 · rw [if_neg c1] at h
   refine path_ok (k := 10) hF (RetQ_mild _ _ _ _ _ _ _ _) (ds := [.e 4 (.v (.int .i64 (l0.length : Int))), .b false]) (os := []) (c := none) rfl KD ?_
   cases h
   exact ret_as (ms := [.nb]) rfl KD
def spec_l13Rd_pick.j0 : Nat → Int → Bool → List Int → Int → Option (Int × Int)
  | 0, _, _, _, _ => none
  | k + 1, x1, x24, x1000, x1001 => if x24 = true then (some (0, x1001)) else (if (wrap64 (x1001 - 1)) < (x1000.length : Int) then (if 0 ≤ (wrap64 (x1001 - 1)) then (if x1 = 0 then (none) else (some (Int.tmod (wrap64 (rd x1000 (wrap64 (x1001 - 1)))) x1, x1001))) else (none)) else (if (x1000.length : Int) = 0 then (none) else (if 0 ≤ (Int.tmod (wrap64 (x1001 - 1)) (x1000.length : Int)) then (if (Int.tmod (wrap64 (x1001 - 1)) (x1000.length : Int)) < (x1000.length : Int) then (if 0 ≤ (Int.tmod (wrap64 ((wrap64 ((wrap64 (x1001 - 1)) * 7)) + 3)) (x1000.length : Int)) then (if (Int.tmod (wrap64 ((wrap64 ((wrap64 (x1001 - 1)) * 7)) + 3)) (x1000.length : Int)) < (x1000.length : Int) then (if x1 = 0 then (none) else (some (Int.tmod (Go.bits .xor .i64 (wrap64 ((wrap64 ((wrap64 ((wrap64 ((wrap64 (rd x1000 (Int.tmod (wrap64 (x1001 - 1)) (x1000.length : Int)))) * 131)) + (wrap64 ((wrap64 (rd x1000 (Int.tmod (wrap64 ((wrap64 ((wrap64 (x1001 - 1)) * 7)) + 3)) (x1000.length : Int)))) * 1117)))) + (wrap64 ((wrap64 (x1001 - 1)) * 29)))) + (wrap64 ((wrap64 (Int.tdiv (wrap64 (x1001 - 1)) (x1000.length : Int))) * 53)))) (wrap64 (Int.tdiv (wrap64 ((wrap64 ((wrap64 ((wrap64 ((wrap64 (rd x1000 (Int.tmod (wrap64 (x1001 - 1)) (x1000.length : Int)))) * 131)) + (wrap64 ((wrap64 (rd x1000 (Int.tmod (wrap64 ((wrap64 ((wrap64 (x1001 - 1)) * 7)) + 3)) (x1000.length : Int)))) * 1117)))) + (wrap64 ((wrap64 (x1001 - 1)) * 29)))) + (wrap64 ((wrap64 (Int.tdiv (wrap64 (x1001 - 1)) (x1000.length : Int))) * 53)))) 64))) x1, x1001))) else (none)) else (none)) else (none)) else (none))))
def spec_l13Rd_pick.f (k : Nat) (s0_0 : List Int) (s0_1 : Int) (a1 : Int) : Option (Int × Int) := if a1 < 1 then (spec_l13Rd_pick.j0 k a1 true s0_0 (wrap64 (s0_1 + 1))) else (spec_l13Rd_pick.j0 k a1 ((s0_0.length : Int) == 0) s0_0 (wrap64 (s0_1 + 1)))
structure spec_l13Rd_pick.C (k : Nat) : Prop where
 s_j0 : ∀ (s0_0 : List Int) (s0_1 : Int) (r1 : Int) (r2 : Int) (w : World) (ro : Nat → Prop) (B : Nat) (_ : Fr TE (cx0 Tryd.f45 (some (107, [.sl 1 (rX (cI .u8) s0_0), .v (.int .i64 s0_1)])) w ro B)) (x1 : Int) (x24 : Bool) (x1001 : Int) (_ : spec_l13Rd_pick.j0 k x1 x24 s0_0 x1001 = some (r1, r2)), Kp (WS TE (cx0 Tryd.f45 (some (107, [.sl 1 (rX (cI .u8) s0_0), .v (.int .i64 s0_1)])) w ro B) (stkAt [1, 1, 0, 0, 9] [] (bodyOf Tryd.f45) []) ⟨[(0, .pt 0 0 0), (1, .v (.int .i64 x1)), (24, .v (.bool x24))], [(0, .box 0 107 true [.sl 1 (rX (cI .u8) s0_0), .v (.int .i64 x1001)])]⟩ (RetQ TE Tryd.f45 (some (107, [.sl 1 (rX (cI .u8) s0_0), .v (.int .i64 s0_1)])) [.ro (.v (.int .i64 r1))] [.sl 1 (rX (cI .u8) s0_0), .v (.int .i64 r2)] w ro B))
set_option maxRecDepth 100000 in
set_option maxHeartbeats 4000000 in
theorem spec_l13Rd_pick.c_j0 (k : Nat) (ih : Kp (∀ m, m < k → spec_l13Rd_pick.C m)) (s0_0 : List Int) (s0_1 : Int) (r1 : Int) (r2 : Int) (w : World) (ro : Nat → Prop) (B : Nat) (hF : Fr TE (cx0 Tryd.f45 (some (107, [.sl 1 (rX (cI .u8) s0_0), .v (.int .i64 s0_1)])) w ro B)) (x1 : Int) (x24 : Bool) (x1001 : Int) (h : spec_l13Rd_pick.j0 k x1 x24 s0_0 x1001 = some (r1, r2)) : Kp (WS TE (cx0 Tryd.f45 (some (107, [.sl 1 (rX (cI .u8) s0_0), .v (.int .i64 s0_1)])) w ro B) (stkAt [1, 1, 0, 0, 9] [] (bodyOf Tryd.f45) []) ⟨[(0, .pt 0 0 0), (1, .v (.int .i64 x1)), (24, .v (.bool x24))], [(0, .box 0 107 true [.sl 1 (rX (cI .u8) s0_0), .v (.int .i64 x1001)])]⟩ (RetQ TE Tryd.f45 (some (107, [.sl 1 (rX (cI .u8) s0_0), .v (.int .i64 s0_1)])) [.ro (.v (.int .i64 r1))] [.sl 1 (rX (cI .u8) s0_0), .v (.int .i64 r2)] w ro B)) := by
 refine ⟨?_⟩
 cases k with
 | zero => simp [spec_l13Rd_pick.j0] at h
 | succ k =>
 simp only [spec_l13Rd_pick.j0] at h
 by_cases c2 : x24 = true
 · rw [if_pos c2] at h
   refine path_ok (k := 4) hF (RetQ_mild _ _ _ _ _ _ _ _) (ds := [.b true]) (os := []) (c := none) rfl KD ?_
   cases h
   exact ret_as (ms := [.ro]) rfl KD
 · rw [if_neg c2] at h
   by_cases c3 : (wrap64 (x1001 - 1)) < (s0_0.length : Int)
   · rw [if_pos c3] at h
     by_cases c4 : 0 ≤ (wrap64 (x1001 - 1))
     · rw [if_pos c4] at h
       by_cases c5 : x1 = 0
       · rw [if_pos c5] at h
         cases h
       · rw [if_neg c5] at h
         refine path_ok (k := 11) hF (RetQ_mild _ _ _ _ _ _ _ _) (ds := [.b false, .e 35 (.v (.int .i64 (s0_0.length : Int))), .b true, .e 42 (.rf [.v (.int .u8 (rd s0_0 (wrap64 (x1001 - 1))))]), .e 44 (.v (.int .i64 (wrap64 (rd s0_0 (wrap64 (x1001 - 1)))))), .e 46 (.v (.int .i64 (Int.tmod (wrap64 (rd s0_0 (wrap64 (x1001 - 1)))) x1)))]) (os := []) (c := none) rfl KD ?_
         cases h
         exact ret_as (ms := [.ro]) rfl KD
     · rw [if_neg c4] at h
       cases h
   · rw [if_neg c3] at h
     by_cases c6 : (s0_0.length : Int) = 0
     · rw [if_pos c6] at h
       cases h
     · rw [if_neg c6] at h
       by_cases c7 : 0 ≤ (Int.tmod (wrap64 (x1001 - 1)) (s0_0.length : Int))
       · rw [if_pos c7] at h
         by_cases c8 : (Int.tmod (wrap64 (x1001 - 1)) (s0_0.length : Int)) < (s0_0.length : Int)
         · rw [if_pos c8] at h
           by_cases c9 : 0 ≤ (Int.tmod (wrap64 ((wrap64 ((wrap64 (x1001 - 1)) * 7)) + 3)) (s0_0.length : Int))
           · rw [if_pos c9] at h
             by_cases c10 : (Int.tmod (wrap64 ((wrap64 ((wrap64 (x1001 - 1)) * 7)) + 3)) (s0_0.length : Int)) < (s0_0.length : Int)
             · rw [if_pos c10] at h
               by_cases c11 : x1 = 0
               · rw [if_pos c11] at h
                 cases h
               · rw [if_neg c11] at h
                 refine path_ok (k := 16) hF (RetQ_mild _ _ _ _ _ _ _ _) (ds := [.b false, .e 35 (.v (.int .i64 (s0_0.length : Int))), .b false, .e 56 (.v (.int .i64 (s0_0.length : Int))), .e 57 (.v (.int .i64 (Int.tmod (wrap64 (x1001 - 1)) (s0_0.length : Int)))), .e 58 (.rf [.v (.int .u8 (rd s0_0 (Int.tmod (wrap64 (x1001 - 1)) (s0_0.length : Int))))]), .e 60 (.v (.int .i64 (wrap64 (rd s0_0 (Int.tmod (wrap64 (x1001 - 1)) (s0_0.length : Int)))))), .e 73 (.v (.int .i64 (s0_0.length : Int))), .e 74 (.v (.int .i64 (Int.tmod (wrap64 ((wrap64 ((wrap64 (x1001 - 1)) * 7)) + 3)) (s0_0.length : Int)))), .e 75 (.rf [.v (.int .u8 (rd s0_0 (Int.tmod (wrap64 ((wrap64 ((wrap64 (x1001 - 1)) * 7)) + 3)) (s0_0.length : Int))))]), .e 77 (.v (.int .i64 (wrap64 (rd s0_0 (Int.tmod (wrap64 ((wrap64 ((wrap64 (x1001 - 1)) * 7)) + 3)) (s0_0.length : Int)))))), .e 88 (.v (.int .i64 (s0_0.length : Int))), .e 89 (.v (.int .i64 (wrap64 (Int.tdiv (wrap64 (x1001 - 1)) (s0_0.length : Int))))), .e 94 (.v (.int .i64 (wrap64 (Int.tdiv (wrap64 ((wrap64 ((wrap64 ((wrap64 ((wrap64 (rd s0_0 (Int.tmod (wrap64 (x1001 - 1)) (s0_0.length : Int)))) * 131)) + (wrap64 ((wrap64 (rd s0_0 (Int.tmod (wrap64 ((wrap64 ((wrap64 (x1001 - 1)) * 7)) + 3)) (s0_0.length : Int)))) * 1117)))) + (wrap64 ((wrap64 (x1001 - 1)) * 29)))) + (wrap64 ((wrap64 (Int.tdiv (wrap64 (x1001 - 1)) (s0_0.length : Int))) * 53)))) 64)))), .e 98 (.v (.int .i64 (Int.tmod (Go.bits .xor .i64 (wrap64 ((wrap64 ((wrap64 ((wrap64 ((wrap64 (rd s0_0 (Int.tmod (wrap64 (x1001 - 1)) (s0_0.length : Int)))) * 131)) + (wrap64 ((wrap64 (rd s0_0 (Int.tmod (wrap64 ((wrap64 ((wrap64 (x1001 - 1)) * 7)) + 3)) (s0_0.length : Int)))) * 1117)))) + (wrap64 ((wrap64 (x1001 - 1)) * 29)))) + (wrap64 ((wrap64 (Int.tdiv (wrap64 (x1001 - 1)) (s0_0.length : Int))) * 53)))) (wrap64 (Int.tdiv (wrap64 ((wrap64 ((wrap64 ((wrap64 ((wrap64 (rd s0_0 (Int.tmod (wrap64 (x1001 - 1)) (s0_0.length : Int)))) * 131)) + (wrap64 ((wrap64 (rd s0_0 (Int.tmod (wrap64 ((wrap64 ((wrap64 (x1001 - 1)) * 7)) + 3)) (s0_0.length : Int)))) * 1117)))) + (wrap64 ((wrap64 (x1001 - 1)) * 29)))) + (wrap64 ((wrap64 (Int.tdiv (wrap64 (x1001 - 1)) (s0_0.length : Int))) * 53)))) 64))) x1)))]) (os := [.o [(0, 0), (1, 0), (2, 0), (3, 1), (4, 0), (5, 0), (6, 0), (7, 0), (8, 1), (9, 0), (10, 0), (11, 0), (12, 1), (13, 0), (14, 0), (15, 0), (16, 0), (17, 0), (18, 1), (19, 0), (20, 0), (21, 0), (22, 0), (23, 0), (24, 0), (25, 1), (26, 0), (27, 0), (28, 0), (29, 1), (30, 0), (31, 0), (32, 0), (33, 0), (34, 0), (35, 0), (36, 0), (37, 0), (38, 0), (39, 0), (40, 1), (41, 0), (42, 0), (43, 0), (44, 0), (45, 0)] []]) (c := none) rfl KD ?_
                 cases h
                 exact ret_as (ms := [.ro]) rfl KD
             · rw [if_neg c10] at h
               cases h
           · rw [if_neg c9] at h
             cases h
         · rw [if_neg c8] at h
           cases h
       · rw [if_neg c7] at h
         cases h
theorem spec_l13Rd_pick.cs (k : Nat) : spec_l13Rd_pick.C k := by
 induction k using Nat.strongRecOn with
 | _ k ih0 =>
 have ih : Kp (∀ m, m < k → spec_l13Rd_pick.C m) := ⟨ih0⟩
 exact ⟨spec_l13Rd_pick.c_j0 k ih⟩
set_option maxRecDepth 100000 in
set_option maxHeartbeats 4000000 in
theorem spec_l13Rd_pick.ctr (k : Nat) (s0_0 : List Int) (s0_1 : Int) (a1 : Int) (r1 : Int) (r2 : Int) (h : spec_l13Rd_pick.f k s0_0 s0_1 a1 = some (r1, r2)) : Ctr TE 45 (some (107, [.sl 1 (rX (cI .u8) s0_0), .v (.int .i64 s0_1)])) [.pt 0 0 0, .v (.int .i64 a1)] [.ro (.v (.int .i64 r1))] [.sl 1 (rX (cI .u8) s0_0), .v (.int .i64 r2)] := by
 refine ctr_of (fn := Tryd.f45) (c := (bodyOf Tryd.f45)) Tryd.func45 rfl (by kernel_rfl) (Nat.le_of_ble_eq_true (by kernel_rfl)) (fun w ro B hF _ => ?_)
 have ih : Kp (∀ m, m < k + 1 → spec_l13Rd_pick.C m) := ⟨fun m _ => spec_l13Rd_pick.cs m⟩
 simp only [spec_l13Rd_pick.f] at h
 by_cases c1 : a1 < 1
 · rw [if_pos c1] at h
   refine path_ok (k := 7) hF (RetQ_mild _ _ _ _ _ _ _ _) (ds := [.b true, .b true, .b true, .b true, .b true, .b true, .b true]) (os := []) (c := none) rfl KD ?_
   exact WS.can [(0, some 0)] (((ih.out k (by omega)).s_j0 s0_0 s0_1 r1 r2 w ro B hF a1 true (wrap64 (s0_1 + 1)) h).out) KD
 · rw [if_neg c1] at h
   refine path_ok (k := 7) hF (RetQ_mild _ _ _ _ _ _ _ _) (ds := [.b false, .b false, .b false, .b false, .b false, .e 22 (.v (.int .i64 (s0_0.length : Int))), .b false, .b false]) (os := []) (c := none) rfl KD ?_
   exact WS.can [(0, some 0)] (((ih.out k (by omega)).s_j0 s0_0 s0_1 r1 r2 w ro B hF a1 ((s0_0.length : Int) == 0) (wrap64 (s0_1 + 1)) h).out) KD
def spec_l13Rd_num.f (k : Nat) (s0_0 : List Int) (s0_1 : Int) (l1 : List Int) : Option (Int × Int) := (spec_l13Rd_pick.f k s0_0 s0_1 (l1.length : Int)).bind fun bt107 => (if 0 ≤ bt107.1 then (if bt107.1 < (l1.length : Int) then (some (rd l1 bt107.1, bt107.2)) else (none)) else (none))
set_option maxRecDepth 100000 in
set_option maxHeartbeats 4000000 in
theorem spec_l13Rd_num.ctr (k : Nat) (s0_0 : List Int) (s0_1 : Int) (l1 : List Int) (r1 : Int) (r2 : Int) (h : spec_l13Rd_num.f k s0_0 s0_1 l1 = some (r1, r2)) : Ctr TE 62 (some (107, [.sl 1 (rX (cI .u8) s0_0), .v (.int .i64 s0_1)])) [.pt 0 0 0, .sl 1 (rX (cI .i64) l1)] [.ro (.v (.int .i64 r1))] [.sl 1 (rX (cI .u8) s0_0), .v (.int .i64 r2)] := by
 refine ctr_of (fn := Tryd.f62) (c := (bodyOf Tryd.f62)) Tryd.func62 rfl (by kernel_rfl) (Nat.le_of_ble_eq_true (by kernel_rfl)) (fun w ro B hF _ => ?_)
 simp only [spec_l13Rd_num.f] at h
 obtain ⟨⟨t107, t108⟩, q1, h⟩ := Option.bind_eq_some_iff.1 h
 dsimp only at h
 have q1c := spec_l13Rd_pick.ctr k _ _ _ _ _ q1
 by_cases c2 : 0 ≤ t107
 · rw [if_pos c2] at h
   by_cases c3 : t107 < (l1.length : Int)
   · rw [if_pos c3] at h
     refine path_ok (k := 5) hF (RetQ_mild _ _ _ _ _ _ _ _) (ds := [.e 8 (.v (.int .i64 (l1.length : Int))), .r [.ro (.v (.int .i64 t107))] [.sl 1 (rX (cI .u8) s0_0), .v (.int .i64 t108)], .e 10 (.rf [.v (.int .i64 (rd l1 t107))])]) (os := []) (c := none) rfl KD ?_
     cases h
     exact ret_as (ms := [.ro]) rfl KD
   · rw [if_neg c3] at h
     cases h
 · rw [if_neg c2] at h
   cases h
mutual
def spec_l13Dec.l0 : Nat → Int → ByteArray → Option (ByteArray)
  | 0, _, _ => none
  | k + 1, x0, x3 => if x0 > 9 then ((some (([(wrap64 (48 + (Int.tmod x0 10))) % 256] : List Int) : List Int)).bind fun y111 => (if (strOfNums y111).size + x3.size ≤ 9223372036854775807 then (spec_l13Dec.l0 k (wrap64 (Int.tdiv x0 10)) ((strOfNums y111) ++ x3)) else (none))) else ((some (([(wrap64 (48 + x0)) % 256] : List Int) : List Int)).bind fun y114 => (if (strOfNums y114).size + x3.size ≤ 9223372036854775807 then (some ((strOfNums y114) ++ x3)) else (none)))
def spec_l13Dec.f : Nat → Int → Option (ByteArray)
  | 0, _ => none
  | k + 1, a0 => if a0 < (-9223372036854775807) then (some (⟨#[45, 57, 50, 50, 51, 51, 55, 50, 48, 51, 54, 56, 53, 52, 55, 55, 53, 56, 48, 56]⟩ : ByteArray)) else (if a0 < 0 then ((spec_l13Dec.f k (wrap64 (-a0))).bind fun t110 => (if 1 + t110.size ≤ 9223372036854775807 then (some ((⟨#[45]⟩ : ByteArray) ++ t110)) else (none))) else (spec_l13Dec.l0 k a0 (⟨#[]⟩ : ByteArray)))
end
def spec_l13Dec.I0 (r : ByteArray) (m : Nat) (σ : St) : Prop := ∃ (x0 : Int) (x3 : ByteArray), spec_l13Dec.l0 m x0 x3 = some r ∧ σ = ⟨[(0, .v (.int .i64 x0)), (3, .v (.string x3))], []⟩
structure spec_l13Dec.C (k : Nat) : Prop where
 s_f : ∀ (a0 : Int) (r : ByteArray), spec_l13Dec.f k a0 = some r → Ctr TE 88 none [.v (.int .i64 a0)] [.ro (.v (.string r))] []
 s_l0 : ∀ (r : ByteArray) (w : World) (ro : Nat → Prop) (B : Nat) (_ : Fr TE (cx0 Tryd.f88 none w ro B)) (x0 : Int) (x3 : ByteArray) (_ : spec_l13Dec.l0 k x0 x3 = some r), Kp (WS TE (cx0 Tryd.f88 none w ro B) (stkAt [1, 1, 1, 1, 0, 0] [] (bodyOf Tryd.f88) []) ⟨[(0, .v (.int .i64 x0)), (3, .v (.string x3))], []⟩ (RetQ TE Tryd.f88 none [.ro (.v (.string r))] [] w ro B))
set_option maxRecDepth 100000 in
set_option maxHeartbeats 4000000 in
theorem spec_l13Dec.c_f (k : Nat) (ih : Kp (∀ m, m < k → spec_l13Dec.C m)) (a0 : Int) (r : ByteArray) (h : spec_l13Dec.f k a0 = some r) : Ctr TE 88 none [.v (.int .i64 a0)] [.ro (.v (.string r))] [] := by
 cases k with
 | zero => simp [spec_l13Dec.f] at h
 | succ k =>
 simp only [spec_l13Dec.f] at h
 refine ctr_of (fn := Tryd.f88) (c := (bodyOf Tryd.f88)) Tryd.func88 rfl (by kernel_rfl) (Nat.le_of_ble_eq_true (by kernel_rfl)) (fun w ro B hF _ => ?_)
 by_cases c1 : a0 < (-9223372036854775807)
 · rw [if_pos c1] at h
   refine path_ok (k := 9) hF (RetQ_mild _ _ _ _ _ _ _ _) (ds := [.b true]) (os := []) (c := none) rfl KD ?_
   cases h
   exact ret_as (ms := [.ro]) rfl KD
 · rw [if_neg c1] at h
   by_cases c2 : a0 < 0
   · rw [if_pos c2] at h
     obtain ⟨t110, q3, h⟩ := Option.bind_eq_some_iff.1 h
     have q3c := (ih.out k (by omega)).s_f _ _ q3
     by_cases c4 : 1 + t110.size ≤ 9223372036854775807
     · rw [if_pos c4] at h
       refine path_ok (k := 14) hF (RetQ_mild _ _ _ _ _ _ _ _) (ds := [.b false, .b true, .e 9 (.v (.int .i64 (wrap64 (-a0)))), .r [.ro (.v (.string t110))] []]) (os := []) (c := none) rfl KD ?_
       cases h
       exact ret_as (ms := [.ro]) rfl KD
     · rw [if_neg c4] at h
       cases h
   · rw [if_neg c2] at h
     refine path_ok (k := 16) hF (RetQ_mild _ _ _ _ _ _ _ _) (ds := [.b false, .b false]) (os := []) (c := none) rfl KD ?_
     exact WS.can [] (((ih.out k (by omega)).s_l0  r w ro B hF a0 (⟨#[]⟩ : ByteArray) h).out) KD
set_option maxRecDepth 100000 in
set_option maxHeartbeats 4000000 in
theorem spec_l13Dec.c_l0 (k : Nat) (ih : Kp (∀ m, m < k → spec_l13Dec.C m)) (r : ByteArray) (w : World) (ro : Nat → Prop) (B : Nat) (hF : Fr TE (cx0 Tryd.f88 none w ro B)) (x0 : Int) (x3 : ByteArray) (h : spec_l13Dec.l0 k x0 x3 = some r) : Kp (WS TE (cx0 Tryd.f88 none w ro B) (stkAt [1, 1, 1, 1, 0, 0] [] (bodyOf Tryd.f88) []) ⟨[(0, .v (.int .i64 x0)), (3, .v (.string x3))], []⟩ (RetQ TE Tryd.f88 none [.ro (.v (.string r))] [] w ro B)) := by
 refine ⟨WS.loop (fun m σ => m ≤ k ∧ spec_l13Dec.I0 r m σ) k ⟨Nat.le_refl k, x0, x3, h, rfl⟩ (fun m σ' hI J0 hJ0 => ?_)⟩
 clear h
 obtain ⟨hk, x0, x3, h, rfl⟩ := hI
 cases m with
 | zero => simp [spec_l13Dec.l0] at h
 | succ k' =>
 simp only [spec_l13Dec.l0] at h
 by_cases c5 : x0 > 9
 · rw [if_pos c5] at h
   obtain ⟨y111, hy111, h⟩ := Option.bind_eq_some_iff.1 h
   cases hy111
   by_cases c6 : (strOfNums (([(wrap64 (48 + (Int.tmod x0 10))) % 256] : List Int))).size + x3.size ≤ 9223372036854775807
   · rw [if_pos c6] at h
     refine path_ok (k := 10) hF (RetQ_mild _ _ _ _ _ _ _ _) (ds := [.b true, .e 15 (.v (.int .i64 (Int.tmod x0 10))), .e 17 (.v (.int .u8 ((wrap64 (48 + (Int.tmod x0 10))) % 256))), .p 18 ([[.v (.int .u8 ((wrap64 (48 + (Int.tmod x0 10))) % 256))]]), .w (([(wrap64 (48 + (Int.tmod x0 10))) % 256] : List Int)), .e 23 (.v (.int .i64 (wrap64 (Int.tdiv x0 10))))]) (os := []) (c := none) rfl KD ?_
     exact WS.lpc [] (hJ0 _ _ (Nat.lt_succ_self _) ⟨by omega, (wrap64 (Int.tdiv x0 10)), ((strOfNums (([(wrap64 (48 + (Int.tmod x0 10))) % 256] : List Int))) ++ x3), h, rfl⟩) KD
   · rw [if_neg c6] at h
     cases h
 · rw [if_neg c5] at h
   obtain ⟨y114, hy114, h⟩ := Option.bind_eq_some_iff.1 h
   cases hy114
   by_cases c7 : (strOfNums (([(wrap64 (48 + x0)) % 256] : List Int))).size + x3.size ≤ 9223372036854775807
   · rw [if_pos c7] at h
     refine path_ok (k := 8) hF (RetQ_mild _ _ _ _ _ _ _ _) (ds := [.b false, .e 26 (.v (.int .u8 ((wrap64 (48 + x0)) % 256))), .p 27 ([[.v (.int .u8 ((wrap64 (48 + x0)) % 256))]]), .w (([(wrap64 (48 + x0)) % 256] : List Int))]) (os := []) (c := none) rfl KD ?_
     cases h
     exact ret_as (ms := [.ro]) rfl KD
   · rw [if_neg c7] at h
     cases h
theorem spec_l13Dec.cs (k : Nat) : spec_l13Dec.C k := by
 induction k using Nat.strongRecOn with
 | _ k ih0 =>
 have ih : Kp (∀ m, m < k → spec_l13Dec.C m) := ⟨ih0⟩
 exact ⟨spec_l13Dec.c_f k ih, spec_l13Dec.c_l0 k ih⟩
theorem spec_l13Dec.ctr (k : Nat) (a0 : Int) (r : ByteArray) (h : spec_l13Dec.f k a0 = some r) : Ctr TE 88 none [.v (.int .i64 a0)] [.ro (.v (.string r))] [] := (spec_l13Dec.cs k).s_f a0 r h
mutual
def spec_l1Draw.l0 : Nat → Int → ByteArray → Int → Int → List Int → Int → Option (ByteArray × Int)
  | 0, _, _, _, _, _, _ => none
  | k + 1, x1, x5, x17, x18, x1000, x1001 => if x18 < x17 then (if x18 > 0 then (if x5.size + 1 ≤ 9223372036854775807 then ((spec_l1Draw.f k x1000 x1001 (wrap64 (x1 - 1))).bind fun bt130 => (if x5.size + 1 + bt130.1.size ≤ 9223372036854775807 then (spec_l1Draw.l0 k x1 ((x5 ++ (⟨#[44]⟩ : ByteArray)) ++ bt130.1) x17 (wrap64 (x18 + 1)) x1000 bt130.2) else (none))) else (none)) else ((spec_l1Draw.f k x1000 x1001 (wrap64 (x1 - 1))).bind fun bt132 => (if x5.size + bt132.1.size ≤ 9223372036854775807 then (spec_l1Draw.l0 k x1 (x5 ++ bt132.1) x17 (wrap64 (x18 + 1)) x1000 bt132.2) else (none)))) else (if x5.size + 1 ≤ 9223372036854775807 then (some (x5 ++ (⟨#[93]⟩ : ByteArray), x1001)) else (none))
def spec_l1Draw.f : Nat → List Int → Int → Int → Option (ByteArray × Int)
  | 0, _, _, _ => none
  | k + 1, s0_0, s0_1, a1 => if a1 = 0 then ((spec_l13Rd_pick.f k s0_0 s0_1 9).bind fun bt117 => ((spec_l13Rd_num.f k s0_0 bt117.2 (([1, 0, 2, 3, bt117.1, 5, 10006, 100] : List Int))).bind fun bt122 => ((spec_l13Dec.f k bt122.1).bind fun t124 => (some (t124, bt122.2))))) else ((spec_l13Rd_num.f k s0_0 s0_1 (([2, 0, 1, 3, 4] : List Int))).bind fun bt128 => (spec_l1Draw.l0 k a1 (⟨#[91]⟩ : ByteArray) bt128.1 0 s0_0 bt128.2))
end
def spec_l1Draw.I0 (s0_0 : List Int) (s0_1 : Int) (r1 : ByteArray) (r2 : Int) (m : Nat) (σ : St) : Prop := ∃ (x1 : Int) (x5 : ByteArray) (x17 : Int) (x18 : Int) (x1001 : Int), spec_l1Draw.l0 m x1 x5 x17 x18 s0_0 x1001 = some (r1, r2) ∧ σ = ⟨[(0, .pt 0 0 0), (1, .v (.int .i64 x1)), (5, .v (.string x5)), (17, .v (.int .i64 x17)), (18, .v (.int .i64 x18))], [(0, .box 0 107 true [.sl 1 (rX (cI .u8) s0_0), .v (.int .i64 x1001)])]⟩
structure spec_l1Draw.C (k : Nat) : Prop where
 s_f : ∀ (s0_0 : List Int) (s0_1 : Int) (a1 : Int) (r1 : ByteArray) (r2 : Int), spec_l1Draw.f k s0_0 s0_1 a1 = some (r1, r2) → Ctr TE 56 (some (107, [.sl 1 (rX (cI .u8) s0_0), .v (.int .i64 s0_1)])) [.pt 0 0 0, .v (.int .i64 a1)] [.ro (.v (.string r1))] [.sl 1 (rX (cI .u8) s0_0), .v (.int .i64 r2)]
 s_l0 : ∀ (s0_0 : List Int) (s0_1 : Int) (r1 : ByteArray) (r2 : Int) (w : World) (ro : Nat → Prop) (B : Nat) (_ : Fr TE (cx0 Tryd.f56 (some (107, [.sl 1 (rX (cI .u8) s0_0), .v (.int .i64 s0_1)])) w ro B)) (x1 : Int) (x5 : ByteArray) (x17 : Int) (x18 : Int) (x1001 : Int) (_ : spec_l1Draw.l0 k x1 x5 x17 x18 s0_0 x1001 = some (r1, r2)), Kp (WS TE (cx0 Tryd.f56 (some (107, [.sl 1 (rX (cI .u8) s0_0), .v (.int .i64 s0_1)])) w ro B) (stkAt [1, 1, 1, 0, 1, 0] [] (bodyOf Tryd.f56) []) ⟨[(0, .pt 0 0 0), (1, .v (.int .i64 x1)), (5, .v (.string x5)), (17, .v (.int .i64 x17)), (18, .v (.int .i64 x18))], [(0, .box 0 107 true [.sl 1 (rX (cI .u8) s0_0), .v (.int .i64 x1001)])]⟩ (RetQ TE Tryd.f56 (some (107, [.sl 1 (rX (cI .u8) s0_0), .v (.int .i64 s0_1)])) [.ro (.v (.string r1))] [.sl 1 (rX (cI .u8) s0_0), .v (.int .i64 r2)] w ro B))
set_option maxRecDepth 100000 in
set_option maxHeartbeats 4000000 in
theorem spec_l1Draw.c_f (k : Nat) (ih : Kp (∀ m, m < k → spec_l1Draw.C m)) (s0_0 : List Int) (s0_1 : Int) (a1 : Int) (r1 : ByteArray) (r2 : Int) (h : spec_l1Draw.f k s0_0 s0_1 a1 = some (r1, r2)) : Ctr TE 56 (some (107, [.sl 1 (rX (cI .u8) s0_0), .v (.int .i64 s0_1)])) [.pt 0 0 0, .v (.int .i64 a1)] [.ro (.v (.string r1))] [.sl 1 (rX (cI .u8) s0_0), .v (.int .i64 r2)] := by
 cases k with
 | zero => simp [spec_l1Draw.f] at h
 | succ k =>
 simp only [spec_l1Draw.f] at h
 refine ctr_of (fn := Tryd.f56) (c := (bodyOf Tryd.f56)) Tryd.func56 rfl (by kernel_rfl) (Nat.le_of_ble_eq_true (by kernel_rfl)) (fun w ro B hF _ => ?_)
 by_cases c1 : a1 = 0
 · rw [if_pos c1] at h
   obtain ⟨⟨t117, t118⟩, q2, h⟩ := Option.bind_eq_some_iff.1 h
   dsimp only at h
   have q2c := spec_l13Rd_pick.ctr k _ _ _ _ _ q2
   obtain ⟨⟨t122, t123⟩, q3, h⟩ := Option.bind_eq_some_iff.1 h
   dsimp only at h
   have q3c := spec_l13Rd_num.ctr k _ _ _ _ _ q3
   obtain ⟨t124, q4, h⟩ := Option.bind_eq_some_iff.1 h
   have q4c := spec_l13Dec.ctr k _ _ q4
   refine path_ok (k := 9) hF (RetQ_mild _ _ _ _ _ _ _ _) (ds := [.b true, .r [.ro (.v (.int .i64 t117))] [.sl 1 (rX (cI .u8) s0_0), .v (.int .i64 t118)], .p 12 ([[.v (.int .i64 1)], [.v (.int .i64 0)], [.v (.int .i64 2)], [.v (.int .i64 3)], [.v (.int .i64 t117)], [.v (.int .i64 5)], [.v (.int .i64 10006)], [.v (.int .i64 100)]]), .r [.ro (.v (.int .i64 t122))] [.sl 1 (rX (cI .u8) s0_0), .v (.int .i64 t123)], .r [.ro (.v (.string t124))] []]) (os := []) (c := none) rfl KD ?_
   cases h
   exact ret_as (ms := [.ro]) rfl KD
 · rw [if_neg c1] at h
   obtain ⟨⟨t128, t129⟩, q5, h⟩ := Option.bind_eq_some_iff.1 h
   dsimp only at h
   have q5c := spec_l13Rd_num.ctr k _ _ _ _ _ q5
   refine path_ok (k := 13) hF (RetQ_mild _ _ _ _ _ _ _ _) (ds := [.b false, .p 16 ([[.v (.int .i64 2)], [.v (.int .i64 0)], [.v (.int .i64 1)], [.v (.int .i64 3)], [.v (.int .i64 4)]]), .r [.ro (.v (.int .i64 t128))] [.sl 1 (rX (cI .u8) s0_0), .v (.int .i64 t129)]]) (os := []) (c := none) rfl KD ?_
   exact WS.can [(0, some 0)] (((ih.out k (by omega)).s_l0 s0_0 s0_1 r1 r2 w ro B hF a1 (⟨#[91]⟩ : ByteArray) t128 0 t129 h).out) KD
set_option maxRecDepth 100000 in
set_option maxHeartbeats 4000000 in
theorem spec_l1Draw.c_l0 (k : Nat) (ih : Kp (∀ m, m < k → spec_l1Draw.C m)) (s0_0 : List Int) (s0_1 : Int) (r1 : ByteArray) (r2 : Int) (w : World) (ro : Nat → Prop) (B : Nat) (hF : Fr TE (cx0 Tryd.f56 (some (107, [.sl 1 (rX (cI .u8) s0_0), .v (.int .i64 s0_1)])) w ro B)) (x1 : Int) (x5 : ByteArray) (x17 : Int) (x18 : Int) (x1001 : Int) (h : spec_l1Draw.l0 k x1 x5 x17 x18 s0_0 x1001 = some (r1, r2)) : Kp (WS TE (cx0 Tryd.f56 (some (107, [.sl 1 (rX (cI .u8) s0_0), .v (.int .i64 s0_1)])) w ro B) (stkAt [1, 1, 1, 0, 1, 0] [] (bodyOf Tryd.f56) []) ⟨[(0, .pt 0 0 0), (1, .v (.int .i64 x1)), (5, .v (.string x5)), (17, .v (.int .i64 x17)), (18, .v (.int .i64 x18))], [(0, .box 0 107 true [.sl 1 (rX (cI .u8) s0_0), .v (.int .i64 x1001)])]⟩ (RetQ TE Tryd.f56 (some (107, [.sl 1 (rX (cI .u8) s0_0), .v (.int .i64 s0_1)])) [.ro (.v (.string r1))] [.sl 1 (rX (cI .u8) s0_0), .v (.int .i64 r2)] w ro B)) := by
 refine ⟨WS.loop (fun m σ => m ≤ k ∧ spec_l1Draw.I0 s0_0 s0_1 r1 r2 m σ) k ⟨Nat.le_refl k, x1, x5, x17, x18, x1001, h, rfl⟩ (fun m σ' hI J0 hJ0 => ?_)⟩
 clear h
 obtain ⟨hk, x1, x5, x17, x18, x1001, h, rfl⟩ := hI
 cases m with
 | zero => simp [spec_l1Draw.l0] at h
 | succ k' =>
 simp only [spec_l1Draw.l0] at h
 by_cases c6 : x18 < x17
 · rw [if_pos c6] at h
   by_cases c7 : x18 > 0
   · rw [if_pos c7] at h
     by_cases c8 : x5.size + 1 ≤ 9223372036854775807
     · rw [if_pos c8] at h
       obtain ⟨⟨t130, t131⟩, q9, h⟩ := Option.bind_eq_some_iff.1 h
       dsimp only at h
       have q9c := (ih.out k' (by omega)).s_f _ _ _ _ _ q9
       by_cases c10 : x5.size + 1 + t130.size ≤ 9223372036854775807
       · rw [if_pos c10] at h
         refine path_ok (k := 17) hF (RetQ_mild _ _ _ _ _ _ _ _) (ds := [.b true, .b true, .r [.ro (.v (.string t130))] [.sl 1 (rX (cI .u8) s0_0), .v (.int .i64 t131)]]) (os := []) (c := none) rfl KD ?_
         exact WS.lpc [(0, some 0)] (hJ0 _ _ (Nat.lt_succ_self _) ⟨by omega, x1, ((x5 ++ (⟨#[44]⟩ : ByteArray)) ++ t130), x17, (wrap64 (x18 + 1)), t131, h, rfl⟩) KD
       · rw [if_neg c10] at h
         cases h
     · rw [if_neg c8] at h
       cases h
   · rw [if_neg c7] at h
     obtain ⟨⟨t132, t133⟩, q11, h⟩ := Option.bind_eq_some_iff.1 h
     dsimp only at h
     have q11c := (ih.out k' (by omega)).s_f _ _ _ _ _ q11
     by_cases c12 : x5.size + t132.size ≤ 9223372036854775807
     · rw [if_pos c12] at h
       refine path_ok (k := 17) hF (RetQ_mild _ _ _ _ _ _ _ _) (ds := [.b true, .b false, .r [.ro (.v (.string t132))] [.sl 1 (rX (cI .u8) s0_0), .v (.int .i64 t133)]]) (os := []) (c := none) rfl KD ?_
       exact WS.lpc [(0, some 0)] (hJ0 _ _ (Nat.lt_succ_self _) ⟨by omega, x1, (x5 ++ t132), x17, (wrap64 (x18 + 1)), t133, h, rfl⟩) KD
     · rw [if_neg c12] at h
       cases h
 · rw [if_neg c6] at h
   by_cases c13 : x5.size + 1 ≤ 9223372036854775807
   · rw [if_pos c13] at h
     refine path_ok (k := 8) hF (RetQ_mild _ _ _ _ _ _ _ _) (ds := [.b false]) (os := []) (c := none) rfl KD ?_
     cases h
     exact ret_as (ms := [.ro]) rfl KD
   · rw [if_neg c13] at h
     cases h
theorem spec_l1Draw.cs (k : Nat) : spec_l1Draw.C k := by
 induction k using Nat.strongRecOn with
 | _ k ih0 =>
 have ih : Kp (∀ m, m < k → spec_l1Draw.C m) := ⟨ih0⟩
 exact ⟨spec_l1Draw.c_f k ih, spec_l1Draw.c_l0 k ih⟩
theorem spec_l1Draw.ctr (k : Nat) (s0_0 : List Int) (s0_1 : Int) (a1 : Int) (r1 : ByteArray) (r2 : Int) (h : spec_l1Draw.f k s0_0 s0_1 a1 = some (r1, r2)) : Ctr TE 56 (some (107, [.sl 1 (rX (cI .u8) s0_0), .v (.int .i64 s0_1)])) [.pt 0 0 0, .v (.int .i64 a1)] [.ro (.v (.string r1))] [.sl 1 (rX (cI .u8) s0_0), .v (.int .i64 r2)] := (spec_l1Draw.cs k).s_f s0_0 s0_1 a1 r1 r2 h
def spec_l13Rd_of.f (k : Nat) (s0_0 : List Int) (s0_1 : Int) (l1 : List ByteArray) : Option (ByteArray × Int) := (spec_l13Rd_pick.f k s0_0 s0_1 (l1.length : Int)).bind fun bt134 => (if 0 ≤ bt134.1 then (if bt134.1 < (l1.length : Int) then (some (rdOf ByteArray.empty l1 bt134.1, bt134.2)) else (none)) else (none))
set_option maxRecDepth 100000 in
set_option maxHeartbeats 4000000 in
theorem spec_l13Rd_of.ctr (k : Nat) (s0_0 : List Int) (s0_1 : Int) (l1 : List ByteArray) (r1 : ByteArray) (r2 : Int) (h : spec_l13Rd_of.f k s0_0 s0_1 l1 = some (r1, r2)) : Ctr TE 89 (some (107, [.sl 1 (rX (cI .u8) s0_0), .v (.int .i64 s0_1)])) [.pt 0 0 0, .sl 1 (rX cS l1)] [.ro (.v (.string r1))] [.sl 1 (rX (cI .u8) s0_0), .v (.int .i64 r2)] := by
 refine ctr_of (fn := Tryd.f89) (c := (bodyOf Tryd.f89)) Tryd.func89 rfl (by kernel_rfl) (Nat.le_of_ble_eq_true (by kernel_rfl)) (fun w ro B hF _ => ?_)
 simp only [spec_l13Rd_of.f] at h
 obtain ⟨⟨t134, t135⟩, q1, h⟩ := Option.bind_eq_some_iff.1 h
 dsimp only at h
 have q1c := spec_l13Rd_pick.ctr k _ _ _ _ _ q1
 by_cases c2 : 0 ≤ t134
 · rw [if_pos c2] at h
   by_cases c3 : t134 < (l1.length : Int)
   · rw [if_pos c3] at h
     refine path_ok (k := 5) hF (RetQ_mild _ _ _ _ _ _ _ _) (ds := [.e 8 (.v (.int .i64 (l1.length : Int))), .r [.ro (.v (.int .i64 t134))] [.sl 1 (rX (cI .u8) s0_0), .v (.int .i64 t135)], .e 10 (.rf [.v (.string (rdOf ByteArray.empty l1 t134))])]) (os := []) (c := none) rfl KD ?_
     cases h
     exact ret_as (ms := [.ro]) rfl KD
   · rw [if_neg c3] at h
     cases h
 · rw [if_neg c2] at h
   cases h
mutual
def spec_l1Text.l0 : Nat → Int → ByteArray → List (S77) → Int → Int → Option (ByteArray)
  | 0, _, _, _, _, _ => none
  | k + 1, x1, x5, x14, x15, x16 => if x16 < x15 then (if 0 ≤ x16 then (if x16 < (x14.length : Int) then (if x16 > 0 then (if x5.size + 1 ≤ 9223372036854775807 then ((spec_l1Text.f k ((rd_T77 x14 x16).f0) ((rd_T77 x14 x16).f1) (wrap64 (x1 - 1))).bind fun t141 => (if x5.size + 1 + t141.size ≤ 9223372036854775807 then (spec_l1Text.l0 k x1 ((x5 ++ (⟨#[44]⟩ : ByteArray)) ++ t141) x14 x15 (wrap64 (x16 + 1))) else (none))) else (none)) else ((spec_l1Text.f k ((rd_T77 x14 x16).f0) ((rd_T77 x14 x16).f1) (wrap64 (x1 - 1))).bind fun t142 => (if x5.size + t142.size ≤ 9223372036854775807 then (spec_l1Text.l0 k x1 (x5 ++ t142) x14 x15 (wrap64 (x16 + 1))) else (none)))) else (none)) else (none)) else (if x5.size + 1 ≤ 9223372036854775807 then (some (x5 ++ (⟨#[93]⟩ : ByteArray))) else (none))
def spec_l1Text.f : Nat → Int → List (S77) → Int → Option (ByteArray)
  | 0, _, _, _ => none
  | k + 1, a0_0, l0_1, a1 => if a1 = 0 then ((spec_l13Dec.f k a0_0).bind fun t138 => (some t138)) else (spec_l1Text.l0 k a1 (⟨#[91]⟩ : ByteArray) l0_1 (l0_1.length : Int) 0)
end
def spec_l1Text.I0 (r : ByteArray) (m : Nat) (σ : St) : Prop := ∃ (x1 : Int) (x5 : ByteArray) (x14 : List (S77)) (x15 : Int) (x16 : Int), spec_l1Text.l0 m x1 x5 x14 x15 x16 = some r ∧ σ = ⟨[(1, .v (.int .i64 x1)), (5, .v (.string x5)), (14, .sl 2 (r77 x14)), (15, .v (.int .i64 x15)), (16, .v (.int .i64 x16))], []⟩
structure spec_l1Text.C (k : Nat) : Prop where
 s_f : ∀ (a0_0 : Int) (l0_1 : List (S77)) (a1 : Int) (r : ByteArray), spec_l1Text.f k a0_0 l0_1 a1 = some r → Ctr TE 84 none [.ag [.v (.int .i64 a0_0), .sl 2 (r77 l0_1)], .v (.int .i64 a1)] [.ro (.v (.string r))] []
 s_l0 : ∀ (r : ByteArray) (w : World) (ro : Nat → Prop) (B : Nat) (_ : Fr TE (cx0 Tryd.f84 none w ro B)) (x1 : Int) (x5 : ByteArray) (x14 : List (S77)) (x15 : Int) (x16 : Int) (_ : spec_l1Text.l0 k x1 x5 x14 x15 x16 = some r), Kp (WS TE (cx0 Tryd.f84 none w ro B) (stkAt [1, 1, 1, 0, 1, 0] [] (bodyOf Tryd.f84) []) ⟨[(1, .v (.int .i64 x1)), (5, .v (.string x5)), (14, .sl 2 (r77 x14)), (15, .v (.int .i64 x15)), (16, .v (.int .i64 x16))], []⟩ (RetQ TE Tryd.f84 none [.ro (.v (.string r))] [] w ro B))
set_option maxRecDepth 100000 in
set_option maxHeartbeats 4000000 in
theorem spec_l1Text.c_f (k : Nat) (ih : Kp (∀ m, m < k → spec_l1Text.C m)) (a0_0 : Int) (l0_1 : List (S77)) (a1 : Int) (r : ByteArray) (h : spec_l1Text.f k a0_0 l0_1 a1 = some r) : Ctr TE 84 none [.ag [.v (.int .i64 a0_0), .sl 2 (r77 l0_1)], .v (.int .i64 a1)] [.ro (.v (.string r))] [] := by
 cases k with
 | zero => simp [spec_l1Text.f] at h
 | succ k =>
 simp only [spec_l1Text.f] at h
 refine ctr_of (fn := Tryd.f84) (c := (bodyOf Tryd.f84)) Tryd.func84 rfl (by kernel_rfl) (Nat.le_of_ble_eq_true (by kernel_rfl)) (fun w ro B hF _ => ?_)
 by_cases c1 : a1 = 0
 · rw [if_pos c1] at h
   obtain ⟨t138, q2, h⟩ := Option.bind_eq_some_iff.1 h
   have q2c := spec_l13Dec.ctr k _ _ q2
   refine path_ok (k := 9) hF (RetQ_mild _ _ _ _ _ _ _ _) (ds := [.b true, .r [.ro (.v (.string t138))] []]) (os := []) (c := none) rfl KD ?_
   cases h
   exact ret_as (ms := [.ro]) rfl KD
 · rw [if_neg c1] at h
   refine path_ok (k := 13) hF (RetQ_mild _ _ _ _ _ _ _ _) (ds := [.b false, .e 15 (.v (.int .i64 (l0_1.length : Int)))]) (os := []) (c := none) rfl KD ?_
   exact WS.can [] (((ih.out k (by omega)).s_l0  r w ro B hF a1 (⟨#[91]⟩ : ByteArray) l0_1 (l0_1.length : Int) 0 h).out) KD
set_option maxRecDepth 100000 in
set_option maxHeartbeats 4000000 in
theorem spec_l1Text.c_l0 (k : Nat) (ih : Kp (∀ m, m < k → spec_l1Text.C m)) (r : ByteArray) (w : World) (ro : Nat → Prop) (B : Nat) (hF : Fr TE (cx0 Tryd.f84 none w ro B)) (x1 : Int) (x5 : ByteArray) (x14 : List (S77)) (x15 : Int) (x16 : Int) (h : spec_l1Text.l0 k x1 x5 x14 x15 x16 = some r) : Kp (WS TE (cx0 Tryd.f84 none w ro B) (stkAt [1, 1, 1, 0, 1, 0] [] (bodyOf Tryd.f84) []) ⟨[(1, .v (.int .i64 x1)), (5, .v (.string x5)), (14, .sl 2 (r77 x14)), (15, .v (.int .i64 x15)), (16, .v (.int .i64 x16))], []⟩ (RetQ TE Tryd.f84 none [.ro (.v (.string r))] [] w ro B)) := by
 refine ⟨WS.loop (fun m σ => m ≤ k ∧ spec_l1Text.I0 r m σ) k ⟨Nat.le_refl k, x1, x5, x14, x15, x16, h, rfl⟩ (fun m σ' hI J0 hJ0 => ?_)⟩
 clear h
 obtain ⟨hk, x1, x5, x14, x15, x16, h, rfl⟩ := hI
 cases m with
 | zero => simp [spec_l1Text.l0] at h
 | succ k' =>
 simp only [spec_l1Text.l0] at h
 by_cases c3 : x16 < x15
 · rw [if_pos c3] at h
   by_cases c4 : 0 ≤ x16
   · rw [if_pos c4] at h
     by_cases c5 : x16 < (x14.length : Int)
     · rw [if_pos c5] at h
       by_cases c6 : x16 > 0
       · rw [if_pos c6] at h
         by_cases c7 : x5.size + 1 ≤ 9223372036854775807
         · rw [if_pos c7] at h
           obtain ⟨t141, q8, h⟩ := Option.bind_eq_some_iff.1 h
           have q8c := (ih.out k' (by omega)).s_f _ _ _ _ q8
           by_cases c9 : x5.size + 1 + t141.size ≤ 9223372036854775807
           · rw [if_pos c9] at h
             refine path_ok (k := 17) hF (RetQ_mild _ _ _ _ _ _ _ _) (ds := [.b true, .e 19 (.rf [.v (.int .i64 ((rd_T77 x14 x16).f0)), .sl 2 (r77 ((rd_T77 x14 x16).f1))]), .b true, .r [.ro (.v (.string t141))] []]) (os := []) (c := none) rfl KD ?_
             exact WS.lpc [] (hJ0 _ _ (Nat.lt_succ_self _) ⟨by omega, x1, ((x5 ++ (⟨#[44]⟩ : ByteArray)) ++ t141), x14, x15, (wrap64 (x16 + 1)), h, rfl⟩) KD
           · rw [if_neg c9] at h
             cases h
         · rw [if_neg c7] at h
           cases h
       · rw [if_neg c6] at h
         obtain ⟨t142, q10, h⟩ := Option.bind_eq_some_iff.1 h
         have q10c := (ih.out k' (by omega)).s_f _ _ _ _ q10
         by_cases c11 : x5.size + t142.size ≤ 9223372036854775807
         · rw [if_pos c11] at h
           refine path_ok (k := 17) hF (RetQ_mild _ _ _ _ _ _ _ _) (ds := [.b true, .e 19 (.rf [.v (.int .i64 ((rd_T77 x14 x16).f0)), .sl 2 (r77 ((rd_T77 x14 x16).f1))]), .b false, .r [.ro (.v (.string t142))] []]) (os := []) (c := none) rfl KD ?_
           exact WS.lpc [] (hJ0 _ _ (Nat.lt_succ_self _) ⟨by omega, x1, (x5 ++ t142), x14, x15, (wrap64 (x16 + 1)), h, rfl⟩) KD
         · rw [if_neg c11] at h
           cases h
     · rw [if_neg c5] at h
       cases h
   · rw [if_neg c4] at h
     cases h
 · rw [if_neg c3] at h
   by_cases c12 : x5.size + 1 ≤ 9223372036854775807
   · rw [if_pos c12] at h
     refine path_ok (k := 8) hF (RetQ_mild _ _ _ _ _ _ _ _) (ds := [.b false]) (os := []) (c := none) rfl KD ?_
     cases h
     exact ret_as (ms := [.ro]) rfl KD
   · rw [if_neg c12] at h
     cases h
theorem spec_l1Text.cs (k : Nat) : spec_l1Text.C k := by
 induction k using Nat.strongRecOn with
 | _ k ih0 =>
 have ih : Kp (∀ m, m < k → spec_l1Text.C m) := ⟨ih0⟩
 exact ⟨spec_l1Text.c_f k ih, spec_l1Text.c_l0 k ih⟩
theorem spec_l1Text.ctr (k : Nat) (a0_0 : Int) (l0_1 : List (S77)) (a1 : Int) (r : ByteArray) (h : spec_l1Text.f k a0_0 l0_1 a1 = some r) : Ctr TE 84 none [.ag [.v (.int .i64 a0_0), .sl 2 (r77 l0_1)], .v (.int .i64 a1)] [.ro (.v (.string r))] [] := (spec_l1Text.cs k).s_f a0_0 l0_1 a1 r h
def spec_l1Told.f (k : Nat) (a0_0 : Int) (l0_1 : List (S77)) (a1 : Int) : Option (ByteArray × Bool) := (spec_l1Text.f k a0_0 l0_1 a1).bind fun t144 => (if (t144.size : Int) > 400 then (some ((⟨#[]⟩ : ByteArray), false)) else (some (t144, true)))
set_option maxRecDepth 100000 in
set_option maxHeartbeats 4000000 in
theorem spec_l1Told.ctr (k : Nat) (a0_0 : Int) (l0_1 : List (S77)) (a1 : Int) (r1 : ByteArray) (r2 : Bool) (h : spec_l1Told.f k a0_0 l0_1 a1 = some (r1, r2)) : Ctr TE 49 none [.ag [.v (.int .i64 a0_0), .sl 2 (r77 l0_1)], .v (.int .i64 a1)] [.ro (.v (.string r1)), .ro (.v (.bool r2))] [] := by
 refine ctr_of (fn := Tryd.f49) (c := (bodyOf Tryd.f49)) Tryd.func49 rfl (by kernel_rfl) (Nat.le_of_ble_eq_true (by kernel_rfl)) (fun w ro B hF _ => ?_)
 simp only [spec_l1Told.f] at h
 obtain ⟨t144, q1, h⟩ := Option.bind_eq_some_iff.1 h
 have q1c := spec_l1Text.ctr k _ _ _ _ q1
 by_cases c2 : (t144.size : Int) > 400
 · rw [if_pos c2] at h
   refine path_ok (k := 11) hF (RetQ_mild _ _ _ _ _ _ _ _) (ds := [.r [.ro (.v (.string t144))] [], .b true]) (os := []) (c := none) rfl KD ?_
   cases h
   exact ret_as (ms := [.ro, .ro]) rfl KD
 · rw [if_neg c2] at h
   refine path_ok (k := 12) hF (RetQ_mild _ _ _ _ _ _ _ _) (ds := [.r [.ro (.v (.string t144))] [], .b false]) (os := []) (c := none) rfl KD ?_
   cases h
   exact ret_as (ms := [.ro, .ro]) rfl KD
def spec_l1In.f (a0 : Int) (a1 : Int) (a2 : Int) : Option (Bool) := if a0 ≥ a1 then (some (decide (a0 ≤ a2))) else (some false)
set_option maxRecDepth 100000 in
set_option maxHeartbeats 4000000 in
theorem spec_l1In.ctr (a0 : Int) (a1 : Int) (a2 : Int) (r : Bool) (h : spec_l1In.f a0 a1 a2 = some r) : Ctr TE 53 none [.v (.int .i64 a0), .v (.int .i64 a1), .v (.int .i64 a2)] [.ro (.v (.bool r))] [] := by
 refine ctr_of (fn := Tryd.f53) (c := (bodyOf Tryd.f53)) Tryd.func53 rfl (by kernel_rfl) (Nat.le_of_ble_eq_true (by kernel_rfl)) (fun w ro B hF _ => ?_)
 simp only [spec_l1In.f] at h
 by_cases c1 : a0 ≥ a1
 · rw [if_pos c1] at h
   refine path_ok (k := 5) hF (RetQ_mild _ _ _ _ _ _ _ _) (ds := [.b true, .b true, .b true, .b true]) (os := []) (c := none) rfl KD ?_
   cases h
   exact ret_as (ms := [.ro]) rfl KD
 · rw [if_neg c1] at h
   refine path_ok (k := 5) hF (RetQ_mild _ _ _ _ _ _ _ _) (ds := [.b false, .b false, .b false, .b false]) (os := []) (c := none) rfl KD ?_
   cases h
   exact ret_as (ms := [.ro]) rfl KD
def spec_l3Numbers.l0 : Nat → List Int → Int → Int → Option (Bool)
  | 0, _, _, _ => none
  | k + 1, x5, x6, x7 => if x7 < x6 then (if 0 ≤ x7 then (if x7 < (x5.length : Int) then ((spec_l1In.f (rd x5 x7) 0 10006).bind fun t146 => (if t146 = true then (spec_l3Numbers.l0 k x5 x6 (wrap64 (x7 + 1))) else (some false))) else (none)) else (none)) else (some true)
def spec_l3Numbers.f (k : Nat) (l0 : List Int) : Option (Bool) := spec_l3Numbers.l0 k l0 (l0.length : Int) 0
def spec_l3Numbers.I0 (r : Bool) (m : Nat) (σ : St) : Prop := ∃ (x5 : List Int) (x6 : Int) (x7 : Int), spec_l3Numbers.l0 m x5 x6 x7 = some r ∧ σ = ⟨[(5, .sl 1 (rX (cI .i64) x5)), (6, .v (.int .i64 x6)), (7, .v (.int .i64 x7))], []⟩
structure spec_l3Numbers.C (k : Nat) : Prop where
 s_l0 : ∀ (r : Bool) (w : World) (ro : Nat → Prop) (B : Nat) (_ : Fr TE (cx0 Tryd.f141 none w ro B)) (x5 : List Int) (x6 : Int) (x7 : Int) (_ : spec_l3Numbers.l0 k x5 x6 x7 = some r), Kp (WS TE (cx0 Tryd.f141 none w ro B) (stkAt [1, 0, 1, 0] [] (bodyOf Tryd.f141) []) ⟨[(5, .sl 1 (rX (cI .i64) x5)), (6, .v (.int .i64 x6)), (7, .v (.int .i64 x7))], []⟩ (RetQ TE Tryd.f141 none [.ro (.v (.bool r))] [] w ro B))
set_option maxRecDepth 100000 in
set_option maxHeartbeats 4000000 in
theorem spec_l3Numbers.c_l0 (k : Nat) (ih : Kp (∀ m, m < k → spec_l3Numbers.C m)) (r : Bool) (w : World) (ro : Nat → Prop) (B : Nat) (hF : Fr TE (cx0 Tryd.f141 none w ro B)) (x5 : List Int) (x6 : Int) (x7 : Int) (h : spec_l3Numbers.l0 k x5 x6 x7 = some r) : Kp (WS TE (cx0 Tryd.f141 none w ro B) (stkAt [1, 0, 1, 0] [] (bodyOf Tryd.f141) []) ⟨[(5, .sl 1 (rX (cI .i64) x5)), (6, .v (.int .i64 x6)), (7, .v (.int .i64 x7))], []⟩ (RetQ TE Tryd.f141 none [.ro (.v (.bool r))] [] w ro B)) := by
 refine ⟨WS.loop (fun m σ => m ≤ k ∧ spec_l3Numbers.I0 r m σ) k ⟨Nat.le_refl k, x5, x6, x7, h, rfl⟩ (fun m σ' hI J0 hJ0 => ?_)⟩
 clear h
 obtain ⟨hk, x5, x6, x7, h, rfl⟩ := hI
 cases m with
 | zero => simp [spec_l3Numbers.l0] at h
 | succ k' =>
 simp only [spec_l3Numbers.l0] at h
 by_cases c1 : x7 < x6
 · rw [if_pos c1] at h
   by_cases c2 : 0 ≤ x7
   · rw [if_pos c2] at h
     by_cases c3 : x7 < (x5.length : Int)
     · rw [if_pos c3] at h
       obtain ⟨t146, q4, h⟩ := Option.bind_eq_some_iff.1 h
       have q4c := spec_l1In.ctr _ _ _ _ q4
       by_cases c5 : t146 = true
       · rw [if_pos c5] at h
         refine path_ok (k := 15) hF (RetQ_mild _ _ _ _ _ _ _ _) (ds := [.b true, .e 9 (.rf [.v (.int .i64 (rd x5 x7))]), .r [.ro (.v (.bool t146))] [], .b false]) (os := []) (c := none) rfl KD ?_
         exact WS.lpc [] (hJ0 _ _ (Nat.lt_succ_self _) ⟨by omega, x5, x6, (wrap64 (x7 + 1)), h, rfl⟩) KD
       · rw [if_neg c5] at h
         refine path_ok (k := 15) hF (RetQ_mild _ _ _ _ _ _ _ _) (ds := [.b true, .e 9 (.rf [.v (.int .i64 (rd x5 x7))]), .r [.ro (.v (.bool t146))] [], .b true]) (os := []) (c := none) rfl KD ?_
         cases h
         exact ret_as (ms := [.ro]) rfl KD
     · rw [if_neg c3] at h
       cases h
   · rw [if_neg c2] at h
     cases h
 · rw [if_neg c1] at h
   refine path_ok (k := 8) hF (RetQ_mild _ _ _ _ _ _ _ _) (ds := [.b false]) (os := []) (c := none) rfl KD ?_
   cases h
   exact ret_as (ms := [.ro]) rfl KD
theorem spec_l3Numbers.cs (k : Nat) : spec_l3Numbers.C k := by
 induction k using Nat.strongRecOn with
 | _ k ih0 =>
 have ih : Kp (∀ m, m < k → spec_l3Numbers.C m) := ⟨ih0⟩
 exact ⟨spec_l3Numbers.c_l0 k ih⟩
set_option maxRecDepth 100000 in
set_option maxHeartbeats 4000000 in
theorem spec_l3Numbers.ctr (k : Nat) (l0 : List Int) (r : Bool) (h : spec_l3Numbers.f k l0 = some r) : Ctr TE 141 none [.sl 1 (rX (cI .i64) l0)] [.ro (.v (.bool r))] [] := by
 refine ctr_of (fn := Tryd.f141) (c := (bodyOf Tryd.f141)) Tryd.func141 rfl (by kernel_rfl) (Nat.le_of_ble_eq_true (by kernel_rfl)) (fun w ro B hF _ => ?_)
 have ih : Kp (∀ m, m < k + 1 → spec_l3Numbers.C m) := ⟨fun m _ => spec_l3Numbers.cs m⟩
 simp only [spec_l3Numbers.f] at h
 refine path_ok (k := 6) hF (RetQ_mild _ _ _ _ _ _ _ _) (ds := [.e 6 (.v (.int .i64 (l0.length : Int)))]) (os := []) (c := none) rfl KD ?_
 exact WS.can [] (((ih.out k (by omega)).s_l0  r w ro B hF l0 (l0.length : Int) 0 h).out) KD
def spec_l4Data.f (k : Nat) (l0 : List Int) : Option (Bool) := (spec_l3Numbers.f k l0).bind fun t147 => (if t147 = true then (some (decide ((l0.length : Int) ≤ 400))) else (some false))
set_option maxRecDepth 100000 in
set_option maxHeartbeats 4000000 in
theorem spec_l4Data.ctr (k : Nat) (l0 : List Int) (r : Bool) (h : spec_l4Data.f k l0 = some r) : Ctr TE 128 none [.sl 1 (rX (cI .i64) l0)] [.ro (.v (.bool r))] [] := by
 refine ctr_of (fn := Tryd.f128) (c := (bodyOf Tryd.f128)) Tryd.func128 rfl (by kernel_rfl) (Nat.le_of_ble_eq_true (by kernel_rfl)) (fun w ro B hF _ => ?_)
 simp only [spec_l4Data.f] at h
 obtain ⟨t147, q1, h⟩ := Option.bind_eq_some_iff.1 h
 have q1c := spec_l3Numbers.ctr k _ _ q1
 by_cases c2 : t147 = true
 · rw [if_pos c2] at h
   refine path_ok (k := 5) hF (RetQ_mild _ _ _ _ _ _ _ _) (ds := [.r [.ro (.v (.bool t147))] [], .b true, .b true, .e 7 (.v (.int .i64 (l0.length : Int))), .b true, .b true]) (os := []) (c := none) rfl KD ?_
   cases h
   exact ret_as (ms := [.ro]) rfl KD
 · rw [if_neg c2] at h
   refine path_ok (k := 5) hF (RetQ_mild _ _ _ _ _ _ _ _) (ds := [.r [.ro (.v (.bool t147))] [], .b false, .b false, .b false, .b false]) (os := []) (c := none) rfl KD ?_
   cases h
   exact ret_as (ms := [.ro]) rfl KD
def spec_l11Product.l0 : Nat → Int → List Int → Int → Int → Option (Int)
  | 0, _, _, _, _ => none
  | k + 1, x3, x6, x7, x8 => if x8 < x7 then (if 0 ≤ x8 then (if x8 < (x6.length : Int) then (spec_l11Product.l0 k (mn (wrap64 (x3 * (rd x6 x8))) 401) x6 x7 (wrap64 (x8 + 1))) else (none)) else (none)) else (some x3)
def spec_l11Product.f (k : Nat) (l0 : List Int) : Option (Int) := spec_l11Product.l0 k 1 l0 (l0.length : Int) 0
def spec_l11Product.I0 (r : Int) (m : Nat) (σ : St) : Prop := ∃ (x3 : Int) (x6 : List Int) (x7 : Int) (x8 : Int), spec_l11Product.l0 m x3 x6 x7 x8 = some r ∧ σ = ⟨[(3, .v (.int .i64 x3)), (6, .sl 1 (rX (cI .i64) x6)), (7, .v (.int .i64 x7)), (8, .v (.int .i64 x8))], []⟩
structure spec_l11Product.C (k : Nat) : Prop where
 s_l0 : ∀ (r : Int) (w : World) (ro : Nat → Prop) (B : Nat) (_ : Fr TE (cx0 Tryd.f129 none w ro B)) (x3 : Int) (x6 : List Int) (x7 : Int) (x8 : Int) (_ : spec_l11Product.l0 k x3 x6 x7 x8 = some r), Kp (WS TE (cx0 Tryd.f129 none w ro B) (stkAt [1, 1, 0, 1, 0] [] (bodyOf Tryd.f129) []) ⟨[(3, .v (.int .i64 x3)), (6, .sl 1 (rX (cI .i64) x6)), (7, .v (.int .i64 x7)), (8, .v (.int .i64 x8))], []⟩ (RetQ TE Tryd.f129 none [.ro (.v (.int .i64 r))] [] w ro B))
set_option maxRecDepth 100000 in
set_option maxHeartbeats 4000000 in
theorem spec_l11Product.c_l0 (k : Nat) (ih : Kp (∀ m, m < k → spec_l11Product.C m)) (r : Int) (w : World) (ro : Nat → Prop) (B : Nat) (hF : Fr TE (cx0 Tryd.f129 none w ro B)) (x3 : Int) (x6 : List Int) (x7 : Int) (x8 : Int) (h : spec_l11Product.l0 k x3 x6 x7 x8 = some r) : Kp (WS TE (cx0 Tryd.f129 none w ro B) (stkAt [1, 1, 0, 1, 0] [] (bodyOf Tryd.f129) []) ⟨[(3, .v (.int .i64 x3)), (6, .sl 1 (rX (cI .i64) x6)), (7, .v (.int .i64 x7)), (8, .v (.int .i64 x8))], []⟩ (RetQ TE Tryd.f129 none [.ro (.v (.int .i64 r))] [] w ro B)) := by
 refine ⟨WS.loop (fun m σ => m ≤ k ∧ spec_l11Product.I0 r m σ) k ⟨Nat.le_refl k, x3, x6, x7, x8, h, rfl⟩ (fun m σ' hI J0 hJ0 => ?_)⟩
 clear h
 obtain ⟨hk, x3, x6, x7, x8, h, rfl⟩ := hI
 cases m with
 | zero => simp [spec_l11Product.l0] at h
 | succ k' =>
 simp only [spec_l11Product.l0] at h
 by_cases c1 : x8 < x7
 · rw [if_pos c1] at h
   by_cases c2 : 0 ≤ x8
   · rw [if_pos c2] at h
     by_cases c3 : x8 < (x6.length : Int)
     · rw [if_pos c3] at h
       refine path_ok (k := 12) hF (RetQ_mild _ _ _ _ _ _ _ _) (ds := [.b true, .e 10 (.rf [.v (.int .i64 (rd x6 x8))])]) (os := []) (c := none) rfl KD ?_
       exact WS.lpc [] (hJ0 _ _ (Nat.lt_succ_self _) ⟨by omega, (mn (wrap64 (x3 * (rd x6 x8))) 401), x6, x7, (wrap64 (x8 + 1)), h, rfl⟩) KD
     · rw [if_neg c3] at h
       cases h
   · rw [if_neg c2] at h
     cases h
 · rw [if_neg c1] at h
   refine path_ok (k := 8) hF (RetQ_mild _ _ _ _ _ _ _ _) (ds := [.b false]) (os := []) (c := none) rfl KD ?_
   cases h
   exact ret_as (ms := [.ro]) rfl KD
theorem spec_l11Product.cs (k : Nat) : spec_l11Product.C k := by
 induction k using Nat.strongRecOn with
 | _ k ih0 =>
 have ih : Kp (∀ m, m < k → spec_l11Product.C m) := ⟨ih0⟩
 exact ⟨spec_l11Product.c_l0 k ih⟩
set_option maxRecDepth 100000 in
set_option maxHeartbeats 4000000 in
theorem spec_l11Product.ctr (k : Nat) (l0 : List Int) (r : Int) (h : spec_l11Product.f k l0 = some r) : Ctr TE 129 none [.sl 1 (rX (cI .i64) l0)] [.ro (.v (.int .i64 r))] [] := by
 refine ctr_of (fn := Tryd.f129) (c := (bodyOf Tryd.f129)) Tryd.func129 rfl (by kernel_rfl) (Nat.le_of_ble_eq_true (by kernel_rfl)) (fun w ro B hF _ => ?_)
 have ih : Kp (∀ m, m < k + 1 → spec_l11Product.C m) := ⟨fun m _ => spec_l11Product.cs m⟩
 simp only [spec_l11Product.f] at h
 refine path_ok (k := 8) hF (RetQ_mild _ _ _ _ _ _ _ _) (ds := [.e 7 (.v (.int .i64 (l0.length : Int)))]) (os := []) (c := none) rfl KD ?_
 exact WS.can [] (((ih.out k (by omega)).s_l0  r w ro B hF 1 l0 (l0.length : Int) 0 h).out) KD
end Go.Proofs.YtoloblgjlnhioaaDoor.J
