/- A part of the claim. -/
import Derived.Test.YtidpankoobdfjaaGreatDoorLFx0
import Derived.Test.YtidpankoobdfjaaGreatDoorLFx1
-- PRINTED by print.py (a twelfth state) out of the translation. Not trusted: Lean checks it.
namespace Go.Proofs.YtidpankoobdfjaaGreatDoor.L
open Go.RowKit Go.Proofs.YtidpankoobdfjaaGreatDoorW.St Go.Proofs.YtidpankoobdfjaaGreatDoorW.PrintWords Go.Proofs.YtidpankoobdfjaaGreatDoorW.PrintLast Go.Proofs.YtidpankoobdfjaaGreatDoorW.PrintMore
attribute [local go_sem] max2_int min2_int max_two min_two max_three min_three max_four min_four   -- for this text's walks alone
set_option linter.unusedVariables false
set_option linter.unusedSimpArgs false
def spec_l1Reader_number.l0 : Nat → Int → ByteArray → Int → Bool → Option (Int × ByteArray × Int × Bool)
  | 0, _, _, _, _ => none
  | k + 1, x3, x1000, x1001, x1002 => if x1001 < (x1000.size : Int) then (if 0 ≤ x1001 then ((spec_l1In.f (wrap64 (bt x1000 x1001)) 48 57).bind fun t158 => (if t158 = true then (if x1001 < (wrap64 (x3 + 6)) then (spec_l1Reader_number.l0 k x3 x1000 (wrap64 (x1001 + 1)) x1002) else (if 0 ≤ x3 then (if x3 ≤ x1001 then (if x1001 ≤ (x1000.size : Int) then ((spec_l13Num.f k (x1000.extract (x3 : Int).toNat (x1001 : Int).toNat)).bind fun bt159 => (if x1002 = true then (some (bt159.1, x1000, x1001, true)) else (if bt159.2 = true then ((spec_l1In.f bt159.1 0 10006).bind fun t161 => (some (bt159.1, x1000, x1001, !t161))) else (some (bt159.1, x1000, x1001, true))))) else (none)) else (none)) else (none))) else (if 0 ≤ x3 then (if x3 ≤ x1001 then (if x1001 ≤ (x1000.size : Int) then ((spec_l13Num.f k (x1000.extract (x3 : Int).toNat (x1001 : Int).toNat)).bind fun bt162 => (if x1002 = true then (some (bt162.1, x1000, x1001, true)) else (if bt162.2 = true then ((spec_l1In.f bt162.1 0 10006).bind fun t164 => (some (bt162.1, x1000, x1001, !t164))) else (some (bt162.1, x1000, x1001, true))))) else (none)) else (none)) else (none)))) else (none)) else (if 0 ≤ x3 then (if x3 ≤ x1001 then (if x1001 ≤ (x1000.size : Int) then ((spec_l13Num.f k (x1000.extract (x3 : Int).toNat (x1001 : Int).toNat)).bind fun bt165 => (if x1002 = true then (some (bt165.1, x1000, x1001, true)) else (if bt165.2 = true then ((spec_l1In.f bt165.1 0 10006).bind fun t167 => (some (bt165.1, x1000, x1001, !t167))) else (some (bt165.1, x1000, x1001, true))))) else (none)) else (none)) else (none))
def spec_l1Reader_number.f (k : Nat) (s0_0 : ByteArray) (s0_1 : Int) (s0_2 : Bool) : Option (Int × ByteArray × Int × Bool) := spec_l1Reader_number.l0 k s0_1 s0_0 s0_1 s0_2
def spec_l1Reader_number.I0 (s0_0 : ByteArray) (s0_1 : Int) (s0_2 : Bool) (r1 : Int) (r2 : ByteArray) (r3 : Int) (r4 : Bool) (m : Nat) (σ : St) : Prop := ∃ (x3 : Int) (x1000 : ByteArray) (x1001 : Int) (x1002 : Bool), spec_l1Reader_number.l0 m x3 x1000 x1001 x1002 = some (r1, r2, r3, r4) ∧ σ = ⟨[(0, .pt 0 0 0), (3, .v (.int .i64 x3))], [(0, .box 0 134 true [.v (.string x1000), .v (.int .i64 x1001), .v (.bool x1002)])]⟩
structure spec_l1Reader_number.C (k : Nat) : Prop where
 s_l0 : ∀ (s0_0 : ByteArray) (s0_1 : Int) (s0_2 : Bool) (r1 : Int) (r2 : ByteArray) (r3 : Int) (r4 : Bool) (w : World) (ro : Nat → Prop) (B : Nat) (_ : Fr TE (cx0 Tryz.f126 (some (134, [.v (.string s0_0), .v (.int .i64 s0_1), .v (.bool s0_2)])) w ro B)) (x3 : Int) (x1000 : ByteArray) (x1001 : Int) (x1002 : Bool) (_ : spec_l1Reader_number.l0 k x3 x1000 x1001 x1002 = some (r1, r2, r3, r4)), Kp (WS TE (cx0 Tryz.f126 (some (134, [.v (.string s0_0), .v (.int .i64 s0_1), .v (.bool s0_2)])) w ro B) (stkAt [1, 1, 0, 0] [] (bodyOf Tryz.f126) []) ⟨[(0, .pt 0 0 0), (3, .v (.int .i64 x3))], [(0, .box 0 134 true [.v (.string x1000), .v (.int .i64 x1001), .v (.bool x1002)])]⟩ (RetQ TE Tryz.f126 (some (134, [.v (.string s0_0), .v (.int .i64 s0_1), .v (.bool s0_2)])) [.ro (.v (.int .i64 r1))] [.v (.string r2), .v (.int .i64 r3), .v (.bool r4)] w ro B))
set_option maxRecDepth 100000 in
set_option maxHeartbeats 4000000 in
theorem spec_l1Reader_number.c_l0 (k : Nat) (ih : Kp (∀ m, m < k → spec_l1Reader_number.C m)) (s0_0 : ByteArray) (s0_1 : Int) (s0_2 : Bool) (r1 : Int) (r2 : ByteArray) (r3 : Int) (r4 : Bool) (w : World) (ro : Nat → Prop) (B : Nat) (hF : Fr TE (cx0 Tryz.f126 (some (134, [.v (.string s0_0), .v (.int .i64 s0_1), .v (.bool s0_2)])) w ro B)) (x3 : Int) (x1000 : ByteArray) (x1001 : Int) (x1002 : Bool) (h : spec_l1Reader_number.l0 k x3 x1000 x1001 x1002 = some (r1, r2, r3, r4)) : Kp (WS TE (cx0 Tryz.f126 (some (134, [.v (.string s0_0), .v (.int .i64 s0_1), .v (.bool s0_2)])) w ro B) (stkAt [1, 1, 0, 0] [] (bodyOf Tryz.f126) []) ⟨[(0, .pt 0 0 0), (3, .v (.int .i64 x3))], [(0, .box 0 134 true [.v (.string x1000), .v (.int .i64 x1001), .v (.bool x1002)])]⟩ (RetQ TE Tryz.f126 (some (134, [.v (.string s0_0), .v (.int .i64 s0_1), .v (.bool s0_2)])) [.ro (.v (.int .i64 r1))] [.v (.string r2), .v (.int .i64 r3), .v (.bool r4)] w ro B)) := by
 refine ⟨WS.loop (fun m σ => m ≤ k ∧ spec_l1Reader_number.I0 s0_0 s0_1 s0_2 r1 r2 r3 r4 m σ) k ⟨Nat.le_refl k, x3, x1000, x1001, x1002, h, rfl⟩ (fun m σ' hI J0 hJ0 => ?_)⟩
 clear h
 obtain ⟨hk, x3, x1000, x1001, x1002, h, rfl⟩ := hI
 cases m with
 | zero => simp [spec_l1Reader_number.l0] at h
 | succ k' =>
 simp only [spec_l1Reader_number.l0] at h
 by_cases c1 : x1001 < (x1000.size : Int)
 · rw [if_pos c1] at h
   by_cases c2 : 0 ≤ x1001
   · rw [if_pos c2] at h
     obtain ⟨t158, q3, h⟩ := Option.bind_eq_some_iff.1 h
     have q3c := spec_l1In.ctr _ _ _ _ q3
     by_cases c4 : t158 = true
     · rw [if_pos c4] at h
       by_cases c5 : x1001 < (wrap64 (x3 + 6))
       · rw [if_pos c5] at h
         have hb5 := bt_range x1000 x1001
         refine path_ok (k := 8) hF (RetQ_mild _ _ _ _ _ _ _ _) (ds := [.b true, .b true, .b true, .b true, .b true, .b true, .b true, .b true, .b true, .b true, .e 30 (.v (.int .i64 (wrap64 (bt x1000 x1001)))), .b true, .r [.ro (.v (.bool t158))] [], .b true, .b true, .b true, .b true, .b true, .b true, .b true, .b true, .b true, .b true]) (os := [.o [(0, 0), (1, 0), (2, 0), (3, 1), (4, 0), (5, 0), (6, 0), (7, 1), (8, 0), (9, 0), (10, 0), (11, 0), (12, 0), (13, 0), (14, 1), (15, 0), (16, 0), (17, 0), (18, 1), (19, 0), (20, 0), (21, 2), (22, 0), (23, 0), (24, 0), (25, 0), (26, 0), (28, 0), (29, 0), (27, 2), (30, 0), (31, 0)] []]) (c := none) rfl KD ?_
         exact WS.lpc [(0, some 0)] (hJ0 _ _ (Nat.lt_succ_self _) ⟨by omega, x3, x1000, (wrap64 (x1001 + 1)), x1002, h, rfl⟩) KD
       · rw [if_neg c5] at h
         by_cases c7 : 0 ≤ x3
         · rw [if_pos c7] at h
           by_cases c8 : x3 ≤ x1001
           · rw [if_pos c8] at h
             by_cases c9 : x1001 ≤ (x1000.size : Int)
             · rw [if_pos c9] at h
               obtain ⟨⟨t159, t160⟩, q10, h⟩ := Option.bind_eq_some_iff.1 h
               dsimp only at h
               have q10c := spec_l13Num.ctr k' _ _ _ q10
               by_cases c11 : x1002 = true
               · rw [if_pos c11] at h
                 have hb11 := bt_range x1000 x1001
                 refine path_ok (k := 12) hF (RetQ_mild _ _ _ _ _ _ _ _) (ds := [.b true, .b true, .b true, .b true, .b true, .b true, .b true, .b true, .b true, .b true, .e 30 (.v (.int .i64 (wrap64 (bt x1000 x1001)))), .b true, .r [.ro (.v (.bool t158))] [], .b true, .b true, .b true, .b true, .b true, .b true, .b true, .b true, .b true, .b false, .r [.ro (.v (.int .i64 t159)), .ro (.v (.bool t160))] [], .b true, .b true, .b true, .b true, .b true, .b true, .b true]) (os := [.o [(0, 0), (1, 0), (2, 0), (3, 1), (4, 0), (5, 0), (6, 0), (7, 1), (8, 0), (9, 0), (10, 0), (11, 0), (12, 0), (13, 0), (14, 1), (15, 0), (16, 0), (17, 0), (18, 1), (19, 0), (20, 0), (21, 2), (22, 0), (23, 0), (24, 0), (25, 0), (26, 0), (28, 0), (29, 0), (27, 2), (30, 0), (31, 0)] [], .o [(0, 0), (1, 0), (2, 0), (3, 1), (4, 0), (5, 0), (6, 0), (7, 0), (8, 1), (9, 0), (10, 2), (11, 0), (12, 0), (13, 0), (14, 0), (15, 0)] []]) (c := none) rfl KD ?_
                 cases h
                 exact ret_as (ms := [.ro]) rfl KD
               · rw [if_neg c11] at h
                 by_cases c13 : t160 = true
                 · rw [if_pos c13] at h
                   obtain ⟨t161, q14, h⟩ := Option.bind_eq_some_iff.1 h
                   have q14c := spec_l1In.ctr _ _ _ _ q14
                   have hb14 := bt_range x1000 x1001
                   refine path_ok (k := 12) hF (RetQ_mild _ _ _ _ _ _ _ _) (ds := [.b true, .b true, .b true, .b true, .b true, .b true, .b true, .b true, .b true, .b true, .e 30 (.v (.int .i64 (wrap64 (bt x1000 x1001)))), .b true, .r [.ro (.v (.bool t158))] [], .b true, .b true, .b true, .b true, .b true, .b true, .b true, .b true, .b true, .b false, .r [.ro (.v (.int .i64 t159)), .ro (.v (.bool t160))] [], .b false, .b false, .b false, .b false, .b false, .r [.ro (.v (.bool t161))] [], .b false, .b false]) (os := [.o [(0, 0), (1, 0), (2, 0), (3, 1), (4, 0), (5, 0), (6, 0), (7, 1), (8, 0), (9, 0), (10, 0), (11, 0), (12, 0), (13, 0), (14, 1), (15, 0), (16, 0), (17, 0), (18, 1), (19, 0), (20, 0), (21, 2), (22, 0), (23, 0), (24, 0), (25, 0), (26, 0), (28, 0), (29, 0), (27, 2), (30, 0), (31, 0)] [], .o [(0, 0), (1, 0), (2, 0), (3, 1), (4, 0), (5, 0), (6, 0), (7, 0), (8, 1), (9, 0), (10, 2), (11, 0), (12, 0), (13, 0), (14, 0), (15, 0)] []]) (c := none) rfl KD ?_
                   cases h
                   exact ret_as (ms := [.ro]) rfl KD
                 · rw [if_neg c13] at h
                   have hb15 := bt_range x1000 x1001
                   refine path_ok (k := 12) hF (RetQ_mild _ _ _ _ _ _ _ _) (ds := [.b true, .b true, .b true, .b true, .b true, .b true, .b true, .b true, .b true, .b true, .e 30 (.v (.int .i64 (wrap64 (bt x1000 x1001)))), .b true, .r [.ro (.v (.bool t158))] [], .b true, .b true, .b true, .b true, .b true, .b true, .b true, .b true, .b true, .b false, .r [.ro (.v (.int .i64 t159)), .ro (.v (.bool t160))] [], .b false, .b false, .b false, .b true, .b true, .b true, .b true]) (os := [.o [(0, 0), (1, 0), (2, 0), (3, 1), (4, 0), (5, 0), (6, 0), (7, 1), (8, 0), (9, 0), (10, 0), (11, 0), (12, 0), (13, 0), (14, 1), (15, 0), (16, 0), (17, 0), (18, 1), (19, 0), (20, 0), (21, 2), (22, 0), (23, 0), (24, 0), (25, 0), (26, 0), (28, 0), (29, 0), (27, 2), (30, 0), (31, 0)] [], .o [(0, 0), (1, 0), (2, 0), (3, 1), (4, 0), (5, 0), (6, 0), (7, 0), (8, 1), (9, 0), (10, 2), (11, 0), (12, 0), (13, 0), (14, 0), (15, 0)] []]) (c := none) rfl KD ?_
                   cases h
                   exact ret_as (ms := [.ro]) rfl KD
             · rw [if_neg c9] at h
               cases h
           · rw [if_neg c8] at h
             cases h
         · rw [if_neg c7] at h
           cases h
     · rw [if_neg c4] at h
       by_cases c17 : 0 ≤ x3
       · rw [if_pos c17] at h
         by_cases c18 : x3 ≤ x1001
         · rw [if_pos c18] at h
           by_cases c19 : x1001 ≤ (x1000.size : Int)
           · rw [if_pos c19] at h
             obtain ⟨⟨t162, t163⟩, q20, h⟩ := Option.bind_eq_some_iff.1 h
             dsimp only at h
             have q20c := spec_l13Num.ctr k' _ _ _ q20
             by_cases c21 : x1002 = true
             · rw [if_pos c21] at h
               have hb21 := bt_range x1000 x1001
               refine path_ok (k := 12) hF (RetQ_mild _ _ _ _ _ _ _ _) (ds := [.b true, .b true, .b true, .b true, .b true, .b true, .b true, .b true, .b true, .b true, .e 30 (.v (.int .i64 (wrap64 (bt x1000 x1001)))), .b true, .r [.ro (.v (.bool t158))] [], .b true, .b false, .b false, .b false, .b false, .b false, .b false, .b false, .b false, .b false, .r [.ro (.v (.int .i64 t162)), .ro (.v (.bool t163))] [], .b true, .b true, .b true, .b true, .b true, .b true, .b true]) (os := [.o [(0, 0), (1, 0), (2, 0), (3, 1), (4, 0), (5, 0), (6, 0), (7, 1), (8, 0), (9, 0), (10, 0), (11, 0), (12, 0), (13, 0), (14, 1), (15, 0), (16, 0), (17, 0), (18, 1), (19, 0), (20, 0), (21, 2), (22, 0), (23, 0), (24, 0), (25, 0), (26, 0), (28, 0), (29, 0), (27, 2), (30, 0), (31, 0)] [], .o [(0, 0), (1, 0), (2, 0), (3, 1), (4, 0), (5, 0), (6, 0), (7, 0), (8, 1), (9, 0), (10, 2), (11, 0), (12, 0), (13, 0), (14, 0), (15, 0)] []]) (c := none) rfl KD ?_
               cases h
               exact ret_as (ms := [.ro]) rfl KD
             · rw [if_neg c21] at h
               by_cases c23 : t163 = true
               · rw [if_pos c23] at h
                 obtain ⟨t164, q24, h⟩ := Option.bind_eq_some_iff.1 h
                 have q24c := spec_l1In.ctr _ _ _ _ q24
                 have hb24 := bt_range x1000 x1001
                 refine path_ok (k := 12) hF (RetQ_mild _ _ _ _ _ _ _ _) (ds := [.b true, .b true, .b true, .b true, .b true, .b true, .b true, .b true, .b true, .b true, .e 30 (.v (.int .i64 (wrap64 (bt x1000 x1001)))), .b true, .r [.ro (.v (.bool t158))] [], .b true, .b false, .b false, .b false, .b false, .b false, .b false, .b false, .b false, .b false, .r [.ro (.v (.int .i64 t162)), .ro (.v (.bool t163))] [], .b false, .b false, .b false, .b false, .b false, .r [.ro (.v (.bool t164))] [], .b false, .b false]) (os := [.o [(0, 0), (1, 0), (2, 0), (3, 1), (4, 0), (5, 0), (6, 0), (7, 1), (8, 0), (9, 0), (10, 0), (11, 0), (12, 0), (13, 0), (14, 1), (15, 0), (16, 0), (17, 0), (18, 1), (19, 0), (20, 0), (21, 2), (22, 0), (23, 0), (24, 0), (25, 0), (26, 0), (28, 0), (29, 0), (27, 2), (30, 0), (31, 0)] [], .o [(0, 0), (1, 0), (2, 0), (3, 1), (4, 0), (5, 0), (6, 0), (7, 0), (8, 1), (9, 0), (10, 2), (11, 0), (12, 0), (13, 0), (14, 0), (15, 0)] []]) (c := none) rfl KD ?_
                 cases h
                 exact ret_as (ms := [.ro]) rfl KD
               · rw [if_neg c23] at h
                 have hb25 := bt_range x1000 x1001
                 refine path_ok (k := 12) hF (RetQ_mild _ _ _ _ _ _ _ _) (ds := [.b true, .b true, .b true, .b true, .b true, .b true, .b true, .b true, .b true, .b true, .e 30 (.v (.int .i64 (wrap64 (bt x1000 x1001)))), .b true, .r [.ro (.v (.bool t158))] [], .b true, .b false, .b false, .b false, .b false, .b false, .b false, .b false, .b false, .b false, .r [.ro (.v (.int .i64 t162)), .ro (.v (.bool t163))] [], .b false, .b false, .b false, .b true, .b true, .b true, .b true]) (os := [.o [(0, 0), (1, 0), (2, 0), (3, 1), (4, 0), (5, 0), (6, 0), (7, 1), (8, 0), (9, 0), (10, 0), (11, 0), (12, 0), (13, 0), (14, 1), (15, 0), (16, 0), (17, 0), (18, 1), (19, 0), (20, 0), (21, 2), (22, 0), (23, 0), (24, 0), (25, 0), (26, 0), (28, 0), (29, 0), (27, 2), (30, 0), (31, 0)] [], .o [(0, 0), (1, 0), (2, 0), (3, 1), (4, 0), (5, 0), (6, 0), (7, 0), (8, 1), (9, 0), (10, 2), (11, 0), (12, 0), (13, 0), (14, 0), (15, 0)] []]) (c := none) rfl KD ?_
                 cases h
                 exact ret_as (ms := [.ro]) rfl KD
           · rw [if_neg c19] at h
             cases h
         · rw [if_neg c18] at h
           cases h
       · rw [if_neg c17] at h
         cases h
   · rw [if_neg c2] at h
     cases h
 · rw [if_neg c1] at h
   by_cases c27 : 0 ≤ x3
   · rw [if_pos c27] at h
     by_cases c28 : x3 ≤ x1001
     · rw [if_pos c28] at h
       by_cases c29 : x1001 ≤ (x1000.size : Int)
       · rw [if_pos c29] at h
         obtain ⟨⟨t165, t166⟩, q30, h⟩ := Option.bind_eq_some_iff.1 h
         dsimp only at h
         have q30c := spec_l13Num.ctr k' _ _ _ q30
         by_cases c31 : x1002 = true
         · rw [if_pos c31] at h
           refine path_ok (k := 12) hF (RetQ_mild _ _ _ _ _ _ _ _) (ds := [.b false, .b false, .b false, .b false, .b false, .b false, .b false, .b false, .b false, .b false, .b false, .b false, .b false, .b false, .b false, .b false, .b false, .b false, .b false, .b false, .b false, .r [.ro (.v (.int .i64 t165)), .ro (.v (.bool t166))] [], .b true, .b true, .b true, .b true, .b true, .b true, .b true]) (os := [.o [(0, 0), (1, 0), (2, 0), (3, 1), (4, 0), (5, 0), (6, 0), (7, 1), (8, 0), (9, 0), (10, 0), (11, 0), (12, 0), (13, 0), (14, 1), (15, 0), (16, 0), (17, 0), (18, 1), (19, 0), (20, 0), (21, 2), (22, 0), (23, 0), (24, 0), (25, 0), (26, 0), (28, 0), (29, 0), (27, 2), (30, 0), (31, 0)] [], .o [(0, 0), (1, 0), (2, 0), (3, 1), (4, 0), (5, 0), (6, 0), (7, 0), (8, 1), (9, 0), (10, 2), (11, 0), (12, 0), (13, 0), (14, 0), (15, 0)] []]) (c := none) rfl KD ?_
           cases h
           exact ret_as (ms := [.ro]) rfl KD
         · rw [if_neg c31] at h
           by_cases c32 : t166 = true
           · rw [if_pos c32] at h
             obtain ⟨t167, q33, h⟩ := Option.bind_eq_some_iff.1 h
             have q33c := spec_l1In.ctr _ _ _ _ q33
             refine path_ok (k := 12) hF (RetQ_mild _ _ _ _ _ _ _ _) (ds := [.b false, .b false, .b false, .b false, .b false, .b false, .b false, .b false, .b false, .b false, .b false, .b false, .b false, .b false, .b false, .b false, .b false, .b false, .b false, .b false, .b false, .r [.ro (.v (.int .i64 t165)), .ro (.v (.bool t166))] [], .b false, .b false, .b false, .b false, .b false, .r [.ro (.v (.bool t167))] [], .b false, .b false]) (os := [.o [(0, 0), (1, 0), (2, 0), (3, 1), (4, 0), (5, 0), (6, 0), (7, 1), (8, 0), (9, 0), (10, 0), (11, 0), (12, 0), (13, 0), (14, 1), (15, 0), (16, 0), (17, 0), (18, 1), (19, 0), (20, 0), (21, 2), (22, 0), (23, 0), (24, 0), (25, 0), (26, 0), (28, 0), (29, 0), (27, 2), (30, 0), (31, 0)] [], .o [(0, 0), (1, 0), (2, 0), (3, 1), (4, 0), (5, 0), (6, 0), (7, 0), (8, 1), (9, 0), (10, 2), (11, 0), (12, 0), (13, 0), (14, 0), (15, 0)] []]) (c := none) rfl KD ?_
             cases h
             exact ret_as (ms := [.ro]) rfl KD
           · rw [if_neg c32] at h
             refine path_ok (k := 12) hF (RetQ_mild _ _ _ _ _ _ _ _) (ds := [.b false, .b false, .b false, .b false, .b false, .b false, .b false, .b false, .b false, .b false, .b false, .b false, .b false, .b false, .b false, .b false, .b false, .b false, .b false, .b false, .b false, .r [.ro (.v (.int .i64 t165)), .ro (.v (.bool t166))] [], .b false, .b false, .b false, .b true, .b true, .b true, .b true]) (os := [.o [(0, 0), (1, 0), (2, 0), (3, 1), (4, 0), (5, 0), (6, 0), (7, 1), (8, 0), (9, 0), (10, 0), (11, 0), (12, 0), (13, 0), (14, 1), (15, 0), (16, 0), (17, 0), (18, 1), (19, 0), (20, 0), (21, 2), (22, 0), (23, 0), (24, 0), (25, 0), (26, 0), (28, 0), (29, 0), (27, 2), (30, 0), (31, 0)] [], .o [(0, 0), (1, 0), (2, 0), (3, 1), (4, 0), (5, 0), (6, 0), (7, 0), (8, 1), (9, 0), (10, 2), (11, 0), (12, 0), (13, 0), (14, 0), (15, 0)] []]) (c := none) rfl KD ?_
             cases h
             exact ret_as (ms := [.ro]) rfl KD
       · rw [if_neg c29] at h
         cases h
     · rw [if_neg c28] at h
       cases h
   · rw [if_neg c27] at h
     cases h
theorem spec_l1Reader_number.cs (k : Nat) : spec_l1Reader_number.C k := by
 induction k using Nat.strongRecOn with
 | _ k ih0 =>
 have ih : Kp (∀ m, m < k → spec_l1Reader_number.C m) := ⟨ih0⟩
 exact ⟨spec_l1Reader_number.c_l0 k ih⟩
set_option maxRecDepth 100000 in
set_option maxHeartbeats 4000000 in
theorem spec_l1Reader_number.ctr (k : Nat) (s0_0 : ByteArray) (s0_1 : Int) (s0_2 : Bool) (r1 : Int) (r2 : ByteArray) (r3 : Int) (r4 : Bool) (h : spec_l1Reader_number.f k s0_0 s0_1 s0_2 = some (r1, r2, r3, r4)) : Ctr TE 126 (some (134, [.v (.string s0_0), .v (.int .i64 s0_1), .v (.bool s0_2)])) [.pt 0 0 0] [.ro (.v (.int .i64 r1))] [.v (.string r2), .v (.int .i64 r3), .v (.bool r4)] := by
 refine ctr_of (fn := Tryz.f126) (c := (bodyOf Tryz.f126)) Tryz.func126 rfl (by kernel_rfl) (Nat.le_of_ble_eq_true (by kernel_rfl)) (fun w ro B hF _ => ?_)
 have ih : Kp (∀ m, m < k + 1 → spec_l1Reader_number.C m) := ⟨fun m _ => spec_l1Reader_number.cs m⟩
 simp only [spec_l1Reader_number.f] at h
 refine path_ok (k := 6) hF (RetQ_mild _ _ _ _ _ _ _ _) (ds := []) (os := []) (c := none) rfl KD ?_
 exact WS.can [(0, some 0)] (((ih.out k (by omega)).s_l0 s0_0 s0_1 s0_2 r1 r2 r3 r4 w ro B hF s0_1 s0_0 s0_1 s0_2 h).out) KD
def spec_l1Reader_is.f (s0_0 : ByteArray) (s0_1 : Int) (s0_2 : Bool) (a1 : Int) : Option (Bool × ByteArray × Int × Bool) := if s0_1 < (s0_0.size : Int) then (if 0 ≤ s0_1 then (if (bt s0_0 s0_1) = a1 then (some (true, s0_0, wrap64 (s0_1 + 1), s0_2)) else (some (false, s0_0, s0_1, s0_2))) else (none)) else (some (false, s0_0, s0_1, s0_2))
set_option maxRecDepth 100000 in
set_option maxHeartbeats 4000000 in
theorem spec_l1Reader_is.ctr (s0_0 : ByteArray) (s0_1 : Int) (s0_2 : Bool) (a1 : Int) (r1 : Bool) (r2 : ByteArray) (r3 : Int) (r4 : Bool) (h : spec_l1Reader_is.f s0_0 s0_1 s0_2 a1 = some (r1, r2, r3, r4)) : Ctr TE 127 (some (134, [.v (.string s0_0), .v (.int .i64 s0_1), .v (.bool s0_2)])) [.pt 0 0 0, .v (.int .u8 a1)] [.ro (.v (.bool r1))] [.v (.string r2), .v (.int .i64 r3), .v (.bool r4)] := by
 refine ctr_of (fn := Tryz.f127) (c := (bodyOf Tryz.f127)) Tryz.func127 rfl (by kernel_rfl) (Nat.le_of_ble_eq_true (by kernel_rfl)) (fun w ro B hF _ => ?_)
 simp only [spec_l1Reader_is.f] at h
 by_cases c1 : s0_1 < (s0_0.size : Int)
 · rw [if_pos c1] at h
   by_cases c2 : 0 ≤ s0_1
   · rw [if_pos c2] at h
     by_cases c3 : (bt s0_0 s0_1) = a1
     · rw [if_pos c3] at h
       have hb3 := bt_range s0_0 s0_1
       refine path_ok (k := 11) hF (RetQ_mild _ _ _ _ _ _ _ _) (ds := [.b true, .b true, .b true, .b true, .b true, .b true, .b true, .b true, .b true, .b true, .b true, .b true, .b true]) (os := [.o [(0, 0), (1, 0), (2, 0), (3, 1), (4, 0), (5, 0), (6, 0), (7, 1), (8, 0), (9, 0), (10, 0), (11, 0), (12, 0), (13, 0), (14, 1), (15, 0), (16, 0), (17, 0), (18, 1), (19, 0), (20, 0), (21, 0), (22, 0)] []]) (c := none) rfl KD ?_
       cases h
       exact ret_as (ms := [.ro]) rfl KD
     · rw [if_neg c3] at h
       have hb4 := bt_range s0_0 s0_1
       refine path_ok (k := 10) hF (RetQ_mild _ _ _ _ _ _ _ _) (ds := [.b true, .b true, .b true, .b true, .b true, .b true, .b true, .b true, .b true, .b true, .b true, .b true, .b false]) (os := [.o [(0, 0), (1, 0), (2, 0), (3, 1), (4, 0), (5, 0), (6, 0), (7, 1), (8, 0), (9, 0), (10, 0), (11, 0), (12, 0), (13, 0), (14, 1), (15, 0), (16, 0), (17, 0), (18, 1), (19, 0), (20, 0), (21, 0), (22, 0)] []]) (c := none) rfl KD ?_
       cases h
       exact ret_as (ms := [.ro]) rfl KD
   · rw [if_neg c2] at h
     cases h
 · rw [if_neg c1] at h
   refine path_ok (k := 10) hF (RetQ_mild _ _ _ _ _ _ _ _) (ds := [.b false, .b false, .b false, .b false, .b false, .b false, .b false, .b false, .b false, .b false, .b false, .b false, .b false]) (os := [.o [(0, 0), (1, 0), (2, 0), (3, 1), (4, 0), (5, 0), (6, 0), (7, 1), (8, 0), (9, 0), (10, 0), (11, 0), (12, 0), (13, 0), (14, 1), (15, 0), (16, 0), (17, 0), (18, 1), (19, 0), (20, 0), (21, 0), (22, 0)] []]) (c := none) rfl KD ?_
   cases h
   exact ret_as (ms := [.ro]) rfl KD
mutual
def spec_l1Reader_node.l0 : Nat → Int → ByteArray → Int → Bool → Int → List (S79) → Option (Int × (List (S79)) × ByteArray × Int × Bool)
  | 0, _, _, _, _, _, _ => none
  | k + 1, x1, x1000, x1001, x1002, x173000, x173001 => if x1002 = true then (some (x173000, x173001, x1000, x1001, true)) else ((spec_l1Reader_is.f x1000 x1001 x1002 44).bind fun bt195 => (if bt195.1 = true then ((spec_l1Reader_node.f k bt195.2.1 bt195.2.2.1 bt195.2.2.2 (wrap64 (x1 - 1))).bind fun bt199 => (if x173001.length < 4398046511104 then (spec_l1Reader_node.l0 k x1 bt199.2.2.1 bt199.2.2.2.1 bt199.2.2.2.2 x173000 (x173001 ++ [(⟨bt199.1, bt199.2.1⟩ : S79)])) else (none))) else (if bt195.2.2.2 = true then (some (x173000, x173001, bt195.2.1, bt195.2.2.1, true)) else ((spec_l1Reader_is.f bt195.2.1 bt195.2.2.1 bt195.2.2.2 93).bind fun bt209 => (some (x173000, x173001, bt209.2.1, bt209.2.2.1, !bt209.1))))))
def spec_l1Reader_node.f : Nat → ByteArray → Int → Bool → Int → Option (Int × (List (S79)) × ByteArray × Int × Bool)
  | 0, _, _, _, _ => none
  | k + 1, s0_0, s0_1, s0_2, a1 => (some (([] : List (S79)) : List (S79))).bind fun y169 => (if a1 = 0 then ((spec_l1Reader_number.f k s0_0 s0_1 s0_2).bind fun bt173 => (some (bt173.1, y169, bt173.2.1, bt173.2.2.1, bt173.2.2.2))) else ((spec_l1Reader_is.f s0_0 s0_1 s0_2 91).bind fun bt177 => (if bt177.1 = true then ((spec_l1Reader_is.f bt177.2.1 bt177.2.2.1 bt177.2.2.2 93).bind fun bt181 => (if bt181.1 = true then (some (0, y169, bt181.2.1, bt181.2.2.1, bt181.2.2.2)) else ((spec_l1Reader_node.f k bt181.2.1 bt181.2.2.1 bt181.2.2.2 (wrap64 (a1 - 1))).bind fun bt185 => (if y169.length < 4398046511104 then (spec_l1Reader_node.l0 k a1 bt185.2.2.1 bt185.2.2.2.1 bt185.2.2.2.2 0 (y169 ++ [(⟨bt185.1, bt185.2.1⟩ : S79)])) else (none))))) else (some (0, y169, bt177.2.1, bt177.2.2.1, true)))))
end
def spec_l1Reader_node.I0 (s0_0 : ByteArray) (s0_1 : Int) (s0_2 : Bool) (r1 : Int) (r2 : List (S79)) (r3 : ByteArray) (r4 : Int) (r5 : Bool) (m : Nat) (σ : St) : Prop := ∃ (x1 : Int) (x1000 : ByteArray) (x1001 : Int) (x1002 : Bool) (x169000 : Int) (x173000 : Int) (x173001 : List (S79)), spec_l1Reader_node.l0 m x1 x1000 x1001 x1002 x173000 x173001 = some (r1, r2, r3, r4, r5) ∧ σ = ⟨[(0, .pt 0 0 0), (1, .v (.int .i64 x1)), (4, .pt 1004 0 0), (5, .pt 1005 0 0)], [(0, .box 0 134 true [.v (.string x1000), .v (.int .i64 x1001), .v (.bool x1002)]), (1004, .box 0 79 false [.v (.int .i64 x169000), .v (.slice none 0 0)]), (3321, .own 0 79 2 (r79 x173001)), (1005, .box 0 79 false [.v (.int .i64 x173000), .ow 3321 0])]⟩
structure spec_l1Reader_node.C (k : Nat) : Prop where
 s_f : ∀ (s0_0 : ByteArray) (s0_1 : Int) (s0_2 : Bool) (a1 : Int) (r1 : Int) (r2 : List (S79)) (r3 : ByteArray) (r4 : Int) (r5 : Bool), spec_l1Reader_node.f k s0_0 s0_1 s0_2 a1 = some (r1, r2, r3, r4, r5) → Ctr TE 102 (some (134, [.v (.string s0_0), .v (.int .i64 s0_1), .v (.bool s0_2)])) [.pt 0 0 0, .v (.int .i64 a1)] [.ro (.ag [.v (.int .i64 r1), .sl 2 (r79 r2)])] [.v (.string r3), .v (.int .i64 r4), .v (.bool r5)]
 s_l0 : ∀ (s0_0 : ByteArray) (s0_1 : Int) (s0_2 : Bool) (r1 : Int) (r2 : List (S79)) (r3 : ByteArray) (r4 : Int) (r5 : Bool) (w : World) (ro : Nat → Prop) (B : Nat) (_ : Fr TE (cx0 Tryz.f102 (some (134, [.v (.string s0_0), .v (.int .i64 s0_1), .v (.bool s0_2)])) w ro B)) (x1 : Int) (x1000 : ByteArray) (x1001 : Int) (x1002 : Bool) (x169000 : Int) (x173000 : Int) (x173001 : List (S79)) (_ : spec_l1Reader_node.l0 k x1 x1000 x1001 x1002 x173000 x173001 = some (r1, r2, r3, r4, r5)), Kp (WS TE (cx0 Tryz.f102 (some (134, [.v (.string s0_0), .v (.int .i64 s0_1), .v (.bool s0_2)])) w ro B) (stkAt [1, 1, 1, 1, 1, 1, 0, 0] [] (bodyOf Tryz.f102) []) ⟨[(0, .pt 0 0 0), (1, .v (.int .i64 x1)), (4, .pt 1004 0 0), (5, .pt 1005 0 0)], [(0, .box 0 134 true [.v (.string x1000), .v (.int .i64 x1001), .v (.bool x1002)]), (1004, .box 0 79 false [.v (.int .i64 x169000), .v (.slice none 0 0)]), (3321, .own 0 79 2 (r79 x173001)), (1005, .box 0 79 false [.v (.int .i64 x173000), .ow 3321 0])]⟩ (RetQ TE Tryz.f102 (some (134, [.v (.string s0_0), .v (.int .i64 s0_1), .v (.bool s0_2)])) [.ro (.ag [.v (.int .i64 r1), .sl 2 (r79 r2)])] [.v (.string r3), .v (.int .i64 r4), .v (.bool r5)] w ro B))
set_option maxRecDepth 100000 in
set_option maxHeartbeats 4000000 in
theorem spec_l1Reader_node.c_f (k : Nat) (ih : Kp (∀ m, m < k → spec_l1Reader_node.C m)) (s0_0 : ByteArray) (s0_1 : Int) (s0_2 : Bool) (a1 : Int) (r1 : Int) (r2 : List (S79)) (r3 : ByteArray) (r4 : Int) (r5 : Bool) (h : spec_l1Reader_node.f k s0_0 s0_1 s0_2 a1 = some (r1, r2, r3, r4, r5)) : Ctr TE 102 (some (134, [.v (.string s0_0), .v (.int .i64 s0_1), .v (.bool s0_2)])) [.pt 0 0 0, .v (.int .i64 a1)] [.ro (.ag [.v (.int .i64 r1), .sl 2 (r79 r2)])] [.v (.string r3), .v (.int .i64 r4), .v (.bool r5)] := by
 cases k with
 | zero => simp [spec_l1Reader_node.f] at h
 | succ k =>
 simp only [spec_l1Reader_node.f] at h
 refine ctr_of (fn := Tryz.f102) (c := (bodyOf Tryz.f102)) Tryz.func102 rfl (by kernel_rfl) (Nat.le_of_ble_eq_true (by kernel_rfl)) (fun w ro B hF _ => ?_)
 obtain ⟨y169, hy169, h⟩ := Option.bind_eq_some_iff.1 h
 cases hy169
 by_cases c1 : a1 = 0
 · rw [if_pos c1] at h
   obtain ⟨⟨t173, t174, t175, t176⟩, q2, h⟩ := Option.bind_eq_some_iff.1 h
   dsimp only at h
   have q2c := spec_l1Reader_number.ctr k _ _ _ _ _ _ _ q2
   refine path_ok (k := 13) hF (RetQ_mild _ _ _ _ _ _ _ _) (ds := [.p 6 ([]), .b true, .r [.ro (.v (.int .i64 t173))] [.v (.string t174), .v (.int .i64 t175), .v (.bool t176)]]) (os := []) (c := none) rfl KD ?_
   cases h
   exact ret_as (ms := [.ro]) rfl KD
 · rw [if_neg c1] at h
   obtain ⟨⟨t177, t178, t179, t180⟩, q3, h⟩ := Option.bind_eq_some_iff.1 h
   dsimp only at h
   have q3c := spec_l1Reader_is.ctr _ _ _ _ _ _ _ _ q3
   by_cases c4 : t177 = true
   · rw [if_pos c4] at h
     obtain ⟨⟨t181, t182, t183, t184⟩, q5, h⟩ := Option.bind_eq_some_iff.1 h
     dsimp only at h
     have q5c := spec_l1Reader_is.ctr _ _ _ _ _ _ _ _ q5
     by_cases c6 : t181 = true
     · rw [if_pos c6] at h
       refine path_ok (k := 21) hF (RetQ_mild _ _ _ _ _ _ _ _) (ds := [.p 6 ([]), .b false, .r [.ro (.v (.bool t177))] [.v (.string t178), .v (.int .i64 t179), .v (.bool t180)], .b false, .r [.ro (.v (.bool t181))] [.v (.string t182), .v (.int .i64 t183), .v (.bool t184)], .b true]) (os := []) (c := none) rfl KD ?_
       cases h
       exact ret_as (ms := [.ro]) rfl KD
     · rw [if_neg c6] at h
       obtain ⟨⟨t185, t186, t189, t190, t191⟩, q7, h⟩ := Option.bind_eq_some_iff.1 h
       dsimp only at h
       have q7c := (ih.out k (by omega)).s_f _ _ _ _ _ _ _ _ _ q7
       by_cases c8 : (([] : List (S79))).length < 4398046511104
       · rw [if_pos c8] at h
         refine path_ok (k := 23) hF (RetQ_mild _ _ _ _ _ _ _ _) (ds := [.p 6 ([]), .b false, .r [.ro (.v (.bool t177))] [.v (.string t178), .v (.int .i64 t179), .v (.bool t180)], .b false, .r [.ro (.v (.bool t181))] [.v (.string t182), .v (.int .i64 t183), .v (.bool t184)], .b false]) (os := [.p 1023 [⟨0, 10, true, [0]⟩, ⟨1, 9, true, [2]⟩, ⟨5, 8, true, [3]⟩, ⟨13, 7, true, [4]⟩, ⟨29, 6, false, [1, 5]⟩, ⟨31, 5, false, [5]⟩, ⟨61, 5, false, [1, 6]⟩, ⟨63, 4, false, [6]⟩, ⟨125, 4, false, [1]⟩, ⟨127, 3, false, [7]⟩, ⟨255, 2, true, [8]⟩, ⟨511, 1, false, [9]⟩] [(0, true), (2, true), (3, true), (4, true), (1, false), (5, false), (6, false), (7, false), (8, true), (9, false)] [(5, [.r [.ro (.ag [.v (.int .i64 t185), .sl 2 (r79 t186)])] [.v (.string t189), .v (.int .i64 t190), .v (.bool t191)]]), (6, [.p 30 ([[.v (.int .i64 t185), .sl 2 (r79 t186)]])]), (7, [.o 31 (r79 ((([] : List (S79))) ++ [(⟨t185, t186⟩ : S79)]))])]]) (c := none) rfl KD ?_
         exact WS.can [(0, some 0), (1004, some 4), (1005, some 5), (3321, some 6)] (((ih.out k (by omega)).s_l0 s0_0 s0_1 s0_2 r1 r2 r3 r4 r5 w ro B hF a1 t189 t190 t191 0 0 ((([] : List (S79))) ++ [(⟨t185, t186⟩ : S79)]) h).out) KD
       · rw [if_neg c8] at h
         cases h
   · rw [if_neg c4] at h
     refine path_ok (k := 18) hF (RetQ_mild _ _ _ _ _ _ _ _) (ds := [.p 6 ([]), .b false, .r [.ro (.v (.bool t177))] [.v (.string t178), .v (.int .i64 t179), .v (.bool t180)], .b true]) (os := []) (c := none) rfl KD ?_
     cases h
     exact ret_as (ms := [.ro]) rfl KD
set_option maxRecDepth 100000 in
set_option maxHeartbeats 4000000 in
theorem spec_l1Reader_node.c_l0 (k : Nat) (ih : Kp (∀ m, m < k → spec_l1Reader_node.C m)) (s0_0 : ByteArray) (s0_1 : Int) (s0_2 : Bool) (r1 : Int) (r2 : List (S79)) (r3 : ByteArray) (r4 : Int) (r5 : Bool) (w : World) (ro : Nat → Prop) (B : Nat) (hF : Fr TE (cx0 Tryz.f102 (some (134, [.v (.string s0_0), .v (.int .i64 s0_1), .v (.bool s0_2)])) w ro B)) (x1 : Int) (x1000 : ByteArray) (x1001 : Int) (x1002 : Bool) (x169000 : Int) (x173000 : Int) (x173001 : List (S79)) (h : spec_l1Reader_node.l0 k x1 x1000 x1001 x1002 x173000 x173001 = some (r1, r2, r3, r4, r5)) : Kp (WS TE (cx0 Tryz.f102 (some (134, [.v (.string s0_0), .v (.int .i64 s0_1), .v (.bool s0_2)])) w ro B) (stkAt [1, 1, 1, 1, 1, 1, 0, 0] [] (bodyOf Tryz.f102) []) ⟨[(0, .pt 0 0 0), (1, .v (.int .i64 x1)), (4, .pt 1004 0 0), (5, .pt 1005 0 0)], [(0, .box 0 134 true [.v (.string x1000), .v (.int .i64 x1001), .v (.bool x1002)]), (1004, .box 0 79 false [.v (.int .i64 x169000), .v (.slice none 0 0)]), (3321, .own 0 79 2 (r79 x173001)), (1005, .box 0 79 false [.v (.int .i64 x173000), .ow 3321 0])]⟩ (RetQ TE Tryz.f102 (some (134, [.v (.string s0_0), .v (.int .i64 s0_1), .v (.bool s0_2)])) [.ro (.ag [.v (.int .i64 r1), .sl 2 (r79 r2)])] [.v (.string r3), .v (.int .i64 r4), .v (.bool r5)] w ro B)) := by
 refine ⟨WS.loop (fun m σ => m ≤ k ∧ spec_l1Reader_node.I0 s0_0 s0_1 s0_2 r1 r2 r3 r4 r5 m σ) k ⟨Nat.le_refl k, x1, x1000, x1001, x1002, x169000, x173000, x173001, h, rfl⟩ (fun m σ' hI J0 hJ0 => ?_)⟩
 clear h
 obtain ⟨hk, x1, x1000, x1001, x1002, x169000, x173000, x173001, h, rfl⟩ := hI
 cases m with
 | zero => simp [spec_l1Reader_node.l0] at h
 | succ k' =>
 simp only [spec_l1Reader_node.l0] at h
 by_cases c9 : x1002 = true
 · rw [if_pos c9] at h
   refine path_ok (k := 10) hF (RetQ_mild _ _ _ _ _ _ _ _) (ds := [.b false, .b false, .b false, .b false, .b true, .b true, .b true, .b true]) (os := []) (c := none) rfl KD ?_
   cases h
   exact ret_as (ms := [.ro]) rfl KD
 · rw [if_neg c9] at h
   obtain ⟨⟨t195, t196, t197, t198⟩, q10, h⟩ := Option.bind_eq_some_iff.1 h
   dsimp only at h
   have q10c := spec_l1Reader_is.ctr _ _ _ _ _ _ _ _ q10
   by_cases c11 : t195 = true
   · rw [if_pos c11] at h
     obtain ⟨⟨t199, t200, t203, t204, t205⟩, q12, h⟩ := Option.bind_eq_some_iff.1 h
     dsimp only at h
     have q12c := (ih.out k' (by omega)).s_f _ _ _ _ _ _ _ _ _ q12
     by_cases c13 : x173001.length < 4398046511104
     · rw [if_pos c13] at h
       refine path_ok (k := 8) hF (RetQ_mild _ _ _ _ _ _ _ _) (ds := [.b true, .b true, .r [.ro (.v (.bool t195))] [.v (.string t196), .v (.int .i64 t197), .v (.bool t198)], .b true, .b true]) (os := [.p 1023 [⟨0, 10, true, [0]⟩, ⟨1, 9, true, [2]⟩, ⟨5, 8, true, [3]⟩, ⟨13, 7, true, [4]⟩, ⟨29, 6, false, [1, 5]⟩, ⟨31, 5, false, [5]⟩, ⟨61, 5, false, [1, 6]⟩, ⟨63, 4, false, [6]⟩, ⟨125, 4, false, [1]⟩, ⟨127, 3, false, [7]⟩, ⟨255, 2, true, [8]⟩, ⟨511, 1, false, [9]⟩] [(0, true), (2, true), (3, true), (4, true), (1, false), (5, false), (6, false), (7, false), (8, true), (9, false)] [(5, [.r [.ro (.ag [.v (.int .i64 t199), .sl 2 (r79 t200)])] [.v (.string t203), .v (.int .i64 t204), .v (.bool t205)]]), (6, [.p 48 ([[.v (.int .i64 t199), .sl 2 (r79 t200)]])]), (7, [.o 49 (r79 (x173001 ++ [(⟨t199, t200⟩ : S79)]))])]]) (c := none) rfl KD ?_
       exact WS.lpc [(0, some 0), (1004, some 1004), (1005, some 1005), (3321, some 3321)] (hJ0 _ _ (Nat.lt_succ_self _) ⟨by omega, x1, t203, t204, t205, x169000, x173000, (x173001 ++ [(⟨t199, t200⟩ : S79)]), h, rfl⟩) KD
     · rw [if_neg c13] at h
       cases h
   · rw [if_neg c11] at h
     by_cases c14 : t198 = true
     · rw [if_pos c14] at h
       refine path_ok (k := 10) hF (RetQ_mild _ _ _ _ _ _ _ _) (ds := [.b true, .b true, .r [.ro (.v (.bool t195))] [.v (.string t196), .v (.int .i64 t197), .v (.bool t198)], .b true, .b false, .b true, .b true, .b true, .b true]) (os := []) (c := none) rfl KD ?_
       cases h
       exact ret_as (ms := [.ro]) rfl KD
     · rw [if_neg c14] at h
       obtain ⟨⟨t209, t210, t211, t212⟩, q15, h⟩ := Option.bind_eq_some_iff.1 h
       dsimp only at h
       have q15c := spec_l1Reader_is.ctr _ _ _ _ _ _ _ _ q15
       refine path_ok (k := 10) hF (RetQ_mild _ _ _ _ _ _ _ _) (ds := [.b true, .b true, .r [.ro (.v (.bool t195))] [.v (.string t196), .v (.int .i64 t197), .v (.bool t198)], .b true, .b false, .b false, .b false, .r [.ro (.v (.bool t209))] [.v (.string t210), .v (.int .i64 t211), .v (.bool t212)], .b false, .b false]) (os := []) (c := none) rfl KD ?_
       cases h
       exact ret_as (ms := [.ro]) rfl KD
theorem spec_l1Reader_node.cs (k : Nat) : spec_l1Reader_node.C k := by
 induction k using Nat.strongRecOn with
 | _ k ih0 =>
 have ih : Kp (∀ m, m < k → spec_l1Reader_node.C m) := ⟨ih0⟩
 exact ⟨spec_l1Reader_node.c_f k ih, spec_l1Reader_node.c_l0 k ih⟩
theorem spec_l1Reader_node.ctr (k : Nat) (s0_0 : ByteArray) (s0_1 : Int) (s0_2 : Bool) (a1 : Int) (r1 : Int) (r2 : List (S79)) (r3 : ByteArray) (r4 : Int) (r5 : Bool) (h : spec_l1Reader_node.f k s0_0 s0_1 s0_2 a1 = some (r1, r2, r3, r4, r5)) : Ctr TE 102 (some (134, [.v (.string s0_0), .v (.int .i64 s0_1), .v (.bool s0_2)])) [.pt 0 0 0, .v (.int .i64 a1)] [.ro (.ag [.v (.int .i64 r1), .sl 2 (r79 r2)])] [.v (.string r3), .v (.int .i64 r4), .v (.bool r5)] := (spec_l1Reader_node.cs k).s_f s0_0 s0_1 s0_2 a1 r1 r2 r3 r4 r5 h
def spec_l1Read.j0 : Nat → ByteArray → Int → Bool → Option (Int × (List (S79)) × Bool)
  | 0, _, _, _ => none
  | k + 1, x0, x1, x15 => if x15 = true then (some (0, ([] : List (S79)), false)) else ((spec_l1Reader_node.f k x0 0 false x1).bind fun bt216 => (if bt216.2.2.2.2 = true then (some (0, ([] : List (S79)), false)) else (if bt216.2.2.2.1 = (x0.size : Int) then (some (bt216.1, bt216.2.1, true)) else (some (0, ([] : List (S79)), false)))))
def spec_l1Read.f (k : Nat) (a0 : ByteArray) (a1 : Int) : Option (Int × (List (S79)) × Bool) := (spec_l1In.f a1 0 3).bind fun t214 => (if t214 = true then (spec_l1Read.j0 k a0 a1 (decide ((a0.size : Int) > 400))) else (spec_l1Read.j0 k a0 a1 true))
structure spec_l1Read.C (k : Nat) : Prop where
 s_j0 : ∀ (r1 : Int) (r2 : List (S79)) (r3 : Bool) (w : World) (ro : Nat → Prop) (B : Nat) (_ : Fr TE (cx0 Tryz.f60 none w ro B)) (x0 : ByteArray) (x1 : Int) (x15 : Bool) (x214000 : Int) (_ : spec_l1Read.j0 k x0 x1 x15 = some (r1, r2, r3)), Kp (WS TE (cx0 Tryz.f60 none w ro B) (stkAt [1, 0, 0, 9] [] (bodyOf Tryz.f60) []) ⟨[(0, .v (.string x0)), (1, .v (.int .i64 x1)), (4, .pt 1004 0 0), (15, .v (.bool x15))], [(1004, .box 0 79 false [.v (.int .i64 x214000), .v (.slice none 0 0)])]⟩ (RetQ TE Tryz.f60 none [.ro (.ag [.v (.int .i64 r1), .sl 2 (r79 r2)]), .ro (.v (.bool r3))] [] w ro B))
set_option maxRecDepth 100000 in
set_option maxHeartbeats 4000000 in
theorem spec_l1Read.c_j0 (k : Nat) (ih : Kp (∀ m, m < k → spec_l1Read.C m)) (r1 : Int) (r2 : List (S79)) (r3 : Bool) (w : World) (ro : Nat → Prop) (B : Nat) (hF : Fr TE (cx0 Tryz.f60 none w ro B)) (x0 : ByteArray) (x1 : Int) (x15 : Bool) (x214000 : Int) (h : spec_l1Read.j0 k x0 x1 x15 = some (r1, r2, r3)) : Kp (WS TE (cx0 Tryz.f60 none w ro B) (stkAt [1, 0, 0, 9] [] (bodyOf Tryz.f60) []) ⟨[(0, .v (.string x0)), (1, .v (.int .i64 x1)), (4, .pt 1004 0 0), (15, .v (.bool x15))], [(1004, .box 0 79 false [.v (.int .i64 x214000), .v (.slice none 0 0)])]⟩ (RetQ TE Tryz.f60 none [.ro (.ag [.v (.int .i64 r1), .sl 2 (r79 r2)]), .ro (.v (.bool r3))] [] w ro B)) := by
 refine ⟨?_⟩
 cases k with
 | zero => simp [spec_l1Read.j0] at h
 | succ k =>
 simp only [spec_l1Read.j0] at h
 by_cases c3 : x15 = true
 · rw [if_pos c3] at h
   refine path_ok (k := 4) hF (RetQ_mild _ _ _ _ _ _ _ _) (ds := [.b true]) (os := []) (c := none) rfl KD ?_
   cases h
   exact ret_as (ms := [.ro, .ro]) rfl KD
 · rw [if_neg c3] at h
   obtain ⟨⟨t216, t217, t220, t221, t222⟩, q4, h⟩ := Option.bind_eq_some_iff.1 h
   dsimp only at h
   have q4c := spec_l1Reader_node.ctr k _ _ _ _ _ _ _ _ _ q4
   by_cases c5 : t222 = true
   · rw [if_pos c5] at h
     refine path_ok (k := 13) hF (RetQ_mild _ _ _ _ _ _ _ _) (ds := [.b false, .r [.ro (.ag [.v (.int .i64 t216), .sl 2 (r79 t217)])] [.v (.string t220), .v (.int .i64 t221), .v (.bool t222)], .b true, .b true, .b true, .b true, .b true, .b true, .b true, .b true, .b true]) (os := []) (c := none) rfl KD ?_
     cases h
     exact ret_as (ms := [.ro, .ro]) rfl KD
   · rw [if_neg c5] at h
     by_cases c6 : t221 = (x0.size : Int)
     · rw [if_pos c6] at h
       refine path_ok (k := 14) hF (RetQ_mild _ _ _ _ _ _ _ _) (ds := [.b false, .r [.ro (.ag [.v (.int .i64 t216), .sl 2 (r79 t217)])] [.v (.string t220), .v (.int .i64 t221), .v (.bool t222)], .b false, .b false, .b false, .b false, .b false, .b false, .b false, .b false, .b false]) (os := []) (c := none) rfl KD ?_
       cases h
       exact ret_as (ms := [.ro, .ro]) rfl KD
     · rw [if_neg c6] at h
       refine path_ok (k := 13) hF (RetQ_mild _ _ _ _ _ _ _ _) (ds := [.b false, .r [.ro (.ag [.v (.int .i64 t216), .sl 2 (r79 t217)])] [.v (.string t220), .v (.int .i64 t221), .v (.bool t222)], .b false, .b false, .b false, .b false, .b false, .b false, .b false, .b false, .b true]) (os := []) (c := none) rfl KD ?_
       cases h
       exact ret_as (ms := [.ro, .ro]) rfl KD
theorem spec_l1Read.cs (k : Nat) : spec_l1Read.C k := by
 induction k using Nat.strongRecOn with
 | _ k ih0 =>
 have ih : Kp (∀ m, m < k → spec_l1Read.C m) := ⟨ih0⟩
 exact ⟨spec_l1Read.c_j0 k ih⟩
set_option maxRecDepth 100000 in
set_option maxHeartbeats 4000000 in
theorem spec_l1Read.ctr (k : Nat) (a0 : ByteArray) (a1 : Int) (r1 : Int) (r2 : List (S79)) (r3 : Bool) (h : spec_l1Read.f k a0 a1 = some (r1, r2, r3)) : Ctr TE 60 none [.v (.string a0), .v (.int .i64 a1)] [.ro (.ag [.v (.int .i64 r1), .sl 2 (r79 r2)]), .ro (.v (.bool r3))] [] := by
 refine ctr_of (fn := Tryz.f60) (c := (bodyOf Tryz.f60)) Tryz.func60 rfl (by kernel_rfl) (Nat.le_of_ble_eq_true (by kernel_rfl)) (fun w ro B hF _ => ?_)
 have ih : Kp (∀ m, m < k + 1 → spec_l1Read.C m) := ⟨fun m _ => spec_l1Read.cs m⟩
 simp only [spec_l1Read.f] at h
 obtain ⟨t214, q1, h⟩ := Option.bind_eq_some_iff.1 h
 have q1c := spec_l1In.ctr _ _ _ _ q1
 by_cases c2 : t214 = true
 · rw [if_pos c2] at h
   refine path_ok (k := 5) hF (RetQ_mild _ _ _ _ _ _ _ _) (ds := [.r [.ro (.v (.bool t214))] [], .b false, .b false, .b false, .b false]) (os := []) (c := none) rfl KD ?_
   exact WS.can [(1004, some 4)] (((ih.out k (by omega)).s_j0  r1 r2 r3 w ro B hF a0 a1 (decide ((a0.size : Int) > 400)) 0 h).out) KD
 · rw [if_neg c2] at h
   refine path_ok (k := 5) hF (RetQ_mild _ _ _ _ _ _ _ _) (ds := [.r [.ro (.v (.bool t214))] [], .b true, .b true, .b true, .b true]) (os := []) (c := none) rfl KD ?_
   exact WS.can [(1004, some 4)] (((ih.out k (by omega)).s_j0  r1 r2 r3 w ro B hF a0 a1 true 0 h).out) KD
end Go.Proofs.YtidpankoobdfjaaGreatDoor.L
