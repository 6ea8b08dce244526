/- A part of the claim. -/
import Derived.Test.YtidpankoobdfjaaGreatDoorLFx0
import Derived.Test.YtidpankoobdfjaaGreatDoorLFx1
import Derived.Test.YtidpankoobdfjaaGreatDoorLFSgc
import Derived.Test.YtidpankoobdfjaaGreatDoorLFSgs
import Derived.Test.YtidpankoobdfjaaGreatDoorLFSgv
import Derived.Test.YtidpankoobdfjaaGreatDoorLFSgw
-- PRINTED by print.py (a twelfth state) out of the translation. Not trusted: Lean checks it.
namespace Go.Proofs.YtidpankoobdfjaaGreatDoor.L
open Go.RowKit Go.Proofs.YtidpankoobdfjaaGreatDoorW.St Go.Proofs.YtidpankoobdfjaaGreatDoorW.PrintWords Go.Proofs.YtidpankoobdfjaaGreatDoorW.PrintLast Go.Proofs.YtidpankoobdfjaaGreatDoorW.PrintMore
attribute [local go_sem] max2_int min2_int max_two min_two max_three min_three max_four min_four   -- for this text's walks alone
set_option linter.unusedVariables false
set_option linter.unusedSimpArgs false
def spec_LayOut.f (k : Nat) (a0 : ByteArray) (a1 : Int) : Option ((List (List Int)) × List Int × Bool) := (spec_l2RawLayOut.f k a0 a1).bind fun bt225 => ((spec_l13OwnLayout.f k bt225.1 bt225.2.1).bind fun bt233 => (some (bt233.1, bt233.2, bt225.2.2)))
set_option maxRecDepth 100000 in
set_option maxHeartbeats 4000000 in
theorem spec_LayOut.ctr (k : Nat) (a0 : ByteArray) (a1 : Int) (r1 : List (List Int)) (r2 : List Int) (r3 : Bool) (h : spec_LayOut.f k a0 a1 = some (r1, r2, r3)) : Ctr TE 115 none [.v (.string a0), .v (.int .i64 a1)] [.ro (.ag [.sl 1 (rX (cL (cI .i64) 1) r1), .sl 1 (rX (cI .i64) r2)]), .ro (.v (.bool r3))] [] := by
 refine ctr_of (fn := Tryz.f115) (c := (bodyOf Tryz.f115)) Tryz.func115 rfl (by kernel_rfl) (Nat.le_of_ble_eq_true (by kernel_rfl)) (fun w ro B hF _ => ?_)
 simp only [spec_LayOut.f] at h
 obtain ⟨⟨t225, t228, t231⟩, q1, h⟩ := Option.bind_eq_some_iff.1 h
 dsimp only at h
 have q1c := spec_l2RawLayOut.ctr k _ _ _ _ _ q1
 obtain ⟨⟨t233, t236⟩, q2, h⟩ := Option.bind_eq_some_iff.1 h
 dsimp only at h
 have q2c := spec_l13OwnLayout.ctr k _ _ _ _ q2
 refine path_ok (k := 7) hF (RetQ_mild _ _ _ _ _ _ _ _) (ds := [.r [.ro (.ag [.sl 1 (rX (cL (cI .i64) 1) t225), .sl 1 (rX (cI .i64) t228)]), .ro (.v (.bool t231))] [], .r [.ro (.ag [.sl 1 (rX (cL (cI .i64) 1) t233), .sl 1 (rX (cI .i64) t236)])] []]) (os := []) (c := none) rfl KD ?_
 cases h
 exact ret_as (ms := [.ro, .ro]) rfl KD
def spec_l2Draw.f (k : Nat) (s0_0 : List Int) (s0_1 : Int) : Option ((List (List Int)) × List Int × Int) := (spec_l13Rd_num.f k s0_0 s0_1 (([2, 1, 3, 0, 2] : List Int))).bind fun bt243 => ((spec_l1Draw.f k s0_0 bt243.2 bt243.1).bind fun bt245 => ((spec_LayOut.f k bt245.1 bt243.1).bind fun bt247 => (if bt247.2.2 = true then (some (bt247.1, bt247.2.1, bt245.2)) else ((spec_LayOut.f k (⟨#[91, 49, 44, 50, 93]⟩ : ByteArray) 1).bind fun bt255 => (some (bt255.1, bt255.2.1, bt245.2))))))
set_option maxRecDepth 100000 in
set_option maxHeartbeats 4000000 in
theorem spec_l2Draw.ctr (k : Nat) (s0_0 : List Int) (s0_1 : Int) (r1 : List (List Int)) (r2 : List Int) (r3 : Int) (h : spec_l2Draw.f k s0_0 s0_1 = some (r1, r2, r3)) : Ctr TE 82 (some (112, [.sl 1 (rX (cI .u8) s0_0), .v (.int .i64 s0_1)])) [.pt 0 0 0] [.ro (.ag [.sl 1 (rX (cL (cI .i64) 1) r1), .sl 1 (rX (cI .i64) r2)])] [.sl 1 (rX (cI .u8) s0_0), .v (.int .i64 r3)] := by
 refine ctr_of (fn := Tryz.f82) (c := (bodyOf Tryz.f82)) Tryz.func82 rfl (by kernel_rfl) (Nat.le_of_ble_eq_true (by kernel_rfl)) (fun w ro B hF _ => ?_)
 simp only [spec_l2Draw.f] at h
 obtain ⟨⟨t243, t244⟩, q1, h⟩ := Option.bind_eq_some_iff.1 h
 dsimp only at h
 have q1c := spec_l13Rd_num.ctr k _ _ _ _ _ q1
 obtain ⟨⟨t245, t246⟩, q2, h⟩ := Option.bind_eq_some_iff.1 h
 dsimp only at h
 have q2c := spec_l1Draw.ctr k _ _ _ _ _ q2
 obtain ⟨⟨t247, t250, t253⟩, q3, h⟩ := Option.bind_eq_some_iff.1 h
 dsimp only at h
 have q3c := spec_LayOut.ctr k _ _ _ _ _ q3
 by_cases c4 : t253 = true
 · rw [if_pos c4] at h
   refine path_ok (k := 16) hF (RetQ_mild _ _ _ _ _ _ _ _) (ds := [.p 8 ([[.v (.int .i64 2)], [.v (.int .i64 1)], [.v (.int .i64 3)], [.v (.int .i64 0)], [.v (.int .i64 2)]]), .r [.ro (.v (.int .i64 t243))] [.sl 1 (rX (cI .u8) s0_0), .v (.int .i64 t244)], .r [.ro (.v (.string t245))] [.sl 1 (rX (cI .u8) s0_0), .v (.int .i64 t246)], .r [.ro (.ag [.sl 1 (rX (cL (cI .i64) 1) t247), .sl 1 (rX (cI .i64) t250)]), .ro (.v (.bool t253))] [], .b false]) (os := []) (c := none) rfl KD ?_
   cases h
   exact ret_as (ms := [.ro]) rfl KD
 · rw [if_neg c4] at h
   obtain ⟨⟨t255, t258, t261⟩, q5, h⟩ := Option.bind_eq_some_iff.1 h
   dsimp only at h
   have q5c := spec_LayOut.ctr k _ _ _ _ _ q5
   refine path_ok (k := 16) hF (RetQ_mild _ _ _ _ _ _ _ _) (ds := [.p 8 ([[.v (.int .i64 2)], [.v (.int .i64 1)], [.v (.int .i64 3)], [.v (.int .i64 0)], [.v (.int .i64 2)]]), .r [.ro (.v (.int .i64 t243))] [.sl 1 (rX (cI .u8) s0_0), .v (.int .i64 t244)], .r [.ro (.v (.string t245))] [.sl 1 (rX (cI .u8) s0_0), .v (.int .i64 t246)], .r [.ro (.ag [.sl 1 (rX (cL (cI .i64) 1) t247), .sl 1 (rX (cI .i64) t250)]), .ro (.v (.bool t253))] [], .b true, .r [.ro (.ag [.sl 1 (rX (cL (cI .i64) 1) t255), .sl 1 (rX (cI .i64) t258)]), .ro (.v (.bool t261))] []]) (os := []) (c := none) rfl KD ?_
   cases h
   exact ret_as (ms := [.ro]) rfl KD
def spec_l2Some.f (k : Nat) (s0_0 : List Int) (s0_1 : Int) : Option ((List (List Int)) × List Int × Int) := (spec_l2Draw.f k s0_0 s0_1).bind fun bt263 => ((spec_l13Rd_pick.f k s0_0 bt263.2.2 24).bind fun bt271 => (if bt271.1 = 0 then ((some (([] : List Int) : List Int)).bind fun y273 => (if y273.length + bt263.2.1.length < 17592186044416 then ((some (y273 ++ bt263.2.1 : List Int)).bind fun y276 => ((spec_l13Rd_num.f k s0_0 bt271.2 (([0, (-1), 10007] : List Int))).bind fun bt282 => (if y276.length < 17592186044416 then (some (bt263.1, (y276 ++ [bt282.1]), bt282.2)) else (none)))) else (none))) else (if bt271.1 = 1 then ((some (([] : List (List Int)) : List (List Int))).bind fun y287 => (if y287.length + bt263.1.length < 5864062014805 then ((some (y287 ++ bt263.1 : List (List Int))).bind fun y290 => ((spec_l13Rd_num.f k s0_0 bt271.2 (([1, (-1), 0, 9223372036854775807] : List Int))).bind fun bt296 => (if y290.length < 5864062014805 then (some ((y290 ++ [(([bt296.1] : List Int))]), bt263.2.1, bt296.2)) else (none)))) else (none))) else (if bt271.1 = 2 then (if (bt263.1.length : Int) > 0 then ((spec_l13Rd_num.f k s0_0 bt271.2 (([0, 2, (-1), 9223372036854775807] : List Int))).bind fun bt307 => ((some (([(([bt307.1] : List Int))] : List (List Int)) : List (List Int))).bind fun y312 => (if 1 ≤ (bt263.1.length : Int) then ((some (bt263.1.drop 1 : List (List Int))).bind fun y315 => (if y312.length + y315.length < 5864062014805 then (some ((y312 ++ y315), bt263.2.1, bt307.2)) else (none))) else (none)))) else (some (bt263.1, bt263.2.1, bt271.2))) else (if bt271.1 = 3 then ((some (([(([1] : List Int)), (([1] : List Int)), (([1] : List Int))] : List (List Int)) : List (List Int))).bind fun y332 => (if y332.length + bt263.1.length < 5864062014805 then (some ((y332 ++ bt263.1), bt263.2.1, bt271.2)) else (none))) else (some (bt263.1, bt263.2.1, bt271.2)))))))
set_option maxRecDepth 100000 in
set_option maxHeartbeats 4000000 in
theorem spec_l2Some.ctr (k : Nat) (s0_0 : List Int) (s0_1 : Int) (r1 : List (List Int)) (r2 : List Int) (r3 : Int) (h : spec_l2Some.f k s0_0 s0_1 = some (r1, r2, r3)) : Ctr TE 75 (some (112, [.sl 1 (rX (cI .u8) s0_0), .v (.int .i64 s0_1)])) [.pt 0 0 0] [.ro (.ag [.sl 1 (rX (cL (cI .i64) 1) r1), .sl 1 (rX (cI .i64) r2)])] [.sl 1 (rX (cI .u8) s0_0), .v (.int .i64 r3)] := by
 refine ctr_of (fn := Tryz.f75) (c := (bodyOf Tryz.f75)) Tryz.func75 rfl (by kernel_rfl) (Nat.le_of_ble_eq_true (by kernel_rfl)) (fun w ro B hF _ => ?_)
 simp only [spec_l2Some.f] at h
 obtain ⟨⟨t263, t266, t269⟩, q1, h⟩ := Option.bind_eq_some_iff.1 h
 dsimp only at h
 have q1c := spec_l2Draw.ctr k _ _ _ _ _ q1
 obtain ⟨⟨t271, t272⟩, q2, h⟩ := Option.bind_eq_some_iff.1 h
 dsimp only at h
 have q2c := spec_l13Rd_pick.ctr k _ _ _ _ _ q2
 by_cases c3 : t271 = 0
 · rw [if_pos c3] at h
   obtain ⟨y273, hy273, h⟩ := Option.bind_eq_some_iff.1 h
   cases hy273
   by_cases c4 : (([] : List Int)).length + t266.length < 17592186044416
   · rw [if_pos c4] at h
     obtain ⟨y276, hy276, h⟩ := Option.bind_eq_some_iff.1 h
     cases hy276
     obtain ⟨⟨t282, t283⟩, q5, h⟩ := Option.bind_eq_some_iff.1 h
     dsimp only at h
     have q5c := spec_l13Rd_num.ctr k _ _ _ _ _ q5
     by_cases c6 : ((([] : List Int)) ++ t266).length < 17592186044416
     · rw [if_pos c6] at h
       refine path_ok (k := 16) hF (RetQ_mild _ _ _ _ _ _ _ _) (ds := [.r [.ro (.ag [.sl 1 (rX (cL (cI .i64) 1) t263), .sl 1 (rX (cI .i64) t266)])] [.sl 1 (rX (cI .u8) s0_0), .v (.int .i64 t269)], .r [.ro (.v (.int .i64 t271))] [.sl 1 (rX (cI .u8) s0_0), .v (.int .i64 t272)], .b true, .p 10 ([]), .o 13 (rX (cI .i64) ((([] : List Int)) ++ t266)), .p 15 ([[.v (.int .i64 0)], [.v (.int .i64 (-1))], [.v (.int .i64 10007)]]), .r [.ro (.v (.int .i64 t282))] [.sl 1 (rX (cI .u8) s0_0), .v (.int .i64 t283)], .p 17 ([[.v (.int .i64 t282)]]), .o 18 (rX (cI .i64) (((([] : List Int)) ++ t266) ++ [t282]))]) (os := []) (c := none) rfl KD ?_
       cases h
       exact ret_as (ms := [.ro]) rfl KD
     · rw [if_neg c6] at h
       cases h
   · rw [if_neg c4] at h
     cases h
 · rw [if_neg c3] at h
   by_cases c7 : t271 = 1
   · rw [if_pos c7] at h
     obtain ⟨y287, hy287, h⟩ := Option.bind_eq_some_iff.1 h
     cases hy287
     by_cases c8 : (([] : List (List Int))).length + t263.length < 5864062014805
     · rw [if_pos c8] at h
       obtain ⟨y290, hy290, h⟩ := Option.bind_eq_some_iff.1 h
       cases hy290
       obtain ⟨⟨t296, t297⟩, q9, h⟩ := Option.bind_eq_some_iff.1 h
       dsimp only at h
       have q9c := spec_l13Rd_num.ctr k _ _ _ _ _ q9
       by_cases c10 : ((([] : List (List Int))) ++ t263).length < 5864062014805
       · rw [if_pos c10] at h
         refine path_ok (k := 19) hF (RetQ_mild _ _ _ _ _ _ _ _) (ds := [.r [.ro (.ag [.sl 1 (rX (cL (cI .i64) 1) t263), .sl 1 (rX (cI .i64) t266)])] [.sl 1 (rX (cI .u8) s0_0), .v (.int .i64 t269)], .r [.ro (.v (.int .i64 t271))] [.sl 1 (rX (cI .u8) s0_0), .v (.int .i64 t272)], .b false, .b true, .p 22 ([]), .o 25 (rX (cL (cI .i64) 1) ((([] : List (List Int))) ++ t263)), .p 27 ([[.v (.int .i64 1)], [.v (.int .i64 (-1))], [.v (.int .i64 0)], [.v (.int .i64 9223372036854775807)]]), .r [.ro (.v (.int .i64 t296))] [.sl 1 (rX (cI .u8) s0_0), .v (.int .i64 t297)], .p 29 ([[.v (.int .i64 t296)]]), .p 30 ([[.sl 1 (rX (cI .i64) (([t296] : List Int)))]]), .o 31 (rX (cL (cI .i64) 1) (((([] : List (List Int))) ++ t263) ++ [(([t296] : List Int))]))]) (os := []) (c := none) rfl KD ?_
         cases h
         exact ret_as (ms := [.ro]) rfl KD
       · rw [if_neg c10] at h
         cases h
     · rw [if_neg c8] at h
       cases h
   · rw [if_neg c7] at h
     by_cases c11 : t271 = 2
     · rw [if_pos c11] at h
       by_cases c12 : (t263.length : Int) > 0
       · rw [if_pos c12] at h
         obtain ⟨⟨t307, t308⟩, q13, h⟩ := Option.bind_eq_some_iff.1 h
         dsimp only at h
         have q13c := spec_l13Rd_num.ctr k _ _ _ _ _ q13
         obtain ⟨y312, hy312, h⟩ := Option.bind_eq_some_iff.1 h
         cases hy312
         by_cases c14 : 1 ≤ (t263.length : Int)
         · rw [if_pos c14] at h
           obtain ⟨y315, hy315, h⟩ := Option.bind_eq_some_iff.1 h
           cases hy315
           by_cases c15 : (([(([t307] : List Int))] : List (List Int))).length + (t263.drop 1).length < 5864062014805
           · rw [if_pos c15] at h
             refine path_ok (k := 25) hF (RetQ_mild _ _ _ _ _ _ _ _) (ds := [.r [.ro (.ag [.sl 1 (rX (cL (cI .i64) 1) t263), .sl 1 (rX (cI .i64) t266)])] [.sl 1 (rX (cI .u8) s0_0), .v (.int .i64 t269)], .r [.ro (.v (.int .i64 t271))] [.sl 1 (rX (cI .u8) s0_0), .v (.int .i64 t272)], .b false, .b false, .b true, .e 37 (.v (.int .i64 (t263.length : Int))), .b true]) (os := [.p 2047 [⟨0, 11, true, [0]⟩, ⟨1, 10, true, [5]⟩, ⟨33, 9, false, [1, 6]⟩, ⟨35, 8, false, [2, 6]⟩, ⟨97, 8, true, [7]⟩, ⟨39, 7, false, [3, 6]⟩, ⟨99, 7, true, [7]⟩, ⟨225, 7, false, [1]⟩, ⟨47, 6, false, [4, 6]⟩, ⟨103, 6, true, [7]⟩, ⟨227, 6, false, [2]⟩, ⟨63, 5, false, [6]⟩, ⟨111, 5, true, [7]⟩, ⟨231, 5, false, [3]⟩, ⟨127, 4, true, [7]⟩, ⟨239, 4, false, [4]⟩, ⟨255, 3, false, [8]⟩, ⟨511, 2, true, [9]⟩, ⟨1023, 1, false, [10]⟩] [(0, true), (5, true), (1, false), (2, false), (3, false), (4, false), (6, false), (7, true), (8, false), (9, true), (10, false)] [(1, [.p 40 ([[.v (.int .i64 0)], [.v (.int .i64 2)], [.v (.int .i64 (-1))], [.v (.int .i64 9223372036854775807)]])]), (2, [.r [.ro (.v (.int .i64 t307))] [.sl 1 (rX (cI .u8) s0_0), .v (.int .i64 t308)]]), (3, [.p 42 ([[.v (.int .i64 t307)]])]), (4, [.p 43 ([[.sl 1 (rX (cI .i64) (([t307] : List Int)))]])]), (7, [.e 46 (.sl 1 (rX (cL (cI .i64) 1) (t263.drop 1)))]), (8, [.o 47 (rX (cL (cI .i64) 1) ((([(([t307] : List Int))] : List (List Int))) ++ (t263.drop 1)))])]]) (c := none) rfl KD ?_
             cases h
             exact ret_as (ms := [.ro]) rfl KD
           · rw [if_neg c15] at h
             cases h
         · rw [if_neg c14] at h
           cases h
       · rw [if_neg c12] at h
         refine path_ok (k := 25) hF (RetQ_mild _ _ _ _ _ _ _ _) (ds := [.r [.ro (.ag [.sl 1 (rX (cL (cI .i64) 1) t263), .sl 1 (rX (cI .i64) t266)])] [.sl 1 (rX (cI .u8) s0_0), .v (.int .i64 t269)], .r [.ro (.v (.int .i64 t271))] [.sl 1 (rX (cI .u8) s0_0), .v (.int .i64 t272)], .b false, .b false, .b true, .e 37 (.v (.int .i64 (t263.length : Int))), .b false]) (os := []) (c := none) rfl KD ?_
         cases h
         exact ret_as (ms := [.ro]) rfl KD
     · rw [if_neg c11] at h
       by_cases c16 : t271 = 3
       · rw [if_pos c16] at h
         obtain ⟨y332, hy332, h⟩ := Option.bind_eq_some_iff.1 h
         cases hy332
         by_cases c17 : (([(([1] : List Int)), (([1] : List Int)), (([1] : List Int))] : List (List Int))).length + t263.length < 5864062014805
         · rw [if_pos c17] at h
           refine path_ok (k := 25) hF (RetQ_mild _ _ _ _ _ _ _ _) (ds := [.r [.ro (.ag [.sl 1 (rX (cL (cI .i64) 1) t263), .sl 1 (rX (cI .i64) t266)])] [.sl 1 (rX (cI .u8) s0_0), .v (.int .i64 t269)], .r [.ro (.v (.int .i64 t271))] [.sl 1 (rX (cI .u8) s0_0), .v (.int .i64 t272)], .b false, .b false, .b false, .b true, .p 51 ([[.v (.int .i64 1)]]), .p 52 ([[.v (.int .i64 1)]]), .p 53 ([[.v (.int .i64 1)]]), .p 54 ([[.sl 1 (rX (cI .i64) (([1] : List Int)))], [.sl 1 (rX (cI .i64) (([1] : List Int)))], [.sl 1 (rX (cI .i64) (([1] : List Int)))]]), .o 57 (rX (cL (cI .i64) 1) ((([(([1] : List Int)), (([1] : List Int)), (([1] : List Int))] : List (List Int))) ++ t263))]) (os := []) (c := none) rfl KD ?_
           cases h
           exact ret_as (ms := [.ro]) rfl KD
         · rw [if_neg c17] at h
           cases h
       · rw [if_neg c16] at h
         refine path_ok (k := 25) hF (RetQ_mild _ _ _ _ _ _ _ _) (ds := [.r [.ro (.ag [.sl 1 (rX (cL (cI .i64) 1) t263), .sl 1 (rX (cI .i64) t266)])] [.sl 1 (rX (cI .u8) s0_0), .v (.int .i64 t269)], .r [.ro (.v (.int .i64 t271))] [.sl 1 (rX (cI .u8) s0_0), .v (.int .i64 t272)], .b false, .b false, .b false, .b false]) (os := []) (c := none) rfl KD ?_
         cases h
         exact ret_as (ms := [.ro]) rfl KD
def spec_DrawFormatLayout.f (k : Nat) (l0 : List Int) : Option ((List (List Int)) × List Int) := (spec_l13Open.f l0).bind fun bt339 => ((spec_l2Some.f k bt339.1 bt339.2).bind fun bt342 => (some (bt342.1, bt342.2.1)))
set_option maxRecDepth 100000 in
set_option maxHeartbeats 4000000 in
theorem spec_DrawFormatLayout.ctr (k : Nat) (l0 : List Int) (r1 : List (List Int)) (r2 : List Int) (h : spec_DrawFormatLayout.f k l0 = some (r1, r2)) : Ctr TE 29 none [.sl 1 (rX (cI .u8) l0)] [.ro (.ag [.sl 1 (rX (cL (cI .i64) 1) r1), .sl 1 (rX (cI .i64) r2)])] [] := by
 refine ctr_of (fn := Tryz.f29) (c := (bodyOf Tryz.f29)) Tryz.func29 rfl (by kernel_rfl) (Nat.le_of_ble_eq_true (by kernel_rfl)) (fun w ro B hF _ => ?_)
 simp only [spec_DrawFormatLayout.f] at h
 obtain ⟨⟨t339, t340⟩, q1, h⟩ := Option.bind_eq_some_iff.1 h
 dsimp only at h
 have q1c := spec_l13Open.ctr _ _ _ q1
 obtain ⟨⟨t342, t345, t348⟩, q2, h⟩ := Option.bind_eq_some_iff.1 h
 dsimp only at h
 have q2c := spec_l2Some.ctr k _ _ _ _ _ q2
 refine path_ok (k := 5) hF (RetQ_mild _ _ _ _ _ _ _ _) (ds := [.r [.nb 112 [.sl 1 (rX (cI .u8) t339), .v (.int .i64 t340)]] [], .r [.ro (.ag [.sl 1 (rX (cL (cI .i64) 1) t342), .sl 1 (rX (cI .i64) t345)])] [.sl 1 (rX (cI .u8) t339), .v (.int .i64 t348)]]) (os := []) (c := none) rfl KD ?_
 cases h
 exact ret_as (ms := [.ro]) rfl KD
def impl_spaced.l0 : Nat → List ByteArray → List Int → Int → Int → Option (ByteArray)
  | 0, _, _, _, _ => none
  | k + 1, x3, x10, x11, x12 => if x12 < x11 then (if 0 ≤ x12 then (if x12 < (x10.length : Int) then ((strconv_Itoa.f (rd x10 x12)).bind fun t353 => (if x3.length < 8796093022208 then (impl_spaced.l0 k (x3 ++ [t353]) x10 x11 (wrap64 (x12 + 1))) else (none))) else (none)) else (none)) else ((strings_Join.f x3 (⟨#[32]⟩ : ByteArray)).bind fun t357 => (some t357))
def impl_spaced.f (k : Nat) (l0 : List Int) : Option (ByteArray) := if (l0.length : Int) = 0 then (some (⟨#[45]⟩ : ByteArray)) else (impl_spaced.l0 k (([] : List ByteArray)) l0 (l0.length : Int) 0)
def impl_spaced.I0 (r : ByteArray) (m : Nat) (σ : St) : Prop := ∃ (x3 : List ByteArray) (x10 : List Int) (x11 : Int) (x12 : Int), impl_spaced.l0 m x3 x10 x11 x12 = some r ∧ σ = ⟨[(3, .ow 1003 0), (10, .sl 1 (rX (cI .i64) x10)), (11, .v (.int .i64 x11)), (12, .v (.int .i64 x12))], [(1003, .own 0 9 1 (rX cS x3))]⟩
structure impl_spaced.C (k : Nat) : Prop where
 s_l0 : ∀ (r : ByteArray) (w : World) (ro : Nat → Prop) (B : Nat) (_ : Fr TE (cx0 Tryz.f76 none w ro B)) (x3 : List ByteArray) (x10 : List Int) (x11 : Int) (x12 : Int) (_ : impl_spaced.l0 k x3 x10 x11 x12 = some r), Kp (WS TE (cx0 Tryz.f76 none w ro B) (stkAt [1, 1, 1, 0, 1, 0] [] (bodyOf Tryz.f76) []) ⟨[(3, .ow 1003 0), (10, .sl 1 (rX (cI .i64) x10)), (11, .v (.int .i64 x11)), (12, .v (.int .i64 x12))], [(1003, .own 0 9 1 (rX cS x3))]⟩ (RetQ TE Tryz.f76 none [.ro (.v (.string r))] [] w ro B))
set_option maxRecDepth 100000 in
set_option maxHeartbeats 4000000 in
theorem impl_spaced.c_l0 (k : Nat) (ih : Kp (∀ m, m < k → impl_spaced.C m)) (r : ByteArray) (w : World) (ro : Nat → Prop) (B : Nat) (hF : Fr TE (cx0 Tryz.f76 none w ro B)) (x3 : List ByteArray) (x10 : List Int) (x11 : Int) (x12 : Int) (h : impl_spaced.l0 k x3 x10 x11 x12 = some r) : Kp (WS TE (cx0 Tryz.f76 none w ro B) (stkAt [1, 1, 1, 0, 1, 0] [] (bodyOf Tryz.f76) []) ⟨[(3, .ow 1003 0), (10, .sl 1 (rX (cI .i64) x10)), (11, .v (.int .i64 x11)), (12, .v (.int .i64 x12))], [(1003, .own 0 9 1 (rX cS x3))]⟩ (RetQ TE Tryz.f76 none [.ro (.v (.string r))] [] w ro B)) := by
 refine ⟨WS.loop (fun m σ => m ≤ k ∧ impl_spaced.I0 r m σ) k ⟨Nat.le_refl k, x3, x10, x11, x12, h, rfl⟩ (fun m σ' hI J0 hJ0 => ?_)⟩
 clear h
 obtain ⟨hk, x3, x10, x11, x12, h, rfl⟩ := hI
 cases m with
 | zero => simp [impl_spaced.l0] at h
 | succ k' =>
 simp only [impl_spaced.l0] at h
 by_cases c2 : x12 < x11
 · rw [if_pos c2] at h
   by_cases c3 : 0 ≤ x12
   · rw [if_pos c3] at h
     by_cases c4 : x12 < (x10.length : Int)
     · rw [if_pos c4] at h
       obtain ⟨t353, q5, h⟩ := Option.bind_eq_some_iff.1 h
       have q5c := strconv_Itoa.ctr _ _ q5
       by_cases c6 : x3.length < 8796093022208
       · rw [if_pos c6] at h
         refine path_ok (k := 12) hF (RetQ_mild _ _ _ _ _ _ _ _) (ds := [.b true, .e 14 (.rf [.v (.int .i64 (rd x10 x12))]), .r [.ro (.v (.string t353))] [], .p 19 ([[.v (.string t353)]]), .o 20 (rX cS (x3 ++ [t353]))]) (os := []) (c := none) rfl KD ?_
         exact WS.lpc [(1003, some 1003)] (hJ0 _ _ (Nat.lt_succ_self _) ⟨by omega, (x3 ++ [t353]), x10, x11, (wrap64 (x12 + 1)), h, rfl⟩) KD
       · rw [if_neg c6] at h
         cases h
     · rw [if_neg c4] at h
       cases h
   · rw [if_neg c3] at h
     cases h
 · rw [if_neg c2] at h
   obtain ⟨t357, q7, h⟩ := Option.bind_eq_some_iff.1 h
   have q7c := strings_Join.ctr _ _ _ q7
   refine path_ok (k := 8) hF (RetQ_mild _ _ _ _ _ _ _ _) (ds := [.b false, .r [.ro (.v (.string t357))] []]) (os := []) (c := none) rfl KD ?_
   cases h
   exact ret_as (ms := [.ro]) rfl KD
theorem impl_spaced.cs (k : Nat) : impl_spaced.C k := by
 induction k using Nat.strongRecOn with
 | _ k ih0 =>
 have ih : Kp (∀ m, m < k → impl_spaced.C m) := ⟨ih0⟩
 exact ⟨impl_spaced.c_l0 k ih⟩
set_option maxRecDepth 100000 in
set_option maxHeartbeats 4000000 in
theorem impl_spaced.ctr (k : Nat) (l0 : List Int) (r : ByteArray) (h : impl_spaced.f k l0 = some r) : Ctr TE 76 none [.sl 1 (rX (cI .i64) l0)] [.ro (.v (.string r))] [] := by
 refine ctr_of (fn := Tryz.f76) (c := (bodyOf Tryz.f76)) Tryz.func76 rfl (by kernel_rfl) (Nat.le_of_ble_eq_true (by kernel_rfl)) (fun w ro B hF _ => ?_)
 have ih : Kp (∀ m, m < k + 1 → impl_spaced.C m) := ⟨fun m _ => impl_spaced.cs m⟩
 simp only [impl_spaced.f] at h
 by_cases c1 : (l0.length : Int) = 0
 · rw [if_pos c1] at h
   refine path_ok (k := 9) hF (RetQ_mild _ _ _ _ _ _ _ _) (ds := [.e 7 (.v (.int .i64 (l0.length : Int))), .b true]) (os := []) (c := none) rfl KD ?_
   cases h
   exact ret_as (ms := [.ro]) rfl KD
 · rw [if_neg c1] at h
   refine path_ok (k := 13) hF (RetQ_mild _ _ _ _ _ _ _ _) (ds := [.e 7 (.v (.int .i64 (l0.length : Int))), .b false, .p 9 ([]), .e 11 (.v (.int .i64 (l0.length : Int)))]) (os := []) (c := none) rfl KD ?_
   exact WS.can [(1003, some 9)] (((ih.out k (by omega)).s_l0  r w ro B hF (([] : List ByteArray)) l0 (l0.length : Int) 0 h).out) KD
def impl_FormatLayout.l0 : Nat → ByteArray → List (List Int) → Int → Int → List (List Int) → List Int → Option (ByteArray)
  | 0, _, _, _, _, _, _ => none
  | k + 1, x3, x7, x8, x9, x359000, x359001 => if x9 < x8 then (if 0 ≤ x9 then (if x9 < (x7.length : Int) then ((impl_spaced.f k (rd_L1 x7 x9)).bind fun t360 => (if t360.size + 1 ≤ 9223372036854775807 then (if x3.size + (t360.size + 1) ≤ 9223372036854775807 then (impl_FormatLayout.l0 k (x3 ++ (t360 ++ (⟨#[124]⟩ : ByteArray))) x7 x8 (wrap64 (x9 + 1)) x359000 x359001) else (none)) else (none))) else (none)) else (none)) else ((impl_spaced.f k x359001).bind fun t361 => (if x3.size + t361.size ≤ 9223372036854775807 then (some (x3 ++ t361)) else (none)))
def impl_FormatLayout.f (k : Nat) (l0_0 : List (List Int)) (l0_1 : List Int) : Option (ByteArray) := impl_FormatLayout.l0 k (⟨#[]⟩ : ByteArray) l0_0 (l0_0.length : Int) 0 l0_0 l0_1
def impl_FormatLayout.I0 (r : ByteArray) (m : Nat) (σ : St) : Prop := ∃ (x3 : ByteArray) (x7 : List (List Int)) (x8 : Int) (x9 : Int) (x359000 : List (List Int)) (x359001 : List Int), impl_FormatLayout.l0 m x3 x7 x8 x9 x359000 x359001 = some r ∧ σ = ⟨[(1, .pt 1001 0 0), (3, .v (.string x3)), (7, .sl 1 (rX (cL (cI .i64) 1) x7)), (8, .v (.int .i64 x8)), (9, .v (.int .i64 x9))], [(1001, .box 0 29 false [.sl 1 (rX (cL (cI .i64) 1) x359000), .sl 1 (rX (cI .i64) x359001)])]⟩
structure impl_FormatLayout.C (k : Nat) : Prop where
 s_l0 : ∀ (r : ByteArray) (w : World) (ro : Nat → Prop) (B : Nat) (_ : Fr TE (cx0 Tryz.f30 none w ro B)) (x3 : ByteArray) (x7 : List (List Int)) (x8 : Int) (x9 : Int) (x359000 : List (List Int)) (x359001 : List Int) (_ : impl_FormatLayout.l0 k x3 x7 x8 x9 x359000 x359001 = some r), Kp (WS TE (cx0 Tryz.f30 none w ro B) (stkAt [1, 1, 0, 1, 0] [] (bodyOf Tryz.f30) []) ⟨[(1, .pt 1001 0 0), (3, .v (.string x3)), (7, .sl 1 (rX (cL (cI .i64) 1) x7)), (8, .v (.int .i64 x8)), (9, .v (.int .i64 x9))], [(1001, .box 0 29 false [.sl 1 (rX (cL (cI .i64) 1) x359000), .sl 1 (rX (cI .i64) x359001)])]⟩ (RetQ TE Tryz.f30 none [.ro (.v (.string r))] [] w ro B))
set_option maxRecDepth 100000 in
set_option maxHeartbeats 4000000 in
theorem impl_FormatLayout.c_l0 (k : Nat) (ih : Kp (∀ m, m < k → impl_FormatLayout.C m)) (r : ByteArray) (w : World) (ro : Nat → Prop) (B : Nat) (hF : Fr TE (cx0 Tryz.f30 none w ro B)) (x3 : ByteArray) (x7 : List (List Int)) (x8 : Int) (x9 : Int) (x359000 : List (List Int)) (x359001 : List Int) (h : impl_FormatLayout.l0 k x3 x7 x8 x9 x359000 x359001 = some r) : Kp (WS TE (cx0 Tryz.f30 none w ro B) (stkAt [1, 1, 0, 1, 0] [] (bodyOf Tryz.f30) []) ⟨[(1, .pt 1001 0 0), (3, .v (.string x3)), (7, .sl 1 (rX (cL (cI .i64) 1) x7)), (8, .v (.int .i64 x8)), (9, .v (.int .i64 x9))], [(1001, .box 0 29 false [.sl 1 (rX (cL (cI .i64) 1) x359000), .sl 1 (rX (cI .i64) x359001)])]⟩ (RetQ TE Tryz.f30 none [.ro (.v (.string r))] [] w ro B)) := by
 refine ⟨WS.loop (fun m σ => m ≤ k ∧ impl_FormatLayout.I0 r m σ) k ⟨Nat.le_refl k, x3, x7, x8, x9, x359000, x359001, h, rfl⟩ (fun m σ' hI J0 hJ0 => ?_)⟩
 clear h
 obtain ⟨hk, x3, x7, x8, x9, x359000, x359001, h, rfl⟩ := hI
 cases m with
 | zero => simp [impl_FormatLayout.l0] at h
 | succ k' =>
 simp only [impl_FormatLayout.l0] at h
 by_cases c1 : x9 < x8
 · rw [if_pos c1] at h
   by_cases c2 : 0 ≤ x9
   · rw [if_pos c2] at h
     by_cases c3 : x9 < (x7.length : Int)
     · rw [if_pos c3] at h
       obtain ⟨t360, q4, h⟩ := Option.bind_eq_some_iff.1 h
       have q4c := impl_spaced.ctr k' _ _ q4
       by_cases c5 : t360.size + 1 ≤ 9223372036854775807
       · rw [if_pos c5] at h
         by_cases c6 : x3.size + (t360.size + 1) ≤ 9223372036854775807
         · rw [if_pos c6] at h
           refine path_ok (k := 12) hF (RetQ_mild _ _ _ _ _ _ _ _) (ds := [.b true, .e 11 (.rf [.sl 1 (rX (cI .i64) (rd_L1 x7 x9))]), .r [.ro (.v (.string t360))] []]) (os := []) (c := none) rfl KD ?_
           exact WS.lpc [(1001, some 1001)] (hJ0 _ _ (Nat.lt_succ_self _) ⟨by omega, (x3 ++ (t360 ++ (⟨#[124]⟩ : ByteArray))), x7, x8, (wrap64 (x9 + 1)), x359000, x359001, h, rfl⟩) KD
         · rw [if_neg c6] at h
           cases h
       · rw [if_neg c5] at h
         cases h
     · rw [if_neg c3] at h
       cases h
   · rw [if_neg c2] at h
     cases h
 · rw [if_neg c1] at h
   obtain ⟨t361, q7, h⟩ := Option.bind_eq_some_iff.1 h
   have q7c := impl_spaced.ctr k' _ _ q7
   by_cases c8 : x3.size + t361.size ≤ 9223372036854775807
   · rw [if_pos c8] at h
     refine path_ok (k := 8) hF (RetQ_mild _ _ _ _ _ _ _ _) (ds := [.b false, .r [.ro (.v (.string t361))] []]) (os := []) (c := none) rfl KD ?_
     cases h
     exact ret_as (ms := [.ro]) rfl KD
   · rw [if_neg c8] at h
     cases h
theorem impl_FormatLayout.cs (k : Nat) : impl_FormatLayout.C k := by
 induction k using Nat.strongRecOn with
 | _ k ih0 =>
 have ih : Kp (∀ m, m < k → impl_FormatLayout.C m) := ⟨ih0⟩
 exact ⟨impl_FormatLayout.c_l0 k ih⟩
set_option maxRecDepth 100000 in
set_option maxHeartbeats 4000000 in
theorem impl_FormatLayout.ctr (k : Nat) (l0_0 : List (List Int)) (l0_1 : List Int) (r : ByteArray) (h : impl_FormatLayout.f k l0_0 l0_1 = some r) : Ctr TE 30 none [.ag [.sl 1 (rX (cL (cI .i64) 1) l0_0), .sl 1 (rX (cI .i64) l0_1)]] [.ro (.v (.string r))] [] := by
 refine ctr_of (fn := Tryz.f30) (c := (bodyOf Tryz.f30)) Tryz.func30 rfl (by kernel_rfl) (Nat.le_of_ble_eq_true (by kernel_rfl)) (fun w ro B hF _ => ?_)
 have ih : Kp (∀ m, m < k + 1 → impl_FormatLayout.C m) := ⟨fun m _ => impl_FormatLayout.cs m⟩
 simp only [impl_FormatLayout.f] at h
 refine path_ok (k := 8) hF (RetQ_mild _ _ _ _ _ _ _ _) (ds := [.e 8 (.v (.int .i64 (l0_0.length : Int)))]) (os := []) (c := none) rfl KD ?_
 exact WS.can [(1001, some 1)] (((ih.out k (by omega)).s_l0  r w ro B hF (⟨#[]⟩ : ByteArray) l0_0 (l0_0.length : Int) 0 l0_0 l0_1 h).out) KD
def impl_total.l0 : Nat → Int → List Int → Int → Int → Option (Int)
  | 0, _, _, _, _ => none
  | k + 1, x3, x6, x7, x8 => if x8 < x7 then (if 0 ≤ x8 then (if x8 < (x6.length : Int) then (impl_total.l0 k (wrap64 (x3 + (rd x6 x8))) x6 x7 (wrap64 (x8 + 1))) else (none)) else (none)) else (some x3)
def impl_total.f (k : Nat) (l0 : List Int) : Option (Int) := impl_total.l0 k 0 l0 (l0.length : Int) 0
def impl_total.I0 (r : Int) (m : Nat) (σ : St) : Prop := ∃ (x3 : Int) (x6 : List Int) (x7 : Int) (x8 : Int), impl_total.l0 m x3 x6 x7 x8 = some r ∧ σ = ⟨[(3, .v (.int .i64 x3)), (6, .sl 1 (rX (cI .i64) x6)), (7, .v (.int .i64 x7)), (8, .v (.int .i64 x8))], []⟩
structure impl_total.C (k : Nat) : Prop where
 s_l0 : ∀ (r : Int) (w : World) (ro : Nat → Prop) (B : Nat) (_ : Fr TE (cx0 Tryz.f94 none w ro B)) (x3 : Int) (x6 : List Int) (x7 : Int) (x8 : Int) (_ : impl_total.l0 k x3 x6 x7 x8 = some r), Kp (WS TE (cx0 Tryz.f94 none w ro B) (stkAt [1, 1, 0, 1, 0] [] (bodyOf Tryz.f94) []) ⟨[(3, .v (.int .i64 x3)), (6, .sl 1 (rX (cI .i64) x6)), (7, .v (.int .i64 x7)), (8, .v (.int .i64 x8))], []⟩ (RetQ TE Tryz.f94 none [.ro (.v (.int .i64 r))] [] w ro B))
set_option maxRecDepth 100000 in
set_option maxHeartbeats 4000000 in
theorem impl_total.c_l0 (k : Nat) (ih : Kp (∀ m, m < k → impl_total.C m)) (r : Int) (w : World) (ro : Nat → Prop) (B : Nat) (hF : Fr TE (cx0 Tryz.f94 none w ro B)) (x3 : Int) (x6 : List Int) (x7 : Int) (x8 : Int) (h : impl_total.l0 k x3 x6 x7 x8 = some r) : Kp (WS TE (cx0 Tryz.f94 none w ro B) (stkAt [1, 1, 0, 1, 0] [] (bodyOf Tryz.f94) []) ⟨[(3, .v (.int .i64 x3)), (6, .sl 1 (rX (cI .i64) x6)), (7, .v (.int .i64 x7)), (8, .v (.int .i64 x8))], []⟩ (RetQ TE Tryz.f94 none [.ro (.v (.int .i64 r))] [] w ro B)) := by
 refine ⟨WS.loop (fun m σ => m ≤ k ∧ impl_total.I0 r m σ) k ⟨Nat.le_refl k, x3, x6, x7, x8, h, rfl⟩ (fun m σ' hI J0 hJ0 => ?_)⟩
 clear h
 obtain ⟨hk, x3, x6, x7, x8, h, rfl⟩ := hI
 cases m with
 | zero => simp [impl_total.l0] at h
 | succ k' =>
 simp only [impl_total.l0] at h
 by_cases c1 : x8 < x7
 · rw [if_pos c1] at h
   by_cases c2 : 0 ≤ x8
   · rw [if_pos c2] at h
     by_cases c3 : x8 < (x6.length : Int)
     · rw [if_pos c3] at h
       refine path_ok (k := 12) hF (RetQ_mild _ _ _ _ _ _ _ _) (ds := [.b true, .e 10 (.rf [.v (.int .i64 (rd x6 x8))])]) (os := []) (c := none) rfl KD ?_
       exact WS.lpc [] (hJ0 _ _ (Nat.lt_succ_self _) ⟨by omega, (wrap64 (x3 + (rd x6 x8))), x6, x7, (wrap64 (x8 + 1)), h, rfl⟩) KD
     · rw [if_neg c3] at h
       cases h
   · rw [if_neg c2] at h
     cases h
 · rw [if_neg c1] at h
   refine path_ok (k := 8) hF (RetQ_mild _ _ _ _ _ _ _ _) (ds := [.b false]) (os := []) (c := none) rfl KD ?_
   cases h
   exact ret_as (ms := [.ro]) rfl KD
theorem impl_total.cs (k : Nat) : impl_total.C k := by
 induction k using Nat.strongRecOn with
 | _ k ih0 =>
 have ih : Kp (∀ m, m < k → impl_total.C m) := ⟨ih0⟩
 exact ⟨impl_total.c_l0 k ih⟩
set_option maxRecDepth 100000 in
set_option maxHeartbeats 4000000 in
theorem impl_total.ctr (k : Nat) (l0 : List Int) (r : Int) (h : impl_total.f k l0 = some r) : Ctr TE 94 none [.sl 1 (rX (cI .i64) l0)] [.ro (.v (.int .i64 r))] [] := by
 refine ctr_of (fn := Tryz.f94) (c := (bodyOf Tryz.f94)) Tryz.func94 rfl (by kernel_rfl) (Nat.le_of_ble_eq_true (by kernel_rfl)) (fun w ro B hF _ => ?_)
 have ih : Kp (∀ m, m < k + 1 → impl_total.C m) := ⟨fun m _ => impl_total.cs m⟩
 simp only [impl_total.f] at h
 refine path_ok (k := 8) hF (RetQ_mild _ _ _ _ _ _ _ _) (ds := [.e 7 (.v (.int .i64 (l0.length : Int)))]) (os := []) (c := none) rfl KD ?_
 exact WS.can [] (((ih.out k (by omega)).s_l0  r w ro B hF 0 l0 (l0.length : Int) 0 h).out) KD
def impl_wrong.l0 : Nat → Int → List (List Int) → Int → Int → List (List Int) → List Int → Option (Int)
  | 0, _, _, _, _, _, _ => none
  | k + 1, x5, x10, x11, x12, x364000, x364001 => if x12 < x11 then (if 0 ≤ x12 then (if x12 < (x10.length : Int) then (if x12 = 3 then (some x12) else (if ((rd_L1 x10 x12).length : Int) = x5 then ((impl_within.f (rd_L1 x10 x12) 400).bind fun t366 => (if t366 = true then ((impl_total.f k (rd_L1 x10 x12)).bind fun t367 => (impl_wrong.l0 k t367 x10 x11 (wrap64 (x12 + 1)) x364000 x364001)) else (some x12))) else (some x12))) else (none)) else (none)) else (if (x364001.length : Int) = x5 then ((impl_within.f x364001 10006).bind fun t364 => (if t364 = true then (some (-1)) else (some (x364000.length : Int)))) else (some (x364000.length : Int)))
def impl_wrong.f (k : Nat) (l0_0 : List (List Int)) (l0_1 : List Int) (a1 : Int) : Option (Int) := impl_wrong.l0 k a1 l0_0 (l0_0.length : Int) 0 l0_0 l0_1
def impl_wrong.I0 (r : Int) (m : Nat) (σ : St) : Prop := ∃ (x5 : Int) (x10 : List (List Int)) (x11 : Int) (x12 : Int) (x364000 : List (List Int)) (x364001 : List Int), impl_wrong.l0 m x5 x10 x11 x12 x364000 x364001 = some r ∧ σ = ⟨[(2, .pt 1002 0 0), (5, .v (.int .i64 x5)), (10, .sl 1 (rX (cL (cI .i64) 1) x10)), (11, .v (.int .i64 x11)), (12, .v (.int .i64 x12))], [(1002, .box 0 29 false [.sl 1 (rX (cL (cI .i64) 1) x364000), .sl 1 (rX (cI .i64) x364001)])]⟩
structure impl_wrong.C (k : Nat) : Prop where
 s_l0 : ∀ (r : Int) (w : World) (ro : Nat → Prop) (B : Nat) (_ : Fr TE (cx0 Tryz.f51 none w ro B)) (x5 : Int) (x10 : List (List Int)) (x11 : Int) (x12 : Int) (x364000 : List (List Int)) (x364001 : List Int) (_ : impl_wrong.l0 k x5 x10 x11 x12 x364000 x364001 = some r), Kp (WS TE (cx0 Tryz.f51 none w ro B) (stkAt [1, 1, 0, 1, 0] [] (bodyOf Tryz.f51) []) ⟨[(2, .pt 1002 0 0), (5, .v (.int .i64 x5)), (10, .sl 1 (rX (cL (cI .i64) 1) x10)), (11, .v (.int .i64 x11)), (12, .v (.int .i64 x12))], [(1002, .box 0 29 false [.sl 1 (rX (cL (cI .i64) 1) x364000), .sl 1 (rX (cI .i64) x364001)])]⟩ (RetQ TE Tryz.f51 none [.ro (.v (.int .i64 r))] [] w ro B))
set_option maxRecDepth 100000 in
set_option maxHeartbeats 4000000 in
theorem impl_wrong.c_l0 (k : Nat) (ih : Kp (∀ m, m < k → impl_wrong.C m)) (r : Int) (w : World) (ro : Nat → Prop) (B : Nat) (hF : Fr TE (cx0 Tryz.f51 none w ro B)) (x5 : Int) (x10 : List (List Int)) (x11 : Int) (x12 : Int) (x364000 : List (List Int)) (x364001 : List Int) (h : impl_wrong.l0 k x5 x10 x11 x12 x364000 x364001 = some r) : Kp (WS TE (cx0 Tryz.f51 none w ro B) (stkAt [1, 1, 0, 1, 0] [] (bodyOf Tryz.f51) []) ⟨[(2, .pt 1002 0 0), (5, .v (.int .i64 x5)), (10, .sl 1 (rX (cL (cI .i64) 1) x10)), (11, .v (.int .i64 x11)), (12, .v (.int .i64 x12))], [(1002, .box 0 29 false [.sl 1 (rX (cL (cI .i64) 1) x364000), .sl 1 (rX (cI .i64) x364001)])]⟩ (RetQ TE Tryz.f51 none [.ro (.v (.int .i64 r))] [] w ro B)) := by
 refine ⟨WS.loop (fun m σ => m ≤ k ∧ impl_wrong.I0 r m σ) k ⟨Nat.le_refl k, x5, x10, x11, x12, x364000, x364001, h, rfl⟩ (fun m σ' hI J0 hJ0 => ?_)⟩
 clear h
 obtain ⟨hk, x5, x10, x11, x12, x364000, x364001, h, rfl⟩ := hI
 cases m with
 | zero => simp [impl_wrong.l0] at h
 | succ k' =>
 simp only [impl_wrong.l0] at h
 by_cases c1 : x12 < x11
 · rw [if_pos c1] at h
   by_cases c2 : 0 ≤ x12
   · rw [if_pos c2] at h
     by_cases c3 : x12 < (x10.length : Int)
     · rw [if_pos c3] at h
       by_cases c4 : x12 = 3
       · rw [if_pos c4] at h
         refine path_ok (k := 16) hF (RetQ_mild _ _ _ _ _ _ _ _) (ds := [.b true, .e 15 (.rf [.sl 1 (rX (cI .i64) (rd_L1 x10 x12))]), .b true, .b true, .b true, .b true, .b true, .b true, .b true, .b true, .b true, .b true]) (os := []) (c := none) rfl KD ?_
         cases h
         exact ret_as (ms := [.ro]) rfl KD
       · rw [if_neg c4] at h
         by_cases c5 : ((rd_L1 x10 x12).length : Int) = x5
         · rw [if_pos c5] at h
           obtain ⟨t366, q6, h⟩ := Option.bind_eq_some_iff.1 h
           have q6c := impl_within.ctr _ _ _ q6
           by_cases c7 : t366 = true
           · rw [if_pos c7] at h
             obtain ⟨t367, q8, h⟩ := Option.bind_eq_some_iff.1 h
             have q8c := impl_total.ctr k' _ _ q8
             refine path_ok (k := 17) hF (RetQ_mild _ _ _ _ _ _ _ _) (ds := [.b true, .e 15 (.rf [.sl 1 (rX (cI .i64) (rd_L1 x10 x12))]), .b false, .b false, .e 21 (.v (.int .i64 ((rd_L1 x10 x12).length : Int))), .b false, .b false, .b false, .b false, .b false, .r [.ro (.v (.bool t366))] [], .b false, .b false, .b false, .r [.ro (.v (.int .i64 t367))] []]) (os := []) (c := none) rfl KD ?_
             exact WS.lpc [(1002, some 1002)] (hJ0 _ _ (Nat.lt_succ_self _) ⟨by omega, t367, x10, x11, (wrap64 (x12 + 1)), x364000, x364001, h, rfl⟩) KD
           · rw [if_neg c7] at h
             refine path_ok (k := 16) hF (RetQ_mild _ _ _ _ _ _ _ _) (ds := [.b true, .e 15 (.rf [.sl 1 (rX (cI .i64) (rd_L1 x10 x12))]), .b false, .b false, .e 21 (.v (.int .i64 ((rd_L1 x10 x12).length : Int))), .b false, .b false, .b false, .b false, .b false, .r [.ro (.v (.bool t366))] [], .b false, .b false, .b true]) (os := []) (c := none) rfl KD ?_
             cases h
             exact ret_as (ms := [.ro]) rfl KD
         · rw [if_neg c5] at h
           refine path_ok (k := 16) hF (RetQ_mild _ _ _ _ _ _ _ _) (ds := [.b true, .e 15 (.rf [.sl 1 (rX (cI .i64) (rd_L1 x10 x12))]), .b false, .b false, .e 21 (.v (.int .i64 ((rd_L1 x10 x12).length : Int))), .b false, .b false, .b false, .b true, .b true, .b true, .b true, .b true]) (os := []) (c := none) rfl KD ?_
           cases h
           exact ret_as (ms := [.ro]) rfl KD
     · rw [if_neg c3] at h
       cases h
   · rw [if_neg c2] at h
     cases h
 · rw [if_neg c1] at h
   by_cases c9 : (x364001.length : Int) = x5
   · rw [if_pos c9] at h
     obtain ⟨t364, q10, h⟩ := Option.bind_eq_some_iff.1 h
     have q10c := impl_within.ctr _ _ _ q10
     by_cases c11 : t364 = true
     · rw [if_pos c11] at h
       refine path_ok (k := 13) hF (RetQ_mild _ _ _ _ _ _ _ _) (ds := [.b false, .e 36 (.v (.int .i64 (x364001.length : Int))), .b false, .b false, .b false, .r [.ro (.v (.bool t364))] [], .b false, .b false, .b false]) (os := []) (c := none) rfl KD ?_
       cases h
       exact ret_as (ms := [.ro]) rfl KD
     · rw [if_neg c11] at h
       refine path_ok (k := 12) hF (RetQ_mild _ _ _ _ _ _ _ _) (ds := [.b false, .e 36 (.v (.int .i64 (x364001.length : Int))), .b false, .b false, .b false, .r [.ro (.v (.bool t364))] [], .b false, .b false, .b true, .e 47 (.v (.int .i64 (x364000.length : Int)))]) (os := []) (c := none) rfl KD ?_
       cases h
       exact ret_as (ms := [.ro]) rfl KD
   · rw [if_neg c9] at h
     refine path_ok (k := 12) hF (RetQ_mild _ _ _ _ _ _ _ _) (ds := [.b false, .e 36 (.v (.int .i64 (x364001.length : Int))), .b true, .b true, .b true, .b true, .b true, .b true, .e 47 (.v (.int .i64 (x364000.length : Int)))]) (os := []) (c := none) rfl KD ?_
     cases h
     exact ret_as (ms := [.ro]) rfl KD
theorem impl_wrong.cs (k : Nat) : impl_wrong.C k := by
 induction k using Nat.strongRecOn with
 | _ k ih0 =>
 have ih : Kp (∀ m, m < k → impl_wrong.C m) := ⟨ih0⟩
 exact ⟨impl_wrong.c_l0 k ih⟩
set_option maxRecDepth 100000 in
set_option maxHeartbeats 4000000 in
theorem impl_wrong.ctr (k : Nat) (l0_0 : List (List Int)) (l0_1 : List Int) (a1 : Int) (r : Int) (h : impl_wrong.f k l0_0 l0_1 a1 = some r) : Ctr TE 51 none [.ag [.sl 1 (rX (cL (cI .i64) 1) l0_0), .sl 1 (rX (cI .i64) l0_1)], .v (.int .i64 a1)] [.ro (.v (.int .i64 r))] [] := by
 refine ctr_of (fn := Tryz.f51) (c := (bodyOf Tryz.f51)) Tryz.func51 rfl (by kernel_rfl) (Nat.le_of_ble_eq_true (by kernel_rfl)) (fun w ro B hF _ => ?_)
 have ih : Kp (∀ m, m < k + 1 → impl_wrong.C m) := ⟨fun m _ => impl_wrong.cs m⟩
 simp only [impl_wrong.f] at h
 refine path_ok (k := 8) hF (RetQ_mild _ _ _ _ _ _ _ _) (ds := [.e 11 (.v (.int .i64 (l0_0.length : Int)))]) (os := []) (c := none) rfl KD ?_
 exact WS.can [(1002, some 2)] (((ih.out k (by omega)).s_l0  r w ro B hF a1 l0_0 (l0_0.length : Int) 0 l0_0 l0_1 h).out) KD
def impl_LayoutValid.f (k : Nat) (l0_0 : List (List Int)) (l0_1 : List Int) : Option (Bool) := (impl_wrong.f k l0_0 l0_1 1).bind fun t369 => (some (decide (t369 < 0)))
set_option maxRecDepth 100000 in
set_option maxHeartbeats 4000000 in
theorem impl_LayoutValid.ctr (k : Nat) (l0_0 : List (List Int)) (l0_1 : List Int) (r : Bool) (h : impl_LayoutValid.f k l0_0 l0_1 = some r) : Ctr TE 33 none [.ag [.sl 1 (rX (cL (cI .i64) 1) l0_0), .sl 1 (rX (cI .i64) l0_1)]] [.ro (.v (.bool r))] [] := by
 refine ctr_of (fn := Tryz.f33) (c := (bodyOf Tryz.f33)) Tryz.func33 rfl (by kernel_rfl) (Nat.le_of_ble_eq_true (by kernel_rfl)) (fun w ro B hF _ => ?_)
 simp only [impl_LayoutValid.f] at h
 obtain ⟨t369, q1, h⟩ := Option.bind_eq_some_iff.1 h
 have q1c := impl_wrong.ctr k _ _ _ _ q1
 refine path_ok (k := 5) hF (RetQ_mild _ _ _ _ _ _ _ _) (ds := [.r [.ro (.v (.int .i64 t369))] []]) (os := []) (c := none) rfl KD ?_
 cases h
 exact ret_as (ms := [.ro]) rfl KD
mutual
def impl_ParseLayout.l0 : Nat → ByteArray → List ByteArray → Int → Int → List (List Int) → List Int → Option ((List (List Int)) × List Int × Bool)
  | 0, _, _, _, _, _, _ => none
  | k + 1, x0, x12, x13, x14, x372000, x372001 => if x14 < x13 then (if 0 ≤ x14 then (if x14 < (x12.length : Int) then (if x14 > 0 then (if x372000.length < 5864062014805 then (impl_ParseLayout.j1 k x0 (rdOf ByteArray.empty x12 x14) x12 x13 x14 (x372000 ++ [x372001]) x372001) else (none)) else (impl_ParseLayout.j1 k x0 (rdOf ByteArray.empty x12 x14) x12 x13 x14 x372000 x372001)) else (none)) else (none)) else ((impl_LayoutValid.f k x372000 x372001).bind fun t389 => (if t389 = true then ((impl_FormatLayout.f k x372000 x372001).bind fun t390 => (if t390.toList = x0.toList then (some (x372000, x372001, true)) else (some (([] : List (List Int)), ([] : List Int), false)))) else (some (([] : List (List Int)), ([] : List Int), false))))
def impl_ParseLayout.j1 : Nat → ByteArray → ByteArray → List ByteArray → Int → Int → List (List Int) → List Int → Option ((List (List Int)) × List Int × Bool)
  | 0, _, _, _, _, _, _, _ => none
  | k + 1, x0, x6, x12, x13, x14, x372000, x372001 => (strings_Fields.f x6).bind fun t379 => (impl_ParseLayout.l1 k x0 x12 x13 x14 t379 (t379.length : Int) 0 x372000 ([] : List Int))
def impl_ParseLayout.l1 : Nat → ByteArray → List ByteArray → Int → Int → List ByteArray → Int → Int → List (List Int) → List Int → Option ((List (List Int)) × List Int × Bool)
  | 0, _, _, _, _, _, _, _, _, _ => none
  | k + 1, x0, x12, x13, x14, x30, x31, x32, x372000, x372001 => if x32 < x31 then (if 0 ≤ x32 then (if x32 < (x30.length : Int) then ((strconv_Atoi.f (rdOf ByteArray.empty x30 x32)).bind fun bt383 => (if bt383.2.isNone = true then (if x372001.length < 17592186044416 then (impl_ParseLayout.l1 k x0 x12 x13 x14 x30 x31 (wrap64 (x32 + 1)) x372000 (x372001 ++ [bt383.1])) else (none)) else (impl_ParseLayout.l1 k x0 x12 x13 x14 x30 x31 (wrap64 (x32 + 1)) x372000 x372001))) else (none)) else (none)) else (impl_ParseLayout.l0 k x0 x12 x13 (wrap64 (x14 + 1)) x372000 x372001)
end
def impl_ParseLayout.f (k : Nat) (a0 : ByteArray) : Option ((List (List Int)) × List Int × Bool) := (strings_Split.f a0 (⟨#[124]⟩ : ByteArray)).bind fun t372 => (impl_ParseLayout.l0 k a0 t372 (t372.length : Int) 0 ([] : List (List Int)) ([] : List Int))
def impl_ParseLayout.I0 (r1 : List (List Int)) (r2 : List Int) (r3 : Bool) (m : Nat) (σ : St) : Prop := ∃ (x0 : ByteArray) (x12 : List ByteArray) (x13 : Int) (x14 : Int) (x372000 : List (List Int)) (x372001 : List Int), impl_ParseLayout.l0 m x0 x12 x13 x14 x372000 x372001 = some (r1, r2, r3) ∧ σ = ⟨[(0, .v (.string x0)), (2, .pt 1002 0 0), (4, .pt 1004 0 0), (12, .sl 1 (rX cS x12)), (13, .v (.int .i64 x13)), (14, .v (.int .i64 x14))], [(1002, .box 0 29 false [.v (.slice none 0 0), .v (.slice none 0 0)]), (3256, .own 0 27 1 (rX (cL (cI .i64) 1) x372000)), (3257, .own 0 3 1 (rX (cI .i64) x372001)), (1004, .box 0 29 false [.ow 3256 0, .ow 3257 0])]⟩
def impl_ParseLayout.I1 (r1 : List (List Int)) (r2 : List Int) (r3 : Bool) (m : Nat) (σ : St) : Prop := ∃ (x0 : ByteArray) (x12 : List ByteArray) (x13 : Int) (x14 : Int) (x30 : List ByteArray) (x31 : Int) (x32 : Int) (x372000 : List (List Int)) (x372001 : List Int), impl_ParseLayout.l1 m x0 x12 x13 x14 x30 x31 x32 x372000 x372001 = some (r1, r2, r3) ∧ σ = ⟨[(0, .v (.string x0)), (2, .pt 1002 0 0), (4, .pt 1004 0 0), (12, .sl 1 (rX cS x12)), (13, .v (.int .i64 x13)), (14, .v (.int .i64 x14)), (30, .sl 1 (rX cS x30)), (31, .v (.int .i64 x31)), (32, .v (.int .i64 x32))], [(1002, .box 0 29 false [.v (.slice none 0 0), .v (.slice none 0 0)]), (3256, .own 0 27 1 (rX (cL (cI .i64) 1) x372000)), (3257, .own 0 3 1 (rX (cI .i64) x372001)), (1004, .box 0 29 false [.ow 3256 0, .ow 3257 0])]⟩
structure impl_ParseLayout.C (k : Nat) : Prop where
 s_l0 : ∀ (r1 : List (List Int)) (r2 : List Int) (r3 : Bool) (w : World) (ro : Nat → Prop) (B : Nat) (_ : Fr TE (cx0 Tryz.f31 none w ro B)) (x0 : ByteArray) (x12 : List ByteArray) (x13 : Int) (x14 : Int) (x372000 : List (List Int)) (x372001 : List Int) (_ : impl_ParseLayout.l0 k x0 x12 x13 x14 x372000 x372001 = some (r1, r2, r3)), Kp (WS TE (cx0 Tryz.f31 none w ro B) (stkAt [1, 1, 0, 1, 0] [] (bodyOf Tryz.f31) []) ⟨[(0, .v (.string x0)), (2, .pt 1002 0 0), (4, .pt 1004 0 0), (12, .sl 1 (rX cS x12)), (13, .v (.int .i64 x13)), (14, .v (.int .i64 x14))], [(1002, .box 0 29 false [.v (.slice none 0 0), .v (.slice none 0 0)]), (3256, .own 0 27 1 (rX (cL (cI .i64) 1) x372000)), (3257, .own 0 3 1 (rX (cI .i64) x372001)), (1004, .box 0 29 false [.ow 3256 0, .ow 3257 0])]⟩ (RetQ TE Tryz.f31 none [.ro (.ag [.sl 1 (rX (cL (cI .i64) 1) r1), .sl 1 (rX (cI .i64) r2)]), .ro (.v (.bool r3))] [] w ro B))
 s_j1 : ∀ (r1 : List (List Int)) (r2 : List Int) (r3 : Bool) (w : World) (ro : Nat → Prop) (B : Nat) (_ : Fr TE (cx0 Tryz.f31 none w ro B)) (J0 : St → Prop) (_ : ∀ m σ, m ≤ k → impl_ParseLayout.I0 r1 r2 r3 m σ → J0 σ) (x0 : ByteArray) (x6 : ByteArray) (x12 : List ByteArray) (x13 : Int) (x14 : Int) (x372000 : List (List Int)) (x372001 : List Int) (_ : impl_ParseLayout.j1 k x0 x6 x12 x13 x14 x372000 x372001 = some (r1, r2, r3)), Kp (WS TE (cx0 Tryz.f31 none w ro B) (stkAt [1, 1, 0, 1, 0, 0, 1, 1, 0, 0, 1, 0, 1, 9] [J0] (bodyOf Tryz.f31) []) ⟨[(0, .v (.string x0)), (2, .pt 1002 0 0), (4, .pt 1004 0 0), (6, .v (.string x6)), (12, .sl 1 (rX cS x12)), (13, .v (.int .i64 x13)), (14, .v (.int .i64 x14))], [(1002, .box 0 29 false [.v (.slice none 0 0), .v (.slice none 0 0)]), (3256, .own 0 27 1 (rX (cL (cI .i64) 1) x372000)), (1004, .box 0 29 false [.ow 3256 0, .sl 1 (rX (cI .i64) x372001)])]⟩ (RetQ TE Tryz.f31 none [.ro (.ag [.sl 1 (rX (cL (cI .i64) 1) r1), .sl 1 (rX (cI .i64) r2)]), .ro (.v (.bool r3))] [] w ro B))
 s_l1 : ∀ (r1 : List (List Int)) (r2 : List Int) (r3 : Bool) (w : World) (ro : Nat → Prop) (B : Nat) (_ : Fr TE (cx0 Tryz.f31 none w ro B)) (J0 : St → Prop) (_ : ∀ m σ, m ≤ k → impl_ParseLayout.I0 r1 r2 r3 m σ → J0 σ) (x0 : ByteArray) (x12 : List ByteArray) (x13 : Int) (x14 : Int) (x30 : List ByteArray) (x31 : Int) (x32 : Int) (x372000 : List (List Int)) (x372001 : List Int) (_ : impl_ParseLayout.l1 k x0 x12 x13 x14 x30 x31 x32 x372000 x372001 = some (r1, r2, r3)), Kp (WS TE (cx0 Tryz.f31 none w ro B) (stkAt [1, 1, 0, 1, 0, 0, 1, 1, 0, 0, 1, 1, 1, 1, 0] [J0] (bodyOf Tryz.f31) []) ⟨[(0, .v (.string x0)), (2, .pt 1002 0 0), (4, .pt 1004 0 0), (12, .sl 1 (rX cS x12)), (13, .v (.int .i64 x13)), (14, .v (.int .i64 x14)), (30, .sl 1 (rX cS x30)), (31, .v (.int .i64 x31)), (32, .v (.int .i64 x32))], [(1002, .box 0 29 false [.v (.slice none 0 0), .v (.slice none 0 0)]), (3256, .own 0 27 1 (rX (cL (cI .i64) 1) x372000)), (3257, .own 0 3 1 (rX (cI .i64) x372001)), (1004, .box 0 29 false [.ow 3256 0, .ow 3257 0])]⟩ (RetQ TE Tryz.f31 none [.ro (.ag [.sl 1 (rX (cL (cI .i64) 1) r1), .sl 1 (rX (cI .i64) r2)]), .ro (.v (.bool r3))] [] w ro B))
set_option maxRecDepth 100000 in
set_option maxHeartbeats 4000000 in
theorem impl_ParseLayout.c_l0 (k : Nat) (ih : Kp (∀ m, m < k → impl_ParseLayout.C m)) (r1 : List (List Int)) (r2 : List Int) (r3 : Bool) (w : World) (ro : Nat → Prop) (B : Nat) (hF : Fr TE (cx0 Tryz.f31 none w ro B)) (x0 : ByteArray) (x12 : List ByteArray) (x13 : Int) (x14 : Int) (x372000 : List (List Int)) (x372001 : List Int) (h : impl_ParseLayout.l0 k x0 x12 x13 x14 x372000 x372001 = some (r1, r2, r3)) : Kp (WS TE (cx0 Tryz.f31 none w ro B) (stkAt [1, 1, 0, 1, 0] [] (bodyOf Tryz.f31) []) ⟨[(0, .v (.string x0)), (2, .pt 1002 0 0), (4, .pt 1004 0 0), (12, .sl 1 (rX cS x12)), (13, .v (.int .i64 x13)), (14, .v (.int .i64 x14))], [(1002, .box 0 29 false [.v (.slice none 0 0), .v (.slice none 0 0)]), (3256, .own 0 27 1 (rX (cL (cI .i64) 1) x372000)), (3257, .own 0 3 1 (rX (cI .i64) x372001)), (1004, .box 0 29 false [.ow 3256 0, .ow 3257 0])]⟩ (RetQ TE Tryz.f31 none [.ro (.ag [.sl 1 (rX (cL (cI .i64) 1) r1), .sl 1 (rX (cI .i64) r2)]), .ro (.v (.bool r3))] [] w ro B)) := by
 refine ⟨WS.loop (fun m σ => m ≤ k ∧ impl_ParseLayout.I0 r1 r2 r3 m σ) k ⟨Nat.le_refl k, x0, x12, x13, x14, x372000, x372001, h, rfl⟩ (fun m σ' hI J0 hJ0 => ?_)⟩
 clear h
 obtain ⟨hk, x0, x12, x13, x14, x372000, x372001, h, rfl⟩ := hI
 cases m with
 | zero => simp [impl_ParseLayout.l0] at h
 | succ k' =>
 simp only [impl_ParseLayout.l0] at h
 by_cases c2 : x14 < x13
 · rw [if_pos c2] at h
   by_cases c3 : 0 ≤ x14
   · rw [if_pos c3] at h
     by_cases c4 : x14 < (x12.length : Int)
     · rw [if_pos c4] at h
       by_cases c5 : x14 > 0
       · rw [if_pos c5] at h
         by_cases c6 : x372000.length < 5864062014805
         · rw [if_pos c6] at h
           refine path_ok (k := 14) hF (RetQ_mild _ _ _ _ _ _ _ _) (ds := [.b true, .e 17 (.rf [.v (.string (rdOf ByteArray.empty x12 x14))]), .b true, .p 25 ([[.sl 1 (rX (cI .i64) x372001)]]), .o 26 (rX (cL (cI .i64) 1) (x372000 ++ [x372001]))]) (os := []) (c := none) rfl KD ?_
           exact WS.can [(1002, some 1002), (1004, some 1004), (3256, some 3256)] (((ih.out k' (by omega)).s_j1  r1 r2 r3 w ro B hF J0 (fun m σ hm hI => hJ0 m σ (by omega) ⟨by omega, hI⟩) x0 (rdOf ByteArray.empty x12 x14) x12 x13 x14 (x372000 ++ [x372001]) x372001 h).out) KD
         · rw [if_neg c6] at h
           cases h
       · rw [if_neg c5] at h
         refine path_ok (k := 14) hF (RetQ_mild _ _ _ _ _ _ _ _) (ds := [.b true, .e 17 (.rf [.v (.string (rdOf ByteArray.empty x12 x14))]), .b false]) (os := []) (c := none) rfl KD ?_
         refine WS.freeze 3257 ?_ rfl
         exact WS.can [(1002, some 1002), (1004, some 1004), (3256, some 3256)] (((ih.out k' (by omega)).s_j1  r1 r2 r3 w ro B hF J0 (fun m σ hm hI => hJ0 m σ (by omega) ⟨by omega, hI⟩) x0 (rdOf ByteArray.empty x12 x14) x12 x13 x14 x372000 x372001 h).out) KD
     · rw [if_neg c4] at h
       cases h
   · rw [if_neg c3] at h
     cases h
 · rw [if_neg c2] at h
   obtain ⟨t389, q7, h⟩ := Option.bind_eq_some_iff.1 h
   have q7c := impl_LayoutValid.ctr k' _ _ _ q7
   by_cases c8 : t389 = true
   · rw [if_pos c8] at h
     obtain ⟨t390, q9, h⟩ := Option.bind_eq_some_iff.1 h
     have q9c := impl_FormatLayout.ctr k' _ _ _ q9
     by_cases c10 : t390.toList = x0.toList
     · rw [if_pos c10] at h
       refine path_ok (k := 13) hF (RetQ_mild _ _ _ _ _ _ _ _) (ds := [.b false, .r [.ro (.v (.bool t389))] [], .b false, .b false, .r [.ro (.v (.string t390))] [], .b false, .b false, .b false, .b false]) (os := []) (c := none) rfl KD ?_
       cases h
       exact ret_as (ms := [.ro, .ro]) rfl KD
     · rw [if_neg c10] at h
       refine path_ok (k := 12) hF (RetQ_mild _ _ _ _ _ _ _ _) (ds := [.b false, .r [.ro (.v (.bool t389))] [], .b false, .b false, .r [.ro (.v (.string t390))] [], .b false, .b false, .b false, .b true]) (os := []) (c := none) rfl KD ?_
       cases h
       exact ret_as (ms := [.ro, .ro]) rfl KD
   · rw [if_neg c8] at h
     refine path_ok (k := 12) hF (RetQ_mild _ _ _ _ _ _ _ _) (ds := [.b false, .r [.ro (.v (.bool t389))] [], .b true, .b true, .b true, .b true, .b true, .b true]) (os := []) (c := none) rfl KD ?_
     cases h
     exact ret_as (ms := [.ro, .ro]) rfl KD
set_option maxRecDepth 100000 in
set_option maxHeartbeats 4000000 in
theorem impl_ParseLayout.c_j1 (k : Nat) (ih : Kp (∀ m, m < k → impl_ParseLayout.C m)) (r1 : List (List Int)) (r2 : List Int) (r3 : Bool) (w : World) (ro : Nat → Prop) (B : Nat) (hF : Fr TE (cx0 Tryz.f31 none w ro B)) (J0 : St → Prop) (hJ0 : ∀ m σ, m ≤ k → impl_ParseLayout.I0 r1 r2 r3 m σ → J0 σ) (x0 : ByteArray) (x6 : ByteArray) (x12 : List ByteArray) (x13 : Int) (x14 : Int) (x372000 : List (List Int)) (x372001 : List Int) (h : impl_ParseLayout.j1 k x0 x6 x12 x13 x14 x372000 x372001 = some (r1, r2, r3)) : Kp (WS TE (cx0 Tryz.f31 none w ro B) (stkAt [1, 1, 0, 1, 0, 0, 1, 1, 0, 0, 1, 0, 1, 9] [J0] (bodyOf Tryz.f31) []) ⟨[(0, .v (.string x0)), (2, .pt 1002 0 0), (4, .pt 1004 0 0), (6, .v (.string x6)), (12, .sl 1 (rX cS x12)), (13, .v (.int .i64 x13)), (14, .v (.int .i64 x14))], [(1002, .box 0 29 false [.v (.slice none 0 0), .v (.slice none 0 0)]), (3256, .own 0 27 1 (rX (cL (cI .i64) 1) x372000)), (1004, .box 0 29 false [.ow 3256 0, .sl 1 (rX (cI .i64) x372001)])]⟩ (RetQ TE Tryz.f31 none [.ro (.ag [.sl 1 (rX (cL (cI .i64) 1) r1), .sl 1 (rX (cI .i64) r2)]), .ro (.v (.bool r3))] [] w ro B)) := by
 refine ⟨?_⟩
 cases k with
 | zero => simp [impl_ParseLayout.j1] at h
 | succ k =>
 simp only [impl_ParseLayout.j1] at h
 obtain ⟨t379, q11, h⟩ := Option.bind_eq_some_iff.1 h
 have q11c := strings_Fields.ctr _ _ q11
 refine path_ok (k := 5) hF (RetQ_mild _ _ _ _ _ _ _ _) (ds := [.r [.ro (.sl 1 (rX cS t379))] [], .e 31 (.v (.int .i64 (t379.length : Int)))]) (os := []) (c := none) rfl KD ?_
 exact WS.can [(1002, some 1002), (1004, some 1004), (3256, some 3256), (3257, none)] (((ih.out k (by omega)).s_l1  r1 r2 r3 w ro B hF J0 (fun m σ hm hI => hJ0 m σ (by omega) hI) x0 x12 x13 x14 t379 (t379.length : Int) 0 x372000 ([] : List Int) h).out) KD
set_option maxRecDepth 100000 in
set_option maxHeartbeats 4000000 in
theorem impl_ParseLayout.c_l1 (k : Nat) (ih : Kp (∀ m, m < k → impl_ParseLayout.C m)) (r1 : List (List Int)) (r2 : List Int) (r3 : Bool) (w : World) (ro : Nat → Prop) (B : Nat) (hF : Fr TE (cx0 Tryz.f31 none w ro B)) (J0 : St → Prop) (hJ0 : ∀ m σ, m ≤ k → impl_ParseLayout.I0 r1 r2 r3 m σ → J0 σ) (x0 : ByteArray) (x12 : List ByteArray) (x13 : Int) (x14 : Int) (x30 : List ByteArray) (x31 : Int) (x32 : Int) (x372000 : List (List Int)) (x372001 : List Int) (h : impl_ParseLayout.l1 k x0 x12 x13 x14 x30 x31 x32 x372000 x372001 = some (r1, r2, r3)) : Kp (WS TE (cx0 Tryz.f31 none w ro B) (stkAt [1, 1, 0, 1, 0, 0, 1, 1, 0, 0, 1, 1, 1, 1, 0] [J0] (bodyOf Tryz.f31) []) ⟨[(0, .v (.string x0)), (2, .pt 1002 0 0), (4, .pt 1004 0 0), (12, .sl 1 (rX cS x12)), (13, .v (.int .i64 x13)), (14, .v (.int .i64 x14)), (30, .sl 1 (rX cS x30)), (31, .v (.int .i64 x31)), (32, .v (.int .i64 x32))], [(1002, .box 0 29 false [.v (.slice none 0 0), .v (.slice none 0 0)]), (3256, .own 0 27 1 (rX (cL (cI .i64) 1) x372000)), (3257, .own 0 3 1 (rX (cI .i64) x372001)), (1004, .box 0 29 false [.ow 3256 0, .ow 3257 0])]⟩ (RetQ TE Tryz.f31 none [.ro (.ag [.sl 1 (rX (cL (cI .i64) 1) r1), .sl 1 (rX (cI .i64) r2)]), .ro (.v (.bool r3))] [] w ro B)) := by
 refine ⟨WS.loop (fun m σ => m ≤ k ∧ impl_ParseLayout.I1 r1 r2 r3 m σ) k ⟨Nat.le_refl k, x0, x12, x13, x14, x30, x31, x32, x372000, x372001, h, rfl⟩ (fun m σ' hI J1 hJ1 => ?_)⟩
 clear h
 obtain ⟨hk, x0, x12, x13, x14, x30, x31, x32, x372000, x372001, h, rfl⟩ := hI
 cases m with
 | zero => simp [impl_ParseLayout.l1] at h
 | succ k' =>
 simp only [impl_ParseLayout.l1] at h
 by_cases c12 : x32 < x31
 · rw [if_pos c12] at h
   by_cases c13 : 0 ≤ x32
   · rw [if_pos c13] at h
     by_cases c14 : x32 < (x30.length : Int)
     · rw [if_pos c14] at h
       obtain ⟨⟨t383, t384⟩, q15, h⟩ := Option.bind_eq_some_iff.1 h
       dsimp only at h
       have q15c := strconv_Atoi.ctr _ _ _ q15
       by_cases c16 : t384.isNone = true
       · rw [if_pos c16] at h
         by_cases c17 : x372001.length < 17592186044416
         · rw [if_pos c17] at h
           refine path_ok (k := 17) hF (RetQ_mild _ _ _ _ _ _ _ _) (ds := [.b true, .e 34 (.rf [.v (.string (rdOf ByteArray.empty x30 x32))]), .r [.ro (.v (.int .i64 t383)), .ro (.er t384.isNone)] [], .b true, .p 46 ([[.v (.int .i64 t383)]]), .o 47 (rX (cI .i64) (x372001 ++ [t383]))]) (os := []) (c := none) rfl KD ?_
           exact WS.lpc [(1002, some 1002), (1004, some 1004), (3256, some 3256), (3257, some 3257)] (hJ1 _ _ (Nat.lt_succ_self _) ⟨by omega, x0, x12, x13, x14, x30, x31, (wrap64 (x32 + 1)), x372000, (x372001 ++ [t383]), h, rfl⟩) KD
         · rw [if_neg c17] at h
           cases h
       · rw [if_neg c16] at h
         refine path_ok (k := 17) hF (RetQ_mild _ _ _ _ _ _ _ _) (ds := [.b true, .e 34 (.rf [.v (.string (rdOf ByteArray.empty x30 x32))]), .r [.ro (.v (.int .i64 t383)), .ro (.er t384.isNone)] [], .b false]) (os := []) (c := none) rfl KD ?_
         exact WS.lpc [(1002, some 1002), (1004, some 1004), (3256, some 3256), (3257, some 3257)] (hJ1 _ _ (Nat.lt_succ_self _) ⟨by omega, x0, x12, x13, x14, x30, x31, (wrap64 (x32 + 1)), x372000, x372001, h, rfl⟩) KD
     · rw [if_neg c14] at h
       cases h
   · rw [if_neg c13] at h
     cases h
 · rw [if_neg c12] at h
   refine path_ok (k := 7) hF (RetQ_mild _ _ _ _ _ _ _ _) (ds := [.b false]) (os := []) (c := none) rfl KD ?_
   exact WS.lpc [(1002, some 1002), (1004, some 1004), (3256, some 3256), (3257, some 3257)] (hJ0 _ _ (by omega) ⟨x0, x12, x13, (wrap64 (x14 + 1)), x372000, x372001, h, rfl⟩) KD
theorem impl_ParseLayout.cs (k : Nat) : impl_ParseLayout.C k := by
 induction k using Nat.strongRecOn with
 | _ k ih0 =>
 have ih : Kp (∀ m, m < k → impl_ParseLayout.C m) := ⟨ih0⟩
 exact ⟨impl_ParseLayout.c_l0 k ih, impl_ParseLayout.c_j1 k ih, impl_ParseLayout.c_l1 k ih⟩
set_option maxRecDepth 100000 in
set_option maxHeartbeats 4000000 in
theorem impl_ParseLayout.ctr (k : Nat) (a0 : ByteArray) (r1 : List (List Int)) (r2 : List Int) (r3 : Bool) (h : impl_ParseLayout.f k a0 = some (r1, r2, r3)) : Ctr TE 31 none [.v (.string a0)] [.ro (.ag [.sl 1 (rX (cL (cI .i64) 1) r1), .sl 1 (rX (cI .i64) r2)]), .ro (.v (.bool r3))] [] := by
 refine ctr_of (fn := Tryz.f31) (c := (bodyOf Tryz.f31)) Tryz.func31 rfl (by kernel_rfl) (Nat.le_of_ble_eq_true (by kernel_rfl)) (fun w ro B hF _ => ?_)
 have ih : Kp (∀ m, m < k + 1 → impl_ParseLayout.C m) := ⟨fun m _ => impl_ParseLayout.cs m⟩
 simp only [impl_ParseLayout.f] at h
 obtain ⟨t372, q1, h⟩ := Option.bind_eq_some_iff.1 h
 have q1c := strings_Split.ctr _ _ _ q1
 refine path_ok (k := 8) hF (RetQ_mild _ _ _ _ _ _ _ _) (ds := [.r [.ro (.sl 1 (rX cS t372))] [], .e 13 (.v (.int .i64 (t372.length : Int)))]) (os := []) (c := none) rfl KD ?_
 exact WS.can [(1002, some 2), (1004, some 4), (3256, none), (3257, none)] (((ih.out k (by omega)).s_l0  r1 r2 r3 w ro B hF a0 t372 (t372.length : Int) 0 ([] : List (List Int)) ([] : List Int) h).out) KD
end Go.Proofs.YtidpankoobdfjaaGreatDoor.L
