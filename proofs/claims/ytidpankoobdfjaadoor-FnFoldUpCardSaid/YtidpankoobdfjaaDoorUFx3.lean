/- A part of the claim. -/
import Derived.Test.YtidpankoobdfjaaDoorUFx0
import Derived.Test.YtidpankoobdfjaaDoorUFx1
import Derived.Test.YtidpankoobdfjaaDoorUFSgc
import Derived.Test.YtidpankoobdfjaaDoorUFSgv
import Derived.Test.YtidpankoobdfjaaDoorUFSgw
-- PRINTED by print.py (a twelfth state) out of the translation. Not trusted: Lean checks it.
namespace Go.Proofs.YtidpankoobdfjaaDoor.U
open Go.RowKit Go.Proofs.YtidpankoobdfjaaDoorW.St Go.Proofs.YtidpankoobdfjaaDoorW.PrintWords Go.Proofs.YtidpankoobdfjaaDoorW.PrintLast Go.Proofs.YtidpankoobdfjaaDoorW.PrintMore
attribute [local go_sem] max2_int min2_int max_two min_two max_three min_three max_four min_four   -- for this text's walks alone
set_option linter.unusedVariables false
set_option linter.unusedSimpArgs false
def spec_LayOut.f (k : Nat) (a0 : ByteArray) (a1 : Int) : Option ((List (List Int)) × List Int × Bool) := (spec_l2RawLayOut.f k a0 a1).bind fun bt225 => ((spec_l13OwnLayout.f k bt225.1 bt225.2.1).bind fun bt233 => (some (bt233.1, bt233.2, bt225.2.2)))
set_option maxRecDepth 100000 in
set_option maxHeartbeats 4000000 in
theorem spec_LayOut.ctr (k : Nat) (a0 : ByteArray) (a1 : Int) (r1 : List (List Int)) (r2 : List Int) (r3 : Bool) (h : spec_LayOut.f k a0 a1 = some (r1, r2, r3)) : Ctr TE 107 none [.v (.string a0), .v (.int .i64 a1)] [.ro (.ag [.sl 1 (rX (cL (cI .i64) 1) r1), .sl 1 (rX (cI .i64) r2)]), .ro (.v (.bool r3))] [] := by
 refine ctr_of (fn := Tryd.f107) (c := (bodyOf Tryd.f107)) Tryd.func107 rfl (by kernel_rfl) (Nat.le_of_ble_eq_true (by kernel_rfl)) (fun w ro B hF _ => ?_)
 simp only [spec_LayOut.f] at h
 obtain ⟨⟨t225, t228, t231⟩, q1, h⟩ := Option.bind_eq_some_iff.1 h
 dsimp only at h
 have q1c := spec_l2RawLayOut.ctr k _ _ _ _ _ q1
 obtain ⟨⟨t233, t236⟩, q2, h⟩ := Option.bind_eq_some_iff.1 h
 dsimp only at h
 have q2c := spec_l13OwnLayout.ctr k _ _ _ _ q2
 refine path_ok (k := 7) hF (RetQ_mild _ _ _ _ _ _ _ _) (ds := [.r [.ro (.ag [.sl 1 (rX (cL (cI .i64) 1) t225), .sl 1 (rX (cI .i64) t228)]), .ro (.v (.bool t231))] [], .r [.ro (.ag [.sl 1 (rX (cL (cI .i64) 1) t233), .sl 1 (rX (cI .i64) t236)])] []]) (os := []) (c := none) rfl KD ?_
 cases h
 exact ret_as (ms := [.ro, .ro]) rfl KD
def spec_l2Draw.f (k : Nat) (s0_0 : List Int) (s0_1 : Int) : Option ((List (List Int)) × List Int × Int) := (spec_l13Rd_num.f k s0_0 s0_1 (([2, 1, 3, 0, 2] : List Int))).bind fun bt243 => ((spec_l1Draw.f k s0_0 bt243.2 bt243.1).bind fun bt245 => ((spec_LayOut.f k bt245.1 bt243.1).bind fun bt247 => (if bt247.2.2 = true then (some (bt247.1, bt247.2.1, bt245.2)) else ((spec_LayOut.f k (⟨#[91, 49, 44, 50, 93]⟩ : ByteArray) 1).bind fun bt255 => (some (bt255.1, bt255.2.1, bt245.2))))))
set_option maxRecDepth 100000 in
set_option maxHeartbeats 4000000 in
theorem spec_l2Draw.ctr (k : Nat) (s0_0 : List Int) (s0_1 : Int) (r1 : List (List Int)) (r2 : List Int) (r3 : Int) (h : spec_l2Draw.f k s0_0 s0_1 = some (r1, r2, r3)) : Ctr TE 73 (some (100, [.sl 1 (rX (cI .u8) s0_0), .v (.int .i64 s0_1)])) [.pt 0 0 0] [.ro (.ag [.sl 1 (rX (cL (cI .i64) 1) r1), .sl 1 (rX (cI .i64) r2)])] [.sl 1 (rX (cI .u8) s0_0), .v (.int .i64 r3)] := by
 refine ctr_of (fn := Tryd.f73) (c := (bodyOf Tryd.f73)) Tryd.func73 rfl (by kernel_rfl) (Nat.le_of_ble_eq_true (by kernel_rfl)) (fun w ro B hF _ => ?_)
 simp only [spec_l2Draw.f] at h
 obtain ⟨⟨t243, t244⟩, q1, h⟩ := Option.bind_eq_some_iff.1 h
 dsimp only at h
 have q1c := spec_l13Rd_num.ctr k _ _ _ _ _ q1
 obtain ⟨⟨t245, t246⟩, q2, h⟩ := Option.bind_eq_some_iff.1 h
 dsimp only at h
 have q2c := spec_l1Draw.ctr k _ _ _ _ _ q2
 obtain ⟨⟨t247, t250, t253⟩, q3, h⟩ := Option.bind_eq_some_iff.1 h
 dsimp only at h
 have q3c := spec_LayOut.ctr k _ _ _ _ _ q3
 by_cases c4 : t253 = true
 · rw [if_pos c4] at h
   refine path_ok (k := 16) hF (RetQ_mild _ _ _ _ _ _ _ _) (ds := [.p 8 ([[.v (.int .i64 2)], [.v (.int .i64 1)], [.v (.int .i64 3)], [.v (.int .i64 0)], [.v (.int .i64 2)]]), .r [.ro (.v (.int .i64 t243))] [.sl 1 (rX (cI .u8) s0_0), .v (.int .i64 t244)], .r [.ro (.v (.string t245))] [.sl 1 (rX (cI .u8) s0_0), .v (.int .i64 t246)], .r [.ro (.ag [.sl 1 (rX (cL (cI .i64) 1) t247), .sl 1 (rX (cI .i64) t250)]), .ro (.v (.bool t253))] [], .b false]) (os := []) (c := none) rfl KD ?_
   cases h
   exact ret_as (ms := [.ro]) rfl KD
 · rw [if_neg c4] at h
   obtain ⟨⟨t255, t258, t261⟩, q5, h⟩ := Option.bind_eq_some_iff.1 h
   dsimp only at h
   have q5c := spec_LayOut.ctr k _ _ _ _ _ q5
   refine path_ok (k := 16) hF (RetQ_mild _ _ _ _ _ _ _ _) (ds := [.p 8 ([[.v (.int .i64 2)], [.v (.int .i64 1)], [.v (.int .i64 3)], [.v (.int .i64 0)], [.v (.int .i64 2)]]), .r [.ro (.v (.int .i64 t243))] [.sl 1 (rX (cI .u8) s0_0), .v (.int .i64 t244)], .r [.ro (.v (.string t245))] [.sl 1 (rX (cI .u8) s0_0), .v (.int .i64 t246)], .r [.ro (.ag [.sl 1 (rX (cL (cI .i64) 1) t247), .sl 1 (rX (cI .i64) t250)]), .ro (.v (.bool t253))] [], .b true, .r [.ro (.ag [.sl 1 (rX (cL (cI .i64) 1) t255), .sl 1 (rX (cI .i64) t258)]), .ro (.v (.bool t261))] []]) (os := []) (c := none) rfl KD ?_
   cases h
   exact ret_as (ms := [.ro]) rfl KD
def spec_l2Some.f (k : Nat) (s0_0 : List Int) (s0_1 : Int) : Option ((List (List Int)) × List Int × Int) := (spec_l2Draw.f k s0_0 s0_1).bind fun bt263 => ((spec_l13Rd_pick.f k s0_0 bt263.2.2 24).bind fun bt271 => (if bt271.1 = 0 then ((some (([] : List Int) : List Int)).bind fun y273 => (if y273.length + bt263.2.1.length < 17592186044416 then ((some (y273 ++ bt263.2.1 : List Int)).bind fun y276 => ((spec_l13Rd_num.f k s0_0 bt271.2 (([0, (-1), 10007] : List Int))).bind fun bt282 => (if y276.length < 17592186044416 then (some (bt263.1, (y276 ++ [bt282.1]), bt282.2)) else (none)))) else (none))) else (if bt271.1 = 1 then ((some (([] : List (List Int)) : List (List Int))).bind fun y287 => (if y287.length + bt263.1.length < 5864062014805 then ((some (y287 ++ bt263.1 : List (List Int))).bind fun y290 => ((spec_l13Rd_num.f k s0_0 bt271.2 (([1, (-1), 0, 9223372036854775807] : List Int))).bind fun bt296 => (if y290.length < 5864062014805 then (some ((y290 ++ [(([bt296.1] : List Int))]), bt263.2.1, bt296.2)) else (none)))) else (none))) else (if bt271.1 = 2 then (if (bt263.1.length : Int) > 0 then ((spec_l13Rd_num.f k s0_0 bt271.2 (([0, 2, (-1), 9223372036854775807] : List Int))).bind fun bt307 => ((some (([(([bt307.1] : List Int))] : List (List Int)) : List (List Int))).bind fun y312 => (if 1 ≤ (bt263.1.length : Int) then ((some (bt263.1.drop 1 : List (List Int))).bind fun y315 => (if y312.length + y315.length < 5864062014805 then (some ((y312 ++ y315), bt263.2.1, bt307.2)) else (none))) else (none)))) else (some (bt263.1, bt263.2.1, bt271.2))) else (if bt271.1 = 3 then ((some (([(([1] : List Int)), (([1] : List Int)), (([1] : List Int))] : List (List Int)) : List (List Int))).bind fun y332 => (if y332.length + bt263.1.length < 5864062014805 then (some ((y332 ++ bt263.1), bt263.2.1, bt271.2)) else (none))) else (some (bt263.1, bt263.2.1, bt271.2)))))))
set_option maxRecDepth 100000 in
set_option maxHeartbeats 4000000 in
theorem spec_l2Some.ctr (k : Nat) (s0_0 : List Int) (s0_1 : Int) (r1 : List (List Int)) (r2 : List Int) (r3 : Int) (h : spec_l2Some.f k s0_0 s0_1 = some (r1, r2, r3)) : Ctr TE 38 (some (100, [.sl 1 (rX (cI .u8) s0_0), .v (.int .i64 s0_1)])) [.pt 0 0 0] [.ro (.ag [.sl 1 (rX (cL (cI .i64) 1) r1), .sl 1 (rX (cI .i64) r2)])] [.sl 1 (rX (cI .u8) s0_0), .v (.int .i64 r3)] := by
 refine ctr_of (fn := Tryd.f38) (c := (bodyOf Tryd.f38)) Tryd.func38 rfl (by kernel_rfl) (Nat.le_of_ble_eq_true (by kernel_rfl)) (fun w ro B hF _ => ?_)
 simp only [spec_l2Some.f] at h
 obtain ⟨⟨t263, t266, t269⟩, q1, h⟩ := Option.bind_eq_some_iff.1 h
 dsimp only at h
 have q1c := spec_l2Draw.ctr k _ _ _ _ _ q1
 obtain ⟨⟨t271, t272⟩, q2, h⟩ := Option.bind_eq_some_iff.1 h
 dsimp only at h
 have q2c := spec_l13Rd_pick.ctr k _ _ _ _ _ q2
 by_cases c3 : t271 = 0
 · rw [if_pos c3] at h
   obtain ⟨y273, hy273, h⟩ := Option.bind_eq_some_iff.1 h
   cases hy273
   by_cases c4 : (([] : List Int)).length + t266.length < 17592186044416
   · rw [if_pos c4] at h
     obtain ⟨y276, hy276, h⟩ := Option.bind_eq_some_iff.1 h
     cases hy276
     obtain ⟨⟨t282, t283⟩, q5, h⟩ := Option.bind_eq_some_iff.1 h
     dsimp only at h
     have q5c := spec_l13Rd_num.ctr k _ _ _ _ _ q5
     by_cases c6 : ((([] : List Int)) ++ t266).length < 17592186044416
     · rw [if_pos c6] at h
       refine path_ok (k := 16) hF (RetQ_mild _ _ _ _ _ _ _ _) (ds := [.r [.ro (.ag [.sl 1 (rX (cL (cI .i64) 1) t263), .sl 1 (rX (cI .i64) t266)])] [.sl 1 (rX (cI .u8) s0_0), .v (.int .i64 t269)], .r [.ro (.v (.int .i64 t271))] [.sl 1 (rX (cI .u8) s0_0), .v (.int .i64 t272)], .b true, .p 10 ([]), .o 13 (rX (cI .i64) ((([] : List Int)) ++ t266)), .p 15 ([[.v (.int .i64 0)], [.v (.int .i64 (-1))], [.v (.int .i64 10007)]]), .r [.ro (.v (.int .i64 t282))] [.sl 1 (rX (cI .u8) s0_0), .v (.int .i64 t283)], .p 17 ([[.v (.int .i64 t282)]]), .o 18 (rX (cI .i64) (((([] : List Int)) ++ t266) ++ [t282]))]) (os := []) (c := none) rfl KD ?_
       cases h
       exact ret_as (ms := [.ro]) rfl KD
     · rw [if_neg c6] at h
       cases h
   · rw [if_neg c4] at h
     cases h
 · rw [if_neg c3] at h
   by_cases c7 : t271 = 1
   · rw [if_pos c7] at h
     obtain ⟨y287, hy287, h⟩ := Option.bind_eq_some_iff.1 h
     cases hy287
     by_cases c8 : (([] : List (List Int))).length + t263.length < 5864062014805
     · rw [if_pos c8] at h
       obtain ⟨y290, hy290, h⟩ := Option.bind_eq_some_iff.1 h
       cases hy290
       obtain ⟨⟨t296, t297⟩, q9, h⟩ := Option.bind_eq_some_iff.1 h
       dsimp only at h
       have q9c := spec_l13Rd_num.ctr k _ _ _ _ _ q9
       by_cases c10 : ((([] : List (List Int))) ++ t263).length < 5864062014805
       · rw [if_pos c10] at h
         refine path_ok (k := 19) hF (RetQ_mild _ _ _ _ _ _ _ _) (ds := [.r [.ro (.ag [.sl 1 (rX (cL (cI .i64) 1) t263), .sl 1 (rX (cI .i64) t266)])] [.sl 1 (rX (cI .u8) s0_0), .v (.int .i64 t269)], .r [.ro (.v (.int .i64 t271))] [.sl 1 (rX (cI .u8) s0_0), .v (.int .i64 t272)], .b false, .b true, .p 22 ([]), .o 25 (rX (cL (cI .i64) 1) ((([] : List (List Int))) ++ t263)), .p 27 ([[.v (.int .i64 1)], [.v (.int .i64 (-1))], [.v (.int .i64 0)], [.v (.int .i64 9223372036854775807)]]), .r [.ro (.v (.int .i64 t296))] [.sl 1 (rX (cI .u8) s0_0), .v (.int .i64 t297)], .p 29 ([[.v (.int .i64 t296)]]), .p 30 ([[.sl 1 (rX (cI .i64) (([t296] : List Int)))]]), .o 31 (rX (cL (cI .i64) 1) (((([] : List (List Int))) ++ t263) ++ [(([t296] : List Int))]))]) (os := []) (c := none) rfl KD ?_
         cases h
         exact ret_as (ms := [.ro]) rfl KD
       · rw [if_neg c10] at h
         cases h
     · rw [if_neg c8] at h
       cases h
   · rw [if_neg c7] at h
     by_cases c11 : t271 = 2
     · rw [if_pos c11] at h
       by_cases c12 : (t263.length : Int) > 0
       · rw [if_pos c12] at h
         obtain ⟨⟨t307, t308⟩, q13, h⟩ := Option.bind_eq_some_iff.1 h
         dsimp only at h
         have q13c := spec_l13Rd_num.ctr k _ _ _ _ _ q13
         obtain ⟨y312, hy312, h⟩ := Option.bind_eq_some_iff.1 h
         cases hy312
         by_cases c14 : 1 ≤ (t263.length : Int)
         · rw [if_pos c14] at h
           obtain ⟨y315, hy315, h⟩ := Option.bind_eq_some_iff.1 h
           cases hy315
           by_cases c15 : (([(([t307] : List Int))] : List (List Int))).length + (t263.drop 1).length < 5864062014805
           · rw [if_pos c15] at h
             refine path_ok (k := 25) hF (RetQ_mild _ _ _ _ _ _ _ _) (ds := [.r [.ro (.ag [.sl 1 (rX (cL (cI .i64) 1) t263), .sl 1 (rX (cI .i64) t266)])] [.sl 1 (rX (cI .u8) s0_0), .v (.int .i64 t269)], .r [.ro (.v (.int .i64 t271))] [.sl 1 (rX (cI .u8) s0_0), .v (.int .i64 t272)], .b false, .b false, .b true, .e 37 (.v (.int .i64 (t263.length : Int))), .b true]) (os := [.p 2047 [⟨0, 11, true, [0]⟩, ⟨1, 10, true, [5]⟩, ⟨33, 9, false, [1, 6]⟩, ⟨35, 8, false, [2, 6]⟩, ⟨97, 8, true, [7]⟩, ⟨39, 7, false, [3, 6]⟩, ⟨99, 7, true, [7]⟩, ⟨225, 7, false, [1]⟩, ⟨47, 6, false, [4, 6]⟩, ⟨103, 6, true, [7]⟩, ⟨227, 6, false, [2]⟩, ⟨63, 5, false, [6]⟩, ⟨111, 5, true, [7]⟩, ⟨231, 5, false, [3]⟩, ⟨127, 4, true, [7]⟩, ⟨239, 4, false, [4]⟩, ⟨255, 3, false, [8]⟩, ⟨511, 2, true, [9]⟩, ⟨1023, 1, false, [10]⟩] [(0, true), (5, true), (1, false), (2, false), (3, false), (4, false), (6, false), (7, true), (8, false), (9, true), (10, false)] [(1, [.p 40 ([[.v (.int .i64 0)], [.v (.int .i64 2)], [.v (.int .i64 (-1))], [.v (.int .i64 9223372036854775807)]])]), (2, [.r [.ro (.v (.int .i64 t307))] [.sl 1 (rX (cI .u8) s0_0), .v (.int .i64 t308)]]), (3, [.p 42 ([[.v (.int .i64 t307)]])]), (4, [.p 43 ([[.sl 1 (rX (cI .i64) (([t307] : List Int)))]])]), (7, [.e 46 (.sl 1 (rX (cL (cI .i64) 1) (t263.drop 1)))]), (8, [.o 47 (rX (cL (cI .i64) 1) ((([(([t307] : List Int))] : List (List Int))) ++ (t263.drop 1)))])]]) (c := none) rfl KD ?_
             cases h
             exact ret_as (ms := [.ro]) rfl KD
           · rw [if_neg c15] at h
             cases h
         · rw [if_neg c14] at h
           cases h
       · rw [if_neg c12] at h
         refine path_ok (k := 25) hF (RetQ_mild _ _ _ _ _ _ _ _) (ds := [.r [.ro (.ag [.sl 1 (rX (cL (cI .i64) 1) t263), .sl 1 (rX (cI .i64) t266)])] [.sl 1 (rX (cI .u8) s0_0), .v (.int .i64 t269)], .r [.ro (.v (.int .i64 t271))] [.sl 1 (rX (cI .u8) s0_0), .v (.int .i64 t272)], .b false, .b false, .b true, .e 37 (.v (.int .i64 (t263.length : Int))), .b false]) (os := []) (c := none) rfl KD ?_
         cases h
         exact ret_as (ms := [.ro]) rfl KD
     · rw [if_neg c11] at h
       by_cases c16 : t271 = 3
       · rw [if_pos c16] at h
         obtain ⟨y332, hy332, h⟩ := Option.bind_eq_some_iff.1 h
         cases hy332
         by_cases c17 : (([(([1] : List Int)), (([1] : List Int)), (([1] : List Int))] : List (List Int))).length + t263.length < 5864062014805
         · rw [if_pos c17] at h
           refine path_ok (k := 25) hF (RetQ_mild _ _ _ _ _ _ _ _) (ds := [.r [.ro (.ag [.sl 1 (rX (cL (cI .i64) 1) t263), .sl 1 (rX (cI .i64) t266)])] [.sl 1 (rX (cI .u8) s0_0), .v (.int .i64 t269)], .r [.ro (.v (.int .i64 t271))] [.sl 1 (rX (cI .u8) s0_0), .v (.int .i64 t272)], .b false, .b false, .b false, .b true, .p 51 ([[.v (.int .i64 1)]]), .p 52 ([[.v (.int .i64 1)]]), .p 53 ([[.v (.int .i64 1)]]), .p 54 ([[.sl 1 (rX (cI .i64) (([1] : List Int)))], [.sl 1 (rX (cI .i64) (([1] : List Int)))], [.sl 1 (rX (cI .i64) (([1] : List Int)))]]), .o 57 (rX (cL (cI .i64) 1) ((([(([1] : List Int)), (([1] : List Int)), (([1] : List Int))] : List (List Int))) ++ t263))]) (os := []) (c := none) rfl KD ?_
           cases h
           exact ret_as (ms := [.ro]) rfl KD
         · rw [if_neg c17] at h
           cases h
       · rw [if_neg c16] at h
         refine path_ok (k := 25) hF (RetQ_mild _ _ _ _ _ _ _ _) (ds := [.r [.ro (.ag [.sl 1 (rX (cL (cI .i64) 1) t263), .sl 1 (rX (cI .i64) t266)])] [.sl 1 (rX (cI .u8) s0_0), .v (.int .i64 t269)], .r [.ro (.v (.int .i64 t271))] [.sl 1 (rX (cI .u8) s0_0), .v (.int .i64 t272)], .b false, .b false, .b false, .b false]) (os := []) (c := none) rfl KD ?_
         cases h
         exact ret_as (ms := [.ro]) rfl KD
def spec_DrawFoldUp.l0 : Nat → Int → List (List Int) → List Int → Option ((List (List Int)) × List Int)
  | 0, _, _, _ => none
  | k + 1, x13, x351000, x351001 => if x13 < 100 then (if x351001.length < 17592186044416 then (spec_DrawFoldUp.l0 k (wrap64 (x13 + 1)) x351000 (x351001 ++ [10006])) else (none)) else (some (x351000, x351001))
def spec_DrawFoldUp.f (k : Nat) (l0 : List Int) : Option ((List (List Int)) × List Int) := (spec_l13Open.f l0).bind fun bt339 => ((spec_l13Rd_pick.f k bt339.1 bt339.2 24).bind fun bt342 => (if bt342.1 = 0 then (spec_DrawFoldUp.l0 k 0 (([(([100] : List Int))] : List (List Int))) ([] : List Int)) else ((spec_l2Some.f k bt339.1 bt342.2).bind fun bt354 => (some (bt354.1, bt354.2.1)))))
def spec_DrawFoldUp.I0 (r1 : List (List Int)) (r2 : List Int) (m : Nat) (σ : St) : Prop := ∃ (x13 : Int) (x351000 : List (List Int)) (x351001 : List Int), spec_DrawFoldUp.l0 m x13 x351000 x351001 = some (r1, r2) ∧ σ = ⟨[(2, .pt 1002 0 0), (4, .pt 1004 0 0), (13, .v (.int .i64 x13))], [(1002, .box 0 26 false [.v (.slice none 0 0), .v (.slice none 0 0)]), (3256, .own 0 24 1 (rX (cL (cI .i64) 1) x351000)), (3257, .own 0 3 1 (rX (cI .i64) x351001)), (1004, .box 0 26 false [.ow 3256 0, .ow 3257 0])]⟩
structure spec_DrawFoldUp.C (k : Nat) : Prop where
 s_l0 : ∀ (r1 : List (List Int)) (r2 : List Int) (w : World) (ro : Nat → Prop) (B : Nat) (_ : Fr TE (cx0 Tryd.f7 none w ro B)) (x13 : Int) (x351000 : List (List Int)) (x351001 : List Int) (_ : spec_DrawFoldUp.l0 k x13 x351000 x351001 = some (r1, r2)), Kp (WS TE (cx0 Tryd.f7 none w ro B) (stkAt [1, 1, 0, 1, 0, 1, 0, 1, 0] [] (bodyOf Tryd.f7) []) ⟨[(2, .pt 1002 0 0), (4, .pt 1004 0 0), (13, .v (.int .i64 x13))], [(1002, .box 0 26 false [.v (.slice none 0 0), .v (.slice none 0 0)]), (3256, .own 0 24 1 (rX (cL (cI .i64) 1) x351000)), (3257, .own 0 3 1 (rX (cI .i64) x351001)), (1004, .box 0 26 false [.ow 3256 0, .ow 3257 0])]⟩ (RetQ TE Tryd.f7 none [.ro (.ag [.sl 1 (rX (cL (cI .i64) 1) r1), .sl 1 (rX (cI .i64) r2)])] [] w ro B))
set_option maxRecDepth 100000 in
set_option maxHeartbeats 4000000 in
theorem spec_DrawFoldUp.c_l0 (k : Nat) (ih : Kp (∀ m, m < k → spec_DrawFoldUp.C m)) (r1 : List (List Int)) (r2 : List Int) (w : World) (ro : Nat → Prop) (B : Nat) (hF : Fr TE (cx0 Tryd.f7 none w ro B)) (x13 : Int) (x351000 : List (List Int)) (x351001 : List Int) (h : spec_DrawFoldUp.l0 k x13 x351000 x351001 = some (r1, r2)) : Kp (WS TE (cx0 Tryd.f7 none w ro B) (stkAt [1, 1, 0, 1, 0, 1, 0, 1, 0] [] (bodyOf Tryd.f7) []) ⟨[(2, .pt 1002 0 0), (4, .pt 1004 0 0), (13, .v (.int .i64 x13))], [(1002, .box 0 26 false [.v (.slice none 0 0), .v (.slice none 0 0)]), (3256, .own 0 24 1 (rX (cL (cI .i64) 1) x351000)), (3257, .own 0 3 1 (rX (cI .i64) x351001)), (1004, .box 0 26 false [.ow 3256 0, .ow 3257 0])]⟩ (RetQ TE Tryd.f7 none [.ro (.ag [.sl 1 (rX (cL (cI .i64) 1) r1), .sl 1 (rX (cI .i64) r2)])] [] w ro B)) := by
 refine ⟨WS.loop (fun m σ => m ≤ k ∧ spec_DrawFoldUp.I0 r1 r2 m σ) k ⟨Nat.le_refl k, x13, x351000, x351001, h, rfl⟩ (fun m σ' hI J0 hJ0 => ?_)⟩
 clear h
 obtain ⟨hk, x13, x351000, x351001, h, rfl⟩ := hI
 cases m with
 | zero => simp [spec_DrawFoldUp.l0] at h
 | succ k' =>
 simp only [spec_DrawFoldUp.l0] at h
 by_cases c5 : x13 < 100
 · rw [if_pos c5] at h
   by_cases c6 : x351001.length < 17592186044416
   · rw [if_pos c6] at h
     refine path_ok (k := 10) hF (RetQ_mild _ _ _ _ _ _ _ _) (ds := [.b true, .p 17 ([[.v (.int .i64 10006)]]), .o 18 (rX (cI .i64) (x351001 ++ [10006]))]) (os := []) (c := none) rfl KD ?_
     exact WS.lpc [(1002, some 1002), (1004, some 1004), (3256, some 3256), (3257, some 3257)] (hJ0 _ _ (Nat.lt_succ_self _) ⟨by omega, (wrap64 (x13 + 1)), x351000, (x351001 ++ [10006]), h, rfl⟩) KD
   · rw [if_neg c6] at h
     cases h
 · rw [if_neg c5] at h
   refine path_ok (k := 8) hF (RetQ_mild _ _ _ _ _ _ _ _) (ds := [.b false]) (os := []) (c := none) rfl KD ?_
   cases h
   exact ret_as (ms := [.ro]) rfl KD
theorem spec_DrawFoldUp.cs (k : Nat) : spec_DrawFoldUp.C k := by
 induction k using Nat.strongRecOn with
 | _ k ih0 =>
 have ih : Kp (∀ m, m < k → spec_DrawFoldUp.C m) := ⟨ih0⟩
 exact ⟨spec_DrawFoldUp.c_l0 k ih⟩
set_option maxRecDepth 100000 in
set_option maxHeartbeats 4000000 in
theorem spec_DrawFoldUp.ctr (k : Nat) (l0 : List Int) (r1 : List (List Int)) (r2 : List Int) (h : spec_DrawFoldUp.f k l0 = some (r1, r2)) : Ctr TE 7 none [.sl 1 (rX (cI .u8) l0)] [.ro (.ag [.sl 1 (rX (cL (cI .i64) 1) r1), .sl 1 (rX (cI .i64) r2)])] [] := by
 refine ctr_of (fn := Tryd.f7) (c := (bodyOf Tryd.f7)) Tryd.func7 rfl (by kernel_rfl) (Nat.le_of_ble_eq_true (by kernel_rfl)) (fun w ro B hF _ => ?_)
 have ih : Kp (∀ m, m < k + 1 → spec_DrawFoldUp.C m) := ⟨fun m _ => spec_DrawFoldUp.cs m⟩
 simp only [spec_DrawFoldUp.f] at h
 obtain ⟨⟨t339, t340⟩, q1, h⟩ := Option.bind_eq_some_iff.1 h
 dsimp only at h
 have q1c := spec_l13Open.ctr _ _ _ q1
 obtain ⟨⟨t342, t343⟩, q2, h⟩ := Option.bind_eq_some_iff.1 h
 dsimp only at h
 have q2c := spec_l13Rd_pick.ctr k _ _ _ _ _ q2
 by_cases c3 : t342 = 0
 · rw [if_pos c3] at h
   refine path_ok (k := 14) hF (RetQ_mild _ _ _ _ _ _ _ _) (ds := [.r [.nb 100 [.sl 1 (rX (cI .u8) t339), .v (.int .i64 t340)]] [], .r [.ro (.v (.int .i64 t342))] [.sl 1 (rX (cI .u8) t339), .v (.int .i64 t343)], .b true, .p 10 ([[.v (.int .i64 100)]]), .p 11 ([[.sl 1 (rX (cI .i64) (([100] : List Int)))]])]) (os := []) (c := none) rfl KD ?_
   exact WS.can [(1002, some 2), (1004, some 4), (3256, some 11), (3257, none)] (((ih.out k (by omega)).s_l0  r1 r2 w ro B hF 0 (([(([100] : List Int))] : List (List Int))) ([] : List Int) h).out) KD
 · rw [if_neg c3] at h
   obtain ⟨⟨t354, t357, t360⟩, q4, h⟩ := Option.bind_eq_some_iff.1 h
   dsimp only at h
   have q4c := spec_l2Some.ctr k _ _ _ _ _ q4
   refine path_ok (k := 12) hF (RetQ_mild _ _ _ _ _ _ _ _) (ds := [.r [.nb 100 [.sl 1 (rX (cI .u8) t339), .v (.int .i64 t340)]] [], .r [.ro (.v (.int .i64 t342))] [.sl 1 (rX (cI .u8) t339), .v (.int .i64 t343)], .b false, .r [.ro (.ag [.sl 1 (rX (cL (cI .i64) 1) t354), .sl 1 (rX (cI .i64) t357)])] [.sl 1 (rX (cI .u8) t339), .v (.int .i64 t360)]]) (os := []) (c := none) rfl KD ?_
   cases h
   exact ret_as (ms := [.ro]) rfl KD
def impl_total.l0 : Nat → Int → List Int → Int → Int → Option (Int)
  | 0, _, _, _, _ => none
  | k + 1, x3, x6, x7, x8 => if x8 < x7 then (if 0 ≤ x8 then (if x8 < (x6.length : Int) then (impl_total.l0 k (wrap64 (x3 + (rd x6 x8))) x6 x7 (wrap64 (x8 + 1))) else (none)) else (none)) else (some x3)
def impl_total.f (k : Nat) (l0 : List Int) : Option (Int) := impl_total.l0 k 0 l0 (l0.length : Int) 0
def impl_total.I0 (r : Int) (m : Nat) (σ : St) : Prop := ∃ (x3 : Int) (x6 : List Int) (x7 : Int) (x8 : Int), impl_total.l0 m x3 x6 x7 x8 = some r ∧ σ = ⟨[(3, .v (.int .i64 x3)), (6, .sl 1 (rX (cI .i64) x6)), (7, .v (.int .i64 x7)), (8, .v (.int .i64 x8))], []⟩
structure impl_total.C (k : Nat) : Prop where
 s_l0 : ∀ (r : Int) (w : World) (ro : Nat → Prop) (B : Nat) (_ : Fr TE (cx0 Tryd.f77 none w ro B)) (x3 : Int) (x6 : List Int) (x7 : Int) (x8 : Int) (_ : impl_total.l0 k x3 x6 x7 x8 = some r), Kp (WS TE (cx0 Tryd.f77 none w ro B) (stkAt [1, 1, 0, 1, 0] [] (bodyOf Tryd.f77) []) ⟨[(3, .v (.int .i64 x3)), (6, .sl 1 (rX (cI .i64) x6)), (7, .v (.int .i64 x7)), (8, .v (.int .i64 x8))], []⟩ (RetQ TE Tryd.f77 none [.ro (.v (.int .i64 r))] [] w ro B))
set_option maxRecDepth 100000 in
set_option maxHeartbeats 4000000 in
theorem impl_total.c_l0 (k : Nat) (ih : Kp (∀ m, m < k → impl_total.C m)) (r : Int) (w : World) (ro : Nat → Prop) (B : Nat) (hF : Fr TE (cx0 Tryd.f77 none w ro B)) (x3 : Int) (x6 : List Int) (x7 : Int) (x8 : Int) (h : impl_total.l0 k x3 x6 x7 x8 = some r) : Kp (WS TE (cx0 Tryd.f77 none w ro B) (stkAt [1, 1, 0, 1, 0] [] (bodyOf Tryd.f77) []) ⟨[(3, .v (.int .i64 x3)), (6, .sl 1 (rX (cI .i64) x6)), (7, .v (.int .i64 x7)), (8, .v (.int .i64 x8))], []⟩ (RetQ TE Tryd.f77 none [.ro (.v (.int .i64 r))] [] w ro B)) := by
 refine ⟨WS.loop (fun m σ => m ≤ k ∧ impl_total.I0 r m σ) k ⟨Nat.le_refl k, x3, x6, x7, x8, h, rfl⟩ (fun m σ' hI J0 hJ0 => ?_)⟩
 clear h
 obtain ⟨hk, x3, x6, x7, x8, h, rfl⟩ := hI
 cases m with
 | zero => simp [impl_total.l0] at h
 | succ k' =>
 simp only [impl_total.l0] at h
 by_cases c1 : x8 < x7
 · rw [if_pos c1] at h
   by_cases c2 : 0 ≤ x8
   · rw [if_pos c2] at h
     by_cases c3 : x8 < (x6.length : Int)
     · rw [if_pos c3] at h
       refine path_ok (k := 12) hF (RetQ_mild _ _ _ _ _ _ _ _) (ds := [.b true, .e 10 (.rf [.v (.int .i64 (rd x6 x8))])]) (os := []) (c := none) rfl KD ?_
       exact WS.lpc [] (hJ0 _ _ (Nat.lt_succ_self _) ⟨by omega, (wrap64 (x3 + (rd x6 x8))), x6, x7, (wrap64 (x8 + 1)), h, rfl⟩) KD
     · rw [if_neg c3] at h
       cases h
   · rw [if_neg c2] at h
     cases h
 · rw [if_neg c1] at h
   refine path_ok (k := 8) hF (RetQ_mild _ _ _ _ _ _ _ _) (ds := [.b false]) (os := []) (c := none) rfl KD ?_
   cases h
   exact ret_as (ms := [.ro]) rfl KD
theorem impl_total.cs (k : Nat) : impl_total.C k := by
 induction k using Nat.strongRecOn with
 | _ k ih0 =>
 have ih : Kp (∀ m, m < k → impl_total.C m) := ⟨ih0⟩
 exact ⟨impl_total.c_l0 k ih⟩
set_option maxRecDepth 100000 in
set_option maxHeartbeats 4000000 in
theorem impl_total.ctr (k : Nat) (l0 : List Int) (r : Int) (h : impl_total.f k l0 = some r) : Ctr TE 77 none [.sl 1 (rX (cI .i64) l0)] [.ro (.v (.int .i64 r))] [] := by
 refine ctr_of (fn := Tryd.f77) (c := (bodyOf Tryd.f77)) Tryd.func77 rfl (by kernel_rfl) (Nat.le_of_ble_eq_true (by kernel_rfl)) (fun w ro B hF _ => ?_)
 have ih : Kp (∀ m, m < k + 1 → impl_total.C m) := ⟨fun m _ => impl_total.cs m⟩
 simp only [impl_total.f] at h
 refine path_ok (k := 8) hF (RetQ_mild _ _ _ _ _ _ _ _) (ds := [.e 7 (.v (.int .i64 (l0.length : Int)))]) (os := []) (c := none) rfl KD ?_
 exact WS.can [] (((ih.out k (by omega)).s_l0  r w ro B hF 0 l0 (l0.length : Int) 0 h).out) KD
def impl_wrong.l0 : Nat → Int → List (List Int) → Int → Int → List (List Int) → List Int → Option (Int)
  | 0, _, _, _, _, _, _ => none
  | k + 1, x5, x10, x11, x12, x363000, x363001 => if x12 < x11 then (if 0 ≤ x12 then (if x12 < (x10.length : Int) then (if x12 = 3 then (some x12) else (if ((rd_L1 x10 x12).length : Int) = x5 then ((impl_within.f (rd_L1 x10 x12) 400).bind fun t365 => (if t365 = true then ((impl_total.f k (rd_L1 x10 x12)).bind fun t366 => (impl_wrong.l0 k t366 x10 x11 (wrap64 (x12 + 1)) x363000 x363001)) else (some x12))) else (some x12))) else (none)) else (none)) else (if (x363001.length : Int) = x5 then ((impl_within.f x363001 10006).bind fun t363 => (if t363 = true then (some (-1)) else (some (x363000.length : Int)))) else (some (x363000.length : Int)))
def impl_wrong.f (k : Nat) (l0_0 : List (List Int)) (l0_1 : List Int) (a1 : Int) : Option (Int) := impl_wrong.l0 k a1 l0_0 (l0_0.length : Int) 0 l0_0 l0_1
def impl_wrong.I0 (r : Int) (m : Nat) (σ : St) : Prop := ∃ (x5 : Int) (x10 : List (List Int)) (x11 : Int) (x12 : Int) (x363000 : List (List Int)) (x363001 : List Int), impl_wrong.l0 m x5 x10 x11 x12 x363000 x363001 = some r ∧ σ = ⟨[(2, .pt 1002 0 0), (5, .v (.int .i64 x5)), (10, .sl 1 (rX (cL (cI .i64) 1) x10)), (11, .v (.int .i64 x11)), (12, .v (.int .i64 x12))], [(1002, .box 0 26 false [.sl 1 (rX (cL (cI .i64) 1) x363000), .sl 1 (rX (cI .i64) x363001)])]⟩
structure impl_wrong.C (k : Nat) : Prop where
 s_l0 : ∀ (r : Int) (w : World) (ro : Nat → Prop) (B : Nat) (_ : Fr TE (cx0 Tryd.f43 none w ro B)) (x5 : Int) (x10 : List (List Int)) (x11 : Int) (x12 : Int) (x363000 : List (List Int)) (x363001 : List Int) (_ : impl_wrong.l0 k x5 x10 x11 x12 x363000 x363001 = some r), Kp (WS TE (cx0 Tryd.f43 none w ro B) (stkAt [1, 1, 0, 1, 0] [] (bodyOf Tryd.f43) []) ⟨[(2, .pt 1002 0 0), (5, .v (.int .i64 x5)), (10, .sl 1 (rX (cL (cI .i64) 1) x10)), (11, .v (.int .i64 x11)), (12, .v (.int .i64 x12))], [(1002, .box 0 26 false [.sl 1 (rX (cL (cI .i64) 1) x363000), .sl 1 (rX (cI .i64) x363001)])]⟩ (RetQ TE Tryd.f43 none [.ro (.v (.int .i64 r))] [] w ro B))
set_option maxRecDepth 100000 in
set_option maxHeartbeats 4000000 in
theorem impl_wrong.c_l0 (k : Nat) (ih : Kp (∀ m, m < k → impl_wrong.C m)) (r : Int) (w : World) (ro : Nat → Prop) (B : Nat) (hF : Fr TE (cx0 Tryd.f43 none w ro B)) (x5 : Int) (x10 : List (List Int)) (x11 : Int) (x12 : Int) (x363000 : List (List Int)) (x363001 : List Int) (h : impl_wrong.l0 k x5 x10 x11 x12 x363000 x363001 = some r) : Kp (WS TE (cx0 Tryd.f43 none w ro B) (stkAt [1, 1, 0, 1, 0] [] (bodyOf Tryd.f43) []) ⟨[(2, .pt 1002 0 0), (5, .v (.int .i64 x5)), (10, .sl 1 (rX (cL (cI .i64) 1) x10)), (11, .v (.int .i64 x11)), (12, .v (.int .i64 x12))], [(1002, .box 0 26 false [.sl 1 (rX (cL (cI .i64) 1) x363000), .sl 1 (rX (cI .i64) x363001)])]⟩ (RetQ TE Tryd.f43 none [.ro (.v (.int .i64 r))] [] w ro B)) := by
 refine ⟨WS.loop (fun m σ => m ≤ k ∧ impl_wrong.I0 r m σ) k ⟨Nat.le_refl k, x5, x10, x11, x12, x363000, x363001, h, rfl⟩ (fun m σ' hI J0 hJ0 => ?_)⟩
 clear h
 obtain ⟨hk, x5, x10, x11, x12, x363000, x363001, h, rfl⟩ := hI
 cases m with
 | zero => simp [impl_wrong.l0] at h
 | succ k' =>
 simp only [impl_wrong.l0] at h
 by_cases c1 : x12 < x11
 · rw [if_pos c1] at h
   by_cases c2 : 0 ≤ x12
   · rw [if_pos c2] at h
     by_cases c3 : x12 < (x10.length : Int)
     · rw [if_pos c3] at h
       by_cases c4 : x12 = 3
       · rw [if_pos c4] at h
         refine path_ok (k := 16) hF (RetQ_mild _ _ _ _ _ _ _ _) (ds := [.b true, .e 15 (.rf [.sl 1 (rX (cI .i64) (rd_L1 x10 x12))]), .b true, .b true, .b true, .b true, .b true, .b true, .b true, .b true, .b true, .b true]) (os := []) (c := none) rfl KD ?_
         cases h
         exact ret_as (ms := [.ro]) rfl KD
       · rw [if_neg c4] at h
         by_cases c5 : ((rd_L1 x10 x12).length : Int) = x5
         · rw [if_pos c5] at h
           obtain ⟨t365, q6, h⟩ := Option.bind_eq_some_iff.1 h
           have q6c := impl_within.ctr _ _ _ q6
           by_cases c7 : t365 = true
           · rw [if_pos c7] at h
             obtain ⟨t366, q8, h⟩ := Option.bind_eq_some_iff.1 h
             have q8c := impl_total.ctr k' _ _ q8
             refine path_ok (k := 17) hF (RetQ_mild _ _ _ _ _ _ _ _) (ds := [.b true, .e 15 (.rf [.sl 1 (rX (cI .i64) (rd_L1 x10 x12))]), .b false, .b false, .e 21 (.v (.int .i64 ((rd_L1 x10 x12).length : Int))), .b false, .b false, .b false, .b false, .b false, .r [.ro (.v (.bool t365))] [], .b false, .b false, .b false, .r [.ro (.v (.int .i64 t366))] []]) (os := []) (c := none) rfl KD ?_
             exact WS.lpc [(1002, some 1002)] (hJ0 _ _ (Nat.lt_succ_self _) ⟨by omega, t366, x10, x11, (wrap64 (x12 + 1)), x363000, x363001, h, rfl⟩) KD
           · rw [if_neg c7] at h
             refine path_ok (k := 16) hF (RetQ_mild _ _ _ _ _ _ _ _) (ds := [.b true, .e 15 (.rf [.sl 1 (rX (cI .i64) (rd_L1 x10 x12))]), .b false, .b false, .e 21 (.v (.int .i64 ((rd_L1 x10 x12).length : Int))), .b false, .b false, .b false, .b false, .b false, .r [.ro (.v (.bool t365))] [], .b false, .b false, .b true]) (os := []) (c := none) rfl KD ?_
             cases h
             exact ret_as (ms := [.ro]) rfl KD
         · rw [if_neg c5] at h
           refine path_ok (k := 16) hF (RetQ_mild _ _ _ _ _ _ _ _) (ds := [.b true, .e 15 (.rf [.sl 1 (rX (cI .i64) (rd_L1 x10 x12))]), .b false, .b false, .e 21 (.v (.int .i64 ((rd_L1 x10 x12).length : Int))), .b false, .b false, .b false, .b true, .b true, .b true, .b true, .b true]) (os := []) (c := none) rfl KD ?_
           cases h
           exact ret_as (ms := [.ro]) rfl KD
     · rw [if_neg c3] at h
       cases h
   · rw [if_neg c2] at h
     cases h
 · rw [if_neg c1] at h
   by_cases c9 : (x363001.length : Int) = x5
   · rw [if_pos c9] at h
     obtain ⟨t363, q10, h⟩ := Option.bind_eq_some_iff.1 h
     have q10c := impl_within.ctr _ _ _ q10
     by_cases c11 : t363 = true
     · rw [if_pos c11] at h
       refine path_ok (k := 13) hF (RetQ_mild _ _ _ _ _ _ _ _) (ds := [.b false, .e 36 (.v (.int .i64 (x363001.length : Int))), .b false, .b false, .b false, .r [.ro (.v (.bool t363))] [], .b false, .b false, .b false]) (os := []) (c := none) rfl KD ?_
       cases h
       exact ret_as (ms := [.ro]) rfl KD
     · rw [if_neg c11] at h
       refine path_ok (k := 12) hF (RetQ_mild _ _ _ _ _ _ _ _) (ds := [.b false, .e 36 (.v (.int .i64 (x363001.length : Int))), .b false, .b false, .b false, .r [.ro (.v (.bool t363))] [], .b false, .b false, .b true, .e 47 (.v (.int .i64 (x363000.length : Int)))]) (os := []) (c := none) rfl KD ?_
       cases h
       exact ret_as (ms := [.ro]) rfl KD
   · rw [if_neg c9] at h
     refine path_ok (k := 12) hF (RetQ_mild _ _ _ _ _ _ _ _) (ds := [.b false, .e 36 (.v (.int .i64 (x363001.length : Int))), .b true, .b true, .b true, .b true, .b true, .b true, .e 47 (.v (.int .i64 (x363000.length : Int)))]) (os := []) (c := none) rfl KD ?_
     cases h
     exact ret_as (ms := [.ro]) rfl KD
theorem impl_wrong.cs (k : Nat) : impl_wrong.C k := by
 induction k using Nat.strongRecOn with
 | _ k ih0 =>
 have ih : Kp (∀ m, m < k → impl_wrong.C m) := ⟨ih0⟩
 exact ⟨impl_wrong.c_l0 k ih⟩
set_option maxRecDepth 100000 in
set_option maxHeartbeats 4000000 in
theorem impl_wrong.ctr (k : Nat) (l0_0 : List (List Int)) (l0_1 : List Int) (a1 : Int) (r : Int) (h : impl_wrong.f k l0_0 l0_1 a1 = some r) : Ctr TE 43 none [.ag [.sl 1 (rX (cL (cI .i64) 1) l0_0), .sl 1 (rX (cI .i64) l0_1)], .v (.int .i64 a1)] [.ro (.v (.int .i64 r))] [] := by
 refine ctr_of (fn := Tryd.f43) (c := (bodyOf Tryd.f43)) Tryd.func43 rfl (by kernel_rfl) (Nat.le_of_ble_eq_true (by kernel_rfl)) (fun w ro B hF _ => ?_)
 have ih : Kp (∀ m, m < k + 1 → impl_wrong.C m) := ⟨fun m _ => impl_wrong.cs m⟩
 simp only [impl_wrong.f] at h
 refine path_ok (k := 8) hF (RetQ_mild _ _ _ _ _ _ _ _) (ds := [.e 11 (.v (.int .i64 (l0_0.length : Int)))]) (os := []) (c := none) rfl KD ?_
 exact WS.can [(1002, some 2)] (((ih.out k (by omega)).s_l0  r w ro B hF a1 l0_0 (l0_0.length : Int) 0 l0_0 l0_1 h).out) KD
def impl_LayoutValid.f (k : Nat) (l0_0 : List (List Int)) (l0_1 : List Int) : Option (Bool) := (impl_wrong.f k l0_0 l0_1 1).bind fun t368 => (some (decide (t368 < 0)))
set_option maxRecDepth 100000 in
set_option maxHeartbeats 4000000 in
theorem impl_LayoutValid.ctr (k : Nat) (l0_0 : List (List Int)) (l0_1 : List Int) (r : Bool) (h : impl_LayoutValid.f k l0_0 l0_1 = some r) : Ctr TE 12 none [.ag [.sl 1 (rX (cL (cI .i64) 1) l0_0), .sl 1 (rX (cI .i64) l0_1)]] [.ro (.v (.bool r))] [] := by
 refine ctr_of (fn := Tryd.f12) (c := (bodyOf Tryd.f12)) Tryd.func12 rfl (by kernel_rfl) (Nat.le_of_ble_eq_true (by kernel_rfl)) (fun w ro B hF _ => ?_)
 simp only [impl_LayoutValid.f] at h
 obtain ⟨t368, q1, h⟩ := Option.bind_eq_some_iff.1 h
 have q1c := impl_wrong.ctr k _ _ _ _ q1
 refine path_ok (k := 5) hF (RetQ_mild _ _ _ _ _ _ _ _) (ds := [.r [.ro (.v (.int .i64 t368))] []]) (os := []) (c := none) rfl KD ?_
 cases h
 exact ret_as (ms := [.ro]) rfl KD
mutual
def impl_raised.l0 : Nat → List (S65) → List Int → Int → Int → List (List Int) → List Int → Option ((List (S65)))
  | 0, _, _, _, _, _, _ => none
  | k + 1, x5, x17, x18, x19, x370000, x370001 => if x19 < x18 then (if 0 ≤ x19 then (if x19 < (x17.length : Int) then (if x5.length < 4398046511104 then (impl_raised.l0 k (x5 ++ [(⟨rd x17 x19, ([] : List (S65))⟩ : S65)]) x17 x18 (wrap64 (x19 + 1)) x370000 x370001) else (none)) else (none)) else (none)) else (impl_raised.l1 k x5 (wrap64 ((x370000.length : Int) - 1)) x370000 x370001)
def impl_raised.l1 : Nat → List (S65) → Int → List (List Int) → List Int → Option ((List (S65)))
  | 0, _, _, _, _ => none
  | k + 1, x5, x8, x370000, x370001 => if x8 ≥ 0 then (if 0 ≤ x8 then (if x8 < (x370000.length : Int) then (impl_raised.l2 k x5 x8 (([] : List (S65))) (rd_L1 x370000 x8) ((rd_L1 x370000 x8).length : Int) 0 x370000 x370001) else (none)) else (none)) else (some x5)
def impl_raised.l2 : Nat → List (S65) → Int → List (S65) → List Int → Int → Int → List (List Int) → List Int → Option ((List (S65)))
  | 0, _, _, _, _, _, _, _, _ => none
  | k + 1, x5, x8, x9, x42, x43, x44, x370000, x370001 => if x44 < x43 then (if 0 ≤ x44 then (if x44 < (x42.length : Int) then (if 0 ≤ (rd x42 x44) then (if (rd x42 x44) ≤ (x5.length : Int) then (if x9.length < 4398046511104 then (impl_raised.l2 k (x5.drop ((rd x42 x44) : Int).toNat) x8 (x9 ++ [(⟨0, (x5.take ((rd x42 x44) : Int).toNat)⟩ : S65)]) x42 x43 (wrap64 (x44 + 1)) x370000 x370001) else (none)) else (none)) else (none)) else (none)) else (none)) else (impl_raised.l1 k x9 (wrap64 (x8 - 1)) x370000 x370001)
end
def impl_raised.f (k : Nat) (l0_0 : List (List Int)) (l0_1 : List Int) (a1 : Int) : Option ((List (S65))) := if 0 ≤ (l0_1.length : Int) then (if ((l0_1.length : Int) : Int).toNat ≤ 8796093022208 then (impl_raised.l0 k (List.replicate 0 z65) l0_1 (l0_1.length : Int) 0 l0_0 l0_1) else (none)) else (none)
def impl_raised.I0 (r : List (S65)) (m : Nat) (σ : St) : Prop := ∃ (x5 : List (S65)) (x17 : List Int) (x18 : Int) (x19 : Int) (x370000 : List (List Int)) (x370001 : List Int), impl_raised.l0 m x5 x17 x18 x19 x370000 x370001 = some r ∧ σ = ⟨[(2, .pt 1002 0 0), (5, .ow 1005 0), (17, .sl 1 (rX (cI .i64) x17)), (18, .v (.int .i64 x18)), (19, .v (.int .i64 x19))], [(1002, .box 0 26 false [.sl 1 (rX (cL (cI .i64) 1) x370000), .sl 1 (rX (cI .i64) x370001)]), (1005, .own 0 65 2 (r65 x5))]⟩
def impl_raised.I1 (r : List (S65)) (m : Nat) (σ : St) : Prop := ∃ (x5 : List (S65)) (x8 : Int) (x370000 : List (List Int)) (x370001 : List Int), impl_raised.l1 m x5 x8 x370000 x370001 = some r ∧ σ = ⟨[(2, .pt 1002 0 0), (5, .ow 1005 0), (8, .v (.int .i64 x8))], [(1002, .box 0 26 false [.sl 1 (rX (cL (cI .i64) 1) x370000), .sl 1 (rX (cI .i64) x370001)]), (1005, .own 0 65 2 (r65 x5))]⟩
def impl_raised.I2 (r : List (S65)) (m : Nat) (σ : St) : Prop := ∃ (x5 : List (S65)) (x8 : Int) (x9 : List (S65)) (x42 : List Int) (x43 : Int) (x44 : Int) (x370000 : List (List Int)) (x370001 : List Int), impl_raised.l2 m x5 x8 x9 x42 x43 x44 x370000 x370001 = some r ∧ σ = ⟨[(2, .pt 1002 0 0), (5, .sl 2 (r65 x5)), (8, .v (.int .i64 x8)), (9, .ow 1009 0), (42, .sl 1 (rX (cI .i64) x42)), (43, .v (.int .i64 x43)), (44, .v (.int .i64 x44))], [(1002, .box 0 26 false [.sl 1 (rX (cL (cI .i64) 1) x370000), .sl 1 (rX (cI .i64) x370001)]), (1009, .own 0 65 2 (r65 x9))]⟩
structure impl_raised.C (k : Nat) : Prop where
 s_l0 : ∀ (r : List (S65)) (w : World) (ro : Nat → Prop) (B : Nat) (_ : Fr TE (cx0 Tryd.f39 none w ro B)) (x5 : List (S65)) (x17 : List Int) (x18 : Int) (x19 : Int) (x370000 : List (List Int)) (x370001 : List Int) (_ : impl_raised.l0 k x5 x17 x18 x19 x370000 x370001 = some r), Kp (WS TE (cx0 Tryd.f39 none w ro B) (stkAt [1, 1, 0, 1, 0] [] (bodyOf Tryd.f39) []) ⟨[(2, .pt 1002 0 0), (5, .ow 1005 0), (17, .sl 1 (rX (cI .i64) x17)), (18, .v (.int .i64 x18)), (19, .v (.int .i64 x19))], [(1002, .box 0 26 false [.sl 1 (rX (cL (cI .i64) 1) x370000), .sl 1 (rX (cI .i64) x370001)]), (1005, .own 0 65 2 (r65 x5))]⟩ (RetQ TE Tryd.f39 none [.own 65 2 (r65 r)] [] w ro B))
 s_l1 : ∀ (r : List (S65)) (w : World) (ro : Nat → Prop) (B : Nat) (_ : Fr TE (cx0 Tryd.f39 none w ro B)) (x5 : List (S65)) (x8 : Int) (x370000 : List (List Int)) (x370001 : List Int) (_ : impl_raised.l1 k x5 x8 x370000 x370001 = some r), Kp (WS TE (cx0 Tryd.f39 none w ro B) (stkAt [1, 1, 1, 0, 1, 0] [] (bodyOf Tryd.f39) []) ⟨[(2, .pt 1002 0 0), (5, .ow 1005 0), (8, .v (.int .i64 x8))], [(1002, .box 0 26 false [.sl 1 (rX (cL (cI .i64) 1) x370000), .sl 1 (rX (cI .i64) x370001)]), (1005, .own 0 65 2 (r65 x5))]⟩ (RetQ TE Tryd.f39 none [.own 65 2 (r65 r)] [] w ro B))
 s_l2 : ∀ (r : List (S65)) (w : World) (ro : Nat → Prop) (B : Nat) (_ : Fr TE (cx0 Tryd.f39 none w ro B)) (J1 : St → Prop) (_ : ∀ m σ, m ≤ k → impl_raised.I1 r m σ → J1 σ) (x5 : List (S65)) (x8 : Int) (x9 : List (S65)) (x42 : List Int) (x43 : Int) (x44 : Int) (x370000 : List (List Int)) (x370001 : List Int) (_ : impl_raised.l2 k x5 x8 x9 x42 x43 x44 x370000 x370001 = some r), Kp (WS TE (cx0 Tryd.f39 none w ro B) (stkAt [1, 1, 1, 0, 1, 0, 0, 1, 0, 0, 1, 0, 1, 0] [J1] (bodyOf Tryd.f39) []) ⟨[(2, .pt 1002 0 0), (5, .sl 2 (r65 x5)), (8, .v (.int .i64 x8)), (9, .ow 1009 0), (42, .sl 1 (rX (cI .i64) x42)), (43, .v (.int .i64 x43)), (44, .v (.int .i64 x44))], [(1002, .box 0 26 false [.sl 1 (rX (cL (cI .i64) 1) x370000), .sl 1 (rX (cI .i64) x370001)]), (1009, .own 0 65 2 (r65 x9))]⟩ (RetQ TE Tryd.f39 none [.own 65 2 (r65 r)] [] w ro B))
set_option maxRecDepth 100000 in
set_option maxHeartbeats 4000000 in
theorem impl_raised.c_l0 (k : Nat) (ih : Kp (∀ m, m < k → impl_raised.C m)) (r : List (S65)) (w : World) (ro : Nat → Prop) (B : Nat) (hF : Fr TE (cx0 Tryd.f39 none w ro B)) (x5 : List (S65)) (x17 : List Int) (x18 : Int) (x19 : Int) (x370000 : List (List Int)) (x370001 : List Int) (h : impl_raised.l0 k x5 x17 x18 x19 x370000 x370001 = some r) : Kp (WS TE (cx0 Tryd.f39 none w ro B) (stkAt [1, 1, 0, 1, 0] [] (bodyOf Tryd.f39) []) ⟨[(2, .pt 1002 0 0), (5, .ow 1005 0), (17, .sl 1 (rX (cI .i64) x17)), (18, .v (.int .i64 x18)), (19, .v (.int .i64 x19))], [(1002, .box 0 26 false [.sl 1 (rX (cL (cI .i64) 1) x370000), .sl 1 (rX (cI .i64) x370001)]), (1005, .own 0 65 2 (r65 x5))]⟩ (RetQ TE Tryd.f39 none [.own 65 2 (r65 r)] [] w ro B)) := by
 refine ⟨WS.loop (fun m σ => m ≤ k ∧ impl_raised.I0 r m σ) k ⟨Nat.le_refl k, x5, x17, x18, x19, x370000, x370001, h, rfl⟩ (fun m σ' hI J0 hJ0 => ?_)⟩
 clear h
 obtain ⟨hk, x5, x17, x18, x19, x370000, x370001, h, rfl⟩ := hI
 cases m with
 | zero => simp [impl_raised.l0] at h
 | succ k' =>
 simp only [impl_raised.l0] at h
 by_cases c3 : x19 < x18
 · rw [if_pos c3] at h
   by_cases c4 : 0 ≤ x19
   · rw [if_pos c4] at h
     by_cases c5 : x19 < (x17.length : Int)
     · rw [if_pos c5] at h
       by_cases c6 : x5.length < 4398046511104
       · rw [if_pos c6] at h
         refine path_ok (k := 12) hF (RetQ_mild _ _ _ _ _ _ _ _) (ds := [.b true, .e 21 (.rf [.v (.int .i64 (rd x17 x19))]), .p 26 ([[.v (.int .i64 (rd x17 x19)), .sl 2 (r65 [])]]), .o 27 (r65 (x5 ++ [(⟨rd x17 x19, ([] : List (S65))⟩ : S65)]))]) (os := []) (c := none) rfl KD ?_
         exact WS.lpc [(1002, some 1002), (1005, some 1005)] (hJ0 _ _ (Nat.lt_succ_self _) ⟨by omega, (x5 ++ [(⟨rd x17 x19, ([] : List (S65))⟩ : S65)]), x17, x18, (wrap64 (x19 + 1)), x370000, x370001, h, rfl⟩) KD
       · rw [if_neg c6] at h
         cases h
     · rw [if_neg c5] at h
       cases h
   · rw [if_neg c4] at h
     cases h
 · rw [if_neg c3] at h
   refine path_ok (k := 9) hF (RetQ_mild _ _ _ _ _ _ _ _) (ds := [.b false, .e 31 (.v (.int .i64 (x370000.length : Int)))]) (os := []) (c := none) rfl KD ?_
   exact WS.can [(1002, some 1002), (1005, some 1005)] (((ih.out k' (by omega)).s_l1  r w ro B hF x5 (wrap64 ((x370000.length : Int) - 1)) x370000 x370001 h).out) KD
set_option maxRecDepth 100000 in
set_option maxHeartbeats 4000000 in
theorem impl_raised.c_l1 (k : Nat) (ih : Kp (∀ m, m < k → impl_raised.C m)) (r : List (S65)) (w : World) (ro : Nat → Prop) (B : Nat) (hF : Fr TE (cx0 Tryd.f39 none w ro B)) (x5 : List (S65)) (x8 : Int) (x370000 : List (List Int)) (x370001 : List Int) (h : impl_raised.l1 k x5 x8 x370000 x370001 = some r) : Kp (WS TE (cx0 Tryd.f39 none w ro B) (stkAt [1, 1, 1, 0, 1, 0] [] (bodyOf Tryd.f39) []) ⟨[(2, .pt 1002 0 0), (5, .ow 1005 0), (8, .v (.int .i64 x8))], [(1002, .box 0 26 false [.sl 1 (rX (cL (cI .i64) 1) x370000), .sl 1 (rX (cI .i64) x370001)]), (1005, .own 0 65 2 (r65 x5))]⟩ (RetQ TE Tryd.f39 none [.own 65 2 (r65 r)] [] w ro B)) := by
 refine ⟨WS.loop (fun m σ => m ≤ k ∧ impl_raised.I1 r m σ) k ⟨Nat.le_refl k, x5, x8, x370000, x370001, h, rfl⟩ (fun m σ' hI J1 hJ1 => ?_)⟩
 clear h
 obtain ⟨hk, x5, x8, x370000, x370001, h, rfl⟩ := hI
 cases m with
 | zero => simp [impl_raised.l1] at h
 | succ k' =>
 simp only [impl_raised.l1] at h
 by_cases c7 : x8 ≥ 0
 · rw [if_pos c7] at h
   by_cases c8 : 0 ≤ x8
   · rw [if_pos c8] at h
     by_cases c9 : x8 < (x370000.length : Int)
     · rw [if_pos c9] at h
       refine path_ok (k := 13) hF (RetQ_mild _ _ _ _ _ _ _ _) (ds := [.b true, .p 37 ([]), .e 41 (.rf [.sl 1 (rX (cI .i64) (rd_L1 x370000 x8))]), .e 43 (.v (.int .i64 ((rd_L1 x370000 x8).length : Int)))]) (os := []) (c := none) rfl KD ?_
       refine WS.freeze 1005 ?_ rfl
       exact WS.can [(1002, some 1002), (1009, some 37)] (((ih.out k' (by omega)).s_l2  r w ro B hF J1 (fun m σ hm hI => hJ1 m σ (by omega) ⟨by omega, hI⟩) x5 x8 (([] : List (S65))) (rd_L1 x370000 x8) ((rd_L1 x370000 x8).length : Int) 0 x370000 x370001 h).out) KD
     · rw [if_neg c9] at h
       cases h
   · rw [if_neg c8] at h
     cases h
 · rw [if_neg c7] at h
   refine path_ok (k := 8) hF (RetQ_mild _ _ _ _ _ _ _ _) (ds := [.b false]) (os := []) (c := none) rfl KD ?_
   cases h
   exact ret_as (ms := [.own]) rfl KD
set_option maxRecDepth 100000 in
set_option maxHeartbeats 4000000 in
theorem impl_raised.c_l2 (k : Nat) (ih : Kp (∀ m, m < k → impl_raised.C m)) (r : List (S65)) (w : World) (ro : Nat → Prop) (B : Nat) (hF : Fr TE (cx0 Tryd.f39 none w ro B)) (J1 : St → Prop) (hJ1 : ∀ m σ, m ≤ k → impl_raised.I1 r m σ → J1 σ) (x5 : List (S65)) (x8 : Int) (x9 : List (S65)) (x42 : List Int) (x43 : Int) (x44 : Int) (x370000 : List (List Int)) (x370001 : List Int) (h : impl_raised.l2 k x5 x8 x9 x42 x43 x44 x370000 x370001 = some r) : Kp (WS TE (cx0 Tryd.f39 none w ro B) (stkAt [1, 1, 1, 0, 1, 0, 0, 1, 0, 0, 1, 0, 1, 0] [J1] (bodyOf Tryd.f39) []) ⟨[(2, .pt 1002 0 0), (5, .sl 2 (r65 x5)), (8, .v (.int .i64 x8)), (9, .ow 1009 0), (42, .sl 1 (rX (cI .i64) x42)), (43, .v (.int .i64 x43)), (44, .v (.int .i64 x44))], [(1002, .box 0 26 false [.sl 1 (rX (cL (cI .i64) 1) x370000), .sl 1 (rX (cI .i64) x370001)]), (1009, .own 0 65 2 (r65 x9))]⟩ (RetQ TE Tryd.f39 none [.own 65 2 (r65 r)] [] w ro B)) := by
 refine ⟨WS.loop (fun m σ => m ≤ k ∧ impl_raised.I2 r m σ) k ⟨Nat.le_refl k, x5, x8, x9, x42, x43, x44, x370000, x370001, h, rfl⟩ (fun m σ' hI J2 hJ2 => ?_)⟩
 clear h
 obtain ⟨hk, x5, x8, x9, x42, x43, x44, x370000, x370001, h, rfl⟩ := hI
 cases m with
 | zero => simp [impl_raised.l2] at h
 | succ k' =>
 simp only [impl_raised.l2] at h
 by_cases c10 : x44 < x43
 · rw [if_pos c10] at h
   by_cases c11 : 0 ≤ x44
   · rw [if_pos c11] at h
     by_cases c12 : x44 < (x42.length : Int)
     · rw [if_pos c12] at h
       by_cases c13 : 0 ≤ (rd x42 x44)
       · rw [if_pos c13] at h
         by_cases c14 : (rd x42 x44) ≤ (x5.length : Int)
         · rw [if_pos c14] at h
           by_cases c15 : x9.length < 4398046511104
           · rw [if_pos c15] at h
             refine path_ok (k := 14) hF (RetQ_mild _ _ _ _ _ _ _ _) (ds := [.b true, .e 46 (.rf [.v (.int .i64 (rd x42 x44))]), .e 52 (.sl 2 (r65 (x5.take ((rd x42 x44) : Int).toNat))), .p 54 ([[.v (.int .i64 0), .sl 2 (r65 (x5.take ((rd x42 x44) : Int).toNat))]]), .o 55 (r65 (x9 ++ [(⟨0, (x5.take ((rd x42 x44) : Int).toNat)⟩ : S65)])), .e 58 (.sl 2 (r65 (x5.drop ((rd x42 x44) : Int).toNat)))]) (os := []) (c := none) rfl KD ?_
             exact WS.lpc [(1002, some 1002), (1009, some 1009)] (hJ2 _ _ (Nat.lt_succ_self _) ⟨by omega, (x5.drop ((rd x42 x44) : Int).toNat), x8, (x9 ++ [(⟨0, (x5.take ((rd x42 x44) : Int).toNat)⟩ : S65)]), x42, x43, (wrap64 (x44 + 1)), x370000, x370001, h, rfl⟩) KD
           · rw [if_neg c15] at h
             cases h
         · rw [if_neg c14] at h
           cases h
       · rw [if_neg c13] at h
         cases h
     · rw [if_neg c12] at h
       cases h
   · rw [if_neg c11] at h
     cases h
 · rw [if_neg c10] at h
   refine path_ok (k := 8) hF (RetQ_mild _ _ _ _ _ _ _ _) (ds := [.b false]) (os := []) (c := none) rfl KD ?_
   exact WS.lpc [(1002, some 1002), (1005, some 1009)] (hJ1 _ _ (by omega) ⟨x9, (wrap64 (x8 - 1)), x370000, x370001, h, rfl⟩) KD
theorem impl_raised.cs (k : Nat) : impl_raised.C k := by
 induction k using Nat.strongRecOn with
 | _ k ih0 =>
 have ih : Kp (∀ m, m < k → impl_raised.C m) := ⟨ih0⟩
 exact ⟨impl_raised.c_l0 k ih, impl_raised.c_l1 k ih, impl_raised.c_l2 k ih⟩
set_option maxRecDepth 100000 in
set_option maxHeartbeats 4000000 in
theorem impl_raised.ctr (k : Nat) (l0_0 : List (List Int)) (l0_1 : List Int) (a1 : Int) (r : List (S65)) (h : impl_raised.f k l0_0 l0_1 a1 = some r) : Ctr TE 39 none [.ag [.sl 1 (rX (cL (cI .i64) 1) l0_0), .sl 1 (rX (cI .i64) l0_1)], .v (.int .i64 a1)] [.own 65 2 (r65 r)] [] := by
 refine ctr_of (fn := Tryd.f39) (c := (bodyOf Tryd.f39)) Tryd.func39 rfl (by kernel_rfl) (Nat.le_of_ble_eq_true (by kernel_rfl)) (fun w ro B hF _ => ?_)
 have ih : Kp (∀ m, m < k + 1 → impl_raised.C m) := ⟨fun m _ => impl_raised.cs m⟩
 simp only [impl_raised.f] at h
 by_cases c1 : 0 ≤ (l0_1.length : Int)
 · rw [if_pos c1] at h
   by_cases c2 : ((l0_1.length : Int) : Int).toNat ≤ 8796093022208
   · rw [if_pos c2] at h
     refine path_ok (k := 8) hF (RetQ_mild _ _ _ _ _ _ _ _) (ds := [.e 14 (.v (.int .i64 (l0_1.length : Int))), .o 15 (r65 (List.replicate 0 z65)), .e 18 (.v (.int .i64 (l0_1.length : Int)))]) (os := []) (c := none) rfl KD ?_
     exact WS.can [(1002, some 2), (1005, some 15)] (((ih.out k (by omega)).s_l0  r w ro B hF (List.replicate 0 z65) l0_1 (l0_1.length : Int) 0 l0_0 l0_1 h).out) KD
   · rw [if_neg c2] at h
     cases h
 · rw [if_neg c1] at h
   cases h
mutual
def impl_arr_text.l0 : Nat → Int → List ByteArray → List (S65) → Int → Int → Option (ByteArray)
  | 0, _, _, _, _, _ => none
  | k + 1, x1, x5, x15, x16, x17 => if x17 < x16 then (if 0 ≤ x17 then (if x17 < (x15.length : Int) then ((impl_arr_text.f k ((rd_T65 x15 x17).f0) ((rd_T65 x15 x17).f1) (wrap64 (x1 - 1))).bind fun t400 => (if x5.length < 8796093022208 then (impl_arr_text.l0 k x1 (x5 ++ [t400]) x15 x16 (wrap64 (x17 + 1))) else (none))) else (none)) else (none)) else ((strings_Join.f x5 (⟨#[44]⟩ : ByteArray)).bind fun t404 => (if 1 + t404.size ≤ 9223372036854775807 then (if 1 + t404.size + 1 ≤ 9223372036854775807 then (some (((⟨#[91]⟩ : ByteArray) ++ t404) ++ (⟨#[93]⟩ : ByteArray))) else (none)) else (none)))
def impl_arr_text.f : Nat → Int → List (S65) → Int → Option (ByteArray)
  | 0, _, _, _ => none
  | k + 1, a0_0, l0_1, a1 => if a1 = 0 then ((strconv_Itoa.f a0_0).bind fun t394 => (some t394)) else (impl_arr_text.l0 k a1 (([] : List ByteArray)) l0_1 (l0_1.length : Int) 0)
end
def impl_arr_text.I0 (r : ByteArray) (m : Nat) (σ : St) : Prop := ∃ (x1 : Int) (x5 : List ByteArray) (x15 : List (S65)) (x16 : Int) (x17 : Int), impl_arr_text.l0 m x1 x5 x15 x16 x17 = some r ∧ σ = ⟨[(1, .v (.int .i64 x1)), (5, .ow 1005 0), (15, .sl 2 (r65 x15)), (16, .v (.int .i64 x16)), (17, .v (.int .i64 x17))], [(1005, .own 0 9 1 (rX cS x5))]⟩
structure impl_arr_text.C (k : Nat) : Prop where
 s_f : ∀ (a0_0 : Int) (l0_1 : List (S65)) (a1 : Int) (r : ByteArray), impl_arr_text.f k a0_0 l0_1 a1 = some r → Ctr TE 63 none [.ag [.v (.int .i64 a0_0), .sl 2 (r65 l0_1)], .v (.int .i64 a1)] [.ro (.v (.string r))] []
 s_l0 : ∀ (r : ByteArray) (w : World) (ro : Nat → Prop) (B : Nat) (_ : Fr TE (cx0 Tryd.f63 none w ro B)) (x1 : Int) (x5 : List ByteArray) (x15 : List (S65)) (x16 : Int) (x17 : Int) (_ : impl_arr_text.l0 k x1 x5 x15 x16 x17 = some r), Kp (WS TE (cx0 Tryd.f63 none w ro B) (stkAt [1, 1, 1, 0, 1, 0] [] (bodyOf Tryd.f63) []) ⟨[(1, .v (.int .i64 x1)), (5, .ow 1005 0), (15, .sl 2 (r65 x15)), (16, .v (.int .i64 x16)), (17, .v (.int .i64 x17))], [(1005, .own 0 9 1 (rX cS x5))]⟩ (RetQ TE Tryd.f63 none [.ro (.v (.string r))] [] w ro B))
set_option maxRecDepth 100000 in
set_option maxHeartbeats 4000000 in
theorem impl_arr_text.c_f (k : Nat) (ih : Kp (∀ m, m < k → impl_arr_text.C m)) (a0_0 : Int) (l0_1 : List (S65)) (a1 : Int) (r : ByteArray) (h : impl_arr_text.f k a0_0 l0_1 a1 = some r) : Ctr TE 63 none [.ag [.v (.int .i64 a0_0), .sl 2 (r65 l0_1)], .v (.int .i64 a1)] [.ro (.v (.string r))] [] := by
 cases k with
 | zero => simp [impl_arr_text.f] at h
 | succ k =>
 simp only [impl_arr_text.f] at h
 refine ctr_of (fn := Tryd.f63) (c := (bodyOf Tryd.f63)) Tryd.func63 rfl (by kernel_rfl) (Nat.le_of_ble_eq_true (by kernel_rfl)) (fun w ro B hF _ => ?_)
 by_cases c1 : a1 = 0
 · rw [if_pos c1] at h
   obtain ⟨t394, q2, h⟩ := Option.bind_eq_some_iff.1 h
   have q2c := strconv_Itoa.ctr _ _ q2
   refine path_ok (k := 9) hF (RetQ_mild _ _ _ _ _ _ _ _) (ds := [.b true, .r [.ro (.v (.string t394))] []]) (os := []) (c := none) rfl KD ?_
   cases h
   exact ret_as (ms := [.ro]) rfl KD
 · rw [if_neg c1] at h
   refine path_ok (k := 13) hF (RetQ_mild _ _ _ _ _ _ _ _) (ds := [.b false, .p 13 ([]), .e 16 (.v (.int .i64 (l0_1.length : Int)))]) (os := []) (c := none) rfl KD ?_
   exact WS.can [(1005, some 13)] (((ih.out k (by omega)).s_l0  r w ro B hF a1 (([] : List ByteArray)) l0_1 (l0_1.length : Int) 0 h).out) KD
set_option maxRecDepth 100000 in
set_option maxHeartbeats 4000000 in
theorem impl_arr_text.c_l0 (k : Nat) (ih : Kp (∀ m, m < k → impl_arr_text.C m)) (r : ByteArray) (w : World) (ro : Nat → Prop) (B : Nat) (hF : Fr TE (cx0 Tryd.f63 none w ro B)) (x1 : Int) (x5 : List ByteArray) (x15 : List (S65)) (x16 : Int) (x17 : Int) (h : impl_arr_text.l0 k x1 x5 x15 x16 x17 = some r) : Kp (WS TE (cx0 Tryd.f63 none w ro B) (stkAt [1, 1, 1, 0, 1, 0] [] (bodyOf Tryd.f63) []) ⟨[(1, .v (.int .i64 x1)), (5, .ow 1005 0), (15, .sl 2 (r65 x15)), (16, .v (.int .i64 x16)), (17, .v (.int .i64 x17))], [(1005, .own 0 9 1 (rX cS x5))]⟩ (RetQ TE Tryd.f63 none [.ro (.v (.string r))] [] w ro B)) := by
 refine ⟨WS.loop (fun m σ => m ≤ k ∧ impl_arr_text.I0 r m σ) k ⟨Nat.le_refl k, x1, x5, x15, x16, x17, h, rfl⟩ (fun m σ' hI J0 hJ0 => ?_)⟩
 clear h
 obtain ⟨hk, x1, x5, x15, x16, x17, h, rfl⟩ := hI
 cases m with
 | zero => simp [impl_arr_text.l0] at h
 | succ k' =>
 simp only [impl_arr_text.l0] at h
 by_cases c3 : x17 < x16
 · rw [if_pos c3] at h
   by_cases c4 : 0 ≤ x17
   · rw [if_pos c4] at h
     by_cases c5 : x17 < (x15.length : Int)
     · rw [if_pos c5] at h
       obtain ⟨t400, q6, h⟩ := Option.bind_eq_some_iff.1 h
       have q6c := (ih.out k' (by omega)).s_f _ _ _ _ q6
       by_cases c7 : x5.length < 8796093022208
       · rw [if_pos c7] at h
         refine path_ok (k := 12) hF (RetQ_mild _ _ _ _ _ _ _ _) (ds := [.b true, .e 19 (.rf [.v (.int .i64 ((rd_T65 x15 x17).f0)), .sl 2 (r65 ((rd_T65 x15 x17).f1))]), .r [.ro (.v (.string t400))] [], .p 26 ([[.v (.string t400)]]), .o 27 (rX cS (x5 ++ [t400]))]) (os := []) (c := none) rfl KD ?_
         exact WS.lpc [(1005, some 1005)] (hJ0 _ _ (Nat.lt_succ_self _) ⟨by omega, x1, (x5 ++ [t400]), x15, x16, (wrap64 (x17 + 1)), h, rfl⟩) KD
       · rw [if_neg c7] at h
         cases h
     · rw [if_neg c5] at h
       cases h
   · rw [if_neg c4] at h
     cases h
 · rw [if_neg c3] at h
   obtain ⟨t404, q8, h⟩ := Option.bind_eq_some_iff.1 h
   have q8c := strings_Join.ctr _ _ _ q8
   by_cases c9 : 1 + t404.size ≤ 9223372036854775807
   · rw [if_pos c9] at h
     by_cases c10 : 1 + t404.size + 1 ≤ 9223372036854775807
     · rw [if_pos c10] at h
       refine path_ok (k := 8) hF (RetQ_mild _ _ _ _ _ _ _ _) (ds := [.b false, .r [.ro (.v (.string t404))] []]) (os := []) (c := none) rfl KD ?_
       cases h
       exact ret_as (ms := [.ro]) rfl KD
     · rw [if_neg c10] at h
       cases h
   · rw [if_neg c9] at h
     cases h
theorem impl_arr_text.cs (k : Nat) : impl_arr_text.C k := by
 induction k using Nat.strongRecOn with
 | _ k ih0 =>
 have ih : Kp (∀ m, m < k → impl_arr_text.C m) := ⟨ih0⟩
 exact ⟨impl_arr_text.c_f k ih, impl_arr_text.c_l0 k ih⟩
theorem impl_arr_text.ctr (k : Nat) (a0_0 : Int) (l0_1 : List (S65)) (a1 : Int) (r : ByteArray) (h : impl_arr_text.f k a0_0 l0_1 a1 = some r) : Ctr TE 63 none [.ag [.v (.int .i64 a0_0), .sl 2 (r65 l0_1)], .v (.int .i64 a1)] [.ro (.v (.string r))] [] := (impl_arr_text.cs k).s_f a0_0 l0_1 a1 r h
def impl_arr_short.f (k : Nat) (a0_0 : Int) (l0_1 : List (S65)) (a1 : Int) : Option (ByteArray × Bool) := (impl_arr_text.f k a0_0 l0_1 a1).bind fun t406 => (if (t406.size : Int) > 400 then (some ((⟨#[]⟩ : ByteArray), false)) else (some (t406, true)))
set_option maxRecDepth 100000 in
set_option maxHeartbeats 4000000 in
theorem impl_arr_short.ctr (k : Nat) (a0_0 : Int) (l0_1 : List (S65)) (a1 : Int) (r1 : ByteArray) (r2 : Bool) (h : impl_arr_short.f k a0_0 l0_1 a1 = some (r1, r2)) : Ctr TE 40 none [.ag [.v (.int .i64 a0_0), .sl 2 (r65 l0_1)], .v (.int .i64 a1)] [.ro (.v (.string r1)), .ro (.v (.bool r2))] [] := by
 refine ctr_of (fn := Tryd.f40) (c := (bodyOf Tryd.f40)) Tryd.func40 rfl (by kernel_rfl) (Nat.le_of_ble_eq_true (by kernel_rfl)) (fun w ro B hF _ => ?_)
 simp only [impl_arr_short.f] at h
 obtain ⟨t406, q1, h⟩ := Option.bind_eq_some_iff.1 h
 have q1c := impl_arr_text.ctr k _ _ _ _ q1
 by_cases c2 : (t406.size : Int) > 400
 · rw [if_pos c2] at h
   refine path_ok (k := 11) hF (RetQ_mild _ _ _ _ _ _ _ _) (ds := [.r [.ro (.v (.string t406))] [], .b true]) (os := []) (c := none) rfl KD ?_
   cases h
   exact ret_as (ms := [.ro, .ro]) rfl KD
 · rw [if_neg c2] at h
   refine path_ok (k := 12) hF (RetQ_mild _ _ _ _ _ _ _ _) (ds := [.r [.ro (.v (.string t406))] [], .b false]) (os := []) (c := none) rfl KD ?_
   cases h
   exact ret_as (ms := [.ro, .ro]) rfl KD
def impl_FoldUp.f (k : Nat) (l0_0 : List (List Int)) (l0_1 : List Int) : Option (ByteArray × Bool) := (impl_LayoutValid.f k l0_0 l0_1).bind fun t408 => (if t408 = true then ((impl_raised.f k l0_0 l0_1 1).bind fun t409 => (if 0 < (t409.length : Int) then ((impl_arr_short.f k ((rd_T65 t409 0).f0) ((rd_T65 t409 0).f1) (l0_0.length : Int)).bind fun bt413 => (some (bt413.1, bt413.2))) else (none))) else (some ((⟨#[]⟩ : ByteArray), false)))
set_option maxRecDepth 100000 in
set_option maxHeartbeats 4000000 in
theorem impl_FoldUp.ctr (k : Nat) (l0_0 : List (List Int)) (l0_1 : List Int) (r1 : ByteArray) (r2 : Bool) (h : impl_FoldUp.f k l0_0 l0_1 = some (r1, r2)) : Ctr TE 8 none [.ag [.sl 1 (rX (cL (cI .i64) 1) l0_0), .sl 1 (rX (cI .i64) l0_1)]] [.ro (.v (.string r1)), .ro (.v (.bool r2))] [] := by
 refine ctr_of (fn := Tryd.f8) (c := (bodyOf Tryd.f8)) Tryd.func8 rfl (by kernel_rfl) (Nat.le_of_ble_eq_true (by kernel_rfl)) (fun w ro B hF _ => ?_)
 simp only [impl_FoldUp.f] at h
 obtain ⟨t408, q1, h⟩ := Option.bind_eq_some_iff.1 h
 have q1c := impl_LayoutValid.ctr k _ _ _ q1
 by_cases c2 : t408 = true
 · rw [if_pos c2] at h
   obtain ⟨t409, q3, h⟩ := Option.bind_eq_some_iff.1 h
   have q3c := impl_raised.ctr k _ _ _ _ q3
   by_cases c4 : 0 < (t409.length : Int)
   · rw [if_pos c4] at h
     obtain ⟨⟨t413, t414⟩, q5, h⟩ := Option.bind_eq_some_iff.1 h
     dsimp only at h
     have q5c := impl_arr_short.ctr k _ _ _ _ _ q5
     refine path_ok (k := 10) hF (RetQ_mild _ _ _ _ _ _ _ _) (ds := [.r [.ro (.v (.bool t408))] [], .b false, .e 13 (.v (.int .i64 (l0_0.length : Int))), .r [.own 65 2 (r65 t409)] [], .g [.v (.int .i64 ((rd_T65 t409 0).f0)), .sl 2 (r65 ((rd_T65 t409 0).f1))], .r [.ro (.v (.string t413)), .ro (.v (.bool t414))] []]) (os := [.o [(0, 1), (4, 0), (5, 1), (6, 0), (1, 2), (2, 0), (3, 2), (7, 2), (8, 0), (9, 0), (10, 0), (11, 0)] []]) (c := none) rfl KD ?_
     cases h
     exact ret_as (ms := [.ro, .ro]) rfl KD
   · rw [if_neg c4] at h
     cases h
 · rw [if_neg c2] at h
   refine path_ok (k := 9) hF (RetQ_mild _ _ _ _ _ _ _ _) (ds := [.r [.ro (.v (.bool t408))] [], .b true]) (os := []) (c := none) rfl KD ?_
   cases h
   exact ret_as (ms := [.ro, .ro]) rfl KD
end Go.Proofs.YtidpankoobdfjaaDoor.U
