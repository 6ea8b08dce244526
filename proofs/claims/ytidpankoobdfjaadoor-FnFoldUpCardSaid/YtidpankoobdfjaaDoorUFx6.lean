/- A part of the claim. -/
import Derived.Test.YtidpankoobdfjaaDoorUFx0
import Derived.Test.YtidpankoobdfjaaDoorUFx3
import Derived.Test.YtidpankoobdfjaaDoorUFx4
import Derived.Test.YtidpankoobdfjaaDoorUFx5
-- PRINTED by print.py (a twelfth state) out of the translation. Not trusted: Lean checks it.
namespace Go.Proofs.YtidpankoobdfjaaDoor.U
open Go.RowKit Go.Proofs.YtidpankoobdfjaaDoorW.St Go.Proofs.YtidpankoobdfjaaDoorW.PrintWords Go.Proofs.YtidpankoobdfjaaDoorW.PrintLast Go.Proofs.YtidpankoobdfjaaDoorW.PrintMore
attribute [local go_sem] max2_int min2_int max_two min_two max_three min_three max_four min_four   -- for this text's walks alone
set_option linter.unusedVariables false
set_option linter.unusedSimpArgs false
def laws_FnFoldUp.j0 : Nat → ByteArray → Bool → Int → Bool → List (List Int) → List Int → Option (Bool)
  | 0, _, _, _, _, _, _ => none
  | k + 1, x4, x5, x8, x55, x538000, x538001 => if x55 = true then (some false) else (if x5 = true then ((impl_LayOut.f k x4 (x538000.length : Int)).bind fun bt547 => (if bt547.2.2 = true then ((laws_faLayout.f k bt547.1 bt547.2.1 x538000 x538001).bind fun t555 => (if t555 = true then (some (x8 == (-1))) else (some false))) else (some false))) else (if x4.toList = ([] : List UInt8) then (some (decide (x8 ≤ (x538000.length : Int)))) else (some false)))
def laws_FnFoldUp.f (k : Nat) (l0 : List Int) : Option (Bool) := if (l0.length : Int) > 1048576 then (some true) else ((spec_DrawFoldUp.f k l0).bind fun bt531 => ((impl_FoldUp.f k bt531.1 bt531.2).bind fun bt538 => ((spec_FoldUp.f k bt531.1 bt531.2).bind fun bt540 => ((impl_WhatIsWrong.f k bt531.1 bt531.2).bind fun t542 => (if bt538.1.toList = bt540.1.toList then (if (bt538.2 != bt540.2) = true then (laws_FnFoldUp.j0 k bt538.1 bt538.2 t542 true bt531.1 bt531.2) else ((spec_WhatIsWrong.f k bt531.1 bt531.2).bind fun t543 => (if t542 = t543 then ((impl_LayoutValid.f k bt531.1 bt531.2).bind fun t544 => (if (t544 != (t542 == (-1))) = true then (laws_FnFoldUp.j0 k bt538.1 bt538.2 t542 true bt531.1 bt531.2) else ((impl_LayoutValid.f k bt531.1 bt531.2).bind fun t545 => ((spec_LayoutValid.f k bt531.1 bt531.2).bind fun t546 => (laws_FnFoldUp.j0 k bt538.1 bt538.2 t542 (t545 != t546) bt531.1 bt531.2))))) else (laws_FnFoldUp.j0 k bt538.1 bt538.2 t542 true bt531.1 bt531.2)))) else (laws_FnFoldUp.j0 k bt538.1 bt538.2 t542 true bt531.1 bt531.2))))))
structure laws_FnFoldUp.C (k : Nat) : Prop where
 s_j0 : ∀ (r : Bool) (w : World) (ro : Nat → Prop) (B : Nat) (_ : Fr TE (cx0 Tryd.f3 none w ro B)) (x4 : ByteArray) (x5 : Bool) (x8 : Int) (x55 : Bool) (x538000 : List (List Int)) (x538001 : List Int) (_ : laws_FnFoldUp.j0 k x4 x5 x8 x55 x538000 x538001 = some r), Kp (WS TE (cx0 Tryd.f3 none w ro B) (stkAt [1, 1, 1, 1, 1, 1, 0, 0, 9] [] (bodyOf Tryd.f3) []) ⟨[(3, .pt 1003 0 0), (4, .v (.string x4)), (5, .v (.bool x5)), (8, .v (.int .i64 x8)), (55, .v (.bool x55))], [(1003, .box 0 26 false [.sl 1 (rX (cL (cI .i64) 1) x538000), .sl 1 (rX (cI .i64) x538001)])]⟩ (RetQ TE Tryd.f3 none [.ro (.v (.bool r))] [] w ro B))
set_option maxRecDepth 100000 in
set_option maxHeartbeats 4000000 in
theorem laws_FnFoldUp.c_j0 (k : Nat) (ih : Kp (∀ m, m < k → laws_FnFoldUp.C m)) (r : Bool) (w : World) (ro : Nat → Prop) (B : Nat) (hF : Fr TE (cx0 Tryd.f3 none w ro B)) (x4 : ByteArray) (x5 : Bool) (x8 : Int) (x55 : Bool) (x538000 : List (List Int)) (x538001 : List Int) (h : laws_FnFoldUp.j0 k x4 x5 x8 x55 x538000 x538001 = some r) : Kp (WS TE (cx0 Tryd.f3 none w ro B) (stkAt [1, 1, 1, 1, 1, 1, 0, 0, 9] [] (bodyOf Tryd.f3) []) ⟨[(3, .pt 1003 0 0), (4, .v (.string x4)), (5, .v (.bool x5)), (8, .v (.int .i64 x8)), (55, .v (.bool x55))], [(1003, .box 0 26 false [.sl 1 (rX (cL (cI .i64) 1) x538000), .sl 1 (rX (cI .i64) x538001)])]⟩ (RetQ TE Tryd.f3 none [.ro (.v (.bool r))] [] w ro B)) := by
 refine ⟨?_⟩
 cases k with
 | zero => simp [laws_FnFoldUp.j0] at h
 | succ k =>
 simp only [laws_FnFoldUp.j0] at h
 by_cases c14 : x55 = true
 · rw [if_pos c14] at h
   refine path_ok (k := 4) hF (RetQ_mild _ _ _ _ _ _ _ _) (ds := [.b true]) (os := []) (c := none) rfl KD ?_
   cases h
   exact ret_as (ms := [.ro]) rfl KD
 · rw [if_neg c14] at h
   by_cases c15 : x5 = true
   · rw [if_pos c15] at h
     obtain ⟨⟨t547, t550, t553⟩, q16, h⟩ := Option.bind_eq_some_iff.1 h
     dsimp only at h
     have q16c := impl_LayOut.ctr k _ _ _ _ _ q16
     by_cases c17 : t553 = true
     · rw [if_pos c17] at h
       obtain ⟨t555, q18, h⟩ := Option.bind_eq_some_iff.1 h
       have q18c := laws_faLayout.ctr k _ _ _ _ _ q18
       by_cases c19 : t555 = true
       · rw [if_pos c19] at h
         refine path_ok (k := 12) hF (RetQ_mild _ _ _ _ _ _ _ _) (ds := [.b false, .b false, .e 71 (.v (.int .i64 (x538000.length : Int))), .r [.ro (.ag [.sl 1 (rX (cL (cI .i64) 1) t547), .sl 1 (rX (cI .i64) t550)]), .ro (.v (.bool t553))] [], .b true, .b true, .b true, .r [.ro (.v (.bool t555))] [], .b true, .b true, .b true, .b true]) (os := []) (c := none) rfl KD ?_
         cases h
         exact ret_as (ms := [.ro]) rfl KD
       · rw [if_neg c19] at h
         refine path_ok (k := 12) hF (RetQ_mild _ _ _ _ _ _ _ _) (ds := [.b false, .b false, .e 71 (.v (.int .i64 (x538000.length : Int))), .r [.ro (.ag [.sl 1 (rX (cL (cI .i64) 1) t547), .sl 1 (rX (cI .i64) t550)]), .ro (.v (.bool t553))] [], .b true, .b true, .b true, .r [.ro (.v (.bool t555))] [], .b true, .b false, .b false, .b false]) (os := []) (c := none) rfl KD ?_
         cases h
         exact ret_as (ms := [.ro]) rfl KD
     · rw [if_neg c17] at h
       refine path_ok (k := 12) hF (RetQ_mild _ _ _ _ _ _ _ _) (ds := [.b false, .b false, .e 71 (.v (.int .i64 (x538000.length : Int))), .r [.ro (.ag [.sl 1 (rX (cL (cI .i64) 1) t547), .sl 1 (rX (cI .i64) t550)]), .ro (.v (.bool t553))] [], .b false, .b false, .b false, .b false, .b false, .b false, .b false]) (os := []) (c := none) rfl KD ?_
       cases h
       exact ret_as (ms := [.ro]) rfl KD
   · rw [if_neg c15] at h
     by_cases c20 : x4.toList = ([] : List UInt8)
     · rw [if_pos c20] at h
       refine path_ok (k := 9) hF (RetQ_mild _ _ _ _ _ _ _ _) (ds := [.b false, .b true, .b true, .b true, .b true, .b true, .e 64 (.v (.int .i64 (x538000.length : Int))), .b true, .b true]) (os := []) (c := none) rfl KD ?_
       cases h
       exact ret_as (ms := [.ro]) rfl KD
     · rw [if_neg c20] at h
       refine path_ok (k := 9) hF (RetQ_mild _ _ _ _ _ _ _ _) (ds := [.b false, .b true, .b false, .b false, .b false, .b false, .b false, .b false]) (os := []) (c := none) rfl KD ?_
       cases h
       exact ret_as (ms := [.ro]) rfl KD
theorem laws_FnFoldUp.cs (k : Nat) : laws_FnFoldUp.C k := by
 induction k using Nat.strongRecOn with
 | _ k ih0 =>
 have ih : Kp (∀ m, m < k → laws_FnFoldUp.C m) := ⟨ih0⟩
 exact ⟨laws_FnFoldUp.c_j0 k ih⟩
set_option maxRecDepth 100000 in
set_option maxHeartbeats 4000000 in
theorem laws_FnFoldUp.ctr (k : Nat) (l0 : List Int) (r : Bool) (h : laws_FnFoldUp.f k l0 = some r) : Ctr TE 3 none [.sl 1 (rX (cI .u8) l0)] [.ro (.v (.bool r))] [] := by
 refine ctr_of (fn := Tryd.f3) (c := (bodyOf Tryd.f3)) Tryd.func3 rfl (by kernel_rfl) (Nat.le_of_ble_eq_true (by kernel_rfl)) (fun w ro B hF _ => ?_)
 have ih : Kp (∀ m, m < k + 1 → laws_FnFoldUp.C m) := ⟨fun m _ => laws_FnFoldUp.cs m⟩
 simp only [laws_FnFoldUp.f] at h
 by_cases c1 : (l0.length : Int) > 1048576
 · rw [if_pos c1] at h
   refine path_ok (k := 9) hF (RetQ_mild _ _ _ _ _ _ _ _) (ds := [.e 12 (.v (.int .i64 (l0.length : Int))), .b true]) (os := []) (c := none) rfl KD ?_
   cases h
   exact ret_as (ms := [.ro]) rfl KD
 · rw [if_neg c1] at h
   obtain ⟨⟨t531, t534⟩, q2, h⟩ := Option.bind_eq_some_iff.1 h
   dsimp only at h
   have q2c := spec_DrawFoldUp.ctr k _ _ _ q2
   obtain ⟨⟨t538, t539⟩, q3, h⟩ := Option.bind_eq_some_iff.1 h
   dsimp only at h
   have q3c := impl_FoldUp.ctr k _ _ _ _ q3
   obtain ⟨⟨t540, t541⟩, q4, h⟩ := Option.bind_eq_some_iff.1 h
   dsimp only at h
   have q4c := spec_FoldUp.ctr k _ _ _ _ q4
   obtain ⟨t542, q5, h⟩ := Option.bind_eq_some_iff.1 h
   have q5c := impl_WhatIsWrong.ctr k _ _ _ q5
   by_cases c6 : t538.toList = t540.toList
   · rw [if_pos c6] at h
     by_cases c7 : (t539 != t541) = true
     · rw [if_pos c7] at h
       refine path_ok (k := 18) hF (RetQ_mild _ _ _ _ _ _ _ _) (ds := [.e 12 (.v (.int .i64 (l0.length : Int))), .b false, .r [.ro (.ag [.sl 1 (rX (cL (cI .i64) 1) t531), .sl 1 (rX (cI .i64) t534)])] [], .r [.ro (.v (.string t538)), .ro (.v (.bool t539))] [], .r [.ro (.v (.string t540)), .ro (.v (.bool t541))] [], .r [.ro (.v (.int .i64 t542))] []]) (os := [.p 268435455 [⟨0, 28, true, [0]⟩, ⟨1, 27, true, [1]⟩, ⟨3, 26, true, [2]⟩, ⟨7, 25, true, [3]⟩, ⟨15, 24, true, [4]⟩, ⟨31, 23, true, [5]⟩, ⟨63, 22, true, [6]⟩, ⟨127, 21, true, [7]⟩, ⟨255, 20, true, [8]⟩, ⟨511, 19, true, [9]⟩, ⟨1023, 18, false, [10]⟩, ⟨2047, 17, false, [11]⟩, ⟨4095, 16, true, [12]⟩, ⟨8191, 15, true, [13]⟩, ⟨16383, 14, true, [14]⟩, ⟨32767, 13, true, [17]⟩, ⟨163839, 12, true, [18]⟩, ⟨425983, 11, false, [15]⟩, ⟨458751, 10, false, [16]⟩, ⟨524287, 9, true, [19]⟩, ⟨1048575, 8, true, [20]⟩, ⟨2097151, 7, true, [21]⟩, ⟨4194303, 6, false, [22, 24]⟩, ⟨8388607, 5, false, [23, 24]⟩, ⟨20971519, 5, false, [22]⟩, ⟨16777215, 4, false, [24]⟩, ⟨25165823, 4, false, [23]⟩, ⟨33554431, 3, false, [25]⟩, ⟨67108863, 2, true, [26]⟩, ⟨134217727, 1, true, [27]⟩] [(0, true), (1, true), (2, true), (3, true), (4, true), (5, true), (6, true), (7, true), (8, true), (9, true), (10, false), (11, false), (12, true), (13, true), (14, true), (17, true), (18, true), (15, false), (16, false), (19, true), (20, true), (21, true), (22, false), (23, false), (24, false), (25, false), (26, true), (27, true)] [(4, [.b false]), (5, [.b false]), (6, [.b false]), (7, [.b false]), (9, [.b true]), (10, [.b true]), (11, [.b true]), (12, [.b true]), (13, [.b true]), (17, [.b true]), (18, [.b true]), (15, [.b true]), (16, [.b true]), (19, [.b true]), (20, [.b true]), (22, [.c true]), (23, [.c true]), (24, [.c true]), (25, [.c true]), (26, [.c true]), (27, [.b true])]]) (c := none) rfl KD ?_
       exact WS.can [(1003, some 3)] (((ih.out k (by omega)).s_j0  r w ro B hF t538 t539 t542 true t531 t534 h).out) KD
     · rw [if_neg c7] at h
       obtain ⟨t543, q8, h⟩ := Option.bind_eq_some_iff.1 h
       have q8c := spec_WhatIsWrong.ctr k _ _ _ q8
       by_cases c9 : t542 = t543
       · rw [if_pos c9] at h
         obtain ⟨t544, q10, h⟩ := Option.bind_eq_some_iff.1 h
         have q10c := impl_LayoutValid.ctr k _ _ _ q10
         by_cases c11 : (t544 != (t542 == (-1))) = true
         · rw [if_pos c11] at h
           refine path_ok (k := 18) hF (RetQ_mild _ _ _ _ _ _ _ _) (ds := [.e 12 (.v (.int .i64 (l0.length : Int))), .b false, .r [.ro (.ag [.sl 1 (rX (cL (cI .i64) 1) t531), .sl 1 (rX (cI .i64) t534)])] [], .r [.ro (.v (.string t538)), .ro (.v (.bool t539))] [], .r [.ro (.v (.string t540)), .ro (.v (.bool t541))] [], .r [.ro (.v (.int .i64 t542))] []]) (os := [.p 268435455 [⟨0, 28, true, [0]⟩, ⟨1, 27, true, [1]⟩, ⟨3, 26, true, [2]⟩, ⟨7, 25, true, [3]⟩, ⟨15, 24, true, [4]⟩, ⟨31, 23, true, [5]⟩, ⟨63, 22, true, [6]⟩, ⟨127, 21, true, [7]⟩, ⟨255, 20, true, [8]⟩, ⟨511, 19, true, [9]⟩, ⟨1023, 18, false, [10]⟩, ⟨2047, 17, false, [11]⟩, ⟨4095, 16, true, [12]⟩, ⟨8191, 15, true, [13]⟩, ⟨16383, 14, true, [14]⟩, ⟨32767, 13, true, [17]⟩, ⟨163839, 12, true, [18]⟩, ⟨425983, 11, false, [15]⟩, ⟨458751, 10, false, [16]⟩, ⟨524287, 9, true, [19]⟩, ⟨1048575, 8, true, [20]⟩, ⟨2097151, 7, true, [21]⟩, ⟨4194303, 6, false, [22, 24]⟩, ⟨8388607, 5, false, [23, 24]⟩, ⟨20971519, 5, false, [22]⟩, ⟨16777215, 4, false, [24]⟩, ⟨25165823, 4, false, [23]⟩, ⟨33554431, 3, false, [25]⟩, ⟨67108863, 2, true, [26]⟩, ⟨134217727, 1, true, [27]⟩] [(0, true), (1, true), (2, true), (3, true), (4, true), (5, true), (6, true), (7, true), (8, true), (9, true), (10, false), (11, false), (12, true), (13, true), (14, true), (17, true), (18, true), (15, false), (16, false), (19, true), (20, true), (21, true), (22, false), (23, false), (24, false), (25, false), (26, true), (27, true)] [(4, [.b false]), (5, [.b false]), (6, [.b false]), (7, [.b false]), (9, [.b false]), (10, [.b false]), (11, [.b false, .r [.ro (.v (.int .i64 t543))] []]), (12, [.b false]), (13, [.b false]), (17, [.b false]), (18, [.b false]), (15, [.b false]), (16, [.b false, .r [.ro (.v (.bool t544))] []]), (19, [.b false]), (20, [.b false]), (22, [.c true]), (23, [.c true]), (24, [.c true]), (25, [.c true]), (26, [.c true]), (27, [.b true])]]) (c := none) rfl KD ?_
           exact WS.can [(1003, some 3)] (((ih.out k (by omega)).s_j0  r w ro B hF t538 t539 t542 true t531 t534 h).out) KD
         · rw [if_neg c11] at h
           obtain ⟨t545, q12, h⟩ := Option.bind_eq_some_iff.1 h
           have q12c := impl_LayoutValid.ctr k _ _ _ q12
           obtain ⟨t546, q13, h⟩ := Option.bind_eq_some_iff.1 h
           have q13c := spec_LayoutValid.ctr k _ _ _ q13
           refine path_ok (k := 18) hF (RetQ_mild _ _ _ _ _ _ _ _) (ds := [.e 12 (.v (.int .i64 (l0.length : Int))), .b false, .r [.ro (.ag [.sl 1 (rX (cL (cI .i64) 1) t531), .sl 1 (rX (cI .i64) t534)])] [], .r [.ro (.v (.string t538)), .ro (.v (.bool t539))] [], .r [.ro (.v (.string t540)), .ro (.v (.bool t541))] [], .r [.ro (.v (.int .i64 t542))] []]) (os := [.p 268435455 [⟨0, 28, true, [0]⟩, ⟨1, 27, true, [1]⟩, ⟨3, 26, true, [2]⟩, ⟨7, 25, true, [3]⟩, ⟨15, 24, true, [4]⟩, ⟨31, 23, true, [5]⟩, ⟨63, 22, true, [6]⟩, ⟨127, 21, true, [7]⟩, ⟨255, 20, true, [8]⟩, ⟨511, 19, true, [9]⟩, ⟨1023, 18, false, [10]⟩, ⟨2047, 17, false, [11]⟩, ⟨4095, 16, true, [12]⟩, ⟨8191, 15, true, [13]⟩, ⟨16383, 14, true, [14]⟩, ⟨32767, 13, true, [17]⟩, ⟨163839, 12, true, [18]⟩, ⟨425983, 11, false, [15]⟩, ⟨458751, 10, false, [16]⟩, ⟨524287, 9, true, [19]⟩, ⟨1048575, 8, true, [20]⟩, ⟨2097151, 7, true, [21]⟩, ⟨4194303, 6, false, [22, 24]⟩, ⟨8388607, 5, false, [23, 24]⟩, ⟨20971519, 5, false, [22]⟩, ⟨16777215, 4, false, [24]⟩, ⟨25165823, 4, false, [23]⟩, ⟨33554431, 3, false, [25]⟩, ⟨67108863, 2, true, [26]⟩, ⟨134217727, 1, true, [27]⟩] [(0, true), (1, true), (2, true), (3, true), (4, true), (5, true), (6, true), (7, true), (8, true), (9, true), (10, false), (11, false), (12, true), (13, true), (14, true), (17, true), (18, true), (15, false), (16, false), (19, true), (20, true), (21, true), (22, false), (23, false), (24, false), (25, false), (26, true), (27, true)] [(4, [.b false]), (5, [.b false]), (6, [.b false]), (7, [.b false]), (9, [.b false]), (10, [.b false]), (11, [.b false, .r [.ro (.v (.int .i64 t543))] []]), (12, [.b false]), (13, [.b false]), (17, [.b false]), (18, [.b false]), (15, [.b false]), (16, [.b false, .r [.ro (.v (.bool t544))] []]), (19, [.b false]), (20, [.b false]), (22, [.c false]), (23, [.c false, .r [.ro (.v (.bool t545))] []]), (24, [.c false]), (25, [.c false, .r [.ro (.v (.bool t546))] []]), (26, [.c false]), (27, [.b false])]]) (c := none) rfl KD ?_
           exact WS.can [(1003, some 3)] (((ih.out k (by omega)).s_j0  r w ro B hF t538 t539 t542 (t545 != t546) t531 t534 h).out) KD
       · rw [if_neg c9] at h
         refine path_ok (k := 18) hF (RetQ_mild _ _ _ _ _ _ _ _) (ds := [.e 12 (.v (.int .i64 (l0.length : Int))), .b false, .r [.ro (.ag [.sl 1 (rX (cL (cI .i64) 1) t531), .sl 1 (rX (cI .i64) t534)])] [], .r [.ro (.v (.string t538)), .ro (.v (.bool t539))] [], .r [.ro (.v (.string t540)), .ro (.v (.bool t541))] [], .r [.ro (.v (.int .i64 t542))] []]) (os := [.p 268435455 [⟨0, 28, true, [0]⟩, ⟨1, 27, true, [1]⟩, ⟨3, 26, true, [2]⟩, ⟨7, 25, true, [3]⟩, ⟨15, 24, true, [4]⟩, ⟨31, 23, true, [5]⟩, ⟨63, 22, true, [6]⟩, ⟨127, 21, true, [7]⟩, ⟨255, 20, true, [8]⟩, ⟨511, 19, true, [9]⟩, ⟨1023, 18, false, [10]⟩, ⟨2047, 17, false, [11]⟩, ⟨4095, 16, true, [12]⟩, ⟨8191, 15, true, [13]⟩, ⟨16383, 14, true, [14]⟩, ⟨32767, 13, true, [17]⟩, ⟨163839, 12, true, [18]⟩, ⟨425983, 11, false, [15]⟩, ⟨458751, 10, false, [16]⟩, ⟨524287, 9, true, [19]⟩, ⟨1048575, 8, true, [20]⟩, ⟨2097151, 7, true, [21]⟩, ⟨4194303, 6, false, [22, 24]⟩, ⟨8388607, 5, false, [23, 24]⟩, ⟨20971519, 5, false, [22]⟩, ⟨16777215, 4, false, [24]⟩, ⟨25165823, 4, false, [23]⟩, ⟨33554431, 3, false, [25]⟩, ⟨67108863, 2, true, [26]⟩, ⟨134217727, 1, true, [27]⟩] [(0, true), (1, true), (2, true), (3, true), (4, true), (5, true), (6, true), (7, true), (8, true), (9, true), (10, false), (11, false), (12, true), (13, true), (14, true), (17, true), (18, true), (15, false), (16, false), (19, true), (20, true), (21, true), (22, false), (23, false), (24, false), (25, false), (26, true), (27, true)] [(4, [.b false]), (5, [.b false]), (6, [.b false]), (7, [.b false]), (9, [.b false]), (10, [.b false]), (11, [.b false, .r [.ro (.v (.int .i64 t543))] []]), (12, [.b false]), (13, [.b false]), (17, [.b true]), (18, [.b true]), (15, [.b true]), (16, [.b true]), (19, [.b true]), (20, [.b true]), (22, [.c true]), (23, [.c true]), (24, [.c true]), (25, [.c true]), (26, [.c true]), (27, [.b true])]]) (c := none) rfl KD ?_
         exact WS.can [(1003, some 3)] (((ih.out k (by omega)).s_j0  r w ro B hF t538 t539 t542 true t531 t534 h).out) KD
   · rw [if_neg c6] at h
     refine path_ok (k := 18) hF (RetQ_mild _ _ _ _ _ _ _ _) (ds := [.e 12 (.v (.int .i64 (l0.length : Int))), .b false, .r [.ro (.ag [.sl 1 (rX (cL (cI .i64) 1) t531), .sl 1 (rX (cI .i64) t534)])] [], .r [.ro (.v (.string t538)), .ro (.v (.bool t539))] [], .r [.ro (.v (.string t540)), .ro (.v (.bool t541))] [], .r [.ro (.v (.int .i64 t542))] []]) (os := [.p 268435455 [⟨0, 28, true, [0]⟩, ⟨1, 27, true, [1]⟩, ⟨3, 26, true, [2]⟩, ⟨7, 25, true, [3]⟩, ⟨15, 24, true, [4]⟩, ⟨31, 23, true, [5]⟩, ⟨63, 22, true, [6]⟩, ⟨127, 21, true, [7]⟩, ⟨255, 20, true, [8]⟩, ⟨511, 19, true, [9]⟩, ⟨1023, 18, false, [10]⟩, ⟨2047, 17, false, [11]⟩, ⟨4095, 16, true, [12]⟩, ⟨8191, 15, true, [13]⟩, ⟨16383, 14, true, [14]⟩, ⟨32767, 13, true, [17]⟩, ⟨163839, 12, true, [18]⟩, ⟨425983, 11, false, [15]⟩, ⟨458751, 10, false, [16]⟩, ⟨524287, 9, true, [19]⟩, ⟨1048575, 8, true, [20]⟩, ⟨2097151, 7, true, [21]⟩, ⟨4194303, 6, false, [22, 24]⟩, ⟨8388607, 5, false, [23, 24]⟩, ⟨20971519, 5, false, [22]⟩, ⟨16777215, 4, false, [24]⟩, ⟨25165823, 4, false, [23]⟩, ⟨33554431, 3, false, [25]⟩, ⟨67108863, 2, true, [26]⟩, ⟨134217727, 1, true, [27]⟩] [(0, true), (1, true), (2, true), (3, true), (4, true), (5, true), (6, true), (7, true), (8, true), (9, true), (10, false), (11, false), (12, true), (13, true), (14, true), (17, true), (18, true), (15, false), (16, false), (19, true), (20, true), (21, true), (22, false), (23, false), (24, false), (25, false), (26, true), (27, true)] [(4, [.b true]), (5, [.b true]), (6, [.b true]), (7, [.b true]), (9, [.b true]), (10, [.b true]), (11, [.b true]), (12, [.b true]), (13, [.b true]), (17, [.b true]), (18, [.b true]), (15, [.b true]), (16, [.b true]), (19, [.b true]), (20, [.b true]), (22, [.c true]), (23, [.c true]), (24, [.c true]), (25, [.c true]), (26, [.c true]), (27, [.b true])]]) (c := none) rfl KD ?_
     exact WS.can [(1003, some 3)] (((ih.out k (by omega)).s_j0  r w ro B hF t538 t539 t542 true t531 t534 h).out) KD
def laws_FnFoldUp.Pure : Prop := ∀ (l0 : List Int), l0.length ≤ maxLen → l0.length * 1 ≤ 140737488351232 → (∀ x ∈ l0, (Lit.int .u8 x).wf = true) → ∃ k, laws_FnFoldUp.f k l0 = some true
end Go.Proofs.YtidpankoobdfjaaDoor.U
