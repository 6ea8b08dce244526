/- A part of the claim. -/
import Derived.Test.YtlhejcogdjelpaaDoorGFx0
import Derived.Test.YtlhejcogdjelpaaDoorGFx1
import Derived.Test.YtlhejcogdjelpaaDoorGFx3
import Derived.Test.YtlhejcogdjelpaaDoorGFx4
import Derived.Test.YtlhejcogdjelpaaDoorGFx6
import Derived.Test.YtlhejcogdjelpaaDoorGFx7
import Derived.Test.YtlhejcogdjelpaaDoorGFSgt
-- PRINTED by print.py (a twelfth state) out of the translation. Not trusted: Lean checks it.
namespace Go.Proofs.YtlhejcogdjelpaaDoor.G
open Go.RowKit Go.Proofs.YtlhejcogdjelpaaDoorW.St Go.Proofs.YtlhejcogdjelpaaDoorW.PrintWords Go.Proofs.YtlhejcogdjelpaaDoorW.PrintLast Go.Proofs.YtlhejcogdjelpaaDoorW.PrintMore
attribute [local go_sem] max2_int min2_int max_two min_two max_three min_three max_four min_four   -- for this text's walks alone
set_option linter.unusedVariables false
set_option linter.unusedSimpArgs false
mutual
def laws_FnMultiply.j0 : Nat → ByteArray → ByteArray → ByteArray → Bool → ByteArray → Bool → Bool → Option (Bool)
  | 0, _, _, _, _, _, _, _ => none
  | k + 1, x3, x4, x5, x6, x7, x8, x54 => if x54 = true then (if x5.toList = x7.toList then (if (x6 == x8) = true then (some (x5.toList == ([] : List UInt8))) else (some false)) else (some false)) else ((impl_ShapeOf.f k x3 2).bind fun bt628 => ((impl_ShapeOf.f k x4 2).bind fun bt632 => (if 0 < (bt628.1.length : Int) then (if (rd bt628.1 0) = 0 then (laws_FnMultiply.j1 k x3 x4 x5 bt628.1 bt632.1 true) else (if 1 < (bt628.1.length : Int) then (if (rd bt628.1 1) = 0 then (laws_FnMultiply.j1 k x3 x4 x5 bt628.1 bt632.1 true) else (if 1 < (bt632.1.length : Int) then (laws_FnMultiply.j1 k x3 x4 x5 bt628.1 bt632.1 ((rd bt632.1 1) == 0)) else (none))) else (none))) else (none))))
def laws_FnMultiply.j1 : Nat → ByteArray → ByteArray → ByteArray → List Int → List Int → Bool → Option (Bool)
  | 0, _, _, _, _, _, _ => none
  | k + 1, x3, x4, x5, x9, x11, x92 => if x92 = true then ((impl_LengthOf.f k x5 2).bind fun t639 => (if 0 < (x9.length : Int) then (some (t639 == (rd x9 0))) else (none))) else ((impl_TransposeArray.f k x3).bind fun bt641 => ((impl_TransposeArray.f k x4).bind fun bt643 => ((impl_TransposeArray.f k x5).bind fun bt645 => ((impl_MultiplyArrays.f k bt643.1 bt641.1).bind fun bt647 => ((impl_ShapeOf.f k x5 2).bind fun bt649 => (if bt647.2 = true then (if bt647.1.toList = bt645.1.toList then (if 0 < (x9.length : Int) then (if 1 < (x11.length : Int) then ((laws_faSame.f k bt649.1 (([rd x9 0, rd x11 1] : List Int))).bind fun t658 => (some t658)) else (none)) else (none)) else (some false)) else (some false)))))))
end
def laws_FnMultiply.f (k : Nat) (l0 : List Int) : Option (Bool) := if (l0.length : Int) > 1048576 then (some true) else ((spec_DrawMultiplyArrays.f k l0).bind fun bt622 => ((impl_MultiplyArrays.f k bt622.1 bt622.2).bind fun bt624 => ((spec_MultiplyArrays.f k bt622.1 bt622.2).bind fun bt626 => (if bt624.1.toList = bt626.1.toList then (if (bt624.2 != bt626.2) = true then (laws_FnMultiply.j0 k bt622.1 bt622.2 bt624.1 bt624.2 bt626.1 bt626.2 true) else (laws_FnMultiply.j0 k bt622.1 bt622.2 bt624.1 bt624.2 bt626.1 bt626.2 (!bt624.2))) else (laws_FnMultiply.j0 k bt622.1 bt622.2 bt624.1 bt624.2 bt626.1 bt626.2 true)))))
structure laws_FnMultiply.C (k : Nat) : Prop where
 s_j0 : ∀ (r : Bool) (w : World) (ro : Nat → Prop) (B : Nat) (_ : Fr TE (cx0 Tryd.f4 none w ro B)) (x3 : ByteArray) (x4 : ByteArray) (x5 : ByteArray) (x6 : Bool) (x7 : ByteArray) (x8 : Bool) (x54 : Bool) (_ : laws_FnMultiply.j0 k x3 x4 x5 x6 x7 x8 x54 = some r), Kp (WS TE (cx0 Tryd.f4 none w ro B) (stkAt [1, 1, 1, 1, 1, 0, 0, 9] [] (bodyOf Tryd.f4) []) ⟨[(3, .v (.string x3)), (4, .v (.string x4)), (5, .v (.string x5)), (6, .v (.bool x6)), (7, .v (.string x7)), (8, .v (.bool x8)), (54, .v (.bool x54))], []⟩ (RetQ TE Tryd.f4 none [.ro (.v (.bool r))] [] w ro B))
 s_j1 : ∀ (r : Bool) (w : World) (ro : Nat → Prop) (B : Nat) (_ : Fr TE (cx0 Tryd.f4 none w ro B)) (x3 : ByteArray) (x4 : ByteArray) (x5 : ByteArray) (x9 : List Int) (x11 : List Int) (x92 : Bool) (_ : laws_FnMultiply.j1 k x3 x4 x5 x9 x11 x92 = some r), Kp (WS TE (cx0 Tryd.f4 none w ro B) (stkAt [1, 1, 1, 1, 1, 1, 1, 1, 0, 0, 9] [] (bodyOf Tryd.f4) []) ⟨[(3, .v (.string x3)), (4, .v (.string x4)), (5, .v (.string x5)), (9, .ow 1009 0), (11, .ow 1011 0), (92, .v (.bool x92))], [(1009, .own 0 3 1 (rX (cI .i64) x9)), (1011, .own 0 3 1 (rX (cI .i64) x11))]⟩ (RetQ TE Tryd.f4 none [.ro (.v (.bool r))] [] w ro B))
set_option maxRecDepth 100000 in
set_option maxHeartbeats 4000000 in
theorem laws_FnMultiply.c_j0 (k : Nat) (ih : Kp (∀ m, m < k → laws_FnMultiply.C m)) (r : Bool) (w : World) (ro : Nat → Prop) (B : Nat) (hF : Fr TE (cx0 Tryd.f4 none w ro B)) (x3 : ByteArray) (x4 : ByteArray) (x5 : ByteArray) (x6 : Bool) (x7 : ByteArray) (x8 : Bool) (x54 : Bool) (h : laws_FnMultiply.j0 k x3 x4 x5 x6 x7 x8 x54 = some r) : Kp (WS TE (cx0 Tryd.f4 none w ro B) (stkAt [1, 1, 1, 1, 1, 0, 0, 9] [] (bodyOf Tryd.f4) []) ⟨[(3, .v (.string x3)), (4, .v (.string x4)), (5, .v (.string x5)), (6, .v (.bool x6)), (7, .v (.string x7)), (8, .v (.bool x8)), (54, .v (.bool x54))], []⟩ (RetQ TE Tryd.f4 none [.ro (.v (.bool r))] [] w ro B)) := by
 refine ⟨?_⟩
 cases k with
 | zero => simp [laws_FnMultiply.j0] at h
 | succ k =>
 simp only [laws_FnMultiply.j0] at h
 by_cases c7 : x54 = true
 · rw [if_pos c7] at h
   by_cases c8 : x5.toList = x7.toList
   · rw [if_pos c8] at h
     by_cases c9 : (x6 == x8) = true
     · rw [if_pos c9] at h
       refine path_ok (k := 4) hF (RetQ_mild _ _ _ _ _ _ _ _) (ds := [.b true, .b true, .b true, .b true, .b true, .b true, .b true, .b true]) (os := []) (c := none) rfl KD ?_
       cases h
       exact ret_as (ms := [.ro]) rfl KD
     · rw [if_neg c9] at h
       refine path_ok (k := 4) hF (RetQ_mild _ _ _ _ _ _ _ _) (ds := [.b true, .b true, .b true, .b true, .b true, .b false, .b false, .b false]) (os := []) (c := none) rfl KD ?_
       cases h
       exact ret_as (ms := [.ro]) rfl KD
   · rw [if_neg c8] at h
     refine path_ok (k := 4) hF (RetQ_mild _ _ _ _ _ _ _ _) (ds := [.b true, .b false, .b false, .b false, .b false, .b false, .b false, .b false]) (os := []) (c := none) rfl KD ?_
     cases h
     exact ret_as (ms := [.ro]) rfl KD
 · rw [if_neg c7] at h
   obtain ⟨⟨t628, t629⟩, q10, h⟩ := Option.bind_eq_some_iff.1 h
   dsimp only at h
   have q10c := impl_ShapeOf.ctr k _ _ _ _ q10
   obtain ⟨⟨t632, t633⟩, q11, h⟩ := Option.bind_eq_some_iff.1 h
   dsimp only at h
   have q11c := impl_ShapeOf.ctr k _ _ _ _ q11
   by_cases c12 : 0 < (t628.length : Int)
   · rw [if_pos c12] at h
     by_cases c13 : (rd t628 0) = 0
     · rw [if_pos c13] at h
       refine path_ok (k := 9) hF (RetQ_mild _ _ _ _ _ _ _ _) (ds := [.b false, .r [.own 3 1 (rX (cI .i64) t628), .ro (.v (.bool t629))] [], .r [.own 3 1 (rX (cI .i64) t632), .ro (.v (.bool t633))] [], .g [.v (.int .i64 (rd t628 0))], .b true, .b true, .b true, .b true, .b true, .b true, .b true, .b true, .b true, .b true]) (os := []) (c := none) rfl KD ?_
       exact WS.can [(1009, some 101104), (1011, some 101184)] (((ih.out k (by omega)).s_j1  r w ro B hF x3 x4 x5 t628 t632 true h).out) KD
     · rw [if_neg c13] at h
       by_cases c14 : 1 < (t628.length : Int)
       · rw [if_pos c14] at h
         by_cases c15 : (rd t628 1) = 0
         · rw [if_pos c15] at h
           refine path_ok (k := 9) hF (RetQ_mild _ _ _ _ _ _ _ _) (ds := [.b false, .r [.own 3 1 (rX (cI .i64) t628), .ro (.v (.bool t629))] [], .r [.own 3 1 (rX (cI .i64) t632), .ro (.v (.bool t633))] [], .g [.v (.int .i64 (rd t628 0))], .b false, .b false, .b false, .g [.v (.int .i64 (rd t628 1))], .b false, .b false, .b true, .b true, .b true, .b true, .b true]) (os := []) (c := none) rfl KD ?_
           exact WS.can [(1009, some 101104), (1011, some 101184)] (((ih.out k (by omega)).s_j1  r w ro B hF x3 x4 x5 t628 t632 true h).out) KD
         · rw [if_neg c15] at h
           by_cases c16 : 1 < (t632.length : Int)
           · rw [if_pos c16] at h
             refine path_ok (k := 9) hF (RetQ_mild _ _ _ _ _ _ _ _) (ds := [.b false, .r [.own 3 1 (rX (cI .i64) t628), .ro (.v (.bool t629))] [], .r [.own 3 1 (rX (cI .i64) t632), .ro (.v (.bool t633))] [], .g [.v (.int .i64 (rd t628 0))], .b false, .b false, .b false, .g [.v (.int .i64 (rd t628 1))], .b false, .b false, .b false, .b false, .b false, .g [.v (.int .i64 (rd t632 1))], .b false, .b false]) (os := []) (c := none) rfl KD ?_
             exact WS.can [(1009, some 101104), (1011, some 101184)] (((ih.out k (by omega)).s_j1  r w ro B hF x3 x4 x5 t628 t632 ((rd t632 1) == 0) h).out) KD
           · rw [if_neg c16] at h
             cases h
       · rw [if_neg c14] at h
         cases h
   · rw [if_neg c12] at h
     cases h
set_option maxRecDepth 100000 in
set_option maxHeartbeats 4000000 in
theorem laws_FnMultiply.c_j1 (k : Nat) (ih : Kp (∀ m, m < k → laws_FnMultiply.C m)) (r : Bool) (w : World) (ro : Nat → Prop) (B : Nat) (hF : Fr TE (cx0 Tryd.f4 none w ro B)) (x3 : ByteArray) (x4 : ByteArray) (x5 : ByteArray) (x9 : List Int) (x11 : List Int) (x92 : Bool) (h : laws_FnMultiply.j1 k x3 x4 x5 x9 x11 x92 = some r) : Kp (WS TE (cx0 Tryd.f4 none w ro B) (stkAt [1, 1, 1, 1, 1, 1, 1, 1, 0, 0, 9] [] (bodyOf Tryd.f4) []) ⟨[(3, .v (.string x3)), (4, .v (.string x4)), (5, .v (.string x5)), (9, .ow 1009 0), (11, .ow 1011 0), (92, .v (.bool x92))], [(1009, .own 0 3 1 (rX (cI .i64) x9)), (1011, .own 0 3 1 (rX (cI .i64) x11))]⟩ (RetQ TE Tryd.f4 none [.ro (.v (.bool r))] [] w ro B)) := by
 refine ⟨?_⟩
 cases k with
 | zero => simp [laws_FnMultiply.j1] at h
 | succ k =>
 simp only [laws_FnMultiply.j1] at h
 by_cases c17 : x92 = true
 · rw [if_pos c17] at h
   obtain ⟨t639, q18, h⟩ := Option.bind_eq_some_iff.1 h
   have q18c := impl_LengthOf.ctr k _ _ _ q18
   by_cases c19 : 0 < (x9.length : Int)
   · rw [if_pos c19] at h
     refine path_ok (k := 4) hF (RetQ_mild _ _ _ _ _ _ _ _) (ds := [.b true, .g [.v (.int .i64 (rd x9 0))], .r [.ro (.v (.int .i64 t639))] []]) (os := [.o [(0, 0), (2, 0), (3, 0), (4, 1), (1, 2), (5, 0), (6, 0)] []]) (c := none) rfl KD ?_
     cases h
     exact ret_as (ms := [.ro]) rfl KD
   · rw [if_neg c19] at h
     cases h
 · rw [if_neg c17] at h
   obtain ⟨⟨t641, t642⟩, q20, h⟩ := Option.bind_eq_some_iff.1 h
   dsimp only at h
   have q20c := impl_TransposeArray.ctr k _ _ _ q20
   obtain ⟨⟨t643, t644⟩, q21, h⟩ := Option.bind_eq_some_iff.1 h
   dsimp only at h
   have q21c := impl_TransposeArray.ctr k _ _ _ q21
   obtain ⟨⟨t645, t646⟩, q22, h⟩ := Option.bind_eq_some_iff.1 h
   dsimp only at h
   have q22c := impl_TransposeArray.ctr k _ _ _ q22
   obtain ⟨⟨t647, t648⟩, q23, h⟩ := Option.bind_eq_some_iff.1 h
   dsimp only at h
   have q23c := impl_MultiplyArrays.ctr k _ _ _ _ q23
   obtain ⟨⟨t649, t650⟩, q24, h⟩ := Option.bind_eq_some_iff.1 h
   dsimp only at h
   have q24c := impl_ShapeOf.ctr k _ _ _ _ q24
   by_cases c25 : t648 = true
   · rw [if_pos c25] at h
     by_cases c26 : t647.toList = t645.toList
     · rw [if_pos c26] at h
       by_cases c27 : 0 < (x9.length : Int)
       · rw [if_pos c27] at h
         by_cases c28 : 1 < (x11.length : Int)
         · rw [if_pos c28] at h
           obtain ⟨t658, q29, h⟩ := Option.bind_eq_some_iff.1 h
           have q29c := laws_faSame.ctr k _ _ _ q29
           refine path_ok (k := 15) hF (RetQ_mild _ _ _ _ _ _ _ _) (ds := [.b false, .r [.ro (.v (.string t641)), .ro (.v (.bool t642))] [], .r [.ro (.v (.string t643)), .ro (.v (.bool t644))] [], .r [.ro (.v (.string t645)), .ro (.v (.bool t646))] [], .r [.ro (.v (.string t647)), .ro (.v (.bool t648))] [], .r [.own 3 1 (rX (cI .i64) t649), .ro (.v (.bool t650))] [], .b true, .b true, .b true, .b true, .b true, .b true, .b true, .b true, .g [.v (.int .i64 (rd x9 0))], .b true, .b true, .b true, .g [.v (.int .i64 (rd x11 1))], .b true, .p 139 ([[.v (.int .i64 (rd x9 0))], [.v (.int .i64 (rd x11 1))]]), .b true, .r [.ro (.v (.bool t658))] [], .b true]) (os := [.o [(0, 0), (1, 0), (2, 0), (3, 0), (4, 0), (5, 0), (6, 0), (7, 0), (8, 0), (9, 0), (10, 1), (11, 0), (12, 0), (13, 1), (14, 2), (15, 2), (16, 0), (17, 0)] []]) (c := none) rfl KD ?_
           cases h
           exact ret_as (ms := [.ro]) rfl KD
         · rw [if_neg c28] at h
           cases h
       · rw [if_neg c27] at h
         cases h
     · rw [if_neg c26] at h
       refine path_ok (k := 15) hF (RetQ_mild _ _ _ _ _ _ _ _) (ds := [.b false, .r [.ro (.v (.string t641)), .ro (.v (.bool t642))] [], .r [.ro (.v (.string t643)), .ro (.v (.bool t644))] [], .r [.ro (.v (.string t645)), .ro (.v (.bool t646))] [], .r [.ro (.v (.string t647)), .ro (.v (.bool t648))] [], .r [.own 3 1 (rX (cI .i64) t649), .ro (.v (.bool t650))] [], .b true, .b true, .b true, .b true, .b false, .b false, .b false, .b false, .b false, .b false, .b false, .b false, .b false, .b false]) (os := [.o [(0, 0), (1, 0), (2, 0), (3, 0), (4, 0), (5, 0), (6, 0), (7, 0), (8, 0), (9, 0), (10, 1), (11, 0), (12, 0), (13, 1), (14, 2), (15, 2), (16, 0), (17, 0)] []]) (c := none) rfl KD ?_
       cases h
       exact ret_as (ms := [.ro]) rfl KD
   · rw [if_neg c25] at h
     refine path_ok (k := 15) hF (RetQ_mild _ _ _ _ _ _ _ _) (ds := [.b false, .r [.ro (.v (.string t641)), .ro (.v (.bool t642))] [], .r [.ro (.v (.string t643)), .ro (.v (.bool t644))] [], .r [.ro (.v (.string t645)), .ro (.v (.bool t646))] [], .r [.ro (.v (.string t647)), .ro (.v (.bool t648))] [], .r [.own 3 1 (rX (cI .i64) t649), .ro (.v (.bool t650))] [], .b false, .b false, .b false, .b false, .b false, .b false, .b false, .b false, .b false, .b false, .b false, .b false, .b false, .b false]) (os := [.o [(0, 0), (1, 0), (2, 0), (3, 0), (4, 0), (5, 0), (6, 0), (7, 0), (8, 0), (9, 0), (10, 1), (11, 0), (12, 0), (13, 1), (14, 2), (15, 2), (16, 0), (17, 0)] []]) (c := none) rfl KD ?_
     cases h
     exact ret_as (ms := [.ro]) rfl KD
theorem laws_FnMultiply.cs (k : Nat) : laws_FnMultiply.C k := by
 induction k using Nat.strongRecOn with
 | _ k ih0 =>
 have ih : Kp (∀ m, m < k → laws_FnMultiply.C m) := ⟨ih0⟩
 exact ⟨laws_FnMultiply.c_j0 k ih, laws_FnMultiply.c_j1 k ih⟩
set_option maxRecDepth 100000 in
set_option maxHeartbeats 4000000 in
theorem laws_FnMultiply.ctr (k : Nat) (l0 : List Int) (r : Bool) (h : laws_FnMultiply.f k l0 = some r) : Ctr TE 4 none [.sl 1 (rX (cI .u8) l0)] [.ro (.v (.bool r))] [] := by
 refine ctr_of (fn := Tryd.f4) (c := (bodyOf Tryd.f4)) Tryd.func4 rfl (by kernel_rfl) (Nat.le_of_ble_eq_true (by kernel_rfl)) (fun w ro B hF _ => ?_)
 have ih : Kp (∀ m, m < k + 1 → laws_FnMultiply.C m) := ⟨fun m _ => laws_FnMultiply.cs m⟩
 simp only [laws_FnMultiply.f] at h
 by_cases c1 : (l0.length : Int) > 1048576
 · rw [if_pos c1] at h
   refine path_ok (k := 9) hF (RetQ_mild _ _ _ _ _ _ _ _) (ds := [.e 24 (.v (.int .i64 (l0.length : Int))), .b true]) (os := []) (c := none) rfl KD ?_
   cases h
   exact ret_as (ms := [.ro]) rfl KD
 · rw [if_neg c1] at h
   obtain ⟨⟨t622, t623⟩, q2, h⟩ := Option.bind_eq_some_iff.1 h
   dsimp only at h
   have q2c := spec_DrawMultiplyArrays.ctr k _ _ _ q2
   obtain ⟨⟨t624, t625⟩, q3, h⟩ := Option.bind_eq_some_iff.1 h
   dsimp only at h
   have q3c := impl_MultiplyArrays.ctr k _ _ _ _ q3
   obtain ⟨⟨t626, t627⟩, q4, h⟩ := Option.bind_eq_some_iff.1 h
   dsimp only at h
   have q4c := spec_MultiplyArrays.ctr k _ _ _ _ q4
   by_cases c5 : t624.toList = t626.toList
   · rw [if_pos c5] at h
     by_cases c6 : (t625 != t627) = true
     · rw [if_pos c6] at h
       refine path_ok (k := 16) hF (RetQ_mild _ _ _ _ _ _ _ _) (ds := [.e 24 (.v (.int .i64 (l0.length : Int))), .b false, .r [.ro (.v (.string t622)), .ro (.v (.string t623))] [], .r [.ro (.v (.string t624)), .ro (.v (.bool t625))] [], .r [.ro (.v (.string t626)), .ro (.v (.bool t627))] [], .b false, .b false, .b false, .b false, .b true, .b true, .b true]) (os := []) (c := none) rfl KD ?_
       exact WS.can [] (((ih.out k (by omega)).s_j0  r w ro B hF t622 t623 t624 t625 t626 t627 true h).out) KD
     · rw [if_neg c6] at h
       refine path_ok (k := 16) hF (RetQ_mild _ _ _ _ _ _ _ _) (ds := [.e 24 (.v (.int .i64 (l0.length : Int))), .b false, .r [.ro (.v (.string t622)), .ro (.v (.string t623))] [], .r [.ro (.v (.string t624)), .ro (.v (.bool t625))] [], .r [.ro (.v (.string t626)), .ro (.v (.bool t627))] [], .b false, .b false, .b false, .b false, .b false, .b false, .b false]) (os := []) (c := none) rfl KD ?_
       exact WS.can [] (((ih.out k (by omega)).s_j0  r w ro B hF t622 t623 t624 t625 t626 t627 (!t625) h).out) KD
   · rw [if_neg c5] at h
     refine path_ok (k := 16) hF (RetQ_mild _ _ _ _ _ _ _ _) (ds := [.e 24 (.v (.int .i64 (l0.length : Int))), .b false, .r [.ro (.v (.string t622)), .ro (.v (.string t623))] [], .r [.ro (.v (.string t624)), .ro (.v (.bool t625))] [], .r [.ro (.v (.string t626)), .ro (.v (.bool t627))] [], .b true, .b true, .b true, .b true, .b true, .b true, .b true]) (os := []) (c := none) rfl KD ?_
     exact WS.can [] (((ih.out k (by omega)).s_j0  r w ro B hF t622 t623 t624 t625 t626 t627 true h).out) KD
def laws_FnMultiply.Pure : Prop := ∀ (l0 : List Int), l0.length ≤ maxLen → l0.length * 1 ≤ 140737488351232 → (∀ x ∈ l0, (Lit.int .u8 x).wf = true) → ∃ k, laws_FnMultiply.f k l0 = some true
end Go.Proofs.YtlhejcogdjelpaaDoor.G
