/- A part of the claim. -/
import Derived.Test.YtmjoigpnnechgaaDoorUFx0
import Derived.Test.YtmjoigpnnechgaaDoorUFx3
import Derived.Test.YtmjoigpnnechgaaDoorUFx4
import Derived.Test.YtmjoigpnnechgaaDoorUFx6
import Derived.Test.YtmjoigpnnechgaaDoorUFSgt
-- PRINTED by print.py (a twelfth state) out of the translation. Not trusted: Lean checks it.
namespace Go.Proofs.YtmjoigpnnechgaaDoor.U
open Go.RowKit Go.Proofs.YtmjoigpnnechgaaDoorW.St Go.Proofs.YtmjoigpnnechgaaDoorW.PrintWords Go.Proofs.YtmjoigpnnechgaaDoorW.PrintLast Go.Proofs.YtmjoigpnnechgaaDoorW.PrintMore
attribute [local go_sem] max2_int min2_int max_two min_two max_three min_three max_four min_four   -- for this text's walks alone
set_option linter.unusedVariables false
set_option linter.unusedSimpArgs false
def laws_FnTranspose.j0 : Nat → ByteArray → ByteArray → Bool → ByteArray → Bool → Bool → Option (Bool)
  | 0, _, _, _, _, _, _ => none
  | k + 1, x3, x4, x5, x6, x7, x46 => if x46 = true then (if x4.toList = x6.toList then (if (x5 == x7) = true then ((impl_IsRegular.f k x3 2).bind fun t552 => (some (x5 == t552))) else (some false)) else (some false)) else ((impl_ShapeOf.f k x3 2).bind fun bt553 => ((impl_ShapeOf.f k x4 2).bind fun bt557 => ((impl_TransposeArray.f k x4).bind fun bt561 => (if 0 < (bt553.1.length : Int) then (if (rd bt553.1 0) = 0 then (some (x4.toList == ([91, 93] : List UInt8))) else (if 1 < (bt553.1.length : Int) then (if (rd bt553.1 1) = 0 then (some (x4.toList == ([91, 93] : List UInt8))) else (if bt557.2 = true then (if bt561.1.toList = x3.toList then (if 0 < (bt557.1.length : Int) then (if (rd bt557.1 0) = (rd bt553.1 1) then (if 1 < (bt557.1.length : Int) then (some ((rd bt557.1 1) == (rd bt553.1 0))) else (none)) else (some false)) else (none)) else (some false)) else (some false))) else (none))) else (none)))))
def laws_FnTranspose.f (k : Nat) (l0 : List Int) : Option (Bool) := if (l0.length : Int) > 1048576 then (some true) else ((spec_DrawTransposeArray.f k l0).bind fun t546 => ((impl_TransposeArray.f k t546).bind fun bt547 => ((spec_TransposeArray.f k t546).bind fun bt549 => (if bt547.1.toList = bt549.1.toList then (if (bt547.2 != bt549.2) = true then (laws_FnTranspose.j0 k t546 bt547.1 bt547.2 bt549.1 bt549.2 true) else ((impl_IsRegular.f k t546 2).bind fun t551 => (if (bt547.2 != t551) = true then (laws_FnTranspose.j0 k t546 bt547.1 bt547.2 bt549.1 bt549.2 true) else (laws_FnTranspose.j0 k t546 bt547.1 bt547.2 bt549.1 bt549.2 (!bt547.2))))) else (laws_FnTranspose.j0 k t546 bt547.1 bt547.2 bt549.1 bt549.2 true)))))
structure laws_FnTranspose.C (k : Nat) : Prop where
 s_j0 : ∀ (r : Bool) (w : World) (ro : Nat → Prop) (B : Nat) (_ : Fr TE (cx0 Tryd.f14 none w ro B)) (x3 : ByteArray) (x4 : ByteArray) (x5 : Bool) (x6 : ByteArray) (x7 : Bool) (x46 : Bool) (_ : laws_FnTranspose.j0 k x3 x4 x5 x6 x7 x46 = some r), Kp (WS TE (cx0 Tryd.f14 none w ro B) (stkAt [1, 1, 1, 1, 1, 0, 0, 9] [] (bodyOf Tryd.f14) []) ⟨[(3, .v (.string x3)), (4, .v (.string x4)), (5, .v (.bool x5)), (6, .v (.string x6)), (7, .v (.bool x7)), (46, .v (.bool x46))], []⟩ (RetQ TE Tryd.f14 none [.ro (.v (.bool r))] [] w ro B))
set_option maxRecDepth 100000 in
set_option maxHeartbeats 4000000 in
theorem laws_FnTranspose.c_j0 (k : Nat) (ih : Kp (∀ m, m < k → laws_FnTranspose.C m)) (r : Bool) (w : World) (ro : Nat → Prop) (B : Nat) (hF : Fr TE (cx0 Tryd.f14 none w ro B)) (x3 : ByteArray) (x4 : ByteArray) (x5 : Bool) (x6 : ByteArray) (x7 : Bool) (x46 : Bool) (h : laws_FnTranspose.j0 k x3 x4 x5 x6 x7 x46 = some r) : Kp (WS TE (cx0 Tryd.f14 none w ro B) (stkAt [1, 1, 1, 1, 1, 0, 0, 9] [] (bodyOf Tryd.f14) []) ⟨[(3, .v (.string x3)), (4, .v (.string x4)), (5, .v (.bool x5)), (6, .v (.string x6)), (7, .v (.bool x7)), (46, .v (.bool x46))], []⟩ (RetQ TE Tryd.f14 none [.ro (.v (.bool r))] [] w ro B)) := by
 refine ⟨?_⟩
 cases k with
 | zero => simp [laws_FnTranspose.j0] at h
 | succ k =>
 simp only [laws_FnTranspose.j0] at h
 by_cases c9 : x46 = true
 · rw [if_pos c9] at h
   by_cases c10 : x4.toList = x6.toList
   · rw [if_pos c10] at h
     by_cases c11 : (x5 == x7) = true
     · rw [if_pos c11] at h
       obtain ⟨t552, q12, h⟩ := Option.bind_eq_some_iff.1 h
       have q12c := impl_IsRegular.ctr k _ _ _ q12
       refine path_ok (k := 4) hF (RetQ_mild _ _ _ _ _ _ _ _) (ds := [.b true, .b true, .b true, .b true, .b true, .b true, .b true, .b true, .r [.ro (.v (.bool t552))] [], .b true, .b true]) (os := []) (c := none) rfl KD ?_
       cases h
       exact ret_as (ms := [.ro]) rfl KD
     · rw [if_neg c11] at h
       refine path_ok (k := 4) hF (RetQ_mild _ _ _ _ _ _ _ _) (ds := [.b true, .b true, .b true, .b true, .b true, .b false, .b false, .b false, .b false, .b false]) (os := []) (c := none) rfl KD ?_
       cases h
       exact ret_as (ms := [.ro]) rfl KD
   · rw [if_neg c10] at h
     refine path_ok (k := 4) hF (RetQ_mild _ _ _ _ _ _ _ _) (ds := [.b true, .b false, .b false, .b false, .b false, .b false, .b false, .b false, .b false, .b false]) (os := []) (c := none) rfl KD ?_
     cases h
     exact ret_as (ms := [.ro]) rfl KD
 · rw [if_neg c9] at h
   obtain ⟨⟨t553, t554⟩, q13, h⟩ := Option.bind_eq_some_iff.1 h
   dsimp only at h
   have q13c := impl_ShapeOf.ctr k _ _ _ _ q13
   obtain ⟨⟨t557, t558⟩, q14, h⟩ := Option.bind_eq_some_iff.1 h
   dsimp only at h
   have q14c := impl_ShapeOf.ctr k _ _ _ _ q14
   obtain ⟨⟨t561, t562⟩, q15, h⟩ := Option.bind_eq_some_iff.1 h
   dsimp only at h
   have q15c := impl_TransposeArray.ctr k _ _ _ q15
   by_cases c16 : 0 < (t553.length : Int)
   · rw [if_pos c16] at h
     by_cases c17 : (rd t553 0) = 0
     · rw [if_pos c17] at h
       refine path_ok (k := 15) hF (RetQ_mild _ _ _ _ _ _ _ _) (ds := [.b false, .r [.own 3 1 (rX (cI .i64) t553), .ro (.v (.bool t554))] [], .r [.own 3 1 (rX (cI .i64) t557), .ro (.v (.bool t558))] [], .r [.ro (.v (.string t561)), .ro (.v (.bool t562))] [], .g [.v (.int .i64 (rd t553 0))], .b true, .b true, .b true, .b true, .b true, .b true]) (os := []) (c := none) rfl KD ?_
       cases h
       exact ret_as (ms := [.ro]) rfl KD
     · rw [if_neg c17] at h
       by_cases c18 : 1 < (t553.length : Int)
       · rw [if_pos c18] at h
         by_cases c19 : (rd t553 1) = 0
         · rw [if_pos c19] at h
           refine path_ok (k := 15) hF (RetQ_mild _ _ _ _ _ _ _ _) (ds := [.b false, .r [.own 3 1 (rX (cI .i64) t553), .ro (.v (.bool t554))] [], .r [.own 3 1 (rX (cI .i64) t557), .ro (.v (.bool t558))] [], .r [.ro (.v (.string t561)), .ro (.v (.bool t562))] [], .g [.v (.int .i64 (rd t553 0))], .b false, .b false, .b false, .g [.v (.int .i64 (rd t553 1))], .b false, .b false, .b true]) (os := []) (c := none) rfl KD ?_
           cases h
           exact ret_as (ms := [.ro]) rfl KD
         · rw [if_neg c19] at h
           by_cases c20 : t558 = true
           · rw [if_pos c20] at h
             by_cases c21 : t561.toList = x3.toList
             · rw [if_pos c21] at h
               by_cases c22 : 0 < (t557.length : Int)
               · rw [if_pos c22] at h
                 by_cases c23 : (rd t557 0) = (rd t553 1)
                 · rw [if_pos c23] at h
                   by_cases c24 : 1 < (t557.length : Int)
                   · rw [if_pos c24] at h
                     refine path_ok (k := 16) hF (RetQ_mild _ _ _ _ _ _ _ _) (ds := [.b false, .r [.own 3 1 (rX (cI .i64) t553), .ro (.v (.bool t554))] [], .r [.own 3 1 (rX (cI .i64) t557), .ro (.v (.bool t558))] [], .r [.ro (.v (.string t561)), .ro (.v (.bool t562))] [], .g [.v (.int .i64 (rd t553 0))], .b false, .b false, .b false, .g [.v (.int .i64 (rd t553 1))], .b false, .b false, .b false, .b true, .b true, .b true, .b true, .b true, .b true, .b true, .g [.v (.int .i64 (rd t557 0))], .b true, .b true, .b true, .g [.v (.int .i64 (rd t553 1))], .b true, .b true, .b true, .b true, .b true, .g [.v (.int .i64 (rd t557 1))], .b true, .b true, .b true, .g [.v (.int .i64 (rd t553 0))], .b true, .b true]) (os := [.o [(0, 0), (1, 0), (2, 0), (3, 0), (4, 0), (5, 0), (6, 0), (7, 0), (8, 0), (9, 1), (10, 0), (11, 0), (12, 1), (13, 0), (14, 0), (15, 0), (16, 0), (17, 0), (18, 1), (19, 0), (20, 0), (21, 1), (22, 0), (23, 0), (24, 0)] []]) (c := none) rfl KD ?_
                     cases h
                     exact ret_as (ms := [.ro]) rfl KD
                   · rw [if_neg c24] at h
                     cases h
                 · rw [if_neg c23] at h
                   refine path_ok (k := 16) hF (RetQ_mild _ _ _ _ _ _ _ _) (ds := [.b false, .r [.own 3 1 (rX (cI .i64) t553), .ro (.v (.bool t554))] [], .r [.own 3 1 (rX (cI .i64) t557), .ro (.v (.bool t558))] [], .r [.ro (.v (.string t561)), .ro (.v (.bool t562))] [], .g [.v (.int .i64 (rd t553 0))], .b false, .b false, .b false, .g [.v (.int .i64 (rd t553 1))], .b false, .b false, .b false, .b true, .b true, .b true, .b true, .b true, .b true, .b true, .g [.v (.int .i64 (rd t557 0))], .b true, .b true, .b true, .g [.v (.int .i64 (rd t553 1))], .b true, .b true, .b false, .b false, .b false, .b false, .b false, .b false, .b false, .b false]) (os := [.o [(0, 0), (1, 0), (2, 0), (3, 0), (4, 0), (5, 0), (6, 0), (7, 0), (8, 0), (9, 1), (10, 0), (11, 0), (12, 1), (13, 0), (14, 0), (15, 0), (16, 0), (17, 0), (18, 1), (19, 0), (20, 0), (21, 1), (22, 0), (23, 0), (24, 0)] []]) (c := none) rfl KD ?_
                   cases h
                   exact ret_as (ms := [.ro]) rfl KD
               · rw [if_neg c22] at h
                 cases h
             · rw [if_neg c21] at h
               refine path_ok (k := 16) hF (RetQ_mild _ _ _ _ _ _ _ _) (ds := [.b false, .r [.own 3 1 (rX (cI .i64) t553), .ro (.v (.bool t554))] [], .r [.own 3 1 (rX (cI .i64) t557), .ro (.v (.bool t558))] [], .r [.ro (.v (.string t561)), .ro (.v (.bool t562))] [], .g [.v (.int .i64 (rd t553 0))], .b false, .b false, .b false, .g [.v (.int .i64 (rd t553 1))], .b false, .b false, .b false, .b true, .b true, .b true, .b true, .b false, .b false, .b false, .b false, .b false, .b false, .b false, .b false, .b false, .b false, .b false, .b false, .b false, .b false, .b false, .b false]) (os := [.o [(0, 0), (1, 0), (2, 0), (3, 0), (4, 0), (5, 0), (6, 0), (7, 0), (8, 0), (9, 1), (10, 0), (11, 0), (12, 1), (13, 0), (14, 0), (15, 0), (16, 0), (17, 0), (18, 1), (19, 0), (20, 0), (21, 1), (22, 0), (23, 0), (24, 0)] []]) (c := none) rfl KD ?_
               cases h
               exact ret_as (ms := [.ro]) rfl KD
           · rw [if_neg c20] at h
             refine path_ok (k := 16) hF (RetQ_mild _ _ _ _ _ _ _ _) (ds := [.b false, .r [.own 3 1 (rX (cI .i64) t553), .ro (.v (.bool t554))] [], .r [.own 3 1 (rX (cI .i64) t557), .ro (.v (.bool t558))] [], .r [.ro (.v (.string t561)), .ro (.v (.bool t562))] [], .g [.v (.int .i64 (rd t553 0))], .b false, .b false, .b false, .g [.v (.int .i64 (rd t553 1))], .b false, .b false, .b false, .b false, .b false, .b false, .b false, .b false, .b false, .b false, .b false, .b false, .b false, .b false, .b false, .b false, .b false, .b false, .b false, .b false, .b false, .b false, .b false]) (os := [.o [(0, 0), (1, 0), (2, 0), (3, 0), (4, 0), (5, 0), (6, 0), (7, 0), (8, 0), (9, 1), (10, 0), (11, 0), (12, 1), (13, 0), (14, 0), (15, 0), (16, 0), (17, 0), (18, 1), (19, 0), (20, 0), (21, 1), (22, 0), (23, 0), (24, 0)] []]) (c := none) rfl KD ?_
             cases h
             exact ret_as (ms := [.ro]) rfl KD
       · rw [if_neg c18] at h
         cases h
   · rw [if_neg c16] at h
     cases h
theorem laws_FnTranspose.cs (k : Nat) : laws_FnTranspose.C k := by
 induction k using Nat.strongRecOn with
 | _ k ih0 =>
 have ih : Kp (∀ m, m < k → laws_FnTranspose.C m) := ⟨ih0⟩
 exact ⟨laws_FnTranspose.c_j0 k ih⟩
set_option maxRecDepth 100000 in
set_option maxHeartbeats 4000000 in
theorem laws_FnTranspose.ctr (k : Nat) (l0 : List Int) (r : Bool) (h : laws_FnTranspose.f k l0 = some r) : Ctr TE 14 none [.sl 1 (rX (cI .u8) l0)] [.ro (.v (.bool r))] [] := by
 refine ctr_of (fn := Tryd.f14) (c := (bodyOf Tryd.f14)) Tryd.func14 rfl (by kernel_rfl) (Nat.le_of_ble_eq_true (by kernel_rfl)) (fun w ro B hF _ => ?_)
 have ih : Kp (∀ m, m < k + 1 → laws_FnTranspose.C m) := ⟨fun m _ => laws_FnTranspose.cs m⟩
 simp only [laws_FnTranspose.f] at h
 by_cases c1 : (l0.length : Int) > 1048576
 · rw [if_pos c1] at h
   refine path_ok (k := 9) hF (RetQ_mild _ _ _ _ _ _ _ _) (ds := [.e 15 (.v (.int .i64 (l0.length : Int))), .b true]) (os := []) (c := none) rfl KD ?_
   cases h
   exact ret_as (ms := [.ro]) rfl KD
 · rw [if_neg c1] at h
   obtain ⟨t546, q2, h⟩ := Option.bind_eq_some_iff.1 h
   have q2c := spec_DrawTransposeArray.ctr k _ _ q2
   obtain ⟨⟨t547, t548⟩, q3, h⟩ := Option.bind_eq_some_iff.1 h
   dsimp only at h
   have q3c := impl_TransposeArray.ctr k _ _ _ q3
   obtain ⟨⟨t549, t550⟩, q4, h⟩ := Option.bind_eq_some_iff.1 h
   dsimp only at h
   have q4c := spec_TransposeArray.ctr k _ _ _ q4
   by_cases c5 : t547.toList = t549.toList
   · rw [if_pos c5] at h
     by_cases c6 : (t548 != t550) = true
     · rw [if_pos c6] at h
       refine path_ok (k := 16) hF (RetQ_mild _ _ _ _ _ _ _ _) (ds := [.e 15 (.v (.int .i64 (l0.length : Int))), .b false, .r [.ro (.v (.string t546))] [], .r [.ro (.v (.string t547)), .ro (.v (.bool t548))] [], .r [.ro (.v (.string t549)), .ro (.v (.bool t550))] [], .b false, .b false, .b false, .b false, .b true, .b true, .b true, .b true, .b true, .b true, .b true, .b true]) (os := []) (c := none) rfl KD ?_
       exact WS.can [] (((ih.out k (by omega)).s_j0  r w ro B hF t546 t547 t548 t549 t550 true h).out) KD
     · rw [if_neg c6] at h
       obtain ⟨t551, q7, h⟩ := Option.bind_eq_some_iff.1 h
       have q7c := impl_IsRegular.ctr k _ _ _ q7
       by_cases c8 : (t548 != t551) = true
       · rw [if_pos c8] at h
         refine path_ok (k := 16) hF (RetQ_mild _ _ _ _ _ _ _ _) (ds := [.e 15 (.v (.int .i64 (l0.length : Int))), .b false, .r [.ro (.v (.string t546))] [], .r [.ro (.v (.string t547)), .ro (.v (.bool t548))] [], .r [.ro (.v (.string t549)), .ro (.v (.bool t550))] [], .b false, .b false, .b false, .b false, .b false, .b false, .b false, .r [.ro (.v (.bool t551))] [], .b false, .b false, .b true, .b true, .b true]) (os := []) (c := none) rfl KD ?_
         exact WS.can [] (((ih.out k (by omega)).s_j0  r w ro B hF t546 t547 t548 t549 t550 true h).out) KD
       · rw [if_neg c8] at h
         refine path_ok (k := 16) hF (RetQ_mild _ _ _ _ _ _ _ _) (ds := [.e 15 (.v (.int .i64 (l0.length : Int))), .b false, .r [.ro (.v (.string t546))] [], .r [.ro (.v (.string t547)), .ro (.v (.bool t548))] [], .r [.ro (.v (.string t549)), .ro (.v (.bool t550))] [], .b false, .b false, .b false, .b false, .b false, .b false, .b false, .r [.ro (.v (.bool t551))] [], .b false, .b false, .b false, .b false, .b false]) (os := []) (c := none) rfl KD ?_
         exact WS.can [] (((ih.out k (by omega)).s_j0  r w ro B hF t546 t547 t548 t549 t550 (!t548) h).out) KD
   · rw [if_neg c5] at h
     refine path_ok (k := 16) hF (RetQ_mild _ _ _ _ _ _ _ _) (ds := [.e 15 (.v (.int .i64 (l0.length : Int))), .b false, .r [.ro (.v (.string t546))] [], .r [.ro (.v (.string t547)), .ro (.v (.bool t548))] [], .r [.ro (.v (.string t549)), .ro (.v (.bool t550))] [], .b true, .b true, .b true, .b true, .b true, .b true, .b true, .b true, .b true, .b true, .b true, .b true]) (os := []) (c := none) rfl KD ?_
     exact WS.can [] (((ih.out k (by omega)).s_j0  r w ro B hF t546 t547 t548 t549 t550 true h).out) KD
def laws_FnTranspose.Pure : Prop := ∀ (l0 : List Int), l0.length ≤ maxLen → l0.length * 1 ≤ 140737488351232 → (∀ x ∈ l0, (Lit.int .u8 x).wf = true) → ∃ k, laws_FnTranspose.f k l0 = some true
end Go.Proofs.YtmjoigpnnechgaaDoor.U
