/- A part of the claim. -/
import Derived.Test.YtoloblgjlnhioaaDoorJFx0
import Derived.Test.YtoloblgjlnhioaaDoorJFx2
import Derived.Test.YtoloblgjlnhioaaDoorJFx5
import Derived.Test.YtoloblgjlnhioaaDoorJFx6
import Derived.Test.YtoloblgjlnhioaaDoorJFSgq
-- PRINTED by print.py (a twelfth state) out of the translation. Not trusted: Lean checks it.
namespace Go.Proofs.YtoloblgjlnhioaaDoor.J
open Go.RowKit Go.Proofs.YtoloblgjlnhioaaDoorW.St Go.Proofs.YtoloblgjlnhioaaDoorW.PrintWords Go.Proofs.YtoloblgjlnhioaaDoorW.PrintLast Go.Proofs.YtoloblgjlnhioaaDoorW.PrintMore
attribute [local go_sem] max2_int min2_int max_two min_two max_three min_three max_four min_four   -- for this text's walks alone
set_option linter.unusedVariables false
set_option linter.unusedSimpArgs false
mutual
def laws_FnPadCut.j0 : Nat → List Int → List Int → Bool → Option (Bool)
  | 0, _, _, _ => none
  | k + 1, x0, x1, x32 => if x32 = true then (some true) else ((spec_DrawPadArray.f k x0).bind fun t538 => ((impl_PadArray.f k t538).bind fun bt539 => ((spec_PadArray.f k t538).bind fun bt541 => ((spec_DrawCutArray.f k x1).bind fun bt543 => ((impl_CutArray.f k bt543.1 bt543.2).bind fun bt547 => ((spec_CutArray.f k bt543.1 bt543.2).bind fun bt549 => (if bt539.1.toList = bt541.1.toList then (if (bt539.2 != bt541.2) = true then (laws_FnPadCut.j1 k t538 bt539.1 bt539.2 bt541.1 bt541.2 bt547.1 bt547.2 bt549.1 bt549.2 true) else (if bt547.1.toList = bt549.1.toList then (if (bt547.2 != bt549.2) = true then (laws_FnPadCut.j1 k t538 bt539.1 bt539.2 bt541.1 bt541.2 bt547.1 bt547.2 bt549.1 bt549.2 true) else (laws_FnPadCut.j1 k t538 bt539.1 bt539.2 bt541.1 bt541.2 bt547.1 bt547.2 bt549.1 bt549.2 (!bt539.2))) else (laws_FnPadCut.j1 k t538 bt539.1 bt539.2 bt541.1 bt541.2 bt547.1 bt547.2 bt549.1 bt549.2 true))) else (laws_FnPadCut.j1 k t538 bt539.1 bt539.2 bt541.1 bt541.2 bt547.1 bt547.2 bt549.1 bt549.2 true))))))))
def laws_FnPadCut.j1 : Nat → ByteArray → ByteArray → Bool → ByteArray → Bool → ByteArray → Bool → ByteArray → Bool → Bool → Option (Bool)
  | 0, _, _, _, _, _, _, _, _, _, _ => none
  | k + 1, x5, x6, x7, x8, x9, x12, x13, x14, x15, x83 => if x83 = true then (if x6.toList = x8.toList then (if (x7 == x9) = true then (if x12.toList = x14.toList then (some (x13 == x15)) else (some false)) else (some false)) else (some false)) else ((impl_PartsOf.f k x5 2).bind fun bt551 => (laws_FnPadCut.l0 k x5 x6 (([] : List Int)) bt551.1 (bt551.1.length : Int) 0))
def laws_FnPadCut.l0 : Nat → ByteArray → ByteArray → List Int → List ByteArray → Int → Int → Option (Bool)
  | 0, _, _, _, _, _, _ => none
  | k + 1, x5, x6, x18, x108, x109, x110 => if x110 < x109 then (if 0 ≤ x110 then (if x110 < (x108.length : Int) then ((impl_LengthOf.f k (rdOf ByteArray.empty x108 x110) 1).bind fun t559 => (if x18.length < 17592186044416 then (laws_FnPadCut.l0 k x5 x6 (x18 ++ [t559]) x108 x109 (wrap64 (x110 + 1))) else (none))) else (none)) else (none)) else ((impl_CutArray.f k x6 x18).bind fun bt563 => ((impl_PadArray.f k x6).bind fun bt565 => (if bt563.2 = true then (if bt563.1.toList = x5.toList then (if bt565.1.toList = x6.toList then ((impl_IsRegular.f k x6 2).bind fun t567 => (if t567 = true then ((impl_IsRegular.f k x5 2).bind fun t568 => (if t568 = true then (some (x6.toList == x5.toList)) else (some true))) else (some false))) else (some false)) else (some false)) else (some false))))
end
def laws_FnPadCut.f (k : Nat) (l0 : List Int) (l1 : List Int) : Option (Bool) := if (l0.length : Int) > 1048576 then (laws_FnPadCut.j0 k l0 l1 true) else (laws_FnPadCut.j0 k l0 l1 (decide ((l1.length : Int) > 1048576)))
def laws_FnPadCut.I0 (r : Bool) (m : Nat) (σ : St) : Prop := ∃ (x5 : ByteArray) (x6 : ByteArray) (x18 : List Int) (x108 : List ByteArray) (x109 : Int) (x110 : Int), laws_FnPadCut.l0 m x5 x6 x18 x108 x109 x110 = some r ∧ σ = ⟨[(5, .v (.string x5)), (6, .v (.string x6)), (18, .ow 1018 0), (108, .ow 1108 0), (109, .v (.int .i64 x109)), (110, .v (.int .i64 x110))], [(1018, .own 0 3 1 (rX (cI .i64) x18)), (1108, .own 0 9 1 (rX cS x108))]⟩
structure laws_FnPadCut.C (k : Nat) : Prop where
 s_j0 : ∀ (r : Bool) (w : World) (ro : Nat → Prop) (B : Nat) (_ : Fr TE (cx0 Tryd.f5 none w ro B)) (x0 : List Int) (x1 : List Int) (x32 : Bool) (_ : laws_FnPadCut.j0 k x0 x1 x32 = some r), Kp (WS TE (cx0 Tryd.f5 none w ro B) (stkAt [1, 0, 0, 9] [] (bodyOf Tryd.f5) []) ⟨[(0, .sl 1 (rX (cI .u8) x0)), (1, .sl 1 (rX (cI .u8) x1)), (32, .v (.bool x32))], []⟩ (RetQ TE Tryd.f5 none [.ro (.v (.bool r))] [] w ro B))
 s_j1 : ∀ (r : Bool) (w : World) (ro : Nat → Prop) (B : Nat) (_ : Fr TE (cx0 Tryd.f5 none w ro B)) (x5 : ByteArray) (x6 : ByteArray) (x7 : Bool) (x8 : ByteArray) (x9 : Bool) (x12 : ByteArray) (x13 : Bool) (x14 : ByteArray) (x15 : Bool) (x83 : Bool) (_ : laws_FnPadCut.j1 k x5 x6 x7 x8 x9 x12 x13 x14 x15 x83 = some r), Kp (WS TE (cx0 Tryd.f5 none w ro B) (stkAt [1, 1, 1, 1, 1, 1, 1, 1, 0, 0, 9] [] (bodyOf Tryd.f5) []) ⟨[(5, .v (.string x5)), (6, .v (.string x6)), (7, .v (.bool x7)), (8, .v (.string x8)), (9, .v (.bool x9)), (12, .v (.string x12)), (13, .v (.bool x13)), (14, .v (.string x14)), (15, .v (.bool x15)), (83, .v (.bool x83))], []⟩ (RetQ TE Tryd.f5 none [.ro (.v (.bool r))] [] w ro B))
 s_l0 : ∀ (r : Bool) (w : World) (ro : Nat → Prop) (B : Nat) (_ : Fr TE (cx0 Tryd.f5 none w ro B)) (x5 : ByteArray) (x6 : ByteArray) (x18 : List Int) (x108 : List ByteArray) (x109 : Int) (x110 : Int) (_ : laws_FnPadCut.l0 k x5 x6 x18 x108 x109 x110 = some r), Kp (WS TE (cx0 Tryd.f5 none w ro B) (stkAt [1, 1, 1, 1, 1, 1, 1, 1, 1, 1, 1, 0, 1, 0] [] (bodyOf Tryd.f5) []) ⟨[(5, .v (.string x5)), (6, .v (.string x6)), (18, .ow 1018 0), (108, .ow 1108 0), (109, .v (.int .i64 x109)), (110, .v (.int .i64 x110))], [(1018, .own 0 3 1 (rX (cI .i64) x18)), (1108, .own 0 9 1 (rX cS x108))]⟩ (RetQ TE Tryd.f5 none [.ro (.v (.bool r))] [] w ro B))
set_option maxRecDepth 100000 in
set_option maxHeartbeats 4000000 in
theorem laws_FnPadCut.c_j0 (k : Nat) (ih : Kp (∀ m, m < k → laws_FnPadCut.C m)) (r : Bool) (w : World) (ro : Nat → Prop) (B : Nat) (hF : Fr TE (cx0 Tryd.f5 none w ro B)) (x0 : List Int) (x1 : List Int) (x32 : Bool) (h : laws_FnPadCut.j0 k x0 x1 x32 = some r) : Kp (WS TE (cx0 Tryd.f5 none w ro B) (stkAt [1, 0, 0, 9] [] (bodyOf Tryd.f5) []) ⟨[(0, .sl 1 (rX (cI .u8) x0)), (1, .sl 1 (rX (cI .u8) x1)), (32, .v (.bool x32))], []⟩ (RetQ TE Tryd.f5 none [.ro (.v (.bool r))] [] w ro B)) := by
 refine ⟨?_⟩
 cases k with
 | zero => simp [laws_FnPadCut.j0] at h
 | succ k =>
 simp only [laws_FnPadCut.j0] at h
 by_cases c2 : x32 = true
 · rw [if_pos c2] at h
   refine path_ok (k := 4) hF (RetQ_mild _ _ _ _ _ _ _ _) (ds := [.b true]) (os := []) (c := none) rfl KD ?_
   cases h
   exact ret_as (ms := [.ro]) rfl KD
 · rw [if_neg c2] at h
   obtain ⟨t538, q3, h⟩ := Option.bind_eq_some_iff.1 h
   have q3c := spec_DrawPadArray.ctr k _ _ q3
   obtain ⟨⟨t539, t540⟩, q4, h⟩ := Option.bind_eq_some_iff.1 h
   dsimp only at h
   have q4c := impl_PadArray.ctr k _ _ _ q4
   obtain ⟨⟨t541, t542⟩, q5, h⟩ := Option.bind_eq_some_iff.1 h
   dsimp only at h
   have q5c := spec_PadArray.ctr k _ _ _ q5
   obtain ⟨⟨t543, t544⟩, q6, h⟩ := Option.bind_eq_some_iff.1 h
   dsimp only at h
   have q6c := spec_DrawCutArray.ctr k _ _ _ q6
   obtain ⟨⟨t547, t548⟩, q7, h⟩ := Option.bind_eq_some_iff.1 h
   dsimp only at h
   have q7c := impl_CutArray.ctr k _ _ _ _ q7
   obtain ⟨⟨t549, t550⟩, q8, h⟩ := Option.bind_eq_some_iff.1 h
   dsimp only at h
   have q8c := spec_CutArray.ctr k _ _ _ _ q8
   by_cases c9 : t539.toList = t541.toList
   · rw [if_pos c9] at h
     by_cases c10 : (t540 != t542) = true
     · rw [if_pos c10] at h
       refine path_ok (k := 17) hF (RetQ_mild _ _ _ _ _ _ _ _) (ds := [.b false, .r [.ro (.v (.string t538))] [], .r [.ro (.v (.string t539)), .ro (.v (.bool t540))] [], .r [.ro (.v (.string t541)), .ro (.v (.bool t542))] [], .r [.ro (.v (.string t543)), .own 3 1 (rX (cI .i64) t544)] [], .r [.ro (.v (.string t547)), .ro (.v (.bool t548))] [], .r [.ro (.v (.string t549)), .ro (.v (.bool t550))] [], .b false, .b false, .b false, .b false, .b true, .b true, .b true, .b true, .b true, .b true, .b true, .b true, .b true, .b true, .b true]) (os := []) (c := none) rfl KD ?_
       exact WS.can [] (((ih.out k (by omega)).s_j1  r w ro B hF t538 t539 t540 t541 t542 t547 t548 t549 t550 true h).out) KD
     · rw [if_neg c10] at h
       by_cases c11 : t547.toList = t549.toList
       · rw [if_pos c11] at h
         by_cases c12 : (t548 != t550) = true
         · rw [if_pos c12] at h
           refine path_ok (k := 17) hF (RetQ_mild _ _ _ _ _ _ _ _) (ds := [.b false, .r [.ro (.v (.string t538))] [], .r [.ro (.v (.string t539)), .ro (.v (.bool t540))] [], .r [.ro (.v (.string t541)), .ro (.v (.bool t542))] [], .r [.ro (.v (.string t543)), .own 3 1 (rX (cI .i64) t544)] [], .r [.ro (.v (.string t547)), .ro (.v (.bool t548))] [], .r [.ro (.v (.string t549)), .ro (.v (.bool t550))] [], .b false, .b false, .b false, .b false, .b false, .b false, .b false, .b false, .b false, .b false, .b false, .b false, .b true, .b true, .b true]) (os := []) (c := none) rfl KD ?_
           exact WS.can [] (((ih.out k (by omega)).s_j1  r w ro B hF t538 t539 t540 t541 t542 t547 t548 t549 t550 true h).out) KD
         · rw [if_neg c12] at h
           refine path_ok (k := 17) hF (RetQ_mild _ _ _ _ _ _ _ _) (ds := [.b false, .r [.ro (.v (.string t538))] [], .r [.ro (.v (.string t539)), .ro (.v (.bool t540))] [], .r [.ro (.v (.string t541)), .ro (.v (.bool t542))] [], .r [.ro (.v (.string t543)), .own 3 1 (rX (cI .i64) t544)] [], .r [.ro (.v (.string t547)), .ro (.v (.bool t548))] [], .r [.ro (.v (.string t549)), .ro (.v (.bool t550))] [], .b false, .b false, .b false, .b false, .b false, .b false, .b false, .b false, .b false, .b false, .b false, .b false, .b false, .b false, .b false]) (os := []) (c := none) rfl KD ?_
           exact WS.can [] (((ih.out k (by omega)).s_j1  r w ro B hF t538 t539 t540 t541 t542 t547 t548 t549 t550 (!t540) h).out) KD
       · rw [if_neg c11] at h
         refine path_ok (k := 17) hF (RetQ_mild _ _ _ _ _ _ _ _) (ds := [.b false, .r [.ro (.v (.string t538))] [], .r [.ro (.v (.string t539)), .ro (.v (.bool t540))] [], .r [.ro (.v (.string t541)), .ro (.v (.bool t542))] [], .r [.ro (.v (.string t543)), .own 3 1 (rX (cI .i64) t544)] [], .r [.ro (.v (.string t547)), .ro (.v (.bool t548))] [], .r [.ro (.v (.string t549)), .ro (.v (.bool t550))] [], .b false, .b false, .b false, .b false, .b false, .b false, .b false, .b false, .b true, .b true, .b true, .b true, .b true, .b true, .b true]) (os := []) (c := none) rfl KD ?_
         exact WS.can [] (((ih.out k (by omega)).s_j1  r w ro B hF t538 t539 t540 t541 t542 t547 t548 t549 t550 true h).out) KD
   · rw [if_neg c9] at h
     refine path_ok (k := 17) hF (RetQ_mild _ _ _ _ _ _ _ _) (ds := [.b false, .r [.ro (.v (.string t538))] [], .r [.ro (.v (.string t539)), .ro (.v (.bool t540))] [], .r [.ro (.v (.string t541)), .ro (.v (.bool t542))] [], .r [.ro (.v (.string t543)), .own 3 1 (rX (cI .i64) t544)] [], .r [.ro (.v (.string t547)), .ro (.v (.bool t548))] [], .r [.ro (.v (.string t549)), .ro (.v (.bool t550))] [], .b true, .b true, .b true, .b true, .b true, .b true, .b true, .b true, .b true, .b true, .b true, .b true, .b true, .b true, .b true]) (os := []) (c := none) rfl KD ?_
     exact WS.can [] (((ih.out k (by omega)).s_j1  r w ro B hF t538 t539 t540 t541 t542 t547 t548 t549 t550 true h).out) KD
set_option maxRecDepth 100000 in
set_option maxHeartbeats 4000000 in
theorem laws_FnPadCut.c_j1 (k : Nat) (ih : Kp (∀ m, m < k → laws_FnPadCut.C m)) (r : Bool) (w : World) (ro : Nat → Prop) (B : Nat) (hF : Fr TE (cx0 Tryd.f5 none w ro B)) (x5 : ByteArray) (x6 : ByteArray) (x7 : Bool) (x8 : ByteArray) (x9 : Bool) (x12 : ByteArray) (x13 : Bool) (x14 : ByteArray) (x15 : Bool) (x83 : Bool) (h : laws_FnPadCut.j1 k x5 x6 x7 x8 x9 x12 x13 x14 x15 x83 = some r) : Kp (WS TE (cx0 Tryd.f5 none w ro B) (stkAt [1, 1, 1, 1, 1, 1, 1, 1, 0, 0, 9] [] (bodyOf Tryd.f5) []) ⟨[(5, .v (.string x5)), (6, .v (.string x6)), (7, .v (.bool x7)), (8, .v (.string x8)), (9, .v (.bool x9)), (12, .v (.string x12)), (13, .v (.bool x13)), (14, .v (.string x14)), (15, .v (.bool x15)), (83, .v (.bool x83))], []⟩ (RetQ TE Tryd.f5 none [.ro (.v (.bool r))] [] w ro B)) := by
 refine ⟨?_⟩
 cases k with
 | zero => simp [laws_FnPadCut.j1] at h
 | succ k =>
 simp only [laws_FnPadCut.j1] at h
 by_cases c13 : x83 = true
 · rw [if_pos c13] at h
   by_cases c14 : x6.toList = x8.toList
   · rw [if_pos c14] at h
     by_cases c15 : (x7 == x9) = true
     · rw [if_pos c15] at h
       by_cases c16 : x12.toList = x14.toList
       · rw [if_pos c16] at h
         refine path_ok (k := 4) hF (RetQ_mild _ _ _ _ _ _ _ _) (ds := [.b true, .b true, .b true, .b true, .b true, .b true, .b true, .b true, .b true, .b true, .b true, .b true, .b true]) (os := []) (c := none) rfl KD ?_
         cases h
         exact ret_as (ms := [.ro]) rfl KD
       · rw [if_neg c16] at h
         refine path_ok (k := 4) hF (RetQ_mild _ _ _ _ _ _ _ _) (ds := [.b true, .b true, .b true, .b true, .b true, .b true, .b true, .b true, .b true, .b false, .b false, .b false, .b false]) (os := []) (c := none) rfl KD ?_
         cases h
         exact ret_as (ms := [.ro]) rfl KD
     · rw [if_neg c15] at h
       refine path_ok (k := 4) hF (RetQ_mild _ _ _ _ _ _ _ _) (ds := [.b true, .b true, .b true, .b true, .b true, .b false, .b false, .b false, .b false, .b false, .b false, .b false, .b false]) (os := []) (c := none) rfl KD ?_
       cases h
       exact ret_as (ms := [.ro]) rfl KD
   · rw [if_neg c14] at h
     refine path_ok (k := 4) hF (RetQ_mild _ _ _ _ _ _ _ _) (ds := [.b true, .b false, .b false, .b false, .b false, .b false, .b false, .b false, .b false, .b false, .b false, .b false, .b false]) (os := []) (c := none) rfl KD ?_
     cases h
     exact ret_as (ms := [.ro]) rfl KD
 · rw [if_neg c13] at h
   obtain ⟨⟨t551, t552⟩, q17, h⟩ := Option.bind_eq_some_iff.1 h
   dsimp only at h
   have q17c := impl_PartsOf.ctr k _ _ _ _ q17
   refine path_ok (k := 10) hF (RetQ_mild _ _ _ _ _ _ _ _) (ds := [.b false, .r [.own 9 1 (rX cS t551), .ro (.v (.bool t552))] [], .p 107 ([]), .e 109 (.v (.int .i64 (t551.length : Int)))]) (os := []) (c := none) rfl KD ?_
   exact WS.can [(1018, some 107), (1108, some 101664)] (((ih.out k (by omega)).s_l0  r w ro B hF x5 x6 (([] : List Int)) t551 (t551.length : Int) 0 h).out) KD
set_option maxRecDepth 100000 in
set_option maxHeartbeats 4000000 in
theorem laws_FnPadCut.c_l0 (k : Nat) (ih : Kp (∀ m, m < k → laws_FnPadCut.C m)) (r : Bool) (w : World) (ro : Nat → Prop) (B : Nat) (hF : Fr TE (cx0 Tryd.f5 none w ro B)) (x5 : ByteArray) (x6 : ByteArray) (x18 : List Int) (x108 : List ByteArray) (x109 : Int) (x110 : Int) (h : laws_FnPadCut.l0 k x5 x6 x18 x108 x109 x110 = some r) : Kp (WS TE (cx0 Tryd.f5 none w ro B) (stkAt [1, 1, 1, 1, 1, 1, 1, 1, 1, 1, 1, 0, 1, 0] [] (bodyOf Tryd.f5) []) ⟨[(5, .v (.string x5)), (6, .v (.string x6)), (18, .ow 1018 0), (108, .ow 1108 0), (109, .v (.int .i64 x109)), (110, .v (.int .i64 x110))], [(1018, .own 0 3 1 (rX (cI .i64) x18)), (1108, .own 0 9 1 (rX cS x108))]⟩ (RetQ TE Tryd.f5 none [.ro (.v (.bool r))] [] w ro B)) := by
 refine ⟨WS.loop (fun m σ => m ≤ k ∧ laws_FnPadCut.I0 r m σ) k ⟨Nat.le_refl k, x5, x6, x18, x108, x109, x110, h, rfl⟩ (fun m σ' hI J0 hJ0 => ?_)⟩
 clear h
 obtain ⟨hk, x5, x6, x18, x108, x109, x110, h, rfl⟩ := hI
 cases m with
 | zero => simp [laws_FnPadCut.l0] at h
 | succ k' =>
 simp only [laws_FnPadCut.l0] at h
 by_cases c18 : x110 < x109
 · rw [if_pos c18] at h
   by_cases c19 : 0 ≤ x110
   · rw [if_pos c19] at h
     by_cases c20 : x110 < (x108.length : Int)
     · rw [if_pos c20] at h
       obtain ⟨t559, q21, h⟩ := Option.bind_eq_some_iff.1 h
       have q21c := impl_LengthOf.ctr k' _ _ _ q21
       by_cases c22 : x18.length < 17592186044416
       · rw [if_pos c22] at h
         refine path_ok (k := 12) hF (RetQ_mild _ _ _ _ _ _ _ _) (ds := [.b true, .g [.v (.string (rdOf ByteArray.empty x108 x110))], .r [.ro (.v (.int .i64 t559))] [], .p 117 ([[.v (.int .i64 t559)]]), .o 118 (rX (cI .i64) (x18 ++ [t559]))]) (os := []) (c := none) rfl KD ?_
         exact WS.lpc [(1018, some 1018), (1108, some 1108)] (hJ0 _ _ (Nat.lt_succ_self _) ⟨by omega, x5, x6, (x18 ++ [t559]), x108, x109, (wrap64 (x110 + 1)), h, rfl⟩) KD
       · rw [if_neg c22] at h
         cases h
     · rw [if_neg c20] at h
       cases h
   · rw [if_neg c19] at h
     cases h
 · rw [if_neg c18] at h
   obtain ⟨⟨t563, t564⟩, q23, h⟩ := Option.bind_eq_some_iff.1 h
   dsimp only at h
   have q23c := impl_CutArray.ctr k' _ _ _ _ q23
   obtain ⟨⟨t565, t566⟩, q24, h⟩ := Option.bind_eq_some_iff.1 h
   dsimp only at h
   have q24c := impl_PadArray.ctr k' _ _ _ q24
   by_cases c25 : t564 = true
   · rw [if_pos c25] at h
     by_cases c26 : t563.toList = x5.toList
     · rw [if_pos c26] at h
       by_cases c27 : t565.toList = x6.toList
       · rw [if_pos c27] at h
         obtain ⟨t567, q28, h⟩ := Option.bind_eq_some_iff.1 h
         have q28c := impl_IsRegular.ctr k' _ _ _ q28
         by_cases c29 : t567 = true
         · rw [if_pos c29] at h
           obtain ⟨t568, q30, h⟩ := Option.bind_eq_some_iff.1 h
           have q30c := impl_IsRegular.ctr k' _ _ _ q30
           by_cases c31 : t568 = true
           · rw [if_pos c31] at h
             refine path_ok (k := 12) hF (RetQ_mild _ _ _ _ _ _ _ _) (ds := [.b false, .r [.ro (.v (.string t563)), .ro (.v (.bool t564))] [], .r [.ro (.v (.string t565)), .ro (.v (.bool t566))] [], .b true, .b true, .b true, .b true, .b true, .b true, .b true, .b true, .b true, .b true, .r [.ro (.v (.bool t567))] [], .b true, .b true, .b true, .r [.ro (.v (.bool t568))] [], .b true, .b true, .b false, .b false, .b false, .b true, .b false, .b true]) (os := []) (c := none) rfl KD ?_
             cases h
             exact ret_as (ms := [.ro]) rfl KD
           · rw [if_neg c31] at h
             refine path_ok (k := 12) hF (RetQ_mild _ _ _ _ _ _ _ _) (ds := [.b false, .r [.ro (.v (.string t563)), .ro (.v (.bool t564))] [], .r [.ro (.v (.string t565)), .ro (.v (.bool t566))] [], .b true, .b true, .b true, .b true, .b true, .b true, .b true, .b true, .b true, .b true, .r [.ro (.v (.bool t567))] [], .b true, .b true, .b true, .r [.ro (.v (.bool t568))] [], .b true, .b true, .b true, .b true, .b true, .b true, .b true, .b true]) (os := []) (c := none) rfl KD ?_
             cases h
             exact ret_as (ms := [.ro]) rfl KD
         · rw [if_neg c29] at h
           refine path_ok (k := 12) hF (RetQ_mild _ _ _ _ _ _ _ _) (ds := [.b false, .r [.ro (.v (.string t563)), .ro (.v (.bool t564))] [], .r [.ro (.v (.string t565)), .ro (.v (.bool t566))] [], .b true, .b true, .b true, .b true, .b true, .b true, .b true, .b true, .b true, .b true, .r [.ro (.v (.bool t567))] [], .b true, .b false, .b false, .b false, .b false, .b false, .b false]) (os := []) (c := none) rfl KD ?_
           cases h
           exact ret_as (ms := [.ro]) rfl KD
       · rw [if_neg c27] at h
         refine path_ok (k := 12) hF (RetQ_mild _ _ _ _ _ _ _ _) (ds := [.b false, .r [.ro (.v (.string t563)), .ro (.v (.bool t564))] [], .r [.ro (.v (.string t565)), .ro (.v (.bool t566))] [], .b true, .b true, .b true, .b true, .b true, .b true, .b true, .b true, .b false, .b false, .b false, .b false, .b false, .b false, .b false, .b false, .b false]) (os := []) (c := none) rfl KD ?_
         cases h
         exact ret_as (ms := [.ro]) rfl KD
     · rw [if_neg c26] at h
       refine path_ok (k := 12) hF (RetQ_mild _ _ _ _ _ _ _ _) (ds := [.b false, .r [.ro (.v (.string t563)), .ro (.v (.bool t564))] [], .r [.ro (.v (.string t565)), .ro (.v (.bool t566))] [], .b true, .b true, .b true, .b true, .b false, .b false, .b false, .b false, .b false, .b false, .b false, .b false, .b false, .b false, .b false, .b false, .b false]) (os := []) (c := none) rfl KD ?_
       cases h
       exact ret_as (ms := [.ro]) rfl KD
   · rw [if_neg c25] at h
     refine path_ok (k := 12) hF (RetQ_mild _ _ _ _ _ _ _ _) (ds := [.b false, .r [.ro (.v (.string t563)), .ro (.v (.bool t564))] [], .r [.ro (.v (.string t565)), .ro (.v (.bool t566))] [], .b false, .b false, .b false, .b false, .b false, .b false, .b false, .b false, .b false, .b false, .b false, .b false, .b false, .b false, .b false, .b false, .b false]) (os := []) (c := none) rfl KD ?_
     cases h
     exact ret_as (ms := [.ro]) rfl KD
theorem laws_FnPadCut.cs (k : Nat) : laws_FnPadCut.C k := by
 induction k using Nat.strongRecOn with
 | _ k ih0 =>
 have ih : Kp (∀ m, m < k → laws_FnPadCut.C m) := ⟨ih0⟩
 exact ⟨laws_FnPadCut.c_j0 k ih, laws_FnPadCut.c_j1 k ih, laws_FnPadCut.c_l0 k ih⟩
set_option maxRecDepth 100000 in
set_option maxHeartbeats 4000000 in
theorem laws_FnPadCut.ctr (k : Nat) (l0 : List Int) (l1 : List Int) (r : Bool) (h : laws_FnPadCut.f k l0 l1 = some r) : Ctr TE 5 none [.sl 1 (rX (cI .u8) l0), .sl 1 (rX (cI .u8) l1)] [.ro (.v (.bool r))] [] := by
 refine ctr_of (fn := Tryd.f5) (c := (bodyOf Tryd.f5)) Tryd.func5 rfl (by kernel_rfl) (Nat.le_of_ble_eq_true (by kernel_rfl)) (fun w ro B hF _ => ?_)
 have ih : Kp (∀ m, m < k + 1 → laws_FnPadCut.C m) := ⟨fun m _ => laws_FnPadCut.cs m⟩
 simp only [laws_FnPadCut.f] at h
 by_cases c1 : (l0.length : Int) > 1048576
 · rw [if_pos c1] at h
   refine path_ok (k := 5) hF (RetQ_mild _ _ _ _ _ _ _ _) (ds := [.e 26 (.v (.int .i64 (l0.length : Int))), .b true, .b true, .b true, .b true]) (os := []) (c := none) rfl KD ?_
   exact WS.can [] (((ih.out k (by omega)).s_j0  r w ro B hF l0 l1 true h).out) KD
 · rw [if_neg c1] at h
   refine path_ok (k := 5) hF (RetQ_mild _ _ _ _ _ _ _ _) (ds := [.e 26 (.v (.int .i64 (l0.length : Int))), .b false, .b false, .e 30 (.v (.int .i64 (l1.length : Int))), .b false, .b false]) (os := []) (c := none) rfl KD ?_
   exact WS.can [] (((ih.out k (by omega)).s_j0  r w ro B hF l0 l1 (decide ((l1.length : Int) > 1048576)) h).out) KD
def laws_FnPadCut.Pure : Prop := ∀ (l0 : List Int) (l1 : List Int), l0.length ≤ maxLen → l0.length * 1 ≤ 140737488351232 → (∀ x ∈ l0, (Lit.int .u8 x).wf = true) → l1.length ≤ maxLen → l1.length * 1 ≤ 140737488351232 → (∀ x ∈ l1, (Lit.int .u8 x).wf = true) → ∃ k, laws_FnPadCut.f k l0 l1 = some true
end Go.Proofs.YtoloblgjlnhioaaDoor.J
