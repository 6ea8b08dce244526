/- A part of the claim. -/
import Derived.Test.YtlhejcogdjelpaaDoorGFx0
import Derived.Test.YtlhejcogdjelpaaDoorGFSgc
import Derived.Test.YtlhejcogdjelpaaDoorGFSgz
-- PRINTED by print.py (a twelfth state) out of the translation. Not trusted: Lean checks it.
namespace Go.Proofs.YtlhejcogdjelpaaDoor.G
open Go.RowKit Go.Proofs.YtlhejcogdjelpaaDoorW.St Go.Proofs.YtlhejcogdjelpaaDoorW.PrintWords Go.Proofs.YtlhejcogdjelpaaDoorW.PrintLast Go.Proofs.YtlhejcogdjelpaaDoorW.PrintMore
attribute [local go_sem] max2_int min2_int max_two min_two max_three min_three max_four min_four   -- for this text's walks alone
set_option linter.unusedVariables false
set_option linter.unusedSimpArgs false
mutual
def impl_readArr.j1 : Nat → ByteArray → Int → Option (Int × (List (S55)) × ByteArray × Bool)
  | 0, _, _ => none
  | k + 1, x0, x7 => if 0 ≤ x7 then (if x7 ≤ (x0.size : Int) then ((strconv_Atoi.f (x0.extract 0 (x7 : Int).toNat)).bind fun bt102 => (if bt102.2.isNone = true then (if bt102.1 ≥ 10007 then (some (0, ([] : List (S55)), (⟨#[]⟩ : ByteArray), false)) else ((strconv_Itoa.f bt102.1).bind fun t105 => (if t105.toList = (x0.extract 0 (x7 : Int).toNat).toList then (some (bt102.1, ([] : List (S55)), x0.extract (x7 : Int).toNat x0.size, true)) else (some (0, ([] : List (S55)), (⟨#[]⟩ : ByteArray), false))))) else (some (0, ([] : List (S55)), (⟨#[]⟩ : ByteArray), false)))) else (none)) else (none)
def impl_readArr.l0 : Nat → ByteArray → Int → Option (Int × (List (S55)) × ByteArray × Bool)
  | 0, _, _ => none
  | k + 1, x0, x7 => if x7 < (x0.size : Int) then (if 0 ≤ x7 then (if (bt x0 x7) ≥ 48 then (if (bt x0 x7) ≤ 57 then (impl_readArr.l0 k x0 (wrap64 (x7 + 1))) else (impl_readArr.j1 k x0 x7)) else (impl_readArr.j1 k x0 x7)) else (none)) else (impl_readArr.j1 k x0 x7)
def impl_readArr.j2 : Nat → ByteArray → Int → Bool → Option (Int × (List (S55)) × ByteArray × Bool)
  | 0, _, _, _ => none
  | k + 1, x0, x1, x67 => if x67 = true then (some (0, ([] : List (S55)), (⟨#[]⟩ : ByteArray), false)) else (if 1 ≤ (x0.size : Int) then (impl_readArr.l1 k (x0.extract 1 x0.size) x1 0 ([] : List (S55))) else (none))
def impl_readArr.l1 : Nat → ByteArray → Int → Int → List (S55) → Option (Int × (List (S55)) × ByteArray × Bool)
  | 0, _, _, _, _ => none
  | k + 1, x0, x1, x107000, x107001 => if x0.toList = ([] : List UInt8) then (impl_readArr.j4 k x0 x1 false x107000 x107001) else (if 0 < (x0.size : Int) then (if (bt x0 0) = 93 then (impl_readArr.j4 k x0 x1 (decide ((x107001.length : Int) > 0)) x107000 x107001) else (impl_readArr.j4 k x0 x1 true x107000 x107001)) else (none))
def impl_readArr.j4 : Nat → ByteArray → Int → Bool → Int → List (S55) → Option (Int × (List (S55)) × ByteArray × Bool)
  | 0, _, _, _, _, _ => none
  | k + 1, x0, x1, x83, x107000, x107001 => if x83 = true then ((impl_readArr.f k x0 (wrap64 (x1 - 1))).bind fun bt107 => (if bt107.2.2.2 = true then (if bt107.2.2.1.toList = ([] : List UInt8) then (impl_readArr.j5 k x1 bt107.2.2.1 true x107000 x107001 bt107.1 bt107.2.1) else (if 0 < (bt107.2.2.1.size : Int) then (if (bt bt107.2.2.1 0) = 44 then (impl_readArr.j5 k x1 bt107.2.2.1 false x107000 x107001 bt107.1 bt107.2.1) else (impl_readArr.j5 k x1 bt107.2.2.1 ((bt bt107.2.2.1 0) != 93) x107000 x107001 bt107.1 bt107.2.1)) else (none))) else (impl_readArr.j5 k x1 bt107.2.2.1 true x107000 x107001 bt107.1 bt107.2.1))) else (if x0.toList = ([] : List UInt8) then (some (0, ([] : List (S55)), (⟨#[]⟩ : ByteArray), false)) else (if 1 ≤ (x0.size : Int) then (some (x107000, x107001, x0.extract 1 x0.size, true)) else (none)))
def impl_readArr.j5 : Nat → Int → ByteArray → Bool → Int → List (S55) → Int → List (S55) → Option (Int × (List (S55)) × ByteArray × Bool)
  | 0, _, _, _, _, _, _, _ => none
  | k + 1, x1, x12, x107, x107000, x107001, x114000, x114001 => if x107 = true then (some (0, ([] : List (S55)), (⟨#[]⟩ : ByteArray), false)) else (if x107001.length < 4398046511104 then ((some (x107001 ++ [(⟨x114000, x114001⟩ : S55)] : List (S55))).bind fun y114 => (if 0 < (x12.size : Int) then (if (bt x12 0) = 93 then (if 1 ≤ (x12.size : Int) then (some (x107000, y114, x12.extract 1 x12.size, true)) else (none)) else (if 1 ≤ (x12.size : Int) then (impl_readArr.l1 k (x12.extract 1 x12.size) x1 x107000 y114) else (none))) else (none))) else (none))
def impl_readArr.f : Nat → ByteArray → Int → Option (Int × (List (S55)) × ByteArray × Bool)
  | 0, _, _ => none
  | k + 1, a0, a1 => if a1 = 0 then (impl_readArr.l0 k a0 0) else (if a0.toList = ([] : List UInt8) then (impl_readArr.j2 k a0 a1 true) else (if 0 < (a0.size : Int) then (impl_readArr.j2 k a0 a1 ((bt a0 0) != 91)) else (none)))
end
def impl_readArr.I0 (r1 : Int) (r2 : List (S55)) (r3 : ByteArray) (r4 : Bool) (m : Nat) (σ : St) : Prop := ∃ (x0 : ByteArray) (x7 : Int) (x102000 : Int), impl_readArr.l0 m x0 x7 = some (r1, r2, r3, r4) ∧ σ = ⟨[(0, .v (.string x0)), (4, .pt 1004 0 0), (7, .v (.int .i64 x7))], [(1004, .box 0 55 false [.v (.int .i64 x102000), .v (.slice none 0 0)])]⟩
def impl_readArr.I1 (r1 : Int) (r2 : List (S55)) (r3 : ByteArray) (r4 : Bool) (m : Nat) (σ : St) : Prop := ∃ (x0 : ByteArray) (x1 : Int) (x102000 : Int) (x107000 : Int) (x107001 : List (S55)), impl_readArr.l1 m x0 x1 x107000 x107001 = some (r1, r2, r3, r4) ∧ σ = ⟨[(0, .v (.string x0)), (1, .v (.int .i64 x1)), (4, .pt 1004 0 0), (10, .pt 1010 0 0)], [(1004, .box 0 55 false [.v (.int .i64 x102000), .v (.slice none 0 0)]), (3641, .own 0 55 2 (r55 x107001)), (1010, .box 0 55 false [.v (.int .i64 x107000), .ow 3641 0])]⟩
structure impl_readArr.C (k : Nat) : Prop where
 s_f : ∀ (a0 : ByteArray) (a1 : Int) (r1 : Int) (r2 : List (S55)) (r3 : ByteArray) (r4 : Bool), impl_readArr.f k a0 a1 = some (r1, r2, r3, r4) → Ctr TE 57 none [.v (.string a0), .v (.int .i64 a1)] [.ro (.ag [.v (.int .i64 r1), .sl 2 (r55 r2)]), .ro (.v (.string r3)), .ro (.v (.bool r4))] []
 s_j1 : ∀ (r1 : Int) (r2 : List (S55)) (r3 : ByteArray) (r4 : Bool) (w : World) (ro : Nat → Prop) (B : Nat) (_ : Fr TE (cx0 Tryd.f57 none w ro B)) (x0 : ByteArray) (x7 : Int) (x102000 : Int) (_ : impl_readArr.j1 k x0 x7 = some (r1, r2, r3, r4)), Kp (WS TE (cx0 Tryd.f57 none w ro B) (stkAt [1, 0, 1, 0, 1, 0, 9] [] (bodyOf Tryd.f57) []) ⟨[(0, .v (.string x0)), (4, .pt 1004 0 0), (7, .v (.int .i64 x7))], [(1004, .box 0 55 false [.v (.int .i64 x102000), .v (.slice none 0 0)])]⟩ (RetQ TE Tryd.f57 none [.ro (.ag [.v (.int .i64 r1), .sl 2 (r55 r2)]), .ro (.v (.string r3)), .ro (.v (.bool r4))] [] w ro B))
 s_l0 : ∀ (r1 : Int) (r2 : List (S55)) (r3 : ByteArray) (r4 : Bool) (w : World) (ro : Nat → Prop) (B : Nat) (_ : Fr TE (cx0 Tryd.f57 none w ro B)) (x0 : ByteArray) (x7 : Int) (x102000 : Int) (_ : impl_readArr.l0 k x0 x7 = some (r1, r2, r3, r4)), Kp (WS TE (cx0 Tryd.f57 none w ro B) (stkAt [1, 0, 1, 0, 1, 0, 0] [] (bodyOf Tryd.f57) []) ⟨[(0, .v (.string x0)), (4, .pt 1004 0 0), (7, .v (.int .i64 x7))], [(1004, .box 0 55 false [.v (.int .i64 x102000), .v (.slice none 0 0)])]⟩ (RetQ TE Tryd.f57 none [.ro (.ag [.v (.int .i64 r1), .sl 2 (r55 r2)]), .ro (.v (.string r3)), .ro (.v (.bool r4))] [] w ro B))
 s_j2 : ∀ (r1 : Int) (r2 : List (S55)) (r3 : ByteArray) (r4 : Bool) (w : World) (ro : Nat → Prop) (B : Nat) (_ : Fr TE (cx0 Tryd.f57 none w ro B)) (x0 : ByteArray) (x1 : Int) (x67 : Bool) (x102000 : Int) (_ : impl_readArr.j2 k x0 x1 x67 = some (r1, r2, r3, r4)), Kp (WS TE (cx0 Tryd.f57 none w ro B) (stkAt [1, 1, 0, 0, 9] [] (bodyOf Tryd.f57) []) ⟨[(0, .v (.string x0)), (1, .v (.int .i64 x1)), (4, .pt 1004 0 0), (67, .v (.bool x67))], [(1004, .box 0 55 false [.v (.int .i64 x102000), .v (.slice none 0 0)])]⟩ (RetQ TE Tryd.f57 none [.ro (.ag [.v (.int .i64 r1), .sl 2 (r55 r2)]), .ro (.v (.string r3)), .ro (.v (.bool r4))] [] w ro B))
 s_l1 : ∀ (r1 : Int) (r2 : List (S55)) (r3 : ByteArray) (r4 : Bool) (w : World) (ro : Nat → Prop) (B : Nat) (_ : Fr TE (cx0 Tryd.f57 none w ro B)) (x0 : ByteArray) (x1 : Int) (x102000 : Int) (x107000 : Int) (x107001 : List (S55)) (_ : impl_readArr.l1 k x0 x1 x107000 x107001 = some (r1, r2, r3, r4)), Kp (WS TE (cx0 Tryd.f57 none w ro B) (stkAt [1, 1, 1, 1, 0, 1, 0] [] (bodyOf Tryd.f57) []) ⟨[(0, .v (.string x0)), (1, .v (.int .i64 x1)), (4, .pt 1004 0 0), (10, .pt 1010 0 0)], [(1004, .box 0 55 false [.v (.int .i64 x102000), .v (.slice none 0 0)]), (3641, .own 0 55 2 (r55 x107001)), (1010, .box 0 55 false [.v (.int .i64 x107000), .ow 3641 0])]⟩ (RetQ TE Tryd.f57 none [.ro (.ag [.v (.int .i64 r1), .sl 2 (r55 r2)]), .ro (.v (.string r3)), .ro (.v (.bool r4))] [] w ro B))
 s_j4 : ∀ (r1 : Int) (r2 : List (S55)) (r3 : ByteArray) (r4 : Bool) (w : World) (ro : Nat → Prop) (B : Nat) (_ : Fr TE (cx0 Tryd.f57 none w ro B)) (J1 : St → Prop) (_ : ∀ m σ, m ≤ k → impl_readArr.I1 r1 r2 r3 r4 m σ → J1 σ) (x0 : ByteArray) (x1 : Int) (x83 : Bool) (x102000 : Int) (x107000 : Int) (x107001 : List (S55)) (_ : impl_readArr.j4 k x0 x1 x83 x107000 x107001 = some (r1, r2, r3, r4)), Kp (WS TE (cx0 Tryd.f57 none w ro B) (stkAt [1, 1, 1, 1, 0, 1, 0, 0, 0, 0, 9] [J1] (bodyOf Tryd.f57) []) ⟨[(0, .v (.string x0)), (1, .v (.int .i64 x1)), (4, .pt 1004 0 0), (10, .pt 1010 0 0), (83, .v (.bool x83))], [(1004, .box 0 55 false [.v (.int .i64 x102000), .v (.slice none 0 0)]), (3641, .own 0 55 2 (r55 x107001)), (1010, .box 0 55 false [.v (.int .i64 x107000), .ow 3641 0])]⟩ (RetQ TE Tryd.f57 none [.ro (.ag [.v (.int .i64 r1), .sl 2 (r55 r2)]), .ro (.v (.string r3)), .ro (.v (.bool r4))] [] w ro B))
 s_j5 : ∀ (r1 : Int) (r2 : List (S55)) (r3 : ByteArray) (r4 : Bool) (w : World) (ro : Nat → Prop) (B : Nat) (_ : Fr TE (cx0 Tryd.f57 none w ro B)) (J1 : St → Prop) (_ : ∀ m σ, m ≤ k → impl_readArr.I1 r1 r2 r3 r4 m σ → J1 σ) (x1 : Int) (x12 : ByteArray) (x107 : Bool) (x102000 : Int) (x107000 : Int) (x107001 : List (S55)) (x114000 : Int) (x114001 : List (S55)) (_ : impl_readArr.j5 k x1 x12 x107 x107000 x107001 x114000 x114001 = some (r1, r2, r3, r4)), Kp (WS TE (cx0 Tryd.f57 none w ro B) (stkAt [1, 1, 1, 1, 0, 1, 0, 0, 1, 0, 1, 0, 0, 9] [J1] (bodyOf Tryd.f57) []) ⟨[(1, .v (.int .i64 x1)), (4, .pt 1004 0 0), (10, .pt 1010 0 0), (11, .pt 1011 0 0), (12, .v (.string x12)), (107, .v (.bool x107))], [(1004, .box 0 55 false [.v (.int .i64 x102000), .v (.slice none 0 0)]), (3641, .own 0 55 2 (r55 x107001)), (1010, .box 0 55 false [.v (.int .i64 x107000), .ow 3641 0]), (1011, .box 0 55 false [.v (.int .i64 x114000), .sl 2 (r55 x114001)])]⟩ (RetQ TE Tryd.f57 none [.ro (.ag [.v (.int .i64 r1), .sl 2 (r55 r2)]), .ro (.v (.string r3)), .ro (.v (.bool r4))] [] w ro B))
set_option maxRecDepth 100000 in
set_option maxHeartbeats 4000000 in
theorem impl_readArr.c_f (k : Nat) (ih : Kp (∀ m, m < k → impl_readArr.C m)) (a0 : ByteArray) (a1 : Int) (r1 : Int) (r2 : List (S55)) (r3 : ByteArray) (r4 : Bool) (h : impl_readArr.f k a0 a1 = some (r1, r2, r3, r4)) : Ctr TE 57 none [.v (.string a0), .v (.int .i64 a1)] [.ro (.ag [.v (.int .i64 r1), .sl 2 (r55 r2)]), .ro (.v (.string r3)), .ro (.v (.bool r4))] [] := by
 cases k with
 | zero => simp [impl_readArr.f] at h
 | succ k =>
 simp only [impl_readArr.f] at h
 refine ctr_of (fn := Tryd.f57) (c := (bodyOf Tryd.f57)) Tryd.func57 rfl (by kernel_rfl) (Nat.le_of_ble_eq_true (by kernel_rfl)) (fun w ro B hF _ => ?_)
 by_cases c1 : a1 = 0
 · rw [if_pos c1] at h
   refine path_ok (k := 10) hF (RetQ_mild _ _ _ _ _ _ _ _) (ds := [.b true]) (os := []) (c := none) rfl KD ?_
   exact WS.can [(1004, some 4)] (((ih.out k (by omega)).s_l0  r1 r2 r3 r4 w ro B hF a0 0 0 h).out) KD
 · rw [if_neg c1] at h
   by_cases c2 : a0.toList = ([] : List UInt8)
   · rw [if_pos c2] at h
     refine path_ok (k := 10) hF (RetQ_mild _ _ _ _ _ _ _ _) (ds := [.b false, .b true, .b true, .b true, .b true]) (os := []) (c := none) rfl KD ?_
     exact WS.can [(1004, some 4)] (((ih.out k (by omega)).s_j2  r1 r2 r3 r4 w ro B hF a0 a1 true 0 h).out) KD
   · rw [if_neg c2] at h
     by_cases c3 : 0 < (a0.size : Int)
     · rw [if_pos c3] at h
       have hb3 := bt_range a0 0
       refine path_ok (k := 10) hF (RetQ_mild _ _ _ _ _ _ _ _) (ds := [.b false, .b false, .b false, .b false, .b false]) (os := []) (c := none) rfl KD ?_
       exact WS.can [(1004, some 4)] (((ih.out k (by omega)).s_j2  r1 r2 r3 r4 w ro B hF a0 a1 ((bt a0 0) != 91) 0 h).out) KD
     · rw [if_neg c3] at h
       cases h
set_option maxRecDepth 100000 in
set_option maxHeartbeats 4000000 in
theorem impl_readArr.c_j1 (k : Nat) (ih : Kp (∀ m, m < k → impl_readArr.C m)) (r1 : Int) (r2 : List (S55)) (r3 : ByteArray) (r4 : Bool) (w : World) (ro : Nat → Prop) (B : Nat) (hF : Fr TE (cx0 Tryd.f57 none w ro B)) (x0 : ByteArray) (x7 : Int) (x102000 : Int) (h : impl_readArr.j1 k x0 x7 = some (r1, r2, r3, r4)) : Kp (WS TE (cx0 Tryd.f57 none w ro B) (stkAt [1, 0, 1, 0, 1, 0, 9] [] (bodyOf Tryd.f57) []) ⟨[(0, .v (.string x0)), (4, .pt 1004 0 0), (7, .v (.int .i64 x7))], [(1004, .box 0 55 false [.v (.int .i64 x102000), .v (.slice none 0 0)])]⟩ (RetQ TE Tryd.f57 none [.ro (.ag [.v (.int .i64 r1), .sl 2 (r55 r2)]), .ro (.v (.string r3)), .ro (.v (.bool r4))] [] w ro B)) := by
 refine ⟨?_⟩
 cases k with
 | zero => simp [impl_readArr.j1] at h
 | succ k =>
 simp only [impl_readArr.j1] at h
 by_cases c14 : 0 ≤ x7
 · rw [if_pos c14] at h
   by_cases c15 : x7 ≤ (x0.size : Int)
   · rw [if_pos c15] at h
     obtain ⟨⟨t102, t103⟩, q16, h⟩ := Option.bind_eq_some_iff.1 h
     dsimp only at h
     have q16c := strconv_Atoi.ctr _ _ _ q16
     by_cases c17 : t103.isNone = true
     · rw [if_pos c17] at h
       by_cases c18 : t102 ≥ 10007
       · rw [if_pos c18] at h
         refine path_ok (k := 9) hF (RetQ_mild _ _ _ _ _ _ _ _) (ds := [.r [.ro (.v (.int .i64 t102)), .ro (.er t103.isNone)] [], .b false, .b false, .b false, .b true, .b true, .b true, .b true, .b true, .b true, .b true, .b true]) (os := [.o [(0, 0), (1, 0), (2, 0), (3, 0), (4, 0), (5, 0), (6, 0), (7, 0), (9, 0), (10, 0), (11, 0), (8, 2), (12, 0), (13, 0)] []]) (c := none) rfl KD ?_
         cases h
         exact ret_as (ms := [.ro, .ro, .ro]) rfl KD
       · rw [if_neg c18] at h
         obtain ⟨t105, q19, h⟩ := Option.bind_eq_some_iff.1 h
         have q19c := strconv_Itoa.ctr _ _ q19
         by_cases c20 : t105.toList = (x0.extract 0 (x7 : Int).toNat).toList
         · rw [if_pos c20] at h
           refine path_ok (k := 10) hF (RetQ_mild _ _ _ _ _ _ _ _) (ds := [.r [.ro (.v (.int .i64 t102)), .ro (.er t103.isNone)] [], .b false, .b false, .b false, .b false, .b false, .b false, .b false, .b false, .r [.ro (.v (.string t105))] [], .b false, .b false, .b false]) (os := [.o [(0, 0), (1, 0), (2, 0), (3, 0), (4, 0), (5, 0), (6, 0), (7, 0), (9, 0), (10, 0), (11, 0), (8, 2), (12, 0), (13, 0)] [], .o [(0, 0), (1, 0), (2, 0), (3, 0), (4, 0), (5, 2), (6, 0), (7, 0)] [5]]) (c := none) rfl KD ?_
           cases h
           exact ret_as (ms := [.ro, .ro, .ro]) rfl KD
         · rw [if_neg c20] at h
           refine path_ok (k := 9) hF (RetQ_mild _ _ _ _ _ _ _ _) (ds := [.r [.ro (.v (.int .i64 t102)), .ro (.er t103.isNone)] [], .b false, .b false, .b false, .b false, .b false, .b false, .b false, .b false, .r [.ro (.v (.string t105))] [], .b false, .b false, .b true]) (os := [.o [(0, 0), (1, 0), (2, 0), (3, 0), (4, 0), (5, 0), (6, 0), (7, 0), (9, 0), (10, 0), (11, 0), (8, 2), (12, 0), (13, 0)] []]) (c := none) rfl KD ?_
           cases h
           exact ret_as (ms := [.ro, .ro, .ro]) rfl KD
     · rw [if_neg c17] at h
       refine path_ok (k := 9) hF (RetQ_mild _ _ _ _ _ _ _ _) (ds := [.r [.ro (.v (.int .i64 t102)), .ro (.er t103.isNone)] [], .b true, .b true, .b true, .b true, .b true, .b true, .b true, .b true, .b true, .b true, .b true]) (os := [.o [(0, 0), (1, 0), (2, 0), (3, 0), (4, 0), (5, 0), (6, 0), (7, 0), (9, 0), (10, 0), (11, 0), (8, 2), (12, 0), (13, 0)] []]) (c := none) rfl KD ?_
       cases h
       exact ret_as (ms := [.ro, .ro, .ro]) rfl KD
   · rw [if_neg c15] at h
     cases h
 · rw [if_neg c14] at h
   cases h
set_option maxRecDepth 100000 in
set_option maxHeartbeats 4000000 in
theorem impl_readArr.c_l0 (k : Nat) (ih : Kp (∀ m, m < k → impl_readArr.C m)) (r1 : Int) (r2 : List (S55)) (r3 : ByteArray) (r4 : Bool) (w : World) (ro : Nat → Prop) (B : Nat) (hF : Fr TE (cx0 Tryd.f57 none w ro B)) (x0 : ByteArray) (x7 : Int) (x102000 : Int) (h : impl_readArr.l0 k x0 x7 = some (r1, r2, r3, r4)) : Kp (WS TE (cx0 Tryd.f57 none w ro B) (stkAt [1, 0, 1, 0, 1, 0, 0] [] (bodyOf Tryd.f57) []) ⟨[(0, .v (.string x0)), (4, .pt 1004 0 0), (7, .v (.int .i64 x7))], [(1004, .box 0 55 false [.v (.int .i64 x102000), .v (.slice none 0 0)])]⟩ (RetQ TE Tryd.f57 none [.ro (.ag [.v (.int .i64 r1), .sl 2 (r55 r2)]), .ro (.v (.string r3)), .ro (.v (.bool r4))] [] w ro B)) := by
 refine ⟨WS.loop (fun m σ => m ≤ k ∧ impl_readArr.I0 r1 r2 r3 r4 m σ) k ⟨Nat.le_refl k, x0, x7, x102000, h, rfl⟩ (fun m σ' hI J0 hJ0 => ?_)⟩
 clear h
 obtain ⟨hk, x0, x7, x102000, h, rfl⟩ := hI
 cases m with
 | zero => simp [impl_readArr.l0] at h
 | succ k' =>
 simp only [impl_readArr.l0] at h
 by_cases c5 : x7 < (x0.size : Int)
 · rw [if_pos c5] at h
   by_cases c6 : 0 ≤ x7
   · rw [if_pos c6] at h
     by_cases c7 : (bt x0 x7) ≥ 48
     · rw [if_pos c7] at h
       by_cases c8 : (bt x0 x7) ≤ 57
       · rw [if_pos c8] at h
         have hb8 := bt_range x0 x7
         refine path_ok (k := 8) hF (RetQ_mild _ _ _ _ _ _ _ _) (ds := [.b true, .b true, .b true, .b true, .b true, .b true, .b true, .b true, .b true, .b true, .b true]) (os := []) (c := none) rfl KD ?_
         exact WS.lpc [(1004, some 1004)] (hJ0 _ _ (Nat.lt_succ_self _) ⟨by omega, x0, (wrap64 (x7 + 1)), x102000, h, rfl⟩) KD
       · rw [if_neg c8] at h
         have hb9 := bt_range x0 x7
         refine path_ok (k := 5) hF (RetQ_mild _ _ _ _ _ _ _ _) (ds := [.b true, .b true, .b true, .b true, .b true, .b true, .b true, .b true, .b true, .b true, .b false]) (os := []) (c := none) rfl KD ?_
         exact WS.can [(1004, some 1004)] (((ih.out k' (by omega)).s_j1  r1 r2 r3 r4 w ro B hF x0 x7 x102000 h).out) KD
     · rw [if_neg c7] at h
       have hb10 := bt_range x0 x7
       refine path_ok (k := 5) hF (RetQ_mild _ _ _ _ _ _ _ _) (ds := [.b true, .b true, .b true, .b true, .b true, .b false, .b false, .b false, .b false, .b false, .b false]) (os := []) (c := none) rfl KD ?_
       exact WS.can [(1004, some 1004)] (((ih.out k' (by omega)).s_j1  r1 r2 r3 r4 w ro B hF x0 x7 x102000 h).out) KD
   · rw [if_neg c6] at h
     cases h
 · rw [if_neg c5] at h
   refine path_ok (k := 5) hF (RetQ_mild _ _ _ _ _ _ _ _) (ds := [.b false, .b false, .b false, .b false, .b false, .b false, .b false, .b false, .b false, .b false, .b false]) (os := []) (c := none) rfl KD ?_
   exact WS.can [(1004, some 1004)] (((ih.out k' (by omega)).s_j1  r1 r2 r3 r4 w ro B hF x0 x7 x102000 h).out) KD
set_option maxRecDepth 100000 in
set_option maxHeartbeats 4000000 in
theorem impl_readArr.c_j2 (k : Nat) (ih : Kp (∀ m, m < k → impl_readArr.C m)) (r1 : Int) (r2 : List (S55)) (r3 : ByteArray) (r4 : Bool) (w : World) (ro : Nat → Prop) (B : Nat) (hF : Fr TE (cx0 Tryd.f57 none w ro B)) (x0 : ByteArray) (x1 : Int) (x67 : Bool) (x102000 : Int) (h : impl_readArr.j2 k x0 x1 x67 = some (r1, r2, r3, r4)) : Kp (WS TE (cx0 Tryd.f57 none w ro B) (stkAt [1, 1, 0, 0, 9] [] (bodyOf Tryd.f57) []) ⟨[(0, .v (.string x0)), (1, .v (.int .i64 x1)), (4, .pt 1004 0 0), (67, .v (.bool x67))], [(1004, .box 0 55 false [.v (.int .i64 x102000), .v (.slice none 0 0)])]⟩ (RetQ TE Tryd.f57 none [.ro (.ag [.v (.int .i64 r1), .sl 2 (r55 r2)]), .ro (.v (.string r3)), .ro (.v (.bool r4))] [] w ro B)) := by
 refine ⟨?_⟩
 cases k with
 | zero => simp [impl_readArr.j2] at h
 | succ k =>
 simp only [impl_readArr.j2] at h
 by_cases c12 : x67 = true
 · rw [if_pos c12] at h
   refine path_ok (k := 4) hF (RetQ_mild _ _ _ _ _ _ _ _) (ds := [.b true]) (os := []) (c := none) rfl KD ?_
   cases h
   exact ret_as (ms := [.ro, .ro, .ro]) rfl KD
 · rw [if_neg c12] at h
   by_cases c13 : 1 ≤ (x0.size : Int)
   · rw [if_pos c13] at h
     refine path_ok (k := 8) hF (RetQ_mild _ _ _ _ _ _ _ _) (ds := [.b false]) (os := []) (c := none) rfl KD ?_
     exact WS.can [(1004, some 1004), (1010, some 10), (3641, none)] (((ih.out k (by omega)).s_l1  r1 r2 r3 r4 w ro B hF (x0.extract 1 x0.size) x1 x102000 0 ([] : List (S55)) h).out) KD
   · rw [if_neg c13] at h
     cases h
set_option maxRecDepth 100000 in
set_option maxHeartbeats 4000000 in
theorem impl_readArr.c_l1 (k : Nat) (ih : Kp (∀ m, m < k → impl_readArr.C m)) (r1 : Int) (r2 : List (S55)) (r3 : ByteArray) (r4 : Bool) (w : World) (ro : Nat → Prop) (B : Nat) (hF : Fr TE (cx0 Tryd.f57 none w ro B)) (x0 : ByteArray) (x1 : Int) (x102000 : Int) (x107000 : Int) (x107001 : List (S55)) (h : impl_readArr.l1 k x0 x1 x107000 x107001 = some (r1, r2, r3, r4)) : Kp (WS TE (cx0 Tryd.f57 none w ro B) (stkAt [1, 1, 1, 1, 0, 1, 0] [] (bodyOf Tryd.f57) []) ⟨[(0, .v (.string x0)), (1, .v (.int .i64 x1)), (4, .pt 1004 0 0), (10, .pt 1010 0 0)], [(1004, .box 0 55 false [.v (.int .i64 x102000), .v (.slice none 0 0)]), (3641, .own 0 55 2 (r55 x107001)), (1010, .box 0 55 false [.v (.int .i64 x107000), .ow 3641 0])]⟩ (RetQ TE Tryd.f57 none [.ro (.ag [.v (.int .i64 r1), .sl 2 (r55 r2)]), .ro (.v (.string r3)), .ro (.v (.bool r4))] [] w ro B)) := by
 refine ⟨WS.loop (fun m σ => m ≤ k ∧ impl_readArr.I1 r1 r2 r3 r4 m σ) k ⟨Nat.le_refl k, x0, x1, x102000, x107000, x107001, h, rfl⟩ (fun m σ' hI J1 hJ1 => ?_)⟩
 clear h
 obtain ⟨hk, x0, x1, x102000, x107000, x107001, h, rfl⟩ := hI
 cases m with
 | zero => simp [impl_readArr.l1] at h
 | succ k' =>
 simp only [impl_readArr.l1] at h
 by_cases c21 : x0.toList = ([] : List UInt8)
 · rw [if_pos c21] at h
   refine path_ok (k := 3) hF (RetQ_mild _ _ _ _ _ _ _ _) (ds := [.b false, .b false, .b false, .b false, .b false, .b false]) (os := []) (c := none) rfl KD ?_
   exact WS.can [(1004, some 1004), (1010, some 1010), (3641, some 3641)] (((ih.out k' (by omega)).s_j4  r1 r2 r3 r4 w ro B hF J1 (fun m σ hm hI => hJ1 m σ (by omega) ⟨by omega, hI⟩) x0 x1 false x102000 x107000 x107001 h).out) KD
 · rw [if_neg c21] at h
   by_cases c22 : 0 < (x0.size : Int)
   · rw [if_pos c22] at h
     by_cases c23 : (bt x0 0) = 93
     · rw [if_pos c23] at h
       have hb23 := bt_range x0 0
       refine path_ok (k := 3) hF (RetQ_mild _ _ _ _ _ _ _ _) (ds := [.b true, .b true, .b true, .b true, .b false, .b false, .b false, .e 80 (.v (.int .i64 (x107001.length : Int))), .b false, .b true, .b false, .b true]) (os := []) (c := none) rfl KD ?_
       exact WS.can [(1004, some 1004), (1010, some 1010), (3641, some 3641)] (((ih.out k' (by omega)).s_j4  r1 r2 r3 r4 w ro B hF J1 (fun m σ hm hI => hJ1 m σ (by omega) ⟨by omega, hI⟩) x0 x1 (decide ((x107001.length : Int) > 0)) x102000 x107000 x107001 h).out) KD
     · rw [if_neg c23] at h
       have hb24 := bt_range x0 0
       refine path_ok (k := 3) hF (RetQ_mild _ _ _ _ _ _ _ _) (ds := [.b true, .b true, .b true, .b true, .b true, .b true, .b true, .b true, .b true, .b true, .b true]) (os := []) (c := none) rfl KD ?_
       exact WS.can [(1004, some 1004), (1010, some 1010), (3641, some 3641)] (((ih.out k' (by omega)).s_j4  r1 r2 r3 r4 w ro B hF J1 (fun m σ hm hI => hJ1 m σ (by omega) ⟨by omega, hI⟩) x0 x1 true x102000 x107000 x107001 h).out) KD
   · rw [if_neg c22] at h
     cases h
set_option maxRecDepth 100000 in
set_option maxHeartbeats 4000000 in
theorem impl_readArr.c_j4 (k : Nat) (ih : Kp (∀ m, m < k → impl_readArr.C m)) (r1 : Int) (r2 : List (S55)) (r3 : ByteArray) (r4 : Bool) (w : World) (ro : Nat → Prop) (B : Nat) (hF : Fr TE (cx0 Tryd.f57 none w ro B)) (J1 : St → Prop) (hJ1 : ∀ m σ, m ≤ k → impl_readArr.I1 r1 r2 r3 r4 m σ → J1 σ) (x0 : ByteArray) (x1 : Int) (x83 : Bool) (x102000 : Int) (x107000 : Int) (x107001 : List (S55)) (h : impl_readArr.j4 k x0 x1 x83 x107000 x107001 = some (r1, r2, r3, r4)) : Kp (WS TE (cx0 Tryd.f57 none w ro B) (stkAt [1, 1, 1, 1, 0, 1, 0, 0, 0, 0, 9] [J1] (bodyOf Tryd.f57) []) ⟨[(0, .v (.string x0)), (1, .v (.int .i64 x1)), (4, .pt 1004 0 0), (10, .pt 1010 0 0), (83, .v (.bool x83))], [(1004, .box 0 55 false [.v (.int .i64 x102000), .v (.slice none 0 0)]), (3641, .own 0 55 2 (r55 x107001)), (1010, .box 0 55 false [.v (.int .i64 x107000), .ow 3641 0])]⟩ (RetQ TE Tryd.f57 none [.ro (.ag [.v (.int .i64 r1), .sl 2 (r55 r2)]), .ro (.v (.string r3)), .ro (.v (.bool r4))] [] w ro B)) := by
 refine ⟨?_⟩
 cases k with
 | zero => simp [impl_readArr.j4] at h
 | succ k =>
 simp only [impl_readArr.j4] at h
 by_cases c26 : x83 = true
 · rw [if_pos c26] at h
   obtain ⟨⟨t107, t108, t111, t112⟩, q27, h⟩ := Option.bind_eq_some_iff.1 h
   dsimp only at h
   have q27c := (ih.out k (by omega)).s_f _ _ _ _ _ _ q27
   by_cases c28 : t112 = true
   · rw [if_pos c28] at h
     by_cases c29 : t111.toList = ([] : List UInt8)
     · rw [if_pos c29] at h
       refine path_ok (k := 8) hF (RetQ_mild _ _ _ _ _ _ _ _) (ds := [.b true, .r [.ro (.ag [.v (.int .i64 t107), .sl 2 (r55 t108)]), .ro (.v (.string t111)), .ro (.v (.bool t112))] [], .b false, .b false, .b false, .b true, .b true, .b true, .b true, .b true, .b true]) (os := []) (c := none) rfl KD ?_
       exact WS.can [(1004, some 1004), (1010, some 1010), (3641, some 3641), (1011, some 11)] (((ih.out k (by omega)).s_j5  r1 r2 r3 r4 w ro B hF J1 (fun m σ hm hI => hJ1 m σ (by omega) hI) x1 t111 true x102000 x107000 x107001 t107 t108 h).out) KD
     · rw [if_neg c29] at h
       by_cases c30 : 0 < (t111.size : Int)
       · rw [if_pos c30] at h
         by_cases c31 : (bt t111 0) = 44
         · rw [if_pos c31] at h
           have hb31 := bt_range t111 0
           refine path_ok (k := 8) hF (RetQ_mild _ _ _ _ _ _ _ _) (ds := [.b true, .r [.ro (.ag [.v (.int .i64 t107), .sl 2 (r55 t108)]), .ro (.v (.string t111)), .ro (.v (.bool t112))] [], .b false, .b false, .b false, .b false, .b false, .b false, .b false, .b false, .b false, .b false, .b false, .b false, .b false]) (os := []) (c := none) rfl KD ?_
           exact WS.can [(1004, some 1004), (1010, some 1010), (3641, some 3641), (1011, some 11)] (((ih.out k (by omega)).s_j5  r1 r2 r3 r4 w ro B hF J1 (fun m σ hm hI => hJ1 m σ (by omega) hI) x1 t111 false x102000 x107000 x107001 t107 t108 h).out) KD
         · rw [if_neg c31] at h
           have hb32 := bt_range t111 0
           refine path_ok (k := 8) hF (RetQ_mild _ _ _ _ _ _ _ _) (ds := [.b true, .r [.ro (.ag [.v (.int .i64 t107), .sl 2 (r55 t108)]), .ro (.v (.string t111)), .ro (.v (.bool t112))] [], .b false, .b false, .b false, .b false, .b false, .b false, .b false, .b true, .b true, .b true, .b false, .b true, .b false]) (os := []) (c := none) rfl KD ?_
           exact WS.can [(1004, some 1004), (1010, some 1010), (3641, some 3641), (1011, some 11)] (((ih.out k (by omega)).s_j5  r1 r2 r3 r4 w ro B hF J1 (fun m σ hm hI => hJ1 m σ (by omega) hI) x1 t111 ((bt t111 0) != 93) x102000 x107000 x107001 t107 t108 h).out) KD
       · rw [if_neg c30] at h
         cases h
   · rw [if_neg c28] at h
     refine path_ok (k := 8) hF (RetQ_mild _ _ _ _ _ _ _ _) (ds := [.b true, .r [.ro (.ag [.v (.int .i64 t107), .sl 2 (r55 t108)]), .ro (.v (.string t111)), .ro (.v (.bool t112))] [], .b true, .b true, .b true, .b true, .b true, .b true, .b true, .b true, .b true]) (os := []) (c := none) rfl KD ?_
     exact WS.can [(1004, some 1004), (1010, some 1010), (3641, some 3641), (1011, some 11)] (((ih.out k (by omega)).s_j5  r1 r2 r3 r4 w ro B hF J1 (fun m σ hm hI => hJ1 m σ (by omega) hI) x1 t111 true x102000 x107000 x107001 t107 t108 h).out) KD
 · rw [if_neg c26] at h
   by_cases c34 : x0.toList = ([] : List UInt8)
   · rw [if_pos c34] at h
     refine path_ok (k := 9) hF (RetQ_mild _ _ _ _ _ _ _ _) (ds := [.b false, .b true]) (os := []) (c := none) rfl KD ?_
     cases h
     exact ret_as (ms := [.ro, .ro, .ro]) rfl KD
   · rw [if_neg c34] at h
     by_cases c35 : 1 ≤ (x0.size : Int)
     · rw [if_pos c35] at h
       refine path_ok (k := 10) hF (RetQ_mild _ _ _ _ _ _ _ _) (ds := [.b false, .b false]) (os := [.o [(0, 1), (1, 0), (2, 0), (3, 2), (4, 0), (5, 0)] [3]]) (c := none) rfl KD ?_
       cases h
       exact ret_as (ms := [.ro, .ro, .ro]) rfl KD
     · rw [if_neg c35] at h
       cases h
set_option maxRecDepth 100000 in
set_option maxHeartbeats 4000000 in
theorem impl_readArr.c_j5 (k : Nat) (ih : Kp (∀ m, m < k → impl_readArr.C m)) (r1 : Int) (r2 : List (S55)) (r3 : ByteArray) (r4 : Bool) (w : World) (ro : Nat → Prop) (B : Nat) (hF : Fr TE (cx0 Tryd.f57 none w ro B)) (J1 : St → Prop) (hJ1 : ∀ m σ, m ≤ k → impl_readArr.I1 r1 r2 r3 r4 m σ → J1 σ) (x1 : Int) (x12 : ByteArray) (x107 : Bool) (x102000 : Int) (x107000 : Int) (x107001 : List (S55)) (x114000 : Int) (x114001 : List (S55)) (h : impl_readArr.j5 k x1 x12 x107 x107000 x107001 x114000 x114001 = some (r1, r2, r3, r4)) : Kp (WS TE (cx0 Tryd.f57 none w ro B) (stkAt [1, 1, 1, 1, 0, 1, 0, 0, 1, 0, 1, 0, 0, 9] [J1] (bodyOf Tryd.f57) []) ⟨[(1, .v (.int .i64 x1)), (4, .pt 1004 0 0), (10, .pt 1010 0 0), (11, .pt 1011 0 0), (12, .v (.string x12)), (107, .v (.bool x107))], [(1004, .box 0 55 false [.v (.int .i64 x102000), .v (.slice none 0 0)]), (3641, .own 0 55 2 (r55 x107001)), (1010, .box 0 55 false [.v (.int .i64 x107000), .ow 3641 0]), (1011, .box 0 55 false [.v (.int .i64 x114000), .sl 2 (r55 x114001)])]⟩ (RetQ TE Tryd.f57 none [.ro (.ag [.v (.int .i64 r1), .sl 2 (r55 r2)]), .ro (.v (.string r3)), .ro (.v (.bool r4))] [] w ro B)) := by
 refine ⟨?_⟩
 cases k with
 | zero => simp [impl_readArr.j5] at h
 | succ k =>
 simp only [impl_readArr.j5] at h
 by_cases c36 : x107 = true
 · rw [if_pos c36] at h
   refine path_ok (k := 4) hF (RetQ_mild _ _ _ _ _ _ _ _) (ds := [.b true]) (os := []) (c := none) rfl KD ?_
   cases h
   exact ret_as (ms := [.ro, .ro, .ro]) rfl KD
 · rw [if_neg c36] at h
   by_cases c37 : x107001.length < 4398046511104
   · rw [if_pos c37] at h
     obtain ⟨y114, hy114, h⟩ := Option.bind_eq_some_iff.1 h
     cases hy114
     by_cases c38 : 0 < (x12.size : Int)
     · rw [if_pos c38] at h
       by_cases c39 : (bt x12 0) = 93
       · rw [if_pos c39] at h
         by_cases c40 : 1 ≤ (x12.size : Int)
         · rw [if_pos c40] at h
           have hb40 := bt_range x12 0
           refine path_ok (k := 11) hF (RetQ_mild _ _ _ _ _ _ _ _) (ds := [.b false, .p 112 ([[.v (.int .i64 x114000), .sl 2 (r55 x114001)]]), .o 113 (r55 (x107001 ++ [(⟨x114000, x114001⟩ : S55)])), .b true]) (os := [.o [(0, 1), (1, 0), (2, 0), (3, 2), (4, 0), (5, 0)] [3]]) (c := none) rfl KD ?_
           cases h
           exact ret_as (ms := [.ro, .ro, .ro]) rfl KD
         · rw [if_neg c40] at h
           cases h
       · rw [if_neg c39] at h
         by_cases c42 : 1 ≤ (x12.size : Int)
         · rw [if_pos c42] at h
           have hb42 := bt_range x12 0
           refine path_ok (k := 11) hF (RetQ_mild _ _ _ _ _ _ _ _) (ds := [.b false, .p 112 ([[.v (.int .i64 x114000), .sl 2 (r55 x114001)]]), .o 113 (r55 (x107001 ++ [(⟨x114000, x114001⟩ : S55)])), .b false]) (os := []) (c := none) rfl KD ?_
           exact WS.lpc [(1004, some 1004), (1010, some 1010), (3641, some 3641)] (hJ1 _ _ (by omega) ⟨(x12.extract 1 x12.size), x1, x102000, x107000, (x107001 ++ [(⟨x114000, x114001⟩ : S55)]), h, rfl⟩) KD
         · rw [if_neg c42] at h
           cases h
     · rw [if_neg c38] at h
       cases h
   · rw [if_neg c37] at h
     cases h
theorem impl_readArr.cs (k : Nat) : impl_readArr.C k := by
 induction k using Nat.strongRecOn with
 | _ k ih0 =>
 have ih : Kp (∀ m, m < k → impl_readArr.C m) := ⟨ih0⟩
 exact ⟨impl_readArr.c_f k ih, impl_readArr.c_j1 k ih, impl_readArr.c_l0 k ih, impl_readArr.c_j2 k ih, impl_readArr.c_l1 k ih, impl_readArr.c_j4 k ih, impl_readArr.c_j5 k ih⟩
theorem impl_readArr.ctr (k : Nat) (a0 : ByteArray) (a1 : Int) (r1 : Int) (r2 : List (S55)) (r3 : ByteArray) (r4 : Bool) (h : impl_readArr.f k a0 a1 = some (r1, r2, r3, r4)) : Ctr TE 57 none [.v (.string a0), .v (.int .i64 a1)] [.ro (.ag [.v (.int .i64 r1), .sl 2 (r55 r2)]), .ro (.v (.string r3)), .ro (.v (.bool r4))] [] := (impl_readArr.cs k).s_f a0 a1 r1 r2 r3 r4 h
def impl_arrOf.f (k : Nat) (a0 : ByteArray) (a1 : Int) : Option (Int × (List (S55)) × Bool) := if a1 < 0 then (some (0, ([] : List (S55)), false)) else (if a1 > 3 then (some (0, ([] : List (S55)), false)) else (if (a0.size : Int) > 400 then (some (0, ([] : List (S55)), false)) else ((impl_readArr.f k a0 a1).bind fun bt118 => (if bt118.2.2.2 = true then (some (bt118.1, bt118.2.1, (bt118.2.2.1.toList == ([] : List UInt8)))) else (some (bt118.1, bt118.2.1, false))))))
set_option maxRecDepth 100000 in
set_option maxHeartbeats 4000000 in
theorem impl_arrOf.ctr (k : Nat) (a0 : ByteArray) (a1 : Int) (r1 : Int) (r2 : List (S55)) (r3 : Bool) (h : impl_arrOf.f k a0 a1 = some (r1, r2, r3)) : Ctr TE 32 none [.v (.string a0), .v (.int .i64 a1)] [.ro (.ag [.v (.int .i64 r1), .sl 2 (r55 r2)]), .ro (.v (.bool r3))] [] := by
 refine ctr_of (fn := Tryd.f32) (c := (bodyOf Tryd.f32)) Tryd.func32 rfl (by kernel_rfl) (Nat.le_of_ble_eq_true (by kernel_rfl)) (fun w ro B hF _ => ?_)
 simp only [impl_arrOf.f] at h
 by_cases c1 : a1 < 0
 · rw [if_pos c1] at h
   refine path_ok (k := 9) hF (RetQ_mild _ _ _ _ _ _ _ _) (ds := [.b true, .b true, .b true, .b true, .b true, .b true, .b true, .b true]) (os := []) (c := none) rfl KD ?_
   cases h
   exact ret_as (ms := [.ro, .ro]) rfl KD
 · rw [if_neg c1] at h
   by_cases c2 : a1 > 3
   · rw [if_pos c2] at h
     refine path_ok (k := 9) hF (RetQ_mild _ _ _ _ _ _ _ _) (ds := [.b false, .b false, .b false, .b true, .b true, .b true, .b true, .b true]) (os := []) (c := none) rfl KD ?_
     cases h
     exact ret_as (ms := [.ro, .ro]) rfl KD
   · rw [if_neg c2] at h
     by_cases c3 : (a0.size : Int) > 400
     · rw [if_pos c3] at h
       refine path_ok (k := 9) hF (RetQ_mild _ _ _ _ _ _ _ _) (ds := [.b false, .b false, .b false, .b false, .b false, .b false, .b false, .b true]) (os := []) (c := none) rfl KD ?_
       cases h
       exact ret_as (ms := [.ro, .ro]) rfl KD
     · rw [if_neg c3] at h
       obtain ⟨⟨t118, t119, t122, t123⟩, q4, h⟩ := Option.bind_eq_some_iff.1 h
       dsimp only at h
       have q4c := impl_readArr.ctr k _ _ _ _ _ _ q4
       by_cases c5 : t123 = true
       · rw [if_pos c5] at h
         refine path_ok (k := 12) hF (RetQ_mild _ _ _ _ _ _ _ _) (ds := [.b false, .b false, .b false, .b false, .b false, .b false, .b false, .b false, .r [.ro (.ag [.v (.int .i64 t118), .sl 2 (r55 t119)]), .ro (.v (.string t122)), .ro (.v (.bool t123))] [], .b true, .b true, .b true]) (os := []) (c := none) rfl KD ?_
         cases h
         exact ret_as (ms := [.ro, .ro]) rfl KD
       · rw [if_neg c5] at h
         refine path_ok (k := 12) hF (RetQ_mild _ _ _ _ _ _ _ _) (ds := [.b false, .b false, .b false, .b false, .b false, .b false, .b false, .b false, .r [.ro (.ag [.v (.int .i64 t118), .sl 2 (r55 t119)]), .ro (.v (.string t122)), .ro (.v (.bool t123))] [], .b false, .b false, .b false]) (os := []) (c := none) rfl KD ?_
         cases h
         exact ret_as (ms := [.ro, .ro]) rfl KD
mutual
def impl_shapeOf.l0 : Nat → List Int → List (List Int) → Int → Int → Option (List Int × Bool)
  | 0, _, _, _, _ => none
  | k + 1, x6, x17, x18, x19 => if x19 < x18 then (if 0 ≤ x19 then (if x19 < (x17.length : Int) then (impl_shapeOf.l1 k x6 0 x17 x18 x19 (rd_L3 x17 x19) ((rd_L3 x17 x19).length : Int) 0) else (none)) else (none)) else (some (x6, true))
def impl_shapeOf.l1 : Nat → List Int → Int → List (List Int) → Int → Int → List Int → Int → Int → Option (List Int × Bool)
  | 0, _, _, _, _, _, _, _, _ => none
  | k + 1, x6, x9, x17, x18, x19, x23, x24, x25 => if x25 < x24 then (if 0 ≤ x25 then (if x25 < (x23.length : Int) then (if x25 > 0 then (if (rd x23 x25) = x9 then (impl_shapeOf.l1 k x6 (rd x23 x25) x17 x18 x19 x23 x24 (wrap64 (x25 + 1))) else (some (([] : List Int), false))) else (impl_shapeOf.l1 k x6 (rd x23 x25) x17 x18 x19 x23 x24 (wrap64 (x25 + 1)))) else (none)) else (none)) else (if x6.length < 17592186044416 then (impl_shapeOf.l0 k (x6 ++ [x9]) x17 x18 (wrap64 (x19 + 1))) else (none))
end
def impl_shapeOf.f (k : Nat) (a0_0 : Int) (l0_1 : List (S55)) (a1 : Int) : Option (List Int × Bool) := (impl_laid.f k (([(⟨a0_0, l0_1⟩ : S55)] : List (S55))) a1).bind fun bt132 => (impl_shapeOf.l0 k (([] : List Int)) bt132.1 (bt132.1.length : Int) 0)
def impl_shapeOf.I0 (r1 : List Int) (r2 : Bool) (m : Nat) (σ : St) : Prop := ∃ (x6 : List Int) (x17 : List (List Int)) (x18 : Int) (x19 : Int), impl_shapeOf.l0 m x6 x17 x18 x19 = some (r1, r2) ∧ σ = ⟨[(6, .ow 1006 0), (17, .sl 1 (rX (cL (cI .i64) 1) x17)), (18, .v (.int .i64 x18)), (19, .v (.int .i64 x19))], [(1006, .own 0 3 1 (rX (cI .i64) x6))]⟩
def impl_shapeOf.I1 (r1 : List Int) (r2 : Bool) (m : Nat) (σ : St) : Prop := ∃ (x6 : List Int) (x9 : Int) (x17 : List (List Int)) (x18 : Int) (x19 : Int) (x23 : List Int) (x24 : Int) (x25 : Int), impl_shapeOf.l1 m x6 x9 x17 x18 x19 x23 x24 x25 = some (r1, r2) ∧ σ = ⟨[(6, .ow 1006 0), (9, .v (.int .i64 x9)), (17, .sl 1 (rX (cL (cI .i64) 1) x17)), (18, .v (.int .i64 x18)), (19, .v (.int .i64 x19)), (23, .sl 1 (rX (cI .i64) x23)), (24, .v (.int .i64 x24)), (25, .v (.int .i64 x25))], [(1006, .own 0 3 1 (rX (cI .i64) x6))]⟩
structure impl_shapeOf.C (k : Nat) : Prop where
 s_l0 : ∀ (r1 : List Int) (r2 : Bool) (w : World) (ro : Nat → Prop) (B : Nat) (_ : Fr TE (cx0 Tryd.f33 none w ro B)) (x6 : List Int) (x17 : List (List Int)) (x18 : Int) (x19 : Int) (_ : impl_shapeOf.l0 k x6 x17 x18 x19 = some (r1, r2)), Kp (WS TE (cx0 Tryd.f33 none w ro B) (stkAt [1, 1, 0, 1, 0] [] (bodyOf Tryd.f33) []) ⟨[(6, .ow 1006 0), (17, .sl 1 (rX (cL (cI .i64) 1) x17)), (18, .v (.int .i64 x18)), (19, .v (.int .i64 x19))], [(1006, .own 0 3 1 (rX (cI .i64) x6))]⟩ (RetQ TE Tryd.f33 none [.own 3 1 (rX (cI .i64) r1), .ro (.v (.bool r2))] [] w ro B))
 s_l1 : ∀ (r1 : List Int) (r2 : Bool) (w : World) (ro : Nat → Prop) (B : Nat) (_ : Fr TE (cx0 Tryd.f33 none w ro B)) (J0 : St → Prop) (_ : ∀ m σ, m ≤ k → impl_shapeOf.I0 r1 r2 m σ → J0 σ) (x6 : List Int) (x9 : Int) (x17 : List (List Int)) (x18 : Int) (x19 : Int) (x23 : List Int) (x24 : Int) (x25 : Int) (_ : impl_shapeOf.l1 k x6 x9 x17 x18 x19 x23 x24 x25 = some (r1, r2)), Kp (WS TE (cx0 Tryd.f33 none w ro B) (stkAt [1, 1, 0, 1, 0, 0, 1, 1, 0, 0, 1, 1, 0, 1, 0] [J0] (bodyOf Tryd.f33) []) ⟨[(6, .ow 1006 0), (9, .v (.int .i64 x9)), (17, .sl 1 (rX (cL (cI .i64) 1) x17)), (18, .v (.int .i64 x18)), (19, .v (.int .i64 x19)), (23, .sl 1 (rX (cI .i64) x23)), (24, .v (.int .i64 x24)), (25, .v (.int .i64 x25))], [(1006, .own 0 3 1 (rX (cI .i64) x6))]⟩ (RetQ TE Tryd.f33 none [.own 3 1 (rX (cI .i64) r1), .ro (.v (.bool r2))] [] w ro B))
set_option maxRecDepth 100000 in
set_option maxHeartbeats 4000000 in
theorem impl_shapeOf.c_l0 (k : Nat) (ih : Kp (∀ m, m < k → impl_shapeOf.C m)) (r1 : List Int) (r2 : Bool) (w : World) (ro : Nat → Prop) (B : Nat) (hF : Fr TE (cx0 Tryd.f33 none w ro B)) (x6 : List Int) (x17 : List (List Int)) (x18 : Int) (x19 : Int) (h : impl_shapeOf.l0 k x6 x17 x18 x19 = some (r1, r2)) : Kp (WS TE (cx0 Tryd.f33 none w ro B) (stkAt [1, 1, 0, 1, 0] [] (bodyOf Tryd.f33) []) ⟨[(6, .ow 1006 0), (17, .sl 1 (rX (cL (cI .i64) 1) x17)), (18, .v (.int .i64 x18)), (19, .v (.int .i64 x19))], [(1006, .own 0 3 1 (rX (cI .i64) x6))]⟩ (RetQ TE Tryd.f33 none [.own 3 1 (rX (cI .i64) r1), .ro (.v (.bool r2))] [] w ro B)) := by
 refine ⟨WS.loop (fun m σ => m ≤ k ∧ impl_shapeOf.I0 r1 r2 m σ) k ⟨Nat.le_refl k, x6, x17, x18, x19, h, rfl⟩ (fun m σ' hI J0 hJ0 => ?_)⟩
 clear h
 obtain ⟨hk, x6, x17, x18, x19, h, rfl⟩ := hI
 cases m with
 | zero => simp [impl_shapeOf.l0] at h
 | succ k' =>
 simp only [impl_shapeOf.l0] at h
 by_cases c2 : x19 < x18
 · rw [if_pos c2] at h
   by_cases c3 : 0 ≤ x19
   · rw [if_pos c3] at h
     by_cases c4 : x19 < (x17.length : Int)
     · rw [if_pos c4] at h
       refine path_ok (k := 15) hF (RetQ_mild _ _ _ _ _ _ _ _) (ds := [.b true, .e 21 (.rf [.sl 1 (rX (cI .i64) (rd_L3 x17 x19))]), .e 24 (.v (.int .i64 ((rd_L3 x17 x19).length : Int)))]) (os := []) (c := none) rfl KD ?_
       exact WS.can [(1006, some 1006)] (((ih.out k' (by omega)).s_l1  r1 r2 w ro B hF J0 (fun m σ hm hI => hJ0 m σ (by omega) ⟨by omega, hI⟩) x6 0 x17 x18 x19 (rd_L3 x17 x19) ((rd_L3 x17 x19).length : Int) 0 h).out) KD
     · rw [if_neg c4] at h
       cases h
   · rw [if_neg c3] at h
     cases h
 · rw [if_neg c2] at h
   refine path_ok (k := 8) hF (RetQ_mild _ _ _ _ _ _ _ _) (ds := [.b false]) (os := []) (c := none) rfl KD ?_
   cases h
   exact ret_as (ms := [.own, .ro]) rfl KD
set_option maxRecDepth 100000 in
set_option maxHeartbeats 4000000 in
theorem impl_shapeOf.c_l1 (k : Nat) (ih : Kp (∀ m, m < k → impl_shapeOf.C m)) (r1 : List Int) (r2 : Bool) (w : World) (ro : Nat → Prop) (B : Nat) (hF : Fr TE (cx0 Tryd.f33 none w ro B)) (J0 : St → Prop) (hJ0 : ∀ m σ, m ≤ k → impl_shapeOf.I0 r1 r2 m σ → J0 σ) (x6 : List Int) (x9 : Int) (x17 : List (List Int)) (x18 : Int) (x19 : Int) (x23 : List Int) (x24 : Int) (x25 : Int) (h : impl_shapeOf.l1 k x6 x9 x17 x18 x19 x23 x24 x25 = some (r1, r2)) : Kp (WS TE (cx0 Tryd.f33 none w ro B) (stkAt [1, 1, 0, 1, 0, 0, 1, 1, 0, 0, 1, 1, 0, 1, 0] [J0] (bodyOf Tryd.f33) []) ⟨[(6, .ow 1006 0), (9, .v (.int .i64 x9)), (17, .sl 1 (rX (cL (cI .i64) 1) x17)), (18, .v (.int .i64 x18)), (19, .v (.int .i64 x19)), (23, .sl 1 (rX (cI .i64) x23)), (24, .v (.int .i64 x24)), (25, .v (.int .i64 x25))], [(1006, .own 0 3 1 (rX (cI .i64) x6))]⟩ (RetQ TE Tryd.f33 none [.own 3 1 (rX (cI .i64) r1), .ro (.v (.bool r2))] [] w ro B)) := by
 refine ⟨WS.loop (fun m σ => m ≤ k ∧ impl_shapeOf.I1 r1 r2 m σ) k ⟨Nat.le_refl k, x6, x9, x17, x18, x19, x23, x24, x25, h, rfl⟩ (fun m σ' hI J1 hJ1 => ?_)⟩
 clear h
 obtain ⟨hk, x6, x9, x17, x18, x19, x23, x24, x25, h, rfl⟩ := hI
 cases m with
 | zero => simp [impl_shapeOf.l1] at h
 | succ k' =>
 simp only [impl_shapeOf.l1] at h
 by_cases c5 : x25 < x24
 · rw [if_pos c5] at h
   by_cases c6 : 0 ≤ x25
   · rw [if_pos c6] at h
     by_cases c7 : x25 < (x23.length : Int)
     · rw [if_pos c7] at h
       by_cases c8 : x25 > 0
       · rw [if_pos c8] at h
         by_cases c9 : (rd x23 x25) = x9
         · rw [if_pos c9] at h
           refine path_ok (k := 17) hF (RetQ_mild _ _ _ _ _ _ _ _) (ds := [.b true, .e 28 (.rf [.v (.int .i64 (rd x23 x25))]), .b true, .b true, .b true, .b true, .b false]) (os := []) (c := none) rfl KD ?_
           exact WS.lpc [(1006, some 1006)] (hJ1 _ _ (Nat.lt_succ_self _) ⟨by omega, x6, (rd x23 x25), x17, x18, x19, x23, x24, (wrap64 (x25 + 1)), h, rfl⟩) KD
         · rw [if_neg c9] at h
           refine path_ok (k := 16) hF (RetQ_mild _ _ _ _ _ _ _ _) (ds := [.b true, .e 28 (.rf [.v (.int .i64 (rd x23 x25))]), .b true, .b true, .b true, .b true, .b true]) (os := []) (c := none) rfl KD ?_
           cases h
           exact ret_as (ms := [.nil 3 1, .ro]) rfl KD
       · rw [if_neg c8] at h
         refine path_ok (k := 17) hF (RetQ_mild _ _ _ _ _ _ _ _) (ds := [.b true, .e 28 (.rf [.v (.int .i64 (rd x23 x25))]), .b false, .b false, .b false, .b false, .b false]) (os := []) (c := none) rfl KD ?_
         exact WS.lpc [(1006, some 1006)] (hJ1 _ _ (Nat.lt_succ_self _) ⟨by omega, x6, (rd x23 x25), x17, x18, x19, x23, x24, (wrap64 (x25 + 1)), h, rfl⟩) KD
     · rw [if_neg c7] at h
       cases h
   · rw [if_neg c6] at h
     cases h
 · rw [if_neg c5] at h
   by_cases c10 : x6.length < 17592186044416
   · rw [if_pos c10] at h
     refine path_ok (k := 8) hF (RetQ_mild _ _ _ _ _ _ _ _) (ds := [.b false, .p 41 ([[.v (.int .i64 x9)]]), .o 42 (rX (cI .i64) (x6 ++ [x9]))]) (os := []) (c := none) rfl KD ?_
     exact WS.lpc [(1006, some 1006)] (hJ0 _ _ (by omega) ⟨(x6 ++ [x9]), x17, x18, (wrap64 (x19 + 1)), h, rfl⟩) KD
   · rw [if_neg c10] at h
     cases h
theorem impl_shapeOf.cs (k : Nat) : impl_shapeOf.C k := by
 induction k using Nat.strongRecOn with
 | _ k ih0 =>
 have ih : Kp (∀ m, m < k → impl_shapeOf.C m) := ⟨ih0⟩
 exact ⟨impl_shapeOf.c_l0 k ih, impl_shapeOf.c_l1 k ih⟩
set_option maxRecDepth 100000 in
set_option maxHeartbeats 4000000 in
theorem impl_shapeOf.ctr (k : Nat) (a0_0 : Int) (l0_1 : List (S55)) (a1 : Int) (r1 : List Int) (r2 : Bool) (h : impl_shapeOf.f k a0_0 l0_1 a1 = some (r1, r2)) : Ctr TE 33 none [.ag [.v (.int .i64 a0_0), .sl 2 (r55 l0_1)], .v (.int .i64 a1)] [.own 3 1 (rX (cI .i64) r1), .ro (.v (.bool r2))] [] := by
 refine ctr_of (fn := Tryd.f33) (c := (bodyOf Tryd.f33)) Tryd.func33 rfl (by kernel_rfl) (Nat.le_of_ble_eq_true (by kernel_rfl)) (fun w ro B hF _ => ?_)
 have ih : Kp (∀ m, m < k + 1 → impl_shapeOf.C m) := ⟨fun m _ => impl_shapeOf.cs m⟩
 simp only [impl_shapeOf.f] at h
 obtain ⟨⟨t132, t135⟩, q1, h⟩ := Option.bind_eq_some_iff.1 h
 dsimp only at h
 have q1c := impl_laid.ctr k _ _ _ _ q1
 refine path_ok (k := 8) hF (RetQ_mild _ _ _ _ _ _ _ _) (ds := [.p 12 ([]), .p 14 ([[.v (.int .i64 a0_0), .sl 2 (r55 l0_1)]]), .r [.ro (.ag [.sl 1 (rX (cL (cI .i64) 1) t132), .sl 1 (rX (cI .i64) t135)])] [], .e 18 (.v (.int .i64 (t132.length : Int)))]) (os := []) (c := none) rfl KD ?_
 exact WS.can [(1006, some 12)] (((ih.out k (by omega)).s_l0  r1 r2 w ro B hF (([] : List Int)) t132 (t132.length : Int) 0 h).out) KD
def impl_ShapeOf.f (k : Nat) (a0 : ByteArray) (a1 : Int) : Option (List Int × Bool) := (impl_arrOf.f k a0 a1).bind fun bt143 => (if bt143.2.2 = true then ((impl_shapeOf.f k bt143.1 bt143.2.1 a1).bind fun bt149 => (some (bt149.1, bt149.2))) else (some (([] : List Int), false)))
set_option maxRecDepth 100000 in
set_option maxHeartbeats 4000000 in
theorem impl_ShapeOf.ctr (k : Nat) (a0 : ByteArray) (a1 : Int) (r1 : List Int) (r2 : Bool) (h : impl_ShapeOf.f k a0 a1 = some (r1, r2)) : Ctr TE 7 none [.v (.string a0), .v (.int .i64 a1)] [.own 3 1 (rX (cI .i64) r1), .ro (.v (.bool r2))] [] := by
 refine ctr_of (fn := Tryd.f7) (c := (bodyOf Tryd.f7)) Tryd.func7 rfl (by kernel_rfl) (Nat.le_of_ble_eq_true (by kernel_rfl)) (fun w ro B hF _ => ?_)
 simp only [impl_ShapeOf.f] at h
 obtain ⟨⟨t143, t144, t147⟩, q1, h⟩ := Option.bind_eq_some_iff.1 h
 dsimp only at h
 have q1c := impl_arrOf.ctr k _ _ _ _ _ q1
 by_cases c2 : t147 = true
 · rw [if_pos c2] at h
   obtain ⟨⟨t149, t152⟩, q3, h⟩ := Option.bind_eq_some_iff.1 h
   dsimp only at h
   have q3c := impl_shapeOf.ctr k _ _ _ _ _ q3
   refine path_ok (k := 12) hF (RetQ_mild _ _ _ _ _ _ _ _) (ds := [.r [.ro (.ag [.v (.int .i64 t143), .sl 2 (r55 t144)]), .ro (.v (.bool t147))] [], .b false, .r [.own 3 1 (rX (cI .i64) t149), .ro (.v (.bool t152))] []]) (os := []) (c := none) rfl KD ?_
   cases h
   exact ret_as (ms := [.own, .ro]) rfl KD
 · rw [if_neg c2] at h
   refine path_ok (k := 11) hF (RetQ_mild _ _ _ _ _ _ _ _) (ds := [.r [.ro (.ag [.v (.int .i64 t143), .sl 2 (r55 t144)]), .ro (.v (.bool t147))] [], .b true]) (os := []) (c := none) rfl KD ?_
   cases h
   exact ret_as (ms := [.nil 3 1, .ro]) rfl KD
def laws_faSame.l0 : Nat → List Int → List Int → Int → Int → Option (Bool)
  | 0, _, _, _, _ => none
  | k + 1, x0, x1, x10, x11 => if x11 < x10 then (if 0 ≤ x11 then (if x11 < (x0.length : Int) then (if x11 < (x1.length : Int) then (if (rd x0 x11) = (rd x1 x11) then (laws_faSame.l0 k x0 x1 x10 (wrap64 (x11 + 1))) else (some false)) else (none)) else (none)) else (none)) else (some ((x0.length : Int) == (x1.length : Int)))
def laws_faSame.f (k : Nat) (l0 : List Int) (l1 : List Int) : Option (Bool) := laws_faSame.l0 k l0 l1 (mn (l0.length : Int) (l1.length : Int)) 0
def laws_faSame.I0 (r : Bool) (m : Nat) (σ : St) : Prop := ∃ (x0 : List Int) (x1 : List Int) (x10 : Int) (x11 : Int), laws_faSame.l0 m x0 x1 x10 x11 = some r ∧ σ = ⟨[(0, .sl 1 (rX (cI .i64) x0)), (1, .sl 1 (rX (cI .i64) x1)), (10, .v (.int .i64 x10)), (11, .v (.int .i64 x11))], []⟩
structure laws_faSame.C (k : Nat) : Prop where
 s_l0 : ∀ (r : Bool) (w : World) (ro : Nat → Prop) (B : Nat) (_ : Fr TE (cx0 Tryd.f9 none w ro B)) (x0 : List Int) (x1 : List Int) (x10 : Int) (x11 : Int) (_ : laws_faSame.l0 k x0 x1 x10 x11 = some r), Kp (WS TE (cx0 Tryd.f9 none w ro B) (stkAt [1, 0, 1, 0] [] (bodyOf Tryd.f9) []) ⟨[(0, .sl 1 (rX (cI .i64) x0)), (1, .sl 1 (rX (cI .i64) x1)), (10, .v (.int .i64 x10)), (11, .v (.int .i64 x11))], []⟩ (RetQ TE Tryd.f9 none [.ro (.v (.bool r))] [] w ro B))
set_option maxRecDepth 100000 in
set_option maxHeartbeats 4000000 in
theorem laws_faSame.c_l0 (k : Nat) (ih : Kp (∀ m, m < k → laws_faSame.C m)) (r : Bool) (w : World) (ro : Nat → Prop) (B : Nat) (hF : Fr TE (cx0 Tryd.f9 none w ro B)) (x0 : List Int) (x1 : List Int) (x10 : Int) (x11 : Int) (h : laws_faSame.l0 k x0 x1 x10 x11 = some r) : Kp (WS TE (cx0 Tryd.f9 none w ro B) (stkAt [1, 0, 1, 0] [] (bodyOf Tryd.f9) []) ⟨[(0, .sl 1 (rX (cI .i64) x0)), (1, .sl 1 (rX (cI .i64) x1)), (10, .v (.int .i64 x10)), (11, .v (.int .i64 x11))], []⟩ (RetQ TE Tryd.f9 none [.ro (.v (.bool r))] [] w ro B)) := by
 refine ⟨WS.loop (fun m σ => m ≤ k ∧ laws_faSame.I0 r m σ) k ⟨Nat.le_refl k, x0, x1, x10, x11, h, rfl⟩ (fun m σ' hI J0 hJ0 => ?_)⟩
 clear h
 obtain ⟨hk, x0, x1, x10, x11, h, rfl⟩ := hI
 cases m with
 | zero => simp [laws_faSame.l0] at h
 | succ k' =>
 simp only [laws_faSame.l0] at h
 by_cases c1 : x11 < x10
 · rw [if_pos c1] at h
   by_cases c2 : 0 ≤ x11
   · rw [if_pos c2] at h
     by_cases c3 : x11 < (x0.length : Int)
     · rw [if_pos c3] at h
       by_cases c4 : x11 < (x1.length : Int)
       · rw [if_pos c4] at h
         by_cases c5 : (rd x0 x11) = (rd x1 x11)
         · rw [if_pos c5] at h
           refine path_ok (k := 15) hF (RetQ_mild _ _ _ _ _ _ _ _) (ds := [.b true, .e 16 (.rf [.v (.int .i64 (rd x0 x11))]), .e 20 (.rf [.v (.int .i64 (rd x1 x11))]), .b false]) (os := [.o [(0, 0), (1, 0), (2, 0), (3, 1), (4, 0), (5, 0), (6, 0), (7, 1), (8, 0)] []]) (c := none) rfl KD ?_
           exact WS.lpc [] (hJ0 _ _ (Nat.lt_succ_self _) ⟨by omega, x0, x1, x10, (wrap64 (x11 + 1)), h, rfl⟩) KD
         · rw [if_neg c5] at h
           refine path_ok (k := 15) hF (RetQ_mild _ _ _ _ _ _ _ _) (ds := [.b true, .e 16 (.rf [.v (.int .i64 (rd x0 x11))]), .e 20 (.rf [.v (.int .i64 (rd x1 x11))]), .b true]) (os := [.o [(0, 0), (1, 0), (2, 0), (3, 1), (4, 0), (5, 0), (6, 0), (7, 1), (8, 0)] []]) (c := none) rfl KD ?_
           cases h
           exact ret_as (ms := [.ro]) rfl KD
       · rw [if_neg c4] at h
         cases h
     · rw [if_neg c3] at h
       cases h
   · rw [if_neg c2] at h
     cases h
 · rw [if_neg c1] at h
   refine path_ok (k := 8) hF (RetQ_mild _ _ _ _ _ _ _ _) (ds := [.b false, .e 25 (.v (.int .i64 (x0.length : Int))), .e 27 (.v (.int .i64 (x1.length : Int)))]) (os := []) (c := none) rfl KD ?_
   cases h
   exact ret_as (ms := [.ro]) rfl KD
theorem laws_faSame.cs (k : Nat) : laws_faSame.C k := by
 induction k using Nat.strongRecOn with
 | _ k ih0 =>
 have ih : Kp (∀ m, m < k → laws_faSame.C m) := ⟨ih0⟩
 exact ⟨laws_faSame.c_l0 k ih⟩
set_option maxRecDepth 100000 in
set_option maxHeartbeats 4000000 in
theorem laws_faSame.ctr (k : Nat) (l0 : List Int) (l1 : List Int) (r : Bool) (h : laws_faSame.f k l0 l1 = some r) : Ctr TE 9 none [.sl 1 (rX (cI .i64) l0), .sl 1 (rX (cI .i64) l1)] [.ro (.v (.bool r))] [] := by
 refine ctr_of (fn := Tryd.f9) (c := (bodyOf Tryd.f9)) Tryd.func9 rfl (by kernel_rfl) (Nat.le_of_ble_eq_true (by kernel_rfl)) (fun w ro B hF _ => ?_)
 have ih : Kp (∀ m, m < k + 1 → laws_faSame.C m) := ⟨fun m _ => laws_faSame.cs m⟩
 simp only [laws_faSame.f] at h
 refine path_ok (k := 6) hF (RetQ_mild _ _ _ _ _ _ _ _) (ds := [.e 7 (.v (.int .i64 (l0.length : Int))), .e 9 (.v (.int .i64 (l1.length : Int)))]) (os := []) (c := none) rfl KD ?_
 exact WS.can [] (((ih.out k (by omega)).s_l0  r w ro B hF l0 l1 (mn (l0.length : Int) (l1.length : Int)) 0 h).out) KD
def spec_l13Open.f (l0 : List Int) : Option (List Int × Int) := if (l0.length : Int) > 2000 then (if 2000 ≤ (l0.length : Int) then (some (l0.take 2000, 0)) else (none)) else (some (l0, 0))
set_option maxRecDepth 100000 in
set_option maxHeartbeats 4000000 in
theorem spec_l13Open.ctr (l0 : List Int) (r1 : List Int) (r2 : Int) (h : spec_l13Open.f l0 = some (r1, r2)) : Ctr TE 28 none [.sl 1 (rX (cI .u8) l0)] [.nb 88 [.sl 1 (rX (cI .u8) r1), .v (.int .i64 r2)]] [] := by
 refine ctr_of (fn := Tryd.f28) (c := (bodyOf Tryd.f28)) Tryd.func28 rfl (by kernel_rfl) (Nat.le_of_ble_eq_true (by kernel_rfl)) (fun w ro B hF _ => ?_)
 simp only [spec_l13Open.f] at h
 by_cases c1 : (l0.length : Int) > 2000
 · rw [if_pos c1] at h
   by_cases c2 : 2000 ≤ (l0.length : Int)
   · rw [if_pos c2] at h
     refine path_ok (k := 10) hF (RetQ_mild _ _ _ _ _ _ _ _) (ds := [.e 4 (.v (.int .i64 (l0.length : Int))), .b true, .e 7 (.sl 1 (rX (cI .u8) (l0.take 2000)))]) (os := []) (c := none) rfl KD ?_
     cases h
     exact ret_as (ms := [.nb]) rfl KD
   · rw [if_neg c2] at h
     cases h
 · rw [if_neg c1] at h
   refine path_ok (k := 10) hF (RetQ_mild _ _ _ _ _ _ _ _) (ds := [.e 4 (.v (.int .i64 (l0.length : Int))), .b false]) (os := []) (c := none) rfl KD ?_
   cases h
   exact ret_as (ms := [.nb]) rfl KD
end Go.Proofs.YtlhejcogdjelpaaDoor.G
