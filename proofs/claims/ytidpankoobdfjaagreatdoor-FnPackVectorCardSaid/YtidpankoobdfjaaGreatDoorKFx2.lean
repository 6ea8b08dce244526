/- A part of the claim. -/
import Derived.Test.YtidpankoobdfjaaGreatDoorKFx0
import Derived.Test.YtidpankoobdfjaaGreatDoorKFSgc
import Derived.Test.YtidpankoobdfjaaGreatDoorKFSgz
-- PRINTED by print.py (a twelfth state) out of the translation. Not trusted: Lean checks it.
namespace Go.Proofs.YtidpankoobdfjaaGreatDoor.K
open Go.RowKit Go.Proofs.YtidpankoobdfjaaGreatDoorW.St Go.Proofs.YtidpankoobdfjaaGreatDoorW.PrintWords Go.Proofs.YtidpankoobdfjaaGreatDoorW.PrintLast Go.Proofs.YtidpankoobdfjaaGreatDoorW.PrintMore
attribute [local go_sem] max2_int min2_int max_two min_two max_three min_three max_four min_four   -- for this text's walks alone
set_option linter.unusedVariables false
set_option linter.unusedSimpArgs false
mutual
def impl_readArr.j1 : Nat → ByteArray → Int → Option (Int × (List (S68)) × ByteArray × Bool)
  | 0, _, _ => none
  | k + 1, x0, x7 => if 0 ≤ x7 then (if x7 ≤ (x0.size : Int) then ((strconv_Atoi.f (x0.extract 0 (x7 : Int).toNat)).bind fun bt168 => (if bt168.2.isNone = true then (if bt168.1 ≥ 10007 then (some (0, ([] : List (S68)), (⟨#[]⟩ : ByteArray), false)) else ((strconv_Itoa.f bt168.1).bind fun t171 => (if t171.toList = (x0.extract 0 (x7 : Int).toNat).toList then (some (bt168.1, ([] : List (S68)), x0.extract (x7 : Int).toNat x0.size, true)) else (some (0, ([] : List (S68)), (⟨#[]⟩ : ByteArray), false))))) else (some (0, ([] : List (S68)), (⟨#[]⟩ : ByteArray), false)))) else (none)) else (none)
def impl_readArr.l0 : Nat → ByteArray → Int → Option (Int × (List (S68)) × ByteArray × Bool)
  | 0, _, _ => none
  | k + 1, x0, x7 => if x7 < (x0.size : Int) then (if 0 ≤ x7 then (if (bt x0 x7) ≥ 48 then (if (bt x0 x7) ≤ 57 then (impl_readArr.l0 k x0 (wrap64 (x7 + 1))) else (impl_readArr.j1 k x0 x7)) else (impl_readArr.j1 k x0 x7)) else (none)) else (impl_readArr.j1 k x0 x7)
def impl_readArr.j2 : Nat → ByteArray → Int → Bool → Option (Int × (List (S68)) × ByteArray × Bool)
  | 0, _, _, _ => none
  | k + 1, x0, x1, x67 => if x67 = true then (some (0, ([] : List (S68)), (⟨#[]⟩ : ByteArray), false)) else (if 1 ≤ (x0.size : Int) then (impl_readArr.l1 k (x0.extract 1 x0.size) x1 0 ([] : List (S68))) else (none))
def impl_readArr.l1 : Nat → ByteArray → Int → Int → List (S68) → Option (Int × (List (S68)) × ByteArray × Bool)
  | 0, _, _, _, _ => none
  | k + 1, x0, x1, x173000, x173001 => if x0.toList = ([] : List UInt8) then (impl_readArr.j4 k x0 x1 false x173000 x173001) else (if 0 < (x0.size : Int) then (if (bt x0 0) = 93 then (impl_readArr.j4 k x0 x1 (decide ((x173001.length : Int) > 0)) x173000 x173001) else (impl_readArr.j4 k x0 x1 true x173000 x173001)) else (none))
def impl_readArr.j4 : Nat → ByteArray → Int → Bool → Int → List (S68) → Option (Int × (List (S68)) × ByteArray × Bool)
  | 0, _, _, _, _, _ => none
  | k + 1, x0, x1, x83, x173000, x173001 => if x83 = true then ((impl_readArr.f k x0 (wrap64 (x1 - 1))).bind fun bt173 => (if bt173.2.2.2 = true then (if bt173.2.2.1.toList = ([] : List UInt8) then (impl_readArr.j5 k x1 bt173.2.2.1 true x173000 x173001 bt173.1 bt173.2.1) else (if 0 < (bt173.2.2.1.size : Int) then (if (bt bt173.2.2.1 0) = 44 then (impl_readArr.j5 k x1 bt173.2.2.1 false x173000 x173001 bt173.1 bt173.2.1) else (impl_readArr.j5 k x1 bt173.2.2.1 ((bt bt173.2.2.1 0) != 93) x173000 x173001 bt173.1 bt173.2.1)) else (none))) else (impl_readArr.j5 k x1 bt173.2.2.1 true x173000 x173001 bt173.1 bt173.2.1))) else (if x0.toList = ([] : List UInt8) then (some (0, ([] : List (S68)), (⟨#[]⟩ : ByteArray), false)) else (if 1 ≤ (x0.size : Int) then (some (x173000, x173001, x0.extract 1 x0.size, true)) else (none)))
def impl_readArr.j5 : Nat → Int → ByteArray → Bool → Int → List (S68) → Int → List (S68) → Option (Int × (List (S68)) × ByteArray × Bool)
  | 0, _, _, _, _, _, _, _ => none
  | k + 1, x1, x12, x107, x173000, x173001, x180000, x180001 => if x107 = true then (some (0, ([] : List (S68)), (⟨#[]⟩ : ByteArray), false)) else (if x173001.length < 4398046511104 then ((some (x173001 ++ [(⟨x180000, x180001⟩ : S68)] : List (S68))).bind fun y180 => (if 0 < (x12.size : Int) then (if (bt x12 0) = 93 then (if 1 ≤ (x12.size : Int) then (some (x173000, y180, x12.extract 1 x12.size, true)) else (none)) else (if 1 ≤ (x12.size : Int) then (impl_readArr.l1 k (x12.extract 1 x12.size) x1 x173000 y180) else (none))) else (none))) else (none))
def impl_readArr.f : Nat → ByteArray → Int → Option (Int × (List (S68)) × ByteArray × Bool)
  | 0, _, _ => none
  | k + 1, a0, a1 => if a1 = 0 then (impl_readArr.l0 k a0 0) else (if a0.toList = ([] : List UInt8) then (impl_readArr.j2 k a0 a1 true) else (if 0 < (a0.size : Int) then (impl_readArr.j2 k a0 a1 ((bt a0 0) != 91)) else (none)))
end
def impl_readArr.I0 (r1 : Int) (r2 : List (S68)) (r3 : ByteArray) (r4 : Bool) (m : Nat) (σ : St) : Prop := ∃ (x0 : ByteArray) (x7 : Int) (x168000 : Int), impl_readArr.l0 m x0 x7 = some (r1, r2, r3, r4) ∧ σ = ⟨[(0, .v (.string x0)), (4, .pt 1004 0 0), (7, .v (.int .i64 x7))], [(1004, .box 0 68 false [.v (.int .i64 x168000), .v (.slice none 0 0)])]⟩
def impl_readArr.I1 (r1 : Int) (r2 : List (S68)) (r3 : ByteArray) (r4 : Bool) (m : Nat) (σ : St) : Prop := ∃ (x0 : ByteArray) (x1 : Int) (x168000 : Int) (x173000 : Int) (x173001 : List (S68)), impl_readArr.l1 m x0 x1 x173000 x173001 = some (r1, r2, r3, r4) ∧ σ = ⟨[(0, .v (.string x0)), (1, .v (.int .i64 x1)), (4, .pt 1004 0 0), (10, .pt 1010 0 0)], [(1004, .box 0 68 false [.v (.int .i64 x168000), .v (.slice none 0 0)]), (3641, .own 0 68 2 (r68 x173001)), (1010, .box 0 68 false [.v (.int .i64 x173000), .ow 3641 0])]⟩
structure impl_readArr.C (k : Nat) : Prop where
 s_f : ∀ (a0 : ByteArray) (a1 : Int) (r1 : Int) (r2 : List (S68)) (r3 : ByteArray) (r4 : Bool), impl_readArr.f k a0 a1 = some (r1, r2, r3, r4) → Ctr TE 85 none [.v (.string a0), .v (.int .i64 a1)] [.ro (.ag [.v (.int .i64 r1), .sl 2 (r68 r2)]), .ro (.v (.string r3)), .ro (.v (.bool r4))] []
 s_j1 : ∀ (r1 : Int) (r2 : List (S68)) (r3 : ByteArray) (r4 : Bool) (w : World) (ro : Nat → Prop) (B : Nat) (_ : Fr TE (cx0 Tryz.f85 none w ro B)) (x0 : ByteArray) (x7 : Int) (x168000 : Int) (_ : impl_readArr.j1 k x0 x7 = some (r1, r2, r3, r4)), Kp (WS TE (cx0 Tryz.f85 none w ro B) (stkAt [1, 0, 1, 0, 1, 0, 9] [] (bodyOf Tryz.f85) []) ⟨[(0, .v (.string x0)), (4, .pt 1004 0 0), (7, .v (.int .i64 x7))], [(1004, .box 0 68 false [.v (.int .i64 x168000), .v (.slice none 0 0)])]⟩ (RetQ TE Tryz.f85 none [.ro (.ag [.v (.int .i64 r1), .sl 2 (r68 r2)]), .ro (.v (.string r3)), .ro (.v (.bool r4))] [] w ro B))
 s_l0 : ∀ (r1 : Int) (r2 : List (S68)) (r3 : ByteArray) (r4 : Bool) (w : World) (ro : Nat → Prop) (B : Nat) (_ : Fr TE (cx0 Tryz.f85 none w ro B)) (x0 : ByteArray) (x7 : Int) (x168000 : Int) (_ : impl_readArr.l0 k x0 x7 = some (r1, r2, r3, r4)), Kp (WS TE (cx0 Tryz.f85 none w ro B) (stkAt [1, 0, 1, 0, 1, 0, 0] [] (bodyOf Tryz.f85) []) ⟨[(0, .v (.string x0)), (4, .pt 1004 0 0), (7, .v (.int .i64 x7))], [(1004, .box 0 68 false [.v (.int .i64 x168000), .v (.slice none 0 0)])]⟩ (RetQ TE Tryz.f85 none [.ro (.ag [.v (.int .i64 r1), .sl 2 (r68 r2)]), .ro (.v (.string r3)), .ro (.v (.bool r4))] [] w ro B))
 s_j2 : ∀ (r1 : Int) (r2 : List (S68)) (r3 : ByteArray) (r4 : Bool) (w : World) (ro : Nat → Prop) (B : Nat) (_ : Fr TE (cx0 Tryz.f85 none w ro B)) (x0 : ByteArray) (x1 : Int) (x67 : Bool) (x168000 : Int) (_ : impl_readArr.j2 k x0 x1 x67 = some (r1, r2, r3, r4)), Kp (WS TE (cx0 Tryz.f85 none w ro B) (stkAt [1, 1, 0, 0, 9] [] (bodyOf Tryz.f85) []) ⟨[(0, .v (.string x0)), (1, .v (.int .i64 x1)), (4, .pt 1004 0 0), (67, .v (.bool x67))], [(1004, .box 0 68 false [.v (.int .i64 x168000), .v (.slice none 0 0)])]⟩ (RetQ TE Tryz.f85 none [.ro (.ag [.v (.int .i64 r1), .sl 2 (r68 r2)]), .ro (.v (.string r3)), .ro (.v (.bool r4))] [] w ro B))
 s_l1 : ∀ (r1 : Int) (r2 : List (S68)) (r3 : ByteArray) (r4 : Bool) (w : World) (ro : Nat → Prop) (B : Nat) (_ : Fr TE (cx0 Tryz.f85 none w ro B)) (x0 : ByteArray) (x1 : Int) (x168000 : Int) (x173000 : Int) (x173001 : List (S68)) (_ : impl_readArr.l1 k x0 x1 x173000 x173001 = some (r1, r2, r3, r4)), Kp (WS TE (cx0 Tryz.f85 none w ro B) (stkAt [1, 1, 1, 1, 0, 1, 0] [] (bodyOf Tryz.f85) []) ⟨[(0, .v (.string x0)), (1, .v (.int .i64 x1)), (4, .pt 1004 0 0), (10, .pt 1010 0 0)], [(1004, .box 0 68 false [.v (.int .i64 x168000), .v (.slice none 0 0)]), (3641, .own 0 68 2 (r68 x173001)), (1010, .box 0 68 false [.v (.int .i64 x173000), .ow 3641 0])]⟩ (RetQ TE Tryz.f85 none [.ro (.ag [.v (.int .i64 r1), .sl 2 (r68 r2)]), .ro (.v (.string r3)), .ro (.v (.bool r4))] [] w ro B))
 s_j4 : ∀ (r1 : Int) (r2 : List (S68)) (r3 : ByteArray) (r4 : Bool) (w : World) (ro : Nat → Prop) (B : Nat) (_ : Fr TE (cx0 Tryz.f85 none w ro B)) (J1 : St → Prop) (_ : ∀ m σ, m ≤ k → impl_readArr.I1 r1 r2 r3 r4 m σ → J1 σ) (x0 : ByteArray) (x1 : Int) (x83 : Bool) (x168000 : Int) (x173000 : Int) (x173001 : List (S68)) (_ : impl_readArr.j4 k x0 x1 x83 x173000 x173001 = some (r1, r2, r3, r4)), Kp (WS TE (cx0 Tryz.f85 none w ro B) (stkAt [1, 1, 1, 1, 0, 1, 0, 0, 0, 0, 9] [J1] (bodyOf Tryz.f85) []) ⟨[(0, .v (.string x0)), (1, .v (.int .i64 x1)), (4, .pt 1004 0 0), (10, .pt 1010 0 0), (83, .v (.bool x83))], [(1004, .box 0 68 false [.v (.int .i64 x168000), .v (.slice none 0 0)]), (3641, .own 0 68 2 (r68 x173001)), (1010, .box 0 68 false [.v (.int .i64 x173000), .ow 3641 0])]⟩ (RetQ TE Tryz.f85 none [.ro (.ag [.v (.int .i64 r1), .sl 2 (r68 r2)]), .ro (.v (.string r3)), .ro (.v (.bool r4))] [] w ro B))
 s_j5 : ∀ (r1 : Int) (r2 : List (S68)) (r3 : ByteArray) (r4 : Bool) (w : World) (ro : Nat → Prop) (B : Nat) (_ : Fr TE (cx0 Tryz.f85 none w ro B)) (J1 : St → Prop) (_ : ∀ m σ, m ≤ k → impl_readArr.I1 r1 r2 r3 r4 m σ → J1 σ) (x1 : Int) (x12 : ByteArray) (x107 : Bool) (x168000 : Int) (x173000 : Int) (x173001 : List (S68)) (x180000 : Int) (x180001 : List (S68)) (_ : impl_readArr.j5 k x1 x12 x107 x173000 x173001 x180000 x180001 = some (r1, r2, r3, r4)), Kp (WS TE (cx0 Tryz.f85 none w ro B) (stkAt [1, 1, 1, 1, 0, 1, 0, 0, 1, 0, 1, 0, 0, 9] [J1] (bodyOf Tryz.f85) []) ⟨[(1, .v (.int .i64 x1)), (4, .pt 1004 0 0), (10, .pt 1010 0 0), (11, .pt 1011 0 0), (12, .v (.string x12)), (107, .v (.bool x107))], [(1004, .box 0 68 false [.v (.int .i64 x168000), .v (.slice none 0 0)]), (3641, .own 0 68 2 (r68 x173001)), (1010, .box 0 68 false [.v (.int .i64 x173000), .ow 3641 0]), (1011, .box 0 68 false [.v (.int .i64 x180000), .sl 2 (r68 x180001)])]⟩ (RetQ TE Tryz.f85 none [.ro (.ag [.v (.int .i64 r1), .sl 2 (r68 r2)]), .ro (.v (.string r3)), .ro (.v (.bool r4))] [] w ro B))
set_option maxRecDepth 100000 in
set_option maxHeartbeats 4000000 in
theorem impl_readArr.c_f (k : Nat) (ih : Kp (∀ m, m < k → impl_readArr.C m)) (a0 : ByteArray) (a1 : Int) (r1 : Int) (r2 : List (S68)) (r3 : ByteArray) (r4 : Bool) (h : impl_readArr.f k a0 a1 = some (r1, r2, r3, r4)) : Ctr TE 85 none [.v (.string a0), .v (.int .i64 a1)] [.ro (.ag [.v (.int .i64 r1), .sl 2 (r68 r2)]), .ro (.v (.string r3)), .ro (.v (.bool r4))] [] := by
 cases k with
 | zero => simp [impl_readArr.f] at h
 | succ k =>
 simp only [impl_readArr.f] at h
 refine ctr_of (fn := Tryz.f85) (c := (bodyOf Tryz.f85)) Tryz.func85 rfl (by kernel_rfl) (Nat.le_of_ble_eq_true (by kernel_rfl)) (fun w ro B hF _ => ?_)
 by_cases c1 : a1 = 0
 · rw [if_pos c1] at h
   refine path_ok (k := 10) hF (RetQ_mild _ _ _ _ _ _ _ _) (ds := [.b true]) (os := []) (c := none) rfl KD ?_
   exact WS.can [(1004, some 4)] (((ih.out k (by omega)).s_l0  r1 r2 r3 r4 w ro B hF a0 0 0 h).out) KD
 · rw [if_neg c1] at h
   by_cases c2 : a0.toList = ([] : List UInt8)
   · rw [if_pos c2] at h
     refine path_ok (k := 10) hF (RetQ_mild _ _ _ _ _ _ _ _) (ds := [.b false, .b true, .b true, .b true, .b true]) (os := []) (c := none) rfl KD ?_
     exact WS.can [(1004, some 4)] (((ih.out k (by omega)).s_j2  r1 r2 r3 r4 w ro B hF a0 a1 true 0 h).out) KD
   · rw [if_neg c2] at h
     by_cases c3 : 0 < (a0.size : Int)
     · rw [if_pos c3] at h
       have hb3 := bt_range a0 0
       refine path_ok (k := 10) hF (RetQ_mild _ _ _ _ _ _ _ _) (ds := [.b false, .b false, .b false, .b false, .b false]) (os := []) (c := none) rfl KD ?_
       exact WS.can [(1004, some 4)] (((ih.out k (by omega)).s_j2  r1 r2 r3 r4 w ro B hF a0 a1 ((bt a0 0) != 91) 0 h).out) KD
     · rw [if_neg c3] at h
       cases h
set_option maxRecDepth 100000 in
set_option maxHeartbeats 4000000 in
theorem impl_readArr.c_j1 (k : Nat) (ih : Kp (∀ m, m < k → impl_readArr.C m)) (r1 : Int) (r2 : List (S68)) (r3 : ByteArray) (r4 : Bool) (w : World) (ro : Nat → Prop) (B : Nat) (hF : Fr TE (cx0 Tryz.f85 none w ro B)) (x0 : ByteArray) (x7 : Int) (x168000 : Int) (h : impl_readArr.j1 k x0 x7 = some (r1, r2, r3, r4)) : Kp (WS TE (cx0 Tryz.f85 none w ro B) (stkAt [1, 0, 1, 0, 1, 0, 9] [] (bodyOf Tryz.f85) []) ⟨[(0, .v (.string x0)), (4, .pt 1004 0 0), (7, .v (.int .i64 x7))], [(1004, .box 0 68 false [.v (.int .i64 x168000), .v (.slice none 0 0)])]⟩ (RetQ TE Tryz.f85 none [.ro (.ag [.v (.int .i64 r1), .sl 2 (r68 r2)]), .ro (.v (.string r3)), .ro (.v (.bool r4))] [] w ro B)) := by
 refine ⟨?_⟩
 cases k with
 | zero => simp [impl_readArr.j1] at h
 | succ k =>
 simp only [impl_readArr.j1] at h
 by_cases c14 : 0 ≤ x7
 · rw [if_pos c14] at h
   by_cases c15 : x7 ≤ (x0.size : Int)
   · rw [if_pos c15] at h
     obtain ⟨⟨t168, t169⟩, q16, h⟩ := Option.bind_eq_some_iff.1 h
     dsimp only at h
     have q16c := strconv_Atoi.ctr _ _ _ q16
     by_cases c17 : t169.isNone = true
     · rw [if_pos c17] at h
       by_cases c18 : t168 ≥ 10007
       · rw [if_pos c18] at h
         refine path_ok (k := 9) hF (RetQ_mild _ _ _ _ _ _ _ _) (ds := [.r [.ro (.v (.int .i64 t168)), .ro (.er t169.isNone)] [], .b false, .b false, .b false, .b true, .b true, .b true, .b true, .b true, .b true, .b true, .b true]) (os := [.o [(0, 0), (1, 0), (2, 0), (3, 0), (4, 0), (5, 0), (6, 0), (7, 0), (9, 0), (10, 0), (11, 0), (8, 2), (12, 0), (13, 0)] []]) (c := none) rfl KD ?_
         cases h
         exact ret_as (ms := [.ro, .ro, .ro]) rfl KD
       · rw [if_neg c18] at h
         obtain ⟨t171, q19, h⟩ := Option.bind_eq_some_iff.1 h
         have q19c := strconv_Itoa.ctr _ _ q19
         by_cases c20 : t171.toList = (x0.extract 0 (x7 : Int).toNat).toList
         · rw [if_pos c20] at h
           refine path_ok (k := 10) hF (RetQ_mild _ _ _ _ _ _ _ _) (ds := [.r [.ro (.v (.int .i64 t168)), .ro (.er t169.isNone)] [], .b false, .b false, .b false, .b false, .b false, .b false, .b false, .b false, .r [.ro (.v (.string t171))] [], .b false, .b false, .b false]) (os := [.o [(0, 0), (1, 0), (2, 0), (3, 0), (4, 0), (5, 0), (6, 0), (7, 0), (9, 0), (10, 0), (11, 0), (8, 2), (12, 0), (13, 0)] [], .o [(0, 0), (1, 0), (2, 0), (3, 0), (4, 0), (5, 2), (6, 0), (7, 0)] [5]]) (c := none) rfl KD ?_
           cases h
           exact ret_as (ms := [.ro, .ro, .ro]) rfl KD
         · rw [if_neg c20] at h
           refine path_ok (k := 9) hF (RetQ_mild _ _ _ _ _ _ _ _) (ds := [.r [.ro (.v (.int .i64 t168)), .ro (.er t169.isNone)] [], .b false, .b false, .b false, .b false, .b false, .b false, .b false, .b false, .r [.ro (.v (.string t171))] [], .b false, .b false, .b true]) (os := [.o [(0, 0), (1, 0), (2, 0), (3, 0), (4, 0), (5, 0), (6, 0), (7, 0), (9, 0), (10, 0), (11, 0), (8, 2), (12, 0), (13, 0)] []]) (c := none) rfl KD ?_
           cases h
           exact ret_as (ms := [.ro, .ro, .ro]) rfl KD
     · rw [if_neg c17] at h
       refine path_ok (k := 9) hF (RetQ_mild _ _ _ _ _ _ _ _) (ds := [.r [.ro (.v (.int .i64 t168)), .ro (.er t169.isNone)] [], .b true, .b true, .b true, .b true, .b true, .b true, .b true, .b true, .b true, .b true, .b true]) (os := [.o [(0, 0), (1, 0), (2, 0), (3, 0), (4, 0), (5, 0), (6, 0), (7, 0), (9, 0), (10, 0), (11, 0), (8, 2), (12, 0), (13, 0)] []]) (c := none) rfl KD ?_
       cases h
       exact ret_as (ms := [.ro, .ro, .ro]) rfl KD
   · rw [if_neg c15] at h
     cases h
 · rw [if_neg c14] at h
   cases h
set_option maxRecDepth 100000 in
set_option maxHeartbeats 4000000 in
theorem impl_readArr.c_l0 (k : Nat) (ih : Kp (∀ m, m < k → impl_readArr.C m)) (r1 : Int) (r2 : List (S68)) (r3 : ByteArray) (r4 : Bool) (w : World) (ro : Nat → Prop) (B : Nat) (hF : Fr TE (cx0 Tryz.f85 none w ro B)) (x0 : ByteArray) (x7 : Int) (x168000 : Int) (h : impl_readArr.l0 k x0 x7 = some (r1, r2, r3, r4)) : Kp (WS TE (cx0 Tryz.f85 none w ro B) (stkAt [1, 0, 1, 0, 1, 0, 0] [] (bodyOf Tryz.f85) []) ⟨[(0, .v (.string x0)), (4, .pt 1004 0 0), (7, .v (.int .i64 x7))], [(1004, .box 0 68 false [.v (.int .i64 x168000), .v (.slice none 0 0)])]⟩ (RetQ TE Tryz.f85 none [.ro (.ag [.v (.int .i64 r1), .sl 2 (r68 r2)]), .ro (.v (.string r3)), .ro (.v (.bool r4))] [] w ro B)) := by
 refine ⟨WS.loop (fun m σ => m ≤ k ∧ impl_readArr.I0 r1 r2 r3 r4 m σ) k ⟨Nat.le_refl k, x0, x7, x168000, h, rfl⟩ (fun m σ' hI J0 hJ0 => ?_)⟩
 clear h
 obtain ⟨hk, x0, x7, x168000, h, rfl⟩ := hI
 cases m with
 | zero => simp [impl_readArr.l0] at h
 | succ k' =>
 simp only [impl_readArr.l0] at h
 by_cases c5 : x7 < (x0.size : Int)
 · rw [if_pos c5] at h
   by_cases c6 : 0 ≤ x7
   · rw [if_pos c6] at h
     by_cases c7 : (bt x0 x7) ≥ 48
     · rw [if_pos c7] at h
       by_cases c8 : (bt x0 x7) ≤ 57
       · rw [if_pos c8] at h
         have hb8 := bt_range x0 x7
         refine path_ok (k := 8) hF (RetQ_mild _ _ _ _ _ _ _ _) (ds := [.b true, .b true, .b true, .b true, .b true, .b true, .b true, .b true, .b true, .b true, .b true]) (os := []) (c := none) rfl KD ?_
         exact WS.lpc [(1004, some 1004)] (hJ0 _ _ (Nat.lt_succ_self _) ⟨by omega, x0, (wrap64 (x7 + 1)), x168000, h, rfl⟩) KD
       · rw [if_neg c8] at h
         have hb9 := bt_range x0 x7
         refine path_ok (k := 5) hF (RetQ_mild _ _ _ _ _ _ _ _) (ds := [.b true, .b true, .b true, .b true, .b true, .b true, .b true, .b true, .b true, .b true, .b false]) (os := []) (c := none) rfl KD ?_
         exact WS.can [(1004, some 1004)] (((ih.out k' (by omega)).s_j1  r1 r2 r3 r4 w ro B hF x0 x7 x168000 h).out) KD
     · rw [if_neg c7] at h
       have hb10 := bt_range x0 x7
       refine path_ok (k := 5) hF (RetQ_mild _ _ _ _ _ _ _ _) (ds := [.b true, .b true, .b true, .b true, .b true, .b false, .b false, .b false, .b false, .b false, .b false]) (os := []) (c := none) rfl KD ?_
       exact WS.can [(1004, some 1004)] (((ih.out k' (by omega)).s_j1  r1 r2 r3 r4 w ro B hF x0 x7 x168000 h).out) KD
   · rw [if_neg c6] at h
     cases h
 · rw [if_neg c5] at h
   refine path_ok (k := 5) hF (RetQ_mild _ _ _ _ _ _ _ _) (ds := [.b false, .b false, .b false, .b false, .b false, .b false, .b false, .b false, .b false, .b false, .b false]) (os := []) (c := none) rfl KD ?_
   exact WS.can [(1004, some 1004)] (((ih.out k' (by omega)).s_j1  r1 r2 r3 r4 w ro B hF x0 x7 x168000 h).out) KD
set_option maxRecDepth 100000 in
set_option maxHeartbeats 4000000 in
theorem impl_readArr.c_j2 (k : Nat) (ih : Kp (∀ m, m < k → impl_readArr.C m)) (r1 : Int) (r2 : List (S68)) (r3 : ByteArray) (r4 : Bool) (w : World) (ro : Nat → Prop) (B : Nat) (hF : Fr TE (cx0 Tryz.f85 none w ro B)) (x0 : ByteArray) (x1 : Int) (x67 : Bool) (x168000 : Int) (h : impl_readArr.j2 k x0 x1 x67 = some (r1, r2, r3, r4)) : Kp (WS TE (cx0 Tryz.f85 none w ro B) (stkAt [1, 1, 0, 0, 9] [] (bodyOf Tryz.f85) []) ⟨[(0, .v (.string x0)), (1, .v (.int .i64 x1)), (4, .pt 1004 0 0), (67, .v (.bool x67))], [(1004, .box 0 68 false [.v (.int .i64 x168000), .v (.slice none 0 0)])]⟩ (RetQ TE Tryz.f85 none [.ro (.ag [.v (.int .i64 r1), .sl 2 (r68 r2)]), .ro (.v (.string r3)), .ro (.v (.bool r4))] [] w ro B)) := by
 refine ⟨?_⟩
 cases k with
 | zero => simp [impl_readArr.j2] at h
 | succ k =>
 simp only [impl_readArr.j2] at h
 by_cases c12 : x67 = true
 · rw [if_pos c12] at h
   refine path_ok (k := 4) hF (RetQ_mild _ _ _ _ _ _ _ _) (ds := [.b true]) (os := []) (c := none) rfl KD ?_
   cases h
   exact ret_as (ms := [.ro, .ro, .ro]) rfl KD
 · rw [if_neg c12] at h
   by_cases c13 : 1 ≤ (x0.size : Int)
   · rw [if_pos c13] at h
     refine path_ok (k := 8) hF (RetQ_mild _ _ _ _ _ _ _ _) (ds := [.b false]) (os := []) (c := none) rfl KD ?_
     exact WS.can [(1004, some 1004), (1010, some 10), (3641, none)] (((ih.out k (by omega)).s_l1  r1 r2 r3 r4 w ro B hF (x0.extract 1 x0.size) x1 x168000 0 ([] : List (S68)) h).out) KD
   · rw [if_neg c13] at h
     cases h
set_option maxRecDepth 100000 in
set_option maxHeartbeats 4000000 in
theorem impl_readArr.c_l1 (k : Nat) (ih : Kp (∀ m, m < k → impl_readArr.C m)) (r1 : Int) (r2 : List (S68)) (r3 : ByteArray) (r4 : Bool) (w : World) (ro : Nat → Prop) (B : Nat) (hF : Fr TE (cx0 Tryz.f85 none w ro B)) (x0 : ByteArray) (x1 : Int) (x168000 : Int) (x173000 : Int) (x173001 : List (S68)) (h : impl_readArr.l1 k x0 x1 x173000 x173001 = some (r1, r2, r3, r4)) : Kp (WS TE (cx0 Tryz.f85 none w ro B) (stkAt [1, 1, 1, 1, 0, 1, 0] [] (bodyOf Tryz.f85) []) ⟨[(0, .v (.string x0)), (1, .v (.int .i64 x1)), (4, .pt 1004 0 0), (10, .pt 1010 0 0)], [(1004, .box 0 68 false [.v (.int .i64 x168000), .v (.slice none 0 0)]), (3641, .own 0 68 2 (r68 x173001)), (1010, .box 0 68 false [.v (.int .i64 x173000), .ow 3641 0])]⟩ (RetQ TE Tryz.f85 none [.ro (.ag [.v (.int .i64 r1), .sl 2 (r68 r2)]), .ro (.v (.string r3)), .ro (.v (.bool r4))] [] w ro B)) := by
 refine ⟨WS.loop (fun m σ => m ≤ k ∧ impl_readArr.I1 r1 r2 r3 r4 m σ) k ⟨Nat.le_refl k, x0, x1, x168000, x173000, x173001, h, rfl⟩ (fun m σ' hI J1 hJ1 => ?_)⟩
 clear h
 obtain ⟨hk, x0, x1, x168000, x173000, x173001, h, rfl⟩ := hI
 cases m with
 | zero => simp [impl_readArr.l1] at h
 | succ k' =>
 simp only [impl_readArr.l1] at h
 by_cases c21 : x0.toList = ([] : List UInt8)
 · rw [if_pos c21] at h
   refine path_ok (k := 3) hF (RetQ_mild _ _ _ _ _ _ _ _) (ds := [.b false, .b false, .b false, .b false, .b false, .b false]) (os := []) (c := none) rfl KD ?_
   exact WS.can [(1004, some 1004), (1010, some 1010), (3641, some 3641)] (((ih.out k' (by omega)).s_j4  r1 r2 r3 r4 w ro B hF J1 (fun m σ hm hI => hJ1 m σ (by omega) ⟨by omega, hI⟩) x0 x1 false x168000 x173000 x173001 h).out) KD
 · rw [if_neg c21] at h
   by_cases c22 : 0 < (x0.size : Int)
   · rw [if_pos c22] at h
     by_cases c23 : (bt x0 0) = 93
     · rw [if_pos c23] at h
       have hb23 := bt_range x0 0
       refine path_ok (k := 3) hF (RetQ_mild _ _ _ _ _ _ _ _) (ds := [.b true, .b true, .b true, .b true, .b false, .b false, .b false, .e 80 (.v (.int .i64 (x173001.length : Int))), .b false, .b true, .b false, .b true]) (os := []) (c := none) rfl KD ?_
       exact WS.can [(1004, some 1004), (1010, some 1010), (3641, some 3641)] (((ih.out k' (by omega)).s_j4  r1 r2 r3 r4 w ro B hF J1 (fun m σ hm hI => hJ1 m σ (by omega) ⟨by omega, hI⟩) x0 x1 (decide ((x173001.length : Int) > 0)) x168000 x173000 x173001 h).out) KD
     · rw [if_neg c23] at h
       have hb24 := bt_range x0 0
       refine path_ok (k := 3) hF (RetQ_mild _ _ _ _ _ _ _ _) (ds := [.b true, .b true, .b true, .b true, .b true, .b true, .b true, .b true, .b true, .b true, .b true]) (os := []) (c := none) rfl KD ?_
       exact WS.can [(1004, some 1004), (1010, some 1010), (3641, some 3641)] (((ih.out k' (by omega)).s_j4  r1 r2 r3 r4 w ro B hF J1 (fun m σ hm hI => hJ1 m σ (by omega) ⟨by omega, hI⟩) x0 x1 true x168000 x173000 x173001 h).out) KD
   · rw [if_neg c22] at h
     cases h
set_option maxRecDepth 100000 in
set_option maxHeartbeats 4000000 in
theorem impl_readArr.c_j4 (k : Nat) (ih : Kp (∀ m, m < k → impl_readArr.C m)) (r1 : Int) (r2 : List (S68)) (r3 : ByteArray) (r4 : Bool) (w : World) (ro : Nat → Prop) (B : Nat) (hF : Fr TE (cx0 Tryz.f85 none w ro B)) (J1 : St → Prop) (hJ1 : ∀ m σ, m ≤ k → impl_readArr.I1 r1 r2 r3 r4 m σ → J1 σ) (x0 : ByteArray) (x1 : Int) (x83 : Bool) (x168000 : Int) (x173000 : Int) (x173001 : List (S68)) (h : impl_readArr.j4 k x0 x1 x83 x173000 x173001 = some (r1, r2, r3, r4)) : Kp (WS TE (cx0 Tryz.f85 none w ro B) (stkAt [1, 1, 1, 1, 0, 1, 0, 0, 0, 0, 9] [J1] (bodyOf Tryz.f85) []) ⟨[(0, .v (.string x0)), (1, .v (.int .i64 x1)), (4, .pt 1004 0 0), (10, .pt 1010 0 0), (83, .v (.bool x83))], [(1004, .box 0 68 false [.v (.int .i64 x168000), .v (.slice none 0 0)]), (3641, .own 0 68 2 (r68 x173001)), (1010, .box 0 68 false [.v (.int .i64 x173000), .ow 3641 0])]⟩ (RetQ TE Tryz.f85 none [.ro (.ag [.v (.int .i64 r1), .sl 2 (r68 r2)]), .ro (.v (.string r3)), .ro (.v (.bool r4))] [] w ro B)) := by
 refine ⟨?_⟩
 cases k with
 | zero => simp [impl_readArr.j4] at h
 | succ k =>
 simp only [impl_readArr.j4] at h
 by_cases c26 : x83 = true
 · rw [if_pos c26] at h
   obtain ⟨⟨t173, t174, t177, t178⟩, q27, h⟩ := Option.bind_eq_some_iff.1 h
   dsimp only at h
   have q27c := (ih.out k (by omega)).s_f _ _ _ _ _ _ q27
   by_cases c28 : t178 = true
   · rw [if_pos c28] at h
     by_cases c29 : t177.toList = ([] : List UInt8)
     · rw [if_pos c29] at h
       refine path_ok (k := 8) hF (RetQ_mild _ _ _ _ _ _ _ _) (ds := [.b true, .r [.ro (.ag [.v (.int .i64 t173), .sl 2 (r68 t174)]), .ro (.v (.string t177)), .ro (.v (.bool t178))] [], .b false, .b false, .b false, .b true, .b true, .b true, .b true, .b true, .b true]) (os := []) (c := none) rfl KD ?_
       exact WS.can [(1004, some 1004), (1010, some 1010), (3641, some 3641), (1011, some 11)] (((ih.out k (by omega)).s_j5  r1 r2 r3 r4 w ro B hF J1 (fun m σ hm hI => hJ1 m σ (by omega) hI) x1 t177 true x168000 x173000 x173001 t173 t174 h).out) KD
     · rw [if_neg c29] at h
       by_cases c30 : 0 < (t177.size : Int)
       · rw [if_pos c30] at h
         by_cases c31 : (bt t177 0) = 44
         · rw [if_pos c31] at h
           have hb31 := bt_range t177 0
           refine path_ok (k := 8) hF (RetQ_mild _ _ _ _ _ _ _ _) (ds := [.b true, .r [.ro (.ag [.v (.int .i64 t173), .sl 2 (r68 t174)]), .ro (.v (.string t177)), .ro (.v (.bool t178))] [], .b false, .b false, .b false, .b false, .b false, .b false, .b false, .b false, .b false, .b false, .b false, .b false, .b false]) (os := []) (c := none) rfl KD ?_
           exact WS.can [(1004, some 1004), (1010, some 1010), (3641, some 3641), (1011, some 11)] (((ih.out k (by omega)).s_j5  r1 r2 r3 r4 w ro B hF J1 (fun m σ hm hI => hJ1 m σ (by omega) hI) x1 t177 false x168000 x173000 x173001 t173 t174 h).out) KD
         · rw [if_neg c31] at h
           have hb32 := bt_range t177 0
           refine path_ok (k := 8) hF (RetQ_mild _ _ _ _ _ _ _ _) (ds := [.b true, .r [.ro (.ag [.v (.int .i64 t173), .sl 2 (r68 t174)]), .ro (.v (.string t177)), .ro (.v (.bool t178))] [], .b false, .b false, .b false, .b false, .b false, .b false, .b false, .b true, .b true, .b true, .b false, .b true, .b false]) (os := []) (c := none) rfl KD ?_
           exact WS.can [(1004, some 1004), (1010, some 1010), (3641, some 3641), (1011, some 11)] (((ih.out k (by omega)).s_j5  r1 r2 r3 r4 w ro B hF J1 (fun m σ hm hI => hJ1 m σ (by omega) hI) x1 t177 ((bt t177 0) != 93) x168000 x173000 x173001 t173 t174 h).out) KD
       · rw [if_neg c30] at h
         cases h
   · rw [if_neg c28] at h
     refine path_ok (k := 8) hF (RetQ_mild _ _ _ _ _ _ _ _) (ds := [.b true, .r [.ro (.ag [.v (.int .i64 t173), .sl 2 (r68 t174)]), .ro (.v (.string t177)), .ro (.v (.bool t178))] [], .b true, .b true, .b true, .b true, .b true, .b true, .b true, .b true, .b true]) (os := []) (c := none) rfl KD ?_
     exact WS.can [(1004, some 1004), (1010, some 1010), (3641, some 3641), (1011, some 11)] (((ih.out k (by omega)).s_j5  r1 r2 r3 r4 w ro B hF J1 (fun m σ hm hI => hJ1 m σ (by omega) hI) x1 t177 true x168000 x173000 x173001 t173 t174 h).out) KD
 · rw [if_neg c26] at h
   by_cases c34 : x0.toList = ([] : List UInt8)
   · rw [if_pos c34] at h
     refine path_ok (k := 9) hF (RetQ_mild _ _ _ _ _ _ _ _) (ds := [.b false, .b true]) (os := []) (c := none) rfl KD ?_
     cases h
     exact ret_as (ms := [.ro, .ro, .ro]) rfl KD
   · rw [if_neg c34] at h
     by_cases c35 : 1 ≤ (x0.size : Int)
     · rw [if_pos c35] at h
       refine path_ok (k := 10) hF (RetQ_mild _ _ _ _ _ _ _ _) (ds := [.b false, .b false]) (os := [.o [(0, 1), (1, 0), (2, 0), (3, 2), (4, 0), (5, 0)] [3]]) (c := none) rfl KD ?_
       cases h
       exact ret_as (ms := [.ro, .ro, .ro]) rfl KD
     · rw [if_neg c35] at h
       cases h
set_option maxRecDepth 100000 in
set_option maxHeartbeats 4000000 in
theorem impl_readArr.c_j5 (k : Nat) (ih : Kp (∀ m, m < k → impl_readArr.C m)) (r1 : Int) (r2 : List (S68)) (r3 : ByteArray) (r4 : Bool) (w : World) (ro : Nat → Prop) (B : Nat) (hF : Fr TE (cx0 Tryz.f85 none w ro B)) (J1 : St → Prop) (hJ1 : ∀ m σ, m ≤ k → impl_readArr.I1 r1 r2 r3 r4 m σ → J1 σ) (x1 : Int) (x12 : ByteArray) (x107 : Bool) (x168000 : Int) (x173000 : Int) (x173001 : List (S68)) (x180000 : Int) (x180001 : List (S68)) (h : impl_readArr.j5 k x1 x12 x107 x173000 x173001 x180000 x180001 = some (r1, r2, r3, r4)) : Kp (WS TE (cx0 Tryz.f85 none w ro B) (stkAt [1, 1, 1, 1, 0, 1, 0, 0, 1, 0, 1, 0, 0, 9] [J1] (bodyOf Tryz.f85) []) ⟨[(1, .v (.int .i64 x1)), (4, .pt 1004 0 0), (10, .pt 1010 0 0), (11, .pt 1011 0 0), (12, .v (.string x12)), (107, .v (.bool x107))], [(1004, .box 0 68 false [.v (.int .i64 x168000), .v (.slice none 0 0)]), (3641, .own 0 68 2 (r68 x173001)), (1010, .box 0 68 false [.v (.int .i64 x173000), .ow 3641 0]), (1011, .box 0 68 false [.v (.int .i64 x180000), .sl 2 (r68 x180001)])]⟩ (RetQ TE Tryz.f85 none [.ro (.ag [.v (.int .i64 r1), .sl 2 (r68 r2)]), .ro (.v (.string r3)), .ro (.v (.bool r4))] [] w ro B)) := by
 refine ⟨?_⟩
 cases k with
 | zero => simp [impl_readArr.j5] at h
 | succ k =>
 simp only [impl_readArr.j5] at h
 by_cases c36 : x107 = true
 · rw [if_pos c36] at h
   refine path_ok (k := 4) hF (RetQ_mild _ _ _ _ _ _ _ _) (ds := [.b true]) (os := []) (c := none) rfl KD ?_
   cases h
   exact ret_as (ms := [.ro, .ro, .ro]) rfl KD
 · rw [if_neg c36] at h
   by_cases c37 : x173001.length < 4398046511104
   · rw [if_pos c37] at h
     obtain ⟨y180, hy180, h⟩ := Option.bind_eq_some_iff.1 h
     cases hy180
     by_cases c38 : 0 < (x12.size : Int)
     · rw [if_pos c38] at h
       by_cases c39 : (bt x12 0) = 93
       · rw [if_pos c39] at h
         by_cases c40 : 1 ≤ (x12.size : Int)
         · rw [if_pos c40] at h
           have hb40 := bt_range x12 0
           refine path_ok (k := 11) hF (RetQ_mild _ _ _ _ _ _ _ _) (ds := [.b false, .p 112 ([[.v (.int .i64 x180000), .sl 2 (r68 x180001)]]), .o 113 (r68 (x173001 ++ [(⟨x180000, x180001⟩ : S68)])), .b true]) (os := [.o [(0, 1), (1, 0), (2, 0), (3, 2), (4, 0), (5, 0)] [3]]) (c := none) rfl KD ?_
           cases h
           exact ret_as (ms := [.ro, .ro, .ro]) rfl KD
         · rw [if_neg c40] at h
           cases h
       · rw [if_neg c39] at h
         by_cases c42 : 1 ≤ (x12.size : Int)
         · rw [if_pos c42] at h
           have hb42 := bt_range x12 0
           refine path_ok (k := 11) hF (RetQ_mild _ _ _ _ _ _ _ _) (ds := [.b false, .p 112 ([[.v (.int .i64 x180000), .sl 2 (r68 x180001)]]), .o 113 (r68 (x173001 ++ [(⟨x180000, x180001⟩ : S68)])), .b false]) (os := []) (c := none) rfl KD ?_
           exact WS.lpc [(1004, some 1004), (1010, some 1010), (3641, some 3641)] (hJ1 _ _ (by omega) ⟨(x12.extract 1 x12.size), x1, x168000, x173000, (x173001 ++ [(⟨x180000, x180001⟩ : S68)]), h, rfl⟩) KD
         · rw [if_neg c42] at h
           cases h
     · rw [if_neg c38] at h
       cases h
   · rw [if_neg c37] at h
     cases h
theorem impl_readArr.cs (k : Nat) : impl_readArr.C k := by
 induction k using Nat.strongRecOn with
 | _ k ih0 =>
 have ih : Kp (∀ m, m < k → impl_readArr.C m) := ⟨ih0⟩
 exact ⟨impl_readArr.c_f k ih, impl_readArr.c_j1 k ih, impl_readArr.c_l0 k ih, impl_readArr.c_j2 k ih, impl_readArr.c_l1 k ih, impl_readArr.c_j4 k ih, impl_readArr.c_j5 k ih⟩
theorem impl_readArr.ctr (k : Nat) (a0 : ByteArray) (a1 : Int) (r1 : Int) (r2 : List (S68)) (r3 : ByteArray) (r4 : Bool) (h : impl_readArr.f k a0 a1 = some (r1, r2, r3, r4)) : Ctr TE 85 none [.v (.string a0), .v (.int .i64 a1)] [.ro (.ag [.v (.int .i64 r1), .sl 2 (r68 r2)]), .ro (.v (.string r3)), .ro (.v (.bool r4))] [] := (impl_readArr.cs k).s_f a0 a1 r1 r2 r3 r4 h
def impl_arrOf.f (k : Nat) (a0 : ByteArray) (a1 : Int) : Option (Int × (List (S68)) × Bool) := if a1 < 0 then (some (0, ([] : List (S68)), false)) else (if a1 > 3 then (some (0, ([] : List (S68)), false)) else (if (a0.size : Int) > 400 then (some (0, ([] : List (S68)), false)) else ((impl_readArr.f k a0 a1).bind fun bt184 => (if bt184.2.2.2 = true then (some (bt184.1, bt184.2.1, (bt184.2.2.1.toList == ([] : List UInt8)))) else (some (bt184.1, bt184.2.1, false))))))
set_option maxRecDepth 100000 in
set_option maxHeartbeats 4000000 in
theorem impl_arrOf.ctr (k : Nat) (a0 : ByteArray) (a1 : Int) (r1 : Int) (r2 : List (S68)) (r3 : Bool) (h : impl_arrOf.f k a0 a1 = some (r1, r2, r3)) : Ctr TE 42 none [.v (.string a0), .v (.int .i64 a1)] [.ro (.ag [.v (.int .i64 r1), .sl 2 (r68 r2)]), .ro (.v (.bool r3))] [] := by
 refine ctr_of (fn := Tryz.f42) (c := (bodyOf Tryz.f42)) Tryz.func42 rfl (by kernel_rfl) (Nat.le_of_ble_eq_true (by kernel_rfl)) (fun w ro B hF _ => ?_)
 simp only [impl_arrOf.f] at h
 by_cases c1 : a1 < 0
 · rw [if_pos c1] at h
   refine path_ok (k := 9) hF (RetQ_mild _ _ _ _ _ _ _ _) (ds := [.b true, .b true, .b true, .b true, .b true, .b true, .b true, .b true]) (os := []) (c := none) rfl KD ?_
   cases h
   exact ret_as (ms := [.ro, .ro]) rfl KD
 · rw [if_neg c1] at h
   by_cases c2 : a1 > 3
   · rw [if_pos c2] at h
     refine path_ok (k := 9) hF (RetQ_mild _ _ _ _ _ _ _ _) (ds := [.b false, .b false, .b false, .b true, .b true, .b true, .b true, .b true]) (os := []) (c := none) rfl KD ?_
     cases h
     exact ret_as (ms := [.ro, .ro]) rfl KD
   · rw [if_neg c2] at h
     by_cases c3 : (a0.size : Int) > 400
     · rw [if_pos c3] at h
       refine path_ok (k := 9) hF (RetQ_mild _ _ _ _ _ _ _ _) (ds := [.b false, .b false, .b false, .b false, .b false, .b false, .b false, .b true]) (os := []) (c := none) rfl KD ?_
       cases h
       exact ret_as (ms := [.ro, .ro]) rfl KD
     · rw [if_neg c3] at h
       obtain ⟨⟨t184, t185, t188, t189⟩, q4, h⟩ := Option.bind_eq_some_iff.1 h
       dsimp only at h
       have q4c := impl_readArr.ctr k _ _ _ _ _ _ q4
       by_cases c5 : t189 = true
       · rw [if_pos c5] at h
         refine path_ok (k := 12) hF (RetQ_mild _ _ _ _ _ _ _ _) (ds := [.b false, .b false, .b false, .b false, .b false, .b false, .b false, .b false, .r [.ro (.ag [.v (.int .i64 t184), .sl 2 (r68 t185)]), .ro (.v (.string t188)), .ro (.v (.bool t189))] [], .b true, .b true, .b true]) (os := []) (c := none) rfl KD ?_
         cases h
         exact ret_as (ms := [.ro, .ro]) rfl KD
       · rw [if_neg c5] at h
         refine path_ok (k := 12) hF (RetQ_mild _ _ _ _ _ _ _ _) (ds := [.b false, .b false, .b false, .b false, .b false, .b false, .b false, .b false, .r [.ro (.ag [.v (.int .i64 t184), .sl 2 (r68 t185)]), .ro (.v (.string t188)), .ro (.v (.bool t189))] [], .b false, .b false, .b false]) (os := []) (c := none) rfl KD ?_
         cases h
         exact ret_as (ms := [.ro, .ro]) rfl KD
mutual
def impl_PackVector.j0 : Nat → List ByteArray → Int → Bool → Option (Int × (List (List Int)) × List Int × Bool)
  | 0, _, _, _ => none
  | k + 1, x0, x1, x21 => if x21 = true then (some (0, ([] : List (List Int)), ([] : List Int), false)) else (impl_PackVector.l0 k x1 (([] : List (S68))) x0 (x0.length : Int) 0)
def impl_PackVector.l0 : Nat → Int → List (S68) → List ByteArray → Int → Int → Option (Int × (List (List Int)) × List Int × Bool)
  | 0, _, _, _, _, _ => none
  | k + 1, x1, x6, x24, x25, x26 => if x26 < x25 then (if 0 ≤ x26 then (if x26 < (x24.length : Int) then ((impl_arrOf.f k (rdOf ByteArray.empty x24 x26) x1).bind fun bt196 => (if bt196.2.2 = true then (if x6.length < 4398046511104 then (impl_PackVector.l0 k x1 (x6 ++ [(⟨bt196.1, bt196.2.1⟩ : S68)]) x24 x25 (wrap64 (x26 + 1))) else (none)) else (some (0, ([] : List (List Int)), ([] : List Int), false)))) else (none)) else (none)) else ((impl_laid.f k x6 x1).bind fun bt205 => (some ((x6.length : Int), bt205.1, bt205.2, true)))
end
def impl_PackVector.f (k : Nat) (l0 : List ByteArray) (a1 : Int) : Option (Int × (List (List Int)) × List Int × Bool) := if a1 < 0 then (impl_PackVector.j0 k l0 a1 true) else (if a1 > 3 then (impl_PackVector.j0 k l0 a1 true) else (impl_PackVector.j0 k l0 a1 (decide ((l0.length : Int) > 2000))))
def impl_PackVector.I0 (r1 : Int) (r2 : List (List Int)) (r3 : List Int) (r4 : Bool) (m : Nat) (σ : St) : Prop := ∃ (x1 : Int) (x6 : List (S68)) (x24 : List ByteArray) (x25 : Int) (x26 : Int) (x192000 : Int), impl_PackVector.l0 m x1 x6 x24 x25 x26 = some (r1, r2, r3, r4) ∧ σ = ⟨[(1, .v (.int .i64 x1)), (4, .pt 1004 0 0), (6, .ow 1006 0), (24, .sl 1 (rX cS x24)), (25, .v (.int .i64 x25)), (26, .v (.int .i64 x26))], [(1004, .box 0 31 false [.v (.int .i64 x192000), .v (.slice none 0 0), .v (.slice none 0 0)]), (1006, .own 0 68 2 (r68 x6))]⟩
structure impl_PackVector.C (k : Nat) : Prop where
 s_j0 : ∀ (r1 : Int) (r2 : List (List Int)) (r3 : List Int) (r4 : Bool) (w : World) (ro : Nat → Prop) (B : Nat) (_ : Fr TE (cx0 Tryz.f7 none w ro B)) (x0 : List ByteArray) (x1 : Int) (x21 : Bool) (x192000 : Int) (_ : impl_PackVector.j0 k x0 x1 x21 = some (r1, r2, r3, r4)), Kp (WS TE (cx0 Tryz.f7 none w ro B) (stkAt [1, 0, 0, 9] [] (bodyOf Tryz.f7) []) ⟨[(0, .sl 1 (rX cS x0)), (1, .v (.int .i64 x1)), (4, .pt 1004 0 0), (21, .v (.bool x21))], [(1004, .box 0 31 false [.v (.int .i64 x192000), .v (.slice none 0 0), .v (.slice none 0 0)])]⟩ (RetQ TE Tryz.f7 none [.ro (.ag [.v (.int .i64 r1), .sl 1 (rX (cL (cI .i64) 1) r2), .sl 1 (rX (cI .i64) r3)]), .ro (.v (.bool r4))] [] w ro B))
 s_l0 : ∀ (r1 : Int) (r2 : List (List Int)) (r3 : List Int) (r4 : Bool) (w : World) (ro : Nat → Prop) (B : Nat) (_ : Fr TE (cx0 Tryz.f7 none w ro B)) (x1 : Int) (x6 : List (S68)) (x24 : List ByteArray) (x25 : Int) (x26 : Int) (x192000 : Int) (_ : impl_PackVector.l0 k x1 x6 x24 x25 x26 = some (r1, r2, r3, r4)), Kp (WS TE (cx0 Tryz.f7 none w ro B) (stkAt [1, 1, 1, 0, 1, 0] [] (bodyOf Tryz.f7) []) ⟨[(1, .v (.int .i64 x1)), (4, .pt 1004 0 0), (6, .ow 1006 0), (24, .sl 1 (rX cS x24)), (25, .v (.int .i64 x25)), (26, .v (.int .i64 x26))], [(1004, .box 0 31 false [.v (.int .i64 x192000), .v (.slice none 0 0), .v (.slice none 0 0)]), (1006, .own 0 68 2 (r68 x6))]⟩ (RetQ TE Tryz.f7 none [.ro (.ag [.v (.int .i64 r1), .sl 1 (rX (cL (cI .i64) 1) r2), .sl 1 (rX (cI .i64) r3)]), .ro (.v (.bool r4))] [] w ro B))
set_option maxRecDepth 100000 in
set_option maxHeartbeats 4000000 in
theorem impl_PackVector.c_j0 (k : Nat) (ih : Kp (∀ m, m < k → impl_PackVector.C m)) (r1 : Int) (r2 : List (List Int)) (r3 : List Int) (r4 : Bool) (w : World) (ro : Nat → Prop) (B : Nat) (hF : Fr TE (cx0 Tryz.f7 none w ro B)) (x0 : List ByteArray) (x1 : Int) (x21 : Bool) (x192000 : Int) (h : impl_PackVector.j0 k x0 x1 x21 = some (r1, r2, r3, r4)) : Kp (WS TE (cx0 Tryz.f7 none w ro B) (stkAt [1, 0, 0, 9] [] (bodyOf Tryz.f7) []) ⟨[(0, .sl 1 (rX cS x0)), (1, .v (.int .i64 x1)), (4, .pt 1004 0 0), (21, .v (.bool x21))], [(1004, .box 0 31 false [.v (.int .i64 x192000), .v (.slice none 0 0), .v (.slice none 0 0)])]⟩ (RetQ TE Tryz.f7 none [.ro (.ag [.v (.int .i64 r1), .sl 1 (rX (cL (cI .i64) 1) r2), .sl 1 (rX (cI .i64) r3)]), .ro (.v (.bool r4))] [] w ro B)) := by
 refine ⟨?_⟩
 cases k with
 | zero => simp [impl_PackVector.j0] at h
 | succ k =>
 simp only [impl_PackVector.j0] at h
 by_cases c3 : x21 = true
 · rw [if_pos c3] at h
   refine path_ok (k := 4) hF (RetQ_mild _ _ _ _ _ _ _ _) (ds := [.b true]) (os := []) (c := none) rfl KD ?_
   cases h
   exact ret_as (ms := [.ro, .ro]) rfl KD
 · rw [if_neg c3] at h
   refine path_ok (k := 8) hF (RetQ_mild _ _ _ _ _ _ _ _) (ds := [.b false, .p 23 ([]), .e 25 (.v (.int .i64 (x0.length : Int)))]) (os := []) (c := none) rfl KD ?_
   exact WS.can [(1004, some 1004), (1006, some 23)] (((ih.out k (by omega)).s_l0  r1 r2 r3 r4 w ro B hF x1 (([] : List (S68))) x0 (x0.length : Int) 0 x192000 h).out) KD
set_option maxRecDepth 100000 in
set_option maxHeartbeats 4000000 in
theorem impl_PackVector.c_l0 (k : Nat) (ih : Kp (∀ m, m < k → impl_PackVector.C m)) (r1 : Int) (r2 : List (List Int)) (r3 : List Int) (r4 : Bool) (w : World) (ro : Nat → Prop) (B : Nat) (hF : Fr TE (cx0 Tryz.f7 none w ro B)) (x1 : Int) (x6 : List (S68)) (x24 : List ByteArray) (x25 : Int) (x26 : Int) (x192000 : Int) (h : impl_PackVector.l0 k x1 x6 x24 x25 x26 = some (r1, r2, r3, r4)) : Kp (WS TE (cx0 Tryz.f7 none w ro B) (stkAt [1, 1, 1, 0, 1, 0] [] (bodyOf Tryz.f7) []) ⟨[(1, .v (.int .i64 x1)), (4, .pt 1004 0 0), (6, .ow 1006 0), (24, .sl 1 (rX cS x24)), (25, .v (.int .i64 x25)), (26, .v (.int .i64 x26))], [(1004, .box 0 31 false [.v (.int .i64 x192000), .v (.slice none 0 0), .v (.slice none 0 0)]), (1006, .own 0 68 2 (r68 x6))]⟩ (RetQ TE Tryz.f7 none [.ro (.ag [.v (.int .i64 r1), .sl 1 (rX (cL (cI .i64) 1) r2), .sl 1 (rX (cI .i64) r3)]), .ro (.v (.bool r4))] [] w ro B)) := by
 refine ⟨WS.loop (fun m σ => m ≤ k ∧ impl_PackVector.I0 r1 r2 r3 r4 m σ) k ⟨Nat.le_refl k, x1, x6, x24, x25, x26, x192000, h, rfl⟩ (fun m σ' hI J0 hJ0 => ?_)⟩
 clear h
 obtain ⟨hk, x1, x6, x24, x25, x26, x192000, h, rfl⟩ := hI
 cases m with
 | zero => simp [impl_PackVector.l0] at h
 | succ k' =>
 simp only [impl_PackVector.l0] at h
 by_cases c4 : x26 < x25
 · rw [if_pos c4] at h
   by_cases c5 : 0 ≤ x26
   · rw [if_pos c5] at h
     by_cases c6 : x26 < (x24.length : Int)
     · rw [if_pos c6] at h
       obtain ⟨⟨t196, t197, t200⟩, q7, h⟩ := Option.bind_eq_some_iff.1 h
       dsimp only at h
       have q7c := impl_arrOf.ctr k' _ _ _ _ _ q7
       by_cases c8 : t200 = true
       · rw [if_pos c8] at h
         by_cases c9 : x6.length < 4398046511104
         · rw [if_pos c9] at h
           refine path_ok (k := 19) hF (RetQ_mild _ _ _ _ _ _ _ _) (ds := [.b true, .e 28 (.rf [.v (.string (rdOf ByteArray.empty x24 x26))]), .r [.ro (.ag [.v (.int .i64 t196), .sl 2 (r68 t197)]), .ro (.v (.bool t200))] [], .b false, .p 41 ([[.v (.int .i64 t196), .sl 2 (r68 t197)]]), .o 42 (r68 (x6 ++ [(⟨t196, t197⟩ : S68)]))]) (os := []) (c := none) rfl KD ?_
           exact WS.lpc [(1004, some 1004), (1006, some 1006)] (hJ0 _ _ (Nat.lt_succ_self _) ⟨by omega, x1, (x6 ++ [(⟨t196, t197⟩ : S68)]), x24, x25, (wrap64 (x26 + 1)), x192000, h, rfl⟩) KD
         · rw [if_neg c9] at h
           cases h
       · rw [if_neg c8] at h
         refine path_ok (k := 18) hF (RetQ_mild _ _ _ _ _ _ _ _) (ds := [.b true, .e 28 (.rf [.v (.string (rdOf ByteArray.empty x24 x26))]), .r [.ro (.ag [.v (.int .i64 t196), .sl 2 (r68 t197)]), .ro (.v (.bool t200))] [], .b true]) (os := []) (c := none) rfl KD ?_
         cases h
         exact ret_as (ms := [.ro, .ro]) rfl KD
     · rw [if_neg c6] at h
       cases h
   · rw [if_neg c5] at h
     cases h
 · rw [if_neg c4] at h
   obtain ⟨⟨t205, t208⟩, q10, h⟩ := Option.bind_eq_some_iff.1 h
   dsimp only at h
   have q10c := impl_laid.ctr k' _ _ _ _ q10
   refine path_ok (k := 8) hF (RetQ_mild _ _ _ _ _ _ _ _) (ds := [.b false, .e 45 (.v (.int .i64 (x6.length : Int))), .r [.ro (.ag [.sl 1 (rX (cL (cI .i64) 1) t205), .sl 1 (rX (cI .i64) t208)])] []]) (os := []) (c := none) rfl KD ?_
   cases h
   exact ret_as (ms := [.ro, .ro]) rfl KD
theorem impl_PackVector.cs (k : Nat) : impl_PackVector.C k := by
 induction k using Nat.strongRecOn with
 | _ k ih0 =>
 have ih : Kp (∀ m, m < k → impl_PackVector.C m) := ⟨ih0⟩
 exact ⟨impl_PackVector.c_j0 k ih, impl_PackVector.c_l0 k ih⟩
set_option maxRecDepth 100000 in
set_option maxHeartbeats 4000000 in
theorem impl_PackVector.ctr (k : Nat) (l0 : List ByteArray) (a1 : Int) (r1 : Int) (r2 : List (List Int)) (r3 : List Int) (r4 : Bool) (h : impl_PackVector.f k l0 a1 = some (r1, r2, r3, r4)) : Ctr TE 7 none [.sl 1 (rX cS l0), .v (.int .i64 a1)] [.ro (.ag [.v (.int .i64 r1), .sl 1 (rX (cL (cI .i64) 1) r2), .sl 1 (rX (cI .i64) r3)]), .ro (.v (.bool r4))] [] := by
 refine ctr_of (fn := Tryz.f7) (c := (bodyOf Tryz.f7)) Tryz.func7 rfl (by kernel_rfl) (Nat.le_of_ble_eq_true (by kernel_rfl)) (fun w ro B hF _ => ?_)
 have ih : Kp (∀ m, m < k + 1 → impl_PackVector.C m) := ⟨fun m _ => impl_PackVector.cs m⟩
 simp only [impl_PackVector.f] at h
 by_cases c1 : a1 < 0
 · rw [if_pos c1] at h
   refine path_ok (k := 5) hF (RetQ_mild _ _ _ _ _ _ _ _) (ds := [.b true, .b true, .b true, .b true, .b true, .b true, .b true]) (os := []) (c := none) rfl KD ?_
   exact WS.can [(1004, some 4)] (((ih.out k (by omega)).s_j0  r1 r2 r3 r4 w ro B hF l0 a1 true 0 h).out) KD
 · rw [if_neg c1] at h
   by_cases c2 : a1 > 3
   · rw [if_pos c2] at h
     refine path_ok (k := 5) hF (RetQ_mild _ _ _ _ _ _ _ _) (ds := [.b false, .b false, .b false, .b true, .b true, .b true, .b true]) (os := []) (c := none) rfl KD ?_
     exact WS.can [(1004, some 4)] (((ih.out k (by omega)).s_j0  r1 r2 r3 r4 w ro B hF l0 a1 true 0 h).out) KD
   · rw [if_neg c2] at h
     refine path_ok (k := 5) hF (RetQ_mild _ _ _ _ _ _ _ _) (ds := [.b false, .b false, .b false, .b false, .b false, .e 19 (.v (.int .i64 (l0.length : Int))), .b false, .b false]) (os := []) (c := none) rfl KD ?_
     exact WS.can [(1004, some 4)] (((ih.out k (by omega)).s_j0  r1 r2 r3 r4 w ro B hF l0 a1 (decide ((l0.length : Int) > 2000)) 0 h).out) KD
def spec_l1In.f (a0 : Int) (a1 : Int) (a2 : Int) : Option (Bool) := if a0 ≥ a1 then (some (decide (a0 ≤ a2))) else (some false)
set_option maxRecDepth 100000 in
set_option maxHeartbeats 4000000 in
theorem spec_l1In.ctr (a0 : Int) (a1 : Int) (a2 : Int) (r : Bool) (h : spec_l1In.f a0 a1 a2 = some r) : Ctr TE 52 none [.v (.int .i64 a0), .v (.int .i64 a1), .v (.int .i64 a2)] [.ro (.v (.bool r))] [] := by
 refine ctr_of (fn := Tryz.f52) (c := (bodyOf Tryz.f52)) Tryz.func52 rfl (by kernel_rfl) (Nat.le_of_ble_eq_true (by kernel_rfl)) (fun w ro B hF _ => ?_)
 simp only [spec_l1In.f] at h
 by_cases c1 : a0 ≥ a1
 · rw [if_pos c1] at h
   refine path_ok (k := 5) hF (RetQ_mild _ _ _ _ _ _ _ _) (ds := [.b true, .b true, .b true, .b true]) (os := []) (c := none) rfl KD ?_
   cases h
   exact ret_as (ms := [.ro]) rfl KD
 · rw [if_neg c1] at h
   refine path_ok (k := 5) hF (RetQ_mild _ _ _ _ _ _ _ _) (ds := [.b false, .b false, .b false, .b false]) (os := []) (c := none) rfl KD ?_
   cases h
   exact ret_as (ms := [.ro]) rfl KD
end Go.Proofs.YtidpankoobdfjaaGreatDoor.K
