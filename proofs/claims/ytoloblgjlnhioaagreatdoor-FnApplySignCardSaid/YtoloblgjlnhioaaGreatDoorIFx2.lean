/- A part of the claim. -/
import Derived.Test.YtoloblgjlnhioaaGreatDoorIFx0
import Derived.Test.YtoloblgjlnhioaaGreatDoorIFSgc
-- PRINTED by print.py (a twelfth state) out of the translation. Not trusted: Lean checks it.
namespace Go.Proofs.YtoloblgjlnhioaaGreatDoor.I
open Go.RowKit Go.Proofs.YtoloblgjlnhioaaGreatDoorW.St Go.Proofs.YtoloblgjlnhioaaGreatDoorW.PrintWords Go.Proofs.YtoloblgjlnhioaaGreatDoorW.PrintLast Go.Proofs.YtoloblgjlnhioaaGreatDoorW.PrintMore
attribute [local go_sem] max2_int min2_int max_two min_two max_three min_three max_four min_four   -- for this text's walks alone
set_option linter.unusedVariables false
set_option linter.unusedSimpArgs false
mutual
def impl_readArr.j1 : Nat → ByteArray → Int → Option (Int × (List (S68)) × ByteArray × Bool)
  | 0, _, _ => none
  | k + 1, x0, x7 => if 0 ≤ x7 then (if x7 ≤ (x0.size : Int) then ((strconv_Atoi.f (x0.extract 0 (x7 : Int).toNat)).bind fun bt176 => (if bt176.2.isNone = true then (if bt176.1 ≥ 10007 then (some (0, ([] : List (S68)), (⟨#[]⟩ : ByteArray), false)) else ((strconv_Itoa.f bt176.1).bind fun t179 => (if t179.toList = (x0.extract 0 (x7 : Int).toNat).toList then (some (bt176.1, ([] : List (S68)), x0.extract (x7 : Int).toNat x0.size, true)) else (some (0, ([] : List (S68)), (⟨#[]⟩ : ByteArray), false))))) else (some (0, ([] : List (S68)), (⟨#[]⟩ : ByteArray), false)))) else (none)) else (none)
def impl_readArr.l0 : Nat → ByteArray → Int → Option (Int × (List (S68)) × ByteArray × Bool)
  | 0, _, _ => none
  | k + 1, x0, x7 => if x7 < (x0.size : Int) then (if 0 ≤ x7 then (if (bt x0 x7) ≥ 48 then (if (bt x0 x7) ≤ 57 then (impl_readArr.l0 k x0 (wrap64 (x7 + 1))) else (impl_readArr.j1 k x0 x7)) else (impl_readArr.j1 k x0 x7)) else (none)) else (impl_readArr.j1 k x0 x7)
def impl_readArr.j2 : Nat → ByteArray → Int → Bool → Option (Int × (List (S68)) × ByteArray × Bool)
  | 0, _, _, _ => none
  | k + 1, x0, x1, x67 => if x67 = true then (some (0, ([] : List (S68)), (⟨#[]⟩ : ByteArray), false)) else (if 1 ≤ (x0.size : Int) then (impl_readArr.l1 k (x0.extract 1 x0.size) x1 0 ([] : List (S68))) else (none))
def impl_readArr.l1 : Nat → ByteArray → Int → Int → List (S68) → Option (Int × (List (S68)) × ByteArray × Bool)
  | 0, _, _, _, _ => none
  | k + 1, x0, x1, x181000, x181001 => if x0.toList = ([] : List UInt8) then (impl_readArr.j4 k x0 x1 false x181000 x181001) else (if 0 < (x0.size : Int) then (if (bt x0 0) = 93 then (impl_readArr.j4 k x0 x1 (decide ((x181001.length : Int) > 0)) x181000 x181001) else (impl_readArr.j4 k x0 x1 true x181000 x181001)) else (none))
def impl_readArr.j4 : Nat → ByteArray → Int → Bool → Int → List (S68) → Option (Int × (List (S68)) × ByteArray × Bool)
  | 0, _, _, _, _, _ => none
  | k + 1, x0, x1, x83, x181000, x181001 => if x83 = true then ((impl_readArr.f k x0 (wrap64 (x1 - 1))).bind fun bt181 => (if bt181.2.2.2 = true then (if bt181.2.2.1.toList = ([] : List UInt8) then (impl_readArr.j5 k x1 bt181.2.2.1 true x181000 x181001 bt181.1 bt181.2.1) else (if 0 < (bt181.2.2.1.size : Int) then (if (bt bt181.2.2.1 0) = 44 then (impl_readArr.j5 k x1 bt181.2.2.1 false x181000 x181001 bt181.1 bt181.2.1) else (impl_readArr.j5 k x1 bt181.2.2.1 ((bt bt181.2.2.1 0) != 93) x181000 x181001 bt181.1 bt181.2.1)) else (none))) else (impl_readArr.j5 k x1 bt181.2.2.1 true x181000 x181001 bt181.1 bt181.2.1))) else (if x0.toList = ([] : List UInt8) then (some (0, ([] : List (S68)), (⟨#[]⟩ : ByteArray), false)) else (if 1 ≤ (x0.size : Int) then (some (x181000, x181001, x0.extract 1 x0.size, true)) else (none)))
def impl_readArr.j5 : Nat → Int → ByteArray → Bool → Int → List (S68) → Int → List (S68) → Option (Int × (List (S68)) × ByteArray × Bool)
  | 0, _, _, _, _, _, _, _ => none
  | k + 1, x1, x12, x107, x181000, x181001, x188000, x188001 => if x107 = true then (some (0, ([] : List (S68)), (⟨#[]⟩ : ByteArray), false)) else (if x181001.length < 4398046511104 then ((some (x181001 ++ [(⟨x188000, x188001⟩ : S68)] : List (S68))).bind fun y188 => (if 0 < (x12.size : Int) then (if (bt x12 0) = 93 then (if 1 ≤ (x12.size : Int) then (some (x181000, y188, x12.extract 1 x12.size, true)) else (none)) else (if 1 ≤ (x12.size : Int) then (impl_readArr.l1 k (x12.extract 1 x12.size) x1 x181000 y188) else (none))) else (none))) else (none))
def impl_readArr.f : Nat → ByteArray → Int → Option (Int × (List (S68)) × ByteArray × Bool)
  | 0, _, _ => none
  | k + 1, a0, a1 => if a1 = 0 then (impl_readArr.l0 k a0 0) else (if a0.toList = ([] : List UInt8) then (impl_readArr.j2 k a0 a1 true) else (if 0 < (a0.size : Int) then (impl_readArr.j2 k a0 a1 ((bt a0 0) != 91)) else (none)))
end
def impl_readArr.I0 (r1 : Int) (r2 : List (S68)) (r3 : ByteArray) (r4 : Bool) (m : Nat) (σ : St) : Prop := ∃ (x0 : ByteArray) (x7 : Int) (x176000 : Int), impl_readArr.l0 m x0 x7 = some (r1, r2, r3, r4) ∧ σ = ⟨[(0, .v (.string x0)), (4, .pt 1004 0 0), (7, .v (.int .i64 x7))], [(1004, .box 0 68 false [.v (.int .i64 x176000), .v (.slice none 0 0)])]⟩
def impl_readArr.I1 (r1 : Int) (r2 : List (S68)) (r3 : ByteArray) (r4 : Bool) (m : Nat) (σ : St) : Prop := ∃ (x0 : ByteArray) (x1 : Int) (x176000 : Int) (x181000 : Int) (x181001 : List (S68)), impl_readArr.l1 m x0 x1 x181000 x181001 = some (r1, r2, r3, r4) ∧ σ = ⟨[(0, .v (.string x0)), (1, .v (.int .i64 x1)), (4, .pt 1004 0 0), (10, .pt 1010 0 0)], [(1004, .box 0 68 false [.v (.int .i64 x176000), .v (.slice none 0 0)]), (3641, .own 0 68 2 (r68 x181001)), (1010, .box 0 68 false [.v (.int .i64 x181000), .ow 3641 0])]⟩
structure impl_readArr.C (k : Nat) : Prop where
 s_f : ∀ (a0 : ByteArray) (a1 : Int) (r1 : Int) (r2 : List (S68)) (r3 : ByteArray) (r4 : Bool), impl_readArr.f k a0 a1 = some (r1, r2, r3, r4) → Ctr TE 85 none [.v (.string a0), .v (.int .i64 a1)] [.ro (.ag [.v (.int .i64 r1), .sl 2 (r68 r2)]), .ro (.v (.string r3)), .ro (.v (.bool r4))] []
 s_j1 : ∀ (r1 : Int) (r2 : List (S68)) (r3 : ByteArray) (r4 : Bool) (w : World) (ro : Nat → Prop) (B : Nat) (_ : Fr TE (cx0 Tryz.f85 none w ro B)) (x0 : ByteArray) (x7 : Int) (x176000 : Int) (_ : impl_readArr.j1 k x0 x7 = some (r1, r2, r3, r4)), Kp (WS TE (cx0 Tryz.f85 none w ro B) (stkAt [1, 0, 1, 0, 1, 0, 9] [] (bodyOf Tryz.f85) []) ⟨[(0, .v (.string x0)), (4, .pt 1004 0 0), (7, .v (.int .i64 x7))], [(1004, .box 0 68 false [.v (.int .i64 x176000), .v (.slice none 0 0)])]⟩ (RetQ TE Tryz.f85 none [.ro (.ag [.v (.int .i64 r1), .sl 2 (r68 r2)]), .ro (.v (.string r3)), .ro (.v (.bool r4))] [] w ro B))
 s_l0 : ∀ (r1 : Int) (r2 : List (S68)) (r3 : ByteArray) (r4 : Bool) (w : World) (ro : Nat → Prop) (B : Nat) (_ : Fr TE (cx0 Tryz.f85 none w ro B)) (x0 : ByteArray) (x7 : Int) (x176000 : Int) (_ : impl_readArr.l0 k x0 x7 = some (r1, r2, r3, r4)), Kp (WS TE (cx0 Tryz.f85 none w ro B) (stkAt [1, 0, 1, 0, 1, 0, 0] [] (bodyOf Tryz.f85) []) ⟨[(0, .v (.string x0)), (4, .pt 1004 0 0), (7, .v (.int .i64 x7))], [(1004, .box 0 68 false [.v (.int .i64 x176000), .v (.slice none 0 0)])]⟩ (RetQ TE Tryz.f85 none [.ro (.ag [.v (.int .i64 r1), .sl 2 (r68 r2)]), .ro (.v (.string r3)), .ro (.v (.bool r4))] [] w ro B))
 s_j2 : ∀ (r1 : Int) (r2 : List (S68)) (r3 : ByteArray) (r4 : Bool) (w : World) (ro : Nat → Prop) (B : Nat) (_ : Fr TE (cx0 Tryz.f85 none w ro B)) (x0 : ByteArray) (x1 : Int) (x67 : Bool) (x176000 : Int) (_ : impl_readArr.j2 k x0 x1 x67 = some (r1, r2, r3, r4)), Kp (WS TE (cx0 Tryz.f85 none w ro B) (stkAt [1, 1, 0, 0, 9] [] (bodyOf Tryz.f85) []) ⟨[(0, .v (.string x0)), (1, .v (.int .i64 x1)), (4, .pt 1004 0 0), (67, .v (.bool x67))], [(1004, .box 0 68 false [.v (.int .i64 x176000), .v (.slice none 0 0)])]⟩ (RetQ TE Tryz.f85 none [.ro (.ag [.v (.int .i64 r1), .sl 2 (r68 r2)]), .ro (.v (.string r3)), .ro (.v (.bool r4))] [] w ro B))
 s_l1 : ∀ (r1 : Int) (r2 : List (S68)) (r3 : ByteArray) (r4 : Bool) (w : World) (ro : Nat → Prop) (B : Nat) (_ : Fr TE (cx0 Tryz.f85 none w ro B)) (x0 : ByteArray) (x1 : Int) (x176000 : Int) (x181000 : Int) (x181001 : List (S68)) (_ : impl_readArr.l1 k x0 x1 x181000 x181001 = some (r1, r2, r3, r4)), Kp (WS TE (cx0 Tryz.f85 none w ro B) (stkAt [1, 1, 1, 1, 0, 1, 0] [] (bodyOf Tryz.f85) []) ⟨[(0, .v (.string x0)), (1, .v (.int .i64 x1)), (4, .pt 1004 0 0), (10, .pt 1010 0 0)], [(1004, .box 0 68 false [.v (.int .i64 x176000), .v (.slice none 0 0)]), (3641, .own 0 68 2 (r68 x181001)), (1010, .box 0 68 false [.v (.int .i64 x181000), .ow 3641 0])]⟩ (RetQ TE Tryz.f85 none [.ro (.ag [.v (.int .i64 r1), .sl 2 (r68 r2)]), .ro (.v (.string r3)), .ro (.v (.bool r4))] [] w ro B))
 s_j4 : ∀ (r1 : Int) (r2 : List (S68)) (r3 : ByteArray) (r4 : Bool) (w : World) (ro : Nat → Prop) (B : Nat) (_ : Fr TE (cx0 Tryz.f85 none w ro B)) (J1 : St → Prop) (_ : ∀ m σ, m ≤ k → impl_readArr.I1 r1 r2 r3 r4 m σ → J1 σ) (x0 : ByteArray) (x1 : Int) (x83 : Bool) (x176000 : Int) (x181000 : Int) (x181001 : List (S68)) (_ : impl_readArr.j4 k x0 x1 x83 x181000 x181001 = some (r1, r2, r3, r4)), Kp (WS TE (cx0 Tryz.f85 none w ro B) (stkAt [1, 1, 1, 1, 0, 1, 0, 0, 0, 0, 9] [J1] (bodyOf Tryz.f85) []) ⟨[(0, .v (.string x0)), (1, .v (.int .i64 x1)), (4, .pt 1004 0 0), (10, .pt 1010 0 0), (83, .v (.bool x83))], [(1004, .box 0 68 false [.v (.int .i64 x176000), .v (.slice none 0 0)]), (3641, .own 0 68 2 (r68 x181001)), (1010, .box 0 68 false [.v (.int .i64 x181000), .ow 3641 0])]⟩ (RetQ TE Tryz.f85 none [.ro (.ag [.v (.int .i64 r1), .sl 2 (r68 r2)]), .ro (.v (.string r3)), .ro (.v (.bool r4))] [] w ro B))
 s_j5 : ∀ (r1 : Int) (r2 : List (S68)) (r3 : ByteArray) (r4 : Bool) (w : World) (ro : Nat → Prop) (B : Nat) (_ : Fr TE (cx0 Tryz.f85 none w ro B)) (J1 : St → Prop) (_ : ∀ m σ, m ≤ k → impl_readArr.I1 r1 r2 r3 r4 m σ → J1 σ) (x1 : Int) (x12 : ByteArray) (x107 : Bool) (x176000 : Int) (x181000 : Int) (x181001 : List (S68)) (x188000 : Int) (x188001 : List (S68)) (_ : impl_readArr.j5 k x1 x12 x107 x181000 x181001 x188000 x188001 = some (r1, r2, r3, r4)), Kp (WS TE (cx0 Tryz.f85 none w ro B) (stkAt [1, 1, 1, 1, 0, 1, 0, 0, 1, 0, 1, 0, 0, 9] [J1] (bodyOf Tryz.f85) []) ⟨[(1, .v (.int .i64 x1)), (4, .pt 1004 0 0), (10, .pt 1010 0 0), (11, .pt 1011 0 0), (12, .v (.string x12)), (107, .v (.bool x107))], [(1004, .box 0 68 false [.v (.int .i64 x176000), .v (.slice none 0 0)]), (3641, .own 0 68 2 (r68 x181001)), (1010, .box 0 68 false [.v (.int .i64 x181000), .ow 3641 0]), (1011, .box 0 68 false [.v (.int .i64 x188000), .sl 2 (r68 x188001)])]⟩ (RetQ TE Tryz.f85 none [.ro (.ag [.v (.int .i64 r1), .sl 2 (r68 r2)]), .ro (.v (.string r3)), .ro (.v (.bool r4))] [] w ro B))
set_option maxRecDepth 100000 in
set_option maxHeartbeats 4000000 in
theorem impl_readArr.c_f (k : Nat) (ih : Kp (∀ m, m < k → impl_readArr.C m)) (a0 : ByteArray) (a1 : Int) (r1 : Int) (r2 : List (S68)) (r3 : ByteArray) (r4 : Bool) (h : impl_readArr.f k a0 a1 = some (r1, r2, r3, r4)) : Ctr TE 85 none [.v (.string a0), .v (.int .i64 a1)] [.ro (.ag [.v (.int .i64 r1), .sl 2 (r68 r2)]), .ro (.v (.string r3)), .ro (.v (.bool r4))] [] := by
 cases k with
 | zero => simp [impl_readArr.f] at h
 | succ k =>
 simp only [impl_readArr.f] at h
 refine ctr_of (fn := Tryz.f85) (c := (bodyOf Tryz.f85)) Tryz.func85 rfl (by kernel_rfl) (Nat.le_of_ble_eq_true (by kernel_rfl)) (fun w ro B hF _ => ?_)
 by_cases c1 : a1 = 0
 · rw [if_pos c1] at h
   refine path_ok (k := 10) hF (RetQ_mild _ _ _ _ _ _ _ _) (ds := [.b true]) (os := []) (c := none) rfl KD ?_
   exact WS.can [(1004, some 4)] (((ih.out k (by omega)).s_l0  r1 r2 r3 r4 w ro B hF a0 0 0 h).out) KD
 · rw [if_neg c1] at h
   by_cases c2 : a0.toList = ([] : List UInt8)
   · rw [if_pos c2] at h
     refine path_ok (k := 10) hF (RetQ_mild _ _ _ _ _ _ _ _) (ds := [.b false, .b true, .b true, .b true, .b true]) (os := []) (c := none) rfl KD ?_
     exact WS.can [(1004, some 4)] (((ih.out k (by omega)).s_j2  r1 r2 r3 r4 w ro B hF a0 a1 true 0 h).out) KD
   · rw [if_neg c2] at h
     by_cases c3 : 0 < (a0.size : Int)
     · rw [if_pos c3] at h
       have hb3 := bt_range a0 0
       refine path_ok (k := 10) hF (RetQ_mild _ _ _ _ _ _ _ _) (ds := [.b false, .b false, .b false, .b false, .b false]) (os := []) (c := none) rfl KD ?_
       exact WS.can [(1004, some 4)] (((ih.out k (by omega)).s_j2  r1 r2 r3 r4 w ro B hF a0 a1 ((bt a0 0) != 91) 0 h).out) KD
     · rw [if_neg c3] at h
       cases h
set_option maxRecDepth 100000 in
set_option maxHeartbeats 4000000 in
theorem impl_readArr.c_j1 (k : Nat) (ih : Kp (∀ m, m < k → impl_readArr.C m)) (r1 : Int) (r2 : List (S68)) (r3 : ByteArray) (r4 : Bool) (w : World) (ro : Nat → Prop) (B : Nat) (hF : Fr TE (cx0 Tryz.f85 none w ro B)) (x0 : ByteArray) (x7 : Int) (x176000 : Int) (h : impl_readArr.j1 k x0 x7 = some (r1, r2, r3, r4)) : Kp (WS TE (cx0 Tryz.f85 none w ro B) (stkAt [1, 0, 1, 0, 1, 0, 9] [] (bodyOf Tryz.f85) []) ⟨[(0, .v (.string x0)), (4, .pt 1004 0 0), (7, .v (.int .i64 x7))], [(1004, .box 0 68 false [.v (.int .i64 x176000), .v (.slice none 0 0)])]⟩ (RetQ TE Tryz.f85 none [.ro (.ag [.v (.int .i64 r1), .sl 2 (r68 r2)]), .ro (.v (.string r3)), .ro (.v (.bool r4))] [] w ro B)) := by
 refine ⟨?_⟩
 cases k with
 | zero => simp [impl_readArr.j1] at h
 | succ k =>
 simp only [impl_readArr.j1] at h
 by_cases c14 : 0 ≤ x7
 · rw [if_pos c14] at h
   by_cases c15 : x7 ≤ (x0.size : Int)
   · rw [if_pos c15] at h
     obtain ⟨⟨t176, t177⟩, q16, h⟩ := Option.bind_eq_some_iff.1 h
     dsimp only at h
     have q16c := strconv_Atoi.ctr _ _ _ q16
     by_cases c17 : t177.isNone = true
     · rw [if_pos c17] at h
       by_cases c18 : t176 ≥ 10007
       · rw [if_pos c18] at h
         refine path_ok (k := 9) hF (RetQ_mild _ _ _ _ _ _ _ _) (ds := [.r [.ro (.v (.int .i64 t176)), .ro (.er t177.isNone)] [], .b false, .b false, .b false, .b true, .b true, .b true, .b true, .b true, .b true, .b true, .b true]) (os := [.o [(0, 0), (1, 0), (2, 0), (3, 0), (4, 0), (5, 0), (6, 0), (7, 0), (9, 0), (10, 0), (11, 0), (8, 2), (12, 0), (13, 0)] []]) (c := none) rfl KD ?_
         cases h
         exact ret_as (ms := [.ro, .ro, .ro]) rfl KD
       · rw [if_neg c18] at h
         obtain ⟨t179, q19, h⟩ := Option.bind_eq_some_iff.1 h
         have q19c := strconv_Itoa.ctr _ _ q19
         by_cases c20 : t179.toList = (x0.extract 0 (x7 : Int).toNat).toList
         · rw [if_pos c20] at h
           refine path_ok (k := 10) hF (RetQ_mild _ _ _ _ _ _ _ _) (ds := [.r [.ro (.v (.int .i64 t176)), .ro (.er t177.isNone)] [], .b false, .b false, .b false, .b false, .b false, .b false, .b false, .b false, .r [.ro (.v (.string t179))] [], .b false, .b false, .b false]) (os := [.o [(0, 0), (1, 0), (2, 0), (3, 0), (4, 0), (5, 0), (6, 0), (7, 0), (9, 0), (10, 0), (11, 0), (8, 2), (12, 0), (13, 0)] [], .o [(0, 0), (1, 0), (2, 0), (3, 0), (4, 0), (5, 2), (6, 0), (7, 0)] [5]]) (c := none) rfl KD ?_
           cases h
           exact ret_as (ms := [.ro, .ro, .ro]) rfl KD
         · rw [if_neg c20] at h
           refine path_ok (k := 9) hF (RetQ_mild _ _ _ _ _ _ _ _) (ds := [.r [.ro (.v (.int .i64 t176)), .ro (.er t177.isNone)] [], .b false, .b false, .b false, .b false, .b false, .b false, .b false, .b false, .r [.ro (.v (.string t179))] [], .b false, .b false, .b true]) (os := [.o [(0, 0), (1, 0), (2, 0), (3, 0), (4, 0), (5, 0), (6, 0), (7, 0), (9, 0), (10, 0), (11, 0), (8, 2), (12, 0), (13, 0)] []]) (c := none) rfl KD ?_
           cases h
           exact ret_as (ms := [.ro, .ro, .ro]) rfl KD
     · rw [if_neg c17] at h
       refine path_ok (k := 9) hF (RetQ_mild _ _ _ _ _ _ _ _) (ds := [.r [.ro (.v (.int .i64 t176)), .ro (.er t177.isNone)] [], .b true, .b true, .b true, .b true, .b true, .b true, .b true, .b true, .b true, .b true, .b true]) (os := [.o [(0, 0), (1, 0), (2, 0), (3, 0), (4, 0), (5, 0), (6, 0), (7, 0), (9, 0), (10, 0), (11, 0), (8, 2), (12, 0), (13, 0)] []]) (c := none) rfl KD ?_
       cases h
       exact ret_as (ms := [.ro, .ro, .ro]) rfl KD
   · rw [if_neg c15] at h
     cases h
 · rw [if_neg c14] at h
   cases h
set_option maxRecDepth 100000 in
set_option maxHeartbeats 4000000 in
theorem impl_readArr.c_l0 (k : Nat) (ih : Kp (∀ m, m < k → impl_readArr.C m)) (r1 : Int) (r2 : List (S68)) (r3 : ByteArray) (r4 : Bool) (w : World) (ro : Nat → Prop) (B : Nat) (hF : Fr TE (cx0 Tryz.f85 none w ro B)) (x0 : ByteArray) (x7 : Int) (x176000 : Int) (h : impl_readArr.l0 k x0 x7 = some (r1, r2, r3, r4)) : Kp (WS TE (cx0 Tryz.f85 none w ro B) (stkAt [1, 0, 1, 0, 1, 0, 0] [] (bodyOf Tryz.f85) []) ⟨[(0, .v (.string x0)), (4, .pt 1004 0 0), (7, .v (.int .i64 x7))], [(1004, .box 0 68 false [.v (.int .i64 x176000), .v (.slice none 0 0)])]⟩ (RetQ TE Tryz.f85 none [.ro (.ag [.v (.int .i64 r1), .sl 2 (r68 r2)]), .ro (.v (.string r3)), .ro (.v (.bool r4))] [] w ro B)) := by
 refine ⟨WS.loop (fun m σ => m ≤ k ∧ impl_readArr.I0 r1 r2 r3 r4 m σ) k ⟨Nat.le_refl k, x0, x7, x176000, h, rfl⟩ (fun m σ' hI J0 hJ0 => ?_)⟩
 clear h
 obtain ⟨hk, x0, x7, x176000, h, rfl⟩ := hI
 cases m with
 | zero => simp [impl_readArr.l0] at h
 | succ k' =>
 simp only [impl_readArr.l0] at h
 by_cases c5 : x7 < (x0.size : Int)
 · rw [if_pos c5] at h
   by_cases c6 : 0 ≤ x7
   · rw [if_pos c6] at h
     by_cases c7 : (bt x0 x7) ≥ 48
     · rw [if_pos c7] at h
       by_cases c8 : (bt x0 x7) ≤ 57
       · rw [if_pos c8] at h
         have hb8 := bt_range x0 x7
         refine path_ok (k := 8) hF (RetQ_mild _ _ _ _ _ _ _ _) (ds := [.b true, .b true, .b true, .b true, .b true, .b true, .b true, .b true, .b true, .b true, .b true]) (os := []) (c := none) rfl KD ?_
         exact WS.lpc [(1004, some 1004)] (hJ0 _ _ (Nat.lt_succ_self _) ⟨by omega, x0, (wrap64 (x7 + 1)), x176000, h, rfl⟩) KD
       · rw [if_neg c8] at h
         have hb9 := bt_range x0 x7
         refine path_ok (k := 5) hF (RetQ_mild _ _ _ _ _ _ _ _) (ds := [.b true, .b true, .b true, .b true, .b true, .b true, .b true, .b true, .b true, .b true, .b false]) (os := []) (c := none) rfl KD ?_
         exact WS.can [(1004, some 1004)] (((ih.out k' (by omega)).s_j1  r1 r2 r3 r4 w ro B hF x0 x7 x176000 h).out) KD
     · rw [if_neg c7] at h
       have hb10 := bt_range x0 x7
       refine path_ok (k := 5) hF (RetQ_mild _ _ _ _ _ _ _ _) (ds := [.b true, .b true, .b true, .b true, .b true, .b false, .b false, .b false, .b false, .b false, .b false]) (os := []) (c := none) rfl KD ?_
       exact WS.can [(1004, some 1004)] (((ih.out k' (by omega)).s_j1  r1 r2 r3 r4 w ro B hF x0 x7 x176000 h).out) KD
   · rw [if_neg c6] at h
     cases h
 · rw [if_neg c5] at h
   refine path_ok (k := 5) hF (RetQ_mild _ _ _ _ _ _ _ _) (ds := [.b false, .b false, .b false, .b false, .b false, .b false, .b false, .b false, .b false, .b false, .b false]) (os := []) (c := none) rfl KD ?_
   exact WS.can [(1004, some 1004)] (((ih.out k' (by omega)).s_j1  r1 r2 r3 r4 w ro B hF x0 x7 x176000 h).out) KD
set_option maxRecDepth 100000 in
set_option maxHeartbeats 4000000 in
theorem impl_readArr.c_j2 (k : Nat) (ih : Kp (∀ m, m < k → impl_readArr.C m)) (r1 : Int) (r2 : List (S68)) (r3 : ByteArray) (r4 : Bool) (w : World) (ro : Nat → Prop) (B : Nat) (hF : Fr TE (cx0 Tryz.f85 none w ro B)) (x0 : ByteArray) (x1 : Int) (x67 : Bool) (x176000 : Int) (h : impl_readArr.j2 k x0 x1 x67 = some (r1, r2, r3, r4)) : Kp (WS TE (cx0 Tryz.f85 none w ro B) (stkAt [1, 1, 0, 0, 9] [] (bodyOf Tryz.f85) []) ⟨[(0, .v (.string x0)), (1, .v (.int .i64 x1)), (4, .pt 1004 0 0), (67, .v (.bool x67))], [(1004, .box 0 68 false [.v (.int .i64 x176000), .v (.slice none 0 0)])]⟩ (RetQ TE Tryz.f85 none [.ro (.ag [.v (.int .i64 r1), .sl 2 (r68 r2)]), .ro (.v (.string r3)), .ro (.v (.bool r4))] [] w ro B)) := by
 refine ⟨?_⟩
 cases k with
 | zero => simp [impl_readArr.j2] at h
 | succ k =>
 simp only [impl_readArr.j2] at h
 by_cases c12 : x67 = true
 · rw [if_pos c12] at h
   refine path_ok (k := 4) hF (RetQ_mild _ _ _ _ _ _ _ _) (ds := [.b true]) (os := []) (c := none) rfl KD ?_
   cases h
   exact ret_as (ms := [.ro, .ro, .ro]) rfl KD
 · rw [if_neg c12] at h
   by_cases c13 : 1 ≤ (x0.size : Int)
   · rw [if_pos c13] at h
     refine path_ok (k := 8) hF (RetQ_mild _ _ _ _ _ _ _ _) (ds := [.b false]) (os := []) (c := none) rfl KD ?_
     exact WS.can [(1004, some 1004), (1010, some 10), (3641, none)] (((ih.out k (by omega)).s_l1  r1 r2 r3 r4 w ro B hF (x0.extract 1 x0.size) x1 x176000 0 ([] : List (S68)) h).out) KD
   · rw [if_neg c13] at h
     cases h
set_option maxRecDepth 100000 in
set_option maxHeartbeats 4000000 in
theorem impl_readArr.c_l1 (k : Nat) (ih : Kp (∀ m, m < k → impl_readArr.C m)) (r1 : Int) (r2 : List (S68)) (r3 : ByteArray) (r4 : Bool) (w : World) (ro : Nat → Prop) (B : Nat) (hF : Fr TE (cx0 Tryz.f85 none w ro B)) (x0 : ByteArray) (x1 : Int) (x176000 : Int) (x181000 : Int) (x181001 : List (S68)) (h : impl_readArr.l1 k x0 x1 x181000 x181001 = some (r1, r2, r3, r4)) : Kp (WS TE (cx0 Tryz.f85 none w ro B) (stkAt [1, 1, 1, 1, 0, 1, 0] [] (bodyOf Tryz.f85) []) ⟨[(0, .v (.string x0)), (1, .v (.int .i64 x1)), (4, .pt 1004 0 0), (10, .pt 1010 0 0)], [(1004, .box 0 68 false [.v (.int .i64 x176000), .v (.slice none 0 0)]), (3641, .own 0 68 2 (r68 x181001)), (1010, .box 0 68 false [.v (.int .i64 x181000), .ow 3641 0])]⟩ (RetQ TE Tryz.f85 none [.ro (.ag [.v (.int .i64 r1), .sl 2 (r68 r2)]), .ro (.v (.string r3)), .ro (.v (.bool r4))] [] w ro B)) := by
 refine ⟨WS.loop (fun m σ => m ≤ k ∧ impl_readArr.I1 r1 r2 r3 r4 m σ) k ⟨Nat.le_refl k, x0, x1, x176000, x181000, x181001, h, rfl⟩ (fun m σ' hI J1 hJ1 => ?_)⟩
 clear h
 obtain ⟨hk, x0, x1, x176000, x181000, x181001, h, rfl⟩ := hI
 cases m with
 | zero => simp [impl_readArr.l1] at h
 | succ k' =>
 simp only [impl_readArr.l1] at h
 by_cases c21 : x0.toList = ([] : List UInt8)
 · rw [if_pos c21] at h
   refine path_ok (k := 3) hF (RetQ_mild _ _ _ _ _ _ _ _) (ds := [.b false, .b false, .b false, .b false, .b false, .b false]) (os := []) (c := none) rfl KD ?_
   exact WS.can [(1004, some 1004), (1010, some 1010), (3641, some 3641)] (((ih.out k' (by omega)).s_j4  r1 r2 r3 r4 w ro B hF J1 (fun m σ hm hI => hJ1 m σ (by omega) ⟨by omega, hI⟩) x0 x1 false x176000 x181000 x181001 h).out) KD
 · rw [if_neg c21] at h
   by_cases c22 : 0 < (x0.size : Int)
   · rw [if_pos c22] at h
     by_cases c23 : (bt x0 0) = 93
     · rw [if_pos c23] at h
       have hb23 := bt_range x0 0
       refine path_ok (k := 3) hF (RetQ_mild _ _ _ _ _ _ _ _) (ds := [.b true, .b true, .b true, .b true, .b false, .b false, .b false, .e 80 (.v (.int .i64 (x181001.length : Int))), .b false, .b true, .b false, .b true]) (os := []) (c := none) rfl KD ?_
       exact WS.can [(1004, some 1004), (1010, some 1010), (3641, some 3641)] (((ih.out k' (by omega)).s_j4  r1 r2 r3 r4 w ro B hF J1 (fun m σ hm hI => hJ1 m σ (by omega) ⟨by omega, hI⟩) x0 x1 (decide ((x181001.length : Int) > 0)) x176000 x181000 x181001 h).out) KD
     · rw [if_neg c23] at h
       have hb24 := bt_range x0 0
       refine path_ok (k := 3) hF (RetQ_mild _ _ _ _ _ _ _ _) (ds := [.b true, .b true, .b true, .b true, .b true, .b true, .b true, .b true, .b true, .b true, .b true]) (os := []) (c := none) rfl KD ?_
       exact WS.can [(1004, some 1004), (1010, some 1010), (3641, some 3641)] (((ih.out k' (by omega)).s_j4  r1 r2 r3 r4 w ro B hF J1 (fun m σ hm hI => hJ1 m σ (by omega) ⟨by omega, hI⟩) x0 x1 true x176000 x181000 x181001 h).out) KD
   · rw [if_neg c22] at h
     cases h
set_option maxRecDepth 100000 in
set_option maxHeartbeats 4000000 in
theorem impl_readArr.c_j4 (k : Nat) (ih : Kp (∀ m, m < k → impl_readArr.C m)) (r1 : Int) (r2 : List (S68)) (r3 : ByteArray) (r4 : Bool) (w : World) (ro : Nat → Prop) (B : Nat) (hF : Fr TE (cx0 Tryz.f85 none w ro B)) (J1 : St → Prop) (hJ1 : ∀ m σ, m ≤ k → impl_readArr.I1 r1 r2 r3 r4 m σ → J1 σ) (x0 : ByteArray) (x1 : Int) (x83 : Bool) (x176000 : Int) (x181000 : Int) (x181001 : List (S68)) (h : impl_readArr.j4 k x0 x1 x83 x181000 x181001 = some (r1, r2, r3, r4)) : Kp (WS TE (cx0 Tryz.f85 none w ro B) (stkAt [1, 1, 1, 1, 0, 1, 0, 0, 0, 0, 9] [J1] (bodyOf Tryz.f85) []) ⟨[(0, .v (.string x0)), (1, .v (.int .i64 x1)), (4, .pt 1004 0 0), (10, .pt 1010 0 0), (83, .v (.bool x83))], [(1004, .box 0 68 false [.v (.int .i64 x176000), .v (.slice none 0 0)]), (3641, .own 0 68 2 (r68 x181001)), (1010, .box 0 68 false [.v (.int .i64 x181000), .ow 3641 0])]⟩ (RetQ TE Tryz.f85 none [.ro (.ag [.v (.int .i64 r1), .sl 2 (r68 r2)]), .ro (.v (.string r3)), .ro (.v (.bool r4))] [] w ro B)) := by
 refine ⟨?_⟩
 cases k with
 | zero => simp [impl_readArr.j4] at h
 | succ k =>
 simp only [impl_readArr.j4] at h
 by_cases c26 : x83 = true
 · rw [if_pos c26] at h
   obtain ⟨⟨t181, t182, t185, t186⟩, q27, h⟩ := Option.bind_eq_some_iff.1 h
   dsimp only at h
   have q27c := (ih.out k (by omega)).s_f _ _ _ _ _ _ q27
   by_cases c28 : t186 = true
   · rw [if_pos c28] at h
     by_cases c29 : t185.toList = ([] : List UInt8)
     · rw [if_pos c29] at h
       refine path_ok (k := 8) hF (RetQ_mild _ _ _ _ _ _ _ _) (ds := [.b true, .r [.ro (.ag [.v (.int .i64 t181), .sl 2 (r68 t182)]), .ro (.v (.string t185)), .ro (.v (.bool t186))] [], .b false, .b false, .b false, .b true, .b true, .b true, .b true, .b true, .b true]) (os := []) (c := none) rfl KD ?_
       exact WS.can [(1004, some 1004), (1010, some 1010), (3641, some 3641), (1011, some 11)] (((ih.out k (by omega)).s_j5  r1 r2 r3 r4 w ro B hF J1 (fun m σ hm hI => hJ1 m σ (by omega) hI) x1 t185 true x176000 x181000 x181001 t181 t182 h).out) KD
     · rw [if_neg c29] at h
       by_cases c30 : 0 < (t185.size : Int)
       · rw [if_pos c30] at h
         by_cases c31 : (bt t185 0) = 44
         · rw [if_pos c31] at h
           have hb31 := bt_range t185 0
           refine path_ok (k := 8) hF (RetQ_mild _ _ _ _ _ _ _ _) (ds := [.b true, .r [.ro (.ag [.v (.int .i64 t181), .sl 2 (r68 t182)]), .ro (.v (.string t185)), .ro (.v (.bool t186))] [], .b false, .b false, .b false, .b false, .b false, .b false, .b false, .b false, .b false, .b false, .b false, .b false, .b false]) (os := []) (c := none) rfl KD ?_
           exact WS.can [(1004, some 1004), (1010, some 1010), (3641, some 3641), (1011, some 11)] (((ih.out k (by omega)).s_j5  r1 r2 r3 r4 w ro B hF J1 (fun m σ hm hI => hJ1 m σ (by omega) hI) x1 t185 false x176000 x181000 x181001 t181 t182 h).out) KD
         · rw [if_neg c31] at h
           have hb32 := bt_range t185 0
           refine path_ok (k := 8) hF (RetQ_mild _ _ _ _ _ _ _ _) (ds := [.b true, .r [.ro (.ag [.v (.int .i64 t181), .sl 2 (r68 t182)]), .ro (.v (.string t185)), .ro (.v (.bool t186))] [], .b false, .b false, .b false, .b false, .b false, .b false, .b false, .b true, .b true, .b true, .b false, .b true, .b false]) (os := []) (c := none) rfl KD ?_
           exact WS.can [(1004, some 1004), (1010, some 1010), (3641, some 3641), (1011, some 11)] (((ih.out k (by omega)).s_j5  r1 r2 r3 r4 w ro B hF J1 (fun m σ hm hI => hJ1 m σ (by omega) hI) x1 t185 ((bt t185 0) != 93) x176000 x181000 x181001 t181 t182 h).out) KD
       · rw [if_neg c30] at h
         cases h
   · rw [if_neg c28] at h
     refine path_ok (k := 8) hF (RetQ_mild _ _ _ _ _ _ _ _) (ds := [.b true, .r [.ro (.ag [.v (.int .i64 t181), .sl 2 (r68 t182)]), .ro (.v (.string t185)), .ro (.v (.bool t186))] [], .b true, .b true, .b true, .b true, .b true, .b true, .b true, .b true, .b true]) (os := []) (c := none) rfl KD ?_
     exact WS.can [(1004, some 1004), (1010, some 1010), (3641, some 3641), (1011, some 11)] (((ih.out k (by omega)).s_j5  r1 r2 r3 r4 w ro B hF J1 (fun m σ hm hI => hJ1 m σ (by omega) hI) x1 t185 true x176000 x181000 x181001 t181 t182 h).out) KD
 · rw [if_neg c26] at h
   by_cases c34 : x0.toList = ([] : List UInt8)
   · rw [if_pos c34] at h
     refine path_ok (k := 9) hF (RetQ_mild _ _ _ _ _ _ _ _) (ds := [.b false, .b true]) (os := []) (c := none) rfl KD ?_
     cases h
     exact ret_as (ms := [.ro, .ro, .ro]) rfl KD
   · rw [if_neg c34] at h
     by_cases c35 : 1 ≤ (x0.size : Int)
     · rw [if_pos c35] at h
       refine path_ok (k := 10) hF (RetQ_mild _ _ _ _ _ _ _ _) (ds := [.b false, .b false]) (os := [.o [(0, 1), (1, 0), (2, 0), (3, 2), (4, 0), (5, 0)] [3]]) (c := none) rfl KD ?_
       cases h
       exact ret_as (ms := [.ro, .ro, .ro]) rfl KD
     · rw [if_neg c35] at h
       cases h
set_option maxRecDepth 100000 in
set_option maxHeartbeats 4000000 in
theorem impl_readArr.c_j5 (k : Nat) (ih : Kp (∀ m, m < k → impl_readArr.C m)) (r1 : Int) (r2 : List (S68)) (r3 : ByteArray) (r4 : Bool) (w : World) (ro : Nat → Prop) (B : Nat) (hF : Fr TE (cx0 Tryz.f85 none w ro B)) (J1 : St → Prop) (hJ1 : ∀ m σ, m ≤ k → impl_readArr.I1 r1 r2 r3 r4 m σ → J1 σ) (x1 : Int) (x12 : ByteArray) (x107 : Bool) (x176000 : Int) (x181000 : Int) (x181001 : List (S68)) (x188000 : Int) (x188001 : List (S68)) (h : impl_readArr.j5 k x1 x12 x107 x181000 x181001 x188000 x188001 = some (r1, r2, r3, r4)) : Kp (WS TE (cx0 Tryz.f85 none w ro B) (stkAt [1, 1, 1, 1, 0, 1, 0, 0, 1, 0, 1, 0, 0, 9] [J1] (bodyOf Tryz.f85) []) ⟨[(1, .v (.int .i64 x1)), (4, .pt 1004 0 0), (10, .pt 1010 0 0), (11, .pt 1011 0 0), (12, .v (.string x12)), (107, .v (.bool x107))], [(1004, .box 0 68 false [.v (.int .i64 x176000), .v (.slice none 0 0)]), (3641, .own 0 68 2 (r68 x181001)), (1010, .box 0 68 false [.v (.int .i64 x181000), .ow 3641 0]), (1011, .box 0 68 false [.v (.int .i64 x188000), .sl 2 (r68 x188001)])]⟩ (RetQ TE Tryz.f85 none [.ro (.ag [.v (.int .i64 r1), .sl 2 (r68 r2)]), .ro (.v (.string r3)), .ro (.v (.bool r4))] [] w ro B)) := by
 refine ⟨?_⟩
 cases k with
 | zero => simp [impl_readArr.j5] at h
 | succ k =>
 simp only [impl_readArr.j5] at h
 by_cases c36 : x107 = true
 · rw [if_pos c36] at h
   refine path_ok (k := 4) hF (RetQ_mild _ _ _ _ _ _ _ _) (ds := [.b true]) (os := []) (c := none) rfl KD ?_
   cases h
   exact ret_as (ms := [.ro, .ro, .ro]) rfl KD
 · rw [if_neg c36] at h
   by_cases c37 : x181001.length < 4398046511104
   · rw [if_pos c37] at h
     obtain ⟨y188, hy188, h⟩ := Option.bind_eq_some_iff.1 h
     cases hy188
     by_cases c38 : 0 < (x12.size : Int)
     · rw [if_pos c38] at h
       by_cases c39 : (bt x12 0) = 93
       · rw [if_pos c39] at h
         by_cases c40 : 1 ≤ (x12.size : Int)
         · rw [if_pos c40] at h
           have hb40 := bt_range x12 0
           refine path_ok (k := 11) hF (RetQ_mild _ _ _ _ _ _ _ _) (ds := [.b false, .p 112 ([[.v (.int .i64 x188000), .sl 2 (r68 x188001)]]), .o 113 (r68 (x181001 ++ [(⟨x188000, x188001⟩ : S68)])), .b true]) (os := [.o [(0, 1), (1, 0), (2, 0), (3, 2), (4, 0), (5, 0)] [3]]) (c := none) rfl KD ?_
           cases h
           exact ret_as (ms := [.ro, .ro, .ro]) rfl KD
         · rw [if_neg c40] at h
           cases h
       · rw [if_neg c39] at h
         by_cases c42 : 1 ≤ (x12.size : Int)
         · rw [if_pos c42] at h
           have hb42 := bt_range x12 0
           refine path_ok (k := 11) hF (RetQ_mild _ _ _ _ _ _ _ _) (ds := [.b false, .p 112 ([[.v (.int .i64 x188000), .sl 2 (r68 x188001)]]), .o 113 (r68 (x181001 ++ [(⟨x188000, x188001⟩ : S68)])), .b false]) (os := []) (c := none) rfl KD ?_
           exact WS.lpc [(1004, some 1004), (1010, some 1010), (3641, some 3641)] (hJ1 _ _ (by omega) ⟨(x12.extract 1 x12.size), x1, x176000, x181000, (x181001 ++ [(⟨x188000, x188001⟩ : S68)]), h, rfl⟩) KD
         · rw [if_neg c42] at h
           cases h
     · rw [if_neg c38] at h
       cases h
   · rw [if_neg c37] at h
     cases h
theorem impl_readArr.cs (k : Nat) : impl_readArr.C k := by
 induction k using Nat.strongRecOn with
 | _ k ih0 =>
 have ih : Kp (∀ m, m < k → impl_readArr.C m) := ⟨ih0⟩
 exact ⟨impl_readArr.c_f k ih, impl_readArr.c_j1 k ih, impl_readArr.c_l0 k ih, impl_readArr.c_j2 k ih, impl_readArr.c_l1 k ih, impl_readArr.c_j4 k ih, impl_readArr.c_j5 k ih⟩
theorem impl_readArr.ctr (k : Nat) (a0 : ByteArray) (a1 : Int) (r1 : Int) (r2 : List (S68)) (r3 : ByteArray) (r4 : Bool) (h : impl_readArr.f k a0 a1 = some (r1, r2, r3, r4)) : Ctr TE 85 none [.v (.string a0), .v (.int .i64 a1)] [.ro (.ag [.v (.int .i64 r1), .sl 2 (r68 r2)]), .ro (.v (.string r3)), .ro (.v (.bool r4))] [] := (impl_readArr.cs k).s_f a0 a1 r1 r2 r3 r4 h
def impl_arrOf.f (k : Nat) (a0 : ByteArray) (a1 : Int) : Option (Int × (List (S68)) × Bool) := if a1 < 0 then (some (0, ([] : List (S68)), false)) else (if a1 > 3 then (some (0, ([] : List (S68)), false)) else (if (a0.size : Int) > 400 then (some (0, ([] : List (S68)), false)) else ((impl_readArr.f k a0 a1).bind fun bt192 => (if bt192.2.2.2 = true then (some (bt192.1, bt192.2.1, (bt192.2.2.1.toList == ([] : List UInt8)))) else (some (bt192.1, bt192.2.1, false))))))
set_option maxRecDepth 100000 in
set_option maxHeartbeats 4000000 in
theorem impl_arrOf.ctr (k : Nat) (a0 : ByteArray) (a1 : Int) (r1 : Int) (r2 : List (S68)) (r3 : Bool) (h : impl_arrOf.f k a0 a1 = some (r1, r2, r3)) : Ctr TE 42 none [.v (.string a0), .v (.int .i64 a1)] [.ro (.ag [.v (.int .i64 r1), .sl 2 (r68 r2)]), .ro (.v (.bool r3))] [] := by
 refine ctr_of (fn := Tryz.f42) (c := (bodyOf Tryz.f42)) Tryz.func42 rfl (by kernel_rfl) (Nat.le_of_ble_eq_true (by kernel_rfl)) (fun w ro B hF _ => ?_)
 simp only [impl_arrOf.f] at h
 by_cases c1 : a1 < 0
 · rw [if_pos c1] at h
   refine path_ok (k := 9) hF (RetQ_mild _ _ _ _ _ _ _ _) (ds := [.b true, .b true, .b true, .b true, .b true, .b true, .b true, .b true]) (os := []) (c := none) rfl KD ?_
   cases h
   exact ret_as (ms := [.ro, .ro]) rfl KD
 · rw [if_neg c1] at h
   by_cases c2 : a1 > 3
   · rw [if_pos c2] at h
     refine path_ok (k := 9) hF (RetQ_mild _ _ _ _ _ _ _ _) (ds := [.b false, .b false, .b false, .b true, .b true, .b true, .b true, .b true]) (os := []) (c := none) rfl KD ?_
     cases h
     exact ret_as (ms := [.ro, .ro]) rfl KD
   · rw [if_neg c2] at h
     by_cases c3 : (a0.size : Int) > 400
     · rw [if_pos c3] at h
       refine path_ok (k := 9) hF (RetQ_mild _ _ _ _ _ _ _ _) (ds := [.b false, .b false, .b false, .b false, .b false, .b false, .b false, .b true]) (os := []) (c := none) rfl KD ?_
       cases h
       exact ret_as (ms := [.ro, .ro]) rfl KD
     · rw [if_neg c3] at h
       obtain ⟨⟨t192, t193, t196, t197⟩, q4, h⟩ := Option.bind_eq_some_iff.1 h
       dsimp only at h
       have q4c := impl_readArr.ctr k _ _ _ _ _ _ q4
       by_cases c5 : t197 = true
       · rw [if_pos c5] at h
         refine path_ok (k := 12) hF (RetQ_mild _ _ _ _ _ _ _ _) (ds := [.b false, .b false, .b false, .b false, .b false, .b false, .b false, .b false, .r [.ro (.ag [.v (.int .i64 t192), .sl 2 (r68 t193)]), .ro (.v (.string t196)), .ro (.v (.bool t197))] [], .b true, .b true, .b true]) (os := []) (c := none) rfl KD ?_
         cases h
         exact ret_as (ms := [.ro, .ro]) rfl KD
       · rw [if_neg c5] at h
         refine path_ok (k := 12) hF (RetQ_mild _ _ _ _ _ _ _ _) (ds := [.b false, .b false, .b false, .b false, .b false, .b false, .b false, .b false, .r [.ro (.ag [.v (.int .i64 t192), .sl 2 (r68 t193)]), .ro (.v (.string t196)), .ro (.v (.bool t197))] [], .b false, .b false, .b false]) (os := []) (c := none) rfl KD ?_
         cases h
         exact ret_as (ms := [.ro, .ro]) rfl KD
mutual
def impl_arr_text.l0 : Nat → Int → List ByteArray → List (S68) → Int → Int → Option (ByteArray)
  | 0, _, _, _, _, _ => none
  | k + 1, x1, x5, x15, x16, x17 => if x17 < x16 then (if 0 ≤ x17 then (if x17 < (x15.length : Int) then ((impl_arr_text.f k ((rd_T68 x15 x17).f0) ((rd_T68 x15 x17).f1) (wrap64 (x1 - 1))).bind fun t206 => (if x5.length < 8796093022208 then (impl_arr_text.l0 k x1 (x5 ++ [t206]) x15 x16 (wrap64 (x17 + 1))) else (none))) else (none)) else (none)) else ((strings_Join.f x5 (⟨#[44]⟩ : ByteArray)).bind fun t210 => (if 1 + t210.size ≤ 9223372036854775807 then (if 1 + t210.size + 1 ≤ 9223372036854775807 then (some (((⟨#[91]⟩ : ByteArray) ++ t210) ++ (⟨#[93]⟩ : ByteArray))) else (none)) else (none)))
def impl_arr_text.f : Nat → Int → List (S68) → Int → Option (ByteArray)
  | 0, _, _, _ => none
  | k + 1, a0_0, l0_1, a1 => if a1 = 0 then ((strconv_Itoa.f a0_0).bind fun t200 => (some t200)) else (impl_arr_text.l0 k a1 (([] : List ByteArray)) l0_1 (l0_1.length : Int) 0)
end
def impl_arr_text.I0 (r : ByteArray) (m : Nat) (σ : St) : Prop := ∃ (x1 : Int) (x5 : List ByteArray) (x15 : List (S68)) (x16 : Int) (x17 : Int), impl_arr_text.l0 m x1 x5 x15 x16 x17 = some r ∧ σ = ⟨[(1, .v (.int .i64 x1)), (5, .ow 1005 0), (15, .sl 2 (r68 x15)), (16, .v (.int .i64 x16)), (17, .v (.int .i64 x17))], [(1005, .own 0 9 1 (rX cS x5))]⟩
structure impl_arr_text.C (k : Nat) : Prop where
 s_f : ∀ (a0_0 : Int) (l0_1 : List (S68)) (a1 : Int) (r : ByteArray), impl_arr_text.f k a0_0 l0_1 a1 = some r → Ctr TE 90 none [.ag [.v (.int .i64 a0_0), .sl 2 (r68 l0_1)], .v (.int .i64 a1)] [.ro (.v (.string r))] []
 s_l0 : ∀ (r : ByteArray) (w : World) (ro : Nat → Prop) (B : Nat) (_ : Fr TE (cx0 Tryz.f90 none w ro B)) (x1 : Int) (x5 : List ByteArray) (x15 : List (S68)) (x16 : Int) (x17 : Int) (_ : impl_arr_text.l0 k x1 x5 x15 x16 x17 = some r), Kp (WS TE (cx0 Tryz.f90 none w ro B) (stkAt [1, 1, 1, 0, 1, 0] [] (bodyOf Tryz.f90) []) ⟨[(1, .v (.int .i64 x1)), (5, .ow 1005 0), (15, .sl 2 (r68 x15)), (16, .v (.int .i64 x16)), (17, .v (.int .i64 x17))], [(1005, .own 0 9 1 (rX cS x5))]⟩ (RetQ TE Tryz.f90 none [.ro (.v (.string r))] [] w ro B))
set_option maxRecDepth 100000 in
set_option maxHeartbeats 4000000 in
theorem impl_arr_text.c_f (k : Nat) (ih : Kp (∀ m, m < k → impl_arr_text.C m)) (a0_0 : Int) (l0_1 : List (S68)) (a1 : Int) (r : ByteArray) (h : impl_arr_text.f k a0_0 l0_1 a1 = some r) : Ctr TE 90 none [.ag [.v (.int .i64 a0_0), .sl 2 (r68 l0_1)], .v (.int .i64 a1)] [.ro (.v (.string r))] [] := by
 cases k with
 | zero => simp [impl_arr_text.f] at h
 | succ k =>
 simp only [impl_arr_text.f] at h
 refine ctr_of (fn := Tryz.f90) (c := (bodyOf Tryz.f90)) Tryz.func90 rfl (by kernel_rfl) (Nat.le_of_ble_eq_true (by kernel_rfl)) (fun w ro B hF _ => ?_)
 by_cases c1 : a1 = 0
 · rw [if_pos c1] at h
   obtain ⟨t200, q2, h⟩ := Option.bind_eq_some_iff.1 h
   have q2c := strconv_Itoa.ctr _ _ q2
   refine path_ok (k := 9) hF (RetQ_mild _ _ _ _ _ _ _ _) (ds := [.b true, .r [.ro (.v (.string t200))] []]) (os := []) (c := none) rfl KD ?_
   cases h
   exact ret_as (ms := [.ro]) rfl KD
 · rw [if_neg c1] at h
   refine path_ok (k := 13) hF (RetQ_mild _ _ _ _ _ _ _ _) (ds := [.b false, .p 13 ([]), .e 16 (.v (.int .i64 (l0_1.length : Int)))]) (os := []) (c := none) rfl KD ?_
   exact WS.can [(1005, some 13)] (((ih.out k (by omega)).s_l0  r w ro B hF a1 (([] : List ByteArray)) l0_1 (l0_1.length : Int) 0 h).out) KD
set_option maxRecDepth 100000 in
set_option maxHeartbeats 4000000 in
theorem impl_arr_text.c_l0 (k : Nat) (ih : Kp (∀ m, m < k → impl_arr_text.C m)) (r : ByteArray) (w : World) (ro : Nat → Prop) (B : Nat) (hF : Fr TE (cx0 Tryz.f90 none w ro B)) (x1 : Int) (x5 : List ByteArray) (x15 : List (S68)) (x16 : Int) (x17 : Int) (h : impl_arr_text.l0 k x1 x5 x15 x16 x17 = some r) : Kp (WS TE (cx0 Tryz.f90 none w ro B) (stkAt [1, 1, 1, 0, 1, 0] [] (bodyOf Tryz.f90) []) ⟨[(1, .v (.int .i64 x1)), (5, .ow 1005 0), (15, .sl 2 (r68 x15)), (16, .v (.int .i64 x16)), (17, .v (.int .i64 x17))], [(1005, .own 0 9 1 (rX cS x5))]⟩ (RetQ TE Tryz.f90 none [.ro (.v (.string r))] [] w ro B)) := by
 refine ⟨WS.loop (fun m σ => m ≤ k ∧ impl_arr_text.I0 r m σ) k ⟨Nat.le_refl k, x1, x5, x15, x16, x17, h, rfl⟩ (fun m σ' hI J0 hJ0 => ?_)⟩
 clear h
 obtain ⟨hk, x1, x5, x15, x16, x17, h, rfl⟩ := hI
 cases m with
 | zero => simp [impl_arr_text.l0] at h
 | succ k' =>
 simp only [impl_arr_text.l0] at h
 by_cases c3 : x17 < x16
 · rw [if_pos c3] at h
   by_cases c4 : 0 ≤ x17
   · rw [if_pos c4] at h
     by_cases c5 : x17 < (x15.length : Int)
     · rw [if_pos c5] at h
       obtain ⟨t206, q6, h⟩ := Option.bind_eq_some_iff.1 h
       have q6c := (ih.out k' (by omega)).s_f _ _ _ _ q6
       by_cases c7 : x5.length < 8796093022208
       · rw [if_pos c7] at h
         refine path_ok (k := 12) hF (RetQ_mild _ _ _ _ _ _ _ _) (ds := [.b true, .e 19 (.rf [.v (.int .i64 ((rd_T68 x15 x17).f0)), .sl 2 (r68 ((rd_T68 x15 x17).f1))]), .r [.ro (.v (.string t206))] [], .p 26 ([[.v (.string t206)]]), .o 27 (rX cS (x5 ++ [t206]))]) (os := []) (c := none) rfl KD ?_
         exact WS.lpc [(1005, some 1005)] (hJ0 _ _ (Nat.lt_succ_self _) ⟨by omega, x1, (x5 ++ [t206]), x15, x16, (wrap64 (x17 + 1)), h, rfl⟩) KD
       · rw [if_neg c7] at h
         cases h
     · rw [if_neg c5] at h
       cases h
   · rw [if_neg c4] at h
     cases h
 · rw [if_neg c3] at h
   obtain ⟨t210, q8, h⟩ := Option.bind_eq_some_iff.1 h
   have q8c := strings_Join.ctr _ _ _ q8
   by_cases c9 : 1 + t210.size ≤ 9223372036854775807
   · rw [if_pos c9] at h
     by_cases c10 : 1 + t210.size + 1 ≤ 9223372036854775807
     · rw [if_pos c10] at h
       refine path_ok (k := 8) hF (RetQ_mild _ _ _ _ _ _ _ _) (ds := [.b false, .r [.ro (.v (.string t210))] []]) (os := []) (c := none) rfl KD ?_
       cases h
       exact ret_as (ms := [.ro]) rfl KD
     · rw [if_neg c10] at h
       cases h
   · rw [if_neg c9] at h
     cases h
theorem impl_arr_text.cs (k : Nat) : impl_arr_text.C k := by
 induction k using Nat.strongRecOn with
 | _ k ih0 =>
 have ih : Kp (∀ m, m < k → impl_arr_text.C m) := ⟨ih0⟩
 exact ⟨impl_arr_text.c_f k ih, impl_arr_text.c_l0 k ih⟩
theorem impl_arr_text.ctr (k : Nat) (a0_0 : Int) (l0_1 : List (S68)) (a1 : Int) (r : ByteArray) (h : impl_arr_text.f k a0_0 l0_1 a1 = some r) : Ctr TE 90 none [.ag [.v (.int .i64 a0_0), .sl 2 (r68 l0_1)], .v (.int .i64 a1)] [.ro (.v (.string r))] [] := (impl_arr_text.cs k).s_f a0_0 l0_1 a1 r h
def impl_arr_short.f (k : Nat) (a0_0 : Int) (l0_1 : List (S68)) (a1 : Int) : Option (ByteArray × Bool) := (impl_arr_text.f k a0_0 l0_1 a1).bind fun t212 => (if (t212.size : Int) > 400 then (some ((⟨#[]⟩ : ByteArray), false)) else (some (t212, true)))
set_option maxRecDepth 100000 in
set_option maxHeartbeats 4000000 in
theorem impl_arr_short.ctr (k : Nat) (a0_0 : Int) (l0_1 : List (S68)) (a1 : Int) (r1 : ByteArray) (r2 : Bool) (h : impl_arr_short.f k a0_0 l0_1 a1 = some (r1, r2)) : Ctr TE 48 none [.ag [.v (.int .i64 a0_0), .sl 2 (r68 l0_1)], .v (.int .i64 a1)] [.ro (.v (.string r1)), .ro (.v (.bool r2))] [] := by
 refine ctr_of (fn := Tryz.f48) (c := (bodyOf Tryz.f48)) Tryz.func48 rfl (by kernel_rfl) (Nat.le_of_ble_eq_true (by kernel_rfl)) (fun w ro B hF _ => ?_)
 simp only [impl_arr_short.f] at h
 obtain ⟨t212, q1, h⟩ := Option.bind_eq_some_iff.1 h
 have q1c := impl_arr_text.ctr k _ _ _ _ q1
 by_cases c2 : (t212.size : Int) > 400
 · rw [if_pos c2] at h
   refine path_ok (k := 11) hF (RetQ_mild _ _ _ _ _ _ _ _) (ds := [.r [.ro (.v (.string t212))] [], .b true]) (os := []) (c := none) rfl KD ?_
   cases h
   exact ret_as (ms := [.ro, .ro]) rfl KD
 · rw [if_neg c2] at h
   refine path_ok (k := 12) hF (RetQ_mild _ _ _ _ _ _ _ _) (ds := [.r [.ro (.v (.string t212))] [], .b false]) (os := []) (c := none) rfl KD ?_
   cases h
   exact ret_as (ms := [.ro, .ro]) rfl KD
end Go.Proofs.YtoloblgjlnhioaaGreatDoor.I
