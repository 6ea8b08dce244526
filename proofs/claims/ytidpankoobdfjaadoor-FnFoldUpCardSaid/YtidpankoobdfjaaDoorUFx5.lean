/- A part of the claim. -/
import Derived.Test.YtidpankoobdfjaaDoorUFx0
import Derived.Test.YtidpankoobdfjaaDoorUFSgc
import Derived.Test.YtidpankoobdfjaaDoorUFSgz
-- PRINTED by print.py (a twelfth state) out of the translation. Not trusted: Lean checks it.
namespace Go.Proofs.YtidpankoobdfjaaDoor.U
open Go.RowKit Go.Proofs.YtidpankoobdfjaaDoorW.St Go.Proofs.YtidpankoobdfjaaDoorW.PrintWords Go.Proofs.YtidpankoobdfjaaDoorW.PrintLast Go.Proofs.YtidpankoobdfjaaDoorW.PrintMore
attribute [local go_sem] max2_int min2_int max_two min_two max_three min_three max_four min_four   -- for this text's walks alone
set_option linter.unusedVariables false
set_option linter.unusedSimpArgs false
mutual
def impl_readArr.j1 : Nat → ByteArray → Int → Option (Int × (List (S65)) × ByteArray × Bool)
  | 0, _, _ => none
  | k + 1, x0, x7 => if 0 ≤ x7 then (if x7 ≤ (x0.size : Int) then ((strconv_Atoi.f (x0.extract 0 (x7 : Int).toNat)).bind fun bt483 => (if bt483.2.isNone = true then (if bt483.1 ≥ 10007 then (some (0, ([] : List (S65)), (⟨#[]⟩ : ByteArray), false)) else ((strconv_Itoa.f bt483.1).bind fun t486 => (if t486.toList = (x0.extract 0 (x7 : Int).toNat).toList then (some (bt483.1, ([] : List (S65)), x0.extract (x7 : Int).toNat x0.size, true)) else (some (0, ([] : List (S65)), (⟨#[]⟩ : ByteArray), false))))) else (some (0, ([] : List (S65)), (⟨#[]⟩ : ByteArray), false)))) else (none)) else (none)
def impl_readArr.l0 : Nat → ByteArray → Int → Option (Int × (List (S65)) × ByteArray × Bool)
  | 0, _, _ => none
  | k + 1, x0, x7 => if x7 < (x0.size : Int) then (if 0 ≤ x7 then (if (bt x0 x7) ≥ 48 then (if (bt x0 x7) ≤ 57 then (impl_readArr.l0 k x0 (wrap64 (x7 + 1))) else (impl_readArr.j1 k x0 x7)) else (impl_readArr.j1 k x0 x7)) else (none)) else (impl_readArr.j1 k x0 x7)
def impl_readArr.j2 : Nat → ByteArray → Int → Bool → Option (Int × (List (S65)) × ByteArray × Bool)
  | 0, _, _, _ => none
  | k + 1, x0, x1, x67 => if x67 = true then (some (0, ([] : List (S65)), (⟨#[]⟩ : ByteArray), false)) else (if 1 ≤ (x0.size : Int) then (impl_readArr.l1 k (x0.extract 1 x0.size) x1 0 ([] : List (S65))) else (none))
def impl_readArr.l1 : Nat → ByteArray → Int → Int → List (S65) → Option (Int × (List (S65)) × ByteArray × Bool)
  | 0, _, _, _, _ => none
  | k + 1, x0, x1, x488000, x488001 => if x0.toList = ([] : List UInt8) then (impl_readArr.j4 k x0 x1 false x488000 x488001) else (if 0 < (x0.size : Int) then (if (bt x0 0) = 93 then (impl_readArr.j4 k x0 x1 (decide ((x488001.length : Int) > 0)) x488000 x488001) else (impl_readArr.j4 k x0 x1 true x488000 x488001)) else (none))
def impl_readArr.j4 : Nat → ByteArray → Int → Bool → Int → List (S65) → Option (Int × (List (S65)) × ByteArray × Bool)
  | 0, _, _, _, _, _ => none
  | k + 1, x0, x1, x83, x488000, x488001 => if x83 = true then ((impl_readArr.f k x0 (wrap64 (x1 - 1))).bind fun bt488 => (if bt488.2.2.2 = true then (if bt488.2.2.1.toList = ([] : List UInt8) then (impl_readArr.j5 k x1 bt488.2.2.1 true x488000 x488001 bt488.1 bt488.2.1) else (if 0 < (bt488.2.2.1.size : Int) then (if (bt bt488.2.2.1 0) = 44 then (impl_readArr.j5 k x1 bt488.2.2.1 false x488000 x488001 bt488.1 bt488.2.1) else (impl_readArr.j5 k x1 bt488.2.2.1 ((bt bt488.2.2.1 0) != 93) x488000 x488001 bt488.1 bt488.2.1)) else (none))) else (impl_readArr.j5 k x1 bt488.2.2.1 true x488000 x488001 bt488.1 bt488.2.1))) else (if x0.toList = ([] : List UInt8) then (some (0, ([] : List (S65)), (⟨#[]⟩ : ByteArray), false)) else (if 1 ≤ (x0.size : Int) then (some (x488000, x488001, x0.extract 1 x0.size, true)) else (none)))
def impl_readArr.j5 : Nat → Int → ByteArray → Bool → Int → List (S65) → Int → List (S65) → Option (Int × (List (S65)) × ByteArray × Bool)
  | 0, _, _, _, _, _, _, _ => none
  | k + 1, x1, x12, x107, x488000, x488001, x495000, x495001 => if x107 = true then (some (0, ([] : List (S65)), (⟨#[]⟩ : ByteArray), false)) else (if x488001.length < 4398046511104 then ((some (x488001 ++ [(⟨x495000, x495001⟩ : S65)] : List (S65))).bind fun y495 => (if 0 < (x12.size : Int) then (if (bt x12 0) = 93 then (if 1 ≤ (x12.size : Int) then (some (x488000, y495, x12.extract 1 x12.size, true)) else (none)) else (if 1 ≤ (x12.size : Int) then (impl_readArr.l1 k (x12.extract 1 x12.size) x1 x488000 y495) else (none))) else (none))) else (none))
def impl_readArr.f : Nat → ByteArray → Int → Option (Int × (List (S65)) × ByteArray × Bool)
  | 0, _, _ => none
  | k + 1, a0, a1 => if a1 = 0 then (impl_readArr.l0 k a0 0) else (if a0.toList = ([] : List UInt8) then (impl_readArr.j2 k a0 a1 true) else (if 0 < (a0.size : Int) then (impl_readArr.j2 k a0 a1 ((bt a0 0) != 91)) else (none)))
end
def impl_readArr.I0 (r1 : Int) (r2 : List (S65)) (r3 : ByteArray) (r4 : Bool) (m : Nat) (σ : St) : Prop := ∃ (x0 : ByteArray) (x7 : Int) (x483000 : Int), impl_readArr.l0 m x0 x7 = some (r1, r2, r3, r4) ∧ σ = ⟨[(0, .v (.string x0)), (4, .pt 1004 0 0), (7, .v (.int .i64 x7))], [(1004, .box 0 65 false [.v (.int .i64 x483000), .v (.slice none 0 0)])]⟩
def impl_readArr.I1 (r1 : Int) (r2 : List (S65)) (r3 : ByteArray) (r4 : Bool) (m : Nat) (σ : St) : Prop := ∃ (x0 : ByteArray) (x1 : Int) (x483000 : Int) (x488000 : Int) (x488001 : List (S65)), impl_readArr.l1 m x0 x1 x488000 x488001 = some (r1, r2, r3, r4) ∧ σ = ⟨[(0, .v (.string x0)), (1, .v (.int .i64 x1)), (4, .pt 1004 0 0), (10, .pt 1010 0 0)], [(1004, .box 0 65 false [.v (.int .i64 x483000), .v (.slice none 0 0)]), (3641, .own 0 65 2 (r65 x488001)), (1010, .box 0 65 false [.v (.int .i64 x488000), .ow 3641 0])]⟩
structure impl_readArr.C (k : Nat) : Prop where
 s_f : ∀ (a0 : ByteArray) (a1 : Int) (r1 : Int) (r2 : List (S65)) (r3 : ByteArray) (r4 : Bool), impl_readArr.f k a0 a1 = some (r1, r2, r3, r4) → Ctr TE 78 none [.v (.string a0), .v (.int .i64 a1)] [.ro (.ag [.v (.int .i64 r1), .sl 2 (r65 r2)]), .ro (.v (.string r3)), .ro (.v (.bool r4))] []
 s_j1 : ∀ (r1 : Int) (r2 : List (S65)) (r3 : ByteArray) (r4 : Bool) (w : World) (ro : Nat → Prop) (B : Nat) (_ : Fr TE (cx0 Tryd.f78 none w ro B)) (x0 : ByteArray) (x7 : Int) (x483000 : Int) (_ : impl_readArr.j1 k x0 x7 = some (r1, r2, r3, r4)), Kp (WS TE (cx0 Tryd.f78 none w ro B) (stkAt [1, 0, 1, 0, 1, 0, 9] [] (bodyOf Tryd.f78) []) ⟨[(0, .v (.string x0)), (4, .pt 1004 0 0), (7, .v (.int .i64 x7))], [(1004, .box 0 65 false [.v (.int .i64 x483000), .v (.slice none 0 0)])]⟩ (RetQ TE Tryd.f78 none [.ro (.ag [.v (.int .i64 r1), .sl 2 (r65 r2)]), .ro (.v (.string r3)), .ro (.v (.bool r4))] [] w ro B))
 s_l0 : ∀ (r1 : Int) (r2 : List (S65)) (r3 : ByteArray) (r4 : Bool) (w : World) (ro : Nat → Prop) (B : Nat) (_ : Fr TE (cx0 Tryd.f78 none w ro B)) (x0 : ByteArray) (x7 : Int) (x483000 : Int) (_ : impl_readArr.l0 k x0 x7 = some (r1, r2, r3, r4)), Kp (WS TE (cx0 Tryd.f78 none w ro B) (stkAt [1, 0, 1, 0, 1, 0, 0] [] (bodyOf Tryd.f78) []) ⟨[(0, .v (.string x0)), (4, .pt 1004 0 0), (7, .v (.int .i64 x7))], [(1004, .box 0 65 false [.v (.int .i64 x483000), .v (.slice none 0 0)])]⟩ (RetQ TE Tryd.f78 none [.ro (.ag [.v (.int .i64 r1), .sl 2 (r65 r2)]), .ro (.v (.string r3)), .ro (.v (.bool r4))] [] w ro B))
 s_j2 : ∀ (r1 : Int) (r2 : List (S65)) (r3 : ByteArray) (r4 : Bool) (w : World) (ro : Nat → Prop) (B : Nat) (_ : Fr TE (cx0 Tryd.f78 none w ro B)) (x0 : ByteArray) (x1 : Int) (x67 : Bool) (x483000 : Int) (_ : impl_readArr.j2 k x0 x1 x67 = some (r1, r2, r3, r4)), Kp (WS TE (cx0 Tryd.f78 none w ro B) (stkAt [1, 1, 0, 0, 9] [] (bodyOf Tryd.f78) []) ⟨[(0, .v (.string x0)), (1, .v (.int .i64 x1)), (4, .pt 1004 0 0), (67, .v (.bool x67))], [(1004, .box 0 65 false [.v (.int .i64 x483000), .v (.slice none 0 0)])]⟩ (RetQ TE Tryd.f78 none [.ro (.ag [.v (.int .i64 r1), .sl 2 (r65 r2)]), .ro (.v (.string r3)), .ro (.v (.bool r4))] [] w ro B))
 s_l1 : ∀ (r1 : Int) (r2 : List (S65)) (r3 : ByteArray) (r4 : Bool) (w : World) (ro : Nat → Prop) (B : Nat) (_ : Fr TE (cx0 Tryd.f78 none w ro B)) (x0 : ByteArray) (x1 : Int) (x483000 : Int) (x488000 : Int) (x488001 : List (S65)) (_ : impl_readArr.l1 k x0 x1 x488000 x488001 = some (r1, r2, r3, r4)), Kp (WS TE (cx0 Tryd.f78 none w ro B) (stkAt [1, 1, 1, 1, 0, 1, 0] [] (bodyOf Tryd.f78) []) ⟨[(0, .v (.string x0)), (1, .v (.int .i64 x1)), (4, .pt 1004 0 0), (10, .pt 1010 0 0)], [(1004, .box 0 65 false [.v (.int .i64 x483000), .v (.slice none 0 0)]), (3641, .own 0 65 2 (r65 x488001)), (1010, .box 0 65 false [.v (.int .i64 x488000), .ow 3641 0])]⟩ (RetQ TE Tryd.f78 none [.ro (.ag [.v (.int .i64 r1), .sl 2 (r65 r2)]), .ro (.v (.string r3)), .ro (.v (.bool r4))] [] w ro B))
 s_j4 : ∀ (r1 : Int) (r2 : List (S65)) (r3 : ByteArray) (r4 : Bool) (w : World) (ro : Nat → Prop) (B : Nat) (_ : Fr TE (cx0 Tryd.f78 none w ro B)) (J1 : St → Prop) (_ : ∀ m σ, m ≤ k → impl_readArr.I1 r1 r2 r3 r4 m σ → J1 σ) (x0 : ByteArray) (x1 : Int) (x83 : Bool) (x483000 : Int) (x488000 : Int) (x488001 : List (S65)) (_ : impl_readArr.j4 k x0 x1 x83 x488000 x488001 = some (r1, r2, r3, r4)), Kp (WS TE (cx0 Tryd.f78 none w ro B) (stkAt [1, 1, 1, 1, 0, 1, 0, 0, 0, 0, 9] [J1] (bodyOf Tryd.f78) []) ⟨[(0, .v (.string x0)), (1, .v (.int .i64 x1)), (4, .pt 1004 0 0), (10, .pt 1010 0 0), (83, .v (.bool x83))], [(1004, .box 0 65 false [.v (.int .i64 x483000), .v (.slice none 0 0)]), (3641, .own 0 65 2 (r65 x488001)), (1010, .box 0 65 false [.v (.int .i64 x488000), .ow 3641 0])]⟩ (RetQ TE Tryd.f78 none [.ro (.ag [.v (.int .i64 r1), .sl 2 (r65 r2)]), .ro (.v (.string r3)), .ro (.v (.bool r4))] [] w ro B))
 s_j5 : ∀ (r1 : Int) (r2 : List (S65)) (r3 : ByteArray) (r4 : Bool) (w : World) (ro : Nat → Prop) (B : Nat) (_ : Fr TE (cx0 Tryd.f78 none w ro B)) (J1 : St → Prop) (_ : ∀ m σ, m ≤ k → impl_readArr.I1 r1 r2 r3 r4 m σ → J1 σ) (x1 : Int) (x12 : ByteArray) (x107 : Bool) (x483000 : Int) (x488000 : Int) (x488001 : List (S65)) (x495000 : Int) (x495001 : List (S65)) (_ : impl_readArr.j5 k x1 x12 x107 x488000 x488001 x495000 x495001 = some (r1, r2, r3, r4)), Kp (WS TE (cx0 Tryd.f78 none w ro B) (stkAt [1, 1, 1, 1, 0, 1, 0, 0, 1, 0, 1, 0, 0, 9] [J1] (bodyOf Tryd.f78) []) ⟨[(1, .v (.int .i64 x1)), (4, .pt 1004 0 0), (10, .pt 1010 0 0), (11, .pt 1011 0 0), (12, .v (.string x12)), (107, .v (.bool x107))], [(1004, .box 0 65 false [.v (.int .i64 x483000), .v (.slice none 0 0)]), (3641, .own 0 65 2 (r65 x488001)), (1010, .box 0 65 false [.v (.int .i64 x488000), .ow 3641 0]), (1011, .box 0 65 false [.v (.int .i64 x495000), .sl 2 (r65 x495001)])]⟩ (RetQ TE Tryd.f78 none [.ro (.ag [.v (.int .i64 r1), .sl 2 (r65 r2)]), .ro (.v (.string r3)), .ro (.v (.bool r4))] [] w ro B))
set_option maxRecDepth 100000 in
set_option maxHeartbeats 4000000 in
theorem impl_readArr.c_f (k : Nat) (ih : Kp (∀ m, m < k → impl_readArr.C m)) (a0 : ByteArray) (a1 : Int) (r1 : Int) (r2 : List (S65)) (r3 : ByteArray) (r4 : Bool) (h : impl_readArr.f k a0 a1 = some (r1, r2, r3, r4)) : Ctr TE 78 none [.v (.string a0), .v (.int .i64 a1)] [.ro (.ag [.v (.int .i64 r1), .sl 2 (r65 r2)]), .ro (.v (.string r3)), .ro (.v (.bool r4))] [] := by
 cases k with
 | zero => simp [impl_readArr.f] at h
 | succ k =>
 simp only [impl_readArr.f] at h
 refine ctr_of (fn := Tryd.f78) (c := (bodyOf Tryd.f78)) Tryd.func78 rfl (by kernel_rfl) (Nat.le_of_ble_eq_true (by kernel_rfl)) (fun w ro B hF _ => ?_)
 by_cases c1 : a1 = 0
 · rw [if_pos c1] at h
   refine path_ok (k := 10) hF (RetQ_mild _ _ _ _ _ _ _ _) (ds := [.b true]) (os := []) (c := none) rfl KD ?_
   exact WS.can [(1004, some 4)] (((ih.out k (by omega)).s_l0  r1 r2 r3 r4 w ro B hF a0 0 0 h).out) KD
 · rw [if_neg c1] at h
   by_cases c2 : a0.toList = ([] : List UInt8)
   · rw [if_pos c2] at h
     refine path_ok (k := 10) hF (RetQ_mild _ _ _ _ _ _ _ _) (ds := [.b false, .b true, .b true, .b true, .b true]) (os := []) (c := none) rfl KD ?_
     exact WS.can [(1004, some 4)] (((ih.out k (by omega)).s_j2  r1 r2 r3 r4 w ro B hF a0 a1 true 0 h).out) KD
   · rw [if_neg c2] at h
     by_cases c3 : 0 < (a0.size : Int)
     · rw [if_pos c3] at h
       have hb3 := bt_range a0 0
       refine path_ok (k := 10) hF (RetQ_mild _ _ _ _ _ _ _ _) (ds := [.b false, .b false, .b false, .b false, .b false]) (os := []) (c := none) rfl KD ?_
       exact WS.can [(1004, some 4)] (((ih.out k (by omega)).s_j2  r1 r2 r3 r4 w ro B hF a0 a1 ((bt a0 0) != 91) 0 h).out) KD
     · rw [if_neg c3] at h
       cases h
set_option maxRecDepth 100000 in
set_option maxHeartbeats 4000000 in
theorem impl_readArr.c_j1 (k : Nat) (ih : Kp (∀ m, m < k → impl_readArr.C m)) (r1 : Int) (r2 : List (S65)) (r3 : ByteArray) (r4 : Bool) (w : World) (ro : Nat → Prop) (B : Nat) (hF : Fr TE (cx0 Tryd.f78 none w ro B)) (x0 : ByteArray) (x7 : Int) (x483000 : Int) (h : impl_readArr.j1 k x0 x7 = some (r1, r2, r3, r4)) : Kp (WS TE (cx0 Tryd.f78 none w ro B) (stkAt [1, 0, 1, 0, 1, 0, 9] [] (bodyOf Tryd.f78) []) ⟨[(0, .v (.string x0)), (4, .pt 1004 0 0), (7, .v (.int .i64 x7))], [(1004, .box 0 65 false [.v (.int .i64 x483000), .v (.slice none 0 0)])]⟩ (RetQ TE Tryd.f78 none [.ro (.ag [.v (.int .i64 r1), .sl 2 (r65 r2)]), .ro (.v (.string r3)), .ro (.v (.bool r4))] [] w ro B)) := by
 refine ⟨?_⟩
 cases k with
 | zero => simp [impl_readArr.j1] at h
 | succ k =>
 simp only [impl_readArr.j1] at h
 by_cases c14 : 0 ≤ x7
 · rw [if_pos c14] at h
   by_cases c15 : x7 ≤ (x0.size : Int)
   · rw [if_pos c15] at h
     obtain ⟨⟨t483, t484⟩, q16, h⟩ := Option.bind_eq_some_iff.1 h
     dsimp only at h
     have q16c := strconv_Atoi.ctr _ _ _ q16
     by_cases c17 : t484.isNone = true
     · rw [if_pos c17] at h
       by_cases c18 : t483 ≥ 10007
       · rw [if_pos c18] at h
         refine path_ok (k := 9) hF (RetQ_mild _ _ _ _ _ _ _ _) (ds := [.r [.ro (.v (.int .i64 t483)), .ro (.er t484.isNone)] [], .b false, .b false, .b false, .b true, .b true, .b true, .b true, .b true, .b true, .b true, .b true]) (os := [.o [(0, 0), (1, 0), (2, 0), (3, 0), (4, 0), (5, 0), (6, 0), (7, 0), (9, 0), (10, 0), (11, 0), (8, 2), (12, 0), (13, 0)] []]) (c := none) rfl KD ?_
         cases h
         exact ret_as (ms := [.ro, .ro, .ro]) rfl KD
       · rw [if_neg c18] at h
         obtain ⟨t486, q19, h⟩ := Option.bind_eq_some_iff.1 h
         have q19c := strconv_Itoa.ctr _ _ q19
         by_cases c20 : t486.toList = (x0.extract 0 (x7 : Int).toNat).toList
         · rw [if_pos c20] at h
           refine path_ok (k := 10) hF (RetQ_mild _ _ _ _ _ _ _ _) (ds := [.r [.ro (.v (.int .i64 t483)), .ro (.er t484.isNone)] [], .b false, .b false, .b false, .b false, .b false, .b false, .b false, .b false, .r [.ro (.v (.string t486))] [], .b false, .b false, .b false]) (os := [.o [(0, 0), (1, 0), (2, 0), (3, 0), (4, 0), (5, 0), (6, 0), (7, 0), (9, 0), (10, 0), (11, 0), (8, 2), (12, 0), (13, 0)] [], .o [(0, 0), (1, 0), (2, 0), (3, 0), (4, 0), (5, 2), (6, 0), (7, 0)] [5]]) (c := none) rfl KD ?_
           cases h
           exact ret_as (ms := [.ro, .ro, .ro]) rfl KD
         · rw [if_neg c20] at h
           refine path_ok (k := 9) hF (RetQ_mild _ _ _ _ _ _ _ _) (ds := [.r [.ro (.v (.int .i64 t483)), .ro (.er t484.isNone)] [], .b false, .b false, .b false, .b false, .b false, .b false, .b false, .b false, .r [.ro (.v (.string t486))] [], .b false, .b false, .b true]) (os := [.o [(0, 0), (1, 0), (2, 0), (3, 0), (4, 0), (5, 0), (6, 0), (7, 0), (9, 0), (10, 0), (11, 0), (8, 2), (12, 0), (13, 0)] []]) (c := none) rfl KD ?_
           cases h
           exact ret_as (ms := [.ro, .ro, .ro]) rfl KD
     · rw [if_neg c17] at h
       refine path_ok (k := 9) hF (RetQ_mild _ _ _ _ _ _ _ _) (ds := [.r [.ro (.v (.int .i64 t483)), .ro (.er t484.isNone)] [], .b true, .b true, .b true, .b true, .b true, .b true, .b true, .b true, .b true, .b true, .b true]) (os := [.o [(0, 0), (1, 0), (2, 0), (3, 0), (4, 0), (5, 0), (6, 0), (7, 0), (9, 0), (10, 0), (11, 0), (8, 2), (12, 0), (13, 0)] []]) (c := none) rfl KD ?_
       cases h
       exact ret_as (ms := [.ro, .ro, .ro]) rfl KD
   · rw [if_neg c15] at h
     cases h
 · rw [if_neg c14] at h
   cases h
set_option maxRecDepth 100000 in
set_option maxHeartbeats 4000000 in
theorem impl_readArr.c_l0 (k : Nat) (ih : Kp (∀ m, m < k → impl_readArr.C m)) (r1 : Int) (r2 : List (S65)) (r3 : ByteArray) (r4 : Bool) (w : World) (ro : Nat → Prop) (B : Nat) (hF : Fr TE (cx0 Tryd.f78 none w ro B)) (x0 : ByteArray) (x7 : Int) (x483000 : Int) (h : impl_readArr.l0 k x0 x7 = some (r1, r2, r3, r4)) : Kp (WS TE (cx0 Tryd.f78 none w ro B) (stkAt [1, 0, 1, 0, 1, 0, 0] [] (bodyOf Tryd.f78) []) ⟨[(0, .v (.string x0)), (4, .pt 1004 0 0), (7, .v (.int .i64 x7))], [(1004, .box 0 65 false [.v (.int .i64 x483000), .v (.slice none 0 0)])]⟩ (RetQ TE Tryd.f78 none [.ro (.ag [.v (.int .i64 r1), .sl 2 (r65 r2)]), .ro (.v (.string r3)), .ro (.v (.bool r4))] [] w ro B)) := by
 refine ⟨WS.loop (fun m σ => m ≤ k ∧ impl_readArr.I0 r1 r2 r3 r4 m σ) k ⟨Nat.le_refl k, x0, x7, x483000, h, rfl⟩ (fun m σ' hI J0 hJ0 => ?_)⟩
 clear h
 obtain ⟨hk, x0, x7, x483000, h, rfl⟩ := hI
 cases m with
 | zero => simp [impl_readArr.l0] at h
 | succ k' =>
 simp only [impl_readArr.l0] at h
 by_cases c5 : x7 < (x0.size : Int)
 · rw [if_pos c5] at h
   by_cases c6 : 0 ≤ x7
   · rw [if_pos c6] at h
     by_cases c7 : (bt x0 x7) ≥ 48
     · rw [if_pos c7] at h
       by_cases c8 : (bt x0 x7) ≤ 57
       · rw [if_pos c8] at h
         have hb8 := bt_range x0 x7
         refine path_ok (k := 8) hF (RetQ_mild _ _ _ _ _ _ _ _) (ds := [.b true, .b true, .b true, .b true, .b true, .b true, .b true, .b true, .b true, .b true, .b true]) (os := []) (c := none) rfl KD ?_
         exact WS.lpc [(1004, some 1004)] (hJ0 _ _ (Nat.lt_succ_self _) ⟨by omega, x0, (wrap64 (x7 + 1)), x483000, h, rfl⟩) KD
       · rw [if_neg c8] at h
         have hb9 := bt_range x0 x7
         refine path_ok (k := 5) hF (RetQ_mild _ _ _ _ _ _ _ _) (ds := [.b true, .b true, .b true, .b true, .b true, .b true, .b true, .b true, .b true, .b true, .b false]) (os := []) (c := none) rfl KD ?_
         exact WS.can [(1004, some 1004)] (((ih.out k' (by omega)).s_j1  r1 r2 r3 r4 w ro B hF x0 x7 x483000 h).out) KD
     · rw [if_neg c7] at h
       have hb10 := bt_range x0 x7
       refine path_ok (k := 5) hF (RetQ_mild _ _ _ _ _ _ _ _) (ds := [.b true, .b true, .b true, .b true, .b true, .b false, .b false, .b false, .b false, .b false, .b false]) (os := []) (c := none) rfl KD ?_
       exact WS.can [(1004, some 1004)] (((ih.out k' (by omega)).s_j1  r1 r2 r3 r4 w ro B hF x0 x7 x483000 h).out) KD
   · rw [if_neg c6] at h
     cases h
 · rw [if_neg c5] at h
   refine path_ok (k := 5) hF (RetQ_mild _ _ _ _ _ _ _ _) (ds := [.b false, .b false, .b false, .b false, .b false, .b false, .b false, .b false, .b false, .b false, .b false]) (os := []) (c := none) rfl KD ?_
   exact WS.can [(1004, some 1004)] (((ih.out k' (by omega)).s_j1  r1 r2 r3 r4 w ro B hF x0 x7 x483000 h).out) KD
set_option maxRecDepth 100000 in
set_option maxHeartbeats 4000000 in
theorem impl_readArr.c_j2 (k : Nat) (ih : Kp (∀ m, m < k → impl_readArr.C m)) (r1 : Int) (r2 : List (S65)) (r3 : ByteArray) (r4 : Bool) (w : World) (ro : Nat → Prop) (B : Nat) (hF : Fr TE (cx0 Tryd.f78 none w ro B)) (x0 : ByteArray) (x1 : Int) (x67 : Bool) (x483000 : Int) (h : impl_readArr.j2 k x0 x1 x67 = some (r1, r2, r3, r4)) : Kp (WS TE (cx0 Tryd.f78 none w ro B) (stkAt [1, 1, 0, 0, 9] [] (bodyOf Tryd.f78) []) ⟨[(0, .v (.string x0)), (1, .v (.int .i64 x1)), (4, .pt 1004 0 0), (67, .v (.bool x67))], [(1004, .box 0 65 false [.v (.int .i64 x483000), .v (.slice none 0 0)])]⟩ (RetQ TE Tryd.f78 none [.ro (.ag [.v (.int .i64 r1), .sl 2 (r65 r2)]), .ro (.v (.string r3)), .ro (.v (.bool r4))] [] w ro B)) := by
 refine ⟨?_⟩
 cases k with
 | zero => simp [impl_readArr.j2] at h
 | succ k =>
 simp only [impl_readArr.j2] at h
 by_cases c12 : x67 = true
 · rw [if_pos c12] at h
   refine path_ok (k := 4) hF (RetQ_mild _ _ _ _ _ _ _ _) (ds := [.b true]) (os := []) (c := none) rfl KD ?_
   cases h
   exact ret_as (ms := [.ro, .ro, .ro]) rfl KD
 · rw [if_neg c12] at h
   by_cases c13 : 1 ≤ (x0.size : Int)
   · rw [if_pos c13] at h
     refine path_ok (k := 8) hF (RetQ_mild _ _ _ _ _ _ _ _) (ds := [.b false]) (os := []) (c := none) rfl KD ?_
     exact WS.can [(1004, some 1004), (1010, some 10), (3641, none)] (((ih.out k (by omega)).s_l1  r1 r2 r3 r4 w ro B hF (x0.extract 1 x0.size) x1 x483000 0 ([] : List (S65)) h).out) KD
   · rw [if_neg c13] at h
     cases h
set_option maxRecDepth 100000 in
set_option maxHeartbeats 4000000 in
theorem impl_readArr.c_l1 (k : Nat) (ih : Kp (∀ m, m < k → impl_readArr.C m)) (r1 : Int) (r2 : List (S65)) (r3 : ByteArray) (r4 : Bool) (w : World) (ro : Nat → Prop) (B : Nat) (hF : Fr TE (cx0 Tryd.f78 none w ro B)) (x0 : ByteArray) (x1 : Int) (x483000 : Int) (x488000 : Int) (x488001 : List (S65)) (h : impl_readArr.l1 k x0 x1 x488000 x488001 = some (r1, r2, r3, r4)) : Kp (WS TE (cx0 Tryd.f78 none w ro B) (stkAt [1, 1, 1, 1, 0, 1, 0] [] (bodyOf Tryd.f78) []) ⟨[(0, .v (.string x0)), (1, .v (.int .i64 x1)), (4, .pt 1004 0 0), (10, .pt 1010 0 0)], [(1004, .box 0 65 false [.v (.int .i64 x483000), .v (.slice none 0 0)]), (3641, .own 0 65 2 (r65 x488001)), (1010, .box 0 65 false [.v (.int .i64 x488000), .ow 3641 0])]⟩ (RetQ TE Tryd.f78 none [.ro (.ag [.v (.int .i64 r1), .sl 2 (r65 r2)]), .ro (.v (.string r3)), .ro (.v (.bool r4))] [] w ro B)) := by
 refine ⟨WS.loop (fun m σ => m ≤ k ∧ impl_readArr.I1 r1 r2 r3 r4 m σ) k ⟨Nat.le_refl k, x0, x1, x483000, x488000, x488001, h, rfl⟩ (fun m σ' hI J1 hJ1 => ?_)⟩
 clear h
 obtain ⟨hk, x0, x1, x483000, x488000, x488001, h, rfl⟩ := hI
 cases m with
 | zero => simp [impl_readArr.l1] at h
 | succ k' =>
 simp only [impl_readArr.l1] at h
 by_cases c21 : x0.toList = ([] : List UInt8)
 · rw [if_pos c21] at h
   refine path_ok (k := 3) hF (RetQ_mild _ _ _ _ _ _ _ _) (ds := [.b false, .b false, .b false, .b false, .b false, .b false]) (os := []) (c := none) rfl KD ?_
   exact WS.can [(1004, some 1004), (1010, some 1010), (3641, some 3641)] (((ih.out k' (by omega)).s_j4  r1 r2 r3 r4 w ro B hF J1 (fun m σ hm hI => hJ1 m σ (by omega) ⟨by omega, hI⟩) x0 x1 false x483000 x488000 x488001 h).out) KD
 · rw [if_neg c21] at h
   by_cases c22 : 0 < (x0.size : Int)
   · rw [if_pos c22] at h
     by_cases c23 : (bt x0 0) = 93
     · rw [if_pos c23] at h
       have hb23 := bt_range x0 0
       refine path_ok (k := 3) hF (RetQ_mild _ _ _ _ _ _ _ _) (ds := [.b true, .b true, .b true, .b true, .b false, .b false, .b false, .e 80 (.v (.int .i64 (x488001.length : Int))), .b false, .b true, .b false, .b true]) (os := []) (c := none) rfl KD ?_
       exact WS.can [(1004, some 1004), (1010, some 1010), (3641, some 3641)] (((ih.out k' (by omega)).s_j4  r1 r2 r3 r4 w ro B hF J1 (fun m σ hm hI => hJ1 m σ (by omega) ⟨by omega, hI⟩) x0 x1 (decide ((x488001.length : Int) > 0)) x483000 x488000 x488001 h).out) KD
     · rw [if_neg c23] at h
       have hb24 := bt_range x0 0
       refine path_ok (k := 3) hF (RetQ_mild _ _ _ _ _ _ _ _) (ds := [.b true, .b true, .b true, .b true, .b true, .b true, .b true, .b true, .b true, .b true, .b true]) (os := []) (c := none) rfl KD ?_
       exact WS.can [(1004, some 1004), (1010, some 1010), (3641, some 3641)] (((ih.out k' (by omega)).s_j4  r1 r2 r3 r4 w ro B hF J1 (fun m σ hm hI => hJ1 m σ (by omega) ⟨by omega, hI⟩) x0 x1 true x483000 x488000 x488001 h).out) KD
   · rw [if_neg c22] at h
     cases h
set_option maxRecDepth 100000 in
set_option maxHeartbeats 4000000 in
theorem impl_readArr.c_j4 (k : Nat) (ih : Kp (∀ m, m < k → impl_readArr.C m)) (r1 : Int) (r2 : List (S65)) (r3 : ByteArray) (r4 : Bool) (w : World) (ro : Nat → Prop) (B : Nat) (hF : Fr TE (cx0 Tryd.f78 none w ro B)) (J1 : St → Prop) (hJ1 : ∀ m σ, m ≤ k → impl_readArr.I1 r1 r2 r3 r4 m σ → J1 σ) (x0 : ByteArray) (x1 : Int) (x83 : Bool) (x483000 : Int) (x488000 : Int) (x488001 : List (S65)) (h : impl_readArr.j4 k x0 x1 x83 x488000 x488001 = some (r1, r2, r3, r4)) : Kp (WS TE (cx0 Tryd.f78 none w ro B) (stkAt [1, 1, 1, 1, 0, 1, 0, 0, 0, 0, 9] [J1] (bodyOf Tryd.f78) []) ⟨[(0, .v (.string x0)), (1, .v (.int .i64 x1)), (4, .pt 1004 0 0), (10, .pt 1010 0 0), (83, .v (.bool x83))], [(1004, .box 0 65 false [.v (.int .i64 x483000), .v (.slice none 0 0)]), (3641, .own 0 65 2 (r65 x488001)), (1010, .box 0 65 false [.v (.int .i64 x488000), .ow 3641 0])]⟩ (RetQ TE Tryd.f78 none [.ro (.ag [.v (.int .i64 r1), .sl 2 (r65 r2)]), .ro (.v (.string r3)), .ro (.v (.bool r4))] [] w ro B)) := by
 refine ⟨?_⟩
 cases k with
 | zero => simp [impl_readArr.j4] at h
 | succ k =>
 simp only [impl_readArr.j4] at h
 by_cases c26 : x83 = true
 · rw [if_pos c26] at h
   obtain ⟨⟨t488, t489, t492, t493⟩, q27, h⟩ := Option.bind_eq_some_iff.1 h
   dsimp only at h
   have q27c := (ih.out k (by omega)).s_f _ _ _ _ _ _ q27
   by_cases c28 : t493 = true
   · rw [if_pos c28] at h
     by_cases c29 : t492.toList = ([] : List UInt8)
     · rw [if_pos c29] at h
       refine path_ok (k := 8) hF (RetQ_mild _ _ _ _ _ _ _ _) (ds := [.b true, .r [.ro (.ag [.v (.int .i64 t488), .sl 2 (r65 t489)]), .ro (.v (.string t492)), .ro (.v (.bool t493))] [], .b false, .b false, .b false, .b true, .b true, .b true, .b true, .b true, .b true]) (os := []) (c := none) rfl KD ?_
       exact WS.can [(1004, some 1004), (1010, some 1010), (3641, some 3641), (1011, some 11)] (((ih.out k (by omega)).s_j5  r1 r2 r3 r4 w ro B hF J1 (fun m σ hm hI => hJ1 m σ (by omega) hI) x1 t492 true x483000 x488000 x488001 t488 t489 h).out) KD
     · rw [if_neg c29] at h
       by_cases c30 : 0 < (t492.size : Int)
       · rw [if_pos c30] at h
         by_cases c31 : (bt t492 0) = 44
         · rw [if_pos c31] at h
           have hb31 := bt_range t492 0
           refine path_ok (k := 8) hF (RetQ_mild _ _ _ _ _ _ _ _) (ds := [.b true, .r [.ro (.ag [.v (.int .i64 t488), .sl 2 (r65 t489)]), .ro (.v (.string t492)), .ro (.v (.bool t493))] [], .b false, .b false, .b false, .b false, .b false, .b false, .b false, .b false, .b false, .b false, .b false, .b false, .b false]) (os := []) (c := none) rfl KD ?_
           exact WS.can [(1004, some 1004), (1010, some 1010), (3641, some 3641), (1011, some 11)] (((ih.out k (by omega)).s_j5  r1 r2 r3 r4 w ro B hF J1 (fun m σ hm hI => hJ1 m σ (by omega) hI) x1 t492 false x483000 x488000 x488001 t488 t489 h).out) KD
         · rw [if_neg c31] at h
           have hb32 := bt_range t492 0
           refine path_ok (k := 8) hF (RetQ_mild _ _ _ _ _ _ _ _) (ds := [.b true, .r [.ro (.ag [.v (.int .i64 t488), .sl 2 (r65 t489)]), .ro (.v (.string t492)), .ro (.v (.bool t493))] [], .b false, .b false, .b false, .b false, .b false, .b false, .b false, .b true, .b true, .b true, .b false, .b true, .b false]) (os := []) (c := none) rfl KD ?_
           exact WS.can [(1004, some 1004), (1010, some 1010), (3641, some 3641), (1011, some 11)] (((ih.out k (by omega)).s_j5  r1 r2 r3 r4 w ro B hF J1 (fun m σ hm hI => hJ1 m σ (by omega) hI) x1 t492 ((bt t492 0) != 93) x483000 x488000 x488001 t488 t489 h).out) KD
       · rw [if_neg c30] at h
         cases h
   · rw [if_neg c28] at h
     refine path_ok (k := 8) hF (RetQ_mild _ _ _ _ _ _ _ _) (ds := [.b true, .r [.ro (.ag [.v (.int .i64 t488), .sl 2 (r65 t489)]), .ro (.v (.string t492)), .ro (.v (.bool t493))] [], .b true, .b true, .b true, .b true, .b true, .b true, .b true, .b true, .b true]) (os := []) (c := none) rfl KD ?_
     exact WS.can [(1004, some 1004), (1010, some 1010), (3641, some 3641), (1011, some 11)] (((ih.out k (by omega)).s_j5  r1 r2 r3 r4 w ro B hF J1 (fun m σ hm hI => hJ1 m σ (by omega) hI) x1 t492 true x483000 x488000 x488001 t488 t489 h).out) KD
 · rw [if_neg c26] at h
   by_cases c34 : x0.toList = ([] : List UInt8)
   · rw [if_pos c34] at h
     refine path_ok (k := 9) hF (RetQ_mild _ _ _ _ _ _ _ _) (ds := [.b false, .b true]) (os := []) (c := none) rfl KD ?_
     cases h
     exact ret_as (ms := [.ro, .ro, .ro]) rfl KD
   · rw [if_neg c34] at h
     by_cases c35 : 1 ≤ (x0.size : Int)
     · rw [if_pos c35] at h
       refine path_ok (k := 10) hF (RetQ_mild _ _ _ _ _ _ _ _) (ds := [.b false, .b false]) (os := [.o [(0, 1), (1, 0), (2, 0), (3, 2), (4, 0), (5, 0)] [3]]) (c := none) rfl KD ?_
       cases h
       exact ret_as (ms := [.ro, .ro, .ro]) rfl KD
     · rw [if_neg c35] at h
       cases h
set_option maxRecDepth 100000 in
set_option maxHeartbeats 4000000 in
theorem impl_readArr.c_j5 (k : Nat) (ih : Kp (∀ m, m < k → impl_readArr.C m)) (r1 : Int) (r2 : List (S65)) (r3 : ByteArray) (r4 : Bool) (w : World) (ro : Nat → Prop) (B : Nat) (hF : Fr TE (cx0 Tryd.f78 none w ro B)) (J1 : St → Prop) (hJ1 : ∀ m σ, m ≤ k → impl_readArr.I1 r1 r2 r3 r4 m σ → J1 σ) (x1 : Int) (x12 : ByteArray) (x107 : Bool) (x483000 : Int) (x488000 : Int) (x488001 : List (S65)) (x495000 : Int) (x495001 : List (S65)) (h : impl_readArr.j5 k x1 x12 x107 x488000 x488001 x495000 x495001 = some (r1, r2, r3, r4)) : Kp (WS TE (cx0 Tryd.f78 none w ro B) (stkAt [1, 1, 1, 1, 0, 1, 0, 0, 1, 0, 1, 0, 0, 9] [J1] (bodyOf Tryd.f78) []) ⟨[(1, .v (.int .i64 x1)), (4, .pt 1004 0 0), (10, .pt 1010 0 0), (11, .pt 1011 0 0), (12, .v (.string x12)), (107, .v (.bool x107))], [(1004, .box 0 65 false [.v (.int .i64 x483000), .v (.slice none 0 0)]), (3641, .own 0 65 2 (r65 x488001)), (1010, .box 0 65 false [.v (.int .i64 x488000), .ow 3641 0]), (1011, .box 0 65 false [.v (.int .i64 x495000), .sl 2 (r65 x495001)])]⟩ (RetQ TE Tryd.f78 none [.ro (.ag [.v (.int .i64 r1), .sl 2 (r65 r2)]), .ro (.v (.string r3)), .ro (.v (.bool r4))] [] w ro B)) := by
 refine ⟨?_⟩
 cases k with
 | zero => simp [impl_readArr.j5] at h
 | succ k =>
 simp only [impl_readArr.j5] at h
 by_cases c36 : x107 = true
 · rw [if_pos c36] at h
   refine path_ok (k := 4) hF (RetQ_mild _ _ _ _ _ _ _ _) (ds := [.b true]) (os := []) (c := none) rfl KD ?_
   cases h
   exact ret_as (ms := [.ro, .ro, .ro]) rfl KD
 · rw [if_neg c36] at h
   by_cases c37 : x488001.length < 4398046511104
   · rw [if_pos c37] at h
     obtain ⟨y495, hy495, h⟩ := Option.bind_eq_some_iff.1 h
     cases hy495
     by_cases c38 : 0 < (x12.size : Int)
     · rw [if_pos c38] at h
       by_cases c39 : (bt x12 0) = 93
       · rw [if_pos c39] at h
         by_cases c40 : 1 ≤ (x12.size : Int)
         · rw [if_pos c40] at h
           have hb40 := bt_range x12 0
           refine path_ok (k := 11) hF (RetQ_mild _ _ _ _ _ _ _ _) (ds := [.b false, .p 112 ([[.v (.int .i64 x495000), .sl 2 (r65 x495001)]]), .o 113 (r65 (x488001 ++ [(⟨x495000, x495001⟩ : S65)])), .b true]) (os := [.o [(0, 1), (1, 0), (2, 0), (3, 2), (4, 0), (5, 0)] [3]]) (c := none) rfl KD ?_
           cases h
           exact ret_as (ms := [.ro, .ro, .ro]) rfl KD
         · rw [if_neg c40] at h
           cases h
       · rw [if_neg c39] at h
         by_cases c42 : 1 ≤ (x12.size : Int)
         · rw [if_pos c42] at h
           have hb42 := bt_range x12 0
           refine path_ok (k := 11) hF (RetQ_mild _ _ _ _ _ _ _ _) (ds := [.b false, .p 112 ([[.v (.int .i64 x495000), .sl 2 (r65 x495001)]]), .o 113 (r65 (x488001 ++ [(⟨x495000, x495001⟩ : S65)])), .b false]) (os := []) (c := none) rfl KD ?_
           exact WS.lpc [(1004, some 1004), (1010, some 1010), (3641, some 3641)] (hJ1 _ _ (by omega) ⟨(x12.extract 1 x12.size), x1, x483000, x488000, (x488001 ++ [(⟨x495000, x495001⟩ : S65)]), h, rfl⟩) KD
         · rw [if_neg c42] at h
           cases h
     · rw [if_neg c38] at h
       cases h
   · rw [if_neg c37] at h
     cases h
theorem impl_readArr.cs (k : Nat) : impl_readArr.C k := by
 induction k using Nat.strongRecOn with
 | _ k ih0 =>
 have ih : Kp (∀ m, m < k → impl_readArr.C m) := ⟨ih0⟩
 exact ⟨impl_readArr.c_f k ih, impl_readArr.c_j1 k ih, impl_readArr.c_l0 k ih, impl_readArr.c_j2 k ih, impl_readArr.c_l1 k ih, impl_readArr.c_j4 k ih, impl_readArr.c_j5 k ih⟩
theorem impl_readArr.ctr (k : Nat) (a0 : ByteArray) (a1 : Int) (r1 : Int) (r2 : List (S65)) (r3 : ByteArray) (r4 : Bool) (h : impl_readArr.f k a0 a1 = some (r1, r2, r3, r4)) : Ctr TE 78 none [.v (.string a0), .v (.int .i64 a1)] [.ro (.ag [.v (.int .i64 r1), .sl 2 (r65 r2)]), .ro (.v (.string r3)), .ro (.v (.bool r4))] [] := (impl_readArr.cs k).s_f a0 a1 r1 r2 r3 r4 h
def impl_arrOf.f (k : Nat) (a0 : ByteArray) (a1 : Int) : Option (Int × (List (S65)) × Bool) := if a1 < 0 then (some (0, ([] : List (S65)), false)) else (if a1 > 3 then (some (0, ([] : List (S65)), false)) else (if (a0.size : Int) > 400 then (some (0, ([] : List (S65)), false)) else ((impl_readArr.f k a0 a1).bind fun bt499 => (if bt499.2.2.2 = true then (some (bt499.1, bt499.2.1, (bt499.2.2.1.toList == ([] : List UInt8)))) else (some (bt499.1, bt499.2.1, false))))))
set_option maxRecDepth 100000 in
set_option maxHeartbeats 4000000 in
theorem impl_arrOf.ctr (k : Nat) (a0 : ByteArray) (a1 : Int) (r1 : Int) (r2 : List (S65)) (r3 : Bool) (h : impl_arrOf.f k a0 a1 = some (r1, r2, r3)) : Ctr TE 46 none [.v (.string a0), .v (.int .i64 a1)] [.ro (.ag [.v (.int .i64 r1), .sl 2 (r65 r2)]), .ro (.v (.bool r3))] [] := by
 refine ctr_of (fn := Tryd.f46) (c := (bodyOf Tryd.f46)) Tryd.func46 rfl (by kernel_rfl) (Nat.le_of_ble_eq_true (by kernel_rfl)) (fun w ro B hF _ => ?_)
 simp only [impl_arrOf.f] at h
 by_cases c1 : a1 < 0
 · rw [if_pos c1] at h
   refine path_ok (k := 9) hF (RetQ_mild _ _ _ _ _ _ _ _) (ds := [.b true, .b true, .b true, .b true, .b true, .b true, .b true, .b true]) (os := []) (c := none) rfl KD ?_
   cases h
   exact ret_as (ms := [.ro, .ro]) rfl KD
 · rw [if_neg c1] at h
   by_cases c2 : a1 > 3
   · rw [if_pos c2] at h
     refine path_ok (k := 9) hF (RetQ_mild _ _ _ _ _ _ _ _) (ds := [.b false, .b false, .b false, .b true, .b true, .b true, .b true, .b true]) (os := []) (c := none) rfl KD ?_
     cases h
     exact ret_as (ms := [.ro, .ro]) rfl KD
   · rw [if_neg c2] at h
     by_cases c3 : (a0.size : Int) > 400
     · rw [if_pos c3] at h
       refine path_ok (k := 9) hF (RetQ_mild _ _ _ _ _ _ _ _) (ds := [.b false, .b false, .b false, .b false, .b false, .b false, .b false, .b true]) (os := []) (c := none) rfl KD ?_
       cases h
       exact ret_as (ms := [.ro, .ro]) rfl KD
     · rw [if_neg c3] at h
       obtain ⟨⟨t499, t500, t503, t504⟩, q4, h⟩ := Option.bind_eq_some_iff.1 h
       dsimp only at h
       have q4c := impl_readArr.ctr k _ _ _ _ _ _ q4
       by_cases c5 : t504 = true
       · rw [if_pos c5] at h
         refine path_ok (k := 12) hF (RetQ_mild _ _ _ _ _ _ _ _) (ds := [.b false, .b false, .b false, .b false, .b false, .b false, .b false, .b false, .r [.ro (.ag [.v (.int .i64 t499), .sl 2 (r65 t500)]), .ro (.v (.string t503)), .ro (.v (.bool t504))] [], .b true, .b true, .b true]) (os := []) (c := none) rfl KD ?_
         cases h
         exact ret_as (ms := [.ro, .ro]) rfl KD
       · rw [if_neg c5] at h
         refine path_ok (k := 12) hF (RetQ_mild _ _ _ _ _ _ _ _) (ds := [.b false, .b false, .b false, .b false, .b false, .b false, .b false, .b false, .r [.ro (.ag [.v (.int .i64 t499), .sl 2 (r65 t500)]), .ro (.v (.string t503)), .ro (.v (.bool t504))] [], .b false, .b false, .b false]) (os := []) (c := none) rfl KD ?_
         cases h
         exact ret_as (ms := [.ro, .ro]) rfl KD
def impl_LayOut.f (k : Nat) (a0 : ByteArray) (a1 : Int) : Option ((List (List Int)) × List Int × Bool) := (impl_arrOf.f k a0 a1).bind fun bt507 => (if bt507.2.2 = true then ((impl_laid.f k (([(⟨bt507.1, bt507.2.1⟩ : S65)] : List (S65))) a1).bind fun bt516 => (some (bt516.1, bt516.2, true))) else (some (([] : List (List Int)), ([] : List Int), false)))
set_option maxRecDepth 100000 in
set_option maxHeartbeats 4000000 in
theorem impl_LayOut.ctr (k : Nat) (a0 : ByteArray) (a1 : Int) (r1 : List (List Int)) (r2 : List Int) (r3 : Bool) (h : impl_LayOut.f k a0 a1 = some (r1, r2, r3)) : Ctr TE 14 none [.v (.string a0), .v (.int .i64 a1)] [.ro (.ag [.sl 1 (rX (cL (cI .i64) 1) r1), .sl 1 (rX (cI .i64) r2)]), .ro (.v (.bool r3))] [] := by
 refine ctr_of (fn := Tryd.f14) (c := (bodyOf Tryd.f14)) Tryd.func14 rfl (by kernel_rfl) (Nat.le_of_ble_eq_true (by kernel_rfl)) (fun w ro B hF _ => ?_)
 simp only [impl_LayOut.f] at h
 obtain ⟨⟨t507, t508, t511⟩, q1, h⟩ := Option.bind_eq_some_iff.1 h
 dsimp only at h
 have q1c := impl_arrOf.ctr k _ _ _ _ _ q1
 by_cases c2 : t511 = true
 · rw [if_pos c2] at h
   obtain ⟨⟨t516, t519⟩, q3, h⟩ := Option.bind_eq_some_iff.1 h
   dsimp only at h
   have q3c := impl_laid.ctr k _ _ _ _ q3
   refine path_ok (k := 12) hF (RetQ_mild _ _ _ _ _ _ _ _) (ds := [.r [.ro (.ag [.v (.int .i64 t507), .sl 2 (r65 t508)]), .ro (.v (.bool t511))] [], .b false, .p 18 ([[.v (.int .i64 t507), .sl 2 (r65 t508)]]), .r [.ro (.ag [.sl 1 (rX (cL (cI .i64) 1) t516), .sl 1 (rX (cI .i64) t519)])] []]) (os := []) (c := none) rfl KD ?_
   cases h
   exact ret_as (ms := [.ro, .ro]) rfl KD
 · rw [if_neg c2] at h
   refine path_ok (k := 11) hF (RetQ_mild _ _ _ _ _ _ _ _) (ds := [.r [.ro (.ag [.v (.int .i64 t507), .sl 2 (r65 t508)]), .ro (.v (.bool t511))] [], .b true]) (os := []) (c := none) rfl KD ?_
   cases h
   exact ret_as (ms := [.ro, .ro]) rfl KD
def laws_faSame.l0 : Nat → List Int → List Int → Int → Int → Option (Bool)
  | 0, _, _, _, _ => none
  | k + 1, x0, x1, x10, x11 => if x11 < x10 then (if 0 ≤ x11 then (if x11 < (x0.length : Int) then (if x11 < (x1.length : Int) then (if (rd x0 x11) = (rd x1 x11) then (laws_faSame.l0 k x0 x1 x10 (wrap64 (x11 + 1))) else (some false)) else (none)) else (none)) else (none)) else (some ((x0.length : Int) == (x1.length : Int)))
def laws_faSame.f (k : Nat) (l0 : List Int) (l1 : List Int) : Option (Bool) := laws_faSame.l0 k l0 l1 (mn (l0.length : Int) (l1.length : Int)) 0
def laws_faSame.I0 (r : Bool) (m : Nat) (σ : St) : Prop := ∃ (x0 : List Int) (x1 : List Int) (x10 : Int) (x11 : Int), laws_faSame.l0 m x0 x1 x10 x11 = some r ∧ σ = ⟨[(0, .sl 1 (rX (cI .i64) x0)), (1, .sl 1 (rX (cI .i64) x1)), (10, .v (.int .i64 x10)), (11, .v (.int .i64 x11))], []⟩
structure laws_faSame.C (k : Nat) : Prop where
 s_l0 : ∀ (r : Bool) (w : World) (ro : Nat → Prop) (B : Nat) (_ : Fr TE (cx0 Tryd.f49 none w ro B)) (x0 : List Int) (x1 : List Int) (x10 : Int) (x11 : Int) (_ : laws_faSame.l0 k x0 x1 x10 x11 = some r), Kp (WS TE (cx0 Tryd.f49 none w ro B) (stkAt [1, 0, 1, 0] [] (bodyOf Tryd.f49) []) ⟨[(0, .sl 1 (rX (cI .i64) x0)), (1, .sl 1 (rX (cI .i64) x1)), (10, .v (.int .i64 x10)), (11, .v (.int .i64 x11))], []⟩ (RetQ TE Tryd.f49 none [.ro (.v (.bool r))] [] w ro B))
set_option maxRecDepth 100000 in
set_option maxHeartbeats 4000000 in
theorem laws_faSame.c_l0 (k : Nat) (ih : Kp (∀ m, m < k → laws_faSame.C m)) (r : Bool) (w : World) (ro : Nat → Prop) (B : Nat) (hF : Fr TE (cx0 Tryd.f49 none w ro B)) (x0 : List Int) (x1 : List Int) (x10 : Int) (x11 : Int) (h : laws_faSame.l0 k x0 x1 x10 x11 = some r) : Kp (WS TE (cx0 Tryd.f49 none w ro B) (stkAt [1, 0, 1, 0] [] (bodyOf Tryd.f49) []) ⟨[(0, .sl 1 (rX (cI .i64) x0)), (1, .sl 1 (rX (cI .i64) x1)), (10, .v (.int .i64 x10)), (11, .v (.int .i64 x11))], []⟩ (RetQ TE Tryd.f49 none [.ro (.v (.bool r))] [] w ro B)) := by
 refine ⟨WS.loop (fun m σ => m ≤ k ∧ laws_faSame.I0 r m σ) k ⟨Nat.le_refl k, x0, x1, x10, x11, h, rfl⟩ (fun m σ' hI J0 hJ0 => ?_)⟩
 clear h
 obtain ⟨hk, x0, x1, x10, x11, h, rfl⟩ := hI
 cases m with
 | zero => simp [laws_faSame.l0] at h
 | succ k' =>
 simp only [laws_faSame.l0] at h
 by_cases c1 : x11 < x10
 · rw [if_pos c1] at h
   by_cases c2 : 0 ≤ x11
   · rw [if_pos c2] at h
     by_cases c3 : x11 < (x0.length : Int)
     · rw [if_pos c3] at h
       by_cases c4 : x11 < (x1.length : Int)
       · rw [if_pos c4] at h
         by_cases c5 : (rd x0 x11) = (rd x1 x11)
         · rw [if_pos c5] at h
           refine path_ok (k := 15) hF (RetQ_mild _ _ _ _ _ _ _ _) (ds := [.b true, .e 16 (.rf [.v (.int .i64 (rd x0 x11))]), .e 20 (.rf [.v (.int .i64 (rd x1 x11))]), .b false]) (os := [.o [(0, 0), (1, 0), (2, 0), (3, 1), (4, 0), (5, 0), (6, 0), (7, 1), (8, 0)] []]) (c := none) rfl KD ?_
           exact WS.lpc [] (hJ0 _ _ (Nat.lt_succ_self _) ⟨by omega, x0, x1, x10, (wrap64 (x11 + 1)), h, rfl⟩) KD
         · rw [if_neg c5] at h
           refine path_ok (k := 15) hF (RetQ_mild _ _ _ _ _ _ _ _) (ds := [.b true, .e 16 (.rf [.v (.int .i64 (rd x0 x11))]), .e 20 (.rf [.v (.int .i64 (rd x1 x11))]), .b true]) (os := [.o [(0, 0), (1, 0), (2, 0), (3, 1), (4, 0), (5, 0), (6, 0), (7, 1), (8, 0)] []]) (c := none) rfl KD ?_
           cases h
           exact ret_as (ms := [.ro]) rfl KD
       · rw [if_neg c4] at h
         cases h
     · rw [if_neg c3] at h
       cases h
   · rw [if_neg c2] at h
     cases h
 · rw [if_neg c1] at h
   refine path_ok (k := 8) hF (RetQ_mild _ _ _ _ _ _ _ _) (ds := [.b false, .e 25 (.v (.int .i64 (x0.length : Int))), .e 27 (.v (.int .i64 (x1.length : Int)))]) (os := []) (c := none) rfl KD ?_
   cases h
   exact ret_as (ms := [.ro]) rfl KD
theorem laws_faSame.cs (k : Nat) : laws_faSame.C k := by
 induction k using Nat.strongRecOn with
 | _ k ih0 =>
 have ih : Kp (∀ m, m < k → laws_faSame.C m) := ⟨ih0⟩
 exact ⟨laws_faSame.c_l0 k ih⟩
set_option maxRecDepth 100000 in
set_option maxHeartbeats 4000000 in
theorem laws_faSame.ctr (k : Nat) (l0 : List Int) (l1 : List Int) (r : Bool) (h : laws_faSame.f k l0 l1 = some r) : Ctr TE 49 none [.sl 1 (rX (cI .i64) l0), .sl 1 (rX (cI .i64) l1)] [.ro (.v (.bool r))] [] := by
 refine ctr_of (fn := Tryd.f49) (c := (bodyOf Tryd.f49)) Tryd.func49 rfl (by kernel_rfl) (Nat.le_of_ble_eq_true (by kernel_rfl)) (fun w ro B hF _ => ?_)
 have ih : Kp (∀ m, m < k + 1 → laws_faSame.C m) := ⟨fun m _ => laws_faSame.cs m⟩
 simp only [laws_faSame.f] at h
 refine path_ok (k := 6) hF (RetQ_mild _ _ _ _ _ _ _ _) (ds := [.e 7 (.v (.int .i64 (l0.length : Int))), .e 9 (.v (.int .i64 (l1.length : Int)))]) (os := []) (c := none) rfl KD ?_
 exact WS.can [] (((ih.out k (by omega)).s_l0  r w ro B hF l0 l1 (mn (l0.length : Int) (l1.length : Int)) 0 h).out) KD
def laws_faLists.l0 : Nat → List (List Int) → List (List Int) → Int → Int → Option (Bool)
  | 0, _, _, _, _ => none
  | k + 1, x0, x1, x10, x11 => if x11 < x10 then (if 0 ≤ x11 then (if x11 < (x0.length : Int) then (if x11 < (x1.length : Int) then ((laws_faSame.f k (rd_L1 x0 x11) (rd_L1 x1 x11)).bind fun t526 => (if t526 = true then (laws_faLists.l0 k x0 x1 x10 (wrap64 (x11 + 1))) else (some false))) else (none)) else (none)) else (none)) else (some ((x0.length : Int) == (x1.length : Int)))
def laws_faLists.f (k : Nat) (l0 : List (List Int)) (l1 : List (List Int)) : Option (Bool) := laws_faLists.l0 k l0 l1 (mn (l0.length : Int) (l1.length : Int)) 0
def laws_faLists.I0 (r : Bool) (m : Nat) (σ : St) : Prop := ∃ (x0 : List (List Int)) (x1 : List (List Int)) (x10 : Int) (x11 : Int), laws_faLists.l0 m x0 x1 x10 x11 = some r ∧ σ = ⟨[(0, .sl 1 (rX (cL (cI .i64) 1) x0)), (1, .sl 1 (rX (cL (cI .i64) 1) x1)), (10, .v (.int .i64 x10)), (11, .v (.int .i64 x11))], []⟩
structure laws_faLists.C (k : Nat) : Prop where
 s_l0 : ∀ (r : Bool) (w : World) (ro : Nat → Prop) (B : Nat) (_ : Fr TE (cx0 Tryd.f48 none w ro B)) (x0 : List (List Int)) (x1 : List (List Int)) (x10 : Int) (x11 : Int) (_ : laws_faLists.l0 k x0 x1 x10 x11 = some r), Kp (WS TE (cx0 Tryd.f48 none w ro B) (stkAt [1, 0, 1, 0] [] (bodyOf Tryd.f48) []) ⟨[(0, .sl 1 (rX (cL (cI .i64) 1) x0)), (1, .sl 1 (rX (cL (cI .i64) 1) x1)), (10, .v (.int .i64 x10)), (11, .v (.int .i64 x11))], []⟩ (RetQ TE Tryd.f48 none [.ro (.v (.bool r))] [] w ro B))
set_option maxRecDepth 100000 in
set_option maxHeartbeats 4000000 in
theorem laws_faLists.c_l0 (k : Nat) (ih : Kp (∀ m, m < k → laws_faLists.C m)) (r : Bool) (w : World) (ro : Nat → Prop) (B : Nat) (hF : Fr TE (cx0 Tryd.f48 none w ro B)) (x0 : List (List Int)) (x1 : List (List Int)) (x10 : Int) (x11 : Int) (h : laws_faLists.l0 k x0 x1 x10 x11 = some r) : Kp (WS TE (cx0 Tryd.f48 none w ro B) (stkAt [1, 0, 1, 0] [] (bodyOf Tryd.f48) []) ⟨[(0, .sl 1 (rX (cL (cI .i64) 1) x0)), (1, .sl 1 (rX (cL (cI .i64) 1) x1)), (10, .v (.int .i64 x10)), (11, .v (.int .i64 x11))], []⟩ (RetQ TE Tryd.f48 none [.ro (.v (.bool r))] [] w ro B)) := by
 refine ⟨WS.loop (fun m σ => m ≤ k ∧ laws_faLists.I0 r m σ) k ⟨Nat.le_refl k, x0, x1, x10, x11, h, rfl⟩ (fun m σ' hI J0 hJ0 => ?_)⟩
 clear h
 obtain ⟨hk, x0, x1, x10, x11, h, rfl⟩ := hI
 cases m with
 | zero => simp [laws_faLists.l0] at h
 | succ k' =>
 simp only [laws_faLists.l0] at h
 by_cases c1 : x11 < x10
 · rw [if_pos c1] at h
   by_cases c2 : 0 ≤ x11
   · rw [if_pos c2] at h
     by_cases c3 : x11 < (x0.length : Int)
     · rw [if_pos c3] at h
       by_cases c4 : x11 < (x1.length : Int)
       · rw [if_pos c4] at h
         obtain ⟨t526, q5, h⟩ := Option.bind_eq_some_iff.1 h
         have q5c := laws_faSame.ctr k' _ _ _ q5
         by_cases c6 : t526 = true
         · rw [if_pos c6] at h
           refine path_ok (k := 15) hF (RetQ_mild _ _ _ _ _ _ _ _) (ds := [.b true, .e 16 (.rf [.sl 1 (rX (cI .i64) (rd_L1 x0 x11))]), .e 20 (.rf [.sl 1 (rX (cI .i64) (rd_L1 x1 x11))]), .r [.ro (.v (.bool t526))] [], .b false]) (os := [.o [(0, 0), (1, 0), (2, 0), (3, 1), (4, 0), (5, 0), (6, 0), (7, 1), (8, 2), (9, 0)] []]) (c := none) rfl KD ?_
           exact WS.lpc [] (hJ0 _ _ (Nat.lt_succ_self _) ⟨by omega, x0, x1, x10, (wrap64 (x11 + 1)), h, rfl⟩) KD
         · rw [if_neg c6] at h
           refine path_ok (k := 15) hF (RetQ_mild _ _ _ _ _ _ _ _) (ds := [.b true, .e 16 (.rf [.sl 1 (rX (cI .i64) (rd_L1 x0 x11))]), .e 20 (.rf [.sl 1 (rX (cI .i64) (rd_L1 x1 x11))]), .r [.ro (.v (.bool t526))] [], .b true]) (os := [.o [(0, 0), (1, 0), (2, 0), (3, 1), (4, 0), (5, 0), (6, 0), (7, 1), (8, 2), (9, 0)] []]) (c := none) rfl KD ?_
           cases h
           exact ret_as (ms := [.ro]) rfl KD
       · rw [if_neg c4] at h
         cases h
     · rw [if_neg c3] at h
       cases h
   · rw [if_neg c2] at h
     cases h
 · rw [if_neg c1] at h
   refine path_ok (k := 8) hF (RetQ_mild _ _ _ _ _ _ _ _) (ds := [.b false, .e 26 (.v (.int .i64 (x0.length : Int))), .e 28 (.v (.int .i64 (x1.length : Int)))]) (os := []) (c := none) rfl KD ?_
   cases h
   exact ret_as (ms := [.ro]) rfl KD
theorem laws_faLists.cs (k : Nat) : laws_faLists.C k := by
 induction k using Nat.strongRecOn with
 | _ k ih0 =>
 have ih : Kp (∀ m, m < k → laws_faLists.C m) := ⟨ih0⟩
 exact ⟨laws_faLists.c_l0 k ih⟩
set_option maxRecDepth 100000 in
set_option maxHeartbeats 4000000 in
theorem laws_faLists.ctr (k : Nat) (l0 : List (List Int)) (l1 : List (List Int)) (r : Bool) (h : laws_faLists.f k l0 l1 = some r) : Ctr TE 48 none [.sl 1 (rX (cL (cI .i64) 1) l0), .sl 1 (rX (cL (cI .i64) 1) l1)] [.ro (.v (.bool r))] [] := by
 refine ctr_of (fn := Tryd.f48) (c := (bodyOf Tryd.f48)) Tryd.func48 rfl (by kernel_rfl) (Nat.le_of_ble_eq_true (by kernel_rfl)) (fun w ro B hF _ => ?_)
 have ih : Kp (∀ m, m < k + 1 → laws_faLists.C m) := ⟨fun m _ => laws_faLists.cs m⟩
 simp only [laws_faLists.f] at h
 refine path_ok (k := 6) hF (RetQ_mild _ _ _ _ _ _ _ _) (ds := [.e 7 (.v (.int .i64 (l0.length : Int))), .e 9 (.v (.int .i64 (l1.length : Int)))]) (os := []) (c := none) rfl KD ?_
 exact WS.can [] (((ih.out k (by omega)).s_l0  r w ro B hF l0 l1 (mn (l0.length : Int) (l1.length : Int)) 0 h).out) KD
def laws_faLayout.f (k : Nat) (l0_0 : List (List Int)) (l0_1 : List Int) (l1_0 : List (List Int)) (l1_1 : List Int) : Option (Bool) := (laws_faLists.f k l0_0 l1_0).bind fun t529 => (if t529 = true then ((laws_faSame.f k l0_1 l1_1).bind fun t530 => (some t530)) else (some false))
set_option maxRecDepth 100000 in
set_option maxHeartbeats 4000000 in
theorem laws_faLayout.ctr (k : Nat) (l0_0 : List (List Int)) (l0_1 : List Int) (l1_0 : List (List Int)) (l1_1 : List Int) (r : Bool) (h : laws_faLayout.f k l0_0 l0_1 l1_0 l1_1 = some r) : Ctr TE 15 none [.ag [.sl 1 (rX (cL (cI .i64) 1) l0_0), .sl 1 (rX (cI .i64) l0_1)], .ag [.sl 1 (rX (cL (cI .i64) 1) l1_0), .sl 1 (rX (cI .i64) l1_1)]] [.ro (.v (.bool r))] [] := by
 refine ctr_of (fn := Tryd.f15) (c := (bodyOf Tryd.f15)) Tryd.func15 rfl (by kernel_rfl) (Nat.le_of_ble_eq_true (by kernel_rfl)) (fun w ro B hF _ => ?_)
 simp only [laws_faLayout.f] at h
 obtain ⟨t529, q1, h⟩ := Option.bind_eq_some_iff.1 h
 have q1c := laws_faLists.ctr k _ _ _ q1
 by_cases c2 : t529 = true
 · rw [if_pos c2] at h
   obtain ⟨t530, q3, h⟩ := Option.bind_eq_some_iff.1 h
   have q3c := laws_faSame.ctr k _ _ _ q3
   refine path_ok (k := 5) hF (RetQ_mild _ _ _ _ _ _ _ _) (ds := [.r [.ro (.v (.bool t529))] [], .b true, .b true, .b true, .b true, .b true, .r [.ro (.v (.bool t530))] [], .b true]) (os := []) (c := none) rfl KD ?_
   cases h
   exact ret_as (ms := [.ro]) rfl KD
 · rw [if_neg c2] at h
   refine path_ok (k := 5) hF (RetQ_mild _ _ _ _ _ _ _ _) (ds := [.r [.ro (.v (.bool t529))] [], .b false, .b false, .b false, .b false, .b false, .b false]) (os := []) (c := none) rfl KD ?_
   cases h
   exact ret_as (ms := [.ro]) rfl KD
end Go.Proofs.YtidpankoobdfjaaDoor.U
