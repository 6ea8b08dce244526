/- A part of the claim. -/
import Derived.Test.YtoloblgjlnhioaaGreatDoorIFx0
import Derived.Test.YtoloblgjlnhioaaGreatDoorIFx1
import Derived.Test.YtoloblgjlnhioaaGreatDoorIFx2
import Derived.Test.YtoloblgjlnhioaaGreatDoorIFx4
import Derived.Test.YtoloblgjlnhioaaGreatDoorIFx6
import Derived.Test.YtoloblgjlnhioaaGreatDoorIFx7
import Derived.Test.YtoloblgjlnhioaaGreatDoorIFSgc
import Derived.Test.YtoloblgjlnhioaaGreatDoorIFSgu
-- PRINTED by print.py (a twelfth state) out of the translation. Not trusted: Lean checks it.
namespace Go.Proofs.YtoloblgjlnhioaaGreatDoor.I
open Go.RowKit Go.Proofs.YtoloblgjlnhioaaGreatDoorW.St Go.Proofs.YtoloblgjlnhioaaGreatDoorW.PrintWords Go.Proofs.YtoloblgjlnhioaaGreatDoorW.PrintLast Go.Proofs.YtoloblgjlnhioaaGreatDoorW.PrintMore
attribute [local go_sem] max2_int min2_int max_two min_two max_three min_three max_four min_four   -- for this text's walks alone
set_option linter.unusedVariables false
set_option linter.unusedSimpArgs false
def impl_ScanSegments.f (k : Nat) (l0 : List Int) (l1 : List Int) : Option (List Int × Bool) := (impl_each_3.f k l0 l1 0).bind fun bt612 => (some (bt612.1, bt612.2))
set_option maxRecDepth 100000 in
set_option maxHeartbeats 4000000 in
theorem impl_ScanSegments.ctr (k : Nat) (l0 : List Int) (l1 : List Int) (r1 : List Int) (r2 : Bool) (h : impl_ScanSegments.f k l0 l1 = some (r1, r2)) : Ctr TE 25 none [.sl 1 (rX (cI .i64) l0), .sl 1 (rX (cI .i64) l1)] [.own 3 1 (rX (cI .i64) r1), .ro (.v (.bool r2))] [] := by
 refine ctr_of (fn := Tryz.f25) (c := (bodyOf Tryz.f25)) Tryz.func25 rfl (by kernel_rfl) (Nat.le_of_ble_eq_true (by kernel_rfl)) (fun w ro B hF _ => ?_)
 simp only [impl_ScanSegments.f] at h
 obtain ⟨⟨t612, t613⟩, q1, h⟩ := Option.bind_eq_some_iff.1 h
 dsimp only at h
 have q1c := impl_each_3.ctr k _ _ _ _ _ q1
 refine path_ok (k := 5) hF (RetQ_mild _ _ _ _ _ _ _ _) (ds := [.r [.own 3 1 (rX (cI .i64) t612), .ro (.v (.bool t613))] []]) (os := []) (c := none) rfl KD ?_
 cases h
 exact ret_as (ms := [.own, .ro]) rfl KD
mutual
def impl_PartsOf.j0 : Nat → Int → Bool → Int → List (S68) → Option (List ByteArray × Bool)
  | 0, _, _, _, _ => none
  | k + 1, x1, x22, x622000, x622001 => if x22 = true then (some (([] : List ByteArray), false)) else (impl_PartsOf.l0 k x1 (([] : List ByteArray)) x622001 (x622001.length : Int) 0)
def impl_PartsOf.l0 : Nat → Int → List ByteArray → List (S68) → Int → Int → Option (List ByteArray × Bool)
  | 0, _, _, _, _, _ => none
  | k + 1, x1, x8, x25, x26, x27 => if x27 < x26 then (if 0 ≤ x27 then (if x27 < (x25.length : Int) then ((impl_arr_text.f k ((rd_T68 x25 x27).f0) ((rd_T68 x25 x27).f1) (wrap64 (x1 - 1))).bind fun t627 => (if x8.length < 8796093022208 then (impl_PartsOf.l0 k x1 (x8 ++ [t627]) x25 x26 (wrap64 (x27 + 1))) else (none))) else (none)) else (none)) else (some (x8, true))
end
def impl_PartsOf.f (k : Nat) (a0 : ByteArray) (a1 : Int) : Option (List ByteArray × Bool) := (impl_arrOf.f k a0 a1).bind fun bt616 => (if bt616.2.2 = true then (impl_PartsOf.j0 k a1 (a1 == 0) bt616.1 bt616.2.1) else (impl_PartsOf.j0 k a1 true bt616.1 bt616.2.1))
def impl_PartsOf.I0 (r1 : List ByteArray) (r2 : Bool) (m : Nat) (σ : St) : Prop := ∃ (x1 : Int) (x8 : List ByteArray) (x25 : List (S68)) (x26 : Int) (x27 : Int), impl_PartsOf.l0 m x1 x8 x25 x26 x27 = some (r1, r2) ∧ σ = ⟨[(1, .v (.int .i64 x1)), (8, .ow 1008 0), (25, .sl 2 (r68 x25)), (26, .v (.int .i64 x26)), (27, .v (.int .i64 x27))], [(1008, .own 0 9 1 (rX cS x8))]⟩
structure impl_PartsOf.C (k : Nat) : Prop where
 s_j0 : ∀ (r1 : List ByteArray) (r2 : Bool) (w : World) (ro : Nat → Prop) (B : Nat) (_ : Fr TE (cx0 Tryz.f72 none w ro B)) (x1 : Int) (x22 : Bool) (x622000 : Int) (x622001 : List (S68)) (_ : impl_PartsOf.j0 k x1 x22 x622000 x622001 = some (r1, r2)), Kp (WS TE (cx0 Tryz.f72 none w ro B) (stkAt [1, 1, 0, 0, 9] [] (bodyOf Tryz.f72) []) ⟨[(1, .v (.int .i64 x1)), (6, .pt 1006 0 0), (22, .v (.bool x22))], [(1006, .box 0 68 false [.v (.int .i64 x622000), .sl 2 (r68 x622001)])]⟩ (RetQ TE Tryz.f72 none [.own 9 1 (rX cS r1), .ro (.v (.bool r2))] [] w ro B))
 s_l0 : ∀ (r1 : List ByteArray) (r2 : Bool) (w : World) (ro : Nat → Prop) (B : Nat) (_ : Fr TE (cx0 Tryz.f72 none w ro B)) (x1 : Int) (x8 : List ByteArray) (x25 : List (S68)) (x26 : Int) (x27 : Int) (_ : impl_PartsOf.l0 k x1 x8 x25 x26 x27 = some (r1, r2)), Kp (WS TE (cx0 Tryz.f72 none w ro B) (stkAt [1, 1, 1, 1, 0, 1, 0] [] (bodyOf Tryz.f72) []) ⟨[(1, .v (.int .i64 x1)), (8, .ow 1008 0), (25, .sl 2 (r68 x25)), (26, .v (.int .i64 x26)), (27, .v (.int .i64 x27))], [(1008, .own 0 9 1 (rX cS x8))]⟩ (RetQ TE Tryz.f72 none [.own 9 1 (rX cS r1), .ro (.v (.bool r2))] [] w ro B))
set_option maxRecDepth 100000 in
set_option maxHeartbeats 4000000 in
theorem impl_PartsOf.c_j0 (k : Nat) (ih : Kp (∀ m, m < k → impl_PartsOf.C m)) (r1 : List ByteArray) (r2 : Bool) (w : World) (ro : Nat → Prop) (B : Nat) (hF : Fr TE (cx0 Tryz.f72 none w ro B)) (x1 : Int) (x22 : Bool) (x622000 : Int) (x622001 : List (S68)) (h : impl_PartsOf.j0 k x1 x22 x622000 x622001 = some (r1, r2)) : Kp (WS TE (cx0 Tryz.f72 none w ro B) (stkAt [1, 1, 0, 0, 9] [] (bodyOf Tryz.f72) []) ⟨[(1, .v (.int .i64 x1)), (6, .pt 1006 0 0), (22, .v (.bool x22))], [(1006, .box 0 68 false [.v (.int .i64 x622000), .sl 2 (r68 x622001)])]⟩ (RetQ TE Tryz.f72 none [.own 9 1 (rX cS r1), .ro (.v (.bool r2))] [] w ro B)) := by
 refine ⟨?_⟩
 cases k with
 | zero => simp [impl_PartsOf.j0] at h
 | succ k =>
 simp only [impl_PartsOf.j0] at h
 by_cases c3 : x22 = true
 · rw [if_pos c3] at h
   refine path_ok (k := 4) hF (RetQ_mild _ _ _ _ _ _ _ _) (ds := [.b true]) (os := []) (c := none) rfl KD ?_
   cases h
   exact ret_as (ms := [.nil 9 1, .ro]) rfl KD
 · rw [if_neg c3] at h
   refine path_ok (k := 8) hF (RetQ_mild _ _ _ _ _ _ _ _) (ds := [.b false, .p 23 ([]), .e 26 (.v (.int .i64 (x622001.length : Int)))]) (os := []) (c := none) rfl KD ?_
   exact WS.can [(1008, some 23)] (((ih.out k (by omega)).s_l0  r1 r2 w ro B hF x1 (([] : List ByteArray)) x622001 (x622001.length : Int) 0 h).out) KD
set_option maxRecDepth 100000 in
set_option maxHeartbeats 4000000 in
theorem impl_PartsOf.c_l0 (k : Nat) (ih : Kp (∀ m, m < k → impl_PartsOf.C m)) (r1 : List ByteArray) (r2 : Bool) (w : World) (ro : Nat → Prop) (B : Nat) (hF : Fr TE (cx0 Tryz.f72 none w ro B)) (x1 : Int) (x8 : List ByteArray) (x25 : List (S68)) (x26 : Int) (x27 : Int) (h : impl_PartsOf.l0 k x1 x8 x25 x26 x27 = some (r1, r2)) : Kp (WS TE (cx0 Tryz.f72 none w ro B) (stkAt [1, 1, 1, 1, 0, 1, 0] [] (bodyOf Tryz.f72) []) ⟨[(1, .v (.int .i64 x1)), (8, .ow 1008 0), (25, .sl 2 (r68 x25)), (26, .v (.int .i64 x26)), (27, .v (.int .i64 x27))], [(1008, .own 0 9 1 (rX cS x8))]⟩ (RetQ TE Tryz.f72 none [.own 9 1 (rX cS r1), .ro (.v (.bool r2))] [] w ro B)) := by
 refine ⟨WS.loop (fun m σ => m ≤ k ∧ impl_PartsOf.I0 r1 r2 m σ) k ⟨Nat.le_refl k, x1, x8, x25, x26, x27, h, rfl⟩ (fun m σ' hI J0 hJ0 => ?_)⟩
 clear h
 obtain ⟨hk, x1, x8, x25, x26, x27, h, rfl⟩ := hI
 cases m with
 | zero => simp [impl_PartsOf.l0] at h
 | succ k' =>
 simp only [impl_PartsOf.l0] at h
 by_cases c4 : x27 < x26
 · rw [if_pos c4] at h
   by_cases c5 : 0 ≤ x27
   · rw [if_pos c5] at h
     by_cases c6 : x27 < (x25.length : Int)
     · rw [if_pos c6] at h
       obtain ⟨t627, q7, h⟩ := Option.bind_eq_some_iff.1 h
       have q7c := impl_arr_text.ctr k' _ _ _ _ q7
       by_cases c8 : x8.length < 8796093022208
       · rw [if_pos c8] at h
         refine path_ok (k := 12) hF (RetQ_mild _ _ _ _ _ _ _ _) (ds := [.b true, .e 29 (.rf [.v (.int .i64 ((rd_T68 x25 x27).f0)), .sl 2 (r68 ((rd_T68 x25 x27).f1))]), .r [.ro (.v (.string t627))] [], .p 36 ([[.v (.string t627)]]), .o 37 (rX cS (x8 ++ [t627]))]) (os := []) (c := none) rfl KD ?_
         exact WS.lpc [(1008, some 1008)] (hJ0 _ _ (Nat.lt_succ_self _) ⟨by omega, x1, (x8 ++ [t627]), x25, x26, (wrap64 (x27 + 1)), h, rfl⟩) KD
       · rw [if_neg c8] at h
         cases h
     · rw [if_neg c6] at h
       cases h
   · rw [if_neg c5] at h
     cases h
 · rw [if_neg c4] at h
   refine path_ok (k := 8) hF (RetQ_mild _ _ _ _ _ _ _ _) (ds := [.b false]) (os := []) (c := none) rfl KD ?_
   cases h
   exact ret_as (ms := [.own, .ro]) rfl KD
theorem impl_PartsOf.cs (k : Nat) : impl_PartsOf.C k := by
 induction k using Nat.strongRecOn with
 | _ k ih0 =>
 have ih : Kp (∀ m, m < k → impl_PartsOf.C m) := ⟨ih0⟩
 exact ⟨impl_PartsOf.c_j0 k ih, impl_PartsOf.c_l0 k ih⟩
set_option maxRecDepth 100000 in
set_option maxHeartbeats 4000000 in
theorem impl_PartsOf.ctr (k : Nat) (a0 : ByteArray) (a1 : Int) (r1 : List ByteArray) (r2 : Bool) (h : impl_PartsOf.f k a0 a1 = some (r1, r2)) : Ctr TE 72 none [.v (.string a0), .v (.int .i64 a1)] [.own 9 1 (rX cS r1), .ro (.v (.bool r2))] [] := by
 refine ctr_of (fn := Tryz.f72) (c := (bodyOf Tryz.f72)) Tryz.func72 rfl (by kernel_rfl) (Nat.le_of_ble_eq_true (by kernel_rfl)) (fun w ro B hF _ => ?_)
 have ih : Kp (∀ m, m < k + 1 → impl_PartsOf.C m) := ⟨fun m _ => impl_PartsOf.cs m⟩
 simp only [impl_PartsOf.f] at h
 obtain ⟨⟨t616, t617, t620⟩, q1, h⟩ := Option.bind_eq_some_iff.1 h
 dsimp only at h
 have q1c := impl_arrOf.ctr k _ _ _ _ _ q1
 by_cases c2 : t620 = true
 · rw [if_pos c2] at h
   refine path_ok (k := 7) hF (RetQ_mild _ _ _ _ _ _ _ _) (ds := [.r [.ro (.ag [.v (.int .i64 t616), .sl 2 (r68 t617)]), .ro (.v (.bool t620))] [], .b false, .b false, .b false]) (os := []) (c := none) rfl KD ?_
   exact WS.can [(1006, some 6)] (((ih.out k (by omega)).s_j0  r1 r2 w ro B hF a1 (a1 == 0) t616 t617 h).out) KD
 · rw [if_neg c2] at h
   refine path_ok (k := 7) hF (RetQ_mild _ _ _ _ _ _ _ _) (ds := [.r [.ro (.ag [.v (.int .i64 t616), .sl 2 (r68 t617)]), .ro (.v (.bool t620))] [], .b true, .b true, .b true]) (os := []) (c := none) rfl KD ?_
   exact WS.can [(1006, some 6)] (((ih.out k (by omega)).s_j0  r1 r2 w ro B hF a1 true t616 t617 h).out) KD
def impl_ArrayValid.f (k : Nat) (a0 : ByteArray) (a1 : Int) : Option (Bool) := (impl_arrOf.f k a0 a1).bind fun bt631 => (some bt631.2.2)
set_option maxRecDepth 100000 in
set_option maxHeartbeats 4000000 in
theorem impl_ArrayValid.ctr (k : Nat) (a0 : ByteArray) (a1 : Int) (r : Bool) (h : impl_ArrayValid.f k a0 a1 = some r) : Ctr TE 108 none [.v (.string a0), .v (.int .i64 a1)] [.ro (.v (.bool r))] [] := by
 refine ctr_of (fn := Tryz.f108) (c := (bodyOf Tryz.f108)) Tryz.func108 rfl (by kernel_rfl) (Nat.le_of_ble_eq_true (by kernel_rfl)) (fun w ro B hF _ => ?_)
 simp only [impl_ArrayValid.f] at h
 obtain ⟨⟨t631, t632, t635⟩, q1, h⟩ := Option.bind_eq_some_iff.1 h
 dsimp only at h
 have q1c := impl_arrOf.ctr k _ _ _ _ _ q1
 refine path_ok (k := 7) hF (RetQ_mild _ _ _ _ _ _ _ _) (ds := [.r [.ro (.ag [.v (.int .i64 t631), .sl 2 (r68 t632)]), .ro (.v (.bool t635))] []]) (os := []) (c := none) rfl KD ?_
 cases h
 exact ret_as (ms := [.ro]) rfl KD
mutual
def impl_MakeArray.j0 : Nat → List ByteArray → Int → Bool → Option (ByteArray × Bool)
  | 0, _, _, _ => none
  | k + 1, x0, x1, x14 => if x14 = true then (some ((⟨#[]⟩ : ByteArray), false)) else (impl_MakeArray.l0 k x0 x1 x0 (x0.length : Int) 0)
def impl_MakeArray.l0 : Nat → List ByteArray → Int → List ByteArray → Int → Int → Option (ByteArray × Bool)
  | 0, _, _, _, _, _ => none
  | k + 1, x0, x1, x15, x16, x17 => if x17 < x16 then (if 0 ≤ x17 then (if x17 < (x15.length : Int) then ((impl_ArrayValid.f k (rdOf ByteArray.empty x15 x17) (wrap64 (x1 - 1))).bind fun t638 => (if t638 = true then (impl_MakeArray.l0 k x0 x1 x15 x16 (wrap64 (x17 + 1))) else (some ((⟨#[]⟩ : ByteArray), false)))) else (none)) else (none)) else ((strings_Join.f x0 (⟨#[44]⟩ : ByteArray)).bind fun t639 => (if 1 + t639.size ≤ 9223372036854775807 then (if 1 + t639.size + 1 ≤ 9223372036854775807 then (if (1 + (t639.size : Int) + 1) > 400 then (some ((⟨#[]⟩ : ByteArray), false)) else (some (((⟨#[91]⟩ : ByteArray) ++ t639) ++ (⟨#[93]⟩ : ByteArray), true))) else (none)) else (none)))
end
def impl_MakeArray.f (k : Nat) (l0 : List ByteArray) (a1 : Int) : Option (ByteArray × Bool) := if a1 < 1 then (impl_MakeArray.j0 k l0 a1 true) else (impl_MakeArray.j0 k l0 a1 (decide (a1 > 3)))
def impl_MakeArray.I0 (r1 : ByteArray) (r2 : Bool) (m : Nat) (σ : St) : Prop := ∃ (x0 : List ByteArray) (x1 : Int) (x15 : List ByteArray) (x16 : Int) (x17 : Int), impl_MakeArray.l0 m x0 x1 x15 x16 x17 = some (r1, r2) ∧ σ = ⟨[(0, .sl 1 (rX cS x0)), (1, .v (.int .i64 x1)), (15, .sl 1 (rX cS x15)), (16, .v (.int .i64 x16)), (17, .v (.int .i64 x17))], []⟩
structure impl_MakeArray.C (k : Nat) : Prop where
 s_j0 : ∀ (r1 : ByteArray) (r2 : Bool) (w : World) (ro : Nat → Prop) (B : Nat) (_ : Fr TE (cx0 Tryz.f74 none w ro B)) (x0 : List ByteArray) (x1 : Int) (x14 : Bool) (_ : impl_MakeArray.j0 k x0 x1 x14 = some (r1, r2)), Kp (WS TE (cx0 Tryz.f74 none w ro B) (stkAt [1, 0, 0, 9] [] (bodyOf Tryz.f74) []) ⟨[(0, .sl 1 (rX cS x0)), (1, .v (.int .i64 x1)), (14, .v (.bool x14))], []⟩ (RetQ TE Tryz.f74 none [.ro (.v (.string r1)), .ro (.v (.bool r2))] [] w ro B))
 s_l0 : ∀ (r1 : ByteArray) (r2 : Bool) (w : World) (ro : Nat → Prop) (B : Nat) (_ : Fr TE (cx0 Tryz.f74 none w ro B)) (x0 : List ByteArray) (x1 : Int) (x15 : List ByteArray) (x16 : Int) (x17 : Int) (_ : impl_MakeArray.l0 k x0 x1 x15 x16 x17 = some (r1, r2)), Kp (WS TE (cx0 Tryz.f74 none w ro B) (stkAt [1, 1, 0, 1, 0] [] (bodyOf Tryz.f74) []) ⟨[(0, .sl 1 (rX cS x0)), (1, .v (.int .i64 x1)), (15, .sl 1 (rX cS x15)), (16, .v (.int .i64 x16)), (17, .v (.int .i64 x17))], []⟩ (RetQ TE Tryz.f74 none [.ro (.v (.string r1)), .ro (.v (.bool r2))] [] w ro B))
set_option maxRecDepth 100000 in
set_option maxHeartbeats 4000000 in
theorem impl_MakeArray.c_j0 (k : Nat) (ih : Kp (∀ m, m < k → impl_MakeArray.C m)) (r1 : ByteArray) (r2 : Bool) (w : World) (ro : Nat → Prop) (B : Nat) (hF : Fr TE (cx0 Tryz.f74 none w ro B)) (x0 : List ByteArray) (x1 : Int) (x14 : Bool) (h : impl_MakeArray.j0 k x0 x1 x14 = some (r1, r2)) : Kp (WS TE (cx0 Tryz.f74 none w ro B) (stkAt [1, 0, 0, 9] [] (bodyOf Tryz.f74) []) ⟨[(0, .sl 1 (rX cS x0)), (1, .v (.int .i64 x1)), (14, .v (.bool x14))], []⟩ (RetQ TE Tryz.f74 none [.ro (.v (.string r1)), .ro (.v (.bool r2))] [] w ro B)) := by
 refine ⟨?_⟩
 cases k with
 | zero => simp [impl_MakeArray.j0] at h
 | succ k =>
 simp only [impl_MakeArray.j0] at h
 by_cases c2 : x14 = true
 · rw [if_pos c2] at h
   refine path_ok (k := 4) hF (RetQ_mild _ _ _ _ _ _ _ _) (ds := [.b true]) (os := []) (c := none) rfl KD ?_
   cases h
   exact ret_as (ms := [.ro, .ro]) rfl KD
 · rw [if_neg c2] at h
   refine path_ok (k := 6) hF (RetQ_mild _ _ _ _ _ _ _ _) (ds := [.b false, .e 16 (.v (.int .i64 (x0.length : Int)))]) (os := []) (c := none) rfl KD ?_
   exact WS.can [] (((ih.out k (by omega)).s_l0  r1 r2 w ro B hF x0 x1 x0 (x0.length : Int) 0 h).out) KD
set_option maxRecDepth 100000 in
set_option maxHeartbeats 4000000 in
theorem impl_MakeArray.c_l0 (k : Nat) (ih : Kp (∀ m, m < k → impl_MakeArray.C m)) (r1 : ByteArray) (r2 : Bool) (w : World) (ro : Nat → Prop) (B : Nat) (hF : Fr TE (cx0 Tryz.f74 none w ro B)) (x0 : List ByteArray) (x1 : Int) (x15 : List ByteArray) (x16 : Int) (x17 : Int) (h : impl_MakeArray.l0 k x0 x1 x15 x16 x17 = some (r1, r2)) : Kp (WS TE (cx0 Tryz.f74 none w ro B) (stkAt [1, 1, 0, 1, 0] [] (bodyOf Tryz.f74) []) ⟨[(0, .sl 1 (rX cS x0)), (1, .v (.int .i64 x1)), (15, .sl 1 (rX cS x15)), (16, .v (.int .i64 x16)), (17, .v (.int .i64 x17))], []⟩ (RetQ TE Tryz.f74 none [.ro (.v (.string r1)), .ro (.v (.bool r2))] [] w ro B)) := by
 refine ⟨WS.loop (fun m σ => m ≤ k ∧ impl_MakeArray.I0 r1 r2 m σ) k ⟨Nat.le_refl k, x0, x1, x15, x16, x17, h, rfl⟩ (fun m σ' hI J0 hJ0 => ?_)⟩
 clear h
 obtain ⟨hk, x0, x1, x15, x16, x17, h, rfl⟩ := hI
 cases m with
 | zero => simp [impl_MakeArray.l0] at h
 | succ k' =>
 simp only [impl_MakeArray.l0] at h
 by_cases c3 : x17 < x16
 · rw [if_pos c3] at h
   by_cases c4 : 0 ≤ x17
   · rw [if_pos c4] at h
     by_cases c5 : x17 < (x15.length : Int)
     · rw [if_pos c5] at h
       obtain ⟨t638, q6, h⟩ := Option.bind_eq_some_iff.1 h
       have q6c := impl_ArrayValid.ctr k' _ _ _ q6
       by_cases c7 : t638 = true
       · rw [if_pos c7] at h
         refine path_ok (k := 15) hF (RetQ_mild _ _ _ _ _ _ _ _) (ds := [.b true, .e 19 (.rf [.v (.string (rdOf ByteArray.empty x15 x17))]), .r [.ro (.v (.bool t638))] [], .b false]) (os := []) (c := none) rfl KD ?_
         exact WS.lpc [] (hJ0 _ _ (Nat.lt_succ_self _) ⟨by omega, x0, x1, x15, x16, (wrap64 (x17 + 1)), h, rfl⟩) KD
       · rw [if_neg c7] at h
         refine path_ok (k := 15) hF (RetQ_mild _ _ _ _ _ _ _ _) (ds := [.b true, .e 19 (.rf [.v (.string (rdOf ByteArray.empty x15 x17))]), .r [.ro (.v (.bool t638))] [], .b true]) (os := []) (c := none) rfl KD ?_
         cases h
         exact ret_as (ms := [.ro, .ro]) rfl KD
     · rw [if_neg c5] at h
       cases h
   · rw [if_neg c4] at h
     cases h
 · rw [if_neg c3] at h
   obtain ⟨t639, q8, h⟩ := Option.bind_eq_some_iff.1 h
   have q8c := strings_Join.ctr _ _ _ q8
   by_cases c9 : 1 + t639.size ≤ 9223372036854775807
   · rw [if_pos c9] at h
     by_cases c10 : 1 + t639.size + 1 ≤ 9223372036854775807
     · rw [if_pos c10] at h
       by_cases c11 : (1 + (t639.size : Int) + 1) > 400
       · rw [if_pos c11] at h
         refine path_ok (k := 14) hF (RetQ_mild _ _ _ _ _ _ _ _) (ds := [.b false, .r [.ro (.v (.string t639))] [], .b true]) (os := []) (c := none) rfl KD ?_
         cases h
         exact ret_as (ms := [.ro, .ro]) rfl KD
       · rw [if_neg c11] at h
         refine path_ok (k := 15) hF (RetQ_mild _ _ _ _ _ _ _ _) (ds := [.b false, .r [.ro (.v (.string t639))] [], .b false]) (os := []) (c := none) rfl KD ?_
         cases h
         exact ret_as (ms := [.ro, .ro]) rfl KD
     · rw [if_neg c10] at h
       cases h
   · rw [if_neg c9] at h
     cases h
theorem impl_MakeArray.cs (k : Nat) : impl_MakeArray.C k := by
 induction k using Nat.strongRecOn with
 | _ k ih0 =>
 have ih : Kp (∀ m, m < k → impl_MakeArray.C m) := ⟨ih0⟩
 exact ⟨impl_MakeArray.c_j0 k ih, impl_MakeArray.c_l0 k ih⟩
set_option maxRecDepth 100000 in
set_option maxHeartbeats 4000000 in
theorem impl_MakeArray.ctr (k : Nat) (l0 : List ByteArray) (a1 : Int) (r1 : ByteArray) (r2 : Bool) (h : impl_MakeArray.f k l0 a1 = some (r1, r2)) : Ctr TE 74 none [.sl 1 (rX cS l0), .v (.int .i64 a1)] [.ro (.v (.string r1)), .ro (.v (.bool r2))] [] := by
 refine ctr_of (fn := Tryz.f74) (c := (bodyOf Tryz.f74)) Tryz.func74 rfl (by kernel_rfl) (Nat.le_of_ble_eq_true (by kernel_rfl)) (fun w ro B hF _ => ?_)
 have ih : Kp (∀ m, m < k + 1 → impl_MakeArray.C m) := ⟨fun m _ => impl_MakeArray.cs m⟩
 simp only [impl_MakeArray.f] at h
 by_cases c1 : a1 < 1
 · rw [if_pos c1] at h
   refine path_ok (k := 5) hF (RetQ_mild _ _ _ _ _ _ _ _) (ds := [.b true, .b true, .b true]) (os := []) (c := none) rfl KD ?_
   exact WS.can [] (((ih.out k (by omega)).s_j0  r1 r2 w ro B hF l0 a1 true h).out) KD
 · rw [if_neg c1] at h
   refine path_ok (k := 5) hF (RetQ_mild _ _ _ _ _ _ _ _) (ds := [.b false, .b false, .b false]) (os := []) (c := none) rfl KD ?_
   exact WS.can [] (((ih.out k (by omega)).s_j0  r1 r2 w ro B hF l0 a1 (decide (a1 > 3)) h).out) KD
def impl_TurnArray.f (k : Nat) (a0 : ByteArray) (a1 : Int) : Option (ByteArray × Bool) := (impl_PartsOf.f k a0 a1).bind fun bt640 => (if bt640.2 = true then ((impl_MakeArray.f k bt640.1.reverse a1).bind fun bt644 => (some (bt644.1, bt644.2))) else (some ((⟨#[]⟩ : ByteArray), false)))
set_option maxRecDepth 100000 in
set_option maxHeartbeats 4000000 in
theorem impl_TurnArray.ctr (k : Nat) (a0 : ByteArray) (a1 : Int) (r1 : ByteArray) (r2 : Bool) (h : impl_TurnArray.f k a0 a1 = some (r1, r2)) : Ctr TE 26 none [.v (.string a0), .v (.int .i64 a1)] [.ro (.v (.string r1)), .ro (.v (.bool r2))] [] := by
 refine ctr_of (fn := Tryz.f26) (c := (bodyOf Tryz.f26)) Tryz.func26 rfl (by kernel_rfl) (Nat.le_of_ble_eq_true (by kernel_rfl)) (fun w ro B hF _ => ?_)
 simp only [impl_TurnArray.f] at h
 obtain ⟨⟨t640, t641⟩, q1, h⟩ := Option.bind_eq_some_iff.1 h
 dsimp only at h
 have q1c := impl_PartsOf.ctr k _ _ _ _ q1
 by_cases c2 : t641 = true
 · rw [if_pos c2] at h
   have q3 := slices_Reverse_str.ctrR t640
   obtain ⟨⟨t644, t645⟩, q4, h⟩ := Option.bind_eq_some_iff.1 h
   dsimp only at h
   have q4c := impl_MakeArray.ctr k _ _ _ _ q4
   refine path_ok (k := 14) hF (RetQ_mild _ _ _ _ _ _ _ _) (ds := [.r [.own 9 1 (rX cS t640), .ro (.v (.bool t641))] [], .b false, .m (rX cS t640.reverse), .r [.ro (.v (.string t644)), .ro (.v (.bool t645))] []]) (os := []) (c := none) rfl KD ?_
   cases h
   exact ret_as (ms := [.ro, .ro]) rfl KD
 · rw [if_neg c2] at h
   refine path_ok (k := 11) hF (RetQ_mild _ _ _ _ _ _ _ _) (ds := [.r [.own 9 1 (rX cS t640), .ro (.v (.bool t641))] [], .b true]) (os := []) (c := none) rfl KD ?_
   cases h
   exact ret_as (ms := [.ro, .ro]) rfl KD
mutual
def impl_FlattenOnce.j0 : Nat → Int → Bool → Int → List (S68) → Option (ByteArray × Bool)
  | 0, _, _, _, _ => none
  | k + 1, x1, x22, x652000, x652001 => if x22 = true then (some ((⟨#[]⟩ : ByteArray), false)) else (impl_FlattenOnce.l0 k x1 x652001 (x652001.length : Int) 0 0 ([] : List (S68)))
def impl_FlattenOnce.l0 : Nat → Int → List (S68) → Int → Int → Int → List (S68) → Option (ByteArray × Bool)
  | 0, _, _, _, _, _, _ => none
  | k + 1, x1, x24, x25, x26, x653000, x653001 => if x26 < x25 then (if 0 ≤ x26 then (if x26 < (x24.length : Int) then (if x653001.length + ((rd_T68 x24 x26).f1).length < 4398046511104 then (impl_FlattenOnce.l0 k x1 x24 x25 (wrap64 (x26 + 1)) x653000 (x653001 ++ ((rd_T68 x24 x26).f1))) else (none)) else (none)) else (none)) else ((impl_arr_short.f k x653000 x653001 (wrap64 (x1 - 1))).bind fun bt658 => (some (bt658.1, bt658.2)))
end
def impl_FlattenOnce.f (k : Nat) (a0 : ByteArray) (a1 : Int) : Option (ByteArray × Bool) := (impl_arrOf.f k a0 a1).bind fun bt646 => (if bt646.2.2 = true then (impl_FlattenOnce.j0 k a1 (decide (a1 < 2)) bt646.1 bt646.2.1) else (impl_FlattenOnce.j0 k a1 true bt646.1 bt646.2.1))
def impl_FlattenOnce.I0 (r1 : ByteArray) (r2 : Bool) (m : Nat) (σ : St) : Prop := ∃ (x1 : Int) (x24 : List (S68)) (x25 : Int) (x26 : Int) (x653000 : Int) (x653001 : List (S68)), impl_FlattenOnce.l0 m x1 x24 x25 x26 x653000 x653001 = some (r1, r2) ∧ σ = ⟨[(1, .v (.int .i64 x1)), (8, .pt 1008 0 0), (24, .sl 2 (r68 x24)), (25, .v (.int .i64 x25)), (26, .v (.int .i64 x26))], [(3513, .own 0 68 2 (r68 x653001)), (1008, .box 0 68 false [.v (.int .i64 x653000), .ow 3513 0])]⟩
structure impl_FlattenOnce.C (k : Nat) : Prop where
 s_j0 : ∀ (r1 : ByteArray) (r2 : Bool) (w : World) (ro : Nat → Prop) (B : Nat) (_ : Fr TE (cx0 Tryz.f27 none w ro B)) (x1 : Int) (x22 : Bool) (x652000 : Int) (x652001 : List (S68)) (_ : impl_FlattenOnce.j0 k x1 x22 x652000 x652001 = some (r1, r2)), Kp (WS TE (cx0 Tryz.f27 none w ro B) (stkAt [1, 1, 0, 0, 9] [] (bodyOf Tryz.f27) []) ⟨[(1, .v (.int .i64 x1)), (6, .pt 1006 0 0), (22, .v (.bool x22))], [(1006, .box 0 68 false [.v (.int .i64 x652000), .sl 2 (r68 x652001)])]⟩ (RetQ TE Tryz.f27 none [.ro (.v (.string r1)), .ro (.v (.bool r2))] [] w ro B))
 s_l0 : ∀ (r1 : ByteArray) (r2 : Bool) (w : World) (ro : Nat → Prop) (B : Nat) (_ : Fr TE (cx0 Tryz.f27 none w ro B)) (x1 : Int) (x24 : List (S68)) (x25 : Int) (x26 : Int) (x653000 : Int) (x653001 : List (S68)) (_ : impl_FlattenOnce.l0 k x1 x24 x25 x26 x653000 x653001 = some (r1, r2)), Kp (WS TE (cx0 Tryz.f27 none w ro B) (stkAt [1, 1, 1, 1, 0, 1, 0] [] (bodyOf Tryz.f27) []) ⟨[(1, .v (.int .i64 x1)), (8, .pt 1008 0 0), (24, .sl 2 (r68 x24)), (25, .v (.int .i64 x25)), (26, .v (.int .i64 x26))], [(3513, .own 0 68 2 (r68 x653001)), (1008, .box 0 68 false [.v (.int .i64 x653000), .ow 3513 0])]⟩ (RetQ TE Tryz.f27 none [.ro (.v (.string r1)), .ro (.v (.bool r2))] [] w ro B))
set_option maxRecDepth 100000 in
set_option maxHeartbeats 4000000 in
theorem impl_FlattenOnce.c_j0 (k : Nat) (ih : Kp (∀ m, m < k → impl_FlattenOnce.C m)) (r1 : ByteArray) (r2 : Bool) (w : World) (ro : Nat → Prop) (B : Nat) (hF : Fr TE (cx0 Tryz.f27 none w ro B)) (x1 : Int) (x22 : Bool) (x652000 : Int) (x652001 : List (S68)) (h : impl_FlattenOnce.j0 k x1 x22 x652000 x652001 = some (r1, r2)) : Kp (WS TE (cx0 Tryz.f27 none w ro B) (stkAt [1, 1, 0, 0, 9] [] (bodyOf Tryz.f27) []) ⟨[(1, .v (.int .i64 x1)), (6, .pt 1006 0 0), (22, .v (.bool x22))], [(1006, .box 0 68 false [.v (.int .i64 x652000), .sl 2 (r68 x652001)])]⟩ (RetQ TE Tryz.f27 none [.ro (.v (.string r1)), .ro (.v (.bool r2))] [] w ro B)) := by
 refine ⟨?_⟩
 cases k with
 | zero => simp [impl_FlattenOnce.j0] at h
 | succ k =>
 simp only [impl_FlattenOnce.j0] at h
 by_cases c3 : x22 = true
 · rw [if_pos c3] at h
   refine path_ok (k := 4) hF (RetQ_mild _ _ _ _ _ _ _ _) (ds := [.b true]) (os := []) (c := none) rfl KD ?_
   cases h
   exact ret_as (ms := [.ro, .ro]) rfl KD
 · rw [if_neg c3] at h
   refine path_ok (k := 8) hF (RetQ_mild _ _ _ _ _ _ _ _) (ds := [.b false, .e 25 (.v (.int .i64 (x652001.length : Int)))]) (os := []) (c := none) rfl KD ?_
   exact WS.can [(1008, some 8), (3513, none)] (((ih.out k (by omega)).s_l0  r1 r2 w ro B hF x1 x652001 (x652001.length : Int) 0 0 ([] : List (S68)) h).out) KD
set_option maxRecDepth 100000 in
set_option maxHeartbeats 4000000 in
theorem impl_FlattenOnce.c_l0 (k : Nat) (ih : Kp (∀ m, m < k → impl_FlattenOnce.C m)) (r1 : ByteArray) (r2 : Bool) (w : World) (ro : Nat → Prop) (B : Nat) (hF : Fr TE (cx0 Tryz.f27 none w ro B)) (x1 : Int) (x24 : List (S68)) (x25 : Int) (x26 : Int) (x653000 : Int) (x653001 : List (S68)) (h : impl_FlattenOnce.l0 k x1 x24 x25 x26 x653000 x653001 = some (r1, r2)) : Kp (WS TE (cx0 Tryz.f27 none w ro B) (stkAt [1, 1, 1, 1, 0, 1, 0] [] (bodyOf Tryz.f27) []) ⟨[(1, .v (.int .i64 x1)), (8, .pt 1008 0 0), (24, .sl 2 (r68 x24)), (25, .v (.int .i64 x25)), (26, .v (.int .i64 x26))], [(3513, .own 0 68 2 (r68 x653001)), (1008, .box 0 68 false [.v (.int .i64 x653000), .ow 3513 0])]⟩ (RetQ TE Tryz.f27 none [.ro (.v (.string r1)), .ro (.v (.bool r2))] [] w ro B)) := by
 refine ⟨WS.loop (fun m σ => m ≤ k ∧ impl_FlattenOnce.I0 r1 r2 m σ) k ⟨Nat.le_refl k, x1, x24, x25, x26, x653000, x653001, h, rfl⟩ (fun m σ' hI J0 hJ0 => ?_)⟩
 clear h
 obtain ⟨hk, x1, x24, x25, x26, x653000, x653001, h, rfl⟩ := hI
 cases m with
 | zero => simp [impl_FlattenOnce.l0] at h
 | succ k' =>
 simp only [impl_FlattenOnce.l0] at h
 by_cases c4 : x26 < x25
 · rw [if_pos c4] at h
   by_cases c5 : 0 ≤ x26
   · rw [if_pos c5] at h
     by_cases c6 : x26 < (x24.length : Int)
     · rw [if_pos c6] at h
       by_cases c7 : x653001.length + ((rd_T68 x24 x26).f1).length < 4398046511104
       · rw [if_pos c7] at h
         refine path_ok (k := 12) hF (RetQ_mild _ _ _ _ _ _ _ _) (ds := [.b true, .e 28 (.rf [.v (.int .i64 ((rd_T68 x24 x26).f0)), .sl 2 (r68 ((rd_T68 x24 x26).f1))]), .o 34 (r68 (x653001 ++ ((rd_T68 x24 x26).f1)))]) (os := []) (c := none) rfl KD ?_
         exact WS.lpc [(1008, some 1008), (3513, some 3513)] (hJ0 _ _ (Nat.lt_succ_self _) ⟨by omega, x1, x24, x25, (wrap64 (x26 + 1)), x653000, (x653001 ++ ((rd_T68 x24 x26).f1)), h, rfl⟩) KD
       · rw [if_neg c7] at h
         cases h
     · rw [if_neg c6] at h
       cases h
   · rw [if_neg c5] at h
     cases h
 · rw [if_neg c4] at h
   obtain ⟨⟨t658, t659⟩, q8, h⟩ := Option.bind_eq_some_iff.1 h
   dsimp only at h
   have q8c := impl_arr_short.ctr k' _ _ _ _ _ q8
   refine path_ok (k := 8) hF (RetQ_mild _ _ _ _ _ _ _ _) (ds := [.b false, .r [.ro (.v (.string t658)), .ro (.v (.bool t659))] []]) (os := []) (c := none) rfl KD ?_
   cases h
   exact ret_as (ms := [.ro, .ro]) rfl KD
theorem impl_FlattenOnce.cs (k : Nat) : impl_FlattenOnce.C k := by
 induction k using Nat.strongRecOn with
 | _ k ih0 =>
 have ih : Kp (∀ m, m < k → impl_FlattenOnce.C m) := ⟨ih0⟩
 exact ⟨impl_FlattenOnce.c_j0 k ih, impl_FlattenOnce.c_l0 k ih⟩
set_option maxRecDepth 100000 in
set_option maxHeartbeats 4000000 in
theorem impl_FlattenOnce.ctr (k : Nat) (a0 : ByteArray) (a1 : Int) (r1 : ByteArray) (r2 : Bool) (h : impl_FlattenOnce.f k a0 a1 = some (r1, r2)) : Ctr TE 27 none [.v (.string a0), .v (.int .i64 a1)] [.ro (.v (.string r1)), .ro (.v (.bool r2))] [] := by
 refine ctr_of (fn := Tryz.f27) (c := (bodyOf Tryz.f27)) Tryz.func27 rfl (by kernel_rfl) (Nat.le_of_ble_eq_true (by kernel_rfl)) (fun w ro B hF _ => ?_)
 have ih : Kp (∀ m, m < k + 1 → impl_FlattenOnce.C m) := ⟨fun m _ => impl_FlattenOnce.cs m⟩
 simp only [impl_FlattenOnce.f] at h
 obtain ⟨⟨t646, t647, t650⟩, q1, h⟩ := Option.bind_eq_some_iff.1 h
 dsimp only at h
 have q1c := impl_arrOf.ctr k _ _ _ _ _ q1
 by_cases c2 : t650 = true
 · rw [if_pos c2] at h
   refine path_ok (k := 7) hF (RetQ_mild _ _ _ _ _ _ _ _) (ds := [.r [.ro (.ag [.v (.int .i64 t646), .sl 2 (r68 t647)]), .ro (.v (.bool t650))] [], .b false, .b false, .b false]) (os := []) (c := none) rfl KD ?_
   exact WS.can [(1006, some 6)] (((ih.out k (by omega)).s_j0  r1 r2 w ro B hF a1 (decide (a1 < 2)) t646 t647 h).out) KD
 · rw [if_neg c2] at h
   refine path_ok (k := 7) hF (RetQ_mild _ _ _ _ _ _ _ _) (ds := [.r [.ro (.ag [.v (.int .i64 t646), .sl 2 (r68 t647)]), .ro (.v (.bool t650))] [], .b true, .b true, .b true]) (os := []) (c := none) rfl KD ?_
   exact WS.can [(1006, some 6)] (((ih.out k (by omega)).s_j0  r1 r2 w ro B hF a1 true t646 t647 h).out) KD
def impl_LengthOf.f (k : Nat) (a0 : ByteArray) (a1 : Int) : Option (Int) := (impl_PartsOf.f k a0 a1).bind fun bt660 => (if bt660.2 = true then (some (bt660.1.length : Int)) else (some (-1)))
set_option maxRecDepth 100000 in
set_option maxHeartbeats 4000000 in
theorem impl_LengthOf.ctr (k : Nat) (a0 : ByteArray) (a1 : Int) (r : Int) (h : impl_LengthOf.f k a0 a1 = some r) : Ctr TE 28 none [.v (.string a0), .v (.int .i64 a1)] [.ro (.v (.int .i64 r))] [] := by
 refine ctr_of (fn := Tryz.f28) (c := (bodyOf Tryz.f28)) Tryz.func28 rfl (by kernel_rfl) (Nat.le_of_ble_eq_true (by kernel_rfl)) (fun w ro B hF _ => ?_)
 simp only [impl_LengthOf.f] at h
 obtain ⟨⟨t660, t661⟩, q1, h⟩ := Option.bind_eq_some_iff.1 h
 dsimp only at h
 have q1c := impl_PartsOf.ctr k _ _ _ _ q1
 by_cases c2 : t661 = true
 · rw [if_pos c2] at h
   refine path_ok (k := 12) hF (RetQ_mild _ _ _ _ _ _ _ _) (ds := [.r [.own 9 1 (rX cS t660), .ro (.v (.bool t661))] [], .b false, .e 16 (.v (.int .i64 (t660.length : Int)))]) (os := []) (c := none) rfl KD ?_
   cases h
   exact ret_as (ms := [.ro]) rfl KD
 · rw [if_neg c2] at h
   refine path_ok (k := 11) hF (RetQ_mild _ _ _ _ _ _ _ _) (ds := [.r [.own 9 1 (rX cS t660), .ro (.v (.bool t661))] [], .b true]) (os := []) (c := none) rfl KD ?_
   cases h
   exact ret_as (ms := [.ro]) rfl KD
def laws_FnApplySign.j0 : Nat → ByteArray → List ByteArray → Int → ByteArray → Bool → ByteArray → Bool → Bool → Option (Bool)
  | 0, _, _, _, _, _, _, _, _ => none
  | k + 1, x3, x4, x5, x6, x7, x8, x9, x65 => if x65 = true then (if x6.toList = x8.toList then (if (x7 == x9) = true then (some (x6.toList == ([] : List UInt8))) else (some false)) else (some false)) else (if 0 < (x4.length : Int) then ((impl_NumbersOf.f k (rdOf ByteArray.empty x4 0) x5).bind fun bt674 => ((some (([(bt674.1.length : Int)] : List Int) : List Int)).bind fun y678 => (if x3.toList = ([83] : List UInt8) then ((impl_SumSegments.f k y678 bt674.1).bind fun bt681 => ((impl_NumbersOf.f k x6 0).bind fun bt685 => ((laws_faSame.f k bt681.1 bt685.1).bind fun t689 => (some t689)))) else (if x3.toList = ([77] : List UInt8) then ((impl_MostSegments.f k y678 bt674.1).bind fun bt690 => ((impl_NumbersOf.f k x6 0).bind fun bt694 => ((laws_faSame.f k bt690.1 bt694.1).bind fun t698 => (some t698)))) else (if x3.toList = ([80] : List UInt8) then ((impl_ScanSegments.f k y678 bt674.1).bind fun bt699 => ((impl_NumbersOf.f k x6 1).bind fun bt703 => ((laws_faSame.f k bt699.1 bt703.1).bind fun t707 => (some t707)))) else (if x3.toList = ([82] : List UInt8) then ((impl_TurnArray.f k (rdOf ByteArray.empty x4 0) x5).bind fun bt709 => (some (bt709.1.toList == x6.toList))) else (if x3.toList = ([67] : List UInt8) then ((impl_FlattenOnce.f k (rdOf ByteArray.empty x4 0) x5).bind fun bt712 => (some (bt712.1.toList == x6.toList))) else (if x3.toList = ([78] : List UInt8) then ((impl_NumbersOf.f k x6 0).bind fun bt714 => (if 0 < (bt714.1.length : Int) then ((impl_LengthOf.f k (rdOf ByteArray.empty x4 0) x5).bind fun t720 => (some ((rd bt714.1 0) == t720))) else (none))) else (some true))))))))) else (none))
def laws_FnApplySign.f (k : Nat) (l0 : List Int) : Option (Bool) := if (l0.length : Int) > 1048576 then (some true) else ((spec_DrawApplySign.f k l0).bind fun bt664 => ((impl_ApplySign.f k bt664.1 bt664.2.1 bt664.2.2).bind fun bt669 => ((spec_ApplySign.f k bt664.1 bt664.2.1 bt664.2.2).bind fun bt671 => (if bt669.1.toList = bt671.1.toList then (if (bt669.2 != bt671.2) = true then (laws_FnApplySign.j0 k bt664.1 bt664.2.1 bt664.2.2 bt669.1 bt669.2 bt671.1 bt671.2 true) else (laws_FnApplySign.j0 k bt664.1 bt664.2.1 bt664.2.2 bt669.1 bt669.2 bt671.1 bt671.2 (!bt669.2))) else (laws_FnApplySign.j0 k bt664.1 bt664.2.1 bt664.2.2 bt669.1 bt669.2 bt671.1 bt671.2 true)))))
structure laws_FnApplySign.C (k : Nat) : Prop where
 s_j0 : ∀ (r : Bool) (w : World) (ro : Nat → Prop) (B : Nat) (_ : Fr TE (cx0 Tryz.f4 none w ro B)) (x3 : ByteArray) (x4 : List ByteArray) (x5 : Int) (x6 : ByteArray) (x7 : Bool) (x8 : ByteArray) (x9 : Bool) (x65 : Bool) (_ : laws_FnApplySign.j0 k x3 x4 x5 x6 x7 x8 x9 x65 = some r), Kp (WS TE (cx0 Tryz.f4 none w ro B) (stkAt [1, 1, 1, 1, 1, 0, 0, 9] [] (bodyOf Tryz.f4) []) ⟨[(3, .v (.string x3)), (4, .sl 1 (rX cS x4)), (5, .v (.int .i64 x5)), (6, .v (.string x6)), (7, .v (.bool x7)), (8, .v (.string x8)), (9, .v (.bool x9)), (65, .v (.bool x65))], []⟩ (RetQ TE Tryz.f4 none [.ro (.v (.bool r))] [] w ro B))
set_option maxRecDepth 100000 in
set_option maxHeartbeats 4000000 in
theorem laws_FnApplySign.c_j0 (k : Nat) (ih : Kp (∀ m, m < k → laws_FnApplySign.C m)) (r : Bool) (w : World) (ro : Nat → Prop) (B : Nat) (hF : Fr TE (cx0 Tryz.f4 none w ro B)) (x3 : ByteArray) (x4 : List ByteArray) (x5 : Int) (x6 : ByteArray) (x7 : Bool) (x8 : ByteArray) (x9 : Bool) (x65 : Bool) (h : laws_FnApplySign.j0 k x3 x4 x5 x6 x7 x8 x9 x65 = some r) : Kp (WS TE (cx0 Tryz.f4 none w ro B) (stkAt [1, 1, 1, 1, 1, 0, 0, 9] [] (bodyOf Tryz.f4) []) ⟨[(3, .v (.string x3)), (4, .sl 1 (rX cS x4)), (5, .v (.int .i64 x5)), (6, .v (.string x6)), (7, .v (.bool x7)), (8, .v (.string x8)), (9, .v (.bool x9)), (65, .v (.bool x65))], []⟩ (RetQ TE Tryz.f4 none [.ro (.v (.bool r))] [] w ro B)) := by
 refine ⟨?_⟩
 cases k with
 | zero => simp [laws_FnApplySign.j0] at h
 | succ k =>
 simp only [laws_FnApplySign.j0] at h
 by_cases c7 : x65 = true
 · rw [if_pos c7] at h
   by_cases c8 : x6.toList = x8.toList
   · rw [if_pos c8] at h
     by_cases c9 : (x7 == x9) = true
     · rw [if_pos c9] at h
       refine path_ok (k := 4) hF (RetQ_mild _ _ _ _ _ _ _ _) (ds := [.b true, .b true, .b true, .b true, .b true, .b true, .b true, .b true]) (os := []) (c := none) rfl KD ?_
       cases h
       exact ret_as (ms := [.ro]) rfl KD
     · rw [if_neg c9] at h
       refine path_ok (k := 4) hF (RetQ_mild _ _ _ _ _ _ _ _) (ds := [.b true, .b true, .b true, .b true, .b true, .b false, .b false, .b false]) (os := []) (c := none) rfl KD ?_
       cases h
       exact ret_as (ms := [.ro]) rfl KD
   · rw [if_neg c8] at h
     refine path_ok (k := 4) hF (RetQ_mild _ _ _ _ _ _ _ _) (ds := [.b true, .b false, .b false, .b false, .b false, .b false, .b false, .b false]) (os := []) (c := none) rfl KD ?_
     cases h
     exact ret_as (ms := [.ro]) rfl KD
 · rw [if_neg c7] at h
   by_cases c10 : 0 < (x4.length : Int)
   · rw [if_pos c10] at h
     obtain ⟨⟨t674, t675⟩, q11, h⟩ := Option.bind_eq_some_iff.1 h
     dsimp only at h
     have q11c := impl_NumbersOf.ctr k _ _ _ _ q11
     obtain ⟨y678, hy678, h⟩ := Option.bind_eq_some_iff.1 h
     cases hy678
     by_cases c12 : x3.toList = ([83] : List UInt8)
     · rw [if_pos c12] at h
       obtain ⟨⟨t681, t682⟩, q13, h⟩ := Option.bind_eq_some_iff.1 h
       dsimp only at h
       have q13c := impl_SumSegments.ctr k _ _ _ _ q13
       obtain ⟨⟨t685, t686⟩, q14, h⟩ := Option.bind_eq_some_iff.1 h
       dsimp only at h
       have q14c := impl_NumbersOf.ctr k _ _ _ _ q14
       obtain ⟨t689, q15, h⟩ := Option.bind_eq_some_iff.1 h
       have q15c := laws_faSame.ctr k _ _ _ q15
       refine path_ok (k := 20) hF (RetQ_mild _ _ _ _ _ _ _ _) (ds := [.b false, .e 80 (.rf [.v (.string (rdOf ByteArray.empty x4 0))]), .r [.ro (.sl 1 (rX (cI .i64) t674)), .ro (.v (.bool t675))] [], .e 87 (.v (.int .i64 (t674.length : Int))), .p 88 ([[.v (.int .i64 (t674.length : Int))]]), .b true, .r [.own 3 1 (rX (cI .i64) t681), .ro (.v (.bool t682))] [], .r [.ro (.sl 1 (rX (cI .i64) t685)), .ro (.v (.bool t686))] [], .r [.ro (.v (.bool t689))] []]) (os := []) (c := none) rfl KD ?_
       cases h
       exact ret_as (ms := [.ro]) rfl KD
     · rw [if_neg c12] at h
       by_cases c16 : x3.toList = ([77] : List UInt8)
       · rw [if_pos c16] at h
         obtain ⟨⟨t690, t691⟩, q17, h⟩ := Option.bind_eq_some_iff.1 h
         dsimp only at h
         have q17c := impl_MostSegments.ctr k _ _ _ _ q17
         obtain ⟨⟨t694, t695⟩, q18, h⟩ := Option.bind_eq_some_iff.1 h
         dsimp only at h
         have q18c := impl_NumbersOf.ctr k _ _ _ _ q18
         obtain ⟨t698, q19, h⟩ := Option.bind_eq_some_iff.1 h
         have q19c := laws_faSame.ctr k _ _ _ q19
         refine path_ok (k := 23) hF (RetQ_mild _ _ _ _ _ _ _ _) (ds := [.b false, .e 80 (.rf [.v (.string (rdOf ByteArray.empty x4 0))]), .r [.ro (.sl 1 (rX (cI .i64) t674)), .ro (.v (.bool t675))] [], .e 87 (.v (.int .i64 (t674.length : Int))), .p 88 ([[.v (.int .i64 (t674.length : Int))]]), .b false, .b true, .r [.own 3 1 (rX (cI .i64) t690), .ro (.v (.bool t691))] [], .r [.ro (.sl 1 (rX (cI .i64) t694)), .ro (.v (.bool t695))] [], .r [.ro (.v (.bool t698))] []]) (os := []) (c := none) rfl KD ?_
         cases h
         exact ret_as (ms := [.ro]) rfl KD
       · rw [if_neg c16] at h
         by_cases c20 : x3.toList = ([80] : List UInt8)
         · rw [if_pos c20] at h
           obtain ⟨⟨t699, t700⟩, q21, h⟩ := Option.bind_eq_some_iff.1 h
           dsimp only at h
           have q21c := impl_ScanSegments.ctr k _ _ _ _ q21
           obtain ⟨⟨t703, t704⟩, q22, h⟩ := Option.bind_eq_some_iff.1 h
           dsimp only at h
           have q22c := impl_NumbersOf.ctr k _ _ _ _ q22
           obtain ⟨t707, q23, h⟩ := Option.bind_eq_some_iff.1 h
           have q23c := laws_faSame.ctr k _ _ _ q23
           refine path_ok (k := 26) hF (RetQ_mild _ _ _ _ _ _ _ _) (ds := [.b false, .e 80 (.rf [.v (.string (rdOf ByteArray.empty x4 0))]), .r [.ro (.sl 1 (rX (cI .i64) t674)), .ro (.v (.bool t675))] [], .e 87 (.v (.int .i64 (t674.length : Int))), .p 88 ([[.v (.int .i64 (t674.length : Int))]]), .b false, .b false, .b true, .r [.own 3 1 (rX (cI .i64) t699), .ro (.v (.bool t700))] [], .r [.ro (.sl 1 (rX (cI .i64) t703)), .ro (.v (.bool t704))] [], .r [.ro (.v (.bool t707))] []]) (os := []) (c := none) rfl KD ?_
           cases h
           exact ret_as (ms := [.ro]) rfl KD
         · rw [if_neg c20] at h
           by_cases c24 : x3.toList = ([82] : List UInt8)
           · rw [if_pos c24] at h
             obtain ⟨⟨t709, t710⟩, q25, h⟩ := Option.bind_eq_some_iff.1 h
             dsimp only at h
             have q25c := impl_TurnArray.ctr k _ _ _ _ q25
             refine path_ok (k := 27) hF (RetQ_mild _ _ _ _ _ _ _ _) (ds := [.b false, .e 80 (.rf [.v (.string (rdOf ByteArray.empty x4 0))]), .r [.ro (.sl 1 (rX (cI .i64) t674)), .ro (.v (.bool t675))] [], .e 87 (.v (.int .i64 (t674.length : Int))), .p 88 ([[.v (.int .i64 (t674.length : Int))]]), .b false, .b false, .b false, .b true, .e 142 (.rf [.v (.string (rdOf ByteArray.empty x4 0))]), .r [.ro (.v (.string t709)), .ro (.v (.bool t710))] []]) (os := []) (c := none) rfl KD ?_
             cases h
             exact ret_as (ms := [.ro]) rfl KD
           · rw [if_neg c24] at h
             by_cases c26 : x3.toList = ([67] : List UInt8)
             · rw [if_pos c26] at h
               obtain ⟨⟨t712, t713⟩, q27, h⟩ := Option.bind_eq_some_iff.1 h
               dsimp only at h
               have q27c := impl_FlattenOnce.ctr k _ _ _ _ q27
               refine path_ok (k := 30) hF (RetQ_mild _ _ _ _ _ _ _ _) (ds := [.b false, .e 80 (.rf [.v (.string (rdOf ByteArray.empty x4 0))]), .r [.ro (.sl 1 (rX (cI .i64) t674)), .ro (.v (.bool t675))] [], .e 87 (.v (.int .i64 (t674.length : Int))), .p 88 ([[.v (.int .i64 (t674.length : Int))]]), .b false, .b false, .b false, .b false, .b true, .e 155 (.rf [.v (.string (rdOf ByteArray.empty x4 0))]), .r [.ro (.v (.string t712)), .ro (.v (.bool t713))] []]) (os := []) (c := none) rfl KD ?_
               cases h
               exact ret_as (ms := [.ro]) rfl KD
             · rw [if_neg c26] at h
               by_cases c28 : x3.toList = ([78] : List UInt8)
               · rw [if_pos c28] at h
                 obtain ⟨⟨t714, t715⟩, q29, h⟩ := Option.bind_eq_some_iff.1 h
                 dsimp only at h
                 have q29c := impl_NumbersOf.ctr k _ _ _ _ q29
                 by_cases c30 : 0 < (t714.length : Int)
                 · rw [if_pos c30] at h
                   obtain ⟨t720, q31, h⟩ := Option.bind_eq_some_iff.1 h
                   have q31c := impl_LengthOf.ctr k _ _ _ q31
                   refine path_ok (k := 33) hF (RetQ_mild _ _ _ _ _ _ _ _) (ds := [.b false, .e 80 (.rf [.v (.string (rdOf ByteArray.empty x4 0))]), .r [.ro (.sl 1 (rX (cI .i64) t674)), .ro (.v (.bool t675))] [], .e 87 (.v (.int .i64 (t674.length : Int))), .p 88 ([[.v (.int .i64 (t674.length : Int))]]), .b false, .b false, .b false, .b false, .b false, .b true, .r [.ro (.sl 1 (rX (cI .i64) t714)), .ro (.v (.bool t715))] [], .e 172 (.rf [.v (.int .i64 (rd t714 0))]), .e 175 (.rf [.v (.string (rdOf ByteArray.empty x4 0))]), .r [.ro (.v (.int .i64 t720))] []]) (os := [.o [(0, 0), (1, 0), (2, 1), (3, 0), (4, 0), (5, 1), (6, 0), (7, 2), (8, 0), (9, 0)] []]) (c := none) rfl KD ?_
                   cases h
                   exact ret_as (ms := [.ro]) rfl KD
                 · rw [if_neg c30] at h
                   cases h
               · rw [if_neg c28] at h
                 refine path_ok (k := 33) hF (RetQ_mild _ _ _ _ _ _ _ _) (ds := [.b false, .e 80 (.rf [.v (.string (rdOf ByteArray.empty x4 0))]), .r [.ro (.sl 1 (rX (cI .i64) t674)), .ro (.v (.bool t675))] [], .e 87 (.v (.int .i64 (t674.length : Int))), .p 88 ([[.v (.int .i64 (t674.length : Int))]]), .b false, .b false, .b false, .b false, .b false, .b false]) (os := []) (c := none) rfl KD ?_
                 cases h
                 exact ret_as (ms := [.ro]) rfl KD
   · rw [if_neg c10] at h
     cases h
theorem laws_FnApplySign.cs (k : Nat) : laws_FnApplySign.C k := by
 induction k using Nat.strongRecOn with
 | _ k ih0 =>
 have ih : Kp (∀ m, m < k → laws_FnApplySign.C m) := ⟨ih0⟩
 exact ⟨laws_FnApplySign.c_j0 k ih⟩
set_option maxRecDepth 100000 in
set_option maxHeartbeats 4000000 in
theorem laws_FnApplySign.ctr (k : Nat) (l0 : List Int) (r : Bool) (h : laws_FnApplySign.f k l0 = some r) : Ctr TE 4 none [.sl 1 (rX (cI .u8) l0)] [.ro (.v (.bool r))] [] := by
 refine ctr_of (fn := Tryz.f4) (c := (bodyOf Tryz.f4)) Tryz.func4 rfl (by kernel_rfl) (Nat.le_of_ble_eq_true (by kernel_rfl)) (fun w ro B hF _ => ?_)
 have ih : Kp (∀ m, m < k + 1 → laws_FnApplySign.C m) := ⟨fun m _ => laws_FnApplySign.cs m⟩
 simp only [laws_FnApplySign.f] at h
 by_cases c1 : (l0.length : Int) > 1048576
 · rw [if_pos c1] at h
   refine path_ok (k := 9) hF (RetQ_mild _ _ _ _ _ _ _ _) (ds := [.e 32 (.v (.int .i64 (l0.length : Int))), .b true]) (os := []) (c := none) rfl KD ?_
   cases h
   exact ret_as (ms := [.ro]) rfl KD
 · rw [if_neg c1] at h
   obtain ⟨⟨t664, t665, t666⟩, q2, h⟩ := Option.bind_eq_some_iff.1 h
   dsimp only at h
   have q2c := spec_DrawApplySign.ctr k _ _ _ _ q2
   obtain ⟨⟨t669, t670⟩, q3, h⟩ := Option.bind_eq_some_iff.1 h
   dsimp only at h
   have q3c := impl_ApplySign.ctr k _ _ _ _ _ q3
   obtain ⟨⟨t671, t672⟩, q4, h⟩ := Option.bind_eq_some_iff.1 h
   dsimp only at h
   have q4c := spec_ApplySign.ctr k _ _ _ _ _ q4
   by_cases c5 : t669.toList = t671.toList
   · rw [if_pos c5] at h
     by_cases c6 : (t670 != t672) = true
     · rw [if_pos c6] at h
       refine path_ok (k := 16) hF (RetQ_mild _ _ _ _ _ _ _ _) (ds := [.e 32 (.v (.int .i64 (l0.length : Int))), .b false, .r [.ro (.v (.string t664)), .ro (.sl 1 (rX cS t665)), .ro (.v (.int .i64 t666))] [], .r [.ro (.v (.string t669)), .ro (.v (.bool t670))] [], .r [.ro (.v (.string t671)), .ro (.v (.bool t672))] [], .b false, .b false, .b false, .b false, .b true, .b true, .b true]) (os := []) (c := none) rfl KD ?_
       exact WS.can [] (((ih.out k (by omega)).s_j0  r w ro B hF t664 t665 t666 t669 t670 t671 t672 true h).out) KD
     · rw [if_neg c6] at h
       refine path_ok (k := 16) hF (RetQ_mild _ _ _ _ _ _ _ _) (ds := [.e 32 (.v (.int .i64 (l0.length : Int))), .b false, .r [.ro (.v (.string t664)), .ro (.sl 1 (rX cS t665)), .ro (.v (.int .i64 t666))] [], .r [.ro (.v (.string t669)), .ro (.v (.bool t670))] [], .r [.ro (.v (.string t671)), .ro (.v (.bool t672))] [], .b false, .b false, .b false, .b false, .b false, .b false, .b false]) (os := []) (c := none) rfl KD ?_
       exact WS.can [] (((ih.out k (by omega)).s_j0  r w ro B hF t664 t665 t666 t669 t670 t671 t672 (!t670) h).out) KD
   · rw [if_neg c5] at h
     refine path_ok (k := 16) hF (RetQ_mild _ _ _ _ _ _ _ _) (ds := [.e 32 (.v (.int .i64 (l0.length : Int))), .b false, .r [.ro (.v (.string t664)), .ro (.sl 1 (rX cS t665)), .ro (.v (.int .i64 t666))] [], .r [.ro (.v (.string t669)), .ro (.v (.bool t670))] [], .r [.ro (.v (.string t671)), .ro (.v (.bool t672))] [], .b true, .b true, .b true, .b true, .b true, .b true, .b true]) (os := []) (c := none) rfl KD ?_
     exact WS.can [] (((ih.out k (by omega)).s_j0  r w ro B hF t664 t665 t666 t669 t670 t671 t672 true h).out) KD
def laws_FnApplySign.Pure : Prop := ∀ (l0 : List Int), l0.length ≤ maxLen → l0.length * 1 ≤ 140737488351232 → (∀ x ∈ l0, (Lit.int .u8 x).wf = true) → ∃ k, laws_FnApplySign.f k l0 = some true
end Go.Proofs.YtoloblgjlnhioaaGreatDoor.I
