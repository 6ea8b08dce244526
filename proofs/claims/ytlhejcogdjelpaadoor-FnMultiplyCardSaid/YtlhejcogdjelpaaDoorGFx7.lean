/- A part of the claim. -/
import Derived.Test.YtlhejcogdjelpaaDoorGFx0
import Derived.Test.YtlhejcogdjelpaaDoorGFx1
import Derived.Test.YtlhejcogdjelpaaDoorGFx3
-- PRINTED by print.py (a twelfth state) out of the translation. Not trusted: Lean checks it.
namespace Go.Proofs.YtlhejcogdjelpaaDoor.G
open Go.RowKit Go.Proofs.YtlhejcogdjelpaaDoorW.St Go.Proofs.YtlhejcogdjelpaaDoorW.PrintWords Go.Proofs.YtlhejcogdjelpaaDoorW.PrintLast Go.Proofs.YtlhejcogdjelpaaDoorW.PrintMore
attribute [local go_sem] max2_int min2_int max_two min_two max_three min_three max_four min_four   -- for this text's walks alone
set_option linter.unusedVariables false
set_option linter.unusedSimpArgs false
mutual
def impl_PartsOf.j0 : Nat → Int → Bool → Int → List (S55) → Option (List ByteArray × Bool)
  | 0, _, _, _, _ => none
  | k + 1, x1, x22, x609000, x609001 => if x22 = true then (some (([] : List ByteArray), false)) else (impl_PartsOf.l0 k x1 (([] : List ByteArray)) x609001 (x609001.length : Int) 0)
def impl_PartsOf.l0 : Nat → Int → List ByteArray → List (S55) → Int → Int → Option (List ByteArray × Bool)
  | 0, _, _, _, _, _ => none
  | k + 1, x1, x8, x25, x26, x27 => if x27 < x26 then (if 0 ≤ x27 then (if x27 < (x25.length : Int) then ((impl_arr_text.f k ((rd_T55 x25 x27).f0) ((rd_T55 x25 x27).f1) (wrap64 (x1 - 1))).bind fun t614 => (if x8.length < 8796093022208 then (impl_PartsOf.l0 k x1 (x8 ++ [t614]) x25 x26 (wrap64 (x27 + 1))) else (none))) else (none)) else (none)) else (some (x8, true))
end
def impl_PartsOf.f (k : Nat) (a0 : ByteArray) (a1 : Int) : Option (List ByteArray × Bool) := (impl_arrOf.f k a0 a1).bind fun bt603 => (if bt603.2.2 = true then (impl_PartsOf.j0 k a1 (a1 == 0) bt603.1 bt603.2.1) else (impl_PartsOf.j0 k a1 true bt603.1 bt603.2.1))
def impl_PartsOf.I0 (r1 : List ByteArray) (r2 : Bool) (m : Nat) (σ : St) : Prop := ∃ (x1 : Int) (x8 : List ByteArray) (x25 : List (S55)) (x26 : Int) (x27 : Int), impl_PartsOf.l0 m x1 x8 x25 x26 x27 = some (r1, r2) ∧ σ = ⟨[(1, .v (.int .i64 x1)), (8, .ow 1008 0), (25, .sl 2 (r55 x25)), (26, .v (.int .i64 x26)), (27, .v (.int .i64 x27))], [(1008, .own 0 9 1 (rX cS x8))]⟩
structure impl_PartsOf.C (k : Nat) : Prop where
 s_j0 : ∀ (r1 : List ByteArray) (r2 : Bool) (w : World) (ro : Nat → Prop) (B : Nat) (_ : Fr TE (cx0 Tryd.f27 none w ro B)) (x1 : Int) (x22 : Bool) (x609000 : Int) (x609001 : List (S55)) (_ : impl_PartsOf.j0 k x1 x22 x609000 x609001 = some (r1, r2)), Kp (WS TE (cx0 Tryd.f27 none w ro B) (stkAt [1, 1, 0, 0, 9] [] (bodyOf Tryd.f27) []) ⟨[(1, .v (.int .i64 x1)), (6, .pt 1006 0 0), (22, .v (.bool x22))], [(1006, .box 0 55 false [.v (.int .i64 x609000), .sl 2 (r55 x609001)])]⟩ (RetQ TE Tryd.f27 none [.own 9 1 (rX cS r1), .ro (.v (.bool r2))] [] w ro B))
 s_l0 : ∀ (r1 : List ByteArray) (r2 : Bool) (w : World) (ro : Nat → Prop) (B : Nat) (_ : Fr TE (cx0 Tryd.f27 none w ro B)) (x1 : Int) (x8 : List ByteArray) (x25 : List (S55)) (x26 : Int) (x27 : Int) (_ : impl_PartsOf.l0 k x1 x8 x25 x26 x27 = some (r1, r2)), Kp (WS TE (cx0 Tryd.f27 none w ro B) (stkAt [1, 1, 1, 1, 0, 1, 0] [] (bodyOf Tryd.f27) []) ⟨[(1, .v (.int .i64 x1)), (8, .ow 1008 0), (25, .sl 2 (r55 x25)), (26, .v (.int .i64 x26)), (27, .v (.int .i64 x27))], [(1008, .own 0 9 1 (rX cS x8))]⟩ (RetQ TE Tryd.f27 none [.own 9 1 (rX cS r1), .ro (.v (.bool r2))] [] w ro B))
set_option maxRecDepth 100000 in
set_option maxHeartbeats 4000000 in
theorem impl_PartsOf.c_j0 (k : Nat) (ih : Kp (∀ m, m < k → impl_PartsOf.C m)) (r1 : List ByteArray) (r2 : Bool) (w : World) (ro : Nat → Prop) (B : Nat) (hF : Fr TE (cx0 Tryd.f27 none w ro B)) (x1 : Int) (x22 : Bool) (x609000 : Int) (x609001 : List (S55)) (h : impl_PartsOf.j0 k x1 x22 x609000 x609001 = some (r1, r2)) : Kp (WS TE (cx0 Tryd.f27 none w ro B) (stkAt [1, 1, 0, 0, 9] [] (bodyOf Tryd.f27) []) ⟨[(1, .v (.int .i64 x1)), (6, .pt 1006 0 0), (22, .v (.bool x22))], [(1006, .box 0 55 false [.v (.int .i64 x609000), .sl 2 (r55 x609001)])]⟩ (RetQ TE Tryd.f27 none [.own 9 1 (rX cS r1), .ro (.v (.bool r2))] [] w ro B)) := by
 refine ⟨?_⟩
 cases k with
 | zero => simp [impl_PartsOf.j0] at h
 | succ k =>
 simp only [impl_PartsOf.j0] at h
 by_cases c3 : x22 = true
 · rw [if_pos c3] at h
   refine path_ok (k := 4) hF (RetQ_mild _ _ _ _ _ _ _ _) (ds := [.b true]) (os := []) (c := none) rfl KD ?_
   cases h
   exact ret_as (ms := [.nil 9 1, .ro]) rfl KD
 · rw [if_neg c3] at h
   refine path_ok (k := 8) hF (RetQ_mild _ _ _ _ _ _ _ _) (ds := [.b false, .p 23 ([]), .e 26 (.v (.int .i64 (x609001.length : Int)))]) (os := []) (c := none) rfl KD ?_
   exact WS.can [(1008, some 23)] (((ih.out k (by omega)).s_l0  r1 r2 w ro B hF x1 (([] : List ByteArray)) x609001 (x609001.length : Int) 0 h).out) KD
set_option maxRecDepth 100000 in
set_option maxHeartbeats 4000000 in
theorem impl_PartsOf.c_l0 (k : Nat) (ih : Kp (∀ m, m < k → impl_PartsOf.C m)) (r1 : List ByteArray) (r2 : Bool) (w : World) (ro : Nat → Prop) (B : Nat) (hF : Fr TE (cx0 Tryd.f27 none w ro B)) (x1 : Int) (x8 : List ByteArray) (x25 : List (S55)) (x26 : Int) (x27 : Int) (h : impl_PartsOf.l0 k x1 x8 x25 x26 x27 = some (r1, r2)) : Kp (WS TE (cx0 Tryd.f27 none w ro B) (stkAt [1, 1, 1, 1, 0, 1, 0] [] (bodyOf Tryd.f27) []) ⟨[(1, .v (.int .i64 x1)), (8, .ow 1008 0), (25, .sl 2 (r55 x25)), (26, .v (.int .i64 x26)), (27, .v (.int .i64 x27))], [(1008, .own 0 9 1 (rX cS x8))]⟩ (RetQ TE Tryd.f27 none [.own 9 1 (rX cS r1), .ro (.v (.bool r2))] [] w ro B)) := by
 refine ⟨WS.loop (fun m σ => m ≤ k ∧ impl_PartsOf.I0 r1 r2 m σ) k ⟨Nat.le_refl k, x1, x8, x25, x26, x27, h, rfl⟩ (fun m σ' hI J0 hJ0 => ?_)⟩
 clear h
 obtain ⟨hk, x1, x8, x25, x26, x27, h, rfl⟩ := hI
 cases m with
 | zero => simp [impl_PartsOf.l0] at h
 | succ k' =>
 simp only [impl_PartsOf.l0] at h
 by_cases c4 : x27 < x26
 · rw [if_pos c4] at h
   by_cases c5 : 0 ≤ x27
   · rw [if_pos c5] at h
     by_cases c6 : x27 < (x25.length : Int)
     · rw [if_pos c6] at h
       obtain ⟨t614, q7, h⟩ := Option.bind_eq_some_iff.1 h
       have q7c := impl_arr_text.ctr k' _ _ _ _ q7
       by_cases c8 : x8.length < 8796093022208
       · rw [if_pos c8] at h
         refine path_ok (k := 12) hF (RetQ_mild _ _ _ _ _ _ _ _) (ds := [.b true, .e 29 (.rf [.v (.int .i64 ((rd_T55 x25 x27).f0)), .sl 2 (r55 ((rd_T55 x25 x27).f1))]), .r [.ro (.v (.string t614))] [], .p 36 ([[.v (.string t614)]]), .o 37 (rX cS (x8 ++ [t614]))]) (os := []) (c := none) rfl KD ?_
         exact WS.lpc [(1008, some 1008)] (hJ0 _ _ (Nat.lt_succ_self _) ⟨by omega, x1, (x8 ++ [t614]), x25, x26, (wrap64 (x27 + 1)), h, rfl⟩) KD
       · rw [if_neg c8] at h
         cases h
     · rw [if_neg c6] at h
       cases h
   · rw [if_neg c5] at h
     cases h
 · rw [if_neg c4] at h
   refine path_ok (k := 8) hF (RetQ_mild _ _ _ _ _ _ _ _) (ds := [.b false]) (os := []) (c := none) rfl KD ?_
   cases h
   exact ret_as (ms := [.own, .ro]) rfl KD
theorem impl_PartsOf.cs (k : Nat) : impl_PartsOf.C k := by
 induction k using Nat.strongRecOn with
 | _ k ih0 =>
 have ih : Kp (∀ m, m < k → impl_PartsOf.C m) := ⟨ih0⟩
 exact ⟨impl_PartsOf.c_j0 k ih, impl_PartsOf.c_l0 k ih⟩
set_option maxRecDepth 100000 in
set_option maxHeartbeats 4000000 in
theorem impl_PartsOf.ctr (k : Nat) (a0 : ByteArray) (a1 : Int) (r1 : List ByteArray) (r2 : Bool) (h : impl_PartsOf.f k a0 a1 = some (r1, r2)) : Ctr TE 27 none [.v (.string a0), .v (.int .i64 a1)] [.own 9 1 (rX cS r1), .ro (.v (.bool r2))] [] := by
 refine ctr_of (fn := Tryd.f27) (c := (bodyOf Tryd.f27)) Tryd.func27 rfl (by kernel_rfl) (Nat.le_of_ble_eq_true (by kernel_rfl)) (fun w ro B hF _ => ?_)
 have ih : Kp (∀ m, m < k + 1 → impl_PartsOf.C m) := ⟨fun m _ => impl_PartsOf.cs m⟩
 simp only [impl_PartsOf.f] at h
 obtain ⟨⟨t603, t604, t607⟩, q1, h⟩ := Option.bind_eq_some_iff.1 h
 dsimp only at h
 have q1c := impl_arrOf.ctr k _ _ _ _ _ q1
 by_cases c2 : t607 = true
 · rw [if_pos c2] at h
   refine path_ok (k := 7) hF (RetQ_mild _ _ _ _ _ _ _ _) (ds := [.r [.ro (.ag [.v (.int .i64 t603), .sl 2 (r55 t604)]), .ro (.v (.bool t607))] [], .b false, .b false, .b false]) (os := []) (c := none) rfl KD ?_
   exact WS.can [(1006, some 6)] (((ih.out k (by omega)).s_j0  r1 r2 w ro B hF a1 (a1 == 0) t603 t604 h).out) KD
 · rw [if_neg c2] at h
   refine path_ok (k := 7) hF (RetQ_mild _ _ _ _ _ _ _ _) (ds := [.r [.ro (.ag [.v (.int .i64 t603), .sl 2 (r55 t604)]), .ro (.v (.bool t607))] [], .b true, .b true, .b true]) (os := []) (c := none) rfl KD ?_
   exact WS.can [(1006, some 6)] (((ih.out k (by omega)).s_j0  r1 r2 w ro B hF a1 true t603 t604 h).out) KD
def impl_LengthOf.f (k : Nat) (a0 : ByteArray) (a1 : Int) : Option (Int) := (impl_PartsOf.f k a0 a1).bind fun bt618 => (if bt618.2 = true then (some (bt618.1.length : Int)) else (some (-1)))
set_option maxRecDepth 100000 in
set_option maxHeartbeats 4000000 in
theorem impl_LengthOf.ctr (k : Nat) (a0 : ByteArray) (a1 : Int) (r : Int) (h : impl_LengthOf.f k a0 a1 = some r) : Ctr TE 19 none [.v (.string a0), .v (.int .i64 a1)] [.ro (.v (.int .i64 r))] [] := by
 refine ctr_of (fn := Tryd.f19) (c := (bodyOf Tryd.f19)) Tryd.func19 rfl (by kernel_rfl) (Nat.le_of_ble_eq_true (by kernel_rfl)) (fun w ro B hF _ => ?_)
 simp only [impl_LengthOf.f] at h
 obtain ⟨⟨t618, t619⟩, q1, h⟩ := Option.bind_eq_some_iff.1 h
 dsimp only at h
 have q1c := impl_PartsOf.ctr k _ _ _ _ q1
 by_cases c2 : t619 = true
 · rw [if_pos c2] at h
   refine path_ok (k := 12) hF (RetQ_mild _ _ _ _ _ _ _ _) (ds := [.r [.own 9 1 (rX cS t618), .ro (.v (.bool t619))] [], .b false, .e 16 (.v (.int .i64 (t618.length : Int)))]) (os := []) (c := none) rfl KD ?_
   cases h
   exact ret_as (ms := [.ro]) rfl KD
 · rw [if_neg c2] at h
   refine path_ok (k := 11) hF (RetQ_mild _ _ _ _ _ _ _ _) (ds := [.r [.own 9 1 (rX cS t618), .ro (.v (.bool t619))] [], .b true]) (os := []) (c := none) rfl KD ?_
   cases h
   exact ret_as (ms := [.ro]) rfl KD
end Go.Proofs.YtlhejcogdjelpaaDoor.G
