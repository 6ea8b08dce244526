/- A part of the claim. -/
import Derived.Test.YtlhejcogdjelpaaDoorHFx0
import Derived.Test.YtlhejcogdjelpaaDoorHFx1
-- PRINTED by print.py (a twelfth state) out of the translation. Not trusted: Lean checks it.
namespace Go.Proofs.YtlhejcogdjelpaaDoor.H
open Go.RowKit Go.Proofs.YtlhejcogdjelpaaDoorW.St Go.Proofs.YtlhejcogdjelpaaDoorW.PrintWords Go.Proofs.YtlhejcogdjelpaaDoorW.PrintLast Go.Proofs.YtlhejcogdjelpaaDoorW.PrintMore
attribute [local go_sem] max2_int min2_int max_two min_two max_three min_three max_four min_four   -- for this text's walks alone
set_option linter.unusedVariables false
set_option linter.unusedSimpArgs false
def spec_l13Rd_num.f (k : Nat) (s0_0 : List Int) (s0_1 : Int) (l1 : List Int) : Option (Int × Int) := (spec_l13Rd_pick.f k s0_0 s0_1 (l1.length : Int)).bind fun bt164 => (if 0 ≤ bt164.1 then (if bt164.1 < (l1.length : Int) then (some (rd l1 bt164.1, bt164.2)) else (none)) else (none))
set_option maxRecDepth 100000 in
set_option maxHeartbeats 4000000 in
theorem spec_l13Rd_num.ctr (k : Nat) (s0_0 : List Int) (s0_1 : Int) (l1 : List Int) (r1 : Int) (r2 : Int) (h : spec_l13Rd_num.f k s0_0 s0_1 l1 = some (r1, r2)) : Ctr TE 35 (some (88, [.sl 1 (rX (cI .u8) s0_0), .v (.int .i64 s0_1)])) [.pt 0 0 0, .sl 1 (rX (cI .i64) l1)] [.ro (.v (.int .i64 r1))] [.sl 1 (rX (cI .u8) s0_0), .v (.int .i64 r2)] := by
 refine ctr_of (fn := Tryd.f35) (c := (bodyOf Tryd.f35)) Tryd.func35 rfl (by kernel_rfl) (Nat.le_of_ble_eq_true (by kernel_rfl)) (fun w ro B hF _ => ?_)
 simp only [spec_l13Rd_num.f] at h
 obtain ⟨⟨t164, t165⟩, q1, h⟩ := Option.bind_eq_some_iff.1 h
 dsimp only at h
 have q1c := spec_l13Rd_pick.ctr k _ _ _ _ _ q1
 by_cases c2 : 0 ≤ t164
 · rw [if_pos c2] at h
   by_cases c3 : t164 < (l1.length : Int)
   · rw [if_pos c3] at h
     refine path_ok (k := 5) hF (RetQ_mild _ _ _ _ _ _ _ _) (ds := [.e 8 (.v (.int .i64 (l1.length : Int))), .r [.ro (.v (.int .i64 t164))] [.sl 1 (rX (cI .u8) s0_0), .v (.int .i64 t165)], .e 10 (.rf [.v (.int .i64 (rd l1 t164))])]) (os := []) (c := none) rfl KD ?_
     cases h
     exact ret_as (ms := [.ro]) rfl KD
   · rw [if_neg c3] at h
     cases h
 · rw [if_neg c2] at h
   cases h
def spec_l11Draw.l0 : Nat → Int → Int → List Int → Int → Int → List Int → Int → Option (ByteArray × Int)
  | 0, _, _, _, _, _, _, _ => none
  | k + 1, x1, x2, x7, x13, x14, x1000, x1001 => if x14 < x13 then ((spec_l13Rd_pick.f k x1000 x1001 50).bind fun bt170 => ((spec_l13Rd_num.f k x1000 bt170.2 (([1, 0, 2, 3, 10006, bt170.1] : List Int))).bind fun bt175 => (if x7.length < 17592186044416 then (spec_l11Draw.l0 k x1 x2 (x7 ++ [bt175.1]) x13 (wrap64 (x14 + 1)) x1000 bt175.2) else (none)))) else ((spec_FillShape.f k (([x1, x2] : List Int)) x7).bind fun bt183 => (some (bt183.1, x1001)))
def spec_l11Draw.f (k : Nat) (s0_0 : List Int) (s0_1 : Int) (a1 : Int) (a2 : Int) : Option (ByteArray × Int) := spec_l11Draw.l0 k a1 a2 (([] : List Int)) (wrap64 (a1 * a2)) 0 s0_0 s0_1
def spec_l11Draw.I0 (s0_0 : List Int) (s0_1 : Int) (r1 : ByteArray) (r2 : Int) (m : Nat) (σ : St) : Prop := ∃ (x1 : Int) (x2 : Int) (x7 : List Int) (x13 : Int) (x14 : Int) (x1001 : Int), spec_l11Draw.l0 m x1 x2 x7 x13 x14 s0_0 x1001 = some (r1, r2) ∧ σ = ⟨[(0, .pt 0 0 0), (1, .v (.int .i64 x1)), (2, .v (.int .i64 x2)), (7, .ow 1007 0), (13, .v (.int .i64 x13)), (14, .v (.int .i64 x14))], [(0, .box 0 88 true [.sl 1 (rX (cI .u8) s0_0), .v (.int .i64 x1001)]), (1007, .own 0 3 1 (rX (cI .i64) x7))]⟩
structure spec_l11Draw.C (k : Nat) : Prop where
 s_l0 : ∀ (s0_0 : List Int) (s0_1 : Int) (r1 : ByteArray) (r2 : Int) (w : World) (ro : Nat → Prop) (B : Nat) (_ : Fr TE (cx0 Tryd.f46 (some (88, [.sl 1 (rX (cI .u8) s0_0), .v (.int .i64 s0_1)])) w ro B)) (x1 : Int) (x2 : Int) (x7 : List Int) (x13 : Int) (x14 : Int) (x1001 : Int) (_ : spec_l11Draw.l0 k x1 x2 x7 x13 x14 s0_0 x1001 = some (r1, r2)), Kp (WS TE (cx0 Tryd.f46 (some (88, [.sl 1 (rX (cI .u8) s0_0), .v (.int .i64 s0_1)])) w ro B) (stkAt [1, 1, 0, 1, 0] [] (bodyOf Tryd.f46) []) ⟨[(0, .pt 0 0 0), (1, .v (.int .i64 x1)), (2, .v (.int .i64 x2)), (7, .ow 1007 0), (13, .v (.int .i64 x13)), (14, .v (.int .i64 x14))], [(0, .box 0 88 true [.sl 1 (rX (cI .u8) s0_0), .v (.int .i64 x1001)]), (1007, .own 0 3 1 (rX (cI .i64) x7))]⟩ (RetQ TE Tryd.f46 (some (88, [.sl 1 (rX (cI .u8) s0_0), .v (.int .i64 s0_1)])) [.ro (.v (.string r1))] [.sl 1 (rX (cI .u8) s0_0), .v (.int .i64 r2)] w ro B))
set_option maxRecDepth 100000 in
set_option maxHeartbeats 4000000 in
theorem spec_l11Draw.c_l0 (k : Nat) (ih : Kp (∀ m, m < k → spec_l11Draw.C m)) (s0_0 : List Int) (s0_1 : Int) (r1 : ByteArray) (r2 : Int) (w : World) (ro : Nat → Prop) (B : Nat) (hF : Fr TE (cx0 Tryd.f46 (some (88, [.sl 1 (rX (cI .u8) s0_0), .v (.int .i64 s0_1)])) w ro B)) (x1 : Int) (x2 : Int) (x7 : List Int) (x13 : Int) (x14 : Int) (x1001 : Int) (h : spec_l11Draw.l0 k x1 x2 x7 x13 x14 s0_0 x1001 = some (r1, r2)) : Kp (WS TE (cx0 Tryd.f46 (some (88, [.sl 1 (rX (cI .u8) s0_0), .v (.int .i64 s0_1)])) w ro B) (stkAt [1, 1, 0, 1, 0] [] (bodyOf Tryd.f46) []) ⟨[(0, .pt 0 0 0), (1, .v (.int .i64 x1)), (2, .v (.int .i64 x2)), (7, .ow 1007 0), (13, .v (.int .i64 x13)), (14, .v (.int .i64 x14))], [(0, .box 0 88 true [.sl 1 (rX (cI .u8) s0_0), .v (.int .i64 x1001)]), (1007, .own 0 3 1 (rX (cI .i64) x7))]⟩ (RetQ TE Tryd.f46 (some (88, [.sl 1 (rX (cI .u8) s0_0), .v (.int .i64 s0_1)])) [.ro (.v (.string r1))] [.sl 1 (rX (cI .u8) s0_0), .v (.int .i64 r2)] w ro B)) := by
 refine ⟨WS.loop (fun m σ => m ≤ k ∧ spec_l11Draw.I0 s0_0 s0_1 r1 r2 m σ) k ⟨Nat.le_refl k, x1, x2, x7, x13, x14, x1001, h, rfl⟩ (fun m σ' hI J0 hJ0 => ?_)⟩
 clear h
 obtain ⟨hk, x1, x2, x7, x13, x14, x1001, h, rfl⟩ := hI
 cases m with
 | zero => simp [spec_l11Draw.l0] at h
 | succ k' =>
 simp only [spec_l11Draw.l0] at h
 by_cases c1 : x14 < x13
 · rw [if_pos c1] at h
   obtain ⟨⟨t170, t171⟩, q2, h⟩ := Option.bind_eq_some_iff.1 h
   dsimp only at h
   have q2c := spec_l13Rd_pick.ctr k' _ _ _ _ _ q2
   obtain ⟨⟨t175, t176⟩, q3, h⟩ := Option.bind_eq_some_iff.1 h
   dsimp only at h
   have q3c := spec_l13Rd_num.ctr k' _ _ _ _ _ q3
   by_cases c4 : x7.length < 17592186044416
   · rw [if_pos c4] at h
     refine path_ok (k := 10) hF (RetQ_mild _ _ _ _ _ _ _ _) (ds := [.b true, .r [.ro (.v (.int .i64 t170))] [.sl 1 (rX (cI .u8) s0_0), .v (.int .i64 t171)], .p 20 ([[.v (.int .i64 1)], [.v (.int .i64 0)], [.v (.int .i64 2)], [.v (.int .i64 3)], [.v (.int .i64 10006)], [.v (.int .i64 t170)]]), .r [.ro (.v (.int .i64 t175))] [.sl 1 (rX (cI .u8) s0_0), .v (.int .i64 t176)], .p 22 ([[.v (.int .i64 t175)]]), .o 23 (rX (cI .i64) (x7 ++ [t175]))]) (os := []) (c := none) rfl KD ?_
     exact WS.lpc [(0, some 0), (1007, some 1007)] (hJ0 _ _ (Nat.lt_succ_self _) ⟨by omega, x1, x2, (x7 ++ [t175]), x13, (wrap64 (x14 + 1)), t176, h, rfl⟩) KD
   · rw [if_neg c4] at h
     cases h
 · rw [if_neg c1] at h
   obtain ⟨⟨t183, t184⟩, q5, h⟩ := Option.bind_eq_some_iff.1 h
   dsimp only at h
   have q5c := spec_FillShape.ctr k' _ _ _ _ q5
   refine path_ok (k := 10) hF (RetQ_mild _ _ _ _ _ _ _ _) (ds := [.b false, .p 28 ([[.v (.int .i64 x1)], [.v (.int .i64 x2)]]), .r [.ro (.v (.string t183)), .ro (.v (.bool t184))] []]) (os := []) (c := none) rfl KD ?_
   cases h
   exact ret_as (ms := [.ro]) rfl KD
theorem spec_l11Draw.cs (k : Nat) : spec_l11Draw.C k := by
 induction k using Nat.strongRecOn with
 | _ k ih0 =>
 have ih : Kp (∀ m, m < k → spec_l11Draw.C m) := ⟨ih0⟩
 exact ⟨spec_l11Draw.c_l0 k ih⟩
set_option maxRecDepth 100000 in
set_option maxHeartbeats 4000000 in
theorem spec_l11Draw.ctr (k : Nat) (s0_0 : List Int) (s0_1 : Int) (a1 : Int) (a2 : Int) (r1 : ByteArray) (r2 : Int) (h : spec_l11Draw.f k s0_0 s0_1 a1 a2 = some (r1, r2)) : Ctr TE 46 (some (88, [.sl 1 (rX (cI .u8) s0_0), .v (.int .i64 s0_1)])) [.pt 0 0 0, .v (.int .i64 a1), .v (.int .i64 a2)] [.ro (.v (.string r1))] [.sl 1 (rX (cI .u8) s0_0), .v (.int .i64 r2)] := by
 refine ctr_of (fn := Tryd.f46) (c := (bodyOf Tryd.f46)) Tryd.func46 rfl (by kernel_rfl) (Nat.le_of_ble_eq_true (by kernel_rfl)) (fun w ro B hF _ => ?_)
 have ih : Kp (∀ m, m < k + 1 → spec_l11Draw.C m) := ⟨fun m _ => spec_l11Draw.cs m⟩
 simp only [spec_l11Draw.f] at h
 refine path_ok (k := 8) hF (RetQ_mild _ _ _ _ _ _ _ _) (ds := [.p 10 ([])]) (os := []) (c := none) rfl KD ?_
 exact WS.can [(0, some 0), (1007, some 10)] (((ih.out k (by omega)).s_l0 s0_0 s0_1 r1 r2 w ro B hF a1 a2 (([] : List Int)) (wrap64 (a1 * a2)) 0 s0_1 h).out) KD
mutual
def spec_l1Draw.l0 : Nat → Int → ByteArray → Int → Int → List Int → Int → Option (ByteArray × Int)
  | 0, _, _, _, _, _, _ => none
  | k + 1, x1, x5, x17, x18, x1000, x1001 => if x18 < x17 then (if x18 > 0 then (if x5.size + 1 ≤ 9223372036854775807 then ((spec_l1Draw.f k x1000 x1001 (wrap64 (x1 - 1))).bind fun bt198 => (if x5.size + 1 + bt198.1.size ≤ 9223372036854775807 then (spec_l1Draw.l0 k x1 ((x5 ++ (⟨#[44]⟩ : ByteArray)) ++ bt198.1) x17 (wrap64 (x18 + 1)) x1000 bt198.2) else (none))) else (none)) else ((spec_l1Draw.f k x1000 x1001 (wrap64 (x1 - 1))).bind fun bt200 => (if x5.size + bt200.1.size ≤ 9223372036854775807 then (spec_l1Draw.l0 k x1 (x5 ++ bt200.1) x17 (wrap64 (x18 + 1)) x1000 bt200.2) else (none)))) else (if x5.size + 1 ≤ 9223372036854775807 then (some (x5 ++ (⟨#[93]⟩ : ByteArray), x1001)) else (none))
def spec_l1Draw.f : Nat → List Int → Int → Int → Option (ByteArray × Int)
  | 0, _, _, _ => none
  | k + 1, s0_0, s0_1, a1 => if a1 = 0 then ((spec_l13Rd_pick.f k s0_0 s0_1 9).bind fun bt185 => ((spec_l13Rd_num.f k s0_0 bt185.2 (([1, 0, 2, 3, bt185.1, 5, 10006, 100] : List Int))).bind fun bt190 => ((spec_l13Dec.f k bt190.1).bind fun t192 => (some (t192, bt190.2))))) else ((spec_l13Rd_num.f k s0_0 s0_1 (([2, 0, 1, 3, 4] : List Int))).bind fun bt196 => (spec_l1Draw.l0 k a1 (⟨#[91]⟩ : ByteArray) bt196.1 0 s0_0 bt196.2))
end
def spec_l1Draw.I0 (s0_0 : List Int) (s0_1 : Int) (r1 : ByteArray) (r2 : Int) (m : Nat) (σ : St) : Prop := ∃ (x1 : Int) (x5 : ByteArray) (x17 : Int) (x18 : Int) (x1001 : Int), spec_l1Draw.l0 m x1 x5 x17 x18 s0_0 x1001 = some (r1, r2) ∧ σ = ⟨[(0, .pt 0 0 0), (1, .v (.int .i64 x1)), (5, .v (.string x5)), (17, .v (.int .i64 x17)), (18, .v (.int .i64 x18))], [(0, .box 0 88 true [.sl 1 (rX (cI .u8) s0_0), .v (.int .i64 x1001)])]⟩
structure spec_l1Draw.C (k : Nat) : Prop where
 s_f : ∀ (s0_0 : List Int) (s0_1 : Int) (a1 : Int) (r1 : ByteArray) (r2 : Int), spec_l1Draw.f k s0_0 s0_1 a1 = some (r1, r2) → Ctr TE 52 (some (88, [.sl 1 (rX (cI .u8) s0_0), .v (.int .i64 s0_1)])) [.pt 0 0 0, .v (.int .i64 a1)] [.ro (.v (.string r1))] [.sl 1 (rX (cI .u8) s0_0), .v (.int .i64 r2)]
 s_l0 : ∀ (s0_0 : List Int) (s0_1 : Int) (r1 : ByteArray) (r2 : Int) (w : World) (ro : Nat → Prop) (B : Nat) (_ : Fr TE (cx0 Tryd.f52 (some (88, [.sl 1 (rX (cI .u8) s0_0), .v (.int .i64 s0_1)])) w ro B)) (x1 : Int) (x5 : ByteArray) (x17 : Int) (x18 : Int) (x1001 : Int) (_ : spec_l1Draw.l0 k x1 x5 x17 x18 s0_0 x1001 = some (r1, r2)), Kp (WS TE (cx0 Tryd.f52 (some (88, [.sl 1 (rX (cI .u8) s0_0), .v (.int .i64 s0_1)])) w ro B) (stkAt [1, 1, 1, 0, 1, 0] [] (bodyOf Tryd.f52) []) ⟨[(0, .pt 0 0 0), (1, .v (.int .i64 x1)), (5, .v (.string x5)), (17, .v (.int .i64 x17)), (18, .v (.int .i64 x18))], [(0, .box 0 88 true [.sl 1 (rX (cI .u8) s0_0), .v (.int .i64 x1001)])]⟩ (RetQ TE Tryd.f52 (some (88, [.sl 1 (rX (cI .u8) s0_0), .v (.int .i64 s0_1)])) [.ro (.v (.string r1))] [.sl 1 (rX (cI .u8) s0_0), .v (.int .i64 r2)] w ro B))
set_option maxRecDepth 100000 in
set_option maxHeartbeats 4000000 in
theorem spec_l1Draw.c_f (k : Nat) (ih : Kp (∀ m, m < k → spec_l1Draw.C m)) (s0_0 : List Int) (s0_1 : Int) (a1 : Int) (r1 : ByteArray) (r2 : Int) (h : spec_l1Draw.f k s0_0 s0_1 a1 = some (r1, r2)) : Ctr TE 52 (some (88, [.sl 1 (rX (cI .u8) s0_0), .v (.int .i64 s0_1)])) [.pt 0 0 0, .v (.int .i64 a1)] [.ro (.v (.string r1))] [.sl 1 (rX (cI .u8) s0_0), .v (.int .i64 r2)] := by
 cases k with
 | zero => simp [spec_l1Draw.f] at h
 | succ k =>
 simp only [spec_l1Draw.f] at h
 refine ctr_of (fn := Tryd.f52) (c := (bodyOf Tryd.f52)) Tryd.func52 rfl (by kernel_rfl) (Nat.le_of_ble_eq_true (by kernel_rfl)) (fun w ro B hF _ => ?_)
 by_cases c1 : a1 = 0
 · rw [if_pos c1] at h
   obtain ⟨⟨t185, t186⟩, q2, h⟩ := Option.bind_eq_some_iff.1 h
   dsimp only at h
   have q2c := spec_l13Rd_pick.ctr k _ _ _ _ _ q2
   obtain ⟨⟨t190, t191⟩, q3, h⟩ := Option.bind_eq_some_iff.1 h
   dsimp only at h
   have q3c := spec_l13Rd_num.ctr k _ _ _ _ _ q3
   obtain ⟨t192, q4, h⟩ := Option.bind_eq_some_iff.1 h
   have q4c := spec_l13Dec.ctr k _ _ q4
   refine path_ok (k := 9) hF (RetQ_mild _ _ _ _ _ _ _ _) (ds := [.b true, .r [.ro (.v (.int .i64 t185))] [.sl 1 (rX (cI .u8) s0_0), .v (.int .i64 t186)], .p 12 ([[.v (.int .i64 1)], [.v (.int .i64 0)], [.v (.int .i64 2)], [.v (.int .i64 3)], [.v (.int .i64 t185)], [.v (.int .i64 5)], [.v (.int .i64 10006)], [.v (.int .i64 100)]]), .r [.ro (.v (.int .i64 t190))] [.sl 1 (rX (cI .u8) s0_0), .v (.int .i64 t191)], .r [.ro (.v (.string t192))] []]) (os := []) (c := none) rfl KD ?_
   cases h
   exact ret_as (ms := [.ro]) rfl KD
 · rw [if_neg c1] at h
   obtain ⟨⟨t196, t197⟩, q5, h⟩ := Option.bind_eq_some_iff.1 h
   dsimp only at h
   have q5c := spec_l13Rd_num.ctr k _ _ _ _ _ q5
   refine path_ok (k := 13) hF (RetQ_mild _ _ _ _ _ _ _ _) (ds := [.b false, .p 16 ([[.v (.int .i64 2)], [.v (.int .i64 0)], [.v (.int .i64 1)], [.v (.int .i64 3)], [.v (.int .i64 4)]]), .r [.ro (.v (.int .i64 t196))] [.sl 1 (rX (cI .u8) s0_0), .v (.int .i64 t197)]]) (os := []) (c := none) rfl KD ?_
   exact WS.can [(0, some 0)] (((ih.out k (by omega)).s_l0 s0_0 s0_1 r1 r2 w ro B hF a1 (⟨#[91]⟩ : ByteArray) t196 0 t197 h).out) KD
set_option maxRecDepth 100000 in
set_option maxHeartbeats 4000000 in
theorem spec_l1Draw.c_l0 (k : Nat) (ih : Kp (∀ m, m < k → spec_l1Draw.C m)) (s0_0 : List Int) (s0_1 : Int) (r1 : ByteArray) (r2 : Int) (w : World) (ro : Nat → Prop) (B : Nat) (hF : Fr TE (cx0 Tryd.f52 (some (88, [.sl 1 (rX (cI .u8) s0_0), .v (.int .i64 s0_1)])) w ro B)) (x1 : Int) (x5 : ByteArray) (x17 : Int) (x18 : Int) (x1001 : Int) (h : spec_l1Draw.l0 k x1 x5 x17 x18 s0_0 x1001 = some (r1, r2)) : Kp (WS TE (cx0 Tryd.f52 (some (88, [.sl 1 (rX (cI .u8) s0_0), .v (.int .i64 s0_1)])) w ro B) (stkAt [1, 1, 1, 0, 1, 0] [] (bodyOf Tryd.f52) []) ⟨[(0, .pt 0 0 0), (1, .v (.int .i64 x1)), (5, .v (.string x5)), (17, .v (.int .i64 x17)), (18, .v (.int .i64 x18))], [(0, .box 0 88 true [.sl 1 (rX (cI .u8) s0_0), .v (.int .i64 x1001)])]⟩ (RetQ TE Tryd.f52 (some (88, [.sl 1 (rX (cI .u8) s0_0), .v (.int .i64 s0_1)])) [.ro (.v (.string r1))] [.sl 1 (rX (cI .u8) s0_0), .v (.int .i64 r2)] w ro B)) := by
 refine ⟨WS.loop (fun m σ => m ≤ k ∧ spec_l1Draw.I0 s0_0 s0_1 r1 r2 m σ) k ⟨Nat.le_refl k, x1, x5, x17, x18, x1001, h, rfl⟩ (fun m σ' hI J0 hJ0 => ?_)⟩
 clear h
 obtain ⟨hk, x1, x5, x17, x18, x1001, h, rfl⟩ := hI
 cases m with
 | zero => simp [spec_l1Draw.l0] at h
 | succ k' =>
 simp only [spec_l1Draw.l0] at h
 by_cases c6 : x18 < x17
 · rw [if_pos c6] at h
   by_cases c7 : x18 > 0
   · rw [if_pos c7] at h
     by_cases c8 : x5.size + 1 ≤ 9223372036854775807
     · rw [if_pos c8] at h
       obtain ⟨⟨t198, t199⟩, q9, h⟩ := Option.bind_eq_some_iff.1 h
       dsimp only at h
       have q9c := (ih.out k' (by omega)).s_f _ _ _ _ _ q9
       by_cases c10 : x5.size + 1 + t198.size ≤ 9223372036854775807
       · rw [if_pos c10] at h
         refine path_ok (k := 17) hF (RetQ_mild _ _ _ _ _ _ _ _) (ds := [.b true, .b true, .r [.ro (.v (.string t198))] [.sl 1 (rX (cI .u8) s0_0), .v (.int .i64 t199)]]) (os := []) (c := none) rfl KD ?_
         exact WS.lpc [(0, some 0)] (hJ0 _ _ (Nat.lt_succ_self _) ⟨by omega, x1, ((x5 ++ (⟨#[44]⟩ : ByteArray)) ++ t198), x17, (wrap64 (x18 + 1)), t199, h, rfl⟩) KD
       · rw [if_neg c10] at h
         cases h
     · rw [if_neg c8] at h
       cases h
   · rw [if_neg c7] at h
     obtain ⟨⟨t200, t201⟩, q11, h⟩ := Option.bind_eq_some_iff.1 h
     dsimp only at h
     have q11c := (ih.out k' (by omega)).s_f _ _ _ _ _ q11
     by_cases c12 : x5.size + t200.size ≤ 9223372036854775807
     · rw [if_pos c12] at h
       refine path_ok (k := 17) hF (RetQ_mild _ _ _ _ _ _ _ _) (ds := [.b true, .b false, .r [.ro (.v (.string t200))] [.sl 1 (rX (cI .u8) s0_0), .v (.int .i64 t201)]]) (os := []) (c := none) rfl KD ?_
       exact WS.lpc [(0, some 0)] (hJ0 _ _ (Nat.lt_succ_self _) ⟨by omega, x1, (x5 ++ t200), x17, (wrap64 (x18 + 1)), t201, h, rfl⟩) KD
     · rw [if_neg c12] at h
       cases h
 · rw [if_neg c6] at h
   by_cases c13 : x5.size + 1 ≤ 9223372036854775807
   · rw [if_pos c13] at h
     refine path_ok (k := 8) hF (RetQ_mild _ _ _ _ _ _ _ _) (ds := [.b false]) (os := []) (c := none) rfl KD ?_
     cases h
     exact ret_as (ms := [.ro]) rfl KD
   · rw [if_neg c13] at h
     cases h
theorem spec_l1Draw.cs (k : Nat) : spec_l1Draw.C k := by
 induction k using Nat.strongRecOn with
 | _ k ih0 =>
 have ih : Kp (∀ m, m < k → spec_l1Draw.C m) := ⟨ih0⟩
 exact ⟨spec_l1Draw.c_f k ih, spec_l1Draw.c_l0 k ih⟩
theorem spec_l1Draw.ctr (k : Nat) (s0_0 : List Int) (s0_1 : Int) (a1 : Int) (r1 : ByteArray) (r2 : Int) (h : spec_l1Draw.f k s0_0 s0_1 a1 = some (r1, r2)) : Ctr TE 52 (some (88, [.sl 1 (rX (cI .u8) s0_0), .v (.int .i64 s0_1)])) [.pt 0 0 0, .v (.int .i64 a1)] [.ro (.v (.string r1))] [.sl 1 (rX (cI .u8) s0_0), .v (.int .i64 r2)] := (spec_l1Draw.cs k).s_f s0_0 s0_1 a1 r1 r2 h
def spec_l13Rd_of.f (k : Nat) (s0_0 : List Int) (s0_1 : Int) (l1 : List ByteArray) : Option (ByteArray × Int) := (spec_l13Rd_pick.f k s0_0 s0_1 (l1.length : Int)).bind fun bt202 => (if 0 ≤ bt202.1 then (if bt202.1 < (l1.length : Int) then (some (rdOf ByteArray.empty l1 bt202.1, bt202.2)) else (none)) else (none))
set_option maxRecDepth 100000 in
set_option maxHeartbeats 4000000 in
theorem spec_l13Rd_of.ctr (k : Nat) (s0_0 : List Int) (s0_1 : Int) (l1 : List ByteArray) (r1 : ByteArray) (r2 : Int) (h : spec_l13Rd_of.f k s0_0 s0_1 l1 = some (r1, r2)) : Ctr TE 55 (some (88, [.sl 1 (rX (cI .u8) s0_0), .v (.int .i64 s0_1)])) [.pt 0 0 0, .sl 1 (rX cS l1)] [.ro (.v (.string r1))] [.sl 1 (rX (cI .u8) s0_0), .v (.int .i64 r2)] := by
 refine ctr_of (fn := Tryd.f55) (c := (bodyOf Tryd.f55)) Tryd.func55 rfl (by kernel_rfl) (Nat.le_of_ble_eq_true (by kernel_rfl)) (fun w ro B hF _ => ?_)
 simp only [spec_l13Rd_of.f] at h
 obtain ⟨⟨t202, t203⟩, q1, h⟩ := Option.bind_eq_some_iff.1 h
 dsimp only at h
 have q1c := spec_l13Rd_pick.ctr k _ _ _ _ _ q1
 by_cases c2 : 0 ≤ t202
 · rw [if_pos c2] at h
   by_cases c3 : t202 < (l1.length : Int)
   · rw [if_pos c3] at h
     refine path_ok (k := 5) hF (RetQ_mild _ _ _ _ _ _ _ _) (ds := [.e 8 (.v (.int .i64 (l1.length : Int))), .r [.ro (.v (.int .i64 t202))] [.sl 1 (rX (cI .u8) s0_0), .v (.int .i64 t203)], .e 10 (.rf [.v (.string (rdOf ByteArray.empty l1 t202))])]) (os := []) (c := none) rfl KD ?_
     cases h
     exact ret_as (ms := [.ro]) rfl KD
   · rw [if_neg c3] at h
     cases h
 · rw [if_neg c2] at h
   cases h
def spec_l11Some.f (k : Nat) (s0_0 : List Int) (s0_1 : Int) : Option (ByteArray × Int) := (spec_l13Rd_pick.f k s0_0 s0_1 4).bind fun bt205 => (if bt205.1 = 0 then ((spec_l1Draw.f k s0_0 bt205.2 2).bind fun bt207 => ((spec_l1Draw.f k s0_0 bt207.2 2).bind fun bt209 => ((spec_l13Rd_of.f k s0_0 bt209.2 (([bt207.1, bt209.1, (⟨#[91, 49, 93]⟩ : ByteArray), (⟨#[]⟩ : ByteArray)] : List ByteArray))).bind fun bt214 => (some (bt214.1, bt214.2))))) else ((spec_l13Rd_pick.f k s0_0 bt205.2 4).bind fun bt216 => ((spec_l13Rd_pick.f k s0_0 bt216.2 4).bind fun bt218 => ((spec_l11Draw.f k s0_0 bt218.2 bt216.1 bt218.1).bind fun bt220 => (some (bt220.1, bt220.2))))))
set_option maxRecDepth 100000 in
set_option maxHeartbeats 4000000 in
theorem spec_l11Some.ctr (k : Nat) (s0_0 : List Int) (s0_1 : Int) (r1 : ByteArray) (r2 : Int) (h : spec_l11Some.f k s0_0 s0_1 = some (r1, r2)) : Ctr TE 30 (some (88, [.sl 1 (rX (cI .u8) s0_0), .v (.int .i64 s0_1)])) [.pt 0 0 0] [.ro (.v (.string r1))] [.sl 1 (rX (cI .u8) s0_0), .v (.int .i64 r2)] := by
 refine ctr_of (fn := Tryd.f30) (c := (bodyOf Tryd.f30)) Tryd.func30 rfl (by kernel_rfl) (Nat.le_of_ble_eq_true (by kernel_rfl)) (fun w ro B hF _ => ?_)
 simp only [spec_l11Some.f] at h
 obtain ⟨⟨t205, t206⟩, q1, h⟩ := Option.bind_eq_some_iff.1 h
 dsimp only at h
 have q1c := spec_l13Rd_pick.ctr k _ _ _ _ _ q1
 by_cases c2 : t205 = 0
 · rw [if_pos c2] at h
   obtain ⟨⟨t207, t208⟩, q3, h⟩ := Option.bind_eq_some_iff.1 h
   dsimp only at h
   have q3c := spec_l1Draw.ctr k _ _ _ _ _ q3
   obtain ⟨⟨t209, t210⟩, q4, h⟩ := Option.bind_eq_some_iff.1 h
   dsimp only at h
   have q4c := spec_l1Draw.ctr k _ _ _ _ _ q4
   obtain ⟨⟨t214, t215⟩, q5, h⟩ := Option.bind_eq_some_iff.1 h
   dsimp only at h
   have q5c := spec_l13Rd_of.ctr k _ _ _ _ _ q5
   refine path_ok (k := 9) hF (RetQ_mild _ _ _ _ _ _ _ _) (ds := [.r [.ro (.v (.int .i64 t205))] [.sl 1 (rX (cI .u8) s0_0), .v (.int .i64 t206)], .b true, .r [.ro (.v (.string t207))] [.sl 1 (rX (cI .u8) s0_0), .v (.int .i64 t208)], .r [.ro (.v (.string t209))] [.sl 1 (rX (cI .u8) s0_0), .v (.int .i64 t210)], .p 11 ([[.v (.string t207)], [.v (.string t209)], [.v (.string (⟨#[91, 49, 93]⟩ : ByteArray))], [.v (.string (⟨#[]⟩ : ByteArray))]]), .r [.ro (.v (.string t214))] [.sl 1 (rX (cI .u8) s0_0), .v (.int .i64 t215)]]) (os := []) (c := none) rfl KD ?_
   cases h
   exact ret_as (ms := [.ro]) rfl KD
 · rw [if_neg c2] at h
   obtain ⟨⟨t216, t217⟩, q6, h⟩ := Option.bind_eq_some_iff.1 h
   dsimp only at h
   have q6c := spec_l13Rd_pick.ctr k _ _ _ _ _ q6
   obtain ⟨⟨t218, t219⟩, q7, h⟩ := Option.bind_eq_some_iff.1 h
   dsimp only at h
   have q7c := spec_l13Rd_pick.ctr k _ _ _ _ _ q7
   obtain ⟨⟨t220, t221⟩, q8, h⟩ := Option.bind_eq_some_iff.1 h
   dsimp only at h
   have q8c := spec_l11Draw.ctr k _ _ _ _ _ _ q8
   refine path_ok (k := 10) hF (RetQ_mild _ _ _ _ _ _ _ _) (ds := [.r [.ro (.v (.int .i64 t205))] [.sl 1 (rX (cI .u8) s0_0), .v (.int .i64 t206)], .b false, .r [.ro (.v (.int .i64 t216))] [.sl 1 (rX (cI .u8) s0_0), .v (.int .i64 t217)], .r [.ro (.v (.int .i64 t218))] [.sl 1 (rX (cI .u8) s0_0), .v (.int .i64 t219)], .r [.ro (.v (.string t220))] [.sl 1 (rX (cI .u8) s0_0), .v (.int .i64 t221)]]) (os := []) (c := none) rfl KD ?_
   cases h
   exact ret_as (ms := [.ro]) rfl KD
def spec_l1Depth.f (k : Nat) (s0_0 : List Int) (s0_1 : Int) : Option (Int × Int) := (spec_l13Rd_num.f k s0_0 s0_1 (([2, 1, 3, 2, 1, 0, 4, (-1)] : List Int))).bind fun bt225 => (some (bt225.1, bt225.2))
set_option maxRecDepth 100000 in
set_option maxHeartbeats 4000000 in
theorem spec_l1Depth.ctr (k : Nat) (s0_0 : List Int) (s0_1 : Int) (r1 : Int) (r2 : Int) (h : spec_l1Depth.f k s0_0 s0_1 = some (r1, r2)) : Ctr TE 56 (some (88, [.sl 1 (rX (cI .u8) s0_0), .v (.int .i64 s0_1)])) [.pt 0 0 0] [.ro (.v (.int .i64 r1))] [.sl 1 (rX (cI .u8) s0_0), .v (.int .i64 r2)] := by
 refine ctr_of (fn := Tryd.f56) (c := (bodyOf Tryd.f56)) Tryd.func56 rfl (by kernel_rfl) (Nat.le_of_ble_eq_true (by kernel_rfl)) (fun w ro B hF _ => ?_)
 simp only [spec_l1Depth.f] at h
 obtain ⟨⟨t225, t226⟩, q1, h⟩ := Option.bind_eq_some_iff.1 h
 dsimp only at h
 have q1c := spec_l13Rd_num.ctr k _ _ _ _ _ q1
 refine path_ok (k := 5) hF (RetQ_mild _ _ _ _ _ _ _ _) (ds := [.p 4 ([[.v (.int .i64 2)], [.v (.int .i64 1)], [.v (.int .i64 3)], [.v (.int .i64 2)], [.v (.int .i64 1)], [.v (.int .i64 0)], [.v (.int .i64 4)], [.v (.int .i64 (-1))]]), .r [.ro (.v (.int .i64 t225))] [.sl 1 (rX (cI .u8) s0_0), .v (.int .i64 t226)]]) (os := []) (c := none) rfl KD ?_
 cases h
 exact ret_as (ms := [.ro]) rfl KD
def spec_l1Some.j0 : Nat → Int → ByteArray → List Int → Int → Option (ByteArray × Int × Int)
  | 0, _, _, _, _ => none
  | k + 1, x4, x5, x1000, x1001 => (spec_l13Rd_pick.f k x1000 x1001 14).bind fun bt233 => (if bt233.1 > 0 then (some (x5, x4, bt233.2)) else ((spec_l13Rd_pick.f k x1000 bt233.2 (x5.size : Int)).bind fun bt235 => (if 0 ≤ bt235.1 then (if bt235.1 ≤ (x5.size : Int) then ((spec_l13Rd_of.f k x1000 bt235.2 (([(⟨#[]⟩ : ByteArray), (⟨#[91]⟩ : ByteArray), (⟨#[93]⟩ : ByteArray), (⟨#[44]⟩ : ByteArray), (⟨#[48]⟩ : ByteArray), (⟨#[120]⟩ : ByteArray), (⟨#[57, 57, 57, 57, 57]⟩ : ByteArray)] : List ByteArray))).bind fun bt240 => (if (x5.extract 0 (bt235.1 : Int).toNat).size + bt240.1.size ≤ 9223372036854775807 then ((spec_l13Rd_pick.f k x1000 bt240.2 2).bind fun bt242 => (if 0 ≤ (wrap64 (bt235.1 + bt242.1)) then (if (wrap64 (bt235.1 + bt242.1)) ≤ (x5.size : Int) then (if (x5.extract 0 (bt235.1 : Int).toNat).size + bt240.1.size + (x5.extract ((wrap64 (bt235.1 + bt242.1)) : Int).toNat x5.size).size ≤ 9223372036854775807 then (some (((x5.extract 0 (bt235.1 : Int).toNat) ++ bt240.1) ++ (x5.extract ((wrap64 (bt235.1 + bt242.1)) : Int).toNat x5.size), x4, bt242.2)) else (none)) else (none)) else (none))) else (none))) else (none)) else (none))))
def spec_l1Some.f (k : Nat) (s0_0 : List Int) (s0_1 : Int) : Option (ByteArray × Int × Int) := (spec_l1Depth.f k s0_0 s0_1).bind fun bt227 => ((spec_l1Draw.f k s0_0 bt227.2 (mx (mn bt227.1 3) 0)).bind fun bt229 => (if (bt229.1.size : Int) > 100 then ((spec_l1Draw.f k s0_0 bt229.2 (mn bt227.1 1)).bind fun bt231 => (spec_l1Some.j0 k bt227.1 bt231.1 s0_0 bt231.2)) else (spec_l1Some.j0 k bt227.1 bt229.1 s0_0 bt229.2)))
structure spec_l1Some.C (k : Nat) : Prop where
 s_j0 : ∀ (s0_0 : List Int) (s0_1 : Int) (r1 : ByteArray) (r2 : Int) (r3 : Int) (w : World) (ro : Nat → Prop) (B : Nat) (_ : Fr TE (cx0 Tryd.f31 (some (88, [.sl 1 (rX (cI .u8) s0_0), .v (.int .i64 s0_1)])) w ro B)) (x4 : Int) (x5 : ByteArray) (x1001 : Int) (_ : spec_l1Some.j0 k x4 x5 s0_0 x1001 = some (r1, r2, r3)), Kp (WS TE (cx0 Tryd.f31 (some (88, [.sl 1 (rX (cI .u8) s0_0), .v (.int .i64 s0_1)])) w ro B) (stkAt [1, 1, 1, 0, 1, 9] [] (bodyOf Tryd.f31) []) ⟨[(0, .pt 0 0 0), (4, .v (.int .i64 x4)), (5, .v (.string x5))], [(0, .box 0 88 true [.sl 1 (rX (cI .u8) s0_0), .v (.int .i64 x1001)])]⟩ (RetQ TE Tryd.f31 (some (88, [.sl 1 (rX (cI .u8) s0_0), .v (.int .i64 s0_1)])) [.ro (.v (.string r1)), .ro (.v (.int .i64 r2))] [.sl 1 (rX (cI .u8) s0_0), .v (.int .i64 r3)] w ro B))
set_option maxRecDepth 100000 in
set_option maxHeartbeats 4000000 in
theorem spec_l1Some.c_j0 (k : Nat) (ih : Kp (∀ m, m < k → spec_l1Some.C m)) (s0_0 : List Int) (s0_1 : Int) (r1 : ByteArray) (r2 : Int) (r3 : Int) (w : World) (ro : Nat → Prop) (B : Nat) (hF : Fr TE (cx0 Tryd.f31 (some (88, [.sl 1 (rX (cI .u8) s0_0), .v (.int .i64 s0_1)])) w ro B)) (x4 : Int) (x5 : ByteArray) (x1001 : Int) (h : spec_l1Some.j0 k x4 x5 s0_0 x1001 = some (r1, r2, r3)) : Kp (WS TE (cx0 Tryd.f31 (some (88, [.sl 1 (rX (cI .u8) s0_0), .v (.int .i64 s0_1)])) w ro B) (stkAt [1, 1, 1, 0, 1, 9] [] (bodyOf Tryd.f31) []) ⟨[(0, .pt 0 0 0), (4, .v (.int .i64 x4)), (5, .v (.string x5))], [(0, .box 0 88 true [.sl 1 (rX (cI .u8) s0_0), .v (.int .i64 x1001)])]⟩ (RetQ TE Tryd.f31 (some (88, [.sl 1 (rX (cI .u8) s0_0), .v (.int .i64 s0_1)])) [.ro (.v (.string r1)), .ro (.v (.int .i64 r2))] [.sl 1 (rX (cI .u8) s0_0), .v (.int .i64 r3)] w ro B)) := by
 refine ⟨?_⟩
 cases k with
 | zero => simp [spec_l1Some.j0] at h
 | succ k =>
 simp only [spec_l1Some.j0] at h
 obtain ⟨⟨t233, t234⟩, q5, h⟩ := Option.bind_eq_some_iff.1 h
 dsimp only at h
 have q5c := spec_l13Rd_pick.ctr k _ _ _ _ _ q5
 by_cases c6 : t233 > 0
 · rw [if_pos c6] at h
   refine path_ok (k := 7) hF (RetQ_mild _ _ _ _ _ _ _ _) (ds := [.r [.ro (.v (.int .i64 t233))] [.sl 1 (rX (cI .u8) s0_0), .v (.int .i64 t234)], .b true]) (os := []) (c := none) rfl KD ?_
   cases h
   exact ret_as (ms := [.ro, .ro]) rfl KD
 · rw [if_neg c6] at h
   obtain ⟨⟨t235, t236⟩, q7, h⟩ := Option.bind_eq_some_iff.1 h
   dsimp only at h
   have q7c := spec_l13Rd_pick.ctr k _ _ _ _ _ q7
   by_cases c8 : 0 ≤ t235
   · rw [if_pos c8] at h
     by_cases c9 : t235 ≤ (x5.size : Int)
     · rw [if_pos c9] at h
       obtain ⟨⟨t240, t241⟩, q10, h⟩ := Option.bind_eq_some_iff.1 h
       dsimp only at h
       have q10c := spec_l13Rd_of.ctr k _ _ _ _ _ q10
       by_cases c11 : (x5.extract 0 (t235 : Int).toNat).size + t240.size ≤ 9223372036854775807
       · rw [if_pos c11] at h
         obtain ⟨⟨t242, t243⟩, q12, h⟩ := Option.bind_eq_some_iff.1 h
         dsimp only at h
         have q12c := spec_l13Rd_pick.ctr k _ _ _ _ _ q12
         by_cases c13 : 0 ≤ (wrap64 (t235 + t242))
         · rw [if_pos c13] at h
           by_cases c14 : (wrap64 (t235 + t242)) ≤ (x5.size : Int)
           · rw [if_pos c14] at h
             by_cases c15 : (x5.extract 0 (t235 : Int).toNat).size + t240.size + (x5.extract ((wrap64 (t235 + t242)) : Int).toNat x5.size).size ≤ 9223372036854775807
             · rw [if_pos c15] at h
               refine path_ok (k := 10) hF (RetQ_mild _ _ _ _ _ _ _ _) (ds := [.r [.ro (.v (.int .i64 t233))] [.sl 1 (rX (cI .u8) s0_0), .v (.int .i64 t234)], .b false, .r [.ro (.v (.int .i64 t235))] [.sl 1 (rX (cI .u8) s0_0), .v (.int .i64 t236)], .p 34 ([[.v (.string (⟨#[]⟩ : ByteArray))], [.v (.string (⟨#[91]⟩ : ByteArray))], [.v (.string (⟨#[93]⟩ : ByteArray))], [.v (.string (⟨#[44]⟩ : ByteArray))], [.v (.string (⟨#[48]⟩ : ByteArray))], [.v (.string (⟨#[120]⟩ : ByteArray))], [.v (.string (⟨#[57, 57, 57, 57, 57]⟩ : ByteArray))]]), .r [.ro (.v (.string t240))] [.sl 1 (rX (cI .u8) s0_0), .v (.int .i64 t241)], .r [.ro (.v (.int .i64 t242))] [.sl 1 (rX (cI .u8) s0_0), .v (.int .i64 t243)]]) (os := [.o [(0, 0), (1, 0), (2, 0), (3, 0), (7, 0), (8, 0), (9, 0), (14, 0), (4, 2), (5, 2), (6, 0), (10, 2), (11, 0), (12, 0), (13, 0), (15, 0), (16, 0)] [5, 10]]) (c := none) rfl KD ?_
               cases h
               exact ret_as (ms := [.ro, .ro]) rfl KD
             · rw [if_neg c15] at h
               cases h
           · rw [if_neg c14] at h
             cases h
         · rw [if_neg c13] at h
           cases h
       · rw [if_neg c11] at h
         cases h
     · rw [if_neg c9] at h
       cases h
   · rw [if_neg c8] at h
     cases h
theorem spec_l1Some.cs (k : Nat) : spec_l1Some.C k := by
 induction k using Nat.strongRecOn with
 | _ k ih0 =>
 have ih : Kp (∀ m, m < k → spec_l1Some.C m) := ⟨ih0⟩
 exact ⟨spec_l1Some.c_j0 k ih⟩
set_option maxRecDepth 100000 in
set_option maxHeartbeats 4000000 in
theorem spec_l1Some.ctr (k : Nat) (s0_0 : List Int) (s0_1 : Int) (r1 : ByteArray) (r2 : Int) (r3 : Int) (h : spec_l1Some.f k s0_0 s0_1 = some (r1, r2, r3)) : Ctr TE 31 (some (88, [.sl 1 (rX (cI .u8) s0_0), .v (.int .i64 s0_1)])) [.pt 0 0 0] [.ro (.v (.string r1)), .ro (.v (.int .i64 r2))] [.sl 1 (rX (cI .u8) s0_0), .v (.int .i64 r3)] := by
 refine ctr_of (fn := Tryd.f31) (c := (bodyOf Tryd.f31)) Tryd.func31 rfl (by kernel_rfl) (Nat.le_of_ble_eq_true (by kernel_rfl)) (fun w ro B hF _ => ?_)
 have ih : Kp (∀ m, m < k + 1 → spec_l1Some.C m) := ⟨fun m _ => spec_l1Some.cs m⟩
 simp only [spec_l1Some.f] at h
 obtain ⟨⟨t227, t228⟩, q1, h⟩ := Option.bind_eq_some_iff.1 h
 dsimp only at h
 have q1c := spec_l1Depth.ctr k _ _ _ _ q1
 obtain ⟨⟨t229, t230⟩, q2, h⟩ := Option.bind_eq_some_iff.1 h
 dsimp only at h
 have q2c := spec_l1Draw.ctr k _ _ _ _ _ q2
 by_cases c3 : (t229.size : Int) > 100
 · rw [if_pos c3] at h
   obtain ⟨⟨t231, t232⟩, q4, h⟩ := Option.bind_eq_some_iff.1 h
   dsimp only at h
   have q4c := spec_l1Draw.ctr k _ _ _ _ _ q4
   refine path_ok (k := 11) hF (RetQ_mild _ _ _ _ _ _ _ _) (ds := [.r [.ro (.v (.int .i64 t227))] [.sl 1 (rX (cI .u8) s0_0), .v (.int .i64 t228)], .r [.ro (.v (.string t229))] [.sl 1 (rX (cI .u8) s0_0), .v (.int .i64 t230)], .b true, .r [.ro (.v (.string t231))] [.sl 1 (rX (cI .u8) s0_0), .v (.int .i64 t232)]]) (os := []) (c := none) rfl KD ?_
   exact WS.can [(0, some 0)] (((ih.out k (by omega)).s_j0 s0_0 s0_1 r1 r2 r3 w ro B hF t227 t231 t232 h).out) KD
 · rw [if_neg c3] at h
   refine path_ok (k := 11) hF (RetQ_mild _ _ _ _ _ _ _ _) (ds := [.r [.ro (.v (.int .i64 t227))] [.sl 1 (rX (cI .u8) s0_0), .v (.int .i64 t228)], .r [.ro (.v (.string t229))] [.sl 1 (rX (cI .u8) s0_0), .v (.int .i64 t230)], .b false]) (os := []) (c := none) rfl KD ?_
   exact WS.can [(0, some 0)] (((ih.out k (by omega)).s_j0 s0_0 s0_1 r1 r2 r3 w ro B hF t227 t229 t230 h).out) KD
def spec_DrawShapeOf.f (k : Nat) (l0 : List Int) : Option (ByteArray × Int) := (spec_l13Open.f l0).bind fun bt244 => ((spec_l13Rd_pick.f k bt244.1 bt244.2 2).bind fun bt247 => (if bt247.1 = 0 then ((spec_l11Some.f k bt244.1 bt247.2).bind fun bt249 => (some (bt249.1, 2))) else ((spec_l1Some.f k bt244.1 bt247.2).bind fun bt251 => (some (bt251.1, bt251.2.1)))))
set_option maxRecDepth 100000 in
set_option maxHeartbeats 4000000 in
theorem spec_DrawShapeOf.ctr (k : Nat) (l0 : List Int) (r1 : ByteArray) (r2 : Int) (h : spec_DrawShapeOf.f k l0 = some (r1, r2)) : Ctr TE 6 none [.sl 1 (rX (cI .u8) l0)] [.ro (.v (.string r1)), .ro (.v (.int .i64 r2))] [] := by
 refine ctr_of (fn := Tryd.f6) (c := (bodyOf Tryd.f6)) Tryd.func6 rfl (by kernel_rfl) (Nat.le_of_ble_eq_true (by kernel_rfl)) (fun w ro B hF _ => ?_)
 simp only [spec_DrawShapeOf.f] at h
 obtain ⟨⟨t244, t245⟩, q1, h⟩ := Option.bind_eq_some_iff.1 h
 dsimp only at h
 have q1c := spec_l13Open.ctr _ _ _ q1
 obtain ⟨⟨t247, t248⟩, q2, h⟩ := Option.bind_eq_some_iff.1 h
 dsimp only at h
 have q2c := spec_l13Rd_pick.ctr k _ _ _ _ _ q2
 by_cases c3 : t247 = 0
 · rw [if_pos c3] at h
   obtain ⟨⟨t249, t250⟩, q4, h⟩ := Option.bind_eq_some_iff.1 h
   dsimp only at h
   have q4c := spec_l11Some.ctr k _ _ _ _ q4
   refine path_ok (k := 11) hF (RetQ_mild _ _ _ _ _ _ _ _) (ds := [.r [.nb 88 [.sl 1 (rX (cI .u8) t244), .v (.int .i64 t245)]] [], .r [.ro (.v (.int .i64 t247))] [.sl 1 (rX (cI .u8) t244), .v (.int .i64 t248)], .b true, .r [.ro (.v (.string t249))] [.sl 1 (rX (cI .u8) t244), .v (.int .i64 t250)]]) (os := []) (c := none) rfl KD ?_
   cases h
   exact ret_as (ms := [.ro, .ro]) rfl KD
 · rw [if_neg c3] at h
   obtain ⟨⟨t251, t252, t253⟩, q5, h⟩ := Option.bind_eq_some_iff.1 h
   dsimp only at h
   have q5c := spec_l1Some.ctr k _ _ _ _ _ q5
   refine path_ok (k := 12) hF (RetQ_mild _ _ _ _ _ _ _ _) (ds := [.r [.nb 88 [.sl 1 (rX (cI .u8) t244), .v (.int .i64 t245)]] [], .r [.ro (.v (.int .i64 t247))] [.sl 1 (rX (cI .u8) t244), .v (.int .i64 t248)], .b false, .r [.ro (.v (.string t251)), .ro (.v (.int .i64 t252))] [.sl 1 (rX (cI .u8) t244), .v (.int .i64 t253)]]) (os := []) (c := none) rfl KD ?_
   cases h
   exact ret_as (ms := [.ro, .ro]) rfl KD
end Go.Proofs.YtlhejcogdjelpaaDoor.H
