/- A part of the claim. -/
import Derived.Test.YtlhejcogdjelpaaDoorGFx0
import Derived.Test.YtlhejcogdjelpaaDoorGFx1
import Derived.Test.YtlhejcogdjelpaaDoorGFx2
import Derived.Test.YtlhejcogdjelpaaDoorGFSgc
-- PRINTED by print.py (a twelfth state) out of the translation. Not trusted: Lean checks it.
namespace Go.Proofs.YtlhejcogdjelpaaDoor.G
open Go.RowKit Go.Proofs.YtlhejcogdjelpaaDoorW.St Go.Proofs.YtlhejcogdjelpaaDoorW.PrintWords Go.Proofs.YtlhejcogdjelpaaDoorW.PrintLast Go.Proofs.YtlhejcogdjelpaaDoorW.PrintMore
attribute [local go_sem] max2_int min2_int max_two min_two max_three min_three max_four min_four   -- for this text's walks alone
set_option linter.unusedVariables false
set_option linter.unusedSimpArgs false
def spec_l13Rd_num.f (k : Nat) (s0_0 : List Int) (s0_1 : Int) (l1 : List Int) : Option (Int × Int) := (spec_l13Rd_pick.f k s0_0 s0_1 (l1.length : Int)).bind fun bt218 => (if 0 ≤ bt218.1 then (if bt218.1 < (l1.length : Int) then (some (rd l1 bt218.1, bt218.2)) else (none)) else (none))
set_option maxRecDepth 100000 in
set_option maxHeartbeats 4000000 in
theorem spec_l13Rd_num.ctr (k : Nat) (s0_0 : List Int) (s0_1 : Int) (l1 : List Int) (r1 : Int) (r2 : Int) (h : spec_l13Rd_num.f k s0_0 s0_1 l1 = some (r1, r2)) : Ctr TE 35 (some (88, [.sl 1 (rX (cI .u8) s0_0), .v (.int .i64 s0_1)])) [.pt 0 0 0, .sl 1 (rX (cI .i64) l1)] [.ro (.v (.int .i64 r1))] [.sl 1 (rX (cI .u8) s0_0), .v (.int .i64 r2)] := by
 refine ctr_of (fn := Tryd.f35) (c := (bodyOf Tryd.f35)) Tryd.func35 rfl (by kernel_rfl) (Nat.le_of_ble_eq_true (by kernel_rfl)) (fun w ro B hF _ => ?_)
 simp only [spec_l13Rd_num.f] at h
 obtain ⟨⟨t218, t219⟩, q1, h⟩ := Option.bind_eq_some_iff.1 h
 dsimp only at h
 have q1c := spec_l13Rd_pick.ctr k _ _ _ _ _ q1
 by_cases c2 : 0 ≤ t218
 · rw [if_pos c2] at h
   by_cases c3 : t218 < (l1.length : Int)
   · rw [if_pos c3] at h
     refine path_ok (k := 5) hF (RetQ_mild _ _ _ _ _ _ _ _) (ds := [.e 8 (.v (.int .i64 (l1.length : Int))), .r [.ro (.v (.int .i64 t218))] [.sl 1 (rX (cI .u8) s0_0), .v (.int .i64 t219)], .e 10 (.rf [.v (.int .i64 (rd l1 t218))])]) (os := []) (c := none) rfl KD ?_
     cases h
     exact ret_as (ms := [.ro]) rfl KD
   · rw [if_neg c3] at h
     cases h
 · rw [if_neg c2] at h
   cases h
def spec_l11Draw.l0 : Nat → Int → Int → List Int → Int → Int → List Int → Int → Option (ByteArray × Int)
  | 0, _, _, _, _, _, _, _ => none
  | k + 1, x1, x2, x7, x13, x14, x1000, x1001 => if x14 < x13 then ((spec_l13Rd_pick.f k x1000 x1001 50).bind fun bt224 => ((spec_l13Rd_num.f k x1000 bt224.2 (([1, 0, 2, 3, 10006, bt224.1] : List Int))).bind fun bt229 => (if x7.length < 17592186044416 then (spec_l11Draw.l0 k x1 x2 (x7 ++ [bt229.1]) x13 (wrap64 (x14 + 1)) x1000 bt229.2) else (none)))) else ((spec_FillShape.f k (([x1, x2] : List Int)) x7).bind fun bt237 => (some (bt237.1, x1001)))
def spec_l11Draw.f (k : Nat) (s0_0 : List Int) (s0_1 : Int) (a1 : Int) (a2 : Int) : Option (ByteArray × Int) := spec_l11Draw.l0 k a1 a2 (([] : List Int)) (wrap64 (a1 * a2)) 0 s0_0 s0_1
def spec_l11Draw.I0 (s0_0 : List Int) (s0_1 : Int) (r1 : ByteArray) (r2 : Int) (m : Nat) (σ : St) : Prop := ∃ (x1 : Int) (x2 : Int) (x7 : List Int) (x13 : Int) (x14 : Int) (x1001 : Int), spec_l11Draw.l0 m x1 x2 x7 x13 x14 s0_0 x1001 = some (r1, r2) ∧ σ = ⟨[(0, .pt 0 0 0), (1, .v (.int .i64 x1)), (2, .v (.int .i64 x2)), (7, .ow 1007 0), (13, .v (.int .i64 x13)), (14, .v (.int .i64 x14))], [(0, .box 0 88 true [.sl 1 (rX (cI .u8) s0_0), .v (.int .i64 x1001)]), (1007, .own 0 3 1 (rX (cI .i64) x7))]⟩
structure spec_l11Draw.C (k : Nat) : Prop where
 s_l0 : ∀ (s0_0 : List Int) (s0_1 : Int) (r1 : ByteArray) (r2 : Int) (w : World) (ro : Nat → Prop) (B : Nat) (_ : Fr TE (cx0 Tryd.f46 (some (88, [.sl 1 (rX (cI .u8) s0_0), .v (.int .i64 s0_1)])) w ro B)) (x1 : Int) (x2 : Int) (x7 : List Int) (x13 : Int) (x14 : Int) (x1001 : Int) (_ : spec_l11Draw.l0 k x1 x2 x7 x13 x14 s0_0 x1001 = some (r1, r2)), Kp (WS TE (cx0 Tryd.f46 (some (88, [.sl 1 (rX (cI .u8) s0_0), .v (.int .i64 s0_1)])) w ro B) (stkAt [1, 1, 0, 1, 0] [] (bodyOf Tryd.f46) []) ⟨[(0, .pt 0 0 0), (1, .v (.int .i64 x1)), (2, .v (.int .i64 x2)), (7, .ow 1007 0), (13, .v (.int .i64 x13)), (14, .v (.int .i64 x14))], [(0, .box 0 88 true [.sl 1 (rX (cI .u8) s0_0), .v (.int .i64 x1001)]), (1007, .own 0 3 1 (rX (cI .i64) x7))]⟩ (RetQ TE Tryd.f46 (some (88, [.sl 1 (rX (cI .u8) s0_0), .v (.int .i64 s0_1)])) [.ro (.v (.string r1))] [.sl 1 (rX (cI .u8) s0_0), .v (.int .i64 r2)] w ro B))
set_option maxRecDepth 100000 in
set_option maxHeartbeats 4000000 in
theorem spec_l11Draw.c_l0 (k : Nat) (ih : Kp (∀ m, m < k → spec_l11Draw.C m)) (s0_0 : List Int) (s0_1 : Int) (r1 : ByteArray) (r2 : Int) (w : World) (ro : Nat → Prop) (B : Nat) (hF : Fr TE (cx0 Tryd.f46 (some (88, [.sl 1 (rX (cI .u8) s0_0), .v (.int .i64 s0_1)])) w ro B)) (x1 : Int) (x2 : Int) (x7 : List Int) (x13 : Int) (x14 : Int) (x1001 : Int) (h : spec_l11Draw.l0 k x1 x2 x7 x13 x14 s0_0 x1001 = some (r1, r2)) : Kp (WS TE (cx0 Tryd.f46 (some (88, [.sl 1 (rX (cI .u8) s0_0), .v (.int .i64 s0_1)])) w ro B) (stkAt [1, 1, 0, 1, 0] [] (bodyOf Tryd.f46) []) ⟨[(0, .pt 0 0 0), (1, .v (.int .i64 x1)), (2, .v (.int .i64 x2)), (7, .ow 1007 0), (13, .v (.int .i64 x13)), (14, .v (.int .i64 x14))], [(0, .box 0 88 true [.sl 1 (rX (cI .u8) s0_0), .v (.int .i64 x1001)]), (1007, .own 0 3 1 (rX (cI .i64) x7))]⟩ (RetQ TE Tryd.f46 (some (88, [.sl 1 (rX (cI .u8) s0_0), .v (.int .i64 s0_1)])) [.ro (.v (.string r1))] [.sl 1 (rX (cI .u8) s0_0), .v (.int .i64 r2)] w ro B)) := by
 refine ⟨WS.loop (fun m σ => m ≤ k ∧ spec_l11Draw.I0 s0_0 s0_1 r1 r2 m σ) k ⟨Nat.le_refl k, x1, x2, x7, x13, x14, x1001, h, rfl⟩ (fun m σ' hI J0 hJ0 => ?_)⟩
 clear h
 obtain ⟨hk, x1, x2, x7, x13, x14, x1001, h, rfl⟩ := hI
 cases m with
 | zero => simp [spec_l11Draw.l0] at h
 | succ k' =>
 simp only [spec_l11Draw.l0] at h
 by_cases c1 : x14 < x13
 · rw [if_pos c1] at h
   obtain ⟨⟨t224, t225⟩, q2, h⟩ := Option.bind_eq_some_iff.1 h
   dsimp only at h
   have q2c := spec_l13Rd_pick.ctr k' _ _ _ _ _ q2
   obtain ⟨⟨t229, t230⟩, q3, h⟩ := Option.bind_eq_some_iff.1 h
   dsimp only at h
   have q3c := spec_l13Rd_num.ctr k' _ _ _ _ _ q3
   by_cases c4 : x7.length < 17592186044416
   · rw [if_pos c4] at h
     refine path_ok (k := 10) hF (RetQ_mild _ _ _ _ _ _ _ _) (ds := [.b true, .r [.ro (.v (.int .i64 t224))] [.sl 1 (rX (cI .u8) s0_0), .v (.int .i64 t225)], .p 20 ([[.v (.int .i64 1)], [.v (.int .i64 0)], [.v (.int .i64 2)], [.v (.int .i64 3)], [.v (.int .i64 10006)], [.v (.int .i64 t224)]]), .r [.ro (.v (.int .i64 t229))] [.sl 1 (rX (cI .u8) s0_0), .v (.int .i64 t230)], .p 22 ([[.v (.int .i64 t229)]]), .o 23 (rX (cI .i64) (x7 ++ [t229]))]) (os := []) (c := none) rfl KD ?_
     exact WS.lpc [(0, some 0), (1007, some 1007)] (hJ0 _ _ (Nat.lt_succ_self _) ⟨by omega, x1, x2, (x7 ++ [t229]), x13, (wrap64 (x14 + 1)), t230, h, rfl⟩) KD
   · rw [if_neg c4] at h
     cases h
 · rw [if_neg c1] at h
   obtain ⟨⟨t237, t238⟩, q5, h⟩ := Option.bind_eq_some_iff.1 h
   dsimp only at h
   have q5c := spec_FillShape.ctr k' _ _ _ _ q5
   refine path_ok (k := 10) hF (RetQ_mild _ _ _ _ _ _ _ _) (ds := [.b false, .p 28 ([[.v (.int .i64 x1)], [.v (.int .i64 x2)]]), .r [.ro (.v (.string t237)), .ro (.v (.bool t238))] []]) (os := []) (c := none) rfl KD ?_
   cases h
   exact ret_as (ms := [.ro]) rfl KD
theorem spec_l11Draw.cs (k : Nat) : spec_l11Draw.C k := by
 induction k using Nat.strongRecOn with
 | _ k ih0 =>
 have ih : Kp (∀ m, m < k → spec_l11Draw.C m) := ⟨ih0⟩
 exact ⟨spec_l11Draw.c_l0 k ih⟩
set_option maxRecDepth 100000 in
set_option maxHeartbeats 4000000 in
theorem spec_l11Draw.ctr (k : Nat) (s0_0 : List Int) (s0_1 : Int) (a1 : Int) (a2 : Int) (r1 : ByteArray) (r2 : Int) (h : spec_l11Draw.f k s0_0 s0_1 a1 a2 = some (r1, r2)) : Ctr TE 46 (some (88, [.sl 1 (rX (cI .u8) s0_0), .v (.int .i64 s0_1)])) [.pt 0 0 0, .v (.int .i64 a1), .v (.int .i64 a2)] [.ro (.v (.string r1))] [.sl 1 (rX (cI .u8) s0_0), .v (.int .i64 r2)] := by
 refine ctr_of (fn := Tryd.f46) (c := (bodyOf Tryd.f46)) Tryd.func46 rfl (by kernel_rfl) (Nat.le_of_ble_eq_true (by kernel_rfl)) (fun w ro B hF _ => ?_)
 have ih : Kp (∀ m, m < k + 1 → spec_l11Draw.C m) := ⟨fun m _ => spec_l11Draw.cs m⟩
 simp only [spec_l11Draw.f] at h
 refine path_ok (k := 8) hF (RetQ_mild _ _ _ _ _ _ _ _) (ds := [.p 10 ([])]) (os := []) (c := none) rfl KD ?_
 exact WS.can [(0, some 0), (1007, some 10)] (((ih.out k (by omega)).s_l0 s0_0 s0_1 r1 r2 w ro B hF a1 a2 (([] : List Int)) (wrap64 (a1 * a2)) 0 s0_1 h).out) KD
mutual
def spec_l1Draw.l0 : Nat → Int → ByteArray → Int → Int → List Int → Int → Option (ByteArray × Int)
  | 0, _, _, _, _, _, _ => none
  | k + 1, x1, x5, x17, x18, x1000, x1001 => if x18 < x17 then (if x18 > 0 then (if x5.size + 1 ≤ 9223372036854775807 then ((spec_l1Draw.f k x1000 x1001 (wrap64 (x1 - 1))).bind fun bt252 => (if x5.size + 1 + bt252.1.size ≤ 9223372036854775807 then (spec_l1Draw.l0 k x1 ((x5 ++ (⟨#[44]⟩ : ByteArray)) ++ bt252.1) x17 (wrap64 (x18 + 1)) x1000 bt252.2) else (none))) else (none)) else ((spec_l1Draw.f k x1000 x1001 (wrap64 (x1 - 1))).bind fun bt254 => (if x5.size + bt254.1.size ≤ 9223372036854775807 then (spec_l1Draw.l0 k x1 (x5 ++ bt254.1) x17 (wrap64 (x18 + 1)) x1000 bt254.2) else (none)))) else (if x5.size + 1 ≤ 9223372036854775807 then (some (x5 ++ (⟨#[93]⟩ : ByteArray), x1001)) else (none))
def spec_l1Draw.f : Nat → List Int → Int → Int → Option (ByteArray × Int)
  | 0, _, _, _ => none
  | k + 1, s0_0, s0_1, a1 => if a1 = 0 then ((spec_l13Rd_pick.f k s0_0 s0_1 9).bind fun bt239 => ((spec_l13Rd_num.f k s0_0 bt239.2 (([1, 0, 2, 3, bt239.1, 5, 10006, 100] : List Int))).bind fun bt244 => ((spec_l13Dec.f k bt244.1).bind fun t246 => (some (t246, bt244.2))))) else ((spec_l13Rd_num.f k s0_0 s0_1 (([2, 0, 1, 3, 4] : List Int))).bind fun bt250 => (spec_l1Draw.l0 k a1 (⟨#[91]⟩ : ByteArray) bt250.1 0 s0_0 bt250.2))
end
def spec_l1Draw.I0 (s0_0 : List Int) (s0_1 : Int) (r1 : ByteArray) (r2 : Int) (m : Nat) (σ : St) : Prop := ∃ (x1 : Int) (x5 : ByteArray) (x17 : Int) (x18 : Int) (x1001 : Int), spec_l1Draw.l0 m x1 x5 x17 x18 s0_0 x1001 = some (r1, r2) ∧ σ = ⟨[(0, .pt 0 0 0), (1, .v (.int .i64 x1)), (5, .v (.string x5)), (17, .v (.int .i64 x17)), (18, .v (.int .i64 x18))], [(0, .box 0 88 true [.sl 1 (rX (cI .u8) s0_0), .v (.int .i64 x1001)])]⟩
structure spec_l1Draw.C (k : Nat) : Prop where
 s_f : ∀ (s0_0 : List Int) (s0_1 : Int) (a1 : Int) (r1 : ByteArray) (r2 : Int), spec_l1Draw.f k s0_0 s0_1 a1 = some (r1, r2) → Ctr TE 52 (some (88, [.sl 1 (rX (cI .u8) s0_0), .v (.int .i64 s0_1)])) [.pt 0 0 0, .v (.int .i64 a1)] [.ro (.v (.string r1))] [.sl 1 (rX (cI .u8) s0_0), .v (.int .i64 r2)]
 s_l0 : ∀ (s0_0 : List Int) (s0_1 : Int) (r1 : ByteArray) (r2 : Int) (w : World) (ro : Nat → Prop) (B : Nat) (_ : Fr TE (cx0 Tryd.f52 (some (88, [.sl 1 (rX (cI .u8) s0_0), .v (.int .i64 s0_1)])) w ro B)) (x1 : Int) (x5 : ByteArray) (x17 : Int) (x18 : Int) (x1001 : Int) (_ : spec_l1Draw.l0 k x1 x5 x17 x18 s0_0 x1001 = some (r1, r2)), Kp (WS TE (cx0 Tryd.f52 (some (88, [.sl 1 (rX (cI .u8) s0_0), .v (.int .i64 s0_1)])) w ro B) (stkAt [1, 1, 1, 0, 1, 0] [] (bodyOf Tryd.f52) []) ⟨[(0, .pt 0 0 0), (1, .v (.int .i64 x1)), (5, .v (.string x5)), (17, .v (.int .i64 x17)), (18, .v (.int .i64 x18))], [(0, .box 0 88 true [.sl 1 (rX (cI .u8) s0_0), .v (.int .i64 x1001)])]⟩ (RetQ TE Tryd.f52 (some (88, [.sl 1 (rX (cI .u8) s0_0), .v (.int .i64 s0_1)])) [.ro (.v (.string r1))] [.sl 1 (rX (cI .u8) s0_0), .v (.int .i64 r2)] w ro B))
set_option maxRecDepth 100000 in
set_option maxHeartbeats 4000000 in
theorem spec_l1Draw.c_f (k : Nat) (ih : Kp (∀ m, m < k → spec_l1Draw.C m)) (s0_0 : List Int) (s0_1 : Int) (a1 : Int) (r1 : ByteArray) (r2 : Int) (h : spec_l1Draw.f k s0_0 s0_1 a1 = some (r1, r2)) : Ctr TE 52 (some (88, [.sl 1 (rX (cI .u8) s0_0), .v (.int .i64 s0_1)])) [.pt 0 0 0, .v (.int .i64 a1)] [.ro (.v (.string r1))] [.sl 1 (rX (cI .u8) s0_0), .v (.int .i64 r2)] := by
 cases k with
 | zero => simp [spec_l1Draw.f] at h
 | succ k =>
 simp only [spec_l1Draw.f] at h
 refine ctr_of (fn := Tryd.f52) (c := (bodyOf Tryd.f52)) Tryd.func52 rfl (by kernel_rfl) (Nat.le_of_ble_eq_true (by kernel_rfl)) (fun w ro B hF _ => ?_)
 by_cases c1 : a1 = 0
 · rw [if_pos c1] at h
   obtain ⟨⟨t239, t240⟩, q2, h⟩ := Option.bind_eq_some_iff.1 h
   dsimp only at h
   have q2c := spec_l13Rd_pick.ctr k _ _ _ _ _ q2
   obtain ⟨⟨t244, t245⟩, q3, h⟩ := Option.bind_eq_some_iff.1 h
   dsimp only at h
   have q3c := spec_l13Rd_num.ctr k _ _ _ _ _ q3
   obtain ⟨t246, q4, h⟩ := Option.bind_eq_some_iff.1 h
   have q4c := spec_l13Dec.ctr k _ _ q4
   refine path_ok (k := 9) hF (RetQ_mild _ _ _ _ _ _ _ _) (ds := [.b true, .r [.ro (.v (.int .i64 t239))] [.sl 1 (rX (cI .u8) s0_0), .v (.int .i64 t240)], .p 12 ([[.v (.int .i64 1)], [.v (.int .i64 0)], [.v (.int .i64 2)], [.v (.int .i64 3)], [.v (.int .i64 t239)], [.v (.int .i64 5)], [.v (.int .i64 10006)], [.v (.int .i64 100)]]), .r [.ro (.v (.int .i64 t244))] [.sl 1 (rX (cI .u8) s0_0), .v (.int .i64 t245)], .r [.ro (.v (.string t246))] []]) (os := []) (c := none) rfl KD ?_
   cases h
   exact ret_as (ms := [.ro]) rfl KD
 · rw [if_neg c1] at h
   obtain ⟨⟨t250, t251⟩, q5, h⟩ := Option.bind_eq_some_iff.1 h
   dsimp only at h
   have q5c := spec_l13Rd_num.ctr k _ _ _ _ _ q5
   refine path_ok (k := 13) hF (RetQ_mild _ _ _ _ _ _ _ _) (ds := [.b false, .p 16 ([[.v (.int .i64 2)], [.v (.int .i64 0)], [.v (.int .i64 1)], [.v (.int .i64 3)], [.v (.int .i64 4)]]), .r [.ro (.v (.int .i64 t250))] [.sl 1 (rX (cI .u8) s0_0), .v (.int .i64 t251)]]) (os := []) (c := none) rfl KD ?_
   exact WS.can [(0, some 0)] (((ih.out k (by omega)).s_l0 s0_0 s0_1 r1 r2 w ro B hF a1 (⟨#[91]⟩ : ByteArray) t250 0 t251 h).out) KD
set_option maxRecDepth 100000 in
set_option maxHeartbeats 4000000 in
theorem spec_l1Draw.c_l0 (k : Nat) (ih : Kp (∀ m, m < k → spec_l1Draw.C m)) (s0_0 : List Int) (s0_1 : Int) (r1 : ByteArray) (r2 : Int) (w : World) (ro : Nat → Prop) (B : Nat) (hF : Fr TE (cx0 Tryd.f52 (some (88, [.sl 1 (rX (cI .u8) s0_0), .v (.int .i64 s0_1)])) w ro B)) (x1 : Int) (x5 : ByteArray) (x17 : Int) (x18 : Int) (x1001 : Int) (h : spec_l1Draw.l0 k x1 x5 x17 x18 s0_0 x1001 = some (r1, r2)) : Kp (WS TE (cx0 Tryd.f52 (some (88, [.sl 1 (rX (cI .u8) s0_0), .v (.int .i64 s0_1)])) w ro B) (stkAt [1, 1, 1, 0, 1, 0] [] (bodyOf Tryd.f52) []) ⟨[(0, .pt 0 0 0), (1, .v (.int .i64 x1)), (5, .v (.string x5)), (17, .v (.int .i64 x17)), (18, .v (.int .i64 x18))], [(0, .box 0 88 true [.sl 1 (rX (cI .u8) s0_0), .v (.int .i64 x1001)])]⟩ (RetQ TE Tryd.f52 (some (88, [.sl 1 (rX (cI .u8) s0_0), .v (.int .i64 s0_1)])) [.ro (.v (.string r1))] [.sl 1 (rX (cI .u8) s0_0), .v (.int .i64 r2)] w ro B)) := by
 refine ⟨WS.loop (fun m σ => m ≤ k ∧ spec_l1Draw.I0 s0_0 s0_1 r1 r2 m σ) k ⟨Nat.le_refl k, x1, x5, x17, x18, x1001, h, rfl⟩ (fun m σ' hI J0 hJ0 => ?_)⟩
 clear h
 obtain ⟨hk, x1, x5, x17, x18, x1001, h, rfl⟩ := hI
 cases m with
 | zero => simp [spec_l1Draw.l0] at h
 | succ k' =>
 simp only [spec_l1Draw.l0] at h
 by_cases c6 : x18 < x17
 · rw [if_pos c6] at h
   by_cases c7 : x18 > 0
   · rw [if_pos c7] at h
     by_cases c8 : x5.size + 1 ≤ 9223372036854775807
     · rw [if_pos c8] at h
       obtain ⟨⟨t252, t253⟩, q9, h⟩ := Option.bind_eq_some_iff.1 h
       dsimp only at h
       have q9c := (ih.out k' (by omega)).s_f _ _ _ _ _ q9
       by_cases c10 : x5.size + 1 + t252.size ≤ 9223372036854775807
       · rw [if_pos c10] at h
         refine path_ok (k := 17) hF (RetQ_mild _ _ _ _ _ _ _ _) (ds := [.b true, .b true, .r [.ro (.v (.string t252))] [.sl 1 (rX (cI .u8) s0_0), .v (.int .i64 t253)]]) (os := []) (c := none) rfl KD ?_
         exact WS.lpc [(0, some 0)] (hJ0 _ _ (Nat.lt_succ_self _) ⟨by omega, x1, ((x5 ++ (⟨#[44]⟩ : ByteArray)) ++ t252), x17, (wrap64 (x18 + 1)), t253, h, rfl⟩) KD
       · rw [if_neg c10] at h
         cases h
     · rw [if_neg c8] at h
       cases h
   · rw [if_neg c7] at h
     obtain ⟨⟨t254, t255⟩, q11, h⟩ := Option.bind_eq_some_iff.1 h
     dsimp only at h
     have q11c := (ih.out k' (by omega)).s_f _ _ _ _ _ q11
     by_cases c12 : x5.size + t254.size ≤ 9223372036854775807
     · rw [if_pos c12] at h
       refine path_ok (k := 17) hF (RetQ_mild _ _ _ _ _ _ _ _) (ds := [.b true, .b false, .r [.ro (.v (.string t254))] [.sl 1 (rX (cI .u8) s0_0), .v (.int .i64 t255)]]) (os := []) (c := none) rfl KD ?_
       exact WS.lpc [(0, some 0)] (hJ0 _ _ (Nat.lt_succ_self _) ⟨by omega, x1, (x5 ++ t254), x17, (wrap64 (x18 + 1)), t255, h, rfl⟩) KD
     · rw [if_neg c12] at h
       cases h
 · rw [if_neg c6] at h
   by_cases c13 : x5.size + 1 ≤ 9223372036854775807
   · rw [if_pos c13] at h
     refine path_ok (k := 8) hF (RetQ_mild _ _ _ _ _ _ _ _) (ds := [.b false]) (os := []) (c := none) rfl KD ?_
     cases h
     exact ret_as (ms := [.ro]) rfl KD
   · rw [if_neg c13] at h
     cases h
theorem spec_l1Draw.cs (k : Nat) : spec_l1Draw.C k := by
 induction k using Nat.strongRecOn with
 | _ k ih0 =>
 have ih : Kp (∀ m, m < k → spec_l1Draw.C m) := ⟨ih0⟩
 exact ⟨spec_l1Draw.c_f k ih, spec_l1Draw.c_l0 k ih⟩
theorem spec_l1Draw.ctr (k : Nat) (s0_0 : List Int) (s0_1 : Int) (a1 : Int) (r1 : ByteArray) (r2 : Int) (h : spec_l1Draw.f k s0_0 s0_1 a1 = some (r1, r2)) : Ctr TE 52 (some (88, [.sl 1 (rX (cI .u8) s0_0), .v (.int .i64 s0_1)])) [.pt 0 0 0, .v (.int .i64 a1)] [.ro (.v (.string r1))] [.sl 1 (rX (cI .u8) s0_0), .v (.int .i64 r2)] := (spec_l1Draw.cs k).s_f s0_0 s0_1 a1 r1 r2 h
def spec_l13Rd_of.f (k : Nat) (s0_0 : List Int) (s0_1 : Int) (l1 : List ByteArray) : Option (ByteArray × Int) := (spec_l13Rd_pick.f k s0_0 s0_1 (l1.length : Int)).bind fun bt256 => (if 0 ≤ bt256.1 then (if bt256.1 < (l1.length : Int) then (some (rdOf ByteArray.empty l1 bt256.1, bt256.2)) else (none)) else (none))
set_option maxRecDepth 100000 in
set_option maxHeartbeats 4000000 in
theorem spec_l13Rd_of.ctr (k : Nat) (s0_0 : List Int) (s0_1 : Int) (l1 : List ByteArray) (r1 : ByteArray) (r2 : Int) (h : spec_l13Rd_of.f k s0_0 s0_1 l1 = some (r1, r2)) : Ctr TE 55 (some (88, [.sl 1 (rX (cI .u8) s0_0), .v (.int .i64 s0_1)])) [.pt 0 0 0, .sl 1 (rX cS l1)] [.ro (.v (.string r1))] [.sl 1 (rX (cI .u8) s0_0), .v (.int .i64 r2)] := by
 refine ctr_of (fn := Tryd.f55) (c := (bodyOf Tryd.f55)) Tryd.func55 rfl (by kernel_rfl) (Nat.le_of_ble_eq_true (by kernel_rfl)) (fun w ro B hF _ => ?_)
 simp only [spec_l13Rd_of.f] at h
 obtain ⟨⟨t256, t257⟩, q1, h⟩ := Option.bind_eq_some_iff.1 h
 dsimp only at h
 have q1c := spec_l13Rd_pick.ctr k _ _ _ _ _ q1
 by_cases c2 : 0 ≤ t256
 · rw [if_pos c2] at h
   by_cases c3 : t256 < (l1.length : Int)
   · rw [if_pos c3] at h
     refine path_ok (k := 5) hF (RetQ_mild _ _ _ _ _ _ _ _) (ds := [.e 8 (.v (.int .i64 (l1.length : Int))), .r [.ro (.v (.int .i64 t256))] [.sl 1 (rX (cI .u8) s0_0), .v (.int .i64 t257)], .e 10 (.rf [.v (.string (rdOf ByteArray.empty l1 t256))])]) (os := []) (c := none) rfl KD ?_
     cases h
     exact ret_as (ms := [.ro]) rfl KD
   · rw [if_neg c3] at h
     cases h
 · rw [if_neg c2] at h
   cases h
def spec_l11Some.f (k : Nat) (s0_0 : List Int) (s0_1 : Int) : Option (ByteArray × Int) := (spec_l13Rd_pick.f k s0_0 s0_1 4).bind fun bt259 => (if bt259.1 = 0 then ((spec_l1Draw.f k s0_0 bt259.2 2).bind fun bt261 => ((spec_l1Draw.f k s0_0 bt261.2 2).bind fun bt263 => ((spec_l13Rd_of.f k s0_0 bt263.2 (([bt261.1, bt263.1, (⟨#[91, 49, 93]⟩ : ByteArray), (⟨#[]⟩ : ByteArray)] : List ByteArray))).bind fun bt268 => (some (bt268.1, bt268.2))))) else ((spec_l13Rd_pick.f k s0_0 bt259.2 4).bind fun bt270 => ((spec_l13Rd_pick.f k s0_0 bt270.2 4).bind fun bt272 => ((spec_l11Draw.f k s0_0 bt272.2 bt270.1 bt272.1).bind fun bt274 => (some (bt274.1, bt274.2))))))
set_option maxRecDepth 100000 in
set_option maxHeartbeats 4000000 in
theorem spec_l11Some.ctr (k : Nat) (s0_0 : List Int) (s0_1 : Int) (r1 : ByteArray) (r2 : Int) (h : spec_l11Some.f k s0_0 s0_1 = some (r1, r2)) : Ctr TE 30 (some (88, [.sl 1 (rX (cI .u8) s0_0), .v (.int .i64 s0_1)])) [.pt 0 0 0] [.ro (.v (.string r1))] [.sl 1 (rX (cI .u8) s0_0), .v (.int .i64 r2)] := by
 refine ctr_of (fn := Tryd.f30) (c := (bodyOf Tryd.f30)) Tryd.func30 rfl (by kernel_rfl) (Nat.le_of_ble_eq_true (by kernel_rfl)) (fun w ro B hF _ => ?_)
 simp only [spec_l11Some.f] at h
 obtain ⟨⟨t259, t260⟩, q1, h⟩ := Option.bind_eq_some_iff.1 h
 dsimp only at h
 have q1c := spec_l13Rd_pick.ctr k _ _ _ _ _ q1
 by_cases c2 : t259 = 0
 · rw [if_pos c2] at h
   obtain ⟨⟨t261, t262⟩, q3, h⟩ := Option.bind_eq_some_iff.1 h
   dsimp only at h
   have q3c := spec_l1Draw.ctr k _ _ _ _ _ q3
   obtain ⟨⟨t263, t264⟩, q4, h⟩ := Option.bind_eq_some_iff.1 h
   dsimp only at h
   have q4c := spec_l1Draw.ctr k _ _ _ _ _ q4
   obtain ⟨⟨t268, t269⟩, q5, h⟩ := Option.bind_eq_some_iff.1 h
   dsimp only at h
   have q5c := spec_l13Rd_of.ctr k _ _ _ _ _ q5
   refine path_ok (k := 9) hF (RetQ_mild _ _ _ _ _ _ _ _) (ds := [.r [.ro (.v (.int .i64 t259))] [.sl 1 (rX (cI .u8) s0_0), .v (.int .i64 t260)], .b true, .r [.ro (.v (.string t261))] [.sl 1 (rX (cI .u8) s0_0), .v (.int .i64 t262)], .r [.ro (.v (.string t263))] [.sl 1 (rX (cI .u8) s0_0), .v (.int .i64 t264)], .p 11 ([[.v (.string t261)], [.v (.string t263)], [.v (.string (⟨#[91, 49, 93]⟩ : ByteArray))], [.v (.string (⟨#[]⟩ : ByteArray))]]), .r [.ro (.v (.string t268))] [.sl 1 (rX (cI .u8) s0_0), .v (.int .i64 t269)]]) (os := []) (c := none) rfl KD ?_
   cases h
   exact ret_as (ms := [.ro]) rfl KD
 · rw [if_neg c2] at h
   obtain ⟨⟨t270, t271⟩, q6, h⟩ := Option.bind_eq_some_iff.1 h
   dsimp only at h
   have q6c := spec_l13Rd_pick.ctr k _ _ _ _ _ q6
   obtain ⟨⟨t272, t273⟩, q7, h⟩ := Option.bind_eq_some_iff.1 h
   dsimp only at h
   have q7c := spec_l13Rd_pick.ctr k _ _ _ _ _ q7
   obtain ⟨⟨t274, t275⟩, q8, h⟩ := Option.bind_eq_some_iff.1 h
   dsimp only at h
   have q8c := spec_l11Draw.ctr k _ _ _ _ _ _ q8
   refine path_ok (k := 10) hF (RetQ_mild _ _ _ _ _ _ _ _) (ds := [.r [.ro (.v (.int .i64 t259))] [.sl 1 (rX (cI .u8) s0_0), .v (.int .i64 t260)], .b false, .r [.ro (.v (.int .i64 t270))] [.sl 1 (rX (cI .u8) s0_0), .v (.int .i64 t271)], .r [.ro (.v (.int .i64 t272))] [.sl 1 (rX (cI .u8) s0_0), .v (.int .i64 t273)], .r [.ro (.v (.string t274))] [.sl 1 (rX (cI .u8) s0_0), .v (.int .i64 t275)]]) (os := []) (c := none) rfl KD ?_
   cases h
   exact ret_as (ms := [.ro]) rfl KD
def spec_DrawMultiplyArrays.f (k : Nat) (l0 : List Int) : Option (ByteArray × ByteArray) := (spec_l13Open.f l0).bind fun bt276 => ((spec_l13Rd_pick.f k bt276.1 bt276.2 6).bind fun bt279 => (if bt279.1 = 0 then ((spec_l11Some.f k bt276.1 bt279.2).bind fun bt281 => ((spec_l11Some.f k bt276.1 bt281.2).bind fun bt283 => (some (bt281.1, bt283.1)))) else ((spec_l13Rd_pick.f k bt276.1 bt279.2 3).bind fun bt285 => ((spec_l13Rd_pick.f k bt276.1 bt285.2 3).bind fun bt287 => ((spec_l11Draw.f k bt276.1 bt287.2 (wrap64 (1 + bt287.1)) (wrap64 (1 + bt285.1))).bind fun bt289 => ((spec_l13Rd_pick.f k bt276.1 bt289.2 4).bind fun bt291 => ((spec_l11Draw.f k bt276.1 bt291.2 (wrap64 (1 + bt285.1)) bt291.1).bind fun bt293 => (some (bt289.1, bt293.1)))))))))
set_option maxRecDepth 100000 in
set_option maxHeartbeats 4000000 in
theorem spec_DrawMultiplyArrays.ctr (k : Nat) (l0 : List Int) (r1 : ByteArray) (r2 : ByteArray) (h : spec_DrawMultiplyArrays.f k l0 = some (r1, r2)) : Ctr TE 16 none [.sl 1 (rX (cI .u8) l0)] [.ro (.v (.string r1)), .ro (.v (.string r2))] [] := by
 refine ctr_of (fn := Tryd.f16) (c := (bodyOf Tryd.f16)) Tryd.func16 rfl (by kernel_rfl) (Nat.le_of_ble_eq_true (by kernel_rfl)) (fun w ro B hF _ => ?_)
 simp only [spec_DrawMultiplyArrays.f] at h
 obtain ⟨⟨t276, t277⟩, q1, h⟩ := Option.bind_eq_some_iff.1 h
 dsimp only at h
 have q1c := spec_l13Open.ctr _ _ _ q1
 obtain ⟨⟨t279, t280⟩, q2, h⟩ := Option.bind_eq_some_iff.1 h
 dsimp only at h
 have q2c := spec_l13Rd_pick.ctr k _ _ _ _ _ q2
 by_cases c3 : t279 = 0
 · rw [if_pos c3] at h
   obtain ⟨⟨t281, t282⟩, q4, h⟩ := Option.bind_eq_some_iff.1 h
   dsimp only at h
   have q4c := spec_l11Some.ctr k _ _ _ _ q4
   obtain ⟨⟨t283, t284⟩, q5, h⟩ := Option.bind_eq_some_iff.1 h
   dsimp only at h
   have q5c := spec_l11Some.ctr k _ _ _ _ q5
   refine path_ok (k := 13) hF (RetQ_mild _ _ _ _ _ _ _ _) (ds := [.r [.nb 88 [.sl 1 (rX (cI .u8) t276), .v (.int .i64 t277)]] [], .r [.ro (.v (.int .i64 t279))] [.sl 1 (rX (cI .u8) t276), .v (.int .i64 t280)], .b true, .r [.ro (.v (.string t281))] [.sl 1 (rX (cI .u8) t276), .v (.int .i64 t282)], .r [.ro (.v (.string t283))] [.sl 1 (rX (cI .u8) t276), .v (.int .i64 t284)]]) (os := []) (c := none) rfl KD ?_
   cases h
   exact ret_as (ms := [.ro, .ro]) rfl KD
 · rw [if_neg c3] at h
   obtain ⟨⟨t285, t286⟩, q6, h⟩ := Option.bind_eq_some_iff.1 h
   dsimp only at h
   have q6c := spec_l13Rd_pick.ctr k _ _ _ _ _ q6
   obtain ⟨⟨t287, t288⟩, q7, h⟩ := Option.bind_eq_some_iff.1 h
   dsimp only at h
   have q7c := spec_l13Rd_pick.ctr k _ _ _ _ _ q7
   obtain ⟨⟨t289, t290⟩, q8, h⟩ := Option.bind_eq_some_iff.1 h
   dsimp only at h
   have q8c := spec_l11Draw.ctr k _ _ _ _ _ _ q8
   obtain ⟨⟨t291, t292⟩, q9, h⟩ := Option.bind_eq_some_iff.1 h
   dsimp only at h
   have q9c := spec_l13Rd_pick.ctr k _ _ _ _ _ q9
   obtain ⟨⟨t293, t294⟩, q10, h⟩ := Option.bind_eq_some_iff.1 h
   dsimp only at h
   have q10c := spec_l11Draw.ctr k _ _ _ _ _ _ q10
   refine path_ok (k := 16) hF (RetQ_mild _ _ _ _ _ _ _ _) (ds := [.r [.nb 88 [.sl 1 (rX (cI .u8) t276), .v (.int .i64 t277)]] [], .r [.ro (.v (.int .i64 t279))] [.sl 1 (rX (cI .u8) t276), .v (.int .i64 t280)], .b false, .r [.ro (.v (.int .i64 t285))] [.sl 1 (rX (cI .u8) t276), .v (.int .i64 t286)], .r [.ro (.v (.int .i64 t287))] [.sl 1 (rX (cI .u8) t276), .v (.int .i64 t288)], .r [.ro (.v (.string t289))] [.sl 1 (rX (cI .u8) t276), .v (.int .i64 t290)], .r [.ro (.v (.int .i64 t291))] [.sl 1 (rX (cI .u8) t276), .v (.int .i64 t292)], .r [.ro (.v (.string t293))] [.sl 1 (rX (cI .u8) t276), .v (.int .i64 t294)]]) (os := []) (c := none) rfl KD ?_
   cases h
   exact ret_as (ms := [.ro, .ro]) rfl KD
mutual
def impl_arr_numbers.l0 : Nat → Int → List Int → List (S55) → Int → Int → Option (List Int)
  | 0, _, _, _, _, _ => none
  | k + 1, x1, x5, x15, x16, x17 => if x17 < x16 then (if 0 ≤ x17 then (if x17 < (x15.length : Int) then ((impl_arr_numbers.f k ((rd_T55 x15 x17).f0) ((rd_T55 x15 x17).f1) (wrap64 (x1 - 1))).bind fun t304 => (if x5.length + t304.length < 17592186044416 then (impl_arr_numbers.l0 k x1 (x5 ++ t304) x15 x16 (wrap64 (x17 + 1))) else (none))) else (none)) else (none)) else (some x5)
def impl_arr_numbers.f : Nat → Int → List (S55) → Int → Option (List Int)
  | 0, _, _, _ => none
  | k + 1, a0_0, l0_1, a1 => if a1 = 0 then (some (([a0_0] : List Int))) else (impl_arr_numbers.l0 k a1 (([] : List Int)) l0_1 (l0_1.length : Int) 0)
end
def impl_arr_numbers.I0 (r : List Int) (m : Nat) (σ : St) : Prop := ∃ (x1 : Int) (x5 : List Int) (x15 : List (S55)) (x16 : Int) (x17 : Int), impl_arr_numbers.l0 m x1 x5 x15 x16 x17 = some r ∧ σ = ⟨[(1, .v (.int .i64 x1)), (5, .ow 1005 0), (15, .sl 2 (r55 x15)), (16, .v (.int .i64 x16)), (17, .v (.int .i64 x17))], [(1005, .own 0 3 1 (rX (cI .i64) x5))]⟩
structure impl_arr_numbers.C (k : Nat) : Prop where
 s_f : ∀ (a0_0 : Int) (l0_1 : List (S55)) (a1 : Int) (r : List Int), impl_arr_numbers.f k a0_0 l0_1 a1 = some r → Ctr TE 45 none [.ag [.v (.int .i64 a0_0), .sl 2 (r55 l0_1)], .v (.int .i64 a1)] [.ro (.sl 1 (rX (cI .i64) r))] []
 s_l0 : ∀ (r : List Int) (w : World) (ro : Nat → Prop) (B : Nat) (_ : Fr TE (cx0 Tryd.f45 none w ro B)) (x1 : Int) (x5 : List Int) (x15 : List (S55)) (x16 : Int) (x17 : Int) (_ : impl_arr_numbers.l0 k x1 x5 x15 x16 x17 = some r), Kp (WS TE (cx0 Tryd.f45 none w ro B) (stkAt [1, 1, 1, 0, 1, 0] [] (bodyOf Tryd.f45) []) ⟨[(1, .v (.int .i64 x1)), (5, .ow 1005 0), (15, .sl 2 (r55 x15)), (16, .v (.int .i64 x16)), (17, .v (.int .i64 x17))], [(1005, .own 0 3 1 (rX (cI .i64) x5))]⟩ (RetQ TE Tryd.f45 none [.ro (.sl 1 (rX (cI .i64) r))] [] w ro B))
set_option maxRecDepth 100000 in
set_option maxHeartbeats 4000000 in
theorem impl_arr_numbers.c_f (k : Nat) (ih : Kp (∀ m, m < k → impl_arr_numbers.C m)) (a0_0 : Int) (l0_1 : List (S55)) (a1 : Int) (r : List Int) (h : impl_arr_numbers.f k a0_0 l0_1 a1 = some r) : Ctr TE 45 none [.ag [.v (.int .i64 a0_0), .sl 2 (r55 l0_1)], .v (.int .i64 a1)] [.ro (.sl 1 (rX (cI .i64) r))] [] := by
 cases k with
 | zero => simp [impl_arr_numbers.f] at h
 | succ k =>
 simp only [impl_arr_numbers.f] at h
 refine ctr_of (fn := Tryd.f45) (c := (bodyOf Tryd.f45)) Tryd.func45 rfl (by kernel_rfl) (Nat.le_of_ble_eq_true (by kernel_rfl)) (fun w ro B hF _ => ?_)
 by_cases c1 : a1 = 0
 · rw [if_pos c1] at h
   refine path_ok (k := 9) hF (RetQ_mild _ _ _ _ _ _ _ _) (ds := [.b true, .p 12 ([[.v (.int .i64 a0_0)]])]) (os := []) (c := none) rfl KD ?_
   cases h
   exact ret_as (ms := [.ro]) rfl KD
 · rw [if_neg c1] at h
   refine path_ok (k := 13) hF (RetQ_mild _ _ _ _ _ _ _ _) (ds := [.b false, .p 13 ([]), .e 16 (.v (.int .i64 (l0_1.length : Int)))]) (os := []) (c := none) rfl KD ?_
   exact WS.can [(1005, some 13)] (((ih.out k (by omega)).s_l0  r w ro B hF a1 (([] : List Int)) l0_1 (l0_1.length : Int) 0 h).out) KD
set_option maxRecDepth 100000 in
set_option maxHeartbeats 4000000 in
theorem impl_arr_numbers.c_l0 (k : Nat) (ih : Kp (∀ m, m < k → impl_arr_numbers.C m)) (r : List Int) (w : World) (ro : Nat → Prop) (B : Nat) (hF : Fr TE (cx0 Tryd.f45 none w ro B)) (x1 : Int) (x5 : List Int) (x15 : List (S55)) (x16 : Int) (x17 : Int) (h : impl_arr_numbers.l0 k x1 x5 x15 x16 x17 = some r) : Kp (WS TE (cx0 Tryd.f45 none w ro B) (stkAt [1, 1, 1, 0, 1, 0] [] (bodyOf Tryd.f45) []) ⟨[(1, .v (.int .i64 x1)), (5, .ow 1005 0), (15, .sl 2 (r55 x15)), (16, .v (.int .i64 x16)), (17, .v (.int .i64 x17))], [(1005, .own 0 3 1 (rX (cI .i64) x5))]⟩ (RetQ TE Tryd.f45 none [.ro (.sl 1 (rX (cI .i64) r))] [] w ro B)) := by
 refine ⟨WS.loop (fun m σ => m ≤ k ∧ impl_arr_numbers.I0 r m σ) k ⟨Nat.le_refl k, x1, x5, x15, x16, x17, h, rfl⟩ (fun m σ' hI J0 hJ0 => ?_)⟩
 clear h
 obtain ⟨hk, x1, x5, x15, x16, x17, h, rfl⟩ := hI
 cases m with
 | zero => simp [impl_arr_numbers.l0] at h
 | succ k' =>
 simp only [impl_arr_numbers.l0] at h
 by_cases c2 : x17 < x16
 · rw [if_pos c2] at h
   by_cases c3 : 0 ≤ x17
   · rw [if_pos c3] at h
     by_cases c4 : x17 < (x15.length : Int)
     · rw [if_pos c4] at h
       obtain ⟨t304, q5, h⟩ := Option.bind_eq_some_iff.1 h
       have q5c := (ih.out k' (by omega)).s_f _ _ _ _ q5
       by_cases c6 : x5.length + t304.length < 17592186044416
       · rw [if_pos c6] at h
         refine path_ok (k := 12) hF (RetQ_mild _ _ _ _ _ _ _ _) (ds := [.b true, .e 19 (.rf [.v (.int .i64 ((rd_T55 x15 x17).f0)), .sl 2 (r55 ((rd_T55 x15 x17).f1))]), .r [.ro (.sl 1 (rX (cI .i64) t304))] [], .o 26 (rX (cI .i64) (x5 ++ t304))]) (os := []) (c := none) rfl KD ?_
         exact WS.lpc [(1005, some 1005)] (hJ0 _ _ (Nat.lt_succ_self _) ⟨by omega, x1, (x5 ++ t304), x15, x16, (wrap64 (x17 + 1)), h, rfl⟩) KD
       · rw [if_neg c6] at h
         cases h
     · rw [if_neg c4] at h
       cases h
   · rw [if_neg c3] at h
     cases h
 · rw [if_neg c2] at h
   refine path_ok (k := 8) hF (RetQ_mild _ _ _ _ _ _ _ _) (ds := [.b false]) (os := []) (c := none) rfl KD ?_
   cases h
   exact ret_as (ms := [.ro]) rfl KD
theorem impl_arr_numbers.cs (k : Nat) : impl_arr_numbers.C k := by
 induction k using Nat.strongRecOn with
 | _ k ih0 =>
 have ih : Kp (∀ m, m < k → impl_arr_numbers.C m) := ⟨ih0⟩
 exact ⟨impl_arr_numbers.c_f k ih, impl_arr_numbers.c_l0 k ih⟩
theorem impl_arr_numbers.ctr (k : Nat) (a0_0 : Int) (l0_1 : List (S55)) (a1 : Int) (r : List Int) (h : impl_arr_numbers.f k a0_0 l0_1 a1 = some r) : Ctr TE 45 none [.ag [.v (.int .i64 a0_0), .sl 2 (r55 l0_1)], .v (.int .i64 a1)] [.ro (.sl 1 (rX (cI .i64) r))] [] := (impl_arr_numbers.cs k).s_f a0_0 l0_1 a1 r h
def impl_rowsOf.l0 : Nat → Bool → List (List Int) → List (S55) → Int → Int → Option ((List (List Int)) × Bool)
  | 0, _, _, _, _, _ => none
  | k + 1, x5, x6, x16, x17, x18 => if x18 < x17 then (if 0 ≤ x18 then (if x18 < (x16.length : Int) then ((impl_arr_numbers.f k ((rd_T55 x16 x18).f0) ((rd_T55 x16 x18).f1) 1).bind fun t321 => (if x6.length < 5864062014805 then (impl_rowsOf.l0 k x5 (x6 ++ [t321]) x16 x17 (wrap64 (x18 + 1))) else (none))) else (none)) else (none)) else (some (x6, x5))
def impl_rowsOf.f (k : Nat) (a0 : ByteArray) : Option ((List (List Int)) × Bool) := (impl_arrOf.f k a0 2).bind fun bt310 => (impl_rowsOf.l0 k bt310.2.2 (([] : List (List Int))) bt310.2.1 (bt310.2.1.length : Int) 0)
def impl_rowsOf.I0 (r1 : List (List Int)) (r2 : Bool) (m : Nat) (σ : St) : Prop := ∃ (x5 : Bool) (x6 : List (List Int)) (x16 : List (S55)) (x17 : Int) (x18 : Int), impl_rowsOf.l0 m x5 x6 x16 x17 x18 = some (r1, r2) ∧ σ = ⟨[(5, .v (.bool x5)), (6, .ow 1006 0), (16, .sl 2 (r55 x16)), (17, .v (.int .i64 x17)), (18, .v (.int .i64 x18))], [(1006, .own 0 25 1 (rX (cL (cI .i64) 1) x6))]⟩
structure impl_rowsOf.C (k : Nat) : Prop where
 s_l0 : ∀ (r1 : List (List Int)) (r2 : Bool) (w : World) (ro : Nat → Prop) (B : Nat) (_ : Fr TE (cx0 Tryd.f47 none w ro B)) (x5 : Bool) (x6 : List (List Int)) (x16 : List (S55)) (x17 : Int) (x18 : Int) (_ : impl_rowsOf.l0 k x5 x6 x16 x17 x18 = some (r1, r2)), Kp (WS TE (cx0 Tryd.f47 none w ro B) (stkAt [1, 1, 1, 0, 1, 0] [] (bodyOf Tryd.f47) []) ⟨[(5, .v (.bool x5)), (6, .ow 1006 0), (16, .sl 2 (r55 x16)), (17, .v (.int .i64 x17)), (18, .v (.int .i64 x18))], [(1006, .own 0 25 1 (rX (cL (cI .i64) 1) x6))]⟩ (RetQ TE Tryd.f47 none [.own 25 1 (rX (cL (cI .i64) 1) r1), .ro (.v (.bool r2))] [] w ro B))
set_option maxRecDepth 100000 in
set_option maxHeartbeats 4000000 in
theorem impl_rowsOf.c_l0 (k : Nat) (ih : Kp (∀ m, m < k → impl_rowsOf.C m)) (r1 : List (List Int)) (r2 : Bool) (w : World) (ro : Nat → Prop) (B : Nat) (hF : Fr TE (cx0 Tryd.f47 none w ro B)) (x5 : Bool) (x6 : List (List Int)) (x16 : List (S55)) (x17 : Int) (x18 : Int) (h : impl_rowsOf.l0 k x5 x6 x16 x17 x18 = some (r1, r2)) : Kp (WS TE (cx0 Tryd.f47 none w ro B) (stkAt [1, 1, 1, 0, 1, 0] [] (bodyOf Tryd.f47) []) ⟨[(5, .v (.bool x5)), (6, .ow 1006 0), (16, .sl 2 (r55 x16)), (17, .v (.int .i64 x17)), (18, .v (.int .i64 x18))], [(1006, .own 0 25 1 (rX (cL (cI .i64) 1) x6))]⟩ (RetQ TE Tryd.f47 none [.own 25 1 (rX (cL (cI .i64) 1) r1), .ro (.v (.bool r2))] [] w ro B)) := by
 refine ⟨WS.loop (fun m σ => m ≤ k ∧ impl_rowsOf.I0 r1 r2 m σ) k ⟨Nat.le_refl k, x5, x6, x16, x17, x18, h, rfl⟩ (fun m σ' hI J0 hJ0 => ?_)⟩
 clear h
 obtain ⟨hk, x5, x6, x16, x17, x18, h, rfl⟩ := hI
 cases m with
 | zero => simp [impl_rowsOf.l0] at h
 | succ k' =>
 simp only [impl_rowsOf.l0] at h
 by_cases c2 : x18 < x17
 · rw [if_pos c2] at h
   by_cases c3 : 0 ≤ x18
   · rw [if_pos c3] at h
     by_cases c4 : x18 < (x16.length : Int)
     · rw [if_pos c4] at h
       obtain ⟨t321, q5, h⟩ := Option.bind_eq_some_iff.1 h
       have q5c := impl_arr_numbers.ctr k' _ _ _ _ q5
       by_cases c6 : x6.length < 5864062014805
       · rw [if_pos c6] at h
         refine path_ok (k := 12) hF (RetQ_mild _ _ _ _ _ _ _ _) (ds := [.b true, .e 20 (.rf [.v (.int .i64 ((rd_T55 x16 x18).f0)), .sl 2 (r55 ((rd_T55 x16 x18).f1))]), .r [.ro (.sl 1 (rX (cI .i64) t321))] [], .p 25 ([[.sl 1 (rX (cI .i64) t321)]]), .o 26 (rX (cL (cI .i64) 1) (x6 ++ [t321]))]) (os := []) (c := none) rfl KD ?_
         exact WS.lpc [(1006, some 1006)] (hJ0 _ _ (Nat.lt_succ_self _) ⟨by omega, x5, (x6 ++ [t321]), x16, x17, (wrap64 (x18 + 1)), h, rfl⟩) KD
       · rw [if_neg c6] at h
         cases h
     · rw [if_neg c4] at h
       cases h
   · rw [if_neg c3] at h
     cases h
 · rw [if_neg c2] at h
   refine path_ok (k := 8) hF (RetQ_mild _ _ _ _ _ _ _ _) (ds := [.b false]) (os := []) (c := none) rfl KD ?_
   cases h
   exact ret_as (ms := [.own, .ro]) rfl KD
theorem impl_rowsOf.cs (k : Nat) : impl_rowsOf.C k := by
 induction k using Nat.strongRecOn with
 | _ k ih0 =>
 have ih : Kp (∀ m, m < k → impl_rowsOf.C m) := ⟨ih0⟩
 exact ⟨impl_rowsOf.c_l0 k ih⟩
set_option maxRecDepth 100000 in
set_option maxHeartbeats 4000000 in
theorem impl_rowsOf.ctr (k : Nat) (a0 : ByteArray) (r1 : List (List Int)) (r2 : Bool) (h : impl_rowsOf.f k a0 = some (r1, r2)) : Ctr TE 47 none [.v (.string a0)] [.own 25 1 (rX (cL (cI .i64) 1) r1), .ro (.v (.bool r2))] [] := by
 refine ctr_of (fn := Tryd.f47) (c := (bodyOf Tryd.f47)) Tryd.func47 rfl (by kernel_rfl) (Nat.le_of_ble_eq_true (by kernel_rfl)) (fun w ro B hF _ => ?_)
 have ih : Kp (∀ m, m < k + 1 → impl_rowsOf.C m) := ⟨fun m _ => impl_rowsOf.cs m⟩
 simp only [impl_rowsOf.f] at h
 obtain ⟨⟨t310, t311, t314⟩, q1, h⟩ := Option.bind_eq_some_iff.1 h
 dsimp only at h
 have q1c := impl_arrOf.ctr k _ _ _ _ _ q1
 refine path_ok (k := 10) hF (RetQ_mild _ _ _ _ _ _ _ _) (ds := [.r [.ro (.ag [.v (.int .i64 t310), .sl 2 (r55 t311)]), .ro (.v (.bool t314))] [], .p 14 ([]), .e 17 (.v (.int .i64 (t311.length : Int)))]) (os := []) (c := none) rfl KD ?_
 exact WS.can [(1006, some 14)] (((ih.out k (by omega)).s_l0  r1 r2 w ro B hF t314 (([] : List (List Int))) t311 (t311.length : Int) 0 h).out) KD
mutual
def impl_arr_text.l0 : Nat → Int → List ByteArray → List (S55) → Int → Int → Option (ByteArray)
  | 0, _, _, _, _, _ => none
  | k + 1, x1, x5, x15, x16, x17 => if x17 < x16 then (if 0 ≤ x17 then (if x17 < (x15.length : Int) then ((impl_arr_text.f k ((rd_T55 x15 x17).f0) ((rd_T55 x15 x17).f1) (wrap64 (x1 - 1))).bind fun t334 => (if x5.length < 8796093022208 then (impl_arr_text.l0 k x1 (x5 ++ [t334]) x15 x16 (wrap64 (x17 + 1))) else (none))) else (none)) else (none)) else ((strings_Join.f x5 (⟨#[44]⟩ : ByteArray)).bind fun t338 => (if 1 + t338.size ≤ 9223372036854775807 then (if 1 + t338.size + 1 ≤ 9223372036854775807 then (some (((⟨#[91]⟩ : ByteArray) ++ t338) ++ (⟨#[93]⟩ : ByteArray))) else (none)) else (none)))
def impl_arr_text.f : Nat → Int → List (S55) → Int → Option (ByteArray)
  | 0, _, _, _ => none
  | k + 1, a0_0, l0_1, a1 => if a1 = 0 then ((strconv_Itoa.f a0_0).bind fun t328 => (some t328)) else (impl_arr_text.l0 k a1 (([] : List ByteArray)) l0_1 (l0_1.length : Int) 0)
end
def impl_arr_text.I0 (r : ByteArray) (m : Nat) (σ : St) : Prop := ∃ (x1 : Int) (x5 : List ByteArray) (x15 : List (S55)) (x16 : Int) (x17 : Int), impl_arr_text.l0 m x1 x5 x15 x16 x17 = some r ∧ σ = ⟨[(1, .v (.int .i64 x1)), (5, .ow 1005 0), (15, .sl 2 (r55 x15)), (16, .v (.int .i64 x16)), (17, .v (.int .i64 x17))], [(1005, .own 0 9 1 (rX cS x5))]⟩
structure impl_arr_text.C (k : Nat) : Prop where
 s_f : ∀ (a0_0 : Int) (l0_1 : List (S55)) (a1 : Int) (r : ByteArray), impl_arr_text.f k a0_0 l0_1 a1 = some r → Ctr TE 54 none [.ag [.v (.int .i64 a0_0), .sl 2 (r55 l0_1)], .v (.int .i64 a1)] [.ro (.v (.string r))] []
 s_l0 : ∀ (r : ByteArray) (w : World) (ro : Nat → Prop) (B : Nat) (_ : Fr TE (cx0 Tryd.f54 none w ro B)) (x1 : Int) (x5 : List ByteArray) (x15 : List (S55)) (x16 : Int) (x17 : Int) (_ : impl_arr_text.l0 k x1 x5 x15 x16 x17 = some r), Kp (WS TE (cx0 Tryd.f54 none w ro B) (stkAt [1, 1, 1, 0, 1, 0] [] (bodyOf Tryd.f54) []) ⟨[(1, .v (.int .i64 x1)), (5, .ow 1005 0), (15, .sl 2 (r55 x15)), (16, .v (.int .i64 x16)), (17, .v (.int .i64 x17))], [(1005, .own 0 9 1 (rX cS x5))]⟩ (RetQ TE Tryd.f54 none [.ro (.v (.string r))] [] w ro B))
set_option maxRecDepth 100000 in
set_option maxHeartbeats 4000000 in
theorem impl_arr_text.c_f (k : Nat) (ih : Kp (∀ m, m < k → impl_arr_text.C m)) (a0_0 : Int) (l0_1 : List (S55)) (a1 : Int) (r : ByteArray) (h : impl_arr_text.f k a0_0 l0_1 a1 = some r) : Ctr TE 54 none [.ag [.v (.int .i64 a0_0), .sl 2 (r55 l0_1)], .v (.int .i64 a1)] [.ro (.v (.string r))] [] := by
 cases k with
 | zero => simp [impl_arr_text.f] at h
 | succ k =>
 simp only [impl_arr_text.f] at h
 refine ctr_of (fn := Tryd.f54) (c := (bodyOf Tryd.f54)) Tryd.func54 rfl (by kernel_rfl) (Nat.le_of_ble_eq_true (by kernel_rfl)) (fun w ro B hF _ => ?_)
 by_cases c1 : a1 = 0
 · rw [if_pos c1] at h
   obtain ⟨t328, q2, h⟩ := Option.bind_eq_some_iff.1 h
   have q2c := strconv_Itoa.ctr _ _ q2
   refine path_ok (k := 9) hF (RetQ_mild _ _ _ _ _ _ _ _) (ds := [.b true, .r [.ro (.v (.string t328))] []]) (os := []) (c := none) rfl KD ?_
   cases h
   exact ret_as (ms := [.ro]) rfl KD
 · rw [if_neg c1] at h
   refine path_ok (k := 13) hF (RetQ_mild _ _ _ _ _ _ _ _) (ds := [.b false, .p 13 ([]), .e 16 (.v (.int .i64 (l0_1.length : Int)))]) (os := []) (c := none) rfl KD ?_
   exact WS.can [(1005, some 13)] (((ih.out k (by omega)).s_l0  r w ro B hF a1 (([] : List ByteArray)) l0_1 (l0_1.length : Int) 0 h).out) KD
set_option maxRecDepth 100000 in
set_option maxHeartbeats 4000000 in
theorem impl_arr_text.c_l0 (k : Nat) (ih : Kp (∀ m, m < k → impl_arr_text.C m)) (r : ByteArray) (w : World) (ro : Nat → Prop) (B : Nat) (hF : Fr TE (cx0 Tryd.f54 none w ro B)) (x1 : Int) (x5 : List ByteArray) (x15 : List (S55)) (x16 : Int) (x17 : Int) (h : impl_arr_text.l0 k x1 x5 x15 x16 x17 = some r) : Kp (WS TE (cx0 Tryd.f54 none w ro B) (stkAt [1, 1, 1, 0, 1, 0] [] (bodyOf Tryd.f54) []) ⟨[(1, .v (.int .i64 x1)), (5, .ow 1005 0), (15, .sl 2 (r55 x15)), (16, .v (.int .i64 x16)), (17, .v (.int .i64 x17))], [(1005, .own 0 9 1 (rX cS x5))]⟩ (RetQ TE Tryd.f54 none [.ro (.v (.string r))] [] w ro B)) := by
 refine ⟨WS.loop (fun m σ => m ≤ k ∧ impl_arr_text.I0 r m σ) k ⟨Nat.le_refl k, x1, x5, x15, x16, x17, h, rfl⟩ (fun m σ' hI J0 hJ0 => ?_)⟩
 clear h
 obtain ⟨hk, x1, x5, x15, x16, x17, h, rfl⟩ := hI
 cases m with
 | zero => simp [impl_arr_text.l0] at h
 | succ k' =>
 simp only [impl_arr_text.l0] at h
 by_cases c3 : x17 < x16
 · rw [if_pos c3] at h
   by_cases c4 : 0 ≤ x17
   · rw [if_pos c4] at h
     by_cases c5 : x17 < (x15.length : Int)
     · rw [if_pos c5] at h
       obtain ⟨t334, q6, h⟩ := Option.bind_eq_some_iff.1 h
       have q6c := (ih.out k' (by omega)).s_f _ _ _ _ q6
       by_cases c7 : x5.length < 8796093022208
       · rw [if_pos c7] at h
         refine path_ok (k := 12) hF (RetQ_mild _ _ _ _ _ _ _ _) (ds := [.b true, .e 19 (.rf [.v (.int .i64 ((rd_T55 x15 x17).f0)), .sl 2 (r55 ((rd_T55 x15 x17).f1))]), .r [.ro (.v (.string t334))] [], .p 26 ([[.v (.string t334)]]), .o 27 (rX cS (x5 ++ [t334]))]) (os := []) (c := none) rfl KD ?_
         exact WS.lpc [(1005, some 1005)] (hJ0 _ _ (Nat.lt_succ_self _) ⟨by omega, x1, (x5 ++ [t334]), x15, x16, (wrap64 (x17 + 1)), h, rfl⟩) KD
       · rw [if_neg c7] at h
         cases h
     · rw [if_neg c5] at h
       cases h
   · rw [if_neg c4] at h
     cases h
 · rw [if_neg c3] at h
   obtain ⟨t338, q8, h⟩ := Option.bind_eq_some_iff.1 h
   have q8c := strings_Join.ctr _ _ _ q8
   by_cases c9 : 1 + t338.size ≤ 9223372036854775807
   · rw [if_pos c9] at h
     by_cases c10 : 1 + t338.size + 1 ≤ 9223372036854775807
     · rw [if_pos c10] at h
       refine path_ok (k := 8) hF (RetQ_mild _ _ _ _ _ _ _ _) (ds := [.b false, .r [.ro (.v (.string t338))] []]) (os := []) (c := none) rfl KD ?_
       cases h
       exact ret_as (ms := [.ro]) rfl KD
     · rw [if_neg c10] at h
       cases h
   · rw [if_neg c9] at h
     cases h
theorem impl_arr_text.cs (k : Nat) : impl_arr_text.C k := by
 induction k using Nat.strongRecOn with
 | _ k ih0 =>
 have ih : Kp (∀ m, m < k → impl_arr_text.C m) := ⟨ih0⟩
 exact ⟨impl_arr_text.c_f k ih, impl_arr_text.c_l0 k ih⟩
theorem impl_arr_text.ctr (k : Nat) (a0_0 : Int) (l0_1 : List (S55)) (a1 : Int) (r : ByteArray) (h : impl_arr_text.f k a0_0 l0_1 a1 = some r) : Ctr TE 54 none [.ag [.v (.int .i64 a0_0), .sl 2 (r55 l0_1)], .v (.int .i64 a1)] [.ro (.v (.string r))] [] := (impl_arr_text.cs k).s_f a0_0 l0_1 a1 r h
def impl_arr_short.f (k : Nat) (a0_0 : Int) (l0_1 : List (S55)) (a1 : Int) : Option (ByteArray × Bool) := (impl_arr_text.f k a0_0 l0_1 a1).bind fun t340 => (if (t340.size : Int) > 400 then (some ((⟨#[]⟩ : ByteArray), false)) else (some (t340, true)))
set_option maxRecDepth 100000 in
set_option maxHeartbeats 4000000 in
theorem impl_arr_short.ctr (k : Nat) (a0_0 : Int) (l0_1 : List (S55)) (a1 : Int) (r1 : ByteArray) (r2 : Bool) (h : impl_arr_short.f k a0_0 l0_1 a1 = some (r1, r2)) : Ctr TE 39 none [.ag [.v (.int .i64 a0_0), .sl 2 (r55 l0_1)], .v (.int .i64 a1)] [.ro (.v (.string r1)), .ro (.v (.bool r2))] [] := by
 refine ctr_of (fn := Tryd.f39) (c := (bodyOf Tryd.f39)) Tryd.func39 rfl (by kernel_rfl) (Nat.le_of_ble_eq_true (by kernel_rfl)) (fun w ro B hF _ => ?_)
 simp only [impl_arr_short.f] at h
 obtain ⟨t340, q1, h⟩ := Option.bind_eq_some_iff.1 h
 have q1c := impl_arr_text.ctr k _ _ _ _ q1
 by_cases c2 : (t340.size : Int) > 400
 · rw [if_pos c2] at h
   refine path_ok (k := 11) hF (RetQ_mild _ _ _ _ _ _ _ _) (ds := [.r [.ro (.v (.string t340))] [], .b true]) (os := []) (c := none) rfl KD ?_
   cases h
   exact ret_as (ms := [.ro, .ro]) rfl KD
 · rw [if_neg c2] at h
   refine path_ok (k := 12) hF (RetQ_mild _ _ _ _ _ _ _ _) (ds := [.r [.ro (.v (.string t340))] [], .b false]) (os := []) (c := none) rfl KD ?_
   cases h
   exact ret_as (ms := [.ro, .ro]) rfl KD
mutual
def impl_rowed.l0 : Nat → List (List Int) → Int → Int → Int → List (S55) → Option (ByteArray × Bool)
  | 0, _, _, _, _, _ => none
  | k + 1, x10, x11, x12, x342000, x342001 => if x12 < x11 then (if 0 ≤ x12 then (if x12 < (x10.length : Int) then (impl_rowed.l1 k x10 x11 x12 (rd_L3 x10 x12) ((rd_L3 x10 x12).length : Int) 0 x342000 x342001 0 ([] : List (S55))) else (none)) else (none)) else ((impl_arr_short.f k x342000 x342001 2).bind fun bt342 => (some (bt342.1, bt342.2)))
def impl_rowed.l1 : Nat → List (List Int) → Int → Int → List Int → Int → Int → Int → List (S55) → Int → List (S55) → Option (ByteArray × Bool)
  | 0, _, _, _, _, _, _, _, _, _, _ => none
  | k + 1, x10, x11, x12, x16, x17, x18, x342000, x342001, x346000, x346001 => if x18 < x17 then (if 0 ≤ x18 then (if x18 < (x16.length : Int) then (if x346001.length < 4398046511104 then (impl_rowed.l1 k x10 x11 x12 x16 x17 (wrap64 (x18 + 1)) x342000 x342001 x346000 (x346001 ++ [(⟨rd x16 x18, ([] : List (S55))⟩ : S55)])) else (none)) else (none)) else (none)) else (if x342001.length < 4398046511104 then (impl_rowed.l0 k x10 x11 (wrap64 (x12 + 1)) x342000 (x342001 ++ [(⟨x346000, x346001⟩ : S55)])) else (none))
end
def impl_rowed.f (k : Nat) (l0 : List (List Int)) : Option (ByteArray × Bool) := impl_rowed.l0 k l0 (l0.length : Int) 0 0 ([] : List (S55))
def impl_rowed.I0 (r1 : ByteArray) (r2 : Bool) (m : Nat) (σ : St) : Prop := ∃ (x10 : List (List Int)) (x11 : Int) (x12 : Int) (x342000 : Int) (x342001 : List (S55)), impl_rowed.l0 m x10 x11 x12 x342000 x342001 = some (r1, r2) ∧ σ = ⟨[(4, .pt 1004 0 0), (10, .sl 1 (rX (cL (cI .i64) 1) x10)), (11, .v (.int .i64 x11)), (12, .v (.int .i64 x12))], [(3257, .own 0 55 2 (r55 x342001)), (1004, .box 0 55 false [.v (.int .i64 x342000), .ow 3257 0])]⟩
def impl_rowed.I1 (r1 : ByteArray) (r2 : Bool) (m : Nat) (σ : St) : Prop := ∃ (x10 : List (List Int)) (x11 : Int) (x12 : Int) (x16 : List Int) (x17 : Int) (x18 : Int) (x342000 : Int) (x342001 : List (S55)) (x346000 : Int) (x346001 : List (S55)), impl_rowed.l1 m x10 x11 x12 x16 x17 x18 x342000 x342001 x346000 x346001 = some (r1, r2) ∧ σ = ⟨[(4, .pt 1004 0 0), (7, .pt 1007 0 0), (10, .sl 1 (rX (cL (cI .i64) 1) x10)), (11, .v (.int .i64 x11)), (12, .v (.int .i64 x12)), (16, .sl 1 (rX (cI .i64) x16)), (17, .v (.int .i64 x17)), (18, .v (.int .i64 x18))], [(3257, .own 0 55 2 (r55 x342001)), (1004, .box 0 55 false [.v (.int .i64 x342000), .ow 3257 0]), (3449, .own 0 55 2 (r55 x346001)), (1007, .box 0 55 false [.v (.int .i64 x346000), .ow 3449 0])]⟩
structure impl_rowed.C (k : Nat) : Prop where
 s_l0 : ∀ (r1 : ByteArray) (r2 : Bool) (w : World) (ro : Nat → Prop) (B : Nat) (_ : Fr TE (cx0 Tryd.f48 none w ro B)) (x10 : List (List Int)) (x11 : Int) (x12 : Int) (x342000 : Int) (x342001 : List (S55)) (_ : impl_rowed.l0 k x10 x11 x12 x342000 x342001 = some (r1, r2)), Kp (WS TE (cx0 Tryd.f48 none w ro B) (stkAt [1, 1, 0, 1, 0] [] (bodyOf Tryd.f48) []) ⟨[(4, .pt 1004 0 0), (10, .sl 1 (rX (cL (cI .i64) 1) x10)), (11, .v (.int .i64 x11)), (12, .v (.int .i64 x12))], [(3257, .own 0 55 2 (r55 x342001)), (1004, .box 0 55 false [.v (.int .i64 x342000), .ow 3257 0])]⟩ (RetQ TE Tryd.f48 none [.ro (.v (.string r1)), .ro (.v (.bool r2))] [] w ro B))
 s_l1 : ∀ (r1 : ByteArray) (r2 : Bool) (w : World) (ro : Nat → Prop) (B : Nat) (_ : Fr TE (cx0 Tryd.f48 none w ro B)) (J0 : St → Prop) (_ : ∀ m σ, m ≤ k → impl_rowed.I0 r1 r2 m σ → J0 σ) (x10 : List (List Int)) (x11 : Int) (x12 : Int) (x16 : List Int) (x17 : Int) (x18 : Int) (x342000 : Int) (x342001 : List (S55)) (x346000 : Int) (x346001 : List (S55)) (_ : impl_rowed.l1 k x10 x11 x12 x16 x17 x18 x342000 x342001 x346000 x346001 = some (r1, r2)), Kp (WS TE (cx0 Tryd.f48 none w ro B) (stkAt [1, 1, 0, 1, 0, 0, 1, 1, 0, 0, 1, 1, 0, 1, 0] [J0] (bodyOf Tryd.f48) []) ⟨[(4, .pt 1004 0 0), (7, .pt 1007 0 0), (10, .sl 1 (rX (cL (cI .i64) 1) x10)), (11, .v (.int .i64 x11)), (12, .v (.int .i64 x12)), (16, .sl 1 (rX (cI .i64) x16)), (17, .v (.int .i64 x17)), (18, .v (.int .i64 x18))], [(3257, .own 0 55 2 (r55 x342001)), (1004, .box 0 55 false [.v (.int .i64 x342000), .ow 3257 0]), (3449, .own 0 55 2 (r55 x346001)), (1007, .box 0 55 false [.v (.int .i64 x346000), .ow 3449 0])]⟩ (RetQ TE Tryd.f48 none [.ro (.v (.string r1)), .ro (.v (.bool r2))] [] w ro B))
set_option maxRecDepth 100000 in
set_option maxHeartbeats 4000000 in
theorem impl_rowed.c_l0 (k : Nat) (ih : Kp (∀ m, m < k → impl_rowed.C m)) (r1 : ByteArray) (r2 : Bool) (w : World) (ro : Nat → Prop) (B : Nat) (hF : Fr TE (cx0 Tryd.f48 none w ro B)) (x10 : List (List Int)) (x11 : Int) (x12 : Int) (x342000 : Int) (x342001 : List (S55)) (h : impl_rowed.l0 k x10 x11 x12 x342000 x342001 = some (r1, r2)) : Kp (WS TE (cx0 Tryd.f48 none w ro B) (stkAt [1, 1, 0, 1, 0] [] (bodyOf Tryd.f48) []) ⟨[(4, .pt 1004 0 0), (10, .sl 1 (rX (cL (cI .i64) 1) x10)), (11, .v (.int .i64 x11)), (12, .v (.int .i64 x12))], [(3257, .own 0 55 2 (r55 x342001)), (1004, .box 0 55 false [.v (.int .i64 x342000), .ow 3257 0])]⟩ (RetQ TE Tryd.f48 none [.ro (.v (.string r1)), .ro (.v (.bool r2))] [] w ro B)) := by
 refine ⟨WS.loop (fun m σ => m ≤ k ∧ impl_rowed.I0 r1 r2 m σ) k ⟨Nat.le_refl k, x10, x11, x12, x342000, x342001, h, rfl⟩ (fun m σ' hI J0 hJ0 => ?_)⟩
 clear h
 obtain ⟨hk, x10, x11, x12, x342000, x342001, h, rfl⟩ := hI
 cases m with
 | zero => simp [impl_rowed.l0] at h
 | succ k' =>
 simp only [impl_rowed.l0] at h
 by_cases c1 : x12 < x11
 · rw [if_pos c1] at h
   by_cases c2 : 0 ≤ x12
   · rw [if_pos c2] at h
     by_cases c3 : x12 < (x10.length : Int)
     · rw [if_pos c3] at h
       refine path_ok (k := 15) hF (RetQ_mild _ _ _ _ _ _ _ _) (ds := [.b true, .e 14 (.rf [.sl 1 (rX (cI .i64) (rd_L3 x10 x12))]), .e 17 (.v (.int .i64 ((rd_L3 x10 x12).length : Int)))]) (os := []) (c := none) rfl KD ?_
       exact WS.can [(1004, some 1004), (3257, some 3257), (1007, some 7), (3449, none)] (((ih.out k' (by omega)).s_l1  r1 r2 w ro B hF J0 (fun m σ hm hI => hJ0 m σ (by omega) ⟨by omega, hI⟩) x10 x11 x12 (rd_L3 x10 x12) ((rd_L3 x10 x12).length : Int) 0 x342000 x342001 0 ([] : List (S55)) h).out) KD
     · rw [if_neg c3] at h
       cases h
   · rw [if_neg c2] at h
     cases h
 · rw [if_neg c1] at h
   obtain ⟨⟨t342, t343⟩, q4, h⟩ := Option.bind_eq_some_iff.1 h
   dsimp only at h
   have q4c := impl_arr_short.ctr k' _ _ _ _ _ q4
   refine path_ok (k := 8) hF (RetQ_mild _ _ _ _ _ _ _ _) (ds := [.b false, .r [.ro (.v (.string t342)), .ro (.v (.bool t343))] []]) (os := []) (c := none) rfl KD ?_
   cases h
   exact ret_as (ms := [.ro, .ro]) rfl KD
set_option maxRecDepth 100000 in
set_option maxHeartbeats 4000000 in
theorem impl_rowed.c_l1 (k : Nat) (ih : Kp (∀ m, m < k → impl_rowed.C m)) (r1 : ByteArray) (r2 : Bool) (w : World) (ro : Nat → Prop) (B : Nat) (hF : Fr TE (cx0 Tryd.f48 none w ro B)) (J0 : St → Prop) (hJ0 : ∀ m σ, m ≤ k → impl_rowed.I0 r1 r2 m σ → J0 σ) (x10 : List (List Int)) (x11 : Int) (x12 : Int) (x16 : List Int) (x17 : Int) (x18 : Int) (x342000 : Int) (x342001 : List (S55)) (x346000 : Int) (x346001 : List (S55)) (h : impl_rowed.l1 k x10 x11 x12 x16 x17 x18 x342000 x342001 x346000 x346001 = some (r1, r2)) : Kp (WS TE (cx0 Tryd.f48 none w ro B) (stkAt [1, 1, 0, 1, 0, 0, 1, 1, 0, 0, 1, 1, 0, 1, 0] [J0] (bodyOf Tryd.f48) []) ⟨[(4, .pt 1004 0 0), (7, .pt 1007 0 0), (10, .sl 1 (rX (cL (cI .i64) 1) x10)), (11, .v (.int .i64 x11)), (12, .v (.int .i64 x12)), (16, .sl 1 (rX (cI .i64) x16)), (17, .v (.int .i64 x17)), (18, .v (.int .i64 x18))], [(3257, .own 0 55 2 (r55 x342001)), (1004, .box 0 55 false [.v (.int .i64 x342000), .ow 3257 0]), (3449, .own 0 55 2 (r55 x346001)), (1007, .box 0 55 false [.v (.int .i64 x346000), .ow 3449 0])]⟩ (RetQ TE Tryd.f48 none [.ro (.v (.string r1)), .ro (.v (.bool r2))] [] w ro B)) := by
 refine ⟨WS.loop (fun m σ => m ≤ k ∧ impl_rowed.I1 r1 r2 m σ) k ⟨Nat.le_refl k, x10, x11, x12, x16, x17, x18, x342000, x342001, x346000, x346001, h, rfl⟩ (fun m σ' hI J1 hJ1 => ?_)⟩
 clear h
 obtain ⟨hk, x10, x11, x12, x16, x17, x18, x342000, x342001, x346000, x346001, h, rfl⟩ := hI
 cases m with
 | zero => simp [impl_rowed.l1] at h
 | succ k' =>
 simp only [impl_rowed.l1] at h
 by_cases c5 : x18 < x17
 · rw [if_pos c5] at h
   by_cases c6 : 0 ≤ x18
   · rw [if_pos c6] at h
     by_cases c7 : x18 < (x16.length : Int)
     · rw [if_pos c7] at h
       by_cases c8 : x346001.length < 4398046511104
       · rw [if_pos c8] at h
         refine path_ok (k := 12) hF (RetQ_mild _ _ _ _ _ _ _ _) (ds := [.b true, .e 20 (.rf [.v (.int .i64 (rd x16 x18))]), .p 26 ([[.v (.int .i64 (rd x16 x18)), .sl 2 (r55 [])]]), .o 27 (r55 (x346001 ++ [(⟨rd x16 x18, ([] : List (S55))⟩ : S55)]))]) (os := []) (c := none) rfl KD ?_
         exact WS.lpc [(1004, some 1004), (3257, some 3257), (1007, some 1007), (3449, some 3449)] (hJ1 _ _ (Nat.lt_succ_self _) ⟨by omega, x10, x11, x12, x16, x17, (wrap64 (x18 + 1)), x342000, x342001, x346000, (x346001 ++ [(⟨rd x16 x18, ([] : List (S55))⟩ : S55)]), h, rfl⟩) KD
       · rw [if_neg c8] at h
         cases h
     · rw [if_neg c7] at h
       cases h
   · rw [if_neg c6] at h
     cases h
 · rw [if_neg c5] at h
   by_cases c9 : x342001.length < 4398046511104
   · rw [if_pos c9] at h
     refine path_ok (k := 8) hF (RetQ_mild _ _ _ _ _ _ _ _) (ds := [.b false, .p 33 ([[.v (.int .i64 x346000), .sl 2 (r55 x346001)]]), .o 34 (r55 (x342001 ++ [(⟨x346000, x346001⟩ : S55)]))]) (os := []) (c := none) rfl KD ?_
     exact WS.lpc [(1004, some 1004), (3257, some 3257)] (hJ0 _ _ (by omega) ⟨x10, x11, (wrap64 (x12 + 1)), x342000, (x342001 ++ [(⟨x346000, x346001⟩ : S55)]), h, rfl⟩) KD
   · rw [if_neg c9] at h
     cases h
theorem impl_rowed.cs (k : Nat) : impl_rowed.C k := by
 induction k using Nat.strongRecOn with
 | _ k ih0 =>
 have ih : Kp (∀ m, m < k → impl_rowed.C m) := ⟨ih0⟩
 exact ⟨impl_rowed.c_l0 k ih, impl_rowed.c_l1 k ih⟩
set_option maxRecDepth 100000 in
set_option maxHeartbeats 4000000 in
theorem impl_rowed.ctr (k : Nat) (l0 : List (List Int)) (r1 : ByteArray) (r2 : Bool) (h : impl_rowed.f k l0 = some (r1, r2)) : Ctr TE 48 none [.sl 1 (rX (cL (cI .i64) 1) l0)] [.ro (.v (.string r1)), .ro (.v (.bool r2))] [] := by
 refine ctr_of (fn := Tryd.f48) (c := (bodyOf Tryd.f48)) Tryd.func48 rfl (by kernel_rfl) (Nat.le_of_ble_eq_true (by kernel_rfl)) (fun w ro B hF _ => ?_)
 have ih : Kp (∀ m, m < k + 1 → impl_rowed.C m) := ⟨fun m _ => impl_rowed.cs m⟩
 simp only [impl_rowed.f] at h
 refine path_ok (k := 8) hF (RetQ_mild _ _ _ _ _ _ _ _) (ds := [.e 11 (.v (.int .i64 (l0.length : Int)))]) (os := []) (c := none) rfl KD ?_
 exact WS.can [(1004, some 4), (3257, none)] (((ih.out k (by omega)).s_l0  r1 r2 w ro B hF l0 (l0.length : Int) 0 0 ([] : List (S55)) h).out) KD
end Go.Proofs.YtlhejcogdjelpaaDoor.G
