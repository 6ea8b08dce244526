/- A part of the claim. -/
import Derived.Test.YtmjoigpnnechgaaDoorUFx0
import Derived.Test.YtmjoigpnnechgaaDoorUFx1
import Derived.Test.YtmjoigpnnechgaaDoorUFx4
import Derived.Test.YtmjoigpnnechgaaDoorUFx5
-- PRINTED by print.py (a twelfth state) out of the translation. Not trusted: Lean checks it.
namespace Go.Proofs.YtmjoigpnnechgaaDoor.U
open Go.RowKit Go.Proofs.YtmjoigpnnechgaaDoorW.St Go.Proofs.YtmjoigpnnechgaaDoorW.PrintWords Go.Proofs.YtmjoigpnnechgaaDoorW.PrintLast Go.Proofs.YtmjoigpnnechgaaDoorW.PrintMore
attribute [local go_sem] max2_int min2_int max_two min_two max_three min_three max_four min_four   -- for this text's walks alone
set_option linter.unusedVariables false
set_option linter.unusedSimpArgs false
mutual
def spec_FillShape.j0 : Nat → List Int → List Int → Bool → Option (ByteArray × Bool)
  | 0, _, _, _ => none
  | k + 1, x0, x1, x17 => if x17 = true then (some ((⟨#[]⟩ : ByteArray), false)) else (spec_FillShape.l0 k x0 x1 x0 (x0.length : Int) 0)
def spec_FillShape.l0 : Nat → List Int → List Int → List Int → Int → Int → Option (ByteArray × Bool)
  | 0, _, _, _, _, _ => none
  | k + 1, x0, x1, x18, x19, x20 => if x20 < x19 then (if 0 ≤ x20 then (if x20 < (x18.length : Int) then ((spec_l1In.f (rd x18 x20) 0 400).bind fun t487 => (if t487 = true then (spec_FillShape.l0 k x0 x1 x18 x19 (wrap64 (x20 + 1))) else (some ((⟨#[]⟩ : ByteArray), false)))) else (none)) else (none)) else ((spec_l11Product.f k x0).bind fun t488 => (if t488 = (x1.length : Int) then ((spec_l11Fill.f k x0 x1).bind fun bt489 => ((spec_l1Told.f k bt489.1 bt489.2.1 (x0.length : Int)).bind fun bt497 => (some (bt497.1, bt497.2)))) else (some ((⟨#[]⟩ : ByteArray), false))))
end
def spec_FillShape.f (k : Nat) (l0 : List Int) (l1 : List Int) : Option (ByteArray × Bool) := if (l0.length : Int) > 3 then (spec_FillShape.j0 k l0 l1 true) else ((spec_l4Data.f k l1).bind fun t485 => (spec_FillShape.j0 k l0 l1 (!t485)))
def spec_FillShape.I0 (r1 : ByteArray) (r2 : Bool) (m : Nat) (σ : St) : Prop := ∃ (x0 : List Int) (x1 : List Int) (x18 : List Int) (x19 : Int) (x20 : Int), spec_FillShape.l0 m x0 x1 x18 x19 x20 = some (r1, r2) ∧ σ = ⟨[(0, .sl 1 (rX (cI .i64) x0)), (1, .sl 1 (rX (cI .i64) x1)), (18, .sl 1 (rX (cI .i64) x18)), (19, .v (.int .i64 x19)), (20, .v (.int .i64 x20))], []⟩
structure spec_FillShape.C (k : Nat) : Prop where
 s_j0 : ∀ (r1 : ByteArray) (r2 : Bool) (w : World) (ro : Nat → Prop) (B : Nat) (_ : Fr TE (cx0 Tryd.f99 none w ro B)) (x0 : List Int) (x1 : List Int) (x17 : Bool) (_ : spec_FillShape.j0 k x0 x1 x17 = some (r1, r2)), Kp (WS TE (cx0 Tryd.f99 none w ro B) (stkAt [1, 0, 0, 9] [] (bodyOf Tryd.f99) []) ⟨[(0, .sl 1 (rX (cI .i64) x0)), (1, .sl 1 (rX (cI .i64) x1)), (17, .v (.bool x17))], []⟩ (RetQ TE Tryd.f99 none [.ro (.v (.string r1)), .ro (.v (.bool r2))] [] w ro B))
 s_l0 : ∀ (r1 : ByteArray) (r2 : Bool) (w : World) (ro : Nat → Prop) (B : Nat) (_ : Fr TE (cx0 Tryd.f99 none w ro B)) (x0 : List Int) (x1 : List Int) (x18 : List Int) (x19 : Int) (x20 : Int) (_ : spec_FillShape.l0 k x0 x1 x18 x19 x20 = some (r1, r2)), Kp (WS TE (cx0 Tryd.f99 none w ro B) (stkAt [1, 1, 0, 1, 0] [] (bodyOf Tryd.f99) []) ⟨[(0, .sl 1 (rX (cI .i64) x0)), (1, .sl 1 (rX (cI .i64) x1)), (18, .sl 1 (rX (cI .i64) x18)), (19, .v (.int .i64 x19)), (20, .v (.int .i64 x20))], []⟩ (RetQ TE Tryd.f99 none [.ro (.v (.string r1)), .ro (.v (.bool r2))] [] w ro B))
set_option maxRecDepth 100000 in
set_option maxHeartbeats 4000000 in
theorem spec_FillShape.c_j0 (k : Nat) (ih : Kp (∀ m, m < k → spec_FillShape.C m)) (r1 : ByteArray) (r2 : Bool) (w : World) (ro : Nat → Prop) (B : Nat) (hF : Fr TE (cx0 Tryd.f99 none w ro B)) (x0 : List Int) (x1 : List Int) (x17 : Bool) (h : spec_FillShape.j0 k x0 x1 x17 = some (r1, r2)) : Kp (WS TE (cx0 Tryd.f99 none w ro B) (stkAt [1, 0, 0, 9] [] (bodyOf Tryd.f99) []) ⟨[(0, .sl 1 (rX (cI .i64) x0)), (1, .sl 1 (rX (cI .i64) x1)), (17, .v (.bool x17))], []⟩ (RetQ TE Tryd.f99 none [.ro (.v (.string r1)), .ro (.v (.bool r2))] [] w ro B)) := by
 refine ⟨?_⟩
 cases k with
 | zero => simp [spec_FillShape.j0] at h
 | succ k =>
 simp only [spec_FillShape.j0] at h
 by_cases c3 : x17 = true
 · rw [if_pos c3] at h
   refine path_ok (k := 4) hF (RetQ_mild _ _ _ _ _ _ _ _) (ds := [.b true]) (os := []) (c := none) rfl KD ?_
   cases h
   exact ret_as (ms := [.ro, .ro]) rfl KD
 · rw [if_neg c3] at h
   refine path_ok (k := 6) hF (RetQ_mild _ _ _ _ _ _ _ _) (ds := [.b false, .e 19 (.v (.int .i64 (x0.length : Int)))]) (os := []) (c := none) rfl KD ?_
   exact WS.can [] (((ih.out k (by omega)).s_l0  r1 r2 w ro B hF x0 x1 x0 (x0.length : Int) 0 h).out) KD
set_option maxRecDepth 100000 in
set_option maxHeartbeats 4000000 in
theorem spec_FillShape.c_l0 (k : Nat) (ih : Kp (∀ m, m < k → spec_FillShape.C m)) (r1 : ByteArray) (r2 : Bool) (w : World) (ro : Nat → Prop) (B : Nat) (hF : Fr TE (cx0 Tryd.f99 none w ro B)) (x0 : List Int) (x1 : List Int) (x18 : List Int) (x19 : Int) (x20 : Int) (h : spec_FillShape.l0 k x0 x1 x18 x19 x20 = some (r1, r2)) : Kp (WS TE (cx0 Tryd.f99 none w ro B) (stkAt [1, 1, 0, 1, 0] [] (bodyOf Tryd.f99) []) ⟨[(0, .sl 1 (rX (cI .i64) x0)), (1, .sl 1 (rX (cI .i64) x1)), (18, .sl 1 (rX (cI .i64) x18)), (19, .v (.int .i64 x19)), (20, .v (.int .i64 x20))], []⟩ (RetQ TE Tryd.f99 none [.ro (.v (.string r1)), .ro (.v (.bool r2))] [] w ro B)) := by
 refine ⟨WS.loop (fun m σ => m ≤ k ∧ spec_FillShape.I0 r1 r2 m σ) k ⟨Nat.le_refl k, x0, x1, x18, x19, x20, h, rfl⟩ (fun m σ' hI J0 hJ0 => ?_)⟩
 clear h
 obtain ⟨hk, x0, x1, x18, x19, x20, h, rfl⟩ := hI
 cases m with
 | zero => simp [spec_FillShape.l0] at h
 | succ k' =>
 simp only [spec_FillShape.l0] at h
 by_cases c4 : x20 < x19
 · rw [if_pos c4] at h
   by_cases c5 : 0 ≤ x20
   · rw [if_pos c5] at h
     by_cases c6 : x20 < (x18.length : Int)
     · rw [if_pos c6] at h
       obtain ⟨t487, q7, h⟩ := Option.bind_eq_some_iff.1 h
       have q7c := spec_l1In.ctr _ _ _ _ q7
       by_cases c8 : t487 = true
       · rw [if_pos c8] at h
         refine path_ok (k := 15) hF (RetQ_mild _ _ _ _ _ _ _ _) (ds := [.b true, .e 22 (.rf [.v (.int .i64 (rd x18 x20))]), .r [.ro (.v (.bool t487))] [], .b false]) (os := []) (c := none) rfl KD ?_
         exact WS.lpc [] (hJ0 _ _ (Nat.lt_succ_self _) ⟨by omega, x0, x1, x18, x19, (wrap64 (x20 + 1)), h, rfl⟩) KD
       · rw [if_neg c8] at h
         refine path_ok (k := 15) hF (RetQ_mild _ _ _ _ _ _ _ _) (ds := [.b true, .e 22 (.rf [.v (.int .i64 (rd x18 x20))]), .r [.ro (.v (.bool t487))] [], .b true]) (os := []) (c := none) rfl KD ?_
         cases h
         exact ret_as (ms := [.ro, .ro]) rfl KD
     · rw [if_neg c6] at h
       cases h
   · rw [if_neg c5] at h
     cases h
 · rw [if_neg c4] at h
   obtain ⟨t488, q9, h⟩ := Option.bind_eq_some_iff.1 h
   have q9c := spec_l11Product.ctr k' _ _ q9
   by_cases c10 : t488 = (x1.length : Int)
   · rw [if_pos c10] at h
     obtain ⟨⟨t489, t490, t493⟩, q11, h⟩ := Option.bind_eq_some_iff.1 h
     dsimp only at h
     have q11c := spec_l11Fill.ctr k' _ _ _ _ _ q11
     obtain ⟨⟨t497, t498⟩, q12, h⟩ := Option.bind_eq_some_iff.1 h
     dsimp only at h
     have q12c := spec_l1Told.ctr k' _ _ _ _ _ q12
     refine path_ok (k := 15) hF (RetQ_mild _ _ _ _ _ _ _ _) (ds := [.b false, .r [.ro (.v (.int .i64 t488))] [], .e 31 (.v (.int .i64 (x1.length : Int))), .b false, .r [.ro (.ag [.v (.int .i64 t489), .sl 2 (r95 t490)]), .ro (.sl 1 (rX (cI .i64) t493))] [], .e 41 (.v (.int .i64 (x0.length : Int))), .r [.ro (.v (.string t497)), .ro (.v (.bool t498))] []]) (os := []) (c := none) rfl KD ?_
     cases h
     exact ret_as (ms := [.ro, .ro]) rfl KD
   · rw [if_neg c10] at h
     refine path_ok (k := 12) hF (RetQ_mild _ _ _ _ _ _ _ _) (ds := [.b false, .r [.ro (.v (.int .i64 t488))] [], .e 31 (.v (.int .i64 (x1.length : Int))), .b true]) (os := []) (c := none) rfl KD ?_
     cases h
     exact ret_as (ms := [.ro, .ro]) rfl KD
theorem spec_FillShape.cs (k : Nat) : spec_FillShape.C k := by
 induction k using Nat.strongRecOn with
 | _ k ih0 =>
 have ih : Kp (∀ m, m < k → spec_FillShape.C m) := ⟨ih0⟩
 exact ⟨spec_FillShape.c_j0 k ih, spec_FillShape.c_l0 k ih⟩
set_option maxRecDepth 100000 in
set_option maxHeartbeats 4000000 in
theorem spec_FillShape.ctr (k : Nat) (l0 : List Int) (l1 : List Int) (r1 : ByteArray) (r2 : Bool) (h : spec_FillShape.f k l0 l1 = some (r1, r2)) : Ctr TE 99 none [.sl 1 (rX (cI .i64) l0), .sl 1 (rX (cI .i64) l1)] [.ro (.v (.string r1)), .ro (.v (.bool r2))] [] := by
 refine ctr_of (fn := Tryd.f99) (c := (bodyOf Tryd.f99)) Tryd.func99 rfl (by kernel_rfl) (Nat.le_of_ble_eq_true (by kernel_rfl)) (fun w ro B hF _ => ?_)
 have ih : Kp (∀ m, m < k + 1 → spec_FillShape.C m) := ⟨fun m _ => spec_FillShape.cs m⟩
 simp only [spec_FillShape.f] at h
 by_cases c1 : (l0.length : Int) > 3
 · rw [if_pos c1] at h
   refine path_ok (k := 5) hF (RetQ_mild _ _ _ _ _ _ _ _) (ds := [.e 11 (.v (.int .i64 (l0.length : Int))), .b true, .b true, .b true, .b true]) (os := []) (c := none) rfl KD ?_
   exact WS.can [] (((ih.out k (by omega)).s_j0  r1 r2 w ro B hF l0 l1 true h).out) KD
 · rw [if_neg c1] at h
   obtain ⟨t485, q2, h⟩ := Option.bind_eq_some_iff.1 h
   have q2c := spec_l4Data.ctr k _ _ q2
   refine path_ok (k := 5) hF (RetQ_mild _ _ _ _ _ _ _ _) (ds := [.e 11 (.v (.int .i64 (l0.length : Int))), .b false, .b false, .r [.ro (.v (.bool t485))] [], .b false, .b false]) (os := []) (c := none) rfl KD ?_
   exact WS.can [] (((ih.out k (by omega)).s_j0  r1 r2 w ro B hF l0 l1 (!t485) h).out) KD
def spec_l11Draw.l0 : Nat → Int → Int → List Int → Int → Int → List Int → Int → Option (ByteArray × Int)
  | 0, _, _, _, _, _, _, _ => none
  | k + 1, x1, x2, x7, x13, x14, x1000, x1001 => if x14 < x13 then ((spec_l13Rd_pick.f k x1000 x1001 50).bind fun bt502 => ((spec_l13Rd_num.f k x1000 bt502.2 (([1, 0, 2, 3, 10006, bt502.1] : List Int))).bind fun bt507 => (if x7.length < 17592186044416 then (spec_l11Draw.l0 k x1 x2 (x7 ++ [bt507.1]) x13 (wrap64 (x14 + 1)) x1000 bt507.2) else (none)))) else ((spec_FillShape.f k (([x1, x2] : List Int)) x7).bind fun bt515 => (some (bt515.1, x1001)))
def spec_l11Draw.f (k : Nat) (s0_0 : List Int) (s0_1 : Int) (a1 : Int) (a2 : Int) : Option (ByteArray × Int) := spec_l11Draw.l0 k a1 a2 (([] : List Int)) (wrap64 (a1 * a2)) 0 s0_0 s0_1
def spec_l11Draw.I0 (s0_0 : List Int) (s0_1 : Int) (r1 : ByteArray) (r2 : Int) (m : Nat) (σ : St) : Prop := ∃ (x1 : Int) (x2 : Int) (x7 : List Int) (x13 : Int) (x14 : Int) (x1001 : Int), spec_l11Draw.l0 m x1 x2 x7 x13 x14 s0_0 x1001 = some (r1, r2) ∧ σ = ⟨[(0, .pt 0 0 0), (1, .v (.int .i64 x1)), (2, .v (.int .i64 x2)), (7, .ow 1007 0), (13, .v (.int .i64 x13)), (14, .v (.int .i64 x14))], [(0, .box 0 129 true [.sl 1 (rX (cI .u8) s0_0), .v (.int .i64 x1001)]), (1007, .own 0 3 1 (rX (cI .i64) x7))]⟩
structure spec_l11Draw.C (k : Nat) : Prop where
 s_l0 : ∀ (s0_0 : List Int) (s0_1 : Int) (r1 : ByteArray) (r2 : Int) (w : World) (ro : Nat → Prop) (B : Nat) (_ : Fr TE (cx0 Tryd.f109 (some (129, [.sl 1 (rX (cI .u8) s0_0), .v (.int .i64 s0_1)])) w ro B)) (x1 : Int) (x2 : Int) (x7 : List Int) (x13 : Int) (x14 : Int) (x1001 : Int) (_ : spec_l11Draw.l0 k x1 x2 x7 x13 x14 s0_0 x1001 = some (r1, r2)), Kp (WS TE (cx0 Tryd.f109 (some (129, [.sl 1 (rX (cI .u8) s0_0), .v (.int .i64 s0_1)])) w ro B) (stkAt [1, 1, 0, 1, 0] [] (bodyOf Tryd.f109) []) ⟨[(0, .pt 0 0 0), (1, .v (.int .i64 x1)), (2, .v (.int .i64 x2)), (7, .ow 1007 0), (13, .v (.int .i64 x13)), (14, .v (.int .i64 x14))], [(0, .box 0 129 true [.sl 1 (rX (cI .u8) s0_0), .v (.int .i64 x1001)]), (1007, .own 0 3 1 (rX (cI .i64) x7))]⟩ (RetQ TE Tryd.f109 (some (129, [.sl 1 (rX (cI .u8) s0_0), .v (.int .i64 s0_1)])) [.ro (.v (.string r1))] [.sl 1 (rX (cI .u8) s0_0), .v (.int .i64 r2)] w ro B))
set_option maxRecDepth 100000 in
set_option maxHeartbeats 4000000 in
theorem spec_l11Draw.c_l0 (k : Nat) (ih : Kp (∀ m, m < k → spec_l11Draw.C m)) (s0_0 : List Int) (s0_1 : Int) (r1 : ByteArray) (r2 : Int) (w : World) (ro : Nat → Prop) (B : Nat) (hF : Fr TE (cx0 Tryd.f109 (some (129, [.sl 1 (rX (cI .u8) s0_0), .v (.int .i64 s0_1)])) w ro B)) (x1 : Int) (x2 : Int) (x7 : List Int) (x13 : Int) (x14 : Int) (x1001 : Int) (h : spec_l11Draw.l0 k x1 x2 x7 x13 x14 s0_0 x1001 = some (r1, r2)) : Kp (WS TE (cx0 Tryd.f109 (some (129, [.sl 1 (rX (cI .u8) s0_0), .v (.int .i64 s0_1)])) w ro B) (stkAt [1, 1, 0, 1, 0] [] (bodyOf Tryd.f109) []) ⟨[(0, .pt 0 0 0), (1, .v (.int .i64 x1)), (2, .v (.int .i64 x2)), (7, .ow 1007 0), (13, .v (.int .i64 x13)), (14, .v (.int .i64 x14))], [(0, .box 0 129 true [.sl 1 (rX (cI .u8) s0_0), .v (.int .i64 x1001)]), (1007, .own 0 3 1 (rX (cI .i64) x7))]⟩ (RetQ TE Tryd.f109 (some (129, [.sl 1 (rX (cI .u8) s0_0), .v (.int .i64 s0_1)])) [.ro (.v (.string r1))] [.sl 1 (rX (cI .u8) s0_0), .v (.int .i64 r2)] w ro B)) := by
 refine ⟨WS.loop (fun m σ => m ≤ k ∧ spec_l11Draw.I0 s0_0 s0_1 r1 r2 m σ) k ⟨Nat.le_refl k, x1, x2, x7, x13, x14, x1001, h, rfl⟩ (fun m σ' hI J0 hJ0 => ?_)⟩
 clear h
 obtain ⟨hk, x1, x2, x7, x13, x14, x1001, h, rfl⟩ := hI
 cases m with
 | zero => simp [spec_l11Draw.l0] at h
 | succ k' =>
 simp only [spec_l11Draw.l0] at h
 by_cases c1 : x14 < x13
 · rw [if_pos c1] at h
   obtain ⟨⟨t502, t503⟩, q2, h⟩ := Option.bind_eq_some_iff.1 h
   dsimp only at h
   have q2c := spec_l13Rd_pick.ctr k' _ _ _ _ _ q2
   obtain ⟨⟨t507, t508⟩, q3, h⟩ := Option.bind_eq_some_iff.1 h
   dsimp only at h
   have q3c := spec_l13Rd_num.ctr k' _ _ _ _ _ q3
   by_cases c4 : x7.length < 17592186044416
   · rw [if_pos c4] at h
     refine path_ok (k := 10) hF (RetQ_mild _ _ _ _ _ _ _ _) (ds := [.b true, .r [.ro (.v (.int .i64 t502))] [.sl 1 (rX (cI .u8) s0_0), .v (.int .i64 t503)], .p 20 ([[.v (.int .i64 1)], [.v (.int .i64 0)], [.v (.int .i64 2)], [.v (.int .i64 3)], [.v (.int .i64 10006)], [.v (.int .i64 t502)]]), .r [.ro (.v (.int .i64 t507))] [.sl 1 (rX (cI .u8) s0_0), .v (.int .i64 t508)], .p 22 ([[.v (.int .i64 t507)]]), .o 23 (rX (cI .i64) (x7 ++ [t507]))]) (os := []) (c := none) rfl KD ?_
     exact WS.lpc [(0, some 0), (1007, some 1007)] (hJ0 _ _ (Nat.lt_succ_self _) ⟨by omega, x1, x2, (x7 ++ [t507]), x13, (wrap64 (x14 + 1)), t508, h, rfl⟩) KD
   · rw [if_neg c4] at h
     cases h
 · rw [if_neg c1] at h
   obtain ⟨⟨t515, t516⟩, q5, h⟩ := Option.bind_eq_some_iff.1 h
   dsimp only at h
   have q5c := spec_FillShape.ctr k' _ _ _ _ q5
   refine path_ok (k := 10) hF (RetQ_mild _ _ _ _ _ _ _ _) (ds := [.b false, .p 28 ([[.v (.int .i64 x1)], [.v (.int .i64 x2)]]), .r [.ro (.v (.string t515)), .ro (.v (.bool t516))] []]) (os := []) (c := none) rfl KD ?_
   cases h
   exact ret_as (ms := [.ro]) rfl KD
theorem spec_l11Draw.cs (k : Nat) : spec_l11Draw.C k := by
 induction k using Nat.strongRecOn with
 | _ k ih0 =>
 have ih : Kp (∀ m, m < k → spec_l11Draw.C m) := ⟨ih0⟩
 exact ⟨spec_l11Draw.c_l0 k ih⟩
set_option maxRecDepth 100000 in
set_option maxHeartbeats 4000000 in
theorem spec_l11Draw.ctr (k : Nat) (s0_0 : List Int) (s0_1 : Int) (a1 : Int) (a2 : Int) (r1 : ByteArray) (r2 : Int) (h : spec_l11Draw.f k s0_0 s0_1 a1 a2 = some (r1, r2)) : Ctr TE 109 (some (129, [.sl 1 (rX (cI .u8) s0_0), .v (.int .i64 s0_1)])) [.pt 0 0 0, .v (.int .i64 a1), .v (.int .i64 a2)] [.ro (.v (.string r1))] [.sl 1 (rX (cI .u8) s0_0), .v (.int .i64 r2)] := by
 refine ctr_of (fn := Tryd.f109) (c := (bodyOf Tryd.f109)) Tryd.func109 rfl (by kernel_rfl) (Nat.le_of_ble_eq_true (by kernel_rfl)) (fun w ro B hF _ => ?_)
 have ih : Kp (∀ m, m < k + 1 → spec_l11Draw.C m) := ⟨fun m _ => spec_l11Draw.cs m⟩
 simp only [spec_l11Draw.f] at h
 refine path_ok (k := 8) hF (RetQ_mild _ _ _ _ _ _ _ _) (ds := [.p 10 ([])]) (os := []) (c := none) rfl KD ?_
 exact WS.can [(0, some 0), (1007, some 10)] (((ih.out k (by omega)).s_l0 s0_0 s0_1 r1 r2 w ro B hF a1 a2 (([] : List Int)) (wrap64 (a1 * a2)) 0 s0_1 h).out) KD
def spec_l13Rd_of.f (k : Nat) (s0_0 : List Int) (s0_1 : Int) (l1 : List ByteArray) : Option (ByteArray × Int) := (spec_l13Rd_pick.f k s0_0 s0_1 (l1.length : Int)).bind fun bt517 => (if 0 ≤ bt517.1 then (if bt517.1 < (l1.length : Int) then (some (rdOf ByteArray.empty l1 bt517.1, bt517.2)) else (none)) else (none))
set_option maxRecDepth 100000 in
set_option maxHeartbeats 4000000 in
theorem spec_l13Rd_of.ctr (k : Nat) (s0_0 : List Int) (s0_1 : Int) (l1 : List ByteArray) (r1 : ByteArray) (r2 : Int) (h : spec_l13Rd_of.f k s0_0 s0_1 l1 = some (r1, r2)) : Ctr TE 124 (some (129, [.sl 1 (rX (cI .u8) s0_0), .v (.int .i64 s0_1)])) [.pt 0 0 0, .sl 1 (rX cS l1)] [.ro (.v (.string r1))] [.sl 1 (rX (cI .u8) s0_0), .v (.int .i64 r2)] := by
 refine ctr_of (fn := Tryd.f124) (c := (bodyOf Tryd.f124)) Tryd.func124 rfl (by kernel_rfl) (Nat.le_of_ble_eq_true (by kernel_rfl)) (fun w ro B hF _ => ?_)
 simp only [spec_l13Rd_of.f] at h
 obtain ⟨⟨t517, t518⟩, q1, h⟩ := Option.bind_eq_some_iff.1 h
 dsimp only at h
 have q1c := spec_l13Rd_pick.ctr k _ _ _ _ _ q1
 by_cases c2 : 0 ≤ t517
 · rw [if_pos c2] at h
   by_cases c3 : t517 < (l1.length : Int)
   · rw [if_pos c3] at h
     refine path_ok (k := 5) hF (RetQ_mild _ _ _ _ _ _ _ _) (ds := [.e 8 (.v (.int .i64 (l1.length : Int))), .r [.ro (.v (.int .i64 t517))] [.sl 1 (rX (cI .u8) s0_0), .v (.int .i64 t518)], .e 10 (.rf [.v (.string (rdOf ByteArray.empty l1 t517))])]) (os := []) (c := none) rfl KD ?_
     cases h
     exact ret_as (ms := [.ro]) rfl KD
   · rw [if_neg c3] at h
     cases h
 · rw [if_neg c2] at h
   cases h
def spec_l11Some.f (k : Nat) (s0_0 : List Int) (s0_1 : Int) : Option (ByteArray × Int) := (spec_l13Rd_pick.f k s0_0 s0_1 4).bind fun bt520 => (if bt520.1 = 0 then ((spec_l1Draw.f k s0_0 bt520.2 2).bind fun bt522 => ((spec_l1Draw.f k s0_0 bt522.2 2).bind fun bt524 => ((spec_l13Rd_of.f k s0_0 bt524.2 (([bt522.1, bt524.1, (⟨#[91, 49, 93]⟩ : ByteArray), (⟨#[]⟩ : ByteArray)] : List ByteArray))).bind fun bt529 => (some (bt529.1, bt529.2))))) else ((spec_l13Rd_pick.f k s0_0 bt520.2 4).bind fun bt531 => ((spec_l13Rd_pick.f k s0_0 bt531.2 4).bind fun bt533 => ((spec_l11Draw.f k s0_0 bt533.2 bt531.1 bt533.1).bind fun bt535 => (some (bt535.1, bt535.2))))))
set_option maxRecDepth 100000 in
set_option maxHeartbeats 4000000 in
theorem spec_l11Some.ctr (k : Nat) (s0_0 : List Int) (s0_1 : Int) (r1 : ByteArray) (r2 : Int) (h : spec_l11Some.f k s0_0 s0_1 = some (r1, r2)) : Ctr TE 114 (some (129, [.sl 1 (rX (cI .u8) s0_0), .v (.int .i64 s0_1)])) [.pt 0 0 0] [.ro (.v (.string r1))] [.sl 1 (rX (cI .u8) s0_0), .v (.int .i64 r2)] := by
 refine ctr_of (fn := Tryd.f114) (c := (bodyOf Tryd.f114)) Tryd.func114 rfl (by kernel_rfl) (Nat.le_of_ble_eq_true (by kernel_rfl)) (fun w ro B hF _ => ?_)
 simp only [spec_l11Some.f] at h
 obtain ⟨⟨t520, t521⟩, q1, h⟩ := Option.bind_eq_some_iff.1 h
 dsimp only at h
 have q1c := spec_l13Rd_pick.ctr k _ _ _ _ _ q1
 by_cases c2 : t520 = 0
 · rw [if_pos c2] at h
   obtain ⟨⟨t522, t523⟩, q3, h⟩ := Option.bind_eq_some_iff.1 h
   dsimp only at h
   have q3c := spec_l1Draw.ctr k _ _ _ _ _ q3
   obtain ⟨⟨t524, t525⟩, q4, h⟩ := Option.bind_eq_some_iff.1 h
   dsimp only at h
   have q4c := spec_l1Draw.ctr k _ _ _ _ _ q4
   obtain ⟨⟨t529, t530⟩, q5, h⟩ := Option.bind_eq_some_iff.1 h
   dsimp only at h
   have q5c := spec_l13Rd_of.ctr k _ _ _ _ _ q5
   refine path_ok (k := 9) hF (RetQ_mild _ _ _ _ _ _ _ _) (ds := [.r [.ro (.v (.int .i64 t520))] [.sl 1 (rX (cI .u8) s0_0), .v (.int .i64 t521)], .b true, .r [.ro (.v (.string t522))] [.sl 1 (rX (cI .u8) s0_0), .v (.int .i64 t523)], .r [.ro (.v (.string t524))] [.sl 1 (rX (cI .u8) s0_0), .v (.int .i64 t525)], .p 11 ([[.v (.string t522)], [.v (.string t524)], [.v (.string (⟨#[91, 49, 93]⟩ : ByteArray))], [.v (.string (⟨#[]⟩ : ByteArray))]]), .r [.ro (.v (.string t529))] [.sl 1 (rX (cI .u8) s0_0), .v (.int .i64 t530)]]) (os := []) (c := none) rfl KD ?_
   cases h
   exact ret_as (ms := [.ro]) rfl KD
 · rw [if_neg c2] at h
   obtain ⟨⟨t531, t532⟩, q6, h⟩ := Option.bind_eq_some_iff.1 h
   dsimp only at h
   have q6c := spec_l13Rd_pick.ctr k _ _ _ _ _ q6
   obtain ⟨⟨t533, t534⟩, q7, h⟩ := Option.bind_eq_some_iff.1 h
   dsimp only at h
   have q7c := spec_l13Rd_pick.ctr k _ _ _ _ _ q7
   obtain ⟨⟨t535, t536⟩, q8, h⟩ := Option.bind_eq_some_iff.1 h
   dsimp only at h
   have q8c := spec_l11Draw.ctr k _ _ _ _ _ _ q8
   refine path_ok (k := 10) hF (RetQ_mild _ _ _ _ _ _ _ _) (ds := [.r [.ro (.v (.int .i64 t520))] [.sl 1 (rX (cI .u8) s0_0), .v (.int .i64 t521)], .b false, .r [.ro (.v (.int .i64 t531))] [.sl 1 (rX (cI .u8) s0_0), .v (.int .i64 t532)], .r [.ro (.v (.int .i64 t533))] [.sl 1 (rX (cI .u8) s0_0), .v (.int .i64 t534)], .r [.ro (.v (.string t535))] [.sl 1 (rX (cI .u8) s0_0), .v (.int .i64 t536)]]) (os := []) (c := none) rfl KD ?_
   cases h
   exact ret_as (ms := [.ro]) rfl KD
def spec_DrawTransposeArray.f (k : Nat) (l0 : List Int) : Option (ByteArray) := (spec_l13Open.f l0).bind fun bt537 => ((spec_l11Some.f k bt537.1 bt537.2).bind fun bt540 => (some bt540.1))
set_option maxRecDepth 100000 in
set_option maxHeartbeats 4000000 in
theorem spec_DrawTransposeArray.ctr (k : Nat) (l0 : List Int) (r : ByteArray) (h : spec_DrawTransposeArray.f k l0 = some r) : Ctr TE 71 none [.sl 1 (rX (cI .u8) l0)] [.ro (.v (.string r))] [] := by
 refine ctr_of (fn := Tryd.f71) (c := (bodyOf Tryd.f71)) Tryd.func71 rfl (by kernel_rfl) (Nat.le_of_ble_eq_true (by kernel_rfl)) (fun w ro B hF _ => ?_)
 simp only [spec_DrawTransposeArray.f] at h
 obtain ⟨⟨t537, t538⟩, q1, h⟩ := Option.bind_eq_some_iff.1 h
 dsimp only at h
 have q1c := spec_l13Open.ctr _ _ _ q1
 obtain ⟨⟨t540, t541⟩, q2, h⟩ := Option.bind_eq_some_iff.1 h
 dsimp only at h
 have q2c := spec_l11Some.ctr k _ _ _ _ q2
 refine path_ok (k := 5) hF (RetQ_mild _ _ _ _ _ _ _ _) (ds := [.r [.nb 129 [.sl 1 (rX (cI .u8) t537), .v (.int .i64 t538)]] [], .r [.ro (.v (.string t540))] [.sl 1 (rX (cI .u8) t537), .v (.int .i64 t541)]]) (os := []) (c := none) rfl KD ?_
 cases h
 exact ret_as (ms := [.ro]) rfl KD
def impl_IsRegular.f (k : Nat) (a0 : ByteArray) (a1 : Int) : Option (Bool) := (impl_ShapeOf.f k a0 a1).bind fun bt542 => (some bt542.2)
set_option maxRecDepth 100000 in
set_option maxHeartbeats 4000000 in
theorem impl_IsRegular.ctr (k : Nat) (a0 : ByteArray) (a1 : Int) (r : Bool) (h : impl_IsRegular.f k a0 a1 = some r) : Ctr TE 72 none [.v (.string a0), .v (.int .i64 a1)] [.ro (.v (.bool r))] [] := by
 refine ctr_of (fn := Tryd.f72) (c := (bodyOf Tryd.f72)) Tryd.func72 rfl (by kernel_rfl) (Nat.le_of_ble_eq_true (by kernel_rfl)) (fun w ro B hF _ => ?_)
 simp only [impl_IsRegular.f] at h
 obtain ⟨⟨t542, t543⟩, q1, h⟩ := Option.bind_eq_some_iff.1 h
 dsimp only at h
 have q1c := impl_ShapeOf.ctr k _ _ _ _ q1
 refine path_ok (k := 7) hF (RetQ_mild _ _ _ _ _ _ _ _) (ds := [.r [.own 3 1 (rX (cI .i64) t542), .ro (.v (.bool t543))] []]) (os := []) (c := none) rfl KD ?_
 cases h
 exact ret_as (ms := [.ro]) rfl KD
end Go.Proofs.YtmjoigpnnechgaaDoor.U
