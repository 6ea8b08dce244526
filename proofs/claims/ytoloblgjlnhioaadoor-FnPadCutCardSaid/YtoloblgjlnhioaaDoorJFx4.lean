/- A part of the claim. -/
import Derived.Test.YtoloblgjlnhioaaDoorJFx0
import Derived.Test.YtoloblgjlnhioaaDoorJFx1
import Derived.Test.YtoloblgjlnhioaaDoorJFx3
-- PRINTED by print.py (a twelfth state) out of the translation. Not trusted: Lean checks it.
namespace Go.Proofs.YtoloblgjlnhioaaDoor.J
open Go.RowKit Go.Proofs.YtoloblgjlnhioaaDoorW.St Go.Proofs.YtoloblgjlnhioaaDoorW.PrintWords Go.Proofs.YtoloblgjlnhioaaDoorW.PrintLast Go.Proofs.YtoloblgjlnhioaaDoorW.PrintMore
attribute [local go_sem] max2_int min2_int max_two min_two max_three min_three max_four min_four   -- for this text's walks alone
set_option linter.unusedVariables false
set_option linter.unusedSimpArgs false
mutual
def impl_rowed.l0 : Nat → List (List Int) → Int → Int → Int → List (S62) → Option (ByteArray × Bool)
  | 0, _, _, _, _, _ => none
  | k + 1, x10, x11, x12, x302000, x302001 => if x12 < x11 then (if 0 ≤ x12 then (if x12 < (x10.length : Int) then (impl_rowed.l1 k x10 x11 x12 (rd_L5 x10 x12) ((rd_L5 x10 x12).length : Int) 0 x302000 x302001 0 ([] : List (S62))) else (none)) else (none)) else ((impl_arr_short.f k x302000 x302001 2).bind fun bt302 => (some (bt302.1, bt302.2)))
def impl_rowed.l1 : Nat → List (List Int) → Int → Int → List Int → Int → Int → Int → List (S62) → Int → List (S62) → Option (ByteArray × Bool)
  | 0, _, _, _, _, _, _, _, _, _, _ => none
  | k + 1, x10, x11, x12, x16, x17, x18, x302000, x302001, x306000, x306001 => if x18 < x17 then (if 0 ≤ x18 then (if x18 < (x16.length : Int) then (if x306001.length < 4398046511104 then (impl_rowed.l1 k x10 x11 x12 x16 x17 (wrap64 (x18 + 1)) x302000 x302001 x306000 (x306001 ++ [(⟨rd x16 x18, ([] : List (S62))⟩ : S62)])) else (none)) else (none)) else (none)) else (if x302001.length < 4398046511104 then (impl_rowed.l0 k x10 x11 (wrap64 (x12 + 1)) x302000 (x302001 ++ [(⟨x306000, x306001⟩ : S62)])) else (none))
end
def impl_rowed.f (k : Nat) (l0 : List (List Int)) : Option (ByteArray × Bool) := impl_rowed.l0 k l0 (l0.length : Int) 0 0 ([] : List (S62))
def impl_rowed.I0 (r1 : ByteArray) (r2 : Bool) (m : Nat) (σ : St) : Prop := ∃ (x10 : List (List Int)) (x11 : Int) (x12 : Int) (x302000 : Int) (x302001 : List (S62)), impl_rowed.l0 m x10 x11 x12 x302000 x302001 = some (r1, r2) ∧ σ = ⟨[(4, .pt 1004 0 0), (10, .sl 1 (rX (cL (cI .i64) 1) x10)), (11, .v (.int .i64 x11)), (12, .v (.int .i64 x12))], [(3257, .own 0 62 2 (r62 x302001)), (1004, .box 0 62 false [.v (.int .i64 x302000), .ow 3257 0])]⟩
def impl_rowed.I1 (r1 : ByteArray) (r2 : Bool) (m : Nat) (σ : St) : Prop := ∃ (x10 : List (List Int)) (x11 : Int) (x12 : Int) (x16 : List Int) (x17 : Int) (x18 : Int) (x302000 : Int) (x302001 : List (S62)) (x306000 : Int) (x306001 : List (S62)), impl_rowed.l1 m x10 x11 x12 x16 x17 x18 x302000 x302001 x306000 x306001 = some (r1, r2) ∧ σ = ⟨[(4, .pt 1004 0 0), (7, .pt 1007 0 0), (10, .sl 1 (rX (cL (cI .i64) 1) x10)), (11, .v (.int .i64 x11)), (12, .v (.int .i64 x12)), (16, .sl 1 (rX (cI .i64) x16)), (17, .v (.int .i64 x17)), (18, .v (.int .i64 x18))], [(3257, .own 0 62 2 (r62 x302001)), (1004, .box 0 62 false [.v (.int .i64 x302000), .ow 3257 0]), (3449, .own 0 62 2 (r62 x306001)), (1007, .box 0 62 false [.v (.int .i64 x306000), .ow 3449 0])]⟩
structure impl_rowed.C (k : Nat) : Prop where
 s_l0 : ∀ (r1 : ByteArray) (r2 : Bool) (w : World) (ro : Nat → Prop) (B : Nat) (_ : Fr TE (cx0 Tryd.f59 none w ro B)) (x10 : List (List Int)) (x11 : Int) (x12 : Int) (x302000 : Int) (x302001 : List (S62)) (_ : impl_rowed.l0 k x10 x11 x12 x302000 x302001 = some (r1, r2)), Kp (WS TE (cx0 Tryd.f59 none w ro B) (stkAt [1, 1, 0, 1, 0] [] (bodyOf Tryd.f59) []) ⟨[(4, .pt 1004 0 0), (10, .sl 1 (rX (cL (cI .i64) 1) x10)), (11, .v (.int .i64 x11)), (12, .v (.int .i64 x12))], [(3257, .own 0 62 2 (r62 x302001)), (1004, .box 0 62 false [.v (.int .i64 x302000), .ow 3257 0])]⟩ (RetQ TE Tryd.f59 none [.ro (.v (.string r1)), .ro (.v (.bool r2))] [] w ro B))
 s_l1 : ∀ (r1 : ByteArray) (r2 : Bool) (w : World) (ro : Nat → Prop) (B : Nat) (_ : Fr TE (cx0 Tryd.f59 none w ro B)) (J0 : St → Prop) (_ : ∀ m σ, m ≤ k → impl_rowed.I0 r1 r2 m σ → J0 σ) (x10 : List (List Int)) (x11 : Int) (x12 : Int) (x16 : List Int) (x17 : Int) (x18 : Int) (x302000 : Int) (x302001 : List (S62)) (x306000 : Int) (x306001 : List (S62)) (_ : impl_rowed.l1 k x10 x11 x12 x16 x17 x18 x302000 x302001 x306000 x306001 = some (r1, r2)), Kp (WS TE (cx0 Tryd.f59 none w ro B) (stkAt [1, 1, 0, 1, 0, 0, 1, 1, 0, 0, 1, 1, 0, 1, 0] [J0] (bodyOf Tryd.f59) []) ⟨[(4, .pt 1004 0 0), (7, .pt 1007 0 0), (10, .sl 1 (rX (cL (cI .i64) 1) x10)), (11, .v (.int .i64 x11)), (12, .v (.int .i64 x12)), (16, .sl 1 (rX (cI .i64) x16)), (17, .v (.int .i64 x17)), (18, .v (.int .i64 x18))], [(3257, .own 0 62 2 (r62 x302001)), (1004, .box 0 62 false [.v (.int .i64 x302000), .ow 3257 0]), (3449, .own 0 62 2 (r62 x306001)), (1007, .box 0 62 false [.v (.int .i64 x306000), .ow 3449 0])]⟩ (RetQ TE Tryd.f59 none [.ro (.v (.string r1)), .ro (.v (.bool r2))] [] w ro B))
set_option maxRecDepth 100000 in
set_option maxHeartbeats 4000000 in
theorem impl_rowed.c_l0 (k : Nat) (ih : Kp (∀ m, m < k → impl_rowed.C m)) (r1 : ByteArray) (r2 : Bool) (w : World) (ro : Nat → Prop) (B : Nat) (hF : Fr TE (cx0 Tryd.f59 none w ro B)) (x10 : List (List Int)) (x11 : Int) (x12 : Int) (x302000 : Int) (x302001 : List (S62)) (h : impl_rowed.l0 k x10 x11 x12 x302000 x302001 = some (r1, r2)) : Kp (WS TE (cx0 Tryd.f59 none w ro B) (stkAt [1, 1, 0, 1, 0] [] (bodyOf Tryd.f59) []) ⟨[(4, .pt 1004 0 0), (10, .sl 1 (rX (cL (cI .i64) 1) x10)), (11, .v (.int .i64 x11)), (12, .v (.int .i64 x12))], [(3257, .own 0 62 2 (r62 x302001)), (1004, .box 0 62 false [.v (.int .i64 x302000), .ow 3257 0])]⟩ (RetQ TE Tryd.f59 none [.ro (.v (.string r1)), .ro (.v (.bool r2))] [] w ro B)) := by
 refine ⟨WS.loop (fun m σ => m ≤ k ∧ impl_rowed.I0 r1 r2 m σ) k ⟨Nat.le_refl k, x10, x11, x12, x302000, x302001, h, rfl⟩ (fun m σ' hI J0 hJ0 => ?_)⟩
 clear h
 obtain ⟨hk, x10, x11, x12, x302000, x302001, h, rfl⟩ := hI
 cases m with
 | zero => simp [impl_rowed.l0] at h
 | succ k' =>
 simp only [impl_rowed.l0] at h
 by_cases c1 : x12 < x11
 · rw [if_pos c1] at h
   by_cases c2 : 0 ≤ x12
   · rw [if_pos c2] at h
     by_cases c3 : x12 < (x10.length : Int)
     · rw [if_pos c3] at h
       refine path_ok (k := 15) hF (RetQ_mild _ _ _ _ _ _ _ _) (ds := [.b true, .e 14 (.rf [.sl 1 (rX (cI .i64) (rd_L5 x10 x12))]), .e 17 (.v (.int .i64 ((rd_L5 x10 x12).length : Int)))]) (os := []) (c := none) rfl KD ?_
       exact WS.can [(1004, some 1004), (3257, some 3257), (1007, some 7), (3449, none)] (((ih.out k' (by omega)).s_l1  r1 r2 w ro B hF J0 (fun m σ hm hI => hJ0 m σ (by omega) ⟨by omega, hI⟩) x10 x11 x12 (rd_L5 x10 x12) ((rd_L5 x10 x12).length : Int) 0 x302000 x302001 0 ([] : List (S62)) h).out) KD
     · rw [if_neg c3] at h
       cases h
   · rw [if_neg c2] at h
     cases h
 · rw [if_neg c1] at h
   obtain ⟨⟨t302, t303⟩, q4, h⟩ := Option.bind_eq_some_iff.1 h
   dsimp only at h
   have q4c := impl_arr_short.ctr k' _ _ _ _ _ q4
   refine path_ok (k := 8) hF (RetQ_mild _ _ _ _ _ _ _ _) (ds := [.b false, .r [.ro (.v (.string t302)), .ro (.v (.bool t303))] []]) (os := []) (c := none) rfl KD ?_
   cases h
   exact ret_as (ms := [.ro, .ro]) rfl KD
set_option maxRecDepth 100000 in
set_option maxHeartbeats 4000000 in
theorem impl_rowed.c_l1 (k : Nat) (ih : Kp (∀ m, m < k → impl_rowed.C m)) (r1 : ByteArray) (r2 : Bool) (w : World) (ro : Nat → Prop) (B : Nat) (hF : Fr TE (cx0 Tryd.f59 none w ro B)) (J0 : St → Prop) (hJ0 : ∀ m σ, m ≤ k → impl_rowed.I0 r1 r2 m σ → J0 σ) (x10 : List (List Int)) (x11 : Int) (x12 : Int) (x16 : List Int) (x17 : Int) (x18 : Int) (x302000 : Int) (x302001 : List (S62)) (x306000 : Int) (x306001 : List (S62)) (h : impl_rowed.l1 k x10 x11 x12 x16 x17 x18 x302000 x302001 x306000 x306001 = some (r1, r2)) : Kp (WS TE (cx0 Tryd.f59 none w ro B) (stkAt [1, 1, 0, 1, 0, 0, 1, 1, 0, 0, 1, 1, 0, 1, 0] [J0] (bodyOf Tryd.f59) []) ⟨[(4, .pt 1004 0 0), (7, .pt 1007 0 0), (10, .sl 1 (rX (cL (cI .i64) 1) x10)), (11, .v (.int .i64 x11)), (12, .v (.int .i64 x12)), (16, .sl 1 (rX (cI .i64) x16)), (17, .v (.int .i64 x17)), (18, .v (.int .i64 x18))], [(3257, .own 0 62 2 (r62 x302001)), (1004, .box 0 62 false [.v (.int .i64 x302000), .ow 3257 0]), (3449, .own 0 62 2 (r62 x306001)), (1007, .box 0 62 false [.v (.int .i64 x306000), .ow 3449 0])]⟩ (RetQ TE Tryd.f59 none [.ro (.v (.string r1)), .ro (.v (.bool r2))] [] w ro B)) := by
 refine ⟨WS.loop (fun m σ => m ≤ k ∧ impl_rowed.I1 r1 r2 m σ) k ⟨Nat.le_refl k, x10, x11, x12, x16, x17, x18, x302000, x302001, x306000, x306001, h, rfl⟩ (fun m σ' hI J1 hJ1 => ?_)⟩
 clear h
 obtain ⟨hk, x10, x11, x12, x16, x17, x18, x302000, x302001, x306000, x306001, h, rfl⟩ := hI
 cases m with
 | zero => simp [impl_rowed.l1] at h
 | succ k' =>
 simp only [impl_rowed.l1] at h
 by_cases c5 : x18 < x17
 · rw [if_pos c5] at h
   by_cases c6 : 0 ≤ x18
   · rw [if_pos c6] at h
     by_cases c7 : x18 < (x16.length : Int)
     · rw [if_pos c7] at h
       by_cases c8 : x306001.length < 4398046511104
       · rw [if_pos c8] at h
         refine path_ok (k := 12) hF (RetQ_mild _ _ _ _ _ _ _ _) (ds := [.b true, .e 20 (.rf [.v (.int .i64 (rd x16 x18))]), .p 26 ([[.v (.int .i64 (rd x16 x18)), .sl 2 (r62 [])]]), .o 27 (r62 (x306001 ++ [(⟨rd x16 x18, ([] : List (S62))⟩ : S62)]))]) (os := []) (c := none) rfl KD ?_
         exact WS.lpc [(1004, some 1004), (3257, some 3257), (1007, some 1007), (3449, some 3449)] (hJ1 _ _ (Nat.lt_succ_self _) ⟨by omega, x10, x11, x12, x16, x17, (wrap64 (x18 + 1)), x302000, x302001, x306000, (x306001 ++ [(⟨rd x16 x18, ([] : List (S62))⟩ : S62)]), h, rfl⟩) KD
       · rw [if_neg c8] at h
         cases h
     · rw [if_neg c7] at h
       cases h
   · rw [if_neg c6] at h
     cases h
 · rw [if_neg c5] at h
   by_cases c9 : x302001.length < 4398046511104
   · rw [if_pos c9] at h
     refine path_ok (k := 8) hF (RetQ_mild _ _ _ _ _ _ _ _) (ds := [.b false, .p 33 ([[.v (.int .i64 x306000), .sl 2 (r62 x306001)]]), .o 34 (r62 (x302001 ++ [(⟨x306000, x306001⟩ : S62)]))]) (os := []) (c := none) rfl KD ?_
     exact WS.lpc [(1004, some 1004), (3257, some 3257)] (hJ0 _ _ (by omega) ⟨x10, x11, (wrap64 (x12 + 1)), x302000, (x302001 ++ [(⟨x306000, x306001⟩ : S62)]), h, rfl⟩) KD
   · rw [if_neg c9] at h
     cases h
theorem impl_rowed.cs (k : Nat) : impl_rowed.C k := by
 induction k using Nat.strongRecOn with
 | _ k ih0 =>
 have ih : Kp (∀ m, m < k → impl_rowed.C m) := ⟨ih0⟩
 exact ⟨impl_rowed.c_l0 k ih, impl_rowed.c_l1 k ih⟩
set_option maxRecDepth 100000 in
set_option maxHeartbeats 4000000 in
theorem impl_rowed.ctr (k : Nat) (l0 : List (List Int)) (r1 : ByteArray) (r2 : Bool) (h : impl_rowed.f k l0 = some (r1, r2)) : Ctr TE 59 none [.sl 1 (rX (cL (cI .i64) 1) l0)] [.ro (.v (.string r1)), .ro (.v (.bool r2))] [] := by
 refine ctr_of (fn := Tryd.f59) (c := (bodyOf Tryd.f59)) Tryd.func59 rfl (by kernel_rfl) (Nat.le_of_ble_eq_true (by kernel_rfl)) (fun w ro B hF _ => ?_)
 have ih : Kp (∀ m, m < k + 1 → impl_rowed.C m) := ⟨fun m _ => impl_rowed.cs m⟩
 simp only [impl_rowed.f] at h
 refine path_ok (k := 8) hF (RetQ_mild _ _ _ _ _ _ _ _) (ds := [.e 11 (.v (.int .i64 (l0.length : Int)))]) (os := []) (c := none) rfl KD ?_
 exact WS.can [(1004, some 4), (3257, none)] (((ih.out k (by omega)).s_l0  r1 r2 w ro B hF l0 (l0.length : Int) 0 0 ([] : List (S62)) h).out) KD
mutual
def spec_l13Num.j0 : Nat → ByteArray → Bool → Option (Int × Bool)
  | 0, _, _ => none
  | k + 1, x0, x4 => if x4 = true then (if 1 ≤ (x0.size : Int) then (spec_l13Num.j1 k (x0.extract 1 x0.size) x4) else (none)) else (spec_l13Num.j1 k x0 x4)
def spec_l13Num.j1 : Nat → ByteArray → Bool → Option (Int × Bool)
  | 0, _, _ => none
  | k + 1, x0, x4 => if (x0.size : Int) = 0 then (spec_l13Num.j2 k x0 x4 true) else (if (x0.size : Int) > 17 then (spec_l13Num.j2 k x0 x4 true) else (if 0 < (x0.size : Int) then (if (bt x0 0) = 48 then (if (x0.size : Int) > 1 then (spec_l13Num.j2 k x0 x4 true) else (spec_l13Num.j2 k x0 x4 x4)) else (spec_l13Num.j2 k x0 x4 false)) else (none)))
def spec_l13Num.j2 : Nat → ByteArray → Bool → Bool → Option (Int × Bool)
  | 0, _, _, _ => none
  | k + 1, x0, x4, x38 => if x38 = true then (some (0, false)) else (spec_l13Num.l0 k x0 x4 0 0)
def spec_l13Num.l0 : Nat → ByteArray → Bool → Int → Int → Option (Int × Bool)
  | 0, _, _, _, _ => none
  | k + 1, x0, x4, x5, x6 => if x6 < (x0.size : Int) then (if 0 ≤ x6 then (if (bt x0 x6) < 48 then (some (0, false)) else (if (bt x0 x6) > 57 then (some (0, false)) else (spec_l13Num.l0 k x0 x4 (wrap64 ((wrap64 (x5 * 10)) + (((bt x0 x6) - 48) % 256))) (wrap64 (x6 + 1))))) else (none)) else (if x4 = true then (some (wrap64 (-x5), true)) else (some (x5, true)))
end
def spec_l13Num.f (k : Nat) (a0 : ByteArray) : Option (Int × Bool) := if (a0.size : Int) > 0 then (if 0 < (a0.size : Int) then (spec_l13Num.j0 k a0 ((bt a0 0) == 45)) else (none)) else (spec_l13Num.j0 k a0 false)
def spec_l13Num.I0 (r1 : Int) (r2 : Bool) (m : Nat) (σ : St) : Prop := ∃ (x0 : ByteArray) (x4 : Bool) (x5 : Int) (x6 : Int), spec_l13Num.l0 m x0 x4 x5 x6 = some (r1, r2) ∧ σ = ⟨[(0, .v (.string x0)), (4, .v (.bool x4)), (5, .v (.int .i64 x5)), (6, .v (.int .i64 x6))], []⟩
structure spec_l13Num.C (k : Nat) : Prop where
 s_j0 : ∀ (r1 : Int) (r2 : Bool) (w : World) (ro : Nat → Prop) (B : Nat) (_ : Fr TE (cx0 Tryd.f134 none w ro B)) (x0 : ByteArray) (x4 : Bool) (_ : spec_l13Num.j0 k x0 x4 = some (r1, r2)), Kp (WS TE (cx0 Tryd.f134 none w ro B) (stkAt [1, 0, 9] [] (bodyOf Tryd.f134) []) ⟨[(0, .v (.string x0)), (4, .v (.bool x4))], []⟩ (RetQ TE Tryd.f134 none [.ro (.v (.int .i64 r1)), .ro (.v (.bool r2))] [] w ro B))
 s_j1 : ∀ (r1 : Int) (r2 : Bool) (w : World) (ro : Nat → Prop) (B : Nat) (_ : Fr TE (cx0 Tryd.f134 none w ro B)) (x0 : ByteArray) (x4 : Bool) (_ : spec_l13Num.j1 k x0 x4 = some (r1, r2)), Kp (WS TE (cx0 Tryd.f134 none w ro B) (stkAt [1, 1, 0, 1, 9] [] (bodyOf Tryd.f134) []) ⟨[(0, .v (.string x0)), (4, .v (.bool x4))], []⟩ (RetQ TE Tryd.f134 none [.ro (.v (.int .i64 r1)), .ro (.v (.bool r2))] [] w ro B))
 s_j2 : ∀ (r1 : Int) (r2 : Bool) (w : World) (ro : Nat → Prop) (B : Nat) (_ : Fr TE (cx0 Tryd.f134 none w ro B)) (x0 : ByteArray) (x4 : Bool) (x38 : Bool) (_ : spec_l13Num.j2 k x0 x4 x38 = some (r1, r2)), Kp (WS TE (cx0 Tryd.f134 none w ro B) (stkAt [1, 1, 1, 0, 0, 9] [] (bodyOf Tryd.f134) []) ⟨[(0, .v (.string x0)), (4, .v (.bool x4)), (38, .v (.bool x38))], []⟩ (RetQ TE Tryd.f134 none [.ro (.v (.int .i64 r1)), .ro (.v (.bool r2))] [] w ro B))
 s_l0 : ∀ (r1 : Int) (r2 : Bool) (w : World) (ro : Nat → Prop) (B : Nat) (_ : Fr TE (cx0 Tryd.f134 none w ro B)) (x0 : ByteArray) (x4 : Bool) (x5 : Int) (x6 : Int) (_ : spec_l13Num.l0 k x0 x4 x5 x6 = some (r1, r2)), Kp (WS TE (cx0 Tryd.f134 none w ro B) (stkAt [1, 1, 1, 1, 1, 0, 1, 0] [] (bodyOf Tryd.f134) []) ⟨[(0, .v (.string x0)), (4, .v (.bool x4)), (5, .v (.int .i64 x5)), (6, .v (.int .i64 x6))], []⟩ (RetQ TE Tryd.f134 none [.ro (.v (.int .i64 r1)), .ro (.v (.bool r2))] [] w ro B))
set_option maxRecDepth 100000 in
set_option maxHeartbeats 4000000 in
theorem spec_l13Num.c_j0 (k : Nat) (ih : Kp (∀ m, m < k → spec_l13Num.C m)) (r1 : Int) (r2 : Bool) (w : World) (ro : Nat → Prop) (B : Nat) (hF : Fr TE (cx0 Tryd.f134 none w ro B)) (x0 : ByteArray) (x4 : Bool) (h : spec_l13Num.j0 k x0 x4 = some (r1, r2)) : Kp (WS TE (cx0 Tryd.f134 none w ro B) (stkAt [1, 0, 9] [] (bodyOf Tryd.f134) []) ⟨[(0, .v (.string x0)), (4, .v (.bool x4))], []⟩ (RetQ TE Tryd.f134 none [.ro (.v (.int .i64 r1)), .ro (.v (.bool r2))] [] w ro B)) := by
 refine ⟨?_⟩
 cases k with
 | zero => simp [spec_l13Num.j0] at h
 | succ k =>
 simp only [spec_l13Num.j0] at h
 by_cases c4 : x4 = true
 · rw [if_pos c4] at h
   by_cases c5 : 1 ≤ (x0.size : Int)
   · rw [if_pos c5] at h
     refine path_ok (k := 5) hF (RetQ_mild _ _ _ _ _ _ _ _) (ds := [.b true]) (os := []) (c := none) rfl KD ?_
     exact WS.can [] (((ih.out k (by omega)).s_j1  r1 r2 w ro B hF (x0.extract 1 x0.size) x4 h).out) KD
   · rw [if_neg c5] at h
     cases h
 · rw [if_neg c4] at h
   refine path_ok (k := 5) hF (RetQ_mild _ _ _ _ _ _ _ _) (ds := [.b false]) (os := []) (c := none) rfl KD ?_
   exact WS.can [] (((ih.out k (by omega)).s_j1  r1 r2 w ro B hF x0 x4 h).out) KD
set_option maxRecDepth 100000 in
set_option maxHeartbeats 4000000 in
theorem spec_l13Num.c_j1 (k : Nat) (ih : Kp (∀ m, m < k → spec_l13Num.C m)) (r1 : Int) (r2 : Bool) (w : World) (ro : Nat → Prop) (B : Nat) (hF : Fr TE (cx0 Tryd.f134 none w ro B)) (x0 : ByteArray) (x4 : Bool) (h : spec_l13Num.j1 k x0 x4 = some (r1, r2)) : Kp (WS TE (cx0 Tryd.f134 none w ro B) (stkAt [1, 1, 0, 1, 9] [] (bodyOf Tryd.f134) []) ⟨[(0, .v (.string x0)), (4, .v (.bool x4))], []⟩ (RetQ TE Tryd.f134 none [.ro (.v (.int .i64 r1)), .ro (.v (.bool r2))] [] w ro B)) := by
 refine ⟨?_⟩
 cases k with
 | zero => simp [spec_l13Num.j1] at h
 | succ k =>
 simp only [spec_l13Num.j1] at h
 by_cases c6 : (x0.size : Int) = 0
 · rw [if_pos c6] at h
   refine path_ok (k := 3) hF (RetQ_mild _ _ _ _ _ _ _ _) (ds := [.b true, .b true, .b true, .b true, .b true, .b true, .b true, .b true, .b true, .b true]) (os := []) (c := none) rfl KD ?_
   exact WS.can [] (((ih.out k (by omega)).s_j2  r1 r2 w ro B hF x0 x4 true h).out) KD
 · rw [if_neg c6] at h
   by_cases c7 : (x0.size : Int) > 17
   · rw [if_pos c7] at h
     refine path_ok (k := 3) hF (RetQ_mild _ _ _ _ _ _ _ _) (ds := [.b false, .b false, .b false, .b false, .b true, .b true, .b true, .b true, .b true, .b true]) (os := []) (c := none) rfl KD ?_
     exact WS.can [] (((ih.out k (by omega)).s_j2  r1 r2 w ro B hF x0 x4 true h).out) KD
   · rw [if_neg c7] at h
     by_cases c8 : 0 < (x0.size : Int)
     · rw [if_pos c8] at h
       by_cases c9 : (bt x0 0) = 48
       · rw [if_pos c9] at h
         by_cases c10 : (x0.size : Int) > 1
         · rw [if_pos c10] at h
           have hb10 := bt_range x0 0
           refine path_ok (k := 3) hF (RetQ_mild _ _ _ _ _ _ _ _) (ds := [.b false, .b false, .b false, .b false, .b false, .b false, .b false, .b false, .b true, .b true, .b true, .b true, .b true, .b true, .b true, .b false, .b true, .b false]) (os := []) (c := none) rfl KD ?_
           exact WS.can [] (((ih.out k (by omega)).s_j2  r1 r2 w ro B hF x0 x4 true h).out) KD
         · rw [if_neg c10] at h
           have hb11 := bt_range x0 0
           refine path_ok (k := 3) hF (RetQ_mild _ _ _ _ _ _ _ _) (ds := [.b false, .b false, .b false, .b false, .b false, .b false, .b false, .b false, .b true, .b true, .b true, .b true, .b false, .b true, .b false, .b false, .b true, .b false]) (os := []) (c := none) rfl KD ?_
           exact WS.can [] (((ih.out k (by omega)).s_j2  r1 r2 w ro B hF x0 x4 x4 h).out) KD
       · rw [if_neg c9] at h
         have hb12 := bt_range x0 0
         refine path_ok (k := 3) hF (RetQ_mild _ _ _ _ _ _ _ _) (ds := [.b false, .b false, .b false, .b false, .b false, .b false, .b false, .b false, .b false, .b false, .b false, .b false, .b false, .b false, .b false, .b false]) (os := []) (c := none) rfl KD ?_
         exact WS.can [] (((ih.out k (by omega)).s_j2  r1 r2 w ro B hF x0 x4 false h).out) KD
     · rw [if_neg c8] at h
       cases h
set_option maxRecDepth 100000 in
set_option maxHeartbeats 4000000 in
theorem spec_l13Num.c_j2 (k : Nat) (ih : Kp (∀ m, m < k → spec_l13Num.C m)) (r1 : Int) (r2 : Bool) (w : World) (ro : Nat → Prop) (B : Nat) (hF : Fr TE (cx0 Tryd.f134 none w ro B)) (x0 : ByteArray) (x4 : Bool) (x38 : Bool) (h : spec_l13Num.j2 k x0 x4 x38 = some (r1, r2)) : Kp (WS TE (cx0 Tryd.f134 none w ro B) (stkAt [1, 1, 1, 0, 0, 9] [] (bodyOf Tryd.f134) []) ⟨[(0, .v (.string x0)), (4, .v (.bool x4)), (38, .v (.bool x38))], []⟩ (RetQ TE Tryd.f134 none [.ro (.v (.int .i64 r1)), .ro (.v (.bool r2))] [] w ro B)) := by
 refine ⟨?_⟩
 cases k with
 | zero => simp [spec_l13Num.j2] at h
 | succ k =>
 simp only [spec_l13Num.j2] at h
 by_cases c14 : x38 = true
 · rw [if_pos c14] at h
   refine path_ok (k := 4) hF (RetQ_mild _ _ _ _ _ _ _ _) (ds := [.b true]) (os := []) (c := none) rfl KD ?_
   cases h
   exact ret_as (ms := [.ro, .ro]) rfl KD
 · rw [if_neg c14] at h
   refine path_ok (k := 8) hF (RetQ_mild _ _ _ _ _ _ _ _) (ds := [.b false]) (os := []) (c := none) rfl KD ?_
   exact WS.can [] (((ih.out k (by omega)).s_l0  r1 r2 w ro B hF x0 x4 0 0 h).out) KD
set_option maxRecDepth 100000 in
set_option maxHeartbeats 4000000 in
theorem spec_l13Num.c_l0 (k : Nat) (ih : Kp (∀ m, m < k → spec_l13Num.C m)) (r1 : Int) (r2 : Bool) (w : World) (ro : Nat → Prop) (B : Nat) (hF : Fr TE (cx0 Tryd.f134 none w ro B)) (x0 : ByteArray) (x4 : Bool) (x5 : Int) (x6 : Int) (h : spec_l13Num.l0 k x0 x4 x5 x6 = some (r1, r2)) : Kp (WS TE (cx0 Tryd.f134 none w ro B) (stkAt [1, 1, 1, 1, 1, 0, 1, 0] [] (bodyOf Tryd.f134) []) ⟨[(0, .v (.string x0)), (4, .v (.bool x4)), (5, .v (.int .i64 x5)), (6, .v (.int .i64 x6))], []⟩ (RetQ TE Tryd.f134 none [.ro (.v (.int .i64 r1)), .ro (.v (.bool r2))] [] w ro B)) := by
 refine ⟨WS.loop (fun m σ => m ≤ k ∧ spec_l13Num.I0 r1 r2 m σ) k ⟨Nat.le_refl k, x0, x4, x5, x6, h, rfl⟩ (fun m σ' hI J0 hJ0 => ?_)⟩
 clear h
 obtain ⟨hk, x0, x4, x5, x6, h, rfl⟩ := hI
 cases m with
 | zero => simp [spec_l13Num.l0] at h
 | succ k' =>
 simp only [spec_l13Num.l0] at h
 by_cases c15 : x6 < (x0.size : Int)
 · rw [if_pos c15] at h
   by_cases c16 : 0 ≤ x6
   · rw [if_pos c16] at h
     by_cases c17 : (bt x0 x6) < 48
     · rw [if_pos c17] at h
       have hb17 := bt_range x0 x6
       refine path_ok (k := 14) hF (RetQ_mild _ _ _ _ _ _ _ _) (ds := [.b true, .b true, .b true, .b true, .b true, .b true, .b true]) (os := []) (c := none) rfl KD ?_
       cases h
       exact ret_as (ms := [.ro, .ro]) rfl KD
     · rw [if_neg c17] at h
       by_cases c19 : (bt x0 x6) > 57
       · rw [if_pos c19] at h
         have hb19 := bt_range x0 x6
         refine path_ok (k := 14) hF (RetQ_mild _ _ _ _ _ _ _ _) (ds := [.b true, .b false, .b false, .b false, .b false, .b false, .b true]) (os := []) (c := none) rfl KD ?_
         cases h
         exact ret_as (ms := [.ro, .ro]) rfl KD
       · rw [if_neg c19] at h
         have hb20 := bt_range x0 x6
         refine path_ok (k := 15) hF (RetQ_mild _ _ _ _ _ _ _ _) (ds := [.b true, .b false, .b false, .b false, .b false, .b false, .b false, .e 60 (.v (.int .u8 (((bt x0 x6) - 48) % 256))), .e 61 (.v (.int .i64 (((bt x0 x6) - 48) % 256)))]) (os := []) (c := none) rfl KD ?_
         exact WS.lpc [] (hJ0 _ _ (Nat.lt_succ_self _) ⟨by omega, x0, x4, (wrap64 ((wrap64 (x5 * 10)) + (((bt x0 x6) - 48) % 256))), (wrap64 (x6 + 1)), h, rfl⟩) KD
   · rw [if_neg c16] at h
     cases h
 · rw [if_neg c15] at h
   by_cases c22 : x4 = true
   · rw [if_pos c22] at h
     refine path_ok (k := 13) hF (RetQ_mild _ _ _ _ _ _ _ _) (ds := [.b false, .b true, .e 65 (.v (.int .i64 (wrap64 (-x5))))]) (os := []) (c := none) rfl KD ?_
     cases h
     exact ret_as (ms := [.ro, .ro]) rfl KD
   · rw [if_neg c22] at h
     refine path_ok (k := 13) hF (RetQ_mild _ _ _ _ _ _ _ _) (ds := [.b false, .b false]) (os := []) (c := none) rfl KD ?_
     cases h
     exact ret_as (ms := [.ro, .ro]) rfl KD
theorem spec_l13Num.cs (k : Nat) : spec_l13Num.C k := by
 induction k using Nat.strongRecOn with
 | _ k ih0 =>
 have ih : Kp (∀ m, m < k → spec_l13Num.C m) := ⟨ih0⟩
 exact ⟨spec_l13Num.c_j0 k ih, spec_l13Num.c_j1 k ih, spec_l13Num.c_j2 k ih, spec_l13Num.c_l0 k ih⟩
set_option maxRecDepth 100000 in
set_option maxHeartbeats 4000000 in
theorem spec_l13Num.ctr (k : Nat) (a0 : ByteArray) (r1 : Int) (r2 : Bool) (h : spec_l13Num.f k a0 = some (r1, r2)) : Ctr TE 134 none [.v (.string a0)] [.ro (.v (.int .i64 r1)), .ro (.v (.bool r2))] [] := by
 refine ctr_of (fn := Tryd.f134) (c := (bodyOf Tryd.f134)) Tryd.func134 rfl (by kernel_rfl) (Nat.le_of_ble_eq_true (by kernel_rfl)) (fun w ro B hF _ => ?_)
 have ih : Kp (∀ m, m < k + 1 → spec_l13Num.C m) := ⟨fun m _ => spec_l13Num.cs m⟩
 simp only [spec_l13Num.f] at h
 by_cases c1 : (a0.size : Int) > 0
 · rw [if_pos c1] at h
   by_cases c2 : 0 < (a0.size : Int)
   · rw [if_pos c2] at h
     have hb2 := bt_range a0 0
     refine path_ok (k := 4) hF (RetQ_mild _ _ _ _ _ _ _ _) (ds := [.b true, .b true, .b true, .b true]) (os := []) (c := none) rfl KD ?_
     exact WS.can [] (((ih.out k (by omega)).s_j0  r1 r2 w ro B hF a0 ((bt a0 0) == 45) h).out) KD
   · rw [if_neg c2] at h
     cases h
 · rw [if_neg c1] at h
   refine path_ok (k := 4) hF (RetQ_mild _ _ _ _ _ _ _ _) (ds := [.b false, .b false, .b false, .b false]) (os := []) (c := none) rfl KD ?_
   exact WS.can [] (((ih.out k (by omega)).s_j0  r1 r2 w ro B hF a0 false h).out) KD
def spec_l1Reader_number.l0 : Nat → Int → ByteArray → Int → Bool → Option (Int × ByteArray × Int × Bool)
  | 0, _, _, _, _ => none
  | k + 1, x3, x1000, x1001, x1002 => if x1001 < (x1000.size : Int) then (if 0 ≤ x1001 then ((spec_l1In.f (wrap64 (bt x1000 x1001)) 48 57).bind fun t313 => (if t313 = true then (if x1001 < (wrap64 (x3 + 6)) then (spec_l1Reader_number.l0 k x3 x1000 (wrap64 (x1001 + 1)) x1002) else (if 0 ≤ x3 then (if x3 ≤ x1001 then (if x1001 ≤ (x1000.size : Int) then ((spec_l13Num.f k (x1000.extract (x3 : Int).toNat (x1001 : Int).toNat)).bind fun bt314 => (if x1002 = true then (some (bt314.1, x1000, x1001, true)) else (if bt314.2 = true then ((spec_l1In.f bt314.1 0 10006).bind fun t316 => (some (bt314.1, x1000, x1001, !t316))) else (some (bt314.1, x1000, x1001, true))))) else (none)) else (none)) else (none))) else (if 0 ≤ x3 then (if x3 ≤ x1001 then (if x1001 ≤ (x1000.size : Int) then ((spec_l13Num.f k (x1000.extract (x3 : Int).toNat (x1001 : Int).toNat)).bind fun bt317 => (if x1002 = true then (some (bt317.1, x1000, x1001, true)) else (if bt317.2 = true then ((spec_l1In.f bt317.1 0 10006).bind fun t319 => (some (bt317.1, x1000, x1001, !t319))) else (some (bt317.1, x1000, x1001, true))))) else (none)) else (none)) else (none)))) else (none)) else (if 0 ≤ x3 then (if x3 ≤ x1001 then (if x1001 ≤ (x1000.size : Int) then ((spec_l13Num.f k (x1000.extract (x3 : Int).toNat (x1001 : Int).toNat)).bind fun bt320 => (if x1002 = true then (some (bt320.1, x1000, x1001, true)) else (if bt320.2 = true then ((spec_l1In.f bt320.1 0 10006).bind fun t322 => (some (bt320.1, x1000, x1001, !t322))) else (some (bt320.1, x1000, x1001, true))))) else (none)) else (none)) else (none))
def spec_l1Reader_number.f (k : Nat) (s0_0 : ByteArray) (s0_1 : Int) (s0_2 : Bool) : Option (Int × ByteArray × Int × Bool) := spec_l1Reader_number.l0 k s0_1 s0_0 s0_1 s0_2
def spec_l1Reader_number.I0 (s0_0 : ByteArray) (s0_1 : Int) (s0_2 : Bool) (r1 : Int) (r2 : ByteArray) (r3 : Int) (r4 : Bool) (m : Nat) (σ : St) : Prop := ∃ (x3 : Int) (x1000 : ByteArray) (x1001 : Int) (x1002 : Bool), spec_l1Reader_number.l0 m x3 x1000 x1001 x1002 = some (r1, r2, r3, r4) ∧ σ = ⟨[(0, .pt 0 0 0), (3, .v (.int .i64 x3))], [(0, .box 0 123 true [.v (.string x1000), .v (.int .i64 x1001), .v (.bool x1002)])]⟩
structure spec_l1Reader_number.C (k : Nat) : Prop where
 s_l0 : ∀ (s0_0 : ByteArray) (s0_1 : Int) (s0_2 : Bool) (r1 : Int) (r2 : ByteArray) (r3 : Int) (r4 : Bool) (w : World) (ro : Nat → Prop) (B : Nat) (_ : Fr TE (cx0 Tryd.f119 (some (123, [.v (.string s0_0), .v (.int .i64 s0_1), .v (.bool s0_2)])) w ro B)) (x3 : Int) (x1000 : ByteArray) (x1001 : Int) (x1002 : Bool) (_ : spec_l1Reader_number.l0 k x3 x1000 x1001 x1002 = some (r1, r2, r3, r4)), Kp (WS TE (cx0 Tryd.f119 (some (123, [.v (.string s0_0), .v (.int .i64 s0_1), .v (.bool s0_2)])) w ro B) (stkAt [1, 1, 0, 0] [] (bodyOf Tryd.f119) []) ⟨[(0, .pt 0 0 0), (3, .v (.int .i64 x3))], [(0, .box 0 123 true [.v (.string x1000), .v (.int .i64 x1001), .v (.bool x1002)])]⟩ (RetQ TE Tryd.f119 (some (123, [.v (.string s0_0), .v (.int .i64 s0_1), .v (.bool s0_2)])) [.ro (.v (.int .i64 r1))] [.v (.string r2), .v (.int .i64 r3), .v (.bool r4)] w ro B))
set_option maxRecDepth 100000 in
set_option maxHeartbeats 4000000 in
theorem spec_l1Reader_number.c_l0 (k : Nat) (ih : Kp (∀ m, m < k → spec_l1Reader_number.C m)) (s0_0 : ByteArray) (s0_1 : Int) (s0_2 : Bool) (r1 : Int) (r2 : ByteArray) (r3 : Int) (r4 : Bool) (w : World) (ro : Nat → Prop) (B : Nat) (hF : Fr TE (cx0 Tryd.f119 (some (123, [.v (.string s0_0), .v (.int .i64 s0_1), .v (.bool s0_2)])) w ro B)) (x3 : Int) (x1000 : ByteArray) (x1001 : Int) (x1002 : Bool) (h : spec_l1Reader_number.l0 k x3 x1000 x1001 x1002 = some (r1, r2, r3, r4)) : Kp (WS TE (cx0 Tryd.f119 (some (123, [.v (.string s0_0), .v (.int .i64 s0_1), .v (.bool s0_2)])) w ro B) (stkAt [1, 1, 0, 0] [] (bodyOf Tryd.f119) []) ⟨[(0, .pt 0 0 0), (3, .v (.int .i64 x3))], [(0, .box 0 123 true [.v (.string x1000), .v (.int .i64 x1001), .v (.bool x1002)])]⟩ (RetQ TE Tryd.f119 (some (123, [.v (.string s0_0), .v (.int .i64 s0_1), .v (.bool s0_2)])) [.ro (.v (.int .i64 r1))] [.v (.string r2), .v (.int .i64 r3), .v (.bool r4)] w ro B)) := by
 refine ⟨WS.loop (fun m σ => m ≤ k ∧ spec_l1Reader_number.I0 s0_0 s0_1 s0_2 r1 r2 r3 r4 m σ) k ⟨Nat.le_refl k, x3, x1000, x1001, x1002, h, rfl⟩ (fun m σ' hI J0 hJ0 => ?_)⟩
 clear h
 obtain ⟨hk, x3, x1000, x1001, x1002, h, rfl⟩ := hI
 cases m with
 | zero => simp [spec_l1Reader_number.l0] at h
 | succ k' =>
 simp only [spec_l1Reader_number.l0] at h
 by_cases c1 : x1001 < (x1000.size : Int)
 · rw [if_pos c1] at h
   by_cases c2 : 0 ≤ x1001
   · rw [if_pos c2] at h
     obtain ⟨t313, q3, h⟩ := Option.bind_eq_some_iff.1 h
     have q3c := spec_l1In.ctr _ _ _ _ q3
     by_cases c4 : t313 = true
     · rw [if_pos c4] at h
       by_cases c5 : x1001 < (wrap64 (x3 + 6))
       · rw [if_pos c5] at h
         have hb5 := bt_range x1000 x1001
         refine path_ok (k := 8) hF (RetQ_mild _ _ _ _ _ _ _ _) (ds := [.b true, .b true, .b true, .b true, .b true, .b true, .b true, .b true, .b true, .b true, .e 30 (.v (.int .i64 (wrap64 (bt x1000 x1001)))), .b true, .r [.ro (.v (.bool t313))] [], .b true, .b true, .b true, .b true, .b true, .b true, .b true, .b true, .b true, .b true]) (os := [.o [(0, 0), (1, 0), (2, 0), (3, 1), (4, 0), (5, 0), (6, 0), (7, 1), (8, 0), (9, 0), (10, 0), (11, 0), (12, 0), (13, 0), (14, 1), (15, 0), (16, 0), (17, 0), (18, 1), (19, 0), (20, 0), (21, 2), (22, 0), (23, 0), (24, 0), (25, 0), (26, 0), (28, 0), (29, 0), (27, 2), (30, 0), (31, 0)] []]) (c := none) rfl KD ?_
         exact WS.lpc [(0, some 0)] (hJ0 _ _ (Nat.lt_succ_self _) ⟨by omega, x3, x1000, (wrap64 (x1001 + 1)), x1002, h, rfl⟩) KD
       · rw [if_neg c5] at h
         by_cases c7 : 0 ≤ x3
         · rw [if_pos c7] at h
           by_cases c8 : x3 ≤ x1001
           · rw [if_pos c8] at h
             by_cases c9 : x1001 ≤ (x1000.size : Int)
             · rw [if_pos c9] at h
               obtain ⟨⟨t314, t315⟩, q10, h⟩ := Option.bind_eq_some_iff.1 h
               dsimp only at h
               have q10c := spec_l13Num.ctr k' _ _ _ q10
               by_cases c11 : x1002 = true
               · rw [if_pos c11] at h
                 have hb11 := bt_range x1000 x1001
                 refine path_ok (k := 12) hF (RetQ_mild _ _ _ _ _ _ _ _) (ds := [.b true, .b true, .b true, .b true, .b true, .b true, .b true, .b true, .b true, .b true, .e 30 (.v (.int .i64 (wrap64 (bt x1000 x1001)))), .b true, .r [.ro (.v (.bool t313))] [], .b true, .b true, .b true, .b true, .b true, .b true, .b true, .b true, .b true, .b false, .r [.ro (.v (.int .i64 t314)), .ro (.v (.bool t315))] [], .b true, .b true, .b true, .b true, .b true, .b true, .b true]) (os := [.o [(0, 0), (1, 0), (2, 0), (3, 1), (4, 0), (5, 0), (6, 0), (7, 1), (8, 0), (9, 0), (10, 0), (11, 0), (12, 0), (13, 0), (14, 1), (15, 0), (16, 0), (17, 0), (18, 1), (19, 0), (20, 0), (21, 2), (22, 0), (23, 0), (24, 0), (25, 0), (26, 0), (28, 0), (29, 0), (27, 2), (30, 0), (31, 0)] [], .o [(0, 0), (1, 0), (2, 0), (3, 1), (4, 0), (5, 0), (6, 0), (7, 0), (8, 1), (9, 0), (10, 2), (11, 0), (12, 0), (13, 0), (14, 0), (15, 0)] []]) (c := none) rfl KD ?_
                 cases h
                 exact ret_as (ms := [.ro]) rfl KD
               · rw [if_neg c11] at h
                 by_cases c13 : t315 = true
                 · rw [if_pos c13] at h
                   obtain ⟨t316, q14, h⟩ := Option.bind_eq_some_iff.1 h
                   have q14c := spec_l1In.ctr _ _ _ _ q14
                   have hb14 := bt_range x1000 x1001
                   refine path_ok (k := 12) hF (RetQ_mild _ _ _ _ _ _ _ _) (ds := [.b true, .b true, .b true, .b true, .b true, .b true, .b true, .b true, .b true, .b true, .e 30 (.v (.int .i64 (wrap64 (bt x1000 x1001)))), .b true, .r [.ro (.v (.bool t313))] [], .b true, .b true, .b true, .b true, .b true, .b true, .b true, .b true, .b true, .b false, .r [.ro (.v (.int .i64 t314)), .ro (.v (.bool t315))] [], .b false, .b false, .b false, .b false, .b false, .r [.ro (.v (.bool t316))] [], .b false, .b false]) (os := [.o [(0, 0), (1, 0), (2, 0), (3, 1), (4, 0), (5, 0), (6, 0), (7, 1), (8, 0), (9, 0), (10, 0), (11, 0), (12, 0), (13, 0), (14, 1), (15, 0), (16, 0), (17, 0), (18, 1), (19, 0), (20, 0), (21, 2), (22, 0), (23, 0), (24, 0), (25, 0), (26, 0), (28, 0), (29, 0), (27, 2), (30, 0), (31, 0)] [], .o [(0, 0), (1, 0), (2, 0), (3, 1), (4, 0), (5, 0), (6, 0), (7, 0), (8, 1), (9, 0), (10, 2), (11, 0), (12, 0), (13, 0), (14, 0), (15, 0)] []]) (c := none) rfl KD ?_
                   cases h
                   exact ret_as (ms := [.ro]) rfl KD
                 · rw [if_neg c13] at h
                   have hb15 := bt_range x1000 x1001
                   refine path_ok (k := 12) hF (RetQ_mild _ _ _ _ _ _ _ _) (ds := [.b true, .b true, .b true, .b true, .b true, .b true, .b true, .b true, .b true, .b true, .e 30 (.v (.int .i64 (wrap64 (bt x1000 x1001)))), .b true, .r [.ro (.v (.bool t313))] [], .b true, .b true, .b true, .b true, .b true, .b true, .b true, .b true, .b true, .b false, .r [.ro (.v (.int .i64 t314)), .ro (.v (.bool t315))] [], .b false, .b false, .b false, .b true, .b true, .b true, .b true]) (os := [.o [(0, 0), (1, 0), (2, 0), (3, 1), (4, 0), (5, 0), (6, 0), (7, 1), (8, 0), (9, 0), (10, 0), (11, 0), (12, 0), (13, 0), (14, 1), (15, 0), (16, 0), (17, 0), (18, 1), (19, 0), (20, 0), (21, 2), (22, 0), (23, 0), (24, 0), (25, 0), (26, 0), (28, 0), (29, 0), (27, 2), (30, 0), (31, 0)] [], .o [(0, 0), (1, 0), (2, 0), (3, 1), (4, 0), (5, 0), (6, 0), (7, 0), (8, 1), (9, 0), (10, 2), (11, 0), (12, 0), (13, 0), (14, 0), (15, 0)] []]) (c := none) rfl KD ?_
                   cases h
                   exact ret_as (ms := [.ro]) rfl KD
             · rw [if_neg c9] at h
               cases h
           · rw [if_neg c8] at h
             cases h
         · rw [if_neg c7] at h
           cases h
     · rw [if_neg c4] at h
       by_cases c17 : 0 ≤ x3
       · rw [if_pos c17] at h
         by_cases c18 : x3 ≤ x1001
         · rw [if_pos c18] at h
           by_cases c19 : x1001 ≤ (x1000.size : Int)
           · rw [if_pos c19] at h
             obtain ⟨⟨t317, t318⟩, q20, h⟩ := Option.bind_eq_some_iff.1 h
             dsimp only at h
             have q20c := spec_l13Num.ctr k' _ _ _ q20
             by_cases c21 : x1002 = true
             · rw [if_pos c21] at h
               have hb21 := bt_range x1000 x1001
               refine path_ok (k := 12) hF (RetQ_mild _ _ _ _ _ _ _ _) (ds := [.b true, .b true, .b true, .b true, .b true, .b true, .b true, .b true, .b true, .b true, .e 30 (.v (.int .i64 (wrap64 (bt x1000 x1001)))), .b true, .r [.ro (.v (.bool t313))] [], .b true, .b false, .b false, .b false, .b false, .b false, .b false, .b false, .b false, .b false, .r [.ro (.v (.int .i64 t317)), .ro (.v (.bool t318))] [], .b true, .b true, .b true, .b true, .b true, .b true, .b true]) (os := [.o [(0, 0), (1, 0), (2, 0), (3, 1), (4, 0), (5, 0), (6, 0), (7, 1), (8, 0), (9, 0), (10, 0), (11, 0), (12, 0), (13, 0), (14, 1), (15, 0), (16, 0), (17, 0), (18, 1), (19, 0), (20, 0), (21, 2), (22, 0), (23, 0), (24, 0), (25, 0), (26, 0), (28, 0), (29, 0), (27, 2), (30, 0), (31, 0)] [], .o [(0, 0), (1, 0), (2, 0), (3, 1), (4, 0), (5, 0), (6, 0), (7, 0), (8, 1), (9, 0), (10, 2), (11, 0), (12, 0), (13, 0), (14, 0), (15, 0)] []]) (c := none) rfl KD ?_
               cases h
               exact ret_as (ms := [.ro]) rfl KD
             · rw [if_neg c21] at h
               by_cases c23 : t318 = true
               · rw [if_pos c23] at h
                 obtain ⟨t319, q24, h⟩ := Option.bind_eq_some_iff.1 h
                 have q24c := spec_l1In.ctr _ _ _ _ q24
                 have hb24 := bt_range x1000 x1001
                 refine path_ok (k := 12) hF (RetQ_mild _ _ _ _ _ _ _ _) (ds := [.b true, .b true, .b true, .b true, .b true, .b true, .b true, .b true, .b true, .b true, .e 30 (.v (.int .i64 (wrap64 (bt x1000 x1001)))), .b true, .r [.ro (.v (.bool t313))] [], .b true, .b false, .b false, .b false, .b false, .b false, .b false, .b false, .b false, .b false, .r [.ro (.v (.int .i64 t317)), .ro (.v (.bool t318))] [], .b false, .b false, .b false, .b false, .b false, .r [.ro (.v (.bool t319))] [], .b false, .b false]) (os := [.o [(0, 0), (1, 0), (2, 0), (3, 1), (4, 0), (5, 0), (6, 0), (7, 1), (8, 0), (9, 0), (10, 0), (11, 0), (12, 0), (13, 0), (14, 1), (15, 0), (16, 0), (17, 0), (18, 1), (19, 0), (20, 0), (21, 2), (22, 0), (23, 0), (24, 0), (25, 0), (26, 0), (28, 0), (29, 0), (27, 2), (30, 0), (31, 0)] [], .o [(0, 0), (1, 0), (2, 0), (3, 1), (4, 0), (5, 0), (6, 0), (7, 0), (8, 1), (9, 0), (10, 2), (11, 0), (12, 0), (13, 0), (14, 0), (15, 0)] []]) (c := none) rfl KD ?_
                 cases h
                 exact ret_as (ms := [.ro]) rfl KD
               · rw [if_neg c23] at h
                 have hb25 := bt_range x1000 x1001
                 refine path_ok (k := 12) hF (RetQ_mild _ _ _ _ _ _ _ _) (ds := [.b true, .b true, .b true, .b true, .b true, .b true, .b true, .b true, .b true, .b true, .e 30 (.v (.int .i64 (wrap64 (bt x1000 x1001)))), .b true, .r [.ro (.v (.bool t313))] [], .b true, .b false, .b false, .b false, .b false, .b false, .b false, .b false, .b false, .b false, .r [.ro (.v (.int .i64 t317)), .ro (.v (.bool t318))] [], .b false, .b false, .b false, .b true, .b true, .b true, .b true]) (os := [.o [(0, 0), (1, 0), (2, 0), (3, 1), (4, 0), (5, 0), (6, 0), (7, 1), (8, 0), (9, 0), (10, 0), (11, 0), (12, 0), (13, 0), (14, 1), (15, 0), (16, 0), (17, 0), (18, 1), (19, 0), (20, 0), (21, 2), (22, 0), (23, 0), (24, 0), (25, 0), (26, 0), (28, 0), (29, 0), (27, 2), (30, 0), (31, 0)] [], .o [(0, 0), (1, 0), (2, 0), (3, 1), (4, 0), (5, 0), (6, 0), (7, 0), (8, 1), (9, 0), (10, 2), (11, 0), (12, 0), (13, 0), (14, 0), (15, 0)] []]) (c := none) rfl KD ?_
                 cases h
                 exact ret_as (ms := [.ro]) rfl KD
           · rw [if_neg c19] at h
             cases h
         · rw [if_neg c18] at h
           cases h
       · rw [if_neg c17] at h
         cases h
   · rw [if_neg c2] at h
     cases h
 · rw [if_neg c1] at h
   by_cases c27 : 0 ≤ x3
   · rw [if_pos c27] at h
     by_cases c28 : x3 ≤ x1001
     · rw [if_pos c28] at h
       by_cases c29 : x1001 ≤ (x1000.size : Int)
       · rw [if_pos c29] at h
         obtain ⟨⟨t320, t321⟩, q30, h⟩ := Option.bind_eq_some_iff.1 h
         dsimp only at h
         have q30c := spec_l13Num.ctr k' _ _ _ q30
         by_cases c31 : x1002 = true
         · rw [if_pos c31] at h
           refine path_ok (k := 12) hF (RetQ_mild _ _ _ _ _ _ _ _) (ds := [.b false, .b false, .b false, .b false, .b false, .b false, .b false, .b false, .b false, .b false, .b false, .b false, .b false, .b false, .b false, .b false, .b false, .b false, .b false, .b false, .b false, .r [.ro (.v (.int .i64 t320)), .ro (.v (.bool t321))] [], .b true, .b true, .b true, .b true, .b true, .b true, .b true]) (os := [.o [(0, 0), (1, 0), (2, 0), (3, 1), (4, 0), (5, 0), (6, 0), (7, 1), (8, 0), (9, 0), (10, 0), (11, 0), (12, 0), (13, 0), (14, 1), (15, 0), (16, 0), (17, 0), (18, 1), (19, 0), (20, 0), (21, 2), (22, 0), (23, 0), (24, 0), (25, 0), (26, 0), (28, 0), (29, 0), (27, 2), (30, 0), (31, 0)] [], .o [(0, 0), (1, 0), (2, 0), (3, 1), (4, 0), (5, 0), (6, 0), (7, 0), (8, 1), (9, 0), (10, 2), (11, 0), (12, 0), (13, 0), (14, 0), (15, 0)] []]) (c := none) rfl KD ?_
           cases h
           exact ret_as (ms := [.ro]) rfl KD
         · rw [if_neg c31] at h
           by_cases c32 : t321 = true
           · rw [if_pos c32] at h
             obtain ⟨t322, q33, h⟩ := Option.bind_eq_some_iff.1 h
             have q33c := spec_l1In.ctr _ _ _ _ q33
             refine path_ok (k := 12) hF (RetQ_mild _ _ _ _ _ _ _ _) (ds := [.b false, .b false, .b false, .b false, .b false, .b false, .b false, .b false, .b false, .b false, .b false, .b false, .b false, .b false, .b false, .b false, .b false, .b false, .b false, .b false, .b false, .r [.ro (.v (.int .i64 t320)), .ro (.v (.bool t321))] [], .b false, .b false, .b false, .b false, .b false, .r [.ro (.v (.bool t322))] [], .b false, .b false]) (os := [.o [(0, 0), (1, 0), (2, 0), (3, 1), (4, 0), (5, 0), (6, 0), (7, 1), (8, 0), (9, 0), (10, 0), (11, 0), (12, 0), (13, 0), (14, 1), (15, 0), (16, 0), (17, 0), (18, 1), (19, 0), (20, 0), (21, 2), (22, 0), (23, 0), (24, 0), (25, 0), (26, 0), (28, 0), (29, 0), (27, 2), (30, 0), (31, 0)] [], .o [(0, 0), (1, 0), (2, 0), (3, 1), (4, 0), (5, 0), (6, 0), (7, 0), (8, 1), (9, 0), (10, 2), (11, 0), (12, 0), (13, 0), (14, 0), (15, 0)] []]) (c := none) rfl KD ?_
             cases h
             exact ret_as (ms := [.ro]) rfl KD
           · rw [if_neg c32] at h
             refine path_ok (k := 12) hF (RetQ_mild _ _ _ _ _ _ _ _) (ds := [.b false, .b false, .b false, .b false, .b false, .b false, .b false, .b false, .b false, .b false, .b false, .b false, .b false, .b false, .b false, .b false, .b false, .b false, .b false, .b false, .b false, .r [.ro (.v (.int .i64 t320)), .ro (.v (.bool t321))] [], .b false, .b false, .b false, .b true, .b true, .b true, .b true]) (os := [.o [(0, 0), (1, 0), (2, 0), (3, 1), (4, 0), (5, 0), (6, 0), (7, 1), (8, 0), (9, 0), (10, 0), (11, 0), (12, 0), (13, 0), (14, 1), (15, 0), (16, 0), (17, 0), (18, 1), (19, 0), (20, 0), (21, 2), (22, 0), (23, 0), (24, 0), (25, 0), (26, 0), (28, 0), (29, 0), (27, 2), (30, 0), (31, 0)] [], .o [(0, 0), (1, 0), (2, 0), (3, 1), (4, 0), (5, 0), (6, 0), (7, 0), (8, 1), (9, 0), (10, 2), (11, 0), (12, 0), (13, 0), (14, 0), (15, 0)] []]) (c := none) rfl KD ?_
             cases h
             exact ret_as (ms := [.ro]) rfl KD
       · rw [if_neg c29] at h
         cases h
     · rw [if_neg c28] at h
       cases h
   · rw [if_neg c27] at h
     cases h
theorem spec_l1Reader_number.cs (k : Nat) : spec_l1Reader_number.C k := by
 induction k using Nat.strongRecOn with
 | _ k ih0 =>
 have ih : Kp (∀ m, m < k → spec_l1Reader_number.C m) := ⟨ih0⟩
 exact ⟨spec_l1Reader_number.c_l0 k ih⟩
set_option maxRecDepth 100000 in
set_option maxHeartbeats 4000000 in
theorem spec_l1Reader_number.ctr (k : Nat) (s0_0 : ByteArray) (s0_1 : Int) (s0_2 : Bool) (r1 : Int) (r2 : ByteArray) (r3 : Int) (r4 : Bool) (h : spec_l1Reader_number.f k s0_0 s0_1 s0_2 = some (r1, r2, r3, r4)) : Ctr TE 119 (some (123, [.v (.string s0_0), .v (.int .i64 s0_1), .v (.bool s0_2)])) [.pt 0 0 0] [.ro (.v (.int .i64 r1))] [.v (.string r2), .v (.int .i64 r3), .v (.bool r4)] := by
 refine ctr_of (fn := Tryd.f119) (c := (bodyOf Tryd.f119)) Tryd.func119 rfl (by kernel_rfl) (Nat.le_of_ble_eq_true (by kernel_rfl)) (fun w ro B hF _ => ?_)
 have ih : Kp (∀ m, m < k + 1 → spec_l1Reader_number.C m) := ⟨fun m _ => spec_l1Reader_number.cs m⟩
 simp only [spec_l1Reader_number.f] at h
 refine path_ok (k := 6) hF (RetQ_mild _ _ _ _ _ _ _ _) (ds := []) (os := []) (c := none) rfl KD ?_
 exact WS.can [(0, some 0)] (((ih.out k (by omega)).s_l0 s0_0 s0_1 s0_2 r1 r2 r3 r4 w ro B hF s0_1 s0_0 s0_1 s0_2 h).out) KD
def spec_l1Reader_is.f (s0_0 : ByteArray) (s0_1 : Int) (s0_2 : Bool) (a1 : Int) : Option (Bool × ByteArray × Int × Bool) := if s0_1 < (s0_0.size : Int) then (if 0 ≤ s0_1 then (if (bt s0_0 s0_1) = a1 then (some (true, s0_0, wrap64 (s0_1 + 1), s0_2)) else (some (false, s0_0, s0_1, s0_2))) else (none)) else (some (false, s0_0, s0_1, s0_2))
set_option maxRecDepth 100000 in
set_option maxHeartbeats 4000000 in
theorem spec_l1Reader_is.ctr (s0_0 : ByteArray) (s0_1 : Int) (s0_2 : Bool) (a1 : Int) (r1 : Bool) (r2 : ByteArray) (r3 : Int) (r4 : Bool) (h : spec_l1Reader_is.f s0_0 s0_1 s0_2 a1 = some (r1, r2, r3, r4)) : Ctr TE 120 (some (123, [.v (.string s0_0), .v (.int .i64 s0_1), .v (.bool s0_2)])) [.pt 0 0 0, .v (.int .u8 a1)] [.ro (.v (.bool r1))] [.v (.string r2), .v (.int .i64 r3), .v (.bool r4)] := by
 refine ctr_of (fn := Tryd.f120) (c := (bodyOf Tryd.f120)) Tryd.func120 rfl (by kernel_rfl) (Nat.le_of_ble_eq_true (by kernel_rfl)) (fun w ro B hF _ => ?_)
 simp only [spec_l1Reader_is.f] at h
 by_cases c1 : s0_1 < (s0_0.size : Int)
 · rw [if_pos c1] at h
   by_cases c2 : 0 ≤ s0_1
   · rw [if_pos c2] at h
     by_cases c3 : (bt s0_0 s0_1) = a1
     · rw [if_pos c3] at h
       have hb3 := bt_range s0_0 s0_1
       refine path_ok (k := 11) hF (RetQ_mild _ _ _ _ _ _ _ _) (ds := [.b true, .b true, .b true, .b true, .b true, .b true, .b true, .b true, .b true, .b true, .b true, .b true, .b true]) (os := [.o [(0, 0), (1, 0), (2, 0), (3, 1), (4, 0), (5, 0), (6, 0), (7, 1), (8, 0), (9, 0), (10, 0), (11, 0), (12, 0), (13, 0), (14, 1), (15, 0), (16, 0), (17, 0), (18, 1), (19, 0), (20, 0), (21, 0), (22, 0)] []]) (c := none) rfl KD ?_
       cases h
       exact ret_as (ms := [.ro]) rfl KD
     · rw [if_neg c3] at h
       have hb4 := bt_range s0_0 s0_1
       refine path_ok (k := 10) hF (RetQ_mild _ _ _ _ _ _ _ _) (ds := [.b true, .b true, .b true, .b true, .b true, .b true, .b true, .b true, .b true, .b true, .b true, .b true, .b false]) (os := [.o [(0, 0), (1, 0), (2, 0), (3, 1), (4, 0), (5, 0), (6, 0), (7, 1), (8, 0), (9, 0), (10, 0), (11, 0), (12, 0), (13, 0), (14, 1), (15, 0), (16, 0), (17, 0), (18, 1), (19, 0), (20, 0), (21, 0), (22, 0)] []]) (c := none) rfl KD ?_
       cases h
       exact ret_as (ms := [.ro]) rfl KD
   · rw [if_neg c2] at h
     cases h
 · rw [if_neg c1] at h
   refine path_ok (k := 10) hF (RetQ_mild _ _ _ _ _ _ _ _) (ds := [.b false, .b false, .b false, .b false, .b false, .b false, .b false, .b false, .b false, .b false, .b false, .b false, .b false]) (os := [.o [(0, 0), (1, 0), (2, 0), (3, 1), (4, 0), (5, 0), (6, 0), (7, 1), (8, 0), (9, 0), (10, 0), (11, 0), (12, 0), (13, 0), (14, 1), (15, 0), (16, 0), (17, 0), (18, 1), (19, 0), (20, 0), (21, 0), (22, 0)] []]) (c := none) rfl KD ?_
   cases h
   exact ret_as (ms := [.ro]) rfl KD
mutual
def spec_l1Reader_node.l0 : Nat → Int → ByteArray → Int → Bool → Int → List (S77) → Option (Int × (List (S77)) × ByteArray × Int × Bool)
  | 0, _, _, _, _, _, _ => none
  | k + 1, x1, x1000, x1001, x1002, x328000, x328001 => if x1002 = true then (some (x328000, x328001, x1000, x1001, true)) else ((spec_l1Reader_is.f x1000 x1001 x1002 44).bind fun bt350 => (if bt350.1 = true then ((spec_l1Reader_node.f k bt350.2.1 bt350.2.2.1 bt350.2.2.2 (wrap64 (x1 - 1))).bind fun bt354 => (if x328001.length < 4398046511104 then (spec_l1Reader_node.l0 k x1 bt354.2.2.1 bt354.2.2.2.1 bt354.2.2.2.2 x328000 (x328001 ++ [(⟨bt354.1, bt354.2.1⟩ : S77)])) else (none))) else (if bt350.2.2.2 = true then (some (x328000, x328001, bt350.2.1, bt350.2.2.1, true)) else ((spec_l1Reader_is.f bt350.2.1 bt350.2.2.1 bt350.2.2.2 93).bind fun bt364 => (some (x328000, x328001, bt364.2.1, bt364.2.2.1, !bt364.1))))))
def spec_l1Reader_node.f : Nat → ByteArray → Int → Bool → Int → Option (Int × (List (S77)) × ByteArray × Int × Bool)
  | 0, _, _, _, _ => none
  | k + 1, s0_0, s0_1, s0_2, a1 => (some (([] : List (S77)) : List (S77))).bind fun y324 => (if a1 = 0 then ((spec_l1Reader_number.f k s0_0 s0_1 s0_2).bind fun bt328 => (some (bt328.1, y324, bt328.2.1, bt328.2.2.1, bt328.2.2.2))) else ((spec_l1Reader_is.f s0_0 s0_1 s0_2 91).bind fun bt332 => (if bt332.1 = true then ((spec_l1Reader_is.f bt332.2.1 bt332.2.2.1 bt332.2.2.2 93).bind fun bt336 => (if bt336.1 = true then (some (0, y324, bt336.2.1, bt336.2.2.1, bt336.2.2.2)) else ((spec_l1Reader_node.f k bt336.2.1 bt336.2.2.1 bt336.2.2.2 (wrap64 (a1 - 1))).bind fun bt340 => (if y324.length < 4398046511104 then (spec_l1Reader_node.l0 k a1 bt340.2.2.1 bt340.2.2.2.1 bt340.2.2.2.2 0 (y324 ++ [(⟨bt340.1, bt340.2.1⟩ : S77)])) else (none))))) else (some (0, y324, bt332.2.1, bt332.2.2.1, true)))))
end
def spec_l1Reader_node.I0 (s0_0 : ByteArray) (s0_1 : Int) (s0_2 : Bool) (r1 : Int) (r2 : List (S77)) (r3 : ByteArray) (r4 : Int) (r5 : Bool) (m : Nat) (σ : St) : Prop := ∃ (x1 : Int) (x1000 : ByteArray) (x1001 : Int) (x1002 : Bool) (x324000 : Int) (x328000 : Int) (x328001 : List (S77)), spec_l1Reader_node.l0 m x1 x1000 x1001 x1002 x328000 x328001 = some (r1, r2, r3, r4, r5) ∧ σ = ⟨[(0, .pt 0 0 0), (1, .v (.int .i64 x1)), (4, .pt 1004 0 0), (5, .pt 1005 0 0)], [(0, .box 0 123 true [.v (.string x1000), .v (.int .i64 x1001), .v (.bool x1002)]), (1004, .box 0 77 false [.v (.int .i64 x324000), .v (.slice none 0 0)]), (3321, .own 0 77 2 (r77 x328001)), (1005, .box 0 77 false [.v (.int .i64 x328000), .ow 3321 0])]⟩
structure spec_l1Reader_node.C (k : Nat) : Prop where
 s_f : ∀ (s0_0 : ByteArray) (s0_1 : Int) (s0_2 : Bool) (a1 : Int) (r1 : Int) (r2 : List (S77)) (r3 : ByteArray) (r4 : Int) (r5 : Bool), spec_l1Reader_node.f k s0_0 s0_1 s0_2 a1 = some (r1, r2, r3, r4, r5) → Ctr TE 96 (some (123, [.v (.string s0_0), .v (.int .i64 s0_1), .v (.bool s0_2)])) [.pt 0 0 0, .v (.int .i64 a1)] [.ro (.ag [.v (.int .i64 r1), .sl 2 (r77 r2)])] [.v (.string r3), .v (.int .i64 r4), .v (.bool r5)]
 s_l0 : ∀ (s0_0 : ByteArray) (s0_1 : Int) (s0_2 : Bool) (r1 : Int) (r2 : List (S77)) (r3 : ByteArray) (r4 : Int) (r5 : Bool) (w : World) (ro : Nat → Prop) (B : Nat) (_ : Fr TE (cx0 Tryd.f96 (some (123, [.v (.string s0_0), .v (.int .i64 s0_1), .v (.bool s0_2)])) w ro B)) (x1 : Int) (x1000 : ByteArray) (x1001 : Int) (x1002 : Bool) (x324000 : Int) (x328000 : Int) (x328001 : List (S77)) (_ : spec_l1Reader_node.l0 k x1 x1000 x1001 x1002 x328000 x328001 = some (r1, r2, r3, r4, r5)), Kp (WS TE (cx0 Tryd.f96 (some (123, [.v (.string s0_0), .v (.int .i64 s0_1), .v (.bool s0_2)])) w ro B) (stkAt [1, 1, 1, 1, 1, 1, 0, 0] [] (bodyOf Tryd.f96) []) ⟨[(0, .pt 0 0 0), (1, .v (.int .i64 x1)), (4, .pt 1004 0 0), (5, .pt 1005 0 0)], [(0, .box 0 123 true [.v (.string x1000), .v (.int .i64 x1001), .v (.bool x1002)]), (1004, .box 0 77 false [.v (.int .i64 x324000), .v (.slice none 0 0)]), (3321, .own 0 77 2 (r77 x328001)), (1005, .box 0 77 false [.v (.int .i64 x328000), .ow 3321 0])]⟩ (RetQ TE Tryd.f96 (some (123, [.v (.string s0_0), .v (.int .i64 s0_1), .v (.bool s0_2)])) [.ro (.ag [.v (.int .i64 r1), .sl 2 (r77 r2)])] [.v (.string r3), .v (.int .i64 r4), .v (.bool r5)] w ro B))
set_option maxRecDepth 100000 in
set_option maxHeartbeats 4000000 in
theorem spec_l1Reader_node.c_f (k : Nat) (ih : Kp (∀ m, m < k → spec_l1Reader_node.C m)) (s0_0 : ByteArray) (s0_1 : Int) (s0_2 : Bool) (a1 : Int) (r1 : Int) (r2 : List (S77)) (r3 : ByteArray) (r4 : Int) (r5 : Bool) (h : spec_l1Reader_node.f k s0_0 s0_1 s0_2 a1 = some (r1, r2, r3, r4, r5)) : Ctr TE 96 (some (123, [.v (.string s0_0), .v (.int .i64 s0_1), .v (.bool s0_2)])) [.pt 0 0 0, .v (.int .i64 a1)] [.ro (.ag [.v (.int .i64 r1), .sl 2 (r77 r2)])] [.v (.string r3), .v (.int .i64 r4), .v (.bool r5)] := by
 cases k with
 | zero => simp [spec_l1Reader_node.f] at h
 | succ k =>
 simp only [spec_l1Reader_node.f] at h
 refine ctr_of (fn := Tryd.f96) (c := (bodyOf Tryd.f96)) Tryd.func96 rfl (by kernel_rfl) (Nat.le_of_ble_eq_true (by kernel_rfl)) (fun w ro B hF _ => ?_)
 obtain ⟨y324, hy324, h⟩ := Option.bind_eq_some_iff.1 h
 cases hy324
 by_cases c1 : a1 = 0
 · rw [if_pos c1] at h
   obtain ⟨⟨t328, t329, t330, t331⟩, q2, h⟩ := Option.bind_eq_some_iff.1 h
   dsimp only at h
   have q2c := spec_l1Reader_number.ctr k _ _ _ _ _ _ _ q2
   refine path_ok (k := 13) hF (RetQ_mild _ _ _ _ _ _ _ _) (ds := [.p 6 ([]), .b true, .r [.ro (.v (.int .i64 t328))] [.v (.string t329), .v (.int .i64 t330), .v (.bool t331)]]) (os := []) (c := none) rfl KD ?_
   cases h
   exact ret_as (ms := [.ro]) rfl KD
 · rw [if_neg c1] at h
   obtain ⟨⟨t332, t333, t334, t335⟩, q3, h⟩ := Option.bind_eq_some_iff.1 h
   dsimp only at h
   have q3c := spec_l1Reader_is.ctr _ _ _ _ _ _ _ _ q3
   by_cases c4 : t332 = true
   · rw [if_pos c4] at h
     obtain ⟨⟨t336, t337, t338, t339⟩, q5, h⟩ := Option.bind_eq_some_iff.1 h
     dsimp only at h
     have q5c := spec_l1Reader_is.ctr _ _ _ _ _ _ _ _ q5
     by_cases c6 : t336 = true
     · rw [if_pos c6] at h
       refine path_ok (k := 21) hF (RetQ_mild _ _ _ _ _ _ _ _) (ds := [.p 6 ([]), .b false, .r [.ro (.v (.bool t332))] [.v (.string t333), .v (.int .i64 t334), .v (.bool t335)], .b false, .r [.ro (.v (.bool t336))] [.v (.string t337), .v (.int .i64 t338), .v (.bool t339)], .b true]) (os := []) (c := none) rfl KD ?_
       cases h
       exact ret_as (ms := [.ro]) rfl KD
     · rw [if_neg c6] at h
       obtain ⟨⟨t340, t341, t344, t345, t346⟩, q7, h⟩ := Option.bind_eq_some_iff.1 h
       dsimp only at h
       have q7c := (ih.out k (by omega)).s_f _ _ _ _ _ _ _ _ _ q7
       by_cases c8 : (([] : List (S77))).length < 4398046511104
       · rw [if_pos c8] at h
         refine path_ok (k := 23) hF (RetQ_mild _ _ _ _ _ _ _ _) (ds := [.p 6 ([]), .b false, .r [.ro (.v (.bool t332))] [.v (.string t333), .v (.int .i64 t334), .v (.bool t335)], .b false, .r [.ro (.v (.bool t336))] [.v (.string t337), .v (.int .i64 t338), .v (.bool t339)], .b false]) (os := [.p 1023 [⟨0, 10, true, [0]⟩, ⟨1, 9, true, [2]⟩, ⟨5, 8, true, [3]⟩, ⟨13, 7, true, [4]⟩, ⟨29, 6, false, [1, 5]⟩, ⟨31, 5, false, [5]⟩, ⟨61, 5, false, [1, 6]⟩, ⟨63, 4, false, [6]⟩, ⟨125, 4, false, [1]⟩, ⟨127, 3, false, [7]⟩, ⟨255, 2, true, [8]⟩, ⟨511, 1, false, [9]⟩] [(0, true), (2, true), (3, true), (4, true), (1, false), (5, false), (6, false), (7, false), (8, true), (9, false)] [(5, [.r [.ro (.ag [.v (.int .i64 t340), .sl 2 (r77 t341)])] [.v (.string t344), .v (.int .i64 t345), .v (.bool t346)]]), (6, [.p 30 ([[.v (.int .i64 t340), .sl 2 (r77 t341)]])]), (7, [.o 31 (r77 ((([] : List (S77))) ++ [(⟨t340, t341⟩ : S77)]))])]]) (c := none) rfl KD ?_
         exact WS.can [(0, some 0), (1004, some 4), (1005, some 5), (3321, some 6)] (((ih.out k (by omega)).s_l0 s0_0 s0_1 s0_2 r1 r2 r3 r4 r5 w ro B hF a1 t344 t345 t346 0 0 ((([] : List (S77))) ++ [(⟨t340, t341⟩ : S77)]) h).out) KD
       · rw [if_neg c8] at h
         cases h
   · rw [if_neg c4] at h
     refine path_ok (k := 18) hF (RetQ_mild _ _ _ _ _ _ _ _) (ds := [.p 6 ([]), .b false, .r [.ro (.v (.bool t332))] [.v (.string t333), .v (.int .i64 t334), .v (.bool t335)], .b true]) (os := []) (c := none) rfl KD ?_
     cases h
     exact ret_as (ms := [.ro]) rfl KD
set_option maxRecDepth 100000 in
set_option maxHeartbeats 4000000 in
theorem spec_l1Reader_node.c_l0 (k : Nat) (ih : Kp (∀ m, m < k → spec_l1Reader_node.C m)) (s0_0 : ByteArray) (s0_1 : Int) (s0_2 : Bool) (r1 : Int) (r2 : List (S77)) (r3 : ByteArray) (r4 : Int) (r5 : Bool) (w : World) (ro : Nat → Prop) (B : Nat) (hF : Fr TE (cx0 Tryd.f96 (some (123, [.v (.string s0_0), .v (.int .i64 s0_1), .v (.bool s0_2)])) w ro B)) (x1 : Int) (x1000 : ByteArray) (x1001 : Int) (x1002 : Bool) (x324000 : Int) (x328000 : Int) (x328001 : List (S77)) (h : spec_l1Reader_node.l0 k x1 x1000 x1001 x1002 x328000 x328001 = some (r1, r2, r3, r4, r5)) : Kp (WS TE (cx0 Tryd.f96 (some (123, [.v (.string s0_0), .v (.int .i64 s0_1), .v (.bool s0_2)])) w ro B) (stkAt [1, 1, 1, 1, 1, 1, 0, 0] [] (bodyOf Tryd.f96) []) ⟨[(0, .pt 0 0 0), (1, .v (.int .i64 x1)), (4, .pt 1004 0 0), (5, .pt 1005 0 0)], [(0, .box 0 123 true [.v (.string x1000), .v (.int .i64 x1001), .v (.bool x1002)]), (1004, .box 0 77 false [.v (.int .i64 x324000), .v (.slice none 0 0)]), (3321, .own 0 77 2 (r77 x328001)), (1005, .box 0 77 false [.v (.int .i64 x328000), .ow 3321 0])]⟩ (RetQ TE Tryd.f96 (some (123, [.v (.string s0_0), .v (.int .i64 s0_1), .v (.bool s0_2)])) [.ro (.ag [.v (.int .i64 r1), .sl 2 (r77 r2)])] [.v (.string r3), .v (.int .i64 r4), .v (.bool r5)] w ro B)) := by
 refine ⟨WS.loop (fun m σ => m ≤ k ∧ spec_l1Reader_node.I0 s0_0 s0_1 s0_2 r1 r2 r3 r4 r5 m σ) k ⟨Nat.le_refl k, x1, x1000, x1001, x1002, x324000, x328000, x328001, h, rfl⟩ (fun m σ' hI J0 hJ0 => ?_)⟩
 clear h
 obtain ⟨hk, x1, x1000, x1001, x1002, x324000, x328000, x328001, h, rfl⟩ := hI
 cases m with
 | zero => simp [spec_l1Reader_node.l0] at h
 | succ k' =>
 simp only [spec_l1Reader_node.l0] at h
 by_cases c9 : x1002 = true
 · rw [if_pos c9] at h
   refine path_ok (k := 10) hF (RetQ_mild _ _ _ _ _ _ _ _) (ds := [.b false, .b false, .b false, .b false, .b true, .b true, .b true, .b true]) (os := []) (c := none) rfl KD ?_
   cases h
   exact ret_as (ms := [.ro]) rfl KD
 · rw [if_neg c9] at h
   obtain ⟨⟨t350, t351, t352, t353⟩, q10, h⟩ := Option.bind_eq_some_iff.1 h
   dsimp only at h
   have q10c := spec_l1Reader_is.ctr _ _ _ _ _ _ _ _ q10
   by_cases c11 : t350 = true
   · rw [if_pos c11] at h
     obtain ⟨⟨t354, t355, t358, t359, t360⟩, q12, h⟩ := Option.bind_eq_some_iff.1 h
     dsimp only at h
     have q12c := (ih.out k' (by omega)).s_f _ _ _ _ _ _ _ _ _ q12
     by_cases c13 : x328001.length < 4398046511104
     · rw [if_pos c13] at h
       refine path_ok (k := 8) hF (RetQ_mild _ _ _ _ _ _ _ _) (ds := [.b true, .b true, .r [.ro (.v (.bool t350))] [.v (.string t351), .v (.int .i64 t352), .v (.bool t353)], .b true, .b true]) (os := [.p 1023 [⟨0, 10, true, [0]⟩, ⟨1, 9, true, [2]⟩, ⟨5, 8, true, [3]⟩, ⟨13, 7, true, [4]⟩, ⟨29, 6, false, [1, 5]⟩, ⟨31, 5, false, [5]⟩, ⟨61, 5, false, [1, 6]⟩, ⟨63, 4, false, [6]⟩, ⟨125, 4, false, [1]⟩, ⟨127, 3, false, [7]⟩, ⟨255, 2, true, [8]⟩, ⟨511, 1, false, [9]⟩] [(0, true), (2, true), (3, true), (4, true), (1, false), (5, false), (6, false), (7, false), (8, true), (9, false)] [(5, [.r [.ro (.ag [.v (.int .i64 t354), .sl 2 (r77 t355)])] [.v (.string t358), .v (.int .i64 t359), .v (.bool t360)]]), (6, [.p 48 ([[.v (.int .i64 t354), .sl 2 (r77 t355)]])]), (7, [.o 49 (r77 (x328001 ++ [(⟨t354, t355⟩ : S77)]))])]]) (c := none) rfl KD ?_
       exact WS.lpc [(0, some 0), (1004, some 1004), (1005, some 1005), (3321, some 3321)] (hJ0 _ _ (Nat.lt_succ_self _) ⟨by omega, x1, t358, t359, t360, x324000, x328000, (x328001 ++ [(⟨t354, t355⟩ : S77)]), h, rfl⟩) KD
     · rw [if_neg c13] at h
       cases h
   · rw [if_neg c11] at h
     by_cases c14 : t353 = true
     · rw [if_pos c14] at h
       refine path_ok (k := 10) hF (RetQ_mild _ _ _ _ _ _ _ _) (ds := [.b true, .b true, .r [.ro (.v (.bool t350))] [.v (.string t351), .v (.int .i64 t352), .v (.bool t353)], .b true, .b false, .b true, .b true, .b true, .b true]) (os := []) (c := none) rfl KD ?_
       cases h
       exact ret_as (ms := [.ro]) rfl KD
     · rw [if_neg c14] at h
       obtain ⟨⟨t364, t365, t366, t367⟩, q15, h⟩ := Option.bind_eq_some_iff.1 h
       dsimp only at h
       have q15c := spec_l1Reader_is.ctr _ _ _ _ _ _ _ _ q15
       refine path_ok (k := 10) hF (RetQ_mild _ _ _ _ _ _ _ _) (ds := [.b true, .b true, .r [.ro (.v (.bool t350))] [.v (.string t351), .v (.int .i64 t352), .v (.bool t353)], .b true, .b false, .b false, .b false, .r [.ro (.v (.bool t364))] [.v (.string t365), .v (.int .i64 t366), .v (.bool t367)], .b false, .b false]) (os := []) (c := none) rfl KD ?_
       cases h
       exact ret_as (ms := [.ro]) rfl KD
theorem spec_l1Reader_node.cs (k : Nat) : spec_l1Reader_node.C k := by
 induction k using Nat.strongRecOn with
 | _ k ih0 =>
 have ih : Kp (∀ m, m < k → spec_l1Reader_node.C m) := ⟨ih0⟩
 exact ⟨spec_l1Reader_node.c_f k ih, spec_l1Reader_node.c_l0 k ih⟩
theorem spec_l1Reader_node.ctr (k : Nat) (s0_0 : ByteArray) (s0_1 : Int) (s0_2 : Bool) (a1 : Int) (r1 : Int) (r2 : List (S77)) (r3 : ByteArray) (r4 : Int) (r5 : Bool) (h : spec_l1Reader_node.f k s0_0 s0_1 s0_2 a1 = some (r1, r2, r3, r4, r5)) : Ctr TE 96 (some (123, [.v (.string s0_0), .v (.int .i64 s0_1), .v (.bool s0_2)])) [.pt 0 0 0, .v (.int .i64 a1)] [.ro (.ag [.v (.int .i64 r1), .sl 2 (r77 r2)])] [.v (.string r3), .v (.int .i64 r4), .v (.bool r5)] := (spec_l1Reader_node.cs k).s_f s0_0 s0_1 s0_2 a1 r1 r2 r3 r4 r5 h
def spec_l1Read.j0 : Nat → ByteArray → Int → Bool → Option (Int × (List (S77)) × Bool)
  | 0, _, _, _ => none
  | k + 1, x0, x1, x15 => if x15 = true then (some (0, ([] : List (S77)), false)) else ((spec_l1Reader_node.f k x0 0 false x1).bind fun bt371 => (if bt371.2.2.2.2 = true then (some (0, ([] : List (S77)), false)) else (if bt371.2.2.2.1 = (x0.size : Int) then (some (bt371.1, bt371.2.1, true)) else (some (0, ([] : List (S77)), false)))))
def spec_l1Read.f (k : Nat) (a0 : ByteArray) (a1 : Int) : Option (Int × (List (S77)) × Bool) := (spec_l1In.f a1 0 3).bind fun t369 => (if t369 = true then (spec_l1Read.j0 k a0 a1 (decide ((a0.size : Int) > 400))) else (spec_l1Read.j0 k a0 a1 true))
structure spec_l1Read.C (k : Nat) : Prop where
 s_j0 : ∀ (r1 : Int) (r2 : List (S77)) (r3 : Bool) (w : World) (ro : Nat → Prop) (B : Nat) (_ : Fr TE (cx0 Tryd.f65 none w ro B)) (x0 : ByteArray) (x1 : Int) (x15 : Bool) (x369000 : Int) (_ : spec_l1Read.j0 k x0 x1 x15 = some (r1, r2, r3)), Kp (WS TE (cx0 Tryd.f65 none w ro B) (stkAt [1, 0, 0, 9] [] (bodyOf Tryd.f65) []) ⟨[(0, .v (.string x0)), (1, .v (.int .i64 x1)), (4, .pt 1004 0 0), (15, .v (.bool x15))], [(1004, .box 0 77 false [.v (.int .i64 x369000), .v (.slice none 0 0)])]⟩ (RetQ TE Tryd.f65 none [.ro (.ag [.v (.int .i64 r1), .sl 2 (r77 r2)]), .ro (.v (.bool r3))] [] w ro B))
set_option maxRecDepth 100000 in
set_option maxHeartbeats 4000000 in
theorem spec_l1Read.c_j0 (k : Nat) (ih : Kp (∀ m, m < k → spec_l1Read.C m)) (r1 : Int) (r2 : List (S77)) (r3 : Bool) (w : World) (ro : Nat → Prop) (B : Nat) (hF : Fr TE (cx0 Tryd.f65 none w ro B)) (x0 : ByteArray) (x1 : Int) (x15 : Bool) (x369000 : Int) (h : spec_l1Read.j0 k x0 x1 x15 = some (r1, r2, r3)) : Kp (WS TE (cx0 Tryd.f65 none w ro B) (stkAt [1, 0, 0, 9] [] (bodyOf Tryd.f65) []) ⟨[(0, .v (.string x0)), (1, .v (.int .i64 x1)), (4, .pt 1004 0 0), (15, .v (.bool x15))], [(1004, .box 0 77 false [.v (.int .i64 x369000), .v (.slice none 0 0)])]⟩ (RetQ TE Tryd.f65 none [.ro (.ag [.v (.int .i64 r1), .sl 2 (r77 r2)]), .ro (.v (.bool r3))] [] w ro B)) := by
 refine ⟨?_⟩
 cases k with
 | zero => simp [spec_l1Read.j0] at h
 | succ k =>
 simp only [spec_l1Read.j0] at h
 by_cases c3 : x15 = true
 · rw [if_pos c3] at h
   refine path_ok (k := 4) hF (RetQ_mild _ _ _ _ _ _ _ _) (ds := [.b true]) (os := []) (c := none) rfl KD ?_
   cases h
   exact ret_as (ms := [.ro, .ro]) rfl KD
 · rw [if_neg c3] at h
   obtain ⟨⟨t371, t372, t375, t376, t377⟩, q4, h⟩ := Option.bind_eq_some_iff.1 h
   dsimp only at h
   have q4c := spec_l1Reader_node.ctr k _ _ _ _ _ _ _ _ _ q4
   by_cases c5 : t377 = true
   · rw [if_pos c5] at h
     refine path_ok (k := 13) hF (RetQ_mild _ _ _ _ _ _ _ _) (ds := [.b false, .r [.ro (.ag [.v (.int .i64 t371), .sl 2 (r77 t372)])] [.v (.string t375), .v (.int .i64 t376), .v (.bool t377)], .b true, .b true, .b true, .b true, .b true, .b true, .b true, .b true, .b true]) (os := []) (c := none) rfl KD ?_
     cases h
     exact ret_as (ms := [.ro, .ro]) rfl KD
   · rw [if_neg c5] at h
     by_cases c6 : t376 = (x0.size : Int)
     · rw [if_pos c6] at h
       refine path_ok (k := 14) hF (RetQ_mild _ _ _ _ _ _ _ _) (ds := [.b false, .r [.ro (.ag [.v (.int .i64 t371), .sl 2 (r77 t372)])] [.v (.string t375), .v (.int .i64 t376), .v (.bool t377)], .b false, .b false, .b false, .b false, .b false, .b false, .b false, .b false, .b false]) (os := []) (c := none) rfl KD ?_
       cases h
       exact ret_as (ms := [.ro, .ro]) rfl KD
     · rw [if_neg c6] at h
       refine path_ok (k := 13) hF (RetQ_mild _ _ _ _ _ _ _ _) (ds := [.b false, .r [.ro (.ag [.v (.int .i64 t371), .sl 2 (r77 t372)])] [.v (.string t375), .v (.int .i64 t376), .v (.bool t377)], .b false, .b false, .b false, .b false, .b false, .b false, .b false, .b false, .b true]) (os := []) (c := none) rfl KD ?_
       cases h
       exact ret_as (ms := [.ro, .ro]) rfl KD
theorem spec_l1Read.cs (k : Nat) : spec_l1Read.C k := by
 induction k using Nat.strongRecOn with
 | _ k ih0 =>
 have ih : Kp (∀ m, m < k → spec_l1Read.C m) := ⟨ih0⟩
 exact ⟨spec_l1Read.c_j0 k ih⟩
set_option maxRecDepth 100000 in
set_option maxHeartbeats 4000000 in
theorem spec_l1Read.ctr (k : Nat) (a0 : ByteArray) (a1 : Int) (r1 : Int) (r2 : List (S77)) (r3 : Bool) (h : spec_l1Read.f k a0 a1 = some (r1, r2, r3)) : Ctr TE 65 none [.v (.string a0), .v (.int .i64 a1)] [.ro (.ag [.v (.int .i64 r1), .sl 2 (r77 r2)]), .ro (.v (.bool r3))] [] := by
 refine ctr_of (fn := Tryd.f65) (c := (bodyOf Tryd.f65)) Tryd.func65 rfl (by kernel_rfl) (Nat.le_of_ble_eq_true (by kernel_rfl)) (fun w ro B hF _ => ?_)
 have ih : Kp (∀ m, m < k + 1 → spec_l1Read.C m) := ⟨fun m _ => spec_l1Read.cs m⟩
 simp only [spec_l1Read.f] at h
 obtain ⟨t369, q1, h⟩ := Option.bind_eq_some_iff.1 h
 have q1c := spec_l1In.ctr _ _ _ _ q1
 by_cases c2 : t369 = true
 · rw [if_pos c2] at h
   refine path_ok (k := 5) hF (RetQ_mild _ _ _ _ _ _ _ _) (ds := [.r [.ro (.v (.bool t369))] [], .b false, .b false, .b false, .b false]) (os := []) (c := none) rfl KD ?_
   exact WS.can [(1004, some 4)] (((ih.out k (by omega)).s_j0  r1 r2 r3 w ro B hF a0 a1 (decide ((a0.size : Int) > 400)) 0 h).out) KD
 · rw [if_neg c2] at h
   refine path_ok (k := 5) hF (RetQ_mild _ _ _ _ _ _ _ _) (ds := [.r [.ro (.v (.bool t369))] [], .b true, .b true, .b true, .b true]) (os := []) (c := none) rfl KD ?_
   exact WS.can [(1004, some 4)] (((ih.out k (by omega)).s_j0  r1 r2 r3 w ro B hF a0 a1 true 0 h).out) KD
end Go.Proofs.YtoloblgjlnhioaaDoor.J
