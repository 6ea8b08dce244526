/- A part of the claim. -/
import Derived.Test.YtidpankoobdfjaaGreatDoorKFx0
import Derived.Test.YtidpankoobdfjaaGreatDoorKFx1
import Derived.Test.YtidpankoobdfjaaGreatDoorKFx3
import Derived.Test.YtidpankoobdfjaaGreatDoorKFSgw
-- PRINTED by print.py (a twelfth state) out of the translation. Not trusted: Lean checks it.
namespace Go.Proofs.YtidpankoobdfjaaGreatDoor.K
open Go.RowKit Go.Proofs.YtidpankoobdfjaaGreatDoorW.St Go.Proofs.YtidpankoobdfjaaGreatDoorW.PrintWords Go.Proofs.YtidpankoobdfjaaGreatDoorW.PrintLast Go.Proofs.YtidpankoobdfjaaGreatDoorW.PrintMore
attribute [local go_sem] max2_int min2_int max_two min_two max_three min_three max_four min_four   -- for this text's walks alone
set_option linter.unusedVariables false
set_option linter.unusedSimpArgs false
def spec_l13OwnListListint.l0 : Nat → List (List Int) → List (List Int) → Int → Int → Option ((List (List Int)))
  | 0, _, _, _, _ => none
  | k + 1, x3, x7, x8, x9 => if x9 < x8 then (if 0 ≤ x9 then (if x9 < (x7.length : Int) then ((some (([] : List Int) : List Int)).bind fun y303 => (if y303.length + (rd_L3 x7 x9).length < 17592186044416 then (if x3.length < 5864062014805 then (spec_l13OwnListListint.l0 k (x3 ++ [(y303 ++ (rd_L3 x7 x9))]) x7 x8 (wrap64 (x9 + 1))) else (none)) else (none))) else (none)) else (none)) else (some x3)
def spec_l13OwnListListint.f (k : Nat) (l0 : List (List Int)) : Option ((List (List Int))) := spec_l13OwnListListint.l0 k (([] : List (List Int))) l0 (l0.length : Int) 0
def spec_l13OwnListListint.I0 (r : List (List Int)) (m : Nat) (σ : St) : Prop := ∃ (x3 : List (List Int)) (x7 : List (List Int)) (x8 : Int) (x9 : Int), spec_l13OwnListListint.l0 m x3 x7 x8 x9 = some r ∧ σ = ⟨[(3, .ow 1003 0), (7, .sl 1 (rX (cL (cI .i64) 1) x7)), (8, .v (.int .i64 x8)), (9, .v (.int .i64 x9))], [(1003, .own 0 27 1 (rX (cL (cI .i64) 1) x3))]⟩
structure spec_l13OwnListListint.C (k : Nat) : Prop where
 s_l0 : ∀ (r : List (List Int)) (w : World) (ro : Nat → Prop) (B : Nat) (_ : Fr TE (cx0 Tryz.f119 none w ro B)) (x3 : List (List Int)) (x7 : List (List Int)) (x8 : Int) (x9 : Int) (_ : spec_l13OwnListListint.l0 k x3 x7 x8 x9 = some r), Kp (WS TE (cx0 Tryz.f119 none w ro B) (stkAt [1, 1, 0, 1, 0] [] (bodyOf Tryz.f119) []) ⟨[(3, .ow 1003 0), (7, .sl 1 (rX (cL (cI .i64) 1) x7)), (8, .v (.int .i64 x8)), (9, .v (.int .i64 x9))], [(1003, .own 0 27 1 (rX (cL (cI .i64) 1) x3))]⟩ (RetQ TE Tryz.f119 none [.own 27 1 (rX (cL (cI .i64) 1) r)] [] w ro B))
set_option maxRecDepth 100000 in
set_option maxHeartbeats 4000000 in
theorem spec_l13OwnListListint.c_l0 (k : Nat) (ih : Kp (∀ m, m < k → spec_l13OwnListListint.C m)) (r : List (List Int)) (w : World) (ro : Nat → Prop) (B : Nat) (hF : Fr TE (cx0 Tryz.f119 none w ro B)) (x3 : List (List Int)) (x7 : List (List Int)) (x8 : Int) (x9 : Int) (h : spec_l13OwnListListint.l0 k x3 x7 x8 x9 = some r) : Kp (WS TE (cx0 Tryz.f119 none w ro B) (stkAt [1, 1, 0, 1, 0] [] (bodyOf Tryz.f119) []) ⟨[(3, .ow 1003 0), (7, .sl 1 (rX (cL (cI .i64) 1) x7)), (8, .v (.int .i64 x8)), (9, .v (.int .i64 x9))], [(1003, .own 0 27 1 (rX (cL (cI .i64) 1) x3))]⟩ (RetQ TE Tryz.f119 none [.own 27 1 (rX (cL (cI .i64) 1) r)] [] w ro B)) := by
 refine ⟨WS.loop (fun m σ => m ≤ k ∧ spec_l13OwnListListint.I0 r m σ) k ⟨Nat.le_refl k, x3, x7, x8, x9, h, rfl⟩ (fun m σ' hI J0 hJ0 => ?_)⟩
 clear h
 obtain ⟨hk, x3, x7, x8, x9, h, rfl⟩ := hI
 cases m with
 | zero => simp [spec_l13OwnListListint.l0] at h
 | succ k' =>
 simp only [spec_l13OwnListListint.l0] at h
 by_cases c1 : x9 < x8
 · rw [if_pos c1] at h
   by_cases c2 : 0 ≤ x9
   · rw [if_pos c2] at h
     by_cases c3 : x9 < (x7.length : Int)
     · rw [if_pos c3] at h
       obtain ⟨y303, hy303, h⟩ := Option.bind_eq_some_iff.1 h
       cases hy303
       by_cases c4 : (([] : List Int)).length + (rd_L3 x7 x9).length < 17592186044416
       · rw [if_pos c4] at h
         by_cases c5 : x3.length < 5864062014805
         · rw [if_pos c5] at h
           refine path_ok (k := 12) hF (RetQ_mild _ _ _ _ _ _ _ _) (ds := [.b true, .e 11 (.rf [.sl 1 (rX (cI .i64) (rd_L3 x7 x9))]), .p 14 ([]), .o 16 (rX (cI .i64) ((([] : List Int)) ++ (rd_L3 x7 x9))), .p 17 ([[.sl 1 (rX (cI .i64) ((([] : List Int)) ++ (rd_L3 x7 x9)))]]), .o 18 (rX (cL (cI .i64) 1) (x3 ++ [((([] : List Int)) ++ (rd_L3 x7 x9))]))]) (os := []) (c := none) rfl KD ?_
           exact WS.lpc [(1003, some 1003)] (hJ0 _ _ (Nat.lt_succ_self _) ⟨by omega, (x3 ++ [((([] : List Int)) ++ (rd_L3 x7 x9))]), x7, x8, (wrap64 (x9 + 1)), h, rfl⟩) KD
         · rw [if_neg c5] at h
           cases h
       · rw [if_neg c4] at h
         cases h
     · rw [if_neg c3] at h
       cases h
   · rw [if_neg c2] at h
     cases h
 · rw [if_neg c1] at h
   refine path_ok (k := 8) hF (RetQ_mild _ _ _ _ _ _ _ _) (ds := [.b false]) (os := []) (c := none) rfl KD ?_
   cases h
   exact ret_as (ms := [.own]) rfl KD
theorem spec_l13OwnListListint.cs (k : Nat) : spec_l13OwnListListint.C k := by
 induction k using Nat.strongRecOn with
 | _ k ih0 =>
 have ih : Kp (∀ m, m < k → spec_l13OwnListListint.C m) := ⟨ih0⟩
 exact ⟨spec_l13OwnListListint.c_l0 k ih⟩
set_option maxRecDepth 100000 in
set_option maxHeartbeats 4000000 in
theorem spec_l13OwnListListint.ctr (k : Nat) (l0 : List (List Int)) (r : List (List Int)) (h : spec_l13OwnListListint.f k l0 = some r) : Ctr TE 119 none [.sl 1 (rX (cL (cI .i64) 1) l0)] [.own 27 1 (rX (cL (cI .i64) 1) r)] [] := by
 refine ctr_of (fn := Tryz.f119) (c := (bodyOf Tryz.f119)) Tryz.func119 rfl (by kernel_rfl) (Nat.le_of_ble_eq_true (by kernel_rfl)) (fun w ro B hF _ => ?_)
 have ih : Kp (∀ m, m < k + 1 → spec_l13OwnListListint.C m) := ⟨fun m _ => spec_l13OwnListListint.cs m⟩
 simp only [spec_l13OwnListListint.f] at h
 refine path_ok (k := 8) hF (RetQ_mild _ _ _ _ _ _ _ _) (ds := [.p 6 ([]), .e 8 (.v (.int .i64 (l0.length : Int)))]) (os := []) (c := none) rfl KD ?_
 exact WS.can [(1003, some 6)] (((ih.out k (by omega)).s_l0  r w ro B hF (([] : List (List Int))) l0 (l0.length : Int) 0 h).out) KD
def spec_l13OwnLayout.f (k : Nat) (l0_0 : List (List Int)) (l0_1 : List Int) : Option ((List (List Int)) × List Int) := (spec_l13OwnListListint.f k l0_0).bind fun t314 => ((some (([] : List Int) : List Int)).bind fun y317 => (if y317.length + l0_1.length < 17592186044416 then (some (t314, (y317 ++ l0_1))) else (none)))
set_option maxRecDepth 100000 in
set_option maxHeartbeats 4000000 in
theorem spec_l13OwnLayout.ctr (k : Nat) (l0_0 : List (List Int)) (l0_1 : List Int) (r1 : List (List Int)) (r2 : List Int) (h : spec_l13OwnLayout.f k l0_0 l0_1 = some (r1, r2)) : Ctr TE 84 none [.ag [.sl 1 (rX (cL (cI .i64) 1) l0_0), .sl 1 (rX (cI .i64) l0_1)]] [.ro (.ag [.sl 1 (rX (cL (cI .i64) 1) r1), .sl 1 (rX (cI .i64) r2)])] [] := by
 refine ctr_of (fn := Tryz.f84) (c := (bodyOf Tryz.f84)) Tryz.func84 rfl (by kernel_rfl) (Nat.le_of_ble_eq_true (by kernel_rfl)) (fun w ro B hF _ => ?_)
 simp only [spec_l13OwnLayout.f] at h
 obtain ⟨t314, q1, h⟩ := Option.bind_eq_some_iff.1 h
 have q1c := spec_l13OwnListListint.ctr k _ _ q1
 obtain ⟨y317, hy317, h⟩ := Option.bind_eq_some_iff.1 h
 cases hy317
 by_cases c2 : (([] : List Int)).length + l0_1.length < 17592186044416
 · rw [if_pos c2] at h
   refine path_ok (k := 9) hF (RetQ_mild _ _ _ _ _ _ _ _) (ds := [.r [.own 27 1 (rX (cL (cI .i64) 1) t314)] [], .p 7 ([]), .o 10 (rX (cI .i64) ((([] : List Int)) ++ l0_1))]) (os := []) (c := none) rfl KD ?_
   cases h
   exact ret_as (ms := [.ro]) rfl KD
 · rw [if_neg c2] at h
   cases h
def spec_l13OwnVector.f (k : Nat) (a0_0 : Int) (l0_1 : List (List Int)) (l0_2 : List Int) : Option (Int × (List (List Int)) × List Int) := (spec_l13OwnLayout.f k l0_1 l0_2).bind fun bt325 => (some (a0_0, bt325.1, bt325.2))
set_option maxRecDepth 100000 in
set_option maxHeartbeats 4000000 in
theorem spec_l13OwnVector.ctr (k : Nat) (a0_0 : Int) (l0_1 : List (List Int)) (l0_2 : List Int) (r1 : Int) (r2 : List (List Int)) (r3 : List Int) (h : spec_l13OwnVector.f k a0_0 l0_1 l0_2 = some (r1, r2, r3)) : Ctr TE 45 none [.ag [.v (.int .i64 a0_0), .sl 1 (rX (cL (cI .i64) 1) l0_1), .sl 1 (rX (cI .i64) l0_2)]] [.ro (.ag [.v (.int .i64 r1), .sl 1 (rX (cL (cI .i64) 1) r2), .sl 1 (rX (cI .i64) r3)])] [] := by
 refine ctr_of (fn := Tryz.f45) (c := (bodyOf Tryz.f45)) Tryz.func45 rfl (by kernel_rfl) (Nat.le_of_ble_eq_true (by kernel_rfl)) (fun w ro B hF _ => ?_)
 simp only [spec_l13OwnVector.f] at h
 obtain ⟨⟨t325, t328⟩, q1, h⟩ := Option.bind_eq_some_iff.1 h
 dsimp only at h
 have q1c := spec_l13OwnLayout.ctr k _ _ _ _ q1
 refine path_ok (k := 7) hF (RetQ_mild _ _ _ _ _ _ _ _) (ds := [.r [.ro (.ag [.sl 1 (rX (cL (cI .i64) 1) t325), .sl 1 (rX (cI .i64) t328)])] []]) (os := []) (c := none) rfl KD ?_
 cases h
 exact ret_as (ms := [.ro]) rfl KD
def spec_PackVector.f (k : Nat) (l0 : List ByteArray) (a1 : Int) : Option (Int × (List (List Int)) × List Int × Bool) := (spec_l8RawPackVector.f k l0 a1).bind fun bt332 => ((spec_l13OwnVector.f k bt332.1 bt332.2.1 bt332.2.2.1).bind fun bt341 => (some (bt341.1, bt341.2.1, bt341.2.2, bt332.2.2.2)))
set_option maxRecDepth 100000 in
set_option maxHeartbeats 4000000 in
theorem spec_PackVector.ctr (k : Nat) (l0 : List ByteArray) (a1 : Int) (r1 : Int) (r2 : List (List Int)) (r3 : List Int) (r4 : Bool) (h : spec_PackVector.f k l0 a1 = some (r1, r2, r3, r4)) : Ctr TE 8 none [.sl 1 (rX cS l0), .v (.int .i64 a1)] [.ro (.ag [.v (.int .i64 r1), .sl 1 (rX (cL (cI .i64) 1) r2), .sl 1 (rX (cI .i64) r3)]), .ro (.v (.bool r4))] [] := by
 refine ctr_of (fn := Tryz.f8) (c := (bodyOf Tryz.f8)) Tryz.func8 rfl (by kernel_rfl) (Nat.le_of_ble_eq_true (by kernel_rfl)) (fun w ro B hF _ => ?_)
 simp only [spec_PackVector.f] at h
 obtain ⟨⟨t332, t333, t336, t339⟩, q1, h⟩ := Option.bind_eq_some_iff.1 h
 dsimp only at h
 have q1c := spec_l8RawPackVector.ctr k _ _ _ _ _ _ q1
 obtain ⟨⟨t341, t342, t345⟩, q2, h⟩ := Option.bind_eq_some_iff.1 h
 dsimp only at h
 have q2c := spec_l13OwnVector.ctr k _ _ _ _ _ _ q2
 refine path_ok (k := 7) hF (RetQ_mild _ _ _ _ _ _ _ _) (ds := [.r [.ro (.ag [.v (.int .i64 t332), .sl 1 (rX (cL (cI .i64) 1) t333), .sl 1 (rX (cI .i64) t336)]), .ro (.v (.bool t339))] [], .r [.ro (.ag [.v (.int .i64 t341), .sl 1 (rX (cL (cI .i64) 1) t342), .sl 1 (rX (cI .i64) t345)])] []]) (os := []) (c := none) rfl KD ?_
 cases h
 exact ret_as (ms := [.ro, .ro]) rfl KD
def spec_l8Draw.l0 : Nat → Int → List ByteArray → Int → Int → List Int → Int → Option (Int × (List (List Int)) × List Int × Int)
  | 0, _, _, _, _, _, _ => none
  | k + 1, x1, x7, x11, x12, x1000, x1001 => if x12 < x11 then ((spec_l1Draw.f k x1000 x1001 x1).bind fun bt352 => (if x7.length < 8796093022208 then (spec_l8Draw.l0 k x1 (x7 ++ [bt352.1]) x11 (wrap64 (x12 + 1)) x1000 bt352.2) else (none))) else ((spec_PackVector.f k x7 x1).bind fun bt357 => (if bt357.2.2.2 = true then (some (bt357.1, bt357.2.1, bt357.2.2.1, x1001)) else ((spec_PackVector.f k (([] : List ByteArray)) x1).bind fun bt369 => (some (bt369.1, bt369.2.1, bt369.2.2.1, x1001)))))
def spec_l8Draw.f (k : Nat) (s0_0 : List Int) (s0_1 : Int) (a1 : Int) (a2 : Int) : Option (Int × (List (List Int)) × List Int × Int) := spec_l8Draw.l0 k a1 (([] : List ByteArray)) a2 0 s0_0 s0_1
def spec_l8Draw.I0 (s0_0 : List Int) (s0_1 : Int) (r1 : Int) (r2 : List (List Int)) (r3 : List Int) (r4 : Int) (m : Nat) (σ : St) : Prop := ∃ (x1 : Int) (x7 : List ByteArray) (x11 : Int) (x12 : Int) (x1001 : Int) (x349000 : Int), spec_l8Draw.l0 m x1 x7 x11 x12 s0_0 x1001 = some (r1, r2, r3, r4) ∧ σ = ⟨[(0, .pt 0 0 0), (1, .v (.int .i64 x1)), (6, .pt 1006 0 0), (7, .ow 1007 0), (11, .v (.int .i64 x11)), (12, .v (.int .i64 x12))], [(0, .box 0 112 true [.sl 1 (rX (cI .u8) s0_0), .v (.int .i64 x1001)]), (1006, .box 0 31 false [.v (.int .i64 x349000), .v (.slice none 0 0), .v (.slice none 0 0)]), (1007, .own 0 9 1 (rX cS x7))]⟩
structure spec_l8Draw.C (k : Nat) : Prop where
 s_l0 : ∀ (s0_0 : List Int) (s0_1 : Int) (r1 : Int) (r2 : List (List Int)) (r3 : List Int) (r4 : Int) (w : World) (ro : Nat → Prop) (B : Nat) (_ : Fr TE (cx0 Tryz.f88 (some (112, [.sl 1 (rX (cI .u8) s0_0), .v (.int .i64 s0_1)])) w ro B)) (x1 : Int) (x7 : List ByteArray) (x11 : Int) (x12 : Int) (x1001 : Int) (x349000 : Int) (_ : spec_l8Draw.l0 k x1 x7 x11 x12 s0_0 x1001 = some (r1, r2, r3, r4)), Kp (WS TE (cx0 Tryz.f88 (some (112, [.sl 1 (rX (cI .u8) s0_0), .v (.int .i64 s0_1)])) w ro B) (stkAt [1, 1, 0, 1, 0] [] (bodyOf Tryz.f88) []) ⟨[(0, .pt 0 0 0), (1, .v (.int .i64 x1)), (6, .pt 1006 0 0), (7, .ow 1007 0), (11, .v (.int .i64 x11)), (12, .v (.int .i64 x12))], [(0, .box 0 112 true [.sl 1 (rX (cI .u8) s0_0), .v (.int .i64 x1001)]), (1006, .box 0 31 false [.v (.int .i64 x349000), .v (.slice none 0 0), .v (.slice none 0 0)]), (1007, .own 0 9 1 (rX cS x7))]⟩ (RetQ TE Tryz.f88 (some (112, [.sl 1 (rX (cI .u8) s0_0), .v (.int .i64 s0_1)])) [.ro (.ag [.v (.int .i64 r1), .sl 1 (rX (cL (cI .i64) 1) r2), .sl 1 (rX (cI .i64) r3)])] [.sl 1 (rX (cI .u8) s0_0), .v (.int .i64 r4)] w ro B))
set_option maxRecDepth 100000 in
set_option maxHeartbeats 4000000 in
theorem spec_l8Draw.c_l0 (k : Nat) (ih : Kp (∀ m, m < k → spec_l8Draw.C m)) (s0_0 : List Int) (s0_1 : Int) (r1 : Int) (r2 : List (List Int)) (r3 : List Int) (r4 : Int) (w : World) (ro : Nat → Prop) (B : Nat) (hF : Fr TE (cx0 Tryz.f88 (some (112, [.sl 1 (rX (cI .u8) s0_0), .v (.int .i64 s0_1)])) w ro B)) (x1 : Int) (x7 : List ByteArray) (x11 : Int) (x12 : Int) (x1001 : Int) (x349000 : Int) (h : spec_l8Draw.l0 k x1 x7 x11 x12 s0_0 x1001 = some (r1, r2, r3, r4)) : Kp (WS TE (cx0 Tryz.f88 (some (112, [.sl 1 (rX (cI .u8) s0_0), .v (.int .i64 s0_1)])) w ro B) (stkAt [1, 1, 0, 1, 0] [] (bodyOf Tryz.f88) []) ⟨[(0, .pt 0 0 0), (1, .v (.int .i64 x1)), (6, .pt 1006 0 0), (7, .ow 1007 0), (11, .v (.int .i64 x11)), (12, .v (.int .i64 x12))], [(0, .box 0 112 true [.sl 1 (rX (cI .u8) s0_0), .v (.int .i64 x1001)]), (1006, .box 0 31 false [.v (.int .i64 x349000), .v (.slice none 0 0), .v (.slice none 0 0)]), (1007, .own 0 9 1 (rX cS x7))]⟩ (RetQ TE Tryz.f88 (some (112, [.sl 1 (rX (cI .u8) s0_0), .v (.int .i64 s0_1)])) [.ro (.ag [.v (.int .i64 r1), .sl 1 (rX (cL (cI .i64) 1) r2), .sl 1 (rX (cI .i64) r3)])] [.sl 1 (rX (cI .u8) s0_0), .v (.int .i64 r4)] w ro B)) := by
 refine ⟨WS.loop (fun m σ => m ≤ k ∧ spec_l8Draw.I0 s0_0 s0_1 r1 r2 r3 r4 m σ) k ⟨Nat.le_refl k, x1, x7, x11, x12, x1001, x349000, h, rfl⟩ (fun m σ' hI J0 hJ0 => ?_)⟩
 clear h
 obtain ⟨hk, x1, x7, x11, x12, x1001, x349000, h, rfl⟩ := hI
 cases m with
 | zero => simp [spec_l8Draw.l0] at h
 | succ k' =>
 simp only [spec_l8Draw.l0] at h
 by_cases c1 : x12 < x11
 · rw [if_pos c1] at h
   obtain ⟨⟨t352, t353⟩, q2, h⟩ := Option.bind_eq_some_iff.1 h
   dsimp only at h
   have q2c := spec_l1Draw.ctr k' _ _ _ _ _ q2
   by_cases c3 : x7.length < 8796093022208
   · rw [if_pos c3] at h
     refine path_ok (k := 10) hF (RetQ_mild _ _ _ _ _ _ _ _) (ds := [.b true, .r [.ro (.v (.string t352))] [.sl 1 (rX (cI .u8) s0_0), .v (.int .i64 t353)], .p 18 ([[.v (.string t352)]]), .o 19 (rX cS (x7 ++ [t352]))]) (os := []) (c := none) rfl KD ?_
     exact WS.lpc [(0, some 0), (1006, some 1006), (1007, some 1007)] (hJ0 _ _ (Nat.lt_succ_self _) ⟨by omega, x1, (x7 ++ [t352]), x11, (wrap64 (x12 + 1)), t353, x349000, h, rfl⟩) KD
   · rw [if_neg c3] at h
     cases h
 · rw [if_neg c1] at h
   obtain ⟨⟨t357, t358, t361, t364⟩, q4, h⟩ := Option.bind_eq_some_iff.1 h
   dsimp only at h
   have q4c := spec_PackVector.ctr k' _ _ _ _ _ _ q4
   by_cases c5 : t364 = true
   · rw [if_pos c5] at h
     refine path_ok (k := 15) hF (RetQ_mild _ _ _ _ _ _ _ _) (ds := [.b false, .r [.ro (.ag [.v (.int .i64 t357), .sl 1 (rX (cL (cI .i64) 1) t358), .sl 1 (rX (cI .i64) t361)]), .ro (.v (.bool t364))] [], .b false]) (os := []) (c := none) rfl KD ?_
     cases h
     exact ret_as (ms := [.ro]) rfl KD
   · rw [if_neg c5] at h
     obtain ⟨⟨t369, t370, t373, t376⟩, q6, h⟩ := Option.bind_eq_some_iff.1 h
     dsimp only at h
     have q6c := spec_PackVector.ctr k' _ _ _ _ _ _ q6
     refine path_ok (k := 15) hF (RetQ_mild _ _ _ _ _ _ _ _) (ds := [.b false, .r [.ro (.ag [.v (.int .i64 t357), .sl 1 (rX (cL (cI .i64) 1) t358), .sl 1 (rX (cI .i64) t361)]), .ro (.v (.bool t364))] [], .b true, .p 30 ([]), .r [.ro (.ag [.v (.int .i64 t369), .sl 1 (rX (cL (cI .i64) 1) t370), .sl 1 (rX (cI .i64) t373)]), .ro (.v (.bool t376))] []]) (os := []) (c := none) rfl KD ?_
     cases h
     exact ret_as (ms := [.ro]) rfl KD
theorem spec_l8Draw.cs (k : Nat) : spec_l8Draw.C k := by
 induction k using Nat.strongRecOn with
 | _ k ih0 =>
 have ih : Kp (∀ m, m < k → spec_l8Draw.C m) := ⟨ih0⟩
 exact ⟨spec_l8Draw.c_l0 k ih⟩
set_option maxRecDepth 100000 in
set_option maxHeartbeats 4000000 in
theorem spec_l8Draw.ctr (k : Nat) (s0_0 : List Int) (s0_1 : Int) (a1 : Int) (a2 : Int) (r1 : Int) (r2 : List (List Int)) (r3 : List Int) (r4 : Int) (h : spec_l8Draw.f k s0_0 s0_1 a1 a2 = some (r1, r2, r3, r4)) : Ctr TE 88 (some (112, [.sl 1 (rX (cI .u8) s0_0), .v (.int .i64 s0_1)])) [.pt 0 0 0, .v (.int .i64 a1), .v (.int .i64 a2)] [.ro (.ag [.v (.int .i64 r1), .sl 1 (rX (cL (cI .i64) 1) r2), .sl 1 (rX (cI .i64) r3)])] [.sl 1 (rX (cI .u8) s0_0), .v (.int .i64 r4)] := by
 refine ctr_of (fn := Tryz.f88) (c := (bodyOf Tryz.f88)) Tryz.func88 rfl (by kernel_rfl) (Nat.le_of_ble_eq_true (by kernel_rfl)) (fun w ro B hF _ => ?_)
 have ih : Kp (∀ m, m < k + 1 → spec_l8Draw.C m) := ⟨fun m _ => spec_l8Draw.cs m⟩
 simp only [spec_l8Draw.f] at h
 refine path_ok (k := 8) hF (RetQ_mild _ _ _ _ _ _ _ _) (ds := [.p 10 ([])]) (os := []) (c := none) rfl KD ?_
 exact WS.can [(0, some 0), (1006, some 6), (1007, some 10)] (((ih.out k (by omega)).s_l0 s0_0 s0_1 r1 r2 r3 r4 w ro B hF a1 (([] : List ByteArray)) a2 0 s0_1 0 h).out) KD
def spec_l8Some.f (k : Nat) (s0_0 : List Int) (s0_1 : Int) : Option (Int × (List (List Int)) × List Int × Int) := (spec_l13Rd_num.f k s0_0 s0_1 (([1, 0, 2, 1, 3] : List Int))).bind fun bt381 => ((spec_l13Rd_pick.f k s0_0 bt381.2 4).bind fun bt383 => ((spec_l8Draw.f k s0_0 bt383.2 bt381.1 bt383.1).bind fun bt385 => ((spec_l13Rd_pick.f k s0_0 bt385.2.2.2 24).bind fun bt394 => (if bt394.1 = 0 then ((spec_l13Rd_num.f k s0_0 bt394.2 (([(-1), 2001, wrap64 (bt385.1 + 1), 9223372036854775807] : List Int))).bind fun bt399 => (some (bt399.1, bt385.2.1, bt385.2.2.1, bt399.2))) else (if bt394.1 = 1 then ((some (([] : List Int) : List Int)).bind fun y401 => (if y401.length + bt385.2.2.1.length < 17592186044416 then ((some (y401 ++ bt385.2.2.1 : List Int)).bind fun y404 => ((spec_l13Rd_num.f k s0_0 bt394.2 (([0, (-1), 10007] : List Int))).bind fun bt410 => (if y404.length < 17592186044416 then (some (bt385.1, bt385.2.1, (y404 ++ [bt410.1]), bt410.2)) else (none)))) else (none))) else (some (bt385.1, bt385.2.1, bt385.2.2.1, bt394.2)))))))
set_option maxRecDepth 100000 in
set_option maxHeartbeats 4000000 in
theorem spec_l8Some.ctr (k : Nat) (s0_0 : List Int) (s0_1 : Int) (r1 : Int) (r2 : List (List Int)) (r3 : List Int) (r4 : Int) (h : spec_l8Some.f k s0_0 s0_1 = some (r1, r2, r3, r4)) : Ctr TE 46 (some (112, [.sl 1 (rX (cI .u8) s0_0), .v (.int .i64 s0_1)])) [.pt 0 0 0] [.ro (.ag [.v (.int .i64 r1), .sl 1 (rX (cL (cI .i64) 1) r2), .sl 1 (rX (cI .i64) r3)])] [.sl 1 (rX (cI .u8) s0_0), .v (.int .i64 r4)] := by
 refine ctr_of (fn := Tryz.f46) (c := (bodyOf Tryz.f46)) Tryz.func46 rfl (by kernel_rfl) (Nat.le_of_ble_eq_true (by kernel_rfl)) (fun w ro B hF _ => ?_)
 simp only [spec_l8Some.f] at h
 obtain ⟨⟨t381, t382⟩, q1, h⟩ := Option.bind_eq_some_iff.1 h
 dsimp only at h
 have q1c := spec_l13Rd_num.ctr k _ _ _ _ _ q1
 obtain ⟨⟨t383, t384⟩, q2, h⟩ := Option.bind_eq_some_iff.1 h
 dsimp only at h
 have q2c := spec_l13Rd_pick.ctr k _ _ _ _ _ q2
 obtain ⟨⟨t385, t386, t389, t392⟩, q3, h⟩ := Option.bind_eq_some_iff.1 h
 dsimp only at h
 have q3c := spec_l8Draw.ctr k _ _ _ _ _ _ _ _ q3
 obtain ⟨⟨t394, t395⟩, q4, h⟩ := Option.bind_eq_some_iff.1 h
 dsimp only at h
 have q4c := spec_l13Rd_pick.ctr k _ _ _ _ _ q4
 by_cases c5 : t394 = 0
 · rw [if_pos c5] at h
   obtain ⟨⟨t399, t400⟩, q6, h⟩ := Option.bind_eq_some_iff.1 h
   dsimp only at h
   have q6c := spec_l13Rd_num.ctr k _ _ _ _ _ q6
   refine path_ok (k := 16) hF (RetQ_mild _ _ _ _ _ _ _ _) (ds := [.p 6 ([[.v (.int .i64 1)], [.v (.int .i64 0)], [.v (.int .i64 2)], [.v (.int .i64 1)], [.v (.int .i64 3)]]), .r [.ro (.v (.int .i64 t381))] [.sl 1 (rX (cI .u8) s0_0), .v (.int .i64 t382)], .r [.ro (.v (.int .i64 t383))] [.sl 1 (rX (cI .u8) s0_0), .v (.int .i64 t384)], .r [.ro (.ag [.v (.int .i64 t385), .sl 1 (rX (cL (cI .i64) 1) t386), .sl 1 (rX (cI .i64) t389)])] [.sl 1 (rX (cI .u8) s0_0), .v (.int .i64 t392)], .r [.ro (.v (.int .i64 t394))] [.sl 1 (rX (cI .u8) s0_0), .v (.int .i64 t395)], .b true, .p 19 ([[.v (.int .i64 (-1))], [.v (.int .i64 2001)], [.v (.int .i64 (wrap64 (t385 + 1)))], [.v (.int .i64 9223372036854775807)]]), .r [.ro (.v (.int .i64 t399))] [.sl 1 (rX (cI .u8) s0_0), .v (.int .i64 t400)]]) (os := []) (c := none) rfl KD ?_
   cases h
   exact ret_as (ms := [.ro]) rfl KD
 · rw [if_neg c5] at h
   by_cases c7 : t394 = 1
   · rw [if_pos c7] at h
     obtain ⟨y401, hy401, h⟩ := Option.bind_eq_some_iff.1 h
     cases hy401
     by_cases c8 : (([] : List Int)).length + t389.length < 17592186044416
     · rw [if_pos c8] at h
       obtain ⟨y404, hy404, h⟩ := Option.bind_eq_some_iff.1 h
       cases hy404
       obtain ⟨⟨t410, t411⟩, q9, h⟩ := Option.bind_eq_some_iff.1 h
       dsimp only at h
       have q9c := spec_l13Rd_num.ctr k _ _ _ _ _ q9
       by_cases c10 : ((([] : List Int)) ++ t389).length < 17592186044416
       · rw [if_pos c10] at h
         refine path_ok (k := 19) hF (RetQ_mild _ _ _ _ _ _ _ _) (ds := [.p 6 ([[.v (.int .i64 1)], [.v (.int .i64 0)], [.v (.int .i64 2)], [.v (.int .i64 1)], [.v (.int .i64 3)]]), .r [.ro (.v (.int .i64 t381))] [.sl 1 (rX (cI .u8) s0_0), .v (.int .i64 t382)], .r [.ro (.v (.int .i64 t383))] [.sl 1 (rX (cI .u8) s0_0), .v (.int .i64 t384)], .r [.ro (.ag [.v (.int .i64 t385), .sl 1 (rX (cL (cI .i64) 1) t386), .sl 1 (rX (cI .i64) t389)])] [.sl 1 (rX (cI .u8) s0_0), .v (.int .i64 t392)], .r [.ro (.v (.int .i64 t394))] [.sl 1 (rX (cI .u8) s0_0), .v (.int .i64 t395)], .b false, .b true, .p 24 ([]), .o 28 (rX (cI .i64) ((([] : List Int)) ++ t389)), .p 30 ([[.v (.int .i64 0)], [.v (.int .i64 (-1))], [.v (.int .i64 10007)]]), .r [.ro (.v (.int .i64 t410))] [.sl 1 (rX (cI .u8) s0_0), .v (.int .i64 t411)], .p 32 ([[.v (.int .i64 t410)]]), .o 33 (rX (cI .i64) (((([] : List Int)) ++ t389) ++ [t410]))]) (os := []) (c := none) rfl KD ?_
         cases h
         exact ret_as (ms := [.ro]) rfl KD
       · rw [if_neg c10] at h
         cases h
     · rw [if_neg c8] at h
       cases h
   · rw [if_neg c7] at h
     refine path_ok (k := 19) hF (RetQ_mild _ _ _ _ _ _ _ _) (ds := [.p 6 ([[.v (.int .i64 1)], [.v (.int .i64 0)], [.v (.int .i64 2)], [.v (.int .i64 1)], [.v (.int .i64 3)]]), .r [.ro (.v (.int .i64 t381))] [.sl 1 (rX (cI .u8) s0_0), .v (.int .i64 t382)], .r [.ro (.v (.int .i64 t383))] [.sl 1 (rX (cI .u8) s0_0), .v (.int .i64 t384)], .r [.ro (.ag [.v (.int .i64 t385), .sl 1 (rX (cL (cI .i64) 1) t386), .sl 1 (rX (cI .i64) t389)])] [.sl 1 (rX (cI .u8) s0_0), .v (.int .i64 t392)], .r [.ro (.v (.int .i64 t394))] [.sl 1 (rX (cI .u8) s0_0), .v (.int .i64 t395)], .b false, .b false]) (os := []) (c := none) rfl KD ?_
     cases h
     exact ret_as (ms := [.ro]) rfl KD
def spec_DrawUnpackVector.f (k : Nat) (l0 : List Int) : Option (Int × (List (List Int)) × List Int) := (spec_l13Open.f l0).bind fun bt416 => ((spec_l8Some.f k bt416.1 bt416.2).bind fun bt419 => (some (bt419.1, bt419.2.1, bt419.2.2.1)))
set_option maxRecDepth 100000 in
set_option maxHeartbeats 4000000 in
theorem spec_DrawUnpackVector.ctr (k : Nat) (l0 : List Int) (r1 : Int) (r2 : List (List Int)) (r3 : List Int) (h : spec_DrawUnpackVector.f k l0 = some (r1, r2, r3)) : Ctr TE 9 none [.sl 1 (rX (cI .u8) l0)] [.ro (.ag [.v (.int .i64 r1), .sl 1 (rX (cL (cI .i64) 1) r2), .sl 1 (rX (cI .i64) r3)])] [] := by
 refine ctr_of (fn := Tryz.f9) (c := (bodyOf Tryz.f9)) Tryz.func9 rfl (by kernel_rfl) (Nat.le_of_ble_eq_true (by kernel_rfl)) (fun w ro B hF _ => ?_)
 simp only [spec_DrawUnpackVector.f] at h
 obtain ⟨⟨t416, t417⟩, q1, h⟩ := Option.bind_eq_some_iff.1 h
 dsimp only at h
 have q1c := spec_l13Open.ctr _ _ _ q1
 obtain ⟨⟨t419, t420, t423, t426⟩, q2, h⟩ := Option.bind_eq_some_iff.1 h
 dsimp only at h
 have q2c := spec_l8Some.ctr k _ _ _ _ _ _ q2
 refine path_ok (k := 5) hF (RetQ_mild _ _ _ _ _ _ _ _) (ds := [.r [.nb 112 [.sl 1 (rX (cI .u8) t416), .v (.int .i64 t417)]] [], .r [.ro (.ag [.v (.int .i64 t419), .sl 1 (rX (cL (cI .i64) 1) t420), .sl 1 (rX (cI .i64) t423)])] [.sl 1 (rX (cI .u8) t416), .v (.int .i64 t426)]]) (os := []) (c := none) rfl KD ?_
 cases h
 exact ret_as (ms := [.ro]) rfl KD
def impl_total.l0 : Nat → Int → List Int → Int → Int → Option (Int)
  | 0, _, _, _, _ => none
  | k + 1, x3, x6, x7, x8 => if x8 < x7 then (if 0 ≤ x8 then (if x8 < (x6.length : Int) then (impl_total.l0 k (wrap64 (x3 + (rd x6 x8))) x6 x7 (wrap64 (x8 + 1))) else (none)) else (none)) else (some x3)
def impl_total.f (k : Nat) (l0 : List Int) : Option (Int) := impl_total.l0 k 0 l0 (l0.length : Int) 0
def impl_total.I0 (r : Int) (m : Nat) (σ : St) : Prop := ∃ (x3 : Int) (x6 : List Int) (x7 : Int) (x8 : Int), impl_total.l0 m x3 x6 x7 x8 = some r ∧ σ = ⟨[(3, .v (.int .i64 x3)), (6, .sl 1 (rX (cI .i64) x6)), (7, .v (.int .i64 x7)), (8, .v (.int .i64 x8))], []⟩
structure impl_total.C (k : Nat) : Prop where
 s_l0 : ∀ (r : Int) (w : World) (ro : Nat → Prop) (B : Nat) (_ : Fr TE (cx0 Tryz.f94 none w ro B)) (x3 : Int) (x6 : List Int) (x7 : Int) (x8 : Int) (_ : impl_total.l0 k x3 x6 x7 x8 = some r), Kp (WS TE (cx0 Tryz.f94 none w ro B) (stkAt [1, 1, 0, 1, 0] [] (bodyOf Tryz.f94) []) ⟨[(3, .v (.int .i64 x3)), (6, .sl 1 (rX (cI .i64) x6)), (7, .v (.int .i64 x7)), (8, .v (.int .i64 x8))], []⟩ (RetQ TE Tryz.f94 none [.ro (.v (.int .i64 r))] [] w ro B))
set_option maxRecDepth 100000 in
set_option maxHeartbeats 4000000 in
theorem impl_total.c_l0 (k : Nat) (ih : Kp (∀ m, m < k → impl_total.C m)) (r : Int) (w : World) (ro : Nat → Prop) (B : Nat) (hF : Fr TE (cx0 Tryz.f94 none w ro B)) (x3 : Int) (x6 : List Int) (x7 : Int) (x8 : Int) (h : impl_total.l0 k x3 x6 x7 x8 = some r) : Kp (WS TE (cx0 Tryz.f94 none w ro B) (stkAt [1, 1, 0, 1, 0] [] (bodyOf Tryz.f94) []) ⟨[(3, .v (.int .i64 x3)), (6, .sl 1 (rX (cI .i64) x6)), (7, .v (.int .i64 x7)), (8, .v (.int .i64 x8))], []⟩ (RetQ TE Tryz.f94 none [.ro (.v (.int .i64 r))] [] w ro B)) := by
 refine ⟨WS.loop (fun m σ => m ≤ k ∧ impl_total.I0 r m σ) k ⟨Nat.le_refl k, x3, x6, x7, x8, h, rfl⟩ (fun m σ' hI J0 hJ0 => ?_)⟩
 clear h
 obtain ⟨hk, x3, x6, x7, x8, h, rfl⟩ := hI
 cases m with
 | zero => simp [impl_total.l0] at h
 | succ k' =>
 simp only [impl_total.l0] at h
 by_cases c1 : x8 < x7
 · rw [if_pos c1] at h
   by_cases c2 : 0 ≤ x8
   · rw [if_pos c2] at h
     by_cases c3 : x8 < (x6.length : Int)
     · rw [if_pos c3] at h
       refine path_ok (k := 12) hF (RetQ_mild _ _ _ _ _ _ _ _) (ds := [.b true, .e 10 (.rf [.v (.int .i64 (rd x6 x8))])]) (os := []) (c := none) rfl KD ?_
       exact WS.lpc [] (hJ0 _ _ (Nat.lt_succ_self _) ⟨by omega, (wrap64 (x3 + (rd x6 x8))), x6, x7, (wrap64 (x8 + 1)), h, rfl⟩) KD
     · rw [if_neg c3] at h
       cases h
   · rw [if_neg c2] at h
     cases h
 · rw [if_neg c1] at h
   refine path_ok (k := 8) hF (RetQ_mild _ _ _ _ _ _ _ _) (ds := [.b false]) (os := []) (c := none) rfl KD ?_
   cases h
   exact ret_as (ms := [.ro]) rfl KD
theorem impl_total.cs (k : Nat) : impl_total.C k := by
 induction k using Nat.strongRecOn with
 | _ k ih0 =>
 have ih : Kp (∀ m, m < k → impl_total.C m) := ⟨ih0⟩
 exact ⟨impl_total.c_l0 k ih⟩
set_option maxRecDepth 100000 in
set_option maxHeartbeats 4000000 in
theorem impl_total.ctr (k : Nat) (l0 : List Int) (r : Int) (h : impl_total.f k l0 = some r) : Ctr TE 94 none [.sl 1 (rX (cI .i64) l0)] [.ro (.v (.int .i64 r))] [] := by
 refine ctr_of (fn := Tryz.f94) (c := (bodyOf Tryz.f94)) Tryz.func94 rfl (by kernel_rfl) (Nat.le_of_ble_eq_true (by kernel_rfl)) (fun w ro B hF _ => ?_)
 have ih : Kp (∀ m, m < k + 1 → impl_total.C m) := ⟨fun m _ => impl_total.cs m⟩
 simp only [impl_total.f] at h
 refine path_ok (k := 8) hF (RetQ_mild _ _ _ _ _ _ _ _) (ds := [.e 7 (.v (.int .i64 (l0.length : Int)))]) (os := []) (c := none) rfl KD ?_
 exact WS.can [] (((ih.out k (by omega)).s_l0  r w ro B hF 0 l0 (l0.length : Int) 0 h).out) KD
def impl_wrong.l0 : Nat → Int → List (List Int) → Int → Int → List (List Int) → List Int → Option (Int)
  | 0, _, _, _, _, _, _ => none
  | k + 1, x5, x10, x11, x12, x429000, x429001 => if x12 < x11 then (if 0 ≤ x12 then (if x12 < (x10.length : Int) then (if x12 = 3 then (some x12) else (if ((rd_L3 x10 x12).length : Int) = x5 then ((impl_within.f (rd_L3 x10 x12) 400).bind fun t431 => (if t431 = true then ((impl_total.f k (rd_L3 x10 x12)).bind fun t432 => (impl_wrong.l0 k t432 x10 x11 (wrap64 (x12 + 1)) x429000 x429001)) else (some x12))) else (some x12))) else (none)) else (none)) else (if (x429001.length : Int) = x5 then ((impl_within.f x429001 10006).bind fun t429 => (if t429 = true then (some (-1)) else (some (x429000.length : Int)))) else (some (x429000.length : Int)))
def impl_wrong.f (k : Nat) (l0_0 : List (List Int)) (l0_1 : List Int) (a1 : Int) : Option (Int) := impl_wrong.l0 k a1 l0_0 (l0_0.length : Int) 0 l0_0 l0_1
def impl_wrong.I0 (r : Int) (m : Nat) (σ : St) : Prop := ∃ (x5 : Int) (x10 : List (List Int)) (x11 : Int) (x12 : Int) (x429000 : List (List Int)) (x429001 : List Int), impl_wrong.l0 m x5 x10 x11 x12 x429000 x429001 = some r ∧ σ = ⟨[(2, .pt 1002 0 0), (5, .v (.int .i64 x5)), (10, .sl 1 (rX (cL (cI .i64) 1) x10)), (11, .v (.int .i64 x11)), (12, .v (.int .i64 x12))], [(1002, .box 0 29 false [.sl 1 (rX (cL (cI .i64) 1) x429000), .sl 1 (rX (cI .i64) x429001)])]⟩
structure impl_wrong.C (k : Nat) : Prop where
 s_l0 : ∀ (r : Int) (w : World) (ro : Nat → Prop) (B : Nat) (_ : Fr TE (cx0 Tryz.f51 none w ro B)) (x5 : Int) (x10 : List (List Int)) (x11 : Int) (x12 : Int) (x429000 : List (List Int)) (x429001 : List Int) (_ : impl_wrong.l0 k x5 x10 x11 x12 x429000 x429001 = some r), Kp (WS TE (cx0 Tryz.f51 none w ro B) (stkAt [1, 1, 0, 1, 0] [] (bodyOf Tryz.f51) []) ⟨[(2, .pt 1002 0 0), (5, .v (.int .i64 x5)), (10, .sl 1 (rX (cL (cI .i64) 1) x10)), (11, .v (.int .i64 x11)), (12, .v (.int .i64 x12))], [(1002, .box 0 29 false [.sl 1 (rX (cL (cI .i64) 1) x429000), .sl 1 (rX (cI .i64) x429001)])]⟩ (RetQ TE Tryz.f51 none [.ro (.v (.int .i64 r))] [] w ro B))
set_option maxRecDepth 100000 in
set_option maxHeartbeats 4000000 in
theorem impl_wrong.c_l0 (k : Nat) (ih : Kp (∀ m, m < k → impl_wrong.C m)) (r : Int) (w : World) (ro : Nat → Prop) (B : Nat) (hF : Fr TE (cx0 Tryz.f51 none w ro B)) (x5 : Int) (x10 : List (List Int)) (x11 : Int) (x12 : Int) (x429000 : List (List Int)) (x429001 : List Int) (h : impl_wrong.l0 k x5 x10 x11 x12 x429000 x429001 = some r) : Kp (WS TE (cx0 Tryz.f51 none w ro B) (stkAt [1, 1, 0, 1, 0] [] (bodyOf Tryz.f51) []) ⟨[(2, .pt 1002 0 0), (5, .v (.int .i64 x5)), (10, .sl 1 (rX (cL (cI .i64) 1) x10)), (11, .v (.int .i64 x11)), (12, .v (.int .i64 x12))], [(1002, .box 0 29 false [.sl 1 (rX (cL (cI .i64) 1) x429000), .sl 1 (rX (cI .i64) x429001)])]⟩ (RetQ TE Tryz.f51 none [.ro (.v (.int .i64 r))] [] w ro B)) := by
 refine ⟨WS.loop (fun m σ => m ≤ k ∧ impl_wrong.I0 r m σ) k ⟨Nat.le_refl k, x5, x10, x11, x12, x429000, x429001, h, rfl⟩ (fun m σ' hI J0 hJ0 => ?_)⟩
 clear h
 obtain ⟨hk, x5, x10, x11, x12, x429000, x429001, h, rfl⟩ := hI
 cases m with
 | zero => simp [impl_wrong.l0] at h
 | succ k' =>
 simp only [impl_wrong.l0] at h
 by_cases c1 : x12 < x11
 · rw [if_pos c1] at h
   by_cases c2 : 0 ≤ x12
   · rw [if_pos c2] at h
     by_cases c3 : x12 < (x10.length : Int)
     · rw [if_pos c3] at h
       by_cases c4 : x12 = 3
       · rw [if_pos c4] at h
         refine path_ok (k := 16) hF (RetQ_mild _ _ _ _ _ _ _ _) (ds := [.b true, .e 15 (.rf [.sl 1 (rX (cI .i64) (rd_L3 x10 x12))]), .b true, .b true, .b true, .b true, .b true, .b true, .b true, .b true, .b true, .b true]) (os := []) (c := none) rfl KD ?_
         cases h
         exact ret_as (ms := [.ro]) rfl KD
       · rw [if_neg c4] at h
         by_cases c5 : ((rd_L3 x10 x12).length : Int) = x5
         · rw [if_pos c5] at h
           obtain ⟨t431, q6, h⟩ := Option.bind_eq_some_iff.1 h
           have q6c := impl_within.ctr _ _ _ q6
           by_cases c7 : t431 = true
           · rw [if_pos c7] at h
             obtain ⟨t432, q8, h⟩ := Option.bind_eq_some_iff.1 h
             have q8c := impl_total.ctr k' _ _ q8
             refine path_ok (k := 17) hF (RetQ_mild _ _ _ _ _ _ _ _) (ds := [.b true, .e 15 (.rf [.sl 1 (rX (cI .i64) (rd_L3 x10 x12))]), .b false, .b false, .e 21 (.v (.int .i64 ((rd_L3 x10 x12).length : Int))), .b false, .b false, .b false, .b false, .b false, .r [.ro (.v (.bool t431))] [], .b false, .b false, .b false, .r [.ro (.v (.int .i64 t432))] []]) (os := []) (c := none) rfl KD ?_
             exact WS.lpc [(1002, some 1002)] (hJ0 _ _ (Nat.lt_succ_self _) ⟨by omega, t432, x10, x11, (wrap64 (x12 + 1)), x429000, x429001, h, rfl⟩) KD
           · rw [if_neg c7] at h
             refine path_ok (k := 16) hF (RetQ_mild _ _ _ _ _ _ _ _) (ds := [.b true, .e 15 (.rf [.sl 1 (rX (cI .i64) (rd_L3 x10 x12))]), .b false, .b false, .e 21 (.v (.int .i64 ((rd_L3 x10 x12).length : Int))), .b false, .b false, .b false, .b false, .b false, .r [.ro (.v (.bool t431))] [], .b false, .b false, .b true]) (os := []) (c := none) rfl KD ?_
             cases h
             exact ret_as (ms := [.ro]) rfl KD
         · rw [if_neg c5] at h
           refine path_ok (k := 16) hF (RetQ_mild _ _ _ _ _ _ _ _) (ds := [.b true, .e 15 (.rf [.sl 1 (rX (cI .i64) (rd_L3 x10 x12))]), .b false, .b false, .e 21 (.v (.int .i64 ((rd_L3 x10 x12).length : Int))), .b false, .b false, .b false, .b true, .b true, .b true, .b true, .b true]) (os := []) (c := none) rfl KD ?_
           cases h
           exact ret_as (ms := [.ro]) rfl KD
     · rw [if_neg c3] at h
       cases h
   · rw [if_neg c2] at h
     cases h
 · rw [if_neg c1] at h
   by_cases c9 : (x429001.length : Int) = x5
   · rw [if_pos c9] at h
     obtain ⟨t429, q10, h⟩ := Option.bind_eq_some_iff.1 h
     have q10c := impl_within.ctr _ _ _ q10
     by_cases c11 : t429 = true
     · rw [if_pos c11] at h
       refine path_ok (k := 13) hF (RetQ_mild _ _ _ _ _ _ _ _) (ds := [.b false, .e 36 (.v (.int .i64 (x429001.length : Int))), .b false, .b false, .b false, .r [.ro (.v (.bool t429))] [], .b false, .b false, .b false]) (os := []) (c := none) rfl KD ?_
       cases h
       exact ret_as (ms := [.ro]) rfl KD
     · rw [if_neg c11] at h
       refine path_ok (k := 12) hF (RetQ_mild _ _ _ _ _ _ _ _) (ds := [.b false, .e 36 (.v (.int .i64 (x429001.length : Int))), .b false, .b false, .b false, .r [.ro (.v (.bool t429))] [], .b false, .b false, .b true, .e 47 (.v (.int .i64 (x429000.length : Int)))]) (os := []) (c := none) rfl KD ?_
       cases h
       exact ret_as (ms := [.ro]) rfl KD
   · rw [if_neg c9] at h
     refine path_ok (k := 12) hF (RetQ_mild _ _ _ _ _ _ _ _) (ds := [.b false, .e 36 (.v (.int .i64 (x429001.length : Int))), .b true, .b true, .b true, .b true, .b true, .b true, .e 47 (.v (.int .i64 (x429000.length : Int)))]) (os := []) (c := none) rfl KD ?_
     cases h
     exact ret_as (ms := [.ro]) rfl KD
theorem impl_wrong.cs (k : Nat) : impl_wrong.C k := by
 induction k using Nat.strongRecOn with
 | _ k ih0 =>
 have ih : Kp (∀ m, m < k → impl_wrong.C m) := ⟨ih0⟩
 exact ⟨impl_wrong.c_l0 k ih⟩
set_option maxRecDepth 100000 in
set_option maxHeartbeats 4000000 in
theorem impl_wrong.ctr (k : Nat) (l0_0 : List (List Int)) (l0_1 : List Int) (a1 : Int) (r : Int) (h : impl_wrong.f k l0_0 l0_1 a1 = some r) : Ctr TE 51 none [.ag [.sl 1 (rX (cL (cI .i64) 1) l0_0), .sl 1 (rX (cI .i64) l0_1)], .v (.int .i64 a1)] [.ro (.v (.int .i64 r))] [] := by
 refine ctr_of (fn := Tryz.f51) (c := (bodyOf Tryz.f51)) Tryz.func51 rfl (by kernel_rfl) (Nat.le_of_ble_eq_true (by kernel_rfl)) (fun w ro B hF _ => ?_)
 have ih : Kp (∀ m, m < k + 1 → impl_wrong.C m) := ⟨fun m _ => impl_wrong.cs m⟩
 simp only [impl_wrong.f] at h
 refine path_ok (k := 8) hF (RetQ_mild _ _ _ _ _ _ _ _) (ds := [.e 11 (.v (.int .i64 (l0_0.length : Int)))]) (os := []) (c := none) rfl KD ?_
 exact WS.can [(1002, some 2)] (((ih.out k (by omega)).s_l0  r w ro B hF a1 l0_0 (l0_0.length : Int) 0 l0_0 l0_1 h).out) KD
def impl_VectorValid.f (k : Nat) (a0_0 : Int) (l0_1 : List (List Int)) (l0_2 : List Int) : Option (Bool) := if a0_0 ≥ 0 then (if a0_0 ≤ 2000 then ((impl_wrong.f k l0_1 l0_2 a0_0).bind fun t434 => (some (decide (t434 < 0)))) else (some false)) else (some false)
set_option maxRecDepth 100000 in
set_option maxHeartbeats 4000000 in
theorem impl_VectorValid.ctr (k : Nat) (a0_0 : Int) (l0_1 : List (List Int)) (l0_2 : List Int) (r : Bool) (h : impl_VectorValid.f k a0_0 l0_1 l0_2 = some r) : Ctr TE 14 none [.ag [.v (.int .i64 a0_0), .sl 1 (rX (cL (cI .i64) 1) l0_1), .sl 1 (rX (cI .i64) l0_2)]] [.ro (.v (.bool r))] [] := by
 refine ctr_of (fn := Tryz.f14) (c := (bodyOf Tryz.f14)) Tryz.func14 rfl (by kernel_rfl) (Nat.le_of_ble_eq_true (by kernel_rfl)) (fun w ro B hF _ => ?_)
 simp only [impl_VectorValid.f] at h
 by_cases c1 : a0_0 ≥ 0
 · rw [if_pos c1] at h
   by_cases c2 : a0_0 ≤ 2000
   · rw [if_pos c2] at h
     obtain ⟨t434, q3, h⟩ := Option.bind_eq_some_iff.1 h
     have q3c := impl_wrong.ctr k _ _ _ _ q3
     refine path_ok (k := 5) hF (RetQ_mild _ _ _ _ _ _ _ _) (ds := [.b true, .b true, .b true, .b true, .b true, .b true, .b true, .b true, .b true, .r [.ro (.v (.int .i64 t434))] [], .b true, .b true]) (os := []) (c := none) rfl KD ?_
     cases h
     exact ret_as (ms := [.ro]) rfl KD
   · rw [if_neg c2] at h
     refine path_ok (k := 5) hF (RetQ_mild _ _ _ _ _ _ _ _) (ds := [.b true, .b true, .b true, .b true, .b false, .b false, .b false, .b false, .b false, .b false, .b false]) (os := []) (c := none) rfl KD ?_
     cases h
     exact ret_as (ms := [.ro]) rfl KD
 · rw [if_neg c1] at h
   refine path_ok (k := 5) hF (RetQ_mild _ _ _ _ _ _ _ _) (ds := [.b false, .b false, .b false, .b false, .b false, .b false, .b false, .b false, .b false, .b false, .b false]) (os := []) (c := none) rfl KD ?_
   cases h
   exact ret_as (ms := [.ro]) rfl KD
mutual
def impl_raised.l0 : Nat → List (S68) → List Int → Int → Int → List (List Int) → List Int → Option ((List (S68)))
  | 0, _, _, _, _, _, _ => none
  | k + 1, x5, x17, x18, x19, x436000, x436001 => if x19 < x18 then (if 0 ≤ x19 then (if x19 < (x17.length : Int) then (if x5.length < 4398046511104 then (impl_raised.l0 k (x5 ++ [(⟨rd x17 x19, ([] : List (S68))⟩ : S68)]) x17 x18 (wrap64 (x19 + 1)) x436000 x436001) else (none)) else (none)) else (none)) else (impl_raised.l1 k x5 (wrap64 ((x436000.length : Int) - 1)) x436000 x436001)
def impl_raised.l1 : Nat → List (S68) → Int → List (List Int) → List Int → Option ((List (S68)))
  | 0, _, _, _, _ => none
  | k + 1, x5, x8, x436000, x436001 => if x8 ≥ 0 then (if 0 ≤ x8 then (if x8 < (x436000.length : Int) then (impl_raised.l2 k x5 x8 (([] : List (S68))) (rd_L3 x436000 x8) ((rd_L3 x436000 x8).length : Int) 0 x436000 x436001) else (none)) else (none)) else (some x5)
def impl_raised.l2 : Nat → List (S68) → Int → List (S68) → List Int → Int → Int → List (List Int) → List Int → Option ((List (S68)))
  | 0, _, _, _, _, _, _, _, _ => none
  | k + 1, x5, x8, x9, x42, x43, x44, x436000, x436001 => if x44 < x43 then (if 0 ≤ x44 then (if x44 < (x42.length : Int) then (if 0 ≤ (rd x42 x44) then (if (rd x42 x44) ≤ (x5.length : Int) then (if x9.length < 4398046511104 then (impl_raised.l2 k (x5.drop ((rd x42 x44) : Int).toNat) x8 (x9 ++ [(⟨0, (x5.take ((rd x42 x44) : Int).toNat)⟩ : S68)]) x42 x43 (wrap64 (x44 + 1)) x436000 x436001) else (none)) else (none)) else (none)) else (none)) else (none)) else (impl_raised.l1 k x9 (wrap64 (x8 - 1)) x436000 x436001)
end
def impl_raised.f (k : Nat) (l0_0 : List (List Int)) (l0_1 : List Int) (a1 : Int) : Option ((List (S68))) := if 0 ≤ (l0_1.length : Int) then (if ((l0_1.length : Int) : Int).toNat ≤ 8796093022208 then (impl_raised.l0 k (List.replicate 0 z68) l0_1 (l0_1.length : Int) 0 l0_0 l0_1) else (none)) else (none)
def impl_raised.I0 (r : List (S68)) (m : Nat) (σ : St) : Prop := ∃ (x5 : List (S68)) (x17 : List Int) (x18 : Int) (x19 : Int) (x436000 : List (List Int)) (x436001 : List Int), impl_raised.l0 m x5 x17 x18 x19 x436000 x436001 = some r ∧ σ = ⟨[(2, .pt 1002 0 0), (5, .ow 1005 0), (17, .sl 1 (rX (cI .i64) x17)), (18, .v (.int .i64 x18)), (19, .v (.int .i64 x19))], [(1002, .box 0 29 false [.sl 1 (rX (cL (cI .i64) 1) x436000), .sl 1 (rX (cI .i64) x436001)]), (1005, .own 0 68 2 (r68 x5))]⟩
def impl_raised.I1 (r : List (S68)) (m : Nat) (σ : St) : Prop := ∃ (x5 : List (S68)) (x8 : Int) (x436000 : List (List Int)) (x436001 : List Int), impl_raised.l1 m x5 x8 x436000 x436001 = some r ∧ σ = ⟨[(2, .pt 1002 0 0), (5, .ow 1005 0), (8, .v (.int .i64 x8))], [(1002, .box 0 29 false [.sl 1 (rX (cL (cI .i64) 1) x436000), .sl 1 (rX (cI .i64) x436001)]), (1005, .own 0 68 2 (r68 x5))]⟩
def impl_raised.I2 (r : List (S68)) (m : Nat) (σ : St) : Prop := ∃ (x5 : List (S68)) (x8 : Int) (x9 : List (S68)) (x42 : List Int) (x43 : Int) (x44 : Int) (x436000 : List (List Int)) (x436001 : List Int), impl_raised.l2 m x5 x8 x9 x42 x43 x44 x436000 x436001 = some r ∧ σ = ⟨[(2, .pt 1002 0 0), (5, .sl 2 (r68 x5)), (8, .v (.int .i64 x8)), (9, .ow 1009 0), (42, .sl 1 (rX (cI .i64) x42)), (43, .v (.int .i64 x43)), (44, .v (.int .i64 x44))], [(1002, .box 0 29 false [.sl 1 (rX (cL (cI .i64) 1) x436000), .sl 1 (rX (cI .i64) x436001)]), (1009, .own 0 68 2 (r68 x9))]⟩
structure impl_raised.C (k : Nat) : Prop where
 s_l0 : ∀ (r : List (S68)) (w : World) (ro : Nat → Prop) (B : Nat) (_ : Fr TE (cx0 Tryz.f89 none w ro B)) (x5 : List (S68)) (x17 : List Int) (x18 : Int) (x19 : Int) (x436000 : List (List Int)) (x436001 : List Int) (_ : impl_raised.l0 k x5 x17 x18 x19 x436000 x436001 = some r), Kp (WS TE (cx0 Tryz.f89 none w ro B) (stkAt [1, 1, 0, 1, 0] [] (bodyOf Tryz.f89) []) ⟨[(2, .pt 1002 0 0), (5, .ow 1005 0), (17, .sl 1 (rX (cI .i64) x17)), (18, .v (.int .i64 x18)), (19, .v (.int .i64 x19))], [(1002, .box 0 29 false [.sl 1 (rX (cL (cI .i64) 1) x436000), .sl 1 (rX (cI .i64) x436001)]), (1005, .own 0 68 2 (r68 x5))]⟩ (RetQ TE Tryz.f89 none [.own 68 2 (r68 r)] [] w ro B))
 s_l1 : ∀ (r : List (S68)) (w : World) (ro : Nat → Prop) (B : Nat) (_ : Fr TE (cx0 Tryz.f89 none w ro B)) (x5 : List (S68)) (x8 : Int) (x436000 : List (List Int)) (x436001 : List Int) (_ : impl_raised.l1 k x5 x8 x436000 x436001 = some r), Kp (WS TE (cx0 Tryz.f89 none w ro B) (stkAt [1, 1, 1, 0, 1, 0] [] (bodyOf Tryz.f89) []) ⟨[(2, .pt 1002 0 0), (5, .ow 1005 0), (8, .v (.int .i64 x8))], [(1002, .box 0 29 false [.sl 1 (rX (cL (cI .i64) 1) x436000), .sl 1 (rX (cI .i64) x436001)]), (1005, .own 0 68 2 (r68 x5))]⟩ (RetQ TE Tryz.f89 none [.own 68 2 (r68 r)] [] w ro B))
 s_l2 : ∀ (r : List (S68)) (w : World) (ro : Nat → Prop) (B : Nat) (_ : Fr TE (cx0 Tryz.f89 none w ro B)) (J1 : St → Prop) (_ : ∀ m σ, m ≤ k → impl_raised.I1 r m σ → J1 σ) (x5 : List (S68)) (x8 : Int) (x9 : List (S68)) (x42 : List Int) (x43 : Int) (x44 : Int) (x436000 : List (List Int)) (x436001 : List Int) (_ : impl_raised.l2 k x5 x8 x9 x42 x43 x44 x436000 x436001 = some r), Kp (WS TE (cx0 Tryz.f89 none w ro B) (stkAt [1, 1, 1, 0, 1, 0, 0, 1, 0, 0, 1, 0, 1, 0] [J1] (bodyOf Tryz.f89) []) ⟨[(2, .pt 1002 0 0), (5, .sl 2 (r68 x5)), (8, .v (.int .i64 x8)), (9, .ow 1009 0), (42, .sl 1 (rX (cI .i64) x42)), (43, .v (.int .i64 x43)), (44, .v (.int .i64 x44))], [(1002, .box 0 29 false [.sl 1 (rX (cL (cI .i64) 1) x436000), .sl 1 (rX (cI .i64) x436001)]), (1009, .own 0 68 2 (r68 x9))]⟩ (RetQ TE Tryz.f89 none [.own 68 2 (r68 r)] [] w ro B))
set_option maxRecDepth 100000 in
set_option maxHeartbeats 4000000 in
theorem impl_raised.c_l0 (k : Nat) (ih : Kp (∀ m, m < k → impl_raised.C m)) (r : List (S68)) (w : World) (ro : Nat → Prop) (B : Nat) (hF : Fr TE (cx0 Tryz.f89 none w ro B)) (x5 : List (S68)) (x17 : List Int) (x18 : Int) (x19 : Int) (x436000 : List (List Int)) (x436001 : List Int) (h : impl_raised.l0 k x5 x17 x18 x19 x436000 x436001 = some r) : Kp (WS TE (cx0 Tryz.f89 none w ro B) (stkAt [1, 1, 0, 1, 0] [] (bodyOf Tryz.f89) []) ⟨[(2, .pt 1002 0 0), (5, .ow 1005 0), (17, .sl 1 (rX (cI .i64) x17)), (18, .v (.int .i64 x18)), (19, .v (.int .i64 x19))], [(1002, .box 0 29 false [.sl 1 (rX (cL (cI .i64) 1) x436000), .sl 1 (rX (cI .i64) x436001)]), (1005, .own 0 68 2 (r68 x5))]⟩ (RetQ TE Tryz.f89 none [.own 68 2 (r68 r)] [] w ro B)) := by
 refine ⟨WS.loop (fun m σ => m ≤ k ∧ impl_raised.I0 r m σ) k ⟨Nat.le_refl k, x5, x17, x18, x19, x436000, x436001, h, rfl⟩ (fun m σ' hI J0 hJ0 => ?_)⟩
 clear h
 obtain ⟨hk, x5, x17, x18, x19, x436000, x436001, h, rfl⟩ := hI
 cases m with
 | zero => simp [impl_raised.l0] at h
 | succ k' =>
 simp only [impl_raised.l0] at h
 by_cases c3 : x19 < x18
 · rw [if_pos c3] at h
   by_cases c4 : 0 ≤ x19
   · rw [if_pos c4] at h
     by_cases c5 : x19 < (x17.length : Int)
     · rw [if_pos c5] at h
       by_cases c6 : x5.length < 4398046511104
       · rw [if_pos c6] at h
         refine path_ok (k := 12) hF (RetQ_mild _ _ _ _ _ _ _ _) (ds := [.b true, .e 21 (.rf [.v (.int .i64 (rd x17 x19))]), .p 26 ([[.v (.int .i64 (rd x17 x19)), .sl 2 (r68 [])]]), .o 27 (r68 (x5 ++ [(⟨rd x17 x19, ([] : List (S68))⟩ : S68)]))]) (os := []) (c := none) rfl KD ?_
         exact WS.lpc [(1002, some 1002), (1005, some 1005)] (hJ0 _ _ (Nat.lt_succ_self _) ⟨by omega, (x5 ++ [(⟨rd x17 x19, ([] : List (S68))⟩ : S68)]), x17, x18, (wrap64 (x19 + 1)), x436000, x436001, h, rfl⟩) KD
       · rw [if_neg c6] at h
         cases h
     · rw [if_neg c5] at h
       cases h
   · rw [if_neg c4] at h
     cases h
 · rw [if_neg c3] at h
   refine path_ok (k := 9) hF (RetQ_mild _ _ _ _ _ _ _ _) (ds := [.b false, .e 31 (.v (.int .i64 (x436000.length : Int)))]) (os := []) (c := none) rfl KD ?_
   exact WS.can [(1002, some 1002), (1005, some 1005)] (((ih.out k' (by omega)).s_l1  r w ro B hF x5 (wrap64 ((x436000.length : Int) - 1)) x436000 x436001 h).out) KD
set_option maxRecDepth 100000 in
set_option maxHeartbeats 4000000 in
theorem impl_raised.c_l1 (k : Nat) (ih : Kp (∀ m, m < k → impl_raised.C m)) (r : List (S68)) (w : World) (ro : Nat → Prop) (B : Nat) (hF : Fr TE (cx0 Tryz.f89 none w ro B)) (x5 : List (S68)) (x8 : Int) (x436000 : List (List Int)) (x436001 : List Int) (h : impl_raised.l1 k x5 x8 x436000 x436001 = some r) : Kp (WS TE (cx0 Tryz.f89 none w ro B) (stkAt [1, 1, 1, 0, 1, 0] [] (bodyOf Tryz.f89) []) ⟨[(2, .pt 1002 0 0), (5, .ow 1005 0), (8, .v (.int .i64 x8))], [(1002, .box 0 29 false [.sl 1 (rX (cL (cI .i64) 1) x436000), .sl 1 (rX (cI .i64) x436001)]), (1005, .own 0 68 2 (r68 x5))]⟩ (RetQ TE Tryz.f89 none [.own 68 2 (r68 r)] [] w ro B)) := by
 refine ⟨WS.loop (fun m σ => m ≤ k ∧ impl_raised.I1 r m σ) k ⟨Nat.le_refl k, x5, x8, x436000, x436001, h, rfl⟩ (fun m σ' hI J1 hJ1 => ?_)⟩
 clear h
 obtain ⟨hk, x5, x8, x436000, x436001, h, rfl⟩ := hI
 cases m with
 | zero => simp [impl_raised.l1] at h
 | succ k' =>
 simp only [impl_raised.l1] at h
 by_cases c7 : x8 ≥ 0
 · rw [if_pos c7] at h
   by_cases c8 : 0 ≤ x8
   · rw [if_pos c8] at h
     by_cases c9 : x8 < (x436000.length : Int)
     · rw [if_pos c9] at h
       refine path_ok (k := 13) hF (RetQ_mild _ _ _ _ _ _ _ _) (ds := [.b true, .p 37 ([]), .e 41 (.rf [.sl 1 (rX (cI .i64) (rd_L3 x436000 x8))]), .e 43 (.v (.int .i64 ((rd_L3 x436000 x8).length : Int)))]) (os := []) (c := none) rfl KD ?_
       refine WS.freeze 1005 ?_ rfl
       exact WS.can [(1002, some 1002), (1009, some 37)] (((ih.out k' (by omega)).s_l2  r w ro B hF J1 (fun m σ hm hI => hJ1 m σ (by omega) ⟨by omega, hI⟩) x5 x8 (([] : List (S68))) (rd_L3 x436000 x8) ((rd_L3 x436000 x8).length : Int) 0 x436000 x436001 h).out) KD
     · rw [if_neg c9] at h
       cases h
   · rw [if_neg c8] at h
     cases h
 · rw [if_neg c7] at h
   refine path_ok (k := 8) hF (RetQ_mild _ _ _ _ _ _ _ _) (ds := [.b false]) (os := []) (c := none) rfl KD ?_
   cases h
   exact ret_as (ms := [.own]) rfl KD
set_option maxRecDepth 100000 in
set_option maxHeartbeats 4000000 in
theorem impl_raised.c_l2 (k : Nat) (ih : Kp (∀ m, m < k → impl_raised.C m)) (r : List (S68)) (w : World) (ro : Nat → Prop) (B : Nat) (hF : Fr TE (cx0 Tryz.f89 none w ro B)) (J1 : St → Prop) (hJ1 : ∀ m σ, m ≤ k → impl_raised.I1 r m σ → J1 σ) (x5 : List (S68)) (x8 : Int) (x9 : List (S68)) (x42 : List Int) (x43 : Int) (x44 : Int) (x436000 : List (List Int)) (x436001 : List Int) (h : impl_raised.l2 k x5 x8 x9 x42 x43 x44 x436000 x436001 = some r) : Kp (WS TE (cx0 Tryz.f89 none w ro B) (stkAt [1, 1, 1, 0, 1, 0, 0, 1, 0, 0, 1, 0, 1, 0] [J1] (bodyOf Tryz.f89) []) ⟨[(2, .pt 1002 0 0), (5, .sl 2 (r68 x5)), (8, .v (.int .i64 x8)), (9, .ow 1009 0), (42, .sl 1 (rX (cI .i64) x42)), (43, .v (.int .i64 x43)), (44, .v (.int .i64 x44))], [(1002, .box 0 29 false [.sl 1 (rX (cL (cI .i64) 1) x436000), .sl 1 (rX (cI .i64) x436001)]), (1009, .own 0 68 2 (r68 x9))]⟩ (RetQ TE Tryz.f89 none [.own 68 2 (r68 r)] [] w ro B)) := by
 refine ⟨WS.loop (fun m σ => m ≤ k ∧ impl_raised.I2 r m σ) k ⟨Nat.le_refl k, x5, x8, x9, x42, x43, x44, x436000, x436001, h, rfl⟩ (fun m σ' hI J2 hJ2 => ?_)⟩
 clear h
 obtain ⟨hk, x5, x8, x9, x42, x43, x44, x436000, x436001, h, rfl⟩ := hI
 cases m with
 | zero => simp [impl_raised.l2] at h
 | succ k' =>
 simp only [impl_raised.l2] at h
 by_cases c10 : x44 < x43
 · rw [if_pos c10] at h
   by_cases c11 : 0 ≤ x44
   · rw [if_pos c11] at h
     by_cases c12 : x44 < (x42.length : Int)
     · rw [if_pos c12] at h
       by_cases c13 : 0 ≤ (rd x42 x44)
       · rw [if_pos c13] at h
         by_cases c14 : (rd x42 x44) ≤ (x5.length : Int)
         · rw [if_pos c14] at h
           by_cases c15 : x9.length < 4398046511104
           · rw [if_pos c15] at h
             refine path_ok (k := 14) hF (RetQ_mild _ _ _ _ _ _ _ _) (ds := [.b true, .e 46 (.rf [.v (.int .i64 (rd x42 x44))]), .e 52 (.sl 2 (r68 (x5.take ((rd x42 x44) : Int).toNat))), .p 54 ([[.v (.int .i64 0), .sl 2 (r68 (x5.take ((rd x42 x44) : Int).toNat))]]), .o 55 (r68 (x9 ++ [(⟨0, (x5.take ((rd x42 x44) : Int).toNat)⟩ : S68)])), .e 58 (.sl 2 (r68 (x5.drop ((rd x42 x44) : Int).toNat)))]) (os := []) (c := none) rfl KD ?_
             exact WS.lpc [(1002, some 1002), (1009, some 1009)] (hJ2 _ _ (Nat.lt_succ_self _) ⟨by omega, (x5.drop ((rd x42 x44) : Int).toNat), x8, (x9 ++ [(⟨0, (x5.take ((rd x42 x44) : Int).toNat)⟩ : S68)]), x42, x43, (wrap64 (x44 + 1)), x436000, x436001, h, rfl⟩) KD
           · rw [if_neg c15] at h
             cases h
         · rw [if_neg c14] at h
           cases h
       · rw [if_neg c13] at h
         cases h
     · rw [if_neg c12] at h
       cases h
   · rw [if_neg c11] at h
     cases h
 · rw [if_neg c10] at h
   refine path_ok (k := 8) hF (RetQ_mild _ _ _ _ _ _ _ _) (ds := [.b false]) (os := []) (c := none) rfl KD ?_
   exact WS.lpc [(1002, some 1002), (1005, some 1009)] (hJ1 _ _ (by omega) ⟨x9, (wrap64 (x8 - 1)), x436000, x436001, h, rfl⟩) KD
theorem impl_raised.cs (k : Nat) : impl_raised.C k := by
 induction k using Nat.strongRecOn with
 | _ k ih0 =>
 have ih : Kp (∀ m, m < k → impl_raised.C m) := ⟨ih0⟩
 exact ⟨impl_raised.c_l0 k ih, impl_raised.c_l1 k ih, impl_raised.c_l2 k ih⟩
set_option maxRecDepth 100000 in
set_option maxHeartbeats 4000000 in
theorem impl_raised.ctr (k : Nat) (l0_0 : List (List Int)) (l0_1 : List Int) (a1 : Int) (r : List (S68)) (h : impl_raised.f k l0_0 l0_1 a1 = some r) : Ctr TE 89 none [.ag [.sl 1 (rX (cL (cI .i64) 1) l0_0), .sl 1 (rX (cI .i64) l0_1)], .v (.int .i64 a1)] [.own 68 2 (r68 r)] [] := by
 refine ctr_of (fn := Tryz.f89) (c := (bodyOf Tryz.f89)) Tryz.func89 rfl (by kernel_rfl) (Nat.le_of_ble_eq_true (by kernel_rfl)) (fun w ro B hF _ => ?_)
 have ih : Kp (∀ m, m < k + 1 → impl_raised.C m) := ⟨fun m _ => impl_raised.cs m⟩
 simp only [impl_raised.f] at h
 by_cases c1 : 0 ≤ (l0_1.length : Int)
 · rw [if_pos c1] at h
   by_cases c2 : ((l0_1.length : Int) : Int).toNat ≤ 8796093022208
   · rw [if_pos c2] at h
     refine path_ok (k := 8) hF (RetQ_mild _ _ _ _ _ _ _ _) (ds := [.e 14 (.v (.int .i64 (l0_1.length : Int))), .o 15 (r68 (List.replicate 0 z68)), .e 18 (.v (.int .i64 (l0_1.length : Int)))]) (os := []) (c := none) rfl KD ?_
     exact WS.can [(1002, some 2), (1005, some 15)] (((ih.out k (by omega)).s_l0  r w ro B hF (List.replicate 0 z68) l0_1 (l0_1.length : Int) 0 l0_0 l0_1 h).out) KD
   · rw [if_neg c2] at h
     cases h
 · rw [if_neg c1] at h
   cases h
def impl_Vector_arrays.f (k : Nat) (a0_0 : Int) (l0_1 : List (List Int)) (l0_2 : List Int) : Option ((List (S68))) := (impl_raised.f k l0_1 l0_2 a0_0).bind fun t460 => (some t460)
set_option maxRecDepth 100000 in
set_option maxHeartbeats 4000000 in
theorem impl_Vector_arrays.ctr (k : Nat) (a0_0 : Int) (l0_1 : List (List Int)) (l0_2 : List Int) (r : List (S68)) (h : impl_Vector_arrays.f k a0_0 l0_1 l0_2 = some r) : Ctr TE 47 none [.ag [.v (.int .i64 a0_0), .sl 1 (rX (cL (cI .i64) 1) l0_1), .sl 1 (rX (cI .i64) l0_2)]] [.own 68 2 (r68 r)] [] := by
 refine ctr_of (fn := Tryz.f47) (c := (bodyOf Tryz.f47)) Tryz.func47 rfl (by kernel_rfl) (Nat.le_of_ble_eq_true (by kernel_rfl)) (fun w ro B hF _ => ?_)
 simp only [impl_Vector_arrays.f] at h
 obtain ⟨t460, q1, h⟩ := Option.bind_eq_some_iff.1 h
 have q1c := impl_raised.ctr k _ _ _ _ q1
 refine path_ok (k := 5) hF (RetQ_mild _ _ _ _ _ _ _ _) (ds := [.r [.own 68 2 (r68 t460)] []]) (os := []) (c := none) rfl KD ?_
 cases h
 exact ret_as (ms := [.own]) rfl KD
end Go.Proofs.YtidpankoobdfjaaGreatDoor.K
