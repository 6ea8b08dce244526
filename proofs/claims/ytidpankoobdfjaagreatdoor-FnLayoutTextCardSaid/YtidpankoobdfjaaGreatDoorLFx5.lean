/- A part of the claim. -/
import Derived.Test.YtidpankoobdfjaaGreatDoorLFx0
import Derived.Test.YtidpankoobdfjaaGreatDoorLFx1
import Derived.Test.YtidpankoobdfjaaGreatDoorLFx3
import Derived.Test.YtidpankoobdfjaaGreatDoorLFx4
-- PRINTED by print.py (a twelfth state) out of the translation. Not trusted: Lean checks it.
namespace Go.Proofs.YtidpankoobdfjaaGreatDoor.L
open Go.RowKit Go.Proofs.YtidpankoobdfjaaGreatDoorW.St Go.Proofs.YtidpankoobdfjaaGreatDoorW.PrintWords Go.Proofs.YtidpankoobdfjaaGreatDoorW.PrintLast Go.Proofs.YtidpankoobdfjaaGreatDoorW.PrintMore
attribute [local go_sem] max2_int min2_int max_two min_two max_three min_three max_four min_four   -- for this text's walks alone
set_option linter.unusedVariables false
set_option linter.unusedSimpArgs false
mutual
def spec_WhatIsWrong.l0 : Nat → Int → List (List Int) → Int → Int → List (List Int) → List Int → Option (Int)
  | 0, _, _, _, _, _, _ => none
  | k + 1, x3, x9, x10, x11, x459000, x459001 => if x11 < x10 then (if 0 ≤ x11 then (if x11 < (x9.length : Int) then (if ((rd_L1 x9 x11).length : Int) = x3 then ((spec_l2Sum.f k (rd_L1 x9 x11)).bind fun t460 => (if t460 < 0 then (some x11) else (if x11 ≥ 3 then (some x11) else ((spec_l2Sum.f k (rd_L1 x9 x11)).bind fun t461 => (spec_WhatIsWrong.l0 k t461 x9 x10 (wrap64 (x11 + 1)) x459000 x459001))))) else (some x11)) else (none)) else (none)) else (if (x459001.length : Int) = x3 then (spec_WhatIsWrong.l1 k x459001 (x459001.length : Int) 0 x459000 x459001) else (some (x459000.length : Int)))
def spec_WhatIsWrong.l1 : Nat → List Int → Int → Int → List (List Int) → List Int → Option (Int)
  | 0, _, _, _, _, _ => none
  | k + 1, x42, x43, x44, x459000, x459001 => if x44 < x43 then (if 0 ≤ x44 then (if x44 < (x42.length : Int) then ((spec_l1In.f (rd x42 x44) 0 10006).bind fun t463 => (if t463 = true then (spec_WhatIsWrong.l1 k x42 x43 (wrap64 (x44 + 1)) x459000 x459001) else (some (x459000.length : Int)))) else (none)) else (none)) else (some (-1))
end
def spec_WhatIsWrong.f (k : Nat) (l0_0 : List (List Int)) (l0_1 : List Int) : Option (Int) := spec_WhatIsWrong.l0 k 1 l0_0 (l0_0.length : Int) 0 l0_0 l0_1
def spec_WhatIsWrong.I0 (r : Int) (m : Nat) (σ : St) : Prop := ∃ (x3 : Int) (x9 : List (List Int)) (x10 : Int) (x11 : Int) (x459000 : List (List Int)) (x459001 : List Int), spec_WhatIsWrong.l0 m x3 x9 x10 x11 x459000 x459001 = some r ∧ σ = ⟨[(1, .pt 1001 0 0), (3, .v (.int .i64 x3)), (9, .sl 1 (rX (cL (cI .i64) 1) x9)), (10, .v (.int .i64 x10)), (11, .v (.int .i64 x11))], [(1001, .box 0 29 false [.sl 1 (rX (cL (cI .i64) 1) x459000), .sl 1 (rX (cI .i64) x459001)])]⟩
def spec_WhatIsWrong.I1 (r : Int) (m : Nat) (σ : St) : Prop := ∃ (x42 : List Int) (x43 : Int) (x44 : Int) (x459000 : List (List Int)) (x459001 : List Int), spec_WhatIsWrong.l1 m x42 x43 x44 x459000 x459001 = some r ∧ σ = ⟨[(1, .pt 1001 0 0), (42, .sl 1 (rX (cI .i64) x42)), (43, .v (.int .i64 x43)), (44, .v (.int .i64 x44))], [(1001, .box 0 29 false [.sl 1 (rX (cL (cI .i64) 1) x459000), .sl 1 (rX (cI .i64) x459001)])]⟩
structure spec_WhatIsWrong.C (k : Nat) : Prop where
 s_l0 : ∀ (r : Int) (w : World) (ro : Nat → Prop) (B : Nat) (_ : Fr TE (cx0 Tryz.f144 none w ro B)) (x3 : Int) (x9 : List (List Int)) (x10 : Int) (x11 : Int) (x459000 : List (List Int)) (x459001 : List Int) (_ : spec_WhatIsWrong.l0 k x3 x9 x10 x11 x459000 x459001 = some r), Kp (WS TE (cx0 Tryz.f144 none w ro B) (stkAt [1, 1, 0, 1, 0] [] (bodyOf Tryz.f144) []) ⟨[(1, .pt 1001 0 0), (3, .v (.int .i64 x3)), (9, .sl 1 (rX (cL (cI .i64) 1) x9)), (10, .v (.int .i64 x10)), (11, .v (.int .i64 x11))], [(1001, .box 0 29 false [.sl 1 (rX (cL (cI .i64) 1) x459000), .sl 1 (rX (cI .i64) x459001)])]⟩ (RetQ TE Tryz.f144 none [.ro (.v (.int .i64 r))] [] w ro B))
 s_l1 : ∀ (r : Int) (w : World) (ro : Nat → Prop) (B : Nat) (_ : Fr TE (cx0 Tryz.f144 none w ro B)) (x42 : List Int) (x43 : Int) (x44 : Int) (x459000 : List (List Int)) (x459001 : List Int) (_ : spec_WhatIsWrong.l1 k x42 x43 x44 x459000 x459001 = some r), Kp (WS TE (cx0 Tryz.f144 none w ro B) (stkAt [1, 1, 1, 1, 0, 1, 0] [] (bodyOf Tryz.f144) []) ⟨[(1, .pt 1001 0 0), (42, .sl 1 (rX (cI .i64) x42)), (43, .v (.int .i64 x43)), (44, .v (.int .i64 x44))], [(1001, .box 0 29 false [.sl 1 (rX (cL (cI .i64) 1) x459000), .sl 1 (rX (cI .i64) x459001)])]⟩ (RetQ TE Tryz.f144 none [.ro (.v (.int .i64 r))] [] w ro B))
set_option maxRecDepth 100000 in
set_option maxHeartbeats 4000000 in
theorem spec_WhatIsWrong.c_l0 (k : Nat) (ih : Kp (∀ m, m < k → spec_WhatIsWrong.C m)) (r : Int) (w : World) (ro : Nat → Prop) (B : Nat) (hF : Fr TE (cx0 Tryz.f144 none w ro B)) (x3 : Int) (x9 : List (List Int)) (x10 : Int) (x11 : Int) (x459000 : List (List Int)) (x459001 : List Int) (h : spec_WhatIsWrong.l0 k x3 x9 x10 x11 x459000 x459001 = some r) : Kp (WS TE (cx0 Tryz.f144 none w ro B) (stkAt [1, 1, 0, 1, 0] [] (bodyOf Tryz.f144) []) ⟨[(1, .pt 1001 0 0), (3, .v (.int .i64 x3)), (9, .sl 1 (rX (cL (cI .i64) 1) x9)), (10, .v (.int .i64 x10)), (11, .v (.int .i64 x11))], [(1001, .box 0 29 false [.sl 1 (rX (cL (cI .i64) 1) x459000), .sl 1 (rX (cI .i64) x459001)])]⟩ (RetQ TE Tryz.f144 none [.ro (.v (.int .i64 r))] [] w ro B)) := by
 refine ⟨WS.loop (fun m σ => m ≤ k ∧ spec_WhatIsWrong.I0 r m σ) k ⟨Nat.le_refl k, x3, x9, x10, x11, x459000, x459001, h, rfl⟩ (fun m σ' hI J0 hJ0 => ?_)⟩
 clear h
 obtain ⟨hk, x3, x9, x10, x11, x459000, x459001, h, rfl⟩ := hI
 cases m with
 | zero => simp [spec_WhatIsWrong.l0] at h
 | succ k' =>
 simp only [spec_WhatIsWrong.l0] at h
 by_cases c1 : x11 < x10
 · rw [if_pos c1] at h
   by_cases c2 : 0 ≤ x11
   · rw [if_pos c2] at h
     by_cases c3 : x11 < (x9.length : Int)
     · rw [if_pos c3] at h
       by_cases c4 : ((rd_L1 x9 x11).length : Int) = x3
       · rw [if_pos c4] at h
         obtain ⟨t460, q5, h⟩ := Option.bind_eq_some_iff.1 h
         have q5c := spec_l2Sum.ctr k' _ _ q5
         by_cases c6 : t460 < 0
         · rw [if_pos c6] at h
           refine path_ok (k := 16) hF (RetQ_mild _ _ _ _ _ _ _ _) (ds := [.b true, .e 14 (.rf [.sl 1 (rX (cI .i64) (rd_L1 x9 x11))]), .e 17 (.v (.int .i64 ((rd_L1 x9 x11).length : Int))), .b false, .b false, .r [.ro (.v (.int .i64 t460))] [], .b false, .b false, .b true, .b true, .b true, .b true]) (os := []) (c := none) rfl KD ?_
           cases h
           exact ret_as (ms := [.ro]) rfl KD
         · rw [if_neg c6] at h
           by_cases c7 : x11 ≥ 3
           · rw [if_pos c7] at h
             refine path_ok (k := 16) hF (RetQ_mild _ _ _ _ _ _ _ _) (ds := [.b true, .e 14 (.rf [.sl 1 (rX (cI .i64) (rd_L1 x9 x11))]), .e 17 (.v (.int .i64 ((rd_L1 x9 x11).length : Int))), .b false, .b false, .r [.ro (.v (.int .i64 t460))] [], .b false, .b false, .b false, .b false, .b false, .b true]) (os := []) (c := none) rfl KD ?_
             cases h
             exact ret_as (ms := [.ro]) rfl KD
           · rw [if_neg c7] at h
             obtain ⟨t461, q8, h⟩ := Option.bind_eq_some_iff.1 h
             have q8c := spec_l2Sum.ctr k' _ _ q8
             refine path_ok (k := 17) hF (RetQ_mild _ _ _ _ _ _ _ _) (ds := [.b true, .e 14 (.rf [.sl 1 (rX (cI .i64) (rd_L1 x9 x11))]), .e 17 (.v (.int .i64 ((rd_L1 x9 x11).length : Int))), .b false, .b false, .r [.ro (.v (.int .i64 t460))] [], .b false, .b false, .b false, .b false, .b false, .b false, .r [.ro (.v (.int .i64 t461))] []]) (os := []) (c := none) rfl KD ?_
             exact WS.lpc [(1001, some 1001)] (hJ0 _ _ (Nat.lt_succ_self _) ⟨by omega, t461, x9, x10, (wrap64 (x11 + 1)), x459000, x459001, h, rfl⟩) KD
       · rw [if_neg c4] at h
         refine path_ok (k := 16) hF (RetQ_mild _ _ _ _ _ _ _ _) (ds := [.b true, .e 14 (.rf [.sl 1 (rX (cI .i64) (rd_L1 x9 x11))]), .e 17 (.v (.int .i64 ((rd_L1 x9 x11).length : Int))), .b true, .b true, .b true, .b true, .b true, .b true, .b true, .b true]) (os := []) (c := none) rfl KD ?_
         cases h
         exact ret_as (ms := [.ro]) rfl KD
     · rw [if_neg c3] at h
       cases h
   · rw [if_neg c2] at h
     cases h
 · rw [if_neg c1] at h
   by_cases c9 : (x459001.length : Int) = x3
   · rw [if_pos c9] at h
     refine path_ok (k := 14) hF (RetQ_mild _ _ _ _ _ _ _ _) (ds := [.b false, .e 35 (.v (.int .i64 (x459001.length : Int))), .b false, .e 43 (.v (.int .i64 (x459001.length : Int)))]) (os := []) (c := none) rfl KD ?_
     exact WS.can [(1001, some 1001)] (((ih.out k' (by omega)).s_l1  r w ro B hF x459001 (x459001.length : Int) 0 x459000 x459001 h).out) KD
   · rw [if_neg c9] at h
     refine path_ok (k := 12) hF (RetQ_mild _ _ _ _ _ _ _ _) (ds := [.b false, .e 35 (.v (.int .i64 (x459001.length : Int))), .b true, .e 40 (.v (.int .i64 (x459000.length : Int)))]) (os := []) (c := none) rfl KD ?_
     cases h
     exact ret_as (ms := [.ro]) rfl KD
set_option maxRecDepth 100000 in
set_option maxHeartbeats 4000000 in
theorem spec_WhatIsWrong.c_l1 (k : Nat) (ih : Kp (∀ m, m < k → spec_WhatIsWrong.C m)) (r : Int) (w : World) (ro : Nat → Prop) (B : Nat) (hF : Fr TE (cx0 Tryz.f144 none w ro B)) (x42 : List Int) (x43 : Int) (x44 : Int) (x459000 : List (List Int)) (x459001 : List Int) (h : spec_WhatIsWrong.l1 k x42 x43 x44 x459000 x459001 = some r) : Kp (WS TE (cx0 Tryz.f144 none w ro B) (stkAt [1, 1, 1, 1, 0, 1, 0] [] (bodyOf Tryz.f144) []) ⟨[(1, .pt 1001 0 0), (42, .sl 1 (rX (cI .i64) x42)), (43, .v (.int .i64 x43)), (44, .v (.int .i64 x44))], [(1001, .box 0 29 false [.sl 1 (rX (cL (cI .i64) 1) x459000), .sl 1 (rX (cI .i64) x459001)])]⟩ (RetQ TE Tryz.f144 none [.ro (.v (.int .i64 r))] [] w ro B)) := by
 refine ⟨WS.loop (fun m σ => m ≤ k ∧ spec_WhatIsWrong.I1 r m σ) k ⟨Nat.le_refl k, x42, x43, x44, x459000, x459001, h, rfl⟩ (fun m σ' hI J1 hJ1 => ?_)⟩
 clear h
 obtain ⟨hk, x42, x43, x44, x459000, x459001, h, rfl⟩ := hI
 cases m with
 | zero => simp [spec_WhatIsWrong.l1] at h
 | succ k' =>
 simp only [spec_WhatIsWrong.l1] at h
 by_cases c10 : x44 < x43
 · rw [if_pos c10] at h
   by_cases c11 : 0 ≤ x44
   · rw [if_pos c11] at h
     by_cases c12 : x44 < (x42.length : Int)
     · rw [if_pos c12] at h
       obtain ⟨t463, q13, h⟩ := Option.bind_eq_some_iff.1 h
       have q13c := spec_l1In.ctr _ _ _ _ q13
       by_cases c14 : t463 = true
       · rw [if_pos c14] at h
         refine path_ok (k := 15) hF (RetQ_mild _ _ _ _ _ _ _ _) (ds := [.b true, .e 46 (.rf [.v (.int .i64 (rd x42 x44))]), .r [.ro (.v (.bool t463))] [], .b false]) (os := []) (c := none) rfl KD ?_
         exact WS.lpc [(1001, some 1001)] (hJ1 _ _ (Nat.lt_succ_self _) ⟨by omega, x42, x43, (wrap64 (x44 + 1)), x459000, x459001, h, rfl⟩) KD
       · rw [if_neg c14] at h
         refine path_ok (k := 15) hF (RetQ_mild _ _ _ _ _ _ _ _) (ds := [.b true, .e 46 (.rf [.v (.int .i64 (rd x42 x44))]), .r [.ro (.v (.bool t463))] [], .b true, .e 53 (.v (.int .i64 (x459000.length : Int)))]) (os := []) (c := none) rfl KD ?_
         cases h
         exact ret_as (ms := [.ro]) rfl KD
     · rw [if_neg c12] at h
       cases h
   · rw [if_neg c11] at h
     cases h
 · rw [if_neg c10] at h
   refine path_ok (k := 8) hF (RetQ_mild _ _ _ _ _ _ _ _) (ds := [.b false]) (os := []) (c := none) rfl KD ?_
   cases h
   exact ret_as (ms := [.ro]) rfl KD
theorem spec_WhatIsWrong.cs (k : Nat) : spec_WhatIsWrong.C k := by
 induction k using Nat.strongRecOn with
 | _ k ih0 =>
 have ih : Kp (∀ m, m < k → spec_WhatIsWrong.C m) := ⟨ih0⟩
 exact ⟨spec_WhatIsWrong.c_l0 k ih, spec_WhatIsWrong.c_l1 k ih⟩
set_option maxRecDepth 100000 in
set_option maxHeartbeats 4000000 in
theorem spec_WhatIsWrong.ctr (k : Nat) (l0_0 : List (List Int)) (l0_1 : List Int) (r : Int) (h : spec_WhatIsWrong.f k l0_0 l0_1 = some r) : Ctr TE 144 none [.ag [.sl 1 (rX (cL (cI .i64) 1) l0_0), .sl 1 (rX (cI .i64) l0_1)]] [.ro (.v (.int .i64 r))] [] := by
 refine ctr_of (fn := Tryz.f144) (c := (bodyOf Tryz.f144)) Tryz.func144 rfl (by kernel_rfl) (Nat.le_of_ble_eq_true (by kernel_rfl)) (fun w ro B hF _ => ?_)
 have ih : Kp (∀ m, m < k + 1 → spec_WhatIsWrong.C m) := ⟨fun m _ => spec_WhatIsWrong.cs m⟩
 simp only [spec_WhatIsWrong.f] at h
 refine path_ok (k := 8) hF (RetQ_mild _ _ _ _ _ _ _ _) (ds := [.e 10 (.v (.int .i64 (l0_0.length : Int)))]) (os := []) (c := none) rfl KD ?_
 exact WS.can [(1001, some 1)] (((ih.out k (by omega)).s_l0  r w ro B hF 1 l0_0 (l0_0.length : Int) 0 l0_0 l0_1 h).out) KD
def spec_LayoutValid.f (k : Nat) (l0_0 : List (List Int)) (l0_1 : List Int) : Option (Bool) := (spec_WhatIsWrong.f k l0_0 l0_1).bind fun t465 => (some (decide (t465 < 0)))
set_option maxRecDepth 100000 in
set_option maxHeartbeats 4000000 in
theorem spec_LayoutValid.ctr (k : Nat) (l0_0 : List (List Int)) (l0_1 : List Int) (r : Bool) (h : spec_LayoutValid.f k l0_0 l0_1 = some r) : Ctr TE 118 none [.ag [.sl 1 (rX (cL (cI .i64) 1) l0_0), .sl 1 (rX (cI .i64) l0_1)]] [.ro (.v (.bool r))] [] := by
 refine ctr_of (fn := Tryz.f118) (c := (bodyOf Tryz.f118)) Tryz.func118 rfl (by kernel_rfl) (Nat.le_of_ble_eq_true (by kernel_rfl)) (fun w ro B hF _ => ?_)
 simp only [spec_LayoutValid.f] at h
 obtain ⟨t465, q1, h⟩ := Option.bind_eq_some_iff.1 h
 have q1c := spec_WhatIsWrong.ctr k _ _ _ q1
 refine path_ok (k := 5) hF (RetQ_mild _ _ _ _ _ _ _ _) (ds := [.r [.ro (.v (.int .i64 t465))] []]) (os := []) (c := none) rfl KD ?_
 cases h
 exact ret_as (ms := [.ro]) rfl KD
def spec_l2RawParseLayout.l0 : Nat → ByteArray → List ByteArray → List ByteArray → Int → Int → List (List Int) → List Int → Option ((List (List Int)) × List Int × Bool)
  | 0, _, _, _, _, _, _, _ => none
  | k + 1, x0, x4, x15, x16, x17, x477000, x477001 => if x17 < x16 then (if 0 ≤ x17 then (if x17 < (x15.length : Int) then ((spec_l2Read.f k (rdOf ByteArray.empty x15 x17)).bind fun bt478 => (if bt478.2 = true then (if x17 = (wrap64 ((x4.length : Int) - 1)) then (spec_l2RawParseLayout.l0 k x0 x4 x15 x16 (wrap64 (x17 + 1)) x477000 bt478.1) else (if x477000.length < 5864062014805 then (spec_l2RawParseLayout.l0 k x0 x4 x15 x16 (wrap64 (x17 + 1)) (x477000 ++ [bt478.1]) x477001) else (none))) else (some (([] : List (List Int)), ([] : List Int), false)))) else (none)) else (none)) else ((spec_LayoutValid.f k x477000 x477001).bind fun t485 => (if t485 = true then ((spec_FormatLayout.f k x477000 x477001).bind fun t486 => (if t486.toList = x0.toList then (some (x477000, x477001, true)) else (some (([] : List (List Int)), ([] : List Int), false)))) else (some (([] : List (List Int)), ([] : List Int), false))))
def spec_l2RawParseLayout.f (k : Nat) (a0 : ByteArray) : Option ((List (List Int)) × List Int × Bool) := (spec_l13Cut.f k a0 124).bind fun t467 => (spec_l2RawParseLayout.l0 k a0 t467 t467 (t467.length : Int) 0 (([] : List (List Int))) (([] : List Int)))
def spec_l2RawParseLayout.I0 (r1 : List (List Int)) (r2 : List Int) (r3 : Bool) (m : Nat) (σ : St) : Prop := ∃ (x0 : ByteArray) (x4 : List ByteArray) (x15 : List ByteArray) (x16 : Int) (x17 : Int) (x477000 : List (List Int)) (x477001 : List Int), spec_l2RawParseLayout.l0 m x0 x4 x15 x16 x17 x477000 x477001 = some (r1, r2, r3) ∧ σ = ⟨[(0, .v (.string x0)), (2, .pt 1002 0 0), (4, .sl 1 (rX cS x4)), (5, .pt 1005 0 0), (15, .sl 1 (rX cS x15)), (16, .v (.int .i64 x16)), (17, .v (.int .i64 x17))], [(1002, .box 0 29 false [.v (.slice none 0 0), .v (.slice none 0 0)]), (3320, .own 0 27 1 (rX (cL (cI .i64) 1) x477000)), (3321, .own 0 3 1 (rX (cI .i64) x477001)), (1005, .box 0 29 false [.ow 3320 0, .ow 3321 0])]⟩
structure spec_l2RawParseLayout.C (k : Nat) : Prop where
 s_l0 : ∀ (r1 : List (List Int)) (r2 : List Int) (r3 : Bool) (w : World) (ro : Nat → Prop) (B : Nat) (_ : Fr TE (cx0 Tryz.f83 none w ro B)) (x0 : ByteArray) (x4 : List ByteArray) (x15 : List ByteArray) (x16 : Int) (x17 : Int) (x477000 : List (List Int)) (x477001 : List Int) (_ : spec_l2RawParseLayout.l0 k x0 x4 x15 x16 x17 x477000 x477001 = some (r1, r2, r3)), Kp (WS TE (cx0 Tryz.f83 none w ro B) (stkAt [1, 1, 1, 0, 1, 0] [] (bodyOf Tryz.f83) []) ⟨[(0, .v (.string x0)), (2, .pt 1002 0 0), (4, .sl 1 (rX cS x4)), (5, .pt 1005 0 0), (15, .sl 1 (rX cS x15)), (16, .v (.int .i64 x16)), (17, .v (.int .i64 x17))], [(1002, .box 0 29 false [.v (.slice none 0 0), .v (.slice none 0 0)]), (3320, .own 0 27 1 (rX (cL (cI .i64) 1) x477000)), (3321, .own 0 3 1 (rX (cI .i64) x477001)), (1005, .box 0 29 false [.ow 3320 0, .ow 3321 0])]⟩ (RetQ TE Tryz.f83 none [.ro (.ag [.sl 1 (rX (cL (cI .i64) 1) r1), .sl 1 (rX (cI .i64) r2)]), .ro (.v (.bool r3))] [] w ro B))
set_option maxRecDepth 100000 in
set_option maxHeartbeats 4000000 in
theorem spec_l2RawParseLayout.c_l0 (k : Nat) (ih : Kp (∀ m, m < k → spec_l2RawParseLayout.C m)) (r1 : List (List Int)) (r2 : List Int) (r3 : Bool) (w : World) (ro : Nat → Prop) (B : Nat) (hF : Fr TE (cx0 Tryz.f83 none w ro B)) (x0 : ByteArray) (x4 : List ByteArray) (x15 : List ByteArray) (x16 : Int) (x17 : Int) (x477000 : List (List Int)) (x477001 : List Int) (h : spec_l2RawParseLayout.l0 k x0 x4 x15 x16 x17 x477000 x477001 = some (r1, r2, r3)) : Kp (WS TE (cx0 Tryz.f83 none w ro B) (stkAt [1, 1, 1, 0, 1, 0] [] (bodyOf Tryz.f83) []) ⟨[(0, .v (.string x0)), (2, .pt 1002 0 0), (4, .sl 1 (rX cS x4)), (5, .pt 1005 0 0), (15, .sl 1 (rX cS x15)), (16, .v (.int .i64 x16)), (17, .v (.int .i64 x17))], [(1002, .box 0 29 false [.v (.slice none 0 0), .v (.slice none 0 0)]), (3320, .own 0 27 1 (rX (cL (cI .i64) 1) x477000)), (3321, .own 0 3 1 (rX (cI .i64) x477001)), (1005, .box 0 29 false [.ow 3320 0, .ow 3321 0])]⟩ (RetQ TE Tryz.f83 none [.ro (.ag [.sl 1 (rX (cL (cI .i64) 1) r1), .sl 1 (rX (cI .i64) r2)]), .ro (.v (.bool r3))] [] w ro B)) := by
 refine ⟨WS.loop (fun m σ => m ≤ k ∧ spec_l2RawParseLayout.I0 r1 r2 r3 m σ) k ⟨Nat.le_refl k, x0, x4, x15, x16, x17, x477000, x477001, h, rfl⟩ (fun m σ' hI J0 hJ0 => ?_)⟩
 clear h
 obtain ⟨hk, x0, x4, x15, x16, x17, x477000, x477001, h, rfl⟩ := hI
 cases m with
 | zero => simp [spec_l2RawParseLayout.l0] at h
 | succ k' =>
 simp only [spec_l2RawParseLayout.l0] at h
 by_cases c2 : x17 < x16
 · rw [if_pos c2] at h
   by_cases c3 : 0 ≤ x17
   · rw [if_pos c3] at h
     by_cases c4 : x17 < (x15.length : Int)
     · rw [if_pos c4] at h
       obtain ⟨⟨t478, t479⟩, q5, h⟩ := Option.bind_eq_some_iff.1 h
       dsimp only at h
       have q5c := spec_l2Read.ctr k' _ _ _ q5
       by_cases c6 : t479 = true
       · rw [if_pos c6] at h
         by_cases c7 : x17 = (wrap64 ((x4.length : Int) - 1))
         · rw [if_pos c7] at h
           refine path_ok (k := 22) hF (RetQ_mild _ _ _ _ _ _ _ _) (ds := [.b true, .e 20 (.rf [.v (.string (rdOf ByteArray.empty x15 x17))]), .r [.own 3 1 (rX (cI .i64) t478), .ro (.v (.bool t479))] [], .b false, .e 32 (.v (.int .i64 (x4.length : Int))), .b true]) (os := []) (c := none) rfl KD ?_
           exact WS.lpc [(1002, some 1002), (1005, some 1005), (3320, some 3320), (3321, some 100384)] (hJ0 _ _ (Nat.lt_succ_self _) ⟨by omega, x0, x4, x15, x16, (wrap64 (x17 + 1)), x477000, t478, h, rfl⟩) KD
         · rw [if_neg c7] at h
           by_cases c8 : x477000.length < 5864062014805
           · rw [if_pos c8] at h
             refine path_ok (k := 22) hF (RetQ_mild _ _ _ _ _ _ _ _) (ds := [.b true, .e 20 (.rf [.v (.string (rdOf ByteArray.empty x15 x17))]), .r [.own 3 1 (rX (cI .i64) t478), .ro (.v (.bool t479))] [], .b false, .e 32 (.v (.int .i64 (x4.length : Int))), .b false, .p 40 ([[.sl 1 (rX (cI .i64) t478)]]), .o 41 (rX (cL (cI .i64) 1) (x477000 ++ [t478]))]) (os := []) (c := none) rfl KD ?_
             exact WS.lpc [(1002, some 1002), (1005, some 1005), (3320, some 3320), (3321, some 3321)] (hJ0 _ _ (Nat.lt_succ_self _) ⟨by omega, x0, x4, x15, x16, (wrap64 (x17 + 1)), (x477000 ++ [t478]), x477001, h, rfl⟩) KD
           · rw [if_neg c8] at h
             cases h
       · rw [if_neg c6] at h
         refine path_ok (k := 18) hF (RetQ_mild _ _ _ _ _ _ _ _) (ds := [.b true, .e 20 (.rf [.v (.string (rdOf ByteArray.empty x15 x17))]), .r [.own 3 1 (rX (cI .i64) t478), .ro (.v (.bool t479))] [], .b true]) (os := []) (c := none) rfl KD ?_
         cases h
         exact ret_as (ms := [.ro, .ro]) rfl KD
     · rw [if_neg c4] at h
       cases h
   · rw [if_neg c3] at h
     cases h
 · rw [if_neg c2] at h
   obtain ⟨t485, q9, h⟩ := Option.bind_eq_some_iff.1 h
   have q9c := spec_LayoutValid.ctr k' _ _ _ q9
   by_cases c10 : t485 = true
   · rw [if_pos c10] at h
     obtain ⟨t486, q11, h⟩ := Option.bind_eq_some_iff.1 h
     have q11c := spec_FormatLayout.ctr k' _ _ _ q11
     by_cases c12 : t486.toList = x0.toList
     · rw [if_pos c12] at h
       refine path_ok (k := 13) hF (RetQ_mild _ _ _ _ _ _ _ _) (ds := [.b false, .r [.ro (.v (.bool t485))] [], .b false, .b false, .r [.ro (.v (.string t486))] [], .b false, .b false, .b false, .b false]) (os := []) (c := none) rfl KD ?_
       cases h
       exact ret_as (ms := [.ro, .ro]) rfl KD
     · rw [if_neg c12] at h
       refine path_ok (k := 12) hF (RetQ_mild _ _ _ _ _ _ _ _) (ds := [.b false, .r [.ro (.v (.bool t485))] [], .b false, .b false, .r [.ro (.v (.string t486))] [], .b false, .b false, .b false, .b true]) (os := []) (c := none) rfl KD ?_
       cases h
       exact ret_as (ms := [.ro, .ro]) rfl KD
   · rw [if_neg c10] at h
     refine path_ok (k := 12) hF (RetQ_mild _ _ _ _ _ _ _ _) (ds := [.b false, .r [.ro (.v (.bool t485))] [], .b true, .b true, .b true, .b true, .b true, .b true]) (os := []) (c := none) rfl KD ?_
     cases h
     exact ret_as (ms := [.ro, .ro]) rfl KD
theorem spec_l2RawParseLayout.cs (k : Nat) : spec_l2RawParseLayout.C k := by
 induction k using Nat.strongRecOn with
 | _ k ih0 =>
 have ih : Kp (∀ m, m < k → spec_l2RawParseLayout.C m) := ⟨ih0⟩
 exact ⟨spec_l2RawParseLayout.c_l0 k ih⟩
set_option maxRecDepth 100000 in
set_option maxHeartbeats 4000000 in
theorem spec_l2RawParseLayout.ctr (k : Nat) (a0 : ByteArray) (r1 : List (List Int)) (r2 : List Int) (r3 : Bool) (h : spec_l2RawParseLayout.f k a0 = some (r1, r2, r3)) : Ctr TE 83 none [.v (.string a0)] [.ro (.ag [.sl 1 (rX (cL (cI .i64) 1) r1), .sl 1 (rX (cI .i64) r2)]), .ro (.v (.bool r3))] [] := by
 refine ctr_of (fn := Tryz.f83) (c := (bodyOf Tryz.f83)) Tryz.func83 rfl (by kernel_rfl) (Nat.le_of_ble_eq_true (by kernel_rfl)) (fun w ro B hF _ => ?_)
 have ih : Kp (∀ m, m < k + 1 → spec_l2RawParseLayout.C m) := ⟨fun m _ => spec_l2RawParseLayout.cs m⟩
 simp only [spec_l2RawParseLayout.f] at h
 obtain ⟨t467, q1, h⟩ := Option.bind_eq_some_iff.1 h
 have q1c := spec_l13Cut.ctr k _ _ _ q1
 refine path_ok (k := 10) hF (RetQ_mild _ _ _ _ _ _ _ _) (ds := [.r [.own 9 1 (rX cS t467)] [], .p 12 ([]), .p 13 ([]), .e 16 (.v (.int .i64 (t467.length : Int)))]) (os := []) (c := none) rfl KD ?_
 refine WS.freeze 100176 ?_ rfl
 exact WS.can [(1002, some 2), (1005, some 5), (3320, some 12), (3321, some 13)] (((ih.out k (by omega)).s_l0  r1 r2 r3 w ro B hF a0 t467 t467 (t467.length : Int) 0 (([] : List (List Int))) (([] : List Int)) h).out) KD
def spec_ParseLayout.f (k : Nat) (a0 : ByteArray) : Option ((List (List Int)) × List Int × Bool) := (spec_l2RawParseLayout.f k a0).bind fun bt488 => ((spec_l13OwnLayout.f k bt488.1 bt488.2.1).bind fun bt496 => (some (bt496.1, bt496.2, bt488.2.2)))
set_option maxRecDepth 100000 in
set_option maxHeartbeats 4000000 in
theorem spec_ParseLayout.ctr (k : Nat) (a0 : ByteArray) (r1 : List (List Int)) (r2 : List Int) (r3 : Bool) (h : spec_ParseLayout.f k a0 = some (r1, r2, r3)) : Ctr TE 36 none [.v (.string a0)] [.ro (.ag [.sl 1 (rX (cL (cI .i64) 1) r1), .sl 1 (rX (cI .i64) r2)]), .ro (.v (.bool r3))] [] := by
 refine ctr_of (fn := Tryz.f36) (c := (bodyOf Tryz.f36)) Tryz.func36 rfl (by kernel_rfl) (Nat.le_of_ble_eq_true (by kernel_rfl)) (fun w ro B hF _ => ?_)
 simp only [spec_ParseLayout.f] at h
 obtain ⟨⟨t488, t491, t494⟩, q1, h⟩ := Option.bind_eq_some_iff.1 h
 dsimp only at h
 have q1c := spec_l2RawParseLayout.ctr k _ _ _ _ q1
 obtain ⟨⟨t496, t499⟩, q2, h⟩ := Option.bind_eq_some_iff.1 h
 dsimp only at h
 have q2c := spec_l13OwnLayout.ctr k _ _ _ _ q2
 refine path_ok (k := 7) hF (RetQ_mild _ _ _ _ _ _ _ _) (ds := [.r [.ro (.ag [.sl 1 (rX (cL (cI .i64) 1) t488), .sl 1 (rX (cI .i64) t491)]), .ro (.v (.bool t494))] [], .r [.ro (.ag [.sl 1 (rX (cL (cI .i64) 1) t496), .sl 1 (rX (cI .i64) t499)])] []]) (os := []) (c := none) rfl KD ?_
 cases h
 exact ret_as (ms := [.ro, .ro]) rfl KD
mutual
def laws_FnLayoutText.j0 : Nat → List Int → List Int → Bool → Option (Bool)
  | 0, _, _, _ => none
  | k + 1, x0, x1, x21 => if x21 = true then (some true) else ((spec_DrawFormatLayout.f k x0).bind fun bt502 => ((impl_FormatLayout.f k bt502.1 bt502.2).bind fun t509 => ((impl_ParseLayout.f k t509).bind fun bt510 => ((spec_FormatLayout.f k bt502.1 bt502.2).bind fun t518 => (if t509.toList = t518.toList then ((impl_LayoutValid.f k bt502.1 bt502.2).bind fun t519 => (if (bt510.2.2 != t519) = true then (laws_FnLayoutText.j1 k x1 true) else (if bt510.2.2 = true then ((laws_faLayout.f k bt510.1 bt510.2.1 bt502.1 bt502.2).bind fun t520 => (laws_FnLayoutText.j1 k x1 (!t520))) else (laws_FnLayoutText.j1 k x1 false)))) else (laws_FnLayoutText.j1 k x1 true))))))
def laws_FnLayoutText.j1 : Nat → List Int → Bool → Option (Bool)
  | 0, _, _ => none
  | k + 1, x1, x49 => if x49 = true then (some false) else ((spec_DrawParseLayout.f k x1).bind fun t521 => ((impl_ParseLayout.f k t521).bind fun bt522 => ((spec_ParseLayout.f k t521).bind fun bt530 => ((laws_faLayout.f k bt522.1 bt522.2.1 bt530.1 bt530.2.1).bind fun t538 => (if t538 = true then (if (bt522.2.2 == bt530.2.2) = true then (if bt522.2.2 = true then ((impl_FormatLayout.f k bt522.1 bt522.2.1).bind fun t539 => (if t539.toList = t521.toList then ((impl_LayoutValid.f k bt522.1 bt522.2.1).bind fun t540 => (some t540)) else (some false))) else (some true)) else (some false)) else (some false))))))
end
def laws_FnLayoutText.f (k : Nat) (l0 : List Int) (l1 : List Int) : Option (Bool) := if (l0.length : Int) > 1048576 then (laws_FnLayoutText.j0 k l0 l1 true) else (laws_FnLayoutText.j0 k l0 l1 (decide ((l1.length : Int) > 1048576)))
structure laws_FnLayoutText.C (k : Nat) : Prop where
 s_j0 : ∀ (r : Bool) (w : World) (ro : Nat → Prop) (B : Nat) (_ : Fr TE (cx0 Tryz.f5 none w ro B)) (x0 : List Int) (x1 : List Int) (x21 : Bool) (_ : laws_FnLayoutText.j0 k x0 x1 x21 = some r), Kp (WS TE (cx0 Tryz.f5 none w ro B) (stkAt [1, 0, 0, 9] [] (bodyOf Tryz.f5) []) ⟨[(0, .sl 1 (rX (cI .u8) x0)), (1, .sl 1 (rX (cI .u8) x1)), (21, .v (.bool x21))], []⟩ (RetQ TE Tryz.f5 none [.ro (.v (.bool r))] [] w ro B))
 s_j1 : ∀ (r : Bool) (w : World) (ro : Nat → Prop) (B : Nat) (_ : Fr TE (cx0 Tryz.f5 none w ro B)) (x1 : List Int) (x49 : Bool) (_ : laws_FnLayoutText.j1 k x1 x49 = some r), Kp (WS TE (cx0 Tryz.f5 none w ro B) (stkAt [1, 1, 1, 1, 1, 0, 0, 9] [] (bodyOf Tryz.f5) []) ⟨[(1, .sl 1 (rX (cI .u8) x1)), (49, .v (.bool x49))], []⟩ (RetQ TE Tryz.f5 none [.ro (.v (.bool r))] [] w ro B))
set_option maxRecDepth 100000 in
set_option maxHeartbeats 4000000 in
theorem laws_FnLayoutText.c_j0 (k : Nat) (ih : Kp (∀ m, m < k → laws_FnLayoutText.C m)) (r : Bool) (w : World) (ro : Nat → Prop) (B : Nat) (hF : Fr TE (cx0 Tryz.f5 none w ro B)) (x0 : List Int) (x1 : List Int) (x21 : Bool) (h : laws_FnLayoutText.j0 k x0 x1 x21 = some r) : Kp (WS TE (cx0 Tryz.f5 none w ro B) (stkAt [1, 0, 0, 9] [] (bodyOf Tryz.f5) []) ⟨[(0, .sl 1 (rX (cI .u8) x0)), (1, .sl 1 (rX (cI .u8) x1)), (21, .v (.bool x21))], []⟩ (RetQ TE Tryz.f5 none [.ro (.v (.bool r))] [] w ro B)) := by
 refine ⟨?_⟩
 cases k with
 | zero => simp [laws_FnLayoutText.j0] at h
 | succ k =>
 simp only [laws_FnLayoutText.j0] at h
 by_cases c2 : x21 = true
 · rw [if_pos c2] at h
   refine path_ok (k := 4) hF (RetQ_mild _ _ _ _ _ _ _ _) (ds := [.b true]) (os := []) (c := none) rfl KD ?_
   cases h
   exact ret_as (ms := [.ro]) rfl KD
 · rw [if_neg c2] at h
   obtain ⟨⟨t502, t505⟩, q3, h⟩ := Option.bind_eq_some_iff.1 h
   dsimp only at h
   have q3c := spec_DrawFormatLayout.ctr k _ _ _ q3
   obtain ⟨t509, q4, h⟩ := Option.bind_eq_some_iff.1 h
   have q4c := impl_FormatLayout.ctr k _ _ _ q4
   obtain ⟨⟨t510, t513, t516⟩, q5, h⟩ := Option.bind_eq_some_iff.1 h
   dsimp only at h
   have q5c := impl_ParseLayout.ctr k _ _ _ _ q5
   obtain ⟨t518, q6, h⟩ := Option.bind_eq_some_iff.1 h
   have q6c := spec_FormatLayout.ctr k _ _ _ q6
   by_cases c7 : t509.toList = t518.toList
   · rw [if_pos c7] at h
     obtain ⟨t519, q8, h⟩ := Option.bind_eq_some_iff.1 h
     have q8c := impl_LayoutValid.ctr k _ _ _ q8
     by_cases c9 : (t516 != t519) = true
     · rw [if_pos c9] at h
       refine path_ok (k := 11) hF (RetQ_mild _ _ _ _ _ _ _ _) (ds := [.b false, .r [.ro (.ag [.sl 1 (rX (cL (cI .i64) 1) t502), .sl 1 (rX (cI .i64) t505)])] [], .r [.ro (.v (.string t509))] [], .r [.ro (.ag [.sl 1 (rX (cL (cI .i64) 1) t510), .sl 1 (rX (cI .i64) t513)]), .ro (.v (.bool t516))] [], .r [.ro (.v (.string t518))] [], .b false, .b false, .b false, .r [.ro (.v (.bool t519))] [], .b false, .b false, .b true, .b true, .b true, .b true]) (os := []) (c := none) rfl KD ?_
       exact WS.can [] (((ih.out k (by omega)).s_j1  r w ro B hF x1 true h).out) KD
     · rw [if_neg c9] at h
       by_cases c10 : t516 = true
       · rw [if_pos c10] at h
         obtain ⟨t520, q11, h⟩ := Option.bind_eq_some_iff.1 h
         have q11c := laws_faLayout.ctr k _ _ _ _ _ q11
         refine path_ok (k := 11) hF (RetQ_mild _ _ _ _ _ _ _ _) (ds := [.b false, .r [.ro (.ag [.sl 1 (rX (cL (cI .i64) 1) t502), .sl 1 (rX (cI .i64) t505)])] [], .r [.ro (.v (.string t509))] [], .r [.ro (.ag [.sl 1 (rX (cL (cI .i64) 1) t510), .sl 1 (rX (cI .i64) t513)]), .ro (.v (.bool t516))] [], .r [.ro (.v (.string t518))] [], .b false, .b false, .b false, .r [.ro (.v (.bool t519))] [], .b false, .b false, .b false, .b false, .b true, .b true, .b true, .r [.ro (.v (.bool t520))] [], .b true, .b false, .b true, .b false]) (os := []) (c := none) rfl KD ?_
         exact WS.can [] (((ih.out k (by omega)).s_j1  r w ro B hF x1 (!t520) h).out) KD
       · rw [if_neg c10] at h
         refine path_ok (k := 11) hF (RetQ_mild _ _ _ _ _ _ _ _) (ds := [.b false, .r [.ro (.ag [.sl 1 (rX (cL (cI .i64) 1) t502), .sl 1 (rX (cI .i64) t505)])] [], .r [.ro (.v (.string t509))] [], .r [.ro (.ag [.sl 1 (rX (cL (cI .i64) 1) t510), .sl 1 (rX (cI .i64) t513)]), .ro (.v (.bool t516))] [], .r [.ro (.v (.string t518))] [], .b false, .b false, .b false, .r [.ro (.v (.bool t519))] [], .b false, .b false, .b false, .b false, .b false, .b false, .b false, .b false, .b false, .b false, .b false]) (os := []) (c := none) rfl KD ?_
         exact WS.can [] (((ih.out k (by omega)).s_j1  r w ro B hF x1 false h).out) KD
   · rw [if_neg c7] at h
     refine path_ok (k := 11) hF (RetQ_mild _ _ _ _ _ _ _ _) (ds := [.b false, .r [.ro (.ag [.sl 1 (rX (cL (cI .i64) 1) t502), .sl 1 (rX (cI .i64) t505)])] [], .r [.ro (.v (.string t509))] [], .r [.ro (.ag [.sl 1 (rX (cL (cI .i64) 1) t510), .sl 1 (rX (cI .i64) t513)]), .ro (.v (.bool t516))] [], .r [.ro (.v (.string t518))] [], .b true, .b true, .b true, .b true, .b true, .b true, .b true, .b true, .b true]) (os := []) (c := none) rfl KD ?_
     exact WS.can [] (((ih.out k (by omega)).s_j1  r w ro B hF x1 true h).out) KD
set_option maxRecDepth 100000 in
set_option maxHeartbeats 4000000 in
theorem laws_FnLayoutText.c_j1 (k : Nat) (ih : Kp (∀ m, m < k → laws_FnLayoutText.C m)) (r : Bool) (w : World) (ro : Nat → Prop) (B : Nat) (hF : Fr TE (cx0 Tryz.f5 none w ro B)) (x1 : List Int) (x49 : Bool) (h : laws_FnLayoutText.j1 k x1 x49 = some r) : Kp (WS TE (cx0 Tryz.f5 none w ro B) (stkAt [1, 1, 1, 1, 1, 0, 0, 9] [] (bodyOf Tryz.f5) []) ⟨[(1, .sl 1 (rX (cI .u8) x1)), (49, .v (.bool x49))], []⟩ (RetQ TE Tryz.f5 none [.ro (.v (.bool r))] [] w ro B)) := by
 refine ⟨?_⟩
 cases k with
 | zero => simp [laws_FnLayoutText.j1] at h
 | succ k =>
 simp only [laws_FnLayoutText.j1] at h
 by_cases c12 : x49 = true
 · rw [if_pos c12] at h
   refine path_ok (k := 4) hF (RetQ_mild _ _ _ _ _ _ _ _) (ds := [.b true]) (os := []) (c := none) rfl KD ?_
   cases h
   exact ret_as (ms := [.ro]) rfl KD
 · rw [if_neg c12] at h
   obtain ⟨t521, q13, h⟩ := Option.bind_eq_some_iff.1 h
   have q13c := spec_DrawParseLayout.ctr k _ _ q13
   obtain ⟨⟨t522, t525, t528⟩, q14, h⟩ := Option.bind_eq_some_iff.1 h
   dsimp only at h
   have q14c := impl_ParseLayout.ctr k _ _ _ _ q14
   obtain ⟨⟨t530, t533, t536⟩, q15, h⟩ := Option.bind_eq_some_iff.1 h
   dsimp only at h
   have q15c := spec_ParseLayout.ctr k _ _ _ _ q15
   obtain ⟨t538, q16, h⟩ := Option.bind_eq_some_iff.1 h
   have q16c := laws_faLayout.ctr k _ _ _ _ _ q16
   by_cases c17 : t538 = true
   · rw [if_pos c17] at h
     by_cases c18 : (t528 == t536) = true
     · rw [if_pos c18] at h
       by_cases c19 : t528 = true
       · rw [if_pos c19] at h
         obtain ⟨t539, q20, h⟩ := Option.bind_eq_some_iff.1 h
         have q20c := impl_FormatLayout.ctr k _ _ _ q20
         by_cases c21 : t539.toList = t521.toList
         · rw [if_pos c21] at h
           obtain ⟨t540, q22, h⟩ := Option.bind_eq_some_iff.1 h
           have q22c := impl_LayoutValid.ctr k _ _ _ q22
           refine path_ok (k := 11) hF (RetQ_mild _ _ _ _ _ _ _ _) (ds := [.b false, .r [.ro (.v (.string t521))] [], .r [.ro (.ag [.sl 1 (rX (cL (cI .i64) 1) t522), .sl 1 (rX (cI .i64) t525)]), .ro (.v (.bool t528))] [], .r [.ro (.ag [.sl 1 (rX (cL (cI .i64) 1) t530), .sl 1 (rX (cI .i64) t533)]), .ro (.v (.bool t536))] [], .r [.ro (.v (.bool t538))] [], .b true, .b true, .b true, .b true, .b true, .b true, .b true, .b false, .b false, .r [.ro (.v (.string t539))] [], .b false, .b false, .b false, .b true, .b true, .r [.ro (.v (.bool t540))] [], .b false, .b true, .b true, .b false, .b true]) (os := []) (c := none) rfl KD ?_
           cases h
           exact ret_as (ms := [.ro]) rfl KD
         · rw [if_neg c21] at h
           refine path_ok (k := 11) hF (RetQ_mild _ _ _ _ _ _ _ _) (ds := [.b false, .r [.ro (.v (.string t521))] [], .r [.ro (.ag [.sl 1 (rX (cL (cI .i64) 1) t522), .sl 1 (rX (cI .i64) t525)]), .ro (.v (.bool t528))] [], .r [.ro (.ag [.sl 1 (rX (cL (cI .i64) 1) t530), .sl 1 (rX (cI .i64) t533)]), .ro (.v (.bool t536))] [], .r [.ro (.v (.bool t538))] [], .b true, .b true, .b true, .b true, .b true, .b true, .b true, .b false, .b false, .r [.ro (.v (.string t539))] [], .b false, .b false, .b false, .b false, .b false, .b false, .b false, .b true, .b false, .b true]) (os := []) (c := none) rfl KD ?_
           cases h
           exact ret_as (ms := [.ro]) rfl KD
       · rw [if_neg c19] at h
         refine path_ok (k := 11) hF (RetQ_mild _ _ _ _ _ _ _ _) (ds := [.b false, .r [.ro (.v (.string t521))] [], .r [.ro (.ag [.sl 1 (rX (cL (cI .i64) 1) t522), .sl 1 (rX (cI .i64) t525)]), .ro (.v (.bool t528))] [], .r [.ro (.ag [.sl 1 (rX (cL (cI .i64) 1) t530), .sl 1 (rX (cI .i64) t533)]), .ro (.v (.bool t536))] [], .r [.ro (.v (.bool t538))] [], .b true, .b true, .b true, .b true, .b true, .b true, .b true, .b true, .b true, .b true, .b true, .b true, .b true, .b true, .b true, .b true]) (os := []) (c := none) rfl KD ?_
         cases h
         exact ret_as (ms := [.ro]) rfl KD
     · rw [if_neg c18] at h
       refine path_ok (k := 11) hF (RetQ_mild _ _ _ _ _ _ _ _) (ds := [.b false, .r [.ro (.v (.string t521))] [], .r [.ro (.ag [.sl 1 (rX (cL (cI .i64) 1) t522), .sl 1 (rX (cI .i64) t525)]), .ro (.v (.bool t528))] [], .r [.ro (.ag [.sl 1 (rX (cL (cI .i64) 1) t530), .sl 1 (rX (cI .i64) t533)]), .ro (.v (.bool t536))] [], .r [.ro (.v (.bool t538))] [], .b true, .b true, .b true, .b true, .b false, .b false, .b false, .b false, .b false]) (os := []) (c := none) rfl KD ?_
       cases h
       exact ret_as (ms := [.ro]) rfl KD
   · rw [if_neg c17] at h
     refine path_ok (k := 11) hF (RetQ_mild _ _ _ _ _ _ _ _) (ds := [.b false, .r [.ro (.v (.string t521))] [], .r [.ro (.ag [.sl 1 (rX (cL (cI .i64) 1) t522), .sl 1 (rX (cI .i64) t525)]), .ro (.v (.bool t528))] [], .r [.ro (.ag [.sl 1 (rX (cL (cI .i64) 1) t530), .sl 1 (rX (cI .i64) t533)]), .ro (.v (.bool t536))] [], .r [.ro (.v (.bool t538))] [], .b false, .b false, .b false, .b false, .b false, .b false, .b false, .b false, .b false]) (os := []) (c := none) rfl KD ?_
     cases h
     exact ret_as (ms := [.ro]) rfl KD
theorem laws_FnLayoutText.cs (k : Nat) : laws_FnLayoutText.C k := by
 induction k using Nat.strongRecOn with
 | _ k ih0 =>
 have ih : Kp (∀ m, m < k → laws_FnLayoutText.C m) := ⟨ih0⟩
 exact ⟨laws_FnLayoutText.c_j0 k ih, laws_FnLayoutText.c_j1 k ih⟩
set_option maxRecDepth 100000 in
set_option maxHeartbeats 4000000 in
theorem laws_FnLayoutText.ctr (k : Nat) (l0 : List Int) (l1 : List Int) (r : Bool) (h : laws_FnLayoutText.f k l0 l1 = some r) : Ctr TE 5 none [.sl 1 (rX (cI .u8) l0), .sl 1 (rX (cI .u8) l1)] [.ro (.v (.bool r))] [] := by
 refine ctr_of (fn := Tryz.f5) (c := (bodyOf Tryz.f5)) Tryz.func5 rfl (by kernel_rfl) (Nat.le_of_ble_eq_true (by kernel_rfl)) (fun w ro B hF _ => ?_)
 have ih : Kp (∀ m, m < k + 1 → laws_FnLayoutText.C m) := ⟨fun m _ => laws_FnLayoutText.cs m⟩
 simp only [laws_FnLayoutText.f] at h
 by_cases c1 : (l0.length : Int) > 1048576
 · rw [if_pos c1] at h
   refine path_ok (k := 5) hF (RetQ_mild _ _ _ _ _ _ _ _) (ds := [.e 15 (.v (.int .i64 (l0.length : Int))), .b true, .b true, .b true, .b true]) (os := []) (c := none) rfl KD ?_
   exact WS.can [] (((ih.out k (by omega)).s_j0  r w ro B hF l0 l1 true h).out) KD
 · rw [if_neg c1] at h
   refine path_ok (k := 5) hF (RetQ_mild _ _ _ _ _ _ _ _) (ds := [.e 15 (.v (.int .i64 (l0.length : Int))), .b false, .b false, .e 19 (.v (.int .i64 (l1.length : Int))), .b false, .b false]) (os := []) (c := none) rfl KD ?_
   exact WS.can [] (((ih.out k (by omega)).s_j0  r w ro B hF l0 l1 (decide ((l1.length : Int) > 1048576)) h).out) KD
def laws_FnLayoutText.Pure : Prop := ∀ (l0 : List Int) (l1 : List Int), l0.length ≤ maxLen → l0.length * 1 ≤ 140737488351232 → (∀ x ∈ l0, (Lit.int .u8 x).wf = true) → l1.length ≤ maxLen → l1.length * 1 ≤ 140737488351232 → (∀ x ∈ l1, (Lit.int .u8 x).wf = true) → ∃ k, laws_FnLayoutText.f k l0 l1 = some true
end Go.Proofs.YtidpankoobdfjaaGreatDoor.L
