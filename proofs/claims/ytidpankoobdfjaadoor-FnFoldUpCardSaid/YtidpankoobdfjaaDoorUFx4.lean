/- A part of the claim. -/
import Derived.Test.YtidpankoobdfjaaDoorUFx0
import Derived.Test.YtidpankoobdfjaaDoorUFx1
import Derived.Test.YtidpankoobdfjaaDoorUFx3
-- PRINTED by print.py (a twelfth state) out of the translation. Not trusted: Lean checks it.
namespace Go.Proofs.YtidpankoobdfjaaDoor.U
open Go.RowKit Go.Proofs.YtidpankoobdfjaaDoorW.St Go.Proofs.YtidpankoobdfjaaDoorW.PrintWords Go.Proofs.YtidpankoobdfjaaDoorW.PrintLast Go.Proofs.YtidpankoobdfjaaDoorW.PrintMore
attribute [local go_sem] max2_int min2_int max_two min_two max_three min_three max_four min_four   -- for this text's walks alone
set_option linter.unusedVariables false
set_option linter.unusedSimpArgs false
def spec_l2Sum.l0 : Nat → Int → List Int → Int → Int → Option (Int)
  | 0, _, _, _, _ => none
  | k + 1, x3, x6, x7, x8 => if x8 < x7 then (if 0 ≤ x8 then (if x8 < (x6.length : Int) then ((spec_l1In.f (rd x6 x8) 0 400).bind fun t416 => (if t416 = true then (spec_l2Sum.l0 k (wrap64 (x3 + (rd x6 x8))) x6 x7 (wrap64 (x8 + 1))) else (some (-1)))) else (none)) else (none)) else (some x3)
def spec_l2Sum.f (k : Nat) (l0 : List Int) : Option (Int) := spec_l2Sum.l0 k 0 l0 (l0.length : Int) 0
def spec_l2Sum.I0 (r : Int) (m : Nat) (σ : St) : Prop := ∃ (x3 : Int) (x6 : List Int) (x7 : Int) (x8 : Int), spec_l2Sum.l0 m x3 x6 x7 x8 = some r ∧ σ = ⟨[(3, .v (.int .i64 x3)), (6, .sl 1 (rX (cI .i64) x6)), (7, .v (.int .i64 x7)), (8, .v (.int .i64 x8))], []⟩
structure spec_l2Sum.C (k : Nat) : Prop where
 s_l0 : ∀ (r : Int) (w : World) (ro : Nat → Prop) (B : Nat) (_ : Fr TE (cx0 Tryd.f44 none w ro B)) (x3 : Int) (x6 : List Int) (x7 : Int) (x8 : Int) (_ : spec_l2Sum.l0 k x3 x6 x7 x8 = some r), Kp (WS TE (cx0 Tryd.f44 none w ro B) (stkAt [1, 1, 0, 1, 0] [] (bodyOf Tryd.f44) []) ⟨[(3, .v (.int .i64 x3)), (6, .sl 1 (rX (cI .i64) x6)), (7, .v (.int .i64 x7)), (8, .v (.int .i64 x8))], []⟩ (RetQ TE Tryd.f44 none [.ro (.v (.int .i64 r))] [] w ro B))
set_option maxRecDepth 100000 in
set_option maxHeartbeats 4000000 in
theorem spec_l2Sum.c_l0 (k : Nat) (ih : Kp (∀ m, m < k → spec_l2Sum.C m)) (r : Int) (w : World) (ro : Nat → Prop) (B : Nat) (hF : Fr TE (cx0 Tryd.f44 none w ro B)) (x3 : Int) (x6 : List Int) (x7 : Int) (x8 : Int) (h : spec_l2Sum.l0 k x3 x6 x7 x8 = some r) : Kp (WS TE (cx0 Tryd.f44 none w ro B) (stkAt [1, 1, 0, 1, 0] [] (bodyOf Tryd.f44) []) ⟨[(3, .v (.int .i64 x3)), (6, .sl 1 (rX (cI .i64) x6)), (7, .v (.int .i64 x7)), (8, .v (.int .i64 x8))], []⟩ (RetQ TE Tryd.f44 none [.ro (.v (.int .i64 r))] [] w ro B)) := by
 refine ⟨WS.loop (fun m σ => m ≤ k ∧ spec_l2Sum.I0 r m σ) k ⟨Nat.le_refl k, x3, x6, x7, x8, h, rfl⟩ (fun m σ' hI J0 hJ0 => ?_)⟩
 clear h
 obtain ⟨hk, x3, x6, x7, x8, h, rfl⟩ := hI
 cases m with
 | zero => simp [spec_l2Sum.l0] at h
 | succ k' =>
 simp only [spec_l2Sum.l0] at h
 by_cases c1 : x8 < x7
 · rw [if_pos c1] at h
   by_cases c2 : 0 ≤ x8
   · rw [if_pos c2] at h
     by_cases c3 : x8 < (x6.length : Int)
     · rw [if_pos c3] at h
       obtain ⟨t416, q4, h⟩ := Option.bind_eq_some_iff.1 h
       have q4c := spec_l1In.ctr _ _ _ _ q4
       by_cases c5 : t416 = true
       · rw [if_pos c5] at h
         refine path_ok (k := 17) hF (RetQ_mild _ _ _ _ _ _ _ _) (ds := [.b true, .e 10 (.rf [.v (.int .i64 (rd x6 x8))]), .r [.ro (.v (.bool t416))] [], .b false]) (os := []) (c := none) rfl KD ?_
         exact WS.lpc [] (hJ0 _ _ (Nat.lt_succ_self _) ⟨by omega, (wrap64 (x3 + (rd x6 x8))), x6, x7, (wrap64 (x8 + 1)), h, rfl⟩) KD
       · rw [if_neg c5] at h
         refine path_ok (k := 16) hF (RetQ_mild _ _ _ _ _ _ _ _) (ds := [.b true, .e 10 (.rf [.v (.int .i64 (rd x6 x8))]), .r [.ro (.v (.bool t416))] [], .b true]) (os := []) (c := none) rfl KD ?_
         cases h
         exact ret_as (ms := [.ro]) rfl KD
     · rw [if_neg c3] at h
       cases h
   · rw [if_neg c2] at h
     cases h
 · rw [if_neg c1] at h
   refine path_ok (k := 8) hF (RetQ_mild _ _ _ _ _ _ _ _) (ds := [.b false]) (os := []) (c := none) rfl KD ?_
   cases h
   exact ret_as (ms := [.ro]) rfl KD
theorem spec_l2Sum.cs (k : Nat) : spec_l2Sum.C k := by
 induction k using Nat.strongRecOn with
 | _ k ih0 =>
 have ih : Kp (∀ m, m < k → spec_l2Sum.C m) := ⟨ih0⟩
 exact ⟨spec_l2Sum.c_l0 k ih⟩
set_option maxRecDepth 100000 in
set_option maxHeartbeats 4000000 in
theorem spec_l2Sum.ctr (k : Nat) (l0 : List Int) (r : Int) (h : spec_l2Sum.f k l0 = some r) : Ctr TE 44 none [.sl 1 (rX (cI .i64) l0)] [.ro (.v (.int .i64 r))] [] := by
 refine ctr_of (fn := Tryd.f44) (c := (bodyOf Tryd.f44)) Tryd.func44 rfl (by kernel_rfl) (Nat.le_of_ble_eq_true (by kernel_rfl)) (fun w ro B hF _ => ?_)
 have ih : Kp (∀ m, m < k + 1 → spec_l2Sum.C m) := ⟨fun m _ => spec_l2Sum.cs m⟩
 simp only [spec_l2Sum.f] at h
 refine path_ok (k := 8) hF (RetQ_mild _ _ _ _ _ _ _ _) (ds := [.e 7 (.v (.int .i64 (l0.length : Int)))]) (os := []) (c := none) rfl KD ?_
 exact WS.can [] (((ih.out k (by omega)).s_l0  r w ro B hF 0 l0 (l0.length : Int) 0 h).out) KD
mutual
def spec_WhatIsWrong.l0 : Nat → Int → List (List Int) → Int → Int → List (List Int) → List Int → Option (Int)
  | 0, _, _, _, _, _, _ => none
  | k + 1, x3, x9, x10, x11, x418000, x418001 => if x11 < x10 then (if 0 ≤ x11 then (if x11 < (x9.length : Int) then (if ((rd_L1 x9 x11).length : Int) = x3 then ((spec_l2Sum.f k (rd_L1 x9 x11)).bind fun t419 => (if t419 < 0 then (some x11) else (if x11 ≥ 3 then (some x11) else ((spec_l2Sum.f k (rd_L1 x9 x11)).bind fun t420 => (spec_WhatIsWrong.l0 k t420 x9 x10 (wrap64 (x11 + 1)) x418000 x418001))))) else (some x11)) else (none)) else (none)) else (if (x418001.length : Int) = x3 then (spec_WhatIsWrong.l1 k x418001 (x418001.length : Int) 0 x418000 x418001) else (some (x418000.length : Int)))
def spec_WhatIsWrong.l1 : Nat → List Int → Int → Int → List (List Int) → List Int → Option (Int)
  | 0, _, _, _, _, _ => none
  | k + 1, x42, x43, x44, x418000, x418001 => if x44 < x43 then (if 0 ≤ x44 then (if x44 < (x42.length : Int) then ((spec_l1In.f (rd x42 x44) 0 10006).bind fun t422 => (if t422 = true then (spec_WhatIsWrong.l1 k x42 x43 (wrap64 (x44 + 1)) x418000 x418001) else (some (x418000.length : Int)))) else (none)) else (none)) else (some (-1))
end
def spec_WhatIsWrong.f (k : Nat) (l0_0 : List (List Int)) (l0_1 : List Int) : Option (Int) := spec_WhatIsWrong.l0 k 1 l0_0 (l0_0.length : Int) 0 l0_0 l0_1
def spec_WhatIsWrong.I0 (r : Int) (m : Nat) (σ : St) : Prop := ∃ (x3 : Int) (x9 : List (List Int)) (x10 : Int) (x11 : Int) (x418000 : List (List Int)) (x418001 : List Int), spec_WhatIsWrong.l0 m x3 x9 x10 x11 x418000 x418001 = some r ∧ σ = ⟨[(1, .pt 1001 0 0), (3, .v (.int .i64 x3)), (9, .sl 1 (rX (cL (cI .i64) 1) x9)), (10, .v (.int .i64 x10)), (11, .v (.int .i64 x11))], [(1001, .box 0 26 false [.sl 1 (rX (cL (cI .i64) 1) x418000), .sl 1 (rX (cI .i64) x418001)])]⟩
def spec_WhatIsWrong.I1 (r : Int) (m : Nat) (σ : St) : Prop := ∃ (x42 : List Int) (x43 : Int) (x44 : Int) (x418000 : List (List Int)) (x418001 : List Int), spec_WhatIsWrong.l1 m x42 x43 x44 x418000 x418001 = some r ∧ σ = ⟨[(1, .pt 1001 0 0), (42, .sl 1 (rX (cI .i64) x42)), (43, .v (.int .i64 x43)), (44, .v (.int .i64 x44))], [(1001, .box 0 26 false [.sl 1 (rX (cL (cI .i64) 1) x418000), .sl 1 (rX (cI .i64) x418001)])]⟩
structure spec_WhatIsWrong.C (k : Nat) : Prop where
 s_l0 : ∀ (r : Int) (w : World) (ro : Nat → Prop) (B : Nat) (_ : Fr TE (cx0 Tryd.f11 none w ro B)) (x3 : Int) (x9 : List (List Int)) (x10 : Int) (x11 : Int) (x418000 : List (List Int)) (x418001 : List Int) (_ : spec_WhatIsWrong.l0 k x3 x9 x10 x11 x418000 x418001 = some r), Kp (WS TE (cx0 Tryd.f11 none w ro B) (stkAt [1, 1, 0, 1, 0] [] (bodyOf Tryd.f11) []) ⟨[(1, .pt 1001 0 0), (3, .v (.int .i64 x3)), (9, .sl 1 (rX (cL (cI .i64) 1) x9)), (10, .v (.int .i64 x10)), (11, .v (.int .i64 x11))], [(1001, .box 0 26 false [.sl 1 (rX (cL (cI .i64) 1) x418000), .sl 1 (rX (cI .i64) x418001)])]⟩ (RetQ TE Tryd.f11 none [.ro (.v (.int .i64 r))] [] w ro B))
 s_l1 : ∀ (r : Int) (w : World) (ro : Nat → Prop) (B : Nat) (_ : Fr TE (cx0 Tryd.f11 none w ro B)) (x42 : List Int) (x43 : Int) (x44 : Int) (x418000 : List (List Int)) (x418001 : List Int) (_ : spec_WhatIsWrong.l1 k x42 x43 x44 x418000 x418001 = some r), Kp (WS TE (cx0 Tryd.f11 none w ro B) (stkAt [1, 1, 1, 1, 0, 1, 0] [] (bodyOf Tryd.f11) []) ⟨[(1, .pt 1001 0 0), (42, .sl 1 (rX (cI .i64) x42)), (43, .v (.int .i64 x43)), (44, .v (.int .i64 x44))], [(1001, .box 0 26 false [.sl 1 (rX (cL (cI .i64) 1) x418000), .sl 1 (rX (cI .i64) x418001)])]⟩ (RetQ TE Tryd.f11 none [.ro (.v (.int .i64 r))] [] w ro B))
set_option maxRecDepth 100000 in
set_option maxHeartbeats 4000000 in
theorem spec_WhatIsWrong.c_l0 (k : Nat) (ih : Kp (∀ m, m < k → spec_WhatIsWrong.C m)) (r : Int) (w : World) (ro : Nat → Prop) (B : Nat) (hF : Fr TE (cx0 Tryd.f11 none w ro B)) (x3 : Int) (x9 : List (List Int)) (x10 : Int) (x11 : Int) (x418000 : List (List Int)) (x418001 : List Int) (h : spec_WhatIsWrong.l0 k x3 x9 x10 x11 x418000 x418001 = some r) : Kp (WS TE (cx0 Tryd.f11 none w ro B) (stkAt [1, 1, 0, 1, 0] [] (bodyOf Tryd.f11) []) ⟨[(1, .pt 1001 0 0), (3, .v (.int .i64 x3)), (9, .sl 1 (rX (cL (cI .i64) 1) x9)), (10, .v (.int .i64 x10)), (11, .v (.int .i64 x11))], [(1001, .box 0 26 false [.sl 1 (rX (cL (cI .i64) 1) x418000), .sl 1 (rX (cI .i64) x418001)])]⟩ (RetQ TE Tryd.f11 none [.ro (.v (.int .i64 r))] [] w ro B)) := by
 refine ⟨WS.loop (fun m σ => m ≤ k ∧ spec_WhatIsWrong.I0 r m σ) k ⟨Nat.le_refl k, x3, x9, x10, x11, x418000, x418001, h, rfl⟩ (fun m σ' hI J0 hJ0 => ?_)⟩
 clear h
 obtain ⟨hk, x3, x9, x10, x11, x418000, x418001, h, rfl⟩ := hI
 cases m with
 | zero => simp [spec_WhatIsWrong.l0] at h
 | succ k' =>
 simp only [spec_WhatIsWrong.l0] at h
 by_cases c1 : x11 < x10
 · rw [if_pos c1] at h
   by_cases c2 : 0 ≤ x11
   · rw [if_pos c2] at h
     by_cases c3 : x11 < (x9.length : Int)
     · rw [if_pos c3] at h
       by_cases c4 : ((rd_L1 x9 x11).length : Int) = x3
       · rw [if_pos c4] at h
         obtain ⟨t419, q5, h⟩ := Option.bind_eq_some_iff.1 h
         have q5c := spec_l2Sum.ctr k' _ _ q5
         by_cases c6 : t419 < 0
         · rw [if_pos c6] at h
           refine path_ok (k := 16) hF (RetQ_mild _ _ _ _ _ _ _ _) (ds := [.b true, .e 14 (.rf [.sl 1 (rX (cI .i64) (rd_L1 x9 x11))]), .e 17 (.v (.int .i64 ((rd_L1 x9 x11).length : Int))), .b false, .b false, .r [.ro (.v (.int .i64 t419))] [], .b false, .b false, .b true, .b true, .b true, .b true]) (os := []) (c := none) rfl KD ?_
           cases h
           exact ret_as (ms := [.ro]) rfl KD
         · rw [if_neg c6] at h
           by_cases c7 : x11 ≥ 3
           · rw [if_pos c7] at h
             refine path_ok (k := 16) hF (RetQ_mild _ _ _ _ _ _ _ _) (ds := [.b true, .e 14 (.rf [.sl 1 (rX (cI .i64) (rd_L1 x9 x11))]), .e 17 (.v (.int .i64 ((rd_L1 x9 x11).length : Int))), .b false, .b false, .r [.ro (.v (.int .i64 t419))] [], .b false, .b false, .b false, .b false, .b false, .b true]) (os := []) (c := none) rfl KD ?_
             cases h
             exact ret_as (ms := [.ro]) rfl KD
           · rw [if_neg c7] at h
             obtain ⟨t420, q8, h⟩ := Option.bind_eq_some_iff.1 h
             have q8c := spec_l2Sum.ctr k' _ _ q8
             refine path_ok (k := 17) hF (RetQ_mild _ _ _ _ _ _ _ _) (ds := [.b true, .e 14 (.rf [.sl 1 (rX (cI .i64) (rd_L1 x9 x11))]), .e 17 (.v (.int .i64 ((rd_L1 x9 x11).length : Int))), .b false, .b false, .r [.ro (.v (.int .i64 t419))] [], .b false, .b false, .b false, .b false, .b false, .b false, .r [.ro (.v (.int .i64 t420))] []]) (os := []) (c := none) rfl KD ?_
             exact WS.lpc [(1001, some 1001)] (hJ0 _ _ (Nat.lt_succ_self _) ⟨by omega, t420, x9, x10, (wrap64 (x11 + 1)), x418000, x418001, h, rfl⟩) KD
       · rw [if_neg c4] at h
         refine path_ok (k := 16) hF (RetQ_mild _ _ _ _ _ _ _ _) (ds := [.b true, .e 14 (.rf [.sl 1 (rX (cI .i64) (rd_L1 x9 x11))]), .e 17 (.v (.int .i64 ((rd_L1 x9 x11).length : Int))), .b true, .b true, .b true, .b true, .b true, .b true, .b true, .b true]) (os := []) (c := none) rfl KD ?_
         cases h
         exact ret_as (ms := [.ro]) rfl KD
     · rw [if_neg c3] at h
       cases h
   · rw [if_neg c2] at h
     cases h
 · rw [if_neg c1] at h
   by_cases c9 : (x418001.length : Int) = x3
   · rw [if_pos c9] at h
     refine path_ok (k := 14) hF (RetQ_mild _ _ _ _ _ _ _ _) (ds := [.b false, .e 35 (.v (.int .i64 (x418001.length : Int))), .b false, .e 43 (.v (.int .i64 (x418001.length : Int)))]) (os := []) (c := none) rfl KD ?_
     exact WS.can [(1001, some 1001)] (((ih.out k' (by omega)).s_l1  r w ro B hF x418001 (x418001.length : Int) 0 x418000 x418001 h).out) KD
   · rw [if_neg c9] at h
     refine path_ok (k := 12) hF (RetQ_mild _ _ _ _ _ _ _ _) (ds := [.b false, .e 35 (.v (.int .i64 (x418001.length : Int))), .b true, .e 40 (.v (.int .i64 (x418000.length : Int)))]) (os := []) (c := none) rfl KD ?_
     cases h
     exact ret_as (ms := [.ro]) rfl KD
set_option maxRecDepth 100000 in
set_option maxHeartbeats 4000000 in
theorem spec_WhatIsWrong.c_l1 (k : Nat) (ih : Kp (∀ m, m < k → spec_WhatIsWrong.C m)) (r : Int) (w : World) (ro : Nat → Prop) (B : Nat) (hF : Fr TE (cx0 Tryd.f11 none w ro B)) (x42 : List Int) (x43 : Int) (x44 : Int) (x418000 : List (List Int)) (x418001 : List Int) (h : spec_WhatIsWrong.l1 k x42 x43 x44 x418000 x418001 = some r) : Kp (WS TE (cx0 Tryd.f11 none w ro B) (stkAt [1, 1, 1, 1, 0, 1, 0] [] (bodyOf Tryd.f11) []) ⟨[(1, .pt 1001 0 0), (42, .sl 1 (rX (cI .i64) x42)), (43, .v (.int .i64 x43)), (44, .v (.int .i64 x44))], [(1001, .box 0 26 false [.sl 1 (rX (cL (cI .i64) 1) x418000), .sl 1 (rX (cI .i64) x418001)])]⟩ (RetQ TE Tryd.f11 none [.ro (.v (.int .i64 r))] [] w ro B)) := by
 refine ⟨WS.loop (fun m σ => m ≤ k ∧ spec_WhatIsWrong.I1 r m σ) k ⟨Nat.le_refl k, x42, x43, x44, x418000, x418001, h, rfl⟩ (fun m σ' hI J1 hJ1 => ?_)⟩
 clear h
 obtain ⟨hk, x42, x43, x44, x418000, x418001, h, rfl⟩ := hI
 cases m with
 | zero => simp [spec_WhatIsWrong.l1] at h
 | succ k' =>
 simp only [spec_WhatIsWrong.l1] at h
 by_cases c10 : x44 < x43
 · rw [if_pos c10] at h
   by_cases c11 : 0 ≤ x44
   · rw [if_pos c11] at h
     by_cases c12 : x44 < (x42.length : Int)
     · rw [if_pos c12] at h
       obtain ⟨t422, q13, h⟩ := Option.bind_eq_some_iff.1 h
       have q13c := spec_l1In.ctr _ _ _ _ q13
       by_cases c14 : t422 = true
       · rw [if_pos c14] at h
         refine path_ok (k := 15) hF (RetQ_mild _ _ _ _ _ _ _ _) (ds := [.b true, .e 46 (.rf [.v (.int .i64 (rd x42 x44))]), .r [.ro (.v (.bool t422))] [], .b false]) (os := []) (c := none) rfl KD ?_
         exact WS.lpc [(1001, some 1001)] (hJ1 _ _ (Nat.lt_succ_self _) ⟨by omega, x42, x43, (wrap64 (x44 + 1)), x418000, x418001, h, rfl⟩) KD
       · rw [if_neg c14] at h
         refine path_ok (k := 15) hF (RetQ_mild _ _ _ _ _ _ _ _) (ds := [.b true, .e 46 (.rf [.v (.int .i64 (rd x42 x44))]), .r [.ro (.v (.bool t422))] [], .b true, .e 53 (.v (.int .i64 (x418000.length : Int)))]) (os := []) (c := none) rfl KD ?_
         cases h
         exact ret_as (ms := [.ro]) rfl KD
     · rw [if_neg c12] at h
       cases h
   · rw [if_neg c11] at h
     cases h
 · rw [if_neg c10] at h
   refine path_ok (k := 8) hF (RetQ_mild _ _ _ _ _ _ _ _) (ds := [.b false]) (os := []) (c := none) rfl KD ?_
   cases h
   exact ret_as (ms := [.ro]) rfl KD
theorem spec_WhatIsWrong.cs (k : Nat) : spec_WhatIsWrong.C k := by
 induction k using Nat.strongRecOn with
 | _ k ih0 =>
 have ih : Kp (∀ m, m < k → spec_WhatIsWrong.C m) := ⟨ih0⟩
 exact ⟨spec_WhatIsWrong.c_l0 k ih, spec_WhatIsWrong.c_l1 k ih⟩
set_option maxRecDepth 100000 in
set_option maxHeartbeats 4000000 in
theorem spec_WhatIsWrong.ctr (k : Nat) (l0_0 : List (List Int)) (l0_1 : List Int) (r : Int) (h : spec_WhatIsWrong.f k l0_0 l0_1 = some r) : Ctr TE 11 none [.ag [.sl 1 (rX (cL (cI .i64) 1) l0_0), .sl 1 (rX (cI .i64) l0_1)]] [.ro (.v (.int .i64 r))] [] := by
 refine ctr_of (fn := Tryd.f11) (c := (bodyOf Tryd.f11)) Tryd.func11 rfl (by kernel_rfl) (Nat.le_of_ble_eq_true (by kernel_rfl)) (fun w ro B hF _ => ?_)
 have ih : Kp (∀ m, m < k + 1 → spec_WhatIsWrong.C m) := ⟨fun m _ => spec_WhatIsWrong.cs m⟩
 simp only [spec_WhatIsWrong.f] at h
 refine path_ok (k := 8) hF (RetQ_mild _ _ _ _ _ _ _ _) (ds := [.e 10 (.v (.int .i64 (l0_0.length : Int)))]) (os := []) (c := none) rfl KD ?_
 exact WS.can [(1001, some 1)] (((ih.out k (by omega)).s_l0  r w ro B hF 1 l0_0 (l0_0.length : Int) 0 l0_0 l0_1 h).out) KD
def spec_LayoutValid.f (k : Nat) (l0_0 : List (List Int)) (l0_1 : List Int) : Option (Bool) := (spec_WhatIsWrong.f k l0_0 l0_1).bind fun t424 => (some (decide (t424 < 0)))
set_option maxRecDepth 100000 in
set_option maxHeartbeats 4000000 in
theorem spec_LayoutValid.ctr (k : Nat) (l0_0 : List (List Int)) (l0_1 : List Int) (r : Bool) (h : spec_LayoutValid.f k l0_0 l0_1 = some r) : Ctr TE 13 none [.ag [.sl 1 (rX (cL (cI .i64) 1) l0_0), .sl 1 (rX (cI .i64) l0_1)]] [.ro (.v (.bool r))] [] := by
 refine ctr_of (fn := Tryd.f13) (c := (bodyOf Tryd.f13)) Tryd.func13 rfl (by kernel_rfl) (Nat.le_of_ble_eq_true (by kernel_rfl)) (fun w ro B hF _ => ?_)
 simp only [spec_LayoutValid.f] at h
 obtain ⟨t424, q1, h⟩ := Option.bind_eq_some_iff.1 h
 have q1c := spec_WhatIsWrong.ctr k _ _ _ q1
 refine path_ok (k := 5) hF (RetQ_mild _ _ _ _ _ _ _ _) (ds := [.r [.ro (.v (.int .i64 t424))] []]) (os := []) (c := none) rfl KD ?_
 cases h
 exact ret_as (ms := [.ro]) rfl KD
mutual
def spec_l1Text.l0 : Nat → Int → ByteArray → List (S71) → Int → Int → Option (ByteArray)
  | 0, _, _, _, _, _ => none
  | k + 1, x1, x5, x14, x15, x16 => if x16 < x15 then (if 0 ≤ x16 then (if x16 < (x14.length : Int) then (if x16 > 0 then (if x5.size + 1 ≤ 9223372036854775807 then ((spec_l1Text.f k ((rd_T71 x14 x16).f0) ((rd_T71 x14 x16).f1) (wrap64 (x1 - 1))).bind fun t429 => (if x5.size + 1 + t429.size ≤ 9223372036854775807 then (spec_l1Text.l0 k x1 ((x5 ++ (⟨#[44]⟩ : ByteArray)) ++ t429) x14 x15 (wrap64 (x16 + 1))) else (none))) else (none)) else ((spec_l1Text.f k ((rd_T71 x14 x16).f0) ((rd_T71 x14 x16).f1) (wrap64 (x1 - 1))).bind fun t430 => (if x5.size + t430.size ≤ 9223372036854775807 then (spec_l1Text.l0 k x1 (x5 ++ t430) x14 x15 (wrap64 (x16 + 1))) else (none)))) else (none)) else (none)) else (if x5.size + 1 ≤ 9223372036854775807 then (some (x5 ++ (⟨#[93]⟩ : ByteArray))) else (none))
def spec_l1Text.f : Nat → Int → List (S71) → Int → Option (ByteArray)
  | 0, _, _, _ => none
  | k + 1, a0_0, l0_1, a1 => if a1 = 0 then ((spec_l13Dec.f k a0_0).bind fun t426 => (some t426)) else (spec_l1Text.l0 k a1 (⟨#[91]⟩ : ByteArray) l0_1 (l0_1.length : Int) 0)
end
def spec_l1Text.I0 (r : ByteArray) (m : Nat) (σ : St) : Prop := ∃ (x1 : Int) (x5 : ByteArray) (x14 : List (S71)) (x15 : Int) (x16 : Int), spec_l1Text.l0 m x1 x5 x14 x15 x16 = some r ∧ σ = ⟨[(1, .v (.int .i64 x1)), (5, .v (.string x5)), (14, .sl 2 (r71 x14)), (15, .v (.int .i64 x15)), (16, .v (.int .i64 x16))], []⟩
structure spec_l1Text.C (k : Nat) : Prop where
 s_f : ∀ (a0_0 : Int) (l0_1 : List (S71)) (a1 : Int) (r : ByteArray), spec_l1Text.f k a0_0 l0_1 a1 = some r → Ctr TE 74 none [.ag [.v (.int .i64 a0_0), .sl 2 (r71 l0_1)], .v (.int .i64 a1)] [.ro (.v (.string r))] []
 s_l0 : ∀ (r : ByteArray) (w : World) (ro : Nat → Prop) (B : Nat) (_ : Fr TE (cx0 Tryd.f74 none w ro B)) (x1 : Int) (x5 : ByteArray) (x14 : List (S71)) (x15 : Int) (x16 : Int) (_ : spec_l1Text.l0 k x1 x5 x14 x15 x16 = some r), Kp (WS TE (cx0 Tryd.f74 none w ro B) (stkAt [1, 1, 1, 0, 1, 0] [] (bodyOf Tryd.f74) []) ⟨[(1, .v (.int .i64 x1)), (5, .v (.string x5)), (14, .sl 2 (r71 x14)), (15, .v (.int .i64 x15)), (16, .v (.int .i64 x16))], []⟩ (RetQ TE Tryd.f74 none [.ro (.v (.string r))] [] w ro B))
set_option maxRecDepth 100000 in
set_option maxHeartbeats 4000000 in
theorem spec_l1Text.c_f (k : Nat) (ih : Kp (∀ m, m < k → spec_l1Text.C m)) (a0_0 : Int) (l0_1 : List (S71)) (a1 : Int) (r : ByteArray) (h : spec_l1Text.f k a0_0 l0_1 a1 = some r) : Ctr TE 74 none [.ag [.v (.int .i64 a0_0), .sl 2 (r71 l0_1)], .v (.int .i64 a1)] [.ro (.v (.string r))] [] := by
 cases k with
 | zero => simp [spec_l1Text.f] at h
 | succ k =>
 simp only [spec_l1Text.f] at h
 refine ctr_of (fn := Tryd.f74) (c := (bodyOf Tryd.f74)) Tryd.func74 rfl (by kernel_rfl) (Nat.le_of_ble_eq_true (by kernel_rfl)) (fun w ro B hF _ => ?_)
 by_cases c1 : a1 = 0
 · rw [if_pos c1] at h
   obtain ⟨t426, q2, h⟩ := Option.bind_eq_some_iff.1 h
   have q2c := spec_l13Dec.ctr k _ _ q2
   refine path_ok (k := 9) hF (RetQ_mild _ _ _ _ _ _ _ _) (ds := [.b true, .r [.ro (.v (.string t426))] []]) (os := []) (c := none) rfl KD ?_
   cases h
   exact ret_as (ms := [.ro]) rfl KD
 · rw [if_neg c1] at h
   refine path_ok (k := 13) hF (RetQ_mild _ _ _ _ _ _ _ _) (ds := [.b false, .e 15 (.v (.int .i64 (l0_1.length : Int)))]) (os := []) (c := none) rfl KD ?_
   exact WS.can [] (((ih.out k (by omega)).s_l0  r w ro B hF a1 (⟨#[91]⟩ : ByteArray) l0_1 (l0_1.length : Int) 0 h).out) KD
set_option maxRecDepth 100000 in
set_option maxHeartbeats 4000000 in
theorem spec_l1Text.c_l0 (k : Nat) (ih : Kp (∀ m, m < k → spec_l1Text.C m)) (r : ByteArray) (w : World) (ro : Nat → Prop) (B : Nat) (hF : Fr TE (cx0 Tryd.f74 none w ro B)) (x1 : Int) (x5 : ByteArray) (x14 : List (S71)) (x15 : Int) (x16 : Int) (h : spec_l1Text.l0 k x1 x5 x14 x15 x16 = some r) : Kp (WS TE (cx0 Tryd.f74 none w ro B) (stkAt [1, 1, 1, 0, 1, 0] [] (bodyOf Tryd.f74) []) ⟨[(1, .v (.int .i64 x1)), (5, .v (.string x5)), (14, .sl 2 (r71 x14)), (15, .v (.int .i64 x15)), (16, .v (.int .i64 x16))], []⟩ (RetQ TE Tryd.f74 none [.ro (.v (.string r))] [] w ro B)) := by
 refine ⟨WS.loop (fun m σ => m ≤ k ∧ spec_l1Text.I0 r m σ) k ⟨Nat.le_refl k, x1, x5, x14, x15, x16, h, rfl⟩ (fun m σ' hI J0 hJ0 => ?_)⟩
 clear h
 obtain ⟨hk, x1, x5, x14, x15, x16, h, rfl⟩ := hI
 cases m with
 | zero => simp [spec_l1Text.l0] at h
 | succ k' =>
 simp only [spec_l1Text.l0] at h
 by_cases c3 : x16 < x15
 · rw [if_pos c3] at h
   by_cases c4 : 0 ≤ x16
   · rw [if_pos c4] at h
     by_cases c5 : x16 < (x14.length : Int)
     · rw [if_pos c5] at h
       by_cases c6 : x16 > 0
       · rw [if_pos c6] at h
         by_cases c7 : x5.size + 1 ≤ 9223372036854775807
         · rw [if_pos c7] at h
           obtain ⟨t429, q8, h⟩ := Option.bind_eq_some_iff.1 h
           have q8c := (ih.out k' (by omega)).s_f _ _ _ _ q8
           by_cases c9 : x5.size + 1 + t429.size ≤ 9223372036854775807
           · rw [if_pos c9] at h
             refine path_ok (k := 17) hF (RetQ_mild _ _ _ _ _ _ _ _) (ds := [.b true, .e 19 (.rf [.v (.int .i64 ((rd_T71 x14 x16).f0)), .sl 2 (r71 ((rd_T71 x14 x16).f1))]), .b true, .r [.ro (.v (.string t429))] []]) (os := []) (c := none) rfl KD ?_
             exact WS.lpc [] (hJ0 _ _ (Nat.lt_succ_self _) ⟨by omega, x1, ((x5 ++ (⟨#[44]⟩ : ByteArray)) ++ t429), x14, x15, (wrap64 (x16 + 1)), h, rfl⟩) KD
           · rw [if_neg c9] at h
             cases h
         · rw [if_neg c7] at h
           cases h
       · rw [if_neg c6] at h
         obtain ⟨t430, q10, h⟩ := Option.bind_eq_some_iff.1 h
         have q10c := (ih.out k' (by omega)).s_f _ _ _ _ q10
         by_cases c11 : x5.size + t430.size ≤ 9223372036854775807
         · rw [if_pos c11] at h
           refine path_ok (k := 17) hF (RetQ_mild _ _ _ _ _ _ _ _) (ds := [.b true, .e 19 (.rf [.v (.int .i64 ((rd_T71 x14 x16).f0)), .sl 2 (r71 ((rd_T71 x14 x16).f1))]), .b false, .r [.ro (.v (.string t430))] []]) (os := []) (c := none) rfl KD ?_
           exact WS.lpc [] (hJ0 _ _ (Nat.lt_succ_self _) ⟨by omega, x1, (x5 ++ t430), x14, x15, (wrap64 (x16 + 1)), h, rfl⟩) KD
         · rw [if_neg c11] at h
           cases h
     · rw [if_neg c5] at h
       cases h
   · rw [if_neg c4] at h
     cases h
 · rw [if_neg c3] at h
   by_cases c12 : x5.size + 1 ≤ 9223372036854775807
   · rw [if_pos c12] at h
     refine path_ok (k := 8) hF (RetQ_mild _ _ _ _ _ _ _ _) (ds := [.b false]) (os := []) (c := none) rfl KD ?_
     cases h
     exact ret_as (ms := [.ro]) rfl KD
   · rw [if_neg c12] at h
     cases h
theorem spec_l1Text.cs (k : Nat) : spec_l1Text.C k := by
 induction k using Nat.strongRecOn with
 | _ k ih0 =>
 have ih : Kp (∀ m, m < k → spec_l1Text.C m) := ⟨ih0⟩
 exact ⟨spec_l1Text.c_f k ih, spec_l1Text.c_l0 k ih⟩
theorem spec_l1Text.ctr (k : Nat) (a0_0 : Int) (l0_1 : List (S71)) (a1 : Int) (r : ByteArray) (h : spec_l1Text.f k a0_0 l0_1 a1 = some r) : Ctr TE 74 none [.ag [.v (.int .i64 a0_0), .sl 2 (r71 l0_1)], .v (.int .i64 a1)] [.ro (.v (.string r))] [] := (spec_l1Text.cs k).s_f a0_0 l0_1 a1 r h
def spec_l1Told.f (k : Nat) (a0_0 : Int) (l0_1 : List (S71)) (a1 : Int) : Option (ByteArray × Bool) := (spec_l1Text.f k a0_0 l0_1 a1).bind fun t432 => (if (t432.size : Int) > 400 then (some ((⟨#[]⟩ : ByteArray), false)) else (some (t432, true)))
set_option maxRecDepth 100000 in
set_option maxHeartbeats 4000000 in
theorem spec_l1Told.ctr (k : Nat) (a0_0 : Int) (l0_1 : List (S71)) (a1 : Int) (r1 : ByteArray) (r2 : Bool) (h : spec_l1Told.f k a0_0 l0_1 a1 = some (r1, r2)) : Ctr TE 41 none [.ag [.v (.int .i64 a0_0), .sl 2 (r71 l0_1)], .v (.int .i64 a1)] [.ro (.v (.string r1)), .ro (.v (.bool r2))] [] := by
 refine ctr_of (fn := Tryd.f41) (c := (bodyOf Tryd.f41)) Tryd.func41 rfl (by kernel_rfl) (Nat.le_of_ble_eq_true (by kernel_rfl)) (fun w ro B hF _ => ?_)
 simp only [spec_l1Told.f] at h
 obtain ⟨t432, q1, h⟩ := Option.bind_eq_some_iff.1 h
 have q1c := spec_l1Text.ctr k _ _ _ _ q1
 by_cases c2 : (t432.size : Int) > 400
 · rw [if_pos c2] at h
   refine path_ok (k := 11) hF (RetQ_mild _ _ _ _ _ _ _ _) (ds := [.r [.ro (.v (.string t432))] [], .b true]) (os := []) (c := none) rfl KD ?_
   cases h
   exact ret_as (ms := [.ro, .ro]) rfl KD
 · rw [if_neg c2] at h
   refine path_ok (k := 12) hF (RetQ_mild _ _ _ _ _ _ _ _) (ds := [.r [.ro (.v (.string t432))] [], .b false]) (os := []) (c := none) rfl KD ?_
   cases h
   exact ret_as (ms := [.ro, .ro]) rfl KD
mutual
def spec_l2Folder_next.l0 : Nat → Int → Int → Int → List (List Int) → List Int → Int → Int → Int → Int → Int → List (S71) → Option (Int × (List (S71)) × Int × Int × Int × Int)
  | 0, _, _, _, _, _, _, _, _, _, _, _ => none
  | k + 1, x1, x53, x54, x1000, x1001, x1002, x1003, x1004, x1005, x438000, x438001 => if x54 < x53 then ((spec_l2Folder_next.f k x1000 x1001 x1002 x1003 x1004 x1005 (wrap64 (x1 + 1))).bind fun bt441 => (if x438001.length < 4398046511104 then (spec_l2Folder_next.l0 k x1 x53 (wrap64 (x54 + 1)) x1000 x1001 bt441.2.2.1 bt441.2.2.2.1 bt441.2.2.2.2.1 bt441.2.2.2.2.2 x438000 (x438001 ++ [(⟨bt441.1, bt441.2.1⟩ : S71)])) else (none))) else (some (x438000, x438001, x1002, x1003, x1004, x1005))
def spec_l2Folder_next.f : Nat → List (List Int) → List Int → Int → Int → Int → Int → Int → Option (Int × (List (S71)) × Int × Int × Int × Int)
  | 0, _, _, _, _, _, _, _ => none
  | k + 1, s0_0, s0_1, s0_2, s0_3, s0_4, s0_5, a1 => (some (([] : List (S71)) : List (S71))).bind fun y434 => (if a1 = 0 then (if a1 = (s0_0.length : Int) then (if 0 ≤ s0_2 then (if s0_2 < (s0_1.length : Int) then (some (rd s0_1 s0_2, y434, wrap64 (s0_2 + 1), s0_3, s0_4, s0_5)) else (none)) else (none)) else (if 0 ≤ a1 then (if a1 < (s0_0.length : Int) then (if 0 ≤ s0_2 then (if s0_2 < ((rd_L1 s0_0 a1).length : Int) then (spec_l2Folder_next.l0 k a1 (rd (rd_L1 s0_0 a1) s0_2) 0 s0_0 s0_1 (wrap64 (s0_2 + 1)) s0_3 s0_4 s0_5 0 y434) else (none)) else (none)) else (none)) else (none))) else (if a1 = 1 then (if a1 = (s0_0.length : Int) then (if 0 ≤ s0_3 then (if s0_3 < (s0_1.length : Int) then (some (rd s0_1 s0_3, y434, s0_2, wrap64 (s0_3 + 1), s0_4, s0_5)) else (none)) else (none)) else (if 0 ≤ a1 then (if a1 < (s0_0.length : Int) then (if 0 ≤ s0_3 then (if s0_3 < ((rd_L1 s0_0 a1).length : Int) then (spec_l2Folder_next.l0 k a1 (rd (rd_L1 s0_0 a1) s0_3) 0 s0_0 s0_1 s0_2 (wrap64 (s0_3 + 1)) s0_4 s0_5 0 y434) else (none)) else (none)) else (none)) else (none))) else (if a1 = 2 then (if a1 = (s0_0.length : Int) then (if 0 ≤ s0_4 then (if s0_4 < (s0_1.length : Int) then (some (rd s0_1 s0_4, y434, s0_2, s0_3, wrap64 (s0_4 + 1), s0_5)) else (none)) else (none)) else (if 0 ≤ a1 then (if a1 < (s0_0.length : Int) then (if 0 ≤ s0_4 then (if s0_4 < ((rd_L1 s0_0 a1).length : Int) then (spec_l2Folder_next.l0 k a1 (rd (rd_L1 s0_0 a1) s0_4) 0 s0_0 s0_1 s0_2 s0_3 (wrap64 (s0_4 + 1)) s0_5 0 y434) else (none)) else (none)) else (none)) else (none))) else (if a1 = 3 then (if a1 = (s0_0.length : Int) then (if 0 ≤ s0_5 then (if s0_5 < (s0_1.length : Int) then (some (rd s0_1 s0_5, y434, s0_2, s0_3, s0_4, wrap64 (s0_5 + 1))) else (none)) else (none)) else (if 0 ≤ a1 then (if a1 < (s0_0.length : Int) then (if 0 ≤ s0_5 then (if s0_5 < ((rd_L1 s0_0 a1).length : Int) then (spec_l2Folder_next.l0 k a1 (rd (rd_L1 s0_0 a1) s0_5) 0 s0_0 s0_1 s0_2 s0_3 s0_4 (wrap64 (s0_5 + 1)) 0 y434) else (none)) else (none)) else (none)) else (none))) else (none)))))
end
def spec_l2Folder_next.I0 (s0_0 : List (List Int)) (s0_1 : List Int) (s0_2 : Int) (s0_3 : Int) (s0_4 : Int) (s0_5 : Int) (r1 : Int) (r2 : List (S71)) (r3 : Int) (r4 : Int) (r5 : Int) (r6 : Int) (m : Nat) (σ : St) : Prop := ∃ (x1 : Int) (x53 : Int) (x54 : Int) (x1002 : Int) (x1003 : Int) (x1004 : Int) (x1005 : Int) (x434000 : Int) (x438000 : Int) (x438001 : List (S71)), spec_l2Folder_next.l0 m x1 x53 x54 s0_0 s0_1 x1002 x1003 x1004 x1005 x438000 x438001 = some (r1, r2, r3, r4, r5, r6) ∧ σ = ⟨[(0, .pt 0 0 0), (1, .v (.int .i64 x1)), (4, .pt 1004 0 0), (5, .pt 1005 0 0), (53, .v (.int .i64 x53)), (54, .v (.int .i64 x54))], [(0, .box 0 105 true [.sl 1 (rX (cL (cI .i64) 1) s0_0), .sl 1 (rX (cI .i64) s0_1), .v (.int .i64 x1002), .v (.int .i64 x1003), .v (.int .i64 x1004), .v (.int .i64 x1005)]), (1004, .box 0 71 false [.v (.int .i64 x434000), .v (.slice none 0 0)]), (3321, .own 0 71 2 (r71 x438001)), (1005, .box 0 71 false [.v (.int .i64 x438000), .ow 3321 0])]⟩
structure spec_l2Folder_next.C (k : Nat) : Prop where
 s_f : ∀ (s0_0 : List (List Int)) (s0_1 : List Int) (s0_2 : Int) (s0_3 : Int) (s0_4 : Int) (s0_5 : Int) (a1 : Int) (r1 : Int) (r2 : List (S71)) (r3 : Int) (r4 : Int) (r5 : Int) (r6 : Int), spec_l2Folder_next.f k s0_0 s0_1 s0_2 s0_3 s0_4 s0_5 a1 = some (r1, r2, r3, r4, r5, r6) → Ctr TE 75 (some (105, [.sl 1 (rX (cL (cI .i64) 1) s0_0), .sl 1 (rX (cI .i64) s0_1), .v (.int .i64 s0_2), .v (.int .i64 s0_3), .v (.int .i64 s0_4), .v (.int .i64 s0_5)])) [.pt 0 0 0, .v (.int .i64 a1)] [.ro (.ag [.v (.int .i64 r1), .sl 2 (r71 r2)])] [.sl 1 (rX (cL (cI .i64) 1) s0_0), .sl 1 (rX (cI .i64) s0_1), .v (.int .i64 r3), .v (.int .i64 r4), .v (.int .i64 r5), .v (.int .i64 r6)]
 s_l0 : ∀ (s0_0 : List (List Int)) (s0_1 : List Int) (s0_2 : Int) (s0_3 : Int) (s0_4 : Int) (s0_5 : Int) (r1 : Int) (r2 : List (S71)) (r3 : Int) (r4 : Int) (r5 : Int) (r6 : Int) (w : World) (ro : Nat → Prop) (B : Nat) (_ : Fr TE (cx0 Tryd.f75 (some (105, [.sl 1 (rX (cL (cI .i64) 1) s0_0), .sl 1 (rX (cI .i64) s0_1), .v (.int .i64 s0_2), .v (.int .i64 s0_3), .v (.int .i64 s0_4), .v (.int .i64 s0_5)])) w ro B)) (x1 : Int) (x53 : Int) (x54 : Int) (x1002 : Int) (x1003 : Int) (x1004 : Int) (x1005 : Int) (x434000 : Int) (x438000 : Int) (x438001 : List (S71)) (_ : spec_l2Folder_next.l0 k x1 x53 x54 s0_0 s0_1 x1002 x1003 x1004 x1005 x438000 x438001 = some (r1, r2, r3, r4, r5, r6)), Kp (WS TE (cx0 Tryd.f75 (some (105, [.sl 1 (rX (cL (cI .i64) 1) s0_0), .sl 1 (rX (cI .i64) s0_1), .v (.int .i64 s0_2), .v (.int .i64 s0_3), .v (.int .i64 s0_4), .v (.int .i64 s0_5)])) w ro B) (stkAt [1, 1, 1, 1, 1, 0, 1, 0] [] (bodyOf Tryd.f75) []) ⟨[(0, .pt 0 0 0), (1, .v (.int .i64 x1)), (4, .pt 1004 0 0), (5, .pt 1005 0 0), (53, .v (.int .i64 x53)), (54, .v (.int .i64 x54))], [(0, .box 0 105 true [.sl 1 (rX (cL (cI .i64) 1) s0_0), .sl 1 (rX (cI .i64) s0_1), .v (.int .i64 x1002), .v (.int .i64 x1003), .v (.int .i64 x1004), .v (.int .i64 x1005)]), (1004, .box 0 71 false [.v (.int .i64 x434000), .v (.slice none 0 0)]), (3321, .own 0 71 2 (r71 x438001)), (1005, .box 0 71 false [.v (.int .i64 x438000), .ow 3321 0])]⟩ (RetQ TE Tryd.f75 (some (105, [.sl 1 (rX (cL (cI .i64) 1) s0_0), .sl 1 (rX (cI .i64) s0_1), .v (.int .i64 s0_2), .v (.int .i64 s0_3), .v (.int .i64 s0_4), .v (.int .i64 s0_5)])) [.ro (.ag [.v (.int .i64 r1), .sl 2 (r71 r2)])] [.sl 1 (rX (cL (cI .i64) 1) s0_0), .sl 1 (rX (cI .i64) s0_1), .v (.int .i64 r3), .v (.int .i64 r4), .v (.int .i64 r5), .v (.int .i64 r6)] w ro B))
set_option maxRecDepth 100000 in
set_option maxHeartbeats 4000000 in
theorem spec_l2Folder_next.c_f (k : Nat) (ih : Kp (∀ m, m < k → spec_l2Folder_next.C m)) (s0_0 : List (List Int)) (s0_1 : List Int) (s0_2 : Int) (s0_3 : Int) (s0_4 : Int) (s0_5 : Int) (a1 : Int) (r1 : Int) (r2 : List (S71)) (r3 : Int) (r4 : Int) (r5 : Int) (r6 : Int) (h : spec_l2Folder_next.f k s0_0 s0_1 s0_2 s0_3 s0_4 s0_5 a1 = some (r1, r2, r3, r4, r5, r6)) : Ctr TE 75 (some (105, [.sl 1 (rX (cL (cI .i64) 1) s0_0), .sl 1 (rX (cI .i64) s0_1), .v (.int .i64 s0_2), .v (.int .i64 s0_3), .v (.int .i64 s0_4), .v (.int .i64 s0_5)])) [.pt 0 0 0, .v (.int .i64 a1)] [.ro (.ag [.v (.int .i64 r1), .sl 2 (r71 r2)])] [.sl 1 (rX (cL (cI .i64) 1) s0_0), .sl 1 (rX (cI .i64) s0_1), .v (.int .i64 r3), .v (.int .i64 r4), .v (.int .i64 r5), .v (.int .i64 r6)] := by
 cases k with
 | zero => simp [spec_l2Folder_next.f] at h
 | succ k =>
 simp only [spec_l2Folder_next.f] at h
 refine ctr_of (fn := Tryd.f75) (c := (bodyOf Tryd.f75)) Tryd.func75 rfl (by kernel_rfl) (Nat.le_of_ble_eq_true (by kernel_rfl)) (fun w ro B hF _ => ?_)
 obtain ⟨y434, hy434, h⟩ := Option.bind_eq_some_iff.1 h
 cases hy434
 by_cases c1 : a1 = 0
 · rw [if_pos c1] at h
   by_cases c2 : a1 = (s0_0.length : Int)
   · rw [if_pos c2] at h
     by_cases c3 : 0 ≤ s0_2
     · rw [if_pos c3] at h
       by_cases c4 : s0_2 < (s0_1.length : Int)
       · rw [if_pos c4] at h
         refine path_ok (k := 17) hF (RetQ_mild _ _ _ _ _ _ _ _) (ds := [.p 7 ([]), .e 13 (.pt 0 0 2), .e 19 (.pt 0 0 2), .e 24 (.pt 0 0 2), .e 31 (.v (.int .i64 (s0_0.length : Int))), .b true, .e 39 (.rf [.v (.int .i64 (rd s0_1 s0_2))])]) (os := [.o [(0, 0), (1, 0), (2, 0), (3, 0), (4, 0), (5, 1), (6, 0), (7, 0), (8, 0), (9, 0), (10, 2)] [10]]) (c := none) rfl KD ?_
         cases h
         exact ret_as (ms := [.ro]) rfl KD
       · rw [if_neg c4] at h
         cases h
     · rw [if_neg c3] at h
       cases h
   · rw [if_neg c2] at h
     by_cases c5 : 0 ≤ a1
     · rw [if_pos c5] at h
       by_cases c6 : a1 < (s0_0.length : Int)
       · rw [if_pos c6] at h
         by_cases c7 : 0 ≤ s0_2
         · rw [if_pos c7] at h
           by_cases c8 : s0_2 < ((rd_L1 s0_0 a1).length : Int)
           · rw [if_pos c8] at h
             refine path_ok (k := 17) hF (RetQ_mild _ _ _ _ _ _ _ _) (ds := [.p 7 ([]), .e 13 (.pt 0 0 2), .e 19 (.pt 0 0 2), .e 24 (.pt 0 0 2), .e 31 (.v (.int .i64 (s0_0.length : Int))), .b false, .e 49 (.rf [.sl 1 (rX (cI .i64) (rd_L1 s0_0 a1))]), .e 52 (.rf [.v (.int .i64 (rd (rd_L1 s0_0 a1) s0_2))])]) (os := [.o [(0, 0), (1, 0), (2, 0), (3, 0), (4, 0), (5, 1), (6, 0), (7, 0), (8, 0), (9, 0), (10, 2)] [10]]) (c := none) rfl KD ?_
             exact WS.can [(0, some 0), (1004, some 4), (1005, some 5), (3321, some 7)] (((ih.out k (by omega)).s_l0 s0_0 s0_1 s0_2 s0_3 s0_4 s0_5 r1 r2 r3 r4 r5 r6 w ro B hF a1 (rd (rd_L1 s0_0 a1) s0_2) 0 (wrap64 (s0_2 + 1)) s0_3 s0_4 s0_5 0 0 (([] : List (S71))) h).out) KD
           · rw [if_neg c8] at h
             cases h
         · rw [if_neg c7] at h
           cases h
       · rw [if_neg c6] at h
         cases h
     · rw [if_neg c5] at h
       cases h
 · rw [if_neg c1] at h
   by_cases c9 : a1 = 1
   · rw [if_pos c9] at h
     by_cases c10 : a1 = (s0_0.length : Int)
     · rw [if_pos c10] at h
       by_cases c11 : 0 ≤ s0_3
       · rw [if_pos c11] at h
         by_cases c12 : s0_3 < (s0_1.length : Int)
         · rw [if_pos c12] at h
           refine path_ok (k := 17) hF (RetQ_mild _ _ _ _ _ _ _ _) (ds := [.p 7 ([]), .e 13 (.pt 0 0 3), .e 19 (.pt 0 0 3), .e 24 (.pt 0 0 3), .e 31 (.v (.int .i64 (s0_0.length : Int))), .b true, .e 39 (.rf [.v (.int .i64 (rd s0_1 s0_3))])]) (os := [.o [(0, 0), (1, 0), (2, 0), (3, 0), (4, 0), (5, 1), (6, 0), (7, 0), (8, 0), (9, 0), (10, 2)] [10]]) (c := none) rfl KD ?_
           cases h
           exact ret_as (ms := [.ro]) rfl KD
         · rw [if_neg c12] at h
           cases h
       · rw [if_neg c11] at h
         cases h
     · rw [if_neg c10] at h
       by_cases c13 : 0 ≤ a1
       · rw [if_pos c13] at h
         by_cases c14 : a1 < (s0_0.length : Int)
         · rw [if_pos c14] at h
           by_cases c15 : 0 ≤ s0_3
           · rw [if_pos c15] at h
             by_cases c16 : s0_3 < ((rd_L1 s0_0 a1).length : Int)
             · rw [if_pos c16] at h
               refine path_ok (k := 17) hF (RetQ_mild _ _ _ _ _ _ _ _) (ds := [.p 7 ([]), .e 13 (.pt 0 0 3), .e 19 (.pt 0 0 3), .e 24 (.pt 0 0 3), .e 31 (.v (.int .i64 (s0_0.length : Int))), .b false, .e 49 (.rf [.sl 1 (rX (cI .i64) (rd_L1 s0_0 a1))]), .e 52 (.rf [.v (.int .i64 (rd (rd_L1 s0_0 a1) s0_3))])]) (os := [.o [(0, 0), (1, 0), (2, 0), (3, 0), (4, 0), (5, 1), (6, 0), (7, 0), (8, 0), (9, 0), (10, 2)] [10]]) (c := none) rfl KD ?_
               exact WS.can [(0, some 0), (1004, some 4), (1005, some 5), (3321, some 7)] (((ih.out k (by omega)).s_l0 s0_0 s0_1 s0_2 s0_3 s0_4 s0_5 r1 r2 r3 r4 r5 r6 w ro B hF a1 (rd (rd_L1 s0_0 a1) s0_3) 0 s0_2 (wrap64 (s0_3 + 1)) s0_4 s0_5 0 0 (([] : List (S71))) h).out) KD
             · rw [if_neg c16] at h
               cases h
           · rw [if_neg c15] at h
             cases h
         · rw [if_neg c14] at h
           cases h
       · rw [if_neg c13] at h
         cases h
   · rw [if_neg c9] at h
     by_cases c17 : a1 = 2
     · rw [if_pos c17] at h
       by_cases c18 : a1 = (s0_0.length : Int)
       · rw [if_pos c18] at h
         by_cases c19 : 0 ≤ s0_4
         · rw [if_pos c19] at h
           by_cases c20 : s0_4 < (s0_1.length : Int)
           · rw [if_pos c20] at h
             refine path_ok (k := 17) hF (RetQ_mild _ _ _ _ _ _ _ _) (ds := [.p 7 ([]), .e 13 (.pt 0 0 4), .e 19 (.pt 0 0 4), .e 24 (.pt 0 0 4), .e 31 (.v (.int .i64 (s0_0.length : Int))), .b true, .e 39 (.rf [.v (.int .i64 (rd s0_1 s0_4))])]) (os := [.o [(0, 0), (1, 0), (2, 0), (3, 0), (4, 0), (5, 1), (6, 0), (7, 0), (8, 0), (9, 0), (10, 2)] [10]]) (c := none) rfl KD ?_
             cases h
             exact ret_as (ms := [.ro]) rfl KD
           · rw [if_neg c20] at h
             cases h
         · rw [if_neg c19] at h
           cases h
       · rw [if_neg c18] at h
         by_cases c21 : 0 ≤ a1
         · rw [if_pos c21] at h
           by_cases c22 : a1 < (s0_0.length : Int)
           · rw [if_pos c22] at h
             by_cases c23 : 0 ≤ s0_4
             · rw [if_pos c23] at h
               by_cases c24 : s0_4 < ((rd_L1 s0_0 a1).length : Int)
               · rw [if_pos c24] at h
                 refine path_ok (k := 17) hF (RetQ_mild _ _ _ _ _ _ _ _) (ds := [.p 7 ([]), .e 13 (.pt 0 0 4), .e 19 (.pt 0 0 4), .e 24 (.pt 0 0 4), .e 31 (.v (.int .i64 (s0_0.length : Int))), .b false, .e 49 (.rf [.sl 1 (rX (cI .i64) (rd_L1 s0_0 a1))]), .e 52 (.rf [.v (.int .i64 (rd (rd_L1 s0_0 a1) s0_4))])]) (os := [.o [(0, 0), (1, 0), (2, 0), (3, 0), (4, 0), (5, 1), (6, 0), (7, 0), (8, 0), (9, 0), (10, 2)] [10]]) (c := none) rfl KD ?_
                 exact WS.can [(0, some 0), (1004, some 4), (1005, some 5), (3321, some 7)] (((ih.out k (by omega)).s_l0 s0_0 s0_1 s0_2 s0_3 s0_4 s0_5 r1 r2 r3 r4 r5 r6 w ro B hF a1 (rd (rd_L1 s0_0 a1) s0_4) 0 s0_2 s0_3 (wrap64 (s0_4 + 1)) s0_5 0 0 (([] : List (S71))) h).out) KD
               · rw [if_neg c24] at h
                 cases h
             · rw [if_neg c23] at h
               cases h
           · rw [if_neg c22] at h
             cases h
         · rw [if_neg c21] at h
           cases h
     · rw [if_neg c17] at h
       by_cases c25 : a1 = 3
       · rw [if_pos c25] at h
         by_cases c26 : a1 = (s0_0.length : Int)
         · rw [if_pos c26] at h
           by_cases c27 : 0 ≤ s0_5
           · rw [if_pos c27] at h
             by_cases c28 : s0_5 < (s0_1.length : Int)
             · rw [if_pos c28] at h
               refine path_ok (k := 17) hF (RetQ_mild _ _ _ _ _ _ _ _) (ds := [.p 7 ([]), .e 13 (.pt 0 0 5), .e 19 (.pt 0 0 5), .e 24 (.pt 0 0 5), .e 31 (.v (.int .i64 (s0_0.length : Int))), .b true, .e 39 (.rf [.v (.int .i64 (rd s0_1 s0_5))])]) (os := [.o [(0, 0), (1, 0), (2, 0), (3, 0), (4, 0), (5, 1), (6, 0), (7, 0), (8, 0), (9, 0), (10, 2)] [10]]) (c := none) rfl KD ?_
               cases h
               exact ret_as (ms := [.ro]) rfl KD
             · rw [if_neg c28] at h
               cases h
           · rw [if_neg c27] at h
             cases h
         · rw [if_neg c26] at h
           by_cases c29 : 0 ≤ a1
           · rw [if_pos c29] at h
             by_cases c30 : a1 < (s0_0.length : Int)
             · rw [if_pos c30] at h
               by_cases c31 : 0 ≤ s0_5
               · rw [if_pos c31] at h
                 by_cases c32 : s0_5 < ((rd_L1 s0_0 a1).length : Int)
                 · rw [if_pos c32] at h
                   refine path_ok (k := 17) hF (RetQ_mild _ _ _ _ _ _ _ _) (ds := [.p 7 ([]), .e 13 (.pt 0 0 5), .e 19 (.pt 0 0 5), .e 24 (.pt 0 0 5), .e 31 (.v (.int .i64 (s0_0.length : Int))), .b false, .e 49 (.rf [.sl 1 (rX (cI .i64) (rd_L1 s0_0 a1))]), .e 52 (.rf [.v (.int .i64 (rd (rd_L1 s0_0 a1) s0_5))])]) (os := [.o [(0, 0), (1, 0), (2, 0), (3, 0), (4, 0), (5, 1), (6, 0), (7, 0), (8, 0), (9, 0), (10, 2)] [10]]) (c := none) rfl KD ?_
                   exact WS.can [(0, some 0), (1004, some 4), (1005, some 5), (3321, some 7)] (((ih.out k (by omega)).s_l0 s0_0 s0_1 s0_2 s0_3 s0_4 s0_5 r1 r2 r3 r4 r5 r6 w ro B hF a1 (rd (rd_L1 s0_0 a1) s0_5) 0 s0_2 s0_3 s0_4 (wrap64 (s0_5 + 1)) 0 0 (([] : List (S71))) h).out) KD
                 · rw [if_neg c32] at h
                   cases h
               · rw [if_neg c31] at h
                 cases h
             · rw [if_neg c30] at h
               cases h
           · rw [if_neg c29] at h
             cases h
       · rw [if_neg c25] at h
         cases h
set_option maxRecDepth 100000 in
set_option maxHeartbeats 4000000 in
theorem spec_l2Folder_next.c_l0 (k : Nat) (ih : Kp (∀ m, m < k → spec_l2Folder_next.C m)) (s0_0 : List (List Int)) (s0_1 : List Int) (s0_2 : Int) (s0_3 : Int) (s0_4 : Int) (s0_5 : Int) (r1 : Int) (r2 : List (S71)) (r3 : Int) (r4 : Int) (r5 : Int) (r6 : Int) (w : World) (ro : Nat → Prop) (B : Nat) (hF : Fr TE (cx0 Tryd.f75 (some (105, [.sl 1 (rX (cL (cI .i64) 1) s0_0), .sl 1 (rX (cI .i64) s0_1), .v (.int .i64 s0_2), .v (.int .i64 s0_3), .v (.int .i64 s0_4), .v (.int .i64 s0_5)])) w ro B)) (x1 : Int) (x53 : Int) (x54 : Int) (x1002 : Int) (x1003 : Int) (x1004 : Int) (x1005 : Int) (x434000 : Int) (x438000 : Int) (x438001 : List (S71)) (h : spec_l2Folder_next.l0 k x1 x53 x54 s0_0 s0_1 x1002 x1003 x1004 x1005 x438000 x438001 = some (r1, r2, r3, r4, r5, r6)) : Kp (WS TE (cx0 Tryd.f75 (some (105, [.sl 1 (rX (cL (cI .i64) 1) s0_0), .sl 1 (rX (cI .i64) s0_1), .v (.int .i64 s0_2), .v (.int .i64 s0_3), .v (.int .i64 s0_4), .v (.int .i64 s0_5)])) w ro B) (stkAt [1, 1, 1, 1, 1, 0, 1, 0] [] (bodyOf Tryd.f75) []) ⟨[(0, .pt 0 0 0), (1, .v (.int .i64 x1)), (4, .pt 1004 0 0), (5, .pt 1005 0 0), (53, .v (.int .i64 x53)), (54, .v (.int .i64 x54))], [(0, .box 0 105 true [.sl 1 (rX (cL (cI .i64) 1) s0_0), .sl 1 (rX (cI .i64) s0_1), .v (.int .i64 x1002), .v (.int .i64 x1003), .v (.int .i64 x1004), .v (.int .i64 x1005)]), (1004, .box 0 71 false [.v (.int .i64 x434000), .v (.slice none 0 0)]), (3321, .own 0 71 2 (r71 x438001)), (1005, .box 0 71 false [.v (.int .i64 x438000), .ow 3321 0])]⟩ (RetQ TE Tryd.f75 (some (105, [.sl 1 (rX (cL (cI .i64) 1) s0_0), .sl 1 (rX (cI .i64) s0_1), .v (.int .i64 s0_2), .v (.int .i64 s0_3), .v (.int .i64 s0_4), .v (.int .i64 s0_5)])) [.ro (.ag [.v (.int .i64 r1), .sl 2 (r71 r2)])] [.sl 1 (rX (cL (cI .i64) 1) s0_0), .sl 1 (rX (cI .i64) s0_1), .v (.int .i64 r3), .v (.int .i64 r4), .v (.int .i64 r5), .v (.int .i64 r6)] w ro B)) := by
 refine ⟨WS.loop (fun m σ => m ≤ k ∧ spec_l2Folder_next.I0 s0_0 s0_1 s0_2 s0_3 s0_4 s0_5 r1 r2 r3 r4 r5 r6 m σ) k ⟨Nat.le_refl k, x1, x53, x54, x1002, x1003, x1004, x1005, x434000, x438000, x438001, h, rfl⟩ (fun m σ' hI J0 hJ0 => ?_)⟩
 clear h
 obtain ⟨hk, x1, x53, x54, x1002, x1003, x1004, x1005, x434000, x438000, x438001, h, rfl⟩ := hI
 cases m with
 | zero => simp [spec_l2Folder_next.l0] at h
 | succ k' =>
 simp only [spec_l2Folder_next.l0] at h
 by_cases c33 : x54 < x53
 · rw [if_pos c33] at h
   obtain ⟨⟨t441, t442, t445, t446, t447, t448⟩, q34, h⟩ := Option.bind_eq_some_iff.1 h
   dsimp only at h
   have q34c := (ih.out k' (by omega)).s_f _ _ _ _ _ _ _ _ _ _ _ _ _ q34
   by_cases c35 : x438001.length < 4398046511104
   · rw [if_pos c35] at h
     refine path_ok (k := 10) hF (RetQ_mild _ _ _ _ _ _ _ _) (ds := [.b true]) (os := [.p 1023 [⟨0, 10, true, [0]⟩, ⟨1, 9, true, [2]⟩, ⟨5, 8, true, [3]⟩, ⟨13, 7, true, [4]⟩, ⟨29, 6, false, [1, 5]⟩, ⟨31, 5, false, [5]⟩, ⟨61, 5, false, [1, 6]⟩, ⟨63, 4, false, [6]⟩, ⟨125, 4, false, [1]⟩, ⟨127, 3, false, [7]⟩, ⟨255, 2, true, [8]⟩, ⟨511, 1, false, [9]⟩] [(0, true), (2, true), (3, true), (4, true), (1, false), (5, false), (6, false), (7, false), (8, true), (9, false)] [(5, [.r [.ro (.ag [.v (.int .i64 t441), .sl 2 (r71 t442)])] [.sl 1 (rX (cL (cI .i64) 1) s0_0), .sl 1 (rX (cI .i64) s0_1), .v (.int .i64 t445), .v (.int .i64 t446), .v (.int .i64 t447), .v (.int .i64 t448)]]), (6, [.p 62 ([[.v (.int .i64 t441), .sl 2 (r71 t442)]])]), (7, [.o 63 (r71 (x438001 ++ [(⟨t441, t442⟩ : S71)]))])]]) (c := none) rfl KD ?_
     exact WS.lpc [(0, some 0), (1004, some 1004), (1005, some 1005), (3321, some 3321)] (hJ0 _ _ (Nat.lt_succ_self _) ⟨by omega, x1, x53, (wrap64 (x54 + 1)), t445, t446, t447, t448, x434000, x438000, (x438001 ++ [(⟨t441, t442⟩ : S71)]), h, rfl⟩) KD
   · rw [if_neg c35] at h
     cases h
 · rw [if_neg c33] at h
   refine path_ok (k := 8) hF (RetQ_mild _ _ _ _ _ _ _ _) (ds := [.b false]) (os := []) (c := none) rfl KD ?_
   cases h
   exact ret_as (ms := [.ro]) rfl KD
theorem spec_l2Folder_next.cs (k : Nat) : spec_l2Folder_next.C k := by
 induction k using Nat.strongRecOn with
 | _ k ih0 =>
 have ih : Kp (∀ m, m < k → spec_l2Folder_next.C m) := ⟨ih0⟩
 exact ⟨spec_l2Folder_next.c_f k ih, spec_l2Folder_next.c_l0 k ih⟩
theorem spec_l2Folder_next.ctr (k : Nat) (s0_0 : List (List Int)) (s0_1 : List Int) (s0_2 : Int) (s0_3 : Int) (s0_4 : Int) (s0_5 : Int) (a1 : Int) (r1 : Int) (r2 : List (S71)) (r3 : Int) (r4 : Int) (r5 : Int) (r6 : Int) (h : spec_l2Folder_next.f k s0_0 s0_1 s0_2 s0_3 s0_4 s0_5 a1 = some (r1, r2, r3, r4, r5, r6)) : Ctr TE 75 (some (105, [.sl 1 (rX (cL (cI .i64) 1) s0_0), .sl 1 (rX (cI .i64) s0_1), .v (.int .i64 s0_2), .v (.int .i64 s0_3), .v (.int .i64 s0_4), .v (.int .i64 s0_5)])) [.pt 0 0 0, .v (.int .i64 a1)] [.ro (.ag [.v (.int .i64 r1), .sl 2 (r71 r2)])] [.sl 1 (rX (cL (cI .i64) 1) s0_0), .sl 1 (rX (cI .i64) s0_1), .v (.int .i64 r3), .v (.int .i64 r4), .v (.int .i64 r5), .v (.int .i64 r6)] := (spec_l2Folder_next.cs k).s_f s0_0 s0_1 s0_2 s0_3 s0_4 s0_5 a1 r1 r2 r3 r4 r5 r6 h
def spec_l2Fold.f (k : Nat) (l0_0 : List (List Int)) (l0_1 : List Int) : Option (Int × (List (S71))) := (spec_l2Folder_next.f k l0_0 l0_1 0 0 0 0 0).bind fun bt464 => (some (bt464.1, bt464.2.1))
set_option maxRecDepth 100000 in
set_option maxHeartbeats 4000000 in
theorem spec_l2Fold.ctr (k : Nat) (l0_0 : List (List Int)) (l0_1 : List Int) (r1 : Int) (r2 : List (S71)) (h : spec_l2Fold.f k l0_0 l0_1 = some (r1, r2)) : Ctr TE 42 none [.ag [.sl 1 (rX (cL (cI .i64) 1) l0_0), .sl 1 (rX (cI .i64) l0_1)]] [.ro (.ag [.v (.int .i64 r1), .sl 2 (r71 r2)])] [] := by
 refine ctr_of (fn := Tryd.f42) (c := (bodyOf Tryd.f42)) Tryd.func42 rfl (by kernel_rfl) (Nat.le_of_ble_eq_true (by kernel_rfl)) (fun w ro B hF _ => ?_)
 simp only [spec_l2Fold.f] at h
 obtain ⟨⟨t464, t465, t468, t469, t470, t471⟩, q1, h⟩ := Option.bind_eq_some_iff.1 h
 dsimp only at h
 have q1c := spec_l2Folder_next.ctr k _ _ _ _ _ _ _ _ _ _ _ _ _ q1
 refine path_ok (k := 7) hF (RetQ_mild _ _ _ _ _ _ _ _) (ds := [.r [.ro (.ag [.v (.int .i64 t464), .sl 2 (r71 t465)])] [.sl 1 (rX (cL (cI .i64) 1) l0_0), .sl 1 (rX (cI .i64) l0_1), .v (.int .i64 t468), .v (.int .i64 t469), .v (.int .i64 t470), .v (.int .i64 t471)]]) (os := []) (c := none) rfl KD ?_
 cases h
 exact ret_as (ms := [.ro]) rfl KD
def spec_FoldUp.f (k : Nat) (l0_0 : List (List Int)) (l0_1 : List Int) : Option (ByteArray × Bool) := (spec_LayoutValid.f k l0_0 l0_1).bind fun t473 => (if t473 = true then ((spec_l2Fold.f k l0_0 l0_1).bind fun bt474 => ((spec_l1Told.f k bt474.1 bt474.2 (l0_0.length : Int)).bind fun bt478 => (some (bt478.1, bt478.2)))) else (some ((⟨#[]⟩ : ByteArray), false)))
set_option maxRecDepth 100000 in
set_option maxHeartbeats 4000000 in
theorem spec_FoldUp.ctr (k : Nat) (l0_0 : List (List Int)) (l0_1 : List Int) (r1 : ByteArray) (r2 : Bool) (h : spec_FoldUp.f k l0_0 l0_1 = some (r1, r2)) : Ctr TE 9 none [.ag [.sl 1 (rX (cL (cI .i64) 1) l0_0), .sl 1 (rX (cI .i64) l0_1)]] [.ro (.v (.string r1)), .ro (.v (.bool r2))] [] := by
 refine ctr_of (fn := Tryd.f9) (c := (bodyOf Tryd.f9)) Tryd.func9 rfl (by kernel_rfl) (Nat.le_of_ble_eq_true (by kernel_rfl)) (fun w ro B hF _ => ?_)
 simp only [spec_FoldUp.f] at h
 obtain ⟨t473, q1, h⟩ := Option.bind_eq_some_iff.1 h
 have q1c := spec_LayoutValid.ctr k _ _ _ q1
 by_cases c2 : t473 = true
 · rw [if_pos c2] at h
   obtain ⟨⟨t474, t475⟩, q3, h⟩ := Option.bind_eq_some_iff.1 h
   dsimp only at h
   have q3c := spec_l2Fold.ctr k _ _ _ _ q3
   obtain ⟨⟨t478, t479⟩, q4, h⟩ := Option.bind_eq_some_iff.1 h
   dsimp only at h
   have q4c := spec_l1Told.ctr k _ _ _ _ _ q4
   refine path_ok (k := 10) hF (RetQ_mild _ _ _ _ _ _ _ _) (ds := [.r [.ro (.v (.bool t473))] [], .b false, .e 11 (.v (.int .i64 (l0_0.length : Int))), .r [.ro (.ag [.v (.int .i64 t474), .sl 2 (r71 t475)])] [], .r [.ro (.v (.string t478)), .ro (.v (.bool t479))] []]) (os := [.o [(0, 1), (2, 0), (3, 1), (4, 0), (1, 2), (5, 2), (6, 0), (7, 0), (8, 0), (9, 0)] []]) (c := none) rfl KD ?_
   cases h
   exact ret_as (ms := [.ro, .ro]) rfl KD
 · rw [if_neg c2] at h
   refine path_ok (k := 9) hF (RetQ_mild _ _ _ _ _ _ _ _) (ds := [.r [.ro (.v (.bool t473))] [], .b true]) (os := []) (c := none) rfl KD ?_
   cases h
   exact ret_as (ms := [.ro, .ro]) rfl KD
def impl_WhatIsWrong.f (k : Nat) (l0_0 : List (List Int)) (l0_1 : List Int) : Option (Int) := (impl_wrong.f k l0_0 l0_1 1).bind fun t481 => (some t481)
set_option maxRecDepth 100000 in
set_option maxHeartbeats 4000000 in
theorem impl_WhatIsWrong.ctr (k : Nat) (l0_0 : List (List Int)) (l0_1 : List Int) (r : Int) (h : impl_WhatIsWrong.f k l0_0 l0_1 = some r) : Ctr TE 10 none [.ag [.sl 1 (rX (cL (cI .i64) 1) l0_0), .sl 1 (rX (cI .i64) l0_1)]] [.ro (.v (.int .i64 r))] [] := by
 refine ctr_of (fn := Tryd.f10) (c := (bodyOf Tryd.f10)) Tryd.func10 rfl (by kernel_rfl) (Nat.le_of_ble_eq_true (by kernel_rfl)) (fun w ro B hF _ => ?_)
 simp only [impl_WhatIsWrong.f] at h
 obtain ⟨t481, q1, h⟩ := Option.bind_eq_some_iff.1 h
 have q1c := impl_wrong.ctr k _ _ _ _ q1
 refine path_ok (k := 5) hF (RetQ_mild _ _ _ _ _ _ _ _) (ds := [.r [.ro (.v (.int .i64 t481))] []]) (os := []) (c := none) rfl KD ?_
 cases h
 exact ret_as (ms := [.ro]) rfl KD
end Go.Proofs.YtidpankoobdfjaaDoor.U
