/- A part of the claim. -/
import Derived.Test.YtidpankoobdfjaaGreatDoorLFx0
import Derived.Test.YtidpankoobdfjaaGreatDoorLFx1
import Derived.Test.YtidpankoobdfjaaGreatDoorLFx3
-- PRINTED by print.py (a twelfth state) out of the translation. Not trusted: Lean checks it.
namespace Go.Proofs.YtidpankoobdfjaaGreatDoor.L
open Go.RowKit Go.Proofs.YtidpankoobdfjaaGreatDoorW.St Go.Proofs.YtidpankoobdfjaaGreatDoorW.PrintWords Go.Proofs.YtidpankoobdfjaaGreatDoorW.PrintLast Go.Proofs.YtidpankoobdfjaaGreatDoorW.PrintMore
attribute [local go_sem] max2_int min2_int max_two min_two max_three min_three max_four min_four   -- for this text's walks alone
set_option linter.unusedVariables false
set_option linter.unusedSimpArgs false
def spec_l2Numbers.l0 : Nat → ByteArray → List Int → Int → Int → Option (ByteArray)
  | 0, _, _, _, _ => none
  | k + 1, x3, x6, x7, x8 => if x8 < x7 then (if 0 ≤ x8 then (if x8 < (x6.length : Int) then (if x8 > 0 then (if x3.size + 1 ≤ 9223372036854775807 then ((spec_l13Dec.f k (rd x6 x8)).bind fun t392 => (if x3.size + 1 + t392.size ≤ 9223372036854775807 then (spec_l2Numbers.l0 k ((x3 ++ (⟨#[32]⟩ : ByteArray)) ++ t392) x6 x7 (wrap64 (x8 + 1))) else (none))) else (none)) else ((spec_l13Dec.f k (rd x6 x8)).bind fun t393 => (if x3.size + t393.size ≤ 9223372036854775807 then (spec_l2Numbers.l0 k (x3 ++ t393) x6 x7 (wrap64 (x8 + 1))) else (none)))) else (none)) else (none)) else (if x3.toList = ([] : List UInt8) then (some (⟨#[45]⟩ : ByteArray)) else (some x3))
def spec_l2Numbers.f (k : Nat) (l0 : List Int) : Option (ByteArray) := spec_l2Numbers.l0 k (⟨#[]⟩ : ByteArray) l0 (l0.length : Int) 0
def spec_l2Numbers.I0 (r : ByteArray) (m : Nat) (σ : St) : Prop := ∃ (x3 : ByteArray) (x6 : List Int) (x7 : Int) (x8 : Int), spec_l2Numbers.l0 m x3 x6 x7 x8 = some r ∧ σ = ⟨[(3, .v (.string x3)), (6, .sl 1 (rX (cI .i64) x6)), (7, .v (.int .i64 x7)), (8, .v (.int .i64 x8))], []⟩
structure spec_l2Numbers.C (k : Nat) : Prop where
 s_l0 : ∀ (r : ByteArray) (w : World) (ro : Nat → Prop) (B : Nat) (_ : Fr TE (cx0 Tryz.f80 none w ro B)) (x3 : ByteArray) (x6 : List Int) (x7 : Int) (x8 : Int) (_ : spec_l2Numbers.l0 k x3 x6 x7 x8 = some r), Kp (WS TE (cx0 Tryz.f80 none w ro B) (stkAt [1, 1, 0, 1, 0] [] (bodyOf Tryz.f80) []) ⟨[(3, .v (.string x3)), (6, .sl 1 (rX (cI .i64) x6)), (7, .v (.int .i64 x7)), (8, .v (.int .i64 x8))], []⟩ (RetQ TE Tryz.f80 none [.ro (.v (.string r))] [] w ro B))
set_option maxRecDepth 100000 in
set_option maxHeartbeats 4000000 in
theorem spec_l2Numbers.c_l0 (k : Nat) (ih : Kp (∀ m, m < k → spec_l2Numbers.C m)) (r : ByteArray) (w : World) (ro : Nat → Prop) (B : Nat) (hF : Fr TE (cx0 Tryz.f80 none w ro B)) (x3 : ByteArray) (x6 : List Int) (x7 : Int) (x8 : Int) (h : spec_l2Numbers.l0 k x3 x6 x7 x8 = some r) : Kp (WS TE (cx0 Tryz.f80 none w ro B) (stkAt [1, 1, 0, 1, 0] [] (bodyOf Tryz.f80) []) ⟨[(3, .v (.string x3)), (6, .sl 1 (rX (cI .i64) x6)), (7, .v (.int .i64 x7)), (8, .v (.int .i64 x8))], []⟩ (RetQ TE Tryz.f80 none [.ro (.v (.string r))] [] w ro B)) := by
 refine ⟨WS.loop (fun m σ => m ≤ k ∧ spec_l2Numbers.I0 r m σ) k ⟨Nat.le_refl k, x3, x6, x7, x8, h, rfl⟩ (fun m σ' hI J0 hJ0 => ?_)⟩
 clear h
 obtain ⟨hk, x3, x6, x7, x8, h, rfl⟩ := hI
 cases m with
 | zero => simp [spec_l2Numbers.l0] at h
 | succ k' =>
 simp only [spec_l2Numbers.l0] at h
 by_cases c1 : x8 < x7
 · rw [if_pos c1] at h
   by_cases c2 : 0 ≤ x8
   · rw [if_pos c2] at h
     by_cases c3 : x8 < (x6.length : Int)
     · rw [if_pos c3] at h
       by_cases c4 : x8 > 0
       · rw [if_pos c4] at h
         by_cases c5 : x3.size + 1 ≤ 9223372036854775807
         · rw [if_pos c5] at h
           obtain ⟨t392, q6, h⟩ := Option.bind_eq_some_iff.1 h
           have q6c := spec_l13Dec.ctr k' _ _ q6
           by_cases c7 : x3.size + 1 + t392.size ≤ 9223372036854775807
           · rw [if_pos c7] at h
             refine path_ok (k := 17) hF (RetQ_mild _ _ _ _ _ _ _ _) (ds := [.b true, .e 11 (.rf [.v (.int .i64 (rd x6 x8))]), .b true, .r [.ro (.v (.string t392))] []]) (os := []) (c := none) rfl KD ?_
             exact WS.lpc [] (hJ0 _ _ (Nat.lt_succ_self _) ⟨by omega, ((x3 ++ (⟨#[32]⟩ : ByteArray)) ++ t392), x6, x7, (wrap64 (x8 + 1)), h, rfl⟩) KD
           · rw [if_neg c7] at h
             cases h
         · rw [if_neg c5] at h
           cases h
       · rw [if_neg c4] at h
         obtain ⟨t393, q8, h⟩ := Option.bind_eq_some_iff.1 h
         have q8c := spec_l13Dec.ctr k' _ _ q8
         by_cases c9 : x3.size + t393.size ≤ 9223372036854775807
         · rw [if_pos c9] at h
           refine path_ok (k := 17) hF (RetQ_mild _ _ _ _ _ _ _ _) (ds := [.b true, .e 11 (.rf [.v (.int .i64 (rd x6 x8))]), .b false, .r [.ro (.v (.string t393))] []]) (os := []) (c := none) rfl KD ?_
           exact WS.lpc [] (hJ0 _ _ (Nat.lt_succ_self _) ⟨by omega, (x3 ++ t393), x6, x7, (wrap64 (x8 + 1)), h, rfl⟩) KD
         · rw [if_neg c9] at h
           cases h
     · rw [if_neg c3] at h
       cases h
   · rw [if_neg c2] at h
     cases h
 · rw [if_neg c1] at h
   by_cases c10 : x3.toList = ([] : List UInt8)
   · rw [if_pos c10] at h
     refine path_ok (k := 12) hF (RetQ_mild _ _ _ _ _ _ _ _) (ds := [.b false, .b true]) (os := []) (c := none) rfl KD ?_
     cases h
     exact ret_as (ms := [.ro]) rfl KD
   · rw [if_neg c10] at h
     refine path_ok (k := 13) hF (RetQ_mild _ _ _ _ _ _ _ _) (ds := [.b false, .b false]) (os := []) (c := none) rfl KD ?_
     cases h
     exact ret_as (ms := [.ro]) rfl KD
theorem spec_l2Numbers.cs (k : Nat) : spec_l2Numbers.C k := by
 induction k using Nat.strongRecOn with
 | _ k ih0 =>
 have ih : Kp (∀ m, m < k → spec_l2Numbers.C m) := ⟨ih0⟩
 exact ⟨spec_l2Numbers.c_l0 k ih⟩
set_option maxRecDepth 100000 in
set_option maxHeartbeats 4000000 in
theorem spec_l2Numbers.ctr (k : Nat) (l0 : List Int) (r : ByteArray) (h : spec_l2Numbers.f k l0 = some r) : Ctr TE 80 none [.sl 1 (rX (cI .i64) l0)] [.ro (.v (.string r))] [] := by
 refine ctr_of (fn := Tryz.f80) (c := (bodyOf Tryz.f80)) Tryz.func80 rfl (by kernel_rfl) (Nat.le_of_ble_eq_true (by kernel_rfl)) (fun w ro B hF _ => ?_)
 have ih : Kp (∀ m, m < k + 1 → spec_l2Numbers.C m) := ⟨fun m _ => spec_l2Numbers.cs m⟩
 simp only [spec_l2Numbers.f] at h
 refine path_ok (k := 8) hF (RetQ_mild _ _ _ _ _ _ _ _) (ds := [.e 7 (.v (.int .i64 (l0.length : Int)))]) (os := []) (c := none) rfl KD ?_
 exact WS.can [] (((ih.out k (by omega)).s_l0  r w ro B hF (⟨#[]⟩ : ByteArray) l0 (l0.length : Int) 0 h).out) KD
def spec_FormatLayout.l0 : Nat → ByteArray → List (List Int) → Int → Int → List (List Int) → List Int → Option (ByteArray)
  | 0, _, _, _, _, _, _ => none
  | k + 1, x3, x7, x8, x9, x395000, x395001 => if x9 < x8 then (if 0 ≤ x9 then (if x9 < (x7.length : Int) then ((spec_l2Numbers.f k (rd_L1 x7 x9)).bind fun t396 => (if x3.size + t396.size ≤ 9223372036854775807 then (if x3.size + t396.size + 1 ≤ 9223372036854775807 then (spec_FormatLayout.l0 k ((x3 ++ t396) ++ (⟨#[124]⟩ : ByteArray)) x7 x8 (wrap64 (x9 + 1)) x395000 x395001) else (none)) else (none))) else (none)) else (none)) else ((spec_l2Numbers.f k x395001).bind fun t397 => (if x3.size + t397.size ≤ 9223372036854775807 then (some (x3 ++ t397)) else (none)))
def spec_FormatLayout.f (k : Nat) (l0_0 : List (List Int)) (l0_1 : List Int) : Option (ByteArray) := spec_FormatLayout.l0 k (⟨#[]⟩ : ByteArray) l0_0 (l0_0.length : Int) 0 l0_0 l0_1
def spec_FormatLayout.I0 (r : ByteArray) (m : Nat) (σ : St) : Prop := ∃ (x3 : ByteArray) (x7 : List (List Int)) (x8 : Int) (x9 : Int) (x395000 : List (List Int)) (x395001 : List Int), spec_FormatLayout.l0 m x3 x7 x8 x9 x395000 x395001 = some r ∧ σ = ⟨[(1, .pt 1001 0 0), (3, .v (.string x3)), (7, .sl 1 (rX (cL (cI .i64) 1) x7)), (8, .v (.int .i64 x8)), (9, .v (.int .i64 x9))], [(1001, .box 0 29 false [.sl 1 (rX (cL (cI .i64) 1) x395000), .sl 1 (rX (cI .i64) x395001)])]⟩
structure spec_FormatLayout.C (k : Nat) : Prop where
 s_l0 : ∀ (r : ByteArray) (w : World) (ro : Nat → Prop) (B : Nat) (_ : Fr TE (cx0 Tryz.f32 none w ro B)) (x3 : ByteArray) (x7 : List (List Int)) (x8 : Int) (x9 : Int) (x395000 : List (List Int)) (x395001 : List Int) (_ : spec_FormatLayout.l0 k x3 x7 x8 x9 x395000 x395001 = some r), Kp (WS TE (cx0 Tryz.f32 none w ro B) (stkAt [1, 1, 0, 1, 0] [] (bodyOf Tryz.f32) []) ⟨[(1, .pt 1001 0 0), (3, .v (.string x3)), (7, .sl 1 (rX (cL (cI .i64) 1) x7)), (8, .v (.int .i64 x8)), (9, .v (.int .i64 x9))], [(1001, .box 0 29 false [.sl 1 (rX (cL (cI .i64) 1) x395000), .sl 1 (rX (cI .i64) x395001)])]⟩ (RetQ TE Tryz.f32 none [.ro (.v (.string r))] [] w ro B))
set_option maxRecDepth 100000 in
set_option maxHeartbeats 4000000 in
theorem spec_FormatLayout.c_l0 (k : Nat) (ih : Kp (∀ m, m < k → spec_FormatLayout.C m)) (r : ByteArray) (w : World) (ro : Nat → Prop) (B : Nat) (hF : Fr TE (cx0 Tryz.f32 none w ro B)) (x3 : ByteArray) (x7 : List (List Int)) (x8 : Int) (x9 : Int) (x395000 : List (List Int)) (x395001 : List Int) (h : spec_FormatLayout.l0 k x3 x7 x8 x9 x395000 x395001 = some r) : Kp (WS TE (cx0 Tryz.f32 none w ro B) (stkAt [1, 1, 0, 1, 0] [] (bodyOf Tryz.f32) []) ⟨[(1, .pt 1001 0 0), (3, .v (.string x3)), (7, .sl 1 (rX (cL (cI .i64) 1) x7)), (8, .v (.int .i64 x8)), (9, .v (.int .i64 x9))], [(1001, .box 0 29 false [.sl 1 (rX (cL (cI .i64) 1) x395000), .sl 1 (rX (cI .i64) x395001)])]⟩ (RetQ TE Tryz.f32 none [.ro (.v (.string r))] [] w ro B)) := by
 refine ⟨WS.loop (fun m σ => m ≤ k ∧ spec_FormatLayout.I0 r m σ) k ⟨Nat.le_refl k, x3, x7, x8, x9, x395000, x395001, h, rfl⟩ (fun m σ' hI J0 hJ0 => ?_)⟩
 clear h
 obtain ⟨hk, x3, x7, x8, x9, x395000, x395001, h, rfl⟩ := hI
 cases m with
 | zero => simp [spec_FormatLayout.l0] at h
 | succ k' =>
 simp only [spec_FormatLayout.l0] at h
 by_cases c1 : x9 < x8
 · rw [if_pos c1] at h
   by_cases c2 : 0 ≤ x9
   · rw [if_pos c2] at h
     by_cases c3 : x9 < (x7.length : Int)
     · rw [if_pos c3] at h
       obtain ⟨t396, q4, h⟩ := Option.bind_eq_some_iff.1 h
       have q4c := spec_l2Numbers.ctr k' _ _ q4
       by_cases c5 : x3.size + t396.size ≤ 9223372036854775807
       · rw [if_pos c5] at h
         by_cases c6 : x3.size + t396.size + 1 ≤ 9223372036854775807
         · rw [if_pos c6] at h
           refine path_ok (k := 12) hF (RetQ_mild _ _ _ _ _ _ _ _) (ds := [.b true, .e 11 (.rf [.sl 1 (rX (cI .i64) (rd_L1 x7 x9))]), .r [.ro (.v (.string t396))] []]) (os := []) (c := none) rfl KD ?_
           exact WS.lpc [(1001, some 1001)] (hJ0 _ _ (Nat.lt_succ_self _) ⟨by omega, ((x3 ++ t396) ++ (⟨#[124]⟩ : ByteArray)), x7, x8, (wrap64 (x9 + 1)), x395000, x395001, h, rfl⟩) KD
         · rw [if_neg c6] at h
           cases h
       · rw [if_neg c5] at h
         cases h
     · rw [if_neg c3] at h
       cases h
   · rw [if_neg c2] at h
     cases h
 · rw [if_neg c1] at h
   obtain ⟨t397, q7, h⟩ := Option.bind_eq_some_iff.1 h
   have q7c := spec_l2Numbers.ctr k' _ _ q7
   by_cases c8 : x3.size + t397.size ≤ 9223372036854775807
   · rw [if_pos c8] at h
     refine path_ok (k := 8) hF (RetQ_mild _ _ _ _ _ _ _ _) (ds := [.b false, .r [.ro (.v (.string t397))] []]) (os := []) (c := none) rfl KD ?_
     cases h
     exact ret_as (ms := [.ro]) rfl KD
   · rw [if_neg c8] at h
     cases h
theorem spec_FormatLayout.cs (k : Nat) : spec_FormatLayout.C k := by
 induction k using Nat.strongRecOn with
 | _ k ih0 =>
 have ih : Kp (∀ m, m < k → spec_FormatLayout.C m) := ⟨ih0⟩
 exact ⟨spec_FormatLayout.c_l0 k ih⟩
set_option maxRecDepth 100000 in
set_option maxHeartbeats 4000000 in
theorem spec_FormatLayout.ctr (k : Nat) (l0_0 : List (List Int)) (l0_1 : List Int) (r : ByteArray) (h : spec_FormatLayout.f k l0_0 l0_1 = some r) : Ctr TE 32 none [.ag [.sl 1 (rX (cL (cI .i64) 1) l0_0), .sl 1 (rX (cI .i64) l0_1)]] [.ro (.v (.string r))] [] := by
 refine ctr_of (fn := Tryz.f32) (c := (bodyOf Tryz.f32)) Tryz.func32 rfl (by kernel_rfl) (Nat.le_of_ble_eq_true (by kernel_rfl)) (fun w ro B hF _ => ?_)
 have ih : Kp (∀ m, m < k + 1 → spec_FormatLayout.C m) := ⟨fun m _ => spec_FormatLayout.cs m⟩
 simp only [spec_FormatLayout.f] at h
 refine path_ok (k := 8) hF (RetQ_mild _ _ _ _ _ _ _ _) (ds := [.e 8 (.v (.int .i64 (l0_0.length : Int)))]) (os := []) (c := none) rfl KD ?_
 exact WS.can [(1001, some 1)] (((ih.out k (by omega)).s_l0  r w ro B hF (⟨#[]⟩ : ByteArray) l0_0 (l0_0.length : Int) 0 l0_0 l0_1 h).out) KD
def laws_faSame.l0 : Nat → List Int → List Int → Int → Int → Option (Bool)
  | 0, _, _, _, _ => none
  | k + 1, x0, x1, x10, x11 => if x11 < x10 then (if 0 ≤ x11 then (if x11 < (x0.length : Int) then (if x11 < (x1.length : Int) then (if (rd x0 x11) = (rd x1 x11) then (laws_faSame.l0 k x0 x1 x10 (wrap64 (x11 + 1))) else (some false)) else (none)) else (none)) else (none)) else (some ((x0.length : Int) == (x1.length : Int)))
def laws_faSame.f (k : Nat) (l0 : List Int) (l1 : List Int) : Option (Bool) := laws_faSame.l0 k l0 l1 (mn (l0.length : Int) (l1.length : Int)) 0
def laws_faSame.I0 (r : Bool) (m : Nat) (σ : St) : Prop := ∃ (x0 : List Int) (x1 : List Int) (x10 : Int) (x11 : Int), laws_faSame.l0 m x0 x1 x10 x11 = some r ∧ σ = ⟨[(0, .sl 1 (rX (cI .i64) x0)), (1, .sl 1 (rX (cI .i64) x1)), (10, .v (.int .i64 x10)), (11, .v (.int .i64 x11))], []⟩
structure laws_faSame.C (k : Nat) : Prop where
 s_l0 : ∀ (r : Bool) (w : World) (ro : Nat → Prop) (B : Nat) (_ : Fr TE (cx0 Tryz.f23 none w ro B)) (x0 : List Int) (x1 : List Int) (x10 : Int) (x11 : Int) (_ : laws_faSame.l0 k x0 x1 x10 x11 = some r), Kp (WS TE (cx0 Tryz.f23 none w ro B) (stkAt [1, 0, 1, 0] [] (bodyOf Tryz.f23) []) ⟨[(0, .sl 1 (rX (cI .i64) x0)), (1, .sl 1 (rX (cI .i64) x1)), (10, .v (.int .i64 x10)), (11, .v (.int .i64 x11))], []⟩ (RetQ TE Tryz.f23 none [.ro (.v (.bool r))] [] w ro B))
set_option maxRecDepth 100000 in
set_option maxHeartbeats 4000000 in
theorem laws_faSame.c_l0 (k : Nat) (ih : Kp (∀ m, m < k → laws_faSame.C m)) (r : Bool) (w : World) (ro : Nat → Prop) (B : Nat) (hF : Fr TE (cx0 Tryz.f23 none w ro B)) (x0 : List Int) (x1 : List Int) (x10 : Int) (x11 : Int) (h : laws_faSame.l0 k x0 x1 x10 x11 = some r) : Kp (WS TE (cx0 Tryz.f23 none w ro B) (stkAt [1, 0, 1, 0] [] (bodyOf Tryz.f23) []) ⟨[(0, .sl 1 (rX (cI .i64) x0)), (1, .sl 1 (rX (cI .i64) x1)), (10, .v (.int .i64 x10)), (11, .v (.int .i64 x11))], []⟩ (RetQ TE Tryz.f23 none [.ro (.v (.bool r))] [] w ro B)) := by
 refine ⟨WS.loop (fun m σ => m ≤ k ∧ laws_faSame.I0 r m σ) k ⟨Nat.le_refl k, x0, x1, x10, x11, h, rfl⟩ (fun m σ' hI J0 hJ0 => ?_)⟩
 clear h
 obtain ⟨hk, x0, x1, x10, x11, h, rfl⟩ := hI
 cases m with
 | zero => simp [laws_faSame.l0] at h
 | succ k' =>
 simp only [laws_faSame.l0] at h
 by_cases c1 : x11 < x10
 · rw [if_pos c1] at h
   by_cases c2 : 0 ≤ x11
   · rw [if_pos c2] at h
     by_cases c3 : x11 < (x0.length : Int)
     · rw [if_pos c3] at h
       by_cases c4 : x11 < (x1.length : Int)
       · rw [if_pos c4] at h
         by_cases c5 : (rd x0 x11) = (rd x1 x11)
         · rw [if_pos c5] at h
           refine path_ok (k := 15) hF (RetQ_mild _ _ _ _ _ _ _ _) (ds := [.b true, .e 16 (.rf [.v (.int .i64 (rd x0 x11))]), .e 20 (.rf [.v (.int .i64 (rd x1 x11))]), .b false]) (os := [.o [(0, 0), (1, 0), (2, 0), (3, 1), (4, 0), (5, 0), (6, 0), (7, 1), (8, 0)] []]) (c := none) rfl KD ?_
           exact WS.lpc [] (hJ0 _ _ (Nat.lt_succ_self _) ⟨by omega, x0, x1, x10, (wrap64 (x11 + 1)), h, rfl⟩) KD
         · rw [if_neg c5] at h
           refine path_ok (k := 15) hF (RetQ_mild _ _ _ _ _ _ _ _) (ds := [.b true, .e 16 (.rf [.v (.int .i64 (rd x0 x11))]), .e 20 (.rf [.v (.int .i64 (rd x1 x11))]), .b true]) (os := [.o [(0, 0), (1, 0), (2, 0), (3, 1), (4, 0), (5, 0), (6, 0), (7, 1), (8, 0)] []]) (c := none) rfl KD ?_
           cases h
           exact ret_as (ms := [.ro]) rfl KD
       · rw [if_neg c4] at h
         cases h
     · rw [if_neg c3] at h
       cases h
   · rw [if_neg c2] at h
     cases h
 · rw [if_neg c1] at h
   refine path_ok (k := 8) hF (RetQ_mild _ _ _ _ _ _ _ _) (ds := [.b false, .e 25 (.v (.int .i64 (x0.length : Int))), .e 27 (.v (.int .i64 (x1.length : Int)))]) (os := []) (c := none) rfl KD ?_
   cases h
   exact ret_as (ms := [.ro]) rfl KD
theorem laws_faSame.cs (k : Nat) : laws_faSame.C k := by
 induction k using Nat.strongRecOn with
 | _ k ih0 =>
 have ih : Kp (∀ m, m < k → laws_faSame.C m) := ⟨ih0⟩
 exact ⟨laws_faSame.c_l0 k ih⟩
set_option maxRecDepth 100000 in
set_option maxHeartbeats 4000000 in
theorem laws_faSame.ctr (k : Nat) (l0 : List Int) (l1 : List Int) (r : Bool) (h : laws_faSame.f k l0 l1 = some r) : Ctr TE 23 none [.sl 1 (rX (cI .i64) l0), .sl 1 (rX (cI .i64) l1)] [.ro (.v (.bool r))] [] := by
 refine ctr_of (fn := Tryz.f23) (c := (bodyOf Tryz.f23)) Tryz.func23 rfl (by kernel_rfl) (Nat.le_of_ble_eq_true (by kernel_rfl)) (fun w ro B hF _ => ?_)
 have ih : Kp (∀ m, m < k + 1 → laws_faSame.C m) := ⟨fun m _ => laws_faSame.cs m⟩
 simp only [laws_faSame.f] at h
 refine path_ok (k := 6) hF (RetQ_mild _ _ _ _ _ _ _ _) (ds := [.e 7 (.v (.int .i64 (l0.length : Int))), .e 9 (.v (.int .i64 (l1.length : Int)))]) (os := []) (c := none) rfl KD ?_
 exact WS.can [] (((ih.out k (by omega)).s_l0  r w ro B hF l0 l1 (mn (l0.length : Int) (l1.length : Int)) 0 h).out) KD
def laws_faLists.l0 : Nat → List (List Int) → List (List Int) → Int → Int → Option (Bool)
  | 0, _, _, _, _ => none
  | k + 1, x0, x1, x10, x11 => if x11 < x10 then (if 0 ≤ x11 then (if x11 < (x0.length : Int) then (if x11 < (x1.length : Int) then ((laws_faSame.f k (rd_L1 x0 x11) (rd_L1 x1 x11)).bind fun t402 => (if t402 = true then (laws_faLists.l0 k x0 x1 x10 (wrap64 (x11 + 1))) else (some false))) else (none)) else (none)) else (none)) else (some ((x0.length : Int) == (x1.length : Int)))
def laws_faLists.f (k : Nat) (l0 : List (List Int)) (l1 : List (List Int)) : Option (Bool) := laws_faLists.l0 k l0 l1 (mn (l0.length : Int) (l1.length : Int)) 0
def laws_faLists.I0 (r : Bool) (m : Nat) (σ : St) : Prop := ∃ (x0 : List (List Int)) (x1 : List (List Int)) (x10 : Int) (x11 : Int), laws_faLists.l0 m x0 x1 x10 x11 = some r ∧ σ = ⟨[(0, .sl 1 (rX (cL (cI .i64) 1) x0)), (1, .sl 1 (rX (cL (cI .i64) 1) x1)), (10, .v (.int .i64 x10)), (11, .v (.int .i64 x11))], []⟩
structure laws_faLists.C (k : Nat) : Prop where
 s_l0 : ∀ (r : Bool) (w : World) (ro : Nat → Prop) (B : Nat) (_ : Fr TE (cx0 Tryz.f81 none w ro B)) (x0 : List (List Int)) (x1 : List (List Int)) (x10 : Int) (x11 : Int) (_ : laws_faLists.l0 k x0 x1 x10 x11 = some r), Kp (WS TE (cx0 Tryz.f81 none w ro B) (stkAt [1, 0, 1, 0] [] (bodyOf Tryz.f81) []) ⟨[(0, .sl 1 (rX (cL (cI .i64) 1) x0)), (1, .sl 1 (rX (cL (cI .i64) 1) x1)), (10, .v (.int .i64 x10)), (11, .v (.int .i64 x11))], []⟩ (RetQ TE Tryz.f81 none [.ro (.v (.bool r))] [] w ro B))
set_option maxRecDepth 100000 in
set_option maxHeartbeats 4000000 in
theorem laws_faLists.c_l0 (k : Nat) (ih : Kp (∀ m, m < k → laws_faLists.C m)) (r : Bool) (w : World) (ro : Nat → Prop) (B : Nat) (hF : Fr TE (cx0 Tryz.f81 none w ro B)) (x0 : List (List Int)) (x1 : List (List Int)) (x10 : Int) (x11 : Int) (h : laws_faLists.l0 k x0 x1 x10 x11 = some r) : Kp (WS TE (cx0 Tryz.f81 none w ro B) (stkAt [1, 0, 1, 0] [] (bodyOf Tryz.f81) []) ⟨[(0, .sl 1 (rX (cL (cI .i64) 1) x0)), (1, .sl 1 (rX (cL (cI .i64) 1) x1)), (10, .v (.int .i64 x10)), (11, .v (.int .i64 x11))], []⟩ (RetQ TE Tryz.f81 none [.ro (.v (.bool r))] [] w ro B)) := by
 refine ⟨WS.loop (fun m σ => m ≤ k ∧ laws_faLists.I0 r m σ) k ⟨Nat.le_refl k, x0, x1, x10, x11, h, rfl⟩ (fun m σ' hI J0 hJ0 => ?_)⟩
 clear h
 obtain ⟨hk, x0, x1, x10, x11, h, rfl⟩ := hI
 cases m with
 | zero => simp [laws_faLists.l0] at h
 | succ k' =>
 simp only [laws_faLists.l0] at h
 by_cases c1 : x11 < x10
 · rw [if_pos c1] at h
   by_cases c2 : 0 ≤ x11
   · rw [if_pos c2] at h
     by_cases c3 : x11 < (x0.length : Int)
     · rw [if_pos c3] at h
       by_cases c4 : x11 < (x1.length : Int)
       · rw [if_pos c4] at h
         obtain ⟨t402, q5, h⟩ := Option.bind_eq_some_iff.1 h
         have q5c := laws_faSame.ctr k' _ _ _ q5
         by_cases c6 : t402 = true
         · rw [if_pos c6] at h
           refine path_ok (k := 15) hF (RetQ_mild _ _ _ _ _ _ _ _) (ds := [.b true, .e 16 (.rf [.sl 1 (rX (cI .i64) (rd_L1 x0 x11))]), .e 20 (.rf [.sl 1 (rX (cI .i64) (rd_L1 x1 x11))]), .r [.ro (.v (.bool t402))] [], .b false]) (os := [.o [(0, 0), (1, 0), (2, 0), (3, 1), (4, 0), (5, 0), (6, 0), (7, 1), (8, 2), (9, 0)] []]) (c := none) rfl KD ?_
           exact WS.lpc [] (hJ0 _ _ (Nat.lt_succ_self _) ⟨by omega, x0, x1, x10, (wrap64 (x11 + 1)), h, rfl⟩) KD
         · rw [if_neg c6] at h
           refine path_ok (k := 15) hF (RetQ_mild _ _ _ _ _ _ _ _) (ds := [.b true, .e 16 (.rf [.sl 1 (rX (cI .i64) (rd_L1 x0 x11))]), .e 20 (.rf [.sl 1 (rX (cI .i64) (rd_L1 x1 x11))]), .r [.ro (.v (.bool t402))] [], .b true]) (os := [.o [(0, 0), (1, 0), (2, 0), (3, 1), (4, 0), (5, 0), (6, 0), (7, 1), (8, 2), (9, 0)] []]) (c := none) rfl KD ?_
           cases h
           exact ret_as (ms := [.ro]) rfl KD
       · rw [if_neg c4] at h
         cases h
     · rw [if_neg c3] at h
       cases h
   · rw [if_neg c2] at h
     cases h
 · rw [if_neg c1] at h
   refine path_ok (k := 8) hF (RetQ_mild _ _ _ _ _ _ _ _) (ds := [.b false, .e 26 (.v (.int .i64 (x0.length : Int))), .e 28 (.v (.int .i64 (x1.length : Int)))]) (os := []) (c := none) rfl KD ?_
   cases h
   exact ret_as (ms := [.ro]) rfl KD
theorem laws_faLists.cs (k : Nat) : laws_faLists.C k := by
 induction k using Nat.strongRecOn with
 | _ k ih0 =>
 have ih : Kp (∀ m, m < k → laws_faLists.C m) := ⟨ih0⟩
 exact ⟨laws_faLists.c_l0 k ih⟩
set_option maxRecDepth 100000 in
set_option maxHeartbeats 4000000 in
theorem laws_faLists.ctr (k : Nat) (l0 : List (List Int)) (l1 : List (List Int)) (r : Bool) (h : laws_faLists.f k l0 l1 = some r) : Ctr TE 81 none [.sl 1 (rX (cL (cI .i64) 1) l0), .sl 1 (rX (cL (cI .i64) 1) l1)] [.ro (.v (.bool r))] [] := by
 refine ctr_of (fn := Tryz.f81) (c := (bodyOf Tryz.f81)) Tryz.func81 rfl (by kernel_rfl) (Nat.le_of_ble_eq_true (by kernel_rfl)) (fun w ro B hF _ => ?_)
 have ih : Kp (∀ m, m < k + 1 → laws_faLists.C m) := ⟨fun m _ => laws_faLists.cs m⟩
 simp only [laws_faLists.f] at h
 refine path_ok (k := 6) hF (RetQ_mild _ _ _ _ _ _ _ _) (ds := [.e 7 (.v (.int .i64 (l0.length : Int))), .e 9 (.v (.int .i64 (l1.length : Int)))]) (os := []) (c := none) rfl KD ?_
 exact WS.can [] (((ih.out k (by omega)).s_l0  r w ro B hF l0 l1 (mn (l0.length : Int) (l1.length : Int)) 0 h).out) KD
def laws_faLayout.f (k : Nat) (l0_0 : List (List Int)) (l0_1 : List Int) (l1_0 : List (List Int)) (l1_1 : List Int) : Option (Bool) := (laws_faLists.f k l0_0 l1_0).bind fun t405 => (if t405 = true then ((laws_faSame.f k l0_1 l1_1).bind fun t406 => (some t406)) else (some false))
set_option maxRecDepth 100000 in
set_option maxHeartbeats 4000000 in
theorem laws_faLayout.ctr (k : Nat) (l0_0 : List (List Int)) (l0_1 : List Int) (l1_0 : List (List Int)) (l1_1 : List Int) (r : Bool) (h : laws_faLayout.f k l0_0 l0_1 l1_0 l1_1 = some r) : Ctr TE 34 none [.ag [.sl 1 (rX (cL (cI .i64) 1) l0_0), .sl 1 (rX (cI .i64) l0_1)], .ag [.sl 1 (rX (cL (cI .i64) 1) l1_0), .sl 1 (rX (cI .i64) l1_1)]] [.ro (.v (.bool r))] [] := by
 refine ctr_of (fn := Tryz.f34) (c := (bodyOf Tryz.f34)) Tryz.func34 rfl (by kernel_rfl) (Nat.le_of_ble_eq_true (by kernel_rfl)) (fun w ro B hF _ => ?_)
 simp only [laws_faLayout.f] at h
 obtain ⟨t405, q1, h⟩ := Option.bind_eq_some_iff.1 h
 have q1c := laws_faLists.ctr k _ _ _ q1
 by_cases c2 : t405 = true
 · rw [if_pos c2] at h
   obtain ⟨t406, q3, h⟩ := Option.bind_eq_some_iff.1 h
   have q3c := laws_faSame.ctr k _ _ _ q3
   refine path_ok (k := 5) hF (RetQ_mild _ _ _ _ _ _ _ _) (ds := [.r [.ro (.v (.bool t405))] [], .b true, .b true, .b true, .b true, .b true, .r [.ro (.v (.bool t406))] [], .b true]) (os := []) (c := none) rfl KD ?_
   cases h
   exact ret_as (ms := [.ro]) rfl KD
 · rw [if_neg c2] at h
   refine path_ok (k := 5) hF (RetQ_mild _ _ _ _ _ _ _ _) (ds := [.r [.ro (.v (.bool t405))] [], .b false, .b false, .b false, .b false, .b false, .b false]) (os := []) (c := none) rfl KD ?_
   cases h
   exact ret_as (ms := [.ro]) rfl KD
def spec_l13Rd_of.f (k : Nat) (s0_0 : List Int) (s0_1 : Int) (l1 : List ByteArray) : Option (ByteArray × Int) := (spec_l13Rd_pick.f k s0_0 s0_1 (l1.length : Int)).bind fun bt407 => (if 0 ≤ bt407.1 then (if bt407.1 < (l1.length : Int) then (some (rdOf ByteArray.empty l1 bt407.1, bt407.2)) else (none)) else (none))
set_option maxRecDepth 100000 in
set_option maxHeartbeats 4000000 in
theorem spec_l13Rd_of.ctr (k : Nat) (s0_0 : List Int) (s0_1 : Int) (l1 : List ByteArray) (r1 : ByteArray) (r2 : Int) (h : spec_l13Rd_of.f k s0_0 s0_1 l1 = some (r1, r2)) : Ctr TE 41 (some (112, [.sl 1 (rX (cI .u8) s0_0), .v (.int .i64 s0_1)])) [.pt 0 0 0, .sl 1 (rX cS l1)] [.ro (.v (.string r1))] [.sl 1 (rX (cI .u8) s0_0), .v (.int .i64 r2)] := by
 refine ctr_of (fn := Tryz.f41) (c := (bodyOf Tryz.f41)) Tryz.func41 rfl (by kernel_rfl) (Nat.le_of_ble_eq_true (by kernel_rfl)) (fun w ro B hF _ => ?_)
 simp only [spec_l13Rd_of.f] at h
 obtain ⟨⟨t407, t408⟩, q1, h⟩ := Option.bind_eq_some_iff.1 h
 dsimp only at h
 have q1c := spec_l13Rd_pick.ctr k _ _ _ _ _ q1
 by_cases c2 : 0 ≤ t407
 · rw [if_pos c2] at h
   by_cases c3 : t407 < (l1.length : Int)
   · rw [if_pos c3] at h
     refine path_ok (k := 5) hF (RetQ_mild _ _ _ _ _ _ _ _) (ds := [.e 8 (.v (.int .i64 (l1.length : Int))), .r [.ro (.v (.int .i64 t407))] [.sl 1 (rX (cI .u8) s0_0), .v (.int .i64 t408)], .e 10 (.rf [.v (.string (rdOf ByteArray.empty l1 t407))])]) (os := []) (c := none) rfl KD ?_
     cases h
     exact ret_as (ms := [.ro]) rfl KD
   · rw [if_neg c3] at h
     cases h
 · rw [if_neg c2] at h
   cases h
def spec_DrawParseLayout.f (k : Nat) (l0 : List Int) : Option (ByteArray) := (spec_l13Open.f l0).bind fun bt410 => ((spec_l2Draw.f k bt410.1 bt410.2).bind fun bt413 => ((spec_FormatLayout.f k bt413.1 bt413.2.1).bind fun t420 => ((spec_l13Rd_pick.f k bt410.1 bt413.2.2 2).bind fun bt421 => (if bt421.1 = 0 then (some t420) else ((spec_l13Rd_pick.f k bt410.1 bt421.2 (t420.size : Int)).bind fun bt423 => (if 0 ≤ bt423.1 then (if bt423.1 ≤ (t420.size : Int) then ((spec_l13Rd_of.f k bt410.1 bt423.2 (([(⟨#[]⟩ : ByteArray), (⟨#[124]⟩ : ByteArray), (⟨#[32]⟩ : ByteArray), (⟨#[48]⟩ : ByteArray), (⟨#[45]⟩ : ByteArray), (⟨#[49]⟩ : ByteArray)] : List ByteArray))).bind fun bt428 => (if (t420.extract 0 (bt423.1 : Int).toNat).size + bt428.1.size ≤ 9223372036854775807 then ((spec_l13Rd_pick.f k bt410.1 bt428.2 2).bind fun bt430 => (if 0 ≤ (wrap64 (bt423.1 + bt430.1)) then (if (wrap64 (bt423.1 + bt430.1)) ≤ (t420.size : Int) then (if (t420.extract 0 (bt423.1 : Int).toNat).size + bt428.1.size + (t420.extract ((wrap64 (bt423.1 + bt430.1)) : Int).toNat t420.size).size ≤ 9223372036854775807 then (some (((t420.extract 0 (bt423.1 : Int).toNat) ++ bt428.1) ++ (t420.extract ((wrap64 (bt423.1 + bt430.1)) : Int).toNat t420.size))) else (none)) else (none)) else (none))) else (none))) else (none)) else (none)))))))
set_option maxRecDepth 100000 in
set_option maxHeartbeats 4000000 in
theorem spec_DrawParseLayout.ctr (k : Nat) (l0 : List Int) (r : ByteArray) (h : spec_DrawParseLayout.f k l0 = some r) : Ctr TE 35 none [.sl 1 (rX (cI .u8) l0)] [.ro (.v (.string r))] [] := by
 refine ctr_of (fn := Tryz.f35) (c := (bodyOf Tryz.f35)) Tryz.func35 rfl (by kernel_rfl) (Nat.le_of_ble_eq_true (by kernel_rfl)) (fun w ro B hF _ => ?_)
 simp only [spec_DrawParseLayout.f] at h
 obtain ⟨⟨t410, t411⟩, q1, h⟩ := Option.bind_eq_some_iff.1 h
 dsimp only at h
 have q1c := spec_l13Open.ctr _ _ _ q1
 obtain ⟨⟨t413, t416, t419⟩, q2, h⟩ := Option.bind_eq_some_iff.1 h
 dsimp only at h
 have q2c := spec_l2Draw.ctr k _ _ _ _ _ q2
 obtain ⟨t420, q3, h⟩ := Option.bind_eq_some_iff.1 h
 have q3c := spec_FormatLayout.ctr k _ _ _ q3
 obtain ⟨⟨t421, t422⟩, q4, h⟩ := Option.bind_eq_some_iff.1 h
 dsimp only at h
 have q4c := spec_l13Rd_pick.ctr k _ _ _ _ _ q4
 by_cases c5 : t421 = 0
 · rw [if_pos c5] at h
   refine path_ok (k := 13) hF (RetQ_mild _ _ _ _ _ _ _ _) (ds := [.r [.nb 112 [.sl 1 (rX (cI .u8) t410), .v (.int .i64 t411)]] [], .r [.ro (.ag [.sl 1 (rX (cL (cI .i64) 1) t413), .sl 1 (rX (cI .i64) t416)])] [.sl 1 (rX (cI .u8) t410), .v (.int .i64 t419)], .r [.ro (.v (.string t420))] [], .r [.ro (.v (.int .i64 t421))] [.sl 1 (rX (cI .u8) t410), .v (.int .i64 t422)], .b true]) (os := []) (c := none) rfl KD ?_
   cases h
   exact ret_as (ms := [.ro]) rfl KD
 · rw [if_neg c5] at h
   obtain ⟨⟨t423, t424⟩, q6, h⟩ := Option.bind_eq_some_iff.1 h
   dsimp only at h
   have q6c := spec_l13Rd_pick.ctr k _ _ _ _ _ q6
   by_cases c7 : 0 ≤ t423
   · rw [if_pos c7] at h
     by_cases c8 : t423 ≤ (t420.size : Int)
     · rw [if_pos c8] at h
       obtain ⟨⟨t428, t429⟩, q9, h⟩ := Option.bind_eq_some_iff.1 h
       dsimp only at h
       have q9c := spec_l13Rd_of.ctr k _ _ _ _ _ q9
       by_cases c10 : (t420.extract 0 (t423 : Int).toNat).size + t428.size ≤ 9223372036854775807
       · rw [if_pos c10] at h
         obtain ⟨⟨t430, t431⟩, q11, h⟩ := Option.bind_eq_some_iff.1 h
         dsimp only at h
         have q11c := spec_l13Rd_pick.ctr k _ _ _ _ _ q11
         by_cases c12 : 0 ≤ (wrap64 (t423 + t430))
         · rw [if_pos c12] at h
           by_cases c13 : (wrap64 (t423 + t430)) ≤ (t420.size : Int)
           · rw [if_pos c13] at h
             by_cases c14 : (t420.extract 0 (t423 : Int).toNat).size + t428.size + (t420.extract ((wrap64 (t423 + t430)) : Int).toNat t420.size).size ≤ 9223372036854775807
             · rw [if_pos c14] at h
               refine path_ok (k := 16) hF (RetQ_mild _ _ _ _ _ _ _ _) (ds := [.r [.nb 112 [.sl 1 (rX (cI .u8) t410), .v (.int .i64 t411)]] [], .r [.ro (.ag [.sl 1 (rX (cL (cI .i64) 1) t413), .sl 1 (rX (cI .i64) t416)])] [.sl 1 (rX (cI .u8) t410), .v (.int .i64 t419)], .r [.ro (.v (.string t420))] [], .r [.ro (.v (.int .i64 t421))] [.sl 1 (rX (cI .u8) t410), .v (.int .i64 t422)], .b false, .r [.ro (.v (.int .i64 t423))] [.sl 1 (rX (cI .u8) t410), .v (.int .i64 t424)], .p 23 ([[.v (.string (⟨#[]⟩ : ByteArray))], [.v (.string (⟨#[124]⟩ : ByteArray))], [.v (.string (⟨#[32]⟩ : ByteArray))], [.v (.string (⟨#[48]⟩ : ByteArray))], [.v (.string (⟨#[45]⟩ : ByteArray))], [.v (.string (⟨#[49]⟩ : ByteArray))]]), .r [.ro (.v (.string t428))] [.sl 1 (rX (cI .u8) t410), .v (.int .i64 t429)], .r [.ro (.v (.int .i64 t430))] [.sl 1 (rX (cI .u8) t410), .v (.int .i64 t431)]]) (os := [.o [(0, 0), (1, 0), (2, 0), (3, 0), (7, 0), (8, 0), (9, 0), (4, 2), (5, 2), (6, 0), (10, 2), (11, 0), (12, 0), (13, 0), (14, 0)] [5, 10]]) (c := none) rfl KD ?_
               cases h
               exact ret_as (ms := [.ro]) rfl KD
             · rw [if_neg c14] at h
               cases h
           · rw [if_neg c13] at h
             cases h
         · rw [if_neg c12] at h
           cases h
       · rw [if_neg c10] at h
         cases h
     · rw [if_neg c8] at h
       cases h
   · rw [if_neg c7] at h
     cases h
def spec_l13Cut.l0 : Nat → ByteArray → Int → List ByteArray → Int → Int → Option (List ByteArray)
  | 0, _, _, _, _, _ => none
  | k + 1, x0, x1, x5, x6, x7 => if x7 ≤ (x0.size : Int) then (if x7 = (x0.size : Int) then (if 0 ≤ x6 then (if x6 ≤ x7 then (if x5.length < 8796093022208 then (spec_l13Cut.l0 k x0 x1 (x5 ++ [x0.extract (x6 : Int).toNat (x7 : Int).toNat]) (wrap64 (x7 + 1)) (wrap64 (x7 + 1))) else (none)) else (none)) else (none)) else (if 0 ≤ x7 then (if x7 < (x0.size : Int) then (if (bt x0 x7) = x1 then (if 0 ≤ x6 then (if x6 ≤ x7 then (if x5.length < 8796093022208 then (spec_l13Cut.l0 k x0 x1 (x5 ++ [x0.extract (x6 : Int).toNat (x7 : Int).toNat]) (wrap64 (x7 + 1)) (wrap64 (x7 + 1))) else (none)) else (none)) else (none)) else (spec_l13Cut.l0 k x0 x1 x5 x6 (wrap64 (x7 + 1)))) else (none)) else (none))) else (some x5)
def spec_l13Cut.f (k : Nat) (a0 : ByteArray) (a1 : Int) : Option (List ByteArray) := spec_l13Cut.l0 k a0 a1 (([] : List ByteArray)) 0 0
def spec_l13Cut.I0 (r : List ByteArray) (m : Nat) (σ : St) : Prop := ∃ (x0 : ByteArray) (x1 : Int) (x5 : List ByteArray) (x6 : Int) (x7 : Int), spec_l13Cut.l0 m x0 x1 x5 x6 x7 = some r ∧ σ = ⟨[(0, .v (.string x0)), (1, .v (.int .u8 x1)), (5, .ow 1005 0), (6, .v (.int .i64 x6)), (7, .v (.int .i64 x7))], [(1005, .own 0 9 1 (rX cS x5))]⟩
structure spec_l13Cut.C (k : Nat) : Prop where
 s_l0 : ∀ (r : List ByteArray) (w : World) (ro : Nat → Prop) (B : Nat) (_ : Fr TE (cx0 Tryz.f116 none w ro B)) (x0 : ByteArray) (x1 : Int) (x5 : List ByteArray) (x6 : Int) (x7 : Int) (_ : spec_l13Cut.l0 k x0 x1 x5 x6 x7 = some r), Kp (WS TE (cx0 Tryz.f116 none w ro B) (stkAt [1, 1, 1, 0, 1, 0] [] (bodyOf Tryz.f116) []) ⟨[(0, .v (.string x0)), (1, .v (.int .u8 x1)), (5, .ow 1005 0), (6, .v (.int .i64 x6)), (7, .v (.int .i64 x7))], [(1005, .own 0 9 1 (rX cS x5))]⟩ (RetQ TE Tryz.f116 none [.own 9 1 (rX cS r)] [] w ro B))
set_option maxRecDepth 100000 in
set_option maxHeartbeats 4000000 in
theorem spec_l13Cut.c_l0 (k : Nat) (ih : Kp (∀ m, m < k → spec_l13Cut.C m)) (r : List ByteArray) (w : World) (ro : Nat → Prop) (B : Nat) (hF : Fr TE (cx0 Tryz.f116 none w ro B)) (x0 : ByteArray) (x1 : Int) (x5 : List ByteArray) (x6 : Int) (x7 : Int) (h : spec_l13Cut.l0 k x0 x1 x5 x6 x7 = some r) : Kp (WS TE (cx0 Tryz.f116 none w ro B) (stkAt [1, 1, 1, 0, 1, 0] [] (bodyOf Tryz.f116) []) ⟨[(0, .v (.string x0)), (1, .v (.int .u8 x1)), (5, .ow 1005 0), (6, .v (.int .i64 x6)), (7, .v (.int .i64 x7))], [(1005, .own 0 9 1 (rX cS x5))]⟩ (RetQ TE Tryz.f116 none [.own 9 1 (rX cS r)] [] w ro B)) := by
 refine ⟨WS.loop (fun m σ => m ≤ k ∧ spec_l13Cut.I0 r m σ) k ⟨Nat.le_refl k, x0, x1, x5, x6, x7, h, rfl⟩ (fun m σ' hI J0 hJ0 => ?_)⟩
 clear h
 obtain ⟨hk, x0, x1, x5, x6, x7, h, rfl⟩ := hI
 cases m with
 | zero => simp [spec_l13Cut.l0] at h
 | succ k' =>
 simp only [spec_l13Cut.l0] at h
 by_cases c1 : x7 ≤ (x0.size : Int)
 · rw [if_pos c1] at h
   by_cases c2 : x7 = (x0.size : Int)
   · rw [if_pos c2] at h
     by_cases c3 : 0 ≤ x6
     · rw [if_pos c3] at h
       by_cases c4 : x6 ≤ x7
       · rw [if_pos c4] at h
         by_cases c5 : x5.length < 8796093022208
         · rw [if_pos c5] at h
           refine path_ok (k := 15) hF (RetQ_mild _ _ _ _ _ _ _ _) (ds := [.b true, .b true, .b true, .b true, .b true, .b true, .b true, .b true, .p 31 ([[.v (.string (x0.extract (x6 : Int).toNat (x7 : Int).toNat))]]), .o 32 (rX cS (x5 ++ [x0.extract (x6 : Int).toNat (x7 : Int).toNat]))]) (os := []) (c := none) rfl KD ?_
           exact WS.lpc [(1005, some 1005)] (hJ0 _ _ (Nat.lt_succ_self _) ⟨by omega, x0, x1, (x5 ++ [x0.extract (x6 : Int).toNat (x7 : Int).toNat]), (wrap64 (x7 + 1)), (wrap64 (x7 + 1)), h, rfl⟩) KD
         · rw [if_neg c5] at h
           cases h
       · rw [if_neg c4] at h
         cases h
     · rw [if_neg c3] at h
       cases h
   · rw [if_neg c2] at h
     by_cases c6 : 0 ≤ x7
     · rw [if_pos c6] at h
       by_cases c7 : x7 < (x0.size : Int)
       · rw [if_pos c7] at h
         by_cases c8 : (bt x0 x7) = x1
         · rw [if_pos c8] at h
           by_cases c9 : 0 ≤ x6
           · rw [if_pos c9] at h
             by_cases c10 : x6 ≤ x7
             · rw [if_pos c10] at h
               by_cases c11 : x5.length < 8796093022208
               · rw [if_pos c11] at h
                 have hb11 := bt_range x0 x7
                 refine path_ok (k := 15) hF (RetQ_mild _ _ _ _ _ _ _ _) (ds := [.b true, .b false, .b false, .b false, .b false, .b false, .b false, .b true, .p 31 ([[.v (.string (x0.extract (x6 : Int).toNat (x7 : Int).toNat))]]), .o 32 (rX cS (x5 ++ [x0.extract (x6 : Int).toNat (x7 : Int).toNat]))]) (os := []) (c := none) rfl KD ?_
                 exact WS.lpc [(1005, some 1005)] (hJ0 _ _ (Nat.lt_succ_self _) ⟨by omega, x0, x1, (x5 ++ [x0.extract (x6 : Int).toNat (x7 : Int).toNat]), (wrap64 (x7 + 1)), (wrap64 (x7 + 1)), h, rfl⟩) KD
               · rw [if_neg c11] at h
                 cases h
             · rw [if_neg c10] at h
               cases h
           · rw [if_neg c9] at h
             cases h
         · rw [if_neg c8] at h
           have hb12 := bt_range x0 x7
           refine path_ok (k := 13) hF (RetQ_mild _ _ _ _ _ _ _ _) (ds := [.b true, .b false, .b false, .b false, .b false, .b false, .b false, .b false]) (os := []) (c := none) rfl KD ?_
           exact WS.lpc [(1005, some 1005)] (hJ0 _ _ (Nat.lt_succ_self _) ⟨by omega, x0, x1, x5, x6, (wrap64 (x7 + 1)), h, rfl⟩) KD
       · rw [if_neg c7] at h
         cases h
     · rw [if_neg c6] at h
       cases h
 · rw [if_neg c1] at h
   refine path_ok (k := 8) hF (RetQ_mild _ _ _ _ _ _ _ _) (ds := [.b false]) (os := []) (c := none) rfl KD ?_
   cases h
   exact ret_as (ms := [.own]) rfl KD
theorem spec_l13Cut.cs (k : Nat) : spec_l13Cut.C k := by
 induction k using Nat.strongRecOn with
 | _ k ih0 =>
 have ih : Kp (∀ m, m < k → spec_l13Cut.C m) := ⟨ih0⟩
 exact ⟨spec_l13Cut.c_l0 k ih⟩
set_option maxRecDepth 100000 in
set_option maxHeartbeats 4000000 in
theorem spec_l13Cut.ctr (k : Nat) (a0 : ByteArray) (a1 : Int) (r : List ByteArray) (h : spec_l13Cut.f k a0 a1 = some r) : Ctr TE 116 none [.v (.string a0), .v (.int .u8 a1)] [.own 9 1 (rX cS r)] [] := by
 refine ctr_of (fn := Tryz.f116) (c := (bodyOf Tryz.f116)) Tryz.func116 rfl (by kernel_rfl) (Nat.le_of_ble_eq_true (by kernel_rfl)) (fun w ro B hF _ => ?_)
 have ih : Kp (∀ m, m < k + 1 → spec_l13Cut.C m) := ⟨fun m _ => spec_l13Cut.cs m⟩
 simp only [spec_l13Cut.f] at h
 refine path_ok (k := 10) hF (RetQ_mild _ _ _ _ _ _ _ _) (ds := [.p 8 ([])]) (os := []) (c := none) rfl KD ?_
 exact WS.can [(1005, some 8)] (((ih.out k (by omega)).s_l0  r w ro B hF a0 a1 (([] : List ByteArray)) 0 0 h).out) KD
def spec_l2Read.l0 : Nat → List Int → List ByteArray → Int → Int → Option (List Int × Bool)
  | 0, _, _, _, _ => none
  | k + 1, x4, x14, x15, x16 => if x16 < x15 then (if 0 ≤ x16 then (if x16 < (x14.length : Int) then ((spec_l13Num.f k (rdOf ByteArray.empty x14 x16)).bind fun bt448 => (if bt448.2 = true then (if x4.length < 17592186044416 then (spec_l2Read.l0 k (x4 ++ [bt448.1]) x14 x15 (wrap64 (x16 + 1))) else (none)) else (some ((([] : List Int)), false)))) else (none)) else (none)) else (some (x4, true))
def spec_l2Read.f (k : Nat) (a0 : ByteArray) : Option (List Int × Bool) := (some (([] : List Int) : List Int)).bind fun y441 => (if a0.toList = ([45] : List UInt8) then (some (y441, true)) else ((spec_l13Cut.f k a0 32).bind fun t444 => (spec_l2Read.l0 k y441 t444 (t444.length : Int) 0)))
def spec_l2Read.I0 (r1 : List Int) (r2 : Bool) (m : Nat) (σ : St) : Prop := ∃ (x4 : List Int) (x14 : List ByteArray) (x15 : Int) (x16 : Int), spec_l2Read.l0 m x4 x14 x15 x16 = some (r1, r2) ∧ σ = ⟨[(4, .ow 1004 0), (14, .ow 1014 0), (15, .v (.int .i64 x15)), (16, .v (.int .i64 x16))], [(1004, .own 0 3 1 (rX (cI .i64) x4)), (1014, .own 0 9 1 (rX cS x14))]⟩
structure spec_l2Read.C (k : Nat) : Prop where
 s_l0 : ∀ (r1 : List Int) (r2 : Bool) (w : World) (ro : Nat → Prop) (B : Nat) (_ : Fr TE (cx0 Tryz.f117 none w ro B)) (x4 : List Int) (x14 : List ByteArray) (x15 : Int) (x16 : Int) (_ : spec_l2Read.l0 k x4 x14 x15 x16 = some (r1, r2)), Kp (WS TE (cx0 Tryz.f117 none w ro B) (stkAt [1, 1, 1, 0, 1, 0] [] (bodyOf Tryz.f117) []) ⟨[(4, .ow 1004 0), (14, .ow 1014 0), (15, .v (.int .i64 x15)), (16, .v (.int .i64 x16))], [(1004, .own 0 3 1 (rX (cI .i64) x4)), (1014, .own 0 9 1 (rX cS x14))]⟩ (RetQ TE Tryz.f117 none [.own 3 1 (rX (cI .i64) r1), .ro (.v (.bool r2))] [] w ro B))
set_option maxRecDepth 100000 in
set_option maxHeartbeats 4000000 in
theorem spec_l2Read.c_l0 (k : Nat) (ih : Kp (∀ m, m < k → spec_l2Read.C m)) (r1 : List Int) (r2 : Bool) (w : World) (ro : Nat → Prop) (B : Nat) (hF : Fr TE (cx0 Tryz.f117 none w ro B)) (x4 : List Int) (x14 : List ByteArray) (x15 : Int) (x16 : Int) (h : spec_l2Read.l0 k x4 x14 x15 x16 = some (r1, r2)) : Kp (WS TE (cx0 Tryz.f117 none w ro B) (stkAt [1, 1, 1, 0, 1, 0] [] (bodyOf Tryz.f117) []) ⟨[(4, .ow 1004 0), (14, .ow 1014 0), (15, .v (.int .i64 x15)), (16, .v (.int .i64 x16))], [(1004, .own 0 3 1 (rX (cI .i64) x4)), (1014, .own 0 9 1 (rX cS x14))]⟩ (RetQ TE Tryz.f117 none [.own 3 1 (rX (cI .i64) r1), .ro (.v (.bool r2))] [] w ro B)) := by
 refine ⟨WS.loop (fun m σ => m ≤ k ∧ spec_l2Read.I0 r1 r2 m σ) k ⟨Nat.le_refl k, x4, x14, x15, x16, h, rfl⟩ (fun m σ' hI J0 hJ0 => ?_)⟩
 clear h
 obtain ⟨hk, x4, x14, x15, x16, h, rfl⟩ := hI
 cases m with
 | zero => simp [spec_l2Read.l0] at h
 | succ k' =>
 simp only [spec_l2Read.l0] at h
 by_cases c3 : x16 < x15
 · rw [if_pos c3] at h
   by_cases c4 : 0 ≤ x16
   · rw [if_pos c4] at h
     by_cases c5 : x16 < (x14.length : Int)
     · rw [if_pos c5] at h
       obtain ⟨⟨t448, t449⟩, q6, h⟩ := Option.bind_eq_some_iff.1 h
       dsimp only at h
       have q6c := spec_l13Num.ctr k' _ _ _ q6
       by_cases c7 : t449 = true
       · rw [if_pos c7] at h
         by_cases c8 : x4.length < 17592186044416
         · rw [if_pos c8] at h
           refine path_ok (k := 19) hF (RetQ_mild _ _ _ _ _ _ _ _) (ds := [.b true, .g [.v (.string (rdOf ByteArray.empty x14 x16))], .r [.ro (.v (.int .i64 t448)), .ro (.v (.bool t449))] [], .b false, .p 30 ([[.v (.int .i64 t448)]]), .o 31 (rX (cI .i64) (x4 ++ [t448]))]) (os := []) (c := none) rfl KD ?_
           exact WS.lpc [(1004, some 1004), (1014, some 1014)] (hJ0 _ _ (Nat.lt_succ_self _) ⟨by omega, (x4 ++ [t448]), x14, x15, (wrap64 (x16 + 1)), h, rfl⟩) KD
         · rw [if_neg c8] at h
           cases h
       · rw [if_neg c7] at h
         refine path_ok (k := 18) hF (RetQ_mild _ _ _ _ _ _ _ _) (ds := [.b true, .g [.v (.string (rdOf ByteArray.empty x14 x16))], .r [.ro (.v (.int .i64 t448)), .ro (.v (.bool t449))] [], .b true, .p 27 ([])]) (os := []) (c := none) rfl KD ?_
         cases h
         exact ret_as (ms := [.own, .ro]) rfl KD
     · rw [if_neg c5] at h
       cases h
   · rw [if_neg c4] at h
     cases h
 · rw [if_neg c3] at h
   refine path_ok (k := 8) hF (RetQ_mild _ _ _ _ _ _ _ _) (ds := [.b false]) (os := []) (c := none) rfl KD ?_
   cases h
   exact ret_as (ms := [.own, .ro]) rfl KD
theorem spec_l2Read.cs (k : Nat) : spec_l2Read.C k := by
 induction k using Nat.strongRecOn with
 | _ k ih0 =>
 have ih : Kp (∀ m, m < k → spec_l2Read.C m) := ⟨ih0⟩
 exact ⟨spec_l2Read.c_l0 k ih⟩
set_option maxRecDepth 100000 in
set_option maxHeartbeats 4000000 in
theorem spec_l2Read.ctr (k : Nat) (a0 : ByteArray) (r1 : List Int) (r2 : Bool) (h : spec_l2Read.f k a0 = some (r1, r2)) : Ctr TE 117 none [.v (.string a0)] [.own 3 1 (rX (cI .i64) r1), .ro (.v (.bool r2))] [] := by
 refine ctr_of (fn := Tryz.f117) (c := (bodyOf Tryz.f117)) Tryz.func117 rfl (by kernel_rfl) (Nat.le_of_ble_eq_true (by kernel_rfl)) (fun w ro B hF _ => ?_)
 have ih : Kp (∀ m, m < k + 1 → spec_l2Read.C m) := ⟨fun m _ => spec_l2Read.cs m⟩
 simp only [spec_l2Read.f] at h
 obtain ⟨y441, hy441, h⟩ := Option.bind_eq_some_iff.1 h
 cases hy441
 by_cases c1 : a0.toList = ([45] : List UInt8)
 · rw [if_pos c1] at h
   refine path_ok (k := 11) hF (RetQ_mild _ _ _ _ _ _ _ _) (ds := [.p 9 ([]), .b true]) (os := []) (c := none) rfl KD ?_
   cases h
   exact ret_as (ms := [.own, .ro]) rfl KD
 · rw [if_neg c1] at h
   obtain ⟨t444, q2, h⟩ := Option.bind_eq_some_iff.1 h
   have q2c := spec_l13Cut.ctr k _ _ _ q2
   refine path_ok (k := 13) hF (RetQ_mild _ _ _ _ _ _ _ _) (ds := [.p 9 ([]), .b false, .r [.own 9 1 (rX cS t444)] [], .e 15 (.v (.int .i64 (t444.length : Int)))]) (os := []) (c := none) rfl KD ?_
   exact WS.can [(1004, some 9), (1014, some 100224)] (((ih.out k (by omega)).s_l0  r1 r2 w ro B hF (([] : List Int)) t444 (t444.length : Int) 0 h).out) KD
def spec_l2Sum.l0 : Nat → Int → List Int → Int → Int → Option (Int)
  | 0, _, _, _, _ => none
  | k + 1, x3, x6, x7, x8 => if x8 < x7 then (if 0 ≤ x8 then (if x8 < (x6.length : Int) then ((spec_l1In.f (rd x6 x8) 0 400).bind fun t457 => (if t457 = true then (spec_l2Sum.l0 k (wrap64 (x3 + (rd x6 x8))) x6 x7 (wrap64 (x8 + 1))) else (some (-1)))) else (none)) else (none)) else (some x3)
def spec_l2Sum.f (k : Nat) (l0 : List Int) : Option (Int) := spec_l2Sum.l0 k 0 l0 (l0.length : Int) 0
def spec_l2Sum.I0 (r : Int) (m : Nat) (σ : St) : Prop := ∃ (x3 : Int) (x6 : List Int) (x7 : Int) (x8 : Int), spec_l2Sum.l0 m x3 x6 x7 x8 = some r ∧ σ = ⟨[(3, .v (.int .i64 x3)), (6, .sl 1 (rX (cI .i64) x6)), (7, .v (.int .i64 x7)), (8, .v (.int .i64 x8))], []⟩
structure spec_l2Sum.C (k : Nat) : Prop where
 s_l0 : ∀ (r : Int) (w : World) (ro : Nat → Prop) (B : Nat) (_ : Fr TE (cx0 Tryz.f161 none w ro B)) (x3 : Int) (x6 : List Int) (x7 : Int) (x8 : Int) (_ : spec_l2Sum.l0 k x3 x6 x7 x8 = some r), Kp (WS TE (cx0 Tryz.f161 none w ro B) (stkAt [1, 1, 0, 1, 0] [] (bodyOf Tryz.f161) []) ⟨[(3, .v (.int .i64 x3)), (6, .sl 1 (rX (cI .i64) x6)), (7, .v (.int .i64 x7)), (8, .v (.int .i64 x8))], []⟩ (RetQ TE Tryz.f161 none [.ro (.v (.int .i64 r))] [] w ro B))
set_option maxRecDepth 100000 in
set_option maxHeartbeats 4000000 in
theorem spec_l2Sum.c_l0 (k : Nat) (ih : Kp (∀ m, m < k → spec_l2Sum.C m)) (r : Int) (w : World) (ro : Nat → Prop) (B : Nat) (hF : Fr TE (cx0 Tryz.f161 none w ro B)) (x3 : Int) (x6 : List Int) (x7 : Int) (x8 : Int) (h : spec_l2Sum.l0 k x3 x6 x7 x8 = some r) : Kp (WS TE (cx0 Tryz.f161 none w ro B) (stkAt [1, 1, 0, 1, 0] [] (bodyOf Tryz.f161) []) ⟨[(3, .v (.int .i64 x3)), (6, .sl 1 (rX (cI .i64) x6)), (7, .v (.int .i64 x7)), (8, .v (.int .i64 x8))], []⟩ (RetQ TE Tryz.f161 none [.ro (.v (.int .i64 r))] [] w ro B)) := by
 refine ⟨WS.loop (fun m σ => m ≤ k ∧ spec_l2Sum.I0 r m σ) k ⟨Nat.le_refl k, x3, x6, x7, x8, h, rfl⟩ (fun m σ' hI J0 hJ0 => ?_)⟩
 clear h
 obtain ⟨hk, x3, x6, x7, x8, h, rfl⟩ := hI
 cases m with
 | zero => simp [spec_l2Sum.l0] at h
 | succ k' =>
 simp only [spec_l2Sum.l0] at h
 by_cases c1 : x8 < x7
 · rw [if_pos c1] at h
   by_cases c2 : 0 ≤ x8
   · rw [if_pos c2] at h
     by_cases c3 : x8 < (x6.length : Int)
     · rw [if_pos c3] at h
       obtain ⟨t457, q4, h⟩ := Option.bind_eq_some_iff.1 h
       have q4c := spec_l1In.ctr _ _ _ _ q4
       by_cases c5 : t457 = true
       · rw [if_pos c5] at h
         refine path_ok (k := 17) hF (RetQ_mild _ _ _ _ _ _ _ _) (ds := [.b true, .e 10 (.rf [.v (.int .i64 (rd x6 x8))]), .r [.ro (.v (.bool t457))] [], .b false]) (os := []) (c := none) rfl KD ?_
         exact WS.lpc [] (hJ0 _ _ (Nat.lt_succ_self _) ⟨by omega, (wrap64 (x3 + (rd x6 x8))), x6, x7, (wrap64 (x8 + 1)), h, rfl⟩) KD
       · rw [if_neg c5] at h
         refine path_ok (k := 16) hF (RetQ_mild _ _ _ _ _ _ _ _) (ds := [.b true, .e 10 (.rf [.v (.int .i64 (rd x6 x8))]), .r [.ro (.v (.bool t457))] [], .b true]) (os := []) (c := none) rfl KD ?_
         cases h
         exact ret_as (ms := [.ro]) rfl KD
     · rw [if_neg c3] at h
       cases h
   · rw [if_neg c2] at h
     cases h
 · rw [if_neg c1] at h
   refine path_ok (k := 8) hF (RetQ_mild _ _ _ _ _ _ _ _) (ds := [.b false]) (os := []) (c := none) rfl KD ?_
   cases h
   exact ret_as (ms := [.ro]) rfl KD
theorem spec_l2Sum.cs (k : Nat) : spec_l2Sum.C k := by
 induction k using Nat.strongRecOn with
 | _ k ih0 =>
 have ih : Kp (∀ m, m < k → spec_l2Sum.C m) := ⟨ih0⟩
 exact ⟨spec_l2Sum.c_l0 k ih⟩
set_option maxRecDepth 100000 in
set_option maxHeartbeats 4000000 in
theorem spec_l2Sum.ctr (k : Nat) (l0 : List Int) (r : Int) (h : spec_l2Sum.f k l0 = some r) : Ctr TE 161 none [.sl 1 (rX (cI .i64) l0)] [.ro (.v (.int .i64 r))] [] := by
 refine ctr_of (fn := Tryz.f161) (c := (bodyOf Tryz.f161)) Tryz.func161 rfl (by kernel_rfl) (Nat.le_of_ble_eq_true (by kernel_rfl)) (fun w ro B hF _ => ?_)
 have ih : Kp (∀ m, m < k + 1 → spec_l2Sum.C m) := ⟨fun m _ => spec_l2Sum.cs m⟩
 simp only [spec_l2Sum.f] at h
 refine path_ok (k := 8) hF (RetQ_mild _ _ _ _ _ _ _ _) (ds := [.e 7 (.v (.int .i64 (l0.length : Int)))]) (os := []) (c := none) rfl KD ?_
 exact WS.can [] (((ih.out k (by omega)).s_l0  r w ro B hF 0 l0 (l0.length : Int) 0 h).out) KD
end Go.Proofs.YtidpankoobdfjaaGreatDoor.L
