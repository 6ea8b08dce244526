/- A part of the claim. -/
import Derived.Test.YtmjoigpnnechgaaDoorVFx0
import Derived.Test.YtmjoigpnnechgaaDoorVFx1
import Derived.Test.YtmjoigpnnechgaaDoorVFx2
import Derived.Test.YtmjoigpnnechgaaDoorVFx3
import Derived.Test.YtmjoigpnnechgaaDoorVFSgv
import Derived.Test.YtmjoigpnnechgaaDoorVFSgw
-- PRINTED by print.py (a twelfth state) out of the translation. Not trusted: Lean checks it.
namespace Go.Proofs.YtmjoigpnnechgaaDoor.V
open Go.RowKit Go.Proofs.YtmjoigpnnechgaaDoorW.St Go.Proofs.YtmjoigpnnechgaaDoorW.PrintWords Go.Proofs.YtmjoigpnnechgaaDoorW.PrintLast Go.Proofs.YtmjoigpnnechgaaDoorW.PrintMore
attribute [local go_sem] max2_int min2_int max_two min_two max_three min_three max_four min_four   -- for this text's walks alone
set_option linter.unusedVariables false
set_option linter.unusedSimpArgs false
def spec_LayOut.f (k : Nat) (a0 : ByteArray) (a1 : Int) : Option ((List (List Int)) × List Int × Bool) := (spec_l2RawLayOut.f k a0 a1).bind fun bt359 => ((spec_l13OwnLayout.f k bt359.1 bt359.2.1).bind fun bt367 => (some (bt367.1, bt367.2, bt359.2.2)))
set_option maxRecDepth 100000 in
set_option maxHeartbeats 4000000 in
theorem spec_LayOut.ctr (k : Nat) (a0 : ByteArray) (a1 : Int) (r1 : List (List Int)) (r2 : List Int) (r3 : Bool) (h : spec_LayOut.f k a0 a1 = some (r1, r2, r3)) : Ctr TE 60 none [.v (.string a0), .v (.int .i64 a1)] [.ro (.ag [.sl 1 (rX (cL (cI .i64) 1) r1), .sl 1 (rX (cI .i64) r2)]), .ro (.v (.bool r3))] [] := by
 refine ctr_of (fn := Tryd.f60) (c := (bodyOf Tryd.f60)) Tryd.func60 rfl (by kernel_rfl) (Nat.le_of_ble_eq_true (by kernel_rfl)) (fun w ro B hF _ => ?_)
 simp only [spec_LayOut.f] at h
 obtain ⟨⟨t359, t362, t365⟩, q1, h⟩ := Option.bind_eq_some_iff.1 h
 dsimp only at h
 have q1c := spec_l2RawLayOut.ctr k _ _ _ _ _ q1
 obtain ⟨⟨t367, t370⟩, q2, h⟩ := Option.bind_eq_some_iff.1 h
 dsimp only at h
 have q2c := spec_l13OwnLayout.ctr k _ _ _ _ q2
 refine path_ok (k := 7) hF (RetQ_mild _ _ _ _ _ _ _ _) (ds := [.r [.ro (.ag [.sl 1 (rX (cL (cI .i64) 1) t359), .sl 1 (rX (cI .i64) t362)]), .ro (.v (.bool t365))] [], .r [.ro (.ag [.sl 1 (rX (cL (cI .i64) 1) t367), .sl 1 (rX (cI .i64) t370)])] []]) (os := []) (c := none) rfl KD ?_
 cases h
 exact ret_as (ms := [.ro, .ro]) rfl KD
def laws_faLists.l0 : Nat → List (List Int) → List (List Int) → Int → Int → Option (Bool)
  | 0, _, _, _, _ => none
  | k + 1, x0, x1, x10, x11 => if x11 < x10 then (if 0 ≤ x11 then (if x11 < (x0.length : Int) then (if x11 < (x1.length : Int) then ((laws_faSame.f k (rd_L3 x0 x11) (rd_L3 x1 x11)).bind fun t375 => (if t375 = true then (laws_faLists.l0 k x0 x1 x10 (wrap64 (x11 + 1))) else (some false))) else (none)) else (none)) else (none)) else (some ((x0.length : Int) == (x1.length : Int)))
def laws_faLists.f (k : Nat) (l0 : List (List Int)) (l1 : List (List Int)) : Option (Bool) := laws_faLists.l0 k l0 l1 (mn (l0.length : Int) (l1.length : Int)) 0
def laws_faLists.I0 (r : Bool) (m : Nat) (σ : St) : Prop := ∃ (x0 : List (List Int)) (x1 : List (List Int)) (x10 : Int) (x11 : Int), laws_faLists.l0 m x0 x1 x10 x11 = some r ∧ σ = ⟨[(0, .sl 1 (rX (cL (cI .i64) 1) x0)), (1, .sl 1 (rX (cL (cI .i64) 1) x1)), (10, .v (.int .i64 x10)), (11, .v (.int .i64 x11))], []⟩
structure laws_faLists.C (k : Nat) : Prop where
 s_l0 : ∀ (r : Bool) (w : World) (ro : Nat → Prop) (B : Nat) (_ : Fr TE (cx0 Tryd.f106 none w ro B)) (x0 : List (List Int)) (x1 : List (List Int)) (x10 : Int) (x11 : Int) (_ : laws_faLists.l0 k x0 x1 x10 x11 = some r), Kp (WS TE (cx0 Tryd.f106 none w ro B) (stkAt [1, 0, 1, 0] [] (bodyOf Tryd.f106) []) ⟨[(0, .sl 1 (rX (cL (cI .i64) 1) x0)), (1, .sl 1 (rX (cL (cI .i64) 1) x1)), (10, .v (.int .i64 x10)), (11, .v (.int .i64 x11))], []⟩ (RetQ TE Tryd.f106 none [.ro (.v (.bool r))] [] w ro B))
set_option maxRecDepth 100000 in
set_option maxHeartbeats 4000000 in
theorem laws_faLists.c_l0 (k : Nat) (ih : Kp (∀ m, m < k → laws_faLists.C m)) (r : Bool) (w : World) (ro : Nat → Prop) (B : Nat) (hF : Fr TE (cx0 Tryd.f106 none w ro B)) (x0 : List (List Int)) (x1 : List (List Int)) (x10 : Int) (x11 : Int) (h : laws_faLists.l0 k x0 x1 x10 x11 = some r) : Kp (WS TE (cx0 Tryd.f106 none w ro B) (stkAt [1, 0, 1, 0] [] (bodyOf Tryd.f106) []) ⟨[(0, .sl 1 (rX (cL (cI .i64) 1) x0)), (1, .sl 1 (rX (cL (cI .i64) 1) x1)), (10, .v (.int .i64 x10)), (11, .v (.int .i64 x11))], []⟩ (RetQ TE Tryd.f106 none [.ro (.v (.bool r))] [] w ro B)) := by
 refine ⟨WS.loop (fun m σ => m ≤ k ∧ laws_faLists.I0 r m σ) k ⟨Nat.le_refl k, x0, x1, x10, x11, h, rfl⟩ (fun m σ' hI J0 hJ0 => ?_)⟩
 clear h
 obtain ⟨hk, x0, x1, x10, x11, h, rfl⟩ := hI
 cases m with
 | zero => simp [laws_faLists.l0] at h
 | succ k' =>
 simp only [laws_faLists.l0] at h
 by_cases c1 : x11 < x10
 · rw [if_pos c1] at h
   by_cases c2 : 0 ≤ x11
   · rw [if_pos c2] at h
     by_cases c3 : x11 < (x0.length : Int)
     · rw [if_pos c3] at h
       by_cases c4 : x11 < (x1.length : Int)
       · rw [if_pos c4] at h
         obtain ⟨t375, q5, h⟩ := Option.bind_eq_some_iff.1 h
         have q5c := laws_faSame.ctr k' _ _ _ q5
         by_cases c6 : t375 = true
         · rw [if_pos c6] at h
           refine path_ok (k := 15) hF (RetQ_mild _ _ _ _ _ _ _ _) (ds := [.b true, .e 16 (.rf [.sl 1 (rX (cI .i64) (rd_L3 x0 x11))]), .e 20 (.rf [.sl 1 (rX (cI .i64) (rd_L3 x1 x11))]), .r [.ro (.v (.bool t375))] [], .b false]) (os := [.o [(0, 0), (1, 0), (2, 0), (3, 1), (4, 0), (5, 0), (6, 0), (7, 1), (8, 2), (9, 0)] []]) (c := none) rfl KD ?_
           exact WS.lpc [] (hJ0 _ _ (Nat.lt_succ_self _) ⟨by omega, x0, x1, x10, (wrap64 (x11 + 1)), h, rfl⟩) KD
         · rw [if_neg c6] at h
           refine path_ok (k := 15) hF (RetQ_mild _ _ _ _ _ _ _ _) (ds := [.b true, .e 16 (.rf [.sl 1 (rX (cI .i64) (rd_L3 x0 x11))]), .e 20 (.rf [.sl 1 (rX (cI .i64) (rd_L3 x1 x11))]), .r [.ro (.v (.bool t375))] [], .b true]) (os := [.o [(0, 0), (1, 0), (2, 0), (3, 1), (4, 0), (5, 0), (6, 0), (7, 1), (8, 2), (9, 0)] []]) (c := none) rfl KD ?_
           cases h
           exact ret_as (ms := [.ro]) rfl KD
       · rw [if_neg c4] at h
         cases h
     · rw [if_neg c3] at h
       cases h
   · rw [if_neg c2] at h
     cases h
 · rw [if_neg c1] at h
   refine path_ok (k := 8) hF (RetQ_mild _ _ _ _ _ _ _ _) (ds := [.b false, .e 26 (.v (.int .i64 (x0.length : Int))), .e 28 (.v (.int .i64 (x1.length : Int)))]) (os := []) (c := none) rfl KD ?_
   cases h
   exact ret_as (ms := [.ro]) rfl KD
theorem laws_faLists.cs (k : Nat) : laws_faLists.C k := by
 induction k using Nat.strongRecOn with
 | _ k ih0 =>
 have ih : Kp (∀ m, m < k → laws_faLists.C m) := ⟨ih0⟩
 exact ⟨laws_faLists.c_l0 k ih⟩
set_option maxRecDepth 100000 in
set_option maxHeartbeats 4000000 in
theorem laws_faLists.ctr (k : Nat) (l0 : List (List Int)) (l1 : List (List Int)) (r : Bool) (h : laws_faLists.f k l0 l1 = some r) : Ctr TE 106 none [.sl 1 (rX (cL (cI .i64) 1) l0), .sl 1 (rX (cL (cI .i64) 1) l1)] [.ro (.v (.bool r))] [] := by
 refine ctr_of (fn := Tryd.f106) (c := (bodyOf Tryd.f106)) Tryd.func106 rfl (by kernel_rfl) (Nat.le_of_ble_eq_true (by kernel_rfl)) (fun w ro B hF _ => ?_)
 have ih : Kp (∀ m, m < k + 1 → laws_faLists.C m) := ⟨fun m _ => laws_faLists.cs m⟩
 simp only [laws_faLists.f] at h
 refine path_ok (k := 6) hF (RetQ_mild _ _ _ _ _ _ _ _) (ds := [.e 7 (.v (.int .i64 (l0.length : Int))), .e 9 (.v (.int .i64 (l1.length : Int)))]) (os := []) (c := none) rfl KD ?_
 exact WS.can [] (((ih.out k (by omega)).s_l0  r w ro B hF l0 l1 (mn (l0.length : Int) (l1.length : Int)) 0 h).out) KD
def laws_faLayout.f (k : Nat) (l0_0 : List (List Int)) (l0_1 : List Int) (l1_0 : List (List Int)) (l1_1 : List Int) : Option (Bool) := (laws_faLists.f k l0_0 l1_0).bind fun t378 => (if t378 = true then ((laws_faSame.f k l0_1 l1_1).bind fun t379 => (some t379)) else (some false))
set_option maxRecDepth 100000 in
set_option maxHeartbeats 4000000 in
theorem laws_faLayout.ctr (k : Nat) (l0_0 : List (List Int)) (l0_1 : List Int) (l1_0 : List (List Int)) (l1_1 : List Int) (r : Bool) (h : laws_faLayout.f k l0_0 l0_1 l1_0 l1_1 = some r) : Ctr TE 61 none [.ag [.sl 1 (rX (cL (cI .i64) 1) l0_0), .sl 1 (rX (cI .i64) l0_1)], .ag [.sl 1 (rX (cL (cI .i64) 1) l1_0), .sl 1 (rX (cI .i64) l1_1)]] [.ro (.v (.bool r))] [] := by
 refine ctr_of (fn := Tryd.f61) (c := (bodyOf Tryd.f61)) Tryd.func61 rfl (by kernel_rfl) (Nat.le_of_ble_eq_true (by kernel_rfl)) (fun w ro B hF _ => ?_)
 simp only [laws_faLayout.f] at h
 obtain ⟨t378, q1, h⟩ := Option.bind_eq_some_iff.1 h
 have q1c := laws_faLists.ctr k _ _ _ q1
 by_cases c2 : t378 = true
 · rw [if_pos c2] at h
   obtain ⟨t379, q3, h⟩ := Option.bind_eq_some_iff.1 h
   have q3c := laws_faSame.ctr k _ _ _ q3
   refine path_ok (k := 5) hF (RetQ_mild _ _ _ _ _ _ _ _) (ds := [.r [.ro (.v (.bool t378))] [], .b true, .b true, .b true, .b true, .b true, .r [.ro (.v (.bool t379))] [], .b true]) (os := []) (c := none) rfl KD ?_
   cases h
   exact ret_as (ms := [.ro]) rfl KD
 · rw [if_neg c2] at h
   refine path_ok (k := 5) hF (RetQ_mild _ _ _ _ _ _ _ _) (ds := [.r [.ro (.v (.bool t378))] [], .b false, .b false, .b false, .b false, .b false, .b false]) (os := []) (c := none) rfl KD ?_
   cases h
   exact ret_as (ms := [.ro]) rfl KD
def impl_total.l0 : Nat → Int → List Int → Int → Int → Option (Int)
  | 0, _, _, _, _ => none
  | k + 1, x3, x6, x7, x8 => if x8 < x7 then (if 0 ≤ x8 then (if x8 < (x6.length : Int) then (impl_total.l0 k (wrap64 (x3 + (rd x6 x8))) x6 x7 (wrap64 (x8 + 1))) else (none)) else (none)) else (some x3)
def impl_total.f (k : Nat) (l0 : List Int) : Option (Int) := impl_total.l0 k 0 l0 (l0.length : Int) 0
def impl_total.I0 (r : Int) (m : Nat) (σ : St) : Prop := ∃ (x3 : Int) (x6 : List Int) (x7 : Int) (x8 : Int), impl_total.l0 m x3 x6 x7 x8 = some r ∧ σ = ⟨[(3, .v (.int .i64 x3)), (6, .sl 1 (rX (cI .i64) x6)), (7, .v (.int .i64 x7)), (8, .v (.int .i64 x8))], []⟩
structure impl_total.C (k : Nat) : Prop where
 s_l0 : ∀ (r : Int) (w : World) (ro : Nat → Prop) (B : Nat) (_ : Fr TE (cx0 Tryd.f141 none w ro B)) (x3 : Int) (x6 : List Int) (x7 : Int) (x8 : Int) (_ : impl_total.l0 k x3 x6 x7 x8 = some r), Kp (WS TE (cx0 Tryd.f141 none w ro B) (stkAt [1, 1, 0, 1, 0] [] (bodyOf Tryd.f141) []) ⟨[(3, .v (.int .i64 x3)), (6, .sl 1 (rX (cI .i64) x6)), (7, .v (.int .i64 x7)), (8, .v (.int .i64 x8))], []⟩ (RetQ TE Tryd.f141 none [.ro (.v (.int .i64 r))] [] w ro B))
set_option maxRecDepth 100000 in
set_option maxHeartbeats 4000000 in
theorem impl_total.c_l0 (k : Nat) (ih : Kp (∀ m, m < k → impl_total.C m)) (r : Int) (w : World) (ro : Nat → Prop) (B : Nat) (hF : Fr TE (cx0 Tryd.f141 none w ro B)) (x3 : Int) (x6 : List Int) (x7 : Int) (x8 : Int) (h : impl_total.l0 k x3 x6 x7 x8 = some r) : Kp (WS TE (cx0 Tryd.f141 none w ro B) (stkAt [1, 1, 0, 1, 0] [] (bodyOf Tryd.f141) []) ⟨[(3, .v (.int .i64 x3)), (6, .sl 1 (rX (cI .i64) x6)), (7, .v (.int .i64 x7)), (8, .v (.int .i64 x8))], []⟩ (RetQ TE Tryd.f141 none [.ro (.v (.int .i64 r))] [] w ro B)) := by
 refine ⟨WS.loop (fun m σ => m ≤ k ∧ impl_total.I0 r m σ) k ⟨Nat.le_refl k, x3, x6, x7, x8, h, rfl⟩ (fun m σ' hI J0 hJ0 => ?_)⟩
 clear h
 obtain ⟨hk, x3, x6, x7, x8, h, rfl⟩ := hI
 cases m with
 | zero => simp [impl_total.l0] at h
 | succ k' =>
 simp only [impl_total.l0] at h
 by_cases c1 : x8 < x7
 · rw [if_pos c1] at h
   by_cases c2 : 0 ≤ x8
   · rw [if_pos c2] at h
     by_cases c3 : x8 < (x6.length : Int)
     · rw [if_pos c3] at h
       refine path_ok (k := 12) hF (RetQ_mild _ _ _ _ _ _ _ _) (ds := [.b true, .e 10 (.rf [.v (.int .i64 (rd x6 x8))])]) (os := []) (c := none) rfl KD ?_
       exact WS.lpc [] (hJ0 _ _ (Nat.lt_succ_self _) ⟨by omega, (wrap64 (x3 + (rd x6 x8))), x6, x7, (wrap64 (x8 + 1)), h, rfl⟩) KD
     · rw [if_neg c3] at h
       cases h
   · rw [if_neg c2] at h
     cases h
 · rw [if_neg c1] at h
   refine path_ok (k := 8) hF (RetQ_mild _ _ _ _ _ _ _ _) (ds := [.b false]) (os := []) (c := none) rfl KD ?_
   cases h
   exact ret_as (ms := [.ro]) rfl KD
theorem impl_total.cs (k : Nat) : impl_total.C k := by
 induction k using Nat.strongRecOn with
 | _ k ih0 =>
 have ih : Kp (∀ m, m < k → impl_total.C m) := ⟨ih0⟩
 exact ⟨impl_total.c_l0 k ih⟩
set_option maxRecDepth 100000 in
set_option maxHeartbeats 4000000 in
theorem impl_total.ctr (k : Nat) (l0 : List Int) (r : Int) (h : impl_total.f k l0 = some r) : Ctr TE 141 none [.sl 1 (rX (cI .i64) l0)] [.ro (.v (.int .i64 r))] [] := by
 refine ctr_of (fn := Tryd.f141) (c := (bodyOf Tryd.f141)) Tryd.func141 rfl (by kernel_rfl) (Nat.le_of_ble_eq_true (by kernel_rfl)) (fun w ro B hF _ => ?_)
 have ih : Kp (∀ m, m < k + 1 → impl_total.C m) := ⟨fun m _ => impl_total.cs m⟩
 simp only [impl_total.f] at h
 refine path_ok (k := 8) hF (RetQ_mild _ _ _ _ _ _ _ _) (ds := [.e 7 (.v (.int .i64 (l0.length : Int)))]) (os := []) (c := none) rfl KD ?_
 exact WS.can [] (((ih.out k (by omega)).s_l0  r w ro B hF 0 l0 (l0.length : Int) 0 h).out) KD
def impl_wrong.l0 : Nat → Int → List (List Int) → Int → Int → List (List Int) → List Int → Option (Int)
  | 0, _, _, _, _, _, _ => none
  | k + 1, x5, x10, x11, x12, x382000, x382001 => if x12 < x11 then (if 0 ≤ x12 then (if x12 < (x10.length : Int) then (if x12 = 3 then (some x12) else (if ((rd_L3 x10 x12).length : Int) = x5 then ((impl_within.f (rd_L3 x10 x12) 400).bind fun t384 => (if t384 = true then ((impl_total.f k (rd_L3 x10 x12)).bind fun t385 => (impl_wrong.l0 k t385 x10 x11 (wrap64 (x12 + 1)) x382000 x382001)) else (some x12))) else (some x12))) else (none)) else (none)) else (if (x382001.length : Int) = x5 then ((impl_within.f x382001 10006).bind fun t382 => (if t382 = true then (some (-1)) else (some (x382000.length : Int)))) else (some (x382000.length : Int)))
def impl_wrong.f (k : Nat) (l0_0 : List (List Int)) (l0_1 : List Int) (a1 : Int) : Option (Int) := impl_wrong.l0 k a1 l0_0 (l0_0.length : Int) 0 l0_0 l0_1
def impl_wrong.I0 (r : Int) (m : Nat) (σ : St) : Prop := ∃ (x5 : Int) (x10 : List (List Int)) (x11 : Int) (x12 : Int) (x382000 : List (List Int)) (x382001 : List Int), impl_wrong.l0 m x5 x10 x11 x12 x382000 x382001 = some r ∧ σ = ⟨[(2, .pt 1002 0 0), (5, .v (.int .i64 x5)), (10, .sl 1 (rX (cL (cI .i64) 1) x10)), (11, .v (.int .i64 x11)), (12, .v (.int .i64 x12))], [(1002, .box 0 32 false [.sl 1 (rX (cL (cI .i64) 1) x382000), .sl 1 (rX (cI .i64) x382001)])]⟩
structure impl_wrong.C (k : Nat) : Prop where
 s_l0 : ∀ (r : Int) (w : World) (ro : Nat → Prop) (B : Nat) (_ : Fr TE (cx0 Tryd.f108 none w ro B)) (x5 : Int) (x10 : List (List Int)) (x11 : Int) (x12 : Int) (x382000 : List (List Int)) (x382001 : List Int) (_ : impl_wrong.l0 k x5 x10 x11 x12 x382000 x382001 = some r), Kp (WS TE (cx0 Tryd.f108 none w ro B) (stkAt [1, 1, 0, 1, 0] [] (bodyOf Tryd.f108) []) ⟨[(2, .pt 1002 0 0), (5, .v (.int .i64 x5)), (10, .sl 1 (rX (cL (cI .i64) 1) x10)), (11, .v (.int .i64 x11)), (12, .v (.int .i64 x12))], [(1002, .box 0 32 false [.sl 1 (rX (cL (cI .i64) 1) x382000), .sl 1 (rX (cI .i64) x382001)])]⟩ (RetQ TE Tryd.f108 none [.ro (.v (.int .i64 r))] [] w ro B))
set_option maxRecDepth 100000 in
set_option maxHeartbeats 4000000 in
theorem impl_wrong.c_l0 (k : Nat) (ih : Kp (∀ m, m < k → impl_wrong.C m)) (r : Int) (w : World) (ro : Nat → Prop) (B : Nat) (hF : Fr TE (cx0 Tryd.f108 none w ro B)) (x5 : Int) (x10 : List (List Int)) (x11 : Int) (x12 : Int) (x382000 : List (List Int)) (x382001 : List Int) (h : impl_wrong.l0 k x5 x10 x11 x12 x382000 x382001 = some r) : Kp (WS TE (cx0 Tryd.f108 none w ro B) (stkAt [1, 1, 0, 1, 0] [] (bodyOf Tryd.f108) []) ⟨[(2, .pt 1002 0 0), (5, .v (.int .i64 x5)), (10, .sl 1 (rX (cL (cI .i64) 1) x10)), (11, .v (.int .i64 x11)), (12, .v (.int .i64 x12))], [(1002, .box 0 32 false [.sl 1 (rX (cL (cI .i64) 1) x382000), .sl 1 (rX (cI .i64) x382001)])]⟩ (RetQ TE Tryd.f108 none [.ro (.v (.int .i64 r))] [] w ro B)) := by
 refine ⟨WS.loop (fun m σ => m ≤ k ∧ impl_wrong.I0 r m σ) k ⟨Nat.le_refl k, x5, x10, x11, x12, x382000, x382001, h, rfl⟩ (fun m σ' hI J0 hJ0 => ?_)⟩
 clear h
 obtain ⟨hk, x5, x10, x11, x12, x382000, x382001, h, rfl⟩ := hI
 cases m with
 | zero => simp [impl_wrong.l0] at h
 | succ k' =>
 simp only [impl_wrong.l0] at h
 by_cases c1 : x12 < x11
 · rw [if_pos c1] at h
   by_cases c2 : 0 ≤ x12
   · rw [if_pos c2] at h
     by_cases c3 : x12 < (x10.length : Int)
     · rw [if_pos c3] at h
       by_cases c4 : x12 = 3
       · rw [if_pos c4] at h
         refine path_ok (k := 16) hF (RetQ_mild _ _ _ _ _ _ _ _) (ds := [.b true, .e 15 (.rf [.sl 1 (rX (cI .i64) (rd_L3 x10 x12))]), .b true, .b true, .b true, .b true, .b true, .b true, .b true, .b true, .b true, .b true]) (os := []) (c := none) rfl KD ?_
         cases h
         exact ret_as (ms := [.ro]) rfl KD
       · rw [if_neg c4] at h
         by_cases c5 : ((rd_L3 x10 x12).length : Int) = x5
         · rw [if_pos c5] at h
           obtain ⟨t384, q6, h⟩ := Option.bind_eq_some_iff.1 h
           have q6c := impl_within.ctr _ _ _ q6
           by_cases c7 : t384 = true
           · rw [if_pos c7] at h
             obtain ⟨t385, q8, h⟩ := Option.bind_eq_some_iff.1 h
             have q8c := impl_total.ctr k' _ _ q8
             refine path_ok (k := 17) hF (RetQ_mild _ _ _ _ _ _ _ _) (ds := [.b true, .e 15 (.rf [.sl 1 (rX (cI .i64) (rd_L3 x10 x12))]), .b false, .b false, .e 21 (.v (.int .i64 ((rd_L3 x10 x12).length : Int))), .b false, .b false, .b false, .b false, .b false, .r [.ro (.v (.bool t384))] [], .b false, .b false, .b false, .r [.ro (.v (.int .i64 t385))] []]) (os := []) (c := none) rfl KD ?_
             exact WS.lpc [(1002, some 1002)] (hJ0 _ _ (Nat.lt_succ_self _) ⟨by omega, t385, x10, x11, (wrap64 (x12 + 1)), x382000, x382001, h, rfl⟩) KD
           · rw [if_neg c7] at h
             refine path_ok (k := 16) hF (RetQ_mild _ _ _ _ _ _ _ _) (ds := [.b true, .e 15 (.rf [.sl 1 (rX (cI .i64) (rd_L3 x10 x12))]), .b false, .b false, .e 21 (.v (.int .i64 ((rd_L3 x10 x12).length : Int))), .b false, .b false, .b false, .b false, .b false, .r [.ro (.v (.bool t384))] [], .b false, .b false, .b true]) (os := []) (c := none) rfl KD ?_
             cases h
             exact ret_as (ms := [.ro]) rfl KD
         · rw [if_neg c5] at h
           refine path_ok (k := 16) hF (RetQ_mild _ _ _ _ _ _ _ _) (ds := [.b true, .e 15 (.rf [.sl 1 (rX (cI .i64) (rd_L3 x10 x12))]), .b false, .b false, .e 21 (.v (.int .i64 ((rd_L3 x10 x12).length : Int))), .b false, .b false, .b false, .b true, .b true, .b true, .b true, .b true]) (os := []) (c := none) rfl KD ?_
           cases h
           exact ret_as (ms := [.ro]) rfl KD
     · rw [if_neg c3] at h
       cases h
   · rw [if_neg c2] at h
     cases h
 · rw [if_neg c1] at h
   by_cases c9 : (x382001.length : Int) = x5
   · rw [if_pos c9] at h
     obtain ⟨t382, q10, h⟩ := Option.bind_eq_some_iff.1 h
     have q10c := impl_within.ctr _ _ _ q10
     by_cases c11 : t382 = true
     · rw [if_pos c11] at h
       refine path_ok (k := 13) hF (RetQ_mild _ _ _ _ _ _ _ _) (ds := [.b false, .e 36 (.v (.int .i64 (x382001.length : Int))), .b false, .b false, .b false, .r [.ro (.v (.bool t382))] [], .b false, .b false, .b false]) (os := []) (c := none) rfl KD ?_
       cases h
       exact ret_as (ms := [.ro]) rfl KD
     · rw [if_neg c11] at h
       refine path_ok (k := 12) hF (RetQ_mild _ _ _ _ _ _ _ _) (ds := [.b false, .e 36 (.v (.int .i64 (x382001.length : Int))), .b false, .b false, .b false, .r [.ro (.v (.bool t382))] [], .b false, .b false, .b true, .e 47 (.v (.int .i64 (x382000.length : Int)))]) (os := []) (c := none) rfl KD ?_
       cases h
       exact ret_as (ms := [.ro]) rfl KD
   · rw [if_neg c9] at h
     refine path_ok (k := 12) hF (RetQ_mild _ _ _ _ _ _ _ _) (ds := [.b false, .e 36 (.v (.int .i64 (x382001.length : Int))), .b true, .b true, .b true, .b true, .b true, .b true, .e 47 (.v (.int .i64 (x382000.length : Int)))]) (os := []) (c := none) rfl KD ?_
     cases h
     exact ret_as (ms := [.ro]) rfl KD
theorem impl_wrong.cs (k : Nat) : impl_wrong.C k := by
 induction k using Nat.strongRecOn with
 | _ k ih0 =>
 have ih : Kp (∀ m, m < k → impl_wrong.C m) := ⟨ih0⟩
 exact ⟨impl_wrong.c_l0 k ih⟩
set_option maxRecDepth 100000 in
set_option maxHeartbeats 4000000 in
theorem impl_wrong.ctr (k : Nat) (l0_0 : List (List Int)) (l0_1 : List Int) (a1 : Int) (r : Int) (h : impl_wrong.f k l0_0 l0_1 a1 = some r) : Ctr TE 108 none [.ag [.sl 1 (rX (cL (cI .i64) 1) l0_0), .sl 1 (rX (cI .i64) l0_1)], .v (.int .i64 a1)] [.ro (.v (.int .i64 r))] [] := by
 refine ctr_of (fn := Tryd.f108) (c := (bodyOf Tryd.f108)) Tryd.func108 rfl (by kernel_rfl) (Nat.le_of_ble_eq_true (by kernel_rfl)) (fun w ro B hF _ => ?_)
 have ih : Kp (∀ m, m < k + 1 → impl_wrong.C m) := ⟨fun m _ => impl_wrong.cs m⟩
 simp only [impl_wrong.f] at h
 refine path_ok (k := 8) hF (RetQ_mild _ _ _ _ _ _ _ _) (ds := [.e 11 (.v (.int .i64 (l0_0.length : Int)))]) (os := []) (c := none) rfl KD ?_
 exact WS.can [(1002, some 2)] (((ih.out k (by omega)).s_l0  r w ro B hF a1 l0_0 (l0_0.length : Int) 0 l0_0 l0_1 h).out) KD
def impl_LayoutValid.f (k : Nat) (l0_0 : List (List Int)) (l0_1 : List Int) : Option (Bool) := (impl_wrong.f k l0_0 l0_1 1).bind fun t387 => (some (decide (t387 < 0)))
set_option maxRecDepth 100000 in
set_option maxHeartbeats 4000000 in
theorem impl_LayoutValid.ctr (k : Nat) (l0_0 : List (List Int)) (l0_1 : List Int) (r : Bool) (h : impl_LayoutValid.f k l0_0 l0_1 = some r) : Ctr TE 63 none [.ag [.sl 1 (rX (cL (cI .i64) 1) l0_0), .sl 1 (rX (cI .i64) l0_1)]] [.ro (.v (.bool r))] [] := by
 refine ctr_of (fn := Tryd.f63) (c := (bodyOf Tryd.f63)) Tryd.func63 rfl (by kernel_rfl) (Nat.le_of_ble_eq_true (by kernel_rfl)) (fun w ro B hF _ => ?_)
 simp only [impl_LayoutValid.f] at h
 obtain ⟨t387, q1, h⟩ := Option.bind_eq_some_iff.1 h
 have q1c := impl_wrong.ctr k _ _ _ _ q1
 refine path_ok (k := 5) hF (RetQ_mild _ _ _ _ _ _ _ _) (ds := [.r [.ro (.v (.int .i64 t387))] []]) (os := []) (c := none) rfl KD ?_
 cases h
 exact ret_as (ms := [.ro]) rfl KD
def impl_arr_short.f (k : Nat) (a0_0 : Int) (l0_1 : List (S84)) (a1 : Int) : Option (ByteArray × Bool) := (impl_arr_text.f k a0_0 l0_1 a1).bind fun t389 => (if (t389.size : Int) > 400 then (some ((⟨#[]⟩ : ByteArray), false)) else (some (t389, true)))
set_option maxRecDepth 100000 in
set_option maxHeartbeats 4000000 in
theorem impl_arr_short.ctr (k : Nat) (a0_0 : Int) (l0_1 : List (S84)) (a1 : Int) (r1 : ByteArray) (r2 : Bool) (h : impl_arr_short.f k a0_0 l0_1 a1 = some (r1, r2)) : Ctr TE 101 none [.ag [.v (.int .i64 a0_0), .sl 2 (r84 l0_1)], .v (.int .i64 a1)] [.ro (.v (.string r1)), .ro (.v (.bool r2))] [] := by
 refine ctr_of (fn := Tryd.f101) (c := (bodyOf Tryd.f101)) Tryd.func101 rfl (by kernel_rfl) (Nat.le_of_ble_eq_true (by kernel_rfl)) (fun w ro B hF _ => ?_)
 simp only [impl_arr_short.f] at h
 obtain ⟨t389, q1, h⟩ := Option.bind_eq_some_iff.1 h
 have q1c := impl_arr_text.ctr k _ _ _ _ q1
 by_cases c2 : (t389.size : Int) > 400
 · rw [if_pos c2] at h
   refine path_ok (k := 11) hF (RetQ_mild _ _ _ _ _ _ _ _) (ds := [.r [.ro (.v (.string t389))] [], .b true]) (os := []) (c := none) rfl KD ?_
   cases h
   exact ret_as (ms := [.ro, .ro]) rfl KD
 · rw [if_neg c2] at h
   refine path_ok (k := 12) hF (RetQ_mild _ _ _ _ _ _ _ _) (ds := [.r [.ro (.v (.string t389))] [], .b false]) (os := []) (c := none) rfl KD ?_
   cases h
   exact ret_as (ms := [.ro, .ro]) rfl KD
mutual
def impl_raised.l0 : Nat → List (S84) → List Int → Int → Int → List (List Int) → List Int → Option ((List (S84)))
  | 0, _, _, _, _, _, _ => none
  | k + 1, x5, x17, x18, x19, x391000, x391001 => if x19 < x18 then (if 0 ≤ x19 then (if x19 < (x17.length : Int) then (if x5.length < 4398046511104 then (impl_raised.l0 k (x5 ++ [(⟨rd x17 x19, ([] : List (S84))⟩ : S84)]) x17 x18 (wrap64 (x19 + 1)) x391000 x391001) else (none)) else (none)) else (none)) else (impl_raised.l1 k x5 (wrap64 ((x391000.length : Int) - 1)) x391000 x391001)
def impl_raised.l1 : Nat → List (S84) → Int → List (List Int) → List Int → Option ((List (S84)))
  | 0, _, _, _, _ => none
  | k + 1, x5, x8, x391000, x391001 => if x8 ≥ 0 then (if 0 ≤ x8 then (if x8 < (x391000.length : Int) then (impl_raised.l2 k x5 x8 (([] : List (S84))) (rd_L3 x391000 x8) ((rd_L3 x391000 x8).length : Int) 0 x391000 x391001) else (none)) else (none)) else (some x5)
def impl_raised.l2 : Nat → List (S84) → Int → List (S84) → List Int → Int → Int → List (List Int) → List Int → Option ((List (S84)))
  | 0, _, _, _, _, _, _, _, _ => none
  | k + 1, x5, x8, x9, x42, x43, x44, x391000, x391001 => if x44 < x43 then (if 0 ≤ x44 then (if x44 < (x42.length : Int) then (if 0 ≤ (rd x42 x44) then (if (rd x42 x44) ≤ (x5.length : Int) then (if x9.length < 4398046511104 then (impl_raised.l2 k (x5.drop ((rd x42 x44) : Int).toNat) x8 (x9 ++ [(⟨0, (x5.take ((rd x42 x44) : Int).toNat)⟩ : S84)]) x42 x43 (wrap64 (x44 + 1)) x391000 x391001) else (none)) else (none)) else (none)) else (none)) else (none)) else (impl_raised.l1 k x9 (wrap64 (x8 - 1)) x391000 x391001)
end
def impl_raised.f (k : Nat) (l0_0 : List (List Int)) (l0_1 : List Int) (a1 : Int) : Option ((List (S84))) := if 0 ≤ (l0_1.length : Int) then (if ((l0_1.length : Int) : Int).toNat ≤ 8796093022208 then (impl_raised.l0 k (List.replicate 0 z84) l0_1 (l0_1.length : Int) 0 l0_0 l0_1) else (none)) else (none)
def impl_raised.I0 (r : List (S84)) (m : Nat) (σ : St) : Prop := ∃ (x5 : List (S84)) (x17 : List Int) (x18 : Int) (x19 : Int) (x391000 : List (List Int)) (x391001 : List Int), impl_raised.l0 m x5 x17 x18 x19 x391000 x391001 = some r ∧ σ = ⟨[(2, .pt 1002 0 0), (5, .ow 1005 0), (17, .sl 1 (rX (cI .i64) x17)), (18, .v (.int .i64 x18)), (19, .v (.int .i64 x19))], [(1002, .box 0 32 false [.sl 1 (rX (cL (cI .i64) 1) x391000), .sl 1 (rX (cI .i64) x391001)]), (1005, .own 0 84 2 (r84 x5))]⟩
def impl_raised.I1 (r : List (S84)) (m : Nat) (σ : St) : Prop := ∃ (x5 : List (S84)) (x8 : Int) (x391000 : List (List Int)) (x391001 : List Int), impl_raised.l1 m x5 x8 x391000 x391001 = some r ∧ σ = ⟨[(2, .pt 1002 0 0), (5, .ow 1005 0), (8, .v (.int .i64 x8))], [(1002, .box 0 32 false [.sl 1 (rX (cL (cI .i64) 1) x391000), .sl 1 (rX (cI .i64) x391001)]), (1005, .own 0 84 2 (r84 x5))]⟩
def impl_raised.I2 (r : List (S84)) (m : Nat) (σ : St) : Prop := ∃ (x5 : List (S84)) (x8 : Int) (x9 : List (S84)) (x42 : List Int) (x43 : Int) (x44 : Int) (x391000 : List (List Int)) (x391001 : List Int), impl_raised.l2 m x5 x8 x9 x42 x43 x44 x391000 x391001 = some r ∧ σ = ⟨[(2, .pt 1002 0 0), (5, .sl 2 (r84 x5)), (8, .v (.int .i64 x8)), (9, .ow 1009 0), (42, .sl 1 (rX (cI .i64) x42)), (43, .v (.int .i64 x43)), (44, .v (.int .i64 x44))], [(1002, .box 0 32 false [.sl 1 (rX (cL (cI .i64) 1) x391000), .sl 1 (rX (cI .i64) x391001)]), (1009, .own 0 84 2 (r84 x9))]⟩
structure impl_raised.C (k : Nat) : Prop where
 s_l0 : ∀ (r : List (S84)) (w : World) (ro : Nat → Prop) (B : Nat) (_ : Fr TE (cx0 Tryd.f107 none w ro B)) (x5 : List (S84)) (x17 : List Int) (x18 : Int) (x19 : Int) (x391000 : List (List Int)) (x391001 : List Int) (_ : impl_raised.l0 k x5 x17 x18 x19 x391000 x391001 = some r), Kp (WS TE (cx0 Tryd.f107 none w ro B) (stkAt [1, 1, 0, 1, 0] [] (bodyOf Tryd.f107) []) ⟨[(2, .pt 1002 0 0), (5, .ow 1005 0), (17, .sl 1 (rX (cI .i64) x17)), (18, .v (.int .i64 x18)), (19, .v (.int .i64 x19))], [(1002, .box 0 32 false [.sl 1 (rX (cL (cI .i64) 1) x391000), .sl 1 (rX (cI .i64) x391001)]), (1005, .own 0 84 2 (r84 x5))]⟩ (RetQ TE Tryd.f107 none [.own 84 2 (r84 r)] [] w ro B))
 s_l1 : ∀ (r : List (S84)) (w : World) (ro : Nat → Prop) (B : Nat) (_ : Fr TE (cx0 Tryd.f107 none w ro B)) (x5 : List (S84)) (x8 : Int) (x391000 : List (List Int)) (x391001 : List Int) (_ : impl_raised.l1 k x5 x8 x391000 x391001 = some r), Kp (WS TE (cx0 Tryd.f107 none w ro B) (stkAt [1, 1, 1, 0, 1, 0] [] (bodyOf Tryd.f107) []) ⟨[(2, .pt 1002 0 0), (5, .ow 1005 0), (8, .v (.int .i64 x8))], [(1002, .box 0 32 false [.sl 1 (rX (cL (cI .i64) 1) x391000), .sl 1 (rX (cI .i64) x391001)]), (1005, .own 0 84 2 (r84 x5))]⟩ (RetQ TE Tryd.f107 none [.own 84 2 (r84 r)] [] w ro B))
 s_l2 : ∀ (r : List (S84)) (w : World) (ro : Nat → Prop) (B : Nat) (_ : Fr TE (cx0 Tryd.f107 none w ro B)) (J1 : St → Prop) (_ : ∀ m σ, m ≤ k → impl_raised.I1 r m σ → J1 σ) (x5 : List (S84)) (x8 : Int) (x9 : List (S84)) (x42 : List Int) (x43 : Int) (x44 : Int) (x391000 : List (List Int)) (x391001 : List Int) (_ : impl_raised.l2 k x5 x8 x9 x42 x43 x44 x391000 x391001 = some r), Kp (WS TE (cx0 Tryd.f107 none w ro B) (stkAt [1, 1, 1, 0, 1, 0, 0, 1, 0, 0, 1, 0, 1, 0] [J1] (bodyOf Tryd.f107) []) ⟨[(2, .pt 1002 0 0), (5, .sl 2 (r84 x5)), (8, .v (.int .i64 x8)), (9, .ow 1009 0), (42, .sl 1 (rX (cI .i64) x42)), (43, .v (.int .i64 x43)), (44, .v (.int .i64 x44))], [(1002, .box 0 32 false [.sl 1 (rX (cL (cI .i64) 1) x391000), .sl 1 (rX (cI .i64) x391001)]), (1009, .own 0 84 2 (r84 x9))]⟩ (RetQ TE Tryd.f107 none [.own 84 2 (r84 r)] [] w ro B))
set_option maxRecDepth 100000 in
set_option maxHeartbeats 4000000 in
theorem impl_raised.c_l0 (k : Nat) (ih : Kp (∀ m, m < k → impl_raised.C m)) (r : List (S84)) (w : World) (ro : Nat → Prop) (B : Nat) (hF : Fr TE (cx0 Tryd.f107 none w ro B)) (x5 : List (S84)) (x17 : List Int) (x18 : Int) (x19 : Int) (x391000 : List (List Int)) (x391001 : List Int) (h : impl_raised.l0 k x5 x17 x18 x19 x391000 x391001 = some r) : Kp (WS TE (cx0 Tryd.f107 none w ro B) (stkAt [1, 1, 0, 1, 0] [] (bodyOf Tryd.f107) []) ⟨[(2, .pt 1002 0 0), (5, .ow 1005 0), (17, .sl 1 (rX (cI .i64) x17)), (18, .v (.int .i64 x18)), (19, .v (.int .i64 x19))], [(1002, .box 0 32 false [.sl 1 (rX (cL (cI .i64) 1) x391000), .sl 1 (rX (cI .i64) x391001)]), (1005, .own 0 84 2 (r84 x5))]⟩ (RetQ TE Tryd.f107 none [.own 84 2 (r84 r)] [] w ro B)) := by
 refine ⟨WS.loop (fun m σ => m ≤ k ∧ impl_raised.I0 r m σ) k ⟨Nat.le_refl k, x5, x17, x18, x19, x391000, x391001, h, rfl⟩ (fun m σ' hI J0 hJ0 => ?_)⟩
 clear h
 obtain ⟨hk, x5, x17, x18, x19, x391000, x391001, h, rfl⟩ := hI
 cases m with
 | zero => simp [impl_raised.l0] at h
 | succ k' =>
 simp only [impl_raised.l0] at h
 by_cases c3 : x19 < x18
 · rw [if_pos c3] at h
   by_cases c4 : 0 ≤ x19
   · rw [if_pos c4] at h
     by_cases c5 : x19 < (x17.length : Int)
     · rw [if_pos c5] at h
       by_cases c6 : x5.length < 4398046511104
       · rw [if_pos c6] at h
         refine path_ok (k := 12) hF (RetQ_mild _ _ _ _ _ _ _ _) (ds := [.b true, .e 21 (.rf [.v (.int .i64 (rd x17 x19))]), .p 26 ([[.v (.int .i64 (rd x17 x19)), .sl 2 (r84 [])]]), .o 27 (r84 (x5 ++ [(⟨rd x17 x19, ([] : List (S84))⟩ : S84)]))]) (os := []) (c := none) rfl KD ?_
         exact WS.lpc [(1002, some 1002), (1005, some 1005)] (hJ0 _ _ (Nat.lt_succ_self _) ⟨by omega, (x5 ++ [(⟨rd x17 x19, ([] : List (S84))⟩ : S84)]), x17, x18, (wrap64 (x19 + 1)), x391000, x391001, h, rfl⟩) KD
       · rw [if_neg c6] at h
         cases h
     · rw [if_neg c5] at h
       cases h
   · rw [if_neg c4] at h
     cases h
 · rw [if_neg c3] at h
   refine path_ok (k := 9) hF (RetQ_mild _ _ _ _ _ _ _ _) (ds := [.b false, .e 31 (.v (.int .i64 (x391000.length : Int)))]) (os := []) (c := none) rfl KD ?_
   exact WS.can [(1002, some 1002), (1005, some 1005)] (((ih.out k' (by omega)).s_l1  r w ro B hF x5 (wrap64 ((x391000.length : Int) - 1)) x391000 x391001 h).out) KD
set_option maxRecDepth 100000 in
set_option maxHeartbeats 4000000 in
theorem impl_raised.c_l1 (k : Nat) (ih : Kp (∀ m, m < k → impl_raised.C m)) (r : List (S84)) (w : World) (ro : Nat → Prop) (B : Nat) (hF : Fr TE (cx0 Tryd.f107 none w ro B)) (x5 : List (S84)) (x8 : Int) (x391000 : List (List Int)) (x391001 : List Int) (h : impl_raised.l1 k x5 x8 x391000 x391001 = some r) : Kp (WS TE (cx0 Tryd.f107 none w ro B) (stkAt [1, 1, 1, 0, 1, 0] [] (bodyOf Tryd.f107) []) ⟨[(2, .pt 1002 0 0), (5, .ow 1005 0), (8, .v (.int .i64 x8))], [(1002, .box 0 32 false [.sl 1 (rX (cL (cI .i64) 1) x391000), .sl 1 (rX (cI .i64) x391001)]), (1005, .own 0 84 2 (r84 x5))]⟩ (RetQ TE Tryd.f107 none [.own 84 2 (r84 r)] [] w ro B)) := by
 refine ⟨WS.loop (fun m σ => m ≤ k ∧ impl_raised.I1 r m σ) k ⟨Nat.le_refl k, x5, x8, x391000, x391001, h, rfl⟩ (fun m σ' hI J1 hJ1 => ?_)⟩
 clear h
 obtain ⟨hk, x5, x8, x391000, x391001, h, rfl⟩ := hI
 cases m with
 | zero => simp [impl_raised.l1] at h
 | succ k' =>
 simp only [impl_raised.l1] at h
 by_cases c7 : x8 ≥ 0
 · rw [if_pos c7] at h
   by_cases c8 : 0 ≤ x8
   · rw [if_pos c8] at h
     by_cases c9 : x8 < (x391000.length : Int)
     · rw [if_pos c9] at h
       refine path_ok (k := 13) hF (RetQ_mild _ _ _ _ _ _ _ _) (ds := [.b true, .p 37 ([]), .e 41 (.rf [.sl 1 (rX (cI .i64) (rd_L3 x391000 x8))]), .e 43 (.v (.int .i64 ((rd_L3 x391000 x8).length : Int)))]) (os := []) (c := none) rfl KD ?_
       refine WS.freeze 1005 ?_ rfl
       exact WS.can [(1002, some 1002), (1009, some 37)] (((ih.out k' (by omega)).s_l2  r w ro B hF J1 (fun m σ hm hI => hJ1 m σ (by omega) ⟨by omega, hI⟩) x5 x8 (([] : List (S84))) (rd_L3 x391000 x8) ((rd_L3 x391000 x8).length : Int) 0 x391000 x391001 h).out) KD
     · rw [if_neg c9] at h
       cases h
   · rw [if_neg c8] at h
     cases h
 · rw [if_neg c7] at h
   refine path_ok (k := 8) hF (RetQ_mild _ _ _ _ _ _ _ _) (ds := [.b false]) (os := []) (c := none) rfl KD ?_
   cases h
   exact ret_as (ms := [.own]) rfl KD
set_option maxRecDepth 100000 in
set_option maxHeartbeats 4000000 in
theorem impl_raised.c_l2 (k : Nat) (ih : Kp (∀ m, m < k → impl_raised.C m)) (r : List (S84)) (w : World) (ro : Nat → Prop) (B : Nat) (hF : Fr TE (cx0 Tryd.f107 none w ro B)) (J1 : St → Prop) (hJ1 : ∀ m σ, m ≤ k → impl_raised.I1 r m σ → J1 σ) (x5 : List (S84)) (x8 : Int) (x9 : List (S84)) (x42 : List Int) (x43 : Int) (x44 : Int) (x391000 : List (List Int)) (x391001 : List Int) (h : impl_raised.l2 k x5 x8 x9 x42 x43 x44 x391000 x391001 = some r) : Kp (WS TE (cx0 Tryd.f107 none w ro B) (stkAt [1, 1, 1, 0, 1, 0, 0, 1, 0, 0, 1, 0, 1, 0] [J1] (bodyOf Tryd.f107) []) ⟨[(2, .pt 1002 0 0), (5, .sl 2 (r84 x5)), (8, .v (.int .i64 x8)), (9, .ow 1009 0), (42, .sl 1 (rX (cI .i64) x42)), (43, .v (.int .i64 x43)), (44, .v (.int .i64 x44))], [(1002, .box 0 32 false [.sl 1 (rX (cL (cI .i64) 1) x391000), .sl 1 (rX (cI .i64) x391001)]), (1009, .own 0 84 2 (r84 x9))]⟩ (RetQ TE Tryd.f107 none [.own 84 2 (r84 r)] [] w ro B)) := by
 refine ⟨WS.loop (fun m σ => m ≤ k ∧ impl_raised.I2 r m σ) k ⟨Nat.le_refl k, x5, x8, x9, x42, x43, x44, x391000, x391001, h, rfl⟩ (fun m σ' hI J2 hJ2 => ?_)⟩
 clear h
 obtain ⟨hk, x5, x8, x9, x42, x43, x44, x391000, x391001, h, rfl⟩ := hI
 cases m with
 | zero => simp [impl_raised.l2] at h
 | succ k' =>
 simp only [impl_raised.l2] at h
 by_cases c10 : x44 < x43
 · rw [if_pos c10] at h
   by_cases c11 : 0 ≤ x44
   · rw [if_pos c11] at h
     by_cases c12 : x44 < (x42.length : Int)
     · rw [if_pos c12] at h
       by_cases c13 : 0 ≤ (rd x42 x44)
       · rw [if_pos c13] at h
         by_cases c14 : (rd x42 x44) ≤ (x5.length : Int)
         · rw [if_pos c14] at h
           by_cases c15 : x9.length < 4398046511104
           · rw [if_pos c15] at h
             refine path_ok (k := 14) hF (RetQ_mild _ _ _ _ _ _ _ _) (ds := [.b true, .e 46 (.rf [.v (.int .i64 (rd x42 x44))]), .e 52 (.sl 2 (r84 (x5.take ((rd x42 x44) : Int).toNat))), .p 54 ([[.v (.int .i64 0), .sl 2 (r84 (x5.take ((rd x42 x44) : Int).toNat))]]), .o 55 (r84 (x9 ++ [(⟨0, (x5.take ((rd x42 x44) : Int).toNat)⟩ : S84)])), .e 58 (.sl 2 (r84 (x5.drop ((rd x42 x44) : Int).toNat)))]) (os := []) (c := none) rfl KD ?_
             exact WS.lpc [(1002, some 1002), (1009, some 1009)] (hJ2 _ _ (Nat.lt_succ_self _) ⟨by omega, (x5.drop ((rd x42 x44) : Int).toNat), x8, (x9 ++ [(⟨0, (x5.take ((rd x42 x44) : Int).toNat)⟩ : S84)]), x42, x43, (wrap64 (x44 + 1)), x391000, x391001, h, rfl⟩) KD
           · rw [if_neg c15] at h
             cases h
         · rw [if_neg c14] at h
           cases h
       · rw [if_neg c13] at h
         cases h
     · rw [if_neg c12] at h
       cases h
   · rw [if_neg c11] at h
     cases h
 · rw [if_neg c10] at h
   refine path_ok (k := 8) hF (RetQ_mild _ _ _ _ _ _ _ _) (ds := [.b false]) (os := []) (c := none) rfl KD ?_
   exact WS.lpc [(1002, some 1002), (1005, some 1009)] (hJ1 _ _ (by omega) ⟨x9, (wrap64 (x8 - 1)), x391000, x391001, h, rfl⟩) KD
theorem impl_raised.cs (k : Nat) : impl_raised.C k := by
 induction k using Nat.strongRecOn with
 | _ k ih0 =>
 have ih : Kp (∀ m, m < k → impl_raised.C m) := ⟨ih0⟩
 exact ⟨impl_raised.c_l0 k ih, impl_raised.c_l1 k ih, impl_raised.c_l2 k ih⟩
set_option maxRecDepth 100000 in
set_option maxHeartbeats 4000000 in
theorem impl_raised.ctr (k : Nat) (l0_0 : List (List Int)) (l0_1 : List Int) (a1 : Int) (r : List (S84)) (h : impl_raised.f k l0_0 l0_1 a1 = some r) : Ctr TE 107 none [.ag [.sl 1 (rX (cL (cI .i64) 1) l0_0), .sl 1 (rX (cI .i64) l0_1)], .v (.int .i64 a1)] [.own 84 2 (r84 r)] [] := by
 refine ctr_of (fn := Tryd.f107) (c := (bodyOf Tryd.f107)) Tryd.func107 rfl (by kernel_rfl) (Nat.le_of_ble_eq_true (by kernel_rfl)) (fun w ro B hF _ => ?_)
 have ih : Kp (∀ m, m < k + 1 → impl_raised.C m) := ⟨fun m _ => impl_raised.cs m⟩
 simp only [impl_raised.f] at h
 by_cases c1 : 0 ≤ (l0_1.length : Int)
 · rw [if_pos c1] at h
   by_cases c2 : ((l0_1.length : Int) : Int).toNat ≤ 8796093022208
   · rw [if_pos c2] at h
     refine path_ok (k := 8) hF (RetQ_mild _ _ _ _ _ _ _ _) (ds := [.e 14 (.v (.int .i64 (l0_1.length : Int))), .o 15 (r84 (List.replicate 0 z84)), .e 18 (.v (.int .i64 (l0_1.length : Int)))]) (os := []) (c := none) rfl KD ?_
     exact WS.can [(1002, some 2), (1005, some 15)] (((ih.out k (by omega)).s_l0  r w ro B hF (List.replicate 0 z84) l0_1 (l0_1.length : Int) 0 l0_0 l0_1 h).out) KD
   · rw [if_neg c2] at h
     cases h
 · rw [if_neg c1] at h
   cases h
def impl_FoldUp.f (k : Nat) (l0_0 : List (List Int)) (l0_1 : List Int) : Option (ByteArray × Bool) := (impl_LayoutValid.f k l0_0 l0_1).bind fun t415 => (if t415 = true then ((impl_raised.f k l0_0 l0_1 1).bind fun t416 => (if 0 < (t416.length : Int) then ((impl_arr_short.f k ((rd_T84 t416 0).f0) ((rd_T84 t416 0).f1) (l0_0.length : Int)).bind fun bt420 => (some (bt420.1, bt420.2))) else (none))) else (some ((⟨#[]⟩ : ByteArray), false)))
set_option maxRecDepth 100000 in
set_option maxHeartbeats 4000000 in
theorem impl_FoldUp.ctr (k : Nat) (l0_0 : List (List Int)) (l0_1 : List Int) (r1 : ByteArray) (r2 : Bool) (h : impl_FoldUp.f k l0_0 l0_1 = some (r1, r2)) : Ctr TE 62 none [.ag [.sl 1 (rX (cL (cI .i64) 1) l0_0), .sl 1 (rX (cI .i64) l0_1)]] [.ro (.v (.string r1)), .ro (.v (.bool r2))] [] := by
 refine ctr_of (fn := Tryd.f62) (c := (bodyOf Tryd.f62)) Tryd.func62 rfl (by kernel_rfl) (Nat.le_of_ble_eq_true (by kernel_rfl)) (fun w ro B hF _ => ?_)
 simp only [impl_FoldUp.f] at h
 obtain ⟨t415, q1, h⟩ := Option.bind_eq_some_iff.1 h
 have q1c := impl_LayoutValid.ctr k _ _ _ q1
 by_cases c2 : t415 = true
 · rw [if_pos c2] at h
   obtain ⟨t416, q3, h⟩ := Option.bind_eq_some_iff.1 h
   have q3c := impl_raised.ctr k _ _ _ _ q3
   by_cases c4 : 0 < (t416.length : Int)
   · rw [if_pos c4] at h
     obtain ⟨⟨t420, t421⟩, q5, h⟩ := Option.bind_eq_some_iff.1 h
     dsimp only at h
     have q5c := impl_arr_short.ctr k _ _ _ _ _ q5
     refine path_ok (k := 10) hF (RetQ_mild _ _ _ _ _ _ _ _) (ds := [.r [.ro (.v (.bool t415))] [], .b false, .e 13 (.v (.int .i64 (l0_0.length : Int))), .r [.own 84 2 (r84 t416)] [], .g [.v (.int .i64 ((rd_T84 t416 0).f0)), .sl 2 (r84 ((rd_T84 t416 0).f1))], .r [.ro (.v (.string t420)), .ro (.v (.bool t421))] []]) (os := [.o [(0, 1), (4, 0), (5, 1), (6, 0), (1, 2), (2, 0), (3, 2), (7, 2), (8, 0), (9, 0), (10, 0), (11, 0)] []]) (c := none) rfl KD ?_
     cases h
     exact ret_as (ms := [.ro, .ro]) rfl KD
   · rw [if_neg c4] at h
     cases h
 · rw [if_neg c2] at h
   refine path_ok (k := 9) hF (RetQ_mild _ _ _ _ _ _ _ _) (ds := [.r [.ro (.v (.bool t415))] [], .b true]) (os := []) (c := none) rfl KD ?_
   cases h
   exact ret_as (ms := [.ro, .ro]) rfl KD
def laws_FnLayOut.j0 : Nat → ByteArray → Int → Bool → Bool → Bool → List (List Int) → List Int → List (List Int) → List Int → Option (Bool)
  | 0, _, _, _, _, _, _, _, _, _ => none
  | k + 1, x3, x4, x6, x8, x52, x432000, x432001, x440000, x440001 => if x52 = true then ((laws_faLayout.f k x432000 x432001 x440000 x440001).bind fun t442 => (if t442 = true then (if (x6 == x8) = true then ((impl_ArrayValid.f k x3 x4).bind fun t443 => (some (x6 == t443))) else (some false)) else (some false))) else ((impl_FoldUp.f k x432000 x432001).bind fun bt444 => ((impl_NumbersOf.f k x3 x4).bind fun bt446 => (if bt444.2 = true then (if bt444.1.toList = x3.toList then ((impl_LayoutValid.f k x432000 x432001).bind fun t450 => (if t450 = true then ((laws_faSame.f k bt446.1 x432001).bind fun t451 => (if t451 = true then (if (x432000.length : Int) = x4 then (if x4 = 0 then (some true) else (if 0 < (x432000.length : Int) then (if 0 < ((rd_L3 x432000 0).length : Int) then ((impl_LengthOf.f k x3 x4).bind fun t454 => (some ((rd (rd_L3 x432000 0) 0) == t454))) else (none)) else (none))) else (some false)) else (some false))) else (some false))) else (some false)) else (some false))))
def laws_FnLayOut.f (k : Nat) (l0 : List Int) : Option (Bool) := if (l0.length : Int) > 1048576 then (some true) else ((spec_DrawLayOut.f k l0).bind fun bt422 => ((impl_LayOut.f k bt422.1 bt422.2).bind fun bt424 => ((spec_LayOut.f k bt422.1 bt422.2).bind fun bt432 => ((laws_faLayout.f k bt424.1 bt424.2.1 bt432.1 bt432.2.1).bind fun t440 => (if t440 = true then (if (bt424.2.2 != bt432.2.2) = true then (laws_FnLayOut.j0 k bt422.1 bt422.2 bt424.2.2 bt432.2.2 true bt424.1 bt424.2.1 bt432.1 bt432.2.1) else ((impl_ArrayValid.f k bt422.1 bt422.2).bind fun t441 => (if (bt424.2.2 != t441) = true then (laws_FnLayOut.j0 k bt422.1 bt422.2 bt424.2.2 bt432.2.2 true bt424.1 bt424.2.1 bt432.1 bt432.2.1) else (laws_FnLayOut.j0 k bt422.1 bt422.2 bt424.2.2 bt432.2.2 (!bt424.2.2) bt424.1 bt424.2.1 bt432.1 bt432.2.1)))) else (laws_FnLayOut.j0 k bt422.1 bt422.2 bt424.2.2 bt432.2.2 true bt424.1 bt424.2.1 bt432.1 bt432.2.1))))))
structure laws_FnLayOut.C (k : Nat) : Prop where
 s_j0 : ∀ (r : Bool) (w : World) (ro : Nat → Prop) (B : Nat) (_ : Fr TE (cx0 Tryd.f11 none w ro B)) (x3 : ByteArray) (x4 : Int) (x6 : Bool) (x8 : Bool) (x52 : Bool) (x432000 : List (List Int)) (x432001 : List Int) (x440000 : List (List Int)) (x440001 : List Int) (_ : laws_FnLayOut.j0 k x3 x4 x6 x8 x52 x432000 x432001 x440000 x440001 = some r), Kp (WS TE (cx0 Tryd.f11 none w ro B) (stkAt [1, 1, 1, 1, 1, 0, 0, 9] [] (bodyOf Tryd.f11) []) ⟨[(3, .v (.string x3)), (4, .v (.int .i64 x4)), (5, .pt 1005 0 0), (6, .v (.bool x6)), (7, .pt 1007 0 0), (8, .v (.bool x8)), (52, .v (.bool x52))], [(1005, .box 0 32 false [.sl 1 (rX (cL (cI .i64) 1) x432000), .sl 1 (rX (cI .i64) x432001)]), (1007, .box 0 32 false [.sl 1 (rX (cL (cI .i64) 1) x440000), .sl 1 (rX (cI .i64) x440001)])]⟩ (RetQ TE Tryd.f11 none [.ro (.v (.bool r))] [] w ro B))
set_option maxRecDepth 100000 in
set_option maxHeartbeats 4000000 in
theorem laws_FnLayOut.c_j0 (k : Nat) (ih : Kp (∀ m, m < k → laws_FnLayOut.C m)) (r : Bool) (w : World) (ro : Nat → Prop) (B : Nat) (hF : Fr TE (cx0 Tryd.f11 none w ro B)) (x3 : ByteArray) (x4 : Int) (x6 : Bool) (x8 : Bool) (x52 : Bool) (x432000 : List (List Int)) (x432001 : List Int) (x440000 : List (List Int)) (x440001 : List Int) (h : laws_FnLayOut.j0 k x3 x4 x6 x8 x52 x432000 x432001 x440000 x440001 = some r) : Kp (WS TE (cx0 Tryd.f11 none w ro B) (stkAt [1, 1, 1, 1, 1, 0, 0, 9] [] (bodyOf Tryd.f11) []) ⟨[(3, .v (.string x3)), (4, .v (.int .i64 x4)), (5, .pt 1005 0 0), (6, .v (.bool x6)), (7, .pt 1007 0 0), (8, .v (.bool x8)), (52, .v (.bool x52))], [(1005, .box 0 32 false [.sl 1 (rX (cL (cI .i64) 1) x432000), .sl 1 (rX (cI .i64) x432001)]), (1007, .box 0 32 false [.sl 1 (rX (cL (cI .i64) 1) x440000), .sl 1 (rX (cI .i64) x440001)])]⟩ (RetQ TE Tryd.f11 none [.ro (.v (.bool r))] [] w ro B)) := by
 refine ⟨?_⟩
 cases k with
 | zero => simp [laws_FnLayOut.j0] at h
 | succ k =>
 simp only [laws_FnLayOut.j0] at h
 by_cases c10 : x52 = true
 · rw [if_pos c10] at h
   obtain ⟨t442, q11, h⟩ := Option.bind_eq_some_iff.1 h
   have q11c := laws_faLayout.ctr k _ _ _ _ _ q11
   by_cases c12 : t442 = true
   · rw [if_pos c12] at h
     by_cases c13 : (x6 == x8) = true
     · rw [if_pos c13] at h
       obtain ⟨t443, q14, h⟩ := Option.bind_eq_some_iff.1 h
       have q14c := impl_ArrayValid.ctr k _ _ _ q14
       refine path_ok (k := 4) hF (RetQ_mild _ _ _ _ _ _ _ _) (ds := [.b true, .r [.ro (.v (.bool t442))] [], .b true, .b true, .b true, .b true, .b true, .b true, .b true, .b true, .r [.ro (.v (.bool t443))] [], .b true, .b true]) (os := []) (c := none) rfl KD ?_
       cases h
       exact ret_as (ms := [.ro]) rfl KD
     · rw [if_neg c13] at h
       refine path_ok (k := 4) hF (RetQ_mild _ _ _ _ _ _ _ _) (ds := [.b true, .r [.ro (.v (.bool t442))] [], .b true, .b true, .b true, .b true, .b false, .b false, .b false, .b false, .b false, .b false]) (os := []) (c := none) rfl KD ?_
       cases h
       exact ret_as (ms := [.ro]) rfl KD
   · rw [if_neg c12] at h
     refine path_ok (k := 4) hF (RetQ_mild _ _ _ _ _ _ _ _) (ds := [.b true, .r [.ro (.v (.bool t442))] [], .b false, .b false, .b false, .b false, .b false, .b false, .b false, .b false, .b false, .b false]) (os := []) (c := none) rfl KD ?_
     cases h
     exact ret_as (ms := [.ro]) rfl KD
 · rw [if_neg c10] at h
   obtain ⟨⟨t444, t445⟩, q15, h⟩ := Option.bind_eq_some_iff.1 h
   dsimp only at h
   have q15c := impl_FoldUp.ctr k _ _ _ _ q15
   obtain ⟨⟨t446, t447⟩, q16, h⟩ := Option.bind_eq_some_iff.1 h
   dsimp only at h
   have q16c := impl_NumbersOf.ctr k _ _ _ _ q16
   by_cases c17 : t445 = true
   · rw [if_pos c17] at h
     by_cases c18 : t444.toList = x3.toList
     · rw [if_pos c18] at h
       obtain ⟨t450, q19, h⟩ := Option.bind_eq_some_iff.1 h
       have q19c := impl_LayoutValid.ctr k _ _ _ q19
       by_cases c20 : t450 = true
       · rw [if_pos c20] at h
         obtain ⟨t451, q21, h⟩ := Option.bind_eq_some_iff.1 h
         have q21c := laws_faSame.ctr k _ _ _ q21
         by_cases c22 : t451 = true
         · rw [if_pos c22] at h
           by_cases c23 : (x432000.length : Int) = x4
           · rw [if_pos c23] at h
             by_cases c24 : x4 = 0
             · rw [if_pos c24] at h
               refine path_ok (k := 9) hF (RetQ_mild _ _ _ _ _ _ _ _) (ds := [.b false, .r [.ro (.v (.string t444)), .ro (.v (.bool t445))] [], .r [.ro (.sl 1 (rX (cI .i64) t446)), .ro (.v (.bool t447))] []]) (os := [.p 1099511627775 [⟨0, 40, true, [0]⟩, ⟨1, 39, true, [1]⟩, ⟨3, 38, true, [2]⟩, ⟨7, 37, true, [3]⟩, ⟨15, 36, true, [4]⟩, ⟨31, 35, true, [5]⟩, ⟨63, 34, true, [6]⟩, ⟨127, 33, false, [7]⟩, ⟨255, 32, false, [8]⟩, ⟨511, 31, true, [9]⟩, ⟨1023, 30, true, [10]⟩, ⟨2047, 29, true, [11]⟩, ⟨4095, 28, true, [12]⟩, ⟨8191, 27, false, [13]⟩, ⟨16383, 26, false, [14]⟩, ⟨32767, 25, true, [15]⟩, ⟨65535, 24, true, [16]⟩, ⟨131071, 23, true, [17]⟩, ⟨262143, 22, true, [20]⟩, ⟨1310719, 21, false, [18]⟩, ⟨1572863, 20, true, [19]⟩, ⟨2097151, 19, true, [21]⟩, ⟨4194303, 18, true, [22]⟩, ⟨8388607, 17, true, [23]⟩, ⟨16777215, 16, true, [24]⟩, ⟨33554431, 15, true, [25]⟩, ⟨67108863, 14, true, [26]⟩, ⟨134217727, 13, true, [27]⟩, ⟨268435455, 12, true, [33]⟩, ⟨8858370047, 11, true, [34]⟩, ⟨26038239231, 10, false, [28, 35]⟩, ⟨26306674687, 9, true, [29]⟩, ⟨60397977599, 9, false, [28]⟩, ⟨26843545599, 8, false, [30, 35]⟩, ⟨60666413055, 8, true, [29]⟩, ⟨27917287423, 7, true, [31]⟩, ⟨61203283967, 7, false, [30]⟩, ⟨30064771071, 6, false, [32, 35]⟩, ⟨62277025791, 6, true, [31]⟩, ⟨34359738367, 5, false, [35]⟩, ⟨64424509439, 5, false, [32]⟩, ⟨68719476735, 4, true, [36]⟩, ⟨137438953471, 3, true, [37]⟩, ⟨274877906943, 2, true, [38]⟩, ⟨549755813887, 1, true, [39]⟩] [(0, true), (1, true), (2, true), (3, true), (4, true), (5, true), (6, true), (7, false), (8, false), (9, true), (10, true), (11, true), (12, true), (13, false), (14, false), (15, true), (16, true), (17, true), (20, true), (18, false), (19, true), (21, true), (22, true), (23, true), (24, true), (25, true), (26, true), (27, true), (33, true), (34, true), (28, false), (29, true), (30, false), (31, true), (32, false), (35, false), (36, true), (37, true), (38, true), (39, true)] [(2, [.b true]), (3, [.b true]), (4, [.b true]), (5, [.b true]), (7, [.b true]), (8, [.b true, .r [.ro (.v (.bool t450))] []]), (9, [.b true]), (11, [.b true]), (12, [.b true]), (13, [.b true]), (14, [.b true, .r [.ro (.v (.bool t451))] []]), (15, [.b true]), (17, [.b true]), (20, [.b true]), (18, [.b true]), (19, [.b true, .e 98 (.v (.int .i64 (x432000.length : Int)))]), (21, [.b true]), (22, [.b true]), (24, [.b true]), (25, [.b true]), (26, [.b true]), (27, [.b true]), (33, [.b true]), (34, [.b true]), (28, [.b true]), (29, [.b true]), (30, [.b true]), (31, [.b true]), (32, [.b true]), (35, [.b true]), (36, [.b true]), (37, [.b true, .b true]), (38, [.b true])]]) (c := none) rfl KD ?_
               cases h
               exact ret_as (ms := [.ro]) rfl KD
             · rw [if_neg c24] at h
               by_cases c25 : 0 < (x432000.length : Int)
               · rw [if_pos c25] at h
                 by_cases c26 : 0 < ((rd_L3 x432000 0).length : Int)
                 · rw [if_pos c26] at h
                   obtain ⟨t454, q27, h⟩ := Option.bind_eq_some_iff.1 h
                   have q27c := impl_LengthOf.ctr k _ _ _ q27
                   refine path_ok (k := 9) hF (RetQ_mild _ _ _ _ _ _ _ _) (ds := [.b false, .r [.ro (.v (.string t444)), .ro (.v (.bool t445))] [], .r [.ro (.sl 1 (rX (cI .i64) t446)), .ro (.v (.bool t447))] []]) (os := [.p 1099511627775 [⟨0, 40, true, [0]⟩, ⟨1, 39, true, [1]⟩, ⟨3, 38, true, [2]⟩, ⟨7, 37, true, [3]⟩, ⟨15, 36, true, [4]⟩, ⟨31, 35, true, [5]⟩, ⟨63, 34, true, [6]⟩, ⟨127, 33, false, [7]⟩, ⟨255, 32, false, [8]⟩, ⟨511, 31, true, [9]⟩, ⟨1023, 30, true, [10]⟩, ⟨2047, 29, true, [11]⟩, ⟨4095, 28, true, [12]⟩, ⟨8191, 27, false, [13]⟩, ⟨16383, 26, false, [14]⟩, ⟨32767, 25, true, [15]⟩, ⟨65535, 24, true, [16]⟩, ⟨131071, 23, true, [17]⟩, ⟨262143, 22, true, [20]⟩, ⟨1310719, 21, false, [18]⟩, ⟨1572863, 20, true, [19]⟩, ⟨2097151, 19, true, [21]⟩, ⟨4194303, 18, true, [22]⟩, ⟨8388607, 17, true, [23]⟩, ⟨16777215, 16, true, [24]⟩, ⟨33554431, 15, true, [25]⟩, ⟨67108863, 14, true, [26]⟩, ⟨134217727, 13, true, [27]⟩, ⟨268435455, 12, true, [33]⟩, ⟨8858370047, 11, true, [34]⟩, ⟨26038239231, 10, false, [28, 35]⟩, ⟨26306674687, 9, true, [29]⟩, ⟨60397977599, 9, false, [28]⟩, ⟨26843545599, 8, false, [30, 35]⟩, ⟨60666413055, 8, true, [29]⟩, ⟨27917287423, 7, true, [31]⟩, ⟨61203283967, 7, false, [30]⟩, ⟨30064771071, 6, false, [32, 35]⟩, ⟨62277025791, 6, true, [31]⟩, ⟨34359738367, 5, false, [35]⟩, ⟨64424509439, 5, false, [32]⟩, ⟨68719476735, 4, true, [36]⟩, ⟨137438953471, 3, true, [37]⟩, ⟨274877906943, 2, true, [38]⟩, ⟨549755813887, 1, true, [39]⟩] [(0, true), (1, true), (2, true), (3, true), (4, true), (5, true), (6, true), (7, false), (8, false), (9, true), (10, true), (11, true), (12, true), (13, false), (14, false), (15, true), (16, true), (17, true), (20, true), (18, false), (19, true), (21, true), (22, true), (23, true), (24, true), (25, true), (26, true), (27, true), (33, true), (34, true), (28, false), (29, true), (30, false), (31, true), (32, false), (35, false), (36, true), (37, true), (38, true), (39, true)] [(2, [.b true]), (3, [.b true]), (4, [.b true]), (5, [.b true]), (7, [.b true]), (8, [.b true, .r [.ro (.v (.bool t450))] []]), (9, [.b true]), (11, [.b true]), (12, [.b true]), (13, [.b true]), (14, [.b true, .r [.ro (.v (.bool t451))] []]), (15, [.b true]), (17, [.b true]), (20, [.b true]), (18, [.b true]), (19, [.b true, .e 98 (.v (.int .i64 (x432000.length : Int)))]), (21, [.b true]), (22, [.b true]), (24, [.b true]), (25, [.b true]), (26, [.b true]), (27, [.b false]), (33, [.b false]), (34, [.b false]), (28, [.b false]), (29, [.b false, .e 108 (.rf [.sl 1 (rX (cI .i64) (rd_L3 x432000 0))])]), (30, [.b false]), (31, [.b false, .e 110 (.rf [.v (.int .i64 (rd (rd_L3 x432000 0) 0))])]), (32, [.b false]), (35, [.b false, .r [.ro (.v (.int .i64 t454))] []]), (36, [.b false]), (37, [.b true, .b false]), (38, [.b true])]]) (c := none) rfl KD ?_
                   cases h
                   exact ret_as (ms := [.ro]) rfl KD
                 · rw [if_neg c26] at h
                   cases h
               · rw [if_neg c25] at h
                 cases h
           · rw [if_neg c23] at h
             refine path_ok (k := 9) hF (RetQ_mild _ _ _ _ _ _ _ _) (ds := [.b false, .r [.ro (.v (.string t444)), .ro (.v (.bool t445))] [], .r [.ro (.sl 1 (rX (cI .i64) t446)), .ro (.v (.bool t447))] []]) (os := [.p 1099511627775 [⟨0, 40, true, [0]⟩, ⟨1, 39, true, [1]⟩, ⟨3, 38, true, [2]⟩, ⟨7, 37, true, [3]⟩, ⟨15, 36, true, [4]⟩, ⟨31, 35, true, [5]⟩, ⟨63, 34, true, [6]⟩, ⟨127, 33, false, [7]⟩, ⟨255, 32, false, [8]⟩, ⟨511, 31, true, [9]⟩, ⟨1023, 30, true, [10]⟩, ⟨2047, 29, true, [11]⟩, ⟨4095, 28, true, [12]⟩, ⟨8191, 27, false, [13]⟩, ⟨16383, 26, false, [14]⟩, ⟨32767, 25, true, [15]⟩, ⟨65535, 24, true, [16]⟩, ⟨131071, 23, true, [17]⟩, ⟨262143, 22, true, [20]⟩, ⟨1310719, 21, false, [18]⟩, ⟨1572863, 20, true, [19]⟩, ⟨2097151, 19, true, [21]⟩, ⟨4194303, 18, true, [22]⟩, ⟨8388607, 17, true, [23]⟩, ⟨16777215, 16, true, [24]⟩, ⟨33554431, 15, true, [25]⟩, ⟨67108863, 14, true, [26]⟩, ⟨134217727, 13, true, [27]⟩, ⟨268435455, 12, true, [33]⟩, ⟨8858370047, 11, true, [34]⟩, ⟨26038239231, 10, false, [28, 35]⟩, ⟨26306674687, 9, true, [29]⟩, ⟨60397977599, 9, false, [28]⟩, ⟨26843545599, 8, false, [30, 35]⟩, ⟨60666413055, 8, true, [29]⟩, ⟨27917287423, 7, true, [31]⟩, ⟨61203283967, 7, false, [30]⟩, ⟨30064771071, 6, false, [32, 35]⟩, ⟨62277025791, 6, true, [31]⟩, ⟨34359738367, 5, false, [35]⟩, ⟨64424509439, 5, false, [32]⟩, ⟨68719476735, 4, true, [36]⟩, ⟨137438953471, 3, true, [37]⟩, ⟨274877906943, 2, true, [38]⟩, ⟨549755813887, 1, true, [39]⟩] [(0, true), (1, true), (2, true), (3, true), (4, true), (5, true), (6, true), (7, false), (8, false), (9, true), (10, true), (11, true), (12, true), (13, false), (14, false), (15, true), (16, true), (17, true), (20, true), (18, false), (19, true), (21, true), (22, true), (23, true), (24, true), (25, true), (26, true), (27, true), (33, true), (34, true), (28, false), (29, true), (30, false), (31, true), (32, false), (35, false), (36, true), (37, true), (38, true), (39, true)] [(2, [.b true]), (3, [.b true]), (4, [.b true]), (5, [.b true]), (7, [.b true]), (8, [.b true, .r [.ro (.v (.bool t450))] []]), (9, [.b true]), (11, [.b true]), (12, [.b true]), (13, [.b true]), (14, [.b true, .r [.ro (.v (.bool t451))] []]), (15, [.b true]), (17, [.b true]), (20, [.b true]), (18, [.b true]), (19, [.b true, .e 98 (.v (.int .i64 (x432000.length : Int)))]), (21, [.b true]), (22, [.b true]), (24, [.b false]), (25, [.b false]), (26, [.b false]), (37, [.b false]), (38, [.b false])]]) (c := none) rfl KD ?_
             cases h
             exact ret_as (ms := [.ro]) rfl KD
         · rw [if_neg c22] at h
           refine path_ok (k := 9) hF (RetQ_mild _ _ _ _ _ _ _ _) (ds := [.b false, .r [.ro (.v (.string t444)), .ro (.v (.bool t445))] [], .r [.ro (.sl 1 (rX (cI .i64) t446)), .ro (.v (.bool t447))] []]) (os := [.p 1099511627775 [⟨0, 40, true, [0]⟩, ⟨1, 39, true, [1]⟩, ⟨3, 38, true, [2]⟩, ⟨7, 37, true, [3]⟩, ⟨15, 36, true, [4]⟩, ⟨31, 35, true, [5]⟩, ⟨63, 34, true, [6]⟩, ⟨127, 33, false, [7]⟩, ⟨255, 32, false, [8]⟩, ⟨511, 31, true, [9]⟩, ⟨1023, 30, true, [10]⟩, ⟨2047, 29, true, [11]⟩, ⟨4095, 28, true, [12]⟩, ⟨8191, 27, false, [13]⟩, ⟨16383, 26, false, [14]⟩, ⟨32767, 25, true, [15]⟩, ⟨65535, 24, true, [16]⟩, ⟨131071, 23, true, [17]⟩, ⟨262143, 22, true, [20]⟩, ⟨1310719, 21, false, [18]⟩, ⟨1572863, 20, true, [19]⟩, ⟨2097151, 19, true, [21]⟩, ⟨4194303, 18, true, [22]⟩, ⟨8388607, 17, true, [23]⟩, ⟨16777215, 16, true, [24]⟩, ⟨33554431, 15, true, [25]⟩, ⟨67108863, 14, true, [26]⟩, ⟨134217727, 13, true, [27]⟩, ⟨268435455, 12, true, [33]⟩, ⟨8858370047, 11, true, [34]⟩, ⟨26038239231, 10, false, [28, 35]⟩, ⟨26306674687, 9, true, [29]⟩, ⟨60397977599, 9, false, [28]⟩, ⟨26843545599, 8, false, [30, 35]⟩, ⟨60666413055, 8, true, [29]⟩, ⟨27917287423, 7, true, [31]⟩, ⟨61203283967, 7, false, [30]⟩, ⟨30064771071, 6, false, [32, 35]⟩, ⟨62277025791, 6, true, [31]⟩, ⟨34359738367, 5, false, [35]⟩, ⟨64424509439, 5, false, [32]⟩, ⟨68719476735, 4, true, [36]⟩, ⟨137438953471, 3, true, [37]⟩, ⟨274877906943, 2, true, [38]⟩, ⟨549755813887, 1, true, [39]⟩] [(0, true), (1, true), (2, true), (3, true), (4, true), (5, true), (6, true), (7, false), (8, false), (9, true), (10, true), (11, true), (12, true), (13, false), (14, false), (15, true), (16, true), (17, true), (20, true), (18, false), (19, true), (21, true), (22, true), (23, true), (24, true), (25, true), (26, true), (27, true), (33, true), (34, true), (28, false), (29, true), (30, false), (31, true), (32, false), (35, false), (36, true), (37, true), (38, true), (39, true)] [(2, [.b true]), (3, [.b true]), (4, [.b true]), (5, [.b true]), (7, [.b true]), (8, [.b true, .r [.ro (.v (.bool t450))] []]), (9, [.b true]), (11, [.b true]), (12, [.b true]), (13, [.b true]), (14, [.b true, .r [.ro (.v (.bool t451))] []]), (15, [.b true]), (17, [.b false]), (20, [.b false]), (18, [.b false]), (19, [.b false]), (21, [.b false]), (22, [.b false]), (24, [.b false]), (25, [.b false]), (26, [.b false]), (37, [.b false]), (38, [.b false])]]) (c := none) rfl KD ?_
           cases h
           exact ret_as (ms := [.ro]) rfl KD
       · rw [if_neg c20] at h
         refine path_ok (k := 9) hF (RetQ_mild _ _ _ _ _ _ _ _) (ds := [.b false, .r [.ro (.v (.string t444)), .ro (.v (.bool t445))] [], .r [.ro (.sl 1 (rX (cI .i64) t446)), .ro (.v (.bool t447))] []]) (os := [.p 1099511627775 [⟨0, 40, true, [0]⟩, ⟨1, 39, true, [1]⟩, ⟨3, 38, true, [2]⟩, ⟨7, 37, true, [3]⟩, ⟨15, 36, true, [4]⟩, ⟨31, 35, true, [5]⟩, ⟨63, 34, true, [6]⟩, ⟨127, 33, false, [7]⟩, ⟨255, 32, false, [8]⟩, ⟨511, 31, true, [9]⟩, ⟨1023, 30, true, [10]⟩, ⟨2047, 29, true, [11]⟩, ⟨4095, 28, true, [12]⟩, ⟨8191, 27, false, [13]⟩, ⟨16383, 26, false, [14]⟩, ⟨32767, 25, true, [15]⟩, ⟨65535, 24, true, [16]⟩, ⟨131071, 23, true, [17]⟩, ⟨262143, 22, true, [20]⟩, ⟨1310719, 21, false, [18]⟩, ⟨1572863, 20, true, [19]⟩, ⟨2097151, 19, true, [21]⟩, ⟨4194303, 18, true, [22]⟩, ⟨8388607, 17, true, [23]⟩, ⟨16777215, 16, true, [24]⟩, ⟨33554431, 15, true, [25]⟩, ⟨67108863, 14, true, [26]⟩, ⟨134217727, 13, true, [27]⟩, ⟨268435455, 12, true, [33]⟩, ⟨8858370047, 11, true, [34]⟩, ⟨26038239231, 10, false, [28, 35]⟩, ⟨26306674687, 9, true, [29]⟩, ⟨60397977599, 9, false, [28]⟩, ⟨26843545599, 8, false, [30, 35]⟩, ⟨60666413055, 8, true, [29]⟩, ⟨27917287423, 7, true, [31]⟩, ⟨61203283967, 7, false, [30]⟩, ⟨30064771071, 6, false, [32, 35]⟩, ⟨62277025791, 6, true, [31]⟩, ⟨34359738367, 5, false, [35]⟩, ⟨64424509439, 5, false, [32]⟩, ⟨68719476735, 4, true, [36]⟩, ⟨137438953471, 3, true, [37]⟩, ⟨274877906943, 2, true, [38]⟩, ⟨549755813887, 1, true, [39]⟩] [(0, true), (1, true), (2, true), (3, true), (4, true), (5, true), (6, true), (7, false), (8, false), (9, true), (10, true), (11, true), (12, true), (13, false), (14, false), (15, true), (16, true), (17, true), (20, true), (18, false), (19, true), (21, true), (22, true), (23, true), (24, true), (25, true), (26, true), (27, true), (33, true), (34, true), (28, false), (29, true), (30, false), (31, true), (32, false), (35, false), (36, true), (37, true), (38, true), (39, true)] [(2, [.b true]), (3, [.b true]), (4, [.b true]), (5, [.b true]), (7, [.b true]), (8, [.b true, .r [.ro (.v (.bool t450))] []]), (9, [.b true]), (11, [.b false]), (12, [.b false]), (13, [.b false]), (14, [.b false]), (15, [.b false]), (17, [.b false]), (20, [.b false]), (18, [.b false]), (19, [.b false]), (21, [.b false]), (22, [.b false]), (24, [.b false]), (25, [.b false]), (26, [.b false]), (37, [.b false]), (38, [.b false])]]) (c := none) rfl KD ?_
         cases h
         exact ret_as (ms := [.ro]) rfl KD
     · rw [if_neg c18] at h
       refine path_ok (k := 9) hF (RetQ_mild _ _ _ _ _ _ _ _) (ds := [.b false, .r [.ro (.v (.string t444)), .ro (.v (.bool t445))] [], .r [.ro (.sl 1 (rX (cI .i64) t446)), .ro (.v (.bool t447))] []]) (os := [.p 1099511627775 [⟨0, 40, true, [0]⟩, ⟨1, 39, true, [1]⟩, ⟨3, 38, true, [2]⟩, ⟨7, 37, true, [3]⟩, ⟨15, 36, true, [4]⟩, ⟨31, 35, true, [5]⟩, ⟨63, 34, true, [6]⟩, ⟨127, 33, false, [7]⟩, ⟨255, 32, false, [8]⟩, ⟨511, 31, true, [9]⟩, ⟨1023, 30, true, [10]⟩, ⟨2047, 29, true, [11]⟩, ⟨4095, 28, true, [12]⟩, ⟨8191, 27, false, [13]⟩, ⟨16383, 26, false, [14]⟩, ⟨32767, 25, true, [15]⟩, ⟨65535, 24, true, [16]⟩, ⟨131071, 23, true, [17]⟩, ⟨262143, 22, true, [20]⟩, ⟨1310719, 21, false, [18]⟩, ⟨1572863, 20, true, [19]⟩, ⟨2097151, 19, true, [21]⟩, ⟨4194303, 18, true, [22]⟩, ⟨8388607, 17, true, [23]⟩, ⟨16777215, 16, true, [24]⟩, ⟨33554431, 15, true, [25]⟩, ⟨67108863, 14, true, [26]⟩, ⟨134217727, 13, true, [27]⟩, ⟨268435455, 12, true, [33]⟩, ⟨8858370047, 11, true, [34]⟩, ⟨26038239231, 10, false, [28, 35]⟩, ⟨26306674687, 9, true, [29]⟩, ⟨60397977599, 9, false, [28]⟩, ⟨26843545599, 8, false, [30, 35]⟩, ⟨60666413055, 8, true, [29]⟩, ⟨27917287423, 7, true, [31]⟩, ⟨61203283967, 7, false, [30]⟩, ⟨30064771071, 6, false, [32, 35]⟩, ⟨62277025791, 6, true, [31]⟩, ⟨34359738367, 5, false, [35]⟩, ⟨64424509439, 5, false, [32]⟩, ⟨68719476735, 4, true, [36]⟩, ⟨137438953471, 3, true, [37]⟩, ⟨274877906943, 2, true, [38]⟩, ⟨549755813887, 1, true, [39]⟩] [(0, true), (1, true), (2, true), (3, true), (4, true), (5, true), (6, true), (7, false), (8, false), (9, true), (10, true), (11, true), (12, true), (13, false), (14, false), (15, true), (16, true), (17, true), (20, true), (18, false), (19, true), (21, true), (22, true), (23, true), (24, true), (25, true), (26, true), (27, true), (33, true), (34, true), (28, false), (29, true), (30, false), (31, true), (32, false), (35, false), (36, true), (37, true), (38, true), (39, true)] [(2, [.b true]), (3, [.b true]), (4, [.b true]), (5, [.b true]), (7, [.b false]), (8, [.b false]), (9, [.b false]), (11, [.b false]), (12, [.b false]), (13, [.b false]), (14, [.b false]), (15, [.b false]), (17, [.b false]), (20, [.b false]), (18, [.b false]), (19, [.b false]), (21, [.b false]), (22, [.b false]), (24, [.b false]), (25, [.b false]), (26, [.b false]), (37, [.b false]), (38, [.b false])]]) (c := none) rfl KD ?_
       cases h
       exact ret_as (ms := [.ro]) rfl KD
   · rw [if_neg c17] at h
     refine path_ok (k := 9) hF (RetQ_mild _ _ _ _ _ _ _ _) (ds := [.b false, .r [.ro (.v (.string t444)), .ro (.v (.bool t445))] [], .r [.ro (.sl 1 (rX (cI .i64) t446)), .ro (.v (.bool t447))] []]) (os := [.p 1099511627775 [⟨0, 40, true, [0]⟩, ⟨1, 39, true, [1]⟩, ⟨3, 38, true, [2]⟩, ⟨7, 37, true, [3]⟩, ⟨15, 36, true, [4]⟩, ⟨31, 35, true, [5]⟩, ⟨63, 34, true, [6]⟩, ⟨127, 33, false, [7]⟩, ⟨255, 32, false, [8]⟩, ⟨511, 31, true, [9]⟩, ⟨1023, 30, true, [10]⟩, ⟨2047, 29, true, [11]⟩, ⟨4095, 28, true, [12]⟩, ⟨8191, 27, false, [13]⟩, ⟨16383, 26, false, [14]⟩, ⟨32767, 25, true, [15]⟩, ⟨65535, 24, true, [16]⟩, ⟨131071, 23, true, [17]⟩, ⟨262143, 22, true, [20]⟩, ⟨1310719, 21, false, [18]⟩, ⟨1572863, 20, true, [19]⟩, ⟨2097151, 19, true, [21]⟩, ⟨4194303, 18, true, [22]⟩, ⟨8388607, 17, true, [23]⟩, ⟨16777215, 16, true, [24]⟩, ⟨33554431, 15, true, [25]⟩, ⟨67108863, 14, true, [26]⟩, ⟨134217727, 13, true, [27]⟩, ⟨268435455, 12, true, [33]⟩, ⟨8858370047, 11, true, [34]⟩, ⟨26038239231, 10, false, [28, 35]⟩, ⟨26306674687, 9, true, [29]⟩, ⟨60397977599, 9, false, [28]⟩, ⟨26843545599, 8, false, [30, 35]⟩, ⟨60666413055, 8, true, [29]⟩, ⟨27917287423, 7, true, [31]⟩, ⟨61203283967, 7, false, [30]⟩, ⟨30064771071, 6, false, [32, 35]⟩, ⟨62277025791, 6, true, [31]⟩, ⟨34359738367, 5, false, [35]⟩, ⟨64424509439, 5, false, [32]⟩, ⟨68719476735, 4, true, [36]⟩, ⟨137438953471, 3, true, [37]⟩, ⟨274877906943, 2, true, [38]⟩, ⟨549755813887, 1, true, [39]⟩] [(0, true), (1, true), (2, true), (3, true), (4, true), (5, true), (6, true), (7, false), (8, false), (9, true), (10, true), (11, true), (12, true), (13, false), (14, false), (15, true), (16, true), (17, true), (20, true), (18, false), (19, true), (21, true), (22, true), (23, true), (24, true), (25, true), (26, true), (27, true), (33, true), (34, true), (28, false), (29, true), (30, false), (31, true), (32, false), (35, false), (36, true), (37, true), (38, true), (39, true)] [(2, [.b false]), (3, [.b false]), (4, [.b false]), (5, [.b false]), (7, [.b false]), (8, [.b false]), (9, [.b false]), (11, [.b false]), (12, [.b false]), (13, [.b false]), (14, [.b false]), (15, [.b false]), (17, [.b false]), (20, [.b false]), (18, [.b false]), (19, [.b false]), (21, [.b false]), (22, [.b false]), (24, [.b false]), (25, [.b false]), (26, [.b false]), (37, [.b false]), (38, [.b false])]]) (c := none) rfl KD ?_
     cases h
     exact ret_as (ms := [.ro]) rfl KD
theorem laws_FnLayOut.cs (k : Nat) : laws_FnLayOut.C k := by
 induction k using Nat.strongRecOn with
 | _ k ih0 =>
 have ih : Kp (∀ m, m < k → laws_FnLayOut.C m) := ⟨ih0⟩
 exact ⟨laws_FnLayOut.c_j0 k ih⟩
set_option maxRecDepth 100000 in
set_option maxHeartbeats 4000000 in
theorem laws_FnLayOut.ctr (k : Nat) (l0 : List Int) (r : Bool) (h : laws_FnLayOut.f k l0 = some r) : Ctr TE 11 none [.sl 1 (rX (cI .u8) l0)] [.ro (.v (.bool r))] [] := by
 refine ctr_of (fn := Tryd.f11) (c := (bodyOf Tryd.f11)) Tryd.func11 rfl (by kernel_rfl) (Nat.le_of_ble_eq_true (by kernel_rfl)) (fun w ro B hF _ => ?_)
 have ih : Kp (∀ m, m < k + 1 → laws_FnLayOut.C m) := ⟨fun m _ => laws_FnLayOut.cs m⟩
 simp only [laws_FnLayOut.f] at h
 by_cases c1 : (l0.length : Int) > 1048576
 · rw [if_pos c1] at h
   refine path_ok (k := 9) hF (RetQ_mild _ _ _ _ _ _ _ _) (ds := [.e 14 (.v (.int .i64 (l0.length : Int))), .b true]) (os := []) (c := none) rfl KD ?_
   cases h
   exact ret_as (ms := [.ro]) rfl KD
 · rw [if_neg c1] at h
   obtain ⟨⟨t422, t423⟩, q2, h⟩ := Option.bind_eq_some_iff.1 h
   dsimp only at h
   have q2c := spec_DrawLayOut.ctr k _ _ _ q2
   obtain ⟨⟨t424, t427, t430⟩, q3, h⟩ := Option.bind_eq_some_iff.1 h
   dsimp only at h
   have q3c := impl_LayOut.ctr k _ _ _ _ _ q3
   obtain ⟨⟨t432, t435, t438⟩, q4, h⟩ := Option.bind_eq_some_iff.1 h
   dsimp only at h
   have q4c := spec_LayOut.ctr k _ _ _ _ _ q4
   obtain ⟨t440, q5, h⟩ := Option.bind_eq_some_iff.1 h
   have q5c := laws_faLayout.ctr k _ _ _ _ _ q5
   by_cases c6 : t440 = true
   · rw [if_pos c6] at h
     by_cases c7 : (t430 != t438) = true
     · rw [if_pos c7] at h
       refine path_ok (k := 16) hF (RetQ_mild _ _ _ _ _ _ _ _) (ds := [.e 14 (.v (.int .i64 (l0.length : Int))), .b false, .r [.ro (.v (.string t422)), .ro (.v (.int .i64 t423))] [], .r [.ro (.ag [.sl 1 (rX (cL (cI .i64) 1) t424), .sl 1 (rX (cI .i64) t427)]), .ro (.v (.bool t430))] [], .r [.ro (.ag [.sl 1 (rX (cL (cI .i64) 1) t432), .sl 1 (rX (cI .i64) t435)]), .ro (.v (.bool t438))] [], .r [.ro (.v (.bool t440))] [], .b false, .b false, .b false, .b false, .b true, .b true, .b true, .b true, .b true, .b true, .b true, .b true, .b true]) (os := []) (c := none) rfl KD ?_
       exact WS.can [(1005, some 5), (1007, some 7)] (((ih.out k (by omega)).s_j0  r w ro B hF t422 t423 t430 t438 true t424 t427 t432 t435 h).out) KD
     · rw [if_neg c7] at h
       obtain ⟨t441, q8, h⟩ := Option.bind_eq_some_iff.1 h
       have q8c := impl_ArrayValid.ctr k _ _ _ q8
       by_cases c9 : (t430 != t441) = true
       · rw [if_pos c9] at h
         refine path_ok (k := 16) hF (RetQ_mild _ _ _ _ _ _ _ _) (ds := [.e 14 (.v (.int .i64 (l0.length : Int))), .b false, .r [.ro (.v (.string t422)), .ro (.v (.int .i64 t423))] [], .r [.ro (.ag [.sl 1 (rX (cL (cI .i64) 1) t424), .sl 1 (rX (cI .i64) t427)]), .ro (.v (.bool t430))] [], .r [.ro (.ag [.sl 1 (rX (cL (cI .i64) 1) t432), .sl 1 (rX (cI .i64) t435)]), .ro (.v (.bool t438))] [], .r [.ro (.v (.bool t440))] [], .b false, .b false, .b false, .b false, .b false, .b false, .b false, .b false, .r [.ro (.v (.bool t441))] [], .b false, .b false, .b true, .b true, .b true]) (os := []) (c := none) rfl KD ?_
         exact WS.can [(1005, some 5), (1007, some 7)] (((ih.out k (by omega)).s_j0  r w ro B hF t422 t423 t430 t438 true t424 t427 t432 t435 h).out) KD
       · rw [if_neg c9] at h
         refine path_ok (k := 16) hF (RetQ_mild _ _ _ _ _ _ _ _) (ds := [.e 14 (.v (.int .i64 (l0.length : Int))), .b false, .r [.ro (.v (.string t422)), .ro (.v (.int .i64 t423))] [], .r [.ro (.ag [.sl 1 (rX (cL (cI .i64) 1) t424), .sl 1 (rX (cI .i64) t427)]), .ro (.v (.bool t430))] [], .r [.ro (.ag [.sl 1 (rX (cL (cI .i64) 1) t432), .sl 1 (rX (cI .i64) t435)]), .ro (.v (.bool t438))] [], .r [.ro (.v (.bool t440))] [], .b false, .b false, .b false, .b false, .b false, .b false, .b false, .b false, .r [.ro (.v (.bool t441))] [], .b false, .b false, .b false, .b false, .b false]) (os := []) (c := none) rfl KD ?_
         exact WS.can [(1005, some 5), (1007, some 7)] (((ih.out k (by omega)).s_j0  r w ro B hF t422 t423 t430 t438 (!t430) t424 t427 t432 t435 h).out) KD
   · rw [if_neg c6] at h
     refine path_ok (k := 16) hF (RetQ_mild _ _ _ _ _ _ _ _) (ds := [.e 14 (.v (.int .i64 (l0.length : Int))), .b false, .r [.ro (.v (.string t422)), .ro (.v (.int .i64 t423))] [], .r [.ro (.ag [.sl 1 (rX (cL (cI .i64) 1) t424), .sl 1 (rX (cI .i64) t427)]), .ro (.v (.bool t430))] [], .r [.ro (.ag [.sl 1 (rX (cL (cI .i64) 1) t432), .sl 1 (rX (cI .i64) t435)]), .ro (.v (.bool t438))] [], .r [.ro (.v (.bool t440))] [], .b true, .b true, .b true, .b true, .b true, .b true, .b true, .b true, .b true, .b true, .b true, .b true, .b true]) (os := []) (c := none) rfl KD ?_
     exact WS.can [(1005, some 5), (1007, some 7)] (((ih.out k (by omega)).s_j0  r w ro B hF t422 t423 t430 t438 true t424 t427 t432 t435 h).out) KD
def laws_FnLayOut.Pure : Prop := ∀ (l0 : List Int), l0.length ≤ maxLen → l0.length * 1 ≤ 140737488351232 → (∀ x ∈ l0, (Lit.int .u8 x).wf = true) → ∃ k, laws_FnLayOut.f k l0 = some true
end Go.Proofs.YtmjoigpnnechgaaDoor.V
