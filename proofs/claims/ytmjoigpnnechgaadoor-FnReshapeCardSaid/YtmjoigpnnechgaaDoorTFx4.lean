/- A part of the claim. -/
import Derived.Test.YtmjoigpnnechgaaDoorTFx0
import Derived.Test.YtmjoigpnnechgaaDoorTFx1
import Derived.Test.YtmjoigpnnechgaaDoorTFx3
import Derived.Test.YtmjoigpnnechgaaDoorTFSgw
import Derived.Test.YtmjoigpnnechgaaDoorTFSgz
-- PRINTED by print.py (a twelfth state) out of the translation. Not trusted: Lean checks it.
namespace Go.Proofs.YtmjoigpnnechgaaDoor.T
open Go.RowKit Go.Proofs.YtmjoigpnnechgaaDoorW.St Go.Proofs.YtmjoigpnnechgaaDoorW.PrintWords Go.Proofs.YtmjoigpnnechgaaDoorW.PrintLast Go.Proofs.YtmjoigpnnechgaaDoorW.PrintMore
attribute [local go_sem] max2_int min2_int max_two min_two max_three min_three max_four min_four   -- for this text's walks alone
set_option linter.unusedVariables false
set_option linter.unusedSimpArgs false
def impl_arr_short.f (k : Nat) (a0_0 : Int) (l0_1 : List (S84)) (a1 : Int) : Option (ByteArray × Bool) := (impl_arr_text.f k a0_0 l0_1 a1).bind fun t320 => (if (t320.size : Int) > 400 then (some ((⟨#[]⟩ : ByteArray), false)) else (some (t320, true)))
set_option maxRecDepth 100000 in
set_option maxHeartbeats 4000000 in
theorem impl_arr_short.ctr (k : Nat) (a0_0 : Int) (l0_1 : List (S84)) (a1 : Int) (r1 : ByteArray) (r2 : Bool) (h : impl_arr_short.f k a0_0 l0_1 a1 = some (r1, r2)) : Ctr TE 101 none [.ag [.v (.int .i64 a0_0), .sl 2 (r84 l0_1)], .v (.int .i64 a1)] [.ro (.v (.string r1)), .ro (.v (.bool r2))] [] := by
 refine ctr_of (fn := Tryd.f101) (c := (bodyOf Tryd.f101)) Tryd.func101 rfl (by kernel_rfl) (Nat.le_of_ble_eq_true (by kernel_rfl)) (fun w ro B hF _ => ?_)
 simp only [impl_arr_short.f] at h
 obtain ⟨t320, q1, h⟩ := Option.bind_eq_some_iff.1 h
 have q1c := impl_arr_text.ctr k _ _ _ _ q1
 by_cases c2 : (t320.size : Int) > 400
 · rw [if_pos c2] at h
   refine path_ok (k := 11) hF (RetQ_mild _ _ _ _ _ _ _ _) (ds := [.r [.ro (.v (.string t320))] [], .b true]) (os := []) (c := none) rfl KD ?_
   cases h
   exact ret_as (ms := [.ro, .ro]) rfl KD
 · rw [if_neg c2] at h
   refine path_ok (k := 12) hF (RetQ_mild _ _ _ _ _ _ _ _) (ds := [.r [.ro (.v (.string t320))] [], .b false]) (os := []) (c := none) rfl KD ?_
   cases h
   exact ret_as (ms := [.ro, .ro]) rfl KD
def impl_dataOk.f (l0 : List Int) : Option (Bool) := if (l0.length : Int) ≤ 400 then ((impl_within.f l0 10006).bind fun t321 => (some t321)) else (some false)
set_option maxRecDepth 100000 in
set_option maxHeartbeats 4000000 in
theorem impl_dataOk.ctr (l0 : List Int) (r : Bool) (h : impl_dataOk.f l0 = some r) : Ctr TE 136 none [.sl 1 (rX (cI .i64) l0)] [.ro (.v (.bool r))] [] := by
 refine ctr_of (fn := Tryd.f136) (c := (bodyOf Tryd.f136)) Tryd.func136 rfl (by kernel_rfl) (Nat.le_of_ble_eq_true (by kernel_rfl)) (fun w ro B hF _ => ?_)
 simp only [impl_dataOk.f] at h
 by_cases c1 : (l0.length : Int) ≤ 400
 · rw [if_pos c1] at h
   obtain ⟨t321, q2, h⟩ := Option.bind_eq_some_iff.1 h
   have q2c := impl_within.ctr _ _ _ q2
   refine path_ok (k := 5) hF (RetQ_mild _ _ _ _ _ _ _ _) (ds := [.e 4 (.v (.int .i64 (l0.length : Int))), .b true, .b true, .r [.ro (.v (.bool t321))] [], .b true]) (os := []) (c := none) rfl KD ?_
   cases h
   exact ret_as (ms := [.ro]) rfl KD
 · rw [if_neg c1] at h
   refine path_ok (k := 5) hF (RetQ_mild _ _ _ _ _ _ _ _) (ds := [.e 4 (.v (.int .i64 (l0.length : Int))), .b false, .b false, .b false]) (os := []) (c := none) rfl KD ?_
   cases h
   exact ret_as (ms := [.ro]) rfl KD
mutual
def impl_fill.l0 : Nat → List Int → List Int → Int → Int → Int → List (S84) → Option (Int × (List (S84)) × List Int)
  | 0, _, _, _, _, _, _ => none
  | k + 1, x0, x1, x19, x20, x330000, x330001 => if x20 < x19 then (if 1 ≤ (x0.length : Int) then ((impl_fill.f k (x0.drop 1) x1).bind fun bt333 => (if x330001.length < 4398046511104 then (impl_fill.l0 k x0 bt333.2.2 x19 (wrap64 (x20 + 1)) x330000 (x330001 ++ [(⟨bt333.1, bt333.2.1⟩ : S84)])) else (none))) else (none)) else (some (x330000, x330001, x1))
def impl_fill.f : Nat → List Int → List Int → Option (Int × (List (S84)) × List Int)
  | 0, _, _ => none
  | k + 1, l0, l1 => if (l0.length : Int) = 0 then (if 0 < (l1.length : Int) then (if 1 ≤ (l1.length : Int) then (some (rd l1 0, ([] : List (S84)), (l1.drop 1))) else (none)) else (none)) else (if 0 < (l0.length : Int) then (impl_fill.l0 k l0 l1 (rd l0 0) 0 0 ([] : List (S84))) else (none))
end
def impl_fill.I0 (r1 : Int) (r2 : List (S84)) (r3 : List Int) (m : Nat) (σ : St) : Prop := ∃ (x0 : List Int) (x1 : List Int) (x19 : Int) (x20 : Int) (x323000 : Int) (x330000 : Int) (x330001 : List (S84)), impl_fill.l0 m x0 x1 x19 x20 x330000 x330001 = some (r1, r2, r3) ∧ σ = ⟨[(0, .sl 1 (rX (cI .i64) x0)), (1, .sl 1 (rX (cI .i64) x1)), (4, .pt 1004 0 0), (6, .pt 1006 0 0), (19, .v (.int .i64 x19)), (20, .v (.int .i64 x20))], [(1004, .box 0 84 false [.v (.int .i64 x323000), .v (.slice none 0 0)]), (3385, .own 0 84 2 (r84 x330001)), (1006, .box 0 84 false [.v (.int .i64 x330000), .ow 3385 0])]⟩
structure impl_fill.C (k : Nat) : Prop where
 s_f : ∀ (l0 : List Int) (l1 : List Int) (r1 : Int) (r2 : List (S84)) (r3 : List Int), impl_fill.f k l0 l1 = some (r1, r2, r3) → Ctr TE 137 none [.sl 1 (rX (cI .i64) l0), .sl 1 (rX (cI .i64) l1)] [.ro (.ag [.v (.int .i64 r1), .sl 2 (r84 r2)]), .ro (.sl 1 (rX (cI .i64) r3))] []
 s_l0 : ∀ (r1 : Int) (r2 : List (S84)) (r3 : List Int) (w : World) (ro : Nat → Prop) (B : Nat) (_ : Fr TE (cx0 Tryd.f137 none w ro B)) (x0 : List Int) (x1 : List Int) (x19 : Int) (x20 : Int) (x323000 : Int) (x330000 : Int) (x330001 : List (S84)) (_ : impl_fill.l0 k x0 x1 x19 x20 x330000 x330001 = some (r1, r2, r3)), Kp (WS TE (cx0 Tryd.f137 none w ro B) (stkAt [1, 1, 1, 0, 1, 0] [] (bodyOf Tryd.f137) []) ⟨[(0, .sl 1 (rX (cI .i64) x0)), (1, .sl 1 (rX (cI .i64) x1)), (4, .pt 1004 0 0), (6, .pt 1006 0 0), (19, .v (.int .i64 x19)), (20, .v (.int .i64 x20))], [(1004, .box 0 84 false [.v (.int .i64 x323000), .v (.slice none 0 0)]), (3385, .own 0 84 2 (r84 x330001)), (1006, .box 0 84 false [.v (.int .i64 x330000), .ow 3385 0])]⟩ (RetQ TE Tryd.f137 none [.ro (.ag [.v (.int .i64 r1), .sl 2 (r84 r2)]), .ro (.sl 1 (rX (cI .i64) r3))] [] w ro B))
set_option maxRecDepth 100000 in
set_option maxHeartbeats 4000000 in
theorem impl_fill.c_f (k : Nat) (ih : Kp (∀ m, m < k → impl_fill.C m)) (l0 : List Int) (l1 : List Int) (r1 : Int) (r2 : List (S84)) (r3 : List Int) (h : impl_fill.f k l0 l1 = some (r1, r2, r3)) : Ctr TE 137 none [.sl 1 (rX (cI .i64) l0), .sl 1 (rX (cI .i64) l1)] [.ro (.ag [.v (.int .i64 r1), .sl 2 (r84 r2)]), .ro (.sl 1 (rX (cI .i64) r3))] [] := by
 cases k with
 | zero => simp [impl_fill.f] at h
 | succ k =>
 simp only [impl_fill.f] at h
 refine ctr_of (fn := Tryd.f137) (c := (bodyOf Tryd.f137)) Tryd.func137 rfl (by kernel_rfl) (Nat.le_of_ble_eq_true (by kernel_rfl)) (fun w ro B hF _ => ?_)
 by_cases c1 : (l0.length : Int) = 0
 · rw [if_pos c1] at h
   by_cases c2 : 0 < (l1.length : Int)
   · rw [if_pos c2] at h
     by_cases c3 : 1 ≤ (l1.length : Int)
     · rw [if_pos c3] at h
       refine path_ok (k := 9) hF (RetQ_mild _ _ _ _ _ _ _ _) (ds := [.e 9 (.v (.int .i64 (l0.length : Int))), .b true, .e 12 (.rf [.v (.int .i64 (rd l1 0))]), .e 16 (.sl 1 (rX (cI .i64) (l1.drop 1)))]) (os := [.o [(0, 0), (1, 0), (2, 1), (3, 0), (4, 0), (5, 0), (6, 2), (7, 0)] [6]]) (c := none) rfl KD ?_
       cases h
       exact ret_as (ms := [.ro, .ro]) rfl KD
     · rw [if_neg c3] at h
       cases h
   · rw [if_neg c2] at h
     cases h
 · rw [if_neg c1] at h
   by_cases c4 : 0 < (l0.length : Int)
   · rw [if_pos c4] at h
     refine path_ok (k := 13) hF (RetQ_mild _ _ _ _ _ _ _ _) (ds := [.e 9 (.v (.int .i64 (l0.length : Int))), .b false, .e 18 (.rf [.v (.int .i64 (rd l0 0))])]) (os := []) (c := none) rfl KD ?_
     exact WS.can [(1004, some 4), (1006, some 6), (3385, none)] (((ih.out k (by omega)).s_l0  r1 r2 r3 w ro B hF l0 l1 (rd l0 0) 0 0 0 ([] : List (S84)) h).out) KD
   · rw [if_neg c4] at h
     cases h
set_option maxRecDepth 100000 in
set_option maxHeartbeats 4000000 in
theorem impl_fill.c_l0 (k : Nat) (ih : Kp (∀ m, m < k → impl_fill.C m)) (r1 : Int) (r2 : List (S84)) (r3 : List Int) (w : World) (ro : Nat → Prop) (B : Nat) (hF : Fr TE (cx0 Tryd.f137 none w ro B)) (x0 : List Int) (x1 : List Int) (x19 : Int) (x20 : Int) (x323000 : Int) (x330000 : Int) (x330001 : List (S84)) (h : impl_fill.l0 k x0 x1 x19 x20 x330000 x330001 = some (r1, r2, r3)) : Kp (WS TE (cx0 Tryd.f137 none w ro B) (stkAt [1, 1, 1, 0, 1, 0] [] (bodyOf Tryd.f137) []) ⟨[(0, .sl 1 (rX (cI .i64) x0)), (1, .sl 1 (rX (cI .i64) x1)), (4, .pt 1004 0 0), (6, .pt 1006 0 0), (19, .v (.int .i64 x19)), (20, .v (.int .i64 x20))], [(1004, .box 0 84 false [.v (.int .i64 x323000), .v (.slice none 0 0)]), (3385, .own 0 84 2 (r84 x330001)), (1006, .box 0 84 false [.v (.int .i64 x330000), .ow 3385 0])]⟩ (RetQ TE Tryd.f137 none [.ro (.ag [.v (.int .i64 r1), .sl 2 (r84 r2)]), .ro (.sl 1 (rX (cI .i64) r3))] [] w ro B)) := by
 refine ⟨WS.loop (fun m σ => m ≤ k ∧ impl_fill.I0 r1 r2 r3 m σ) k ⟨Nat.le_refl k, x0, x1, x19, x20, x323000, x330000, x330001, h, rfl⟩ (fun m σ' hI J0 hJ0 => ?_)⟩
 clear h
 obtain ⟨hk, x0, x1, x19, x20, x323000, x330000, x330001, h, rfl⟩ := hI
 cases m with
 | zero => simp [impl_fill.l0] at h
 | succ k' =>
 simp only [impl_fill.l0] at h
 by_cases c5 : x20 < x19
 · rw [if_pos c5] at h
   by_cases c6 : 1 ≤ (x0.length : Int)
   · rw [if_pos c6] at h
     obtain ⟨⟨t333, t334, t337⟩, q7, h⟩ := Option.bind_eq_some_iff.1 h
     dsimp only at h
     have q7c := (ih.out k' (by omega)).s_f _ _ _ _ _ q7
     by_cases c8 : x330001.length < 4398046511104
     · rw [if_pos c8] at h
       refine path_ok (k := 14) hF (RetQ_mild _ _ _ _ _ _ _ _) (ds := [.b true, .e 24 (.sl 1 (rX (cI .i64) (x0.drop 1))), .r [.ro (.ag [.v (.int .i64 t333), .sl 2 (r84 t334)]), .ro (.sl 1 (rX (cI .i64) t337))] [], .p 32 ([[.v (.int .i64 t333), .sl 2 (r84 t334)]]), .o 33 (r84 (x330001 ++ [(⟨t333, t334⟩ : S84)]))]) (os := []) (c := none) rfl KD ?_
       exact WS.lpc [(1004, some 1004), (1006, some 1006), (3385, some 3385)] (hJ0 _ _ (Nat.lt_succ_self _) ⟨by omega, x0, t337, x19, (wrap64 (x20 + 1)), x323000, x330000, (x330001 ++ [(⟨t333, t334⟩ : S84)]), h, rfl⟩) KD
     · rw [if_neg c8] at h
       cases h
   · rw [if_neg c6] at h
     cases h
 · rw [if_neg c5] at h
   refine path_ok (k := 8) hF (RetQ_mild _ _ _ _ _ _ _ _) (ds := [.b false]) (os := []) (c := none) rfl KD ?_
   cases h
   exact ret_as (ms := [.ro, .ro]) rfl KD
theorem impl_fill.cs (k : Nat) : impl_fill.C k := by
 induction k using Nat.strongRecOn with
 | _ k ih0 =>
 have ih : Kp (∀ m, m < k → impl_fill.C m) := ⟨ih0⟩
 exact ⟨impl_fill.c_f k ih, impl_fill.c_l0 k ih⟩
theorem impl_fill.ctr (k : Nat) (l0 : List Int) (l1 : List Int) (r1 : Int) (r2 : List (S84)) (r3 : List Int) (h : impl_fill.f k l0 l1 = some (r1, r2, r3)) : Ctr TE 137 none [.sl 1 (rX (cI .i64) l0), .sl 1 (rX (cI .i64) l1)] [.ro (.ag [.v (.int .i64 r1), .sl 2 (r84 r2)]), .ro (.sl 1 (rX (cI .i64) r3))] [] := (impl_fill.cs k).s_f l0 l1 r1 r2 r3 h
mutual
def impl_FillShape.j0 : Nat → List Int → List Int → Bool → Option (ByteArray × Bool)
  | 0, _, _, _ => none
  | k + 1, x0, x1, x23 => if x23 = true then (some ((⟨#[]⟩ : ByteArray), false)) else (impl_FillShape.l0 k x0 x1 1 x0 (x0.length : Int) 0)
def impl_FillShape.l0 : Nat → List Int → List Int → Int → List Int → Int → Int → Option (ByteArray × Bool)
  | 0, _, _, _, _, _, _ => none
  | k + 1, x0, x1, x6, x24, x25, x26 => if x26 < x25 then (if 0 ≤ x26 then (if x26 < (x24.length : Int) then (impl_FillShape.l0 k x0 x1 (wrap64 (x6 * (rd x24 x26))) x24 x25 (wrap64 (x26 + 1))) else (none)) else (none)) else (if (x1.length : Int) = x6 then ((impl_fill.f k x0 x1).bind fun bt346 => ((impl_arr_short.f k bt346.1 bt346.2.1 (x0.length : Int)).bind fun bt354 => (some (bt354.1, bt354.2)))) else (some ((⟨#[]⟩ : ByteArray), false)))
end
def impl_FillShape.f (k : Nat) (l0 : List Int) (l1 : List Int) : Option (ByteArray × Bool) := if (l0.length : Int) > 3 then (impl_FillShape.j0 k l0 l1 true) else ((impl_within.f l0 400).bind fun t343 => (if t343 = true then ((impl_dataOk.f l1).bind fun t344 => (impl_FillShape.j0 k l0 l1 (!t344))) else (impl_FillShape.j0 k l0 l1 true)))
def impl_FillShape.I0 (r1 : ByteArray) (r2 : Bool) (m : Nat) (σ : St) : Prop := ∃ (x0 : List Int) (x1 : List Int) (x6 : Int) (x24 : List Int) (x25 : Int) (x26 : Int), impl_FillShape.l0 m x0 x1 x6 x24 x25 x26 = some (r1, r2) ∧ σ = ⟨[(0, .sl 1 (rX (cI .i64) x0)), (1, .sl 1 (rX (cI .i64) x1)), (6, .v (.int .i64 x6)), (24, .sl 1 (rX (cI .i64) x24)), (25, .v (.int .i64 x25)), (26, .v (.int .i64 x26))], []⟩
structure impl_FillShape.C (k : Nat) : Prop where
 s_j0 : ∀ (r1 : ByteArray) (r2 : Bool) (w : World) (ro : Nat → Prop) (B : Nat) (_ : Fr TE (cx0 Tryd.f100 none w ro B)) (x0 : List Int) (x1 : List Int) (x23 : Bool) (_ : impl_FillShape.j0 k x0 x1 x23 = some (r1, r2)), Kp (WS TE (cx0 Tryd.f100 none w ro B) (stkAt [1, 0, 0, 9] [] (bodyOf Tryd.f100) []) ⟨[(0, .sl 1 (rX (cI .i64) x0)), (1, .sl 1 (rX (cI .i64) x1)), (23, .v (.bool x23))], []⟩ (RetQ TE Tryd.f100 none [.ro (.v (.string r1)), .ro (.v (.bool r2))] [] w ro B))
 s_l0 : ∀ (r1 : ByteArray) (r2 : Bool) (w : World) (ro : Nat → Prop) (B : Nat) (_ : Fr TE (cx0 Tryd.f100 none w ro B)) (x0 : List Int) (x1 : List Int) (x6 : Int) (x24 : List Int) (x25 : Int) (x26 : Int) (_ : impl_FillShape.l0 k x0 x1 x6 x24 x25 x26 = some (r1, r2)), Kp (WS TE (cx0 Tryd.f100 none w ro B) (stkAt [1, 1, 1, 0, 1, 0] [] (bodyOf Tryd.f100) []) ⟨[(0, .sl 1 (rX (cI .i64) x0)), (1, .sl 1 (rX (cI .i64) x1)), (6, .v (.int .i64 x6)), (24, .sl 1 (rX (cI .i64) x24)), (25, .v (.int .i64 x25)), (26, .v (.int .i64 x26))], []⟩ (RetQ TE Tryd.f100 none [.ro (.v (.string r1)), .ro (.v (.bool r2))] [] w ro B))
set_option maxRecDepth 100000 in
set_option maxHeartbeats 4000000 in
theorem impl_FillShape.c_j0 (k : Nat) (ih : Kp (∀ m, m < k → impl_FillShape.C m)) (r1 : ByteArray) (r2 : Bool) (w : World) (ro : Nat → Prop) (B : Nat) (hF : Fr TE (cx0 Tryd.f100 none w ro B)) (x0 : List Int) (x1 : List Int) (x23 : Bool) (h : impl_FillShape.j0 k x0 x1 x23 = some (r1, r2)) : Kp (WS TE (cx0 Tryd.f100 none w ro B) (stkAt [1, 0, 0, 9] [] (bodyOf Tryd.f100) []) ⟨[(0, .sl 1 (rX (cI .i64) x0)), (1, .sl 1 (rX (cI .i64) x1)), (23, .v (.bool x23))], []⟩ (RetQ TE Tryd.f100 none [.ro (.v (.string r1)), .ro (.v (.bool r2))] [] w ro B)) := by
 refine ⟨?_⟩
 cases k with
 | zero => simp [impl_FillShape.j0] at h
 | succ k =>
 simp only [impl_FillShape.j0] at h
 by_cases c5 : x23 = true
 · rw [if_pos c5] at h
   refine path_ok (k := 4) hF (RetQ_mild _ _ _ _ _ _ _ _) (ds := [.b true]) (os := []) (c := none) rfl KD ?_
   cases h
   exact ret_as (ms := [.ro, .ro]) rfl KD
 · rw [if_neg c5] at h
   refine path_ok (k := 8) hF (RetQ_mild _ _ _ _ _ _ _ _) (ds := [.b false, .e 25 (.v (.int .i64 (x0.length : Int)))]) (os := []) (c := none) rfl KD ?_
   exact WS.can [] (((ih.out k (by omega)).s_l0  r1 r2 w ro B hF x0 x1 1 x0 (x0.length : Int) 0 h).out) KD
set_option maxRecDepth 100000 in
set_option maxHeartbeats 4000000 in
theorem impl_FillShape.c_l0 (k : Nat) (ih : Kp (∀ m, m < k → impl_FillShape.C m)) (r1 : ByteArray) (r2 : Bool) (w : World) (ro : Nat → Prop) (B : Nat) (hF : Fr TE (cx0 Tryd.f100 none w ro B)) (x0 : List Int) (x1 : List Int) (x6 : Int) (x24 : List Int) (x25 : Int) (x26 : Int) (h : impl_FillShape.l0 k x0 x1 x6 x24 x25 x26 = some (r1, r2)) : Kp (WS TE (cx0 Tryd.f100 none w ro B) (stkAt [1, 1, 1, 0, 1, 0] [] (bodyOf Tryd.f100) []) ⟨[(0, .sl 1 (rX (cI .i64) x0)), (1, .sl 1 (rX (cI .i64) x1)), (6, .v (.int .i64 x6)), (24, .sl 1 (rX (cI .i64) x24)), (25, .v (.int .i64 x25)), (26, .v (.int .i64 x26))], []⟩ (RetQ TE Tryd.f100 none [.ro (.v (.string r1)), .ro (.v (.bool r2))] [] w ro B)) := by
 refine ⟨WS.loop (fun m σ => m ≤ k ∧ impl_FillShape.I0 r1 r2 m σ) k ⟨Nat.le_refl k, x0, x1, x6, x24, x25, x26, h, rfl⟩ (fun m σ' hI J0 hJ0 => ?_)⟩
 clear h
 obtain ⟨hk, x0, x1, x6, x24, x25, x26, h, rfl⟩ := hI
 cases m with
 | zero => simp [impl_FillShape.l0] at h
 | succ k' =>
 simp only [impl_FillShape.l0] at h
 by_cases c6 : x26 < x25
 · rw [if_pos c6] at h
   by_cases c7 : 0 ≤ x26
   · rw [if_pos c7] at h
     by_cases c8 : x26 < (x24.length : Int)
     · rw [if_pos c8] at h
       refine path_ok (k := 12) hF (RetQ_mild _ _ _ _ _ _ _ _) (ds := [.b true, .e 28 (.rf [.v (.int .i64 (rd x24 x26))])]) (os := []) (c := none) rfl KD ?_
       exact WS.lpc [] (hJ0 _ _ (Nat.lt_succ_self _) ⟨by omega, x0, x1, (wrap64 (x6 * (rd x24 x26))), x24, x25, (wrap64 (x26 + 1)), h, rfl⟩) KD
     · rw [if_neg c8] at h
       cases h
   · rw [if_neg c7] at h
     cases h
 · rw [if_neg c6] at h
   by_cases c9 : (x1.length : Int) = x6
   · rw [if_pos c9] at h
     obtain ⟨⟨t346, t347, t350⟩, q10, h⟩ := Option.bind_eq_some_iff.1 h
     dsimp only at h
     have q10c := impl_fill.ctr k' _ _ _ _ _ q10
     obtain ⟨⟨t354, t355⟩, q11, h⟩ := Option.bind_eq_some_iff.1 h
     dsimp only at h
     have q11c := impl_arr_short.ctr k' _ _ _ _ _ q11
     refine path_ok (k := 15) hF (RetQ_mild _ _ _ _ _ _ _ _) (ds := [.b false, .e 35 (.v (.int .i64 (x1.length : Int))), .b false, .r [.ro (.ag [.v (.int .i64 t346), .sl 2 (r84 t347)]), .ro (.sl 1 (rX (cI .i64) t350))] [], .e 46 (.v (.int .i64 (x0.length : Int))), .r [.ro (.v (.string t354)), .ro (.v (.bool t355))] []]) (os := []) (c := none) rfl KD ?_
     cases h
     exact ret_as (ms := [.ro, .ro]) rfl KD
   · rw [if_neg c9] at h
     refine path_ok (k := 12) hF (RetQ_mild _ _ _ _ _ _ _ _) (ds := [.b false, .e 35 (.v (.int .i64 (x1.length : Int))), .b true]) (os := []) (c := none) rfl KD ?_
     cases h
     exact ret_as (ms := [.ro, .ro]) rfl KD
theorem impl_FillShape.cs (k : Nat) : impl_FillShape.C k := by
 induction k using Nat.strongRecOn with
 | _ k ih0 =>
 have ih : Kp (∀ m, m < k → impl_FillShape.C m) := ⟨ih0⟩
 exact ⟨impl_FillShape.c_j0 k ih, impl_FillShape.c_l0 k ih⟩
set_option maxRecDepth 100000 in
set_option maxHeartbeats 4000000 in
theorem impl_FillShape.ctr (k : Nat) (l0 : List Int) (l1 : List Int) (r1 : ByteArray) (r2 : Bool) (h : impl_FillShape.f k l0 l1 = some (r1, r2)) : Ctr TE 100 none [.sl 1 (rX (cI .i64) l0), .sl 1 (rX (cI .i64) l1)] [.ro (.v (.string r1)), .ro (.v (.bool r2))] [] := by
 refine ctr_of (fn := Tryd.f100) (c := (bodyOf Tryd.f100)) Tryd.func100 rfl (by kernel_rfl) (Nat.le_of_ble_eq_true (by kernel_rfl)) (fun w ro B hF _ => ?_)
 have ih : Kp (∀ m, m < k + 1 → impl_FillShape.C m) := ⟨fun m _ => impl_FillShape.cs m⟩
 simp only [impl_FillShape.f] at h
 by_cases c1 : (l0.length : Int) > 3
 · rw [if_pos c1] at h
   refine path_ok (k := 5) hF (RetQ_mild _ _ _ _ _ _ _ _) (ds := [.e 12 (.v (.int .i64 (l0.length : Int))), .b true, .b true, .b true, .b true, .b true, .b true, .b true, .b true]) (os := []) (c := none) rfl KD ?_
   exact WS.can [] (((ih.out k (by omega)).s_j0  r1 r2 w ro B hF l0 l1 true h).out) KD
 · rw [if_neg c1] at h
   obtain ⟨t343, q2, h⟩ := Option.bind_eq_some_iff.1 h
   have q2c := impl_within.ctr _ _ _ q2
   by_cases c3 : t343 = true
   · rw [if_pos c3] at h
     obtain ⟨t344, q4, h⟩ := Option.bind_eq_some_iff.1 h
     have q4c := impl_dataOk.ctr _ _ q4
     refine path_ok (k := 5) hF (RetQ_mild _ _ _ _ _ _ _ _) (ds := [.e 12 (.v (.int .i64 (l0.length : Int))), .b false, .b false, .r [.ro (.v (.bool t343))] [], .b false, .b false, .b false, .b false, .r [.ro (.v (.bool t344))] [], .b false, .b false]) (os := []) (c := none) rfl KD ?_
     exact WS.can [] (((ih.out k (by omega)).s_j0  r1 r2 w ro B hF l0 l1 (!t344) h).out) KD
   · rw [if_neg c3] at h
     refine path_ok (k := 5) hF (RetQ_mild _ _ _ _ _ _ _ _) (ds := [.e 12 (.v (.int .i64 (l0.length : Int))), .b false, .b false, .r [.ro (.v (.bool t343))] [], .b false, .b false, .b true, .b true, .b true, .b true]) (os := []) (c := none) rfl KD ?_
     exact WS.can [] (((ih.out k (by omega)).s_j0  r1 r2 w ro B hF l0 l1 true h).out) KD
def impl_ReshapeArray.f (k : Nat) (a0 : ByteArray) (a1 : Int) (l2 : List Int) : Option (ByteArray × Bool) := (impl_NumbersOf.f k a0 a1).bind fun bt356 => (if bt356.2 = true then ((impl_FillShape.f k l2 bt356.1).bind fun bt360 => (some (bt360.1, bt360.2))) else (some ((⟨#[]⟩ : ByteArray), false)))
set_option maxRecDepth 100000 in
set_option maxHeartbeats 4000000 in
theorem impl_ReshapeArray.ctr (k : Nat) (a0 : ByteArray) (a1 : Int) (l2 : List Int) (r1 : ByteArray) (r2 : Bool) (h : impl_ReshapeArray.f k a0 a1 l2 = some (r1, r2)) : Ctr TE 46 none [.v (.string a0), .v (.int .i64 a1), .sl 1 (rX (cI .i64) l2)] [.ro (.v (.string r1)), .ro (.v (.bool r2))] [] := by
 refine ctr_of (fn := Tryd.f46) (c := (bodyOf Tryd.f46)) Tryd.func46 rfl (by kernel_rfl) (Nat.le_of_ble_eq_true (by kernel_rfl)) (fun w ro B hF _ => ?_)
 simp only [impl_ReshapeArray.f] at h
 obtain ⟨⟨t356, t357⟩, q1, h⟩ := Option.bind_eq_some_iff.1 h
 dsimp only at h
 have q1c := impl_NumbersOf.ctr k _ _ _ _ q1
 by_cases c2 : t357 = true
 · rw [if_pos c2] at h
   obtain ⟨⟨t360, t361⟩, q3, h⟩ := Option.bind_eq_some_iff.1 h
   dsimp only at h
   have q3c := impl_FillShape.ctr k _ _ _ _ q3
   refine path_ok (k := 12) hF (RetQ_mild _ _ _ _ _ _ _ _) (ds := [.r [.ro (.sl 1 (rX (cI .i64) t356)), .ro (.v (.bool t357))] [], .b false, .r [.ro (.v (.string t360)), .ro (.v (.bool t361))] []]) (os := []) (c := none) rfl KD ?_
   cases h
   exact ret_as (ms := [.ro, .ro]) rfl KD
 · rw [if_neg c2] at h
   refine path_ok (k := 11) hF (RetQ_mild _ _ _ _ _ _ _ _) (ds := [.r [.ro (.sl 1 (rX (cI .i64) t356)), .ro (.v (.bool t357))] [], .b true]) (os := []) (c := none) rfl KD ?_
   cases h
   exact ret_as (ms := [.ro, .ro]) rfl KD
def spec_l13Open.f (l0 : List Int) : Option (List Int × Int) := if (l0.length : Int) > 2000 then (if 2000 ≤ (l0.length : Int) then (some (l0.take 2000, 0)) else (none)) else (some (l0, 0))
set_option maxRecDepth 100000 in
set_option maxHeartbeats 4000000 in
theorem spec_l13Open.ctr (l0 : List Int) (r1 : List Int) (r2 : Int) (h : spec_l13Open.f l0 = some (r1, r2)) : Ctr TE 87 none [.sl 1 (rX (cI .u8) l0)] [.nb 129 [.sl 1 (rX (cI .u8) r1), .v (.int .i64 r2)]] [] := by
 refine ctr_of (fn := Tryd.f87) (c := (bodyOf Tryd.f87)) Tryd.func87 rfl (by kernel_rfl) (Nat.le_of_ble_eq_true (by kernel_rfl)) (fun w ro B hF _ => ?_)
 simp only [spec_l13Open.f] at h
 by_cases c1 : (l0.length : Int) > 2000
 · rw [if_pos c1] at h
   by_cases c2 : 2000 ≤ (l0.length : Int)
   · rw [if_pos c2] at h
     refine path_ok (k := 10) hF (RetQ_mild _ _ _ _ _ _ _ _) (ds := [.e 4 (.v (.int .i64 (l0.length : Int))), .b true, .e 7 (.sl 1 (rX (cI .u8) (l0.take 2000)))]) (os := []) (c := none) rfl KD ?_
     cases h
     exact ret_as (ms := [.nb]) rfl KD
   · rw [if_neg c2] at h
     cases h
 · rw [if_neg c1] at h
   refine path_ok (k := 10) hF (RetQ_mild _ _ _ _ _ _ _ _) (ds := [.e 4 (.v (.int .i64 (l0.length : Int))), .b false]) (os := []) (c := none) rfl KD ?_
   cases h
   exact ret_as (ms := [.nb]) rfl KD
def spec_l13Rd_pick.j0 : Nat → Int → Bool → List Int → Int → Option (Int × Int)
  | 0, _, _, _, _ => none
  | k + 1, x1, x24, x1000, x1001 => if x24 = true then (some (0, x1001)) else (if (wrap64 (x1001 - 1)) < (x1000.length : Int) then (if 0 ≤ (wrap64 (x1001 - 1)) then (if x1 = 0 then (none) else (some (Int.tmod (wrap64 (rd x1000 (wrap64 (x1001 - 1)))) x1, x1001))) else (none)) else (if (x1000.length : Int) = 0 then (none) else (if 0 ≤ (Int.tmod (wrap64 (x1001 - 1)) (x1000.length : Int)) then (if (Int.tmod (wrap64 (x1001 - 1)) (x1000.length : Int)) < (x1000.length : Int) then (if 0 ≤ (Int.tmod (wrap64 ((wrap64 ((wrap64 (x1001 - 1)) * 7)) + 3)) (x1000.length : Int)) then (if (Int.tmod (wrap64 ((wrap64 ((wrap64 (x1001 - 1)) * 7)) + 3)) (x1000.length : Int)) < (x1000.length : Int) then (if x1 = 0 then (none) else (some (Int.tmod (Go.bits .xor .i64 (wrap64 ((wrap64 ((wrap64 ((wrap64 ((wrap64 (rd x1000 (Int.tmod (wrap64 (x1001 - 1)) (x1000.length : Int)))) * 131)) + (wrap64 ((wrap64 (rd x1000 (Int.tmod (wrap64 ((wrap64 ((wrap64 (x1001 - 1)) * 7)) + 3)) (x1000.length : Int)))) * 1117)))) + (wrap64 ((wrap64 (x1001 - 1)) * 29)))) + (wrap64 ((wrap64 (Int.tdiv (wrap64 (x1001 - 1)) (x1000.length : Int))) * 53)))) (wrap64 (Int.tdiv (wrap64 ((wrap64 ((wrap64 ((wrap64 ((wrap64 (rd x1000 (Int.tmod (wrap64 (x1001 - 1)) (x1000.length : Int)))) * 131)) + (wrap64 ((wrap64 (rd x1000 (Int.tmod (wrap64 ((wrap64 ((wrap64 (x1001 - 1)) * 7)) + 3)) (x1000.length : Int)))) * 1117)))) + (wrap64 ((wrap64 (x1001 - 1)) * 29)))) + (wrap64 ((wrap64 (Int.tdiv (wrap64 (x1001 - 1)) (x1000.length : Int))) * 53)))) 64))) x1, x1001))) else (none)) else (none)) else (none)) else (none))))
def spec_l13Rd_pick.f (k : Nat) (s0_0 : List Int) (s0_1 : Int) (a1 : Int) : Option (Int × Int) := if a1 < 1 then (spec_l13Rd_pick.j0 k a1 true s0_0 (wrap64 (s0_1 + 1))) else (spec_l13Rd_pick.j0 k a1 ((s0_0.length : Int) == 0) s0_0 (wrap64 (s0_1 + 1)))
structure spec_l13Rd_pick.C (k : Nat) : Prop where
 s_j0 : ∀ (s0_0 : List Int) (s0_1 : Int) (r1 : Int) (r2 : Int) (w : World) (ro : Nat → Prop) (B : Nat) (_ : Fr TE (cx0 Tryd.f92 (some (129, [.sl 1 (rX (cI .u8) s0_0), .v (.int .i64 s0_1)])) w ro B)) (x1 : Int) (x24 : Bool) (x1001 : Int) (_ : spec_l13Rd_pick.j0 k x1 x24 s0_0 x1001 = some (r1, r2)), Kp (WS TE (cx0 Tryd.f92 (some (129, [.sl 1 (rX (cI .u8) s0_0), .v (.int .i64 s0_1)])) w ro B) (stkAt [1, 1, 0, 0, 9] [] (bodyOf Tryd.f92) []) ⟨[(0, .pt 0 0 0), (1, .v (.int .i64 x1)), (24, .v (.bool x24))], [(0, .box 0 129 true [.sl 1 (rX (cI .u8) s0_0), .v (.int .i64 x1001)])]⟩ (RetQ TE Tryd.f92 (some (129, [.sl 1 (rX (cI .u8) s0_0), .v (.int .i64 s0_1)])) [.ro (.v (.int .i64 r1))] [.sl 1 (rX (cI .u8) s0_0), .v (.int .i64 r2)] w ro B))
set_option maxRecDepth 100000 in
set_option maxHeartbeats 4000000 in
theorem spec_l13Rd_pick.c_j0 (k : Nat) (ih : Kp (∀ m, m < k → spec_l13Rd_pick.C m)) (s0_0 : List Int) (s0_1 : Int) (r1 : Int) (r2 : Int) (w : World) (ro : Nat → Prop) (B : Nat) (hF : Fr TE (cx0 Tryd.f92 (some (129, [.sl 1 (rX (cI .u8) s0_0), .v (.int .i64 s0_1)])) w ro B)) (x1 : Int) (x24 : Bool) (x1001 : Int) (h : spec_l13Rd_pick.j0 k x1 x24 s0_0 x1001 = some (r1, r2)) : Kp (WS TE (cx0 Tryd.f92 (some (129, [.sl 1 (rX (cI .u8) s0_0), .v (.int .i64 s0_1)])) w ro B) (stkAt [1, 1, 0, 0, 9] [] (bodyOf Tryd.f92) []) ⟨[(0, .pt 0 0 0), (1, .v (.int .i64 x1)), (24, .v (.bool x24))], [(0, .box 0 129 true [.sl 1 (rX (cI .u8) s0_0), .v (.int .i64 x1001)])]⟩ (RetQ TE Tryd.f92 (some (129, [.sl 1 (rX (cI .u8) s0_0), .v (.int .i64 s0_1)])) [.ro (.v (.int .i64 r1))] [.sl 1 (rX (cI .u8) s0_0), .v (.int .i64 r2)] w ro B)) := by
 refine ⟨?_⟩
 cases k with
 | zero => simp [spec_l13Rd_pick.j0] at h
 | succ k =>
 simp only [spec_l13Rd_pick.j0] at h
 by_cases c2 : x24 = true
 · rw [if_pos c2] at h
   refine path_ok (k := 4) hF (RetQ_mild _ _ _ _ _ _ _ _) (ds := [.b true]) (os := []) (c := none) rfl KD ?_
   cases h
   exact ret_as (ms := [.ro]) rfl KD
 · rw [if_neg c2] at h
   by_cases c3 : (wrap64 (x1001 - 1)) < (s0_0.length : Int)
   · rw [if_pos c3] at h
     by_cases c4 : 0 ≤ (wrap64 (x1001 - 1))
     · rw [if_pos c4] at h
       by_cases c5 : x1 = 0
       · rw [if_pos c5] at h
         cases h
       · rw [if_neg c5] at h
         refine path_ok (k := 11) hF (RetQ_mild _ _ _ _ _ _ _ _) (ds := [.b false, .e 35 (.v (.int .i64 (s0_0.length : Int))), .b true, .e 42 (.rf [.v (.int .u8 (rd s0_0 (wrap64 (x1001 - 1))))]), .e 44 (.v (.int .i64 (wrap64 (rd s0_0 (wrap64 (x1001 - 1)))))), .e 46 (.v (.int .i64 (Int.tmod (wrap64 (rd s0_0 (wrap64 (x1001 - 1)))) x1)))]) (os := []) (c := none) rfl KD ?_
         cases h
         exact ret_as (ms := [.ro]) rfl KD
     · rw [if_neg c4] at h
       cases h
   · rw [if_neg c3] at h
     by_cases c6 : (s0_0.length : Int) = 0
     · rw [if_pos c6] at h
       cases h
     · rw [if_neg c6] at h
       by_cases c7 : 0 ≤ (Int.tmod (wrap64 (x1001 - 1)) (s0_0.length : Int))
       · rw [if_pos c7] at h
         by_cases c8 : (Int.tmod (wrap64 (x1001 - 1)) (s0_0.length : Int)) < (s0_0.length : Int)
         · rw [if_pos c8] at h
           by_cases c9 : 0 ≤ (Int.tmod (wrap64 ((wrap64 ((wrap64 (x1001 - 1)) * 7)) + 3)) (s0_0.length : Int))
           · rw [if_pos c9] at h
             by_cases c10 : (Int.tmod (wrap64 ((wrap64 ((wrap64 (x1001 - 1)) * 7)) + 3)) (s0_0.length : Int)) < (s0_0.length : Int)
             · rw [if_pos c10] at h
               by_cases c11 : x1 = 0
               · rw [if_pos c11] at h
                 cases h
               · rw [if_neg c11] at h
                 refine path_ok (k := 16) hF (RetQ_mild _ _ _ _ _ _ _ _) (ds := [.b false, .e 35 (.v (.int .i64 (s0_0.length : Int))), .b false, .e 56 (.v (.int .i64 (s0_0.length : Int))), .e 57 (.v (.int .i64 (Int.tmod (wrap64 (x1001 - 1)) (s0_0.length : Int)))), .e 58 (.rf [.v (.int .u8 (rd s0_0 (Int.tmod (wrap64 (x1001 - 1)) (s0_0.length : Int))))]), .e 60 (.v (.int .i64 (wrap64 (rd s0_0 (Int.tmod (wrap64 (x1001 - 1)) (s0_0.length : Int)))))), .e 73 (.v (.int .i64 (s0_0.length : Int))), .e 74 (.v (.int .i64 (Int.tmod (wrap64 ((wrap64 ((wrap64 (x1001 - 1)) * 7)) + 3)) (s0_0.length : Int)))), .e 75 (.rf [.v (.int .u8 (rd s0_0 (Int.tmod (wrap64 ((wrap64 ((wrap64 (x1001 - 1)) * 7)) + 3)) (s0_0.length : Int))))]), .e 77 (.v (.int .i64 (wrap64 (rd s0_0 (Int.tmod (wrap64 ((wrap64 ((wrap64 (x1001 - 1)) * 7)) + 3)) (s0_0.length : Int)))))), .e 88 (.v (.int .i64 (s0_0.length : Int))), .e 89 (.v (.int .i64 (wrap64 (Int.tdiv (wrap64 (x1001 - 1)) (s0_0.length : Int))))), .e 94 (.v (.int .i64 (wrap64 (Int.tdiv (wrap64 ((wrap64 ((wrap64 ((wrap64 ((wrap64 (rd s0_0 (Int.tmod (wrap64 (x1001 - 1)) (s0_0.length : Int)))) * 131)) + (wrap64 ((wrap64 (rd s0_0 (Int.tmod (wrap64 ((wrap64 ((wrap64 (x1001 - 1)) * 7)) + 3)) (s0_0.length : Int)))) * 1117)))) + (wrap64 ((wrap64 (x1001 - 1)) * 29)))) + (wrap64 ((wrap64 (Int.tdiv (wrap64 (x1001 - 1)) (s0_0.length : Int))) * 53)))) 64)))), .e 98 (.v (.int .i64 (Int.tmod (Go.bits .xor .i64 (wrap64 ((wrap64 ((wrap64 ((wrap64 ((wrap64 (rd s0_0 (Int.tmod (wrap64 (x1001 - 1)) (s0_0.length : Int)))) * 131)) + (wrap64 ((wrap64 (rd s0_0 (Int.tmod (wrap64 ((wrap64 ((wrap64 (x1001 - 1)) * 7)) + 3)) (s0_0.length : Int)))) * 1117)))) + (wrap64 ((wrap64 (x1001 - 1)) * 29)))) + (wrap64 ((wrap64 (Int.tdiv (wrap64 (x1001 - 1)) (s0_0.length : Int))) * 53)))) (wrap64 (Int.tdiv (wrap64 ((wrap64 ((wrap64 ((wrap64 ((wrap64 (rd s0_0 (Int.tmod (wrap64 (x1001 - 1)) (s0_0.length : Int)))) * 131)) + (wrap64 ((wrap64 (rd s0_0 (Int.tmod (wrap64 ((wrap64 ((wrap64 (x1001 - 1)) * 7)) + 3)) (s0_0.length : Int)))) * 1117)))) + (wrap64 ((wrap64 (x1001 - 1)) * 29)))) + (wrap64 ((wrap64 (Int.tdiv (wrap64 (x1001 - 1)) (s0_0.length : Int))) * 53)))) 64))) x1)))]) (os := [.o [(0, 0), (1, 0), (2, 0), (3, 1), (4, 0), (5, 0), (6, 0), (7, 0), (8, 1), (9, 0), (10, 0), (11, 0), (12, 1), (13, 0), (14, 0), (15, 0), (16, 0), (17, 0), (18, 1), (19, 0), (20, 0), (21, 0), (22, 0), (23, 0), (24, 0), (25, 1), (26, 0), (27, 0), (28, 0), (29, 1), (30, 0), (31, 0), (32, 0), (33, 0), (34, 0), (35, 0), (36, 0), (37, 0), (38, 0), (39, 0), (40, 1), (41, 0), (42, 0), (43, 0), (44, 0), (45, 0)] []]) (c := none) rfl KD ?_
                 cases h
                 exact ret_as (ms := [.ro]) rfl KD
             · rw [if_neg c10] at h
               cases h
           · rw [if_neg c9] at h
             cases h
         · rw [if_neg c8] at h
           cases h
       · rw [if_neg c7] at h
         cases h
theorem spec_l13Rd_pick.cs (k : Nat) : spec_l13Rd_pick.C k := by
 induction k using Nat.strongRecOn with
 | _ k ih0 =>
 have ih : Kp (∀ m, m < k → spec_l13Rd_pick.C m) := ⟨ih0⟩
 exact ⟨spec_l13Rd_pick.c_j0 k ih⟩
set_option maxRecDepth 100000 in
set_option maxHeartbeats 4000000 in
theorem spec_l13Rd_pick.ctr (k : Nat) (s0_0 : List Int) (s0_1 : Int) (a1 : Int) (r1 : Int) (r2 : Int) (h : spec_l13Rd_pick.f k s0_0 s0_1 a1 = some (r1, r2)) : Ctr TE 92 (some (129, [.sl 1 (rX (cI .u8) s0_0), .v (.int .i64 s0_1)])) [.pt 0 0 0, .v (.int .i64 a1)] [.ro (.v (.int .i64 r1))] [.sl 1 (rX (cI .u8) s0_0), .v (.int .i64 r2)] := by
 refine ctr_of (fn := Tryd.f92) (c := (bodyOf Tryd.f92)) Tryd.func92 rfl (by kernel_rfl) (Nat.le_of_ble_eq_true (by kernel_rfl)) (fun w ro B hF _ => ?_)
 have ih : Kp (∀ m, m < k + 1 → spec_l13Rd_pick.C m) := ⟨fun m _ => spec_l13Rd_pick.cs m⟩
 simp only [spec_l13Rd_pick.f] at h
 by_cases c1 : a1 < 1
 · rw [if_pos c1] at h
   refine path_ok (k := 7) hF (RetQ_mild _ _ _ _ _ _ _ _) (ds := [.b true, .b true, .b true, .b true, .b true, .b true, .b true]) (os := []) (c := none) rfl KD ?_
   exact WS.can [(0, some 0)] (((ih.out k (by omega)).s_j0 s0_0 s0_1 r1 r2 w ro B hF a1 true (wrap64 (s0_1 + 1)) h).out) KD
 · rw [if_neg c1] at h
   refine path_ok (k := 7) hF (RetQ_mild _ _ _ _ _ _ _ _) (ds := [.b false, .b false, .b false, .b false, .b false, .e 22 (.v (.int .i64 (s0_0.length : Int))), .b false, .b false]) (os := []) (c := none) rfl KD ?_
   exact WS.can [(0, some 0)] (((ih.out k (by omega)).s_j0 s0_0 s0_1 r1 r2 w ro B hF a1 ((s0_0.length : Int) == 0) (wrap64 (s0_1 + 1)) h).out) KD
def spec_l13Rd_num.f (k : Nat) (s0_0 : List Int) (s0_1 : Int) (l1 : List Int) : Option (Int × Int) := (spec_l13Rd_pick.f k s0_0 s0_1 (l1.length : Int)).bind fun bt368 => (if 0 ≤ bt368.1 then (if bt368.1 < (l1.length : Int) then (some (rd l1 bt368.1, bt368.2)) else (none)) else (none))
set_option maxRecDepth 100000 in
set_option maxHeartbeats 4000000 in
theorem spec_l13Rd_num.ctr (k : Nat) (s0_0 : List Int) (s0_1 : Int) (l1 : List Int) (r1 : Int) (r2 : Int) (h : spec_l13Rd_num.f k s0_0 s0_1 l1 = some (r1, r2)) : Ctr TE 128 (some (129, [.sl 1 (rX (cI .u8) s0_0), .v (.int .i64 s0_1)])) [.pt 0 0 0, .sl 1 (rX (cI .i64) l1)] [.ro (.v (.int .i64 r1))] [.sl 1 (rX (cI .u8) s0_0), .v (.int .i64 r2)] := by
 refine ctr_of (fn := Tryd.f128) (c := (bodyOf Tryd.f128)) Tryd.func128 rfl (by kernel_rfl) (Nat.le_of_ble_eq_true (by kernel_rfl)) (fun w ro B hF _ => ?_)
 simp only [spec_l13Rd_num.f] at h
 obtain ⟨⟨t368, t369⟩, q1, h⟩ := Option.bind_eq_some_iff.1 h
 dsimp only at h
 have q1c := spec_l13Rd_pick.ctr k _ _ _ _ _ q1
 by_cases c2 : 0 ≤ t368
 · rw [if_pos c2] at h
   by_cases c3 : t368 < (l1.length : Int)
   · rw [if_pos c3] at h
     refine path_ok (k := 5) hF (RetQ_mild _ _ _ _ _ _ _ _) (ds := [.e 8 (.v (.int .i64 (l1.length : Int))), .r [.ro (.v (.int .i64 t368))] [.sl 1 (rX (cI .u8) s0_0), .v (.int .i64 t369)], .e 10 (.rf [.v (.int .i64 (rd l1 t368))])]) (os := []) (c := none) rfl KD ?_
     cases h
     exact ret_as (ms := [.ro]) rfl KD
   · rw [if_neg c3] at h
     cases h
 · rw [if_neg c2] at h
   cases h
def spec_l11Draw.l0 : Nat → Int → Int → List Int → Int → Int → List Int → Int → Option (ByteArray × Int)
  | 0, _, _, _, _, _, _, _ => none
  | k + 1, x1, x2, x7, x13, x14, x1000, x1001 => if x14 < x13 then ((spec_l13Rd_pick.f k x1000 x1001 50).bind fun bt374 => ((spec_l13Rd_num.f k x1000 bt374.2 (([1, 0, 2, 3, 10006, bt374.1] : List Int))).bind fun bt379 => (if x7.length < 17592186044416 then (spec_l11Draw.l0 k x1 x2 (x7 ++ [bt379.1]) x13 (wrap64 (x14 + 1)) x1000 bt379.2) else (none)))) else ((spec_FillShape.f k (([x1, x2] : List Int)) x7).bind fun bt387 => (some (bt387.1, x1001)))
def spec_l11Draw.f (k : Nat) (s0_0 : List Int) (s0_1 : Int) (a1 : Int) (a2 : Int) : Option (ByteArray × Int) := spec_l11Draw.l0 k a1 a2 (([] : List Int)) (wrap64 (a1 * a2)) 0 s0_0 s0_1
def spec_l11Draw.I0 (s0_0 : List Int) (s0_1 : Int) (r1 : ByteArray) (r2 : Int) (m : Nat) (σ : St) : Prop := ∃ (x1 : Int) (x2 : Int) (x7 : List Int) (x13 : Int) (x14 : Int) (x1001 : Int), spec_l11Draw.l0 m x1 x2 x7 x13 x14 s0_0 x1001 = some (r1, r2) ∧ σ = ⟨[(0, .pt 0 0 0), (1, .v (.int .i64 x1)), (2, .v (.int .i64 x2)), (7, .ow 1007 0), (13, .v (.int .i64 x13)), (14, .v (.int .i64 x14))], [(0, .box 0 129 true [.sl 1 (rX (cI .u8) s0_0), .v (.int .i64 x1001)]), (1007, .own 0 3 1 (rX (cI .i64) x7))]⟩
structure spec_l11Draw.C (k : Nat) : Prop where
 s_l0 : ∀ (s0_0 : List Int) (s0_1 : Int) (r1 : ByteArray) (r2 : Int) (w : World) (ro : Nat → Prop) (B : Nat) (_ : Fr TE (cx0 Tryd.f109 (some (129, [.sl 1 (rX (cI .u8) s0_0), .v (.int .i64 s0_1)])) w ro B)) (x1 : Int) (x2 : Int) (x7 : List Int) (x13 : Int) (x14 : Int) (x1001 : Int) (_ : spec_l11Draw.l0 k x1 x2 x7 x13 x14 s0_0 x1001 = some (r1, r2)), Kp (WS TE (cx0 Tryd.f109 (some (129, [.sl 1 (rX (cI .u8) s0_0), .v (.int .i64 s0_1)])) w ro B) (stkAt [1, 1, 0, 1, 0] [] (bodyOf Tryd.f109) []) ⟨[(0, .pt 0 0 0), (1, .v (.int .i64 x1)), (2, .v (.int .i64 x2)), (7, .ow 1007 0), (13, .v (.int .i64 x13)), (14, .v (.int .i64 x14))], [(0, .box 0 129 true [.sl 1 (rX (cI .u8) s0_0), .v (.int .i64 x1001)]), (1007, .own 0 3 1 (rX (cI .i64) x7))]⟩ (RetQ TE Tryd.f109 (some (129, [.sl 1 (rX (cI .u8) s0_0), .v (.int .i64 s0_1)])) [.ro (.v (.string r1))] [.sl 1 (rX (cI .u8) s0_0), .v (.int .i64 r2)] w ro B))
set_option maxRecDepth 100000 in
set_option maxHeartbeats 4000000 in
theorem spec_l11Draw.c_l0 (k : Nat) (ih : Kp (∀ m, m < k → spec_l11Draw.C m)) (s0_0 : List Int) (s0_1 : Int) (r1 : ByteArray) (r2 : Int) (w : World) (ro : Nat → Prop) (B : Nat) (hF : Fr TE (cx0 Tryd.f109 (some (129, [.sl 1 (rX (cI .u8) s0_0), .v (.int .i64 s0_1)])) w ro B)) (x1 : Int) (x2 : Int) (x7 : List Int) (x13 : Int) (x14 : Int) (x1001 : Int) (h : spec_l11Draw.l0 k x1 x2 x7 x13 x14 s0_0 x1001 = some (r1, r2)) : Kp (WS TE (cx0 Tryd.f109 (some (129, [.sl 1 (rX (cI .u8) s0_0), .v (.int .i64 s0_1)])) w ro B) (stkAt [1, 1, 0, 1, 0] [] (bodyOf Tryd.f109) []) ⟨[(0, .pt 0 0 0), (1, .v (.int .i64 x1)), (2, .v (.int .i64 x2)), (7, .ow 1007 0), (13, .v (.int .i64 x13)), (14, .v (.int .i64 x14))], [(0, .box 0 129 true [.sl 1 (rX (cI .u8) s0_0), .v (.int .i64 x1001)]), (1007, .own 0 3 1 (rX (cI .i64) x7))]⟩ (RetQ TE Tryd.f109 (some (129, [.sl 1 (rX (cI .u8) s0_0), .v (.int .i64 s0_1)])) [.ro (.v (.string r1))] [.sl 1 (rX (cI .u8) s0_0), .v (.int .i64 r2)] w ro B)) := by
 refine ⟨WS.loop (fun m σ => m ≤ k ∧ spec_l11Draw.I0 s0_0 s0_1 r1 r2 m σ) k ⟨Nat.le_refl k, x1, x2, x7, x13, x14, x1001, h, rfl⟩ (fun m σ' hI J0 hJ0 => ?_)⟩
 clear h
 obtain ⟨hk, x1, x2, x7, x13, x14, x1001, h, rfl⟩ := hI
 cases m with
 | zero => simp [spec_l11Draw.l0] at h
 | succ k' =>
 simp only [spec_l11Draw.l0] at h
 by_cases c1 : x14 < x13
 · rw [if_pos c1] at h
   obtain ⟨⟨t374, t375⟩, q2, h⟩ := Option.bind_eq_some_iff.1 h
   dsimp only at h
   have q2c := spec_l13Rd_pick.ctr k' _ _ _ _ _ q2
   obtain ⟨⟨t379, t380⟩, q3, h⟩ := Option.bind_eq_some_iff.1 h
   dsimp only at h
   have q3c := spec_l13Rd_num.ctr k' _ _ _ _ _ q3
   by_cases c4 : x7.length < 17592186044416
   · rw [if_pos c4] at h
     refine path_ok (k := 10) hF (RetQ_mild _ _ _ _ _ _ _ _) (ds := [.b true, .r [.ro (.v (.int .i64 t374))] [.sl 1 (rX (cI .u8) s0_0), .v (.int .i64 t375)], .p 20 ([[.v (.int .i64 1)], [.v (.int .i64 0)], [.v (.int .i64 2)], [.v (.int .i64 3)], [.v (.int .i64 10006)], [.v (.int .i64 t374)]]), .r [.ro (.v (.int .i64 t379))] [.sl 1 (rX (cI .u8) s0_0), .v (.int .i64 t380)], .p 22 ([[.v (.int .i64 t379)]]), .o 23 (rX (cI .i64) (x7 ++ [t379]))]) (os := []) (c := none) rfl KD ?_
     exact WS.lpc [(0, some 0), (1007, some 1007)] (hJ0 _ _ (Nat.lt_succ_self _) ⟨by omega, x1, x2, (x7 ++ [t379]), x13, (wrap64 (x14 + 1)), t380, h, rfl⟩) KD
   · rw [if_neg c4] at h
     cases h
 · rw [if_neg c1] at h
   obtain ⟨⟨t387, t388⟩, q5, h⟩ := Option.bind_eq_some_iff.1 h
   dsimp only at h
   have q5c := spec_FillShape.ctr k' _ _ _ _ q5
   refine path_ok (k := 10) hF (RetQ_mild _ _ _ _ _ _ _ _) (ds := [.b false, .p 28 ([[.v (.int .i64 x1)], [.v (.int .i64 x2)]]), .r [.ro (.v (.string t387)), .ro (.v (.bool t388))] []]) (os := []) (c := none) rfl KD ?_
   cases h
   exact ret_as (ms := [.ro]) rfl KD
theorem spec_l11Draw.cs (k : Nat) : spec_l11Draw.C k := by
 induction k using Nat.strongRecOn with
 | _ k ih0 =>
 have ih : Kp (∀ m, m < k → spec_l11Draw.C m) := ⟨ih0⟩
 exact ⟨spec_l11Draw.c_l0 k ih⟩
set_option maxRecDepth 100000 in
set_option maxHeartbeats 4000000 in
theorem spec_l11Draw.ctr (k : Nat) (s0_0 : List Int) (s0_1 : Int) (a1 : Int) (a2 : Int) (r1 : ByteArray) (r2 : Int) (h : spec_l11Draw.f k s0_0 s0_1 a1 a2 = some (r1, r2)) : Ctr TE 109 (some (129, [.sl 1 (rX (cI .u8) s0_0), .v (.int .i64 s0_1)])) [.pt 0 0 0, .v (.int .i64 a1), .v (.int .i64 a2)] [.ro (.v (.string r1))] [.sl 1 (rX (cI .u8) s0_0), .v (.int .i64 r2)] := by
 refine ctr_of (fn := Tryd.f109) (c := (bodyOf Tryd.f109)) Tryd.func109 rfl (by kernel_rfl) (Nat.le_of_ble_eq_true (by kernel_rfl)) (fun w ro B hF _ => ?_)
 have ih : Kp (∀ m, m < k + 1 → spec_l11Draw.C m) := ⟨fun m _ => spec_l11Draw.cs m⟩
 simp only [spec_l11Draw.f] at h
 refine path_ok (k := 8) hF (RetQ_mild _ _ _ _ _ _ _ _) (ds := [.p 10 ([])]) (os := []) (c := none) rfl KD ?_
 exact WS.can [(0, some 0), (1007, some 10)] (((ih.out k (by omega)).s_l0 s0_0 s0_1 r1 r2 w ro B hF a1 a2 (([] : List Int)) (wrap64 (a1 * a2)) 0 s0_1 h).out) KD
def spec_DrawReshapeArray.f (k : Nat) (l0 : List Int) : Option (ByteArray × Int × List Int) := (spec_l13Open.f l0).bind fun bt389 => ((spec_l13Rd_pick.f k bt389.1 bt389.2 4).bind fun bt392 => ((spec_l13Rd_pick.f k bt389.1 bt392.2 4).bind fun bt394 => ((spec_l11Draw.f k bt389.1 bt394.2 bt392.1 bt394.1).bind fun bt396 => ((some (([(([bt394.1, bt392.1] : List Int)), (([wrap64 (bt392.1 * bt394.1)] : List Int)), (([1, bt392.1, bt394.1] : List Int)), (([bt392.1, bt394.1, 2] : List Int)), (([] : List Int)), (([bt392.1, (-1)] : List Int))] : List (List Int)) : List (List Int))).bind fun y416 => ((spec_l13Rd_pick.f k bt389.1 bt396.2 6).bind fun bt419 => (if 0 ≤ bt419.1 then (if bt419.1 < (y416.length : Int) then (some (bt396.1, 2, rd_L5 y416 bt419.1)) else (none)) else (none)))))))
set_option maxRecDepth 100000 in
set_option maxHeartbeats 4000000 in
theorem spec_DrawReshapeArray.ctr (k : Nat) (l0 : List Int) (r1 : ByteArray) (r2 : Int) (r3 : List Int) (h : spec_DrawReshapeArray.f k l0 = some (r1, r2, r3)) : Ctr TE 64 none [.sl 1 (rX (cI .u8) l0)] [.ro (.v (.string r1)), .ro (.v (.int .i64 r2)), .ro (.sl 1 (rX (cI .i64) r3))] [] := by
 refine ctr_of (fn := Tryd.f64) (c := (bodyOf Tryd.f64)) Tryd.func64 rfl (by kernel_rfl) (Nat.le_of_ble_eq_true (by kernel_rfl)) (fun w ro B hF _ => ?_)
 simp only [spec_DrawReshapeArray.f] at h
 obtain ⟨⟨t389, t390⟩, q1, h⟩ := Option.bind_eq_some_iff.1 h
 dsimp only at h
 have q1c := spec_l13Open.ctr _ _ _ q1
 obtain ⟨⟨t392, t393⟩, q2, h⟩ := Option.bind_eq_some_iff.1 h
 dsimp only at h
 have q2c := spec_l13Rd_pick.ctr k _ _ _ _ _ q2
 obtain ⟨⟨t394, t395⟩, q3, h⟩ := Option.bind_eq_some_iff.1 h
 dsimp only at h
 have q3c := spec_l13Rd_pick.ctr k _ _ _ _ _ q3
 obtain ⟨⟨t396, t397⟩, q4, h⟩ := Option.bind_eq_some_iff.1 h
 dsimp only at h
 have q4c := spec_l11Draw.ctr k _ _ _ _ _ _ q4
 obtain ⟨y416, hy416, h⟩ := Option.bind_eq_some_iff.1 h
 cases hy416
 obtain ⟨⟨t419, t420⟩, q5, h⟩ := Option.bind_eq_some_iff.1 h
 dsimp only at h
 have q5c := spec_l13Rd_pick.ctr k _ _ _ _ _ q5
 by_cases c6 : 0 ≤ t419
 · rw [if_pos c6] at h
   by_cases c7 : t419 < ((([(([t394, t392] : List Int)), (([wrap64 (t392 * t394)] : List Int)), (([1, t392, t394] : List Int)), (([t392, t394, 2] : List Int)), (([] : List Int)), (([t392, (-1)] : List Int))] : List (List Int))).length : Int)
   · rw [if_pos c7] at h
     refine path_ok (k := 11) hF (RetQ_mild _ _ _ _ _ _ _ _) (ds := [.r [.nb 129 [.sl 1 (rX (cI .u8) t389), .v (.int .i64 t390)]] [], .r [.ro (.v (.int .i64 t392))] [.sl 1 (rX (cI .u8) t389), .v (.int .i64 t393)], .r [.ro (.v (.int .i64 t394))] [.sl 1 (rX (cI .u8) t389), .v (.int .i64 t395)], .r [.ro (.v (.string t396))] [.sl 1 (rX (cI .u8) t389), .v (.int .i64 t397)]]) (os := [.p 33554431 [⟨0, 25, true, [0]⟩, ⟨1, 24, true, [1]⟩, ⟨3, 23, true, [2]⟩, ⟨7, 22, true, [4]⟩, ⟨23, 21, true, [5]⟩, ⟨55, 20, true, [6]⟩, ⟨119, 19, true, [8]⟩, ⟨375, 18, true, [9]⟩, ⟨887, 17, true, [11]⟩, ⟨2935, 16, true, [12]⟩, ⟨7031, 15, true, [15]⟩, ⟨39799, 14, true, [18]⟩, ⟨301943, 13, false, [3, 7, 10, 13, 14, 16, 19]⟩, ⟨301951, 12, false, [7, 10, 13, 14, 16, 19]⟩, ⟨302071, 12, false, [3, 10, 13, 14, 16, 19]⟩, ⟨302967, 12, false, [3, 7, 13, 14, 16, 19]⟩, ⟨310135, 12, false, [3, 7, 10, 14, 16, 19]⟩, ⟨318327, 12, false, [3, 7, 10, 13, 16, 19]⟩, ⟨367479, 12, false, [3, 7, 10, 13, 14, 19]⟩, ⟨826231, 12, true, [22]⟩, ⟨302079, 11, false, [10, 13, 14, 16, 19]⟩, ⟨302975, 11, false, [7, 13, 14, 16, 19]⟩, ⟨310143, 11, false, [7, 10, 14, 16, 19]⟩, ⟨318335, 11, false, [7, 10, 13, 16, 19]⟩, ⟨367487, 11, false, [7, 10, 13, 14, 19]⟩, ⟨826239, 11, true, [22]⟩, ⟨303095, 11, false, [3, 13, 14, 16, 19]⟩, ⟨310263, 11, false, [3, 10, 14, 16, 19]⟩, ⟨318455, 11, false, [3, 10, 13, 16, 19]⟩, ⟨367607, 11, false, [3, 10, 13, 14, 19]⟩, ⟨826359, 11, true, [22]⟩, ⟨311159, 11, false, [3, 7, 14, 16, 19]⟩, ⟨319351, 11, false, [3, 7, 13, 16, 19]⟩, ⟨368503, 11, false, [3, 7, 13, 14, 19]⟩, ⟨827255, 11, true, [22]⟩, ⟨326519, 11, false, [3, 7, 10, 16, 19]⟩, ⟨375671, 11, false, [3, 7, 10, 14, 19]⟩, ⟨834423, 11, true, [22]⟩, ⟨383863, 11, false, [3, 7, 10, 13, 19]⟩, ⟨842615, 11, true, [22]⟩, ⟨891767, 11, true, [22]⟩, ⟨5020535, 11, true, [23]⟩, ⟨303103, 10, false, [13, 14, 16, 19]⟩, ⟨310271, 10, false, [10, 14, 16, 19]⟩, ⟨318463, 10, false, [10, 13, 16, 19]⟩, ⟨367615, 10, false, [10, 13, 14, 19]⟩, ⟨826367, 10, true, [22]⟩, ⟨311167, 10, false, [7, 14, 16, 19]⟩, ⟨319359, 10, false, [7, 13, 16, 19]⟩, ⟨368511, 10, false, [7, 13, 14, 19]⟩, ⟨827263, 10, true, [22]⟩, ⟨326527, 10, false, [7, 10, 16, 19]⟩, ⟨375679, 10, false, [7, 10, 14, 19]⟩, ⟨834431, 10, true, [22]⟩, ⟨383871, 10, false, [7, 10, 13, 19]⟩, ⟨842623, 10, true, [22]⟩, ⟨891775, 10, true, [22]⟩, ⟨5020543, 10, true, [23]⟩, ⟨311287, 10, false, [3, 14, 16, 19]⟩, ⟨319479, 10, false, [3, 13, 16, 19]⟩, ⟨368631, 10, false, [3, 13, 14, 19]⟩, ⟨827383, 10, true, [22]⟩, ⟨326647, 10, false, [3, 10, 16, 19]⟩, ⟨375799, 10, false, [3, 10, 14, 19]⟩, ⟨834551, 10, true, [22]⟩, ⟨383991, 10, false, [3, 10, 13, 19]⟩, ⟨842743, 10, true, [22]⟩, ⟨891895, 10, true, [22]⟩, ⟨5020663, 10, true, [23]⟩, ⟨327543, 10, false, [3, 7, 16, 19]⟩, ⟨376695, 10, false, [3, 7, 14, 19]⟩, ⟨835447, 10, true, [22]⟩, ⟨384887, 10, false, [3, 7, 13, 19]⟩, ⟨843639, 10, true, [22]⟩, ⟨892791, 10, true, [22]⟩, ⟨5021559, 10, true, [23]⟩, ⟨392055, 10, false, [3, 7, 10, 19]⟩, ⟨850807, 10, true, [22]⟩, ⟨899959, 10, true, [22]⟩, ⟨5028727, 10, true, [23]⟩, ⟨908151, 10, true, [22]⟩, ⟨5036919, 10, true, [23]⟩, ⟨5086071, 10, true, [23]⟩, ⟨13409143, 10, false, [3, 7, 10, 13, 14, 16]⟩, ⟨311295, 9, false, [14, 16, 19]⟩, ⟨319487, 9, false, [13, 16, 19]⟩, ⟨368639, 9, false, [13, 14, 19]⟩, ⟨827391, 9, true, [22]⟩, ⟨326655, 9, false, [10, 16, 19]⟩, ⟨375807, 9, false, [10, 14, 19]⟩, ⟨834559, 9, true, [22]⟩, ⟨383999, 9, false, [10, 13, 19]⟩, ⟨842751, 9, true, [22]⟩, ⟨891903, 9, true, [22]⟩, ⟨5020671, 9, true, [23]⟩, ⟨327551, 9, false, [7, 16, 19]⟩, ⟨376703, 9, false, [7, 14, 19]⟩, ⟨835455, 9, true, [22]⟩, ⟨384895, 9, false, [7, 13, 19]⟩, ⟨843647, 9, true, [22]⟩, ⟨892799, 9, true, [22]⟩, ⟨5021567, 9, true, [23]⟩, ⟨392063, 9, false, [7, 10, 19]⟩, ⟨850815, 9, true, [22]⟩, ⟨899967, 9, true, [22]⟩, ⟨5028735, 9, true, [23]⟩, ⟨908159, 9, true, [22]⟩, ⟨5036927, 9, true, [23]⟩, ⟨5086079, 9, true, [23]⟩, ⟨13409151, 9, false, [7, 10, 13, 14, 16]⟩, ⟨327671, 9, false, [3, 16, 19]⟩, ⟨376823, 9, false, [3, 14, 19]⟩, ⟨835575, 9, true, [22]⟩, ⟨385015, 9, false, [3, 13, 19]⟩, ⟨843767, 9, true, [22]⟩, ⟨892919, 9, true, [22]⟩, ⟨5021687, 9, true, [23]⟩, ⟨392183, 9, false, [3, 10, 19]⟩, ⟨850935, 9, true, [22]⟩, ⟨900087, 9, true, [22]⟩, ⟨5028855, 9, true, [23]⟩, ⟨908279, 9, true, [22]⟩, ⟨5037047, 9, true, [23]⟩, ⟨5086199, 9, true, [23]⟩, ⟨13409271, 9, false, [3, 10, 13, 14, 16]⟩, ⟨393079, 9, false, [3, 7, 19]⟩, ⟨851831, 9, true, [22]⟩, ⟨900983, 9, true, [22]⟩, ⟨5029751, 9, true, [23]⟩, ⟨909175, 9, true, [22]⟩, ⟨5037943, 9, true, [23]⟩, ⟨5087095, 9, true, [23]⟩, ⟨13410167, 9, false, [3, 7, 13, 14, 16]⟩, ⟨916343, 9, true, [22]⟩, ⟨5045111, 9, true, [23]⟩, ⟨5094263, 9, true, [23]⟩, ⟨13417335, 9, false, [3, 7, 10, 14, 16]⟩, ⟨5102455, 9, true, [23]⟩, ⟨13425527, 9, false, [3, 7, 10, 13, 16]⟩, ⟨13474679, 9, false, [3, 7, 10, 13, 14]⟩, ⟨327679, 8, false, [16, 19]⟩, ⟨376831, 8, false, [14, 19]⟩, ⟨835583, 8, true, [22]⟩, ⟨385023, 8, false, [13, 19]⟩, ⟨843775, 8, true, [22]⟩, ⟨892927, 8, true, [22]⟩, ⟨5021695, 8, true, [23]⟩, ⟨392191, 8, false, [10, 19]⟩, ⟨850943, 8, true, [22]⟩, ⟨900095, 8, true, [22]⟩, ⟨5028863, 8, true, [23]⟩, ⟨908287, 8, true, [22]⟩, ⟨5037055, 8, true, [23]⟩, ⟨5086207, 8, true, [23]⟩, ⟨13409279, 8, false, [10, 13, 14, 16]⟩, ⟨393087, 8, false, [7, 19]⟩, ⟨851839, 8, true, [22]⟩, ⟨900991, 8, true, [22]⟩, ⟨5029759, 8, true, [23]⟩, ⟨909183, 8, true, [22]⟩, ⟨5037951, 8, true, [23]⟩, ⟨5087103, 8, true, [23]⟩, ⟨13410175, 8, false, [7, 13, 14, 16]⟩, ⟨916351, 8, true, [22]⟩, ⟨5045119, 8, true, [23]⟩, ⟨5094271, 8, true, [23]⟩, ⟨13417343, 8, false, [7, 10, 14, 16]⟩, ⟨5102463, 8, true, [23]⟩, ⟨13425535, 8, false, [7, 10, 13, 16]⟩, ⟨13474687, 8, false, [7, 10, 13, 14]⟩, ⟨393207, 8, false, [3, 19]⟩, ⟨851959, 8, true, [22]⟩, ⟨901111, 8, true, [22]⟩, ⟨5029879, 8, true, [23]⟩, ⟨909303, 8, true, [22]⟩, ⟨5038071, 8, true, [23]⟩, ⟨5087223, 8, true, [23]⟩, ⟨13410295, 8, false, [3, 13, 14, 16]⟩, ⟨916471, 8, true, [22]⟩, ⟨5045239, 8, true, [23]⟩, ⟨5094391, 8, true, [23]⟩, ⟨13417463, 8, false, [3, 10, 14, 16]⟩, ⟨5102583, 8, true, [23]⟩, ⟨13425655, 8, false, [3, 10, 13, 16]⟩, ⟨13474807, 8, false, [3, 10, 13, 14]⟩, ⟨917367, 8, true, [22]⟩, ⟨5046135, 8, true, [23]⟩, ⟨5095287, 8, true, [23]⟩, ⟨13418359, 8, false, [3, 7, 14, 16]⟩, ⟨5103479, 8, true, [23]⟩, ⟨13426551, 8, false, [3, 7, 13, 16]⟩, ⟨13475703, 8, false, [3, 7, 13, 14]⟩, ⟨5110647, 8, true, [23]⟩, ⟨13433719, 8, false, [3, 7, 10, 16]⟩, ⟨13482871, 8, false, [3, 7, 10, 14]⟩, ⟨13491063, 8, false, [3, 7, 10, 13]⟩, ⟨393215, 7, false, [17, 19]⟩, ⟨851967, 7, true, [22]⟩, ⟨901119, 7, true, [22]⟩, ⟨5029887, 7, true, [23]⟩, ⟨909311, 7, true, [22]⟩, ⟨5038079, 7, true, [23]⟩, ⟨5087231, 7, true, [23]⟩, ⟨13410303, 7, false, [13, 14, 16]⟩, ⟨916479, 7, true, [22]⟩, ⟨5045247, 7, true, [23]⟩, ⟨5094399, 7, true, [23]⟩, ⟨13417471, 7, false, [10, 14, 16]⟩, ⟨5102591, 7, true, [23]⟩, ⟨13425663, 7, false, [10, 13, 16]⟩, ⟨13474815, 7, false, [10, 13, 14]⟩, ⟨917375, 7, true, [22]⟩, ⟨5046143, 7, true, [23]⟩, ⟨5095295, 7, true, [23]⟩, ⟨13418367, 7, false, [7, 14, 16]⟩, ⟨5103487, 7, true, [23]⟩, ⟨13426559, 7, false, [7, 13, 16]⟩, ⟨13475711, 7, false, [7, 13, 14]⟩, ⟨5110655, 7, true, [23]⟩, ⟨13433727, 7, false, [7, 10, 16]⟩, ⟨13482879, 7, false, [7, 10, 14]⟩, ⟨13491071, 7, false, [7, 10, 13]⟩, ⟨917495, 7, true, [22]⟩, ⟨5046263, 7, true, [23]⟩, ⟨5095415, 7, true, [23]⟩, ⟨13418487, 7, false, [3, 14, 16]⟩, ⟨5103607, 7, true, [23]⟩, ⟨13426679, 7, false, [3, 13, 16]⟩, ⟨13475831, 7, false, [3, 13, 14]⟩, ⟨5110775, 7, true, [23]⟩, ⟨13433847, 7, false, [3, 10, 16]⟩, ⟨13482999, 7, false, [3, 10, 14]⟩, ⟨13491191, 7, false, [3, 10, 13]⟩, ⟨5111671, 7, true, [23]⟩, ⟨13434743, 7, false, [3, 7, 16]⟩, ⟨13483895, 7, false, [3, 7, 14]⟩, ⟨13492087, 7, false, [3, 7, 13]⟩, ⟨13499255, 7, false, [3, 7, 10]⟩, ⟨524287, 6, false, [19]⟩, ⟨917503, 6, true, [22]⟩, ⟨5046271, 6, true, [23]⟩, ⟨5095423, 6, true, [23]⟩, ⟨13418495, 6, false, [14, 16]⟩, ⟨5103615, 6, true, [23]⟩, ⟨13426687, 6, false, [13, 16]⟩, ⟨13475839, 6, false, [13, 14]⟩, ⟨5110783, 6, true, [23]⟩, ⟨13433855, 6, false, [10, 16]⟩, ⟨13483007, 6, false, [10, 14]⟩, ⟨13491199, 6, false, [10, 13]⟩, ⟨5111679, 6, true, [23]⟩, ⟨13434751, 6, false, [7, 16]⟩, ⟨13483903, 6, false, [7, 14]⟩, ⟨13492095, 6, false, [7, 13]⟩, ⟨13499263, 6, false, [7, 10]⟩, ⟨5111799, 6, true, [23]⟩, ⟨13434871, 6, false, [3, 16]⟩, ⟨13484023, 6, false, [3, 14]⟩, ⟨13492215, 6, false, [3, 13]⟩, ⟨13499383, 6, false, [3, 10]⟩, ⟨13500279, 6, false, [3, 7]⟩, ⟨1048575, 5, true, [20]⟩, ⟨5111807, 5, true, [23]⟩, ⟨13434879, 5, false, [16]⟩, ⟨13484031, 5, false, [14]⟩, ⟨13492223, 5, false, [13]⟩, ⟨13499391, 5, false, [10]⟩, ⟨13500287, 5, false, [7]⟩, ⟨13500407, 5, false, [3]⟩, ⟨2097151, 4, true, [22]⟩, ⟨13500415, 4, false, [17]⟩, ⟨6291455, 3, true, [23]⟩, ⟨13631487, 3, true, [20]⟩, ⟨14680063, 2, false, [21]⟩, ⟨16777215, 1, true, [24]⟩] [(0, true), (1, true), (2, true), (4, true), (5, true), (6, true), (8, true), (9, true), (11, true), (12, true), (15, true), (18, true), (3, false), (7, false), (10, false), (13, false), (14, false), (16, false), (17, false), (19, false), (20, true), (22, true), (23, true), (21, false), (24, true)] [(3, [.p 22 ([[.v (.int .i64 t394)], [.v (.int .i64 t392)]])]), (7, [.p 26 ([[.v (.int .i64 (wrap64 (t392 * t394)))]])]), (10, [.p 29 ([[.v (.int .i64 1)], [.v (.int .i64 t392)], [.v (.int .i64 t394)]])]), (13, [.p 32 ([[.v (.int .i64 t392)], [.v (.int .i64 t394)], [.v (.int .i64 2)]])]), (14, [.p 33 ([])]), (16, [.p 35 ([[.v (.int .i64 t392)], [.v (.int .i64 (-1))]])]), (17, [.p 36 ([[.sl 1 (rX (cI .i64) (([t394, t392] : List Int)))], [.sl 1 (rX (cI .i64) (([wrap64 (t392 * t394)] : List Int)))], [.sl 1 (rX (cI .i64) (([1, t392, t394] : List Int)))], [.sl 1 (rX (cI .i64) (([t392, t394, 2] : List Int)))], [.sl 1 (rX (cI .i64) (([] : List Int)))], [.sl 1 (rX (cI .i64) (([t392, (-1)] : List Int)))]])]), (19, [.r [.ro (.v (.int .i64 t419))] [.sl 1 (rX (cI .u8) t389), .v (.int .i64 t420)]]), (21, [.g [.sl 1 (rX (cI .i64) (rd_L5 (([(([t394, t392] : List Int)), (([wrap64 (t392 * t394)] : List Int)), (([1, t392, t394] : List Int)), (([t392, t394, 2] : List Int)), (([] : List Int)), (([t392, (-1)] : List Int))] : List (List Int))) t419))]])]]) (c := none) rfl KD ?_
     cases h
     exact ret_as (ms := [.ro, .ro, .ro]) rfl KD
   · rw [if_neg c7] at h
     cases h
 · rw [if_neg c6] at h
   cases h
mutual
def impl_shapeOf.l0 : Nat → List Int → List (List Int) → Int → Int → Option (List Int × Bool)
  | 0, _, _, _, _ => none
  | k + 1, x6, x17, x18, x19 => if x19 < x18 then (if 0 ≤ x19 then (if x19 < (x17.length : Int) then (impl_shapeOf.l1 k x6 0 x17 x18 x19 (rd_L5 x17 x19) ((rd_L5 x17 x19).length : Int) 0) else (none)) else (none)) else (some (x6, true))
def impl_shapeOf.l1 : Nat → List Int → Int → List (List Int) → Int → Int → List Int → Int → Int → Option (List Int × Bool)
  | 0, _, _, _, _, _, _, _, _ => none
  | k + 1, x6, x9, x17, x18, x19, x23, x24, x25 => if x25 < x24 then (if 0 ≤ x25 then (if x25 < (x23.length : Int) then (if x25 > 0 then (if (rd x23 x25) = x9 then (impl_shapeOf.l1 k x6 (rd x23 x25) x17 x18 x19 x23 x24 (wrap64 (x25 + 1))) else (some (([] : List Int), false))) else (impl_shapeOf.l1 k x6 (rd x23 x25) x17 x18 x19 x23 x24 (wrap64 (x25 + 1)))) else (none)) else (none)) else (if x6.length < 17592186044416 then (impl_shapeOf.l0 k (x6 ++ [x9]) x17 x18 (wrap64 (x19 + 1))) else (none))
end
def impl_shapeOf.f (k : Nat) (a0_0 : Int) (l0_1 : List (S84)) (a1 : Int) : Option (List Int × Bool) := (impl_laid.f k (([(⟨a0_0, l0_1⟩ : S84)] : List (S84))) a1).bind fun bt429 => (impl_shapeOf.l0 k (([] : List Int)) bt429.1 (bt429.1.length : Int) 0)
def impl_shapeOf.I0 (r1 : List Int) (r2 : Bool) (m : Nat) (σ : St) : Prop := ∃ (x6 : List Int) (x17 : List (List Int)) (x18 : Int) (x19 : Int), impl_shapeOf.l0 m x6 x17 x18 x19 = some (r1, r2) ∧ σ = ⟨[(6, .ow 1006 0), (17, .sl 1 (rX (cL (cI .i64) 1) x17)), (18, .v (.int .i64 x18)), (19, .v (.int .i64 x19))], [(1006, .own 0 3 1 (rX (cI .i64) x6))]⟩
def impl_shapeOf.I1 (r1 : List Int) (r2 : Bool) (m : Nat) (σ : St) : Prop := ∃ (x6 : List Int) (x9 : Int) (x17 : List (List Int)) (x18 : Int) (x19 : Int) (x23 : List Int) (x24 : Int) (x25 : Int), impl_shapeOf.l1 m x6 x9 x17 x18 x19 x23 x24 x25 = some (r1, r2) ∧ σ = ⟨[(6, .ow 1006 0), (9, .v (.int .i64 x9)), (17, .sl 1 (rX (cL (cI .i64) 1) x17)), (18, .v (.int .i64 x18)), (19, .v (.int .i64 x19)), (23, .sl 1 (rX (cI .i64) x23)), (24, .v (.int .i64 x24)), (25, .v (.int .i64 x25))], [(1006, .own 0 3 1 (rX (cI .i64) x6))]⟩
structure impl_shapeOf.C (k : Nat) : Prop where
 s_l0 : ∀ (r1 : List Int) (r2 : Bool) (w : World) (ro : Nat → Prop) (B : Nat) (_ : Fr TE (cx0 Tryd.f110 none w ro B)) (x6 : List Int) (x17 : List (List Int)) (x18 : Int) (x19 : Int) (_ : impl_shapeOf.l0 k x6 x17 x18 x19 = some (r1, r2)), Kp (WS TE (cx0 Tryd.f110 none w ro B) (stkAt [1, 1, 0, 1, 0] [] (bodyOf Tryd.f110) []) ⟨[(6, .ow 1006 0), (17, .sl 1 (rX (cL (cI .i64) 1) x17)), (18, .v (.int .i64 x18)), (19, .v (.int .i64 x19))], [(1006, .own 0 3 1 (rX (cI .i64) x6))]⟩ (RetQ TE Tryd.f110 none [.own 3 1 (rX (cI .i64) r1), .ro (.v (.bool r2))] [] w ro B))
 s_l1 : ∀ (r1 : List Int) (r2 : Bool) (w : World) (ro : Nat → Prop) (B : Nat) (_ : Fr TE (cx0 Tryd.f110 none w ro B)) (J0 : St → Prop) (_ : ∀ m σ, m ≤ k → impl_shapeOf.I0 r1 r2 m σ → J0 σ) (x6 : List Int) (x9 : Int) (x17 : List (List Int)) (x18 : Int) (x19 : Int) (x23 : List Int) (x24 : Int) (x25 : Int) (_ : impl_shapeOf.l1 k x6 x9 x17 x18 x19 x23 x24 x25 = some (r1, r2)), Kp (WS TE (cx0 Tryd.f110 none w ro B) (stkAt [1, 1, 0, 1, 0, 0, 1, 1, 0, 0, 1, 1, 0, 1, 0] [J0] (bodyOf Tryd.f110) []) ⟨[(6, .ow 1006 0), (9, .v (.int .i64 x9)), (17, .sl 1 (rX (cL (cI .i64) 1) x17)), (18, .v (.int .i64 x18)), (19, .v (.int .i64 x19)), (23, .sl 1 (rX (cI .i64) x23)), (24, .v (.int .i64 x24)), (25, .v (.int .i64 x25))], [(1006, .own 0 3 1 (rX (cI .i64) x6))]⟩ (RetQ TE Tryd.f110 none [.own 3 1 (rX (cI .i64) r1), .ro (.v (.bool r2))] [] w ro B))
set_option maxRecDepth 100000 in
set_option maxHeartbeats 4000000 in
theorem impl_shapeOf.c_l0 (k : Nat) (ih : Kp (∀ m, m < k → impl_shapeOf.C m)) (r1 : List Int) (r2 : Bool) (w : World) (ro : Nat → Prop) (B : Nat) (hF : Fr TE (cx0 Tryd.f110 none w ro B)) (x6 : List Int) (x17 : List (List Int)) (x18 : Int) (x19 : Int) (h : impl_shapeOf.l0 k x6 x17 x18 x19 = some (r1, r2)) : Kp (WS TE (cx0 Tryd.f110 none w ro B) (stkAt [1, 1, 0, 1, 0] [] (bodyOf Tryd.f110) []) ⟨[(6, .ow 1006 0), (17, .sl 1 (rX (cL (cI .i64) 1) x17)), (18, .v (.int .i64 x18)), (19, .v (.int .i64 x19))], [(1006, .own 0 3 1 (rX (cI .i64) x6))]⟩ (RetQ TE Tryd.f110 none [.own 3 1 (rX (cI .i64) r1), .ro (.v (.bool r2))] [] w ro B)) := by
 refine ⟨WS.loop (fun m σ => m ≤ k ∧ impl_shapeOf.I0 r1 r2 m σ) k ⟨Nat.le_refl k, x6, x17, x18, x19, h, rfl⟩ (fun m σ' hI J0 hJ0 => ?_)⟩
 clear h
 obtain ⟨hk, x6, x17, x18, x19, h, rfl⟩ := hI
 cases m with
 | zero => simp [impl_shapeOf.l0] at h
 | succ k' =>
 simp only [impl_shapeOf.l0] at h
 by_cases c2 : x19 < x18
 · rw [if_pos c2] at h
   by_cases c3 : 0 ≤ x19
   · rw [if_pos c3] at h
     by_cases c4 : x19 < (x17.length : Int)
     · rw [if_pos c4] at h
       refine path_ok (k := 15) hF (RetQ_mild _ _ _ _ _ _ _ _) (ds := [.b true, .e 21 (.rf [.sl 1 (rX (cI .i64) (rd_L5 x17 x19))]), .e 24 (.v (.int .i64 ((rd_L5 x17 x19).length : Int)))]) (os := []) (c := none) rfl KD ?_
       exact WS.can [(1006, some 1006)] (((ih.out k' (by omega)).s_l1  r1 r2 w ro B hF J0 (fun m σ hm hI => hJ0 m σ (by omega) ⟨by omega, hI⟩) x6 0 x17 x18 x19 (rd_L5 x17 x19) ((rd_L5 x17 x19).length : Int) 0 h).out) KD
     · rw [if_neg c4] at h
       cases h
   · rw [if_neg c3] at h
     cases h
 · rw [if_neg c2] at h
   refine path_ok (k := 8) hF (RetQ_mild _ _ _ _ _ _ _ _) (ds := [.b false]) (os := []) (c := none) rfl KD ?_
   cases h
   exact ret_as (ms := [.own, .ro]) rfl KD
set_option maxRecDepth 100000 in
set_option maxHeartbeats 4000000 in
theorem impl_shapeOf.c_l1 (k : Nat) (ih : Kp (∀ m, m < k → impl_shapeOf.C m)) (r1 : List Int) (r2 : Bool) (w : World) (ro : Nat → Prop) (B : Nat) (hF : Fr TE (cx0 Tryd.f110 none w ro B)) (J0 : St → Prop) (hJ0 : ∀ m σ, m ≤ k → impl_shapeOf.I0 r1 r2 m σ → J0 σ) (x6 : List Int) (x9 : Int) (x17 : List (List Int)) (x18 : Int) (x19 : Int) (x23 : List Int) (x24 : Int) (x25 : Int) (h : impl_shapeOf.l1 k x6 x9 x17 x18 x19 x23 x24 x25 = some (r1, r2)) : Kp (WS TE (cx0 Tryd.f110 none w ro B) (stkAt [1, 1, 0, 1, 0, 0, 1, 1, 0, 0, 1, 1, 0, 1, 0] [J0] (bodyOf Tryd.f110) []) ⟨[(6, .ow 1006 0), (9, .v (.int .i64 x9)), (17, .sl 1 (rX (cL (cI .i64) 1) x17)), (18, .v (.int .i64 x18)), (19, .v (.int .i64 x19)), (23, .sl 1 (rX (cI .i64) x23)), (24, .v (.int .i64 x24)), (25, .v (.int .i64 x25))], [(1006, .own 0 3 1 (rX (cI .i64) x6))]⟩ (RetQ TE Tryd.f110 none [.own 3 1 (rX (cI .i64) r1), .ro (.v (.bool r2))] [] w ro B)) := by
 refine ⟨WS.loop (fun m σ => m ≤ k ∧ impl_shapeOf.I1 r1 r2 m σ) k ⟨Nat.le_refl k, x6, x9, x17, x18, x19, x23, x24, x25, h, rfl⟩ (fun m σ' hI J1 hJ1 => ?_)⟩
 clear h
 obtain ⟨hk, x6, x9, x17, x18, x19, x23, x24, x25, h, rfl⟩ := hI
 cases m with
 | zero => simp [impl_shapeOf.l1] at h
 | succ k' =>
 simp only [impl_shapeOf.l1] at h
 by_cases c5 : x25 < x24
 · rw [if_pos c5] at h
   by_cases c6 : 0 ≤ x25
   · rw [if_pos c6] at h
     by_cases c7 : x25 < (x23.length : Int)
     · rw [if_pos c7] at h
       by_cases c8 : x25 > 0
       · rw [if_pos c8] at h
         by_cases c9 : (rd x23 x25) = x9
         · rw [if_pos c9] at h
           refine path_ok (k := 17) hF (RetQ_mild _ _ _ _ _ _ _ _) (ds := [.b true, .e 28 (.rf [.v (.int .i64 (rd x23 x25))]), .b true, .b true, .b true, .b true, .b false]) (os := []) (c := none) rfl KD ?_
           exact WS.lpc [(1006, some 1006)] (hJ1 _ _ (Nat.lt_succ_self _) ⟨by omega, x6, (rd x23 x25), x17, x18, x19, x23, x24, (wrap64 (x25 + 1)), h, rfl⟩) KD
         · rw [if_neg c9] at h
           refine path_ok (k := 16) hF (RetQ_mild _ _ _ _ _ _ _ _) (ds := [.b true, .e 28 (.rf [.v (.int .i64 (rd x23 x25))]), .b true, .b true, .b true, .b true, .b true]) (os := []) (c := none) rfl KD ?_
           cases h
           exact ret_as (ms := [.nil 3 1, .ro]) rfl KD
       · rw [if_neg c8] at h
         refine path_ok (k := 17) hF (RetQ_mild _ _ _ _ _ _ _ _) (ds := [.b true, .e 28 (.rf [.v (.int .i64 (rd x23 x25))]), .b false, .b false, .b false, .b false, .b false]) (os := []) (c := none) rfl KD ?_
         exact WS.lpc [(1006, some 1006)] (hJ1 _ _ (Nat.lt_succ_self _) ⟨by omega, x6, (rd x23 x25), x17, x18, x19, x23, x24, (wrap64 (x25 + 1)), h, rfl⟩) KD
     · rw [if_neg c7] at h
       cases h
   · rw [if_neg c6] at h
     cases h
 · rw [if_neg c5] at h
   by_cases c10 : x6.length < 17592186044416
   · rw [if_pos c10] at h
     refine path_ok (k := 8) hF (RetQ_mild _ _ _ _ _ _ _ _) (ds := [.b false, .p 41 ([[.v (.int .i64 x9)]]), .o 42 (rX (cI .i64) (x6 ++ [x9]))]) (os := []) (c := none) rfl KD ?_
     exact WS.lpc [(1006, some 1006)] (hJ0 _ _ (by omega) ⟨(x6 ++ [x9]), x17, x18, (wrap64 (x19 + 1)), h, rfl⟩) KD
   · rw [if_neg c10] at h
     cases h
theorem impl_shapeOf.cs (k : Nat) : impl_shapeOf.C k := by
 induction k using Nat.strongRecOn with
 | _ k ih0 =>
 have ih : Kp (∀ m, m < k → impl_shapeOf.C m) := ⟨ih0⟩
 exact ⟨impl_shapeOf.c_l0 k ih, impl_shapeOf.c_l1 k ih⟩
set_option maxRecDepth 100000 in
set_option maxHeartbeats 4000000 in
theorem impl_shapeOf.ctr (k : Nat) (a0_0 : Int) (l0_1 : List (S84)) (a1 : Int) (r1 : List Int) (r2 : Bool) (h : impl_shapeOf.f k a0_0 l0_1 a1 = some (r1, r2)) : Ctr TE 110 none [.ag [.v (.int .i64 a0_0), .sl 2 (r84 l0_1)], .v (.int .i64 a1)] [.own 3 1 (rX (cI .i64) r1), .ro (.v (.bool r2))] [] := by
 refine ctr_of (fn := Tryd.f110) (c := (bodyOf Tryd.f110)) Tryd.func110 rfl (by kernel_rfl) (Nat.le_of_ble_eq_true (by kernel_rfl)) (fun w ro B hF _ => ?_)
 have ih : Kp (∀ m, m < k + 1 → impl_shapeOf.C m) := ⟨fun m _ => impl_shapeOf.cs m⟩
 simp only [impl_shapeOf.f] at h
 obtain ⟨⟨t429, t432⟩, q1, h⟩ := Option.bind_eq_some_iff.1 h
 dsimp only at h
 have q1c := impl_laid.ctr k _ _ _ _ q1
 refine path_ok (k := 8) hF (RetQ_mild _ _ _ _ _ _ _ _) (ds := [.p 12 ([]), .p 14 ([[.v (.int .i64 a0_0), .sl 2 (r84 l0_1)]]), .r [.ro (.ag [.sl 1 (rX (cL (cI .i64) 1) t429), .sl 1 (rX (cI .i64) t432)])] [], .e 18 (.v (.int .i64 (t429.length : Int)))]) (os := []) (c := none) rfl KD ?_
 exact WS.can [(1006, some 12)] (((ih.out k (by omega)).s_l0  r1 r2 w ro B hF (([] : List Int)) t429 (t429.length : Int) 0 h).out) KD
def impl_ShapeOf.f (k : Nat) (a0 : ByteArray) (a1 : Int) : Option (List Int × Bool) := (impl_arrOf.f k a0 a1).bind fun bt440 => (if bt440.2.2 = true then ((impl_shapeOf.f k bt440.1 bt440.2.1 a1).bind fun bt446 => (some (bt446.1, bt446.2))) else (some (([] : List Int), false)))
set_option maxRecDepth 100000 in
set_option maxHeartbeats 4000000 in
theorem impl_ShapeOf.ctr (k : Nat) (a0 : ByteArray) (a1 : Int) (r1 : List Int) (r2 : Bool) (h : impl_ShapeOf.f k a0 a1 = some (r1, r2)) : Ctr TE 65 none [.v (.string a0), .v (.int .i64 a1)] [.own 3 1 (rX (cI .i64) r1), .ro (.v (.bool r2))] [] := by
 refine ctr_of (fn := Tryd.f65) (c := (bodyOf Tryd.f65)) Tryd.func65 rfl (by kernel_rfl) (Nat.le_of_ble_eq_true (by kernel_rfl)) (fun w ro B hF _ => ?_)
 simp only [impl_ShapeOf.f] at h
 obtain ⟨⟨t440, t441, t444⟩, q1, h⟩ := Option.bind_eq_some_iff.1 h
 dsimp only at h
 have q1c := impl_arrOf.ctr k _ _ _ _ _ q1
 by_cases c2 : t444 = true
 · rw [if_pos c2] at h
   obtain ⟨⟨t446, t449⟩, q3, h⟩ := Option.bind_eq_some_iff.1 h
   dsimp only at h
   have q3c := impl_shapeOf.ctr k _ _ _ _ _ q3
   refine path_ok (k := 12) hF (RetQ_mild _ _ _ _ _ _ _ _) (ds := [.r [.ro (.ag [.v (.int .i64 t440), .sl 2 (r84 t441)]), .ro (.v (.bool t444))] [], .b false, .r [.own 3 1 (rX (cI .i64) t446), .ro (.v (.bool t449))] []]) (os := []) (c := none) rfl KD ?_
   cases h
   exact ret_as (ms := [.own, .ro]) rfl KD
 · rw [if_neg c2] at h
   refine path_ok (k := 11) hF (RetQ_mild _ _ _ _ _ _ _ _) (ds := [.r [.ro (.ag [.v (.int .i64 t440), .sl 2 (r84 t441)]), .ro (.v (.bool t444))] [], .b true]) (os := []) (c := none) rfl KD ?_
   cases h
   exact ret_as (ms := [.nil 3 1, .ro]) rfl KD
end Go.Proofs.YtmjoigpnnechgaaDoor.T
