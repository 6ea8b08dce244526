/- A part of the claim. -/
import Derived.Test.YtmjoigpnnechgaaDoorUFx0
import Derived.Test.YtmjoigpnnechgaaDoorUFx1
import Derived.Test.YtmjoigpnnechgaaDoorUFSgc
-- PRINTED by print.py (a twelfth state) out of the translation. Not trusted: Lean checks it.
namespace Go.Proofs.YtmjoigpnnechgaaDoor.U
open Go.RowKit Go.Proofs.YtmjoigpnnechgaaDoorW.St Go.Proofs.YtmjoigpnnechgaaDoorW.PrintWords Go.Proofs.YtmjoigpnnechgaaDoorW.PrintLast Go.Proofs.YtmjoigpnnechgaaDoorW.PrintMore
attribute [local go_sem] max2_int min2_int max_two min_two max_three min_three max_four min_four   -- for this text's walks alone
set_option linter.unusedVariables false
set_option linter.unusedSimpArgs false
mutual
def impl_arr_text.l0 : Nat → Int → List ByteArray → List (S84) → Int → Int → Option (ByteArray)
  | 0, _, _, _, _, _ => none
  | k + 1, x1, x5, x15, x16, x17 => if x17 < x16 then (if 0 ≤ x17 then (if x17 < (x15.length : Int) then ((impl_arr_text.f k ((rd_T84 x15 x17).f0) ((rd_T84 x15 x17).f1) (wrap64 (x1 - 1))).bind fun t412 => (if x5.length < 8796093022208 then (impl_arr_text.l0 k x1 (x5 ++ [t412]) x15 x16 (wrap64 (x17 + 1))) else (none))) else (none)) else (none)) else ((strings_Join.f x5 (⟨#[44]⟩ : ByteArray)).bind fun t416 => (if 1 + t416.size ≤ 9223372036854775807 then (if 1 + t416.size + 1 ≤ 9223372036854775807 then (some (((⟨#[91]⟩ : ByteArray) ++ t416) ++ (⟨#[93]⟩ : ByteArray))) else (none)) else (none)))
def impl_arr_text.f : Nat → Int → List (S84) → Int → Option (ByteArray)
  | 0, _, _, _ => none
  | k + 1, a0_0, l0_1, a1 => if a1 = 0 then ((strconv_Itoa.f a0_0).bind fun t406 => (some t406)) else (impl_arr_text.l0 k a1 (([] : List ByteArray)) l0_1 (l0_1.length : Int) 0)
end
def impl_arr_text.I0 (r : ByteArray) (m : Nat) (σ : St) : Prop := ∃ (x1 : Int) (x5 : List ByteArray) (x15 : List (S84)) (x16 : Int) (x17 : Int), impl_arr_text.l0 m x1 x5 x15 x16 x17 = some r ∧ σ = ⟨[(1, .v (.int .i64 x1)), (5, .ow 1005 0), (15, .sl 2 (r84 x15)), (16, .v (.int .i64 x16)), (17, .v (.int .i64 x17))], [(1005, .own 0 9 1 (rX cS x5))]⟩
structure impl_arr_text.C (k : Nat) : Prop where
 s_f : ∀ (a0_0 : Int) (l0_1 : List (S84)) (a1 : Int) (r : ByteArray), impl_arr_text.f k a0_0 l0_1 a1 = some r → Ctr TE 88 none [.ag [.v (.int .i64 a0_0), .sl 2 (r84 l0_1)], .v (.int .i64 a1)] [.ro (.v (.string r))] []
 s_l0 : ∀ (r : ByteArray) (w : World) (ro : Nat → Prop) (B : Nat) (_ : Fr TE (cx0 Tryd.f88 none w ro B)) (x1 : Int) (x5 : List ByteArray) (x15 : List (S84)) (x16 : Int) (x17 : Int) (_ : impl_arr_text.l0 k x1 x5 x15 x16 x17 = some r), Kp (WS TE (cx0 Tryd.f88 none w ro B) (stkAt [1, 1, 1, 0, 1, 0] [] (bodyOf Tryd.f88) []) ⟨[(1, .v (.int .i64 x1)), (5, .ow 1005 0), (15, .sl 2 (r84 x15)), (16, .v (.int .i64 x16)), (17, .v (.int .i64 x17))], [(1005, .own 0 9 1 (rX cS x5))]⟩ (RetQ TE Tryd.f88 none [.ro (.v (.string r))] [] w ro B))
set_option maxRecDepth 100000 in
set_option maxHeartbeats 4000000 in
theorem impl_arr_text.c_f (k : Nat) (ih : Kp (∀ m, m < k → impl_arr_text.C m)) (a0_0 : Int) (l0_1 : List (S84)) (a1 : Int) (r : ByteArray) (h : impl_arr_text.f k a0_0 l0_1 a1 = some r) : Ctr TE 88 none [.ag [.v (.int .i64 a0_0), .sl 2 (r84 l0_1)], .v (.int .i64 a1)] [.ro (.v (.string r))] [] := by
 cases k with
 | zero => simp [impl_arr_text.f] at h
 | succ k =>
 simp only [impl_arr_text.f] at h
 refine ctr_of (fn := Tryd.f88) (c := (bodyOf Tryd.f88)) Tryd.func88 rfl (by kernel_rfl) (Nat.le_of_ble_eq_true (by kernel_rfl)) (fun w ro B hF _ => ?_)
 by_cases c1 : a1 = 0
 · rw [if_pos c1] at h
   obtain ⟨t406, q2, h⟩ := Option.bind_eq_some_iff.1 h
   have q2c := strconv_Itoa.ctr _ _ q2
   refine path_ok (k := 9) hF (RetQ_mild _ _ _ _ _ _ _ _) (ds := [.b true, .r [.ro (.v (.string t406))] []]) (os := []) (c := none) rfl KD ?_
   cases h
   exact ret_as (ms := [.ro]) rfl KD
 · rw [if_neg c1] at h
   refine path_ok (k := 13) hF (RetQ_mild _ _ _ _ _ _ _ _) (ds := [.b false, .p 13 ([]), .e 16 (.v (.int .i64 (l0_1.length : Int)))]) (os := []) (c := none) rfl KD ?_
   exact WS.can [(1005, some 13)] (((ih.out k (by omega)).s_l0  r w ro B hF a1 (([] : List ByteArray)) l0_1 (l0_1.length : Int) 0 h).out) KD
set_option maxRecDepth 100000 in
set_option maxHeartbeats 4000000 in
theorem impl_arr_text.c_l0 (k : Nat) (ih : Kp (∀ m, m < k → impl_arr_text.C m)) (r : ByteArray) (w : World) (ro : Nat → Prop) (B : Nat) (hF : Fr TE (cx0 Tryd.f88 none w ro B)) (x1 : Int) (x5 : List ByteArray) (x15 : List (S84)) (x16 : Int) (x17 : Int) (h : impl_arr_text.l0 k x1 x5 x15 x16 x17 = some r) : Kp (WS TE (cx0 Tryd.f88 none w ro B) (stkAt [1, 1, 1, 0, 1, 0] [] (bodyOf Tryd.f88) []) ⟨[(1, .v (.int .i64 x1)), (5, .ow 1005 0), (15, .sl 2 (r84 x15)), (16, .v (.int .i64 x16)), (17, .v (.int .i64 x17))], [(1005, .own 0 9 1 (rX cS x5))]⟩ (RetQ TE Tryd.f88 none [.ro (.v (.string r))] [] w ro B)) := by
 refine ⟨WS.loop (fun m σ => m ≤ k ∧ impl_arr_text.I0 r m σ) k ⟨Nat.le_refl k, x1, x5, x15, x16, x17, h, rfl⟩ (fun m σ' hI J0 hJ0 => ?_)⟩
 clear h
 obtain ⟨hk, x1, x5, x15, x16, x17, h, rfl⟩ := hI
 cases m with
 | zero => simp [impl_arr_text.l0] at h
 | succ k' =>
 simp only [impl_arr_text.l0] at h
 by_cases c3 : x17 < x16
 · rw [if_pos c3] at h
   by_cases c4 : 0 ≤ x17
   · rw [if_pos c4] at h
     by_cases c5 : x17 < (x15.length : Int)
     · rw [if_pos c5] at h
       obtain ⟨t412, q6, h⟩ := Option.bind_eq_some_iff.1 h
       have q6c := (ih.out k' (by omega)).s_f _ _ _ _ q6
       by_cases c7 : x5.length < 8796093022208
       · rw [if_pos c7] at h
         refine path_ok (k := 12) hF (RetQ_mild _ _ _ _ _ _ _ _) (ds := [.b true, .e 19 (.rf [.v (.int .i64 ((rd_T84 x15 x17).f0)), .sl 2 (r84 ((rd_T84 x15 x17).f1))]), .r [.ro (.v (.string t412))] [], .p 26 ([[.v (.string t412)]]), .o 27 (rX cS (x5 ++ [t412]))]) (os := []) (c := none) rfl KD ?_
         exact WS.lpc [(1005, some 1005)] (hJ0 _ _ (Nat.lt_succ_self _) ⟨by omega, x1, (x5 ++ [t412]), x15, x16, (wrap64 (x17 + 1)), h, rfl⟩) KD
       · rw [if_neg c7] at h
         cases h
     · rw [if_neg c5] at h
       cases h
   · rw [if_neg c4] at h
     cases h
 · rw [if_neg c3] at h
   obtain ⟨t416, q8, h⟩ := Option.bind_eq_some_iff.1 h
   have q8c := strings_Join.ctr _ _ _ q8
   by_cases c9 : 1 + t416.size ≤ 9223372036854775807
   · rw [if_pos c9] at h
     by_cases c10 : 1 + t416.size + 1 ≤ 9223372036854775807
     · rw [if_pos c10] at h
       refine path_ok (k := 8) hF (RetQ_mild _ _ _ _ _ _ _ _) (ds := [.b false, .r [.ro (.v (.string t416))] []]) (os := []) (c := none) rfl KD ?_
       cases h
       exact ret_as (ms := [.ro]) rfl KD
     · rw [if_neg c10] at h
       cases h
   · rw [if_neg c9] at h
     cases h
theorem impl_arr_text.cs (k : Nat) : impl_arr_text.C k := by
 induction k using Nat.strongRecOn with
 | _ k ih0 =>
 have ih : Kp (∀ m, m < k → impl_arr_text.C m) := ⟨ih0⟩
 exact ⟨impl_arr_text.c_f k ih, impl_arr_text.c_l0 k ih⟩
theorem impl_arr_text.ctr (k : Nat) (a0_0 : Int) (l0_1 : List (S84)) (a1 : Int) (r : ByteArray) (h : impl_arr_text.f k a0_0 l0_1 a1 = some r) : Ctr TE 88 none [.ag [.v (.int .i64 a0_0), .sl 2 (r84 l0_1)], .v (.int .i64 a1)] [.ro (.v (.string r))] [] := (impl_arr_text.cs k).s_f a0_0 l0_1 a1 r h
def impl_arr_short.f (k : Nat) (a0_0 : Int) (l0_1 : List (S84)) (a1 : Int) : Option (ByteArray × Bool) := (impl_arr_text.f k a0_0 l0_1 a1).bind fun t418 => (if (t418.size : Int) > 400 then (some ((⟨#[]⟩ : ByteArray), false)) else (some (t418, true)))
set_option maxRecDepth 100000 in
set_option maxHeartbeats 4000000 in
theorem impl_arr_short.ctr (k : Nat) (a0_0 : Int) (l0_1 : List (S84)) (a1 : Int) (r1 : ByteArray) (r2 : Bool) (h : impl_arr_short.f k a0_0 l0_1 a1 = some (r1, r2)) : Ctr TE 101 none [.ag [.v (.int .i64 a0_0), .sl 2 (r84 l0_1)], .v (.int .i64 a1)] [.ro (.v (.string r1)), .ro (.v (.bool r2))] [] := by
 refine ctr_of (fn := Tryd.f101) (c := (bodyOf Tryd.f101)) Tryd.func101 rfl (by kernel_rfl) (Nat.le_of_ble_eq_true (by kernel_rfl)) (fun w ro B hF _ => ?_)
 simp only [impl_arr_short.f] at h
 obtain ⟨t418, q1, h⟩ := Option.bind_eq_some_iff.1 h
 have q1c := impl_arr_text.ctr k _ _ _ _ q1
 by_cases c2 : (t418.size : Int) > 400
 · rw [if_pos c2] at h
   refine path_ok (k := 11) hF (RetQ_mild _ _ _ _ _ _ _ _) (ds := [.r [.ro (.v (.string t418))] [], .b true]) (os := []) (c := none) rfl KD ?_
   cases h
   exact ret_as (ms := [.ro, .ro]) rfl KD
 · rw [if_neg c2] at h
   refine path_ok (k := 12) hF (RetQ_mild _ _ _ _ _ _ _ _) (ds := [.r [.ro (.v (.string t418))] [], .b false]) (os := []) (c := none) rfl KD ?_
   cases h
   exact ret_as (ms := [.ro, .ro]) rfl KD
mutual
def impl_rowed.l0 : Nat → List (List Int) → Int → Int → Int → List (S84) → Option (ByteArray × Bool)
  | 0, _, _, _, _, _ => none
  | k + 1, x10, x11, x12, x420000, x420001 => if x12 < x11 then (if 0 ≤ x12 then (if x12 < (x10.length : Int) then (impl_rowed.l1 k x10 x11 x12 (rd_L3 x10 x12) ((rd_L3 x10 x12).length : Int) 0 x420000 x420001 0 ([] : List (S84))) else (none)) else (none)) else ((impl_arr_short.f k x420000 x420001 2).bind fun bt420 => (some (bt420.1, bt420.2)))
def impl_rowed.l1 : Nat → List (List Int) → Int → Int → List Int → Int → Int → Int → List (S84) → Int → List (S84) → Option (ByteArray × Bool)
  | 0, _, _, _, _, _, _, _, _, _, _ => none
  | k + 1, x10, x11, x12, x16, x17, x18, x420000, x420001, x424000, x424001 => if x18 < x17 then (if 0 ≤ x18 then (if x18 < (x16.length : Int) then (if x424001.length < 4398046511104 then (impl_rowed.l1 k x10 x11 x12 x16 x17 (wrap64 (x18 + 1)) x420000 x420001 x424000 (x424001 ++ [(⟨rd x16 x18, ([] : List (S84))⟩ : S84)])) else (none)) else (none)) else (none)) else (if x420001.length < 4398046511104 then (impl_rowed.l0 k x10 x11 (wrap64 (x12 + 1)) x420000 (x420001 ++ [(⟨x424000, x424001⟩ : S84)])) else (none))
end
def impl_rowed.f (k : Nat) (l0 : List (List Int)) : Option (ByteArray × Bool) := impl_rowed.l0 k l0 (l0.length : Int) 0 0 ([] : List (S84))
def impl_rowed.I0 (r1 : ByteArray) (r2 : Bool) (m : Nat) (σ : St) : Prop := ∃ (x10 : List (List Int)) (x11 : Int) (x12 : Int) (x420000 : Int) (x420001 : List (S84)), impl_rowed.l0 m x10 x11 x12 x420000 x420001 = some (r1, r2) ∧ σ = ⟨[(4, .pt 1004 0 0), (10, .sl 1 (rX (cL (cI .i64) 1) x10)), (11, .v (.int .i64 x11)), (12, .v (.int .i64 x12))], [(3257, .own 0 84 2 (r84 x420001)), (1004, .box 0 84 false [.v (.int .i64 x420000), .ow 3257 0])]⟩
def impl_rowed.I1 (r1 : ByteArray) (r2 : Bool) (m : Nat) (σ : St) : Prop := ∃ (x10 : List (List Int)) (x11 : Int) (x12 : Int) (x16 : List Int) (x17 : Int) (x18 : Int) (x420000 : Int) (x420001 : List (S84)) (x424000 : Int) (x424001 : List (S84)), impl_rowed.l1 m x10 x11 x12 x16 x17 x18 x420000 x420001 x424000 x424001 = some (r1, r2) ∧ σ = ⟨[(4, .pt 1004 0 0), (7, .pt 1007 0 0), (10, .sl 1 (rX (cL (cI .i64) 1) x10)), (11, .v (.int .i64 x11)), (12, .v (.int .i64 x12)), (16, .sl 1 (rX (cI .i64) x16)), (17, .v (.int .i64 x17)), (18, .v (.int .i64 x18))], [(3257, .own 0 84 2 (r84 x420001)), (1004, .box 0 84 false [.v (.int .i64 x420000), .ow 3257 0]), (3449, .own 0 84 2 (r84 x424001)), (1007, .box 0 84 false [.v (.int .i64 x424000), .ow 3449 0])]⟩
structure impl_rowed.C (k : Nat) : Prop where
 s_l0 : ∀ (r1 : ByteArray) (r2 : Bool) (w : World) (ro : Nat → Prop) (B : Nat) (_ : Fr TE (cx0 Tryd.f77 none w ro B)) (x10 : List (List Int)) (x11 : Int) (x12 : Int) (x420000 : Int) (x420001 : List (S84)) (_ : impl_rowed.l0 k x10 x11 x12 x420000 x420001 = some (r1, r2)), Kp (WS TE (cx0 Tryd.f77 none w ro B) (stkAt [1, 1, 0, 1, 0] [] (bodyOf Tryd.f77) []) ⟨[(4, .pt 1004 0 0), (10, .sl 1 (rX (cL (cI .i64) 1) x10)), (11, .v (.int .i64 x11)), (12, .v (.int .i64 x12))], [(3257, .own 0 84 2 (r84 x420001)), (1004, .box 0 84 false [.v (.int .i64 x420000), .ow 3257 0])]⟩ (RetQ TE Tryd.f77 none [.ro (.v (.string r1)), .ro (.v (.bool r2))] [] w ro B))
 s_l1 : ∀ (r1 : ByteArray) (r2 : Bool) (w : World) (ro : Nat → Prop) (B : Nat) (_ : Fr TE (cx0 Tryd.f77 none w ro B)) (J0 : St → Prop) (_ : ∀ m σ, m ≤ k → impl_rowed.I0 r1 r2 m σ → J0 σ) (x10 : List (List Int)) (x11 : Int) (x12 : Int) (x16 : List Int) (x17 : Int) (x18 : Int) (x420000 : Int) (x420001 : List (S84)) (x424000 : Int) (x424001 : List (S84)) (_ : impl_rowed.l1 k x10 x11 x12 x16 x17 x18 x420000 x420001 x424000 x424001 = some (r1, r2)), Kp (WS TE (cx0 Tryd.f77 none w ro B) (stkAt [1, 1, 0, 1, 0, 0, 1, 1, 0, 0, 1, 1, 0, 1, 0] [J0] (bodyOf Tryd.f77) []) ⟨[(4, .pt 1004 0 0), (7, .pt 1007 0 0), (10, .sl 1 (rX (cL (cI .i64) 1) x10)), (11, .v (.int .i64 x11)), (12, .v (.int .i64 x12)), (16, .sl 1 (rX (cI .i64) x16)), (17, .v (.int .i64 x17)), (18, .v (.int .i64 x18))], [(3257, .own 0 84 2 (r84 x420001)), (1004, .box 0 84 false [.v (.int .i64 x420000), .ow 3257 0]), (3449, .own 0 84 2 (r84 x424001)), (1007, .box 0 84 false [.v (.int .i64 x424000), .ow 3449 0])]⟩ (RetQ TE Tryd.f77 none [.ro (.v (.string r1)), .ro (.v (.bool r2))] [] w ro B))
set_option maxRecDepth 100000 in
set_option maxHeartbeats 4000000 in
theorem impl_rowed.c_l0 (k : Nat) (ih : Kp (∀ m, m < k → impl_rowed.C m)) (r1 : ByteArray) (r2 : Bool) (w : World) (ro : Nat → Prop) (B : Nat) (hF : Fr TE (cx0 Tryd.f77 none w ro B)) (x10 : List (List Int)) (x11 : Int) (x12 : Int) (x420000 : Int) (x420001 : List (S84)) (h : impl_rowed.l0 k x10 x11 x12 x420000 x420001 = some (r1, r2)) : Kp (WS TE (cx0 Tryd.f77 none w ro B) (stkAt [1, 1, 0, 1, 0] [] (bodyOf Tryd.f77) []) ⟨[(4, .pt 1004 0 0), (10, .sl 1 (rX (cL (cI .i64) 1) x10)), (11, .v (.int .i64 x11)), (12, .v (.int .i64 x12))], [(3257, .own 0 84 2 (r84 x420001)), (1004, .box 0 84 false [.v (.int .i64 x420000), .ow 3257 0])]⟩ (RetQ TE Tryd.f77 none [.ro (.v (.string r1)), .ro (.v (.bool r2))] [] w ro B)) := by
 refine ⟨WS.loop (fun m σ => m ≤ k ∧ impl_rowed.I0 r1 r2 m σ) k ⟨Nat.le_refl k, x10, x11, x12, x420000, x420001, h, rfl⟩ (fun m σ' hI J0 hJ0 => ?_)⟩
 clear h
 obtain ⟨hk, x10, x11, x12, x420000, x420001, h, rfl⟩ := hI
 cases m with
 | zero => simp [impl_rowed.l0] at h
 | succ k' =>
 simp only [impl_rowed.l0] at h
 by_cases c1 : x12 < x11
 · rw [if_pos c1] at h
   by_cases c2 : 0 ≤ x12
   · rw [if_pos c2] at h
     by_cases c3 : x12 < (x10.length : Int)
     · rw [if_pos c3] at h
       refine path_ok (k := 15) hF (RetQ_mild _ _ _ _ _ _ _ _) (ds := [.b true, .e 14 (.rf [.sl 1 (rX (cI .i64) (rd_L3 x10 x12))]), .e 17 (.v (.int .i64 ((rd_L3 x10 x12).length : Int)))]) (os := []) (c := none) rfl KD ?_
       exact WS.can [(1004, some 1004), (3257, some 3257), (1007, some 7), (3449, none)] (((ih.out k' (by omega)).s_l1  r1 r2 w ro B hF J0 (fun m σ hm hI => hJ0 m σ (by omega) ⟨by omega, hI⟩) x10 x11 x12 (rd_L3 x10 x12) ((rd_L3 x10 x12).length : Int) 0 x420000 x420001 0 ([] : List (S84)) h).out) KD
     · rw [if_neg c3] at h
       cases h
   · rw [if_neg c2] at h
     cases h
 · rw [if_neg c1] at h
   obtain ⟨⟨t420, t421⟩, q4, h⟩ := Option.bind_eq_some_iff.1 h
   dsimp only at h
   have q4c := impl_arr_short.ctr k' _ _ _ _ _ q4
   refine path_ok (k := 8) hF (RetQ_mild _ _ _ _ _ _ _ _) (ds := [.b false, .r [.ro (.v (.string t420)), .ro (.v (.bool t421))] []]) (os := []) (c := none) rfl KD ?_
   cases h
   exact ret_as (ms := [.ro, .ro]) rfl KD
set_option maxRecDepth 100000 in
set_option maxHeartbeats 4000000 in
theorem impl_rowed.c_l1 (k : Nat) (ih : Kp (∀ m, m < k → impl_rowed.C m)) (r1 : ByteArray) (r2 : Bool) (w : World) (ro : Nat → Prop) (B : Nat) (hF : Fr TE (cx0 Tryd.f77 none w ro B)) (J0 : St → Prop) (hJ0 : ∀ m σ, m ≤ k → impl_rowed.I0 r1 r2 m σ → J0 σ) (x10 : List (List Int)) (x11 : Int) (x12 : Int) (x16 : List Int) (x17 : Int) (x18 : Int) (x420000 : Int) (x420001 : List (S84)) (x424000 : Int) (x424001 : List (S84)) (h : impl_rowed.l1 k x10 x11 x12 x16 x17 x18 x420000 x420001 x424000 x424001 = some (r1, r2)) : Kp (WS TE (cx0 Tryd.f77 none w ro B) (stkAt [1, 1, 0, 1, 0, 0, 1, 1, 0, 0, 1, 1, 0, 1, 0] [J0] (bodyOf Tryd.f77) []) ⟨[(4, .pt 1004 0 0), (7, .pt 1007 0 0), (10, .sl 1 (rX (cL (cI .i64) 1) x10)), (11, .v (.int .i64 x11)), (12, .v (.int .i64 x12)), (16, .sl 1 (rX (cI .i64) x16)), (17, .v (.int .i64 x17)), (18, .v (.int .i64 x18))], [(3257, .own 0 84 2 (r84 x420001)), (1004, .box 0 84 false [.v (.int .i64 x420000), .ow 3257 0]), (3449, .own 0 84 2 (r84 x424001)), (1007, .box 0 84 false [.v (.int .i64 x424000), .ow 3449 0])]⟩ (RetQ TE Tryd.f77 none [.ro (.v (.string r1)), .ro (.v (.bool r2))] [] w ro B)) := by
 refine ⟨WS.loop (fun m σ => m ≤ k ∧ impl_rowed.I1 r1 r2 m σ) k ⟨Nat.le_refl k, x10, x11, x12, x16, x17, x18, x420000, x420001, x424000, x424001, h, rfl⟩ (fun m σ' hI J1 hJ1 => ?_)⟩
 clear h
 obtain ⟨hk, x10, x11, x12, x16, x17, x18, x420000, x420001, x424000, x424001, h, rfl⟩ := hI
 cases m with
 | zero => simp [impl_rowed.l1] at h
 | succ k' =>
 simp only [impl_rowed.l1] at h
 by_cases c5 : x18 < x17
 · rw [if_pos c5] at h
   by_cases c6 : 0 ≤ x18
   · rw [if_pos c6] at h
     by_cases c7 : x18 < (x16.length : Int)
     · rw [if_pos c7] at h
       by_cases c8 : x424001.length < 4398046511104
       · rw [if_pos c8] at h
         refine path_ok (k := 12) hF (RetQ_mild _ _ _ _ _ _ _ _) (ds := [.b true, .e 20 (.rf [.v (.int .i64 (rd x16 x18))]), .p 26 ([[.v (.int .i64 (rd x16 x18)), .sl 2 (r84 [])]]), .o 27 (r84 (x424001 ++ [(⟨rd x16 x18, ([] : List (S84))⟩ : S84)]))]) (os := []) (c := none) rfl KD ?_
         exact WS.lpc [(1004, some 1004), (3257, some 3257), (1007, some 1007), (3449, some 3449)] (hJ1 _ _ (Nat.lt_succ_self _) ⟨by omega, x10, x11, x12, x16, x17, (wrap64 (x18 + 1)), x420000, x420001, x424000, (x424001 ++ [(⟨rd x16 x18, ([] : List (S84))⟩ : S84)]), h, rfl⟩) KD
       · rw [if_neg c8] at h
         cases h
     · rw [if_neg c7] at h
       cases h
   · rw [if_neg c6] at h
     cases h
 · rw [if_neg c5] at h
   by_cases c9 : x420001.length < 4398046511104
   · rw [if_pos c9] at h
     refine path_ok (k := 8) hF (RetQ_mild _ _ _ _ _ _ _ _) (ds := [.b false, .p 33 ([[.v (.int .i64 x424000), .sl 2 (r84 x424001)]]), .o 34 (r84 (x420001 ++ [(⟨x424000, x424001⟩ : S84)]))]) (os := []) (c := none) rfl KD ?_
     exact WS.lpc [(1004, some 1004), (3257, some 3257)] (hJ0 _ _ (by omega) ⟨x10, x11, (wrap64 (x12 + 1)), x420000, (x420001 ++ [(⟨x424000, x424001⟩ : S84)]), h, rfl⟩) KD
   · rw [if_neg c9] at h
     cases h
theorem impl_rowed.cs (k : Nat) : impl_rowed.C k := by
 induction k using Nat.strongRecOn with
 | _ k ih0 =>
 have ih : Kp (∀ m, m < k → impl_rowed.C m) := ⟨ih0⟩
 exact ⟨impl_rowed.c_l0 k ih, impl_rowed.c_l1 k ih⟩
set_option maxRecDepth 100000 in
set_option maxHeartbeats 4000000 in
theorem impl_rowed.ctr (k : Nat) (l0 : List (List Int)) (r1 : ByteArray) (r2 : Bool) (h : impl_rowed.f k l0 = some (r1, r2)) : Ctr TE 77 none [.sl 1 (rX (cL (cI .i64) 1) l0)] [.ro (.v (.string r1)), .ro (.v (.bool r2))] [] := by
 refine ctr_of (fn := Tryd.f77) (c := (bodyOf Tryd.f77)) Tryd.func77 rfl (by kernel_rfl) (Nat.le_of_ble_eq_true (by kernel_rfl)) (fun w ro B hF _ => ?_)
 have ih : Kp (∀ m, m < k + 1 → impl_rowed.C m) := ⟨fun m _ => impl_rowed.cs m⟩
 simp only [impl_rowed.f] at h
 refine path_ok (k := 8) hF (RetQ_mild _ _ _ _ _ _ _ _) (ds := [.e 11 (.v (.int .i64 (l0.length : Int)))]) (os := []) (c := none) rfl KD ?_
 exact WS.can [(1004, some 4), (3257, none)] (((ih.out k (by omega)).s_l0  r1 r2 w ro B hF l0 (l0.length : Int) 0 0 ([] : List (S84)) h).out) KD
def spec_l13Open.f (l0 : List Int) : Option (List Int × Int) := if (l0.length : Int) > 2000 then (if 2000 ≤ (l0.length : Int) then (some (l0.take 2000, 0)) else (none)) else (some (l0, 0))
set_option maxRecDepth 100000 in
set_option maxHeartbeats 4000000 in
theorem spec_l13Open.ctr (l0 : List Int) (r1 : List Int) (r2 : Int) (h : spec_l13Open.f l0 = some (r1, r2)) : Ctr TE 87 none [.sl 1 (rX (cI .u8) l0)] [.nb 129 [.sl 1 (rX (cI .u8) r1), .v (.int .i64 r2)]] [] := by
 refine ctr_of (fn := Tryd.f87) (c := (bodyOf Tryd.f87)) Tryd.func87 rfl (by kernel_rfl) (Nat.le_of_ble_eq_true (by kernel_rfl)) (fun w ro B hF _ => ?_)
 simp only [spec_l13Open.f] at h
 by_cases c1 : (l0.length : Int) > 2000
 · rw [if_pos c1] at h
   by_cases c2 : 2000 ≤ (l0.length : Int)
   · rw [if_pos c2] at h
     refine path_ok (k := 10) hF (RetQ_mild _ _ _ _ _ _ _ _) (ds := [.e 4 (.v (.int .i64 (l0.length : Int))), .b true, .e 7 (.sl 1 (rX (cI .u8) (l0.take 2000)))]) (os := []) (c := none) rfl KD ?_
     cases h
     exact ret_as (ms := [.nb]) rfl KD
   · rw [if_neg c2] at h
     cases h
 · rw [if_neg c1] at h
   refine path_ok (k := 10) hF (RetQ_mild _ _ _ _ _ _ _ _) (ds := [.e 4 (.v (.int .i64 (l0.length : Int))), .b false]) (os := []) (c := none) rfl KD ?_
   cases h
   exact ret_as (ms := [.nb]) rfl KD
def spec_l13Rd_pick.j0 : Nat → Int → Bool → List Int → Int → Option (Int × Int)
  | 0, _, _, _, _ => none
  | k + 1, x1, x24, x1000, x1001 => if x24 = true then (some (0, x1001)) else (if (wrap64 (x1001 - 1)) < (x1000.length : Int) then (if 0 ≤ (wrap64 (x1001 - 1)) then (if x1 = 0 then (none) else (some (Int.tmod (wrap64 (rd x1000 (wrap64 (x1001 - 1)))) x1, x1001))) else (none)) else (if (x1000.length : Int) = 0 then (none) else (if 0 ≤ (Int.tmod (wrap64 (x1001 - 1)) (x1000.length : Int)) then (if (Int.tmod (wrap64 (x1001 - 1)) (x1000.length : Int)) < (x1000.length : Int) then (if 0 ≤ (Int.tmod (wrap64 ((wrap64 ((wrap64 (x1001 - 1)) * 7)) + 3)) (x1000.length : Int)) then (if (Int.tmod (wrap64 ((wrap64 ((wrap64 (x1001 - 1)) * 7)) + 3)) (x1000.length : Int)) < (x1000.length : Int) then (if x1 = 0 then (none) else (some (Int.tmod (Go.bits .xor .i64 (wrap64 ((wrap64 ((wrap64 ((wrap64 ((wrap64 (rd x1000 (Int.tmod (wrap64 (x1001 - 1)) (x1000.length : Int)))) * 131)) + (wrap64 ((wrap64 (rd x1000 (Int.tmod (wrap64 ((wrap64 ((wrap64 (x1001 - 1)) * 7)) + 3)) (x1000.length : Int)))) * 1117)))) + (wrap64 ((wrap64 (x1001 - 1)) * 29)))) + (wrap64 ((wrap64 (Int.tdiv (wrap64 (x1001 - 1)) (x1000.length : Int))) * 53)))) (wrap64 (Int.tdiv (wrap64 ((wrap64 ((wrap64 ((wrap64 ((wrap64 (rd x1000 (Int.tmod (wrap64 (x1001 - 1)) (x1000.length : Int)))) * 131)) + (wrap64 ((wrap64 (rd x1000 (Int.tmod (wrap64 ((wrap64 ((wrap64 (x1001 - 1)) * 7)) + 3)) (x1000.length : Int)))) * 1117)))) + (wrap64 ((wrap64 (x1001 - 1)) * 29)))) + (wrap64 ((wrap64 (Int.tdiv (wrap64 (x1001 - 1)) (x1000.length : Int))) * 53)))) 64))) x1, x1001))) else (none)) else (none)) else (none)) else (none))))
def spec_l13Rd_pick.f (k : Nat) (s0_0 : List Int) (s0_1 : Int) (a1 : Int) : Option (Int × Int) := if a1 < 1 then (spec_l13Rd_pick.j0 k a1 true s0_0 (wrap64 (s0_1 + 1))) else (spec_l13Rd_pick.j0 k a1 ((s0_0.length : Int) == 0) s0_0 (wrap64 (s0_1 + 1)))
structure spec_l13Rd_pick.C (k : Nat) : Prop where
 s_j0 : ∀ (s0_0 : List Int) (s0_1 : Int) (r1 : Int) (r2 : Int) (w : World) (ro : Nat → Prop) (B : Nat) (_ : Fr TE (cx0 Tryd.f92 (some (129, [.sl 1 (rX (cI .u8) s0_0), .v (.int .i64 s0_1)])) w ro B)) (x1 : Int) (x24 : Bool) (x1001 : Int) (_ : spec_l13Rd_pick.j0 k x1 x24 s0_0 x1001 = some (r1, r2)), Kp (WS TE (cx0 Tryd.f92 (some (129, [.sl 1 (rX (cI .u8) s0_0), .v (.int .i64 s0_1)])) w ro B) (stkAt [1, 1, 0, 0, 9] [] (bodyOf Tryd.f92) []) ⟨[(0, .pt 0 0 0), (1, .v (.int .i64 x1)), (24, .v (.bool x24))], [(0, .box 0 129 true [.sl 1 (rX (cI .u8) s0_0), .v (.int .i64 x1001)])]⟩ (RetQ TE Tryd.f92 (some (129, [.sl 1 (rX (cI .u8) s0_0), .v (.int .i64 s0_1)])) [.ro (.v (.int .i64 r1))] [.sl 1 (rX (cI .u8) s0_0), .v (.int .i64 r2)] w ro B))
set_option maxRecDepth 100000 in
set_option maxHeartbeats 4000000 in
theorem spec_l13Rd_pick.c_j0 (k : Nat) (ih : Kp (∀ m, m < k → spec_l13Rd_pick.C m)) (s0_0 : List Int) (s0_1 : Int) (r1 : Int) (r2 : Int) (w : World) (ro : Nat → Prop) (B : Nat) (hF : Fr TE (cx0 Tryd.f92 (some (129, [.sl 1 (rX (cI .u8) s0_0), .v (.int .i64 s0_1)])) w ro B)) (x1 : Int) (x24 : Bool) (x1001 : Int) (h : spec_l13Rd_pick.j0 k x1 x24 s0_0 x1001 = some (r1, r2)) : Kp (WS TE (cx0 Tryd.f92 (some (129, [.sl 1 (rX (cI .u8) s0_0), .v (.int .i64 s0_1)])) w ro B) (stkAt [1, 1, 0, 0, 9] [] (bodyOf Tryd.f92) []) ⟨[(0, .pt 0 0 0), (1, .v (.int .i64 x1)), (24, .v (.bool x24))], [(0, .box 0 129 true [.sl 1 (rX (cI .u8) s0_0), .v (.int .i64 x1001)])]⟩ (RetQ TE Tryd.f92 (some (129, [.sl 1 (rX (cI .u8) s0_0), .v (.int .i64 s0_1)])) [.ro (.v (.int .i64 r1))] [.sl 1 (rX (cI .u8) s0_0), .v (.int .i64 r2)] w ro B)) := by
 refine ⟨?_⟩
 cases k with
 | zero => simp [spec_l13Rd_pick.j0] at h
 | succ k =>
 simp only [spec_l13Rd_pick.j0] at h
 by_cases c2 : x24 = true
 · rw [if_pos c2] at h
   refine path_ok (k := 4) hF (RetQ_mild _ _ _ _ _ _ _ _) (ds := [.b true]) (os := []) (c := none) rfl KD ?_
   cases h
   exact ret_as (ms := [.ro]) rfl KD
 · rw [if_neg c2] at h
   by_cases c3 : (wrap64 (x1001 - 1)) < (s0_0.length : Int)
   · rw [if_pos c3] at h
     by_cases c4 : 0 ≤ (wrap64 (x1001 - 1))
     · rw [if_pos c4] at h
       by_cases c5 : x1 = 0
       · rw [if_pos c5] at h
         cases h
       · rw [if_neg c5] at h
         refine path_ok (k := 11) hF (RetQ_mild _ _ _ _ _ _ _ _) (ds := [.b false, .e 35 (.v (.int .i64 (s0_0.length : Int))), .b true, .e 42 (.rf [.v (.int .u8 (rd s0_0 (wrap64 (x1001 - 1))))]), .e 44 (.v (.int .i64 (wrap64 (rd s0_0 (wrap64 (x1001 - 1)))))), .e 46 (.v (.int .i64 (Int.tmod (wrap64 (rd s0_0 (wrap64 (x1001 - 1)))) x1)))]) (os := []) (c := none) rfl KD ?_
         cases h
         exact ret_as (ms := [.ro]) rfl KD
     · rw [if_neg c4] at h
       cases h
   · rw [if_neg c3] at h
     by_cases c6 : (s0_0.length : Int) = 0
     · rw [if_pos c6] at h
       cases h
     · rw [if_neg c6] at h
       by_cases c7 : 0 ≤ (Int.tmod (wrap64 (x1001 - 1)) (s0_0.length : Int))
       · rw [if_pos c7] at h
         by_cases c8 : (Int.tmod (wrap64 (x1001 - 1)) (s0_0.length : Int)) < (s0_0.length : Int)
         · rw [if_pos c8] at h
           by_cases c9 : 0 ≤ (Int.tmod (wrap64 ((wrap64 ((wrap64 (x1001 - 1)) * 7)) + 3)) (s0_0.length : Int))
           · rw [if_pos c9] at h
             by_cases c10 : (Int.tmod (wrap64 ((wrap64 ((wrap64 (x1001 - 1)) * 7)) + 3)) (s0_0.length : Int)) < (s0_0.length : Int)
             · rw [if_pos c10] at h
               by_cases c11 : x1 = 0
               · rw [if_pos c11] at h
                 cases h
               · rw [if_neg c11] at h
                 refine path_ok (k := 16) hF (RetQ_mild _ _ _ _ _ _ _ _) (ds := [.b false, .e 35 (.v (.int .i64 (s0_0.length : Int))), .b false, .e 56 (.v (.int .i64 (s0_0.length : Int))), .e 57 (.v (.int .i64 (Int.tmod (wrap64 (x1001 - 1)) (s0_0.length : Int)))), .e 58 (.rf [.v (.int .u8 (rd s0_0 (Int.tmod (wrap64 (x1001 - 1)) (s0_0.length : Int))))]), .e 60 (.v (.int .i64 (wrap64 (rd s0_0 (Int.tmod (wrap64 (x1001 - 1)) (s0_0.length : Int)))))), .e 73 (.v (.int .i64 (s0_0.length : Int))), .e 74 (.v (.int .i64 (Int.tmod (wrap64 ((wrap64 ((wrap64 (x1001 - 1)) * 7)) + 3)) (s0_0.length : Int)))), .e 75 (.rf [.v (.int .u8 (rd s0_0 (Int.tmod (wrap64 ((wrap64 ((wrap64 (x1001 - 1)) * 7)) + 3)) (s0_0.length : Int))))]), .e 77 (.v (.int .i64 (wrap64 (rd s0_0 (Int.tmod (wrap64 ((wrap64 ((wrap64 (x1001 - 1)) * 7)) + 3)) (s0_0.length : Int)))))), .e 88 (.v (.int .i64 (s0_0.length : Int))), .e 89 (.v (.int .i64 (wrap64 (Int.tdiv (wrap64 (x1001 - 1)) (s0_0.length : Int))))), .e 94 (.v (.int .i64 (wrap64 (Int.tdiv (wrap64 ((wrap64 ((wrap64 ((wrap64 ((wrap64 (rd s0_0 (Int.tmod (wrap64 (x1001 - 1)) (s0_0.length : Int)))) * 131)) + (wrap64 ((wrap64 (rd s0_0 (Int.tmod (wrap64 ((wrap64 ((wrap64 (x1001 - 1)) * 7)) + 3)) (s0_0.length : Int)))) * 1117)))) + (wrap64 ((wrap64 (x1001 - 1)) * 29)))) + (wrap64 ((wrap64 (Int.tdiv (wrap64 (x1001 - 1)) (s0_0.length : Int))) * 53)))) 64)))), .e 98 (.v (.int .i64 (Int.tmod (Go.bits .xor .i64 (wrap64 ((wrap64 ((wrap64 ((wrap64 ((wrap64 (rd s0_0 (Int.tmod (wrap64 (x1001 - 1)) (s0_0.length : Int)))) * 131)) + (wrap64 ((wrap64 (rd s0_0 (Int.tmod (wrap64 ((wrap64 ((wrap64 (x1001 - 1)) * 7)) + 3)) (s0_0.length : Int)))) * 1117)))) + (wrap64 ((wrap64 (x1001 - 1)) * 29)))) + (wrap64 ((wrap64 (Int.tdiv (wrap64 (x1001 - 1)) (s0_0.length : Int))) * 53)))) (wrap64 (Int.tdiv (wrap64 ((wrap64 ((wrap64 ((wrap64 ((wrap64 (rd s0_0 (Int.tmod (wrap64 (x1001 - 1)) (s0_0.length : Int)))) * 131)) + (wrap64 ((wrap64 (rd s0_0 (Int.tmod (wrap64 ((wrap64 ((wrap64 (x1001 - 1)) * 7)) + 3)) (s0_0.length : Int)))) * 1117)))) + (wrap64 ((wrap64 (x1001 - 1)) * 29)))) + (wrap64 ((wrap64 (Int.tdiv (wrap64 (x1001 - 1)) (s0_0.length : Int))) * 53)))) 64))) x1)))]) (os := [.o [(0, 0), (1, 0), (2, 0), (3, 1), (4, 0), (5, 0), (6, 0), (7, 0), (8, 1), (9, 0), (10, 0), (11, 0), (12, 1), (13, 0), (14, 0), (15, 0), (16, 0), (17, 0), (18, 1), (19, 0), (20, 0), (21, 0), (22, 0), (23, 0), (24, 0), (25, 1), (26, 0), (27, 0), (28, 0), (29, 1), (30, 0), (31, 0), (32, 0), (33, 0), (34, 0), (35, 0), (36, 0), (37, 0), (38, 0), (39, 0), (40, 1), (41, 0), (42, 0), (43, 0), (44, 0), (45, 0)] []]) (c := none) rfl KD ?_
                 cases h
                 exact ret_as (ms := [.ro]) rfl KD
             · rw [if_neg c10] at h
               cases h
           · rw [if_neg c9] at h
             cases h
         · rw [if_neg c8] at h
           cases h
       · rw [if_neg c7] at h
         cases h
theorem spec_l13Rd_pick.cs (k : Nat) : spec_l13Rd_pick.C k := by
 induction k using Nat.strongRecOn with
 | _ k ih0 =>
 have ih : Kp (∀ m, m < k → spec_l13Rd_pick.C m) := ⟨ih0⟩
 exact ⟨spec_l13Rd_pick.c_j0 k ih⟩
set_option maxRecDepth 100000 in
set_option maxHeartbeats 4000000 in
theorem spec_l13Rd_pick.ctr (k : Nat) (s0_0 : List Int) (s0_1 : Int) (a1 : Int) (r1 : Int) (r2 : Int) (h : spec_l13Rd_pick.f k s0_0 s0_1 a1 = some (r1, r2)) : Ctr TE 92 (some (129, [.sl 1 (rX (cI .u8) s0_0), .v (.int .i64 s0_1)])) [.pt 0 0 0, .v (.int .i64 a1)] [.ro (.v (.int .i64 r1))] [.sl 1 (rX (cI .u8) s0_0), .v (.int .i64 r2)] := by
 refine ctr_of (fn := Tryd.f92) (c := (bodyOf Tryd.f92)) Tryd.func92 rfl (by kernel_rfl) (Nat.le_of_ble_eq_true (by kernel_rfl)) (fun w ro B hF _ => ?_)
 have ih : Kp (∀ m, m < k + 1 → spec_l13Rd_pick.C m) := ⟨fun m _ => spec_l13Rd_pick.cs m⟩
 simp only [spec_l13Rd_pick.f] at h
 by_cases c1 : a1 < 1
 · rw [if_pos c1] at h
   refine path_ok (k := 7) hF (RetQ_mild _ _ _ _ _ _ _ _) (ds := [.b true, .b true, .b true, .b true, .b true, .b true, .b true]) (os := []) (c := none) rfl KD ?_
   exact WS.can [(0, some 0)] (((ih.out k (by omega)).s_j0 s0_0 s0_1 r1 r2 w ro B hF a1 true (wrap64 (s0_1 + 1)) h).out) KD
 · rw [if_neg c1] at h
   refine path_ok (k := 7) hF (RetQ_mild _ _ _ _ _ _ _ _) (ds := [.b false, .b false, .b false, .b false, .b false, .e 22 (.v (.int .i64 (s0_0.length : Int))), .b false, .b false]) (os := []) (c := none) rfl KD ?_
   exact WS.can [(0, some 0)] (((ih.out k (by omega)).s_j0 s0_0 s0_1 r1 r2 w ro B hF a1 ((s0_0.length : Int) == 0) (wrap64 (s0_1 + 1)) h).out) KD
def spec_l13Rd_num.f (k : Nat) (s0_0 : List Int) (s0_1 : Int) (l1 : List Int) : Option (Int × Int) := (spec_l13Rd_pick.f k s0_0 s0_1 (l1.length : Int)).bind fun bt437 => (if 0 ≤ bt437.1 then (if bt437.1 < (l1.length : Int) then (some (rd l1 bt437.1, bt437.2)) else (none)) else (none))
set_option maxRecDepth 100000 in
set_option maxHeartbeats 4000000 in
theorem spec_l13Rd_num.ctr (k : Nat) (s0_0 : List Int) (s0_1 : Int) (l1 : List Int) (r1 : Int) (r2 : Int) (h : spec_l13Rd_num.f k s0_0 s0_1 l1 = some (r1, r2)) : Ctr TE 128 (some (129, [.sl 1 (rX (cI .u8) s0_0), .v (.int .i64 s0_1)])) [.pt 0 0 0, .sl 1 (rX (cI .i64) l1)] [.ro (.v (.int .i64 r1))] [.sl 1 (rX (cI .u8) s0_0), .v (.int .i64 r2)] := by
 refine ctr_of (fn := Tryd.f128) (c := (bodyOf Tryd.f128)) Tryd.func128 rfl (by kernel_rfl) (Nat.le_of_ble_eq_true (by kernel_rfl)) (fun w ro B hF _ => ?_)
 simp only [spec_l13Rd_num.f] at h
 obtain ⟨⟨t437, t438⟩, q1, h⟩ := Option.bind_eq_some_iff.1 h
 dsimp only at h
 have q1c := spec_l13Rd_pick.ctr k _ _ _ _ _ q1
 by_cases c2 : 0 ≤ t437
 · rw [if_pos c2] at h
   by_cases c3 : t437 < (l1.length : Int)
   · rw [if_pos c3] at h
     refine path_ok (k := 5) hF (RetQ_mild _ _ _ _ _ _ _ _) (ds := [.e 8 (.v (.int .i64 (l1.length : Int))), .r [.ro (.v (.int .i64 t437))] [.sl 1 (rX (cI .u8) s0_0), .v (.int .i64 t438)], .e 10 (.rf [.v (.int .i64 (rd l1 t437))])]) (os := []) (c := none) rfl KD ?_
     cases h
     exact ret_as (ms := [.ro]) rfl KD
   · rw [if_neg c3] at h
     cases h
 · rw [if_neg c2] at h
   cases h
mutual
def spec_l1Draw.l0 : Nat → Int → ByteArray → Int → Int → List Int → Int → Option (ByteArray × Int)
  | 0, _, _, _, _, _, _ => none
  | k + 1, x1, x5, x17, x18, x1000, x1001 => if x18 < x17 then (if x18 > 0 then (if x5.size + 1 ≤ 9223372036854775807 then ((spec_l1Draw.f k x1000 x1001 (wrap64 (x1 - 1))).bind fun bt453 => (if x5.size + 1 + bt453.1.size ≤ 9223372036854775807 then (spec_l1Draw.l0 k x1 ((x5 ++ (⟨#[44]⟩ : ByteArray)) ++ bt453.1) x17 (wrap64 (x18 + 1)) x1000 bt453.2) else (none))) else (none)) else ((spec_l1Draw.f k x1000 x1001 (wrap64 (x1 - 1))).bind fun bt455 => (if x5.size + bt455.1.size ≤ 9223372036854775807 then (spec_l1Draw.l0 k x1 (x5 ++ bt455.1) x17 (wrap64 (x18 + 1)) x1000 bt455.2) else (none)))) else (if x5.size + 1 ≤ 9223372036854775807 then (some (x5 ++ (⟨#[93]⟩ : ByteArray), x1001)) else (none))
def spec_l1Draw.f : Nat → List Int → Int → Int → Option (ByteArray × Int)
  | 0, _, _, _ => none
  | k + 1, s0_0, s0_1, a1 => if a1 = 0 then ((spec_l13Rd_pick.f k s0_0 s0_1 9).bind fun bt440 => ((spec_l13Rd_num.f k s0_0 bt440.2 (([1, 0, 2, 3, bt440.1, 5, 10006, 100] : List Int))).bind fun bt445 => ((spec_l13Dec.f k bt445.1).bind fun t447 => (some (t447, bt445.2))))) else ((spec_l13Rd_num.f k s0_0 s0_1 (([2, 0, 1, 3, 4] : List Int))).bind fun bt451 => (spec_l1Draw.l0 k a1 (⟨#[91]⟩ : ByteArray) bt451.1 0 s0_0 bt451.2))
end
def spec_l1Draw.I0 (s0_0 : List Int) (s0_1 : Int) (r1 : ByteArray) (r2 : Int) (m : Nat) (σ : St) : Prop := ∃ (x1 : Int) (x5 : ByteArray) (x17 : Int) (x18 : Int) (x1001 : Int), spec_l1Draw.l0 m x1 x5 x17 x18 s0_0 x1001 = some (r1, r2) ∧ σ = ⟨[(0, .pt 0 0 0), (1, .v (.int .i64 x1)), (5, .v (.string x5)), (17, .v (.int .i64 x17)), (18, .v (.int .i64 x18))], [(0, .box 0 129 true [.sl 1 (rX (cI .u8) s0_0), .v (.int .i64 x1001)])]⟩
structure spec_l1Draw.C (k : Nat) : Prop where
 s_f : ∀ (s0_0 : List Int) (s0_1 : Int) (a1 : Int) (r1 : ByteArray) (r2 : Int), spec_l1Draw.f k s0_0 s0_1 a1 = some (r1, r2) → Ctr TE 93 (some (129, [.sl 1 (rX (cI .u8) s0_0), .v (.int .i64 s0_1)])) [.pt 0 0 0, .v (.int .i64 a1)] [.ro (.v (.string r1))] [.sl 1 (rX (cI .u8) s0_0), .v (.int .i64 r2)]
 s_l0 : ∀ (s0_0 : List Int) (s0_1 : Int) (r1 : ByteArray) (r2 : Int) (w : World) (ro : Nat → Prop) (B : Nat) (_ : Fr TE (cx0 Tryd.f93 (some (129, [.sl 1 (rX (cI .u8) s0_0), .v (.int .i64 s0_1)])) w ro B)) (x1 : Int) (x5 : ByteArray) (x17 : Int) (x18 : Int) (x1001 : Int) (_ : spec_l1Draw.l0 k x1 x5 x17 x18 s0_0 x1001 = some (r1, r2)), Kp (WS TE (cx0 Tryd.f93 (some (129, [.sl 1 (rX (cI .u8) s0_0), .v (.int .i64 s0_1)])) w ro B) (stkAt [1, 1, 1, 0, 1, 0] [] (bodyOf Tryd.f93) []) ⟨[(0, .pt 0 0 0), (1, .v (.int .i64 x1)), (5, .v (.string x5)), (17, .v (.int .i64 x17)), (18, .v (.int .i64 x18))], [(0, .box 0 129 true [.sl 1 (rX (cI .u8) s0_0), .v (.int .i64 x1001)])]⟩ (RetQ TE Tryd.f93 (some (129, [.sl 1 (rX (cI .u8) s0_0), .v (.int .i64 s0_1)])) [.ro (.v (.string r1))] [.sl 1 (rX (cI .u8) s0_0), .v (.int .i64 r2)] w ro B))
set_option maxRecDepth 100000 in
set_option maxHeartbeats 4000000 in
theorem spec_l1Draw.c_f (k : Nat) (ih : Kp (∀ m, m < k → spec_l1Draw.C m)) (s0_0 : List Int) (s0_1 : Int) (a1 : Int) (r1 : ByteArray) (r2 : Int) (h : spec_l1Draw.f k s0_0 s0_1 a1 = some (r1, r2)) : Ctr TE 93 (some (129, [.sl 1 (rX (cI .u8) s0_0), .v (.int .i64 s0_1)])) [.pt 0 0 0, .v (.int .i64 a1)] [.ro (.v (.string r1))] [.sl 1 (rX (cI .u8) s0_0), .v (.int .i64 r2)] := by
 cases k with
 | zero => simp [spec_l1Draw.f] at h
 | succ k =>
 simp only [spec_l1Draw.f] at h
 refine ctr_of (fn := Tryd.f93) (c := (bodyOf Tryd.f93)) Tryd.func93 rfl (by kernel_rfl) (Nat.le_of_ble_eq_true (by kernel_rfl)) (fun w ro B hF _ => ?_)
 by_cases c1 : a1 = 0
 · rw [if_pos c1] at h
   obtain ⟨⟨t440, t441⟩, q2, h⟩ := Option.bind_eq_some_iff.1 h
   dsimp only at h
   have q2c := spec_l13Rd_pick.ctr k _ _ _ _ _ q2
   obtain ⟨⟨t445, t446⟩, q3, h⟩ := Option.bind_eq_some_iff.1 h
   dsimp only at h
   have q3c := spec_l13Rd_num.ctr k _ _ _ _ _ q3
   obtain ⟨t447, q4, h⟩ := Option.bind_eq_some_iff.1 h
   have q4c := spec_l13Dec.ctr k _ _ q4
   refine path_ok (k := 9) hF (RetQ_mild _ _ _ _ _ _ _ _) (ds := [.b true, .r [.ro (.v (.int .i64 t440))] [.sl 1 (rX (cI .u8) s0_0), .v (.int .i64 t441)], .p 12 ([[.v (.int .i64 1)], [.v (.int .i64 0)], [.v (.int .i64 2)], [.v (.int .i64 3)], [.v (.int .i64 t440)], [.v (.int .i64 5)], [.v (.int .i64 10006)], [.v (.int .i64 100)]]), .r [.ro (.v (.int .i64 t445))] [.sl 1 (rX (cI .u8) s0_0), .v (.int .i64 t446)], .r [.ro (.v (.string t447))] []]) (os := []) (c := none) rfl KD ?_
   cases h
   exact ret_as (ms := [.ro]) rfl KD
 · rw [if_neg c1] at h
   obtain ⟨⟨t451, t452⟩, q5, h⟩ := Option.bind_eq_some_iff.1 h
   dsimp only at h
   have q5c := spec_l13Rd_num.ctr k _ _ _ _ _ q5
   refine path_ok (k := 13) hF (RetQ_mild _ _ _ _ _ _ _ _) (ds := [.b false, .p 16 ([[.v (.int .i64 2)], [.v (.int .i64 0)], [.v (.int .i64 1)], [.v (.int .i64 3)], [.v (.int .i64 4)]]), .r [.ro (.v (.int .i64 t451))] [.sl 1 (rX (cI .u8) s0_0), .v (.int .i64 t452)]]) (os := []) (c := none) rfl KD ?_
   exact WS.can [(0, some 0)] (((ih.out k (by omega)).s_l0 s0_0 s0_1 r1 r2 w ro B hF a1 (⟨#[91]⟩ : ByteArray) t451 0 t452 h).out) KD
set_option maxRecDepth 100000 in
set_option maxHeartbeats 4000000 in
theorem spec_l1Draw.c_l0 (k : Nat) (ih : Kp (∀ m, m < k → spec_l1Draw.C m)) (s0_0 : List Int) (s0_1 : Int) (r1 : ByteArray) (r2 : Int) (w : World) (ro : Nat → Prop) (B : Nat) (hF : Fr TE (cx0 Tryd.f93 (some (129, [.sl 1 (rX (cI .u8) s0_0), .v (.int .i64 s0_1)])) w ro B)) (x1 : Int) (x5 : ByteArray) (x17 : Int) (x18 : Int) (x1001 : Int) (h : spec_l1Draw.l0 k x1 x5 x17 x18 s0_0 x1001 = some (r1, r2)) : Kp (WS TE (cx0 Tryd.f93 (some (129, [.sl 1 (rX (cI .u8) s0_0), .v (.int .i64 s0_1)])) w ro B) (stkAt [1, 1, 1, 0, 1, 0] [] (bodyOf Tryd.f93) []) ⟨[(0, .pt 0 0 0), (1, .v (.int .i64 x1)), (5, .v (.string x5)), (17, .v (.int .i64 x17)), (18, .v (.int .i64 x18))], [(0, .box 0 129 true [.sl 1 (rX (cI .u8) s0_0), .v (.int .i64 x1001)])]⟩ (RetQ TE Tryd.f93 (some (129, [.sl 1 (rX (cI .u8) s0_0), .v (.int .i64 s0_1)])) [.ro (.v (.string r1))] [.sl 1 (rX (cI .u8) s0_0), .v (.int .i64 r2)] w ro B)) := by
 refine ⟨WS.loop (fun m σ => m ≤ k ∧ spec_l1Draw.I0 s0_0 s0_1 r1 r2 m σ) k ⟨Nat.le_refl k, x1, x5, x17, x18, x1001, h, rfl⟩ (fun m σ' hI J0 hJ0 => ?_)⟩
 clear h
 obtain ⟨hk, x1, x5, x17, x18, x1001, h, rfl⟩ := hI
 cases m with
 | zero => simp [spec_l1Draw.l0] at h
 | succ k' =>
 simp only [spec_l1Draw.l0] at h
 by_cases c6 : x18 < x17
 · rw [if_pos c6] at h
   by_cases c7 : x18 > 0
   · rw [if_pos c7] at h
     by_cases c8 : x5.size + 1 ≤ 9223372036854775807
     · rw [if_pos c8] at h
       obtain ⟨⟨t453, t454⟩, q9, h⟩ := Option.bind_eq_some_iff.1 h
       dsimp only at h
       have q9c := (ih.out k' (by omega)).s_f _ _ _ _ _ q9
       by_cases c10 : x5.size + 1 + t453.size ≤ 9223372036854775807
       · rw [if_pos c10] at h
         refine path_ok (k := 17) hF (RetQ_mild _ _ _ _ _ _ _ _) (ds := [.b true, .b true, .r [.ro (.v (.string t453))] [.sl 1 (rX (cI .u8) s0_0), .v (.int .i64 t454)]]) (os := []) (c := none) rfl KD ?_
         exact WS.lpc [(0, some 0)] (hJ0 _ _ (Nat.lt_succ_self _) ⟨by omega, x1, ((x5 ++ (⟨#[44]⟩ : ByteArray)) ++ t453), x17, (wrap64 (x18 + 1)), t454, h, rfl⟩) KD
       · rw [if_neg c10] at h
         cases h
     · rw [if_neg c8] at h
       cases h
   · rw [if_neg c7] at h
     obtain ⟨⟨t455, t456⟩, q11, h⟩ := Option.bind_eq_some_iff.1 h
     dsimp only at h
     have q11c := (ih.out k' (by omega)).s_f _ _ _ _ _ q11
     by_cases c12 : x5.size + t455.size ≤ 9223372036854775807
     · rw [if_pos c12] at h
       refine path_ok (k := 17) hF (RetQ_mild _ _ _ _ _ _ _ _) (ds := [.b true, .b false, .r [.ro (.v (.string t455))] [.sl 1 (rX (cI .u8) s0_0), .v (.int .i64 t456)]]) (os := []) (c := none) rfl KD ?_
       exact WS.lpc [(0, some 0)] (hJ0 _ _ (Nat.lt_succ_self _) ⟨by omega, x1, (x5 ++ t455), x17, (wrap64 (x18 + 1)), t456, h, rfl⟩) KD
     · rw [if_neg c12] at h
       cases h
 · rw [if_neg c6] at h
   by_cases c13 : x5.size + 1 ≤ 9223372036854775807
   · rw [if_pos c13] at h
     refine path_ok (k := 8) hF (RetQ_mild _ _ _ _ _ _ _ _) (ds := [.b false]) (os := []) (c := none) rfl KD ?_
     cases h
     exact ret_as (ms := [.ro]) rfl KD
   · rw [if_neg c13] at h
     cases h
theorem spec_l1Draw.cs (k : Nat) : spec_l1Draw.C k := by
 induction k using Nat.strongRecOn with
 | _ k ih0 =>
 have ih : Kp (∀ m, m < k → spec_l1Draw.C m) := ⟨ih0⟩
 exact ⟨spec_l1Draw.c_f k ih, spec_l1Draw.c_l0 k ih⟩
theorem spec_l1Draw.ctr (k : Nat) (s0_0 : List Int) (s0_1 : Int) (a1 : Int) (r1 : ByteArray) (r2 : Int) (h : spec_l1Draw.f k s0_0 s0_1 a1 = some (r1, r2)) : Ctr TE 93 (some (129, [.sl 1 (rX (cI .u8) s0_0), .v (.int .i64 s0_1)])) [.pt 0 0 0, .v (.int .i64 a1)] [.ro (.v (.string r1))] [.sl 1 (rX (cI .u8) s0_0), .v (.int .i64 r2)] := (spec_l1Draw.cs k).s_f s0_0 s0_1 a1 r1 r2 h
def spec_l3Numbers.l0 : Nat → List Int → Int → Int → Option (Bool)
  | 0, _, _, _ => none
  | k + 1, x5, x6, x7 => if x7 < x6 then (if 0 ≤ x7 then (if x7 < (x5.length : Int) then ((spec_l1In.f (rd x5 x7) 0 10006).bind fun t458 => (if t458 = true then (spec_l3Numbers.l0 k x5 x6 (wrap64 (x7 + 1))) else (some false))) else (none)) else (none)) else (some true)
def spec_l3Numbers.f (k : Nat) (l0 : List Int) : Option (Bool) := spec_l3Numbers.l0 k l0 (l0.length : Int) 0
def spec_l3Numbers.I0 (r : Bool) (m : Nat) (σ : St) : Prop := ∃ (x5 : List Int) (x6 : Int) (x7 : Int), spec_l3Numbers.l0 m x5 x6 x7 = some r ∧ σ = ⟨[(5, .sl 1 (rX (cI .i64) x5)), (6, .v (.int .i64 x6)), (7, .v (.int .i64 x7))], []⟩
structure spec_l3Numbers.C (k : Nat) : Prop where
 s_l0 : ∀ (r : Bool) (w : World) (ro : Nat → Prop) (B : Nat) (_ : Fr TE (cx0 Tryd.f151 none w ro B)) (x5 : List Int) (x6 : Int) (x7 : Int) (_ : spec_l3Numbers.l0 k x5 x6 x7 = some r), Kp (WS TE (cx0 Tryd.f151 none w ro B) (stkAt [1, 0, 1, 0] [] (bodyOf Tryd.f151) []) ⟨[(5, .sl 1 (rX (cI .i64) x5)), (6, .v (.int .i64 x6)), (7, .v (.int .i64 x7))], []⟩ (RetQ TE Tryd.f151 none [.ro (.v (.bool r))] [] w ro B))
set_option maxRecDepth 100000 in
set_option maxHeartbeats 4000000 in
theorem spec_l3Numbers.c_l0 (k : Nat) (ih : Kp (∀ m, m < k → spec_l3Numbers.C m)) (r : Bool) (w : World) (ro : Nat → Prop) (B : Nat) (hF : Fr TE (cx0 Tryd.f151 none w ro B)) (x5 : List Int) (x6 : Int) (x7 : Int) (h : spec_l3Numbers.l0 k x5 x6 x7 = some r) : Kp (WS TE (cx0 Tryd.f151 none w ro B) (stkAt [1, 0, 1, 0] [] (bodyOf Tryd.f151) []) ⟨[(5, .sl 1 (rX (cI .i64) x5)), (6, .v (.int .i64 x6)), (7, .v (.int .i64 x7))], []⟩ (RetQ TE Tryd.f151 none [.ro (.v (.bool r))] [] w ro B)) := by
 refine ⟨WS.loop (fun m σ => m ≤ k ∧ spec_l3Numbers.I0 r m σ) k ⟨Nat.le_refl k, x5, x6, x7, h, rfl⟩ (fun m σ' hI J0 hJ0 => ?_)⟩
 clear h
 obtain ⟨hk, x5, x6, x7, h, rfl⟩ := hI
 cases m with
 | zero => simp [spec_l3Numbers.l0] at h
 | succ k' =>
 simp only [spec_l3Numbers.l0] at h
 by_cases c1 : x7 < x6
 · rw [if_pos c1] at h
   by_cases c2 : 0 ≤ x7
   · rw [if_pos c2] at h
     by_cases c3 : x7 < (x5.length : Int)
     · rw [if_pos c3] at h
       obtain ⟨t458, q4, h⟩ := Option.bind_eq_some_iff.1 h
       have q4c := spec_l1In.ctr _ _ _ _ q4
       by_cases c5 : t458 = true
       · rw [if_pos c5] at h
         refine path_ok (k := 15) hF (RetQ_mild _ _ _ _ _ _ _ _) (ds := [.b true, .e 9 (.rf [.v (.int .i64 (rd x5 x7))]), .r [.ro (.v (.bool t458))] [], .b false]) (os := []) (c := none) rfl KD ?_
         exact WS.lpc [] (hJ0 _ _ (Nat.lt_succ_self _) ⟨by omega, x5, x6, (wrap64 (x7 + 1)), h, rfl⟩) KD
       · rw [if_neg c5] at h
         refine path_ok (k := 15) hF (RetQ_mild _ _ _ _ _ _ _ _) (ds := [.b true, .e 9 (.rf [.v (.int .i64 (rd x5 x7))]), .r [.ro (.v (.bool t458))] [], .b true]) (os := []) (c := none) rfl KD ?_
         cases h
         exact ret_as (ms := [.ro]) rfl KD
     · rw [if_neg c3] at h
       cases h
   · rw [if_neg c2] at h
     cases h
 · rw [if_neg c1] at h
   refine path_ok (k := 8) hF (RetQ_mild _ _ _ _ _ _ _ _) (ds := [.b false]) (os := []) (c := none) rfl KD ?_
   cases h
   exact ret_as (ms := [.ro]) rfl KD
theorem spec_l3Numbers.cs (k : Nat) : spec_l3Numbers.C k := by
 induction k using Nat.strongRecOn with
 | _ k ih0 =>
 have ih : Kp (∀ m, m < k → spec_l3Numbers.C m) := ⟨ih0⟩
 exact ⟨spec_l3Numbers.c_l0 k ih⟩
set_option maxRecDepth 100000 in
set_option maxHeartbeats 4000000 in
theorem spec_l3Numbers.ctr (k : Nat) (l0 : List Int) (r : Bool) (h : spec_l3Numbers.f k l0 = some r) : Ctr TE 151 none [.sl 1 (rX (cI .i64) l0)] [.ro (.v (.bool r))] [] := by
 refine ctr_of (fn := Tryd.f151) (c := (bodyOf Tryd.f151)) Tryd.func151 rfl (by kernel_rfl) (Nat.le_of_ble_eq_true (by kernel_rfl)) (fun w ro B hF _ => ?_)
 have ih : Kp (∀ m, m < k + 1 → spec_l3Numbers.C m) := ⟨fun m _ => spec_l3Numbers.cs m⟩
 simp only [spec_l3Numbers.f] at h
 refine path_ok (k := 6) hF (RetQ_mild _ _ _ _ _ _ _ _) (ds := [.e 6 (.v (.int .i64 (l0.length : Int)))]) (os := []) (c := none) rfl KD ?_
 exact WS.can [] (((ih.out k (by omega)).s_l0  r w ro B hF l0 (l0.length : Int) 0 h).out) KD
def spec_l4Data.f (k : Nat) (l0 : List Int) : Option (Bool) := (spec_l3Numbers.f k l0).bind fun t459 => (if t459 = true then (some (decide ((l0.length : Int) ≤ 400))) else (some false))
set_option maxRecDepth 100000 in
set_option maxHeartbeats 4000000 in
theorem spec_l4Data.ctr (k : Nat) (l0 : List Int) (r : Bool) (h : spec_l4Data.f k l0 = some r) : Ctr TE 132 none [.sl 1 (rX (cI .i64) l0)] [.ro (.v (.bool r))] [] := by
 refine ctr_of (fn := Tryd.f132) (c := (bodyOf Tryd.f132)) Tryd.func132 rfl (by kernel_rfl) (Nat.le_of_ble_eq_true (by kernel_rfl)) (fun w ro B hF _ => ?_)
 simp only [spec_l4Data.f] at h
 obtain ⟨t459, q1, h⟩ := Option.bind_eq_some_iff.1 h
 have q1c := spec_l3Numbers.ctr k _ _ q1
 by_cases c2 : t459 = true
 · rw [if_pos c2] at h
   refine path_ok (k := 5) hF (RetQ_mild _ _ _ _ _ _ _ _) (ds := [.r [.ro (.v (.bool t459))] [], .b true, .b true, .e 7 (.v (.int .i64 (l0.length : Int))), .b true, .b true]) (os := []) (c := none) rfl KD ?_
   cases h
   exact ret_as (ms := [.ro]) rfl KD
 · rw [if_neg c2] at h
   refine path_ok (k := 5) hF (RetQ_mild _ _ _ _ _ _ _ _) (ds := [.r [.ro (.v (.bool t459))] [], .b false, .b false, .b false, .b false]) (os := []) (c := none) rfl KD ?_
   cases h
   exact ret_as (ms := [.ro]) rfl KD
def spec_l11Product.l0 : Nat → Int → List Int → Int → Int → Option (Int)
  | 0, _, _, _, _ => none
  | k + 1, x3, x6, x7, x8 => if x8 < x7 then (if 0 ≤ x8 then (if x8 < (x6.length : Int) then (spec_l11Product.l0 k (mn (wrap64 (x3 * (rd x6 x8))) 401) x6 x7 (wrap64 (x8 + 1))) else (none)) else (none)) else (some x3)
def spec_l11Product.f (k : Nat) (l0 : List Int) : Option (Int) := spec_l11Product.l0 k 1 l0 (l0.length : Int) 0
def spec_l11Product.I0 (r : Int) (m : Nat) (σ : St) : Prop := ∃ (x3 : Int) (x6 : List Int) (x7 : Int) (x8 : Int), spec_l11Product.l0 m x3 x6 x7 x8 = some r ∧ σ = ⟨[(3, .v (.int .i64 x3)), (6, .sl 1 (rX (cI .i64) x6)), (7, .v (.int .i64 x7)), (8, .v (.int .i64 x8))], []⟩
structure spec_l11Product.C (k : Nat) : Prop where
 s_l0 : ∀ (r : Int) (w : World) (ro : Nat → Prop) (B : Nat) (_ : Fr TE (cx0 Tryd.f133 none w ro B)) (x3 : Int) (x6 : List Int) (x7 : Int) (x8 : Int) (_ : spec_l11Product.l0 k x3 x6 x7 x8 = some r), Kp (WS TE (cx0 Tryd.f133 none w ro B) (stkAt [1, 1, 0, 1, 0] [] (bodyOf Tryd.f133) []) ⟨[(3, .v (.int .i64 x3)), (6, .sl 1 (rX (cI .i64) x6)), (7, .v (.int .i64 x7)), (8, .v (.int .i64 x8))], []⟩ (RetQ TE Tryd.f133 none [.ro (.v (.int .i64 r))] [] w ro B))
set_option maxRecDepth 100000 in
set_option maxHeartbeats 4000000 in
theorem spec_l11Product.c_l0 (k : Nat) (ih : Kp (∀ m, m < k → spec_l11Product.C m)) (r : Int) (w : World) (ro : Nat → Prop) (B : Nat) (hF : Fr TE (cx0 Tryd.f133 none w ro B)) (x3 : Int) (x6 : List Int) (x7 : Int) (x8 : Int) (h : spec_l11Product.l0 k x3 x6 x7 x8 = some r) : Kp (WS TE (cx0 Tryd.f133 none w ro B) (stkAt [1, 1, 0, 1, 0] [] (bodyOf Tryd.f133) []) ⟨[(3, .v (.int .i64 x3)), (6, .sl 1 (rX (cI .i64) x6)), (7, .v (.int .i64 x7)), (8, .v (.int .i64 x8))], []⟩ (RetQ TE Tryd.f133 none [.ro (.v (.int .i64 r))] [] w ro B)) := by
 refine ⟨WS.loop (fun m σ => m ≤ k ∧ spec_l11Product.I0 r m σ) k ⟨Nat.le_refl k, x3, x6, x7, x8, h, rfl⟩ (fun m σ' hI J0 hJ0 => ?_)⟩
 clear h
 obtain ⟨hk, x3, x6, x7, x8, h, rfl⟩ := hI
 cases m with
 | zero => simp [spec_l11Product.l0] at h
 | succ k' =>
 simp only [spec_l11Product.l0] at h
 by_cases c1 : x8 < x7
 · rw [if_pos c1] at h
   by_cases c2 : 0 ≤ x8
   · rw [if_pos c2] at h
     by_cases c3 : x8 < (x6.length : Int)
     · rw [if_pos c3] at h
       refine path_ok (k := 12) hF (RetQ_mild _ _ _ _ _ _ _ _) (ds := [.b true, .e 10 (.rf [.v (.int .i64 (rd x6 x8))])]) (os := []) (c := none) rfl KD ?_
       exact WS.lpc [] (hJ0 _ _ (Nat.lt_succ_self _) ⟨by omega, (mn (wrap64 (x3 * (rd x6 x8))) 401), x6, x7, (wrap64 (x8 + 1)), h, rfl⟩) KD
     · rw [if_neg c3] at h
       cases h
   · rw [if_neg c2] at h
     cases h
 · rw [if_neg c1] at h
   refine path_ok (k := 8) hF (RetQ_mild _ _ _ _ _ _ _ _) (ds := [.b false]) (os := []) (c := none) rfl KD ?_
   cases h
   exact ret_as (ms := [.ro]) rfl KD
theorem spec_l11Product.cs (k : Nat) : spec_l11Product.C k := by
 induction k using Nat.strongRecOn with
 | _ k ih0 =>
 have ih : Kp (∀ m, m < k → spec_l11Product.C m) := ⟨ih0⟩
 exact ⟨spec_l11Product.c_l0 k ih⟩
set_option maxRecDepth 100000 in
set_option maxHeartbeats 4000000 in
theorem spec_l11Product.ctr (k : Nat) (l0 : List Int) (r : Int) (h : spec_l11Product.f k l0 = some r) : Ctr TE 133 none [.sl 1 (rX (cI .i64) l0)] [.ro (.v (.int .i64 r))] [] := by
 refine ctr_of (fn := Tryd.f133) (c := (bodyOf Tryd.f133)) Tryd.func133 rfl (by kernel_rfl) (Nat.le_of_ble_eq_true (by kernel_rfl)) (fun w ro B hF _ => ?_)
 have ih : Kp (∀ m, m < k + 1 → spec_l11Product.C m) := ⟨fun m _ => spec_l11Product.cs m⟩
 simp only [spec_l11Product.f] at h
 refine path_ok (k := 8) hF (RetQ_mild _ _ _ _ _ _ _ _) (ds := [.e 7 (.v (.int .i64 (l0.length : Int)))]) (os := []) (c := none) rfl KD ?_
 exact WS.can [] (((ih.out k (by omega)).s_l0  r w ro B hF 1 l0 (l0.length : Int) 0 h).out) KD
mutual
def spec_l11Fill.l0 : Nat → List Int → List Int → Int → Int → Int → List (S95) → Option (Int × (List (S95)) × List Int)
  | 0, _, _, _, _, _, _ => none
  | k + 1, x0, x1, x23, x24, x466000, x466001 => if x24 < x23 then (if 1 ≤ (x0.length : Int) then ((spec_l11Fill.f k (x0.drop 1) x1).bind fun bt474 => (if x466001.length < 4398046511104 then (spec_l11Fill.l0 k x0 bt474.2.2 x23 (wrap64 (x24 + 1)) x466000 (x466001 ++ [(⟨bt474.1, bt474.2.1⟩ : S95)])) else (none))) else (none)) else (some (x466000, x466001, x1))
def spec_l11Fill.f : Nat → List Int → List Int → Option (Int × (List (S95)) × List Int)
  | 0, _, _ => none
  | k + 1, l0, l1 => (some (([] : List (S95)) : List (S95))).bind fun y462 => (if (l0.length : Int) = 0 then (if 0 < (l1.length : Int) then (if 1 ≤ (l1.length : Int) then (some (rd l1 0, y462, (l1.drop 1))) else (none)) else (none)) else (if 0 < (l0.length : Int) then (spec_l11Fill.l0 k l0 l1 (rd l0 0) 0 0 y462) else (none)))
end
def spec_l11Fill.I0 (r1 : Int) (r2 : List (S95)) (r3 : List Int) (m : Nat) (σ : St) : Prop := ∃ (x0 : List Int) (x1 : List Int) (x23 : Int) (x24 : Int) (x462000 : Int) (x466000 : Int) (x466001 : List (S95)), spec_l11Fill.l0 m x0 x1 x23 x24 x466000 x466001 = some (r1, r2, r3) ∧ σ = ⟨[(0, .sl 1 (rX (cI .i64) x0)), (1, .sl 1 (rX (cI .i64) x1)), (4, .pt 1004 0 0), (6, .pt 1006 0 0), (23, .v (.int .i64 x23)), (24, .v (.int .i64 x24))], [(1004, .box 0 95 false [.v (.int .i64 x462000), .v (.slice none 0 0)]), (3385, .own 0 95 2 (r95 x466001)), (1006, .box 0 95 false [.v (.int .i64 x466000), .ow 3385 0])]⟩
structure spec_l11Fill.C (k : Nat) : Prop where
 s_f : ∀ (l0 : List Int) (l1 : List Int) (r1 : Int) (r2 : List (S95)) (r3 : List Int), spec_l11Fill.f k l0 l1 = some (r1, r2, r3) → Ctr TE 134 none [.sl 1 (rX (cI .i64) l0), .sl 1 (rX (cI .i64) l1)] [.ro (.ag [.v (.int .i64 r1), .sl 2 (r95 r2)]), .ro (.sl 1 (rX (cI .i64) r3))] []
 s_l0 : ∀ (r1 : Int) (r2 : List (S95)) (r3 : List Int) (w : World) (ro : Nat → Prop) (B : Nat) (_ : Fr TE (cx0 Tryd.f134 none w ro B)) (x0 : List Int) (x1 : List Int) (x23 : Int) (x24 : Int) (x462000 : Int) (x466000 : Int) (x466001 : List (S95)) (_ : spec_l11Fill.l0 k x0 x1 x23 x24 x466000 x466001 = some (r1, r2, r3)), Kp (WS TE (cx0 Tryd.f134 none w ro B) (stkAt [1, 1, 1, 0, 1, 0] [] (bodyOf Tryd.f134) []) ⟨[(0, .sl 1 (rX (cI .i64) x0)), (1, .sl 1 (rX (cI .i64) x1)), (4, .pt 1004 0 0), (6, .pt 1006 0 0), (23, .v (.int .i64 x23)), (24, .v (.int .i64 x24))], [(1004, .box 0 95 false [.v (.int .i64 x462000), .v (.slice none 0 0)]), (3385, .own 0 95 2 (r95 x466001)), (1006, .box 0 95 false [.v (.int .i64 x466000), .ow 3385 0])]⟩ (RetQ TE Tryd.f134 none [.ro (.ag [.v (.int .i64 r1), .sl 2 (r95 r2)]), .ro (.sl 1 (rX (cI .i64) r3))] [] w ro B))
set_option maxRecDepth 100000 in
set_option maxHeartbeats 4000000 in
theorem spec_l11Fill.c_f (k : Nat) (ih : Kp (∀ m, m < k → spec_l11Fill.C m)) (l0 : List Int) (l1 : List Int) (r1 : Int) (r2 : List (S95)) (r3 : List Int) (h : spec_l11Fill.f k l0 l1 = some (r1, r2, r3)) : Ctr TE 134 none [.sl 1 (rX (cI .i64) l0), .sl 1 (rX (cI .i64) l1)] [.ro (.ag [.v (.int .i64 r1), .sl 2 (r95 r2)]), .ro (.sl 1 (rX (cI .i64) r3))] [] := by
 cases k with
 | zero => simp [spec_l11Fill.f] at h
 | succ k =>
 simp only [spec_l11Fill.f] at h
 refine ctr_of (fn := Tryd.f134) (c := (bodyOf Tryd.f134)) Tryd.func134 rfl (by kernel_rfl) (Nat.le_of_ble_eq_true (by kernel_rfl)) (fun w ro B hF _ => ?_)
 obtain ⟨y462, hy462, h⟩ := Option.bind_eq_some_iff.1 h
 cases hy462
 by_cases c1 : (l0.length : Int) = 0
 · rw [if_pos c1] at h
   by_cases c2 : 0 < (l1.length : Int)
   · rw [if_pos c2] at h
     by_cases c3 : 1 ≤ (l1.length : Int)
     · rw [if_pos c3] at h
       refine path_ok (k := 13) hF (RetQ_mild _ _ _ _ _ _ _ _) (ds := [.p 9 ([]), .e 12 (.v (.int .i64 (l0.length : Int))), .b true, .e 15 (.rf [.v (.int .i64 (rd l1 0))]), .e 20 (.sl 1 (rX (cI .i64) (l1.drop 1)))]) (os := [.o [(0, 1), (1, 0), (2, 0), (3, 2), (4, 0)] [3]]) (c := none) rfl KD ?_
       cases h
       exact ret_as (ms := [.ro, .ro]) rfl KD
     · rw [if_neg c3] at h
       cases h
   · rw [if_neg c2] at h
     cases h
 · rw [if_neg c1] at h
   by_cases c4 : 0 < (l0.length : Int)
   · rw [if_pos c4] at h
     refine path_ok (k := 13) hF (RetQ_mild _ _ _ _ _ _ _ _) (ds := [.p 9 ([]), .e 12 (.v (.int .i64 (l0.length : Int))), .b false, .e 22 (.rf [.v (.int .i64 (rd l0 0))])]) (os := []) (c := none) rfl KD ?_
     exact WS.can [(1004, some 4), (1006, some 6), (3385, some 9)] (((ih.out k (by omega)).s_l0  r1 r2 r3 w ro B hF l0 l1 (rd l0 0) 0 0 0 (([] : List (S95))) h).out) KD
   · rw [if_neg c4] at h
     cases h
set_option maxRecDepth 100000 in
set_option maxHeartbeats 4000000 in
theorem spec_l11Fill.c_l0 (k : Nat) (ih : Kp (∀ m, m < k → spec_l11Fill.C m)) (r1 : Int) (r2 : List (S95)) (r3 : List Int) (w : World) (ro : Nat → Prop) (B : Nat) (hF : Fr TE (cx0 Tryd.f134 none w ro B)) (x0 : List Int) (x1 : List Int) (x23 : Int) (x24 : Int) (x462000 : Int) (x466000 : Int) (x466001 : List (S95)) (h : spec_l11Fill.l0 k x0 x1 x23 x24 x466000 x466001 = some (r1, r2, r3)) : Kp (WS TE (cx0 Tryd.f134 none w ro B) (stkAt [1, 1, 1, 0, 1, 0] [] (bodyOf Tryd.f134) []) ⟨[(0, .sl 1 (rX (cI .i64) x0)), (1, .sl 1 (rX (cI .i64) x1)), (4, .pt 1004 0 0), (6, .pt 1006 0 0), (23, .v (.int .i64 x23)), (24, .v (.int .i64 x24))], [(1004, .box 0 95 false [.v (.int .i64 x462000), .v (.slice none 0 0)]), (3385, .own 0 95 2 (r95 x466001)), (1006, .box 0 95 false [.v (.int .i64 x466000), .ow 3385 0])]⟩ (RetQ TE Tryd.f134 none [.ro (.ag [.v (.int .i64 r1), .sl 2 (r95 r2)]), .ro (.sl 1 (rX (cI .i64) r3))] [] w ro B)) := by
 refine ⟨WS.loop (fun m σ => m ≤ k ∧ spec_l11Fill.I0 r1 r2 r3 m σ) k ⟨Nat.le_refl k, x0, x1, x23, x24, x462000, x466000, x466001, h, rfl⟩ (fun m σ' hI J0 hJ0 => ?_)⟩
 clear h
 obtain ⟨hk, x0, x1, x23, x24, x462000, x466000, x466001, h, rfl⟩ := hI
 cases m with
 | zero => simp [spec_l11Fill.l0] at h
 | succ k' =>
 simp only [spec_l11Fill.l0] at h
 by_cases c5 : x24 < x23
 · rw [if_pos c5] at h
   by_cases c6 : 1 ≤ (x0.length : Int)
   · rw [if_pos c6] at h
     obtain ⟨⟨t474, t475, t478⟩, q7, h⟩ := Option.bind_eq_some_iff.1 h
     dsimp only at h
     have q7c := (ih.out k' (by omega)).s_f _ _ _ _ _ q7
     by_cases c8 : x466001.length < 4398046511104
     · rw [if_pos c8] at h
       refine path_ok (k := 14) hF (RetQ_mild _ _ _ _ _ _ _ _) (ds := [.b true, .e 28 (.sl 1 (rX (cI .i64) (x0.drop 1))), .r [.ro (.ag [.v (.int .i64 t474), .sl 2 (r95 t475)]), .ro (.sl 1 (rX (cI .i64) t478))] [], .p 36 ([[.v (.int .i64 t474), .sl 2 (r95 t475)]]), .o 37 (r95 (x466001 ++ [(⟨t474, t475⟩ : S95)]))]) (os := []) (c := none) rfl KD ?_
       exact WS.lpc [(1004, some 1004), (1006, some 1006), (3385, some 3385)] (hJ0 _ _ (Nat.lt_succ_self _) ⟨by omega, x0, t478, x23, (wrap64 (x24 + 1)), x462000, x466000, (x466001 ++ [(⟨t474, t475⟩ : S95)]), h, rfl⟩) KD
     · rw [if_neg c8] at h
       cases h
   · rw [if_neg c6] at h
     cases h
 · rw [if_neg c5] at h
   refine path_ok (k := 8) hF (RetQ_mild _ _ _ _ _ _ _ _) (ds := [.b false]) (os := []) (c := none) rfl KD ?_
   cases h
   exact ret_as (ms := [.ro, .ro]) rfl KD
theorem spec_l11Fill.cs (k : Nat) : spec_l11Fill.C k := by
 induction k using Nat.strongRecOn with
 | _ k ih0 =>
 have ih : Kp (∀ m, m < k → spec_l11Fill.C m) := ⟨ih0⟩
 exact ⟨spec_l11Fill.c_f k ih, spec_l11Fill.c_l0 k ih⟩
theorem spec_l11Fill.ctr (k : Nat) (l0 : List Int) (l1 : List Int) (r1 : Int) (r2 : List (S95)) (r3 : List Int) (h : spec_l11Fill.f k l0 l1 = some (r1, r2, r3)) : Ctr TE 134 none [.sl 1 (rX (cI .i64) l0), .sl 1 (rX (cI .i64) l1)] [.ro (.ag [.v (.int .i64 r1), .sl 2 (r95 r2)]), .ro (.sl 1 (rX (cI .i64) r3))] [] := (spec_l11Fill.cs k).s_f l0 l1 r1 r2 r3 h
end Go.Proofs.YtmjoigpnnechgaaDoor.U
