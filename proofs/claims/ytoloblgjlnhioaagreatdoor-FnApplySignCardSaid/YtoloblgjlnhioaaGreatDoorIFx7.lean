/- A part of the claim. -/
import Derived.Test.YtoloblgjlnhioaaGreatDoorIFx0
import Derived.Test.YtoloblgjlnhioaaGreatDoorIFx2
import Derived.Test.YtoloblgjlnhioaaGreatDoorIFx3
import Derived.Test.YtoloblgjlnhioaaGreatDoorIFSgw
-- PRINTED by print.py (a twelfth state) out of the translation. Not trusted: Lean checks it.
namespace Go.Proofs.YtoloblgjlnhioaaGreatDoor.I
open Go.RowKit Go.Proofs.YtoloblgjlnhioaaGreatDoorW.St Go.Proofs.YtoloblgjlnhioaaGreatDoorW.PrintWords Go.Proofs.YtoloblgjlnhioaaGreatDoorW.PrintLast Go.Proofs.YtoloblgjlnhioaaGreatDoorW.PrintMore
attribute [local go_sem] max2_int min2_int max_two min_two max_three min_three max_four min_four   -- for this text's walks alone
set_option linter.unusedVariables false
set_option linter.unusedSimpArgs false
mutual
def impl_arr_numbers.l0 : Nat → Int → List Int → List (S68) → Int → Int → Option (List Int)
  | 0, _, _, _, _, _ => none
  | k + 1, x1, x5, x15, x16, x17 => if x17 < x16 then (if 0 ≤ x17 then (if x17 < (x15.length : Int) then ((impl_arr_numbers.f k ((rd_T68 x15 x17).f0) ((rd_T68 x15 x17).f1) (wrap64 (x1 - 1))).bind fun t506 => (if x5.length + t506.length < 17592186044416 then (impl_arr_numbers.l0 k x1 (x5 ++ t506) x15 x16 (wrap64 (x17 + 1))) else (none))) else (none)) else (none)) else (some x5)
def impl_arr_numbers.f : Nat → Int → List (S68) → Int → Option (List Int)
  | 0, _, _, _ => none
  | k + 1, a0_0, l0_1, a1 => if a1 = 0 then (some (([a0_0] : List Int))) else (impl_arr_numbers.l0 k a1 (([] : List Int)) l0_1 (l0_1.length : Int) 0)
end
def impl_arr_numbers.I0 (r : List Int) (m : Nat) (σ : St) : Prop := ∃ (x1 : Int) (x5 : List Int) (x15 : List (S68)) (x16 : Int) (x17 : Int), impl_arr_numbers.l0 m x1 x5 x15 x16 x17 = some r ∧ σ = ⟨[(1, .v (.int .i64 x1)), (5, .ow 1005 0), (15, .sl 2 (r68 x15)), (16, .v (.int .i64 x16)), (17, .v (.int .i64 x17))], [(1005, .own 0 3 1 (rX (cI .i64) x5))]⟩
structure impl_arr_numbers.C (k : Nat) : Prop where
 s_f : ∀ (a0_0 : Int) (l0_1 : List (S68)) (a1 : Int) (r : List Int), impl_arr_numbers.f k a0_0 l0_1 a1 = some r → Ctr TE 65 none [.ag [.v (.int .i64 a0_0), .sl 2 (r68 l0_1)], .v (.int .i64 a1)] [.ro (.sl 1 (rX (cI .i64) r))] []
 s_l0 : ∀ (r : List Int) (w : World) (ro : Nat → Prop) (B : Nat) (_ : Fr TE (cx0 Tryz.f65 none w ro B)) (x1 : Int) (x5 : List Int) (x15 : List (S68)) (x16 : Int) (x17 : Int) (_ : impl_arr_numbers.l0 k x1 x5 x15 x16 x17 = some r), Kp (WS TE (cx0 Tryz.f65 none w ro B) (stkAt [1, 1, 1, 0, 1, 0] [] (bodyOf Tryz.f65) []) ⟨[(1, .v (.int .i64 x1)), (5, .ow 1005 0), (15, .sl 2 (r68 x15)), (16, .v (.int .i64 x16)), (17, .v (.int .i64 x17))], [(1005, .own 0 3 1 (rX (cI .i64) x5))]⟩ (RetQ TE Tryz.f65 none [.ro (.sl 1 (rX (cI .i64) r))] [] w ro B))
set_option maxRecDepth 100000 in
set_option maxHeartbeats 4000000 in
theorem impl_arr_numbers.c_f (k : Nat) (ih : Kp (∀ m, m < k → impl_arr_numbers.C m)) (a0_0 : Int) (l0_1 : List (S68)) (a1 : Int) (r : List Int) (h : impl_arr_numbers.f k a0_0 l0_1 a1 = some r) : Ctr TE 65 none [.ag [.v (.int .i64 a0_0), .sl 2 (r68 l0_1)], .v (.int .i64 a1)] [.ro (.sl 1 (rX (cI .i64) r))] [] := by
 cases k with
 | zero => simp [impl_arr_numbers.f] at h
 | succ k =>
 simp only [impl_arr_numbers.f] at h
 refine ctr_of (fn := Tryz.f65) (c := (bodyOf Tryz.f65)) Tryz.func65 rfl (by kernel_rfl) (Nat.le_of_ble_eq_true (by kernel_rfl)) (fun w ro B hF _ => ?_)
 by_cases c1 : a1 = 0
 · rw [if_pos c1] at h
   refine path_ok (k := 9) hF (RetQ_mild _ _ _ _ _ _ _ _) (ds := [.b true, .p 12 ([[.v (.int .i64 a0_0)]])]) (os := []) (c := none) rfl KD ?_
   cases h
   exact ret_as (ms := [.ro]) rfl KD
 · rw [if_neg c1] at h
   refine path_ok (k := 13) hF (RetQ_mild _ _ _ _ _ _ _ _) (ds := [.b false, .p 13 ([]), .e 16 (.v (.int .i64 (l0_1.length : Int)))]) (os := []) (c := none) rfl KD ?_
   exact WS.can [(1005, some 13)] (((ih.out k (by omega)).s_l0  r w ro B hF a1 (([] : List Int)) l0_1 (l0_1.length : Int) 0 h).out) KD
set_option maxRecDepth 100000 in
set_option maxHeartbeats 4000000 in
theorem impl_arr_numbers.c_l0 (k : Nat) (ih : Kp (∀ m, m < k → impl_arr_numbers.C m)) (r : List Int) (w : World) (ro : Nat → Prop) (B : Nat) (hF : Fr TE (cx0 Tryz.f65 none w ro B)) (x1 : Int) (x5 : List Int) (x15 : List (S68)) (x16 : Int) (x17 : Int) (h : impl_arr_numbers.l0 k x1 x5 x15 x16 x17 = some r) : Kp (WS TE (cx0 Tryz.f65 none w ro B) (stkAt [1, 1, 1, 0, 1, 0] [] (bodyOf Tryz.f65) []) ⟨[(1, .v (.int .i64 x1)), (5, .ow 1005 0), (15, .sl 2 (r68 x15)), (16, .v (.int .i64 x16)), (17, .v (.int .i64 x17))], [(1005, .own 0 3 1 (rX (cI .i64) x5))]⟩ (RetQ TE Tryz.f65 none [.ro (.sl 1 (rX (cI .i64) r))] [] w ro B)) := by
 refine ⟨WS.loop (fun m σ => m ≤ k ∧ impl_arr_numbers.I0 r m σ) k ⟨Nat.le_refl k, x1, x5, x15, x16, x17, h, rfl⟩ (fun m σ' hI J0 hJ0 => ?_)⟩
 clear h
 obtain ⟨hk, x1, x5, x15, x16, x17, h, rfl⟩ := hI
 cases m with
 | zero => simp [impl_arr_numbers.l0] at h
 | succ k' =>
 simp only [impl_arr_numbers.l0] at h
 by_cases c2 : x17 < x16
 · rw [if_pos c2] at h
   by_cases c3 : 0 ≤ x17
   · rw [if_pos c3] at h
     by_cases c4 : x17 < (x15.length : Int)
     · rw [if_pos c4] at h
       obtain ⟨t506, q5, h⟩ := Option.bind_eq_some_iff.1 h
       have q5c := (ih.out k' (by omega)).s_f _ _ _ _ q5
       by_cases c6 : x5.length + t506.length < 17592186044416
       · rw [if_pos c6] at h
         refine path_ok (k := 12) hF (RetQ_mild _ _ _ _ _ _ _ _) (ds := [.b true, .e 19 (.rf [.v (.int .i64 ((rd_T68 x15 x17).f0)), .sl 2 (r68 ((rd_T68 x15 x17).f1))]), .r [.ro (.sl 1 (rX (cI .i64) t506))] [], .o 26 (rX (cI .i64) (x5 ++ t506))]) (os := []) (c := none) rfl KD ?_
         exact WS.lpc [(1005, some 1005)] (hJ0 _ _ (Nat.lt_succ_self _) ⟨by omega, x1, (x5 ++ t506), x15, x16, (wrap64 (x17 + 1)), h, rfl⟩) KD
       · rw [if_neg c6] at h
         cases h
     · rw [if_neg c4] at h
       cases h
   · rw [if_neg c3] at h
     cases h
 · rw [if_neg c2] at h
   refine path_ok (k := 8) hF (RetQ_mild _ _ _ _ _ _ _ _) (ds := [.b false]) (os := []) (c := none) rfl KD ?_
   cases h
   exact ret_as (ms := [.ro]) rfl KD
theorem impl_arr_numbers.cs (k : Nat) : impl_arr_numbers.C k := by
 induction k using Nat.strongRecOn with
 | _ k ih0 =>
 have ih : Kp (∀ m, m < k → impl_arr_numbers.C m) := ⟨ih0⟩
 exact ⟨impl_arr_numbers.c_f k ih, impl_arr_numbers.c_l0 k ih⟩
theorem impl_arr_numbers.ctr (k : Nat) (a0_0 : Int) (l0_1 : List (S68)) (a1 : Int) (r : List Int) (h : impl_arr_numbers.f k a0_0 l0_1 a1 = some r) : Ctr TE 65 none [.ag [.v (.int .i64 a0_0), .sl 2 (r68 l0_1)], .v (.int .i64 a1)] [.ro (.sl 1 (rX (cI .i64) r))] [] := (impl_arr_numbers.cs k).s_f a0_0 l0_1 a1 r h
def impl_NumbersOf.f (k : Nat) (a0 : ByteArray) (a1 : Int) : Option (List Int × Bool) := (impl_arrOf.f k a0 a1).bind fun bt512 => (if bt512.2.2 = true then ((impl_arr_numbers.f k bt512.1 bt512.2.1 a1).bind fun t518 => (some (t518, true))) else (some (([] : List Int), false)))
set_option maxRecDepth 100000 in
set_option maxHeartbeats 4000000 in
theorem impl_NumbersOf.ctr (k : Nat) (a0 : ByteArray) (a1 : Int) (r1 : List Int) (r2 : Bool) (h : impl_NumbersOf.f k a0 a1 = some (r1, r2)) : Ctr TE 21 none [.v (.string a0), .v (.int .i64 a1)] [.ro (.sl 1 (rX (cI .i64) r1)), .ro (.v (.bool r2))] [] := by
 refine ctr_of (fn := Tryz.f21) (c := (bodyOf Tryz.f21)) Tryz.func21 rfl (by kernel_rfl) (Nat.le_of_ble_eq_true (by kernel_rfl)) (fun w ro B hF _ => ?_)
 simp only [impl_NumbersOf.f] at h
 obtain ⟨⟨t512, t513, t516⟩, q1, h⟩ := Option.bind_eq_some_iff.1 h
 dsimp only at h
 have q1c := impl_arrOf.ctr k _ _ _ _ _ q1
 by_cases c2 : t516 = true
 · rw [if_pos c2] at h
   obtain ⟨t518, q3, h⟩ := Option.bind_eq_some_iff.1 h
   have q3c := impl_arr_numbers.ctr k _ _ _ _ q3
   refine path_ok (k := 12) hF (RetQ_mild _ _ _ _ _ _ _ _) (ds := [.r [.ro (.ag [.v (.int .i64 t512), .sl 2 (r68 t513)]), .ro (.v (.bool t516))] [], .b false, .r [.ro (.sl 1 (rX (cI .i64) t518))] []]) (os := []) (c := none) rfl KD ?_
   cases h
   exact ret_as (ms := [.ro, .ro]) rfl KD
 · rw [if_neg c2] at h
   refine path_ok (k := 11) hF (RetQ_mild _ _ _ _ _ _ _ _) (ds := [.r [.ro (.ag [.v (.int .i64 t512), .sl 2 (r68 t513)]), .ro (.v (.bool t516))] [], .b true]) (os := []) (c := none) rfl KD ?_
   cases h
   exact ret_as (ms := [.ro, .ro]) rfl KD
def impl_lengthsOk.f (k : Nat) (l0 : List Int) : Option (Bool) := if (l0.length : Int) ≤ 400 then ((impl_within.f l0 400).bind fun t521 => (if t521 = true then ((impl_total.f k l0).bind fun t522 => (some (decide (t522 ≤ 400)))) else (some false))) else (some false)
set_option maxRecDepth 100000 in
set_option maxHeartbeats 4000000 in
theorem impl_lengthsOk.ctr (k : Nat) (l0 : List Int) (r : Bool) (h : impl_lengthsOk.f k l0 = some r) : Ctr TE 129 none [.sl 1 (rX (cI .i64) l0)] [.ro (.v (.bool r))] [] := by
 refine ctr_of (fn := Tryz.f129) (c := (bodyOf Tryz.f129)) Tryz.func129 rfl (by kernel_rfl) (Nat.le_of_ble_eq_true (by kernel_rfl)) (fun w ro B hF _ => ?_)
 simp only [impl_lengthsOk.f] at h
 by_cases c1 : (l0.length : Int) ≤ 400
 · rw [if_pos c1] at h
   obtain ⟨t521, q2, h⟩ := Option.bind_eq_some_iff.1 h
   have q2c := impl_within.ctr _ _ _ q2
   by_cases c3 : t521 = true
   · rw [if_pos c3] at h
     obtain ⟨t522, q4, h⟩ := Option.bind_eq_some_iff.1 h
     have q4c := impl_total.ctr k _ _ q4
     refine path_ok (k := 5) hF (RetQ_mild _ _ _ _ _ _ _ _) (ds := [.e 4 (.v (.int .i64 (l0.length : Int))), .b true, .b true, .r [.ro (.v (.bool t521))] [], .b true, .b true, .b true, .r [.ro (.v (.int .i64 t522))] [], .b true, .b true]) (os := []) (c := none) rfl KD ?_
     cases h
     exact ret_as (ms := [.ro]) rfl KD
   · rw [if_neg c3] at h
     refine path_ok (k := 5) hF (RetQ_mild _ _ _ _ _ _ _ _) (ds := [.e 4 (.v (.int .i64 (l0.length : Int))), .b true, .b true, .r [.ro (.v (.bool t521))] [], .b true, .b false, .b false, .b false, .b false]) (os := []) (c := none) rfl KD ?_
     cases h
     exact ret_as (ms := [.ro]) rfl KD
 · rw [if_neg c1] at h
   refine path_ok (k := 5) hF (RetQ_mild _ _ _ _ _ _ _ _) (ds := [.e 4 (.v (.int .i64 (l0.length : Int))), .b false, .b false, .b false, .b false, .b false, .b false, .b false]) (os := []) (c := none) rfl KD ?_
   cases h
   exact ret_as (ms := [.ro]) rfl KD
def impl_dataOk.f (l0 : List Int) : Option (Bool) := if (l0.length : Int) ≤ 400 then ((impl_within.f l0 10006).bind fun t523 => (some t523)) else (some false)
set_option maxRecDepth 100000 in
set_option maxHeartbeats 4000000 in
theorem impl_dataOk.ctr (l0 : List Int) (r : Bool) (h : impl_dataOk.f l0 = some r) : Ctr TE 130 none [.sl 1 (rX (cI .i64) l0)] [.ro (.v (.bool r))] [] := by
 refine ctr_of (fn := Tryz.f130) (c := (bodyOf Tryz.f130)) Tryz.func130 rfl (by kernel_rfl) (Nat.le_of_ble_eq_true (by kernel_rfl)) (fun w ro B hF _ => ?_)
 simp only [impl_dataOk.f] at h
 by_cases c1 : (l0.length : Int) ≤ 400
 · rw [if_pos c1] at h
   obtain ⟨t523, q2, h⟩ := Option.bind_eq_some_iff.1 h
   have q2c := impl_within.ctr _ _ _ q2
   refine path_ok (k := 5) hF (RetQ_mild _ _ _ _ _ _ _ _) (ds := [.e 4 (.v (.int .i64 (l0.length : Int))), .b true, .b true, .r [.ro (.v (.bool t523))] [], .b true]) (os := []) (c := none) rfl KD ?_
   cases h
   exact ret_as (ms := [.ro]) rfl KD
 · rw [if_neg c1] at h
   refine path_ok (k := 5) hF (RetQ_mild _ _ _ _ _ _ _ _) (ds := [.e 4 (.v (.int .i64 (l0.length : Int))), .b false, .b false, .b false]) (os := []) (c := none) rfl KD ?_
   cases h
   exact ret_as (ms := [.ro]) rfl KD
def impl_SegmentsValid.f (k : Nat) (l0 : List Int) (l1 : List Int) : Option (Bool) := (impl_lengthsOk.f k l0).bind fun t524 => (if t524 = true then ((impl_dataOk.f l1).bind fun t525 => (if t525 = true then ((impl_total.f k l0).bind fun t526 => (some ((l1.length : Int) == t526))) else (some false))) else (some false))
set_option maxRecDepth 100000 in
set_option maxHeartbeats 4000000 in
theorem impl_SegmentsValid.ctr (k : Nat) (l0 : List Int) (l1 : List Int) (r : Bool) (h : impl_SegmentsValid.f k l0 l1 = some r) : Ctr TE 105 none [.sl 1 (rX (cI .i64) l0), .sl 1 (rX (cI .i64) l1)] [.ro (.v (.bool r))] [] := by
 refine ctr_of (fn := Tryz.f105) (c := (bodyOf Tryz.f105)) Tryz.func105 rfl (by kernel_rfl) (Nat.le_of_ble_eq_true (by kernel_rfl)) (fun w ro B hF _ => ?_)
 simp only [impl_SegmentsValid.f] at h
 obtain ⟨t524, q1, h⟩ := Option.bind_eq_some_iff.1 h
 have q1c := impl_lengthsOk.ctr k _ _ q1
 by_cases c2 : t524 = true
 · rw [if_pos c2] at h
   obtain ⟨t525, q3, h⟩ := Option.bind_eq_some_iff.1 h
   have q3c := impl_dataOk.ctr _ _ q3
   by_cases c4 : t525 = true
   · rw [if_pos c4] at h
     obtain ⟨t526, q5, h⟩ := Option.bind_eq_some_iff.1 h
     have q5c := impl_total.ctr k _ _ q5
     refine path_ok (k := 5) hF (RetQ_mild _ _ _ _ _ _ _ _) (ds := [.r [.ro (.v (.bool t524))] [], .b true, .b true, .r [.ro (.v (.bool t525))] [], .b true, .b true, .b true, .e 13 (.v (.int .i64 (l1.length : Int))), .b true, .b true, .r [.ro (.v (.int .i64 t526))] [], .b true, .b true]) (os := []) (c := none) rfl KD ?_
     cases h
     exact ret_as (ms := [.ro]) rfl KD
   · rw [if_neg c4] at h
     refine path_ok (k := 5) hF (RetQ_mild _ _ _ _ _ _ _ _) (ds := [.r [.ro (.v (.bool t524))] [], .b true, .b true, .r [.ro (.v (.bool t525))] [], .b true, .b false, .b false, .b false, .b false, .b false, .b false]) (os := []) (c := none) rfl KD ?_
     cases h
     exact ret_as (ms := [.ro]) rfl KD
 · rw [if_neg c2] at h
   refine path_ok (k := 5) hF (RetQ_mild _ _ _ _ _ _ _ _) (ds := [.r [.ro (.v (.bool t524))] [], .b false, .b false, .b false, .b false, .b false, .b false, .b false, .b false, .b false]) (os := []) (c := none) rfl KD ?_
   cases h
   exact ret_as (ms := [.ro]) rfl KD
def impl_segments.l0 : Nat → List Int → List (List Int) → List Int → Int → Int → Option ((List (List Int)))
  | 0, _, _, _, _, _ => none
  | k + 1, x1, x5, x9, x10, x11 => if x11 < x10 then (if 0 ≤ x11 then (if x11 < (x9.length : Int) then (if 0 ≤ (rd x9 x11) then (if (rd x9 x11) ≤ (x1.length : Int) then (if x5.length < 5864062014805 then (impl_segments.l0 k (x1.drop ((rd x9 x11) : Int).toNat) (x5 ++ [(x1.take ((rd x9 x11) : Int).toNat)]) x9 x10 (wrap64 (x11 + 1))) else (none)) else (none)) else (none)) else (none)) else (none)) else (some x5)
def impl_segments.f (k : Nat) (l0 : List Int) (l1 : List Int) : Option ((List (List Int))) := impl_segments.l0 k l1 (([] : List (List Int))) l0 (l0.length : Int) 0
def impl_segments.I0 (r : List (List Int)) (m : Nat) (σ : St) : Prop := ∃ (x1 : List Int) (x5 : List (List Int)) (x9 : List Int) (x10 : Int) (x11 : Int), impl_segments.l0 m x1 x5 x9 x10 x11 = some r ∧ σ = ⟨[(1, .sl 1 (rX (cI .i64) x1)), (5, .ow 1005 0), (9, .sl 1 (rX (cI .i64) x9)), (10, .v (.int .i64 x10)), (11, .v (.int .i64 x11))], [(1005, .own 0 27 1 (rX (cL (cI .i64) 1) x5))]⟩
structure impl_segments.C (k : Nat) : Prop where
 s_l0 : ∀ (r : List (List Int)) (w : World) (ro : Nat → Prop) (B : Nat) (_ : Fr TE (cx0 Tryz.f106 none w ro B)) (x1 : List Int) (x5 : List (List Int)) (x9 : List Int) (x10 : Int) (x11 : Int) (_ : impl_segments.l0 k x1 x5 x9 x10 x11 = some r), Kp (WS TE (cx0 Tryz.f106 none w ro B) (stkAt [1, 1, 0, 1, 0] [] (bodyOf Tryz.f106) []) ⟨[(1, .sl 1 (rX (cI .i64) x1)), (5, .ow 1005 0), (9, .sl 1 (rX (cI .i64) x9)), (10, .v (.int .i64 x10)), (11, .v (.int .i64 x11))], [(1005, .own 0 27 1 (rX (cL (cI .i64) 1) x5))]⟩ (RetQ TE Tryz.f106 none [.own 27 1 (rX (cL (cI .i64) 1) r)] [] w ro B))
set_option maxRecDepth 100000 in
set_option maxHeartbeats 4000000 in
theorem impl_segments.c_l0 (k : Nat) (ih : Kp (∀ m, m < k → impl_segments.C m)) (r : List (List Int)) (w : World) (ro : Nat → Prop) (B : Nat) (hF : Fr TE (cx0 Tryz.f106 none w ro B)) (x1 : List Int) (x5 : List (List Int)) (x9 : List Int) (x10 : Int) (x11 : Int) (h : impl_segments.l0 k x1 x5 x9 x10 x11 = some r) : Kp (WS TE (cx0 Tryz.f106 none w ro B) (stkAt [1, 1, 0, 1, 0] [] (bodyOf Tryz.f106) []) ⟨[(1, .sl 1 (rX (cI .i64) x1)), (5, .ow 1005 0), (9, .sl 1 (rX (cI .i64) x9)), (10, .v (.int .i64 x10)), (11, .v (.int .i64 x11))], [(1005, .own 0 27 1 (rX (cL (cI .i64) 1) x5))]⟩ (RetQ TE Tryz.f106 none [.own 27 1 (rX (cL (cI .i64) 1) r)] [] w ro B)) := by
 refine ⟨WS.loop (fun m σ => m ≤ k ∧ impl_segments.I0 r m σ) k ⟨Nat.le_refl k, x1, x5, x9, x10, x11, h, rfl⟩ (fun m σ' hI J0 hJ0 => ?_)⟩
 clear h
 obtain ⟨hk, x1, x5, x9, x10, x11, h, rfl⟩ := hI
 cases m with
 | zero => simp [impl_segments.l0] at h
 | succ k' =>
 simp only [impl_segments.l0] at h
 by_cases c1 : x11 < x10
 · rw [if_pos c1] at h
   by_cases c2 : 0 ≤ x11
   · rw [if_pos c2] at h
     by_cases c3 : x11 < (x9.length : Int)
     · rw [if_pos c3] at h
       by_cases c4 : 0 ≤ (rd x9 x11)
       · rw [if_pos c4] at h
         by_cases c5 : (rd x9 x11) ≤ (x1.length : Int)
         · rw [if_pos c5] at h
           by_cases c6 : x5.length < 5864062014805
           · rw [if_pos c6] at h
             refine path_ok (k := 14) hF (RetQ_mild _ _ _ _ _ _ _ _) (ds := [.b true, .e 13 (.rf [.v (.int .i64 (rd x9 x11))]), .e 19 (.sl 1 (rX (cI .i64) (x1.take ((rd x9 x11) : Int).toNat))), .p 20 ([[.sl 1 (rX (cI .i64) (x1.take ((rd x9 x11) : Int).toNat))]]), .o 21 (rX (cL (cI .i64) 1) (x5 ++ [(x1.take ((rd x9 x11) : Int).toNat)])), .e 24 (.sl 1 (rX (cI .i64) (x1.drop ((rd x9 x11) : Int).toNat)))]) (os := []) (c := none) rfl KD ?_
             exact WS.lpc [(1005, some 1005)] (hJ0 _ _ (Nat.lt_succ_self _) ⟨by omega, (x1.drop ((rd x9 x11) : Int).toNat), (x5 ++ [(x1.take ((rd x9 x11) : Int).toNat)]), x9, x10, (wrap64 (x11 + 1)), h, rfl⟩) KD
           · rw [if_neg c6] at h
             cases h
         · rw [if_neg c5] at h
           cases h
       · rw [if_neg c4] at h
         cases h
     · rw [if_neg c3] at h
       cases h
   · rw [if_neg c2] at h
     cases h
 · rw [if_neg c1] at h
   refine path_ok (k := 8) hF (RetQ_mild _ _ _ _ _ _ _ _) (ds := [.b false]) (os := []) (c := none) rfl KD ?_
   cases h
   exact ret_as (ms := [.own]) rfl KD
theorem impl_segments.cs (k : Nat) : impl_segments.C k := by
 induction k using Nat.strongRecOn with
 | _ k ih0 =>
 have ih : Kp (∀ m, m < k → impl_segments.C m) := ⟨ih0⟩
 exact ⟨impl_segments.c_l0 k ih⟩
set_option maxRecDepth 100000 in
set_option maxHeartbeats 4000000 in
theorem impl_segments.ctr (k : Nat) (l0 : List Int) (l1 : List Int) (r : List (List Int)) (h : impl_segments.f k l0 l1 = some r) : Ctr TE 106 none [.sl 1 (rX (cI .i64) l0), .sl 1 (rX (cI .i64) l1)] [.own 27 1 (rX (cL (cI .i64) 1) r)] [] := by
 refine ctr_of (fn := Tryz.f106) (c := (bodyOf Tryz.f106)) Tryz.func106 rfl (by kernel_rfl) (Nat.le_of_ble_eq_true (by kernel_rfl)) (fun w ro B hF _ => ?_)
 have ih : Kp (∀ m, m < k + 1 → impl_segments.C m) := ⟨fun m _ => impl_segments.cs m⟩
 simp only [impl_segments.f] at h
 refine path_ok (k := 8) hF (RetQ_mild _ _ _ _ _ _ _ _) (ds := [.p 8 ([]), .e 10 (.v (.int .i64 (l0.length : Int)))]) (os := []) (c := none) rfl KD ?_
 exact WS.can [(1005, some 8)] (((ih.out k (by omega)).s_l0  r w ro B hF l1 (([] : List (List Int))) l0 (l0.length : Int) 0 h).out) KD
-- NOT PRINTED: function 66 (impl_each)
def impl_SumSegments_1.f (k : Nat) (l0 : List Int) : Option (List Int) := (impl_sum.f k l0).bind fun t544 => (some (([t544] : List Int)))
set_option maxRecDepth 100000 in
set_option maxHeartbeats 4000000 in
theorem impl_SumSegments_1.ctr (k : Nat) (l0 : List Int) (r : List Int) (h : impl_SumSegments_1.f k l0 = some r) : Ctr TE 67 none [.sl 1 (rX (cI .i64) l0)] [.own 3 1 (rX (cI .i64) r)] [] := by
 refine ctr_of (fn := Tryz.f67) (c := (bodyOf Tryz.f67)) Tryz.func67 rfl (by kernel_rfl) (Nat.le_of_ble_eq_true (by kernel_rfl)) (fun w ro B hF _ => ?_)
 simp only [impl_SumSegments_1.f] at h
 obtain ⟨t544, q1, h⟩ := Option.bind_eq_some_iff.1 h
 have q1c := impl_sum.ctr k _ _ q1
 refine path_ok (k := 5) hF (RetQ_mild _ _ _ _ _ _ _ _) (ds := [.r [.ro (.v (.int .i64 t544))] [], .p 5 ([[.v (.int .i64 t544)]])]) (os := []) (c := none) rfl KD ?_
 cases h
 exact ret_as (ms := [.own]) rfl KD
def impl_each_1.l0 : Nat → List Int → List (List Int) → Int → Int → Option (List Int × Bool)
  | 0, _, _, _, _ => none
  | k + 1, x8, x18, x19, x20 => if x20 < x19 then (if 0 ≤ x20 then (if x20 < (x18.length : Int) then ((impl_SumSegments_1.f k (rd_L5 x18 x20)).bind fun t556 => (if x8.length + t556.length < 17592186044416 then (impl_each_1.l0 k (x8 ++ t556) x18 x19 (wrap64 (x20 + 1))) else (none))) else (none)) else (none)) else (some (x8, true))
def impl_each_1.f (k : Nat) (l0 : List Int) (l1 : List Int) (a2 : Int) : Option (List Int × Bool) := (impl_SegmentsValid.f k l0 l1).bind fun t548 => (if t548 = true then ((impl_segments.f k l0 l1).bind fun t552 => (impl_each_1.l0 k (([] : List Int)) t552 (t552.length : Int) 0)) else (some (([] : List Int), false)))
def impl_each_1.I0 (r1 : List Int) (r2 : Bool) (m : Nat) (σ : St) : Prop := ∃ (x8 : List Int) (x18 : List (List Int)) (x19 : Int) (x20 : Int), impl_each_1.l0 m x8 x18 x19 x20 = some (r1, r2) ∧ σ = ⟨[(2, .v (.func (.func 67) #[] #[])), (8, .ow 1008 0), (18, .ow 1018 0), (19, .v (.int .i64 x19)), (20, .v (.int .i64 x20))], [(1008, .own 0 3 1 (rX (cI .i64) x8)), (1018, .own 0 27 1 (rX (cL (cI .i64) 1) x18))]⟩
structure impl_each_1.C (k : Nat) : Prop where
 s_l0 : ∀ (r1 : List Int) (r2 : Bool) (w : World) (ro : Nat → Prop) (B : Nat) (_ : Fr TE (cx0 Tryz.f66 none w ro B)) (x8 : List Int) (x18 : List (List Int)) (x19 : Int) (x20 : Int) (_ : impl_each_1.l0 k x8 x18 x19 x20 = some (r1, r2)), Kp (WS TE (cx0 Tryz.f66 none w ro B) (stkAt [1, 1, 1, 0, 1, 0] [] (bodyOf Tryz.f66) []) ⟨[(2, .v (.func (.func 67) #[] #[])), (8, .ow 1008 0), (18, .ow 1018 0), (19, .v (.int .i64 x19)), (20, .v (.int .i64 x20))], [(1008, .own 0 3 1 (rX (cI .i64) x8)), (1018, .own 0 27 1 (rX (cL (cI .i64) 1) x18))]⟩ (RetQ TE Tryz.f66 none [.own 3 1 (rX (cI .i64) r1), .ro (.v (.bool r2))] [] w ro B))
set_option maxRecDepth 100000 in
set_option maxHeartbeats 4000000 in
theorem impl_each_1.c_l0 (k : Nat) (ih : Kp (∀ m, m < k → impl_each_1.C m)) (r1 : List Int) (r2 : Bool) (w : World) (ro : Nat → Prop) (B : Nat) (hF : Fr TE (cx0 Tryz.f66 none w ro B)) (x8 : List Int) (x18 : List (List Int)) (x19 : Int) (x20 : Int) (h : impl_each_1.l0 k x8 x18 x19 x20 = some (r1, r2)) : Kp (WS TE (cx0 Tryz.f66 none w ro B) (stkAt [1, 1, 1, 0, 1, 0] [] (bodyOf Tryz.f66) []) ⟨[(2, .v (.func (.func 67) #[] #[])), (8, .ow 1008 0), (18, .ow 1018 0), (19, .v (.int .i64 x19)), (20, .v (.int .i64 x20))], [(1008, .own 0 3 1 (rX (cI .i64) x8)), (1018, .own 0 27 1 (rX (cL (cI .i64) 1) x18))]⟩ (RetQ TE Tryz.f66 none [.own 3 1 (rX (cI .i64) r1), .ro (.v (.bool r2))] [] w ro B)) := by
 refine ⟨WS.loop (fun m σ => m ≤ k ∧ impl_each_1.I0 r1 r2 m σ) k ⟨Nat.le_refl k, x8, x18, x19, x20, h, rfl⟩ (fun m σ' hI J0 hJ0 => ?_)⟩
 clear h
 obtain ⟨hk, x8, x18, x19, x20, h, rfl⟩ := hI
 cases m with
 | zero => simp [impl_each_1.l0] at h
 | succ k' =>
 simp only [impl_each_1.l0] at h
 by_cases c4 : x20 < x19
 · rw [if_pos c4] at h
   by_cases c5 : 0 ≤ x20
   · rw [if_pos c5] at h
     by_cases c6 : x20 < (x18.length : Int)
     · rw [if_pos c6] at h
       obtain ⟨t556, q7, h⟩ := Option.bind_eq_some_iff.1 h
       have q7c := impl_SumSegments_1.ctr k' _ _ q7
       by_cases c8 : x8.length + t556.length < 17592186044416
       · rw [if_pos c8] at h
         refine path_ok (k := 12) hF (RetQ_mild _ _ _ _ _ _ _ _) (ds := [.b true, .g [.sl 1 (rX (cI .i64) (rd_L5 x18 x20))], .r [.own 3 1 (rX (cI .i64) t556)] [], .o 28 (rX (cI .i64) (x8 ++ t556))]) (os := []) (c := none) rfl KD ?_
         exact WS.lpc [(1008, some 1008), (1018, some 1018)] (hJ0 _ _ (Nat.lt_succ_self _) ⟨by omega, (x8 ++ t556), x18, x19, (wrap64 (x20 + 1)), h, rfl⟩) KD
       · rw [if_neg c8] at h
         cases h
     · rw [if_neg c6] at h
       cases h
   · rw [if_neg c5] at h
     cases h
 · rw [if_neg c4] at h
   refine path_ok (k := 8) hF (RetQ_mild _ _ _ _ _ _ _ _) (ds := [.b false]) (os := []) (c := none) rfl KD ?_
   cases h
   exact ret_as (ms := [.own, .ro]) rfl KD
theorem impl_each_1.cs (k : Nat) : impl_each_1.C k := by
 induction k using Nat.strongRecOn with
 | _ k ih0 =>
 have ih : Kp (∀ m, m < k → impl_each_1.C m) := ⟨ih0⟩
 exact ⟨impl_each_1.c_l0 k ih⟩
set_option maxRecDepth 100000 in
set_option maxHeartbeats 4000000 in
theorem impl_each_1.ctr (k : Nat) (l0 : List Int) (l1 : List Int) (a2 : Int) (r1 : List Int) (r2 : Bool) (h : impl_each_1.f k l0 l1 a2 = some (r1, r2)) : Ctr TE 66 none [.sl 1 (rX (cI .i64) l0), .sl 1 (rX (cI .i64) l1), .v (.func (.func 67) #[] #[])] [.own 3 1 (rX (cI .i64) r1), .ro (.v (.bool r2))] [] := by
 refine ctr_of (fn := Tryz.f66) (c := (bodyOf Tryz.f66)) Tryz.func66 rfl (by kernel_rfl) (Nat.le_of_ble_eq_true (by kernel_rfl)) (fun w ro B hF _ => ?_)
 have ih : Kp (∀ m, m < k + 1 → impl_each_1.C m) := ⟨fun m _ => impl_each_1.cs m⟩
 simp only [impl_each_1.f] at h
 obtain ⟨t548, q1, h⟩ := Option.bind_eq_some_iff.1 h
 have q1c := impl_SegmentsValid.ctr k _ _ _ q1
 by_cases c2 : t548 = true
 · rw [if_pos c2] at h
   obtain ⟨t552, q3, h⟩ := Option.bind_eq_some_iff.1 h
   have q3c := impl_segments.ctr k _ _ _ q3
   refine path_ok (k := 13) hF (RetQ_mild _ _ _ _ _ _ _ _) (ds := [.r [.ro (.v (.bool t548))] [], .b false, .p 15 ([]), .r [.own 27 1 (rX (cL (cI .i64) 1) t552)] [], .e 19 (.v (.int .i64 (t552.length : Int)))]) (os := []) (c := none) rfl KD ?_
   exact WS.can [(1008, some 15), (1018, some 100288)] (((ih.out k (by omega)).s_l0  r1 r2 w ro B hF (([] : List Int)) t552 (t552.length : Int) 0 h).out) KD
 · rw [if_neg c2] at h
   refine path_ok (k := 9) hF (RetQ_mild _ _ _ _ _ _ _ _) (ds := [.r [.ro (.v (.bool t548))] [], .b true]) (os := []) (c := none) rfl KD ?_
   cases h
   exact ret_as (ms := [.nil 3 1, .ro]) rfl KD
def impl_SumSegments.f (k : Nat) (l0 : List Int) (l1 : List Int) : Option (List Int × Bool) := (impl_each_1.f k l0 l1 0).bind fun bt562 => (some (bt562.1, bt562.2))
set_option maxRecDepth 100000 in
set_option maxHeartbeats 4000000 in
theorem impl_SumSegments.ctr (k : Nat) (l0 : List Int) (l1 : List Int) (r1 : List Int) (r2 : Bool) (h : impl_SumSegments.f k l0 l1 = some (r1, r2)) : Ctr TE 22 none [.sl 1 (rX (cI .i64) l0), .sl 1 (rX (cI .i64) l1)] [.own 3 1 (rX (cI .i64) r1), .ro (.v (.bool r2))] [] := by
 refine ctr_of (fn := Tryz.f22) (c := (bodyOf Tryz.f22)) Tryz.func22 rfl (by kernel_rfl) (Nat.le_of_ble_eq_true (by kernel_rfl)) (fun w ro B hF _ => ?_)
 simp only [impl_SumSegments.f] at h
 obtain ⟨⟨t562, t563⟩, q1, h⟩ := Option.bind_eq_some_iff.1 h
 dsimp only at h
 have q1c := impl_each_1.ctr k _ _ _ _ _ q1
 refine path_ok (k := 5) hF (RetQ_mild _ _ _ _ _ _ _ _) (ds := [.r [.own 3 1 (rX (cI .i64) t562), .ro (.v (.bool t563))] []]) (os := []) (c := none) rfl KD ?_
 cases h
 exact ret_as (ms := [.own, .ro]) rfl KD
def laws_faSame.l0 : Nat → List Int → List Int → Int → Int → Option (Bool)
  | 0, _, _, _, _ => none
  | k + 1, x0, x1, x10, x11 => if x11 < x10 then (if 0 ≤ x11 then (if x11 < (x0.length : Int) then (if x11 < (x1.length : Int) then (if (rd x0 x11) = (rd x1 x11) then (laws_faSame.l0 k x0 x1 x10 (wrap64 (x11 + 1))) else (some false)) else (none)) else (none)) else (none)) else (some ((x0.length : Int) == (x1.length : Int)))
def laws_faSame.f (k : Nat) (l0 : List Int) (l1 : List Int) : Option (Bool) := laws_faSame.l0 k l0 l1 (mn (l0.length : Int) (l1.length : Int)) 0
def laws_faSame.I0 (r : Bool) (m : Nat) (σ : St) : Prop := ∃ (x0 : List Int) (x1 : List Int) (x10 : Int) (x11 : Int), laws_faSame.l0 m x0 x1 x10 x11 = some r ∧ σ = ⟨[(0, .sl 1 (rX (cI .i64) x0)), (1, .sl 1 (rX (cI .i64) x1)), (10, .v (.int .i64 x10)), (11, .v (.int .i64 x11))], []⟩
structure laws_faSame.C (k : Nat) : Prop where
 s_l0 : ∀ (r : Bool) (w : World) (ro : Nat → Prop) (B : Nat) (_ : Fr TE (cx0 Tryz.f23 none w ro B)) (x0 : List Int) (x1 : List Int) (x10 : Int) (x11 : Int) (_ : laws_faSame.l0 k x0 x1 x10 x11 = some r), Kp (WS TE (cx0 Tryz.f23 none w ro B) (stkAt [1, 0, 1, 0] [] (bodyOf Tryz.f23) []) ⟨[(0, .sl 1 (rX (cI .i64) x0)), (1, .sl 1 (rX (cI .i64) x1)), (10, .v (.int .i64 x10)), (11, .v (.int .i64 x11))], []⟩ (RetQ TE Tryz.f23 none [.ro (.v (.bool r))] [] w ro B))
set_option maxRecDepth 100000 in
set_option maxHeartbeats 4000000 in
theorem laws_faSame.c_l0 (k : Nat) (ih : Kp (∀ m, m < k → laws_faSame.C m)) (r : Bool) (w : World) (ro : Nat → Prop) (B : Nat) (hF : Fr TE (cx0 Tryz.f23 none w ro B)) (x0 : List Int) (x1 : List Int) (x10 : Int) (x11 : Int) (h : laws_faSame.l0 k x0 x1 x10 x11 = some r) : Kp (WS TE (cx0 Tryz.f23 none w ro B) (stkAt [1, 0, 1, 0] [] (bodyOf Tryz.f23) []) ⟨[(0, .sl 1 (rX (cI .i64) x0)), (1, .sl 1 (rX (cI .i64) x1)), (10, .v (.int .i64 x10)), (11, .v (.int .i64 x11))], []⟩ (RetQ TE Tryz.f23 none [.ro (.v (.bool r))] [] w ro B)) := by
 refine ⟨WS.loop (fun m σ => m ≤ k ∧ laws_faSame.I0 r m σ) k ⟨Nat.le_refl k, x0, x1, x10, x11, h, rfl⟩ (fun m σ' hI J0 hJ0 => ?_)⟩
 clear h
 obtain ⟨hk, x0, x1, x10, x11, h, rfl⟩ := hI
 cases m with
 | zero => simp [laws_faSame.l0] at h
 | succ k' =>
 simp only [laws_faSame.l0] at h
 by_cases c1 : x11 < x10
 · rw [if_pos c1] at h
   by_cases c2 : 0 ≤ x11
   · rw [if_pos c2] at h
     by_cases c3 : x11 < (x0.length : Int)
     · rw [if_pos c3] at h
       by_cases c4 : x11 < (x1.length : Int)
       · rw [if_pos c4] at h
         by_cases c5 : (rd x0 x11) = (rd x1 x11)
         · rw [if_pos c5] at h
           refine path_ok (k := 15) hF (RetQ_mild _ _ _ _ _ _ _ _) (ds := [.b true, .e 16 (.rf [.v (.int .i64 (rd x0 x11))]), .e 20 (.rf [.v (.int .i64 (rd x1 x11))]), .b false]) (os := [.o [(0, 0), (1, 0), (2, 0), (3, 1), (4, 0), (5, 0), (6, 0), (7, 1), (8, 0)] []]) (c := none) rfl KD ?_
           exact WS.lpc [] (hJ0 _ _ (Nat.lt_succ_self _) ⟨by omega, x0, x1, x10, (wrap64 (x11 + 1)), h, rfl⟩) KD
         · rw [if_neg c5] at h
           refine path_ok (k := 15) hF (RetQ_mild _ _ _ _ _ _ _ _) (ds := [.b true, .e 16 (.rf [.v (.int .i64 (rd x0 x11))]), .e 20 (.rf [.v (.int .i64 (rd x1 x11))]), .b true]) (os := [.o [(0, 0), (1, 0), (2, 0), (3, 1), (4, 0), (5, 0), (6, 0), (7, 1), (8, 0)] []]) (c := none) rfl KD ?_
           cases h
           exact ret_as (ms := [.ro]) rfl KD
       · rw [if_neg c4] at h
         cases h
     · rw [if_neg c3] at h
       cases h
   · rw [if_neg c2] at h
     cases h
 · rw [if_neg c1] at h
   refine path_ok (k := 8) hF (RetQ_mild _ _ _ _ _ _ _ _) (ds := [.b false, .e 25 (.v (.int .i64 (x0.length : Int))), .e 27 (.v (.int .i64 (x1.length : Int)))]) (os := []) (c := none) rfl KD ?_
   cases h
   exact ret_as (ms := [.ro]) rfl KD
theorem laws_faSame.cs (k : Nat) : laws_faSame.C k := by
 induction k using Nat.strongRecOn with
 | _ k ih0 =>
 have ih : Kp (∀ m, m < k → laws_faSame.C m) := ⟨ih0⟩
 exact ⟨laws_faSame.c_l0 k ih⟩
set_option maxRecDepth 100000 in
set_option maxHeartbeats 4000000 in
theorem laws_faSame.ctr (k : Nat) (l0 : List Int) (l1 : List Int) (r : Bool) (h : laws_faSame.f k l0 l1 = some r) : Ctr TE 23 none [.sl 1 (rX (cI .i64) l0), .sl 1 (rX (cI .i64) l1)] [.ro (.v (.bool r))] [] := by
 refine ctr_of (fn := Tryz.f23) (c := (bodyOf Tryz.f23)) Tryz.func23 rfl (by kernel_rfl) (Nat.le_of_ble_eq_true (by kernel_rfl)) (fun w ro B hF _ => ?_)
 have ih : Kp (∀ m, m < k + 1 → laws_faSame.C m) := ⟨fun m _ => laws_faSame.cs m⟩
 simp only [laws_faSame.f] at h
 refine path_ok (k := 6) hF (RetQ_mild _ _ _ _ _ _ _ _) (ds := [.e 7 (.v (.int .i64 (l0.length : Int))), .e 9 (.v (.int .i64 (l1.length : Int)))]) (os := []) (c := none) rfl KD ?_
 exact WS.can [] (((ih.out k (by omega)).s_l0  r w ro B hF l0 l1 (mn (l0.length : Int) (l1.length : Int)) 0 h).out) KD
def impl_MostSegments_1.f (l0 : List Int) : Option (List Int) := (impl_most.f l0).bind fun t568 => (some (([t568] : List Int)))
set_option maxRecDepth 100000 in
set_option maxHeartbeats 4000000 in
theorem impl_MostSegments_1.ctr (l0 : List Int) (r : List Int) (h : impl_MostSegments_1.f l0 = some r) : Ctr TE 69 none [.sl 1 (rX (cI .i64) l0)] [.own 3 1 (rX (cI .i64) r)] [] := by
 refine ctr_of (fn := Tryz.f69) (c := (bodyOf Tryz.f69)) Tryz.func69 rfl (by kernel_rfl) (Nat.le_of_ble_eq_true (by kernel_rfl)) (fun w ro B hF _ => ?_)
 simp only [impl_MostSegments_1.f] at h
 obtain ⟨t568, q1, h⟩ := Option.bind_eq_some_iff.1 h
 have q1c := impl_most.ctr _ _ q1
 refine path_ok (k := 5) hF (RetQ_mild _ _ _ _ _ _ _ _) (ds := [.r [.ro (.v (.int .i64 t568))] [], .p 5 ([[.v (.int .i64 t568)]])]) (os := []) (c := none) rfl KD ?_
 cases h
 exact ret_as (ms := [.own]) rfl KD
def impl_each_2.l0 : Nat → List Int → List (List Int) → Int → Int → Option (List Int × Bool)
  | 0, _, _, _, _ => none
  | k + 1, x8, x18, x19, x20 => if x20 < x19 then (if 0 ≤ x20 then (if x20 < (x18.length : Int) then ((impl_MostSegments_1.f (rd_L5 x18 x20)).bind fun t580 => (if x8.length + t580.length < 17592186044416 then (impl_each_2.l0 k (x8 ++ t580) x18 x19 (wrap64 (x20 + 1))) else (none))) else (none)) else (none)) else (some (x8, true))
def impl_each_2.f (k : Nat) (l0 : List Int) (l1 : List Int) (a2 : Int) : Option (List Int × Bool) := (impl_SegmentsValid.f k l0 l1).bind fun t572 => (if t572 = true then ((impl_segments.f k l0 l1).bind fun t576 => (impl_each_2.l0 k (([] : List Int)) t576 (t576.length : Int) 0)) else (some (([] : List Int), false)))
def impl_each_2.I0 (r1 : List Int) (r2 : Bool) (m : Nat) (σ : St) : Prop := ∃ (x8 : List Int) (x18 : List (List Int)) (x19 : Int) (x20 : Int), impl_each_2.l0 m x8 x18 x19 x20 = some (r1, r2) ∧ σ = ⟨[(2, .v (.func (.func 69) #[] #[])), (8, .ow 1008 0), (18, .ow 1018 0), (19, .v (.int .i64 x19)), (20, .v (.int .i64 x20))], [(1008, .own 0 3 1 (rX (cI .i64) x8)), (1018, .own 0 27 1 (rX (cL (cI .i64) 1) x18))]⟩
structure impl_each_2.C (k : Nat) : Prop where
 s_l0 : ∀ (r1 : List Int) (r2 : Bool) (w : World) (ro : Nat → Prop) (B : Nat) (_ : Fr TE (cx0 Tryz.f66 none w ro B)) (x8 : List Int) (x18 : List (List Int)) (x19 : Int) (x20 : Int) (_ : impl_each_2.l0 k x8 x18 x19 x20 = some (r1, r2)), Kp (WS TE (cx0 Tryz.f66 none w ro B) (stkAt [1, 1, 1, 0, 1, 0] [] (bodyOf Tryz.f66) []) ⟨[(2, .v (.func (.func 69) #[] #[])), (8, .ow 1008 0), (18, .ow 1018 0), (19, .v (.int .i64 x19)), (20, .v (.int .i64 x20))], [(1008, .own 0 3 1 (rX (cI .i64) x8)), (1018, .own 0 27 1 (rX (cL (cI .i64) 1) x18))]⟩ (RetQ TE Tryz.f66 none [.own 3 1 (rX (cI .i64) r1), .ro (.v (.bool r2))] [] w ro B))
set_option maxRecDepth 100000 in
set_option maxHeartbeats 4000000 in
theorem impl_each_2.c_l0 (k : Nat) (ih : Kp (∀ m, m < k → impl_each_2.C m)) (r1 : List Int) (r2 : Bool) (w : World) (ro : Nat → Prop) (B : Nat) (hF : Fr TE (cx0 Tryz.f66 none w ro B)) (x8 : List Int) (x18 : List (List Int)) (x19 : Int) (x20 : Int) (h : impl_each_2.l0 k x8 x18 x19 x20 = some (r1, r2)) : Kp (WS TE (cx0 Tryz.f66 none w ro B) (stkAt [1, 1, 1, 0, 1, 0] [] (bodyOf Tryz.f66) []) ⟨[(2, .v (.func (.func 69) #[] #[])), (8, .ow 1008 0), (18, .ow 1018 0), (19, .v (.int .i64 x19)), (20, .v (.int .i64 x20))], [(1008, .own 0 3 1 (rX (cI .i64) x8)), (1018, .own 0 27 1 (rX (cL (cI .i64) 1) x18))]⟩ (RetQ TE Tryz.f66 none [.own 3 1 (rX (cI .i64) r1), .ro (.v (.bool r2))] [] w ro B)) := by
 refine ⟨WS.loop (fun m σ => m ≤ k ∧ impl_each_2.I0 r1 r2 m σ) k ⟨Nat.le_refl k, x8, x18, x19, x20, h, rfl⟩ (fun m σ' hI J0 hJ0 => ?_)⟩
 clear h
 obtain ⟨hk, x8, x18, x19, x20, h, rfl⟩ := hI
 cases m with
 | zero => simp [impl_each_2.l0] at h
 | succ k' =>
 simp only [impl_each_2.l0] at h
 by_cases c4 : x20 < x19
 · rw [if_pos c4] at h
   by_cases c5 : 0 ≤ x20
   · rw [if_pos c5] at h
     by_cases c6 : x20 < (x18.length : Int)
     · rw [if_pos c6] at h
       obtain ⟨t580, q7, h⟩ := Option.bind_eq_some_iff.1 h
       have q7c := impl_MostSegments_1.ctr _ _ q7
       by_cases c8 : x8.length + t580.length < 17592186044416
       · rw [if_pos c8] at h
         refine path_ok (k := 12) hF (RetQ_mild _ _ _ _ _ _ _ _) (ds := [.b true, .g [.sl 1 (rX (cI .i64) (rd_L5 x18 x20))], .r [.own 3 1 (rX (cI .i64) t580)] [], .o 28 (rX (cI .i64) (x8 ++ t580))]) (os := []) (c := none) rfl KD ?_
         exact WS.lpc [(1008, some 1008), (1018, some 1018)] (hJ0 _ _ (Nat.lt_succ_self _) ⟨by omega, (x8 ++ t580), x18, x19, (wrap64 (x20 + 1)), h, rfl⟩) KD
       · rw [if_neg c8] at h
         cases h
     · rw [if_neg c6] at h
       cases h
   · rw [if_neg c5] at h
     cases h
 · rw [if_neg c4] at h
   refine path_ok (k := 8) hF (RetQ_mild _ _ _ _ _ _ _ _) (ds := [.b false]) (os := []) (c := none) rfl KD ?_
   cases h
   exact ret_as (ms := [.own, .ro]) rfl KD
theorem impl_each_2.cs (k : Nat) : impl_each_2.C k := by
 induction k using Nat.strongRecOn with
 | _ k ih0 =>
 have ih : Kp (∀ m, m < k → impl_each_2.C m) := ⟨ih0⟩
 exact ⟨impl_each_2.c_l0 k ih⟩
set_option maxRecDepth 100000 in
set_option maxHeartbeats 4000000 in
theorem impl_each_2.ctr (k : Nat) (l0 : List Int) (l1 : List Int) (a2 : Int) (r1 : List Int) (r2 : Bool) (h : impl_each_2.f k l0 l1 a2 = some (r1, r2)) : Ctr TE 66 none [.sl 1 (rX (cI .i64) l0), .sl 1 (rX (cI .i64) l1), .v (.func (.func 69) #[] #[])] [.own 3 1 (rX (cI .i64) r1), .ro (.v (.bool r2))] [] := by
 refine ctr_of (fn := Tryz.f66) (c := (bodyOf Tryz.f66)) Tryz.func66 rfl (by kernel_rfl) (Nat.le_of_ble_eq_true (by kernel_rfl)) (fun w ro B hF _ => ?_)
 have ih : Kp (∀ m, m < k + 1 → impl_each_2.C m) := ⟨fun m _ => impl_each_2.cs m⟩
 simp only [impl_each_2.f] at h
 obtain ⟨t572, q1, h⟩ := Option.bind_eq_some_iff.1 h
 have q1c := impl_SegmentsValid.ctr k _ _ _ q1
 by_cases c2 : t572 = true
 · rw [if_pos c2] at h
   obtain ⟨t576, q3, h⟩ := Option.bind_eq_some_iff.1 h
   have q3c := impl_segments.ctr k _ _ _ q3
   refine path_ok (k := 13) hF (RetQ_mild _ _ _ _ _ _ _ _) (ds := [.r [.ro (.v (.bool t572))] [], .b false, .p 15 ([]), .r [.own 27 1 (rX (cL (cI .i64) 1) t576)] [], .e 19 (.v (.int .i64 (t576.length : Int)))]) (os := []) (c := none) rfl KD ?_
   exact WS.can [(1008, some 15), (1018, some 100288)] (((ih.out k (by omega)).s_l0  r1 r2 w ro B hF (([] : List Int)) t576 (t576.length : Int) 0 h).out) KD
 · rw [if_neg c2] at h
   refine path_ok (k := 9) hF (RetQ_mild _ _ _ _ _ _ _ _) (ds := [.r [.ro (.v (.bool t572))] [], .b true]) (os := []) (c := none) rfl KD ?_
   cases h
   exact ret_as (ms := [.nil 3 1, .ro]) rfl KD
def impl_MostSegments.f (k : Nat) (l0 : List Int) (l1 : List Int) : Option (List Int × Bool) := (impl_each_2.f k l0 l1 0).bind fun bt586 => (some (bt586.1, bt586.2))
set_option maxRecDepth 100000 in
set_option maxHeartbeats 4000000 in
theorem impl_MostSegments.ctr (k : Nat) (l0 : List Int) (l1 : List Int) (r1 : List Int) (r2 : Bool) (h : impl_MostSegments.f k l0 l1 = some (r1, r2)) : Ctr TE 24 none [.sl 1 (rX (cI .i64) l0), .sl 1 (rX (cI .i64) l1)] [.own 3 1 (rX (cI .i64) r1), .ro (.v (.bool r2))] [] := by
 refine ctr_of (fn := Tryz.f24) (c := (bodyOf Tryz.f24)) Tryz.func24 rfl (by kernel_rfl) (Nat.le_of_ble_eq_true (by kernel_rfl)) (fun w ro B hF _ => ?_)
 simp only [impl_MostSegments.f] at h
 obtain ⟨⟨t586, t587⟩, q1, h⟩ := Option.bind_eq_some_iff.1 h
 dsimp only at h
 have q1c := impl_each_2.ctr k _ _ _ _ _ q1
 refine path_ok (k := 5) hF (RetQ_mild _ _ _ _ _ _ _ _) (ds := [.r [.own 3 1 (rX (cI .i64) t586), .ro (.v (.bool t587))] []]) (os := []) (c := none) rfl KD ?_
 cases h
 exact ret_as (ms := [.own, .ro]) rfl KD
def impl_scan.l0 : Nat → List Int → List Int → Int → Int → Option (List Int)
  | 0, _, _, _, _ => none
  | k + 1, x0, x3, x7, x8 => if x8 < x7 then (if 0 ≤ x8 then (if x8 ≤ (x0.length : Int) then ((impl_sum.f k (x0.take (x8 : Int).toNat)).bind fun t594 => (if x3.length < 17592186044416 then (impl_scan.l0 k x0 (x3 ++ [t594]) x7 (wrap64 (x8 + 1))) else (none))) else (none)) else (none)) else (some x3)
def impl_scan.f (k : Nat) (l0 : List Int) : Option (List Int) := impl_scan.l0 k l0 (([] : List Int)) (l0.length : Int) 0
def impl_scan.I0 (r : List Int) (m : Nat) (σ : St) : Prop := ∃ (x0 : List Int) (x3 : List Int) (x7 : Int) (x8 : Int), impl_scan.l0 m x0 x3 x7 x8 = some r ∧ σ = ⟨[(0, .sl 1 (rX (cI .i64) x0)), (3, .ow 1003 0), (7, .v (.int .i64 x7)), (8, .v (.int .i64 x8))], [(1003, .own 0 3 1 (rX (cI .i64) x3))]⟩
structure impl_scan.C (k : Nat) : Prop where
 s_l0 : ∀ (r : List Int) (w : World) (ro : Nat → Prop) (B : Nat) (_ : Fr TE (cx0 Tryz.f71 none w ro B)) (x0 : List Int) (x3 : List Int) (x7 : Int) (x8 : Int) (_ : impl_scan.l0 k x0 x3 x7 x8 = some r), Kp (WS TE (cx0 Tryz.f71 none w ro B) (stkAt [1, 1, 0, 1, 0] [] (bodyOf Tryz.f71) []) ⟨[(0, .sl 1 (rX (cI .i64) x0)), (3, .ow 1003 0), (7, .v (.int .i64 x7)), (8, .v (.int .i64 x8))], [(1003, .own 0 3 1 (rX (cI .i64) x3))]⟩ (RetQ TE Tryz.f71 none [.own 3 1 (rX (cI .i64) r)] [] w ro B))
set_option maxRecDepth 100000 in
set_option maxHeartbeats 4000000 in
theorem impl_scan.c_l0 (k : Nat) (ih : Kp (∀ m, m < k → impl_scan.C m)) (r : List Int) (w : World) (ro : Nat → Prop) (B : Nat) (hF : Fr TE (cx0 Tryz.f71 none w ro B)) (x0 : List Int) (x3 : List Int) (x7 : Int) (x8 : Int) (h : impl_scan.l0 k x0 x3 x7 x8 = some r) : Kp (WS TE (cx0 Tryz.f71 none w ro B) (stkAt [1, 1, 0, 1, 0] [] (bodyOf Tryz.f71) []) ⟨[(0, .sl 1 (rX (cI .i64) x0)), (3, .ow 1003 0), (7, .v (.int .i64 x7)), (8, .v (.int .i64 x8))], [(1003, .own 0 3 1 (rX (cI .i64) x3))]⟩ (RetQ TE Tryz.f71 none [.own 3 1 (rX (cI .i64) r)] [] w ro B)) := by
 refine ⟨WS.loop (fun m σ => m ≤ k ∧ impl_scan.I0 r m σ) k ⟨Nat.le_refl k, x0, x3, x7, x8, h, rfl⟩ (fun m σ' hI J0 hJ0 => ?_)⟩
 clear h
 obtain ⟨hk, x0, x3, x7, x8, h, rfl⟩ := hI
 cases m with
 | zero => simp [impl_scan.l0] at h
 | succ k' =>
 simp only [impl_scan.l0] at h
 by_cases c1 : x8 < x7
 · rw [if_pos c1] at h
   by_cases c2 : 0 ≤ x8
   · rw [if_pos c2] at h
     by_cases c3 : x8 ≤ (x0.length : Int)
     · rw [if_pos c3] at h
       obtain ⟨t594, q4, h⟩ := Option.bind_eq_some_iff.1 h
       have q4c := impl_sum.ctr k' _ _ q4
       by_cases c5 : x3.length < 17592186044416
       · rw [if_pos c5] at h
         refine path_ok (k := 12) hF (RetQ_mild _ _ _ _ _ _ _ _) (ds := [.b true, .e 14 (.sl 1 (rX (cI .i64) (x0.take (x8 : Int).toNat))), .r [.ro (.v (.int .i64 t594))] [], .p 16 ([[.v (.int .i64 t594)]]), .o 17 (rX (cI .i64) (x3 ++ [t594]))]) (os := []) (c := none) rfl KD ?_
         exact WS.lpc [(1003, some 1003)] (hJ0 _ _ (Nat.lt_succ_self _) ⟨by omega, x0, (x3 ++ [t594]), x7, (wrap64 (x8 + 1)), h, rfl⟩) KD
       · rw [if_neg c5] at h
         cases h
     · rw [if_neg c3] at h
       cases h
   · rw [if_neg c2] at h
     cases h
 · rw [if_neg c1] at h
   refine path_ok (k := 8) hF (RetQ_mild _ _ _ _ _ _ _ _) (ds := [.b false]) (os := []) (c := none) rfl KD ?_
   cases h
   exact ret_as (ms := [.own]) rfl KD
theorem impl_scan.cs (k : Nat) : impl_scan.C k := by
 induction k using Nat.strongRecOn with
 | _ k ih0 =>
 have ih : Kp (∀ m, m < k → impl_scan.C m) := ⟨ih0⟩
 exact ⟨impl_scan.c_l0 k ih⟩
set_option maxRecDepth 100000 in
set_option maxHeartbeats 4000000 in
theorem impl_scan.ctr (k : Nat) (l0 : List Int) (r : List Int) (h : impl_scan.f k l0 = some r) : Ctr TE 71 none [.sl 1 (rX (cI .i64) l0)] [.own 3 1 (rX (cI .i64) r)] [] := by
 refine ctr_of (fn := Tryz.f71) (c := (bodyOf Tryz.f71)) Tryz.func71 rfl (by kernel_rfl) (Nat.le_of_ble_eq_true (by kernel_rfl)) (fun w ro B hF _ => ?_)
 have ih : Kp (∀ m, m < k + 1 → impl_scan.C m) := ⟨fun m _ => impl_scan.cs m⟩
 simp only [impl_scan.f] at h
 refine path_ok (k := 8) hF (RetQ_mild _ _ _ _ _ _ _ _) (ds := [.p 5 ([]), .e 7 (.v (.int .i64 (l0.length : Int)))]) (os := []) (c := none) rfl KD ?_
 exact WS.can [(1003, some 5)] (((ih.out k (by omega)).s_l0  r w ro B hF l0 (([] : List Int)) (l0.length : Int) 0 h).out) KD
def impl_each_3.l0 : Nat → List Int → List (List Int) → Int → Int → Option (List Int × Bool)
  | 0, _, _, _, _ => none
  | k + 1, x8, x18, x19, x20 => if x20 < x19 then (if 0 ≤ x20 then (if x20 < (x18.length : Int) then ((impl_scan.f k (rd_L5 x18 x20)).bind fun t606 => (if x8.length + t606.length < 17592186044416 then (impl_each_3.l0 k (x8 ++ t606) x18 x19 (wrap64 (x20 + 1))) else (none))) else (none)) else (none)) else (some (x8, true))
def impl_each_3.f (k : Nat) (l0 : List Int) (l1 : List Int) (a2 : Int) : Option (List Int × Bool) := (impl_SegmentsValid.f k l0 l1).bind fun t598 => (if t598 = true then ((impl_segments.f k l0 l1).bind fun t602 => (impl_each_3.l0 k (([] : List Int)) t602 (t602.length : Int) 0)) else (some (([] : List Int), false)))
def impl_each_3.I0 (r1 : List Int) (r2 : Bool) (m : Nat) (σ : St) : Prop := ∃ (x8 : List Int) (x18 : List (List Int)) (x19 : Int) (x20 : Int), impl_each_3.l0 m x8 x18 x19 x20 = some (r1, r2) ∧ σ = ⟨[(2, .v (.func (.func 71) #[] #[])), (8, .ow 1008 0), (18, .ow 1018 0), (19, .v (.int .i64 x19)), (20, .v (.int .i64 x20))], [(1008, .own 0 3 1 (rX (cI .i64) x8)), (1018, .own 0 27 1 (rX (cL (cI .i64) 1) x18))]⟩
structure impl_each_3.C (k : Nat) : Prop where
 s_l0 : ∀ (r1 : List Int) (r2 : Bool) (w : World) (ro : Nat → Prop) (B : Nat) (_ : Fr TE (cx0 Tryz.f66 none w ro B)) (x8 : List Int) (x18 : List (List Int)) (x19 : Int) (x20 : Int) (_ : impl_each_3.l0 k x8 x18 x19 x20 = some (r1, r2)), Kp (WS TE (cx0 Tryz.f66 none w ro B) (stkAt [1, 1, 1, 0, 1, 0] [] (bodyOf Tryz.f66) []) ⟨[(2, .v (.func (.func 71) #[] #[])), (8, .ow 1008 0), (18, .ow 1018 0), (19, .v (.int .i64 x19)), (20, .v (.int .i64 x20))], [(1008, .own 0 3 1 (rX (cI .i64) x8)), (1018, .own 0 27 1 (rX (cL (cI .i64) 1) x18))]⟩ (RetQ TE Tryz.f66 none [.own 3 1 (rX (cI .i64) r1), .ro (.v (.bool r2))] [] w ro B))
set_option maxRecDepth 100000 in
set_option maxHeartbeats 4000000 in
theorem impl_each_3.c_l0 (k : Nat) (ih : Kp (∀ m, m < k → impl_each_3.C m)) (r1 : List Int) (r2 : Bool) (w : World) (ro : Nat → Prop) (B : Nat) (hF : Fr TE (cx0 Tryz.f66 none w ro B)) (x8 : List Int) (x18 : List (List Int)) (x19 : Int) (x20 : Int) (h : impl_each_3.l0 k x8 x18 x19 x20 = some (r1, r2)) : Kp (WS TE (cx0 Tryz.f66 none w ro B) (stkAt [1, 1, 1, 0, 1, 0] [] (bodyOf Tryz.f66) []) ⟨[(2, .v (.func (.func 71) #[] #[])), (8, .ow 1008 0), (18, .ow 1018 0), (19, .v (.int .i64 x19)), (20, .v (.int .i64 x20))], [(1008, .own 0 3 1 (rX (cI .i64) x8)), (1018, .own 0 27 1 (rX (cL (cI .i64) 1) x18))]⟩ (RetQ TE Tryz.f66 none [.own 3 1 (rX (cI .i64) r1), .ro (.v (.bool r2))] [] w ro B)) := by
 refine ⟨WS.loop (fun m σ => m ≤ k ∧ impl_each_3.I0 r1 r2 m σ) k ⟨Nat.le_refl k, x8, x18, x19, x20, h, rfl⟩ (fun m σ' hI J0 hJ0 => ?_)⟩
 clear h
 obtain ⟨hk, x8, x18, x19, x20, h, rfl⟩ := hI
 cases m with
 | zero => simp [impl_each_3.l0] at h
 | succ k' =>
 simp only [impl_each_3.l0] at h
 by_cases c4 : x20 < x19
 · rw [if_pos c4] at h
   by_cases c5 : 0 ≤ x20
   · rw [if_pos c5] at h
     by_cases c6 : x20 < (x18.length : Int)
     · rw [if_pos c6] at h
       obtain ⟨t606, q7, h⟩ := Option.bind_eq_some_iff.1 h
       have q7c := impl_scan.ctr k' _ _ q7
       by_cases c8 : x8.length + t606.length < 17592186044416
       · rw [if_pos c8] at h
         refine path_ok (k := 12) hF (RetQ_mild _ _ _ _ _ _ _ _) (ds := [.b true, .g [.sl 1 (rX (cI .i64) (rd_L5 x18 x20))], .r [.own 3 1 (rX (cI .i64) t606)] [], .o 28 (rX (cI .i64) (x8 ++ t606))]) (os := []) (c := none) rfl KD ?_
         exact WS.lpc [(1008, some 1008), (1018, some 1018)] (hJ0 _ _ (Nat.lt_succ_self _) ⟨by omega, (x8 ++ t606), x18, x19, (wrap64 (x20 + 1)), h, rfl⟩) KD
       · rw [if_neg c8] at h
         cases h
     · rw [if_neg c6] at h
       cases h
   · rw [if_neg c5] at h
     cases h
 · rw [if_neg c4] at h
   refine path_ok (k := 8) hF (RetQ_mild _ _ _ _ _ _ _ _) (ds := [.b false]) (os := []) (c := none) rfl KD ?_
   cases h
   exact ret_as (ms := [.own, .ro]) rfl KD
theorem impl_each_3.cs (k : Nat) : impl_each_3.C k := by
 induction k using Nat.strongRecOn with
 | _ k ih0 =>
 have ih : Kp (∀ m, m < k → impl_each_3.C m) := ⟨ih0⟩
 exact ⟨impl_each_3.c_l0 k ih⟩
set_option maxRecDepth 100000 in
set_option maxHeartbeats 4000000 in
theorem impl_each_3.ctr (k : Nat) (l0 : List Int) (l1 : List Int) (a2 : Int) (r1 : List Int) (r2 : Bool) (h : impl_each_3.f k l0 l1 a2 = some (r1, r2)) : Ctr TE 66 none [.sl 1 (rX (cI .i64) l0), .sl 1 (rX (cI .i64) l1), .v (.func (.func 71) #[] #[])] [.own 3 1 (rX (cI .i64) r1), .ro (.v (.bool r2))] [] := by
 refine ctr_of (fn := Tryz.f66) (c := (bodyOf Tryz.f66)) Tryz.func66 rfl (by kernel_rfl) (Nat.le_of_ble_eq_true (by kernel_rfl)) (fun w ro B hF _ => ?_)
 have ih : Kp (∀ m, m < k + 1 → impl_each_3.C m) := ⟨fun m _ => impl_each_3.cs m⟩
 simp only [impl_each_3.f] at h
 obtain ⟨t598, q1, h⟩ := Option.bind_eq_some_iff.1 h
 have q1c := impl_SegmentsValid.ctr k _ _ _ q1
 by_cases c2 : t598 = true
 · rw [if_pos c2] at h
   obtain ⟨t602, q3, h⟩ := Option.bind_eq_some_iff.1 h
   have q3c := impl_segments.ctr k _ _ _ q3
   refine path_ok (k := 13) hF (RetQ_mild _ _ _ _ _ _ _ _) (ds := [.r [.ro (.v (.bool t598))] [], .b false, .p 15 ([]), .r [.own 27 1 (rX (cL (cI .i64) 1) t602)] [], .e 19 (.v (.int .i64 (t602.length : Int)))]) (os := []) (c := none) rfl KD ?_
   exact WS.can [(1008, some 15), (1018, some 100288)] (((ih.out k (by omega)).s_l0  r1 r2 w ro B hF (([] : List Int)) t602 (t602.length : Int) 0 h).out) KD
 · rw [if_neg c2] at h
   refine path_ok (k := 9) hF (RetQ_mild _ _ _ _ _ _ _ _) (ds := [.r [.ro (.v (.bool t598))] [], .b true]) (os := []) (c := none) rfl KD ?_
   cases h
   exact ret_as (ms := [.nil 3 1, .ro]) rfl KD
end Go.Proofs.YtoloblgjlnhioaaGreatDoor.I
