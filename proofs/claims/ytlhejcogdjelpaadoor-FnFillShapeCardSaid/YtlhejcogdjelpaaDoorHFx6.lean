/- A part of the claim. -/
import Derived.Test.YtlhejcogdjelpaaDoorHFx0
import Derived.Test.YtlhejcogdjelpaaDoorHFx1
import Derived.Test.YtlhejcogdjelpaaDoorHFx2
import Derived.Test.YtlhejcogdjelpaaDoorHFx3
import Derived.Test.YtlhejcogdjelpaaDoorHFx5
import Derived.Test.YtlhejcogdjelpaaDoorHFSgw
-- PRINTED by print.py (a twelfth state) out of the translation. Not trusted: Lean checks it.
namespace Go.Proofs.YtlhejcogdjelpaaDoor.H
open Go.RowKit Go.Proofs.YtlhejcogdjelpaaDoorW.St Go.Proofs.YtlhejcogdjelpaaDoorW.PrintWords Go.Proofs.YtlhejcogdjelpaaDoorW.PrintLast Go.Proofs.YtlhejcogdjelpaaDoorW.PrintMore
attribute [local go_sem] max2_int min2_int max_two min_two max_three min_three max_four min_four   -- for this text's walks alone
set_option linter.unusedVariables false
set_option linter.unusedSimpArgs false
mutual
def impl_FillShape.j0 : Nat → List Int → List Int → Bool → Option (ByteArray × Bool)
  | 0, _, _, _ => none
  | k + 1, x0, x1, x23 => if x23 = true then (some ((⟨#[]⟩ : ByteArray), false)) else (impl_FillShape.l0 k x0 x1 1 x0 (x0.length : Int) 0)
def impl_FillShape.l0 : Nat → List Int → List Int → Int → List Int → Int → Int → Option (ByteArray × Bool)
  | 0, _, _, _, _, _, _ => none
  | k + 1, x0, x1, x6, x24, x25, x26 => if x26 < x25 then (if 0 ≤ x26 then (if x26 < (x24.length : Int) then (impl_FillShape.l0 k x0 x1 (wrap64 (x6 * (rd x24 x26))) x24 x25 (wrap64 (x26 + 1))) else (none)) else (none)) else (if (x1.length : Int) = x6 then ((impl_fill.f k x0 x1).bind fun bt526 => ((impl_arr_short.f k bt526.1 bt526.2.1 (x0.length : Int)).bind fun bt534 => (some (bt534.1, bt534.2)))) else (some ((⟨#[]⟩ : ByteArray), false)))
end
def impl_FillShape.f (k : Nat) (l0 : List Int) (l1 : List Int) : Option (ByteArray × Bool) := if (l0.length : Int) > 3 then (impl_FillShape.j0 k l0 l1 true) else ((impl_within.f l0 400).bind fun t523 => (if t523 = true then ((impl_dataOk.f l1).bind fun t524 => (impl_FillShape.j0 k l0 l1 (!t524))) else (impl_FillShape.j0 k l0 l1 true)))
def impl_FillShape.I0 (r1 : ByteArray) (r2 : Bool) (m : Nat) (σ : St) : Prop := ∃ (x0 : List Int) (x1 : List Int) (x6 : Int) (x24 : List Int) (x25 : Int) (x26 : Int), impl_FillShape.l0 m x0 x1 x6 x24 x25 x26 = some (r1, r2) ∧ σ = ⟨[(0, .sl 1 (rX (cI .i64) x0)), (1, .sl 1 (rX (cI .i64) x1)), (6, .v (.int .i64 x6)), (24, .sl 1 (rX (cI .i64) x24)), (25, .v (.int .i64 x25)), (26, .v (.int .i64 x26))], []⟩
structure impl_FillShape.C (k : Nat) : Prop where
 s_j0 : ∀ (r1 : ByteArray) (r2 : Bool) (w : World) (ro : Nat → Prop) (B : Nat) (_ : Fr TE (cx0 Tryd.f13 none w ro B)) (x0 : List Int) (x1 : List Int) (x23 : Bool) (_ : impl_FillShape.j0 k x0 x1 x23 = some (r1, r2)), Kp (WS TE (cx0 Tryd.f13 none w ro B) (stkAt [1, 0, 0, 9] [] (bodyOf Tryd.f13) []) ⟨[(0, .sl 1 (rX (cI .i64) x0)), (1, .sl 1 (rX (cI .i64) x1)), (23, .v (.bool x23))], []⟩ (RetQ TE Tryd.f13 none [.ro (.v (.string r1)), .ro (.v (.bool r2))] [] w ro B))
 s_l0 : ∀ (r1 : ByteArray) (r2 : Bool) (w : World) (ro : Nat → Prop) (B : Nat) (_ : Fr TE (cx0 Tryd.f13 none w ro B)) (x0 : List Int) (x1 : List Int) (x6 : Int) (x24 : List Int) (x25 : Int) (x26 : Int) (_ : impl_FillShape.l0 k x0 x1 x6 x24 x25 x26 = some (r1, r2)), Kp (WS TE (cx0 Tryd.f13 none w ro B) (stkAt [1, 1, 1, 0, 1, 0] [] (bodyOf Tryd.f13) []) ⟨[(0, .sl 1 (rX (cI .i64) x0)), (1, .sl 1 (rX (cI .i64) x1)), (6, .v (.int .i64 x6)), (24, .sl 1 (rX (cI .i64) x24)), (25, .v (.int .i64 x25)), (26, .v (.int .i64 x26))], []⟩ (RetQ TE Tryd.f13 none [.ro (.v (.string r1)), .ro (.v (.bool r2))] [] w ro B))
set_option maxRecDepth 100000 in
set_option maxHeartbeats 4000000 in
theorem impl_FillShape.c_j0 (k : Nat) (ih : Kp (∀ m, m < k → impl_FillShape.C m)) (r1 : ByteArray) (r2 : Bool) (w : World) (ro : Nat → Prop) (B : Nat) (hF : Fr TE (cx0 Tryd.f13 none w ro B)) (x0 : List Int) (x1 : List Int) (x23 : Bool) (h : impl_FillShape.j0 k x0 x1 x23 = some (r1, r2)) : Kp (WS TE (cx0 Tryd.f13 none w ro B) (stkAt [1, 0, 0, 9] [] (bodyOf Tryd.f13) []) ⟨[(0, .sl 1 (rX (cI .i64) x0)), (1, .sl 1 (rX (cI .i64) x1)), (23, .v (.bool x23))], []⟩ (RetQ TE Tryd.f13 none [.ro (.v (.string r1)), .ro (.v (.bool r2))] [] w ro B)) := by
 refine ⟨?_⟩
 cases k with
 | zero => simp [impl_FillShape.j0] at h
 | succ k =>
 simp only [impl_FillShape.j0] at h
 by_cases c5 : x23 = true
 · rw [if_pos c5] at h
   refine path_ok (k := 4) hF (RetQ_mild _ _ _ _ _ _ _ _) (ds := [.b true]) (os := []) (c := none) rfl KD ?_
   cases h
   exact ret_as (ms := [.ro, .ro]) rfl KD
 · rw [if_neg c5] at h
   refine path_ok (k := 8) hF (RetQ_mild _ _ _ _ _ _ _ _) (ds := [.b false, .e 25 (.v (.int .i64 (x0.length : Int)))]) (os := []) (c := none) rfl KD ?_
   exact WS.can [] (((ih.out k (by omega)).s_l0  r1 r2 w ro B hF x0 x1 1 x0 (x0.length : Int) 0 h).out) KD
set_option maxRecDepth 100000 in
set_option maxHeartbeats 4000000 in
theorem impl_FillShape.c_l0 (k : Nat) (ih : Kp (∀ m, m < k → impl_FillShape.C m)) (r1 : ByteArray) (r2 : Bool) (w : World) (ro : Nat → Prop) (B : Nat) (hF : Fr TE (cx0 Tryd.f13 none w ro B)) (x0 : List Int) (x1 : List Int) (x6 : Int) (x24 : List Int) (x25 : Int) (x26 : Int) (h : impl_FillShape.l0 k x0 x1 x6 x24 x25 x26 = some (r1, r2)) : Kp (WS TE (cx0 Tryd.f13 none w ro B) (stkAt [1, 1, 1, 0, 1, 0] [] (bodyOf Tryd.f13) []) ⟨[(0, .sl 1 (rX (cI .i64) x0)), (1, .sl 1 (rX (cI .i64) x1)), (6, .v (.int .i64 x6)), (24, .sl 1 (rX (cI .i64) x24)), (25, .v (.int .i64 x25)), (26, .v (.int .i64 x26))], []⟩ (RetQ TE Tryd.f13 none [.ro (.v (.string r1)), .ro (.v (.bool r2))] [] w ro B)) := by
 refine ⟨WS.loop (fun m σ => m ≤ k ∧ impl_FillShape.I0 r1 r2 m σ) k ⟨Nat.le_refl k, x0, x1, x6, x24, x25, x26, h, rfl⟩ (fun m σ' hI J0 hJ0 => ?_)⟩
 clear h
 obtain ⟨hk, x0, x1, x6, x24, x25, x26, h, rfl⟩ := hI
 cases m with
 | zero => simp [impl_FillShape.l0] at h
 | succ k' =>
 simp only [impl_FillShape.l0] at h
 by_cases c6 : x26 < x25
 · rw [if_pos c6] at h
   by_cases c7 : 0 ≤ x26
   · rw [if_pos c7] at h
     by_cases c8 : x26 < (x24.length : Int)
     · rw [if_pos c8] at h
       refine path_ok (k := 12) hF (RetQ_mild _ _ _ _ _ _ _ _) (ds := [.b true, .e 28 (.rf [.v (.int .i64 (rd x24 x26))])]) (os := []) (c := none) rfl KD ?_
       exact WS.lpc [] (hJ0 _ _ (Nat.lt_succ_self _) ⟨by omega, x0, x1, (wrap64 (x6 * (rd x24 x26))), x24, x25, (wrap64 (x26 + 1)), h, rfl⟩) KD
     · rw [if_neg c8] at h
       cases h
   · rw [if_neg c7] at h
     cases h
 · rw [if_neg c6] at h
   by_cases c9 : (x1.length : Int) = x6
   · rw [if_pos c9] at h
     obtain ⟨⟨t526, t527, t530⟩, q10, h⟩ := Option.bind_eq_some_iff.1 h
     dsimp only at h
     have q10c := impl_fill.ctr k' _ _ _ _ _ q10
     obtain ⟨⟨t534, t535⟩, q11, h⟩ := Option.bind_eq_some_iff.1 h
     dsimp only at h
     have q11c := impl_arr_short.ctr k' _ _ _ _ _ q11
     refine path_ok (k := 15) hF (RetQ_mild _ _ _ _ _ _ _ _) (ds := [.b false, .e 35 (.v (.int .i64 (x1.length : Int))), .b false, .r [.ro (.ag [.v (.int .i64 t526), .sl 2 (r55 t527)]), .ro (.sl 1 (rX (cI .i64) t530))] [], .e 46 (.v (.int .i64 (x0.length : Int))), .r [.ro (.v (.string t534)), .ro (.v (.bool t535))] []]) (os := []) (c := none) rfl KD ?_
     cases h
     exact ret_as (ms := [.ro, .ro]) rfl KD
   · rw [if_neg c9] at h
     refine path_ok (k := 12) hF (RetQ_mild _ _ _ _ _ _ _ _) (ds := [.b false, .e 35 (.v (.int .i64 (x1.length : Int))), .b true]) (os := []) (c := none) rfl KD ?_
     cases h
     exact ret_as (ms := [.ro, .ro]) rfl KD
theorem impl_FillShape.cs (k : Nat) : impl_FillShape.C k := by
 induction k using Nat.strongRecOn with
 | _ k ih0 =>
 have ih : Kp (∀ m, m < k → impl_FillShape.C m) := ⟨ih0⟩
 exact ⟨impl_FillShape.c_j0 k ih, impl_FillShape.c_l0 k ih⟩
set_option maxRecDepth 100000 in
set_option maxHeartbeats 4000000 in
theorem impl_FillShape.ctr (k : Nat) (l0 : List Int) (l1 : List Int) (r1 : ByteArray) (r2 : Bool) (h : impl_FillShape.f k l0 l1 = some (r1, r2)) : Ctr TE 13 none [.sl 1 (rX (cI .i64) l0), .sl 1 (rX (cI .i64) l1)] [.ro (.v (.string r1)), .ro (.v (.bool r2))] [] := by
 refine ctr_of (fn := Tryd.f13) (c := (bodyOf Tryd.f13)) Tryd.func13 rfl (by kernel_rfl) (Nat.le_of_ble_eq_true (by kernel_rfl)) (fun w ro B hF _ => ?_)
 have ih : Kp (∀ m, m < k + 1 → impl_FillShape.C m) := ⟨fun m _ => impl_FillShape.cs m⟩
 simp only [impl_FillShape.f] at h
 by_cases c1 : (l0.length : Int) > 3
 · rw [if_pos c1] at h
   refine path_ok (k := 5) hF (RetQ_mild _ _ _ _ _ _ _ _) (ds := [.e 12 (.v (.int .i64 (l0.length : Int))), .b true, .b true, .b true, .b true, .b true, .b true, .b true, .b true]) (os := []) (c := none) rfl KD ?_
   exact WS.can [] (((ih.out k (by omega)).s_j0  r1 r2 w ro B hF l0 l1 true h).out) KD
 · rw [if_neg c1] at h
   obtain ⟨t523, q2, h⟩ := Option.bind_eq_some_iff.1 h
   have q2c := impl_within.ctr _ _ _ q2
   by_cases c3 : t523 = true
   · rw [if_pos c3] at h
     obtain ⟨t524, q4, h⟩ := Option.bind_eq_some_iff.1 h
     have q4c := impl_dataOk.ctr _ _ q4
     refine path_ok (k := 5) hF (RetQ_mild _ _ _ _ _ _ _ _) (ds := [.e 12 (.v (.int .i64 (l0.length : Int))), .b false, .b false, .r [.ro (.v (.bool t523))] [], .b false, .b false, .b false, .b false, .r [.ro (.v (.bool t524))] [], .b false, .b false]) (os := []) (c := none) rfl KD ?_
     exact WS.can [] (((ih.out k (by omega)).s_j0  r1 r2 w ro B hF l0 l1 (!t524) h).out) KD
   · rw [if_neg c3] at h
     refine path_ok (k := 5) hF (RetQ_mild _ _ _ _ _ _ _ _) (ds := [.e 12 (.v (.int .i64 (l0.length : Int))), .b false, .b false, .r [.ro (.v (.bool t523))] [], .b false, .b false, .b true, .b true, .b true, .b true]) (os := []) (c := none) rfl KD ?_
     exact WS.can [] (((ih.out k (by omega)).s_j0  r1 r2 w ro B hF l0 l1 true h).out) KD
mutual
def impl_arr_numbers.l0 : Nat → Int → List Int → List (S55) → Int → Int → Option (List Int)
  | 0, _, _, _, _, _ => none
  | k + 1, x1, x5, x15, x16, x17 => if x17 < x16 then (if 0 ≤ x17 then (if x17 < (x15.length : Int) then ((impl_arr_numbers.f k ((rd_T55 x15 x17).f0) ((rd_T55 x15 x17).f1) (wrap64 (x1 - 1))).bind fun t545 => (if x5.length + t545.length < 17592186044416 then (impl_arr_numbers.l0 k x1 (x5 ++ t545) x15 x16 (wrap64 (x17 + 1))) else (none))) else (none)) else (none)) else (some x5)
def impl_arr_numbers.f : Nat → Int → List (S55) → Int → Option (List Int)
  | 0, _, _, _ => none
  | k + 1, a0_0, l0_1, a1 => if a1 = 0 then (some (([a0_0] : List Int))) else (impl_arr_numbers.l0 k a1 (([] : List Int)) l0_1 (l0_1.length : Int) 0)
end
def impl_arr_numbers.I0 (r : List Int) (m : Nat) (σ : St) : Prop := ∃ (x1 : Int) (x5 : List Int) (x15 : List (S55)) (x16 : Int) (x17 : Int), impl_arr_numbers.l0 m x1 x5 x15 x16 x17 = some r ∧ σ = ⟨[(1, .v (.int .i64 x1)), (5, .ow 1005 0), (15, .sl 2 (r55 x15)), (16, .v (.int .i64 x16)), (17, .v (.int .i64 x17))], [(1005, .own 0 3 1 (rX (cI .i64) x5))]⟩
structure impl_arr_numbers.C (k : Nat) : Prop where
 s_f : ∀ (a0_0 : Int) (l0_1 : List (S55)) (a1 : Int) (r : List Int), impl_arr_numbers.f k a0_0 l0_1 a1 = some r → Ctr TE 45 none [.ag [.v (.int .i64 a0_0), .sl 2 (r55 l0_1)], .v (.int .i64 a1)] [.ro (.sl 1 (rX (cI .i64) r))] []
 s_l0 : ∀ (r : List Int) (w : World) (ro : Nat → Prop) (B : Nat) (_ : Fr TE (cx0 Tryd.f45 none w ro B)) (x1 : Int) (x5 : List Int) (x15 : List (S55)) (x16 : Int) (x17 : Int) (_ : impl_arr_numbers.l0 k x1 x5 x15 x16 x17 = some r), Kp (WS TE (cx0 Tryd.f45 none w ro B) (stkAt [1, 1, 1, 0, 1, 0] [] (bodyOf Tryd.f45) []) ⟨[(1, .v (.int .i64 x1)), (5, .ow 1005 0), (15, .sl 2 (r55 x15)), (16, .v (.int .i64 x16)), (17, .v (.int .i64 x17))], [(1005, .own 0 3 1 (rX (cI .i64) x5))]⟩ (RetQ TE Tryd.f45 none [.ro (.sl 1 (rX (cI .i64) r))] [] w ro B))
set_option maxRecDepth 100000 in
set_option maxHeartbeats 4000000 in
theorem impl_arr_numbers.c_f (k : Nat) (ih : Kp (∀ m, m < k → impl_arr_numbers.C m)) (a0_0 : Int) (l0_1 : List (S55)) (a1 : Int) (r : List Int) (h : impl_arr_numbers.f k a0_0 l0_1 a1 = some r) : Ctr TE 45 none [.ag [.v (.int .i64 a0_0), .sl 2 (r55 l0_1)], .v (.int .i64 a1)] [.ro (.sl 1 (rX (cI .i64) r))] [] := by
 cases k with
 | zero => simp [impl_arr_numbers.f] at h
 | succ k =>
 simp only [impl_arr_numbers.f] at h
 refine ctr_of (fn := Tryd.f45) (c := (bodyOf Tryd.f45)) Tryd.func45 rfl (by kernel_rfl) (Nat.le_of_ble_eq_true (by kernel_rfl)) (fun w ro B hF _ => ?_)
 by_cases c1 : a1 = 0
 · rw [if_pos c1] at h
   refine path_ok (k := 9) hF (RetQ_mild _ _ _ _ _ _ _ _) (ds := [.b true, .p 12 ([[.v (.int .i64 a0_0)]])]) (os := []) (c := none) rfl KD ?_
   cases h
   exact ret_as (ms := [.ro]) rfl KD
 · rw [if_neg c1] at h
   refine path_ok (k := 13) hF (RetQ_mild _ _ _ _ _ _ _ _) (ds := [.b false, .p 13 ([]), .e 16 (.v (.int .i64 (l0_1.length : Int)))]) (os := []) (c := none) rfl KD ?_
   exact WS.can [(1005, some 13)] (((ih.out k (by omega)).s_l0  r w ro B hF a1 (([] : List Int)) l0_1 (l0_1.length : Int) 0 h).out) KD
set_option maxRecDepth 100000 in
set_option maxHeartbeats 4000000 in
theorem impl_arr_numbers.c_l0 (k : Nat) (ih : Kp (∀ m, m < k → impl_arr_numbers.C m)) (r : List Int) (w : World) (ro : Nat → Prop) (B : Nat) (hF : Fr TE (cx0 Tryd.f45 none w ro B)) (x1 : Int) (x5 : List Int) (x15 : List (S55)) (x16 : Int) (x17 : Int) (h : impl_arr_numbers.l0 k x1 x5 x15 x16 x17 = some r) : Kp (WS TE (cx0 Tryd.f45 none w ro B) (stkAt [1, 1, 1, 0, 1, 0] [] (bodyOf Tryd.f45) []) ⟨[(1, .v (.int .i64 x1)), (5, .ow 1005 0), (15, .sl 2 (r55 x15)), (16, .v (.int .i64 x16)), (17, .v (.int .i64 x17))], [(1005, .own 0 3 1 (rX (cI .i64) x5))]⟩ (RetQ TE Tryd.f45 none [.ro (.sl 1 (rX (cI .i64) r))] [] w ro B)) := by
 refine ⟨WS.loop (fun m σ => m ≤ k ∧ impl_arr_numbers.I0 r m σ) k ⟨Nat.le_refl k, x1, x5, x15, x16, x17, h, rfl⟩ (fun m σ' hI J0 hJ0 => ?_)⟩
 clear h
 obtain ⟨hk, x1, x5, x15, x16, x17, h, rfl⟩ := hI
 cases m with
 | zero => simp [impl_arr_numbers.l0] at h
 | succ k' =>
 simp only [impl_arr_numbers.l0] at h
 by_cases c2 : x17 < x16
 · rw [if_pos c2] at h
   by_cases c3 : 0 ≤ x17
   · rw [if_pos c3] at h
     by_cases c4 : x17 < (x15.length : Int)
     · rw [if_pos c4] at h
       obtain ⟨t545, q5, h⟩ := Option.bind_eq_some_iff.1 h
       have q5c := (ih.out k' (by omega)).s_f _ _ _ _ q5
       by_cases c6 : x5.length + t545.length < 17592186044416
       · rw [if_pos c6] at h
         refine path_ok (k := 12) hF (RetQ_mild _ _ _ _ _ _ _ _) (ds := [.b true, .e 19 (.rf [.v (.int .i64 ((rd_T55 x15 x17).f0)), .sl 2 (r55 ((rd_T55 x15 x17).f1))]), .r [.ro (.sl 1 (rX (cI .i64) t545))] [], .o 26 (rX (cI .i64) (x5 ++ t545))]) (os := []) (c := none) rfl KD ?_
         exact WS.lpc [(1005, some 1005)] (hJ0 _ _ (Nat.lt_succ_self _) ⟨by omega, x1, (x5 ++ t545), x15, x16, (wrap64 (x17 + 1)), h, rfl⟩) KD
       · rw [if_neg c6] at h
         cases h
     · rw [if_neg c4] at h
       cases h
   · rw [if_neg c3] at h
     cases h
 · rw [if_neg c2] at h
   refine path_ok (k := 8) hF (RetQ_mild _ _ _ _ _ _ _ _) (ds := [.b false]) (os := []) (c := none) rfl KD ?_
   cases h
   exact ret_as (ms := [.ro]) rfl KD
theorem impl_arr_numbers.cs (k : Nat) : impl_arr_numbers.C k := by
 induction k using Nat.strongRecOn with
 | _ k ih0 =>
 have ih : Kp (∀ m, m < k → impl_arr_numbers.C m) := ⟨ih0⟩
 exact ⟨impl_arr_numbers.c_f k ih, impl_arr_numbers.c_l0 k ih⟩
theorem impl_arr_numbers.ctr (k : Nat) (a0_0 : Int) (l0_1 : List (S55)) (a1 : Int) (r : List Int) (h : impl_arr_numbers.f k a0_0 l0_1 a1 = some r) : Ctr TE 45 none [.ag [.v (.int .i64 a0_0), .sl 2 (r55 l0_1)], .v (.int .i64 a1)] [.ro (.sl 1 (rX (cI .i64) r))] [] := (impl_arr_numbers.cs k).s_f a0_0 l0_1 a1 r h
def impl_NumbersOf.f (k : Nat) (a0 : ByteArray) (a1 : Int) : Option (List Int × Bool) := (impl_arrOf.f k a0 a1).bind fun bt551 => (if bt551.2.2 = true then ((impl_arr_numbers.f k bt551.1 bt551.2.1 a1).bind fun t557 => (some (t557, true))) else (some (([] : List Int), false)))
set_option maxRecDepth 100000 in
set_option maxHeartbeats 4000000 in
theorem impl_NumbersOf.ctr (k : Nat) (a0 : ByteArray) (a1 : Int) (r1 : List Int) (r2 : Bool) (h : impl_NumbersOf.f k a0 a1 = some (r1, r2)) : Ctr TE 15 none [.v (.string a0), .v (.int .i64 a1)] [.ro (.sl 1 (rX (cI .i64) r1)), .ro (.v (.bool r2))] [] := by
 refine ctr_of (fn := Tryd.f15) (c := (bodyOf Tryd.f15)) Tryd.func15 rfl (by kernel_rfl) (Nat.le_of_ble_eq_true (by kernel_rfl)) (fun w ro B hF _ => ?_)
 simp only [impl_NumbersOf.f] at h
 obtain ⟨⟨t551, t552, t555⟩, q1, h⟩ := Option.bind_eq_some_iff.1 h
 dsimp only at h
 have q1c := impl_arrOf.ctr k _ _ _ _ _ q1
 by_cases c2 : t555 = true
 · rw [if_pos c2] at h
   obtain ⟨t557, q3, h⟩ := Option.bind_eq_some_iff.1 h
   have q3c := impl_arr_numbers.ctr k _ _ _ _ q3
   refine path_ok (k := 12) hF (RetQ_mild _ _ _ _ _ _ _ _) (ds := [.r [.ro (.ag [.v (.int .i64 t551), .sl 2 (r55 t552)]), .ro (.v (.bool t555))] [], .b false, .r [.ro (.sl 1 (rX (cI .i64) t557))] []]) (os := []) (c := none) rfl KD ?_
   cases h
   exact ret_as (ms := [.ro, .ro]) rfl KD
 · rw [if_neg c2] at h
   refine path_ok (k := 11) hF (RetQ_mild _ _ _ _ _ _ _ _) (ds := [.r [.ro (.ag [.v (.int .i64 t551), .sl 2 (r55 t552)]), .ro (.v (.bool t555))] [], .b true]) (os := []) (c := none) rfl KD ?_
   cases h
   exact ret_as (ms := [.ro, .ro]) rfl KD
mutual
def laws_FnFillShape.j0 : Nat → List Int → List Int → Bool → Option (Bool)
  | 0, _, _, _ => none
  | k + 1, x0, x1, x30 => if x30 = true then (some true) else ((spec_DrawShapeOf.f k x0).bind fun bt560 => ((impl_ShapeOf.f k bt560.1 bt560.2).bind fun bt562 => ((spec_ShapeOf.f k bt560.1 bt560.2).bind fun bt566 => ((laws_faSame.f k bt562.1 bt566.1).bind fun t570 => (if t570 = true then (if (bt562.2 != bt566.2) = true then (laws_FnFillShape.j1 k x1 bt560.1 bt560.2 bt562.1 bt562.2 true) else ((impl_IsRegular.f k bt560.1 bt560.2).bind fun t571 => (if (t571 != bt562.2) = true then (laws_FnFillShape.j1 k x1 bt560.1 bt560.2 bt562.1 bt562.2 true) else ((impl_IsRegular.f k bt560.1 bt560.2).bind fun t572 => ((spec_IsRegular.f k bt560.1 bt560.2).bind fun t573 => (laws_FnFillShape.j1 k x1 bt560.1 bt560.2 bt562.1 bt562.2 (t572 != t573))))))) else (laws_FnFillShape.j1 k x1 bt560.1 bt560.2 bt562.1 bt562.2 true))))))
def laws_FnFillShape.j1 : Nat → List Int → ByteArray → Int → List Int → Bool → Bool → Option (Bool)
  | 0, _, _, _, _, _, _ => none
  | k + 1, x1, x5, x6, x7, x8, x72 => if x72 = true then (some false) else ((spec_DrawFillShape.f k x1).bind fun bt574 => ((impl_FillShape.f k bt574.1 bt574.2).bind fun bt580 => ((spec_FillShape.f k bt574.1 bt574.2).bind fun bt582 => (if bt580.1.toList = bt582.1.toList then (laws_FnFillShape.j2 k x5 x6 x7 x8 bt574.1 bt574.2 bt580.1 bt580.2 (bt580.2 != bt582.2)) else (laws_FnFillShape.j2 k x5 x6 x7 x8 bt574.1 bt574.2 bt580.1 bt580.2 true)))))
def laws_FnFillShape.j2 : Nat → ByteArray → Int → List Int → Bool → List Int → List Int → ByteArray → Bool → Bool → Option (Bool)
  | 0, _, _, _, _, _, _, _, _, _ => none
  | k + 1, x5, x6, x7, x8, x11, x12, x13, x14, x97 => if x97 = true then (some false) else (if x14 = true then ((impl_NumbersOf.f k x13 (x11.length : Int)).bind fun bt584 => ((laws_faSame.f k bt584.1 x12).bind fun t588 => (if t588 = true then ((impl_IsRegular.f k x13 (x11.length : Int)).bind fun t589 => (if t589 = true then (laws_FnFillShape.j3 k x5 x6 x7 x8) else (some false))) else (some false)))) else (laws_FnFillShape.j3 k x5 x6 x7 x8))
def laws_FnFillShape.j3 : Nat → ByteArray → Int → List Int → Bool → Option (Bool)
  | 0, _, _, _, _ => none
  | k + 1, x5, x6, x7, x8 => if x8 = true then ((impl_NumbersOf.f k x5 x6).bind fun bt590 => ((impl_FillShape.f k x7 bt590.1).bind fun bt594 => (if bt594.2 = true then (if bt594.1.toList = x5.toList then (some ((x7.length : Int) == x6)) else (some false)) else (some false)))) else (some ((x7.length : Int) == 0))
end
def laws_FnFillShape.f (k : Nat) (l0 : List Int) (l1 : List Int) : Option (Bool) := if (l0.length : Int) > 1048576 then (laws_FnFillShape.j0 k l0 l1 true) else (laws_FnFillShape.j0 k l0 l1 (decide ((l1.length : Int) > 1048576)))
structure laws_FnFillShape.C (k : Nat) : Prop where
 s_j0 : ∀ (r : Bool) (w : World) (ro : Nat → Prop) (B : Nat) (_ : Fr TE (cx0 Tryd.f3 none w ro B)) (x0 : List Int) (x1 : List Int) (x30 : Bool) (_ : laws_FnFillShape.j0 k x0 x1 x30 = some r), Kp (WS TE (cx0 Tryd.f3 none w ro B) (stkAt [1, 0, 0, 9] [] (bodyOf Tryd.f3) []) ⟨[(0, .sl 1 (rX (cI .u8) x0)), (1, .sl 1 (rX (cI .u8) x1)), (30, .v (.bool x30))], []⟩ (RetQ TE Tryd.f3 none [.ro (.v (.bool r))] [] w ro B))
 s_j1 : ∀ (r : Bool) (w : World) (ro : Nat → Prop) (B : Nat) (_ : Fr TE (cx0 Tryd.f3 none w ro B)) (x1 : List Int) (x5 : ByteArray) (x6 : Int) (x7 : List Int) (x8 : Bool) (x72 : Bool) (_ : laws_FnFillShape.j1 k x1 x5 x6 x7 x8 x72 = some r), Kp (WS TE (cx0 Tryd.f3 none w ro B) (stkAt [1, 1, 1, 1, 1, 0, 0, 9] [] (bodyOf Tryd.f3) []) ⟨[(1, .sl 1 (rX (cI .u8) x1)), (5, .v (.string x5)), (6, .v (.int .i64 x6)), (7, .sl 1 (rX (cI .i64) x7)), (8, .v (.bool x8)), (72, .v (.bool x72))], []⟩ (RetQ TE Tryd.f3 none [.ro (.v (.bool r))] [] w ro B))
 s_j2 : ∀ (r : Bool) (w : World) (ro : Nat → Prop) (B : Nat) (_ : Fr TE (cx0 Tryd.f3 none w ro B)) (x5 : ByteArray) (x6 : Int) (x7 : List Int) (x8 : Bool) (x11 : List Int) (x12 : List Int) (x13 : ByteArray) (x14 : Bool) (x97 : Bool) (_ : laws_FnFillShape.j2 k x5 x6 x7 x8 x11 x12 x13 x14 x97 = some r), Kp (WS TE (cx0 Tryd.f3 none w ro B) (stkAt [1, 1, 1, 1, 1, 1, 1, 1, 1, 0, 0, 9] [] (bodyOf Tryd.f3) []) ⟨[(5, .v (.string x5)), (6, .v (.int .i64 x6)), (7, .sl 1 (rX (cI .i64) x7)), (8, .v (.bool x8)), (11, .sl 1 (rX (cI .i64) x11)), (12, .sl 1 (rX (cI .i64) x12)), (13, .v (.string x13)), (14, .v (.bool x14)), (97, .v (.bool x97))], []⟩ (RetQ TE Tryd.f3 none [.ro (.v (.bool r))] [] w ro B))
 s_j3 : ∀ (r : Bool) (w : World) (ro : Nat → Prop) (B : Nat) (_ : Fr TE (cx0 Tryd.f3 none w ro B)) (x5 : ByteArray) (x6 : Int) (x7 : List Int) (x8 : Bool) (_ : laws_FnFillShape.j3 k x5 x6 x7 x8 = some r), Kp (WS TE (cx0 Tryd.f3 none w ro B) (stkAt [1, 1, 1, 1, 1, 1, 1, 1, 1, 1, 0, 1, 9] [] (bodyOf Tryd.f3) []) ⟨[(5, .v (.string x5)), (6, .v (.int .i64 x6)), (7, .sl 1 (rX (cI .i64) x7)), (8, .v (.bool x8))], []⟩ (RetQ TE Tryd.f3 none [.ro (.v (.bool r))] [] w ro B))
set_option maxRecDepth 100000 in
set_option maxHeartbeats 4000000 in
theorem laws_FnFillShape.c_j0 (k : Nat) (ih : Kp (∀ m, m < k → laws_FnFillShape.C m)) (r : Bool) (w : World) (ro : Nat → Prop) (B : Nat) (hF : Fr TE (cx0 Tryd.f3 none w ro B)) (x0 : List Int) (x1 : List Int) (x30 : Bool) (h : laws_FnFillShape.j0 k x0 x1 x30 = some r) : Kp (WS TE (cx0 Tryd.f3 none w ro B) (stkAt [1, 0, 0, 9] [] (bodyOf Tryd.f3) []) ⟨[(0, .sl 1 (rX (cI .u8) x0)), (1, .sl 1 (rX (cI .u8) x1)), (30, .v (.bool x30))], []⟩ (RetQ TE Tryd.f3 none [.ro (.v (.bool r))] [] w ro B)) := by
 refine ⟨?_⟩
 cases k with
 | zero => simp [laws_FnFillShape.j0] at h
 | succ k =>
 simp only [laws_FnFillShape.j0] at h
 by_cases c2 : x30 = true
 · rw [if_pos c2] at h
   refine path_ok (k := 4) hF (RetQ_mild _ _ _ _ _ _ _ _) (ds := [.b true]) (os := []) (c := none) rfl KD ?_
   cases h
   exact ret_as (ms := [.ro]) rfl KD
 · rw [if_neg c2] at h
   obtain ⟨⟨t560, t561⟩, q3, h⟩ := Option.bind_eq_some_iff.1 h
   dsimp only at h
   have q3c := spec_DrawShapeOf.ctr k _ _ _ q3
   obtain ⟨⟨t562, t563⟩, q4, h⟩ := Option.bind_eq_some_iff.1 h
   dsimp only at h
   have q4c := impl_ShapeOf.ctr k _ _ _ _ q4
   obtain ⟨⟨t566, t567⟩, q5, h⟩ := Option.bind_eq_some_iff.1 h
   dsimp only at h
   have q5c := spec_ShapeOf.ctr k _ _ _ _ q5
   obtain ⟨t570, q6, h⟩ := Option.bind_eq_some_iff.1 h
   have q6c := laws_faSame.ctr k _ _ _ q6
   by_cases c7 : t570 = true
   · rw [if_pos c7] at h
     by_cases c8 : (t563 != t567) = true
     · rw [if_pos c8] at h
       refine path_ok (k := 11) hF (RetQ_mild _ _ _ _ _ _ _ _) (ds := [.b false, .r [.ro (.v (.string t560)), .ro (.v (.int .i64 t561))] [], .r [.own 3 1 (rX (cI .i64) t562), .ro (.v (.bool t563))] [], .r [.own 3 1 (rX (cI .i64) t566), .ro (.v (.bool t567))] [], .r [.ro (.v (.bool t570))] [], .b false, .b false, .b false, .b false, .b true, .b true, .b true, .b true, .b true, .b true, .b true, .b true, .b true, .b true, .b true, .b true, .b true, .b true]) (os := []) (c := none) rfl KD ?_
       exact WS.can [] (((ih.out k (by omega)).s_j1  r w ro B hF x1 t560 t561 t562 t563 true h).out) KD
     · rw [if_neg c8] at h
       obtain ⟨t571, q9, h⟩ := Option.bind_eq_some_iff.1 h
       have q9c := impl_IsRegular.ctr k _ _ _ q9
       by_cases c10 : (t571 != t563) = true
       · rw [if_pos c10] at h
         refine path_ok (k := 11) hF (RetQ_mild _ _ _ _ _ _ _ _) (ds := [.b false, .r [.ro (.v (.string t560)), .ro (.v (.int .i64 t561))] [], .r [.own 3 1 (rX (cI .i64) t562), .ro (.v (.bool t563))] [], .r [.own 3 1 (rX (cI .i64) t566), .ro (.v (.bool t567))] [], .r [.ro (.v (.bool t570))] [], .b false, .b false, .b false, .b false, .b false, .b false, .b false, .r [.ro (.v (.bool t571))] [], .b false, .b false, .b false, .b true, .b true, .b true, .b true, .b true, .b true, .b true, .b true]) (os := []) (c := none) rfl KD ?_
         exact WS.can [] (((ih.out k (by omega)).s_j1  r w ro B hF x1 t560 t561 t562 t563 true h).out) KD
       · rw [if_neg c10] at h
         obtain ⟨t572, q11, h⟩ := Option.bind_eq_some_iff.1 h
         have q11c := impl_IsRegular.ctr k _ _ _ q11
         obtain ⟨t573, q12, h⟩ := Option.bind_eq_some_iff.1 h
         have q12c := spec_IsRegular.ctr k _ _ _ q12
         refine path_ok (k := 11) hF (RetQ_mild _ _ _ _ _ _ _ _) (ds := [.b false, .r [.ro (.v (.string t560)), .ro (.v (.int .i64 t561))] [], .r [.own 3 1 (rX (cI .i64) t562), .ro (.v (.bool t563))] [], .r [.own 3 1 (rX (cI .i64) t566), .ro (.v (.bool t567))] [], .r [.ro (.v (.bool t570))] [], .b false, .b false, .b false, .b false, .b false, .b false, .b false, .r [.ro (.v (.bool t571))] [], .b false, .b false, .b false, .b false, .b false, .b false, .r [.ro (.v (.bool t572))] [], .b false, .b false, .b false, .r [.ro (.v (.bool t573))] [], .b false, .b false]) (os := []) (c := none) rfl KD ?_
         exact WS.can [] (((ih.out k (by omega)).s_j1  r w ro B hF x1 t560 t561 t562 t563 (t572 != t573) h).out) KD
   · rw [if_neg c7] at h
     refine path_ok (k := 11) hF (RetQ_mild _ _ _ _ _ _ _ _) (ds := [.b false, .r [.ro (.v (.string t560)), .ro (.v (.int .i64 t561))] [], .r [.own 3 1 (rX (cI .i64) t562), .ro (.v (.bool t563))] [], .r [.own 3 1 (rX (cI .i64) t566), .ro (.v (.bool t567))] [], .r [.ro (.v (.bool t570))] [], .b true, .b true, .b true, .b true, .b true, .b true, .b true, .b true, .b true, .b true, .b true, .b true, .b true, .b true, .b true, .b true, .b true, .b true]) (os := []) (c := none) rfl KD ?_
     exact WS.can [] (((ih.out k (by omega)).s_j1  r w ro B hF x1 t560 t561 t562 t563 true h).out) KD
set_option maxRecDepth 100000 in
set_option maxHeartbeats 4000000 in
theorem laws_FnFillShape.c_j1 (k : Nat) (ih : Kp (∀ m, m < k → laws_FnFillShape.C m)) (r : Bool) (w : World) (ro : Nat → Prop) (B : Nat) (hF : Fr TE (cx0 Tryd.f3 none w ro B)) (x1 : List Int) (x5 : ByteArray) (x6 : Int) (x7 : List Int) (x8 : Bool) (x72 : Bool) (h : laws_FnFillShape.j1 k x1 x5 x6 x7 x8 x72 = some r) : Kp (WS TE (cx0 Tryd.f3 none w ro B) (stkAt [1, 1, 1, 1, 1, 0, 0, 9] [] (bodyOf Tryd.f3) []) ⟨[(1, .sl 1 (rX (cI .u8) x1)), (5, .v (.string x5)), (6, .v (.int .i64 x6)), (7, .sl 1 (rX (cI .i64) x7)), (8, .v (.bool x8)), (72, .v (.bool x72))], []⟩ (RetQ TE Tryd.f3 none [.ro (.v (.bool r))] [] w ro B)) := by
 refine ⟨?_⟩
 cases k with
 | zero => simp [laws_FnFillShape.j1] at h
 | succ k =>
 simp only [laws_FnFillShape.j1] at h
 by_cases c13 : x72 = true
 · rw [if_pos c13] at h
   refine path_ok (k := 4) hF (RetQ_mild _ _ _ _ _ _ _ _) (ds := [.b true]) (os := []) (c := none) rfl KD ?_
   cases h
   exact ret_as (ms := [.ro]) rfl KD
 · rw [if_neg c13] at h
   obtain ⟨⟨t574, t575⟩, q14, h⟩ := Option.bind_eq_some_iff.1 h
   dsimp only at h
   have q14c := spec_DrawFillShape.ctr k _ _ _ q14
   obtain ⟨⟨t580, t581⟩, q15, h⟩ := Option.bind_eq_some_iff.1 h
   dsimp only at h
   have q15c := impl_FillShape.ctr k _ _ _ _ q15
   obtain ⟨⟨t582, t583⟩, q16, h⟩ := Option.bind_eq_some_iff.1 h
   dsimp only at h
   have q16c := spec_FillShape.ctr k _ _ _ _ q16
   by_cases c17 : t580.toList = t582.toList
   · rw [if_pos c17] at h
     refine path_ok (k := 11) hF (RetQ_mild _ _ _ _ _ _ _ _) (ds := [.b false, .r [.own 3 1 (rX (cI .i64) t574), .own 3 1 (rX (cI .i64) t575)] [], .r [.ro (.v (.string t580)), .ro (.v (.bool t581))] [], .r [.ro (.v (.string t582)), .ro (.v (.bool t583))] [], .b false, .b false, .b false, .b false]) (os := []) (c := none) rfl KD ?_
     exact WS.can [] (((ih.out k (by omega)).s_j2  r w ro B hF x5 x6 x7 x8 t574 t575 t580 t581 (t581 != t583) h).out) KD
   · rw [if_neg c17] at h
     refine path_ok (k := 11) hF (RetQ_mild _ _ _ _ _ _ _ _) (ds := [.b false, .r [.own 3 1 (rX (cI .i64) t574), .own 3 1 (rX (cI .i64) t575)] [], .r [.ro (.v (.string t580)), .ro (.v (.bool t581))] [], .r [.ro (.v (.string t582)), .ro (.v (.bool t583))] [], .b true, .b true, .b true, .b true]) (os := []) (c := none) rfl KD ?_
     exact WS.can [] (((ih.out k (by omega)).s_j2  r w ro B hF x5 x6 x7 x8 t574 t575 t580 t581 true h).out) KD
set_option maxRecDepth 100000 in
set_option maxHeartbeats 4000000 in
theorem laws_FnFillShape.c_j2 (k : Nat) (ih : Kp (∀ m, m < k → laws_FnFillShape.C m)) (r : Bool) (w : World) (ro : Nat → Prop) (B : Nat) (hF : Fr TE (cx0 Tryd.f3 none w ro B)) (x5 : ByteArray) (x6 : Int) (x7 : List Int) (x8 : Bool) (x11 : List Int) (x12 : List Int) (x13 : ByteArray) (x14 : Bool) (x97 : Bool) (h : laws_FnFillShape.j2 k x5 x6 x7 x8 x11 x12 x13 x14 x97 = some r) : Kp (WS TE (cx0 Tryd.f3 none w ro B) (stkAt [1, 1, 1, 1, 1, 1, 1, 1, 1, 0, 0, 9] [] (bodyOf Tryd.f3) []) ⟨[(5, .v (.string x5)), (6, .v (.int .i64 x6)), (7, .sl 1 (rX (cI .i64) x7)), (8, .v (.bool x8)), (11, .sl 1 (rX (cI .i64) x11)), (12, .sl 1 (rX (cI .i64) x12)), (13, .v (.string x13)), (14, .v (.bool x14)), (97, .v (.bool x97))], []⟩ (RetQ TE Tryd.f3 none [.ro (.v (.bool r))] [] w ro B)) := by
 refine ⟨?_⟩
 cases k with
 | zero => simp [laws_FnFillShape.j2] at h
 | succ k =>
 simp only [laws_FnFillShape.j2] at h
 by_cases c18 : x97 = true
 · rw [if_pos c18] at h
   refine path_ok (k := 4) hF (RetQ_mild _ _ _ _ _ _ _ _) (ds := [.b true]) (os := []) (c := none) rfl KD ?_
   cases h
   exact ret_as (ms := [.ro]) rfl KD
 · rw [if_neg c18] at h
   by_cases c19 : x14 = true
   · rw [if_pos c19] at h
     obtain ⟨⟨t584, t585⟩, q20, h⟩ := Option.bind_eq_some_iff.1 h
     dsimp only at h
     have q20c := impl_NumbersOf.ctr k _ _ _ _ q20
     obtain ⟨t588, q21, h⟩ := Option.bind_eq_some_iff.1 h
     have q21c := laws_faSame.ctr k _ _ _ q21
     by_cases c22 : t588 = true
     · rw [if_pos c22] at h
       obtain ⟨t589, q23, h⟩ := Option.bind_eq_some_iff.1 h
       have q23c := impl_IsRegular.ctr k _ _ _ q23
       by_cases c24 : t589 = true
       · rw [if_pos c24] at h
         refine path_ok (k := 12) hF (RetQ_mild _ _ _ _ _ _ _ _) (ds := [.b false, .b true, .e 102 (.v (.int .i64 (x11.length : Int))), .r [.ro (.sl 1 (rX (cI .i64) t584)), .ro (.v (.bool t585))] [], .r [.ro (.v (.bool t588))] [], .b false, .b false, .b false, .e 113 (.v (.int .i64 (x11.length : Int))), .b false, .r [.ro (.v (.bool t589))] [], .b false, .b false, .b false]) (os := []) (c := none) rfl KD ?_
         exact WS.can [] (((ih.out k (by omega)).s_j3  r w ro B hF x5 x6 x7 x8 h).out) KD
       · rw [if_neg c24] at h
         refine path_ok (k := 14) hF (RetQ_mild _ _ _ _ _ _ _ _) (ds := [.b false, .b true, .e 102 (.v (.int .i64 (x11.length : Int))), .r [.ro (.sl 1 (rX (cI .i64) t584)), .ro (.v (.bool t585))] [], .r [.ro (.v (.bool t588))] [], .b false, .b false, .b false, .e 113 (.v (.int .i64 (x11.length : Int))), .b false, .r [.ro (.v (.bool t589))] [], .b false, .b false, .b true]) (os := []) (c := none) rfl KD ?_
         cases h
         exact ret_as (ms := [.ro]) rfl KD
     · rw [if_neg c22] at h
       refine path_ok (k := 14) hF (RetQ_mild _ _ _ _ _ _ _ _) (ds := [.b false, .b true, .e 102 (.v (.int .i64 (x11.length : Int))), .r [.ro (.sl 1 (rX (cI .i64) t584)), .ro (.v (.bool t585))] [], .r [.ro (.v (.bool t588))] [], .b true, .b true, .b true, .b true, .b true, .b true, .b true]) (os := []) (c := none) rfl KD ?_
       cases h
       exact ret_as (ms := [.ro]) rfl KD
   · rw [if_neg c19] at h
     refine path_ok (k := 7) hF (RetQ_mild _ _ _ _ _ _ _ _) (ds := [.b false, .b false]) (os := []) (c := none) rfl KD ?_
     exact WS.can [] (((ih.out k (by omega)).s_j3  r w ro B hF x5 x6 x7 x8 h).out) KD
set_option maxRecDepth 100000 in
set_option maxHeartbeats 4000000 in
theorem laws_FnFillShape.c_j3 (k : Nat) (ih : Kp (∀ m, m < k → laws_FnFillShape.C m)) (r : Bool) (w : World) (ro : Nat → Prop) (B : Nat) (hF : Fr TE (cx0 Tryd.f3 none w ro B)) (x5 : ByteArray) (x6 : Int) (x7 : List Int) (x8 : Bool) (h : laws_FnFillShape.j3 k x5 x6 x7 x8 = some r) : Kp (WS TE (cx0 Tryd.f3 none w ro B) (stkAt [1, 1, 1, 1, 1, 1, 1, 1, 1, 1, 0, 1, 9] [] (bodyOf Tryd.f3) []) ⟨[(5, .v (.string x5)), (6, .v (.int .i64 x6)), (7, .sl 1 (rX (cI .i64) x7)), (8, .v (.bool x8))], []⟩ (RetQ TE Tryd.f3 none [.ro (.v (.bool r))] [] w ro B)) := by
 refine ⟨?_⟩
 cases k with
 | zero => simp [laws_FnFillShape.j3] at h
 | succ k =>
 simp only [laws_FnFillShape.j3] at h
 by_cases c25 : x8 = true
 · rw [if_pos c25] at h
   obtain ⟨⟨t590, t591⟩, q26, h⟩ := Option.bind_eq_some_iff.1 h
   dsimp only at h
   have q26c := impl_NumbersOf.ctr k _ _ _ _ q26
   obtain ⟨⟨t594, t595⟩, q27, h⟩ := Option.bind_eq_some_iff.1 h
   dsimp only at h
   have q27c := impl_FillShape.ctr k _ _ _ _ q27
   by_cases c28 : t595 = true
   · rw [if_pos c28] at h
     by_cases c29 : t594.toList = x5.toList
     · rw [if_pos c29] at h
       refine path_ok (k := 12) hF (RetQ_mild _ _ _ _ _ _ _ _) (ds := [.b false, .r [.ro (.sl 1 (rX (cI .i64) t590)), .ro (.v (.bool t591))] [], .r [.ro (.v (.string t594)), .ro (.v (.bool t595))] [], .b true, .b true, .b true, .b true, .b true, .b true, .e 142 (.v (.int .i64 (x7.length : Int))), .b true, .b true, .b true]) (os := []) (c := none) rfl KD ?_
       cases h
       exact ret_as (ms := [.ro]) rfl KD
     · rw [if_neg c29] at h
       refine path_ok (k := 12) hF (RetQ_mild _ _ _ _ _ _ _ _) (ds := [.b false, .r [.ro (.sl 1 (rX (cI .i64) t590)), .ro (.v (.bool t591))] [], .r [.ro (.v (.string t594)), .ro (.v (.bool t595))] [], .b true, .b true, .b true, .b true, .b false, .b false, .b false, .b false, .b false]) (os := []) (c := none) rfl KD ?_
       cases h
       exact ret_as (ms := [.ro]) rfl KD
   · rw [if_neg c28] at h
     refine path_ok (k := 12) hF (RetQ_mild _ _ _ _ _ _ _ _) (ds := [.b false, .r [.ro (.sl 1 (rX (cI .i64) t590)), .ro (.v (.bool t591))] [], .r [.ro (.v (.string t594)), .ro (.v (.bool t595))] [], .b false, .b false, .b false, .b false, .b false, .b false, .b false, .b false, .b false]) (os := []) (c := none) rfl KD ?_
     cases h
     exact ret_as (ms := [.ro]) rfl KD
 · rw [if_neg c25] at h
   refine path_ok (k := 7) hF (RetQ_mild _ _ _ _ _ _ _ _) (ds := [.b true, .e 120 (.v (.int .i64 (x7.length : Int)))]) (os := []) (c := none) rfl KD ?_
   cases h
   exact ret_as (ms := [.ro]) rfl KD
theorem laws_FnFillShape.cs (k : Nat) : laws_FnFillShape.C k := by
 induction k using Nat.strongRecOn with
 | _ k ih0 =>
 have ih : Kp (∀ m, m < k → laws_FnFillShape.C m) := ⟨ih0⟩
 exact ⟨laws_FnFillShape.c_j0 k ih, laws_FnFillShape.c_j1 k ih, laws_FnFillShape.c_j2 k ih, laws_FnFillShape.c_j3 k ih⟩
set_option maxRecDepth 100000 in
set_option maxHeartbeats 4000000 in
theorem laws_FnFillShape.ctr (k : Nat) (l0 : List Int) (l1 : List Int) (r : Bool) (h : laws_FnFillShape.f k l0 l1 = some r) : Ctr TE 3 none [.sl 1 (rX (cI .u8) l0), .sl 1 (rX (cI .u8) l1)] [.ro (.v (.bool r))] [] := by
 refine ctr_of (fn := Tryd.f3) (c := (bodyOf Tryd.f3)) Tryd.func3 rfl (by kernel_rfl) (Nat.le_of_ble_eq_true (by kernel_rfl)) (fun w ro B hF _ => ?_)
 have ih : Kp (∀ m, m < k + 1 → laws_FnFillShape.C m) := ⟨fun m _ => laws_FnFillShape.cs m⟩
 simp only [laws_FnFillShape.f] at h
 by_cases c1 : (l0.length : Int) > 1048576
 · rw [if_pos c1] at h
   refine path_ok (k := 5) hF (RetQ_mild _ _ _ _ _ _ _ _) (ds := [.e 24 (.v (.int .i64 (l0.length : Int))), .b true, .b true, .b true, .b true]) (os := []) (c := none) rfl KD ?_
   exact WS.can [] (((ih.out k (by omega)).s_j0  r w ro B hF l0 l1 true h).out) KD
 · rw [if_neg c1] at h
   refine path_ok (k := 5) hF (RetQ_mild _ _ _ _ _ _ _ _) (ds := [.e 24 (.v (.int .i64 (l0.length : Int))), .b false, .b false, .e 28 (.v (.int .i64 (l1.length : Int))), .b false, .b false]) (os := []) (c := none) rfl KD ?_
   exact WS.can [] (((ih.out k (by omega)).s_j0  r w ro B hF l0 l1 (decide ((l1.length : Int) > 1048576)) h).out) KD
def laws_FnFillShape.Pure : Prop := ∀ (l0 : List Int) (l1 : List Int), l0.length ≤ maxLen → l0.length * 1 ≤ 140737488351232 → (∀ x ∈ l0, (Lit.int .u8 x).wf = true) → l1.length ≤ maxLen → l1.length * 1 ≤ 140737488351232 → (∀ x ∈ l1, (Lit.int .u8 x).wf = true) → ∃ k, laws_FnFillShape.f k l0 l1 = some true
end Go.Proofs.YtlhejcogdjelpaaDoor.H
