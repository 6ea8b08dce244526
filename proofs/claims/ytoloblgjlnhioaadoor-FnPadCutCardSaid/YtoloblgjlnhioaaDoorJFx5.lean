/- A part of the claim. -/
import Derived.Test.YtoloblgjlnhioaaDoorJFx0
import Derived.Test.YtoloblgjlnhioaaDoorJFx1
import Derived.Test.YtoloblgjlnhioaaDoorJFx2
import Derived.Test.YtoloblgjlnhioaaDoorJFx3
import Derived.Test.YtoloblgjlnhioaaDoorJFx4
-- PRINTED by print.py (a twelfth state) out of the translation. Not trusted: Lean checks it.
namespace Go.Proofs.YtoloblgjlnhioaaDoor.J
open Go.RowKit Go.Proofs.YtoloblgjlnhioaaDoorW.St Go.Proofs.YtoloblgjlnhioaaDoorW.PrintWords Go.Proofs.YtoloblgjlnhioaaDoorW.PrintLast Go.Proofs.YtoloblgjlnhioaaDoorW.PrintMore
attribute [local go_sem] max2_int min2_int max_two min_two max_three min_three max_four min_four   -- for this text's walks alone
set_option linter.unusedVariables false
set_option linter.unusedSimpArgs false
mutual
def spec_l1Numbers.l0 : Nat → Int → List Int → List (S77) → Int → Int → Option (List Int)
  | 0, _, _, _, _, _ => none
  | k + 1, x1, x5, x15, x16, x17 => if x17 < x16 then (if 0 ≤ x17 then (if x17 < (x15.length : Int) then ((spec_l1Numbers.f k ((rd_T77 x15 x17).f0) ((rd_T77 x15 x17).f1) (wrap64 (x1 - 1))).bind fun t388 => (if x5.length + t388.length < 17592186044416 then (spec_l1Numbers.l0 k x1 (x5 ++ t388) x15 x16 (wrap64 (x17 + 1))) else (none))) else (none)) else (none)) else (some x5)
def spec_l1Numbers.f : Nat → Int → List (S77) → Int → Option (List Int)
  | 0, _, _, _ => none
  | k + 1, a0_0, l0_1, a1 => if a1 = 0 then (some (([a0_0] : List Int))) else (spec_l1Numbers.l0 k a1 (([] : List Int)) l0_1 (l0_1.length : Int) 0)
end
def spec_l1Numbers.I0 (r : List Int) (m : Nat) (σ : St) : Prop := ∃ (x1 : Int) (x5 : List Int) (x15 : List (S77)) (x16 : Int) (x17 : Int), spec_l1Numbers.l0 m x1 x5 x15 x16 x17 = some r ∧ σ = ⟨[(1, .v (.int .i64 x1)), (5, .ow 1005 0), (15, .sl 2 (r77 x15)), (16, .v (.int .i64 x16)), (17, .v (.int .i64 x17))], [(1005, .own 0 3 1 (rX (cI .i64) x5))]⟩
structure spec_l1Numbers.C (k : Nat) : Prop where
 s_f : ∀ (a0_0 : Int) (l0_1 : List (S77)) (a1 : Int) (r : List Int), spec_l1Numbers.f k a0_0 l0_1 a1 = some r → Ctr TE 92 none [.ag [.v (.int .i64 a0_0), .sl 2 (r77 l0_1)], .v (.int .i64 a1)] [.ro (.sl 1 (rX (cI .i64) r))] []
 s_l0 : ∀ (r : List Int) (w : World) (ro : Nat → Prop) (B : Nat) (_ : Fr TE (cx0 Tryd.f92 none w ro B)) (x1 : Int) (x5 : List Int) (x15 : List (S77)) (x16 : Int) (x17 : Int) (_ : spec_l1Numbers.l0 k x1 x5 x15 x16 x17 = some r), Kp (WS TE (cx0 Tryd.f92 none w ro B) (stkAt [1, 1, 1, 0, 1, 0] [] (bodyOf Tryd.f92) []) ⟨[(1, .v (.int .i64 x1)), (5, .ow 1005 0), (15, .sl 2 (r77 x15)), (16, .v (.int .i64 x16)), (17, .v (.int .i64 x17))], [(1005, .own 0 3 1 (rX (cI .i64) x5))]⟩ (RetQ TE Tryd.f92 none [.ro (.sl 1 (rX (cI .i64) r))] [] w ro B))
set_option maxRecDepth 100000 in
set_option maxHeartbeats 4000000 in
theorem spec_l1Numbers.c_f (k : Nat) (ih : Kp (∀ m, m < k → spec_l1Numbers.C m)) (a0_0 : Int) (l0_1 : List (S77)) (a1 : Int) (r : List Int) (h : spec_l1Numbers.f k a0_0 l0_1 a1 = some r) : Ctr TE 92 none [.ag [.v (.int .i64 a0_0), .sl 2 (r77 l0_1)], .v (.int .i64 a1)] [.ro (.sl 1 (rX (cI .i64) r))] [] := by
 cases k with
 | zero => simp [spec_l1Numbers.f] at h
 | succ k =>
 simp only [spec_l1Numbers.f] at h
 refine ctr_of (fn := Tryd.f92) (c := (bodyOf Tryd.f92)) Tryd.func92 rfl (by kernel_rfl) (Nat.le_of_ble_eq_true (by kernel_rfl)) (fun w ro B hF _ => ?_)
 by_cases c1 : a1 = 0
 · rw [if_pos c1] at h
   refine path_ok (k := 9) hF (RetQ_mild _ _ _ _ _ _ _ _) (ds := [.b true, .p 12 ([[.v (.int .i64 a0_0)]])]) (os := []) (c := none) rfl KD ?_
   cases h
   exact ret_as (ms := [.ro]) rfl KD
 · rw [if_neg c1] at h
   refine path_ok (k := 13) hF (RetQ_mild _ _ _ _ _ _ _ _) (ds := [.b false, .p 13 ([]), .e 16 (.v (.int .i64 (l0_1.length : Int)))]) (os := []) (c := none) rfl KD ?_
   exact WS.can [(1005, some 13)] (((ih.out k (by omega)).s_l0  r w ro B hF a1 (([] : List Int)) l0_1 (l0_1.length : Int) 0 h).out) KD
set_option maxRecDepth 100000 in
set_option maxHeartbeats 4000000 in
theorem spec_l1Numbers.c_l0 (k : Nat) (ih : Kp (∀ m, m < k → spec_l1Numbers.C m)) (r : List Int) (w : World) (ro : Nat → Prop) (B : Nat) (hF : Fr TE (cx0 Tryd.f92 none w ro B)) (x1 : Int) (x5 : List Int) (x15 : List (S77)) (x16 : Int) (x17 : Int) (h : spec_l1Numbers.l0 k x1 x5 x15 x16 x17 = some r) : Kp (WS TE (cx0 Tryd.f92 none w ro B) (stkAt [1, 1, 1, 0, 1, 0] [] (bodyOf Tryd.f92) []) ⟨[(1, .v (.int .i64 x1)), (5, .ow 1005 0), (15, .sl 2 (r77 x15)), (16, .v (.int .i64 x16)), (17, .v (.int .i64 x17))], [(1005, .own 0 3 1 (rX (cI .i64) x5))]⟩ (RetQ TE Tryd.f92 none [.ro (.sl 1 (rX (cI .i64) r))] [] w ro B)) := by
 refine ⟨WS.loop (fun m σ => m ≤ k ∧ spec_l1Numbers.I0 r m σ) k ⟨Nat.le_refl k, x1, x5, x15, x16, x17, h, rfl⟩ (fun m σ' hI J0 hJ0 => ?_)⟩
 clear h
 obtain ⟨hk, x1, x5, x15, x16, x17, h, rfl⟩ := hI
 cases m with
 | zero => simp [spec_l1Numbers.l0] at h
 | succ k' =>
 simp only [spec_l1Numbers.l0] at h
 by_cases c2 : x17 < x16
 · rw [if_pos c2] at h
   by_cases c3 : 0 ≤ x17
   · rw [if_pos c3] at h
     by_cases c4 : x17 < (x15.length : Int)
     · rw [if_pos c4] at h
       obtain ⟨t388, q5, h⟩ := Option.bind_eq_some_iff.1 h
       have q5c := (ih.out k' (by omega)).s_f _ _ _ _ q5
       by_cases c6 : x5.length + t388.length < 17592186044416
       · rw [if_pos c6] at h
         refine path_ok (k := 12) hF (RetQ_mild _ _ _ _ _ _ _ _) (ds := [.b true, .e 19 (.rf [.v (.int .i64 ((rd_T77 x15 x17).f0)), .sl 2 (r77 ((rd_T77 x15 x17).f1))]), .r [.ro (.sl 1 (rX (cI .i64) t388))] [], .o 26 (rX (cI .i64) (x5 ++ t388))]) (os := []) (c := none) rfl KD ?_
         exact WS.lpc [(1005, some 1005)] (hJ0 _ _ (Nat.lt_succ_self _) ⟨by omega, x1, (x5 ++ t388), x15, x16, (wrap64 (x17 + 1)), h, rfl⟩) KD
       · rw [if_neg c6] at h
         cases h
     · rw [if_neg c4] at h
       cases h
   · rw [if_neg c3] at h
     cases h
 · rw [if_neg c2] at h
   refine path_ok (k := 8) hF (RetQ_mild _ _ _ _ _ _ _ _) (ds := [.b false]) (os := []) (c := none) rfl KD ?_
   cases h
   exact ret_as (ms := [.ro]) rfl KD
theorem spec_l1Numbers.cs (k : Nat) : spec_l1Numbers.C k := by
 induction k using Nat.strongRecOn with
 | _ k ih0 =>
 have ih : Kp (∀ m, m < k → spec_l1Numbers.C m) := ⟨ih0⟩
 exact ⟨spec_l1Numbers.c_f k ih, spec_l1Numbers.c_l0 k ih⟩
theorem spec_l1Numbers.ctr (k : Nat) (a0_0 : Int) (l0_1 : List (S77)) (a1 : Int) (r : List Int) (h : spec_l1Numbers.f k a0_0 l0_1 a1 = some r) : Ctr TE 92 none [.ag [.v (.int .i64 a0_0), .sl 2 (r77 l0_1)], .v (.int .i64 a1)] [.ro (.sl 1 (rX (cI .i64) r))] [] := (spec_l1Numbers.cs k).s_f a0_0 l0_1 a1 r h
def spec_l11Any.l0 : Nat → List (List Int) → Bool → List (S77) → Int → Int → Option ((List (List Int)) × Bool)
  | 0, _, _, _, _, _ => none
  | k + 1, x4, x6, x16, x17, x18 => if x18 < x17 then (if 0 ≤ x18 then (if x18 < (x16.length : Int) then ((spec_l1Numbers.f k ((rd_T77 x16 x18).f0) ((rd_T77 x16 x18).f1) 1).bind fun t405 => (if x4.length < 5864062014805 then (spec_l11Any.l0 k (x4 ++ [t405]) x6 x16 x17 (wrap64 (x18 + 1))) else (none))) else (none)) else (none)) else (some (x4, x6))
def spec_l11Any.f (k : Nat) (a0 : ByteArray) : Option ((List (List Int)) × Bool) := (spec_l1Read.f k a0 2).bind fun bt397 => (spec_l11Any.l0 k (([] : List (List Int))) bt397.2.2 bt397.2.1 (bt397.2.1.length : Int) 0)
def spec_l11Any.I0 (r1 : List (List Int)) (r2 : Bool) (m : Nat) (σ : St) : Prop := ∃ (x4 : List (List Int)) (x6 : Bool) (x16 : List (S77)) (x17 : Int) (x18 : Int), spec_l11Any.l0 m x4 x6 x16 x17 x18 = some (r1, r2) ∧ σ = ⟨[(4, .ow 1004 0), (6, .v (.bool x6)), (16, .sl 2 (r77 x16)), (17, .v (.int .i64 x17)), (18, .v (.int .i64 x18))], [(1004, .own 0 25 1 (rX (cL (cI .i64) 1) x4))]⟩
structure spec_l11Any.C (k : Nat) : Prop where
 s_l0 : ∀ (r1 : List (List Int)) (r2 : Bool) (w : World) (ro : Nat → Prop) (B : Nat) (_ : Fr TE (cx0 Tryd.f60 none w ro B)) (x4 : List (List Int)) (x6 : Bool) (x16 : List (S77)) (x17 : Int) (x18 : Int) (_ : spec_l11Any.l0 k x4 x6 x16 x17 x18 = some (r1, r2)), Kp (WS TE (cx0 Tryd.f60 none w ro B) (stkAt [1, 1, 1, 0, 1, 0] [] (bodyOf Tryd.f60) []) ⟨[(4, .ow 1004 0), (6, .v (.bool x6)), (16, .sl 2 (r77 x16)), (17, .v (.int .i64 x17)), (18, .v (.int .i64 x18))], [(1004, .own 0 25 1 (rX (cL (cI .i64) 1) x4))]⟩ (RetQ TE Tryd.f60 none [.own 25 1 (rX (cL (cI .i64) 1) r1), .ro (.v (.bool r2))] [] w ro B))
set_option maxRecDepth 100000 in
set_option maxHeartbeats 4000000 in
theorem spec_l11Any.c_l0 (k : Nat) (ih : Kp (∀ m, m < k → spec_l11Any.C m)) (r1 : List (List Int)) (r2 : Bool) (w : World) (ro : Nat → Prop) (B : Nat) (hF : Fr TE (cx0 Tryd.f60 none w ro B)) (x4 : List (List Int)) (x6 : Bool) (x16 : List (S77)) (x17 : Int) (x18 : Int) (h : spec_l11Any.l0 k x4 x6 x16 x17 x18 = some (r1, r2)) : Kp (WS TE (cx0 Tryd.f60 none w ro B) (stkAt [1, 1, 1, 0, 1, 0] [] (bodyOf Tryd.f60) []) ⟨[(4, .ow 1004 0), (6, .v (.bool x6)), (16, .sl 2 (r77 x16)), (17, .v (.int .i64 x17)), (18, .v (.int .i64 x18))], [(1004, .own 0 25 1 (rX (cL (cI .i64) 1) x4))]⟩ (RetQ TE Tryd.f60 none [.own 25 1 (rX (cL (cI .i64) 1) r1), .ro (.v (.bool r2))] [] w ro B)) := by
 refine ⟨WS.loop (fun m σ => m ≤ k ∧ spec_l11Any.I0 r1 r2 m σ) k ⟨Nat.le_refl k, x4, x6, x16, x17, x18, h, rfl⟩ (fun m σ' hI J0 hJ0 => ?_)⟩
 clear h
 obtain ⟨hk, x4, x6, x16, x17, x18, h, rfl⟩ := hI
 cases m with
 | zero => simp [spec_l11Any.l0] at h
 | succ k' =>
 simp only [spec_l11Any.l0] at h
 by_cases c2 : x18 < x17
 · rw [if_pos c2] at h
   by_cases c3 : 0 ≤ x18
   · rw [if_pos c3] at h
     by_cases c4 : x18 < (x16.length : Int)
     · rw [if_pos c4] at h
       obtain ⟨t405, q5, h⟩ := Option.bind_eq_some_iff.1 h
       have q5c := spec_l1Numbers.ctr k' _ _ _ _ q5
       by_cases c6 : x4.length < 5864062014805
       · rw [if_pos c6] at h
         refine path_ok (k := 12) hF (RetQ_mild _ _ _ _ _ _ _ _) (ds := [.b true, .e 20 (.rf [.v (.int .i64 ((rd_T77 x16 x18).f0)), .sl 2 (r77 ((rd_T77 x16 x18).f1))]), .r [.ro (.sl 1 (rX (cI .i64) t405))] [], .p 25 ([[.sl 1 (rX (cI .i64) t405)]]), .o 26 (rX (cL (cI .i64) 1) (x4 ++ [t405]))]) (os := []) (c := none) rfl KD ?_
         exact WS.lpc [(1004, some 1004)] (hJ0 _ _ (Nat.lt_succ_self _) ⟨by omega, (x4 ++ [t405]), x6, x16, x17, (wrap64 (x18 + 1)), h, rfl⟩) KD
       · rw [if_neg c6] at h
         cases h
     · rw [if_neg c4] at h
       cases h
   · rw [if_neg c3] at h
     cases h
 · rw [if_neg c2] at h
   refine path_ok (k := 8) hF (RetQ_mild _ _ _ _ _ _ _ _) (ds := [.b false]) (os := []) (c := none) rfl KD ?_
   cases h
   exact ret_as (ms := [.own, .ro]) rfl KD
theorem spec_l11Any.cs (k : Nat) : spec_l11Any.C k := by
 induction k using Nat.strongRecOn with
 | _ k ih0 =>
 have ih : Kp (∀ m, m < k → spec_l11Any.C m) := ⟨ih0⟩
 exact ⟨spec_l11Any.c_l0 k ih⟩
set_option maxRecDepth 100000 in
set_option maxHeartbeats 4000000 in
theorem spec_l11Any.ctr (k : Nat) (a0 : ByteArray) (r1 : List (List Int)) (r2 : Bool) (h : spec_l11Any.f k a0 = some (r1, r2)) : Ctr TE 60 none [.v (.string a0)] [.own 25 1 (rX (cL (cI .i64) 1) r1), .ro (.v (.bool r2))] [] := by
 refine ctr_of (fn := Tryd.f60) (c := (bodyOf Tryd.f60)) Tryd.func60 rfl (by kernel_rfl) (Nat.le_of_ble_eq_true (by kernel_rfl)) (fun w ro B hF _ => ?_)
 have ih : Kp (∀ m, m < k + 1 → spec_l11Any.C m) := ⟨fun m _ => spec_l11Any.cs m⟩
 simp only [spec_l11Any.f] at h
 obtain ⟨⟨t397, t398, t401⟩, q1, h⟩ := Option.bind_eq_some_iff.1 h
 dsimp only at h
 have q1c := spec_l1Read.ctr k _ _ _ _ _ q1
 refine path_ok (k := 10) hF (RetQ_mild _ _ _ _ _ _ _ _) (ds := [.p 9 ([]), .r [.ro (.ag [.v (.int .i64 t397), .sl 2 (r77 t398)]), .ro (.v (.bool t401))] [], .e 17 (.v (.int .i64 (t398.length : Int)))]) (os := []) (c := none) rfl KD ?_
 exact WS.can [(1004, some 9)] (((ih.out k (by omega)).s_l0  r1 r2 w ro B hF (([] : List (List Int))) t401 t398 (t398.length : Int) 0 h).out) KD
mutual
def spec_l11Text.l0 : Nat → List (List Int) → Int → Int → Int → List (S77) → Option (ByteArray × Bool)
  | 0, _, _, _, _, _ => none
  | k + 1, x12, x13, x14, x415000, x415001 => if x14 < x13 then (if 0 ≤ x14 then (if x14 < (x12.length : Int) then (spec_l11Text.l1 k x12 x13 x14 (rd_L5 x12 x14) ((rd_L5 x12 x14).length : Int) 0 x415000 x415001 0 (([] : List (S77)))) else (none)) else (none)) else ((spec_l1Told.f k x415000 x415001 2).bind fun bt415 => (some (bt415.1, bt415.2)))
def spec_l11Text.l1 : Nat → List (List Int) → Int → Int → List Int → Int → Int → Int → List (S77) → Int → List (S77) → Option (ByteArray × Bool)
  | 0, _, _, _, _, _, _, _, _, _, _ => none
  | k + 1, x12, x13, x14, x20, x21, x22, x415000, x415001, x422000, x422001 => if x22 < x21 then (if 0 ≤ x22 then (if x22 < (x20.length : Int) then (if x422001.length < 4398046511104 then (spec_l11Text.l1 k x12 x13 x14 x20 x21 (wrap64 (x22 + 1)) x415000 x415001 x422000 (x422001 ++ [(⟨rd x20 x22, ([] : List (S77))⟩ : S77)])) else (none)) else (none)) else (none)) else (if x415001.length < 4398046511104 then (spec_l11Text.l0 k x12 x13 (wrap64 (x14 + 1)) x415000 (x415001 ++ [(⟨x422000, x422001⟩ : S77)])) else (none))
end
def spec_l11Text.f (k : Nat) (l0 : List (List Int)) : Option (ByteArray × Bool) := spec_l11Text.l0 k l0 (l0.length : Int) 0 0 (([] : List (S77)))
def spec_l11Text.I0 (r1 : ByteArray) (r2 : Bool) (m : Nat) (σ : St) : Prop := ∃ (x12 : List (List Int)) (x13 : Int) (x14 : Int) (x415000 : Int) (x415001 : List (S77)), spec_l11Text.l0 m x12 x13 x14 x415000 x415001 = some (r1, r2) ∧ σ = ⟨[(4, .pt 1004 0 0), (12, .sl 1 (rX (cL (cI .i64) 1) x12)), (13, .v (.int .i64 x13)), (14, .v (.int .i64 x14))], [(3257, .own 0 77 2 (r77 x415001)), (1004, .box 0 77 false [.v (.int .i64 x415000), .ow 3257 0])]⟩
def spec_l11Text.I1 (r1 : ByteArray) (r2 : Bool) (m : Nat) (σ : St) : Prop := ∃ (x12 : List (List Int)) (x13 : Int) (x14 : Int) (x20 : List Int) (x21 : Int) (x22 : Int) (x415000 : Int) (x415001 : List (S77)) (x422000 : Int) (x422001 : List (S77)), spec_l11Text.l1 m x12 x13 x14 x20 x21 x22 x415000 x415001 x422000 x422001 = some (r1, r2) ∧ σ = ⟨[(4, .pt 1004 0 0), (7, .pt 1007 0 0), (12, .sl 1 (rX (cL (cI .i64) 1) x12)), (13, .v (.int .i64 x13)), (14, .v (.int .i64 x14)), (20, .sl 1 (rX (cI .i64) x20)), (21, .v (.int .i64 x21)), (22, .v (.int .i64 x22))], [(3257, .own 0 77 2 (r77 x415001)), (1004, .box 0 77 false [.v (.int .i64 x415000), .ow 3257 0]), (3449, .own 0 77 2 (r77 x422001)), (1007, .box 0 77 false [.v (.int .i64 x422000), .ow 3449 0])]⟩
structure spec_l11Text.C (k : Nat) : Prop where
 s_l0 : ∀ (r1 : ByteArray) (r2 : Bool) (w : World) (ro : Nat → Prop) (B : Nat) (_ : Fr TE (cx0 Tryd.f61 none w ro B)) (x12 : List (List Int)) (x13 : Int) (x14 : Int) (x415000 : Int) (x415001 : List (S77)) (_ : spec_l11Text.l0 k x12 x13 x14 x415000 x415001 = some (r1, r2)), Kp (WS TE (cx0 Tryd.f61 none w ro B) (stkAt [1, 1, 0, 1, 0] [] (bodyOf Tryd.f61) []) ⟨[(4, .pt 1004 0 0), (12, .sl 1 (rX (cL (cI .i64) 1) x12)), (13, .v (.int .i64 x13)), (14, .v (.int .i64 x14))], [(3257, .own 0 77 2 (r77 x415001)), (1004, .box 0 77 false [.v (.int .i64 x415000), .ow 3257 0])]⟩ (RetQ TE Tryd.f61 none [.ro (.v (.string r1)), .ro (.v (.bool r2))] [] w ro B))
 s_l1 : ∀ (r1 : ByteArray) (r2 : Bool) (w : World) (ro : Nat → Prop) (B : Nat) (_ : Fr TE (cx0 Tryd.f61 none w ro B)) (J0 : St → Prop) (_ : ∀ m σ, m ≤ k → spec_l11Text.I0 r1 r2 m σ → J0 σ) (x12 : List (List Int)) (x13 : Int) (x14 : Int) (x20 : List Int) (x21 : Int) (x22 : Int) (x415000 : Int) (x415001 : List (S77)) (x422000 : Int) (x422001 : List (S77)) (_ : spec_l11Text.l1 k x12 x13 x14 x20 x21 x22 x415000 x415001 x422000 x422001 = some (r1, r2)), Kp (WS TE (cx0 Tryd.f61 none w ro B) (stkAt [1, 1, 0, 1, 0, 0, 1, 1, 0, 0, 1, 1, 0, 1, 0] [J0] (bodyOf Tryd.f61) []) ⟨[(4, .pt 1004 0 0), (7, .pt 1007 0 0), (12, .sl 1 (rX (cL (cI .i64) 1) x12)), (13, .v (.int .i64 x13)), (14, .v (.int .i64 x14)), (20, .sl 1 (rX (cI .i64) x20)), (21, .v (.int .i64 x21)), (22, .v (.int .i64 x22))], [(3257, .own 0 77 2 (r77 x415001)), (1004, .box 0 77 false [.v (.int .i64 x415000), .ow 3257 0]), (3449, .own 0 77 2 (r77 x422001)), (1007, .box 0 77 false [.v (.int .i64 x422000), .ow 3449 0])]⟩ (RetQ TE Tryd.f61 none [.ro (.v (.string r1)), .ro (.v (.bool r2))] [] w ro B))
set_option maxRecDepth 100000 in
set_option maxHeartbeats 4000000 in
theorem spec_l11Text.c_l0 (k : Nat) (ih : Kp (∀ m, m < k → spec_l11Text.C m)) (r1 : ByteArray) (r2 : Bool) (w : World) (ro : Nat → Prop) (B : Nat) (hF : Fr TE (cx0 Tryd.f61 none w ro B)) (x12 : List (List Int)) (x13 : Int) (x14 : Int) (x415000 : Int) (x415001 : List (S77)) (h : spec_l11Text.l0 k x12 x13 x14 x415000 x415001 = some (r1, r2)) : Kp (WS TE (cx0 Tryd.f61 none w ro B) (stkAt [1, 1, 0, 1, 0] [] (bodyOf Tryd.f61) []) ⟨[(4, .pt 1004 0 0), (12, .sl 1 (rX (cL (cI .i64) 1) x12)), (13, .v (.int .i64 x13)), (14, .v (.int .i64 x14))], [(3257, .own 0 77 2 (r77 x415001)), (1004, .box 0 77 false [.v (.int .i64 x415000), .ow 3257 0])]⟩ (RetQ TE Tryd.f61 none [.ro (.v (.string r1)), .ro (.v (.bool r2))] [] w ro B)) := by
 refine ⟨WS.loop (fun m σ => m ≤ k ∧ spec_l11Text.I0 r1 r2 m σ) k ⟨Nat.le_refl k, x12, x13, x14, x415000, x415001, h, rfl⟩ (fun m σ' hI J0 hJ0 => ?_)⟩
 clear h
 obtain ⟨hk, x12, x13, x14, x415000, x415001, h, rfl⟩ := hI
 cases m with
 | zero => simp [spec_l11Text.l0] at h
 | succ k' =>
 simp only [spec_l11Text.l0] at h
 by_cases c1 : x14 < x13
 · rw [if_pos c1] at h
   by_cases c2 : 0 ≤ x14
   · rw [if_pos c2] at h
     by_cases c3 : x14 < (x12.length : Int)
     · rw [if_pos c3] at h
       refine path_ok (k := 15) hF (RetQ_mild _ _ _ _ _ _ _ _) (ds := [.b true, .e 16 (.rf [.sl 1 (rX (cI .i64) (rd_L5 x12 x14))]), .p 18 ([]), .e 21 (.v (.int .i64 ((rd_L5 x12 x14).length : Int)))]) (os := []) (c := none) rfl KD ?_
       exact WS.can [(1004, some 1004), (3257, some 3257), (1007, some 7), (3449, some 18)] (((ih.out k' (by omega)).s_l1  r1 r2 w ro B hF J0 (fun m σ hm hI => hJ0 m σ (by omega) ⟨by omega, hI⟩) x12 x13 x14 (rd_L5 x12 x14) ((rd_L5 x12 x14).length : Int) 0 x415000 x415001 0 (([] : List (S77))) h).out) KD
     · rw [if_neg c3] at h
       cases h
   · rw [if_neg c2] at h
     cases h
 · rw [if_neg c1] at h
   obtain ⟨⟨t415, t416⟩, q4, h⟩ := Option.bind_eq_some_iff.1 h
   dsimp only at h
   have q4c := spec_l1Told.ctr k' _ _ _ _ _ q4
   refine path_ok (k := 8) hF (RetQ_mild _ _ _ _ _ _ _ _) (ds := [.b false, .r [.ro (.v (.string t415)), .ro (.v (.bool t416))] []]) (os := []) (c := none) rfl KD ?_
   cases h
   exact ret_as (ms := [.ro, .ro]) rfl KD
set_option maxRecDepth 100000 in
set_option maxHeartbeats 4000000 in
theorem spec_l11Text.c_l1 (k : Nat) (ih : Kp (∀ m, m < k → spec_l11Text.C m)) (r1 : ByteArray) (r2 : Bool) (w : World) (ro : Nat → Prop) (B : Nat) (hF : Fr TE (cx0 Tryd.f61 none w ro B)) (J0 : St → Prop) (hJ0 : ∀ m σ, m ≤ k → spec_l11Text.I0 r1 r2 m σ → J0 σ) (x12 : List (List Int)) (x13 : Int) (x14 : Int) (x20 : List Int) (x21 : Int) (x22 : Int) (x415000 : Int) (x415001 : List (S77)) (x422000 : Int) (x422001 : List (S77)) (h : spec_l11Text.l1 k x12 x13 x14 x20 x21 x22 x415000 x415001 x422000 x422001 = some (r1, r2)) : Kp (WS TE (cx0 Tryd.f61 none w ro B) (stkAt [1, 1, 0, 1, 0, 0, 1, 1, 0, 0, 1, 1, 0, 1, 0] [J0] (bodyOf Tryd.f61) []) ⟨[(4, .pt 1004 0 0), (7, .pt 1007 0 0), (12, .sl 1 (rX (cL (cI .i64) 1) x12)), (13, .v (.int .i64 x13)), (14, .v (.int .i64 x14)), (20, .sl 1 (rX (cI .i64) x20)), (21, .v (.int .i64 x21)), (22, .v (.int .i64 x22))], [(3257, .own 0 77 2 (r77 x415001)), (1004, .box 0 77 false [.v (.int .i64 x415000), .ow 3257 0]), (3449, .own 0 77 2 (r77 x422001)), (1007, .box 0 77 false [.v (.int .i64 x422000), .ow 3449 0])]⟩ (RetQ TE Tryd.f61 none [.ro (.v (.string r1)), .ro (.v (.bool r2))] [] w ro B)) := by
 refine ⟨WS.loop (fun m σ => m ≤ k ∧ spec_l11Text.I1 r1 r2 m σ) k ⟨Nat.le_refl k, x12, x13, x14, x20, x21, x22, x415000, x415001, x422000, x422001, h, rfl⟩ (fun m σ' hI J1 hJ1 => ?_)⟩
 clear h
 obtain ⟨hk, x12, x13, x14, x20, x21, x22, x415000, x415001, x422000, x422001, h, rfl⟩ := hI
 cases m with
 | zero => simp [spec_l11Text.l1] at h
 | succ k' =>
 simp only [spec_l11Text.l1] at h
 by_cases c5 : x22 < x21
 · rw [if_pos c5] at h
   by_cases c6 : 0 ≤ x22
   · rw [if_pos c6] at h
     by_cases c7 : x22 < (x20.length : Int)
     · rw [if_pos c7] at h
       by_cases c8 : x422001.length < 4398046511104
       · rw [if_pos c8] at h
         refine path_ok (k := 12) hF (RetQ_mild _ _ _ _ _ _ _ _) (ds := [.b true, .e 24 (.rf [.v (.int .i64 (rd x20 x22))]), .p 30 ([[.v (.int .i64 (rd x20 x22)), .sl 2 (r77 [])]]), .o 31 (r77 (x422001 ++ [(⟨rd x20 x22, ([] : List (S77))⟩ : S77)]))]) (os := []) (c := none) rfl KD ?_
         exact WS.lpc [(1004, some 1004), (3257, some 3257), (1007, some 1007), (3449, some 3449)] (hJ1 _ _ (Nat.lt_succ_self _) ⟨by omega, x12, x13, x14, x20, x21, (wrap64 (x22 + 1)), x415000, x415001, x422000, (x422001 ++ [(⟨rd x20 x22, ([] : List (S77))⟩ : S77)]), h, rfl⟩) KD
       · rw [if_neg c8] at h
         cases h
     · rw [if_neg c7] at h
       cases h
   · rw [if_neg c6] at h
     cases h
 · rw [if_neg c5] at h
   by_cases c9 : x415001.length < 4398046511104
   · rw [if_pos c9] at h
     refine path_ok (k := 8) hF (RetQ_mild _ _ _ _ _ _ _ _) (ds := [.b false, .p 37 ([[.v (.int .i64 x422000), .sl 2 (r77 x422001)]]), .o 38 (r77 (x415001 ++ [(⟨x422000, x422001⟩ : S77)]))]) (os := []) (c := none) rfl KD ?_
     exact WS.lpc [(1004, some 1004), (3257, some 3257)] (hJ0 _ _ (by omega) ⟨x12, x13, (wrap64 (x14 + 1)), x415000, (x415001 ++ [(⟨x422000, x422001⟩ : S77)]), h, rfl⟩) KD
   · rw [if_neg c9] at h
     cases h
theorem spec_l11Text.cs (k : Nat) : spec_l11Text.C k := by
 induction k using Nat.strongRecOn with
 | _ k ih0 =>
 have ih : Kp (∀ m, m < k → spec_l11Text.C m) := ⟨ih0⟩
 exact ⟨spec_l11Text.c_l0 k ih, spec_l11Text.c_l1 k ih⟩
set_option maxRecDepth 100000 in
set_option maxHeartbeats 4000000 in
theorem spec_l11Text.ctr (k : Nat) (l0 : List (List Int)) (r1 : ByteArray) (r2 : Bool) (h : spec_l11Text.f k l0 = some (r1, r2)) : Ctr TE 61 none [.sl 1 (rX (cL (cI .i64) 1) l0)] [.ro (.v (.string r1)), .ro (.v (.bool r2))] [] := by
 refine ctr_of (fn := Tryd.f61) (c := (bodyOf Tryd.f61)) Tryd.func61 rfl (by kernel_rfl) (Nat.le_of_ble_eq_true (by kernel_rfl)) (fun w ro B hF _ => ?_)
 have ih : Kp (∀ m, m < k + 1 → spec_l11Text.C m) := ⟨fun m _ => spec_l11Text.cs m⟩
 simp only [spec_l11Text.f] at h
 refine path_ok (k := 8) hF (RetQ_mild _ _ _ _ _ _ _ _) (ds := [.p 10 ([]), .e 13 (.v (.int .i64 (l0.length : Int)))]) (os := []) (c := none) rfl KD ?_
 exact WS.can [(1004, some 4), (3257, some 10)] (((ih.out k (by omega)).s_l0  r1 r2 w ro B hF l0 (l0.length : Int) 0 0 (([] : List (S77))) h).out) KD
def spec_DrawCutArray.l0 : Nat → ByteArray → List Int → List (List Int) → Int → Int → List Int → Int → Option (ByteArray × List Int)
  | 0, _, _, _, _, _, _, _ => none
  | k + 1, x5, x6, x21, x22, x23, x432000, x432001 => if x23 < x22 then (if 0 ≤ x23 then (if x23 < (x21.length : Int) then ((spec_l13Rd_pick.f k x432000 x432001 (wrap64 (((rd_L5 x21 x23).length : Int) + 1))).bind fun bt441 => (if x6.length < 17592186044416 then (spec_DrawCutArray.l0 k x5 (x6 ++ [bt441.1]) x21 x22 (wrap64 (x23 + 1)) x432000 bt441.2) else (none))) else (none)) else (none)) else ((spec_l13Rd_pick.f k x432000 x432001 10).bind fun bt446 => (if bt446.1 = 0 then ((spec_l13Rd_num.f k x432000 bt446.2 (([0, (-1)] : List Int))).bind fun bt451 => (if x6.length < 17592186044416 then (some (x5, (x6 ++ [bt451.1]))) else (none))) else (some (x5, x6))))
def spec_DrawCutArray.f (k : Nat) (l0 : List Int) : Option (ByteArray × List Int) := (spec_l13Open.f l0).bind fun bt429 => ((spec_DrawPadArray.f k l0).bind fun t432 => ((spec_l11Any.f k t432).bind fun bt436 => (spec_DrawCutArray.l0 k t432 (([] : List Int)) bt436.1 (bt436.1.length : Int) 0 bt429.1 bt429.2)))
def spec_DrawCutArray.I0 (r1 : ByteArray) (r2 : List Int) (m : Nat) (σ : St) : Prop := ∃ (x5 : ByteArray) (x6 : List Int) (x21 : List (List Int)) (x22 : Int) (x23 : Int) (x432000 : List Int) (x432001 : Int), spec_DrawCutArray.l0 m x5 x6 x21 x22 x23 x432000 x432001 = some (r1, r2) ∧ σ = ⟨[(4, .pt 1004 0 0), (5, .v (.string x5)), (6, .ow 1006 0), (21, .ow 1021 0), (22, .v (.int .i64 x22)), (23, .v (.int .i64 x23))], [(1004, .box 0 107 false [.sl 1 (rX (cI .u8) x432000), .v (.int .i64 x432001)]), (1006, .own 0 3 1 (rX (cI .i64) x6)), (1021, .own 0 25 1 (rX (cL (cI .i64) 1) x21))]⟩
structure spec_DrawCutArray.C (k : Nat) : Prop where
 s_l0 : ∀ (r1 : ByteArray) (r2 : List Int) (w : World) (ro : Nat → Prop) (B : Nat) (_ : Fr TE (cx0 Tryd.f28 none w ro B)) (x5 : ByteArray) (x6 : List Int) (x21 : List (List Int)) (x22 : Int) (x23 : Int) (x432000 : List Int) (x432001 : Int) (_ : spec_DrawCutArray.l0 k x5 x6 x21 x22 x23 x432000 x432001 = some (r1, r2)), Kp (WS TE (cx0 Tryd.f28 none w ro B) (stkAt [1, 1, 1, 1, 1, 0, 1, 0] [] (bodyOf Tryd.f28) []) ⟨[(4, .pt 1004 0 0), (5, .v (.string x5)), (6, .ow 1006 0), (21, .ow 1021 0), (22, .v (.int .i64 x22)), (23, .v (.int .i64 x23))], [(1004, .box 0 107 false [.sl 1 (rX (cI .u8) x432000), .v (.int .i64 x432001)]), (1006, .own 0 3 1 (rX (cI .i64) x6)), (1021, .own 0 25 1 (rX (cL (cI .i64) 1) x21))]⟩ (RetQ TE Tryd.f28 none [.ro (.v (.string r1)), .own 3 1 (rX (cI .i64) r2)] [] w ro B))
set_option maxRecDepth 100000 in
set_option maxHeartbeats 4000000 in
theorem spec_DrawCutArray.c_l0 (k : Nat) (ih : Kp (∀ m, m < k → spec_DrawCutArray.C m)) (r1 : ByteArray) (r2 : List Int) (w : World) (ro : Nat → Prop) (B : Nat) (hF : Fr TE (cx0 Tryd.f28 none w ro B)) (x5 : ByteArray) (x6 : List Int) (x21 : List (List Int)) (x22 : Int) (x23 : Int) (x432000 : List Int) (x432001 : Int) (h : spec_DrawCutArray.l0 k x5 x6 x21 x22 x23 x432000 x432001 = some (r1, r2)) : Kp (WS TE (cx0 Tryd.f28 none w ro B) (stkAt [1, 1, 1, 1, 1, 0, 1, 0] [] (bodyOf Tryd.f28) []) ⟨[(4, .pt 1004 0 0), (5, .v (.string x5)), (6, .ow 1006 0), (21, .ow 1021 0), (22, .v (.int .i64 x22)), (23, .v (.int .i64 x23))], [(1004, .box 0 107 false [.sl 1 (rX (cI .u8) x432000), .v (.int .i64 x432001)]), (1006, .own 0 3 1 (rX (cI .i64) x6)), (1021, .own 0 25 1 (rX (cL (cI .i64) 1) x21))]⟩ (RetQ TE Tryd.f28 none [.ro (.v (.string r1)), .own 3 1 (rX (cI .i64) r2)] [] w ro B)) := by
 refine ⟨WS.loop (fun m σ => m ≤ k ∧ spec_DrawCutArray.I0 r1 r2 m σ) k ⟨Nat.le_refl k, x5, x6, x21, x22, x23, x432000, x432001, h, rfl⟩ (fun m σ' hI J0 hJ0 => ?_)⟩
 clear h
 obtain ⟨hk, x5, x6, x21, x22, x23, x432000, x432001, h, rfl⟩ := hI
 cases m with
 | zero => simp [spec_DrawCutArray.l0] at h
 | succ k' =>
 simp only [spec_DrawCutArray.l0] at h
 by_cases c4 : x23 < x22
 · rw [if_pos c4] at h
   by_cases c5 : 0 ≤ x23
   · rw [if_pos c5] at h
     by_cases c6 : x23 < (x21.length : Int)
     · rw [if_pos c6] at h
       obtain ⟨⟨t441, t442⟩, q7, h⟩ := Option.bind_eq_some_iff.1 h
       dsimp only at h
       have q7c := spec_l13Rd_pick.ctr k' _ _ _ _ _ q7
       by_cases c8 : x6.length < 17592186044416
       · rw [if_pos c8] at h
         refine path_ok (k := 12) hF (RetQ_mild _ _ _ _ _ _ _ _) (ds := [.b true, .g [.sl 1 (rX (cI .i64) (rd_L5 x21 x23))], .e 30 (.v (.int .i64 ((rd_L5 x21 x23).length : Int))), .r [.ro (.v (.int .i64 t441))] [.sl 1 (rX (cI .u8) x432000), .v (.int .i64 t442)], .p 33 ([[.v (.int .i64 t441)]]), .o 34 (rX (cI .i64) (x6 ++ [t441]))]) (os := []) (c := none) rfl KD ?_
         exact WS.lpc [(1004, some 1004), (1006, some 1006), (1021, some 1021)] (hJ0 _ _ (Nat.lt_succ_self _) ⟨by omega, x5, (x6 ++ [t441]), x21, x22, (wrap64 (x23 + 1)), x432000, t442, h, rfl⟩) KD
       · rw [if_neg c8] at h
         cases h
     · rw [if_neg c6] at h
       cases h
   · rw [if_neg c5] at h
     cases h
 · rw [if_neg c4] at h
   obtain ⟨⟨t446, t447⟩, q9, h⟩ := Option.bind_eq_some_iff.1 h
   dsimp only at h
   have q9c := spec_l13Rd_pick.ctr k' _ _ _ _ _ q9
   by_cases c10 : t446 = 0
   · rw [if_pos c10] at h
     obtain ⟨⟨t451, t452⟩, q11, h⟩ := Option.bind_eq_some_iff.1 h
     dsimp only at h
     have q11c := spec_l13Rd_num.ctr k' _ _ _ _ _ q11
     by_cases c12 : x6.length < 17592186044416
     · rw [if_pos c12] at h
       refine path_ok (k := 13) hF (RetQ_mild _ _ _ _ _ _ _ _) (ds := [.b false, .r [.ro (.v (.int .i64 t446))] [.sl 1 (rX (cI .u8) x432000), .v (.int .i64 t447)], .b true, .p 41 ([[.v (.int .i64 0)], [.v (.int .i64 (-1))]]), .r [.ro (.v (.int .i64 t451))] [.sl 1 (rX (cI .u8) x432000), .v (.int .i64 t452)], .p 43 ([[.v (.int .i64 t451)]]), .o 44 (rX (cI .i64) (x6 ++ [t451]))]) (os := []) (c := none) rfl KD ?_
       cases h
       exact ret_as (ms := [.ro, .own]) rfl KD
     · rw [if_neg c12] at h
       cases h
   · rw [if_neg c10] at h
     refine path_ok (k := 13) hF (RetQ_mild _ _ _ _ _ _ _ _) (ds := [.b false, .r [.ro (.v (.int .i64 t446))] [.sl 1 (rX (cI .u8) x432000), .v (.int .i64 t447)], .b false]) (os := []) (c := none) rfl KD ?_
     cases h
     exact ret_as (ms := [.ro, .own]) rfl KD
theorem spec_DrawCutArray.cs (k : Nat) : spec_DrawCutArray.C k := by
 induction k using Nat.strongRecOn with
 | _ k ih0 =>
 have ih : Kp (∀ m, m < k → spec_DrawCutArray.C m) := ⟨ih0⟩
 exact ⟨spec_DrawCutArray.c_l0 k ih⟩
set_option maxRecDepth 100000 in
set_option maxHeartbeats 4000000 in
theorem spec_DrawCutArray.ctr (k : Nat) (l0 : List Int) (r1 : ByteArray) (r2 : List Int) (h : spec_DrawCutArray.f k l0 = some (r1, r2)) : Ctr TE 28 none [.sl 1 (rX (cI .u8) l0)] [.ro (.v (.string r1)), .own 3 1 (rX (cI .i64) r2)] [] := by
 refine ctr_of (fn := Tryd.f28) (c := (bodyOf Tryd.f28)) Tryd.func28 rfl (by kernel_rfl) (Nat.le_of_ble_eq_true (by kernel_rfl)) (fun w ro B hF _ => ?_)
 have ih : Kp (∀ m, m < k + 1 → spec_DrawCutArray.C m) := ⟨fun m _ => spec_DrawCutArray.cs m⟩
 simp only [spec_DrawCutArray.f] at h
 obtain ⟨⟨t429, t430⟩, q1, h⟩ := Option.bind_eq_some_iff.1 h
 dsimp only at h
 have q1c := spec_l13Open.ctr _ _ _ q1
 obtain ⟨t432, q2, h⟩ := Option.bind_eq_some_iff.1 h
 have q2c := spec_DrawPadArray.ctr k _ _ q2
 obtain ⟨⟨t436, t437⟩, q3, h⟩ := Option.bind_eq_some_iff.1 h
 dsimp only at h
 have q3c := spec_l11Any.ctr k _ _ _ q3
 refine path_ok (k := 14) hF (RetQ_mild _ _ _ _ _ _ _ _) (ds := [.r [.nb 107 [.sl 1 (rX (cI .u8) t429), .v (.int .i64 t430)]] [], .r [.ro (.v (.string t432))] [], .p 15 ([]), .r [.own 25 1 (rX (cL (cI .i64) 1) t436), .ro (.v (.bool t437))] [], .e 22 (.v (.int .i64 (t436.length : Int)))]) (os := []) (c := none) rfl KD ?_
 exact WS.can [(1004, some 100192), (1006, some 15), (1021, some 100288)] (((ih.out k (by omega)).s_l0  r1 r2 w ro B hF t432 (([] : List Int)) t436 (t436.length : Int) 0 t429 t430 h).out) KD
mutual
def impl_CutArray.j0 : Nat → List Int → List (List Int) → Bool → Option (ByteArray × Bool)
  | 0, _, _, _ => none
  | k + 1, x1, x6, x23 => if x23 = true then (some ((⟨#[]⟩ : ByteArray), false)) else (impl_CutArray.l0 k x6 x1 (x1.length : Int) 0)
def impl_CutArray.l0 : Nat → List (List Int) → List Int → Int → Int → Option (ByteArray × Bool)
  | 0, _, _, _, _ => none
  | k + 1, x6, x24, x25, x26 => if x26 < x25 then (if 0 ≤ x26 then (if x26 < (x24.length : Int) then (if (rd x24 x26) < 0 then (some ((⟨#[]⟩ : ByteArray), false)) else (if x26 < (x6.length : Int) then (if (rd x24 x26) > ((rd_L5 x6 x26).length : Int) then (some ((⟨#[]⟩ : ByteArray), false)) else (if 0 ≤ (rd x24 x26) then (if (rd x24 x26) ≤ ((rd_L5 x6 x26).length : Int) then (impl_CutArray.l0 k (x6.set (x26 : Int).toNat ((rd_L5 x6 x26).take ((rd x24 x26) : Int).toNat)) x24 x25 (wrap64 (x26 + 1))) else (none)) else (none))) else (none))) else (none)) else (none)) else ((impl_rowed.f k x6).bind fun bt469 => (some (bt469.1, bt469.2)))
end
def impl_CutArray.f (k : Nat) (a0 : ByteArray) (l1 : List Int) : Option (ByteArray × Bool) := (impl_rowsOf.f k a0).bind fun bt456 => (if bt456.2 = true then (impl_CutArray.j0 k l1 bt456.1 ((l1.length : Int) != (bt456.1.length : Int))) else (impl_CutArray.j0 k l1 bt456.1 true))
def impl_CutArray.I0 (r1 : ByteArray) (r2 : Bool) (m : Nat) (σ : St) : Prop := ∃ (x6 : List (List Int)) (x24 : List Int) (x25 : Int) (x26 : Int), impl_CutArray.l0 m x6 x24 x25 x26 = some (r1, r2) ∧ σ = ⟨[(6, .ow 1006 0), (24, .sl 1 (rX (cI .i64) x24)), (25, .v (.int .i64 x25)), (26, .v (.int .i64 x26))], [(1006, .own 0 25 1 (rX (cL (cI .i64) 1) x6))]⟩
structure impl_CutArray.C (k : Nat) : Prop where
 s_j0 : ∀ (r1 : ByteArray) (r2 : Bool) (w : World) (ro : Nat → Prop) (B : Nat) (_ : Fr TE (cx0 Tryd.f29 none w ro B)) (x1 : List Int) (x6 : List (List Int)) (x23 : Bool) (_ : impl_CutArray.j0 k x1 x6 x23 = some (r1, r2)), Kp (WS TE (cx0 Tryd.f29 none w ro B) (stkAt [1, 1, 0, 0, 9] [] (bodyOf Tryd.f29) []) ⟨[(1, .sl 1 (rX (cI .i64) x1)), (6, .ow 1006 0), (23, .v (.bool x23))], [(1006, .own 0 25 1 (rX (cL (cI .i64) 1) x6))]⟩ (RetQ TE Tryd.f29 none [.ro (.v (.string r1)), .ro (.v (.bool r2))] [] w ro B))
 s_l0 : ∀ (r1 : ByteArray) (r2 : Bool) (w : World) (ro : Nat → Prop) (B : Nat) (_ : Fr TE (cx0 Tryd.f29 none w ro B)) (x6 : List (List Int)) (x24 : List Int) (x25 : Int) (x26 : Int) (_ : impl_CutArray.l0 k x6 x24 x25 x26 = some (r1, r2)), Kp (WS TE (cx0 Tryd.f29 none w ro B) (stkAt [1, 1, 1, 0, 1, 0] [] (bodyOf Tryd.f29) []) ⟨[(6, .ow 1006 0), (24, .sl 1 (rX (cI .i64) x24)), (25, .v (.int .i64 x25)), (26, .v (.int .i64 x26))], [(1006, .own 0 25 1 (rX (cL (cI .i64) 1) x6))]⟩ (RetQ TE Tryd.f29 none [.ro (.v (.string r1)), .ro (.v (.bool r2))] [] w ro B))
set_option maxRecDepth 100000 in
set_option maxHeartbeats 4000000 in
theorem impl_CutArray.c_j0 (k : Nat) (ih : Kp (∀ m, m < k → impl_CutArray.C m)) (r1 : ByteArray) (r2 : Bool) (w : World) (ro : Nat → Prop) (B : Nat) (hF : Fr TE (cx0 Tryd.f29 none w ro B)) (x1 : List Int) (x6 : List (List Int)) (x23 : Bool) (h : impl_CutArray.j0 k x1 x6 x23 = some (r1, r2)) : Kp (WS TE (cx0 Tryd.f29 none w ro B) (stkAt [1, 1, 0, 0, 9] [] (bodyOf Tryd.f29) []) ⟨[(1, .sl 1 (rX (cI .i64) x1)), (6, .ow 1006 0), (23, .v (.bool x23))], [(1006, .own 0 25 1 (rX (cL (cI .i64) 1) x6))]⟩ (RetQ TE Tryd.f29 none [.ro (.v (.string r1)), .ro (.v (.bool r2))] [] w ro B)) := by
 refine ⟨?_⟩
 cases k with
 | zero => simp [impl_CutArray.j0] at h
 | succ k =>
 simp only [impl_CutArray.j0] at h
 by_cases c3 : x23 = true
 · rw [if_pos c3] at h
   refine path_ok (k := 4) hF (RetQ_mild _ _ _ _ _ _ _ _) (ds := [.b true]) (os := []) (c := none) rfl KD ?_
   cases h
   exact ret_as (ms := [.ro, .ro]) rfl KD
 · rw [if_neg c3] at h
   refine path_ok (k := 6) hF (RetQ_mild _ _ _ _ _ _ _ _) (ds := [.b false, .e 25 (.v (.int .i64 (x1.length : Int)))]) (os := []) (c := none) rfl KD ?_
   exact WS.can [(1006, some 1006)] (((ih.out k (by omega)).s_l0  r1 r2 w ro B hF x6 x1 (x1.length : Int) 0 h).out) KD
set_option maxRecDepth 100000 in
set_option maxHeartbeats 4000000 in
theorem impl_CutArray.c_l0 (k : Nat) (ih : Kp (∀ m, m < k → impl_CutArray.C m)) (r1 : ByteArray) (r2 : Bool) (w : World) (ro : Nat → Prop) (B : Nat) (hF : Fr TE (cx0 Tryd.f29 none w ro B)) (x6 : List (List Int)) (x24 : List Int) (x25 : Int) (x26 : Int) (h : impl_CutArray.l0 k x6 x24 x25 x26 = some (r1, r2)) : Kp (WS TE (cx0 Tryd.f29 none w ro B) (stkAt [1, 1, 1, 0, 1, 0] [] (bodyOf Tryd.f29) []) ⟨[(6, .ow 1006 0), (24, .sl 1 (rX (cI .i64) x24)), (25, .v (.int .i64 x25)), (26, .v (.int .i64 x26))], [(1006, .own 0 25 1 (rX (cL (cI .i64) 1) x6))]⟩ (RetQ TE Tryd.f29 none [.ro (.v (.string r1)), .ro (.v (.bool r2))] [] w ro B)) := by
 refine ⟨WS.loop (fun m σ => m ≤ k ∧ impl_CutArray.I0 r1 r2 m σ) k ⟨Nat.le_refl k, x6, x24, x25, x26, h, rfl⟩ (fun m σ' hI J0 hJ0 => ?_)⟩
 clear h
 obtain ⟨hk, x6, x24, x25, x26, h, rfl⟩ := hI
 cases m with
 | zero => simp [impl_CutArray.l0] at h
 | succ k' =>
 simp only [impl_CutArray.l0] at h
 by_cases c4 : x26 < x25
 · rw [if_pos c4] at h
   by_cases c5 : 0 ≤ x26
   · rw [if_pos c5] at h
     by_cases c6 : x26 < (x24.length : Int)
     · rw [if_pos c6] at h
       by_cases c7 : (rd x24 x26) < 0
       · rw [if_pos c7] at h
         refine path_ok (k := 16) hF (RetQ_mild _ _ _ _ _ _ _ _) (ds := [.b true, .e 29 (.rf [.v (.int .i64 (rd x24 x26))]), .b true, .b true, .b true, .b true, .b true, .b true, .b true, .b true, .b true]) (os := []) (c := none) rfl KD ?_
         cases h
         exact ret_as (ms := [.ro, .ro]) rfl KD
       · rw [if_neg c7] at h
         by_cases c8 : x26 < (x6.length : Int)
         · rw [if_pos c8] at h
           by_cases c9 : (rd x24 x26) > ((rd_L5 x6 x26).length : Int)
           · rw [if_pos c9] at h
             refine path_ok (k := 16) hF (RetQ_mild _ _ _ _ _ _ _ _) (ds := [.b true, .e 29 (.rf [.v (.int .i64 (rd x24 x26))]), .b false, .b false, .b false, .b false, .b false, .g [.sl 1 (rX (cI .i64) (rd_L5 x6 x26))], .b false, .e 39 (.v (.int .i64 ((rd_L5 x6 x26).length : Int))), .b false, .b false, .b true]) (os := []) (c := none) rfl KD ?_
             cases h
             exact ret_as (ms := [.ro, .ro]) rfl KD
           · rw [if_neg c9] at h
             by_cases c10 : 0 ≤ (rd x24 x26)
             · rw [if_pos c10] at h
               by_cases c11 : (rd x24 x26) ≤ ((rd_L5 x6 x26).length : Int)
               · rw [if_pos c11] at h
                 refine path_ok (k := 17) hF (RetQ_mild _ _ _ _ _ _ _ _) (ds := [.b true, .e 29 (.rf [.v (.int .i64 (rd x24 x26))]), .b false, .b false, .b false, .b false, .b false, .g [.sl 1 (rX (cI .i64) (rd_L5 x6 x26))], .b false, .e 39 (.v (.int .i64 ((rd_L5 x6 x26).length : Int))), .b false, .b false, .b false, .g [.sl 1 (rX (cI .i64) (rd_L5 x6 x26))], .e 49 (.sl 1 (rX (cI .i64) ((rd_L5 x6 x26).take ((rd x24 x26) : Int).toNat))), .g [.sl 1 (rX (cI .i64) (rd_L5 x6 x26))], .o 0 (rX (cL (cI .i64) 1) (x6.set (x26 : Int).toNat ((rd_L5 x6 x26).take ((rd x24 x26) : Int).toNat)))]) (os := []) (c := none) rfl KD ?_
                 exact WS.lpc [(1006, some 1006)] (hJ0 _ _ (Nat.lt_succ_self _) ⟨by omega, (x6.set (x26 : Int).toNat ((rd_L5 x6 x26).take ((rd x24 x26) : Int).toNat)), x24, x25, (wrap64 (x26 + 1)), h, rfl⟩) KD
               · rw [if_neg c11] at h
                 cases h
             · rw [if_neg c10] at h
               cases h
         · rw [if_neg c8] at h
           cases h
     · rw [if_neg c6] at h
       cases h
   · rw [if_neg c5] at h
     cases h
 · rw [if_neg c4] at h
   obtain ⟨⟨t469, t470⟩, q12, h⟩ := Option.bind_eq_some_iff.1 h
   dsimp only at h
   have q12c := impl_rowed.ctr k' _ _ _ q12
   refine path_ok (k := 8) hF (RetQ_mild _ _ _ _ _ _ _ _) (ds := [.b false, .r [.ro (.v (.string t469)), .ro (.v (.bool t470))] []]) (os := []) (c := none) rfl KD ?_
   cases h
   exact ret_as (ms := [.ro, .ro]) rfl KD
theorem impl_CutArray.cs (k : Nat) : impl_CutArray.C k := by
 induction k using Nat.strongRecOn with
 | _ k ih0 =>
 have ih : Kp (∀ m, m < k → impl_CutArray.C m) := ⟨ih0⟩
 exact ⟨impl_CutArray.c_j0 k ih, impl_CutArray.c_l0 k ih⟩
set_option maxRecDepth 100000 in
set_option maxHeartbeats 4000000 in
theorem impl_CutArray.ctr (k : Nat) (a0 : ByteArray) (l1 : List Int) (r1 : ByteArray) (r2 : Bool) (h : impl_CutArray.f k a0 l1 = some (r1, r2)) : Ctr TE 29 none [.v (.string a0), .sl 1 (rX (cI .i64) l1)] [.ro (.v (.string r1)), .ro (.v (.bool r2))] [] := by
 refine ctr_of (fn := Tryd.f29) (c := (bodyOf Tryd.f29)) Tryd.func29 rfl (by kernel_rfl) (Nat.le_of_ble_eq_true (by kernel_rfl)) (fun w ro B hF _ => ?_)
 have ih : Kp (∀ m, m < k + 1 → impl_CutArray.C m) := ⟨fun m _ => impl_CutArray.cs m⟩
 simp only [impl_CutArray.f] at h
 obtain ⟨⟨t456, t457⟩, q1, h⟩ := Option.bind_eq_some_iff.1 h
 dsimp only at h
 have q1c := impl_rowsOf.ctr k _ _ _ q1
 by_cases c2 : t457 = true
 · rw [if_pos c2] at h
   refine path_ok (k := 7) hF (RetQ_mild _ _ _ _ _ _ _ _) (ds := [.r [.own 25 1 (rX (cL (cI .i64) 1) t456), .ro (.v (.bool t457))] [], .b false, .b false, .e 19 (.v (.int .i64 (l1.length : Int))), .b false, .b false, .e 21 (.v (.int .i64 (t456.length : Int))), .b false, .b false]) (os := []) (c := none) rfl KD ?_
   exact WS.can [(1006, some 100192)] (((ih.out k (by omega)).s_j0  r1 r2 w ro B hF l1 t456 ((l1.length : Int) != (t456.length : Int)) h).out) KD
 · rw [if_neg c2] at h
   refine path_ok (k := 7) hF (RetQ_mild _ _ _ _ _ _ _ _) (ds := [.r [.own 25 1 (rX (cL (cI .i64) 1) t456), .ro (.v (.bool t457))] [], .b true, .b true, .b true, .b true, .b true, .b true]) (os := []) (c := none) rfl KD ?_
   exact WS.can [(1006, some 100192)] (((ih.out k (by omega)).s_j0  r1 r2 w ro B hF l1 t456 true h).out) KD
mutual
def spec_CutArray.j0 : Nat → List Int → List (List Int) → Bool → Option (ByteArray × Bool)
  | 0, _, _, _ => none
  | k + 1, x1, x6, x23 => if x23 = true then (some ((⟨#[]⟩ : ByteArray), false)) else (spec_CutArray.l0 k x6 x1 (x1.length : Int) 0)
def spec_CutArray.l0 : Nat → List (List Int) → List Int → Int → Int → Option (ByteArray × Bool)
  | 0, _, _, _, _ => none
  | k + 1, x6, x24, x25, x26 => if x26 < x25 then (if 0 ≤ x26 then (if x26 < (x24.length : Int) then (if x26 < (x6.length : Int) then ((spec_l1In.f (rd x24 x26) 0 ((rd_L5 x6 x26).length : Int)).bind fun t477 => (if t477 = true then (if 0 ≤ (rd x24 x26) then (if (rd x24 x26) ≤ ((rd_L5 x6 x26).length : Int) then (spec_CutArray.l0 k (x6.set (x26 : Int).toNat ((rd_L5 x6 x26).take ((rd x24 x26) : Int).toNat)) x24 x25 (wrap64 (x26 + 1))) else (none)) else (none)) else (some ((⟨#[]⟩ : ByteArray), false)))) else (none)) else (none)) else (none)) else ((spec_l11Text.f k x6).bind fun bt485 => (some (bt485.1, bt485.2)))
end
def spec_CutArray.f (k : Nat) (a0 : ByteArray) (l1 : List Int) : Option (ByteArray × Bool) := (spec_l11Any.f k a0).bind fun bt471 => (if bt471.2 = true then (spec_CutArray.j0 k l1 bt471.1 ((l1.length : Int) != (bt471.1.length : Int))) else (spec_CutArray.j0 k l1 bt471.1 true))
def spec_CutArray.I0 (r1 : ByteArray) (r2 : Bool) (m : Nat) (σ : St) : Prop := ∃ (x6 : List (List Int)) (x24 : List Int) (x25 : Int) (x26 : Int), spec_CutArray.l0 m x6 x24 x25 x26 = some (r1, r2) ∧ σ = ⟨[(6, .ow 1006 0), (24, .sl 1 (rX (cI .i64) x24)), (25, .v (.int .i64 x25)), (26, .v (.int .i64 x26))], [(1006, .own 0 25 1 (rX (cL (cI .i64) 1) x6))]⟩
structure spec_CutArray.C (k : Nat) : Prop where
 s_j0 : ∀ (r1 : ByteArray) (r2 : Bool) (w : World) (ro : Nat → Prop) (B : Nat) (_ : Fr TE (cx0 Tryd.f30 none w ro B)) (x1 : List Int) (x6 : List (List Int)) (x23 : Bool) (_ : spec_CutArray.j0 k x1 x6 x23 = some (r1, r2)), Kp (WS TE (cx0 Tryd.f30 none w ro B) (stkAt [1, 1, 0, 0, 9] [] (bodyOf Tryd.f30) []) ⟨[(1, .sl 1 (rX (cI .i64) x1)), (6, .ow 1006 0), (23, .v (.bool x23))], [(1006, .own 0 25 1 (rX (cL (cI .i64) 1) x6))]⟩ (RetQ TE Tryd.f30 none [.ro (.v (.string r1)), .ro (.v (.bool r2))] [] w ro B))
 s_l0 : ∀ (r1 : ByteArray) (r2 : Bool) (w : World) (ro : Nat → Prop) (B : Nat) (_ : Fr TE (cx0 Tryd.f30 none w ro B)) (x6 : List (List Int)) (x24 : List Int) (x25 : Int) (x26 : Int) (_ : spec_CutArray.l0 k x6 x24 x25 x26 = some (r1, r2)), Kp (WS TE (cx0 Tryd.f30 none w ro B) (stkAt [1, 1, 1, 0, 1, 0] [] (bodyOf Tryd.f30) []) ⟨[(6, .ow 1006 0), (24, .sl 1 (rX (cI .i64) x24)), (25, .v (.int .i64 x25)), (26, .v (.int .i64 x26))], [(1006, .own 0 25 1 (rX (cL (cI .i64) 1) x6))]⟩ (RetQ TE Tryd.f30 none [.ro (.v (.string r1)), .ro (.v (.bool r2))] [] w ro B))
set_option maxRecDepth 100000 in
set_option maxHeartbeats 4000000 in
theorem spec_CutArray.c_j0 (k : Nat) (ih : Kp (∀ m, m < k → spec_CutArray.C m)) (r1 : ByteArray) (r2 : Bool) (w : World) (ro : Nat → Prop) (B : Nat) (hF : Fr TE (cx0 Tryd.f30 none w ro B)) (x1 : List Int) (x6 : List (List Int)) (x23 : Bool) (h : spec_CutArray.j0 k x1 x6 x23 = some (r1, r2)) : Kp (WS TE (cx0 Tryd.f30 none w ro B) (stkAt [1, 1, 0, 0, 9] [] (bodyOf Tryd.f30) []) ⟨[(1, .sl 1 (rX (cI .i64) x1)), (6, .ow 1006 0), (23, .v (.bool x23))], [(1006, .own 0 25 1 (rX (cL (cI .i64) 1) x6))]⟩ (RetQ TE Tryd.f30 none [.ro (.v (.string r1)), .ro (.v (.bool r2))] [] w ro B)) := by
 refine ⟨?_⟩
 cases k with
 | zero => simp [spec_CutArray.j0] at h
 | succ k =>
 simp only [spec_CutArray.j0] at h
 by_cases c3 : x23 = true
 · rw [if_pos c3] at h
   refine path_ok (k := 4) hF (RetQ_mild _ _ _ _ _ _ _ _) (ds := [.b true]) (os := []) (c := none) rfl KD ?_
   cases h
   exact ret_as (ms := [.ro, .ro]) rfl KD
 · rw [if_neg c3] at h
   refine path_ok (k := 6) hF (RetQ_mild _ _ _ _ _ _ _ _) (ds := [.b false, .e 25 (.v (.int .i64 (x1.length : Int)))]) (os := []) (c := none) rfl KD ?_
   exact WS.can [(1006, some 1006)] (((ih.out k (by omega)).s_l0  r1 r2 w ro B hF x6 x1 (x1.length : Int) 0 h).out) KD
set_option maxRecDepth 100000 in
set_option maxHeartbeats 4000000 in
theorem spec_CutArray.c_l0 (k : Nat) (ih : Kp (∀ m, m < k → spec_CutArray.C m)) (r1 : ByteArray) (r2 : Bool) (w : World) (ro : Nat → Prop) (B : Nat) (hF : Fr TE (cx0 Tryd.f30 none w ro B)) (x6 : List (List Int)) (x24 : List Int) (x25 : Int) (x26 : Int) (h : spec_CutArray.l0 k x6 x24 x25 x26 = some (r1, r2)) : Kp (WS TE (cx0 Tryd.f30 none w ro B) (stkAt [1, 1, 1, 0, 1, 0] [] (bodyOf Tryd.f30) []) ⟨[(6, .ow 1006 0), (24, .sl 1 (rX (cI .i64) x24)), (25, .v (.int .i64 x25)), (26, .v (.int .i64 x26))], [(1006, .own 0 25 1 (rX (cL (cI .i64) 1) x6))]⟩ (RetQ TE Tryd.f30 none [.ro (.v (.string r1)), .ro (.v (.bool r2))] [] w ro B)) := by
 refine ⟨WS.loop (fun m σ => m ≤ k ∧ spec_CutArray.I0 r1 r2 m σ) k ⟨Nat.le_refl k, x6, x24, x25, x26, h, rfl⟩ (fun m σ' hI J0 hJ0 => ?_)⟩
 clear h
 obtain ⟨hk, x6, x24, x25, x26, h, rfl⟩ := hI
 cases m with
 | zero => simp [spec_CutArray.l0] at h
 | succ k' =>
 simp only [spec_CutArray.l0] at h
 by_cases c4 : x26 < x25
 · rw [if_pos c4] at h
   by_cases c5 : 0 ≤ x26
   · rw [if_pos c5] at h
     by_cases c6 : x26 < (x24.length : Int)
     · rw [if_pos c6] at h
       by_cases c7 : x26 < (x6.length : Int)
       · rw [if_pos c7] at h
         obtain ⟨t477, q8, h⟩ := Option.bind_eq_some_iff.1 h
         have q8c := spec_l1In.ctr _ _ _ _ q8
         by_cases c9 : t477 = true
         · rw [if_pos c9] at h
           by_cases c10 : 0 ≤ (rd x24 x26)
           · rw [if_pos c10] at h
             by_cases c11 : (rd x24 x26) ≤ ((rd_L5 x6 x26).length : Int)
             · rw [if_pos c11] at h
               refine path_ok (k := 17) hF (RetQ_mild _ _ _ _ _ _ _ _) (ds := [.b true, .e 29 (.rf [.v (.int .i64 (rd x24 x26))]), .g [.sl 1 (rX (cI .i64) (rd_L5 x6 x26))], .e 36 (.v (.int .i64 ((rd_L5 x6 x26).length : Int))), .r [.ro (.v (.bool t477))] [], .b false, .g [.sl 1 (rX (cI .i64) (rd_L5 x6 x26))], .e 46 (.sl 1 (rX (cI .i64) ((rd_L5 x6 x26).take ((rd x24 x26) : Int).toNat))), .g [.sl 1 (rX (cI .i64) (rd_L5 x6 x26))], .o 0 (rX (cL (cI .i64) 1) (x6.set (x26 : Int).toNat ((rd_L5 x6 x26).take ((rd x24 x26) : Int).toNat)))]) (os := []) (c := none) rfl KD ?_
               exact WS.lpc [(1006, some 1006)] (hJ0 _ _ (Nat.lt_succ_self _) ⟨by omega, (x6.set (x26 : Int).toNat ((rd_L5 x6 x26).take ((rd x24 x26) : Int).toNat)), x24, x25, (wrap64 (x26 + 1)), h, rfl⟩) KD
             · rw [if_neg c11] at h
               cases h
           · rw [if_neg c10] at h
             cases h
         · rw [if_neg c9] at h
           refine path_ok (k := 16) hF (RetQ_mild _ _ _ _ _ _ _ _) (ds := [.b true, .e 29 (.rf [.v (.int .i64 (rd x24 x26))]), .g [.sl 1 (rX (cI .i64) (rd_L5 x6 x26))], .e 36 (.v (.int .i64 ((rd_L5 x6 x26).length : Int))), .r [.ro (.v (.bool t477))] [], .b true]) (os := []) (c := none) rfl KD ?_
           cases h
           exact ret_as (ms := [.ro, .ro]) rfl KD
       · rw [if_neg c7] at h
         cases h
     · rw [if_neg c6] at h
       cases h
   · rw [if_neg c5] at h
     cases h
 · rw [if_neg c4] at h
   obtain ⟨⟨t485, t486⟩, q12, h⟩ := Option.bind_eq_some_iff.1 h
   dsimp only at h
   have q12c := spec_l11Text.ctr k' _ _ _ q12
   refine path_ok (k := 8) hF (RetQ_mild _ _ _ _ _ _ _ _) (ds := [.b false, .r [.ro (.v (.string t485)), .ro (.v (.bool t486))] []]) (os := []) (c := none) rfl KD ?_
   cases h
   exact ret_as (ms := [.ro, .ro]) rfl KD
theorem spec_CutArray.cs (k : Nat) : spec_CutArray.C k := by
 induction k using Nat.strongRecOn with
 | _ k ih0 =>
 have ih : Kp (∀ m, m < k → spec_CutArray.C m) := ⟨ih0⟩
 exact ⟨spec_CutArray.c_j0 k ih, spec_CutArray.c_l0 k ih⟩
set_option maxRecDepth 100000 in
set_option maxHeartbeats 4000000 in
theorem spec_CutArray.ctr (k : Nat) (a0 : ByteArray) (l1 : List Int) (r1 : ByteArray) (r2 : Bool) (h : spec_CutArray.f k a0 l1 = some (r1, r2)) : Ctr TE 30 none [.v (.string a0), .sl 1 (rX (cI .i64) l1)] [.ro (.v (.string r1)), .ro (.v (.bool r2))] [] := by
 refine ctr_of (fn := Tryd.f30) (c := (bodyOf Tryd.f30)) Tryd.func30 rfl (by kernel_rfl) (Nat.le_of_ble_eq_true (by kernel_rfl)) (fun w ro B hF _ => ?_)
 have ih : Kp (∀ m, m < k + 1 → spec_CutArray.C m) := ⟨fun m _ => spec_CutArray.cs m⟩
 simp only [spec_CutArray.f] at h
 obtain ⟨⟨t471, t472⟩, q1, h⟩ := Option.bind_eq_some_iff.1 h
 dsimp only at h
 have q1c := spec_l11Any.ctr k _ _ _ q1
 by_cases c2 : t472 = true
 · rw [if_pos c2] at h
   refine path_ok (k := 7) hF (RetQ_mild _ _ _ _ _ _ _ _) (ds := [.r [.own 25 1 (rX (cL (cI .i64) 1) t471), .ro (.v (.bool t472))] [], .b false, .b false, .e 19 (.v (.int .i64 (l1.length : Int))), .b false, .b false, .e 21 (.v (.int .i64 (t471.length : Int))), .b false, .b false]) (os := []) (c := none) rfl KD ?_
   exact WS.can [(1006, some 100192)] (((ih.out k (by omega)).s_j0  r1 r2 w ro B hF l1 t471 ((l1.length : Int) != (t471.length : Int)) h).out) KD
 · rw [if_neg c2] at h
   refine path_ok (k := 7) hF (RetQ_mild _ _ _ _ _ _ _ _) (ds := [.r [.own 25 1 (rX (cL (cI .i64) 1) t471), .ro (.v (.bool t472))] [], .b true, .b true, .b true, .b true, .b true, .b true]) (os := []) (c := none) rfl KD ?_
   exact WS.can [(1006, some 100192)] (((ih.out k (by omega)).s_j0  r1 r2 w ro B hF l1 t471 true h).out) KD
end Go.Proofs.YtoloblgjlnhioaaDoor.J
