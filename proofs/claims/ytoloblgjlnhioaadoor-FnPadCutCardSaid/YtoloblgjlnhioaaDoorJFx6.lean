/- A part of the claim. -/
import Derived.Test.YtoloblgjlnhioaaDoorJFx0
import Derived.Test.YtoloblgjlnhioaaDoorJFx3
import Derived.Test.YtoloblgjlnhioaaDoorJFSgz
-- PRINTED by print.py (a twelfth state) out of the translation. Not trusted: Lean checks it.
namespace Go.Proofs.YtoloblgjlnhioaaDoor.J
open Go.RowKit Go.Proofs.YtoloblgjlnhioaaDoorW.St Go.Proofs.YtoloblgjlnhioaaDoorW.PrintWords Go.Proofs.YtoloblgjlnhioaaDoorW.PrintLast Go.Proofs.YtoloblgjlnhioaaDoorW.PrintMore
attribute [local go_sem] max2_int min2_int max_two min_two max_three min_three max_four min_four   -- for this text's walks alone
set_option linter.unusedVariables false
set_option linter.unusedSimpArgs false
mutual
def impl_PartsOf.j0 : Nat → Int → Bool → Int → List (S62) → Option (List ByteArray × Bool)
  | 0, _, _, _, _ => none
  | k + 1, x1, x22, x493000, x493001 => if x22 = true then (some (([] : List ByteArray), false)) else (impl_PartsOf.l0 k x1 (([] : List ByteArray)) x493001 (x493001.length : Int) 0)
def impl_PartsOf.l0 : Nat → Int → List ByteArray → List (S62) → Int → Int → Option (List ByteArray × Bool)
  | 0, _, _, _, _, _ => none
  | k + 1, x1, x8, x25, x26, x27 => if x27 < x26 then (if 0 ≤ x27 then (if x27 < (x25.length : Int) then ((impl_arr_text.f k ((rd_T62 x25 x27).f0) ((rd_T62 x25 x27).f1) (wrap64 (x1 - 1))).bind fun t498 => (if x8.length < 8796093022208 then (impl_PartsOf.l0 k x1 (x8 ++ [t498]) x25 x26 (wrap64 (x27 + 1))) else (none))) else (none)) else (none)) else (some (x8, true))
end
def impl_PartsOf.f (k : Nat) (a0 : ByteArray) (a1 : Int) : Option (List ByteArray × Bool) := (impl_arrOf.f k a0 a1).bind fun bt487 => (if bt487.2.2 = true then (impl_PartsOf.j0 k a1 (a1 == 0) bt487.1 bt487.2.1) else (impl_PartsOf.j0 k a1 true bt487.1 bt487.2.1))
def impl_PartsOf.I0 (r1 : List ByteArray) (r2 : Bool) (m : Nat) (σ : St) : Prop := ∃ (x1 : Int) (x8 : List ByteArray) (x25 : List (S62)) (x26 : Int) (x27 : Int), impl_PartsOf.l0 m x1 x8 x25 x26 x27 = some (r1, r2) ∧ σ = ⟨[(1, .v (.int .i64 x1)), (8, .ow 1008 0), (25, .sl 2 (r62 x25)), (26, .v (.int .i64 x26)), (27, .v (.int .i64 x27))], [(1008, .own 0 9 1 (rX cS x8))]⟩
structure impl_PartsOf.C (k : Nat) : Prop where
 s_j0 : ∀ (r1 : List ByteArray) (r2 : Bool) (w : World) (ro : Nat → Prop) (B : Nat) (_ : Fr TE (cx0 Tryd.f31 none w ro B)) (x1 : Int) (x22 : Bool) (x493000 : Int) (x493001 : List (S62)) (_ : impl_PartsOf.j0 k x1 x22 x493000 x493001 = some (r1, r2)), Kp (WS TE (cx0 Tryd.f31 none w ro B) (stkAt [1, 1, 0, 0, 9] [] (bodyOf Tryd.f31) []) ⟨[(1, .v (.int .i64 x1)), (6, .pt 1006 0 0), (22, .v (.bool x22))], [(1006, .box 0 62 false [.v (.int .i64 x493000), .sl 2 (r62 x493001)])]⟩ (RetQ TE Tryd.f31 none [.own 9 1 (rX cS r1), .ro (.v (.bool r2))] [] w ro B))
 s_l0 : ∀ (r1 : List ByteArray) (r2 : Bool) (w : World) (ro : Nat → Prop) (B : Nat) (_ : Fr TE (cx0 Tryd.f31 none w ro B)) (x1 : Int) (x8 : List ByteArray) (x25 : List (S62)) (x26 : Int) (x27 : Int) (_ : impl_PartsOf.l0 k x1 x8 x25 x26 x27 = some (r1, r2)), Kp (WS TE (cx0 Tryd.f31 none w ro B) (stkAt [1, 1, 1, 1, 0, 1, 0] [] (bodyOf Tryd.f31) []) ⟨[(1, .v (.int .i64 x1)), (8, .ow 1008 0), (25, .sl 2 (r62 x25)), (26, .v (.int .i64 x26)), (27, .v (.int .i64 x27))], [(1008, .own 0 9 1 (rX cS x8))]⟩ (RetQ TE Tryd.f31 none [.own 9 1 (rX cS r1), .ro (.v (.bool r2))] [] w ro B))
set_option maxRecDepth 100000 in
set_option maxHeartbeats 4000000 in
theorem impl_PartsOf.c_j0 (k : Nat) (ih : Kp (∀ m, m < k → impl_PartsOf.C m)) (r1 : List ByteArray) (r2 : Bool) (w : World) (ro : Nat → Prop) (B : Nat) (hF : Fr TE (cx0 Tryd.f31 none w ro B)) (x1 : Int) (x22 : Bool) (x493000 : Int) (x493001 : List (S62)) (h : impl_PartsOf.j0 k x1 x22 x493000 x493001 = some (r1, r2)) : Kp (WS TE (cx0 Tryd.f31 none w ro B) (stkAt [1, 1, 0, 0, 9] [] (bodyOf Tryd.f31) []) ⟨[(1, .v (.int .i64 x1)), (6, .pt 1006 0 0), (22, .v (.bool x22))], [(1006, .box 0 62 false [.v (.int .i64 x493000), .sl 2 (r62 x493001)])]⟩ (RetQ TE Tryd.f31 none [.own 9 1 (rX cS r1), .ro (.v (.bool r2))] [] w ro B)) := by
 refine ⟨?_⟩
 cases k with
 | zero => simp [impl_PartsOf.j0] at h
 | succ k =>
 simp only [impl_PartsOf.j0] at h
 by_cases c3 : x22 = true
 · rw [if_pos c3] at h
   refine path_ok (k := 4) hF (RetQ_mild _ _ _ _ _ _ _ _) (ds := [.b true]) (os := []) (c := none) rfl KD ?_
   cases h
   exact ret_as (ms := [.nil 9 1, .ro]) rfl KD
 · rw [if_neg c3] at h
   refine path_ok (k := 8) hF (RetQ_mild _ _ _ _ _ _ _ _) (ds := [.b false, .p 23 ([]), .e 26 (.v (.int .i64 (x493001.length : Int)))]) (os := []) (c := none) rfl KD ?_
   exact WS.can [(1008, some 23)] (((ih.out k (by omega)).s_l0  r1 r2 w ro B hF x1 (([] : List ByteArray)) x493001 (x493001.length : Int) 0 h).out) KD
set_option maxRecDepth 100000 in
set_option maxHeartbeats 4000000 in
theorem impl_PartsOf.c_l0 (k : Nat) (ih : Kp (∀ m, m < k → impl_PartsOf.C m)) (r1 : List ByteArray) (r2 : Bool) (w : World) (ro : Nat → Prop) (B : Nat) (hF : Fr TE (cx0 Tryd.f31 none w ro B)) (x1 : Int) (x8 : List ByteArray) (x25 : List (S62)) (x26 : Int) (x27 : Int) (h : impl_PartsOf.l0 k x1 x8 x25 x26 x27 = some (r1, r2)) : Kp (WS TE (cx0 Tryd.f31 none w ro B) (stkAt [1, 1, 1, 1, 0, 1, 0] [] (bodyOf Tryd.f31) []) ⟨[(1, .v (.int .i64 x1)), (8, .ow 1008 0), (25, .sl 2 (r62 x25)), (26, .v (.int .i64 x26)), (27, .v (.int .i64 x27))], [(1008, .own 0 9 1 (rX cS x8))]⟩ (RetQ TE Tryd.f31 none [.own 9 1 (rX cS r1), .ro (.v (.bool r2))] [] w ro B)) := by
 refine ⟨WS.loop (fun m σ => m ≤ k ∧ impl_PartsOf.I0 r1 r2 m σ) k ⟨Nat.le_refl k, x1, x8, x25, x26, x27, h, rfl⟩ (fun m σ' hI J0 hJ0 => ?_)⟩
 clear h
 obtain ⟨hk, x1, x8, x25, x26, x27, h, rfl⟩ := hI
 cases m with
 | zero => simp [impl_PartsOf.l0] at h
 | succ k' =>
 simp only [impl_PartsOf.l0] at h
 by_cases c4 : x27 < x26
 · rw [if_pos c4] at h
   by_cases c5 : 0 ≤ x27
   · rw [if_pos c5] at h
     by_cases c6 : x27 < (x25.length : Int)
     · rw [if_pos c6] at h
       obtain ⟨t498, q7, h⟩ := Option.bind_eq_some_iff.1 h
       have q7c := impl_arr_text.ctr k' _ _ _ _ q7
       by_cases c8 : x8.length < 8796093022208
       · rw [if_pos c8] at h
         refine path_ok (k := 12) hF (RetQ_mild _ _ _ _ _ _ _ _) (ds := [.b true, .e 29 (.rf [.v (.int .i64 ((rd_T62 x25 x27).f0)), .sl 2 (r62 ((rd_T62 x25 x27).f1))]), .r [.ro (.v (.string t498))] [], .p 36 ([[.v (.string t498)]]), .o 37 (rX cS (x8 ++ [t498]))]) (os := []) (c := none) rfl KD ?_
         exact WS.lpc [(1008, some 1008)] (hJ0 _ _ (Nat.lt_succ_self _) ⟨by omega, x1, (x8 ++ [t498]), x25, x26, (wrap64 (x27 + 1)), h, rfl⟩) KD
       · rw [if_neg c8] at h
         cases h
     · rw [if_neg c6] at h
       cases h
   · rw [if_neg c5] at h
     cases h
 · rw [if_neg c4] at h
   refine path_ok (k := 8) hF (RetQ_mild _ _ _ _ _ _ _ _) (ds := [.b false]) (os := []) (c := none) rfl KD ?_
   cases h
   exact ret_as (ms := [.own, .ro]) rfl KD
theorem impl_PartsOf.cs (k : Nat) : impl_PartsOf.C k := by
 induction k using Nat.strongRecOn with
 | _ k ih0 =>
 have ih : Kp (∀ m, m < k → impl_PartsOf.C m) := ⟨ih0⟩
 exact ⟨impl_PartsOf.c_j0 k ih, impl_PartsOf.c_l0 k ih⟩
set_option maxRecDepth 100000 in
set_option maxHeartbeats 4000000 in
theorem impl_PartsOf.ctr (k : Nat) (a0 : ByteArray) (a1 : Int) (r1 : List ByteArray) (r2 : Bool) (h : impl_PartsOf.f k a0 a1 = some (r1, r2)) : Ctr TE 31 none [.v (.string a0), .v (.int .i64 a1)] [.own 9 1 (rX cS r1), .ro (.v (.bool r2))] [] := by
 refine ctr_of (fn := Tryd.f31) (c := (bodyOf Tryd.f31)) Tryd.func31 rfl (by kernel_rfl) (Nat.le_of_ble_eq_true (by kernel_rfl)) (fun w ro B hF _ => ?_)
 have ih : Kp (∀ m, m < k + 1 → impl_PartsOf.C m) := ⟨fun m _ => impl_PartsOf.cs m⟩
 simp only [impl_PartsOf.f] at h
 obtain ⟨⟨t487, t488, t491⟩, q1, h⟩ := Option.bind_eq_some_iff.1 h
 dsimp only at h
 have q1c := impl_arrOf.ctr k _ _ _ _ _ q1
 by_cases c2 : t491 = true
 · rw [if_pos c2] at h
   refine path_ok (k := 7) hF (RetQ_mild _ _ _ _ _ _ _ _) (ds := [.r [.ro (.ag [.v (.int .i64 t487), .sl 2 (r62 t488)]), .ro (.v (.bool t491))] [], .b false, .b false, .b false]) (os := []) (c := none) rfl KD ?_
   exact WS.can [(1006, some 6)] (((ih.out k (by omega)).s_j0  r1 r2 w ro B hF a1 (a1 == 0) t487 t488 h).out) KD
 · rw [if_neg c2] at h
   refine path_ok (k := 7) hF (RetQ_mild _ _ _ _ _ _ _ _) (ds := [.r [.ro (.ag [.v (.int .i64 t487), .sl 2 (r62 t488)]), .ro (.v (.bool t491))] [], .b true, .b true, .b true]) (os := []) (c := none) rfl KD ?_
   exact WS.can [(1006, some 6)] (((ih.out k (by omega)).s_j0  r1 r2 w ro B hF a1 true t487 t488 h).out) KD
def impl_LengthOf.f (k : Nat) (a0 : ByteArray) (a1 : Int) : Option (Int) := (impl_PartsOf.f k a0 a1).bind fun bt502 => (if bt502.2 = true then (some (bt502.1.length : Int)) else (some (-1)))
set_option maxRecDepth 100000 in
set_option maxHeartbeats 4000000 in
theorem impl_LengthOf.ctr (k : Nat) (a0 : ByteArray) (a1 : Int) (r : Int) (h : impl_LengthOf.f k a0 a1 = some r) : Ctr TE 32 none [.v (.string a0), .v (.int .i64 a1)] [.ro (.v (.int .i64 r))] [] := by
 refine ctr_of (fn := Tryd.f32) (c := (bodyOf Tryd.f32)) Tryd.func32 rfl (by kernel_rfl) (Nat.le_of_ble_eq_true (by kernel_rfl)) (fun w ro B hF _ => ?_)
 simp only [impl_LengthOf.f] at h
 obtain ⟨⟨t502, t503⟩, q1, h⟩ := Option.bind_eq_some_iff.1 h
 dsimp only at h
 have q1c := impl_PartsOf.ctr k _ _ _ _ q1
 by_cases c2 : t503 = true
 · rw [if_pos c2] at h
   refine path_ok (k := 12) hF (RetQ_mild _ _ _ _ _ _ _ _) (ds := [.r [.own 9 1 (rX cS t502), .ro (.v (.bool t503))] [], .b false, .e 16 (.v (.int .i64 (t502.length : Int)))]) (os := []) (c := none) rfl KD ?_
   cases h
   exact ret_as (ms := [.ro]) rfl KD
 · rw [if_neg c2] at h
   refine path_ok (k := 11) hF (RetQ_mild _ _ _ _ _ _ _ _) (ds := [.r [.own 9 1 (rX cS t502), .ro (.v (.bool t503))] [], .b true]) (os := []) (c := none) rfl KD ?_
   cases h
   exact ret_as (ms := [.ro]) rfl KD
mutual
def impl_shapeOf.l0 : Nat → List Int → List (List Int) → Int → Int → Option (List Int × Bool)
  | 0, _, _, _, _ => none
  | k + 1, x6, x17, x18, x19 => if x19 < x18 then (if 0 ≤ x19 then (if x19 < (x17.length : Int) then (impl_shapeOf.l1 k x6 0 x17 x18 x19 (rd_L5 x17 x19) ((rd_L5 x17 x19).length : Int) 0) else (none)) else (none)) else (some (x6, true))
def impl_shapeOf.l1 : Nat → List Int → Int → List (List Int) → Int → Int → List Int → Int → Int → Option (List Int × Bool)
  | 0, _, _, _, _, _, _, _, _ => none
  | k + 1, x6, x9, x17, x18, x19, x23, x24, x25 => if x25 < x24 then (if 0 ≤ x25 then (if x25 < (x23.length : Int) then (if x25 > 0 then (if (rd x23 x25) = x9 then (impl_shapeOf.l1 k x6 (rd x23 x25) x17 x18 x19 x23 x24 (wrap64 (x25 + 1))) else (some (([] : List Int), false))) else (impl_shapeOf.l1 k x6 (rd x23 x25) x17 x18 x19 x23 x24 (wrap64 (x25 + 1)))) else (none)) else (none)) else (if x6.length < 17592186044416 then (impl_shapeOf.l0 k (x6 ++ [x9]) x17 x18 (wrap64 (x19 + 1))) else (none))
end
def impl_shapeOf.f (k : Nat) (a0_0 : Int) (l0_1 : List (S62)) (a1 : Int) : Option (List Int × Bool) := (impl_laid.f k (([(⟨a0_0, l0_1⟩ : S62)] : List (S62))) a1).bind fun bt513 => (impl_shapeOf.l0 k (([] : List Int)) bt513.1 (bt513.1.length : Int) 0)
def impl_shapeOf.I0 (r1 : List Int) (r2 : Bool) (m : Nat) (σ : St) : Prop := ∃ (x6 : List Int) (x17 : List (List Int)) (x18 : Int) (x19 : Int), impl_shapeOf.l0 m x6 x17 x18 x19 = some (r1, r2) ∧ σ = ⟨[(6, .ow 1006 0), (17, .sl 1 (rX (cL (cI .i64) 1) x17)), (18, .v (.int .i64 x18)), (19, .v (.int .i64 x19))], [(1006, .own 0 3 1 (rX (cI .i64) x6))]⟩
def impl_shapeOf.I1 (r1 : List Int) (r2 : Bool) (m : Nat) (σ : St) : Prop := ∃ (x6 : List Int) (x9 : Int) (x17 : List (List Int)) (x18 : Int) (x19 : Int) (x23 : List Int) (x24 : Int) (x25 : Int), impl_shapeOf.l1 m x6 x9 x17 x18 x19 x23 x24 x25 = some (r1, r2) ∧ σ = ⟨[(6, .ow 1006 0), (9, .v (.int .i64 x9)), (17, .sl 1 (rX (cL (cI .i64) 1) x17)), (18, .v (.int .i64 x18)), (19, .v (.int .i64 x19)), (23, .sl 1 (rX (cI .i64) x23)), (24, .v (.int .i64 x24)), (25, .v (.int .i64 x25))], [(1006, .own 0 3 1 (rX (cI .i64) x6))]⟩
structure impl_shapeOf.C (k : Nat) : Prop where
 s_l0 : ∀ (r1 : List Int) (r2 : Bool) (w : World) (ro : Nat → Prop) (B : Nat) (_ : Fr TE (cx0 Tryd.f95 none w ro B)) (x6 : List Int) (x17 : List (List Int)) (x18 : Int) (x19 : Int) (_ : impl_shapeOf.l0 k x6 x17 x18 x19 = some (r1, r2)), Kp (WS TE (cx0 Tryd.f95 none w ro B) (stkAt [1, 1, 0, 1, 0] [] (bodyOf Tryd.f95) []) ⟨[(6, .ow 1006 0), (17, .sl 1 (rX (cL (cI .i64) 1) x17)), (18, .v (.int .i64 x18)), (19, .v (.int .i64 x19))], [(1006, .own 0 3 1 (rX (cI .i64) x6))]⟩ (RetQ TE Tryd.f95 none [.own 3 1 (rX (cI .i64) r1), .ro (.v (.bool r2))] [] w ro B))
 s_l1 : ∀ (r1 : List Int) (r2 : Bool) (w : World) (ro : Nat → Prop) (B : Nat) (_ : Fr TE (cx0 Tryd.f95 none w ro B)) (J0 : St → Prop) (_ : ∀ m σ, m ≤ k → impl_shapeOf.I0 r1 r2 m σ → J0 σ) (x6 : List Int) (x9 : Int) (x17 : List (List Int)) (x18 : Int) (x19 : Int) (x23 : List Int) (x24 : Int) (x25 : Int) (_ : impl_shapeOf.l1 k x6 x9 x17 x18 x19 x23 x24 x25 = some (r1, r2)), Kp (WS TE (cx0 Tryd.f95 none w ro B) (stkAt [1, 1, 0, 1, 0, 0, 1, 1, 0, 0, 1, 1, 0, 1, 0] [J0] (bodyOf Tryd.f95) []) ⟨[(6, .ow 1006 0), (9, .v (.int .i64 x9)), (17, .sl 1 (rX (cL (cI .i64) 1) x17)), (18, .v (.int .i64 x18)), (19, .v (.int .i64 x19)), (23, .sl 1 (rX (cI .i64) x23)), (24, .v (.int .i64 x24)), (25, .v (.int .i64 x25))], [(1006, .own 0 3 1 (rX (cI .i64) x6))]⟩ (RetQ TE Tryd.f95 none [.own 3 1 (rX (cI .i64) r1), .ro (.v (.bool r2))] [] w ro B))
set_option maxRecDepth 100000 in
set_option maxHeartbeats 4000000 in
theorem impl_shapeOf.c_l0 (k : Nat) (ih : Kp (∀ m, m < k → impl_shapeOf.C m)) (r1 : List Int) (r2 : Bool) (w : World) (ro : Nat → Prop) (B : Nat) (hF : Fr TE (cx0 Tryd.f95 none w ro B)) (x6 : List Int) (x17 : List (List Int)) (x18 : Int) (x19 : Int) (h : impl_shapeOf.l0 k x6 x17 x18 x19 = some (r1, r2)) : Kp (WS TE (cx0 Tryd.f95 none w ro B) (stkAt [1, 1, 0, 1, 0] [] (bodyOf Tryd.f95) []) ⟨[(6, .ow 1006 0), (17, .sl 1 (rX (cL (cI .i64) 1) x17)), (18, .v (.int .i64 x18)), (19, .v (.int .i64 x19))], [(1006, .own 0 3 1 (rX (cI .i64) x6))]⟩ (RetQ TE Tryd.f95 none [.own 3 1 (rX (cI .i64) r1), .ro (.v (.bool r2))] [] w ro B)) := by
 refine ⟨WS.loop (fun m σ => m ≤ k ∧ impl_shapeOf.I0 r1 r2 m σ) k ⟨Nat.le_refl k, x6, x17, x18, x19, h, rfl⟩ (fun m σ' hI J0 hJ0 => ?_)⟩
 clear h
 obtain ⟨hk, x6, x17, x18, x19, h, rfl⟩ := hI
 cases m with
 | zero => simp [impl_shapeOf.l0] at h
 | succ k' =>
 simp only [impl_shapeOf.l0] at h
 by_cases c2 : x19 < x18
 · rw [if_pos c2] at h
   by_cases c3 : 0 ≤ x19
   · rw [if_pos c3] at h
     by_cases c4 : x19 < (x17.length : Int)
     · rw [if_pos c4] at h
       refine path_ok (k := 15) hF (RetQ_mild _ _ _ _ _ _ _ _) (ds := [.b true, .e 21 (.rf [.sl 1 (rX (cI .i64) (rd_L5 x17 x19))]), .e 24 (.v (.int .i64 ((rd_L5 x17 x19).length : Int)))]) (os := []) (c := none) rfl KD ?_
       exact WS.can [(1006, some 1006)] (((ih.out k' (by omega)).s_l1  r1 r2 w ro B hF J0 (fun m σ hm hI => hJ0 m σ (by omega) ⟨by omega, hI⟩) x6 0 x17 x18 x19 (rd_L5 x17 x19) ((rd_L5 x17 x19).length : Int) 0 h).out) KD
     · rw [if_neg c4] at h
       cases h
   · rw [if_neg c3] at h
     cases h
 · rw [if_neg c2] at h
   refine path_ok (k := 8) hF (RetQ_mild _ _ _ _ _ _ _ _) (ds := [.b false]) (os := []) (c := none) rfl KD ?_
   cases h
   exact ret_as (ms := [.own, .ro]) rfl KD
set_option maxRecDepth 100000 in
set_option maxHeartbeats 4000000 in
theorem impl_shapeOf.c_l1 (k : Nat) (ih : Kp (∀ m, m < k → impl_shapeOf.C m)) (r1 : List Int) (r2 : Bool) (w : World) (ro : Nat → Prop) (B : Nat) (hF : Fr TE (cx0 Tryd.f95 none w ro B)) (J0 : St → Prop) (hJ0 : ∀ m σ, m ≤ k → impl_shapeOf.I0 r1 r2 m σ → J0 σ) (x6 : List Int) (x9 : Int) (x17 : List (List Int)) (x18 : Int) (x19 : Int) (x23 : List Int) (x24 : Int) (x25 : Int) (h : impl_shapeOf.l1 k x6 x9 x17 x18 x19 x23 x24 x25 = some (r1, r2)) : Kp (WS TE (cx0 Tryd.f95 none w ro B) (stkAt [1, 1, 0, 1, 0, 0, 1, 1, 0, 0, 1, 1, 0, 1, 0] [J0] (bodyOf Tryd.f95) []) ⟨[(6, .ow 1006 0), (9, .v (.int .i64 x9)), (17, .sl 1 (rX (cL (cI .i64) 1) x17)), (18, .v (.int .i64 x18)), (19, .v (.int .i64 x19)), (23, .sl 1 (rX (cI .i64) x23)), (24, .v (.int .i64 x24)), (25, .v (.int .i64 x25))], [(1006, .own 0 3 1 (rX (cI .i64) x6))]⟩ (RetQ TE Tryd.f95 none [.own 3 1 (rX (cI .i64) r1), .ro (.v (.bool r2))] [] w ro B)) := by
 refine ⟨WS.loop (fun m σ => m ≤ k ∧ impl_shapeOf.I1 r1 r2 m σ) k ⟨Nat.le_refl k, x6, x9, x17, x18, x19, x23, x24, x25, h, rfl⟩ (fun m σ' hI J1 hJ1 => ?_)⟩
 clear h
 obtain ⟨hk, x6, x9, x17, x18, x19, x23, x24, x25, h, rfl⟩ := hI
 cases m with
 | zero => simp [impl_shapeOf.l1] at h
 | succ k' =>
 simp only [impl_shapeOf.l1] at h
 by_cases c5 : x25 < x24
 · rw [if_pos c5] at h
   by_cases c6 : 0 ≤ x25
   · rw [if_pos c6] at h
     by_cases c7 : x25 < (x23.length : Int)
     · rw [if_pos c7] at h
       by_cases c8 : x25 > 0
       · rw [if_pos c8] at h
         by_cases c9 : (rd x23 x25) = x9
         · rw [if_pos c9] at h
           refine path_ok (k := 17) hF (RetQ_mild _ _ _ _ _ _ _ _) (ds := [.b true, .e 28 (.rf [.v (.int .i64 (rd x23 x25))]), .b true, .b true, .b true, .b true, .b false]) (os := []) (c := none) rfl KD ?_
           exact WS.lpc [(1006, some 1006)] (hJ1 _ _ (Nat.lt_succ_self _) ⟨by omega, x6, (rd x23 x25), x17, x18, x19, x23, x24, (wrap64 (x25 + 1)), h, rfl⟩) KD
         · rw [if_neg c9] at h
           refine path_ok (k := 16) hF (RetQ_mild _ _ _ _ _ _ _ _) (ds := [.b true, .e 28 (.rf [.v (.int .i64 (rd x23 x25))]), .b true, .b true, .b true, .b true, .b true]) (os := []) (c := none) rfl KD ?_
           cases h
           exact ret_as (ms := [.nil 3 1, .ro]) rfl KD
       · rw [if_neg c8] at h
         refine path_ok (k := 17) hF (RetQ_mild _ _ _ _ _ _ _ _) (ds := [.b true, .e 28 (.rf [.v (.int .i64 (rd x23 x25))]), .b false, .b false, .b false, .b false, .b false]) (os := []) (c := none) rfl KD ?_
         exact WS.lpc [(1006, some 1006)] (hJ1 _ _ (Nat.lt_succ_self _) ⟨by omega, x6, (rd x23 x25), x17, x18, x19, x23, x24, (wrap64 (x25 + 1)), h, rfl⟩) KD
     · rw [if_neg c7] at h
       cases h
   · rw [if_neg c6] at h
     cases h
 · rw [if_neg c5] at h
   by_cases c10 : x6.length < 17592186044416
   · rw [if_pos c10] at h
     refine path_ok (k := 8) hF (RetQ_mild _ _ _ _ _ _ _ _) (ds := [.b false, .p 41 ([[.v (.int .i64 x9)]]), .o 42 (rX (cI .i64) (x6 ++ [x9]))]) (os := []) (c := none) rfl KD ?_
     exact WS.lpc [(1006, some 1006)] (hJ0 _ _ (by omega) ⟨(x6 ++ [x9]), x17, x18, (wrap64 (x19 + 1)), h, rfl⟩) KD
   · rw [if_neg c10] at h
     cases h
theorem impl_shapeOf.cs (k : Nat) : impl_shapeOf.C k := by
 induction k using Nat.strongRecOn with
 | _ k ih0 =>
 have ih : Kp (∀ m, m < k → impl_shapeOf.C m) := ⟨ih0⟩
 exact ⟨impl_shapeOf.c_l0 k ih, impl_shapeOf.c_l1 k ih⟩
set_option maxRecDepth 100000 in
set_option maxHeartbeats 4000000 in
theorem impl_shapeOf.ctr (k : Nat) (a0_0 : Int) (l0_1 : List (S62)) (a1 : Int) (r1 : List Int) (r2 : Bool) (h : impl_shapeOf.f k a0_0 l0_1 a1 = some (r1, r2)) : Ctr TE 95 none [.ag [.v (.int .i64 a0_0), .sl 2 (r62 l0_1)], .v (.int .i64 a1)] [.own 3 1 (rX (cI .i64) r1), .ro (.v (.bool r2))] [] := by
 refine ctr_of (fn := Tryd.f95) (c := (bodyOf Tryd.f95)) Tryd.func95 rfl (by kernel_rfl) (Nat.le_of_ble_eq_true (by kernel_rfl)) (fun w ro B hF _ => ?_)
 have ih : Kp (∀ m, m < k + 1 → impl_shapeOf.C m) := ⟨fun m _ => impl_shapeOf.cs m⟩
 simp only [impl_shapeOf.f] at h
 obtain ⟨⟨t513, t516⟩, q1, h⟩ := Option.bind_eq_some_iff.1 h
 dsimp only at h
 have q1c := impl_laid.ctr k _ _ _ _ q1
 refine path_ok (k := 8) hF (RetQ_mild _ _ _ _ _ _ _ _) (ds := [.p 12 ([]), .p 14 ([[.v (.int .i64 a0_0), .sl 2 (r62 l0_1)]]), .r [.ro (.ag [.sl 1 (rX (cL (cI .i64) 1) t513), .sl 1 (rX (cI .i64) t516)])] [], .e 18 (.v (.int .i64 (t513.length : Int)))]) (os := []) (c := none) rfl KD ?_
 exact WS.can [(1006, some 12)] (((ih.out k (by omega)).s_l0  r1 r2 w ro B hF (([] : List Int)) t513 (t513.length : Int) 0 h).out) KD
def impl_ShapeOf.f (k : Nat) (a0 : ByteArray) (a1 : Int) : Option (List Int × Bool) := (impl_arrOf.f k a0 a1).bind fun bt524 => (if bt524.2.2 = true then ((impl_shapeOf.f k bt524.1 bt524.2.1 a1).bind fun bt530 => (some (bt530.1, bt530.2))) else (some (([] : List Int), false)))
set_option maxRecDepth 100000 in
set_option maxHeartbeats 4000000 in
theorem impl_ShapeOf.ctr (k : Nat) (a0 : ByteArray) (a1 : Int) (r1 : List Int) (r2 : Bool) (h : impl_ShapeOf.f k a0 a1 = some (r1, r2)) : Ctr TE 64 none [.v (.string a0), .v (.int .i64 a1)] [.own 3 1 (rX (cI .i64) r1), .ro (.v (.bool r2))] [] := by
 refine ctr_of (fn := Tryd.f64) (c := (bodyOf Tryd.f64)) Tryd.func64 rfl (by kernel_rfl) (Nat.le_of_ble_eq_true (by kernel_rfl)) (fun w ro B hF _ => ?_)
 simp only [impl_ShapeOf.f] at h
 obtain ⟨⟨t524, t525, t528⟩, q1, h⟩ := Option.bind_eq_some_iff.1 h
 dsimp only at h
 have q1c := impl_arrOf.ctr k _ _ _ _ _ q1
 by_cases c2 : t528 = true
 · rw [if_pos c2] at h
   obtain ⟨⟨t530, t533⟩, q3, h⟩ := Option.bind_eq_some_iff.1 h
   dsimp only at h
   have q3c := impl_shapeOf.ctr k _ _ _ _ _ q3
   refine path_ok (k := 12) hF (RetQ_mild _ _ _ _ _ _ _ _) (ds := [.r [.ro (.ag [.v (.int .i64 t524), .sl 2 (r62 t525)]), .ro (.v (.bool t528))] [], .b false, .r [.own 3 1 (rX (cI .i64) t530), .ro (.v (.bool t533))] []]) (os := []) (c := none) rfl KD ?_
   cases h
   exact ret_as (ms := [.own, .ro]) rfl KD
 · rw [if_neg c2] at h
   refine path_ok (k := 11) hF (RetQ_mild _ _ _ _ _ _ _ _) (ds := [.r [.ro (.ag [.v (.int .i64 t524), .sl 2 (r62 t525)]), .ro (.v (.bool t528))] [], .b true]) (os := []) (c := none) rfl KD ?_
   cases h
   exact ret_as (ms := [.nil 3 1, .ro]) rfl KD
def impl_IsRegular.f (k : Nat) (a0 : ByteArray) (a1 : Int) : Option (Bool) := (impl_ShapeOf.f k a0 a1).bind fun bt534 => (some bt534.2)
set_option maxRecDepth 100000 in
set_option maxHeartbeats 4000000 in
theorem impl_IsRegular.ctr (k : Nat) (a0 : ByteArray) (a1 : Int) (r : Bool) (h : impl_IsRegular.f k a0 a1 = some r) : Ctr TE 33 none [.v (.string a0), .v (.int .i64 a1)] [.ro (.v (.bool r))] [] := by
 refine ctr_of (fn := Tryd.f33) (c := (bodyOf Tryd.f33)) Tryd.func33 rfl (by kernel_rfl) (Nat.le_of_ble_eq_true (by kernel_rfl)) (fun w ro B hF _ => ?_)
 simp only [impl_IsRegular.f] at h
 obtain ⟨⟨t534, t535⟩, q1, h⟩ := Option.bind_eq_some_iff.1 h
 dsimp only at h
 have q1c := impl_ShapeOf.ctr k _ _ _ _ q1
 refine path_ok (k := 7) hF (RetQ_mild _ _ _ _ _ _ _ _) (ds := [.r [.own 3 1 (rX (cI .i64) t534), .ro (.v (.bool t535))] []]) (os := []) (c := none) rfl KD ?_
 cases h
 exact ret_as (ms := [.ro]) rfl KD
end Go.Proofs.YtoloblgjlnhioaaDoor.J
