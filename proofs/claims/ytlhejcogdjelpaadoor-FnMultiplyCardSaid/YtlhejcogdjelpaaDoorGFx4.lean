/- A part of the claim. -/
import Derived.Test.YtlhejcogdjelpaaDoorGFx0
import Derived.Test.YtlhejcogdjelpaaDoorGFx1
import Derived.Test.YtlhejcogdjelpaaDoorGFx2
import Derived.Test.YtlhejcogdjelpaaDoorGFx3
-- PRINTED by print.py (a twelfth state) out of the translation. Not trusted: Lean checks it.
namespace Go.Proofs.YtlhejcogdjelpaaDoor.G
open Go.RowKit Go.Proofs.YtlhejcogdjelpaaDoorW.St Go.Proofs.YtlhejcogdjelpaaDoorW.PrintWords Go.Proofs.YtlhejcogdjelpaaDoorW.PrintLast Go.Proofs.YtlhejcogdjelpaaDoorW.PrintMore
attribute [local go_sem] max2_int min2_int max_two min_two max_three min_three max_four min_four   -- for this text's walks alone
set_option linter.unusedVariables false
set_option linter.unusedSimpArgs false
mutual
def impl_MultiplyArrays.j0 : Nat → ByteArray → ByteArray → List Int → Bool → Option (ByteArray × Bool)
  | 0, _, _, _, _ => none
  | k + 1, x0, x1, x8, x46 => if x46 = true then (some ((⟨#[]⟩ : ByteArray), false)) else ((impl_rowsOf.f k x0).bind fun bt363 => ((impl_rowsOf.f k x1).bind fun bt367 => (impl_MultiplyArrays.l0 k x8 bt367.1 (([] : List (List Int))) bt363.1 (bt363.1.length : Int) 0)))
def impl_MultiplyArrays.l0 : Nat → List Int → List (List Int) → List (List Int) → List (List Int) → Int → Int → Option (ByteArray × Bool)
  | 0, _, _, _, _, _, _ => none
  | k + 1, x8, x12, x14, x58, x59, x60 => if x60 < x59 then (if 0 ≤ x60 then (if x60 < (x58.length : Int) then (if 1 < (x8.length : Int) then (impl_MultiplyArrays.l1 k x8 x12 x14 (rd_L3 x58 x60) (([] : List Int)) x58 x59 x60 (rd x8 1) 0) else (none)) else (none)) else (none)) else ((impl_rowed.f k x14).bind fun bt374 => (some (bt374.1, bt374.2)))
def impl_MultiplyArrays.l1 : Nat → List Int → List (List Int) → List (List Int) → List Int → List Int → List (List Int) → Int → Int → Int → Int → Option (ByteArray × Bool)
  | 0, _, _, _, _, _, _, _, _, _, _ => none
  | k + 1, x8, x12, x14, x16, x17, x58, x59, x60, x67, x68 => if x68 < x67 then (impl_MultiplyArrays.l2 k x8 x12 x14 x16 x17 x68 0 x58 x59 x60 x67 x68 x16 (x16.length : Int) 0) else (if x14.length < 5864062014805 then (impl_MultiplyArrays.l0 k x8 x12 (x14 ++ [x17]) x58 x59 (wrap64 (x60 + 1))) else (none))
def impl_MultiplyArrays.l2 : Nat → List Int → List (List Int) → List (List Int) → List Int → List Int → Int → Int → List (List Int) → Int → Int → Int → Int → List Int → Int → Int → Option (ByteArray × Bool)
  | 0, _, _, _, _, _, _, _, _, _, _, _, _, _, _, _ => none
  | k + 1, x8, x12, x14, x16, x17, x18, x19, x58, x59, x60, x67, x68, x71, x72, x73 => if x73 < x72 then (if 0 ≤ x73 then (if x73 < (x71.length : Int) then (if x73 < (x12.length : Int) then (if 0 ≤ x18 then (if x18 < ((rd_L3 x12 x73).length : Int) then (impl_MultiplyArrays.l2 k x8 x12 x14 x16 x17 x18 (Int.tmod (wrap64 (x19 + (wrap64 ((rd x71 x73) * (rd (rd_L3 x12 x73) x18))))) 10007) x58 x59 x60 x67 x68 x71 x72 (wrap64 (x73 + 1))) else (none)) else (none)) else (none)) else (none)) else (none)) else (if x17.length < 17592186044416 then (impl_MultiplyArrays.l1 k x8 x12 x14 x16 (x17 ++ [x19]) x58 x59 x60 x67 (wrap64 (x68 + 1))) else (none))
end
def impl_MultiplyArrays.f (k : Nat) (a0 : ByteArray) (a1 : ByteArray) : Option (ByteArray × Bool) := (impl_ShapeOf.f k a0 2).bind fun bt353 => ((impl_ShapeOf.f k a1 2).bind fun bt357 => (if bt353.2 = true then (if bt357.2 = true then (if 1 < (bt353.1.length : Int) then (if 0 < (bt357.1.length : Int) then (impl_MultiplyArrays.j0 k a0 a1 bt357.1 ((rd bt353.1 1) != (rd bt357.1 0))) else (none)) else (none)) else (impl_MultiplyArrays.j0 k a0 a1 bt357.1 true)) else (impl_MultiplyArrays.j0 k a0 a1 bt357.1 true)))
def impl_MultiplyArrays.I0 (r1 : ByteArray) (r2 : Bool) (m : Nat) (σ : St) : Prop := ∃ (x8 : List Int) (x12 : List (List Int)) (x14 : List (List Int)) (x58 : List (List Int)) (x59 : Int) (x60 : Int), impl_MultiplyArrays.l0 m x8 x12 x14 x58 x59 x60 = some (r1, r2) ∧ σ = ⟨[(8, .ow 1008 0), (12, .ow 1012 0), (14, .ow 1014 0), (58, .ow 1058 0), (59, .v (.int .i64 x59)), (60, .v (.int .i64 x60))], [(1008, .own 0 3 1 (rX (cI .i64) x8)), (1012, .own 0 25 1 (rX (cL (cI .i64) 1) x12)), (1014, .own 0 25 1 (rX (cL (cI .i64) 1) x14)), (1058, .own 0 25 1 (rX (cL (cI .i64) 1) x58))]⟩
def impl_MultiplyArrays.I1 (r1 : ByteArray) (r2 : Bool) (m : Nat) (σ : St) : Prop := ∃ (x8 : List Int) (x12 : List (List Int)) (x14 : List (List Int)) (x16 : List Int) (x17 : List Int) (x58 : List (List Int)) (x59 : Int) (x60 : Int) (x67 : Int) (x68 : Int), impl_MultiplyArrays.l1 m x8 x12 x14 x16 x17 x58 x59 x60 x67 x68 = some (r1, r2) ∧ σ = ⟨[(8, .ow 1008 0), (12, .ow 1012 0), (14, .ow 1014 0), (16, .sl 1 (rX (cI .i64) x16)), (17, .ow 1017 0), (58, .ow 1058 0), (59, .v (.int .i64 x59)), (60, .v (.int .i64 x60)), (67, .v (.int .i64 x67)), (68, .v (.int .i64 x68))], [(1008, .own 0 3 1 (rX (cI .i64) x8)), (1012, .own 0 25 1 (rX (cL (cI .i64) 1) x12)), (1014, .own 0 25 1 (rX (cL (cI .i64) 1) x14)), (1017, .own 0 3 1 (rX (cI .i64) x17)), (1058, .own 0 25 1 (rX (cL (cI .i64) 1) x58))]⟩
def impl_MultiplyArrays.I2 (r1 : ByteArray) (r2 : Bool) (m : Nat) (σ : St) : Prop := ∃ (x8 : List Int) (x12 : List (List Int)) (x14 : List (List Int)) (x16 : List Int) (x17 : List Int) (x18 : Int) (x19 : Int) (x58 : List (List Int)) (x59 : Int) (x60 : Int) (x67 : Int) (x68 : Int) (x71 : List Int) (x72 : Int) (x73 : Int), impl_MultiplyArrays.l2 m x8 x12 x14 x16 x17 x18 x19 x58 x59 x60 x67 x68 x71 x72 x73 = some (r1, r2) ∧ σ = ⟨[(8, .ow 1008 0), (12, .ow 1012 0), (14, .ow 1014 0), (16, .sl 1 (rX (cI .i64) x16)), (17, .ow 1017 0), (18, .v (.int .i64 x18)), (19, .v (.int .i64 x19)), (58, .ow 1058 0), (59, .v (.int .i64 x59)), (60, .v (.int .i64 x60)), (67, .v (.int .i64 x67)), (68, .v (.int .i64 x68)), (71, .sl 1 (rX (cI .i64) x71)), (72, .v (.int .i64 x72)), (73, .v (.int .i64 x73))], [(1008, .own 0 3 1 (rX (cI .i64) x8)), (1012, .own 0 25 1 (rX (cL (cI .i64) 1) x12)), (1014, .own 0 25 1 (rX (cL (cI .i64) 1) x14)), (1017, .own 0 3 1 (rX (cI .i64) x17)), (1058, .own 0 25 1 (rX (cL (cI .i64) 1) x58))]⟩
structure impl_MultiplyArrays.C (k : Nat) : Prop where
 s_j0 : ∀ (r1 : ByteArray) (r2 : Bool) (w : World) (ro : Nat → Prop) (B : Nat) (_ : Fr TE (cx0 Tryd.f17 none w ro B)) (x0 : ByteArray) (x1 : ByteArray) (x8 : List Int) (x46 : Bool) (_ : impl_MultiplyArrays.j0 k x0 x1 x8 x46 = some (r1, r2)), Kp (WS TE (cx0 Tryd.f17 none w ro B) (stkAt [1, 1, 1, 0, 0, 9] [] (bodyOf Tryd.f17) []) ⟨[(0, .v (.string x0)), (1, .v (.string x1)), (8, .ow 1008 0), (46, .v (.bool x46))], [(1008, .own 0 3 1 (rX (cI .i64) x8))]⟩ (RetQ TE Tryd.f17 none [.ro (.v (.string r1)), .ro (.v (.bool r2))] [] w ro B))
 s_l0 : ∀ (r1 : ByteArray) (r2 : Bool) (w : World) (ro : Nat → Prop) (B : Nat) (_ : Fr TE (cx0 Tryd.f17 none w ro B)) (x8 : List Int) (x12 : List (List Int)) (x14 : List (List Int)) (x58 : List (List Int)) (x59 : Int) (x60 : Int) (_ : impl_MultiplyArrays.l0 k x8 x12 x14 x58 x59 x60 = some (r1, r2)), Kp (WS TE (cx0 Tryd.f17 none w ro B) (stkAt [1, 1, 1, 1, 1, 1, 1, 0, 1, 0] [] (bodyOf Tryd.f17) []) ⟨[(8, .ow 1008 0), (12, .ow 1012 0), (14, .ow 1014 0), (58, .ow 1058 0), (59, .v (.int .i64 x59)), (60, .v (.int .i64 x60))], [(1008, .own 0 3 1 (rX (cI .i64) x8)), (1012, .own 0 25 1 (rX (cL (cI .i64) 1) x12)), (1014, .own 0 25 1 (rX (cL (cI .i64) 1) x14)), (1058, .own 0 25 1 (rX (cL (cI .i64) 1) x58))]⟩ (RetQ TE Tryd.f17 none [.ro (.v (.string r1)), .ro (.v (.bool r2))] [] w ro B))
 s_l1 : ∀ (r1 : ByteArray) (r2 : Bool) (w : World) (ro : Nat → Prop) (B : Nat) (_ : Fr TE (cx0 Tryd.f17 none w ro B)) (J0 : St → Prop) (_ : ∀ m σ, m ≤ k → impl_MultiplyArrays.I0 r1 r2 m σ → J0 σ) (x8 : List Int) (x12 : List (List Int)) (x14 : List (List Int)) (x16 : List Int) (x17 : List Int) (x58 : List (List Int)) (x59 : Int) (x60 : Int) (x67 : Int) (x68 : Int) (_ : impl_MultiplyArrays.l1 k x8 x12 x14 x16 x17 x58 x59 x60 x67 x68 = some (r1, r2)), Kp (WS TE (cx0 Tryd.f17 none w ro B) (stkAt [1, 1, 1, 1, 1, 1, 1, 0, 1, 0, 0, 1, 1, 0, 0, 1, 1, 0, 1, 0] [J0] (bodyOf Tryd.f17) []) ⟨[(8, .ow 1008 0), (12, .ow 1012 0), (14, .ow 1014 0), (16, .sl 1 (rX (cI .i64) x16)), (17, .ow 1017 0), (58, .ow 1058 0), (59, .v (.int .i64 x59)), (60, .v (.int .i64 x60)), (67, .v (.int .i64 x67)), (68, .v (.int .i64 x68))], [(1008, .own 0 3 1 (rX (cI .i64) x8)), (1012, .own 0 25 1 (rX (cL (cI .i64) 1) x12)), (1014, .own 0 25 1 (rX (cL (cI .i64) 1) x14)), (1017, .own 0 3 1 (rX (cI .i64) x17)), (1058, .own 0 25 1 (rX (cL (cI .i64) 1) x58))]⟩ (RetQ TE Tryd.f17 none [.ro (.v (.string r1)), .ro (.v (.bool r2))] [] w ro B))
 s_l2 : ∀ (r1 : ByteArray) (r2 : Bool) (w : World) (ro : Nat → Prop) (B : Nat) (_ : Fr TE (cx0 Tryd.f17 none w ro B)) (J0 : St → Prop) (_ : ∀ m σ, m ≤ k → impl_MultiplyArrays.I0 r1 r2 m σ → J0 σ) (J1 : St → Prop) (_ : ∀ m σ, m ≤ k → impl_MultiplyArrays.I1 r1 r2 m σ → J1 σ) (x8 : List Int) (x12 : List (List Int)) (x14 : List (List Int)) (x16 : List Int) (x17 : List Int) (x18 : Int) (x19 : Int) (x58 : List (List Int)) (x59 : Int) (x60 : Int) (x67 : Int) (x68 : Int) (x71 : List Int) (x72 : Int) (x73 : Int) (_ : impl_MultiplyArrays.l2 k x8 x12 x14 x16 x17 x18 x19 x58 x59 x60 x67 x68 x71 x72 x73 = some (r1, r2)), Kp (WS TE (cx0 Tryd.f17 none w ro B) (stkAt [1, 1, 1, 1, 1, 1, 1, 0, 1, 0, 0, 1, 1, 0, 0, 1, 1, 0, 1, 0, 0, 1, 1, 0, 0, 1, 1, 0, 1, 0] [J0, J1] (bodyOf Tryd.f17) []) ⟨[(8, .ow 1008 0), (12, .ow 1012 0), (14, .ow 1014 0), (16, .sl 1 (rX (cI .i64) x16)), (17, .ow 1017 0), (18, .v (.int .i64 x18)), (19, .v (.int .i64 x19)), (58, .ow 1058 0), (59, .v (.int .i64 x59)), (60, .v (.int .i64 x60)), (67, .v (.int .i64 x67)), (68, .v (.int .i64 x68)), (71, .sl 1 (rX (cI .i64) x71)), (72, .v (.int .i64 x72)), (73, .v (.int .i64 x73))], [(1008, .own 0 3 1 (rX (cI .i64) x8)), (1012, .own 0 25 1 (rX (cL (cI .i64) 1) x12)), (1014, .own 0 25 1 (rX (cL (cI .i64) 1) x14)), (1017, .own 0 3 1 (rX (cI .i64) x17)), (1058, .own 0 25 1 (rX (cL (cI .i64) 1) x58))]⟩ (RetQ TE Tryd.f17 none [.ro (.v (.string r1)), .ro (.v (.bool r2))] [] w ro B))
set_option maxRecDepth 100000 in
set_option maxHeartbeats 4000000 in
theorem impl_MultiplyArrays.c_j0 (k : Nat) (ih : Kp (∀ m, m < k → impl_MultiplyArrays.C m)) (r1 : ByteArray) (r2 : Bool) (w : World) (ro : Nat → Prop) (B : Nat) (hF : Fr TE (cx0 Tryd.f17 none w ro B)) (x0 : ByteArray) (x1 : ByteArray) (x8 : List Int) (x46 : Bool) (h : impl_MultiplyArrays.j0 k x0 x1 x8 x46 = some (r1, r2)) : Kp (WS TE (cx0 Tryd.f17 none w ro B) (stkAt [1, 1, 1, 0, 0, 9] [] (bodyOf Tryd.f17) []) ⟨[(0, .v (.string x0)), (1, .v (.string x1)), (8, .ow 1008 0), (46, .v (.bool x46))], [(1008, .own 0 3 1 (rX (cI .i64) x8))]⟩ (RetQ TE Tryd.f17 none [.ro (.v (.string r1)), .ro (.v (.bool r2))] [] w ro B)) := by
 refine ⟨?_⟩
 cases k with
 | zero => simp [impl_MultiplyArrays.j0] at h
 | succ k =>
 simp only [impl_MultiplyArrays.j0] at h
 by_cases c7 : x46 = true
 · rw [if_pos c7] at h
   refine path_ok (k := 4) hF (RetQ_mild _ _ _ _ _ _ _ _) (ds := [.b true]) (os := []) (c := none) rfl KD ?_
   cases h
   exact ret_as (ms := [.ro, .ro]) rfl KD
 · rw [if_neg c7] at h
   obtain ⟨⟨t363, t364⟩, q8, h⟩ := Option.bind_eq_some_iff.1 h
   dsimp only at h
   have q8c := impl_rowsOf.ctr k _ _ _ q8
   obtain ⟨⟨t367, t368⟩, q9, h⟩ := Option.bind_eq_some_iff.1 h
   dsimp only at h
   have q9c := impl_rowsOf.ctr k _ _ _ q9
   refine path_ok (k := 12) hF (RetQ_mild _ _ _ _ _ _ _ _) (ds := [.b false, .r [.own 25 1 (rX (cL (cI .i64) 1) t363), .ro (.v (.bool t364))] [], .r [.own 25 1 (rX (cL (cI .i64) 1) t367), .ro (.v (.bool t368))] [], .p 57 ([]), .e 59 (.v (.int .i64 (t363.length : Int)))]) (os := []) (c := none) rfl KD ?_
   exact WS.can [(1008, some 1008), (1012, some 100864), (1014, some 57), (1058, some 100784)] (((ih.out k (by omega)).s_l0  r1 r2 w ro B hF x8 t367 (([] : List (List Int))) t363 (t363.length : Int) 0 h).out) KD
set_option maxRecDepth 100000 in
set_option maxHeartbeats 4000000 in
theorem impl_MultiplyArrays.c_l0 (k : Nat) (ih : Kp (∀ m, m < k → impl_MultiplyArrays.C m)) (r1 : ByteArray) (r2 : Bool) (w : World) (ro : Nat → Prop) (B : Nat) (hF : Fr TE (cx0 Tryd.f17 none w ro B)) (x8 : List Int) (x12 : List (List Int)) (x14 : List (List Int)) (x58 : List (List Int)) (x59 : Int) (x60 : Int) (h : impl_MultiplyArrays.l0 k x8 x12 x14 x58 x59 x60 = some (r1, r2)) : Kp (WS TE (cx0 Tryd.f17 none w ro B) (stkAt [1, 1, 1, 1, 1, 1, 1, 0, 1, 0] [] (bodyOf Tryd.f17) []) ⟨[(8, .ow 1008 0), (12, .ow 1012 0), (14, .ow 1014 0), (58, .ow 1058 0), (59, .v (.int .i64 x59)), (60, .v (.int .i64 x60))], [(1008, .own 0 3 1 (rX (cI .i64) x8)), (1012, .own 0 25 1 (rX (cL (cI .i64) 1) x12)), (1014, .own 0 25 1 (rX (cL (cI .i64) 1) x14)), (1058, .own 0 25 1 (rX (cL (cI .i64) 1) x58))]⟩ (RetQ TE Tryd.f17 none [.ro (.v (.string r1)), .ro (.v (.bool r2))] [] w ro B)) := by
 refine ⟨WS.loop (fun m σ => m ≤ k ∧ impl_MultiplyArrays.I0 r1 r2 m σ) k ⟨Nat.le_refl k, x8, x12, x14, x58, x59, x60, h, rfl⟩ (fun m σ' hI J0 hJ0 => ?_)⟩
 clear h
 obtain ⟨hk, x8, x12, x14, x58, x59, x60, h, rfl⟩ := hI
 cases m with
 | zero => simp [impl_MultiplyArrays.l0] at h
 | succ k' =>
 simp only [impl_MultiplyArrays.l0] at h
 by_cases c10 : x60 < x59
 · rw [if_pos c10] at h
   by_cases c11 : 0 ≤ x60
   · rw [if_pos c11] at h
     by_cases c12 : x60 < (x58.length : Int)
     · rw [if_pos c12] at h
       by_cases c13 : 1 < (x8.length : Int)
       · rw [if_pos c13] at h
         refine path_ok (k := 15) hF (RetQ_mild _ _ _ _ _ _ _ _) (ds := [.b true, .g [.sl 1 (rX (cI .i64) (rd_L3 x58 x60))], .p 64 ([]), .g [.v (.int .i64 (rd x8 1))]]) (os := []) (c := none) rfl KD ?_
         exact WS.can [(1008, some 1008), (1012, some 1012), (1014, some 1014), (1017, some 64), (1058, some 1058)] (((ih.out k' (by omega)).s_l1  r1 r2 w ro B hF J0 (fun m σ hm hI => hJ0 m σ (by omega) ⟨by omega, hI⟩) x8 x12 x14 (rd_L3 x58 x60) (([] : List Int)) x58 x59 x60 (rd x8 1) 0 h).out) KD
       · rw [if_neg c13] at h
         cases h
     · rw [if_neg c12] at h
       cases h
   · rw [if_neg c11] at h
     cases h
 · rw [if_neg c10] at h
   obtain ⟨⟨t374, t375⟩, q14, h⟩ := Option.bind_eq_some_iff.1 h
   dsimp only at h
   have q14c := impl_rowed.ctr k' _ _ _ q14
   refine path_ok (k := 8) hF (RetQ_mild _ _ _ _ _ _ _ _) (ds := [.b false, .r [.ro (.v (.string t374)), .ro (.v (.bool t375))] []]) (os := []) (c := none) rfl KD ?_
   cases h
   exact ret_as (ms := [.ro, .ro]) rfl KD
set_option maxRecDepth 100000 in
set_option maxHeartbeats 4000000 in
theorem impl_MultiplyArrays.c_l1 (k : Nat) (ih : Kp (∀ m, m < k → impl_MultiplyArrays.C m)) (r1 : ByteArray) (r2 : Bool) (w : World) (ro : Nat → Prop) (B : Nat) (hF : Fr TE (cx0 Tryd.f17 none w ro B)) (J0 : St → Prop) (hJ0 : ∀ m σ, m ≤ k → impl_MultiplyArrays.I0 r1 r2 m σ → J0 σ) (x8 : List Int) (x12 : List (List Int)) (x14 : List (List Int)) (x16 : List Int) (x17 : List Int) (x58 : List (List Int)) (x59 : Int) (x60 : Int) (x67 : Int) (x68 : Int) (h : impl_MultiplyArrays.l1 k x8 x12 x14 x16 x17 x58 x59 x60 x67 x68 = some (r1, r2)) : Kp (WS TE (cx0 Tryd.f17 none w ro B) (stkAt [1, 1, 1, 1, 1, 1, 1, 0, 1, 0, 0, 1, 1, 0, 0, 1, 1, 0, 1, 0] [J0] (bodyOf Tryd.f17) []) ⟨[(8, .ow 1008 0), (12, .ow 1012 0), (14, .ow 1014 0), (16, .sl 1 (rX (cI .i64) x16)), (17, .ow 1017 0), (58, .ow 1058 0), (59, .v (.int .i64 x59)), (60, .v (.int .i64 x60)), (67, .v (.int .i64 x67)), (68, .v (.int .i64 x68))], [(1008, .own 0 3 1 (rX (cI .i64) x8)), (1012, .own 0 25 1 (rX (cL (cI .i64) 1) x12)), (1014, .own 0 25 1 (rX (cL (cI .i64) 1) x14)), (1017, .own 0 3 1 (rX (cI .i64) x17)), (1058, .own 0 25 1 (rX (cL (cI .i64) 1) x58))]⟩ (RetQ TE Tryd.f17 none [.ro (.v (.string r1)), .ro (.v (.bool r2))] [] w ro B)) := by
 refine ⟨WS.loop (fun m σ => m ≤ k ∧ impl_MultiplyArrays.I1 r1 r2 m σ) k ⟨Nat.le_refl k, x8, x12, x14, x16, x17, x58, x59, x60, x67, x68, h, rfl⟩ (fun m σ' hI J1 hJ1 => ?_)⟩
 clear h
 obtain ⟨hk, x8, x12, x14, x16, x17, x58, x59, x60, x67, x68, h, rfl⟩ := hI
 cases m with
 | zero => simp [impl_MultiplyArrays.l1] at h
 | succ k' =>
 simp only [impl_MultiplyArrays.l1] at h
 by_cases c15 : x68 < x67
 · rw [if_pos c15] at h
   refine path_ok (k := 15) hF (RetQ_mild _ _ _ _ _ _ _ _) (ds := [.b true, .e 72 (.v (.int .i64 (x16.length : Int)))]) (os := []) (c := none) rfl KD ?_
   exact WS.can [(1008, some 1008), (1012, some 1012), (1014, some 1014), (1017, some 1017), (1058, some 1058)] (((ih.out k' (by omega)).s_l2  r1 r2 w ro B hF J0 (fun m σ hm hI => hJ0 m σ (by omega) hI) J1 (fun m σ hm hI => hJ1 m σ (by omega) ⟨by omega, hI⟩) x8 x12 x14 x16 x17 x68 0 x58 x59 x60 x67 x68 x16 (x16.length : Int) 0 h).out) KD
 · rw [if_neg c15] at h
   by_cases c16 : x14.length < 5864062014805
   · rw [if_pos c16] at h
     refine path_ok (k := 8) hF (RetQ_mild _ _ _ _ _ _ _ _) (ds := [.b false, .p 98 ([[.sl 1 (rX (cI .i64) x17)]]), .o 99 (rX (cL (cI .i64) 1) (x14 ++ [x17]))]) (os := []) (c := none) rfl KD ?_
     exact WS.lpc [(1008, some 1008), (1012, some 1012), (1014, some 1014), (1058, some 1058)] (hJ0 _ _ (by omega) ⟨x8, x12, (x14 ++ [x17]), x58, x59, (wrap64 (x60 + 1)), h, rfl⟩) KD
   · rw [if_neg c16] at h
     cases h
set_option maxRecDepth 100000 in
set_option maxHeartbeats 4000000 in
theorem impl_MultiplyArrays.c_l2 (k : Nat) (ih : Kp (∀ m, m < k → impl_MultiplyArrays.C m)) (r1 : ByteArray) (r2 : Bool) (w : World) (ro : Nat → Prop) (B : Nat) (hF : Fr TE (cx0 Tryd.f17 none w ro B)) (J0 : St → Prop) (hJ0 : ∀ m σ, m ≤ k → impl_MultiplyArrays.I0 r1 r2 m σ → J0 σ) (J1 : St → Prop) (hJ1 : ∀ m σ, m ≤ k → impl_MultiplyArrays.I1 r1 r2 m σ → J1 σ) (x8 : List Int) (x12 : List (List Int)) (x14 : List (List Int)) (x16 : List Int) (x17 : List Int) (x18 : Int) (x19 : Int) (x58 : List (List Int)) (x59 : Int) (x60 : Int) (x67 : Int) (x68 : Int) (x71 : List Int) (x72 : Int) (x73 : Int) (h : impl_MultiplyArrays.l2 k x8 x12 x14 x16 x17 x18 x19 x58 x59 x60 x67 x68 x71 x72 x73 = some (r1, r2)) : Kp (WS TE (cx0 Tryd.f17 none w ro B) (stkAt [1, 1, 1, 1, 1, 1, 1, 0, 1, 0, 0, 1, 1, 0, 0, 1, 1, 0, 1, 0, 0, 1, 1, 0, 0, 1, 1, 0, 1, 0] [J0, J1] (bodyOf Tryd.f17) []) ⟨[(8, .ow 1008 0), (12, .ow 1012 0), (14, .ow 1014 0), (16, .sl 1 (rX (cI .i64) x16)), (17, .ow 1017 0), (18, .v (.int .i64 x18)), (19, .v (.int .i64 x19)), (58, .ow 1058 0), (59, .v (.int .i64 x59)), (60, .v (.int .i64 x60)), (67, .v (.int .i64 x67)), (68, .v (.int .i64 x68)), (71, .sl 1 (rX (cI .i64) x71)), (72, .v (.int .i64 x72)), (73, .v (.int .i64 x73))], [(1008, .own 0 3 1 (rX (cI .i64) x8)), (1012, .own 0 25 1 (rX (cL (cI .i64) 1) x12)), (1014, .own 0 25 1 (rX (cL (cI .i64) 1) x14)), (1017, .own 0 3 1 (rX (cI .i64) x17)), (1058, .own 0 25 1 (rX (cL (cI .i64) 1) x58))]⟩ (RetQ TE Tryd.f17 none [.ro (.v (.string r1)), .ro (.v (.bool r2))] [] w ro B)) := by
 refine ⟨WS.loop (fun m σ => m ≤ k ∧ impl_MultiplyArrays.I2 r1 r2 m σ) k ⟨Nat.le_refl k, x8, x12, x14, x16, x17, x18, x19, x58, x59, x60, x67, x68, x71, x72, x73, h, rfl⟩ (fun m σ' hI J2 hJ2 => ?_)⟩
 clear h
 obtain ⟨hk, x8, x12, x14, x16, x17, x18, x19, x58, x59, x60, x67, x68, x71, x72, x73, h, rfl⟩ := hI
 cases m with
 | zero => simp [impl_MultiplyArrays.l2] at h
 | succ k' =>
 simp only [impl_MultiplyArrays.l2] at h
 by_cases c17 : x73 < x72
 · rw [if_pos c17] at h
   by_cases c18 : 0 ≤ x73
   · rw [if_pos c18] at h
     by_cases c19 : x73 < (x71.length : Int)
     · rw [if_pos c19] at h
       by_cases c20 : x73 < (x12.length : Int)
       · rw [if_pos c20] at h
         by_cases c21 : 0 ≤ x18
         · rw [if_pos c21] at h
           by_cases c22 : x18 < ((rd_L3 x12 x73).length : Int)
           · rw [if_pos c22] at h
             refine path_ok (k := 12) hF (RetQ_mild _ _ _ _ _ _ _ _) (ds := [.b true, .e 76 (.rf [.v (.int .i64 (rd x71 x73))]), .g [.sl 1 (rX (cI .i64) (rd_L3 x12 x73))], .e 85 (.rf [.v (.int .i64 (rd (rd_L3 x12 x73) x18))]), .e 89 (.v (.int .i64 (Int.tmod (wrap64 (x19 + (wrap64 ((rd x71 x73) * (rd (rd_L3 x12 x73) x18))))) 10007)))]) (os := []) (c := none) rfl KD ?_
             exact WS.lpc [(1008, some 1008), (1012, some 1012), (1014, some 1014), (1017, some 1017), (1058, some 1058)] (hJ2 _ _ (Nat.lt_succ_self _) ⟨by omega, x8, x12, x14, x16, x17, x18, (Int.tmod (wrap64 (x19 + (wrap64 ((rd x71 x73) * (rd (rd_L3 x12 x73) x18))))) 10007), x58, x59, x60, x67, x68, x71, x72, (wrap64 (x73 + 1)), h, rfl⟩) KD
           · rw [if_neg c22] at h
             cases h
         · rw [if_neg c21] at h
           cases h
       · rw [if_neg c20] at h
         cases h
     · rw [if_neg c19] at h
       cases h
   · rw [if_neg c18] at h
     cases h
 · rw [if_neg c17] at h
   by_cases c23 : x17.length < 17592186044416
   · rw [if_pos c23] at h
     refine path_ok (k := 8) hF (RetQ_mild _ _ _ _ _ _ _ _) (ds := [.b false, .p 93 ([[.v (.int .i64 x19)]]), .o 94 (rX (cI .i64) (x17 ++ [x19]))]) (os := []) (c := none) rfl KD ?_
     exact WS.lpc [(1008, some 1008), (1012, some 1012), (1014, some 1014), (1017, some 1017), (1058, some 1058)] (hJ1 _ _ (by omega) ⟨x8, x12, x14, x16, (x17 ++ [x19]), x58, x59, x60, x67, (wrap64 (x68 + 1)), h, rfl⟩) KD
   · rw [if_neg c23] at h
     cases h
theorem impl_MultiplyArrays.cs (k : Nat) : impl_MultiplyArrays.C k := by
 induction k using Nat.strongRecOn with
 | _ k ih0 =>
 have ih : Kp (∀ m, m < k → impl_MultiplyArrays.C m) := ⟨ih0⟩
 exact ⟨impl_MultiplyArrays.c_j0 k ih, impl_MultiplyArrays.c_l0 k ih, impl_MultiplyArrays.c_l1 k ih, impl_MultiplyArrays.c_l2 k ih⟩
set_option maxRecDepth 100000 in
set_option maxHeartbeats 4000000 in
theorem impl_MultiplyArrays.ctr (k : Nat) (a0 : ByteArray) (a1 : ByteArray) (r1 : ByteArray) (r2 : Bool) (h : impl_MultiplyArrays.f k a0 a1 = some (r1, r2)) : Ctr TE 17 none [.v (.string a0), .v (.string a1)] [.ro (.v (.string r1)), .ro (.v (.bool r2))] [] := by
 refine ctr_of (fn := Tryd.f17) (c := (bodyOf Tryd.f17)) Tryd.func17 rfl (by kernel_rfl) (Nat.le_of_ble_eq_true (by kernel_rfl)) (fun w ro B hF _ => ?_)
 have ih : Kp (∀ m, m < k + 1 → impl_MultiplyArrays.C m) := ⟨fun m _ => impl_MultiplyArrays.cs m⟩
 simp only [impl_MultiplyArrays.f] at h
 obtain ⟨⟨t353, t354⟩, q1, h⟩ := Option.bind_eq_some_iff.1 h
 dsimp only at h
 have q1c := impl_ShapeOf.ctr k _ _ _ _ q1
 obtain ⟨⟨t357, t358⟩, q2, h⟩ := Option.bind_eq_some_iff.1 h
 dsimp only at h
 have q2c := impl_ShapeOf.ctr k _ _ _ _ q2
 by_cases c3 : t354 = true
 · rw [if_pos c3] at h
   by_cases c4 : t358 = true
   · rw [if_pos c4] at h
     by_cases c5 : 1 < (t353.length : Int)
     · rw [if_pos c5] at h
       by_cases c6 : 0 < (t357.length : Int)
       · rw [if_pos c6] at h
         refine path_ok (k := 9) hF (RetQ_mild _ _ _ _ _ _ _ _) (ds := [.r [.own 3 1 (rX (cI .i64) t353), .ro (.v (.bool t354))] [], .r [.own 3 1 (rX (cI .i64) t357), .ro (.v (.bool t358))] [], .b false, .b false, .b false, .b false, .b false, .b false, .g [.v (.int .i64 (rd t353 1))], .b false, .b false, .b false, .g [.v (.int .i64 (rd t357 0))], .b false, .b false]) (os := [.o [(0, 0), (1, 0), (2, 0), (3, 0), (4, 0), (5, 0), (6, 0), (7, 0), (8, 0), (9, 1), (10, 0), (11, 0), (12, 1), (13, 0), (14, 0)] []]) (c := none) rfl KD ?_
         exact WS.can [(1008, some 100464)] (((ih.out k (by omega)).s_j0  r1 r2 w ro B hF a0 a1 t357 ((rd t353 1) != (rd t357 0)) h).out) KD
       · rw [if_neg c6] at h
         cases h
     · rw [if_neg c5] at h
       cases h
   · rw [if_neg c4] at h
     refine path_ok (k := 9) hF (RetQ_mild _ _ _ _ _ _ _ _) (ds := [.r [.own 3 1 (rX (cI .i64) t353), .ro (.v (.bool t354))] [], .r [.own 3 1 (rX (cI .i64) t357), .ro (.v (.bool t358))] [], .b false, .b false, .b false, .b true, .b true, .b true, .b true, .b true, .b true, .b true, .b true]) (os := [.o [(0, 0), (1, 0), (2, 0), (3, 0), (4, 0), (5, 0), (6, 0), (7, 0), (8, 0), (9, 1), (10, 0), (11, 0), (12, 1), (13, 0), (14, 0)] []]) (c := none) rfl KD ?_
     exact WS.can [(1008, some 100464)] (((ih.out k (by omega)).s_j0  r1 r2 w ro B hF a0 a1 t357 true h).out) KD
 · rw [if_neg c3] at h
   refine path_ok (k := 9) hF (RetQ_mild _ _ _ _ _ _ _ _) (ds := [.r [.own 3 1 (rX (cI .i64) t353), .ro (.v (.bool t354))] [], .r [.own 3 1 (rX (cI .i64) t357), .ro (.v (.bool t358))] [], .b true, .b true, .b true, .b true, .b true, .b true, .b true, .b true, .b true, .b true, .b true]) (os := [.o [(0, 0), (1, 0), (2, 0), (3, 0), (4, 0), (5, 0), (6, 0), (7, 0), (8, 0), (9, 1), (10, 0), (11, 0), (12, 1), (13, 0), (14, 0)] []]) (c := none) rfl KD ?_
   exact WS.can [(1008, some 100464)] (((ih.out k (by omega)).s_j0  r1 r2 w ro B hF a0 a1 t357 true h).out) KD
mutual
def spec_l13Num.j0 : Nat → ByteArray → Bool → Option (Int × Bool)
  | 0, _, _ => none
  | k + 1, x0, x4 => if x4 = true then (if 1 ≤ (x0.size : Int) then (spec_l13Num.j1 k (x0.extract 1 x0.size) x4) else (none)) else (spec_l13Num.j1 k x0 x4)
def spec_l13Num.j1 : Nat → ByteArray → Bool → Option (Int × Bool)
  | 0, _, _ => none
  | k + 1, x0, x4 => if (x0.size : Int) = 0 then (spec_l13Num.j2 k x0 x4 true) else (if (x0.size : Int) > 17 then (spec_l13Num.j2 k x0 x4 true) else (if 0 < (x0.size : Int) then (if (bt x0 0) = 48 then (if (x0.size : Int) > 1 then (spec_l13Num.j2 k x0 x4 true) else (spec_l13Num.j2 k x0 x4 x4)) else (spec_l13Num.j2 k x0 x4 false)) else (none)))
def spec_l13Num.j2 : Nat → ByteArray → Bool → Bool → Option (Int × Bool)
  | 0, _, _, _ => none
  | k + 1, x0, x4, x38 => if x38 = true then (some (0, false)) else (spec_l13Num.l0 k x0 x4 0 0)
def spec_l13Num.l0 : Nat → ByteArray → Bool → Int → Int → Option (Int × Bool)
  | 0, _, _, _, _ => none
  | k + 1, x0, x4, x5, x6 => if x6 < (x0.size : Int) then (if 0 ≤ x6 then (if (bt x0 x6) < 48 then (some (0, false)) else (if (bt x0 x6) > 57 then (some (0, false)) else (spec_l13Num.l0 k x0 x4 (wrap64 ((wrap64 (x5 * 10)) + (((bt x0 x6) - 48) % 256))) (wrap64 (x6 + 1))))) else (none)) else (if x4 = true then (some (wrap64 (-x5), true)) else (some (x5, true)))
end
def spec_l13Num.f (k : Nat) (a0 : ByteArray) : Option (Int × Bool) := if (a0.size : Int) > 0 then (if 0 < (a0.size : Int) then (spec_l13Num.j0 k a0 ((bt a0 0) == 45)) else (none)) else (spec_l13Num.j0 k a0 false)
def spec_l13Num.I0 (r1 : Int) (r2 : Bool) (m : Nat) (σ : St) : Prop := ∃ (x0 : ByteArray) (x4 : Bool) (x5 : Int) (x6 : Int), spec_l13Num.l0 m x0 x4 x5 x6 = some (r1, r2) ∧ σ = ⟨[(0, .v (.string x0)), (4, .v (.bool x4)), (5, .v (.int .i64 x5)), (6, .v (.int .i64 x6))], []⟩
structure spec_l13Num.C (k : Nat) : Prop where
 s_j0 : ∀ (r1 : Int) (r2 : Bool) (w : World) (ro : Nat → Prop) (B : Nat) (_ : Fr TE (cx0 Tryd.f92 none w ro B)) (x0 : ByteArray) (x4 : Bool) (_ : spec_l13Num.j0 k x0 x4 = some (r1, r2)), Kp (WS TE (cx0 Tryd.f92 none w ro B) (stkAt [1, 0, 9] [] (bodyOf Tryd.f92) []) ⟨[(0, .v (.string x0)), (4, .v (.bool x4))], []⟩ (RetQ TE Tryd.f92 none [.ro (.v (.int .i64 r1)), .ro (.v (.bool r2))] [] w ro B))
 s_j1 : ∀ (r1 : Int) (r2 : Bool) (w : World) (ro : Nat → Prop) (B : Nat) (_ : Fr TE (cx0 Tryd.f92 none w ro B)) (x0 : ByteArray) (x4 : Bool) (_ : spec_l13Num.j1 k x0 x4 = some (r1, r2)), Kp (WS TE (cx0 Tryd.f92 none w ro B) (stkAt [1, 1, 0, 1, 9] [] (bodyOf Tryd.f92) []) ⟨[(0, .v (.string x0)), (4, .v (.bool x4))], []⟩ (RetQ TE Tryd.f92 none [.ro (.v (.int .i64 r1)), .ro (.v (.bool r2))] [] w ro B))
 s_j2 : ∀ (r1 : Int) (r2 : Bool) (w : World) (ro : Nat → Prop) (B : Nat) (_ : Fr TE (cx0 Tryd.f92 none w ro B)) (x0 : ByteArray) (x4 : Bool) (x38 : Bool) (_ : spec_l13Num.j2 k x0 x4 x38 = some (r1, r2)), Kp (WS TE (cx0 Tryd.f92 none w ro B) (stkAt [1, 1, 1, 0, 0, 9] [] (bodyOf Tryd.f92) []) ⟨[(0, .v (.string x0)), (4, .v (.bool x4)), (38, .v (.bool x38))], []⟩ (RetQ TE Tryd.f92 none [.ro (.v (.int .i64 r1)), .ro (.v (.bool r2))] [] w ro B))
 s_l0 : ∀ (r1 : Int) (r2 : Bool) (w : World) (ro : Nat → Prop) (B : Nat) (_ : Fr TE (cx0 Tryd.f92 none w ro B)) (x0 : ByteArray) (x4 : Bool) (x5 : Int) (x6 : Int) (_ : spec_l13Num.l0 k x0 x4 x5 x6 = some (r1, r2)), Kp (WS TE (cx0 Tryd.f92 none w ro B) (stkAt [1, 1, 1, 1, 1, 0, 1, 0] [] (bodyOf Tryd.f92) []) ⟨[(0, .v (.string x0)), (4, .v (.bool x4)), (5, .v (.int .i64 x5)), (6, .v (.int .i64 x6))], []⟩ (RetQ TE Tryd.f92 none [.ro (.v (.int .i64 r1)), .ro (.v (.bool r2))] [] w ro B))
set_option maxRecDepth 100000 in
set_option maxHeartbeats 4000000 in
theorem spec_l13Num.c_j0 (k : Nat) (ih : Kp (∀ m, m < k → spec_l13Num.C m)) (r1 : Int) (r2 : Bool) (w : World) (ro : Nat → Prop) (B : Nat) (hF : Fr TE (cx0 Tryd.f92 none w ro B)) (x0 : ByteArray) (x4 : Bool) (h : spec_l13Num.j0 k x0 x4 = some (r1, r2)) : Kp (WS TE (cx0 Tryd.f92 none w ro B) (stkAt [1, 0, 9] [] (bodyOf Tryd.f92) []) ⟨[(0, .v (.string x0)), (4, .v (.bool x4))], []⟩ (RetQ TE Tryd.f92 none [.ro (.v (.int .i64 r1)), .ro (.v (.bool r2))] [] w ro B)) := by
 refine ⟨?_⟩
 cases k with
 | zero => simp [spec_l13Num.j0] at h
 | succ k =>
 simp only [spec_l13Num.j0] at h
 by_cases c4 : x4 = true
 · rw [if_pos c4] at h
   by_cases c5 : 1 ≤ (x0.size : Int)
   · rw [if_pos c5] at h
     refine path_ok (k := 5) hF (RetQ_mild _ _ _ _ _ _ _ _) (ds := [.b true]) (os := []) (c := none) rfl KD ?_
     exact WS.can [] (((ih.out k (by omega)).s_j1  r1 r2 w ro B hF (x0.extract 1 x0.size) x4 h).out) KD
   · rw [if_neg c5] at h
     cases h
 · rw [if_neg c4] at h
   refine path_ok (k := 5) hF (RetQ_mild _ _ _ _ _ _ _ _) (ds := [.b false]) (os := []) (c := none) rfl KD ?_
   exact WS.can [] (((ih.out k (by omega)).s_j1  r1 r2 w ro B hF x0 x4 h).out) KD
set_option maxRecDepth 100000 in
set_option maxHeartbeats 4000000 in
theorem spec_l13Num.c_j1 (k : Nat) (ih : Kp (∀ m, m < k → spec_l13Num.C m)) (r1 : Int) (r2 : Bool) (w : World) (ro : Nat → Prop) (B : Nat) (hF : Fr TE (cx0 Tryd.f92 none w ro B)) (x0 : ByteArray) (x4 : Bool) (h : spec_l13Num.j1 k x0 x4 = some (r1, r2)) : Kp (WS TE (cx0 Tryd.f92 none w ro B) (stkAt [1, 1, 0, 1, 9] [] (bodyOf Tryd.f92) []) ⟨[(0, .v (.string x0)), (4, .v (.bool x4))], []⟩ (RetQ TE Tryd.f92 none [.ro (.v (.int .i64 r1)), .ro (.v (.bool r2))] [] w ro B)) := by
 refine ⟨?_⟩
 cases k with
 | zero => simp [spec_l13Num.j1] at h
 | succ k =>
 simp only [spec_l13Num.j1] at h
 by_cases c6 : (x0.size : Int) = 0
 · rw [if_pos c6] at h
   refine path_ok (k := 3) hF (RetQ_mild _ _ _ _ _ _ _ _) (ds := [.b true, .b true, .b true, .b true, .b true, .b true, .b true, .b true, .b true, .b true]) (os := []) (c := none) rfl KD ?_
   exact WS.can [] (((ih.out k (by omega)).s_j2  r1 r2 w ro B hF x0 x4 true h).out) KD
 · rw [if_neg c6] at h
   by_cases c7 : (x0.size : Int) > 17
   · rw [if_pos c7] at h
     refine path_ok (k := 3) hF (RetQ_mild _ _ _ _ _ _ _ _) (ds := [.b false, .b false, .b false, .b false, .b true, .b true, .b true, .b true, .b true, .b true]) (os := []) (c := none) rfl KD ?_
     exact WS.can [] (((ih.out k (by omega)).s_j2  r1 r2 w ro B hF x0 x4 true h).out) KD
   · rw [if_neg c7] at h
     by_cases c8 : 0 < (x0.size : Int)
     · rw [if_pos c8] at h
       by_cases c9 : (bt x0 0) = 48
       · rw [if_pos c9] at h
         by_cases c10 : (x0.size : Int) > 1
         · rw [if_pos c10] at h
           have hb10 := bt_range x0 0
           refine path_ok (k := 3) hF (RetQ_mild _ _ _ _ _ _ _ _) (ds := [.b false, .b false, .b false, .b false, .b false, .b false, .b false, .b false, .b true, .b true, .b true, .b true, .b true, .b true, .b true, .b false, .b true, .b false]) (os := []) (c := none) rfl KD ?_
           exact WS.can [] (((ih.out k (by omega)).s_j2  r1 r2 w ro B hF x0 x4 true h).out) KD
         · rw [if_neg c10] at h
           have hb11 := bt_range x0 0
           refine path_ok (k := 3) hF (RetQ_mild _ _ _ _ _ _ _ _) (ds := [.b false, .b false, .b false, .b false, .b false, .b false, .b false, .b false, .b true, .b true, .b true, .b true, .b false, .b true, .b false, .b false, .b true, .b false]) (os := []) (c := none) rfl KD ?_
           exact WS.can [] (((ih.out k (by omega)).s_j2  r1 r2 w ro B hF x0 x4 x4 h).out) KD
       · rw [if_neg c9] at h
         have hb12 := bt_range x0 0
         refine path_ok (k := 3) hF (RetQ_mild _ _ _ _ _ _ _ _) (ds := [.b false, .b false, .b false, .b false, .b false, .b false, .b false, .b false, .b false, .b false, .b false, .b false, .b false, .b false, .b false, .b false]) (os := []) (c := none) rfl KD ?_
         exact WS.can [] (((ih.out k (by omega)).s_j2  r1 r2 w ro B hF x0 x4 false h).out) KD
     · rw [if_neg c8] at h
       cases h
set_option maxRecDepth 100000 in
set_option maxHeartbeats 4000000 in
theorem spec_l13Num.c_j2 (k : Nat) (ih : Kp (∀ m, m < k → spec_l13Num.C m)) (r1 : Int) (r2 : Bool) (w : World) (ro : Nat → Prop) (B : Nat) (hF : Fr TE (cx0 Tryd.f92 none w ro B)) (x0 : ByteArray) (x4 : Bool) (x38 : Bool) (h : spec_l13Num.j2 k x0 x4 x38 = some (r1, r2)) : Kp (WS TE (cx0 Tryd.f92 none w ro B) (stkAt [1, 1, 1, 0, 0, 9] [] (bodyOf Tryd.f92) []) ⟨[(0, .v (.string x0)), (4, .v (.bool x4)), (38, .v (.bool x38))], []⟩ (RetQ TE Tryd.f92 none [.ro (.v (.int .i64 r1)), .ro (.v (.bool r2))] [] w ro B)) := by
 refine ⟨?_⟩
 cases k with
 | zero => simp [spec_l13Num.j2] at h
 | succ k =>
 simp only [spec_l13Num.j2] at h
 by_cases c14 : x38 = true
 · rw [if_pos c14] at h
   refine path_ok (k := 4) hF (RetQ_mild _ _ _ _ _ _ _ _) (ds := [.b true]) (os := []) (c := none) rfl KD ?_
   cases h
   exact ret_as (ms := [.ro, .ro]) rfl KD
 · rw [if_neg c14] at h
   refine path_ok (k := 8) hF (RetQ_mild _ _ _ _ _ _ _ _) (ds := [.b false]) (os := []) (c := none) rfl KD ?_
   exact WS.can [] (((ih.out k (by omega)).s_l0  r1 r2 w ro B hF x0 x4 0 0 h).out) KD
set_option maxRecDepth 100000 in
set_option maxHeartbeats 4000000 in
theorem spec_l13Num.c_l0 (k : Nat) (ih : Kp (∀ m, m < k → spec_l13Num.C m)) (r1 : Int) (r2 : Bool) (w : World) (ro : Nat → Prop) (B : Nat) (hF : Fr TE (cx0 Tryd.f92 none w ro B)) (x0 : ByteArray) (x4 : Bool) (x5 : Int) (x6 : Int) (h : spec_l13Num.l0 k x0 x4 x5 x6 = some (r1, r2)) : Kp (WS TE (cx0 Tryd.f92 none w ro B) (stkAt [1, 1, 1, 1, 1, 0, 1, 0] [] (bodyOf Tryd.f92) []) ⟨[(0, .v (.string x0)), (4, .v (.bool x4)), (5, .v (.int .i64 x5)), (6, .v (.int .i64 x6))], []⟩ (RetQ TE Tryd.f92 none [.ro (.v (.int .i64 r1)), .ro (.v (.bool r2))] [] w ro B)) := by
 refine ⟨WS.loop (fun m σ => m ≤ k ∧ spec_l13Num.I0 r1 r2 m σ) k ⟨Nat.le_refl k, x0, x4, x5, x6, h, rfl⟩ (fun m σ' hI J0 hJ0 => ?_)⟩
 clear h
 obtain ⟨hk, x0, x4, x5, x6, h, rfl⟩ := hI
 cases m with
 | zero => simp [spec_l13Num.l0] at h
 | succ k' =>
 simp only [spec_l13Num.l0] at h
 by_cases c15 : x6 < (x0.size : Int)
 · rw [if_pos c15] at h
   by_cases c16 : 0 ≤ x6
   · rw [if_pos c16] at h
     by_cases c17 : (bt x0 x6) < 48
     · rw [if_pos c17] at h
       have hb17 := bt_range x0 x6
       refine path_ok (k := 14) hF (RetQ_mild _ _ _ _ _ _ _ _) (ds := [.b true, .b true, .b true, .b true, .b true, .b true, .b true]) (os := []) (c := none) rfl KD ?_
       cases h
       exact ret_as (ms := [.ro, .ro]) rfl KD
     · rw [if_neg c17] at h
       by_cases c19 : (bt x0 x6) > 57
       · rw [if_pos c19] at h
         have hb19 := bt_range x0 x6
         refine path_ok (k := 14) hF (RetQ_mild _ _ _ _ _ _ _ _) (ds := [.b true, .b false, .b false, .b false, .b false, .b false, .b true]) (os := []) (c := none) rfl KD ?_
         cases h
         exact ret_as (ms := [.ro, .ro]) rfl KD
       · rw [if_neg c19] at h
         have hb20 := bt_range x0 x6
         refine path_ok (k := 15) hF (RetQ_mild _ _ _ _ _ _ _ _) (ds := [.b true, .b false, .b false, .b false, .b false, .b false, .b false, .e 60 (.v (.int .u8 (((bt x0 x6) - 48) % 256))), .e 61 (.v (.int .i64 (((bt x0 x6) - 48) % 256)))]) (os := []) (c := none) rfl KD ?_
         exact WS.lpc [] (hJ0 _ _ (Nat.lt_succ_self _) ⟨by omega, x0, x4, (wrap64 ((wrap64 (x5 * 10)) + (((bt x0 x6) - 48) % 256))), (wrap64 (x6 + 1)), h, rfl⟩) KD
   · rw [if_neg c16] at h
     cases h
 · rw [if_neg c15] at h
   by_cases c22 : x4 = true
   · rw [if_pos c22] at h
     refine path_ok (k := 13) hF (RetQ_mild _ _ _ _ _ _ _ _) (ds := [.b false, .b true, .e 65 (.v (.int .i64 (wrap64 (-x5))))]) (os := []) (c := none) rfl KD ?_
     cases h
     exact ret_as (ms := [.ro, .ro]) rfl KD
   · rw [if_neg c22] at h
     refine path_ok (k := 13) hF (RetQ_mild _ _ _ _ _ _ _ _) (ds := [.b false, .b false]) (os := []) (c := none) rfl KD ?_
     cases h
     exact ret_as (ms := [.ro, .ro]) rfl KD
theorem spec_l13Num.cs (k : Nat) : spec_l13Num.C k := by
 induction k using Nat.strongRecOn with
 | _ k ih0 =>
 have ih : Kp (∀ m, m < k → spec_l13Num.C m) := ⟨ih0⟩
 exact ⟨spec_l13Num.c_j0 k ih, spec_l13Num.c_j1 k ih, spec_l13Num.c_j2 k ih, spec_l13Num.c_l0 k ih⟩
set_option maxRecDepth 100000 in
set_option maxHeartbeats 4000000 in
theorem spec_l13Num.ctr (k : Nat) (a0 : ByteArray) (r1 : Int) (r2 : Bool) (h : spec_l13Num.f k a0 = some (r1, r2)) : Ctr TE 92 none [.v (.string a0)] [.ro (.v (.int .i64 r1)), .ro (.v (.bool r2))] [] := by
 refine ctr_of (fn := Tryd.f92) (c := (bodyOf Tryd.f92)) Tryd.func92 rfl (by kernel_rfl) (Nat.le_of_ble_eq_true (by kernel_rfl)) (fun w ro B hF _ => ?_)
 have ih : Kp (∀ m, m < k + 1 → spec_l13Num.C m) := ⟨fun m _ => spec_l13Num.cs m⟩
 simp only [spec_l13Num.f] at h
 by_cases c1 : (a0.size : Int) > 0
 · rw [if_pos c1] at h
   by_cases c2 : 0 < (a0.size : Int)
   · rw [if_pos c2] at h
     have hb2 := bt_range a0 0
     refine path_ok (k := 4) hF (RetQ_mild _ _ _ _ _ _ _ _) (ds := [.b true, .b true, .b true, .b true]) (os := []) (c := none) rfl KD ?_
     exact WS.can [] (((ih.out k (by omega)).s_j0  r1 r2 w ro B hF a0 ((bt a0 0) == 45) h).out) KD
   · rw [if_neg c2] at h
     cases h
 · rw [if_neg c1] at h
   refine path_ok (k := 4) hF (RetQ_mild _ _ _ _ _ _ _ _) (ds := [.b false, .b false, .b false, .b false]) (os := []) (c := none) rfl KD ?_
   exact WS.can [] (((ih.out k (by omega)).s_j0  r1 r2 w ro B hF a0 false h).out) KD
def spec_l1Reader_number.l0 : Nat → Int → ByteArray → Int → Bool → Option (Int × ByteArray × Int × Bool)
  | 0, _, _, _, _ => none
  | k + 1, x3, x1000, x1001, x1002 => if x1001 < (x1000.size : Int) then (if 0 ≤ x1001 then ((spec_l1In.f (wrap64 (bt x1000 x1001)) 48 57).bind fun t390 => (if t390 = true then (if x1001 < (wrap64 (x3 + 6)) then (spec_l1Reader_number.l0 k x3 x1000 (wrap64 (x1001 + 1)) x1002) else (if 0 ≤ x3 then (if x3 ≤ x1001 then (if x1001 ≤ (x1000.size : Int) then ((spec_l13Num.f k (x1000.extract (x3 : Int).toNat (x1001 : Int).toNat)).bind fun bt391 => (if x1002 = true then (some (bt391.1, x1000, x1001, true)) else (if bt391.2 = true then ((spec_l1In.f bt391.1 0 10006).bind fun t393 => (some (bt391.1, x1000, x1001, !t393))) else (some (bt391.1, x1000, x1001, true))))) else (none)) else (none)) else (none))) else (if 0 ≤ x3 then (if x3 ≤ x1001 then (if x1001 ≤ (x1000.size : Int) then ((spec_l13Num.f k (x1000.extract (x3 : Int).toNat (x1001 : Int).toNat)).bind fun bt394 => (if x1002 = true then (some (bt394.1, x1000, x1001, true)) else (if bt394.2 = true then ((spec_l1In.f bt394.1 0 10006).bind fun t396 => (some (bt394.1, x1000, x1001, !t396))) else (some (bt394.1, x1000, x1001, true))))) else (none)) else (none)) else (none)))) else (none)) else (if 0 ≤ x3 then (if x3 ≤ x1001 then (if x1001 ≤ (x1000.size : Int) then ((spec_l13Num.f k (x1000.extract (x3 : Int).toNat (x1001 : Int).toNat)).bind fun bt397 => (if x1002 = true then (some (bt397.1, x1000, x1001, true)) else (if bt397.2 = true then ((spec_l1In.f bt397.1 0 10006).bind fun t399 => (some (bt397.1, x1000, x1001, !t399))) else (some (bt397.1, x1000, x1001, true))))) else (none)) else (none)) else (none))
def spec_l1Reader_number.f (k : Nat) (s0_0 : ByteArray) (s0_1 : Int) (s0_2 : Bool) : Option (Int × ByteArray × Int × Bool) := spec_l1Reader_number.l0 k s0_1 s0_0 s0_1 s0_2
def spec_l1Reader_number.I0 (s0_0 : ByteArray) (s0_1 : Int) (s0_2 : Bool) (r1 : Int) (r2 : ByteArray) (r3 : Int) (r4 : Bool) (m : Nat) (σ : St) : Prop := ∃ (x3 : Int) (x1000 : ByteArray) (x1001 : Int) (x1002 : Bool), spec_l1Reader_number.l0 m x3 x1000 x1001 x1002 = some (r1, r2, r3, r4) ∧ σ = ⟨[(0, .pt 0 0 0), (3, .v (.int .i64 x3))], [(0, .box 0 113 true [.v (.string x1000), .v (.int .i64 x1001), .v (.bool x1002)])]⟩
structure spec_l1Reader_number.C (k : Nat) : Prop where
 s_l0 : ∀ (s0_0 : ByteArray) (s0_1 : Int) (s0_2 : Bool) (r1 : Int) (r2 : ByteArray) (r3 : Int) (r4 : Bool) (w : World) (ro : Nat → Prop) (B : Nat) (_ : Fr TE (cx0 Tryd.f82 (some (113, [.v (.string s0_0), .v (.int .i64 s0_1), .v (.bool s0_2)])) w ro B)) (x3 : Int) (x1000 : ByteArray) (x1001 : Int) (x1002 : Bool) (_ : spec_l1Reader_number.l0 k x3 x1000 x1001 x1002 = some (r1, r2, r3, r4)), Kp (WS TE (cx0 Tryd.f82 (some (113, [.v (.string s0_0), .v (.int .i64 s0_1), .v (.bool s0_2)])) w ro B) (stkAt [1, 1, 0, 0] [] (bodyOf Tryd.f82) []) ⟨[(0, .pt 0 0 0), (3, .v (.int .i64 x3))], [(0, .box 0 113 true [.v (.string x1000), .v (.int .i64 x1001), .v (.bool x1002)])]⟩ (RetQ TE Tryd.f82 (some (113, [.v (.string s0_0), .v (.int .i64 s0_1), .v (.bool s0_2)])) [.ro (.v (.int .i64 r1))] [.v (.string r2), .v (.int .i64 r3), .v (.bool r4)] w ro B))
set_option maxRecDepth 100000 in
set_option maxHeartbeats 4000000 in
theorem spec_l1Reader_number.c_l0 (k : Nat) (ih : Kp (∀ m, m < k → spec_l1Reader_number.C m)) (s0_0 : ByteArray) (s0_1 : Int) (s0_2 : Bool) (r1 : Int) (r2 : ByteArray) (r3 : Int) (r4 : Bool) (w : World) (ro : Nat → Prop) (B : Nat) (hF : Fr TE (cx0 Tryd.f82 (some (113, [.v (.string s0_0), .v (.int .i64 s0_1), .v (.bool s0_2)])) w ro B)) (x3 : Int) (x1000 : ByteArray) (x1001 : Int) (x1002 : Bool) (h : spec_l1Reader_number.l0 k x3 x1000 x1001 x1002 = some (r1, r2, r3, r4)) : Kp (WS TE (cx0 Tryd.f82 (some (113, [.v (.string s0_0), .v (.int .i64 s0_1), .v (.bool s0_2)])) w ro B) (stkAt [1, 1, 0, 0] [] (bodyOf Tryd.f82) []) ⟨[(0, .pt 0 0 0), (3, .v (.int .i64 x3))], [(0, .box 0 113 true [.v (.string x1000), .v (.int .i64 x1001), .v (.bool x1002)])]⟩ (RetQ TE Tryd.f82 (some (113, [.v (.string s0_0), .v (.int .i64 s0_1), .v (.bool s0_2)])) [.ro (.v (.int .i64 r1))] [.v (.string r2), .v (.int .i64 r3), .v (.bool r4)] w ro B)) := by
 refine ⟨WS.loop (fun m σ => m ≤ k ∧ spec_l1Reader_number.I0 s0_0 s0_1 s0_2 r1 r2 r3 r4 m σ) k ⟨Nat.le_refl k, x3, x1000, x1001, x1002, h, rfl⟩ (fun m σ' hI J0 hJ0 => ?_)⟩
 clear h
 obtain ⟨hk, x3, x1000, x1001, x1002, h, rfl⟩ := hI
 cases m with
 | zero => simp [spec_l1Reader_number.l0] at h
 | succ k' =>
 simp only [spec_l1Reader_number.l0] at h
 by_cases c1 : x1001 < (x1000.size : Int)
 · rw [if_pos c1] at h
   by_cases c2 : 0 ≤ x1001
   · rw [if_pos c2] at h
     obtain ⟨t390, q3, h⟩ := Option.bind_eq_some_iff.1 h
     have q3c := spec_l1In.ctr _ _ _ _ q3
     by_cases c4 : t390 = true
     · rw [if_pos c4] at h
       by_cases c5 : x1001 < (wrap64 (x3 + 6))
       · rw [if_pos c5] at h
         have hb5 := bt_range x1000 x1001
         refine path_ok (k := 8) hF (RetQ_mild _ _ _ _ _ _ _ _) (ds := [.b true, .b true, .b true, .b true, .b true, .b true, .b true, .b true, .b true, .b true, .e 30 (.v (.int .i64 (wrap64 (bt x1000 x1001)))), .b true, .r [.ro (.v (.bool t390))] [], .b true, .b true, .b true, .b true, .b true, .b true, .b true, .b true, .b true, .b true]) (os := [.o [(0, 0), (1, 0), (2, 0), (3, 1), (4, 0), (5, 0), (6, 0), (7, 1), (8, 0), (9, 0), (10, 0), (11, 0), (12, 0), (13, 0), (14, 1), (15, 0), (16, 0), (17, 0), (18, 1), (19, 0), (20, 0), (21, 2), (22, 0), (23, 0), (24, 0), (25, 0), (26, 0), (28, 0), (29, 0), (27, 2), (30, 0), (31, 0)] []]) (c := none) rfl KD ?_
         exact WS.lpc [(0, some 0)] (hJ0 _ _ (Nat.lt_succ_self _) ⟨by omega, x3, x1000, (wrap64 (x1001 + 1)), x1002, h, rfl⟩) KD
       · rw [if_neg c5] at h
         by_cases c7 : 0 ≤ x3
         · rw [if_pos c7] at h
           by_cases c8 : x3 ≤ x1001
           · rw [if_pos c8] at h
             by_cases c9 : x1001 ≤ (x1000.size : Int)
             · rw [if_pos c9] at h
               obtain ⟨⟨t391, t392⟩, q10, h⟩ := Option.bind_eq_some_iff.1 h
               dsimp only at h
               have q10c := spec_l13Num.ctr k' _ _ _ q10
               by_cases c11 : x1002 = true
               · rw [if_pos c11] at h
                 have hb11 := bt_range x1000 x1001
                 refine path_ok (k := 12) hF (RetQ_mild _ _ _ _ _ _ _ _) (ds := [.b true, .b true, .b true, .b true, .b true, .b true, .b true, .b true, .b true, .b true, .e 30 (.v (.int .i64 (wrap64 (bt x1000 x1001)))), .b true, .r [.ro (.v (.bool t390))] [], .b true, .b true, .b true, .b true, .b true, .b true, .b true, .b true, .b true, .b false, .r [.ro (.v (.int .i64 t391)), .ro (.v (.bool t392))] [], .b true, .b true, .b true, .b true, .b true, .b true, .b true]) (os := [.o [(0, 0), (1, 0), (2, 0), (3, 1), (4, 0), (5, 0), (6, 0), (7, 1), (8, 0), (9, 0), (10, 0), (11, 0), (12, 0), (13, 0), (14, 1), (15, 0), (16, 0), (17, 0), (18, 1), (19, 0), (20, 0), (21, 2), (22, 0), (23, 0), (24, 0), (25, 0), (26, 0), (28, 0), (29, 0), (27, 2), (30, 0), (31, 0)] [], .o [(0, 0), (1, 0), (2, 0), (3, 1), (4, 0), (5, 0), (6, 0), (7, 0), (8, 1), (9, 0), (10, 2), (11, 0), (12, 0), (13, 0), (14, 0), (15, 0)] []]) (c := none) rfl KD ?_
                 cases h
                 exact ret_as (ms := [.ro]) rfl KD
               · rw [if_neg c11] at h
                 by_cases c13 : t392 = true
                 · rw [if_pos c13] at h
                   obtain ⟨t393, q14, h⟩ := Option.bind_eq_some_iff.1 h
                   have q14c := spec_l1In.ctr _ _ _ _ q14
                   have hb14 := bt_range x1000 x1001
                   refine path_ok (k := 12) hF (RetQ_mild _ _ _ _ _ _ _ _) (ds := [.b true, .b true, .b true, .b true, .b true, .b true, .b true, .b true, .b true, .b true, .e 30 (.v (.int .i64 (wrap64 (bt x1000 x1001)))), .b true, .r [.ro (.v (.bool t390))] [], .b true, .b true, .b true, .b true, .b true, .b true, .b true, .b true, .b true, .b false, .r [.ro (.v (.int .i64 t391)), .ro (.v (.bool t392))] [], .b false, .b false, .b false, .b false, .b false, .r [.ro (.v (.bool t393))] [], .b false, .b false]) (os := [.o [(0, 0), (1, 0), (2, 0), (3, 1), (4, 0), (5, 0), (6, 0), (7, 1), (8, 0), (9, 0), (10, 0), (11, 0), (12, 0), (13, 0), (14, 1), (15, 0), (16, 0), (17, 0), (18, 1), (19, 0), (20, 0), (21, 2), (22, 0), (23, 0), (24, 0), (25, 0), (26, 0), (28, 0), (29, 0), (27, 2), (30, 0), (31, 0)] [], .o [(0, 0), (1, 0), (2, 0), (3, 1), (4, 0), (5, 0), (6, 0), (7, 0), (8, 1), (9, 0), (10, 2), (11, 0), (12, 0), (13, 0), (14, 0), (15, 0)] []]) (c := none) rfl KD ?_
                   cases h
                   exact ret_as (ms := [.ro]) rfl KD
                 · rw [if_neg c13] at h
                   have hb15 := bt_range x1000 x1001
                   refine path_ok (k := 12) hF (RetQ_mild _ _ _ _ _ _ _ _) (ds := [.b true, .b true, .b true, .b true, .b true, .b true, .b true, .b true, .b true, .b true, .e 30 (.v (.int .i64 (wrap64 (bt x1000 x1001)))), .b true, .r [.ro (.v (.bool t390))] [], .b true, .b true, .b true, .b true, .b true, .b true, .b true, .b true, .b true, .b false, .r [.ro (.v (.int .i64 t391)), .ro (.v (.bool t392))] [], .b false, .b false, .b false, .b true, .b true, .b true, .b true]) (os := [.o [(0, 0), (1, 0), (2, 0), (3, 1), (4, 0), (5, 0), (6, 0), (7, 1), (8, 0), (9, 0), (10, 0), (11, 0), (12, 0), (13, 0), (14, 1), (15, 0), (16, 0), (17, 0), (18, 1), (19, 0), (20, 0), (21, 2), (22, 0), (23, 0), (24, 0), (25, 0), (26, 0), (28, 0), (29, 0), (27, 2), (30, 0), (31, 0)] [], .o [(0, 0), (1, 0), (2, 0), (3, 1), (4, 0), (5, 0), (6, 0), (7, 0), (8, 1), (9, 0), (10, 2), (11, 0), (12, 0), (13, 0), (14, 0), (15, 0)] []]) (c := none) rfl KD ?_
                   cases h
                   exact ret_as (ms := [.ro]) rfl KD
             · rw [if_neg c9] at h
               cases h
           · rw [if_neg c8] at h
             cases h
         · rw [if_neg c7] at h
           cases h
     · rw [if_neg c4] at h
       by_cases c17 : 0 ≤ x3
       · rw [if_pos c17] at h
         by_cases c18 : x3 ≤ x1001
         · rw [if_pos c18] at h
           by_cases c19 : x1001 ≤ (x1000.size : Int)
           · rw [if_pos c19] at h
             obtain ⟨⟨t394, t395⟩, q20, h⟩ := Option.bind_eq_some_iff.1 h
             dsimp only at h
             have q20c := spec_l13Num.ctr k' _ _ _ q20
             by_cases c21 : x1002 = true
             · rw [if_pos c21] at h
               have hb21 := bt_range x1000 x1001
               refine path_ok (k := 12) hF (RetQ_mild _ _ _ _ _ _ _ _) (ds := [.b true, .b true, .b true, .b true, .b true, .b true, .b true, .b true, .b true, .b true, .e 30 (.v (.int .i64 (wrap64 (bt x1000 x1001)))), .b true, .r [.ro (.v (.bool t390))] [], .b true, .b false, .b false, .b false, .b false, .b false, .b false, .b false, .b false, .b false, .r [.ro (.v (.int .i64 t394)), .ro (.v (.bool t395))] [], .b true, .b true, .b true, .b true, .b true, .b true, .b true]) (os := [.o [(0, 0), (1, 0), (2, 0), (3, 1), (4, 0), (5, 0), (6, 0), (7, 1), (8, 0), (9, 0), (10, 0), (11, 0), (12, 0), (13, 0), (14, 1), (15, 0), (16, 0), (17, 0), (18, 1), (19, 0), (20, 0), (21, 2), (22, 0), (23, 0), (24, 0), (25, 0), (26, 0), (28, 0), (29, 0), (27, 2), (30, 0), (31, 0)] [], .o [(0, 0), (1, 0), (2, 0), (3, 1), (4, 0), (5, 0), (6, 0), (7, 0), (8, 1), (9, 0), (10, 2), (11, 0), (12, 0), (13, 0), (14, 0), (15, 0)] []]) (c := none) rfl KD ?_
               cases h
               exact ret_as (ms := [.ro]) rfl KD
             · rw [if_neg c21] at h
               by_cases c23 : t395 = true
               · rw [if_pos c23] at h
                 obtain ⟨t396, q24, h⟩ := Option.bind_eq_some_iff.1 h
                 have q24c := spec_l1In.ctr _ _ _ _ q24
                 have hb24 := bt_range x1000 x1001
                 refine path_ok (k := 12) hF (RetQ_mild _ _ _ _ _ _ _ _) (ds := [.b true, .b true, .b true, .b true, .b true, .b true, .b true, .b true, .b true, .b true, .e 30 (.v (.int .i64 (wrap64 (bt x1000 x1001)))), .b true, .r [.ro (.v (.bool t390))] [], .b true, .b false, .b false, .b false, .b false, .b false, .b false, .b false, .b false, .b false, .r [.ro (.v (.int .i64 t394)), .ro (.v (.bool t395))] [], .b false, .b false, .b false, .b false, .b false, .r [.ro (.v (.bool t396))] [], .b false, .b false]) (os := [.o [(0, 0), (1, 0), (2, 0), (3, 1), (4, 0), (5, 0), (6, 0), (7, 1), (8, 0), (9, 0), (10, 0), (11, 0), (12, 0), (13, 0), (14, 1), (15, 0), (16, 0), (17, 0), (18, 1), (19, 0), (20, 0), (21, 2), (22, 0), (23, 0), (24, 0), (25, 0), (26, 0), (28, 0), (29, 0), (27, 2), (30, 0), (31, 0)] [], .o [(0, 0), (1, 0), (2, 0), (3, 1), (4, 0), (5, 0), (6, 0), (7, 0), (8, 1), (9, 0), (10, 2), (11, 0), (12, 0), (13, 0), (14, 0), (15, 0)] []]) (c := none) rfl KD ?_
                 cases h
                 exact ret_as (ms := [.ro]) rfl KD
               · rw [if_neg c23] at h
                 have hb25 := bt_range x1000 x1001
                 refine path_ok (k := 12) hF (RetQ_mild _ _ _ _ _ _ _ _) (ds := [.b true, .b true, .b true, .b true, .b true, .b true, .b true, .b true, .b true, .b true, .e 30 (.v (.int .i64 (wrap64 (bt x1000 x1001)))), .b true, .r [.ro (.v (.bool t390))] [], .b true, .b false, .b false, .b false, .b false, .b false, .b false, .b false, .b false, .b false, .r [.ro (.v (.int .i64 t394)), .ro (.v (.bool t395))] [], .b false, .b false, .b false, .b true, .b true, .b true, .b true]) (os := [.o [(0, 0), (1, 0), (2, 0), (3, 1), (4, 0), (5, 0), (6, 0), (7, 1), (8, 0), (9, 0), (10, 0), (11, 0), (12, 0), (13, 0), (14, 1), (15, 0), (16, 0), (17, 0), (18, 1), (19, 0), (20, 0), (21, 2), (22, 0), (23, 0), (24, 0), (25, 0), (26, 0), (28, 0), (29, 0), (27, 2), (30, 0), (31, 0)] [], .o [(0, 0), (1, 0), (2, 0), (3, 1), (4, 0), (5, 0), (6, 0), (7, 0), (8, 1), (9, 0), (10, 2), (11, 0), (12, 0), (13, 0), (14, 0), (15, 0)] []]) (c := none) rfl KD ?_
                 cases h
                 exact ret_as (ms := [.ro]) rfl KD
           · rw [if_neg c19] at h
             cases h
         · rw [if_neg c18] at h
           cases h
       · rw [if_neg c17] at h
         cases h
   · rw [if_neg c2] at h
     cases h
 · rw [if_neg c1] at h
   by_cases c27 : 0 ≤ x3
   · rw [if_pos c27] at h
     by_cases c28 : x3 ≤ x1001
     · rw [if_pos c28] at h
       by_cases c29 : x1001 ≤ (x1000.size : Int)
       · rw [if_pos c29] at h
         obtain ⟨⟨t397, t398⟩, q30, h⟩ := Option.bind_eq_some_iff.1 h
         dsimp only at h
         have q30c := spec_l13Num.ctr k' _ _ _ q30
         by_cases c31 : x1002 = true
         · rw [if_pos c31] at h
           refine path_ok (k := 12) hF (RetQ_mild _ _ _ _ _ _ _ _) (ds := [.b false, .b false, .b false, .b false, .b false, .b false, .b false, .b false, .b false, .b false, .b false, .b false, .b false, .b false, .b false, .b false, .b false, .b false, .b false, .b false, .b false, .r [.ro (.v (.int .i64 t397)), .ro (.v (.bool t398))] [], .b true, .b true, .b true, .b true, .b true, .b true, .b true]) (os := [.o [(0, 0), (1, 0), (2, 0), (3, 1), (4, 0), (5, 0), (6, 0), (7, 1), (8, 0), (9, 0), (10, 0), (11, 0), (12, 0), (13, 0), (14, 1), (15, 0), (16, 0), (17, 0), (18, 1), (19, 0), (20, 0), (21, 2), (22, 0), (23, 0), (24, 0), (25, 0), (26, 0), (28, 0), (29, 0), (27, 2), (30, 0), (31, 0)] [], .o [(0, 0), (1, 0), (2, 0), (3, 1), (4, 0), (5, 0), (6, 0), (7, 0), (8, 1), (9, 0), (10, 2), (11, 0), (12, 0), (13, 0), (14, 0), (15, 0)] []]) (c := none) rfl KD ?_
           cases h
           exact ret_as (ms := [.ro]) rfl KD
         · rw [if_neg c31] at h
           by_cases c32 : t398 = true
           · rw [if_pos c32] at h
             obtain ⟨t399, q33, h⟩ := Option.bind_eq_some_iff.1 h
             have q33c := spec_l1In.ctr _ _ _ _ q33
             refine path_ok (k := 12) hF (RetQ_mild _ _ _ _ _ _ _ _) (ds := [.b false, .b false, .b false, .b false, .b false, .b false, .b false, .b false, .b false, .b false, .b false, .b false, .b false, .b false, .b false, .b false, .b false, .b false, .b false, .b false, .b false, .r [.ro (.v (.int .i64 t397)), .ro (.v (.bool t398))] [], .b false, .b false, .b false, .b false, .b false, .r [.ro (.v (.bool t399))] [], .b false, .b false]) (os := [.o [(0, 0), (1, 0), (2, 0), (3, 1), (4, 0), (5, 0), (6, 0), (7, 1), (8, 0), (9, 0), (10, 0), (11, 0), (12, 0), (13, 0), (14, 1), (15, 0), (16, 0), (17, 0), (18, 1), (19, 0), (20, 0), (21, 2), (22, 0), (23, 0), (24, 0), (25, 0), (26, 0), (28, 0), (29, 0), (27, 2), (30, 0), (31, 0)] [], .o [(0, 0), (1, 0), (2, 0), (3, 1), (4, 0), (5, 0), (6, 0), (7, 0), (8, 1), (9, 0), (10, 2), (11, 0), (12, 0), (13, 0), (14, 0), (15, 0)] []]) (c := none) rfl KD ?_
             cases h
             exact ret_as (ms := [.ro]) rfl KD
           · rw [if_neg c32] at h
             refine path_ok (k := 12) hF (RetQ_mild _ _ _ _ _ _ _ _) (ds := [.b false, .b false, .b false, .b false, .b false, .b false, .b false, .b false, .b false, .b false, .b false, .b false, .b false, .b false, .b false, .b false, .b false, .b false, .b false, .b false, .b false, .r [.ro (.v (.int .i64 t397)), .ro (.v (.bool t398))] [], .b false, .b false, .b false, .b true, .b true, .b true, .b true]) (os := [.o [(0, 0), (1, 0), (2, 0), (3, 1), (4, 0), (5, 0), (6, 0), (7, 1), (8, 0), (9, 0), (10, 0), (11, 0), (12, 0), (13, 0), (14, 1), (15, 0), (16, 0), (17, 0), (18, 1), (19, 0), (20, 0), (21, 2), (22, 0), (23, 0), (24, 0), (25, 0), (26, 0), (28, 0), (29, 0), (27, 2), (30, 0), (31, 0)] [], .o [(0, 0), (1, 0), (2, 0), (3, 1), (4, 0), (5, 0), (6, 0), (7, 0), (8, 1), (9, 0), (10, 2), (11, 0), (12, 0), (13, 0), (14, 0), (15, 0)] []]) (c := none) rfl KD ?_
             cases h
             exact ret_as (ms := [.ro]) rfl KD
       · rw [if_neg c29] at h
         cases h
     · rw [if_neg c28] at h
       cases h
   · rw [if_neg c27] at h
     cases h
theorem spec_l1Reader_number.cs (k : Nat) : spec_l1Reader_number.C k := by
 induction k using Nat.strongRecOn with
 | _ k ih0 =>
 have ih : Kp (∀ m, m < k → spec_l1Reader_number.C m) := ⟨ih0⟩
 exact ⟨spec_l1Reader_number.c_l0 k ih⟩
set_option maxRecDepth 100000 in
set_option maxHeartbeats 4000000 in
theorem spec_l1Reader_number.ctr (k : Nat) (s0_0 : ByteArray) (s0_1 : Int) (s0_2 : Bool) (r1 : Int) (r2 : ByteArray) (r3 : Int) (r4 : Bool) (h : spec_l1Reader_number.f k s0_0 s0_1 s0_2 = some (r1, r2, r3, r4)) : Ctr TE 82 (some (113, [.v (.string s0_0), .v (.int .i64 s0_1), .v (.bool s0_2)])) [.pt 0 0 0] [.ro (.v (.int .i64 r1))] [.v (.string r2), .v (.int .i64 r3), .v (.bool r4)] := by
 refine ctr_of (fn := Tryd.f82) (c := (bodyOf Tryd.f82)) Tryd.func82 rfl (by kernel_rfl) (Nat.le_of_ble_eq_true (by kernel_rfl)) (fun w ro B hF _ => ?_)
 have ih : Kp (∀ m, m < k + 1 → spec_l1Reader_number.C m) := ⟨fun m _ => spec_l1Reader_number.cs m⟩
 simp only [spec_l1Reader_number.f] at h
 refine path_ok (k := 6) hF (RetQ_mild _ _ _ _ _ _ _ _) (ds := []) (os := []) (c := none) rfl KD ?_
 exact WS.can [(0, some 0)] (((ih.out k (by omega)).s_l0 s0_0 s0_1 s0_2 r1 r2 r3 r4 w ro B hF s0_1 s0_0 s0_1 s0_2 h).out) KD
def spec_l1Reader_is.f (s0_0 : ByteArray) (s0_1 : Int) (s0_2 : Bool) (a1 : Int) : Option (Bool × ByteArray × Int × Bool) := if s0_1 < (s0_0.size : Int) then (if 0 ≤ s0_1 then (if (bt s0_0 s0_1) = a1 then (some (true, s0_0, wrap64 (s0_1 + 1), s0_2)) else (some (false, s0_0, s0_1, s0_2))) else (none)) else (some (false, s0_0, s0_1, s0_2))
set_option maxRecDepth 100000 in
set_option maxHeartbeats 4000000 in
theorem spec_l1Reader_is.ctr (s0_0 : ByteArray) (s0_1 : Int) (s0_2 : Bool) (a1 : Int) (r1 : Bool) (r2 : ByteArray) (r3 : Int) (r4 : Bool) (h : spec_l1Reader_is.f s0_0 s0_1 s0_2 a1 = some (r1, r2, r3, r4)) : Ctr TE 83 (some (113, [.v (.string s0_0), .v (.int .i64 s0_1), .v (.bool s0_2)])) [.pt 0 0 0, .v (.int .u8 a1)] [.ro (.v (.bool r1))] [.v (.string r2), .v (.int .i64 r3), .v (.bool r4)] := by
 refine ctr_of (fn := Tryd.f83) (c := (bodyOf Tryd.f83)) Tryd.func83 rfl (by kernel_rfl) (Nat.le_of_ble_eq_true (by kernel_rfl)) (fun w ro B hF _ => ?_)
 simp only [spec_l1Reader_is.f] at h
 by_cases c1 : s0_1 < (s0_0.size : Int)
 · rw [if_pos c1] at h
   by_cases c2 : 0 ≤ s0_1
   · rw [if_pos c2] at h
     by_cases c3 : (bt s0_0 s0_1) = a1
     · rw [if_pos c3] at h
       have hb3 := bt_range s0_0 s0_1
       refine path_ok (k := 11) hF (RetQ_mild _ _ _ _ _ _ _ _) (ds := [.b true, .b true, .b true, .b true, .b true, .b true, .b true, .b true, .b true, .b true, .b true, .b true, .b true]) (os := [.o [(0, 0), (1, 0), (2, 0), (3, 1), (4, 0), (5, 0), (6, 0), (7, 1), (8, 0), (9, 0), (10, 0), (11, 0), (12, 0), (13, 0), (14, 1), (15, 0), (16, 0), (17, 0), (18, 1), (19, 0), (20, 0), (21, 0), (22, 0)] []]) (c := none) rfl KD ?_
       cases h
       exact ret_as (ms := [.ro]) rfl KD
     · rw [if_neg c3] at h
       have hb4 := bt_range s0_0 s0_1
       refine path_ok (k := 10) hF (RetQ_mild _ _ _ _ _ _ _ _) (ds := [.b true, .b true, .b true, .b true, .b true, .b true, .b true, .b true, .b true, .b true, .b true, .b true, .b false]) (os := [.o [(0, 0), (1, 0), (2, 0), (3, 1), (4, 0), (5, 0), (6, 0), (7, 1), (8, 0), (9, 0), (10, 0), (11, 0), (12, 0), (13, 0), (14, 1), (15, 0), (16, 0), (17, 0), (18, 1), (19, 0), (20, 0), (21, 0), (22, 0)] []]) (c := none) rfl KD ?_
       cases h
       exact ret_as (ms := [.ro]) rfl KD
   · rw [if_neg c2] at h
     cases h
 · rw [if_neg c1] at h
   refine path_ok (k := 10) hF (RetQ_mild _ _ _ _ _ _ _ _) (ds := [.b false, .b false, .b false, .b false, .b false, .b false, .b false, .b false, .b false, .b false, .b false, .b false, .b false]) (os := [.o [(0, 0), (1, 0), (2, 0), (3, 1), (4, 0), (5, 0), (6, 0), (7, 1), (8, 0), (9, 0), (10, 0), (11, 0), (12, 0), (13, 0), (14, 1), (15, 0), (16, 0), (17, 0), (18, 1), (19, 0), (20, 0), (21, 0), (22, 0)] []]) (c := none) rfl KD ?_
   cases h
   exact ret_as (ms := [.ro]) rfl KD
end Go.Proofs.YtlhejcogdjelpaaDoor.G
