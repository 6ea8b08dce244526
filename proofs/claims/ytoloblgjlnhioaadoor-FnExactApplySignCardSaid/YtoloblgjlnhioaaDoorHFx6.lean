/- A part of the claim. -/
import Derived.Test.YtoloblgjlnhioaaDoorHFx0
import Derived.Test.YtoloblgjlnhioaaDoorHFx1
import Derived.Test.YtoloblgjlnhioaaDoorHFx3
import Derived.Test.YtoloblgjlnhioaaDoorHFx4
import Derived.Test.YtoloblgjlnhioaaDoorHFx5
import Derived.Test.YtoloblgjlnhioaaDoorHFSgr
-- PRINTED by print.py (a twelfth state) out of the translation. Not trusted: Lean checks it.
namespace Go.Proofs.YtoloblgjlnhioaaDoor.H
open Go.RowKit Go.Proofs.YtoloblgjlnhioaaDoorW.St Go.Proofs.YtoloblgjlnhioaaDoorW.PrintWords Go.Proofs.YtoloblgjlnhioaaDoorW.PrintLast Go.Proofs.YtoloblgjlnhioaaDoorW.PrintMore
attribute [local go_sem] max2_int min2_int max_two min_two max_three min_three max_four min_four   -- for this text's walks alone
set_option linter.unusedVariables false
set_option linter.unusedSimpArgs false
mutual
def impl_give.l0 : Nat → List Int → Int → Int → Option (Int × (List (S62)))
  | 0, _, _, _ => none
  | k + 1, x9, x42, x43 => if x43 < x42 then (if x9.length < 17592186044416 then (impl_give.l0 k (x9 ++ [x43]) x42 (wrap64 (x43 + 1))) else (none)) else ((impl_give_2.f k x9).bind fun bt362 => (some (bt362.1, bt362.2)))
def impl_give.l1 : Nat → List (S62) → Int → Int → Int → List (S62) → Option (Int × (List (S62)))
  | 0, _, _, _, _, _ => none
  | k + 1, x73, x74, x75, x370000, x370001 => if x75 < x74 then (if 0 ≤ x75 then (if x75 < (x73.length : Int) then (if x370001.length + ((rd_T62 x73 x75).f1).length < 4398046511104 then (impl_give.l1 k x73 x74 (wrap64 (x75 + 1)) x370000 (x370001 ++ ((rd_T62 x73 x75).f1))) else (none)) else (none)) else (none)) else (some (x370000, x370001))
def impl_give.l2 : Nat → List Int → Int → List Int → Int → Int → Option (Int × (List (S62)))
  | 0, _, _, _, _, _ => none
  | k + 1, x15, x16, x91, x92, x93 => if x93 < x92 then (if 0 ≤ x93 then (if x93 < (x91.length : Int) then (if x15.length < 17592186044416 then (impl_give.l2 k (x15 ++ [x16]) (Int.tmod (wrap64 (x16 + (rd x91 x93))) 10007) x91 x92 (wrap64 (x93 + 1))) else (none)) else (none)) else (none)) else ((impl_give_2.f k x15).bind fun bt386 => (some (bt386.1, bt386.2)))
end
def impl_give.f (k : Nat) (a0 : ByteArray) (l1 : List (S62)) : Option (Int × (List (S62))) := if 0 < (l1.length : Int) then (if a0.toList = ([83] : List UInt8) then ((impl_give_1.f k ((rd_T62 l1 0).f0) ((rd_T62 l1 0).f1)).bind fun bt346 => ((impl_sum.f k bt346.1).bind fun t350 => (some (t350, ([] : List (S62)))))) else (if a0.toList = ([77] : List UInt8) then ((impl_give_1.f k ((rd_T62 l1 0).f0) ((rd_T62 l1 0).f1)).bind fun bt351 => ((impl_most.f bt351.1).bind fun t355 => (some (t355, ([] : List (S62)))))) else (if a0.toList = ([73] : List UInt8) then (impl_give.l0 k (([] : List Int)) (mn ((rd_T62 l1 0).f0) 12) 0) else (if a0.toList = ([78] : List UInt8) then (some ((((rd_T62 l1 0).f1).length : Int) % 10007, ([] : List (S62)))) else (if a0.toList = ([82] : List UInt8) then ((slices_Clone_arr.f ((rd_T62 l1 0).f1)).bind fun t366 => (some (0, t366.reverse))) else (if a0.toList = ([67] : List UInt8) then (impl_give.l1 k ((rd_T62 l1 0).f1) (((rd_T62 l1 0).f1).length : Int) 0 0 ([] : List (S62))) else (if a0.toList = ([80] : List UInt8) then ((impl_give_1.f k ((rd_T62 l1 0).f0) ((rd_T62 l1 0).f1)).bind fun bt378 => (impl_give.l2 k (([] : List Int)) 0 bt378.1 (bt378.1.length : Int) 0)) else (if 1 < (l1.length : Int) then (if a0.toList = ([43] : List UInt8) then (some (Int.tmod (wrap64 (((rd_T62 l1 0).f0) + ((rd_T62 l1 1).f0))) 10007, ([] : List (S62)))) else (if a0.toList = ([42] : List UInt8) then (some (Int.tmod (wrap64 (((rd_T62 l1 0).f0) * ((rd_T62 l1 1).f0))) 10007, ([] : List (S62)))) else (if a0.toList = ([94] : List UInt8) then (some (mx ((rd_T62 l1 0).f0) ((rd_T62 l1 1).f0), ([] : List (S62)))) else (if a0.toList = ([45] : List UInt8) then (some (mx 0 (wrap64 (((rd_T62 l1 0).f0) - ((rd_T62 l1 1).f0))), ([] : List (S62)))) else (if a0.toList = ([61] : List UInt8) then ((impl_give_3.f (((rd_T62 l1 0).f0) == ((rd_T62 l1 1).f0))).bind fun bt391 => (some (bt391.1, bt391.2))) else (if a0.toList = ([60] : List UInt8) then ((impl_give_3.f (decide (((rd_T62 l1 0).f0) < ((rd_T62 l1 1).f0)))).bind fun bt395 => (some (bt395.1, bt395.2))) else (if ((rd_T62 l1 1).f0) < (((rd_T62 l1 0).f1).length : Int) then (if 0 ≤ ((rd_T62 l1 1).f0) then (some ((rd_T62 ((rd_T62 l1 0).f1) ((rd_T62 l1 1).f0)).f0, (rd_T62 ((rd_T62 l1 0).f1) ((rd_T62 l1 1).f0)).f1)) else (none)) else (some (0, ([] : List (S62))))))))))) else (none))))))))) else (none)
def impl_give.I0 (r1 : Int) (r2 : List (S62)) (m : Nat) (σ : St) : Prop := ∃ (x9 : List Int) (x42 : Int) (x43 : Int) (x344000 : Int), impl_give.l0 m x9 x42 x43 = some (r1, r2) ∧ σ = ⟨[(4, .pt 1004 0 0), (7, .v (.func (.func 101) #[] #[])), (9, .ow 1009 0), (42, .v (.int .i64 x42)), (43, .v (.int .i64 x43))], [(1004, .box 0 62 false [.v (.int .i64 x344000), .v (.slice none 0 0)]), (1009, .own 0 3 1 (rX (cI .i64) x9))]⟩
def impl_give.I1 (r1 : Int) (r2 : List (S62)) (m : Nat) (σ : St) : Prop := ∃ (x73 : List (S62)) (x74 : Int) (x75 : Int) (x344000 : Int) (x370000 : Int) (x370001 : List (S62)), impl_give.l1 m x73 x74 x75 x370000 x370001 = some (r1, r2) ∧ σ = ⟨[(4, .pt 1004 0 0), (12, .pt 1012 0 0), (73, .sl 2 (r62 x73)), (74, .v (.int .i64 x74)), (75, .v (.int .i64 x75))], [(1004, .box 0 62 false [.v (.int .i64 x344000), .v (.slice none 0 0)]), (3769, .own 0 62 2 (r62 x370001)), (1012, .box 0 62 false [.v (.int .i64 x370000), .ow 3769 0])]⟩
def impl_give.I2 (r1 : Int) (r2 : List (S62)) (m : Nat) (σ : St) : Prop := ∃ (x15 : List Int) (x16 : Int) (x91 : List Int) (x92 : Int) (x93 : Int) (x344000 : Int), impl_give.l2 m x15 x16 x91 x92 x93 = some (r1, r2) ∧ σ = ⟨[(4, .pt 1004 0 0), (7, .v (.func (.func 101) #[] #[])), (15, .ow 1015 0), (16, .v (.int .i64 x16)), (91, .ow 1091 0), (92, .v (.int .i64 x92)), (93, .v (.int .i64 x93))], [(1004, .box 0 62 false [.v (.int .i64 x344000), .v (.slice none 0 0)]), (1015, .own 0 3 1 (rX (cI .i64) x15)), (1091, .own 0 3 1 (rX (cI .i64) x91))]⟩
structure impl_give.C (k : Nat) : Prop where
 s_l0 : ∀ (r1 : Int) (r2 : List (S62)) (w : World) (ro : Nat → Prop) (B : Nat) (_ : Fr TE (cx0 Tryd.f72 none w ro B)) (x9 : List Int) (x42 : Int) (x43 : Int) (x344000 : Int) (_ : impl_give.l0 k x9 x42 x43 = some (r1, r2)), Kp (WS TE (cx0 Tryd.f72 none w ro B) (stkAt [1, 1, 1, 1, 1, 0, 1, 0, 1, 1, 1, 1, 1, 0, 1, 0, 1, 0] [] (bodyOf Tryd.f72) []) ⟨[(4, .pt 1004 0 0), (7, .v (.func (.func 101) #[] #[])), (9, .ow 1009 0), (42, .v (.int .i64 x42)), (43, .v (.int .i64 x43))], [(1004, .box 0 62 false [.v (.int .i64 x344000), .v (.slice none 0 0)]), (1009, .own 0 3 1 (rX (cI .i64) x9))]⟩ (RetQ TE Tryd.f72 none [.ro (.ag [.v (.int .i64 r1), .sl 2 (r62 r2)])] [] w ro B))
 s_l1 : ∀ (r1 : Int) (r2 : List (S62)) (w : World) (ro : Nat → Prop) (B : Nat) (_ : Fr TE (cx0 Tryd.f72 none w ro B)) (x73 : List (S62)) (x74 : Int) (x75 : Int) (x344000 : Int) (x370000 : Int) (x370001 : List (S62)) (_ : impl_give.l1 k x73 x74 x75 x370000 x370001 = some (r1, r2)), Kp (WS TE (cx0 Tryd.f72 none w ro B) (stkAt [1, 1, 1, 1, 1, 0, 1, 0, 1, 1, 1, 1, 1, 1, 1, 1, 1, 1, 1, 0, 1, 0, 1, 0] [] (bodyOf Tryd.f72) []) ⟨[(4, .pt 1004 0 0), (12, .pt 1012 0 0), (73, .sl 2 (r62 x73)), (74, .v (.int .i64 x74)), (75, .v (.int .i64 x75))], [(1004, .box 0 62 false [.v (.int .i64 x344000), .v (.slice none 0 0)]), (3769, .own 0 62 2 (r62 x370001)), (1012, .box 0 62 false [.v (.int .i64 x370000), .ow 3769 0])]⟩ (RetQ TE Tryd.f72 none [.ro (.ag [.v (.int .i64 r1), .sl 2 (r62 r2)])] [] w ro B))
 s_l2 : ∀ (r1 : Int) (r2 : List (S62)) (w : World) (ro : Nat → Prop) (B : Nat) (_ : Fr TE (cx0 Tryd.f72 none w ro B)) (x15 : List Int) (x16 : Int) (x91 : List Int) (x92 : Int) (x93 : Int) (x344000 : Int) (_ : impl_give.l2 k x15 x16 x91 x92 x93 = some (r1, r2)), Kp (WS TE (cx0 Tryd.f72 none w ro B) (stkAt [1, 1, 1, 1, 1, 0, 1, 0, 1, 1, 1, 1, 1, 1, 1, 1, 1, 1, 1, 1, 1, 0, 1, 0, 1, 0] [] (bodyOf Tryd.f72) []) ⟨[(4, .pt 1004 0 0), (7, .v (.func (.func 101) #[] #[])), (15, .ow 1015 0), (16, .v (.int .i64 x16)), (91, .ow 1091 0), (92, .v (.int .i64 x92)), (93, .v (.int .i64 x93))], [(1004, .box 0 62 false [.v (.int .i64 x344000), .v (.slice none 0 0)]), (1015, .own 0 3 1 (rX (cI .i64) x15)), (1091, .own 0 3 1 (rX (cI .i64) x91))]⟩ (RetQ TE Tryd.f72 none [.ro (.ag [.v (.int .i64 r1), .sl 2 (r62 r2)])] [] w ro B))
set_option maxRecDepth 100000 in
set_option maxHeartbeats 4000000 in
theorem impl_give.c_l0 (k : Nat) (ih : Kp (∀ m, m < k → impl_give.C m)) (r1 : Int) (r2 : List (S62)) (w : World) (ro : Nat → Prop) (B : Nat) (hF : Fr TE (cx0 Tryd.f72 none w ro B)) (x9 : List Int) (x42 : Int) (x43 : Int) (x344000 : Int) (h : impl_give.l0 k x9 x42 x43 = some (r1, r2)) : Kp (WS TE (cx0 Tryd.f72 none w ro B) (stkAt [1, 1, 1, 1, 1, 0, 1, 0, 1, 1, 1, 1, 1, 0, 1, 0, 1, 0] [] (bodyOf Tryd.f72) []) ⟨[(4, .pt 1004 0 0), (7, .v (.func (.func 101) #[] #[])), (9, .ow 1009 0), (42, .v (.int .i64 x42)), (43, .v (.int .i64 x43))], [(1004, .box 0 62 false [.v (.int .i64 x344000), .v (.slice none 0 0)]), (1009, .own 0 3 1 (rX (cI .i64) x9))]⟩ (RetQ TE Tryd.f72 none [.ro (.ag [.v (.int .i64 r1), .sl 2 (r62 r2)])] [] w ro B)) := by
 refine ⟨WS.loop (fun m σ => m ≤ k ∧ impl_give.I0 r1 r2 m σ) k ⟨Nat.le_refl k, x9, x42, x43, x344000, h, rfl⟩ (fun m σ' hI J0 hJ0 => ?_)⟩
 clear h
 obtain ⟨hk, x9, x42, x43, x344000, h, rfl⟩ := hI
 cases m with
 | zero => simp [impl_give.l0] at h
 | succ k' =>
 simp only [impl_give.l0] at h
 by_cases c27 : x43 < x42
 · rw [if_pos c27] at h
   by_cases c28 : x9.length < 17592186044416
   · rw [if_pos c28] at h
     refine path_ok (k := 12) hF (RetQ_mild _ _ _ _ _ _ _ _) (ds := [.b true, .p 48 ([[.v (.int .i64 x43)]]), .o 49 (rX (cI .i64) (x9 ++ [x43]))]) (os := []) (c := none) rfl KD ?_
     exact WS.lpc [(1004, some 1004), (1009, some 1009)] (hJ0 _ _ (Nat.lt_succ_self _) ⟨by omega, (x9 ++ [x43]), x42, (wrap64 (x43 + 1)), x344000, h, rfl⟩) KD
   · rw [if_neg c28] at h
     cases h
 · rw [if_neg c27] at h
   obtain ⟨⟨t362, t363⟩, q29, h⟩ := Option.bind_eq_some_iff.1 h
   dsimp only at h
   have q29c := impl_give_2.ctr k' _ _ _ q29
   refine path_ok (k := 8) hF (RetQ_mild _ _ _ _ _ _ _ _) (ds := [.b false, .r [.ro (.ag [.v (.int .i64 t362), .sl 2 (r62 t363)])] []]) (os := []) (c := none) rfl KD ?_
   cases h
   exact ret_as (ms := [.ro]) rfl KD
set_option maxRecDepth 100000 in
set_option maxHeartbeats 4000000 in
theorem impl_give.c_l1 (k : Nat) (ih : Kp (∀ m, m < k → impl_give.C m)) (r1 : Int) (r2 : List (S62)) (w : World) (ro : Nat → Prop) (B : Nat) (hF : Fr TE (cx0 Tryd.f72 none w ro B)) (x73 : List (S62)) (x74 : Int) (x75 : Int) (x344000 : Int) (x370000 : Int) (x370001 : List (S62)) (h : impl_give.l1 k x73 x74 x75 x370000 x370001 = some (r1, r2)) : Kp (WS TE (cx0 Tryd.f72 none w ro B) (stkAt [1, 1, 1, 1, 1, 0, 1, 0, 1, 1, 1, 1, 1, 1, 1, 1, 1, 1, 1, 0, 1, 0, 1, 0] [] (bodyOf Tryd.f72) []) ⟨[(4, .pt 1004 0 0), (12, .pt 1012 0 0), (73, .sl 2 (r62 x73)), (74, .v (.int .i64 x74)), (75, .v (.int .i64 x75))], [(1004, .box 0 62 false [.v (.int .i64 x344000), .v (.slice none 0 0)]), (3769, .own 0 62 2 (r62 x370001)), (1012, .box 0 62 false [.v (.int .i64 x370000), .ow 3769 0])]⟩ (RetQ TE Tryd.f72 none [.ro (.ag [.v (.int .i64 r1), .sl 2 (r62 r2)])] [] w ro B)) := by
 refine ⟨WS.loop (fun m σ => m ≤ k ∧ impl_give.I1 r1 r2 m σ) k ⟨Nat.le_refl k, x73, x74, x75, x344000, x370000, x370001, h, rfl⟩ (fun m σ' hI J1 hJ1 => ?_)⟩
 clear h
 obtain ⟨hk, x73, x74, x75, x344000, x370000, x370001, h, rfl⟩ := hI
 cases m with
 | zero => simp [impl_give.l1] at h
 | succ k' =>
 simp only [impl_give.l1] at h
 by_cases c30 : x75 < x74
 · rw [if_pos c30] at h
   by_cases c31 : 0 ≤ x75
   · rw [if_pos c31] at h
     by_cases c32 : x75 < (x73.length : Int)
     · rw [if_pos c32] at h
       by_cases c33 : x370001.length + ((rd_T62 x73 x75).f1).length < 4398046511104
       · rw [if_pos c33] at h
         refine path_ok (k := 12) hF (RetQ_mild _ _ _ _ _ _ _ _) (ds := [.b true, .e 77 (.rf [.v (.int .i64 ((rd_T62 x73 x75).f0)), .sl 2 (r62 ((rd_T62 x73 x75).f1))]), .o 83 (r62 (x370001 ++ ((rd_T62 x73 x75).f1)))]) (os := []) (c := none) rfl KD ?_
         exact WS.lpc [(1004, some 1004), (1012, some 1012), (3769, some 3769)] (hJ1 _ _ (Nat.lt_succ_self _) ⟨by omega, x73, x74, (wrap64 (x75 + 1)), x344000, x370000, (x370001 ++ ((rd_T62 x73 x75).f1)), h, rfl⟩) KD
       · rw [if_neg c33] at h
         cases h
     · rw [if_neg c32] at h
       cases h
   · rw [if_neg c31] at h
     cases h
 · rw [if_neg c30] at h
   refine path_ok (k := 8) hF (RetQ_mild _ _ _ _ _ _ _ _) (ds := [.b false]) (os := []) (c := none) rfl KD ?_
   cases h
   exact ret_as (ms := [.ro]) rfl KD
set_option maxRecDepth 100000 in
set_option maxHeartbeats 4000000 in
theorem impl_give.c_l2 (k : Nat) (ih : Kp (∀ m, m < k → impl_give.C m)) (r1 : Int) (r2 : List (S62)) (w : World) (ro : Nat → Prop) (B : Nat) (hF : Fr TE (cx0 Tryd.f72 none w ro B)) (x15 : List Int) (x16 : Int) (x91 : List Int) (x92 : Int) (x93 : Int) (x344000 : Int) (h : impl_give.l2 k x15 x16 x91 x92 x93 = some (r1, r2)) : Kp (WS TE (cx0 Tryd.f72 none w ro B) (stkAt [1, 1, 1, 1, 1, 0, 1, 0, 1, 1, 1, 1, 1, 1, 1, 1, 1, 1, 1, 1, 1, 0, 1, 0, 1, 0] [] (bodyOf Tryd.f72) []) ⟨[(4, .pt 1004 0 0), (7, .v (.func (.func 101) #[] #[])), (15, .ow 1015 0), (16, .v (.int .i64 x16)), (91, .ow 1091 0), (92, .v (.int .i64 x92)), (93, .v (.int .i64 x93))], [(1004, .box 0 62 false [.v (.int .i64 x344000), .v (.slice none 0 0)]), (1015, .own 0 3 1 (rX (cI .i64) x15)), (1091, .own 0 3 1 (rX (cI .i64) x91))]⟩ (RetQ TE Tryd.f72 none [.ro (.ag [.v (.int .i64 r1), .sl 2 (r62 r2)])] [] w ro B)) := by
 refine ⟨WS.loop (fun m σ => m ≤ k ∧ impl_give.I2 r1 r2 m σ) k ⟨Nat.le_refl k, x15, x16, x91, x92, x93, x344000, h, rfl⟩ (fun m σ' hI J2 hJ2 => ?_)⟩
 clear h
 obtain ⟨hk, x15, x16, x91, x92, x93, x344000, h, rfl⟩ := hI
 cases m with
 | zero => simp [impl_give.l2] at h
 | succ k' =>
 simp only [impl_give.l2] at h
 by_cases c34 : x93 < x92
 · rw [if_pos c34] at h
   by_cases c35 : 0 ≤ x93
   · rw [if_pos c35] at h
     by_cases c36 : x93 < (x91.length : Int)
     · rw [if_pos c36] at h
       by_cases c37 : x15.length < 17592186044416
       · rw [if_pos c37] at h
         refine path_ok (k := 14) hF (RetQ_mild _ _ _ _ _ _ _ _) (ds := [.b true, .g [.v (.int .i64 (rd x91 x93))], .p 99 ([[.v (.int .i64 x16)]]), .o 100 (rX (cI .i64) (x15 ++ [x16])), .e 104 (.v (.int .i64 (Int.tmod (wrap64 (x16 + (rd x91 x93))) 10007)))]) (os := []) (c := none) rfl KD ?_
         exact WS.lpc [(1004, some 1004), (1015, some 1015), (1091, some 1091)] (hJ2 _ _ (Nat.lt_succ_self _) ⟨by omega, (x15 ++ [x16]), (Int.tmod (wrap64 (x16 + (rd x91 x93))) 10007), x91, x92, (wrap64 (x93 + 1)), x344000, h, rfl⟩) KD
       · rw [if_neg c37] at h
         cases h
     · rw [if_neg c36] at h
       cases h
   · rw [if_neg c35] at h
     cases h
 · rw [if_neg c34] at h
   obtain ⟨⟨t386, t387⟩, q38, h⟩ := Option.bind_eq_some_iff.1 h
   dsimp only at h
   have q38c := impl_give_2.ctr k' _ _ _ q38
   refine path_ok (k := 8) hF (RetQ_mild _ _ _ _ _ _ _ _) (ds := [.b false, .r [.ro (.ag [.v (.int .i64 t386), .sl 2 (r62 t387)])] []]) (os := []) (c := none) rfl KD ?_
   cases h
   exact ret_as (ms := [.ro]) rfl KD
theorem impl_give.cs (k : Nat) : impl_give.C k := by
 induction k using Nat.strongRecOn with
 | _ k ih0 =>
 have ih : Kp (∀ m, m < k → impl_give.C m) := ⟨ih0⟩
 exact ⟨impl_give.c_l0 k ih, impl_give.c_l1 k ih, impl_give.c_l2 k ih⟩
set_option maxRecDepth 100000 in
set_option maxHeartbeats 4000000 in
theorem impl_give.ctr (k : Nat) (a0 : ByteArray) (l1 : List (S62)) (r1 : Int) (r2 : List (S62)) (h : impl_give.f k a0 l1 = some (r1, r2)) : Ctr TE 72 none [.v (.string a0), .sl 2 (r62 l1)] [.ro (.ag [.v (.int .i64 r1), .sl 2 (r62 r2)])] [] := by
 refine ctr_of (fn := Tryd.f72) (c := (bodyOf Tryd.f72)) Tryd.func72 rfl (by kernel_rfl) (Nat.le_of_ble_eq_true (by kernel_rfl)) (fun w ro B hF _ => ?_)
 have ih : Kp (∀ m, m < k + 1 → impl_give.C m) := ⟨fun m _ => impl_give.cs m⟩
 simp only [impl_give.f] at h
 by_cases c1 : 0 < (l1.length : Int)
 · rw [if_pos c1] at h
   by_cases c2 : a0.toList = ([83] : List UInt8)
   · rw [if_pos c2] at h
     obtain ⟨⟨t346, t349⟩, q3, h⟩ := Option.bind_eq_some_iff.1 h
     dsimp only at h
     have q3c := impl_give_1.ctr k _ _ _ _ q3
     obtain ⟨t350, q4, h⟩ := Option.bind_eq_some_iff.1 h
     have q4c := impl_sum.ctr k _ _ q4
     refine path_ok (k := 20) hF (RetQ_mild _ _ _ _ _ _ _ _) (ds := [.e 21 (.rf [.v (.int .i64 ((rd_T62 l1 0).f0)), .sl 2 (r62 ((rd_T62 l1 0).f1))]), .b true, .r [.own 3 1 (rX (cI .i64) t346)] [.v (.int .i64 t349), .sl 2 (r62 ((rd_T62 l1 0).f1))], .r [.ro (.v (.int .i64 t350))] []]) (os := []) (c := none) rfl KD ?_
     cases h
     exact ret_as (ms := [.ro]) rfl KD
   · rw [if_neg c2] at h
     by_cases c5 : a0.toList = ([77] : List UInt8)
     · rw [if_pos c5] at h
       obtain ⟨⟨t351, t354⟩, q6, h⟩ := Option.bind_eq_some_iff.1 h
       dsimp only at h
       have q6c := impl_give_1.ctr k _ _ _ _ q6
       obtain ⟨t355, q7, h⟩ := Option.bind_eq_some_iff.1 h
       have q7c := impl_most.ctr _ _ q7
       refine path_ok (k := 23) hF (RetQ_mild _ _ _ _ _ _ _ _) (ds := [.e 21 (.rf [.v (.int .i64 ((rd_T62 l1 0).f0)), .sl 2 (r62 ((rd_T62 l1 0).f1))]), .b false, .b true, .r [.own 3 1 (rX (cI .i64) t351)] [.v (.int .i64 t354), .sl 2 (r62 ((rd_T62 l1 0).f1))], .r [.ro (.v (.int .i64 t355))] []]) (os := []) (c := none) rfl KD ?_
       cases h
       exact ret_as (ms := [.ro]) rfl KD
     · rw [if_neg c5] at h
       by_cases c8 : a0.toList = ([73] : List UInt8)
       · rw [if_pos c8] at h
         refine path_ok (k := 29) hF (RetQ_mild _ _ _ _ _ _ _ _) (ds := [.e 21 (.rf [.v (.int .i64 ((rd_T62 l1 0).f0)), .sl 2 (r62 ((rd_T62 l1 0).f1))]), .b false, .b false, .b true, .p 39 ([])]) (os := []) (c := none) rfl KD ?_
         exact WS.can [(1004, some 4), (1009, some 39)] (((ih.out k (by omega)).s_l0  r1 r2 w ro B hF (([] : List Int)) (mn ((rd_T62 l1 0).f0) 12) 0 0 h).out) KD
       · rw [if_neg c8] at h
         by_cases c9 : a0.toList = ([78] : List UInt8)
         · rw [if_pos c9] at h
           refine path_ok (k := 29) hF (RetQ_mild _ _ _ _ _ _ _ _) (ds := [.e 21 (.rf [.v (.int .i64 ((rd_T62 l1 0).f0)), .sl 2 (r62 ((rd_T62 l1 0).f1))]), .b false, .b false, .b false, .b true, .e 58 (.v (.int .i64 (((rd_T62 l1 0).f1).length : Int))), .e 59 (.v (.int .i64 ((((rd_T62 l1 0).f1).length : Int) % 10007)))]) (os := []) (c := none) rfl KD ?_
           cases h
           exact ret_as (ms := [.ro]) rfl KD
         · rw [if_neg c9] at h
           by_cases c10 : a0.toList = ([82] : List UInt8)
           · rw [if_pos c10] at h
             obtain ⟨t366, q11, h⟩ := Option.bind_eq_some_iff.1 h
             have q11c := slices_Clone_arr.ctr _ _ q11
             have q12 := slices_Reverse_arr.ctrR t366
             refine path_ok (k := 36) hF (RetQ_mild _ _ _ _ _ _ _ _) (ds := [.e 21 (.rf [.v (.int .i64 ((rd_T62 l1 0).f0)), .sl 2 (r62 ((rd_T62 l1 0).f1))]), .b false, .b false, .b false, .b false, .b true, .r [.own 62 2 (r62 t366)] [], .m (r62 t366.reverse)]) (os := []) (c := none) rfl KD ?_
             cases h
             exact ret_as (ms := [.ro]) rfl KD
           · rw [if_neg c10] at h
             by_cases c13 : a0.toList = ([67] : List UInt8)
             · rw [if_pos c13] at h
               refine path_ok (k := 38) hF (RetQ_mild _ _ _ _ _ _ _ _) (ds := [.e 21 (.rf [.v (.int .i64 ((rd_T62 l1 0).f0)), .sl 2 (r62 ((rd_T62 l1 0).f1))]), .b false, .b false, .b false, .b false, .b false, .b true, .e 74 (.v (.int .i64 (((rd_T62 l1 0).f1).length : Int)))]) (os := []) (c := none) rfl KD ?_
               exact WS.can [(1004, some 4), (1012, some 12), (3769, none)] (((ih.out k (by omega)).s_l1  r1 r2 w ro B hF ((rd_T62 l1 0).f1) (((rd_T62 l1 0).f1).length : Int) 0 0 0 ([] : List (S62)) h).out) KD
             · rw [if_neg c13] at h
               by_cases c14 : a0.toList = ([80] : List UInt8)
               · rw [if_pos c14] at h
                 obtain ⟨⟨t378, t381⟩, q15, h⟩ := Option.bind_eq_some_iff.1 h
                 dsimp only at h
                 have q15c := impl_give_1.ctr k _ _ _ _ q15
                 refine path_ok (k := 41) hF (RetQ_mild _ _ _ _ _ _ _ _) (ds := [.e 21 (.rf [.v (.int .i64 ((rd_T62 l1 0).f0)), .sl 2 (r62 ((rd_T62 l1 0).f1))]), .b false, .b false, .b false, .b false, .b false, .b false, .b true, .p 89 ([]), .r [.own 3 1 (rX (cI .i64) t378)] [.v (.int .i64 t381), .sl 2 (r62 ((rd_T62 l1 0).f1))], .e 92 (.v (.int .i64 (t378.length : Int)))]) (os := []) (c := none) rfl KD ?_
                 exact WS.can [(1004, some 4), (1015, some 89), (1091, some 101456)] (((ih.out k (by omega)).s_l2  r1 r2 w ro B hF (([] : List Int)) 0 t378 (t378.length : Int) 0 0 h).out) KD
               · rw [if_neg c14] at h
                 by_cases c16 : 1 < (l1.length : Int)
                 · rw [if_pos c16] at h
                   by_cases c17 : a0.toList = ([43] : List UInt8)
                   · rw [if_pos c17] at h
                     refine path_ok (k := 49) hF (RetQ_mild _ _ _ _ _ _ _ _) (ds := [.e 21 (.rf [.v (.int .i64 ((rd_T62 l1 0).f0)), .sl 2 (r62 ((rd_T62 l1 0).f1))]), .b false, .b false, .b false, .b false, .b false, .b false, .b false, .e 110 (.rf [.v (.int .i64 ((rd_T62 l1 1).f0)), .sl 2 (r62 ((rd_T62 l1 1).f1))]), .b true, .e 120 (.v (.int .i64 (Int.tmod (wrap64 (((rd_T62 l1 0).f0) + ((rd_T62 l1 1).f0))) 10007)))]) (os := []) (c := none) rfl KD ?_
                     cases h
                     exact ret_as (ms := [.ro]) rfl KD
                   · rw [if_neg c17] at h
                     by_cases c18 : a0.toList = ([42] : List UInt8)
                     · rw [if_pos c18] at h
                       refine path_ok (k := 52) hF (RetQ_mild _ _ _ _ _ _ _ _) (ds := [.e 21 (.rf [.v (.int .i64 ((rd_T62 l1 0).f0)), .sl 2 (r62 ((rd_T62 l1 0).f1))]), .b false, .b false, .b false, .b false, .b false, .b false, .b false, .e 110 (.rf [.v (.int .i64 ((rd_T62 l1 1).f0)), .sl 2 (r62 ((rd_T62 l1 1).f1))]), .b false, .b true, .e 128 (.v (.int .i64 (Int.tmod (wrap64 (((rd_T62 l1 0).f0) * ((rd_T62 l1 1).f0))) 10007)))]) (os := []) (c := none) rfl KD ?_
                       cases h
                       exact ret_as (ms := [.ro]) rfl KD
                     · rw [if_neg c18] at h
                       by_cases c19 : a0.toList = ([94] : List UInt8)
                       · rw [if_pos c19] at h
                         refine path_ok (k := 55) hF (RetQ_mild _ _ _ _ _ _ _ _) (ds := [.e 21 (.rf [.v (.int .i64 ((rd_T62 l1 0).f0)), .sl 2 (r62 ((rd_T62 l1 0).f1))]), .b false, .b false, .b false, .b false, .b false, .b false, .b false, .e 110 (.rf [.v (.int .i64 ((rd_T62 l1 1).f0)), .sl 2 (r62 ((rd_T62 l1 1).f1))]), .b false, .b false, .b true]) (os := []) (c := none) rfl KD ?_
                         cases h
                         exact ret_as (ms := [.ro]) rfl KD
                       · rw [if_neg c19] at h
                         by_cases c20 : a0.toList = ([45] : List UInt8)
                         · rw [if_pos c20] at h
                           refine path_ok (k := 58) hF (RetQ_mild _ _ _ _ _ _ _ _) (ds := [.e 21 (.rf [.v (.int .i64 ((rd_T62 l1 0).f0)), .sl 2 (r62 ((rd_T62 l1 0).f1))]), .b false, .b false, .b false, .b false, .b false, .b false, .b false, .e 110 (.rf [.v (.int .i64 ((rd_T62 l1 1).f0)), .sl 2 (r62 ((rd_T62 l1 1).f1))]), .b false, .b false, .b false, .b true]) (os := []) (c := none) rfl KD ?_
                           cases h
                           exact ret_as (ms := [.ro]) rfl KD
                         · rw [if_neg c20] at h
                           by_cases c21 : a0.toList = ([61] : List UInt8)
                           · rw [if_pos c21] at h
                             obtain ⟨⟨t391, t392⟩, q22, h⟩ := Option.bind_eq_some_iff.1 h
                             dsimp only at h
                             have q22c := impl_give_3.ctr _ _ _ q22
                             refine path_ok (k := 61) hF (RetQ_mild _ _ _ _ _ _ _ _) (ds := [.e 21 (.rf [.v (.int .i64 ((rd_T62 l1 0).f0)), .sl 2 (r62 ((rd_T62 l1 0).f1))]), .b false, .b false, .b false, .b false, .b false, .b false, .b false, .e 110 (.rf [.v (.int .i64 ((rd_T62 l1 1).f0)), .sl 2 (r62 ((rd_T62 l1 1).f1))]), .b false, .b false, .b false, .b false, .b true, .r [.ro (.ag [.v (.int .i64 t391), .sl 2 (r62 t392)])] []]) (os := []) (c := none) rfl KD ?_
                             cases h
                             exact ret_as (ms := [.ro]) rfl KD
                           · rw [if_neg c21] at h
                             by_cases c23 : a0.toList = ([60] : List UInt8)
                             · rw [if_pos c23] at h
                               obtain ⟨⟨t395, t396⟩, q24, h⟩ := Option.bind_eq_some_iff.1 h
                               dsimp only at h
                               have q24c := impl_give_3.ctr _ _ _ q24
                               refine path_ok (k := 64) hF (RetQ_mild _ _ _ _ _ _ _ _) (ds := [.e 21 (.rf [.v (.int .i64 ((rd_T62 l1 0).f0)), .sl 2 (r62 ((rd_T62 l1 0).f1))]), .b false, .b false, .b false, .b false, .b false, .b false, .b false, .e 110 (.rf [.v (.int .i64 ((rd_T62 l1 1).f0)), .sl 2 (r62 ((rd_T62 l1 1).f1))]), .b false, .b false, .b false, .b false, .b false, .b true, .r [.ro (.ag [.v (.int .i64 t395), .sl 2 (r62 t396)])] []]) (os := []) (c := none) rfl KD ?_
                               cases h
                               exact ret_as (ms := [.ro]) rfl KD
                             · rw [if_neg c23] at h
                               by_cases c25 : ((rd_T62 l1 1).f0) < (((rd_T62 l1 0).f1).length : Int)
                               · rw [if_pos c25] at h
                                 by_cases c26 : 0 ≤ ((rd_T62 l1 1).f0)
                                 · rw [if_pos c26] at h
                                   refine path_ok (k := 70) hF (RetQ_mild _ _ _ _ _ _ _ _) (ds := [.e 21 (.rf [.v (.int .i64 ((rd_T62 l1 0).f0)), .sl 2 (r62 ((rd_T62 l1 0).f1))]), .b false, .b false, .b false, .b false, .b false, .b false, .b false, .e 110 (.rf [.v (.int .i64 ((rd_T62 l1 1).f0)), .sl 2 (r62 ((rd_T62 l1 1).f1))]), .b false, .b false, .b false, .b false, .b false, .b false, .e 164 (.v (.int .i64 (((rd_T62 l1 0).f1).length : Int))), .b true, .e 169 (.rf [.v (.int .i64 ((rd_T62 ((rd_T62 l1 0).f1) ((rd_T62 l1 1).f0)).f0)), .sl 2 (r62 ((rd_T62 ((rd_T62 l1 0).f1) ((rd_T62 l1 1).f0)).f1))])]) (os := []) (c := none) rfl KD ?_
                                   cases h
                                   exact ret_as (ms := [.ro]) rfl KD
                                 · rw [if_neg c26] at h
                                   cases h
                               · rw [if_neg c25] at h
                                 refine path_ok (k := 71) hF (RetQ_mild _ _ _ _ _ _ _ _) (ds := [.e 21 (.rf [.v (.int .i64 ((rd_T62 l1 0).f0)), .sl 2 (r62 ((rd_T62 l1 0).f1))]), .b false, .b false, .b false, .b false, .b false, .b false, .b false, .e 110 (.rf [.v (.int .i64 ((rd_T62 l1 1).f0)), .sl 2 (r62 ((rd_T62 l1 1).f1))]), .b false, .b false, .b false, .b false, .b false, .b false, .e 164 (.v (.int .i64 (((rd_T62 l1 0).f1).length : Int))), .b false]) (os := []) (c := none) rfl KD ?_
                                 cases h
                                 exact ret_as (ms := [.ro]) rfl KD
                 · rw [if_neg c16] at h
                   cases h
 · rw [if_neg c1] at h
   cases h
mutual
def impl_ApplySign.l0 : Nat → ByteArray → Int → List (S62) → List Int → List ByteArray → Int → Int → Option (ByteArray × Bool)
  | 0, _, _, _, _, _, _, _ => none
  | k + 1, x0, x2, x8, x9, x18, x19, x20 => if x20 < x19 then (if 0 ≤ x20 then (if x20 < (x18.length : Int) then (if x20 > 0 then ((impl_arrOf.f k (rdOf ByteArray.empty x18 x20) 0).bind fun bt407 => (if bt407.2.2 = true then (if x8.length < 4398046511104 then (if x9.length < 17592186044416 then (impl_ApplySign.l0 k x0 x2 (x8 ++ [(⟨bt407.1, bt407.2.1⟩ : S62)]) (x9 ++ [0]) x18 x19 (wrap64 (x20 + 1))) else (none)) else (none)) else (some ((⟨#[]⟩ : ByteArray), false)))) else ((impl_arrOf.f k (rdOf ByteArray.empty x18 x20) x2).bind fun bt419 => (if bt419.2.2 = true then (if x8.length < 4398046511104 then (if x9.length < 17592186044416 then (impl_ApplySign.l0 k x0 x2 (x8 ++ [(⟨bt419.1, bt419.2.1⟩ : S62)]) (x9 ++ [x2]) x18 x19 (wrap64 (x20 + 1))) else (none)) else (none)) else (some ((⟨#[]⟩ : ByteArray), false))))) else (none)) else (none)) else ((impl_signDepth.f k x0 x9).bind fun t431 => (if (x0.size : Int) = 1 then (impl_ApplySign.j1 k x0 x8 t431 (decide (t431 < 0))) else (impl_ApplySign.j1 k x0 x8 t431 true)))
def impl_ApplySign.j1 : Nat → ByteArray → List (S62) → Int → Bool → Option (ByteArray × Bool)
  | 0, _, _, _, _ => none
  | k + 1, x0, x8, x15, x54 => if x54 = true then (some ((⟨#[]⟩ : ByteArray), false)) else ((impl_give.f k x0 x8).bind fun bt432 => ((impl_arr_short.f k bt432.1 bt432.2 x15).bind fun bt436 => (some (bt436.1, bt436.2))))
end
def impl_ApplySign.f (k : Nat) (a0 : ByteArray) (l1 : List ByteArray) (a2 : Int) : Option (ByteArray × Bool) := impl_ApplySign.l0 k a0 a2 (([] : List (S62))) (([] : List Int)) l1 (l1.length : Int) 0
def impl_ApplySign.I0 (r1 : ByteArray) (r2 : Bool) (m : Nat) (σ : St) : Prop := ∃ (x0 : ByteArray) (x2 : Int) (x8 : List (S62)) (x9 : List Int) (x18 : List ByteArray) (x19 : Int) (x20 : Int), impl_ApplySign.l0 m x0 x2 x8 x9 x18 x19 x20 = some (r1, r2) ∧ σ = ⟨[(0, .v (.string x0)), (2, .v (.int .i64 x2)), (8, .ow 1008 0), (9, .ow 1009 0), (18, .sl 1 (rX cS x18)), (19, .v (.int .i64 x19)), (20, .v (.int .i64 x20))], [(1008, .own 0 62 2 (r62 x8)), (1009, .own 0 3 1 (rX (cI .i64) x9))]⟩
structure impl_ApplySign.C (k : Nat) : Prop where
 s_l0 : ∀ (r1 : ByteArray) (r2 : Bool) (w : World) (ro : Nat → Prop) (B : Nat) (_ : Fr TE (cx0 Tryd.f35 none w ro B)) (x0 : ByteArray) (x2 : Int) (x8 : List (S62)) (x9 : List Int) (x18 : List ByteArray) (x19 : Int) (x20 : Int) (_ : impl_ApplySign.l0 k x0 x2 x8 x9 x18 x19 x20 = some (r1, r2)), Kp (WS TE (cx0 Tryd.f35 none w ro B) (stkAt [1, 1, 0, 1, 0] [] (bodyOf Tryd.f35) []) ⟨[(0, .v (.string x0)), (2, .v (.int .i64 x2)), (8, .ow 1008 0), (9, .ow 1009 0), (18, .sl 1 (rX cS x18)), (19, .v (.int .i64 x19)), (20, .v (.int .i64 x20))], [(1008, .own 0 62 2 (r62 x8)), (1009, .own 0 3 1 (rX (cI .i64) x9))]⟩ (RetQ TE Tryd.f35 none [.ro (.v (.string r1)), .ro (.v (.bool r2))] [] w ro B))
 s_j1 : ∀ (r1 : ByteArray) (r2 : Bool) (w : World) (ro : Nat → Prop) (B : Nat) (_ : Fr TE (cx0 Tryd.f35 none w ro B)) (x0 : ByteArray) (x8 : List (S62)) (x15 : Int) (x54 : Bool) (_ : impl_ApplySign.j1 k x0 x8 x15 x54 = some (r1, r2)), Kp (WS TE (cx0 Tryd.f35 none w ro B) (stkAt [1, 1, 1, 1, 0, 0, 9] [] (bodyOf Tryd.f35) []) ⟨[(0, .v (.string x0)), (8, .ow 1008 0), (15, .v (.int .i64 x15)), (54, .v (.bool x54))], [(1008, .own 0 62 2 (r62 x8))]⟩ (RetQ TE Tryd.f35 none [.ro (.v (.string r1)), .ro (.v (.bool r2))] [] w ro B))
set_option maxRecDepth 100000 in
set_option maxHeartbeats 4000000 in
theorem impl_ApplySign.c_l0 (k : Nat) (ih : Kp (∀ m, m < k → impl_ApplySign.C m)) (r1 : ByteArray) (r2 : Bool) (w : World) (ro : Nat → Prop) (B : Nat) (hF : Fr TE (cx0 Tryd.f35 none w ro B)) (x0 : ByteArray) (x2 : Int) (x8 : List (S62)) (x9 : List Int) (x18 : List ByteArray) (x19 : Int) (x20 : Int) (h : impl_ApplySign.l0 k x0 x2 x8 x9 x18 x19 x20 = some (r1, r2)) : Kp (WS TE (cx0 Tryd.f35 none w ro B) (stkAt [1, 1, 0, 1, 0] [] (bodyOf Tryd.f35) []) ⟨[(0, .v (.string x0)), (2, .v (.int .i64 x2)), (8, .ow 1008 0), (9, .ow 1009 0), (18, .sl 1 (rX cS x18)), (19, .v (.int .i64 x19)), (20, .v (.int .i64 x20))], [(1008, .own 0 62 2 (r62 x8)), (1009, .own 0 3 1 (rX (cI .i64) x9))]⟩ (RetQ TE Tryd.f35 none [.ro (.v (.string r1)), .ro (.v (.bool r2))] [] w ro B)) := by
 refine ⟨WS.loop (fun m σ => m ≤ k ∧ impl_ApplySign.I0 r1 r2 m σ) k ⟨Nat.le_refl k, x0, x2, x8, x9, x18, x19, x20, h, rfl⟩ (fun m σ' hI J0 hJ0 => ?_)⟩
 clear h
 obtain ⟨hk, x0, x2, x8, x9, x18, x19, x20, h, rfl⟩ := hI
 cases m with
 | zero => simp [impl_ApplySign.l0] at h
 | succ k' =>
 simp only [impl_ApplySign.l0] at h
 by_cases c1 : x20 < x19
 · rw [if_pos c1] at h
   by_cases c2 : 0 ≤ x20
   · rw [if_pos c2] at h
     by_cases c3 : x20 < (x18.length : Int)
     · rw [if_pos c3] at h
       by_cases c4 : x20 > 0
       · rw [if_pos c4] at h
         obtain ⟨⟨t407, t408, t411⟩, q5, h⟩ := Option.bind_eq_some_iff.1 h
         dsimp only at h
         have q5c := impl_arrOf.ctr k' _ _ _ _ _ q5
         by_cases c6 : t411 = true
         · rw [if_pos c6] at h
           by_cases c7 : x8.length < 4398046511104
           · rw [if_pos c7] at h
             by_cases c8 : x9.length < 17592186044416
             · rw [if_pos c8] at h
               refine path_ok (k := 28) hF (RetQ_mild _ _ _ _ _ _ _ _) (ds := [.b true, .e 23 (.rf [.v (.string (rdOf ByteArray.empty x18 x20))]), .b true, .r [.ro (.ag [.v (.int .i64 t407), .sl 2 (r62 t408)]), .ro (.v (.bool t411))] [], .b false, .p 38 ([[.v (.int .i64 t407), .sl 2 (r62 t408)]]), .o 39 (r62 (x8 ++ [(⟨t407, t408⟩ : S62)])), .p 42 ([[.v (.int .i64 0)]]), .o 43 (rX (cI .i64) (x9 ++ [0]))]) (os := []) (c := none) rfl KD ?_
               exact WS.lpc [(1008, some 1008), (1009, some 1009)] (hJ0 _ _ (Nat.lt_succ_self _) ⟨by omega, x0, x2, (x8 ++ [(⟨t407, t408⟩ : S62)]), (x9 ++ [0]), x18, x19, (wrap64 (x20 + 1)), h, rfl⟩) KD
             · rw [if_neg c8] at h
               cases h
           · rw [if_neg c7] at h
             cases h
         · rw [if_neg c6] at h
           refine path_ok (k := 25) hF (RetQ_mild _ _ _ _ _ _ _ _) (ds := [.b true, .e 23 (.rf [.v (.string (rdOf ByteArray.empty x18 x20))]), .b true, .r [.ro (.ag [.v (.int .i64 t407), .sl 2 (r62 t408)]), .ro (.v (.bool t411))] [], .b true]) (os := []) (c := none) rfl KD ?_
           cases h
           exact ret_as (ms := [.ro, .ro]) rfl KD
       · rw [if_neg c4] at h
         obtain ⟨⟨t419, t420, t423⟩, q9, h⟩ := Option.bind_eq_some_iff.1 h
         dsimp only at h
         have q9c := impl_arrOf.ctr k' _ _ _ _ _ q9
         by_cases c10 : t423 = true
         · rw [if_pos c10] at h
           by_cases c11 : x8.length < 4398046511104
           · rw [if_pos c11] at h
             by_cases c12 : x9.length < 17592186044416
             · rw [if_pos c12] at h
               refine path_ok (k := 28) hF (RetQ_mild _ _ _ _ _ _ _ _) (ds := [.b true, .e 23 (.rf [.v (.string (rdOf ByteArray.empty x18 x20))]), .b false, .r [.ro (.ag [.v (.int .i64 t419), .sl 2 (r62 t420)]), .ro (.v (.bool t423))] [], .b false, .p 38 ([[.v (.int .i64 t419), .sl 2 (r62 t420)]]), .o 39 (r62 (x8 ++ [(⟨t419, t420⟩ : S62)])), .p 42 ([[.v (.int .i64 x2)]]), .o 43 (rX (cI .i64) (x9 ++ [x2]))]) (os := []) (c := none) rfl KD ?_
               exact WS.lpc [(1008, some 1008), (1009, some 1009)] (hJ0 _ _ (Nat.lt_succ_self _) ⟨by omega, x0, x2, (x8 ++ [(⟨t419, t420⟩ : S62)]), (x9 ++ [x2]), x18, x19, (wrap64 (x20 + 1)), h, rfl⟩) KD
             · rw [if_neg c12] at h
               cases h
           · rw [if_neg c11] at h
             cases h
         · rw [if_neg c10] at h
           refine path_ok (k := 25) hF (RetQ_mild _ _ _ _ _ _ _ _) (ds := [.b true, .e 23 (.rf [.v (.string (rdOf ByteArray.empty x18 x20))]), .b false, .r [.ro (.ag [.v (.int .i64 t419), .sl 2 (r62 t420)]), .ro (.v (.bool t423))] [], .b true]) (os := []) (c := none) rfl KD ?_
           cases h
           exact ret_as (ms := [.ro, .ro]) rfl KD
     · rw [if_neg c3] at h
       cases h
   · rw [if_neg c2] at h
     cases h
 · rw [if_neg c1] at h
   obtain ⟨t431, q13, h⟩ := Option.bind_eq_some_iff.1 h
   have q13c := impl_signDepth.ctr k' _ _ _ q13
   by_cases c14 : (x0.size : Int) = 1
   · rw [if_pos c14] at h
     refine path_ok (k := 10) hF (RetQ_mild _ _ _ _ _ _ _ _) (ds := [.b false, .r [.ro (.v (.int .i64 t431))] [], .b false, .b false, .b false]) (os := []) (c := none) rfl KD ?_
     exact WS.can [(1008, some 1008)] (((ih.out k' (by omega)).s_j1  r1 r2 w ro B hF x0 x8 t431 (decide (t431 < 0)) h).out) KD
   · rw [if_neg c14] at h
     refine path_ok (k := 10) hF (RetQ_mild _ _ _ _ _ _ _ _) (ds := [.b false, .r [.ro (.v (.int .i64 t431))] [], .b true, .b true, .b true]) (os := []) (c := none) rfl KD ?_
     exact WS.can [(1008, some 1008)] (((ih.out k' (by omega)).s_j1  r1 r2 w ro B hF x0 x8 t431 true h).out) KD
set_option maxRecDepth 100000 in
set_option maxHeartbeats 4000000 in
theorem impl_ApplySign.c_j1 (k : Nat) (ih : Kp (∀ m, m < k → impl_ApplySign.C m)) (r1 : ByteArray) (r2 : Bool) (w : World) (ro : Nat → Prop) (B : Nat) (hF : Fr TE (cx0 Tryd.f35 none w ro B)) (x0 : ByteArray) (x8 : List (S62)) (x15 : Int) (x54 : Bool) (h : impl_ApplySign.j1 k x0 x8 x15 x54 = some (r1, r2)) : Kp (WS TE (cx0 Tryd.f35 none w ro B) (stkAt [1, 1, 1, 1, 0, 0, 9] [] (bodyOf Tryd.f35) []) ⟨[(0, .v (.string x0)), (8, .ow 1008 0), (15, .v (.int .i64 x15)), (54, .v (.bool x54))], [(1008, .own 0 62 2 (r62 x8))]⟩ (RetQ TE Tryd.f35 none [.ro (.v (.string r1)), .ro (.v (.bool r2))] [] w ro B)) := by
 refine ⟨?_⟩
 cases k with
 | zero => simp [impl_ApplySign.j1] at h
 | succ k =>
 simp only [impl_ApplySign.j1] at h
 by_cases c15 : x54 = true
 · rw [if_pos c15] at h
   refine path_ok (k := 4) hF (RetQ_mild _ _ _ _ _ _ _ _) (ds := [.b true]) (os := []) (c := none) rfl KD ?_
   cases h
   exact ret_as (ms := [.ro, .ro]) rfl KD
 · rw [if_neg c15] at h
   obtain ⟨⟨t432, t433⟩, q16, h⟩ := Option.bind_eq_some_iff.1 h
   dsimp only at h
   have q16c := impl_give.ctr k _ _ _ _ q16
   obtain ⟨⟨t436, t437⟩, q17, h⟩ := Option.bind_eq_some_iff.1 h
   dsimp only at h
   have q17c := impl_arr_short.ctr k _ _ _ _ _ q17
   refine path_ok (k := 5) hF (RetQ_mild _ _ _ _ _ _ _ _) (ds := [.b false, .r [.ro (.ag [.v (.int .i64 t432), .sl 2 (r62 t433)])] [], .r [.ro (.v (.string t436)), .ro (.v (.bool t437))] []]) (os := []) (c := none) rfl KD ?_
   cases h
   exact ret_as (ms := [.ro, .ro]) rfl KD
theorem impl_ApplySign.cs (k : Nat) : impl_ApplySign.C k := by
 induction k using Nat.strongRecOn with
 | _ k ih0 =>
 have ih : Kp (∀ m, m < k → impl_ApplySign.C m) := ⟨ih0⟩
 exact ⟨impl_ApplySign.c_l0 k ih, impl_ApplySign.c_j1 k ih⟩
set_option maxRecDepth 100000 in
set_option maxHeartbeats 4000000 in
theorem impl_ApplySign.ctr (k : Nat) (a0 : ByteArray) (l1 : List ByteArray) (a2 : Int) (r1 : ByteArray) (r2 : Bool) (h : impl_ApplySign.f k a0 l1 a2 = some (r1, r2)) : Ctr TE 35 none [.v (.string a0), .sl 1 (rX cS l1), .v (.int .i64 a2)] [.ro (.v (.string r1)), .ro (.v (.bool r2))] [] := by
 refine ctr_of (fn := Tryd.f35) (c := (bodyOf Tryd.f35)) Tryd.func35 rfl (by kernel_rfl) (Nat.le_of_ble_eq_true (by kernel_rfl)) (fun w ro B hF _ => ?_)
 have ih : Kp (∀ m, m < k + 1 → impl_ApplySign.C m) := ⟨fun m _ => impl_ApplySign.cs m⟩
 simp only [impl_ApplySign.f] at h
 refine path_ok (k := 8) hF (RetQ_mild _ _ _ _ _ _ _ _) (ds := [.p 16 ([]), .p 17 ([]), .e 19 (.v (.int .i64 (l1.length : Int)))]) (os := []) (c := none) rfl KD ?_
 exact WS.can [(1008, some 16), (1009, some 17)] (((ih.out k (by omega)).s_l0  r1 r2 w ro B hF a0 a2 (([] : List (S62))) (([] : List Int)) l1 (l1.length : Int) 0 h).out) KD
def laws_FnExactApplySign.j0 : Nat → List ByteArray → List ByteArray → Bool → Option (Bool)
  | 0, _, _, _ => none
  | k + 1, x1, x10, x45 => if x45 = true then (some false) else ((laws_toStringS.f k x1).bind fun t449 => ((laws_eqStringS.f k x10 t449).bind fun t452 => (if t452 = true then (some true) else (some false))))
def laws_FnExactApplySign.f (k : Nat) (a0 : ByteArray) (l1 : List ByteArray) (a2 : Int) : Option (Bool) := if (a0.size : Int) > 1048576 then (some true) else ((laws_szStringS.f k l1 1048576).bind fun t438 => (if t438 < 0 then (some true) else ((laws_toStringS.f k l1).bind fun t439 => ((spec_ApplySign.f k a0 t439 a2).bind fun bt442 => ((laws_toStringS.f k l1).bind fun t444 => ((impl_ApplySign.f k a0 t444 a2).bind fun bt447 => (if bt447.1.toList = bt442.1.toList then (laws_FnExactApplySign.j0 k l1 t444 (bt447.2 != bt442.2)) else (laws_FnExactApplySign.j0 k l1 t444 true))))))))
structure laws_FnExactApplySign.C (k : Nat) : Prop where
 s_j0 : ∀ (r : Bool) (w : World) (ro : Nat → Prop) (B : Nat) (_ : Fr TE (cx0 Tryd.f6 none w ro B)) (x1 : List ByteArray) (x10 : List ByteArray) (x45 : Bool) (_ : laws_FnExactApplySign.j0 k x1 x10 x45 = some r), Kp (WS TE (cx0 Tryd.f6 none w ro B) (stkAt [1, 1, 1, 1, 1, 1, 1, 1, 0, 0, 9] [] (bodyOf Tryd.f6) []) ⟨[(1, .sl 1 (rX cS x1)), (10, .sl 1 (rX cS x10)), (45, .v (.bool x45))], []⟩ (RetQ TE Tryd.f6 none [.ro (.v (.bool r))] [] w ro B))
set_option maxRecDepth 100000 in
set_option maxHeartbeats 4000000 in
theorem laws_FnExactApplySign.c_j0 (k : Nat) (ih : Kp (∀ m, m < k → laws_FnExactApplySign.C m)) (r : Bool) (w : World) (ro : Nat → Prop) (B : Nat) (hF : Fr TE (cx0 Tryd.f6 none w ro B)) (x1 : List ByteArray) (x10 : List ByteArray) (x45 : Bool) (h : laws_FnExactApplySign.j0 k x1 x10 x45 = some r) : Kp (WS TE (cx0 Tryd.f6 none w ro B) (stkAt [1, 1, 1, 1, 1, 1, 1, 1, 0, 0, 9] [] (bodyOf Tryd.f6) []) ⟨[(1, .sl 1 (rX cS x1)), (10, .sl 1 (rX cS x10)), (45, .v (.bool x45))], []⟩ (RetQ TE Tryd.f6 none [.ro (.v (.bool r))] [] w ro B)) := by
 refine ⟨?_⟩
 cases k with
 | zero => simp [laws_FnExactApplySign.j0] at h
 | succ k =>
 simp only [laws_FnExactApplySign.j0] at h
 by_cases c9 : x45 = true
 · rw [if_pos c9] at h
   refine path_ok (k := 4) hF (RetQ_mild _ _ _ _ _ _ _ _) (ds := [.b true]) (os := []) (c := none) rfl KD ?_
   cases h
   exact ret_as (ms := [.ro]) rfl KD
 · rw [if_neg c9] at h
   obtain ⟨t449, q10, h⟩ := Option.bind_eq_some_iff.1 h
   have q10c := laws_toStringS.ctr k _ _ q10
   obtain ⟨t452, q11, h⟩ := Option.bind_eq_some_iff.1 h
   have q11c := laws_eqStringS.ctr k _ _ _ q11
   by_cases c12 : t452 = true
   · rw [if_pos c12] at h
     refine path_ok (k := 10) hF (RetQ_mild _ _ _ _ _ _ _ _) (ds := [.b false, .r [.own 9 1 (rX cS t449)] [], .r [.ro (.v (.bool t452))] [], .b false]) (os := []) (c := none) rfl KD ?_
     cases h
     exact ret_as (ms := [.ro]) rfl KD
   · rw [if_neg c12] at h
     refine path_ok (k := 9) hF (RetQ_mild _ _ _ _ _ _ _ _) (ds := [.b false, .r [.own 9 1 (rX cS t449)] [], .r [.ro (.v (.bool t452))] [], .b true]) (os := []) (c := none) rfl KD ?_
     cases h
     exact ret_as (ms := [.ro]) rfl KD
theorem laws_FnExactApplySign.cs (k : Nat) : laws_FnExactApplySign.C k := by
 induction k using Nat.strongRecOn with
 | _ k ih0 =>
 have ih : Kp (∀ m, m < k → laws_FnExactApplySign.C m) := ⟨ih0⟩
 exact ⟨laws_FnExactApplySign.c_j0 k ih⟩
set_option maxRecDepth 100000 in
set_option maxHeartbeats 4000000 in
theorem laws_FnExactApplySign.ctr (k : Nat) (a0 : ByteArray) (l1 : List ByteArray) (a2 : Int) (r : Bool) (h : laws_FnExactApplySign.f k a0 l1 a2 = some r) : Ctr TE 6 none [.v (.string a0), .sl 1 (rX cS l1), .v (.int .i64 a2)] [.ro (.v (.bool r))] [] := by
 refine ctr_of (fn := Tryd.f6) (c := (bodyOf Tryd.f6)) Tryd.func6 rfl (by kernel_rfl) (Nat.le_of_ble_eq_true (by kernel_rfl)) (fun w ro B hF _ => ?_)
 have ih : Kp (∀ m, m < k + 1 → laws_FnExactApplySign.C m) := ⟨fun m _ => laws_FnExactApplySign.cs m⟩
 simp only [laws_FnExactApplySign.f] at h
 by_cases c1 : (a0.size : Int) > 1048576
 · rw [if_pos c1] at h
   refine path_ok (k := 9) hF (RetQ_mild _ _ _ _ _ _ _ _) (ds := [.b true]) (os := []) (c := none) rfl KD ?_
   cases h
   exact ret_as (ms := [.ro]) rfl KD
 · rw [if_neg c1] at h
   obtain ⟨t438, q2, h⟩ := Option.bind_eq_some_iff.1 h
   have q2c := laws_szStringS.ctr k _ _ _ q2
   by_cases c3 : t438 < 0
   · rw [if_pos c3] at h
     refine path_ok (k := 18) hF (RetQ_mild _ _ _ _ _ _ _ _) (ds := [.b false, .r [.ro (.v (.int .i64 t438))] [], .b true]) (os := []) (c := none) rfl KD ?_
     cases h
     exact ret_as (ms := [.ro]) rfl KD
   · rw [if_neg c3] at h
     obtain ⟨t439, q4, h⟩ := Option.bind_eq_some_iff.1 h
     have q4c := laws_toStringS.ctr k _ _ q4
     obtain ⟨⟨t442, t443⟩, q5, h⟩ := Option.bind_eq_some_iff.1 h
     dsimp only at h
     have q5c := spec_ApplySign.ctr k _ _ _ _ _ q5
     obtain ⟨t444, q6, h⟩ := Option.bind_eq_some_iff.1 h
     have q6c := laws_toStringS.ctr k _ _ q6
     obtain ⟨⟨t447, t448⟩, q7, h⟩ := Option.bind_eq_some_iff.1 h
     dsimp only at h
     have q7c := impl_ApplySign.ctr k _ _ _ _ _ q7
     by_cases c8 : t447.toList = t442.toList
     · rw [if_pos c8] at h
       refine path_ok (k := 25) hF (RetQ_mild _ _ _ _ _ _ _ _) (ds := [.b false, .r [.ro (.v (.int .i64 t438))] [], .b false, .r [.own 9 1 (rX cS t439)] [], .r [.ro (.v (.string t442)), .ro (.v (.bool t443))] [], .r [.own 9 1 (rX cS t444)] [], .r [.ro (.v (.string t447)), .ro (.v (.bool t448))] [], .b false, .b false, .b false, .b false]) (os := []) (c := none) rfl KD ?_
       exact WS.can [] (((ih.out k (by omega)).s_j0  r w ro B hF l1 t444 (t448 != t443) h).out) KD
     · rw [if_neg c8] at h
       refine path_ok (k := 25) hF (RetQ_mild _ _ _ _ _ _ _ _) (ds := [.b false, .r [.ro (.v (.int .i64 t438))] [], .b false, .r [.own 9 1 (rX cS t439)] [], .r [.ro (.v (.string t442)), .ro (.v (.bool t443))] [], .r [.own 9 1 (rX cS t444)] [], .r [.ro (.v (.string t447)), .ro (.v (.bool t448))] [], .b true, .b true, .b true, .b true]) (os := []) (c := none) rfl KD ?_
       exact WS.can [] (((ih.out k (by omega)).s_j0  r w ro B hF l1 t444 true h).out) KD
end Go.Proofs.YtoloblgjlnhioaaDoor.H
