/- A part of the claim. -/
import Derived.Test.YtoloblgjlnhioaaGreatDoorIFx0
import Derived.Test.YtoloblgjlnhioaaGreatDoorIFx1
import Derived.Test.YtoloblgjlnhioaaGreatDoorIFx2
import Derived.Test.YtoloblgjlnhioaaGreatDoorIFx3
import Derived.Test.YtoloblgjlnhioaaGreatDoorIFSgr
-- PRINTED by print.py (a twelfth state) out of the translation. Not trusted: Lean checks it.
namespace Go.Proofs.YtoloblgjlnhioaaGreatDoor.I
open Go.RowKit Go.Proofs.YtoloblgjlnhioaaGreatDoorW.St Go.Proofs.YtoloblgjlnhioaaGreatDoorW.PrintWords Go.Proofs.YtoloblgjlnhioaaGreatDoorW.PrintLast Go.Proofs.YtoloblgjlnhioaaGreatDoorW.PrintMore
attribute [local go_sem] max2_int min2_int max_two min_two max_three min_three max_four min_four   -- for this text's walks alone
set_option linter.unusedVariables false
set_option linter.unusedSimpArgs false
mutual
def impl_give.l0 : Nat → List Int → Int → Int → Option (Int × (List (S68)))
  | 0, _, _, _ => none
  | k + 1, x9, x42, x43 => if x43 < x42 then (if x9.length < 17592186044416 then (impl_give.l0 k (x9 ++ [x43]) x42 (wrap64 (x43 + 1))) else (none)) else ((impl_give_2.f k x9).bind fun bt270 => (some (bt270.1, bt270.2)))
def impl_give.l1 : Nat → List (S68) → Int → Int → Int → List (S68) → Option (Int × (List (S68)))
  | 0, _, _, _, _, _ => none
  | k + 1, x73, x74, x75, x278000, x278001 => if x75 < x74 then (if 0 ≤ x75 then (if x75 < (x73.length : Int) then (if x278001.length + ((rd_T68 x73 x75).f1).length < 4398046511104 then (impl_give.l1 k x73 x74 (wrap64 (x75 + 1)) x278000 (x278001 ++ ((rd_T68 x73 x75).f1))) else (none)) else (none)) else (none)) else (some (x278000, x278001))
def impl_give.l2 : Nat → List Int → Int → List Int → Int → Int → Option (Int × (List (S68)))
  | 0, _, _, _, _, _ => none
  | k + 1, x15, x16, x91, x92, x93 => if x93 < x92 then (if 0 ≤ x93 then (if x93 < (x91.length : Int) then (if x15.length < 17592186044416 then (impl_give.l2 k (x15 ++ [x16]) (Int.tmod (wrap64 (x16 + (rd x91 x93))) 10007) x91 x92 (wrap64 (x93 + 1))) else (none)) else (none)) else (none)) else ((impl_give_2.f k x15).bind fun bt294 => (some (bt294.1, bt294.2)))
end
def impl_give.f (k : Nat) (a0 : ByteArray) (l1 : List (S68)) : Option (Int × (List (S68))) := if 0 < (l1.length : Int) then (if a0.toList = ([83] : List UInt8) then ((impl_give_1.f k ((rd_T68 l1 0).f0) ((rd_T68 l1 0).f1)).bind fun bt254 => ((impl_sum.f k bt254.1).bind fun t258 => (some (t258, ([] : List (S68)))))) else (if a0.toList = ([77] : List UInt8) then ((impl_give_1.f k ((rd_T68 l1 0).f0) ((rd_T68 l1 0).f1)).bind fun bt259 => ((impl_most.f bt259.1).bind fun t263 => (some (t263, ([] : List (S68)))))) else (if a0.toList = ([73] : List UInt8) then (impl_give.l0 k (([] : List Int)) (mn ((rd_T68 l1 0).f0) 12) 0) else (if a0.toList = ([78] : List UInt8) then (some ((((rd_T68 l1 0).f1).length : Int) % 10007, ([] : List (S68)))) else (if a0.toList = ([82] : List UInt8) then ((slices_Clone_arr.f ((rd_T68 l1 0).f1)).bind fun t274 => (some (0, t274.reverse))) else (if a0.toList = ([67] : List UInt8) then (impl_give.l1 k ((rd_T68 l1 0).f1) (((rd_T68 l1 0).f1).length : Int) 0 0 ([] : List (S68))) else (if a0.toList = ([80] : List UInt8) then ((impl_give_1.f k ((rd_T68 l1 0).f0) ((rd_T68 l1 0).f1)).bind fun bt286 => (impl_give.l2 k (([] : List Int)) 0 bt286.1 (bt286.1.length : Int) 0)) else (if 1 < (l1.length : Int) then (if a0.toList = ([43] : List UInt8) then (some (Int.tmod (wrap64 (((rd_T68 l1 0).f0) + ((rd_T68 l1 1).f0))) 10007, ([] : List (S68)))) else (if a0.toList = ([42] : List UInt8) then (some (Int.tmod (wrap64 (((rd_T68 l1 0).f0) * ((rd_T68 l1 1).f0))) 10007, ([] : List (S68)))) else (if a0.toList = ([94] : List UInt8) then (some (mx ((rd_T68 l1 0).f0) ((rd_T68 l1 1).f0), ([] : List (S68)))) else (if a0.toList = ([45] : List UInt8) then (some (mx 0 (wrap64 (((rd_T68 l1 0).f0) - ((rd_T68 l1 1).f0))), ([] : List (S68)))) else (if a0.toList = ([61] : List UInt8) then ((impl_give_3.f (((rd_T68 l1 0).f0) == ((rd_T68 l1 1).f0))).bind fun bt299 => (some (bt299.1, bt299.2))) else (if a0.toList = ([60] : List UInt8) then ((impl_give_3.f (decide (((rd_T68 l1 0).f0) < ((rd_T68 l1 1).f0)))).bind fun bt303 => (some (bt303.1, bt303.2))) else (if ((rd_T68 l1 1).f0) < (((rd_T68 l1 0).f1).length : Int) then (if 0 ≤ ((rd_T68 l1 1).f0) then (some ((rd_T68 ((rd_T68 l1 0).f1) ((rd_T68 l1 1).f0)).f0, (rd_T68 ((rd_T68 l1 0).f1) ((rd_T68 l1 1).f0)).f1)) else (none)) else (some (0, ([] : List (S68))))))))))) else (none))))))))) else (none)
def impl_give.I0 (r1 : Int) (r2 : List (S68)) (m : Nat) (σ : St) : Prop := ∃ (x9 : List Int) (x42 : Int) (x43 : Int) (x252000 : Int), impl_give.l0 m x9 x42 x43 = some (r1, r2) ∧ σ = ⟨[(4, .pt 1004 0 0), (7, .v (.func (.func 98) #[] #[])), (9, .ow 1009 0), (42, .v (.int .i64 x42)), (43, .v (.int .i64 x43))], [(1004, .box 0 68 false [.v (.int .i64 x252000), .v (.slice none 0 0)]), (1009, .own 0 3 1 (rX (cI .i64) x9))]⟩
def impl_give.I1 (r1 : Int) (r2 : List (S68)) (m : Nat) (σ : St) : Prop := ∃ (x73 : List (S68)) (x74 : Int) (x75 : Int) (x252000 : Int) (x278000 : Int) (x278001 : List (S68)), impl_give.l1 m x73 x74 x75 x278000 x278001 = some (r1, r2) ∧ σ = ⟨[(4, .pt 1004 0 0), (12, .pt 1012 0 0), (73, .sl 2 (r68 x73)), (74, .v (.int .i64 x74)), (75, .v (.int .i64 x75))], [(1004, .box 0 68 false [.v (.int .i64 x252000), .v (.slice none 0 0)]), (3769, .own 0 68 2 (r68 x278001)), (1012, .box 0 68 false [.v (.int .i64 x278000), .ow 3769 0])]⟩
def impl_give.I2 (r1 : Int) (r2 : List (S68)) (m : Nat) (σ : St) : Prop := ∃ (x15 : List Int) (x16 : Int) (x91 : List Int) (x92 : Int) (x93 : Int) (x252000 : Int), impl_give.l2 m x15 x16 x91 x92 x93 = some (r1, r2) ∧ σ = ⟨[(4, .pt 1004 0 0), (7, .v (.func (.func 98) #[] #[])), (15, .ow 1015 0), (16, .v (.int .i64 x16)), (91, .ow 1091 0), (92, .v (.int .i64 x92)), (93, .v (.int .i64 x93))], [(1004, .box 0 68 false [.v (.int .i64 x252000), .v (.slice none 0 0)]), (1015, .own 0 3 1 (rX (cI .i64) x15)), (1091, .own 0 3 1 (rX (cI .i64) x91))]⟩
structure impl_give.C (k : Nat) : Prop where
 s_l0 : ∀ (r1 : Int) (r2 : List (S68)) (w : World) (ro : Nat → Prop) (B : Nat) (_ : Fr TE (cx0 Tryz.f59 none w ro B)) (x9 : List Int) (x42 : Int) (x43 : Int) (x252000 : Int) (_ : impl_give.l0 k x9 x42 x43 = some (r1, r2)), Kp (WS TE (cx0 Tryz.f59 none w ro B) (stkAt [1, 1, 1, 1, 1, 0, 1, 0, 1, 1, 1, 1, 1, 0, 1, 0, 1, 0] [] (bodyOf Tryz.f59) []) ⟨[(4, .pt 1004 0 0), (7, .v (.func (.func 98) #[] #[])), (9, .ow 1009 0), (42, .v (.int .i64 x42)), (43, .v (.int .i64 x43))], [(1004, .box 0 68 false [.v (.int .i64 x252000), .v (.slice none 0 0)]), (1009, .own 0 3 1 (rX (cI .i64) x9))]⟩ (RetQ TE Tryz.f59 none [.ro (.ag [.v (.int .i64 r1), .sl 2 (r68 r2)])] [] w ro B))
 s_l1 : ∀ (r1 : Int) (r2 : List (S68)) (w : World) (ro : Nat → Prop) (B : Nat) (_ : Fr TE (cx0 Tryz.f59 none w ro B)) (x73 : List (S68)) (x74 : Int) (x75 : Int) (x252000 : Int) (x278000 : Int) (x278001 : List (S68)) (_ : impl_give.l1 k x73 x74 x75 x278000 x278001 = some (r1, r2)), Kp (WS TE (cx0 Tryz.f59 none w ro B) (stkAt [1, 1, 1, 1, 1, 0, 1, 0, 1, 1, 1, 1, 1, 1, 1, 1, 1, 1, 1, 0, 1, 0, 1, 0] [] (bodyOf Tryz.f59) []) ⟨[(4, .pt 1004 0 0), (12, .pt 1012 0 0), (73, .sl 2 (r68 x73)), (74, .v (.int .i64 x74)), (75, .v (.int .i64 x75))], [(1004, .box 0 68 false [.v (.int .i64 x252000), .v (.slice none 0 0)]), (3769, .own 0 68 2 (r68 x278001)), (1012, .box 0 68 false [.v (.int .i64 x278000), .ow 3769 0])]⟩ (RetQ TE Tryz.f59 none [.ro (.ag [.v (.int .i64 r1), .sl 2 (r68 r2)])] [] w ro B))
 s_l2 : ∀ (r1 : Int) (r2 : List (S68)) (w : World) (ro : Nat → Prop) (B : Nat) (_ : Fr TE (cx0 Tryz.f59 none w ro B)) (x15 : List Int) (x16 : Int) (x91 : List Int) (x92 : Int) (x93 : Int) (x252000 : Int) (_ : impl_give.l2 k x15 x16 x91 x92 x93 = some (r1, r2)), Kp (WS TE (cx0 Tryz.f59 none w ro B) (stkAt [1, 1, 1, 1, 1, 0, 1, 0, 1, 1, 1, 1, 1, 1, 1, 1, 1, 1, 1, 1, 1, 0, 1, 0, 1, 0] [] (bodyOf Tryz.f59) []) ⟨[(4, .pt 1004 0 0), (7, .v (.func (.func 98) #[] #[])), (15, .ow 1015 0), (16, .v (.int .i64 x16)), (91, .ow 1091 0), (92, .v (.int .i64 x92)), (93, .v (.int .i64 x93))], [(1004, .box 0 68 false [.v (.int .i64 x252000), .v (.slice none 0 0)]), (1015, .own 0 3 1 (rX (cI .i64) x15)), (1091, .own 0 3 1 (rX (cI .i64) x91))]⟩ (RetQ TE Tryz.f59 none [.ro (.ag [.v (.int .i64 r1), .sl 2 (r68 r2)])] [] w ro B))
set_option maxRecDepth 100000 in
set_option maxHeartbeats 4000000 in
theorem impl_give.c_l0 (k : Nat) (ih : Kp (∀ m, m < k → impl_give.C m)) (r1 : Int) (r2 : List (S68)) (w : World) (ro : Nat → Prop) (B : Nat) (hF : Fr TE (cx0 Tryz.f59 none w ro B)) (x9 : List Int) (x42 : Int) (x43 : Int) (x252000 : Int) (h : impl_give.l0 k x9 x42 x43 = some (r1, r2)) : Kp (WS TE (cx0 Tryz.f59 none w ro B) (stkAt [1, 1, 1, 1, 1, 0, 1, 0, 1, 1, 1, 1, 1, 0, 1, 0, 1, 0] [] (bodyOf Tryz.f59) []) ⟨[(4, .pt 1004 0 0), (7, .v (.func (.func 98) #[] #[])), (9, .ow 1009 0), (42, .v (.int .i64 x42)), (43, .v (.int .i64 x43))], [(1004, .box 0 68 false [.v (.int .i64 x252000), .v (.slice none 0 0)]), (1009, .own 0 3 1 (rX (cI .i64) x9))]⟩ (RetQ TE Tryz.f59 none [.ro (.ag [.v (.int .i64 r1), .sl 2 (r68 r2)])] [] w ro B)) := by
 refine ⟨WS.loop (fun m σ => m ≤ k ∧ impl_give.I0 r1 r2 m σ) k ⟨Nat.le_refl k, x9, x42, x43, x252000, h, rfl⟩ (fun m σ' hI J0 hJ0 => ?_)⟩
 clear h
 obtain ⟨hk, x9, x42, x43, x252000, h, rfl⟩ := hI
 cases m with
 | zero => simp [impl_give.l0] at h
 | succ k' =>
 simp only [impl_give.l0] at h
 by_cases c27 : x43 < x42
 · rw [if_pos c27] at h
   by_cases c28 : x9.length < 17592186044416
   · rw [if_pos c28] at h
     refine path_ok (k := 12) hF (RetQ_mild _ _ _ _ _ _ _ _) (ds := [.b true, .p 48 ([[.v (.int .i64 x43)]]), .o 49 (rX (cI .i64) (x9 ++ [x43]))]) (os := []) (c := none) rfl KD ?_
     exact WS.lpc [(1004, some 1004), (1009, some 1009)] (hJ0 _ _ (Nat.lt_succ_self _) ⟨by omega, (x9 ++ [x43]), x42, (wrap64 (x43 + 1)), x252000, h, rfl⟩) KD
   · rw [if_neg c28] at h
     cases h
 · rw [if_neg c27] at h
   obtain ⟨⟨t270, t271⟩, q29, h⟩ := Option.bind_eq_some_iff.1 h
   dsimp only at h
   have q29c := impl_give_2.ctr k' _ _ _ q29
   refine path_ok (k := 8) hF (RetQ_mild _ _ _ _ _ _ _ _) (ds := [.b false, .r [.ro (.ag [.v (.int .i64 t270), .sl 2 (r68 t271)])] []]) (os := []) (c := none) rfl KD ?_
   cases h
   exact ret_as (ms := [.ro]) rfl KD
set_option maxRecDepth 100000 in
set_option maxHeartbeats 4000000 in
theorem impl_give.c_l1 (k : Nat) (ih : Kp (∀ m, m < k → impl_give.C m)) (r1 : Int) (r2 : List (S68)) (w : World) (ro : Nat → Prop) (B : Nat) (hF : Fr TE (cx0 Tryz.f59 none w ro B)) (x73 : List (S68)) (x74 : Int) (x75 : Int) (x252000 : Int) (x278000 : Int) (x278001 : List (S68)) (h : impl_give.l1 k x73 x74 x75 x278000 x278001 = some (r1, r2)) : Kp (WS TE (cx0 Tryz.f59 none w ro B) (stkAt [1, 1, 1, 1, 1, 0, 1, 0, 1, 1, 1, 1, 1, 1, 1, 1, 1, 1, 1, 0, 1, 0, 1, 0] [] (bodyOf Tryz.f59) []) ⟨[(4, .pt 1004 0 0), (12, .pt 1012 0 0), (73, .sl 2 (r68 x73)), (74, .v (.int .i64 x74)), (75, .v (.int .i64 x75))], [(1004, .box 0 68 false [.v (.int .i64 x252000), .v (.slice none 0 0)]), (3769, .own 0 68 2 (r68 x278001)), (1012, .box 0 68 false [.v (.int .i64 x278000), .ow 3769 0])]⟩ (RetQ TE Tryz.f59 none [.ro (.ag [.v (.int .i64 r1), .sl 2 (r68 r2)])] [] w ro B)) := by
 refine ⟨WS.loop (fun m σ => m ≤ k ∧ impl_give.I1 r1 r2 m σ) k ⟨Nat.le_refl k, x73, x74, x75, x252000, x278000, x278001, h, rfl⟩ (fun m σ' hI J1 hJ1 => ?_)⟩
 clear h
 obtain ⟨hk, x73, x74, x75, x252000, x278000, x278001, h, rfl⟩ := hI
 cases m with
 | zero => simp [impl_give.l1] at h
 | succ k' =>
 simp only [impl_give.l1] at h
 by_cases c30 : x75 < x74
 · rw [if_pos c30] at h
   by_cases c31 : 0 ≤ x75
   · rw [if_pos c31] at h
     by_cases c32 : x75 < (x73.length : Int)
     · rw [if_pos c32] at h
       by_cases c33 : x278001.length + ((rd_T68 x73 x75).f1).length < 4398046511104
       · rw [if_pos c33] at h
         refine path_ok (k := 12) hF (RetQ_mild _ _ _ _ _ _ _ _) (ds := [.b true, .e 77 (.rf [.v (.int .i64 ((rd_T68 x73 x75).f0)), .sl 2 (r68 ((rd_T68 x73 x75).f1))]), .o 83 (r68 (x278001 ++ ((rd_T68 x73 x75).f1)))]) (os := []) (c := none) rfl KD ?_
         exact WS.lpc [(1004, some 1004), (1012, some 1012), (3769, some 3769)] (hJ1 _ _ (Nat.lt_succ_self _) ⟨by omega, x73, x74, (wrap64 (x75 + 1)), x252000, x278000, (x278001 ++ ((rd_T68 x73 x75).f1)), h, rfl⟩) KD
       · rw [if_neg c33] at h
         cases h
     · rw [if_neg c32] at h
       cases h
   · rw [if_neg c31] at h
     cases h
 · rw [if_neg c30] at h
   refine path_ok (k := 8) hF (RetQ_mild _ _ _ _ _ _ _ _) (ds := [.b false]) (os := []) (c := none) rfl KD ?_
   cases h
   exact ret_as (ms := [.ro]) rfl KD
set_option maxRecDepth 100000 in
set_option maxHeartbeats 4000000 in
theorem impl_give.c_l2 (k : Nat) (ih : Kp (∀ m, m < k → impl_give.C m)) (r1 : Int) (r2 : List (S68)) (w : World) (ro : Nat → Prop) (B : Nat) (hF : Fr TE (cx0 Tryz.f59 none w ro B)) (x15 : List Int) (x16 : Int) (x91 : List Int) (x92 : Int) (x93 : Int) (x252000 : Int) (h : impl_give.l2 k x15 x16 x91 x92 x93 = some (r1, r2)) : Kp (WS TE (cx0 Tryz.f59 none w ro B) (stkAt [1, 1, 1, 1, 1, 0, 1, 0, 1, 1, 1, 1, 1, 1, 1, 1, 1, 1, 1, 1, 1, 0, 1, 0, 1, 0] [] (bodyOf Tryz.f59) []) ⟨[(4, .pt 1004 0 0), (7, .v (.func (.func 98) #[] #[])), (15, .ow 1015 0), (16, .v (.int .i64 x16)), (91, .ow 1091 0), (92, .v (.int .i64 x92)), (93, .v (.int .i64 x93))], [(1004, .box 0 68 false [.v (.int .i64 x252000), .v (.slice none 0 0)]), (1015, .own 0 3 1 (rX (cI .i64) x15)), (1091, .own 0 3 1 (rX (cI .i64) x91))]⟩ (RetQ TE Tryz.f59 none [.ro (.ag [.v (.int .i64 r1), .sl 2 (r68 r2)])] [] w ro B)) := by
 refine ⟨WS.loop (fun m σ => m ≤ k ∧ impl_give.I2 r1 r2 m σ) k ⟨Nat.le_refl k, x15, x16, x91, x92, x93, x252000, h, rfl⟩ (fun m σ' hI J2 hJ2 => ?_)⟩
 clear h
 obtain ⟨hk, x15, x16, x91, x92, x93, x252000, h, rfl⟩ := hI
 cases m with
 | zero => simp [impl_give.l2] at h
 | succ k' =>
 simp only [impl_give.l2] at h
 by_cases c34 : x93 < x92
 · rw [if_pos c34] at h
   by_cases c35 : 0 ≤ x93
   · rw [if_pos c35] at h
     by_cases c36 : x93 < (x91.length : Int)
     · rw [if_pos c36] at h
       by_cases c37 : x15.length < 17592186044416
       · rw [if_pos c37] at h
         refine path_ok (k := 14) hF (RetQ_mild _ _ _ _ _ _ _ _) (ds := [.b true, .g [.v (.int .i64 (rd x91 x93))], .p 99 ([[.v (.int .i64 x16)]]), .o 100 (rX (cI .i64) (x15 ++ [x16])), .e 104 (.v (.int .i64 (Int.tmod (wrap64 (x16 + (rd x91 x93))) 10007)))]) (os := []) (c := none) rfl KD ?_
         exact WS.lpc [(1004, some 1004), (1015, some 1015), (1091, some 1091)] (hJ2 _ _ (Nat.lt_succ_self _) ⟨by omega, (x15 ++ [x16]), (Int.tmod (wrap64 (x16 + (rd x91 x93))) 10007), x91, x92, (wrap64 (x93 + 1)), x252000, h, rfl⟩) KD
       · rw [if_neg c37] at h
         cases h
     · rw [if_neg c36] at h
       cases h
   · rw [if_neg c35] at h
     cases h
 · rw [if_neg c34] at h
   obtain ⟨⟨t294, t295⟩, q38, h⟩ := Option.bind_eq_some_iff.1 h
   dsimp only at h
   have q38c := impl_give_2.ctr k' _ _ _ q38
   refine path_ok (k := 8) hF (RetQ_mild _ _ _ _ _ _ _ _) (ds := [.b false, .r [.ro (.ag [.v (.int .i64 t294), .sl 2 (r68 t295)])] []]) (os := []) (c := none) rfl KD ?_
   cases h
   exact ret_as (ms := [.ro]) rfl KD
theorem impl_give.cs (k : Nat) : impl_give.C k := by
 induction k using Nat.strongRecOn with
 | _ k ih0 =>
 have ih : Kp (∀ m, m < k → impl_give.C m) := ⟨ih0⟩
 exact ⟨impl_give.c_l0 k ih, impl_give.c_l1 k ih, impl_give.c_l2 k ih⟩
set_option maxRecDepth 100000 in
set_option maxHeartbeats 4000000 in
theorem impl_give.ctr (k : Nat) (a0 : ByteArray) (l1 : List (S68)) (r1 : Int) (r2 : List (S68)) (h : impl_give.f k a0 l1 = some (r1, r2)) : Ctr TE 59 none [.v (.string a0), .sl 2 (r68 l1)] [.ro (.ag [.v (.int .i64 r1), .sl 2 (r68 r2)])] [] := by
 refine ctr_of (fn := Tryz.f59) (c := (bodyOf Tryz.f59)) Tryz.func59 rfl (by kernel_rfl) (Nat.le_of_ble_eq_true (by kernel_rfl)) (fun w ro B hF _ => ?_)
 have ih : Kp (∀ m, m < k + 1 → impl_give.C m) := ⟨fun m _ => impl_give.cs m⟩
 simp only [impl_give.f] at h
 by_cases c1 : 0 < (l1.length : Int)
 · rw [if_pos c1] at h
   by_cases c2 : a0.toList = ([83] : List UInt8)
   · rw [if_pos c2] at h
     obtain ⟨⟨t254, t257⟩, q3, h⟩ := Option.bind_eq_some_iff.1 h
     dsimp only at h
     have q3c := impl_give_1.ctr k _ _ _ _ q3
     obtain ⟨t258, q4, h⟩ := Option.bind_eq_some_iff.1 h
     have q4c := impl_sum.ctr k _ _ q4
     refine path_ok (k := 20) hF (RetQ_mild _ _ _ _ _ _ _ _) (ds := [.e 21 (.rf [.v (.int .i64 ((rd_T68 l1 0).f0)), .sl 2 (r68 ((rd_T68 l1 0).f1))]), .b true, .r [.own 3 1 (rX (cI .i64) t254)] [.v (.int .i64 t257), .sl 2 (r68 ((rd_T68 l1 0).f1))], .r [.ro (.v (.int .i64 t258))] []]) (os := []) (c := none) rfl KD ?_
     cases h
     exact ret_as (ms := [.ro]) rfl KD
   · rw [if_neg c2] at h
     by_cases c5 : a0.toList = ([77] : List UInt8)
     · rw [if_pos c5] at h
       obtain ⟨⟨t259, t262⟩, q6, h⟩ := Option.bind_eq_some_iff.1 h
       dsimp only at h
       have q6c := impl_give_1.ctr k _ _ _ _ q6
       obtain ⟨t263, q7, h⟩ := Option.bind_eq_some_iff.1 h
       have q7c := impl_most.ctr _ _ q7
       refine path_ok (k := 23) hF (RetQ_mild _ _ _ _ _ _ _ _) (ds := [.e 21 (.rf [.v (.int .i64 ((rd_T68 l1 0).f0)), .sl 2 (r68 ((rd_T68 l1 0).f1))]), .b false, .b true, .r [.own 3 1 (rX (cI .i64) t259)] [.v (.int .i64 t262), .sl 2 (r68 ((rd_T68 l1 0).f1))], .r [.ro (.v (.int .i64 t263))] []]) (os := []) (c := none) rfl KD ?_
       cases h
       exact ret_as (ms := [.ro]) rfl KD
     · rw [if_neg c5] at h
       by_cases c8 : a0.toList = ([73] : List UInt8)
       · rw [if_pos c8] at h
         refine path_ok (k := 29) hF (RetQ_mild _ _ _ _ _ _ _ _) (ds := [.e 21 (.rf [.v (.int .i64 ((rd_T68 l1 0).f0)), .sl 2 (r68 ((rd_T68 l1 0).f1))]), .b false, .b false, .b true, .p 39 ([])]) (os := []) (c := none) rfl KD ?_
         exact WS.can [(1004, some 4), (1009, some 39)] (((ih.out k (by omega)).s_l0  r1 r2 w ro B hF (([] : List Int)) (mn ((rd_T68 l1 0).f0) 12) 0 0 h).out) KD
       · rw [if_neg c8] at h
         by_cases c9 : a0.toList = ([78] : List UInt8)
         · rw [if_pos c9] at h
           refine path_ok (k := 29) hF (RetQ_mild _ _ _ _ _ _ _ _) (ds := [.e 21 (.rf [.v (.int .i64 ((rd_T68 l1 0).f0)), .sl 2 (r68 ((rd_T68 l1 0).f1))]), .b false, .b false, .b false, .b true, .e 58 (.v (.int .i64 (((rd_T68 l1 0).f1).length : Int))), .e 59 (.v (.int .i64 ((((rd_T68 l1 0).f1).length : Int) % 10007)))]) (os := []) (c := none) rfl KD ?_
           cases h
           exact ret_as (ms := [.ro]) rfl KD
         · rw [if_neg c9] at h
           by_cases c10 : a0.toList = ([82] : List UInt8)
           · rw [if_pos c10] at h
             obtain ⟨t274, q11, h⟩ := Option.bind_eq_some_iff.1 h
             have q11c := slices_Clone_arr.ctr _ _ q11
             have q12 := slices_Reverse_arr.ctrR t274
             refine path_ok (k := 36) hF (RetQ_mild _ _ _ _ _ _ _ _) (ds := [.e 21 (.rf [.v (.int .i64 ((rd_T68 l1 0).f0)), .sl 2 (r68 ((rd_T68 l1 0).f1))]), .b false, .b false, .b false, .b false, .b true, .r [.own 68 2 (r68 t274)] [], .m (r68 t274.reverse)]) (os := []) (c := none) rfl KD ?_
             cases h
             exact ret_as (ms := [.ro]) rfl KD
           · rw [if_neg c10] at h
             by_cases c13 : a0.toList = ([67] : List UInt8)
             · rw [if_pos c13] at h
               refine path_ok (k := 38) hF (RetQ_mild _ _ _ _ _ _ _ _) (ds := [.e 21 (.rf [.v (.int .i64 ((rd_T68 l1 0).f0)), .sl 2 (r68 ((rd_T68 l1 0).f1))]), .b false, .b false, .b false, .b false, .b false, .b true, .e 74 (.v (.int .i64 (((rd_T68 l1 0).f1).length : Int)))]) (os := []) (c := none) rfl KD ?_
               exact WS.can [(1004, some 4), (1012, some 12), (3769, none)] (((ih.out k (by omega)).s_l1  r1 r2 w ro B hF ((rd_T68 l1 0).f1) (((rd_T68 l1 0).f1).length : Int) 0 0 0 ([] : List (S68)) h).out) KD
             · rw [if_neg c13] at h
               by_cases c14 : a0.toList = ([80] : List UInt8)
               · rw [if_pos c14] at h
                 obtain ⟨⟨t286, t289⟩, q15, h⟩ := Option.bind_eq_some_iff.1 h
                 dsimp only at h
                 have q15c := impl_give_1.ctr k _ _ _ _ q15
                 refine path_ok (k := 41) hF (RetQ_mild _ _ _ _ _ _ _ _) (ds := [.e 21 (.rf [.v (.int .i64 ((rd_T68 l1 0).f0)), .sl 2 (r68 ((rd_T68 l1 0).f1))]), .b false, .b false, .b false, .b false, .b false, .b false, .b true, .p 89 ([]), .r [.own 3 1 (rX (cI .i64) t286)] [.v (.int .i64 t289), .sl 2 (r68 ((rd_T68 l1 0).f1))], .e 92 (.v (.int .i64 (t286.length : Int)))]) (os := []) (c := none) rfl KD ?_
                 exact WS.can [(1004, some 4), (1015, some 89), (1091, some 101456)] (((ih.out k (by omega)).s_l2  r1 r2 w ro B hF (([] : List Int)) 0 t286 (t286.length : Int) 0 0 h).out) KD
               · rw [if_neg c14] at h
                 by_cases c16 : 1 < (l1.length : Int)
                 · rw [if_pos c16] at h
                   by_cases c17 : a0.toList = ([43] : List UInt8)
                   · rw [if_pos c17] at h
                     refine path_ok (k := 49) hF (RetQ_mild _ _ _ _ _ _ _ _) (ds := [.e 21 (.rf [.v (.int .i64 ((rd_T68 l1 0).f0)), .sl 2 (r68 ((rd_T68 l1 0).f1))]), .b false, .b false, .b false, .b false, .b false, .b false, .b false, .e 110 (.rf [.v (.int .i64 ((rd_T68 l1 1).f0)), .sl 2 (r68 ((rd_T68 l1 1).f1))]), .b true, .e 120 (.v (.int .i64 (Int.tmod (wrap64 (((rd_T68 l1 0).f0) + ((rd_T68 l1 1).f0))) 10007)))]) (os := []) (c := none) rfl KD ?_
                     cases h
                     exact ret_as (ms := [.ro]) rfl KD
                   · rw [if_neg c17] at h
                     by_cases c18 : a0.toList = ([42] : List UInt8)
                     · rw [if_pos c18] at h
                       refine path_ok (k := 52) hF (RetQ_mild _ _ _ _ _ _ _ _) (ds := [.e 21 (.rf [.v (.int .i64 ((rd_T68 l1 0).f0)), .sl 2 (r68 ((rd_T68 l1 0).f1))]), .b false, .b false, .b false, .b false, .b false, .b false, .b false, .e 110 (.rf [.v (.int .i64 ((rd_T68 l1 1).f0)), .sl 2 (r68 ((rd_T68 l1 1).f1))]), .b false, .b true, .e 128 (.v (.int .i64 (Int.tmod (wrap64 (((rd_T68 l1 0).f0) * ((rd_T68 l1 1).f0))) 10007)))]) (os := []) (c := none) rfl KD ?_
                       cases h
                       exact ret_as (ms := [.ro]) rfl KD
                     · rw [if_neg c18] at h
                       by_cases c19 : a0.toList = ([94] : List UInt8)
                       · rw [if_pos c19] at h
                         refine path_ok (k := 55) hF (RetQ_mild _ _ _ _ _ _ _ _) (ds := [.e 21 (.rf [.v (.int .i64 ((rd_T68 l1 0).f0)), .sl 2 (r68 ((rd_T68 l1 0).f1))]), .b false, .b false, .b false, .b false, .b false, .b false, .b false, .e 110 (.rf [.v (.int .i64 ((rd_T68 l1 1).f0)), .sl 2 (r68 ((rd_T68 l1 1).f1))]), .b false, .b false, .b true]) (os := []) (c := none) rfl KD ?_
                         cases h
                         exact ret_as (ms := [.ro]) rfl KD
                       · rw [if_neg c19] at h
                         by_cases c20 : a0.toList = ([45] : List UInt8)
                         · rw [if_pos c20] at h
                           refine path_ok (k := 58) hF (RetQ_mild _ _ _ _ _ _ _ _) (ds := [.e 21 (.rf [.v (.int .i64 ((rd_T68 l1 0).f0)), .sl 2 (r68 ((rd_T68 l1 0).f1))]), .b false, .b false, .b false, .b false, .b false, .b false, .b false, .e 110 (.rf [.v (.int .i64 ((rd_T68 l1 1).f0)), .sl 2 (r68 ((rd_T68 l1 1).f1))]), .b false, .b false, .b false, .b true]) (os := []) (c := none) rfl KD ?_
                           cases h
                           exact ret_as (ms := [.ro]) rfl KD
                         · rw [if_neg c20] at h
                           by_cases c21 : a0.toList = ([61] : List UInt8)
                           · rw [if_pos c21] at h
                             obtain ⟨⟨t299, t300⟩, q22, h⟩ := Option.bind_eq_some_iff.1 h
                             dsimp only at h
                             have q22c := impl_give_3.ctr _ _ _ q22
                             refine path_ok (k := 61) hF (RetQ_mild _ _ _ _ _ _ _ _) (ds := [.e 21 (.rf [.v (.int .i64 ((rd_T68 l1 0).f0)), .sl 2 (r68 ((rd_T68 l1 0).f1))]), .b false, .b false, .b false, .b false, .b false, .b false, .b false, .e 110 (.rf [.v (.int .i64 ((rd_T68 l1 1).f0)), .sl 2 (r68 ((rd_T68 l1 1).f1))]), .b false, .b false, .b false, .b false, .b true, .r [.ro (.ag [.v (.int .i64 t299), .sl 2 (r68 t300)])] []]) (os := []) (c := none) rfl KD ?_
                             cases h
                             exact ret_as (ms := [.ro]) rfl KD
                           · rw [if_neg c21] at h
                             by_cases c23 : a0.toList = ([60] : List UInt8)
                             · rw [if_pos c23] at h
                               obtain ⟨⟨t303, t304⟩, q24, h⟩ := Option.bind_eq_some_iff.1 h
                               dsimp only at h
                               have q24c := impl_give_3.ctr _ _ _ q24
                               refine path_ok (k := 64) hF (RetQ_mild _ _ _ _ _ _ _ _) (ds := [.e 21 (.rf [.v (.int .i64 ((rd_T68 l1 0).f0)), .sl 2 (r68 ((rd_T68 l1 0).f1))]), .b false, .b false, .b false, .b false, .b false, .b false, .b false, .e 110 (.rf [.v (.int .i64 ((rd_T68 l1 1).f0)), .sl 2 (r68 ((rd_T68 l1 1).f1))]), .b false, .b false, .b false, .b false, .b false, .b true, .r [.ro (.ag [.v (.int .i64 t303), .sl 2 (r68 t304)])] []]) (os := []) (c := none) rfl KD ?_
                               cases h
                               exact ret_as (ms := [.ro]) rfl KD
                             · rw [if_neg c23] at h
                               by_cases c25 : ((rd_T68 l1 1).f0) < (((rd_T68 l1 0).f1).length : Int)
                               · rw [if_pos c25] at h
                                 by_cases c26 : 0 ≤ ((rd_T68 l1 1).f0)
                                 · rw [if_pos c26] at h
                                   refine path_ok (k := 70) hF (RetQ_mild _ _ _ _ _ _ _ _) (ds := [.e 21 (.rf [.v (.int .i64 ((rd_T68 l1 0).f0)), .sl 2 (r68 ((rd_T68 l1 0).f1))]), .b false, .b false, .b false, .b false, .b false, .b false, .b false, .e 110 (.rf [.v (.int .i64 ((rd_T68 l1 1).f0)), .sl 2 (r68 ((rd_T68 l1 1).f1))]), .b false, .b false, .b false, .b false, .b false, .b false, .e 164 (.v (.int .i64 (((rd_T68 l1 0).f1).length : Int))), .b true, .e 169 (.rf [.v (.int .i64 ((rd_T68 ((rd_T68 l1 0).f1) ((rd_T68 l1 1).f0)).f0)), .sl 2 (r68 ((rd_T68 ((rd_T68 l1 0).f1) ((rd_T68 l1 1).f0)).f1))])]) (os := []) (c := none) rfl KD ?_
                                   cases h
                                   exact ret_as (ms := [.ro]) rfl KD
                                 · rw [if_neg c26] at h
                                   cases h
                               · rw [if_neg c25] at h
                                 refine path_ok (k := 71) hF (RetQ_mild _ _ _ _ _ _ _ _) (ds := [.e 21 (.rf [.v (.int .i64 ((rd_T68 l1 0).f0)), .sl 2 (r68 ((rd_T68 l1 0).f1))]), .b false, .b false, .b false, .b false, .b false, .b false, .b false, .e 110 (.rf [.v (.int .i64 ((rd_T68 l1 1).f0)), .sl 2 (r68 ((rd_T68 l1 1).f1))]), .b false, .b false, .b false, .b false, .b false, .b false, .e 164 (.v (.int .i64 (((rd_T68 l1 0).f1).length : Int))), .b false]) (os := []) (c := none) rfl KD ?_
                                 cases h
                                 exact ret_as (ms := [.ro]) rfl KD
                 · rw [if_neg c16] at h
                   cases h
 · rw [if_neg c1] at h
   cases h
mutual
def impl_ApplySign.l0 : Nat → ByteArray → Int → List (S68) → List Int → List ByteArray → Int → Int → Option (ByteArray × Bool)
  | 0, _, _, _, _, _, _, _ => none
  | k + 1, x0, x2, x8, x9, x18, x19, x20 => if x20 < x19 then (if 0 ≤ x20 then (if x20 < (x18.length : Int) then (if x20 > 0 then ((impl_arrOf.f k (rdOf ByteArray.empty x18 x20) 0).bind fun bt315 => (if bt315.2.2 = true then (if x8.length < 4398046511104 then (if x9.length < 17592186044416 then (impl_ApplySign.l0 k x0 x2 (x8 ++ [(⟨bt315.1, bt315.2.1⟩ : S68)]) (x9 ++ [0]) x18 x19 (wrap64 (x20 + 1))) else (none)) else (none)) else (some ((⟨#[]⟩ : ByteArray), false)))) else ((impl_arrOf.f k (rdOf ByteArray.empty x18 x20) x2).bind fun bt327 => (if bt327.2.2 = true then (if x8.length < 4398046511104 then (if x9.length < 17592186044416 then (impl_ApplySign.l0 k x0 x2 (x8 ++ [(⟨bt327.1, bt327.2.1⟩ : S68)]) (x9 ++ [x2]) x18 x19 (wrap64 (x20 + 1))) else (none)) else (none)) else (some ((⟨#[]⟩ : ByteArray), false))))) else (none)) else (none)) else ((impl_signDepth.f k x0 x9).bind fun t339 => (if (x0.size : Int) = 1 then (impl_ApplySign.j1 k x0 x8 t339 (decide (t339 < 0))) else (impl_ApplySign.j1 k x0 x8 t339 true)))
def impl_ApplySign.j1 : Nat → ByteArray → List (S68) → Int → Bool → Option (ByteArray × Bool)
  | 0, _, _, _, _ => none
  | k + 1, x0, x8, x15, x54 => if x54 = true then (some ((⟨#[]⟩ : ByteArray), false)) else ((impl_give.f k x0 x8).bind fun bt340 => ((impl_arr_short.f k bt340.1 bt340.2 x15).bind fun bt344 => (some (bt344.1, bt344.2))))
end
def impl_ApplySign.f (k : Nat) (a0 : ByteArray) (l1 : List ByteArray) (a2 : Int) : Option (ByteArray × Bool) := impl_ApplySign.l0 k a0 a2 (([] : List (S68))) (([] : List Int)) l1 (l1.length : Int) 0
def impl_ApplySign.I0 (r1 : ByteArray) (r2 : Bool) (m : Nat) (σ : St) : Prop := ∃ (x0 : ByteArray) (x2 : Int) (x8 : List (S68)) (x9 : List Int) (x18 : List ByteArray) (x19 : Int) (x20 : Int), impl_ApplySign.l0 m x0 x2 x8 x9 x18 x19 x20 = some (r1, r2) ∧ σ = ⟨[(0, .v (.string x0)), (2, .v (.int .i64 x2)), (8, .ow 1008 0), (9, .ow 1009 0), (18, .sl 1 (rX cS x18)), (19, .v (.int .i64 x19)), (20, .v (.int .i64 x20))], [(1008, .own 0 68 2 (r68 x8)), (1009, .own 0 3 1 (rX (cI .i64) x9))]⟩
structure impl_ApplySign.C (k : Nat) : Prop where
 s_l0 : ∀ (r1 : ByteArray) (r2 : Bool) (w : World) (ro : Nat → Prop) (B : Nat) (_ : Fr TE (cx0 Tryz.f19 none w ro B)) (x0 : ByteArray) (x2 : Int) (x8 : List (S68)) (x9 : List Int) (x18 : List ByteArray) (x19 : Int) (x20 : Int) (_ : impl_ApplySign.l0 k x0 x2 x8 x9 x18 x19 x20 = some (r1, r2)), Kp (WS TE (cx0 Tryz.f19 none w ro B) (stkAt [1, 1, 0, 1, 0] [] (bodyOf Tryz.f19) []) ⟨[(0, .v (.string x0)), (2, .v (.int .i64 x2)), (8, .ow 1008 0), (9, .ow 1009 0), (18, .sl 1 (rX cS x18)), (19, .v (.int .i64 x19)), (20, .v (.int .i64 x20))], [(1008, .own 0 68 2 (r68 x8)), (1009, .own 0 3 1 (rX (cI .i64) x9))]⟩ (RetQ TE Tryz.f19 none [.ro (.v (.string r1)), .ro (.v (.bool r2))] [] w ro B))
 s_j1 : ∀ (r1 : ByteArray) (r2 : Bool) (w : World) (ro : Nat → Prop) (B : Nat) (_ : Fr TE (cx0 Tryz.f19 none w ro B)) (x0 : ByteArray) (x8 : List (S68)) (x15 : Int) (x54 : Bool) (_ : impl_ApplySign.j1 k x0 x8 x15 x54 = some (r1, r2)), Kp (WS TE (cx0 Tryz.f19 none w ro B) (stkAt [1, 1, 1, 1, 0, 0, 9] [] (bodyOf Tryz.f19) []) ⟨[(0, .v (.string x0)), (8, .ow 1008 0), (15, .v (.int .i64 x15)), (54, .v (.bool x54))], [(1008, .own 0 68 2 (r68 x8))]⟩ (RetQ TE Tryz.f19 none [.ro (.v (.string r1)), .ro (.v (.bool r2))] [] w ro B))
set_option maxRecDepth 100000 in
set_option maxHeartbeats 4000000 in
theorem impl_ApplySign.c_l0 (k : Nat) (ih : Kp (∀ m, m < k → impl_ApplySign.C m)) (r1 : ByteArray) (r2 : Bool) (w : World) (ro : Nat → Prop) (B : Nat) (hF : Fr TE (cx0 Tryz.f19 none w ro B)) (x0 : ByteArray) (x2 : Int) (x8 : List (S68)) (x9 : List Int) (x18 : List ByteArray) (x19 : Int) (x20 : Int) (h : impl_ApplySign.l0 k x0 x2 x8 x9 x18 x19 x20 = some (r1, r2)) : Kp (WS TE (cx0 Tryz.f19 none w ro B) (stkAt [1, 1, 0, 1, 0] [] (bodyOf Tryz.f19) []) ⟨[(0, .v (.string x0)), (2, .v (.int .i64 x2)), (8, .ow 1008 0), (9, .ow 1009 0), (18, .sl 1 (rX cS x18)), (19, .v (.int .i64 x19)), (20, .v (.int .i64 x20))], [(1008, .own 0 68 2 (r68 x8)), (1009, .own 0 3 1 (rX (cI .i64) x9))]⟩ (RetQ TE Tryz.f19 none [.ro (.v (.string r1)), .ro (.v (.bool r2))] [] w ro B)) := by
 refine ⟨WS.loop (fun m σ => m ≤ k ∧ impl_ApplySign.I0 r1 r2 m σ) k ⟨Nat.le_refl k, x0, x2, x8, x9, x18, x19, x20, h, rfl⟩ (fun m σ' hI J0 hJ0 => ?_)⟩
 clear h
 obtain ⟨hk, x0, x2, x8, x9, x18, x19, x20, h, rfl⟩ := hI
 cases m with
 | zero => simp [impl_ApplySign.l0] at h
 | succ k' =>
 simp only [impl_ApplySign.l0] at h
 by_cases c1 : x20 < x19
 · rw [if_pos c1] at h
   by_cases c2 : 0 ≤ x20
   · rw [if_pos c2] at h
     by_cases c3 : x20 < (x18.length : Int)
     · rw [if_pos c3] at h
       by_cases c4 : x20 > 0
       · rw [if_pos c4] at h
         obtain ⟨⟨t315, t316, t319⟩, q5, h⟩ := Option.bind_eq_some_iff.1 h
         dsimp only at h
         have q5c := impl_arrOf.ctr k' _ _ _ _ _ q5
         by_cases c6 : t319 = true
         · rw [if_pos c6] at h
           by_cases c7 : x8.length < 4398046511104
           · rw [if_pos c7] at h
             by_cases c8 : x9.length < 17592186044416
             · rw [if_pos c8] at h
               refine path_ok (k := 28) hF (RetQ_mild _ _ _ _ _ _ _ _) (ds := [.b true, .e 23 (.rf [.v (.string (rdOf ByteArray.empty x18 x20))]), .b true, .r [.ro (.ag [.v (.int .i64 t315), .sl 2 (r68 t316)]), .ro (.v (.bool t319))] [], .b false, .p 38 ([[.v (.int .i64 t315), .sl 2 (r68 t316)]]), .o 39 (r68 (x8 ++ [(⟨t315, t316⟩ : S68)])), .p 42 ([[.v (.int .i64 0)]]), .o 43 (rX (cI .i64) (x9 ++ [0]))]) (os := []) (c := none) rfl KD ?_
               exact WS.lpc [(1008, some 1008), (1009, some 1009)] (hJ0 _ _ (Nat.lt_succ_self _) ⟨by omega, x0, x2, (x8 ++ [(⟨t315, t316⟩ : S68)]), (x9 ++ [0]), x18, x19, (wrap64 (x20 + 1)), h, rfl⟩) KD
             · rw [if_neg c8] at h
               cases h
           · rw [if_neg c7] at h
             cases h
         · rw [if_neg c6] at h
           refine path_ok (k := 25) hF (RetQ_mild _ _ _ _ _ _ _ _) (ds := [.b true, .e 23 (.rf [.v (.string (rdOf ByteArray.empty x18 x20))]), .b true, .r [.ro (.ag [.v (.int .i64 t315), .sl 2 (r68 t316)]), .ro (.v (.bool t319))] [], .b true]) (os := []) (c := none) rfl KD ?_
           cases h
           exact ret_as (ms := [.ro, .ro]) rfl KD
       · rw [if_neg c4] at h
         obtain ⟨⟨t327, t328, t331⟩, q9, h⟩ := Option.bind_eq_some_iff.1 h
         dsimp only at h
         have q9c := impl_arrOf.ctr k' _ _ _ _ _ q9
         by_cases c10 : t331 = true
         · rw [if_pos c10] at h
           by_cases c11 : x8.length < 4398046511104
           · rw [if_pos c11] at h
             by_cases c12 : x9.length < 17592186044416
             · rw [if_pos c12] at h
               refine path_ok (k := 28) hF (RetQ_mild _ _ _ _ _ _ _ _) (ds := [.b true, .e 23 (.rf [.v (.string (rdOf ByteArray.empty x18 x20))]), .b false, .r [.ro (.ag [.v (.int .i64 t327), .sl 2 (r68 t328)]), .ro (.v (.bool t331))] [], .b false, .p 38 ([[.v (.int .i64 t327), .sl 2 (r68 t328)]]), .o 39 (r68 (x8 ++ [(⟨t327, t328⟩ : S68)])), .p 42 ([[.v (.int .i64 x2)]]), .o 43 (rX (cI .i64) (x9 ++ [x2]))]) (os := []) (c := none) rfl KD ?_
               exact WS.lpc [(1008, some 1008), (1009, some 1009)] (hJ0 _ _ (Nat.lt_succ_self _) ⟨by omega, x0, x2, (x8 ++ [(⟨t327, t328⟩ : S68)]), (x9 ++ [x2]), x18, x19, (wrap64 (x20 + 1)), h, rfl⟩) KD
             · rw [if_neg c12] at h
               cases h
           · rw [if_neg c11] at h
             cases h
         · rw [if_neg c10] at h
           refine path_ok (k := 25) hF (RetQ_mild _ _ _ _ _ _ _ _) (ds := [.b true, .e 23 (.rf [.v (.string (rdOf ByteArray.empty x18 x20))]), .b false, .r [.ro (.ag [.v (.int .i64 t327), .sl 2 (r68 t328)]), .ro (.v (.bool t331))] [], .b true]) (os := []) (c := none) rfl KD ?_
           cases h
           exact ret_as (ms := [.ro, .ro]) rfl KD
     · rw [if_neg c3] at h
       cases h
   · rw [if_neg c2] at h
     cases h
 · rw [if_neg c1] at h
   obtain ⟨t339, q13, h⟩ := Option.bind_eq_some_iff.1 h
   have q13c := impl_signDepth.ctr k' _ _ _ q13
   by_cases c14 : (x0.size : Int) = 1
   · rw [if_pos c14] at h
     refine path_ok (k := 10) hF (RetQ_mild _ _ _ _ _ _ _ _) (ds := [.b false, .r [.ro (.v (.int .i64 t339))] [], .b false, .b false, .b false]) (os := []) (c := none) rfl KD ?_
     exact WS.can [(1008, some 1008)] (((ih.out k' (by omega)).s_j1  r1 r2 w ro B hF x0 x8 t339 (decide (t339 < 0)) h).out) KD
   · rw [if_neg c14] at h
     refine path_ok (k := 10) hF (RetQ_mild _ _ _ _ _ _ _ _) (ds := [.b false, .r [.ro (.v (.int .i64 t339))] [], .b true, .b true, .b true]) (os := []) (c := none) rfl KD ?_
     exact WS.can [(1008, some 1008)] (((ih.out k' (by omega)).s_j1  r1 r2 w ro B hF x0 x8 t339 true h).out) KD
set_option maxRecDepth 100000 in
set_option maxHeartbeats 4000000 in
theorem impl_ApplySign.c_j1 (k : Nat) (ih : Kp (∀ m, m < k → impl_ApplySign.C m)) (r1 : ByteArray) (r2 : Bool) (w : World) (ro : Nat → Prop) (B : Nat) (hF : Fr TE (cx0 Tryz.f19 none w ro B)) (x0 : ByteArray) (x8 : List (S68)) (x15 : Int) (x54 : Bool) (h : impl_ApplySign.j1 k x0 x8 x15 x54 = some (r1, r2)) : Kp (WS TE (cx0 Tryz.f19 none w ro B) (stkAt [1, 1, 1, 1, 0, 0, 9] [] (bodyOf Tryz.f19) []) ⟨[(0, .v (.string x0)), (8, .ow 1008 0), (15, .v (.int .i64 x15)), (54, .v (.bool x54))], [(1008, .own 0 68 2 (r68 x8))]⟩ (RetQ TE Tryz.f19 none [.ro (.v (.string r1)), .ro (.v (.bool r2))] [] w ro B)) := by
 refine ⟨?_⟩
 cases k with
 | zero => simp [impl_ApplySign.j1] at h
 | succ k =>
 simp only [impl_ApplySign.j1] at h
 by_cases c15 : x54 = true
 · rw [if_pos c15] at h
   refine path_ok (k := 4) hF (RetQ_mild _ _ _ _ _ _ _ _) (ds := [.b true]) (os := []) (c := none) rfl KD ?_
   cases h
   exact ret_as (ms := [.ro, .ro]) rfl KD
 · rw [if_neg c15] at h
   obtain ⟨⟨t340, t341⟩, q16, h⟩ := Option.bind_eq_some_iff.1 h
   dsimp only at h
   have q16c := impl_give.ctr k _ _ _ _ q16
   obtain ⟨⟨t344, t345⟩, q17, h⟩ := Option.bind_eq_some_iff.1 h
   dsimp only at h
   have q17c := impl_arr_short.ctr k _ _ _ _ _ q17
   refine path_ok (k := 5) hF (RetQ_mild _ _ _ _ _ _ _ _) (ds := [.b false, .r [.ro (.ag [.v (.int .i64 t340), .sl 2 (r68 t341)])] [], .r [.ro (.v (.string t344)), .ro (.v (.bool t345))] []]) (os := []) (c := none) rfl KD ?_
   cases h
   exact ret_as (ms := [.ro, .ro]) rfl KD
theorem impl_ApplySign.cs (k : Nat) : impl_ApplySign.C k := by
 induction k using Nat.strongRecOn with
 | _ k ih0 =>
 have ih : Kp (∀ m, m < k → impl_ApplySign.C m) := ⟨ih0⟩
 exact ⟨impl_ApplySign.c_l0 k ih, impl_ApplySign.c_j1 k ih⟩
set_option maxRecDepth 100000 in
set_option maxHeartbeats 4000000 in
theorem impl_ApplySign.ctr (k : Nat) (a0 : ByteArray) (l1 : List ByteArray) (a2 : Int) (r1 : ByteArray) (r2 : Bool) (h : impl_ApplySign.f k a0 l1 a2 = some (r1, r2)) : Ctr TE 19 none [.v (.string a0), .sl 1 (rX cS l1), .v (.int .i64 a2)] [.ro (.v (.string r1)), .ro (.v (.bool r2))] [] := by
 refine ctr_of (fn := Tryz.f19) (c := (bodyOf Tryz.f19)) Tryz.func19 rfl (by kernel_rfl) (Nat.le_of_ble_eq_true (by kernel_rfl)) (fun w ro B hF _ => ?_)
 have ih : Kp (∀ m, m < k + 1 → impl_ApplySign.C m) := ⟨fun m _ => impl_ApplySign.cs m⟩
 simp only [impl_ApplySign.f] at h
 refine path_ok (k := 8) hF (RetQ_mild _ _ _ _ _ _ _ _) (ds := [.p 16 ([]), .p 17 ([]), .e 19 (.v (.int .i64 (l1.length : Int)))]) (os := []) (c := none) rfl KD ?_
 exact WS.can [(1008, some 16), (1009, some 17)] (((ih.out k (by omega)).s_l0  r1 r2 w ro B hF a0 a2 (([] : List (S68))) (([] : List Int)) l1 (l1.length : Int) 0 h).out) KD
mutual
def spec_l1Text.l0 : Nat → Int → ByteArray → List (S79) → Int → Int → Option (ByteArray)
  | 0, _, _, _, _, _ => none
  | k + 1, x1, x5, x14, x15, x16 => if x16 < x15 then (if 0 ≤ x16 then (if x16 < (x14.length : Int) then (if x16 > 0 then (if x5.size + 1 ≤ 9223372036854775807 then ((spec_l1Text.f k ((rd_T79 x14 x16).f0) ((rd_T79 x14 x16).f1) (wrap64 (x1 - 1))).bind fun t350 => (if x5.size + 1 + t350.size ≤ 9223372036854775807 then (spec_l1Text.l0 k x1 ((x5 ++ (⟨#[44]⟩ : ByteArray)) ++ t350) x14 x15 (wrap64 (x16 + 1))) else (none))) else (none)) else ((spec_l1Text.f k ((rd_T79 x14 x16).f0) ((rd_T79 x14 x16).f1) (wrap64 (x1 - 1))).bind fun t351 => (if x5.size + t351.size ≤ 9223372036854775807 then (spec_l1Text.l0 k x1 (x5 ++ t351) x14 x15 (wrap64 (x16 + 1))) else (none)))) else (none)) else (none)) else (if x5.size + 1 ≤ 9223372036854775807 then (some (x5 ++ (⟨#[93]⟩ : ByteArray))) else (none))
def spec_l1Text.f : Nat → Int → List (S79) → Int → Option (ByteArray)
  | 0, _, _, _ => none
  | k + 1, a0_0, l0_1, a1 => if a1 = 0 then ((spec_l13Dec.f k a0_0).bind fun t347 => (some t347)) else (spec_l1Text.l0 k a1 (⟨#[91]⟩ : ByteArray) l0_1 (l0_1.length : Int) 0)
end
def spec_l1Text.I0 (r : ByteArray) (m : Nat) (σ : St) : Prop := ∃ (x1 : Int) (x5 : ByteArray) (x14 : List (S79)) (x15 : Int) (x16 : Int), spec_l1Text.l0 m x1 x5 x14 x15 x16 = some r ∧ σ = ⟨[(1, .v (.int .i64 x1)), (5, .v (.string x5)), (14, .sl 2 (r79 x14)), (15, .v (.int .i64 x15)), (16, .v (.int .i64 x16))], []⟩
structure spec_l1Text.C (k : Nat) : Prop where
 s_f : ∀ (a0_0 : Int) (l0_1 : List (S79)) (a1 : Int) (r : ByteArray), spec_l1Text.f k a0_0 l0_1 a1 = some r → Ctr TE 92 none [.ag [.v (.int .i64 a0_0), .sl 2 (r79 l0_1)], .v (.int .i64 a1)] [.ro (.v (.string r))] []
 s_l0 : ∀ (r : ByteArray) (w : World) (ro : Nat → Prop) (B : Nat) (_ : Fr TE (cx0 Tryz.f92 none w ro B)) (x1 : Int) (x5 : ByteArray) (x14 : List (S79)) (x15 : Int) (x16 : Int) (_ : spec_l1Text.l0 k x1 x5 x14 x15 x16 = some r), Kp (WS TE (cx0 Tryz.f92 none w ro B) (stkAt [1, 1, 1, 0, 1, 0] [] (bodyOf Tryz.f92) []) ⟨[(1, .v (.int .i64 x1)), (5, .v (.string x5)), (14, .sl 2 (r79 x14)), (15, .v (.int .i64 x15)), (16, .v (.int .i64 x16))], []⟩ (RetQ TE Tryz.f92 none [.ro (.v (.string r))] [] w ro B))
set_option maxRecDepth 100000 in
set_option maxHeartbeats 4000000 in
theorem spec_l1Text.c_f (k : Nat) (ih : Kp (∀ m, m < k → spec_l1Text.C m)) (a0_0 : Int) (l0_1 : List (S79)) (a1 : Int) (r : ByteArray) (h : spec_l1Text.f k a0_0 l0_1 a1 = some r) : Ctr TE 92 none [.ag [.v (.int .i64 a0_0), .sl 2 (r79 l0_1)], .v (.int .i64 a1)] [.ro (.v (.string r))] [] := by
 cases k with
 | zero => simp [spec_l1Text.f] at h
 | succ k =>
 simp only [spec_l1Text.f] at h
 refine ctr_of (fn := Tryz.f92) (c := (bodyOf Tryz.f92)) Tryz.func92 rfl (by kernel_rfl) (Nat.le_of_ble_eq_true (by kernel_rfl)) (fun w ro B hF _ => ?_)
 by_cases c1 : a1 = 0
 · rw [if_pos c1] at h
   obtain ⟨t347, q2, h⟩ := Option.bind_eq_some_iff.1 h
   have q2c := spec_l13Dec.ctr k _ _ q2
   refine path_ok (k := 9) hF (RetQ_mild _ _ _ _ _ _ _ _) (ds := [.b true, .r [.ro (.v (.string t347))] []]) (os := []) (c := none) rfl KD ?_
   cases h
   exact ret_as (ms := [.ro]) rfl KD
 · rw [if_neg c1] at h
   refine path_ok (k := 13) hF (RetQ_mild _ _ _ _ _ _ _ _) (ds := [.b false, .e 15 (.v (.int .i64 (l0_1.length : Int)))]) (os := []) (c := none) rfl KD ?_
   exact WS.can [] (((ih.out k (by omega)).s_l0  r w ro B hF a1 (⟨#[91]⟩ : ByteArray) l0_1 (l0_1.length : Int) 0 h).out) KD
set_option maxRecDepth 100000 in
set_option maxHeartbeats 4000000 in
theorem spec_l1Text.c_l0 (k : Nat) (ih : Kp (∀ m, m < k → spec_l1Text.C m)) (r : ByteArray) (w : World) (ro : Nat → Prop) (B : Nat) (hF : Fr TE (cx0 Tryz.f92 none w ro B)) (x1 : Int) (x5 : ByteArray) (x14 : List (S79)) (x15 : Int) (x16 : Int) (h : spec_l1Text.l0 k x1 x5 x14 x15 x16 = some r) : Kp (WS TE (cx0 Tryz.f92 none w ro B) (stkAt [1, 1, 1, 0, 1, 0] [] (bodyOf Tryz.f92) []) ⟨[(1, .v (.int .i64 x1)), (5, .v (.string x5)), (14, .sl 2 (r79 x14)), (15, .v (.int .i64 x15)), (16, .v (.int .i64 x16))], []⟩ (RetQ TE Tryz.f92 none [.ro (.v (.string r))] [] w ro B)) := by
 refine ⟨WS.loop (fun m σ => m ≤ k ∧ spec_l1Text.I0 r m σ) k ⟨Nat.le_refl k, x1, x5, x14, x15, x16, h, rfl⟩ (fun m σ' hI J0 hJ0 => ?_)⟩
 clear h
 obtain ⟨hk, x1, x5, x14, x15, x16, h, rfl⟩ := hI
 cases m with
 | zero => simp [spec_l1Text.l0] at h
 | succ k' =>
 simp only [spec_l1Text.l0] at h
 by_cases c3 : x16 < x15
 · rw [if_pos c3] at h
   by_cases c4 : 0 ≤ x16
   · rw [if_pos c4] at h
     by_cases c5 : x16 < (x14.length : Int)
     · rw [if_pos c5] at h
       by_cases c6 : x16 > 0
       · rw [if_pos c6] at h
         by_cases c7 : x5.size + 1 ≤ 9223372036854775807
         · rw [if_pos c7] at h
           obtain ⟨t350, q8, h⟩ := Option.bind_eq_some_iff.1 h
           have q8c := (ih.out k' (by omega)).s_f _ _ _ _ q8
           by_cases c9 : x5.size + 1 + t350.size ≤ 9223372036854775807
           · rw [if_pos c9] at h
             refine path_ok (k := 17) hF (RetQ_mild _ _ _ _ _ _ _ _) (ds := [.b true, .e 19 (.rf [.v (.int .i64 ((rd_T79 x14 x16).f0)), .sl 2 (r79 ((rd_T79 x14 x16).f1))]), .b true, .r [.ro (.v (.string t350))] []]) (os := []) (c := none) rfl KD ?_
             exact WS.lpc [] (hJ0 _ _ (Nat.lt_succ_self _) ⟨by omega, x1, ((x5 ++ (⟨#[44]⟩ : ByteArray)) ++ t350), x14, x15, (wrap64 (x16 + 1)), h, rfl⟩) KD
           · rw [if_neg c9] at h
             cases h
         · rw [if_neg c7] at h
           cases h
       · rw [if_neg c6] at h
         obtain ⟨t351, q10, h⟩ := Option.bind_eq_some_iff.1 h
         have q10c := (ih.out k' (by omega)).s_f _ _ _ _ q10
         by_cases c11 : x5.size + t351.size ≤ 9223372036854775807
         · rw [if_pos c11] at h
           refine path_ok (k := 17) hF (RetQ_mild _ _ _ _ _ _ _ _) (ds := [.b true, .e 19 (.rf [.v (.int .i64 ((rd_T79 x14 x16).f0)), .sl 2 (r79 ((rd_T79 x14 x16).f1))]), .b false, .r [.ro (.v (.string t351))] []]) (os := []) (c := none) rfl KD ?_
           exact WS.lpc [] (hJ0 _ _ (Nat.lt_succ_self _) ⟨by omega, x1, (x5 ++ t351), x14, x15, (wrap64 (x16 + 1)), h, rfl⟩) KD
         · rw [if_neg c11] at h
           cases h
     · rw [if_neg c5] at h
       cases h
   · rw [if_neg c4] at h
     cases h
 · rw [if_neg c3] at h
   by_cases c12 : x5.size + 1 ≤ 9223372036854775807
   · rw [if_pos c12] at h
     refine path_ok (k := 8) hF (RetQ_mild _ _ _ _ _ _ _ _) (ds := [.b false]) (os := []) (c := none) rfl KD ?_
     cases h
     exact ret_as (ms := [.ro]) rfl KD
   · rw [if_neg c12] at h
     cases h
theorem spec_l1Text.cs (k : Nat) : spec_l1Text.C k := by
 induction k using Nat.strongRecOn with
 | _ k ih0 =>
 have ih : Kp (∀ m, m < k → spec_l1Text.C m) := ⟨ih0⟩
 exact ⟨spec_l1Text.c_f k ih, spec_l1Text.c_l0 k ih⟩
theorem spec_l1Text.ctr (k : Nat) (a0_0 : Int) (l0_1 : List (S79)) (a1 : Int) (r : ByteArray) (h : spec_l1Text.f k a0_0 l0_1 a1 = some r) : Ctr TE 92 none [.ag [.v (.int .i64 a0_0), .sl 2 (r79 l0_1)], .v (.int .i64 a1)] [.ro (.v (.string r))] [] := (spec_l1Text.cs k).s_f a0_0 l0_1 a1 r h
def spec_l1Told.f (k : Nat) (a0_0 : Int) (l0_1 : List (S79)) (a1 : Int) : Option (ByteArray × Bool) := (spec_l1Text.f k a0_0 l0_1 a1).bind fun t353 => (if (t353.size : Int) > 400 then (some ((⟨#[]⟩ : ByteArray), false)) else (some (t353, true)))
set_option maxRecDepth 100000 in
set_option maxHeartbeats 4000000 in
theorem spec_l1Told.ctr (k : Nat) (a0_0 : Int) (l0_1 : List (S79)) (a1 : Int) (r1 : ByteArray) (r2 : Bool) (h : spec_l1Told.f k a0_0 l0_1 a1 = some (r1, r2)) : Ctr TE 50 none [.ag [.v (.int .i64 a0_0), .sl 2 (r79 l0_1)], .v (.int .i64 a1)] [.ro (.v (.string r1)), .ro (.v (.bool r2))] [] := by
 refine ctr_of (fn := Tryz.f50) (c := (bodyOf Tryz.f50)) Tryz.func50 rfl (by kernel_rfl) (Nat.le_of_ble_eq_true (by kernel_rfl)) (fun w ro B hF _ => ?_)
 simp only [spec_l1Told.f] at h
 obtain ⟨t353, q1, h⟩ := Option.bind_eq_some_iff.1 h
 have q1c := spec_l1Text.ctr k _ _ _ _ q1
 by_cases c2 : (t353.size : Int) > 400
 · rw [if_pos c2] at h
   refine path_ok (k := 11) hF (RetQ_mild _ _ _ _ _ _ _ _) (ds := [.r [.ro (.v (.string t353))] [], .b true]) (os := []) (c := none) rfl KD ?_
   cases h
   exact ret_as (ms := [.ro, .ro]) rfl KD
 · rw [if_neg c2] at h
   refine path_ok (k := 12) hF (RetQ_mild _ _ _ _ _ _ _ _) (ds := [.r [.ro (.v (.string t353))] [], .b false]) (os := []) (c := none) rfl KD ?_
   cases h
   exact ret_as (ms := [.ro, .ro]) rfl KD
def spec_l1In.f (a0 : Int) (a1 : Int) (a2 : Int) : Option (Bool) := if a0 ≥ a1 then (some (decide (a0 ≤ a2))) else (some false)
set_option maxRecDepth 100000 in
set_option maxHeartbeats 4000000 in
theorem spec_l1In.ctr (a0 : Int) (a1 : Int) (a2 : Int) (r : Bool) (h : spec_l1In.f a0 a1 a2 = some r) : Ctr TE 52 none [.v (.int .i64 a0), .v (.int .i64 a1), .v (.int .i64 a2)] [.ro (.v (.bool r))] [] := by
 refine ctr_of (fn := Tryz.f52) (c := (bodyOf Tryz.f52)) Tryz.func52 rfl (by kernel_rfl) (Nat.le_of_ble_eq_true (by kernel_rfl)) (fun w ro B hF _ => ?_)
 simp only [spec_l1In.f] at h
 by_cases c1 : a0 ≥ a1
 · rw [if_pos c1] at h
   refine path_ok (k := 5) hF (RetQ_mild _ _ _ _ _ _ _ _) (ds := [.b true, .b true, .b true, .b true]) (os := []) (c := none) rfl KD ?_
   cases h
   exact ret_as (ms := [.ro]) rfl KD
 · rw [if_neg c1] at h
   refine path_ok (k := 5) hF (RetQ_mild _ _ _ _ _ _ _ _) (ds := [.b false, .b false, .b false, .b false]) (os := []) (c := none) rfl KD ?_
   cases h
   exact ret_as (ms := [.ro]) rfl KD
end Go.Proofs.YtoloblgjlnhioaaGreatDoor.I
