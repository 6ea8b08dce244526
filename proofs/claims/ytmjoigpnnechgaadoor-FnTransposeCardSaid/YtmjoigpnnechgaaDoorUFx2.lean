/- A part of the claim. -/
import Derived.Test.YtmjoigpnnechgaaDoorUFx0
import Derived.Test.YtmjoigpnnechgaaDoorUFx1
-- PRINTED by print.py (a twelfth state) out of the translation. Not trusted: Lean checks it.
namespace Go.Proofs.YtmjoigpnnechgaaDoor.U
open Go.RowKit Go.Proofs.YtmjoigpnnechgaaDoorW.St Go.Proofs.YtmjoigpnnechgaaDoorW.PrintWords Go.Proofs.YtmjoigpnnechgaaDoorW.PrintLast Go.Proofs.YtmjoigpnnechgaaDoorW.PrintMore
attribute [local go_sem] max2_int min2_int max_two min_two max_three min_three max_four min_four   -- for this text's walks alone
set_option linter.unusedVariables false
set_option linter.unusedSimpArgs false
mutual
def spec_l1Reader_node.l0 : Nat → Int → ByteArray → Int → Bool → Int → List (S95) → Option (Int × (List (S95)) × ByteArray × Int × Bool)
  | 0, _, _, _, _, _, _ => none
  | k + 1, x1, x1000, x1001, x1002, x149000, x149001 => if x1002 = true then (some (x149000, x149001, x1000, x1001, true)) else ((spec_l1Reader_is.f x1000 x1001 x1002 44).bind fun bt171 => (if bt171.1 = true then ((spec_l1Reader_node.f k bt171.2.1 bt171.2.2.1 bt171.2.2.2 (wrap64 (x1 - 1))).bind fun bt175 => (if x149001.length < 4398046511104 then (spec_l1Reader_node.l0 k x1 bt175.2.2.1 bt175.2.2.2.1 bt175.2.2.2.2 x149000 (x149001 ++ [(⟨bt175.1, bt175.2.1⟩ : S95)])) else (none))) else (if bt171.2.2.2 = true then (some (x149000, x149001, bt171.2.1, bt171.2.2.1, true)) else ((spec_l1Reader_is.f bt171.2.1 bt171.2.2.1 bt171.2.2.2 93).bind fun bt185 => (some (x149000, x149001, bt185.2.1, bt185.2.2.1, !bt185.1))))))
def spec_l1Reader_node.f : Nat → ByteArray → Int → Bool → Int → Option (Int × (List (S95)) × ByteArray × Int × Bool)
  | 0, _, _, _, _ => none
  | k + 1, s0_0, s0_1, s0_2, a1 => (some (([] : List (S95)) : List (S95))).bind fun y145 => (if a1 = 0 then ((spec_l1Reader_number.f k s0_0 s0_1 s0_2).bind fun bt149 => (some (bt149.1, y145, bt149.2.1, bt149.2.2.1, bt149.2.2.2))) else ((spec_l1Reader_is.f s0_0 s0_1 s0_2 91).bind fun bt153 => (if bt153.1 = true then ((spec_l1Reader_is.f bt153.2.1 bt153.2.2.1 bt153.2.2.2 93).bind fun bt157 => (if bt157.1 = true then (some (0, y145, bt157.2.1, bt157.2.2.1, bt157.2.2.2)) else ((spec_l1Reader_node.f k bt157.2.1 bt157.2.2.1 bt157.2.2.2 (wrap64 (a1 - 1))).bind fun bt161 => (if y145.length < 4398046511104 then (spec_l1Reader_node.l0 k a1 bt161.2.2.1 bt161.2.2.2.1 bt161.2.2.2.2 0 (y145 ++ [(⟨bt161.1, bt161.2.1⟩ : S95)])) else (none))))) else (some (0, y145, bt153.2.1, bt153.2.2.1, true)))))
end
def spec_l1Reader_node.I0 (s0_0 : ByteArray) (s0_1 : Int) (s0_2 : Bool) (r1 : Int) (r2 : List (S95)) (r3 : ByteArray) (r4 : Int) (r5 : Bool) (m : Nat) (σ : St) : Prop := ∃ (x1 : Int) (x1000 : ByteArray) (x1001 : Int) (x1002 : Bool) (x145000 : Int) (x149000 : Int) (x149001 : List (S95)), spec_l1Reader_node.l0 m x1 x1000 x1001 x1002 x149000 x149001 = some (r1, r2, r3, r4, r5) ∧ σ = ⟨[(0, .pt 0 0 0), (1, .v (.int .i64 x1)), (4, .pt 1004 0 0), (5, .pt 1005 0 0)], [(0, .box 0 132 true [.v (.string x1000), .v (.int .i64 x1001), .v (.bool x1002)]), (1004, .box 0 95 false [.v (.int .i64 x145000), .v (.slice none 0 0)]), (3321, .own 0 95 2 (r95 x149001)), (1005, .box 0 95 false [.v (.int .i64 x149000), .ow 3321 0])]⟩
structure spec_l1Reader_node.C (k : Nat) : Prop where
 s_f : ∀ (s0_0 : ByteArray) (s0_1 : Int) (s0_2 : Bool) (a1 : Int) (r1 : Int) (r2 : List (S95)) (r3 : ByteArray) (r4 : Int) (r5 : Bool), spec_l1Reader_node.f k s0_0 s0_1 s0_2 a1 = some (r1, r2, r3, r4, r5) → Ctr TE 126 (some (132, [.v (.string s0_0), .v (.int .i64 s0_1), .v (.bool s0_2)])) [.pt 0 0 0, .v (.int .i64 a1)] [.ro (.ag [.v (.int .i64 r1), .sl 2 (r95 r2)])] [.v (.string r3), .v (.int .i64 r4), .v (.bool r5)]
 s_l0 : ∀ (s0_0 : ByteArray) (s0_1 : Int) (s0_2 : Bool) (r1 : Int) (r2 : List (S95)) (r3 : ByteArray) (r4 : Int) (r5 : Bool) (w : World) (ro : Nat → Prop) (B : Nat) (_ : Fr TE (cx0 Tryd.f126 (some (132, [.v (.string s0_0), .v (.int .i64 s0_1), .v (.bool s0_2)])) w ro B)) (x1 : Int) (x1000 : ByteArray) (x1001 : Int) (x1002 : Bool) (x145000 : Int) (x149000 : Int) (x149001 : List (S95)) (_ : spec_l1Reader_node.l0 k x1 x1000 x1001 x1002 x149000 x149001 = some (r1, r2, r3, r4, r5)), Kp (WS TE (cx0 Tryd.f126 (some (132, [.v (.string s0_0), .v (.int .i64 s0_1), .v (.bool s0_2)])) w ro B) (stkAt [1, 1, 1, 1, 1, 1, 0, 0] [] (bodyOf Tryd.f126) []) ⟨[(0, .pt 0 0 0), (1, .v (.int .i64 x1)), (4, .pt 1004 0 0), (5, .pt 1005 0 0)], [(0, .box 0 132 true [.v (.string x1000), .v (.int .i64 x1001), .v (.bool x1002)]), (1004, .box 0 95 false [.v (.int .i64 x145000), .v (.slice none 0 0)]), (3321, .own 0 95 2 (r95 x149001)), (1005, .box 0 95 false [.v (.int .i64 x149000), .ow 3321 0])]⟩ (RetQ TE Tryd.f126 (some (132, [.v (.string s0_0), .v (.int .i64 s0_1), .v (.bool s0_2)])) [.ro (.ag [.v (.int .i64 r1), .sl 2 (r95 r2)])] [.v (.string r3), .v (.int .i64 r4), .v (.bool r5)] w ro B))
set_option maxRecDepth 100000 in
set_option maxHeartbeats 4000000 in
theorem spec_l1Reader_node.c_f (k : Nat) (ih : Kp (∀ m, m < k → spec_l1Reader_node.C m)) (s0_0 : ByteArray) (s0_1 : Int) (s0_2 : Bool) (a1 : Int) (r1 : Int) (r2 : List (S95)) (r3 : ByteArray) (r4 : Int) (r5 : Bool) (h : spec_l1Reader_node.f k s0_0 s0_1 s0_2 a1 = some (r1, r2, r3, r4, r5)) : Ctr TE 126 (some (132, [.v (.string s0_0), .v (.int .i64 s0_1), .v (.bool s0_2)])) [.pt 0 0 0, .v (.int .i64 a1)] [.ro (.ag [.v (.int .i64 r1), .sl 2 (r95 r2)])] [.v (.string r3), .v (.int .i64 r4), .v (.bool r5)] := by
 cases k with
 | zero => simp [spec_l1Reader_node.f] at h
 | succ k =>
 simp only [spec_l1Reader_node.f] at h
 refine ctr_of (fn := Tryd.f126) (c := (bodyOf Tryd.f126)) Tryd.func126 rfl (by kernel_rfl) (Nat.le_of_ble_eq_true (by kernel_rfl)) (fun w ro B hF _ => ?_)
 obtain ⟨y145, hy145, h⟩ := Option.bind_eq_some_iff.1 h
 cases hy145
 by_cases c1 : a1 = 0
 · rw [if_pos c1] at h
   obtain ⟨⟨t149, t150, t151, t152⟩, q2, h⟩ := Option.bind_eq_some_iff.1 h
   dsimp only at h
   have q2c := spec_l1Reader_number.ctr k _ _ _ _ _ _ _ q2
   refine path_ok (k := 13) hF (RetQ_mild _ _ _ _ _ _ _ _) (ds := [.p 6 ([]), .b true, .r [.ro (.v (.int .i64 t149))] [.v (.string t150), .v (.int .i64 t151), .v (.bool t152)]]) (os := []) (c := none) rfl KD ?_
   cases h
   exact ret_as (ms := [.ro]) rfl KD
 · rw [if_neg c1] at h
   obtain ⟨⟨t153, t154, t155, t156⟩, q3, h⟩ := Option.bind_eq_some_iff.1 h
   dsimp only at h
   have q3c := spec_l1Reader_is.ctr _ _ _ _ _ _ _ _ q3
   by_cases c4 : t153 = true
   · rw [if_pos c4] at h
     obtain ⟨⟨t157, t158, t159, t160⟩, q5, h⟩ := Option.bind_eq_some_iff.1 h
     dsimp only at h
     have q5c := spec_l1Reader_is.ctr _ _ _ _ _ _ _ _ q5
     by_cases c6 : t157 = true
     · rw [if_pos c6] at h
       refine path_ok (k := 21) hF (RetQ_mild _ _ _ _ _ _ _ _) (ds := [.p 6 ([]), .b false, .r [.ro (.v (.bool t153))] [.v (.string t154), .v (.int .i64 t155), .v (.bool t156)], .b false, .r [.ro (.v (.bool t157))] [.v (.string t158), .v (.int .i64 t159), .v (.bool t160)], .b true]) (os := []) (c := none) rfl KD ?_
       cases h
       exact ret_as (ms := [.ro]) rfl KD
     · rw [if_neg c6] at h
       obtain ⟨⟨t161, t162, t165, t166, t167⟩, q7, h⟩ := Option.bind_eq_some_iff.1 h
       dsimp only at h
       have q7c := (ih.out k (by omega)).s_f _ _ _ _ _ _ _ _ _ q7
       by_cases c8 : (([] : List (S95))).length < 4398046511104
       · rw [if_pos c8] at h
         refine path_ok (k := 23) hF (RetQ_mild _ _ _ _ _ _ _ _) (ds := [.p 6 ([]), .b false, .r [.ro (.v (.bool t153))] [.v (.string t154), .v (.int .i64 t155), .v (.bool t156)], .b false, .r [.ro (.v (.bool t157))] [.v (.string t158), .v (.int .i64 t159), .v (.bool t160)], .b false]) (os := [.p 1023 [⟨0, 10, true, [0]⟩, ⟨1, 9, true, [2]⟩, ⟨5, 8, true, [3]⟩, ⟨13, 7, true, [4]⟩, ⟨29, 6, false, [1, 5]⟩, ⟨31, 5, false, [5]⟩, ⟨61, 5, false, [1, 6]⟩, ⟨63, 4, false, [6]⟩, ⟨125, 4, false, [1]⟩, ⟨127, 3, false, [7]⟩, ⟨255, 2, true, [8]⟩, ⟨511, 1, false, [9]⟩] [(0, true), (2, true), (3, true), (4, true), (1, false), (5, false), (6, false), (7, false), (8, true), (9, false)] [(5, [.r [.ro (.ag [.v (.int .i64 t161), .sl 2 (r95 t162)])] [.v (.string t165), .v (.int .i64 t166), .v (.bool t167)]]), (6, [.p 30 ([[.v (.int .i64 t161), .sl 2 (r95 t162)]])]), (7, [.o 31 (r95 ((([] : List (S95))) ++ [(⟨t161, t162⟩ : S95)]))])]]) (c := none) rfl KD ?_
         exact WS.can [(0, some 0), (1004, some 4), (1005, some 5), (3321, some 6)] (((ih.out k (by omega)).s_l0 s0_0 s0_1 s0_2 r1 r2 r3 r4 r5 w ro B hF a1 t165 t166 t167 0 0 ((([] : List (S95))) ++ [(⟨t161, t162⟩ : S95)]) h).out) KD
       · rw [if_neg c8] at h
         cases h
   · rw [if_neg c4] at h
     refine path_ok (k := 18) hF (RetQ_mild _ _ _ _ _ _ _ _) (ds := [.p 6 ([]), .b false, .r [.ro (.v (.bool t153))] [.v (.string t154), .v (.int .i64 t155), .v (.bool t156)], .b true]) (os := []) (c := none) rfl KD ?_
     cases h
     exact ret_as (ms := [.ro]) rfl KD
set_option maxRecDepth 100000 in
set_option maxHeartbeats 4000000 in
theorem spec_l1Reader_node.c_l0 (k : Nat) (ih : Kp (∀ m, m < k → spec_l1Reader_node.C m)) (s0_0 : ByteArray) (s0_1 : Int) (s0_2 : Bool) (r1 : Int) (r2 : List (S95)) (r3 : ByteArray) (r4 : Int) (r5 : Bool) (w : World) (ro : Nat → Prop) (B : Nat) (hF : Fr TE (cx0 Tryd.f126 (some (132, [.v (.string s0_0), .v (.int .i64 s0_1), .v (.bool s0_2)])) w ro B)) (x1 : Int) (x1000 : ByteArray) (x1001 : Int) (x1002 : Bool) (x145000 : Int) (x149000 : Int) (x149001 : List (S95)) (h : spec_l1Reader_node.l0 k x1 x1000 x1001 x1002 x149000 x149001 = some (r1, r2, r3, r4, r5)) : Kp (WS TE (cx0 Tryd.f126 (some (132, [.v (.string s0_0), .v (.int .i64 s0_1), .v (.bool s0_2)])) w ro B) (stkAt [1, 1, 1, 1, 1, 1, 0, 0] [] (bodyOf Tryd.f126) []) ⟨[(0, .pt 0 0 0), (1, .v (.int .i64 x1)), (4, .pt 1004 0 0), (5, .pt 1005 0 0)], [(0, .box 0 132 true [.v (.string x1000), .v (.int .i64 x1001), .v (.bool x1002)]), (1004, .box 0 95 false [.v (.int .i64 x145000), .v (.slice none 0 0)]), (3321, .own 0 95 2 (r95 x149001)), (1005, .box 0 95 false [.v (.int .i64 x149000), .ow 3321 0])]⟩ (RetQ TE Tryd.f126 (some (132, [.v (.string s0_0), .v (.int .i64 s0_1), .v (.bool s0_2)])) [.ro (.ag [.v (.int .i64 r1), .sl 2 (r95 r2)])] [.v (.string r3), .v (.int .i64 r4), .v (.bool r5)] w ro B)) := by
 refine ⟨WS.loop (fun m σ => m ≤ k ∧ spec_l1Reader_node.I0 s0_0 s0_1 s0_2 r1 r2 r3 r4 r5 m σ) k ⟨Nat.le_refl k, x1, x1000, x1001, x1002, x145000, x149000, x149001, h, rfl⟩ (fun m σ' hI J0 hJ0 => ?_)⟩
 clear h
 obtain ⟨hk, x1, x1000, x1001, x1002, x145000, x149000, x149001, h, rfl⟩ := hI
 cases m with
 | zero => simp [spec_l1Reader_node.l0] at h
 | succ k' =>
 simp only [spec_l1Reader_node.l0] at h
 by_cases c9 : x1002 = true
 · rw [if_pos c9] at h
   refine path_ok (k := 10) hF (RetQ_mild _ _ _ _ _ _ _ _) (ds := [.b false, .b false, .b false, .b false, .b true, .b true, .b true, .b true]) (os := []) (c := none) rfl KD ?_
   cases h
   exact ret_as (ms := [.ro]) rfl KD
 · rw [if_neg c9] at h
   obtain ⟨⟨t171, t172, t173, t174⟩, q10, h⟩ := Option.bind_eq_some_iff.1 h
   dsimp only at h
   have q10c := spec_l1Reader_is.ctr _ _ _ _ _ _ _ _ q10
   by_cases c11 : t171 = true
   · rw [if_pos c11] at h
     obtain ⟨⟨t175, t176, t179, t180, t181⟩, q12, h⟩ := Option.bind_eq_some_iff.1 h
     dsimp only at h
     have q12c := (ih.out k' (by omega)).s_f _ _ _ _ _ _ _ _ _ q12
     by_cases c13 : x149001.length < 4398046511104
     · rw [if_pos c13] at h
       refine path_ok (k := 8) hF (RetQ_mild _ _ _ _ _ _ _ _) (ds := [.b true, .b true, .r [.ro (.v (.bool t171))] [.v (.string t172), .v (.int .i64 t173), .v (.bool t174)], .b true, .b true]) (os := [.p 1023 [⟨0, 10, true, [0]⟩, ⟨1, 9, true, [2]⟩, ⟨5, 8, true, [3]⟩, ⟨13, 7, true, [4]⟩, ⟨29, 6, false, [1, 5]⟩, ⟨31, 5, false, [5]⟩, ⟨61, 5, false, [1, 6]⟩, ⟨63, 4, false, [6]⟩, ⟨125, 4, false, [1]⟩, ⟨127, 3, false, [7]⟩, ⟨255, 2, true, [8]⟩, ⟨511, 1, false, [9]⟩] [(0, true), (2, true), (3, true), (4, true), (1, false), (5, false), (6, false), (7, false), (8, true), (9, false)] [(5, [.r [.ro (.ag [.v (.int .i64 t175), .sl 2 (r95 t176)])] [.v (.string t179), .v (.int .i64 t180), .v (.bool t181)]]), (6, [.p 48 ([[.v (.int .i64 t175), .sl 2 (r95 t176)]])]), (7, [.o 49 (r95 (x149001 ++ [(⟨t175, t176⟩ : S95)]))])]]) (c := none) rfl KD ?_
       exact WS.lpc [(0, some 0), (1004, some 1004), (1005, some 1005), (3321, some 3321)] (hJ0 _ _ (Nat.lt_succ_self _) ⟨by omega, x1, t179, t180, t181, x145000, x149000, (x149001 ++ [(⟨t175, t176⟩ : S95)]), h, rfl⟩) KD
     · rw [if_neg c13] at h
       cases h
   · rw [if_neg c11] at h
     by_cases c14 : t174 = true
     · rw [if_pos c14] at h
       refine path_ok (k := 10) hF (RetQ_mild _ _ _ _ _ _ _ _) (ds := [.b true, .b true, .r [.ro (.v (.bool t171))] [.v (.string t172), .v (.int .i64 t173), .v (.bool t174)], .b true, .b false, .b true, .b true, .b true, .b true]) (os := []) (c := none) rfl KD ?_
       cases h
       exact ret_as (ms := [.ro]) rfl KD
     · rw [if_neg c14] at h
       obtain ⟨⟨t185, t186, t187, t188⟩, q15, h⟩ := Option.bind_eq_some_iff.1 h
       dsimp only at h
       have q15c := spec_l1Reader_is.ctr _ _ _ _ _ _ _ _ q15
       refine path_ok (k := 10) hF (RetQ_mild _ _ _ _ _ _ _ _) (ds := [.b true, .b true, .r [.ro (.v (.bool t171))] [.v (.string t172), .v (.int .i64 t173), .v (.bool t174)], .b true, .b false, .b false, .b false, .r [.ro (.v (.bool t185))] [.v (.string t186), .v (.int .i64 t187), .v (.bool t188)], .b false, .b false]) (os := []) (c := none) rfl KD ?_
       cases h
       exact ret_as (ms := [.ro]) rfl KD
theorem spec_l1Reader_node.cs (k : Nat) : spec_l1Reader_node.C k := by
 induction k using Nat.strongRecOn with
 | _ k ih0 =>
 have ih : Kp (∀ m, m < k → spec_l1Reader_node.C m) := ⟨ih0⟩
 exact ⟨spec_l1Reader_node.c_f k ih, spec_l1Reader_node.c_l0 k ih⟩
theorem spec_l1Reader_node.ctr (k : Nat) (s0_0 : ByteArray) (s0_1 : Int) (s0_2 : Bool) (a1 : Int) (r1 : Int) (r2 : List (S95)) (r3 : ByteArray) (r4 : Int) (r5 : Bool) (h : spec_l1Reader_node.f k s0_0 s0_1 s0_2 a1 = some (r1, r2, r3, r4, r5)) : Ctr TE 126 (some (132, [.v (.string s0_0), .v (.int .i64 s0_1), .v (.bool s0_2)])) [.pt 0 0 0, .v (.int .i64 a1)] [.ro (.ag [.v (.int .i64 r1), .sl 2 (r95 r2)])] [.v (.string r3), .v (.int .i64 r4), .v (.bool r5)] := (spec_l1Reader_node.cs k).s_f s0_0 s0_1 s0_2 a1 r1 r2 r3 r4 r5 h
def spec_l1Read.j0 : Nat → ByteArray → Int → Bool → Option (Int × (List (S95)) × Bool)
  | 0, _, _, _ => none
  | k + 1, x0, x1, x15 => if x15 = true then (some (0, ([] : List (S95)), false)) else ((spec_l1Reader_node.f k x0 0 false x1).bind fun bt192 => (if bt192.2.2.2.2 = true then (some (0, ([] : List (S95)), false)) else (if bt192.2.2.2.1 = (x0.size : Int) then (some (bt192.1, bt192.2.1, true)) else (some (0, ([] : List (S95)), false)))))
def spec_l1Read.f (k : Nat) (a0 : ByteArray) (a1 : Int) : Option (Int × (List (S95)) × Bool) := (spec_l1In.f a1 0 3).bind fun t190 => (if t190 = true then (spec_l1Read.j0 k a0 a1 (decide ((a0.size : Int) > 400))) else (spec_l1Read.j0 k a0 a1 true))
structure spec_l1Read.C (k : Nat) : Prop where
 s_j0 : ∀ (r1 : Int) (r2 : List (S95)) (r3 : Bool) (w : World) (ro : Nat → Prop) (B : Nat) (_ : Fr TE (cx0 Tryd.f89 none w ro B)) (x0 : ByteArray) (x1 : Int) (x15 : Bool) (x190000 : Int) (_ : spec_l1Read.j0 k x0 x1 x15 = some (r1, r2, r3)), Kp (WS TE (cx0 Tryd.f89 none w ro B) (stkAt [1, 0, 0, 9] [] (bodyOf Tryd.f89) []) ⟨[(0, .v (.string x0)), (1, .v (.int .i64 x1)), (4, .pt 1004 0 0), (15, .v (.bool x15))], [(1004, .box 0 95 false [.v (.int .i64 x190000), .v (.slice none 0 0)])]⟩ (RetQ TE Tryd.f89 none [.ro (.ag [.v (.int .i64 r1), .sl 2 (r95 r2)]), .ro (.v (.bool r3))] [] w ro B))
set_option maxRecDepth 100000 in
set_option maxHeartbeats 4000000 in
theorem spec_l1Read.c_j0 (k : Nat) (ih : Kp (∀ m, m < k → spec_l1Read.C m)) (r1 : Int) (r2 : List (S95)) (r3 : Bool) (w : World) (ro : Nat → Prop) (B : Nat) (hF : Fr TE (cx0 Tryd.f89 none w ro B)) (x0 : ByteArray) (x1 : Int) (x15 : Bool) (x190000 : Int) (h : spec_l1Read.j0 k x0 x1 x15 = some (r1, r2, r3)) : Kp (WS TE (cx0 Tryd.f89 none w ro B) (stkAt [1, 0, 0, 9] [] (bodyOf Tryd.f89) []) ⟨[(0, .v (.string x0)), (1, .v (.int .i64 x1)), (4, .pt 1004 0 0), (15, .v (.bool x15))], [(1004, .box 0 95 false [.v (.int .i64 x190000), .v (.slice none 0 0)])]⟩ (RetQ TE Tryd.f89 none [.ro (.ag [.v (.int .i64 r1), .sl 2 (r95 r2)]), .ro (.v (.bool r3))] [] w ro B)) := by
 refine ⟨?_⟩
 cases k with
 | zero => simp [spec_l1Read.j0] at h
 | succ k =>
 simp only [spec_l1Read.j0] at h
 by_cases c3 : x15 = true
 · rw [if_pos c3] at h
   refine path_ok (k := 4) hF (RetQ_mild _ _ _ _ _ _ _ _) (ds := [.b true]) (os := []) (c := none) rfl KD ?_
   cases h
   exact ret_as (ms := [.ro, .ro]) rfl KD
 · rw [if_neg c3] at h
   obtain ⟨⟨t192, t193, t196, t197, t198⟩, q4, h⟩ := Option.bind_eq_some_iff.1 h
   dsimp only at h
   have q4c := spec_l1Reader_node.ctr k _ _ _ _ _ _ _ _ _ q4
   by_cases c5 : t198 = true
   · rw [if_pos c5] at h
     refine path_ok (k := 13) hF (RetQ_mild _ _ _ _ _ _ _ _) (ds := [.b false, .r [.ro (.ag [.v (.int .i64 t192), .sl 2 (r95 t193)])] [.v (.string t196), .v (.int .i64 t197), .v (.bool t198)], .b true, .b true, .b true, .b true, .b true, .b true, .b true, .b true, .b true]) (os := []) (c := none) rfl KD ?_
     cases h
     exact ret_as (ms := [.ro, .ro]) rfl KD
   · rw [if_neg c5] at h
     by_cases c6 : t197 = (x0.size : Int)
     · rw [if_pos c6] at h
       refine path_ok (k := 14) hF (RetQ_mild _ _ _ _ _ _ _ _) (ds := [.b false, .r [.ro (.ag [.v (.int .i64 t192), .sl 2 (r95 t193)])] [.v (.string t196), .v (.int .i64 t197), .v (.bool t198)], .b false, .b false, .b false, .b false, .b false, .b false, .b false, .b false, .b false]) (os := []) (c := none) rfl KD ?_
       cases h
       exact ret_as (ms := [.ro, .ro]) rfl KD
     · rw [if_neg c6] at h
       refine path_ok (k := 13) hF (RetQ_mild _ _ _ _ _ _ _ _) (ds := [.b false, .r [.ro (.ag [.v (.int .i64 t192), .sl 2 (r95 t193)])] [.v (.string t196), .v (.int .i64 t197), .v (.bool t198)], .b false, .b false, .b false, .b false, .b false, .b false, .b false, .b false, .b true]) (os := []) (c := none) rfl KD ?_
       cases h
       exact ret_as (ms := [.ro, .ro]) rfl KD
theorem spec_l1Read.cs (k : Nat) : spec_l1Read.C k := by
 induction k using Nat.strongRecOn with
 | _ k ih0 =>
 have ih : Kp (∀ m, m < k → spec_l1Read.C m) := ⟨ih0⟩
 exact ⟨spec_l1Read.c_j0 k ih⟩
set_option maxRecDepth 100000 in
set_option maxHeartbeats 4000000 in
theorem spec_l1Read.ctr (k : Nat) (a0 : ByteArray) (a1 : Int) (r1 : Int) (r2 : List (S95)) (r3 : Bool) (h : spec_l1Read.f k a0 a1 = some (r1, r2, r3)) : Ctr TE 89 none [.v (.string a0), .v (.int .i64 a1)] [.ro (.ag [.v (.int .i64 r1), .sl 2 (r95 r2)]), .ro (.v (.bool r3))] [] := by
 refine ctr_of (fn := Tryd.f89) (c := (bodyOf Tryd.f89)) Tryd.func89 rfl (by kernel_rfl) (Nat.le_of_ble_eq_true (by kernel_rfl)) (fun w ro B hF _ => ?_)
 have ih : Kp (∀ m, m < k + 1 → spec_l1Read.C m) := ⟨fun m _ => spec_l1Read.cs m⟩
 simp only [spec_l1Read.f] at h
 obtain ⟨t190, q1, h⟩ := Option.bind_eq_some_iff.1 h
 have q1c := spec_l1In.ctr _ _ _ _ q1
 by_cases c2 : t190 = true
 · rw [if_pos c2] at h
   refine path_ok (k := 5) hF (RetQ_mild _ _ _ _ _ _ _ _) (ds := [.r [.ro (.v (.bool t190))] [], .b false, .b false, .b false, .b false]) (os := []) (c := none) rfl KD ?_
   exact WS.can [(1004, some 4)] (((ih.out k (by omega)).s_j0  r1 r2 r3 w ro B hF a0 a1 (decide ((a0.size : Int) > 400)) 0 h).out) KD
 · rw [if_neg c2] at h
   refine path_ok (k := 5) hF (RetQ_mild _ _ _ _ _ _ _ _) (ds := [.r [.ro (.v (.bool t190))] [], .b true, .b true, .b true, .b true]) (os := []) (c := none) rfl KD ?_
   exact WS.can [(1004, some 4)] (((ih.out k (by omega)).s_j0  r1 r2 r3 w ro B hF a0 a1 true 0 h).out) KD
mutual
def spec_l1Numbers.l0 : Nat → Int → List Int → List (S95) → Int → Int → Option (List Int)
  | 0, _, _, _, _, _ => none
  | k + 1, x1, x5, x15, x16, x17 => if x17 < x16 then (if 0 ≤ x17 then (if x17 < (x15.length : Int) then ((spec_l1Numbers.f k ((rd_T95 x15 x17).f0) ((rd_T95 x15 x17).f1) (wrap64 (x1 - 1))).bind fun t209 => (if x5.length + t209.length < 17592186044416 then (spec_l1Numbers.l0 k x1 (x5 ++ t209) x15 x16 (wrap64 (x17 + 1))) else (none))) else (none)) else (none)) else (some x5)
def spec_l1Numbers.f : Nat → Int → List (S95) → Int → Option (List Int)
  | 0, _, _, _ => none
  | k + 1, a0_0, l0_1, a1 => if a1 = 0 then (some (([a0_0] : List Int))) else (spec_l1Numbers.l0 k a1 (([] : List Int)) l0_1 (l0_1.length : Int) 0)
end
def spec_l1Numbers.I0 (r : List Int) (m : Nat) (σ : St) : Prop := ∃ (x1 : Int) (x5 : List Int) (x15 : List (S95)) (x16 : Int) (x17 : Int), spec_l1Numbers.l0 m x1 x5 x15 x16 x17 = some r ∧ σ = ⟨[(1, .v (.int .i64 x1)), (5, .ow 1005 0), (15, .sl 2 (r95 x15)), (16, .v (.int .i64 x16)), (17, .v (.int .i64 x17))], [(1005, .own 0 3 1 (rX (cI .i64) x5))]⟩
structure spec_l1Numbers.C (k : Nat) : Prop where
 s_f : ∀ (a0_0 : Int) (l0_1 : List (S95)) (a1 : Int) (r : List Int), spec_l1Numbers.f k a0_0 l0_1 a1 = some r → Ctr TE 115 none [.ag [.v (.int .i64 a0_0), .sl 2 (r95 l0_1)], .v (.int .i64 a1)] [.ro (.sl 1 (rX (cI .i64) r))] []
 s_l0 : ∀ (r : List Int) (w : World) (ro : Nat → Prop) (B : Nat) (_ : Fr TE (cx0 Tryd.f115 none w ro B)) (x1 : Int) (x5 : List Int) (x15 : List (S95)) (x16 : Int) (x17 : Int) (_ : spec_l1Numbers.l0 k x1 x5 x15 x16 x17 = some r), Kp (WS TE (cx0 Tryd.f115 none w ro B) (stkAt [1, 1, 1, 0, 1, 0] [] (bodyOf Tryd.f115) []) ⟨[(1, .v (.int .i64 x1)), (5, .ow 1005 0), (15, .sl 2 (r95 x15)), (16, .v (.int .i64 x16)), (17, .v (.int .i64 x17))], [(1005, .own 0 3 1 (rX (cI .i64) x5))]⟩ (RetQ TE Tryd.f115 none [.ro (.sl 1 (rX (cI .i64) r))] [] w ro B))
set_option maxRecDepth 100000 in
set_option maxHeartbeats 4000000 in
theorem spec_l1Numbers.c_f (k : Nat) (ih : Kp (∀ m, m < k → spec_l1Numbers.C m)) (a0_0 : Int) (l0_1 : List (S95)) (a1 : Int) (r : List Int) (h : spec_l1Numbers.f k a0_0 l0_1 a1 = some r) : Ctr TE 115 none [.ag [.v (.int .i64 a0_0), .sl 2 (r95 l0_1)], .v (.int .i64 a1)] [.ro (.sl 1 (rX (cI .i64) r))] [] := by
 cases k with
 | zero => simp [spec_l1Numbers.f] at h
 | succ k =>
 simp only [spec_l1Numbers.f] at h
 refine ctr_of (fn := Tryd.f115) (c := (bodyOf Tryd.f115)) Tryd.func115 rfl (by kernel_rfl) (Nat.le_of_ble_eq_true (by kernel_rfl)) (fun w ro B hF _ => ?_)
 by_cases c1 : a1 = 0
 · rw [if_pos c1] at h
   refine path_ok (k := 9) hF (RetQ_mild _ _ _ _ _ _ _ _) (ds := [.b true, .p 12 ([[.v (.int .i64 a0_0)]])]) (os := []) (c := none) rfl KD ?_
   cases h
   exact ret_as (ms := [.ro]) rfl KD
 · rw [if_neg c1] at h
   refine path_ok (k := 13) hF (RetQ_mild _ _ _ _ _ _ _ _) (ds := [.b false, .p 13 ([]), .e 16 (.v (.int .i64 (l0_1.length : Int)))]) (os := []) (c := none) rfl KD ?_
   exact WS.can [(1005, some 13)] (((ih.out k (by omega)).s_l0  r w ro B hF a1 (([] : List Int)) l0_1 (l0_1.length : Int) 0 h).out) KD
set_option maxRecDepth 100000 in
set_option maxHeartbeats 4000000 in
theorem spec_l1Numbers.c_l0 (k : Nat) (ih : Kp (∀ m, m < k → spec_l1Numbers.C m)) (r : List Int) (w : World) (ro : Nat → Prop) (B : Nat) (hF : Fr TE (cx0 Tryd.f115 none w ro B)) (x1 : Int) (x5 : List Int) (x15 : List (S95)) (x16 : Int) (x17 : Int) (h : spec_l1Numbers.l0 k x1 x5 x15 x16 x17 = some r) : Kp (WS TE (cx0 Tryd.f115 none w ro B) (stkAt [1, 1, 1, 0, 1, 0] [] (bodyOf Tryd.f115) []) ⟨[(1, .v (.int .i64 x1)), (5, .ow 1005 0), (15, .sl 2 (r95 x15)), (16, .v (.int .i64 x16)), (17, .v (.int .i64 x17))], [(1005, .own 0 3 1 (rX (cI .i64) x5))]⟩ (RetQ TE Tryd.f115 none [.ro (.sl 1 (rX (cI .i64) r))] [] w ro B)) := by
 refine ⟨WS.loop (fun m σ => m ≤ k ∧ spec_l1Numbers.I0 r m σ) k ⟨Nat.le_refl k, x1, x5, x15, x16, x17, h, rfl⟩ (fun m σ' hI J0 hJ0 => ?_)⟩
 clear h
 obtain ⟨hk, x1, x5, x15, x16, x17, h, rfl⟩ := hI
 cases m with
 | zero => simp [spec_l1Numbers.l0] at h
 | succ k' =>
 simp only [spec_l1Numbers.l0] at h
 by_cases c2 : x17 < x16
 · rw [if_pos c2] at h
   by_cases c3 : 0 ≤ x17
   · rw [if_pos c3] at h
     by_cases c4 : x17 < (x15.length : Int)
     · rw [if_pos c4] at h
       obtain ⟨t209, q5, h⟩ := Option.bind_eq_some_iff.1 h
       have q5c := (ih.out k' (by omega)).s_f _ _ _ _ q5
       by_cases c6 : x5.length + t209.length < 17592186044416
       · rw [if_pos c6] at h
         refine path_ok (k := 12) hF (RetQ_mild _ _ _ _ _ _ _ _) (ds := [.b true, .e 19 (.rf [.v (.int .i64 ((rd_T95 x15 x17).f0)), .sl 2 (r95 ((rd_T95 x15 x17).f1))]), .r [.ro (.sl 1 (rX (cI .i64) t209))] [], .o 26 (rX (cI .i64) (x5 ++ t209))]) (os := []) (c := none) rfl KD ?_
         exact WS.lpc [(1005, some 1005)] (hJ0 _ _ (Nat.lt_succ_self _) ⟨by omega, x1, (x5 ++ t209), x15, x16, (wrap64 (x17 + 1)), h, rfl⟩) KD
       · rw [if_neg c6] at h
         cases h
     · rw [if_neg c4] at h
       cases h
   · rw [if_neg c3] at h
     cases h
 · rw [if_neg c2] at h
   refine path_ok (k := 8) hF (RetQ_mild _ _ _ _ _ _ _ _) (ds := [.b false]) (os := []) (c := none) rfl KD ?_
   cases h
   exact ret_as (ms := [.ro]) rfl KD
theorem spec_l1Numbers.cs (k : Nat) : spec_l1Numbers.C k := by
 induction k using Nat.strongRecOn with
 | _ k ih0 =>
 have ih : Kp (∀ m, m < k → spec_l1Numbers.C m) := ⟨ih0⟩
 exact ⟨spec_l1Numbers.c_f k ih, spec_l1Numbers.c_l0 k ih⟩
theorem spec_l1Numbers.ctr (k : Nat) (a0_0 : Int) (l0_1 : List (S95)) (a1 : Int) (r : List Int) (h : spec_l1Numbers.f k a0_0 l0_1 a1 = some r) : Ctr TE 115 none [.ag [.v (.int .i64 a0_0), .sl 2 (r95 l0_1)], .v (.int .i64 a1)] [.ro (.sl 1 (rX (cI .i64) r))] [] := (spec_l1Numbers.cs k).s_f a0_0 l0_1 a1 r h
def spec_l13OwnListListint.l0 : Nat → List (List Int) → List (List Int) → Int → Int → Option ((List (List Int)))
  | 0, _, _, _, _ => none
  | k + 1, x3, x7, x8, x9 => if x9 < x8 then (if 0 ≤ x9 then (if x9 < (x7.length : Int) then ((some (([] : List Int) : List Int)).bind fun y219 => (if y219.length + (rd_L3 x7 x9).length < 17592186044416 then (if x3.length < 5864062014805 then (spec_l13OwnListListint.l0 k (x3 ++ [(y219 ++ (rd_L3 x7 x9))]) x7 x8 (wrap64 (x9 + 1))) else (none)) else (none))) else (none)) else (none)) else (some x3)
def spec_l13OwnListListint.f (k : Nat) (l0 : List (List Int)) : Option ((List (List Int))) := spec_l13OwnListListint.l0 k (([] : List (List Int))) l0 (l0.length : Int) 0
def spec_l13OwnListListint.I0 (r : List (List Int)) (m : Nat) (σ : St) : Prop := ∃ (x3 : List (List Int)) (x7 : List (List Int)) (x8 : Int) (x9 : Int), spec_l13OwnListListint.l0 m x3 x7 x8 x9 = some r ∧ σ = ⟨[(3, .ow 1003 0), (7, .sl 1 (rX (cL (cI .i64) 1) x7)), (8, .v (.int .i64 x8)), (9, .v (.int .i64 x9))], [(1003, .own 0 22 1 (rX (cL (cI .i64) 1) x3))]⟩
structure spec_l13OwnListListint.C (k : Nat) : Prop where
 s_l0 : ∀ (r : List (List Int)) (w : World) (ro : Nat → Prop) (B : Nat) (_ : Fr TE (cx0 Tryd.f140 none w ro B)) (x3 : List (List Int)) (x7 : List (List Int)) (x8 : Int) (x9 : Int) (_ : spec_l13OwnListListint.l0 k x3 x7 x8 x9 = some r), Kp (WS TE (cx0 Tryd.f140 none w ro B) (stkAt [1, 1, 0, 1, 0] [] (bodyOf Tryd.f140) []) ⟨[(3, .ow 1003 0), (7, .sl 1 (rX (cL (cI .i64) 1) x7)), (8, .v (.int .i64 x8)), (9, .v (.int .i64 x9))], [(1003, .own 0 22 1 (rX (cL (cI .i64) 1) x3))]⟩ (RetQ TE Tryd.f140 none [.own 22 1 (rX (cL (cI .i64) 1) r)] [] w ro B))
set_option maxRecDepth 100000 in
set_option maxHeartbeats 4000000 in
theorem spec_l13OwnListListint.c_l0 (k : Nat) (ih : Kp (∀ m, m < k → spec_l13OwnListListint.C m)) (r : List (List Int)) (w : World) (ro : Nat → Prop) (B : Nat) (hF : Fr TE (cx0 Tryd.f140 none w ro B)) (x3 : List (List Int)) (x7 : List (List Int)) (x8 : Int) (x9 : Int) (h : spec_l13OwnListListint.l0 k x3 x7 x8 x9 = some r) : Kp (WS TE (cx0 Tryd.f140 none w ro B) (stkAt [1, 1, 0, 1, 0] [] (bodyOf Tryd.f140) []) ⟨[(3, .ow 1003 0), (7, .sl 1 (rX (cL (cI .i64) 1) x7)), (8, .v (.int .i64 x8)), (9, .v (.int .i64 x9))], [(1003, .own 0 22 1 (rX (cL (cI .i64) 1) x3))]⟩ (RetQ TE Tryd.f140 none [.own 22 1 (rX (cL (cI .i64) 1) r)] [] w ro B)) := by
 refine ⟨WS.loop (fun m σ => m ≤ k ∧ spec_l13OwnListListint.I0 r m σ) k ⟨Nat.le_refl k, x3, x7, x8, x9, h, rfl⟩ (fun m σ' hI J0 hJ0 => ?_)⟩
 clear h
 obtain ⟨hk, x3, x7, x8, x9, h, rfl⟩ := hI
 cases m with
 | zero => simp [spec_l13OwnListListint.l0] at h
 | succ k' =>
 simp only [spec_l13OwnListListint.l0] at h
 by_cases c1 : x9 < x8
 · rw [if_pos c1] at h
   by_cases c2 : 0 ≤ x9
   · rw [if_pos c2] at h
     by_cases c3 : x9 < (x7.length : Int)
     · rw [if_pos c3] at h
       obtain ⟨y219, hy219, h⟩ := Option.bind_eq_some_iff.1 h
       cases hy219
       by_cases c4 : (([] : List Int)).length + (rd_L3 x7 x9).length < 17592186044416
       · rw [if_pos c4] at h
         by_cases c5 : x3.length < 5864062014805
         · rw [if_pos c5] at h
           refine path_ok (k := 12) hF (RetQ_mild _ _ _ _ _ _ _ _) (ds := [.b true, .e 11 (.rf [.sl 1 (rX (cI .i64) (rd_L3 x7 x9))]), .p 14 ([]), .o 16 (rX (cI .i64) ((([] : List Int)) ++ (rd_L3 x7 x9))), .p 17 ([[.sl 1 (rX (cI .i64) ((([] : List Int)) ++ (rd_L3 x7 x9)))]]), .o 18 (rX (cL (cI .i64) 1) (x3 ++ [((([] : List Int)) ++ (rd_L3 x7 x9))]))]) (os := []) (c := none) rfl KD ?_
           exact WS.lpc [(1003, some 1003)] (hJ0 _ _ (Nat.lt_succ_self _) ⟨by omega, (x3 ++ [((([] : List Int)) ++ (rd_L3 x7 x9))]), x7, x8, (wrap64 (x9 + 1)), h, rfl⟩) KD
         · rw [if_neg c5] at h
           cases h
       · rw [if_neg c4] at h
         cases h
     · rw [if_neg c3] at h
       cases h
   · rw [if_neg c2] at h
     cases h
 · rw [if_neg c1] at h
   refine path_ok (k := 8) hF (RetQ_mild _ _ _ _ _ _ _ _) (ds := [.b false]) (os := []) (c := none) rfl KD ?_
   cases h
   exact ret_as (ms := [.own]) rfl KD
theorem spec_l13OwnListListint.cs (k : Nat) : spec_l13OwnListListint.C k := by
 induction k using Nat.strongRecOn with
 | _ k ih0 =>
 have ih : Kp (∀ m, m < k → spec_l13OwnListListint.C m) := ⟨ih0⟩
 exact ⟨spec_l13OwnListListint.c_l0 k ih⟩
set_option maxRecDepth 100000 in
set_option maxHeartbeats 4000000 in
theorem spec_l13OwnListListint.ctr (k : Nat) (l0 : List (List Int)) (r : List (List Int)) (h : spec_l13OwnListListint.f k l0 = some r) : Ctr TE 140 none [.sl 1 (rX (cL (cI .i64) 1) l0)] [.own 22 1 (rX (cL (cI .i64) 1) r)] [] := by
 refine ctr_of (fn := Tryd.f140) (c := (bodyOf Tryd.f140)) Tryd.func140 rfl (by kernel_rfl) (Nat.le_of_ble_eq_true (by kernel_rfl)) (fun w ro B hF _ => ?_)
 have ih : Kp (∀ m, m < k + 1 → spec_l13OwnListListint.C m) := ⟨fun m _ => spec_l13OwnListListint.cs m⟩
 simp only [spec_l13OwnListListint.f] at h
 refine path_ok (k := 8) hF (RetQ_mild _ _ _ _ _ _ _ _) (ds := [.p 6 ([]), .e 8 (.v (.int .i64 (l0.length : Int)))]) (os := []) (c := none) rfl KD ?_
 exact WS.can [(1003, some 6)] (((ih.out k (by omega)).s_l0  r w ro B hF (([] : List (List Int))) l0 (l0.length : Int) 0 h).out) KD
def spec_l13OwnLayout.f (k : Nat) (l0_0 : List (List Int)) (l0_1 : List Int) : Option ((List (List Int)) × List Int) := (spec_l13OwnListListint.f k l0_0).bind fun t230 => ((some (([] : List Int) : List Int)).bind fun y233 => (if y233.length + l0_1.length < 17592186044416 then (some (t230, (y233 ++ l0_1))) else (none)))
set_option maxRecDepth 100000 in
set_option maxHeartbeats 4000000 in
theorem spec_l13OwnLayout.ctr (k : Nat) (l0_0 : List (List Int)) (l0_1 : List Int) (r1 : List (List Int)) (r2 : List Int) (h : spec_l13OwnLayout.f k l0_0 l0_1 = some (r1, r2)) : Ctr TE 105 none [.ag [.sl 1 (rX (cL (cI .i64) 1) l0_0), .sl 1 (rX (cI .i64) l0_1)]] [.ro (.ag [.sl 1 (rX (cL (cI .i64) 1) r1), .sl 1 (rX (cI .i64) r2)])] [] := by
 refine ctr_of (fn := Tryd.f105) (c := (bodyOf Tryd.f105)) Tryd.func105 rfl (by kernel_rfl) (Nat.le_of_ble_eq_true (by kernel_rfl)) (fun w ro B hF _ => ?_)
 simp only [spec_l13OwnLayout.f] at h
 obtain ⟨t230, q1, h⟩ := Option.bind_eq_some_iff.1 h
 have q1c := spec_l13OwnListListint.ctr k _ _ q1
 obtain ⟨y233, hy233, h⟩ := Option.bind_eq_some_iff.1 h
 cases hy233
 by_cases c2 : (([] : List Int)).length + l0_1.length < 17592186044416
 · rw [if_pos c2] at h
   refine path_ok (k := 9) hF (RetQ_mild _ _ _ _ _ _ _ _) (ds := [.r [.own 22 1 (rX (cL (cI .i64) 1) t230)] [], .p 7 ([]), .o 10 (rX (cI .i64) ((([] : List Int)) ++ l0_1))]) (os := []) (c := none) rfl KD ?_
   cases h
   exact ret_as (ms := [.ro]) rfl KD
 · rw [if_neg c2] at h
   cases h
end Go.Proofs.YtmjoigpnnechgaaDoor.U
