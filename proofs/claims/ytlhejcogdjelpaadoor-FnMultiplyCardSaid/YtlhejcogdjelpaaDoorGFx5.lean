/- A part of the claim. -/
import Derived.Test.YtlhejcogdjelpaaDoorGFx0
import Derived.Test.YtlhejcogdjelpaaDoorGFx2
import Derived.Test.YtlhejcogdjelpaaDoorGFx4
-- PRINTED by print.py (a twelfth state) out of the translation. Not trusted: Lean checks it.
namespace Go.Proofs.YtlhejcogdjelpaaDoor.G
open Go.RowKit Go.Proofs.YtlhejcogdjelpaaDoorW.St Go.Proofs.YtlhejcogdjelpaaDoorW.PrintWords Go.Proofs.YtlhejcogdjelpaaDoorW.PrintLast Go.Proofs.YtlhejcogdjelpaaDoorW.PrintMore
attribute [local go_sem] max2_int min2_int max_two min_two max_three min_three max_four min_four   -- for this text's walks alone
set_option linter.unusedVariables false
set_option linter.unusedSimpArgs false
mutual
def spec_l1Reader_node.l0 : Nat → Int → ByteArray → Int → Bool → Int → List (S73) → Option (Int × (List (S73)) × ByteArray × Int × Bool)
  | 0, _, _, _, _, _, _ => none
  | k + 1, x1, x1000, x1001, x1002, x405000, x405001 => if x1002 = true then (some (x405000, x405001, x1000, x1001, true)) else ((spec_l1Reader_is.f x1000 x1001 x1002 44).bind fun bt427 => (if bt427.1 = true then ((spec_l1Reader_node.f k bt427.2.1 bt427.2.2.1 bt427.2.2.2 (wrap64 (x1 - 1))).bind fun bt431 => (if x405001.length < 4398046511104 then (spec_l1Reader_node.l0 k x1 bt431.2.2.1 bt431.2.2.2.1 bt431.2.2.2.2 x405000 (x405001 ++ [(⟨bt431.1, bt431.2.1⟩ : S73)])) else (none))) else (if bt427.2.2.2 = true then (some (x405000, x405001, bt427.2.1, bt427.2.2.1, true)) else ((spec_l1Reader_is.f bt427.2.1 bt427.2.2.1 bt427.2.2.2 93).bind fun bt441 => (some (x405000, x405001, bt441.2.1, bt441.2.2.1, !bt441.1))))))
def spec_l1Reader_node.f : Nat → ByteArray → Int → Bool → Int → Option (Int × (List (S73)) × ByteArray × Int × Bool)
  | 0, _, _, _, _ => none
  | k + 1, s0_0, s0_1, s0_2, a1 => (some (([] : List (S73)) : List (S73))).bind fun y401 => (if a1 = 0 then ((spec_l1Reader_number.f k s0_0 s0_1 s0_2).bind fun bt405 => (some (bt405.1, y401, bt405.2.1, bt405.2.2.1, bt405.2.2.2))) else ((spec_l1Reader_is.f s0_0 s0_1 s0_2 91).bind fun bt409 => (if bt409.1 = true then ((spec_l1Reader_is.f bt409.2.1 bt409.2.2.1 bt409.2.2.2 93).bind fun bt413 => (if bt413.1 = true then (some (0, y401, bt413.2.1, bt413.2.2.1, bt413.2.2.2)) else ((spec_l1Reader_node.f k bt413.2.1 bt413.2.2.1 bt413.2.2.2 (wrap64 (a1 - 1))).bind fun bt417 => (if y401.length < 4398046511104 then (spec_l1Reader_node.l0 k a1 bt417.2.2.1 bt417.2.2.2.1 bt417.2.2.2.2 0 (y401 ++ [(⟨bt417.1, bt417.2.1⟩ : S73)])) else (none))))) else (some (0, y401, bt409.2.1, bt409.2.2.1, true)))))
end
def spec_l1Reader_node.I0 (s0_0 : ByteArray) (s0_1 : Int) (s0_2 : Bool) (r1 : Int) (r2 : List (S73)) (r3 : ByteArray) (r4 : Int) (r5 : Bool) (m : Nat) (σ : St) : Prop := ∃ (x1 : Int) (x1000 : ByteArray) (x1001 : Int) (x1002 : Bool) (x401000 : Int) (x405000 : Int) (x405001 : List (S73)), spec_l1Reader_node.l0 m x1 x1000 x1001 x1002 x405000 x405001 = some (r1, r2, r3, r4, r5) ∧ σ = ⟨[(0, .pt 0 0 0), (1, .v (.int .i64 x1)), (4, .pt 1004 0 0), (5, .pt 1005 0 0)], [(0, .box 0 113 true [.v (.string x1000), .v (.int .i64 x1001), .v (.bool x1002)]), (1004, .box 0 73 false [.v (.int .i64 x401000), .v (.slice none 0 0)]), (3321, .own 0 73 2 (r73 x405001)), (1005, .box 0 73 false [.v (.int .i64 x405000), .ow 3321 0])]⟩
structure spec_l1Reader_node.C (k : Nat) : Prop where
 s_f : ∀ (s0_0 : ByteArray) (s0_1 : Int) (s0_2 : Bool) (a1 : Int) (r1 : Int) (r2 : List (S73)) (r3 : ByteArray) (r4 : Int) (r5 : Bool), spec_l1Reader_node.f k s0_0 s0_1 s0_2 a1 = some (r1, r2, r3, r4, r5) → Ctr TE 75 (some (113, [.v (.string s0_0), .v (.int .i64 s0_1), .v (.bool s0_2)])) [.pt 0 0 0, .v (.int .i64 a1)] [.ro (.ag [.v (.int .i64 r1), .sl 2 (r73 r2)])] [.v (.string r3), .v (.int .i64 r4), .v (.bool r5)]
 s_l0 : ∀ (s0_0 : ByteArray) (s0_1 : Int) (s0_2 : Bool) (r1 : Int) (r2 : List (S73)) (r3 : ByteArray) (r4 : Int) (r5 : Bool) (w : World) (ro : Nat → Prop) (B : Nat) (_ : Fr TE (cx0 Tryd.f75 (some (113, [.v (.string s0_0), .v (.int .i64 s0_1), .v (.bool s0_2)])) w ro B)) (x1 : Int) (x1000 : ByteArray) (x1001 : Int) (x1002 : Bool) (x401000 : Int) (x405000 : Int) (x405001 : List (S73)) (_ : spec_l1Reader_node.l0 k x1 x1000 x1001 x1002 x405000 x405001 = some (r1, r2, r3, r4, r5)), Kp (WS TE (cx0 Tryd.f75 (some (113, [.v (.string s0_0), .v (.int .i64 s0_1), .v (.bool s0_2)])) w ro B) (stkAt [1, 1, 1, 1, 1, 1, 0, 0] [] (bodyOf Tryd.f75) []) ⟨[(0, .pt 0 0 0), (1, .v (.int .i64 x1)), (4, .pt 1004 0 0), (5, .pt 1005 0 0)], [(0, .box 0 113 true [.v (.string x1000), .v (.int .i64 x1001), .v (.bool x1002)]), (1004, .box 0 73 false [.v (.int .i64 x401000), .v (.slice none 0 0)]), (3321, .own 0 73 2 (r73 x405001)), (1005, .box 0 73 false [.v (.int .i64 x405000), .ow 3321 0])]⟩ (RetQ TE Tryd.f75 (some (113, [.v (.string s0_0), .v (.int .i64 s0_1), .v (.bool s0_2)])) [.ro (.ag [.v (.int .i64 r1), .sl 2 (r73 r2)])] [.v (.string r3), .v (.int .i64 r4), .v (.bool r5)] w ro B))
set_option maxRecDepth 100000 in
set_option maxHeartbeats 4000000 in
theorem spec_l1Reader_node.c_f (k : Nat) (ih : Kp (∀ m, m < k → spec_l1Reader_node.C m)) (s0_0 : ByteArray) (s0_1 : Int) (s0_2 : Bool) (a1 : Int) (r1 : Int) (r2 : List (S73)) (r3 : ByteArray) (r4 : Int) (r5 : Bool) (h : spec_l1Reader_node.f k s0_0 s0_1 s0_2 a1 = some (r1, r2, r3, r4, r5)) : Ctr TE 75 (some (113, [.v (.string s0_0), .v (.int .i64 s0_1), .v (.bool s0_2)])) [.pt 0 0 0, .v (.int .i64 a1)] [.ro (.ag [.v (.int .i64 r1), .sl 2 (r73 r2)])] [.v (.string r3), .v (.int .i64 r4), .v (.bool r5)] := by
 cases k with
 | zero => simp [spec_l1Reader_node.f] at h
 | succ k =>
 simp only [spec_l1Reader_node.f] at h
 refine ctr_of (fn := Tryd.f75) (c := (bodyOf Tryd.f75)) Tryd.func75 rfl (by kernel_rfl) (Nat.le_of_ble_eq_true (by kernel_rfl)) (fun w ro B hF _ => ?_)
 obtain ⟨y401, hy401, h⟩ := Option.bind_eq_some_iff.1 h
 cases hy401
 by_cases c1 : a1 = 0
 · rw [if_pos c1] at h
   obtain ⟨⟨t405, t406, t407, t408⟩, q2, h⟩ := Option.bind_eq_some_iff.1 h
   dsimp only at h
   have q2c := spec_l1Reader_number.ctr k _ _ _ _ _ _ _ q2
   refine path_ok (k := 13) hF (RetQ_mild _ _ _ _ _ _ _ _) (ds := [.p 6 ([]), .b true, .r [.ro (.v (.int .i64 t405))] [.v (.string t406), .v (.int .i64 t407), .v (.bool t408)]]) (os := []) (c := none) rfl KD ?_
   cases h
   exact ret_as (ms := [.ro]) rfl KD
 · rw [if_neg c1] at h
   obtain ⟨⟨t409, t410, t411, t412⟩, q3, h⟩ := Option.bind_eq_some_iff.1 h
   dsimp only at h
   have q3c := spec_l1Reader_is.ctr _ _ _ _ _ _ _ _ q3
   by_cases c4 : t409 = true
   · rw [if_pos c4] at h
     obtain ⟨⟨t413, t414, t415, t416⟩, q5, h⟩ := Option.bind_eq_some_iff.1 h
     dsimp only at h
     have q5c := spec_l1Reader_is.ctr _ _ _ _ _ _ _ _ q5
     by_cases c6 : t413 = true
     · rw [if_pos c6] at h
       refine path_ok (k := 21) hF (RetQ_mild _ _ _ _ _ _ _ _) (ds := [.p 6 ([]), .b false, .r [.ro (.v (.bool t409))] [.v (.string t410), .v (.int .i64 t411), .v (.bool t412)], .b false, .r [.ro (.v (.bool t413))] [.v (.string t414), .v (.int .i64 t415), .v (.bool t416)], .b true]) (os := []) (c := none) rfl KD ?_
       cases h
       exact ret_as (ms := [.ro]) rfl KD
     · rw [if_neg c6] at h
       obtain ⟨⟨t417, t418, t421, t422, t423⟩, q7, h⟩ := Option.bind_eq_some_iff.1 h
       dsimp only at h
       have q7c := (ih.out k (by omega)).s_f _ _ _ _ _ _ _ _ _ q7
       by_cases c8 : (([] : List (S73))).length < 4398046511104
       · rw [if_pos c8] at h
         refine path_ok (k := 23) hF (RetQ_mild _ _ _ _ _ _ _ _) (ds := [.p 6 ([]), .b false, .r [.ro (.v (.bool t409))] [.v (.string t410), .v (.int .i64 t411), .v (.bool t412)], .b false, .r [.ro (.v (.bool t413))] [.v (.string t414), .v (.int .i64 t415), .v (.bool t416)], .b false]) (os := [.p 1023 [⟨0, 10, true, [0]⟩, ⟨1, 9, true, [2]⟩, ⟨5, 8, true, [3]⟩, ⟨13, 7, true, [4]⟩, ⟨29, 6, false, [1, 5]⟩, ⟨31, 5, false, [5]⟩, ⟨61, 5, false, [1, 6]⟩, ⟨63, 4, false, [6]⟩, ⟨125, 4, false, [1]⟩, ⟨127, 3, false, [7]⟩, ⟨255, 2, true, [8]⟩, ⟨511, 1, false, [9]⟩] [(0, true), (2, true), (3, true), (4, true), (1, false), (5, false), (6, false), (7, false), (8, true), (9, false)] [(5, [.r [.ro (.ag [.v (.int .i64 t417), .sl 2 (r73 t418)])] [.v (.string t421), .v (.int .i64 t422), .v (.bool t423)]]), (6, [.p 30 ([[.v (.int .i64 t417), .sl 2 (r73 t418)]])]), (7, [.o 31 (r73 ((([] : List (S73))) ++ [(⟨t417, t418⟩ : S73)]))])]]) (c := none) rfl KD ?_
         exact WS.can [(0, some 0), (1004, some 4), (1005, some 5), (3321, some 6)] (((ih.out k (by omega)).s_l0 s0_0 s0_1 s0_2 r1 r2 r3 r4 r5 w ro B hF a1 t421 t422 t423 0 0 ((([] : List (S73))) ++ [(⟨t417, t418⟩ : S73)]) h).out) KD
       · rw [if_neg c8] at h
         cases h
   · rw [if_neg c4] at h
     refine path_ok (k := 18) hF (RetQ_mild _ _ _ _ _ _ _ _) (ds := [.p 6 ([]), .b false, .r [.ro (.v (.bool t409))] [.v (.string t410), .v (.int .i64 t411), .v (.bool t412)], .b true]) (os := []) (c := none) rfl KD ?_
     cases h
     exact ret_as (ms := [.ro]) rfl KD
set_option maxRecDepth 100000 in
set_option maxHeartbeats 4000000 in
theorem spec_l1Reader_node.c_l0 (k : Nat) (ih : Kp (∀ m, m < k → spec_l1Reader_node.C m)) (s0_0 : ByteArray) (s0_1 : Int) (s0_2 : Bool) (r1 : Int) (r2 : List (S73)) (r3 : ByteArray) (r4 : Int) (r5 : Bool) (w : World) (ro : Nat → Prop) (B : Nat) (hF : Fr TE (cx0 Tryd.f75 (some (113, [.v (.string s0_0), .v (.int .i64 s0_1), .v (.bool s0_2)])) w ro B)) (x1 : Int) (x1000 : ByteArray) (x1001 : Int) (x1002 : Bool) (x401000 : Int) (x405000 : Int) (x405001 : List (S73)) (h : spec_l1Reader_node.l0 k x1 x1000 x1001 x1002 x405000 x405001 = some (r1, r2, r3, r4, r5)) : Kp (WS TE (cx0 Tryd.f75 (some (113, [.v (.string s0_0), .v (.int .i64 s0_1), .v (.bool s0_2)])) w ro B) (stkAt [1, 1, 1, 1, 1, 1, 0, 0] [] (bodyOf Tryd.f75) []) ⟨[(0, .pt 0 0 0), (1, .v (.int .i64 x1)), (4, .pt 1004 0 0), (5, .pt 1005 0 0)], [(0, .box 0 113 true [.v (.string x1000), .v (.int .i64 x1001), .v (.bool x1002)]), (1004, .box 0 73 false [.v (.int .i64 x401000), .v (.slice none 0 0)]), (3321, .own 0 73 2 (r73 x405001)), (1005, .box 0 73 false [.v (.int .i64 x405000), .ow 3321 0])]⟩ (RetQ TE Tryd.f75 (some (113, [.v (.string s0_0), .v (.int .i64 s0_1), .v (.bool s0_2)])) [.ro (.ag [.v (.int .i64 r1), .sl 2 (r73 r2)])] [.v (.string r3), .v (.int .i64 r4), .v (.bool r5)] w ro B)) := by
 refine ⟨WS.loop (fun m σ => m ≤ k ∧ spec_l1Reader_node.I0 s0_0 s0_1 s0_2 r1 r2 r3 r4 r5 m σ) k ⟨Nat.le_refl k, x1, x1000, x1001, x1002, x401000, x405000, x405001, h, rfl⟩ (fun m σ' hI J0 hJ0 => ?_)⟩
 clear h
 obtain ⟨hk, x1, x1000, x1001, x1002, x401000, x405000, x405001, h, rfl⟩ := hI
 cases m with
 | zero => simp [spec_l1Reader_node.l0] at h
 | succ k' =>
 simp only [spec_l1Reader_node.l0] at h
 by_cases c9 : x1002 = true
 · rw [if_pos c9] at h
   refine path_ok (k := 10) hF (RetQ_mild _ _ _ _ _ _ _ _) (ds := [.b false, .b false, .b false, .b false, .b true, .b true, .b true, .b true]) (os := []) (c := none) rfl KD ?_
   cases h
   exact ret_as (ms := [.ro]) rfl KD
 · rw [if_neg c9] at h
   obtain ⟨⟨t427, t428, t429, t430⟩, q10, h⟩ := Option.bind_eq_some_iff.1 h
   dsimp only at h
   have q10c := spec_l1Reader_is.ctr _ _ _ _ _ _ _ _ q10
   by_cases c11 : t427 = true
   · rw [if_pos c11] at h
     obtain ⟨⟨t431, t432, t435, t436, t437⟩, q12, h⟩ := Option.bind_eq_some_iff.1 h
     dsimp only at h
     have q12c := (ih.out k' (by omega)).s_f _ _ _ _ _ _ _ _ _ q12
     by_cases c13 : x405001.length < 4398046511104
     · rw [if_pos c13] at h
       refine path_ok (k := 8) hF (RetQ_mild _ _ _ _ _ _ _ _) (ds := [.b true, .b true, .r [.ro (.v (.bool t427))] [.v (.string t428), .v (.int .i64 t429), .v (.bool t430)], .b true, .b true]) (os := [.p 1023 [⟨0, 10, true, [0]⟩, ⟨1, 9, true, [2]⟩, ⟨5, 8, true, [3]⟩, ⟨13, 7, true, [4]⟩, ⟨29, 6, false, [1, 5]⟩, ⟨31, 5, false, [5]⟩, ⟨61, 5, false, [1, 6]⟩, ⟨63, 4, false, [6]⟩, ⟨125, 4, false, [1]⟩, ⟨127, 3, false, [7]⟩, ⟨255, 2, true, [8]⟩, ⟨511, 1, false, [9]⟩] [(0, true), (2, true), (3, true), (4, true), (1, false), (5, false), (6, false), (7, false), (8, true), (9, false)] [(5, [.r [.ro (.ag [.v (.int .i64 t431), .sl 2 (r73 t432)])] [.v (.string t435), .v (.int .i64 t436), .v (.bool t437)]]), (6, [.p 48 ([[.v (.int .i64 t431), .sl 2 (r73 t432)]])]), (7, [.o 49 (r73 (x405001 ++ [(⟨t431, t432⟩ : S73)]))])]]) (c := none) rfl KD ?_
       exact WS.lpc [(0, some 0), (1004, some 1004), (1005, some 1005), (3321, some 3321)] (hJ0 _ _ (Nat.lt_succ_self _) ⟨by omega, x1, t435, t436, t437, x401000, x405000, (x405001 ++ [(⟨t431, t432⟩ : S73)]), h, rfl⟩) KD
     · rw [if_neg c13] at h
       cases h
   · rw [if_neg c11] at h
     by_cases c14 : t430 = true
     · rw [if_pos c14] at h
       refine path_ok (k := 10) hF (RetQ_mild _ _ _ _ _ _ _ _) (ds := [.b true, .b true, .r [.ro (.v (.bool t427))] [.v (.string t428), .v (.int .i64 t429), .v (.bool t430)], .b true, .b false, .b true, .b true, .b true, .b true]) (os := []) (c := none) rfl KD ?_
       cases h
       exact ret_as (ms := [.ro]) rfl KD
     · rw [if_neg c14] at h
       obtain ⟨⟨t441, t442, t443, t444⟩, q15, h⟩ := Option.bind_eq_some_iff.1 h
       dsimp only at h
       have q15c := spec_l1Reader_is.ctr _ _ _ _ _ _ _ _ q15
       refine path_ok (k := 10) hF (RetQ_mild _ _ _ _ _ _ _ _) (ds := [.b true, .b true, .r [.ro (.v (.bool t427))] [.v (.string t428), .v (.int .i64 t429), .v (.bool t430)], .b true, .b false, .b false, .b false, .r [.ro (.v (.bool t441))] [.v (.string t442), .v (.int .i64 t443), .v (.bool t444)], .b false, .b false]) (os := []) (c := none) rfl KD ?_
       cases h
       exact ret_as (ms := [.ro]) rfl KD
theorem spec_l1Reader_node.cs (k : Nat) : spec_l1Reader_node.C k := by
 induction k using Nat.strongRecOn with
 | _ k ih0 =>
 have ih : Kp (∀ m, m < k → spec_l1Reader_node.C m) := ⟨ih0⟩
 exact ⟨spec_l1Reader_node.c_f k ih, spec_l1Reader_node.c_l0 k ih⟩
theorem spec_l1Reader_node.ctr (k : Nat) (s0_0 : ByteArray) (s0_1 : Int) (s0_2 : Bool) (a1 : Int) (r1 : Int) (r2 : List (S73)) (r3 : ByteArray) (r4 : Int) (r5 : Bool) (h : spec_l1Reader_node.f k s0_0 s0_1 s0_2 a1 = some (r1, r2, r3, r4, r5)) : Ctr TE 75 (some (113, [.v (.string s0_0), .v (.int .i64 s0_1), .v (.bool s0_2)])) [.pt 0 0 0, .v (.int .i64 a1)] [.ro (.ag [.v (.int .i64 r1), .sl 2 (r73 r2)])] [.v (.string r3), .v (.int .i64 r4), .v (.bool r5)] := (spec_l1Reader_node.cs k).s_f s0_0 s0_1 s0_2 a1 r1 r2 r3 r4 r5 h
def spec_l1Read.j0 : Nat → ByteArray → Int → Bool → Option (Int × (List (S73)) × Bool)
  | 0, _, _, _ => none
  | k + 1, x0, x1, x15 => if x15 = true then (some (0, ([] : List (S73)), false)) else ((spec_l1Reader_node.f k x0 0 false x1).bind fun bt448 => (if bt448.2.2.2.2 = true then (some (0, ([] : List (S73)), false)) else (if bt448.2.2.2.1 = (x0.size : Int) then (some (bt448.1, bt448.2.1, true)) else (some (0, ([] : List (S73)), false)))))
def spec_l1Read.f (k : Nat) (a0 : ByteArray) (a1 : Int) : Option (Int × (List (S73)) × Bool) := (spec_l1In.f a1 0 3).bind fun t446 => (if t446 = true then (spec_l1Read.j0 k a0 a1 (decide ((a0.size : Int) > 400))) else (spec_l1Read.j0 k a0 a1 true))
structure spec_l1Read.C (k : Nat) : Prop where
 s_j0 : ∀ (r1 : Int) (r2 : List (S73)) (r3 : Bool) (w : World) (ro : Nat → Prop) (B : Nat) (_ : Fr TE (cx0 Tryd.f65 none w ro B)) (x0 : ByteArray) (x1 : Int) (x15 : Bool) (x446000 : Int) (_ : spec_l1Read.j0 k x0 x1 x15 = some (r1, r2, r3)), Kp (WS TE (cx0 Tryd.f65 none w ro B) (stkAt [1, 0, 0, 9] [] (bodyOf Tryd.f65) []) ⟨[(0, .v (.string x0)), (1, .v (.int .i64 x1)), (4, .pt 1004 0 0), (15, .v (.bool x15))], [(1004, .box 0 73 false [.v (.int .i64 x446000), .v (.slice none 0 0)])]⟩ (RetQ TE Tryd.f65 none [.ro (.ag [.v (.int .i64 r1), .sl 2 (r73 r2)]), .ro (.v (.bool r3))] [] w ro B))
set_option maxRecDepth 100000 in
set_option maxHeartbeats 4000000 in
theorem spec_l1Read.c_j0 (k : Nat) (ih : Kp (∀ m, m < k → spec_l1Read.C m)) (r1 : Int) (r2 : List (S73)) (r3 : Bool) (w : World) (ro : Nat → Prop) (B : Nat) (hF : Fr TE (cx0 Tryd.f65 none w ro B)) (x0 : ByteArray) (x1 : Int) (x15 : Bool) (x446000 : Int) (h : spec_l1Read.j0 k x0 x1 x15 = some (r1, r2, r3)) : Kp (WS TE (cx0 Tryd.f65 none w ro B) (stkAt [1, 0, 0, 9] [] (bodyOf Tryd.f65) []) ⟨[(0, .v (.string x0)), (1, .v (.int .i64 x1)), (4, .pt 1004 0 0), (15, .v (.bool x15))], [(1004, .box 0 73 false [.v (.int .i64 x446000), .v (.slice none 0 0)])]⟩ (RetQ TE Tryd.f65 none [.ro (.ag [.v (.int .i64 r1), .sl 2 (r73 r2)]), .ro (.v (.bool r3))] [] w ro B)) := by
 refine ⟨?_⟩
 cases k with
 | zero => simp [spec_l1Read.j0] at h
 | succ k =>
 simp only [spec_l1Read.j0] at h
 by_cases c3 : x15 = true
 · rw [if_pos c3] at h
   refine path_ok (k := 4) hF (RetQ_mild _ _ _ _ _ _ _ _) (ds := [.b true]) (os := []) (c := none) rfl KD ?_
   cases h
   exact ret_as (ms := [.ro, .ro]) rfl KD
 · rw [if_neg c3] at h
   obtain ⟨⟨t448, t449, t452, t453, t454⟩, q4, h⟩ := Option.bind_eq_some_iff.1 h
   dsimp only at h
   have q4c := spec_l1Reader_node.ctr k _ _ _ _ _ _ _ _ _ q4
   by_cases c5 : t454 = true
   · rw [if_pos c5] at h
     refine path_ok (k := 13) hF (RetQ_mild _ _ _ _ _ _ _ _) (ds := [.b false, .r [.ro (.ag [.v (.int .i64 t448), .sl 2 (r73 t449)])] [.v (.string t452), .v (.int .i64 t453), .v (.bool t454)], .b true, .b true, .b true, .b true, .b true, .b true, .b true, .b true, .b true]) (os := []) (c := none) rfl KD ?_
     cases h
     exact ret_as (ms := [.ro, .ro]) rfl KD
   · rw [if_neg c5] at h
     by_cases c6 : t453 = (x0.size : Int)
     · rw [if_pos c6] at h
       refine path_ok (k := 14) hF (RetQ_mild _ _ _ _ _ _ _ _) (ds := [.b false, .r [.ro (.ag [.v (.int .i64 t448), .sl 2 (r73 t449)])] [.v (.string t452), .v (.int .i64 t453), .v (.bool t454)], .b false, .b false, .b false, .b false, .b false, .b false, .b false, .b false, .b false]) (os := []) (c := none) rfl KD ?_
       cases h
       exact ret_as (ms := [.ro, .ro]) rfl KD
     · rw [if_neg c6] at h
       refine path_ok (k := 13) hF (RetQ_mild _ _ _ _ _ _ _ _) (ds := [.b false, .r [.ro (.ag [.v (.int .i64 t448), .sl 2 (r73 t449)])] [.v (.string t452), .v (.int .i64 t453), .v (.bool t454)], .b false, .b false, .b false, .b false, .b false, .b false, .b false, .b false, .b true]) (os := []) (c := none) rfl KD ?_
       cases h
       exact ret_as (ms := [.ro, .ro]) rfl KD
theorem spec_l1Read.cs (k : Nat) : spec_l1Read.C k := by
 induction k using Nat.strongRecOn with
 | _ k ih0 =>
 have ih : Kp (∀ m, m < k → spec_l1Read.C m) := ⟨ih0⟩
 exact ⟨spec_l1Read.c_j0 k ih⟩
set_option maxRecDepth 100000 in
set_option maxHeartbeats 4000000 in
theorem spec_l1Read.ctr (k : Nat) (a0 : ByteArray) (a1 : Int) (r1 : Int) (r2 : List (S73)) (r3 : Bool) (h : spec_l1Read.f k a0 a1 = some (r1, r2, r3)) : Ctr TE 65 none [.v (.string a0), .v (.int .i64 a1)] [.ro (.ag [.v (.int .i64 r1), .sl 2 (r73 r2)]), .ro (.v (.bool r3))] [] := by
 refine ctr_of (fn := Tryd.f65) (c := (bodyOf Tryd.f65)) Tryd.func65 rfl (by kernel_rfl) (Nat.le_of_ble_eq_true (by kernel_rfl)) (fun w ro B hF _ => ?_)
 have ih : Kp (∀ m, m < k + 1 → spec_l1Read.C m) := ⟨fun m _ => spec_l1Read.cs m⟩
 simp only [spec_l1Read.f] at h
 obtain ⟨t446, q1, h⟩ := Option.bind_eq_some_iff.1 h
 have q1c := spec_l1In.ctr _ _ _ _ q1
 by_cases c2 : t446 = true
 · rw [if_pos c2] at h
   refine path_ok (k := 5) hF (RetQ_mild _ _ _ _ _ _ _ _) (ds := [.r [.ro (.v (.bool t446))] [], .b false, .b false, .b false, .b false]) (os := []) (c := none) rfl KD ?_
   exact WS.can [(1004, some 4)] (((ih.out k (by omega)).s_j0  r1 r2 r3 w ro B hF a0 a1 (decide ((a0.size : Int) > 400)) 0 h).out) KD
 · rw [if_neg c2] at h
   refine path_ok (k := 5) hF (RetQ_mild _ _ _ _ _ _ _ _) (ds := [.r [.ro (.v (.bool t446))] [], .b true, .b true, .b true, .b true]) (os := []) (c := none) rfl KD ?_
   exact WS.can [(1004, some 4)] (((ih.out k (by omega)).s_j0  r1 r2 r3 w ro B hF a0 a1 true 0 h).out) KD
def spec_l13OwnListListint.l0 : Nat → List (List Int) → List (List Int) → Int → Int → Option ((List (List Int)))
  | 0, _, _, _, _ => none
  | k + 1, x3, x7, x8, x9 => if x9 < x8 then (if 0 ≤ x9 then (if x9 < (x7.length : Int) then ((some (([] : List Int) : List Int)).bind fun y460 => (if y460.length + (rd_L3 x7 x9).length < 17592186044416 then (if x3.length < 5864062014805 then (spec_l13OwnListListint.l0 k (x3 ++ [(y460 ++ (rd_L3 x7 x9))]) x7 x8 (wrap64 (x9 + 1))) else (none)) else (none))) else (none)) else (none)) else (some x3)
def spec_l13OwnListListint.f (k : Nat) (l0 : List (List Int)) : Option ((List (List Int))) := spec_l13OwnListListint.l0 k (([] : List (List Int))) l0 (l0.length : Int) 0
def spec_l13OwnListListint.I0 (r : List (List Int)) (m : Nat) (σ : St) : Prop := ∃ (x3 : List (List Int)) (x7 : List (List Int)) (x8 : Int) (x9 : Int), spec_l13OwnListListint.l0 m x3 x7 x8 x9 = some r ∧ σ = ⟨[(3, .ow 1003 0), (7, .sl 1 (rX (cL (cI .i64) 1) x7)), (8, .v (.int .i64 x8)), (9, .v (.int .i64 x9))], [(1003, .own 0 25 1 (rX (cL (cI .i64) 1) x3))]⟩
structure spec_l13OwnListListint.C (k : Nat) : Prop where
 s_l0 : ∀ (r : List (List Int)) (w : World) (ro : Nat → Prop) (B : Nat) (_ : Fr TE (cx0 Tryd.f73 none w ro B)) (x3 : List (List Int)) (x7 : List (List Int)) (x8 : Int) (x9 : Int) (_ : spec_l13OwnListListint.l0 k x3 x7 x8 x9 = some r), Kp (WS TE (cx0 Tryd.f73 none w ro B) (stkAt [1, 1, 0, 1, 0] [] (bodyOf Tryd.f73) []) ⟨[(3, .ow 1003 0), (7, .sl 1 (rX (cL (cI .i64) 1) x7)), (8, .v (.int .i64 x8)), (9, .v (.int .i64 x9))], [(1003, .own 0 25 1 (rX (cL (cI .i64) 1) x3))]⟩ (RetQ TE Tryd.f73 none [.own 25 1 (rX (cL (cI .i64) 1) r)] [] w ro B))
set_option maxRecDepth 100000 in
set_option maxHeartbeats 4000000 in
theorem spec_l13OwnListListint.c_l0 (k : Nat) (ih : Kp (∀ m, m < k → spec_l13OwnListListint.C m)) (r : List (List Int)) (w : World) (ro : Nat → Prop) (B : Nat) (hF : Fr TE (cx0 Tryd.f73 none w ro B)) (x3 : List (List Int)) (x7 : List (List Int)) (x8 : Int) (x9 : Int) (h : spec_l13OwnListListint.l0 k x3 x7 x8 x9 = some r) : Kp (WS TE (cx0 Tryd.f73 none w ro B) (stkAt [1, 1, 0, 1, 0] [] (bodyOf Tryd.f73) []) ⟨[(3, .ow 1003 0), (7, .sl 1 (rX (cL (cI .i64) 1) x7)), (8, .v (.int .i64 x8)), (9, .v (.int .i64 x9))], [(1003, .own 0 25 1 (rX (cL (cI .i64) 1) x3))]⟩ (RetQ TE Tryd.f73 none [.own 25 1 (rX (cL (cI .i64) 1) r)] [] w ro B)) := by
 refine ⟨WS.loop (fun m σ => m ≤ k ∧ spec_l13OwnListListint.I0 r m σ) k ⟨Nat.le_refl k, x3, x7, x8, x9, h, rfl⟩ (fun m σ' hI J0 hJ0 => ?_)⟩
 clear h
 obtain ⟨hk, x3, x7, x8, x9, h, rfl⟩ := hI
 cases m with
 | zero => simp [spec_l13OwnListListint.l0] at h
 | succ k' =>
 simp only [spec_l13OwnListListint.l0] at h
 by_cases c1 : x9 < x8
 · rw [if_pos c1] at h
   by_cases c2 : 0 ≤ x9
   · rw [if_pos c2] at h
     by_cases c3 : x9 < (x7.length : Int)
     · rw [if_pos c3] at h
       obtain ⟨y460, hy460, h⟩ := Option.bind_eq_some_iff.1 h
       cases hy460
       by_cases c4 : (([] : List Int)).length + (rd_L3 x7 x9).length < 17592186044416
       · rw [if_pos c4] at h
         by_cases c5 : x3.length < 5864062014805
         · rw [if_pos c5] at h
           refine path_ok (k := 12) hF (RetQ_mild _ _ _ _ _ _ _ _) (ds := [.b true, .e 11 (.rf [.sl 1 (rX (cI .i64) (rd_L3 x7 x9))]), .p 14 ([]), .o 16 (rX (cI .i64) ((([] : List Int)) ++ (rd_L3 x7 x9))), .p 17 ([[.sl 1 (rX (cI .i64) ((([] : List Int)) ++ (rd_L3 x7 x9)))]]), .o 18 (rX (cL (cI .i64) 1) (x3 ++ [((([] : List Int)) ++ (rd_L3 x7 x9))]))]) (os := []) (c := none) rfl KD ?_
           exact WS.lpc [(1003, some 1003)] (hJ0 _ _ (Nat.lt_succ_self _) ⟨by omega, (x3 ++ [((([] : List Int)) ++ (rd_L3 x7 x9))]), x7, x8, (wrap64 (x9 + 1)), h, rfl⟩) KD
         · rw [if_neg c5] at h
           cases h
       · rw [if_neg c4] at h
         cases h
     · rw [if_neg c3] at h
       cases h
   · rw [if_neg c2] at h
     cases h
 · rw [if_neg c1] at h
   refine path_ok (k := 8) hF (RetQ_mild _ _ _ _ _ _ _ _) (ds := [.b false]) (os := []) (c := none) rfl KD ?_
   cases h
   exact ret_as (ms := [.own]) rfl KD
theorem spec_l13OwnListListint.cs (k : Nat) : spec_l13OwnListListint.C k := by
 induction k using Nat.strongRecOn with
 | _ k ih0 =>
 have ih : Kp (∀ m, m < k → spec_l13OwnListListint.C m) := ⟨ih0⟩
 exact ⟨spec_l13OwnListListint.c_l0 k ih⟩
set_option maxRecDepth 100000 in
set_option maxHeartbeats 4000000 in
theorem spec_l13OwnListListint.ctr (k : Nat) (l0 : List (List Int)) (r : List (List Int)) (h : spec_l13OwnListListint.f k l0 = some r) : Ctr TE 73 none [.sl 1 (rX (cL (cI .i64) 1) l0)] [.own 25 1 (rX (cL (cI .i64) 1) r)] [] := by
 refine ctr_of (fn := Tryd.f73) (c := (bodyOf Tryd.f73)) Tryd.func73 rfl (by kernel_rfl) (Nat.le_of_ble_eq_true (by kernel_rfl)) (fun w ro B hF _ => ?_)
 have ih : Kp (∀ m, m < k + 1 → spec_l13OwnListListint.C m) := ⟨fun m _ => spec_l13OwnListListint.cs m⟩
 simp only [spec_l13OwnListListint.f] at h
 refine path_ok (k := 8) hF (RetQ_mild _ _ _ _ _ _ _ _) (ds := [.p 6 ([]), .e 8 (.v (.int .i64 (l0.length : Int)))]) (os := []) (c := none) rfl KD ?_
 exact WS.can [(1003, some 6)] (((ih.out k (by omega)).s_l0  r w ro B hF (([] : List (List Int))) l0 (l0.length : Int) 0 h).out) KD
def spec_l13OwnLayout.f (k : Nat) (l0_0 : List (List Int)) (l0_1 : List Int) : Option ((List (List Int)) × List Int) := (spec_l13OwnListListint.f k l0_0).bind fun t471 => ((some (([] : List Int) : List Int)).bind fun y474 => (if y474.length + l0_1.length < 17592186044416 then (some (t471, (y474 ++ l0_1))) else (none)))
set_option maxRecDepth 100000 in
set_option maxHeartbeats 4000000 in
theorem spec_l13OwnLayout.ctr (k : Nat) (l0_0 : List (List Int)) (l0_1 : List Int) (r1 : List (List Int)) (r2 : List Int) (h : spec_l13OwnLayout.f k l0_0 l0_1 = some (r1, r2)) : Ctr TE 60 none [.ag [.sl 1 (rX (cL (cI .i64) 1) l0_0), .sl 1 (rX (cI .i64) l0_1)]] [.ro (.ag [.sl 1 (rX (cL (cI .i64) 1) r1), .sl 1 (rX (cI .i64) r2)])] [] := by
 refine ctr_of (fn := Tryd.f60) (c := (bodyOf Tryd.f60)) Tryd.func60 rfl (by kernel_rfl) (Nat.le_of_ble_eq_true (by kernel_rfl)) (fun w ro B hF _ => ?_)
 simp only [spec_l13OwnLayout.f] at h
 obtain ⟨t471, q1, h⟩ := Option.bind_eq_some_iff.1 h
 have q1c := spec_l13OwnListListint.ctr k _ _ q1
 obtain ⟨y474, hy474, h⟩ := Option.bind_eq_some_iff.1 h
 cases hy474
 by_cases c2 : (([] : List Int)).length + l0_1.length < 17592186044416
 · rw [if_pos c2] at h
   refine path_ok (k := 9) hF (RetQ_mild _ _ _ _ _ _ _ _) (ds := [.r [.own 25 1 (rX (cL (cI .i64) 1) t471)] [], .p 7 ([]), .o 10 (rX (cI .i64) ((([] : List Int)) ++ l0_1))]) (os := []) (c := none) rfl KD ?_
   cases h
   exact ret_as (ms := [.ro]) rfl KD
 · rw [if_neg c2] at h
   cases h
end Go.Proofs.YtlhejcogdjelpaaDoor.G
