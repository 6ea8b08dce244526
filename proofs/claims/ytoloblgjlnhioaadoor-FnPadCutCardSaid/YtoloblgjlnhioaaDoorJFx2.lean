/- A part of the claim. -/
import Derived.Test.YtoloblgjlnhioaaDoorJFx0
import Derived.Test.YtoloblgjlnhioaaDoorJFx1
-- PRINTED by print.py (a twelfth state) out of the translation. Not trusted: Lean checks it.
namespace Go.Proofs.YtoloblgjlnhioaaDoor.J
open Go.RowKit Go.Proofs.YtoloblgjlnhioaaDoorW.St Go.Proofs.YtoloblgjlnhioaaDoorW.PrintWords Go.Proofs.YtoloblgjlnhioaaDoorW.PrintLast Go.Proofs.YtoloblgjlnhioaaDoorW.PrintMore
attribute [local go_sem] max2_int min2_int max_two min_two max_three min_three max_four min_four   -- for this text's walks alone
set_option linter.unusedVariables false
set_option linter.unusedSimpArgs false
mutual
def spec_l11Fill.l0 : Nat → List Int → List Int → Int → Int → Int → List (S77) → Option (Int × (List (S77)) × List Int)
  | 0, _, _, _, _, _, _ => none
  | k + 1, x0, x1, x23, x24, x154000, x154001 => if x24 < x23 then (if 1 ≤ (x0.length : Int) then ((spec_l11Fill.f k (x0.drop 1) x1).bind fun bt162 => (if x154001.length < 4398046511104 then (spec_l11Fill.l0 k x0 bt162.2.2 x23 (wrap64 (x24 + 1)) x154000 (x154001 ++ [(⟨bt162.1, bt162.2.1⟩ : S77)])) else (none))) else (none)) else (some (x154000, x154001, x1))
def spec_l11Fill.f : Nat → List Int → List Int → Option (Int × (List (S77)) × List Int)
  | 0, _, _ => none
  | k + 1, l0, l1 => (some (([] : List (S77)) : List (S77))).bind fun y150 => (if (l0.length : Int) = 0 then (if 0 < (l1.length : Int) then (if 1 ≤ (l1.length : Int) then (some (rd l1 0, y150, (l1.drop 1))) else (none)) else (none)) else (if 0 < (l0.length : Int) then (spec_l11Fill.l0 k l0 l1 (rd l0 0) 0 0 y150) else (none)))
end
def spec_l11Fill.I0 (r1 : Int) (r2 : List (S77)) (r3 : List Int) (m : Nat) (σ : St) : Prop := ∃ (x0 : List Int) (x1 : List Int) (x23 : Int) (x24 : Int) (x150000 : Int) (x154000 : Int) (x154001 : List (S77)), spec_l11Fill.l0 m x0 x1 x23 x24 x154000 x154001 = some (r1, r2, r3) ∧ σ = ⟨[(0, .sl 1 (rX (cI .i64) x0)), (1, .sl 1 (rX (cI .i64) x1)), (4, .pt 1004 0 0), (6, .pt 1006 0 0), (23, .v (.int .i64 x23)), (24, .v (.int .i64 x24))], [(1004, .box 0 77 false [.v (.int .i64 x150000), .v (.slice none 0 0)]), (3385, .own 0 77 2 (r77 x154001)), (1006, .box 0 77 false [.v (.int .i64 x154000), .ow 3385 0])]⟩
structure spec_l11Fill.C (k : Nat) : Prop where
 s_f : ∀ (l0 : List Int) (l1 : List Int) (r1 : Int) (r2 : List (S77)) (r3 : List Int), spec_l11Fill.f k l0 l1 = some (r1, r2, r3) → Ctr TE 130 none [.sl 1 (rX (cI .i64) l0), .sl 1 (rX (cI .i64) l1)] [.ro (.ag [.v (.int .i64 r1), .sl 2 (r77 r2)]), .ro (.sl 1 (rX (cI .i64) r3))] []
 s_l0 : ∀ (r1 : Int) (r2 : List (S77)) (r3 : List Int) (w : World) (ro : Nat → Prop) (B : Nat) (_ : Fr TE (cx0 Tryd.f130 none w ro B)) (x0 : List Int) (x1 : List Int) (x23 : Int) (x24 : Int) (x150000 : Int) (x154000 : Int) (x154001 : List (S77)) (_ : spec_l11Fill.l0 k x0 x1 x23 x24 x154000 x154001 = some (r1, r2, r3)), Kp (WS TE (cx0 Tryd.f130 none w ro B) (stkAt [1, 1, 1, 0, 1, 0] [] (bodyOf Tryd.f130) []) ⟨[(0, .sl 1 (rX (cI .i64) x0)), (1, .sl 1 (rX (cI .i64) x1)), (4, .pt 1004 0 0), (6, .pt 1006 0 0), (23, .v (.int .i64 x23)), (24, .v (.int .i64 x24))], [(1004, .box 0 77 false [.v (.int .i64 x150000), .v (.slice none 0 0)]), (3385, .own 0 77 2 (r77 x154001)), (1006, .box 0 77 false [.v (.int .i64 x154000), .ow 3385 0])]⟩ (RetQ TE Tryd.f130 none [.ro (.ag [.v (.int .i64 r1), .sl 2 (r77 r2)]), .ro (.sl 1 (rX (cI .i64) r3))] [] w ro B))
set_option maxRecDepth 100000 in
set_option maxHeartbeats 4000000 in
theorem spec_l11Fill.c_f (k : Nat) (ih : Kp (∀ m, m < k → spec_l11Fill.C m)) (l0 : List Int) (l1 : List Int) (r1 : Int) (r2 : List (S77)) (r3 : List Int) (h : spec_l11Fill.f k l0 l1 = some (r1, r2, r3)) : Ctr TE 130 none [.sl 1 (rX (cI .i64) l0), .sl 1 (rX (cI .i64) l1)] [.ro (.ag [.v (.int .i64 r1), .sl 2 (r77 r2)]), .ro (.sl 1 (rX (cI .i64) r3))] [] := by
 cases k with
 | zero => simp [spec_l11Fill.f] at h
 | succ k =>
 simp only [spec_l11Fill.f] at h
 refine ctr_of (fn := Tryd.f130) (c := (bodyOf Tryd.f130)) Tryd.func130 rfl (by kernel_rfl) (Nat.le_of_ble_eq_true (by kernel_rfl)) (fun w ro B hF _ => ?_)
 obtain ⟨y150, hy150, h⟩ := Option.bind_eq_some_iff.1 h
 cases hy150
 by_cases c1 : (l0.length : Int) = 0
 · rw [if_pos c1] at h
   by_cases c2 : 0 < (l1.length : Int)
   · rw [if_pos c2] at h
     by_cases c3 : 1 ≤ (l1.length : Int)
     · rw [if_pos c3] at h
       refine path_ok (k := 13) hF (RetQ_mild _ _ _ _ _ _ _ _) (ds := [.p 9 ([]), .e 12 (.v (.int .i64 (l0.length : Int))), .b true, .e 15 (.rf [.v (.int .i64 (rd l1 0))]), .e 20 (.sl 1 (rX (cI .i64) (l1.drop 1)))]) (os := [.o [(0, 1), (1, 0), (2, 0), (3, 2), (4, 0)] [3]]) (c := none) rfl KD ?_
       cases h
       exact ret_as (ms := [.ro, .ro]) rfl KD
     · rw [if_neg c3] at h
       cases h
   · rw [if_neg c2] at h
     cases h
 · rw [if_neg c1] at h
   by_cases c4 : 0 < (l0.length : Int)
   · rw [if_pos c4] at h
     refine path_ok (k := 13) hF (RetQ_mild _ _ _ _ _ _ _ _) (ds := [.p 9 ([]), .e 12 (.v (.int .i64 (l0.length : Int))), .b false, .e 22 (.rf [.v (.int .i64 (rd l0 0))])]) (os := []) (c := none) rfl KD ?_
     exact WS.can [(1004, some 4), (1006, some 6), (3385, some 9)] (((ih.out k (by omega)).s_l0  r1 r2 r3 w ro B hF l0 l1 (rd l0 0) 0 0 0 (([] : List (S77))) h).out) KD
   · rw [if_neg c4] at h
     cases h
set_option maxRecDepth 100000 in
set_option maxHeartbeats 4000000 in
theorem spec_l11Fill.c_l0 (k : Nat) (ih : Kp (∀ m, m < k → spec_l11Fill.C m)) (r1 : Int) (r2 : List (S77)) (r3 : List Int) (w : World) (ro : Nat → Prop) (B : Nat) (hF : Fr TE (cx0 Tryd.f130 none w ro B)) (x0 : List Int) (x1 : List Int) (x23 : Int) (x24 : Int) (x150000 : Int) (x154000 : Int) (x154001 : List (S77)) (h : spec_l11Fill.l0 k x0 x1 x23 x24 x154000 x154001 = some (r1, r2, r3)) : Kp (WS TE (cx0 Tryd.f130 none w ro B) (stkAt [1, 1, 1, 0, 1, 0] [] (bodyOf Tryd.f130) []) ⟨[(0, .sl 1 (rX (cI .i64) x0)), (1, .sl 1 (rX (cI .i64) x1)), (4, .pt 1004 0 0), (6, .pt 1006 0 0), (23, .v (.int .i64 x23)), (24, .v (.int .i64 x24))], [(1004, .box 0 77 false [.v (.int .i64 x150000), .v (.slice none 0 0)]), (3385, .own 0 77 2 (r77 x154001)), (1006, .box 0 77 false [.v (.int .i64 x154000), .ow 3385 0])]⟩ (RetQ TE Tryd.f130 none [.ro (.ag [.v (.int .i64 r1), .sl 2 (r77 r2)]), .ro (.sl 1 (rX (cI .i64) r3))] [] w ro B)) := by
 refine ⟨WS.loop (fun m σ => m ≤ k ∧ spec_l11Fill.I0 r1 r2 r3 m σ) k ⟨Nat.le_refl k, x0, x1, x23, x24, x150000, x154000, x154001, h, rfl⟩ (fun m σ' hI J0 hJ0 => ?_)⟩
 clear h
 obtain ⟨hk, x0, x1, x23, x24, x150000, x154000, x154001, h, rfl⟩ := hI
 cases m with
 | zero => simp [spec_l11Fill.l0] at h
 | succ k' =>
 simp only [spec_l11Fill.l0] at h
 by_cases c5 : x24 < x23
 · rw [if_pos c5] at h
   by_cases c6 : 1 ≤ (x0.length : Int)
   · rw [if_pos c6] at h
     obtain ⟨⟨t162, t163, t166⟩, q7, h⟩ := Option.bind_eq_some_iff.1 h
     dsimp only at h
     have q7c := (ih.out k' (by omega)).s_f _ _ _ _ _ q7
     by_cases c8 : x154001.length < 4398046511104
     · rw [if_pos c8] at h
       refine path_ok (k := 14) hF (RetQ_mild _ _ _ _ _ _ _ _) (ds := [.b true, .e 28 (.sl 1 (rX (cI .i64) (x0.drop 1))), .r [.ro (.ag [.v (.int .i64 t162), .sl 2 (r77 t163)]), .ro (.sl 1 (rX (cI .i64) t166))] [], .p 36 ([[.v (.int .i64 t162), .sl 2 (r77 t163)]]), .o 37 (r77 (x154001 ++ [(⟨t162, t163⟩ : S77)]))]) (os := []) (c := none) rfl KD ?_
       exact WS.lpc [(1004, some 1004), (1006, some 1006), (3385, some 3385)] (hJ0 _ _ (Nat.lt_succ_self _) ⟨by omega, x0, t166, x23, (wrap64 (x24 + 1)), x150000, x154000, (x154001 ++ [(⟨t162, t163⟩ : S77)]), h, rfl⟩) KD
     · rw [if_neg c8] at h
       cases h
   · rw [if_neg c6] at h
     cases h
 · rw [if_neg c5] at h
   refine path_ok (k := 8) hF (RetQ_mild _ _ _ _ _ _ _ _) (ds := [.b false]) (os := []) (c := none) rfl KD ?_
   cases h
   exact ret_as (ms := [.ro, .ro]) rfl KD
theorem spec_l11Fill.cs (k : Nat) : spec_l11Fill.C k := by
 induction k using Nat.strongRecOn with
 | _ k ih0 =>
 have ih : Kp (∀ m, m < k → spec_l11Fill.C m) := ⟨ih0⟩
 exact ⟨spec_l11Fill.c_f k ih, spec_l11Fill.c_l0 k ih⟩
theorem spec_l11Fill.ctr (k : Nat) (l0 : List Int) (l1 : List Int) (r1 : Int) (r2 : List (S77)) (r3 : List Int) (h : spec_l11Fill.f k l0 l1 = some (r1, r2, r3)) : Ctr TE 130 none [.sl 1 (rX (cI .i64) l0), .sl 1 (rX (cI .i64) l1)] [.ro (.ag [.v (.int .i64 r1), .sl 2 (r77 r2)]), .ro (.sl 1 (rX (cI .i64) r3))] [] := (spec_l11Fill.cs k).s_f l0 l1 r1 r2 r3 h
mutual
def spec_FillShape.j0 : Nat → List Int → List Int → Bool → Option (ByteArray × Bool)
  | 0, _, _, _ => none
  | k + 1, x0, x1, x17 => if x17 = true then (some ((⟨#[]⟩ : ByteArray), false)) else (spec_FillShape.l0 k x0 x1 x0 (x0.length : Int) 0)
def spec_FillShape.l0 : Nat → List Int → List Int → List Int → Int → Int → Option (ByteArray × Bool)
  | 0, _, _, _, _, _ => none
  | k + 1, x0, x1, x18, x19, x20 => if x20 < x19 then (if 0 ≤ x20 then (if x20 < (x18.length : Int) then ((spec_l1In.f (rd x18 x20) 0 400).bind fun t175 => (if t175 = true then (spec_FillShape.l0 k x0 x1 x18 x19 (wrap64 (x20 + 1))) else (some ((⟨#[]⟩ : ByteArray), false)))) else (none)) else (none)) else ((spec_l11Product.f k x0).bind fun t176 => (if t176 = (x1.length : Int) then ((spec_l11Fill.f k x0 x1).bind fun bt177 => ((spec_l1Told.f k bt177.1 bt177.2.1 (x0.length : Int)).bind fun bt185 => (some (bt185.1, bt185.2)))) else (some ((⟨#[]⟩ : ByteArray), false))))
end
def spec_FillShape.f (k : Nat) (l0 : List Int) (l1 : List Int) : Option (ByteArray × Bool) := if (l0.length : Int) > 3 then (spec_FillShape.j0 k l0 l1 true) else ((spec_l4Data.f k l1).bind fun t173 => (spec_FillShape.j0 k l0 l1 (!t173)))
def spec_FillShape.I0 (r1 : ByteArray) (r2 : Bool) (m : Nat) (σ : St) : Prop := ∃ (x0 : List Int) (x1 : List Int) (x18 : List Int) (x19 : Int) (x20 : Int), spec_FillShape.l0 m x0 x1 x18 x19 x20 = some (r1, r2) ∧ σ = ⟨[(0, .sl 1 (rX (cI .i64) x0)), (1, .sl 1 (rX (cI .i64) x1)), (18, .sl 1 (rX (cI .i64) x18)), (19, .v (.int .i64 x19)), (20, .v (.int .i64 x20))], []⟩
structure spec_FillShape.C (k : Nat) : Prop where
 s_j0 : ∀ (r1 : ByteArray) (r2 : Bool) (w : World) (ro : Nat → Prop) (B : Nat) (_ : Fr TE (cx0 Tryd.f114 none w ro B)) (x0 : List Int) (x1 : List Int) (x17 : Bool) (_ : spec_FillShape.j0 k x0 x1 x17 = some (r1, r2)), Kp (WS TE (cx0 Tryd.f114 none w ro B) (stkAt [1, 0, 0, 9] [] (bodyOf Tryd.f114) []) ⟨[(0, .sl 1 (rX (cI .i64) x0)), (1, .sl 1 (rX (cI .i64) x1)), (17, .v (.bool x17))], []⟩ (RetQ TE Tryd.f114 none [.ro (.v (.string r1)), .ro (.v (.bool r2))] [] w ro B))
 s_l0 : ∀ (r1 : ByteArray) (r2 : Bool) (w : World) (ro : Nat → Prop) (B : Nat) (_ : Fr TE (cx0 Tryd.f114 none w ro B)) (x0 : List Int) (x1 : List Int) (x18 : List Int) (x19 : Int) (x20 : Int) (_ : spec_FillShape.l0 k x0 x1 x18 x19 x20 = some (r1, r2)), Kp (WS TE (cx0 Tryd.f114 none w ro B) (stkAt [1, 1, 0, 1, 0] [] (bodyOf Tryd.f114) []) ⟨[(0, .sl 1 (rX (cI .i64) x0)), (1, .sl 1 (rX (cI .i64) x1)), (18, .sl 1 (rX (cI .i64) x18)), (19, .v (.int .i64 x19)), (20, .v (.int .i64 x20))], []⟩ (RetQ TE Tryd.f114 none [.ro (.v (.string r1)), .ro (.v (.bool r2))] [] w ro B))
set_option maxRecDepth 100000 in
set_option maxHeartbeats 4000000 in
theorem spec_FillShape.c_j0 (k : Nat) (ih : Kp (∀ m, m < k → spec_FillShape.C m)) (r1 : ByteArray) (r2 : Bool) (w : World) (ro : Nat → Prop) (B : Nat) (hF : Fr TE (cx0 Tryd.f114 none w ro B)) (x0 : List Int) (x1 : List Int) (x17 : Bool) (h : spec_FillShape.j0 k x0 x1 x17 = some (r1, r2)) : Kp (WS TE (cx0 Tryd.f114 none w ro B) (stkAt [1, 0, 0, 9] [] (bodyOf Tryd.f114) []) ⟨[(0, .sl 1 (rX (cI .i64) x0)), (1, .sl 1 (rX (cI .i64) x1)), (17, .v (.bool x17))], []⟩ (RetQ TE Tryd.f114 none [.ro (.v (.string r1)), .ro (.v (.bool r2))] [] w ro B)) := by
 refine ⟨?_⟩
 cases k with
 | zero => simp [spec_FillShape.j0] at h
 | succ k =>
 simp only [spec_FillShape.j0] at h
 by_cases c3 : x17 = true
 · rw [if_pos c3] at h
   refine path_ok (k := 4) hF (RetQ_mild _ _ _ _ _ _ _ _) (ds := [.b true]) (os := []) (c := none) rfl KD ?_
   cases h
   exact ret_as (ms := [.ro, .ro]) rfl KD
 · rw [if_neg c3] at h
   refine path_ok (k := 6) hF (RetQ_mild _ _ _ _ _ _ _ _) (ds := [.b false, .e 19 (.v (.int .i64 (x0.length : Int)))]) (os := []) (c := none) rfl KD ?_
   exact WS.can [] (((ih.out k (by omega)).s_l0  r1 r2 w ro B hF x0 x1 x0 (x0.length : Int) 0 h).out) KD
set_option maxRecDepth 100000 in
set_option maxHeartbeats 4000000 in
theorem spec_FillShape.c_l0 (k : Nat) (ih : Kp (∀ m, m < k → spec_FillShape.C m)) (r1 : ByteArray) (r2 : Bool) (w : World) (ro : Nat → Prop) (B : Nat) (hF : Fr TE (cx0 Tryd.f114 none w ro B)) (x0 : List Int) (x1 : List Int) (x18 : List Int) (x19 : Int) (x20 : Int) (h : spec_FillShape.l0 k x0 x1 x18 x19 x20 = some (r1, r2)) : Kp (WS TE (cx0 Tryd.f114 none w ro B) (stkAt [1, 1, 0, 1, 0] [] (bodyOf Tryd.f114) []) ⟨[(0, .sl 1 (rX (cI .i64) x0)), (1, .sl 1 (rX (cI .i64) x1)), (18, .sl 1 (rX (cI .i64) x18)), (19, .v (.int .i64 x19)), (20, .v (.int .i64 x20))], []⟩ (RetQ TE Tryd.f114 none [.ro (.v (.string r1)), .ro (.v (.bool r2))] [] w ro B)) := by
 refine ⟨WS.loop (fun m σ => m ≤ k ∧ spec_FillShape.I0 r1 r2 m σ) k ⟨Nat.le_refl k, x0, x1, x18, x19, x20, h, rfl⟩ (fun m σ' hI J0 hJ0 => ?_)⟩
 clear h
 obtain ⟨hk, x0, x1, x18, x19, x20, h, rfl⟩ := hI
 cases m with
 | zero => simp [spec_FillShape.l0] at h
 | succ k' =>
 simp only [spec_FillShape.l0] at h
 by_cases c4 : x20 < x19
 · rw [if_pos c4] at h
   by_cases c5 : 0 ≤ x20
   · rw [if_pos c5] at h
     by_cases c6 : x20 < (x18.length : Int)
     · rw [if_pos c6] at h
       obtain ⟨t175, q7, h⟩ := Option.bind_eq_some_iff.1 h
       have q7c := spec_l1In.ctr _ _ _ _ q7
       by_cases c8 : t175 = true
       · rw [if_pos c8] at h
         refine path_ok (k := 15) hF (RetQ_mild _ _ _ _ _ _ _ _) (ds := [.b true, .e 22 (.rf [.v (.int .i64 (rd x18 x20))]), .r [.ro (.v (.bool t175))] [], .b false]) (os := []) (c := none) rfl KD ?_
         exact WS.lpc [] (hJ0 _ _ (Nat.lt_succ_self _) ⟨by omega, x0, x1, x18, x19, (wrap64 (x20 + 1)), h, rfl⟩) KD
       · rw [if_neg c8] at h
         refine path_ok (k := 15) hF (RetQ_mild _ _ _ _ _ _ _ _) (ds := [.b true, .e 22 (.rf [.v (.int .i64 (rd x18 x20))]), .r [.ro (.v (.bool t175))] [], .b true]) (os := []) (c := none) rfl KD ?_
         cases h
         exact ret_as (ms := [.ro, .ro]) rfl KD
     · rw [if_neg c6] at h
       cases h
   · rw [if_neg c5] at h
     cases h
 · rw [if_neg c4] at h
   obtain ⟨t176, q9, h⟩ := Option.bind_eq_some_iff.1 h
   have q9c := spec_l11Product.ctr k' _ _ q9
   by_cases c10 : t176 = (x1.length : Int)
   · rw [if_pos c10] at h
     obtain ⟨⟨t177, t178, t181⟩, q11, h⟩ := Option.bind_eq_some_iff.1 h
     dsimp only at h
     have q11c := spec_l11Fill.ctr k' _ _ _ _ _ q11
     obtain ⟨⟨t185, t186⟩, q12, h⟩ := Option.bind_eq_some_iff.1 h
     dsimp only at h
     have q12c := spec_l1Told.ctr k' _ _ _ _ _ q12
     refine path_ok (k := 15) hF (RetQ_mild _ _ _ _ _ _ _ _) (ds := [.b false, .r [.ro (.v (.int .i64 t176))] [], .e 31 (.v (.int .i64 (x1.length : Int))), .b false, .r [.ro (.ag [.v (.int .i64 t177), .sl 2 (r77 t178)]), .ro (.sl 1 (rX (cI .i64) t181))] [], .e 41 (.v (.int .i64 (x0.length : Int))), .r [.ro (.v (.string t185)), .ro (.v (.bool t186))] []]) (os := []) (c := none) rfl KD ?_
     cases h
     exact ret_as (ms := [.ro, .ro]) rfl KD
   · rw [if_neg c10] at h
     refine path_ok (k := 12) hF (RetQ_mild _ _ _ _ _ _ _ _) (ds := [.b false, .r [.ro (.v (.int .i64 t176))] [], .e 31 (.v (.int .i64 (x1.length : Int))), .b true]) (os := []) (c := none) rfl KD ?_
     cases h
     exact ret_as (ms := [.ro, .ro]) rfl KD
theorem spec_FillShape.cs (k : Nat) : spec_FillShape.C k := by
 induction k using Nat.strongRecOn with
 | _ k ih0 =>
 have ih : Kp (∀ m, m < k → spec_FillShape.C m) := ⟨ih0⟩
 exact ⟨spec_FillShape.c_j0 k ih, spec_FillShape.c_l0 k ih⟩
set_option maxRecDepth 100000 in
set_option maxHeartbeats 4000000 in
theorem spec_FillShape.ctr (k : Nat) (l0 : List Int) (l1 : List Int) (r1 : ByteArray) (r2 : Bool) (h : spec_FillShape.f k l0 l1 = some (r1, r2)) : Ctr TE 114 none [.sl 1 (rX (cI .i64) l0), .sl 1 (rX (cI .i64) l1)] [.ro (.v (.string r1)), .ro (.v (.bool r2))] [] := by
 refine ctr_of (fn := Tryd.f114) (c := (bodyOf Tryd.f114)) Tryd.func114 rfl (by kernel_rfl) (Nat.le_of_ble_eq_true (by kernel_rfl)) (fun w ro B hF _ => ?_)
 have ih : Kp (∀ m, m < k + 1 → spec_FillShape.C m) := ⟨fun m _ => spec_FillShape.cs m⟩
 simp only [spec_FillShape.f] at h
 by_cases c1 : (l0.length : Int) > 3
 · rw [if_pos c1] at h
   refine path_ok (k := 5) hF (RetQ_mild _ _ _ _ _ _ _ _) (ds := [.e 11 (.v (.int .i64 (l0.length : Int))), .b true, .b true, .b true, .b true]) (os := []) (c := none) rfl KD ?_
   exact WS.can [] (((ih.out k (by omega)).s_j0  r1 r2 w ro B hF l0 l1 true h).out) KD
 · rw [if_neg c1] at h
   obtain ⟨t173, q2, h⟩ := Option.bind_eq_some_iff.1 h
   have q2c := spec_l4Data.ctr k _ _ q2
   refine path_ok (k := 5) hF (RetQ_mild _ _ _ _ _ _ _ _) (ds := [.e 11 (.v (.int .i64 (l0.length : Int))), .b false, .b false, .r [.ro (.v (.bool t173))] [], .b false, .b false]) (os := []) (c := none) rfl KD ?_
   exact WS.can [] (((ih.out k (by omega)).s_j0  r1 r2 w ro B hF l0 l1 (!t173) h).out) KD
def spec_l11Draw.l0 : Nat → Int → Int → List Int → Int → Int → List Int → Int → Option (ByteArray × Int)
  | 0, _, _, _, _, _, _, _ => none
  | k + 1, x1, x2, x7, x13, x14, x1000, x1001 => if x14 < x13 then ((spec_l13Rd_pick.f k x1000 x1001 50).bind fun bt190 => ((spec_l13Rd_num.f k x1000 bt190.2 (([1, 0, 2, 3, 10006, bt190.1] : List Int))).bind fun bt195 => (if x7.length < 17592186044416 then (spec_l11Draw.l0 k x1 x2 (x7 ++ [bt195.1]) x13 (wrap64 (x14 + 1)) x1000 bt195.2) else (none)))) else ((spec_FillShape.f k (([x1, x2] : List Int)) x7).bind fun bt203 => (some (bt203.1, x1001)))
def spec_l11Draw.f (k : Nat) (s0_0 : List Int) (s0_1 : Int) (a1 : Int) (a2 : Int) : Option (ByteArray × Int) := spec_l11Draw.l0 k a1 a2 (([] : List Int)) (wrap64 (a1 * a2)) 0 s0_0 s0_1
def spec_l11Draw.I0 (s0_0 : List Int) (s0_1 : Int) (r1 : ByteArray) (r2 : Int) (m : Nat) (σ : St) : Prop := ∃ (x1 : Int) (x2 : Int) (x7 : List Int) (x13 : Int) (x14 : Int) (x1001 : Int), spec_l11Draw.l0 m x1 x2 x7 x13 x14 s0_0 x1001 = some (r1, r2) ∧ σ = ⟨[(0, .pt 0 0 0), (1, .v (.int .i64 x1)), (2, .v (.int .i64 x2)), (7, .ow 1007 0), (13, .v (.int .i64 x13)), (14, .v (.int .i64 x14))], [(0, .box 0 107 true [.sl 1 (rX (cI .u8) s0_0), .v (.int .i64 x1001)]), (1007, .own 0 3 1 (rX (cI .i64) x7))]⟩
structure spec_l11Draw.C (k : Nat) : Prop where
 s_l0 : ∀ (s0_0 : List Int) (s0_1 : Int) (r1 : ByteArray) (r2 : Int) (w : World) (ro : Nat → Prop) (B : Nat) (_ : Fr TE (cx0 Tryd.f90 (some (107, [.sl 1 (rX (cI .u8) s0_0), .v (.int .i64 s0_1)])) w ro B)) (x1 : Int) (x2 : Int) (x7 : List Int) (x13 : Int) (x14 : Int) (x1001 : Int) (_ : spec_l11Draw.l0 k x1 x2 x7 x13 x14 s0_0 x1001 = some (r1, r2)), Kp (WS TE (cx0 Tryd.f90 (some (107, [.sl 1 (rX (cI .u8) s0_0), .v (.int .i64 s0_1)])) w ro B) (stkAt [1, 1, 0, 1, 0] [] (bodyOf Tryd.f90) []) ⟨[(0, .pt 0 0 0), (1, .v (.int .i64 x1)), (2, .v (.int .i64 x2)), (7, .ow 1007 0), (13, .v (.int .i64 x13)), (14, .v (.int .i64 x14))], [(0, .box 0 107 true [.sl 1 (rX (cI .u8) s0_0), .v (.int .i64 x1001)]), (1007, .own 0 3 1 (rX (cI .i64) x7))]⟩ (RetQ TE Tryd.f90 (some (107, [.sl 1 (rX (cI .u8) s0_0), .v (.int .i64 s0_1)])) [.ro (.v (.string r1))] [.sl 1 (rX (cI .u8) s0_0), .v (.int .i64 r2)] w ro B))
set_option maxRecDepth 100000 in
set_option maxHeartbeats 4000000 in
theorem spec_l11Draw.c_l0 (k : Nat) (ih : Kp (∀ m, m < k → spec_l11Draw.C m)) (s0_0 : List Int) (s0_1 : Int) (r1 : ByteArray) (r2 : Int) (w : World) (ro : Nat → Prop) (B : Nat) (hF : Fr TE (cx0 Tryd.f90 (some (107, [.sl 1 (rX (cI .u8) s0_0), .v (.int .i64 s0_1)])) w ro B)) (x1 : Int) (x2 : Int) (x7 : List Int) (x13 : Int) (x14 : Int) (x1001 : Int) (h : spec_l11Draw.l0 k x1 x2 x7 x13 x14 s0_0 x1001 = some (r1, r2)) : Kp (WS TE (cx0 Tryd.f90 (some (107, [.sl 1 (rX (cI .u8) s0_0), .v (.int .i64 s0_1)])) w ro B) (stkAt [1, 1, 0, 1, 0] [] (bodyOf Tryd.f90) []) ⟨[(0, .pt 0 0 0), (1, .v (.int .i64 x1)), (2, .v (.int .i64 x2)), (7, .ow 1007 0), (13, .v (.int .i64 x13)), (14, .v (.int .i64 x14))], [(0, .box 0 107 true [.sl 1 (rX (cI .u8) s0_0), .v (.int .i64 x1001)]), (1007, .own 0 3 1 (rX (cI .i64) x7))]⟩ (RetQ TE Tryd.f90 (some (107, [.sl 1 (rX (cI .u8) s0_0), .v (.int .i64 s0_1)])) [.ro (.v (.string r1))] [.sl 1 (rX (cI .u8) s0_0), .v (.int .i64 r2)] w ro B)) := by
 refine ⟨WS.loop (fun m σ => m ≤ k ∧ spec_l11Draw.I0 s0_0 s0_1 r1 r2 m σ) k ⟨Nat.le_refl k, x1, x2, x7, x13, x14, x1001, h, rfl⟩ (fun m σ' hI J0 hJ0 => ?_)⟩
 clear h
 obtain ⟨hk, x1, x2, x7, x13, x14, x1001, h, rfl⟩ := hI
 cases m with
 | zero => simp [spec_l11Draw.l0] at h
 | succ k' =>
 simp only [spec_l11Draw.l0] at h
 by_cases c1 : x14 < x13
 · rw [if_pos c1] at h
   obtain ⟨⟨t190, t191⟩, q2, h⟩ := Option.bind_eq_some_iff.1 h
   dsimp only at h
   have q2c := spec_l13Rd_pick.ctr k' _ _ _ _ _ q2
   obtain ⟨⟨t195, t196⟩, q3, h⟩ := Option.bind_eq_some_iff.1 h
   dsimp only at h
   have q3c := spec_l13Rd_num.ctr k' _ _ _ _ _ q3
   by_cases c4 : x7.length < 17592186044416
   · rw [if_pos c4] at h
     refine path_ok (k := 10) hF (RetQ_mild _ _ _ _ _ _ _ _) (ds := [.b true, .r [.ro (.v (.int .i64 t190))] [.sl 1 (rX (cI .u8) s0_0), .v (.int .i64 t191)], .p 20 ([[.v (.int .i64 1)], [.v (.int .i64 0)], [.v (.int .i64 2)], [.v (.int .i64 3)], [.v (.int .i64 10006)], [.v (.int .i64 t190)]]), .r [.ro (.v (.int .i64 t195))] [.sl 1 (rX (cI .u8) s0_0), .v (.int .i64 t196)], .p 22 ([[.v (.int .i64 t195)]]), .o 23 (rX (cI .i64) (x7 ++ [t195]))]) (os := []) (c := none) rfl KD ?_
     exact WS.lpc [(0, some 0), (1007, some 1007)] (hJ0 _ _ (Nat.lt_succ_self _) ⟨by omega, x1, x2, (x7 ++ [t195]), x13, (wrap64 (x14 + 1)), t196, h, rfl⟩) KD
   · rw [if_neg c4] at h
     cases h
 · rw [if_neg c1] at h
   obtain ⟨⟨t203, t204⟩, q5, h⟩ := Option.bind_eq_some_iff.1 h
   dsimp only at h
   have q5c := spec_FillShape.ctr k' _ _ _ _ q5
   refine path_ok (k := 10) hF (RetQ_mild _ _ _ _ _ _ _ _) (ds := [.b false, .p 28 ([[.v (.int .i64 x1)], [.v (.int .i64 x2)]]), .r [.ro (.v (.string t203)), .ro (.v (.bool t204))] []]) (os := []) (c := none) rfl KD ?_
   cases h
   exact ret_as (ms := [.ro]) rfl KD
theorem spec_l11Draw.cs (k : Nat) : spec_l11Draw.C k := by
 induction k using Nat.strongRecOn with
 | _ k ih0 =>
 have ih : Kp (∀ m, m < k → spec_l11Draw.C m) := ⟨ih0⟩
 exact ⟨spec_l11Draw.c_l0 k ih⟩
set_option maxRecDepth 100000 in
set_option maxHeartbeats 4000000 in
theorem spec_l11Draw.ctr (k : Nat) (s0_0 : List Int) (s0_1 : Int) (a1 : Int) (a2 : Int) (r1 : ByteArray) (r2 : Int) (h : spec_l11Draw.f k s0_0 s0_1 a1 a2 = some (r1, r2)) : Ctr TE 90 (some (107, [.sl 1 (rX (cI .u8) s0_0), .v (.int .i64 s0_1)])) [.pt 0 0 0, .v (.int .i64 a1), .v (.int .i64 a2)] [.ro (.v (.string r1))] [.sl 1 (rX (cI .u8) s0_0), .v (.int .i64 r2)] := by
 refine ctr_of (fn := Tryd.f90) (c := (bodyOf Tryd.f90)) Tryd.func90 rfl (by kernel_rfl) (Nat.le_of_ble_eq_true (by kernel_rfl)) (fun w ro B hF _ => ?_)
 have ih : Kp (∀ m, m < k + 1 → spec_l11Draw.C m) := ⟨fun m _ => spec_l11Draw.cs m⟩
 simp only [spec_l11Draw.f] at h
 refine path_ok (k := 8) hF (RetQ_mild _ _ _ _ _ _ _ _) (ds := [.p 10 ([])]) (os := []) (c := none) rfl KD ?_
 exact WS.can [(0, some 0), (1007, some 10)] (((ih.out k (by omega)).s_l0 s0_0 s0_1 r1 r2 w ro B hF a1 a2 (([] : List Int)) (wrap64 (a1 * a2)) 0 s0_1 h).out) KD
def spec_l11Some.f (k : Nat) (s0_0 : List Int) (s0_1 : Int) : Option (ByteArray × Int) := (spec_l13Rd_pick.f k s0_0 s0_1 4).bind fun bt205 => (if bt205.1 = 0 then ((spec_l1Draw.f k s0_0 bt205.2 2).bind fun bt207 => ((spec_l1Draw.f k s0_0 bt207.2 2).bind fun bt209 => ((spec_l13Rd_of.f k s0_0 bt209.2 (([bt207.1, bt209.1, (⟨#[91, 49, 93]⟩ : ByteArray), (⟨#[]⟩ : ByteArray)] : List ByteArray))).bind fun bt214 => (some (bt214.1, bt214.2))))) else ((spec_l13Rd_pick.f k s0_0 bt205.2 4).bind fun bt216 => ((spec_l13Rd_pick.f k s0_0 bt216.2 4).bind fun bt218 => ((spec_l11Draw.f k s0_0 bt218.2 bt216.1 bt218.1).bind fun bt220 => (some (bt220.1, bt220.2))))))
set_option maxRecDepth 100000 in
set_option maxHeartbeats 4000000 in
theorem spec_l11Some.ctr (k : Nat) (s0_0 : List Int) (s0_1 : Int) (r1 : ByteArray) (r2 : Int) (h : spec_l11Some.f k s0_0 s0_1 = some (r1, r2)) : Ctr TE 57 (some (107, [.sl 1 (rX (cI .u8) s0_0), .v (.int .i64 s0_1)])) [.pt 0 0 0] [.ro (.v (.string r1))] [.sl 1 (rX (cI .u8) s0_0), .v (.int .i64 r2)] := by
 refine ctr_of (fn := Tryd.f57) (c := (bodyOf Tryd.f57)) Tryd.func57 rfl (by kernel_rfl) (Nat.le_of_ble_eq_true (by kernel_rfl)) (fun w ro B hF _ => ?_)
 simp only [spec_l11Some.f] at h
 obtain ⟨⟨t205, t206⟩, q1, h⟩ := Option.bind_eq_some_iff.1 h
 dsimp only at h
 have q1c := spec_l13Rd_pick.ctr k _ _ _ _ _ q1
 by_cases c2 : t205 = 0
 · rw [if_pos c2] at h
   obtain ⟨⟨t207, t208⟩, q3, h⟩ := Option.bind_eq_some_iff.1 h
   dsimp only at h
   have q3c := spec_l1Draw.ctr k _ _ _ _ _ q3
   obtain ⟨⟨t209, t210⟩, q4, h⟩ := Option.bind_eq_some_iff.1 h
   dsimp only at h
   have q4c := spec_l1Draw.ctr k _ _ _ _ _ q4
   obtain ⟨⟨t214, t215⟩, q5, h⟩ := Option.bind_eq_some_iff.1 h
   dsimp only at h
   have q5c := spec_l13Rd_of.ctr k _ _ _ _ _ q5
   refine path_ok (k := 9) hF (RetQ_mild _ _ _ _ _ _ _ _) (ds := [.r [.ro (.v (.int .i64 t205))] [.sl 1 (rX (cI .u8) s0_0), .v (.int .i64 t206)], .b true, .r [.ro (.v (.string t207))] [.sl 1 (rX (cI .u8) s0_0), .v (.int .i64 t208)], .r [.ro (.v (.string t209))] [.sl 1 (rX (cI .u8) s0_0), .v (.int .i64 t210)], .p 11 ([[.v (.string t207)], [.v (.string t209)], [.v (.string (⟨#[91, 49, 93]⟩ : ByteArray))], [.v (.string (⟨#[]⟩ : ByteArray))]]), .r [.ro (.v (.string t214))] [.sl 1 (rX (cI .u8) s0_0), .v (.int .i64 t215)]]) (os := []) (c := none) rfl KD ?_
   cases h
   exact ret_as (ms := [.ro]) rfl KD
 · rw [if_neg c2] at h
   obtain ⟨⟨t216, t217⟩, q6, h⟩ := Option.bind_eq_some_iff.1 h
   dsimp only at h
   have q6c := spec_l13Rd_pick.ctr k _ _ _ _ _ q6
   obtain ⟨⟨t218, t219⟩, q7, h⟩ := Option.bind_eq_some_iff.1 h
   dsimp only at h
   have q7c := spec_l13Rd_pick.ctr k _ _ _ _ _ q7
   obtain ⟨⟨t220, t221⟩, q8, h⟩ := Option.bind_eq_some_iff.1 h
   dsimp only at h
   have q8c := spec_l11Draw.ctr k _ _ _ _ _ _ q8
   refine path_ok (k := 10) hF (RetQ_mild _ _ _ _ _ _ _ _) (ds := [.r [.ro (.v (.int .i64 t205))] [.sl 1 (rX (cI .u8) s0_0), .v (.int .i64 t206)], .b false, .r [.ro (.v (.int .i64 t216))] [.sl 1 (rX (cI .u8) s0_0), .v (.int .i64 t217)], .r [.ro (.v (.int .i64 t218))] [.sl 1 (rX (cI .u8) s0_0), .v (.int .i64 t219)], .r [.ro (.v (.string t220))] [.sl 1 (rX (cI .u8) s0_0), .v (.int .i64 t221)]]) (os := []) (c := none) rfl KD ?_
   cases h
   exact ret_as (ms := [.ro]) rfl KD
def spec_DrawPadArray.f (k : Nat) (l0 : List Int) : Option (ByteArray) := (spec_l13Open.f l0).bind fun bt222 => ((spec_l13Rd_pick.f k bt222.1 bt222.2 3).bind fun bt225 => (if bt225.1 > 0 then ((spec_l1Draw.f k bt222.1 bt225.2 2).bind fun bt227 => (some bt227.1)) else ((spec_l11Some.f k bt222.1 bt225.2).bind fun bt229 => (some bt229.1))))
set_option maxRecDepth 100000 in
set_option maxHeartbeats 4000000 in
theorem spec_DrawPadArray.ctr (k : Nat) (l0 : List Int) (r : ByteArray) (h : spec_DrawPadArray.f k l0 = some r) : Ctr TE 25 none [.sl 1 (rX (cI .u8) l0)] [.ro (.v (.string r))] [] := by
 refine ctr_of (fn := Tryd.f25) (c := (bodyOf Tryd.f25)) Tryd.func25 rfl (by kernel_rfl) (Nat.le_of_ble_eq_true (by kernel_rfl)) (fun w ro B hF _ => ?_)
 simp only [spec_DrawPadArray.f] at h
 obtain ⟨⟨t222, t223⟩, q1, h⟩ := Option.bind_eq_some_iff.1 h
 dsimp only at h
 have q1c := spec_l13Open.ctr _ _ _ q1
 obtain ⟨⟨t225, t226⟩, q2, h⟩ := Option.bind_eq_some_iff.1 h
 dsimp only at h
 have q2c := spec_l13Rd_pick.ctr k _ _ _ _ _ q2
 by_cases c3 : t225 > 0
 · rw [if_pos c3] at h
   obtain ⟨⟨t227, t228⟩, q4, h⟩ := Option.bind_eq_some_iff.1 h
   dsimp only at h
   have q4c := spec_l1Draw.ctr k _ _ _ _ _ q4
   refine path_ok (k := 11) hF (RetQ_mild _ _ _ _ _ _ _ _) (ds := [.r [.nb 107 [.sl 1 (rX (cI .u8) t222), .v (.int .i64 t223)]] [], .r [.ro (.v (.int .i64 t225))] [.sl 1 (rX (cI .u8) t222), .v (.int .i64 t226)], .b true, .r [.ro (.v (.string t227))] [.sl 1 (rX (cI .u8) t222), .v (.int .i64 t228)]]) (os := []) (c := none) rfl KD ?_
   cases h
   exact ret_as (ms := [.ro]) rfl KD
 · rw [if_neg c3] at h
   obtain ⟨⟨t229, t230⟩, q5, h⟩ := Option.bind_eq_some_iff.1 h
   dsimp only at h
   have q5c := spec_l11Some.ctr k _ _ _ _ q5
   refine path_ok (k := 12) hF (RetQ_mild _ _ _ _ _ _ _ _) (ds := [.r [.nb 107 [.sl 1 (rX (cI .u8) t222), .v (.int .i64 t223)]] [], .r [.ro (.v (.int .i64 t225))] [.sl 1 (rX (cI .u8) t222), .v (.int .i64 t226)], .b false, .r [.ro (.v (.string t229))] [.sl 1 (rX (cI .u8) t222), .v (.int .i64 t230)]]) (os := []) (c := none) rfl KD ?_
   cases h
   exact ret_as (ms := [.ro]) rfl KD
end Go.Proofs.YtoloblgjlnhioaaDoor.J
