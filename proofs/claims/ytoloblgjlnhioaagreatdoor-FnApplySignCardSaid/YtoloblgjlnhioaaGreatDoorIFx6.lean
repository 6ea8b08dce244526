/- A part of the claim. -/
import Derived.Test.YtoloblgjlnhioaaGreatDoorIFx0
import Derived.Test.YtoloblgjlnhioaaGreatDoorIFx1
import Derived.Test.YtoloblgjlnhioaaGreatDoorIFx4
import Derived.Test.YtoloblgjlnhioaaGreatDoorIFx5
-- PRINTED by print.py (a twelfth state) out of the translation. Not trusted: Lean checks it.
namespace Go.Proofs.YtoloblgjlnhioaaGreatDoor.I
open Go.RowKit Go.Proofs.YtoloblgjlnhioaaGreatDoorW.St Go.Proofs.YtoloblgjlnhioaaGreatDoorW.PrintWords Go.Proofs.YtoloblgjlnhioaaGreatDoorW.PrintLast Go.Proofs.YtoloblgjlnhioaaGreatDoorW.PrintMore
attribute [local go_sem] max2_int min2_int max_two min_two max_three min_three max_four min_four   -- for this text's walks alone
set_option linter.unusedVariables false
set_option linter.unusedSimpArgs false
mutual
def spec_l6One.l0 : Nat → List (S79) → Int → Int → Int → List (S79) → Option (Int × (List (S79)))
  | 0, _, _, _, _, _ => none
  | k + 1, x23, x24, x25, x426000, x426001 => if x25 < x24 then (if 0 ≤ x25 then (if x25 < (x23.length : Int) then ((spec_l3Add.f x426000 ((rd_T79 x23 x25).f0)).bind fun t428 => (spec_l6One.l0 k x23 x24 (wrap64 (x25 + 1)) t428 x426001)) else (none)) else (none)) else (some (x426000, x426001))
def spec_l6One.l1 : Nat → List (S79) → Int → Int → Int → List (S79) → Option (Int × (List (S79)))
  | 0, _, _, _, _, _ => none
  | k + 1, x39, x40, x41, x426000, x426001 => if x41 < x40 then (if 0 ≤ x41 then (if x41 < (x39.length : Int) then (spec_l6One.l1 k x39 x40 (wrap64 (x41 + 1)) (mx x426000 ((rd_T79 x39 x41).f0)) x426001) else (none)) else (none)) else (some (x426000, x426001))
def spec_l6One.l2 : Nat → Int → Int → Int → List (S79) → Option (Int × (List (S79)))
  | 0, _, _, _, _ => none
  | k + 1, x56, x57, x426000, x426001 => if x57 < x56 then (if x426001.length < 4398046511104 then (spec_l6One.l2 k x56 (wrap64 (x57 + 1)) x426000 (x426001 ++ [(⟨x57, (([] : List (S79)))⟩ : S79)])) else (none)) else (some (x426000, x426001))
def spec_l6One.l3 : Nat → Int → Int → List (S79) → Int → List (S79) → Option (Int × (List (S79)))
  | 0, _, _, _, _, _ => none
  | k + 1, x11, x421000, x421001, x426000, x426001 => if x11 ≥ 0 then (if 0 ≤ x11 then (if x11 < (x421001.length : Int) then (if x426001.length < 4398046511104 then (spec_l6One.l3 k (wrap64 (x11 - 1)) x421000 x421001 x426000 (x426001 ++ [(⟨(rd_T79 x421001 x11).f0, (rd_T79 x421001 x11).f1⟩ : S79)])) else (none)) else (none)) else (none)) else (some (x426000, x426001))
def spec_l6One.l4 : Nat → List (S79) → Int → Int → Int → List (S79) → Option (Int × (List (S79)))
  | 0, _, _, _, _, _ => none
  | k + 1, x99, x100, x101, x426000, x426001 => if x101 < x100 then (if 0 ≤ x101 then (if x101 < (x99.length : Int) then (if x426001.length + ((rd_T79 x99 x101).f1).length < 4398046511104 then (spec_l6One.l4 k x99 x100 (wrap64 (x101 + 1)) x426000 (x426001 ++ ((rd_T79 x99 x101).f1))) else (none)) else (none)) else (none)) else (some (x426000, x426001))
def spec_l6One.l5 : Nat → Int → List (S79) → Int → Int → Int → List (S79) → Option (Int × (List (S79)))
  | 0, _, _, _, _, _, _ => none
  | k + 1, x14, x115, x116, x117, x426000, x426001 => if x117 < x116 then (if 0 ≤ x117 then (if x117 < (x115.length : Int) then (if x426001.length < 4398046511104 then ((spec_l3Add.f x14 ((rd_T79 x115 x117).f0)).bind fun t454 => (spec_l6One.l5 k t454 x115 x116 (wrap64 (x117 + 1)) x426000 (x426001 ++ [(⟨x14, (([] : List (S79)))⟩ : S79)]))) else (none)) else (none)) else (none)) else (some (x426000, x426001))
end
def spec_l6One.f (k : Nat) (a0 : Int) (a1_0 : Int) (l1_1 : List (S79)) : Option (Int × (List (S79))) := (some (([] : List (S79)) : List (S79))).bind fun y422 => (if a0 = 83 then (spec_l6One.l0 k l1_1 (l1_1.length : Int) 0 0 y422) else (if a0 = 77 then (spec_l6One.l1 k l1_1 (l1_1.length : Int) 0 0 y422) else (if a0 = 73 then (spec_l6One.l2 k (mn a1_0 12) 0 0 y422) else (if a0 = 78 then (some ((l1_1.length : Int) % 10007, y422)) else (if a0 = 82 then (spec_l6One.l3 k (wrap64 ((l1_1.length : Int) - 1)) a1_0 l1_1 0 y422) else (if a0 = 67 then (spec_l6One.l4 k l1_1 (l1_1.length : Int) 0 0 y422) else (if a0 = 80 then (spec_l6One.l5 k 0 l1_1 (l1_1.length : Int) 0 0 y422) else (some (0, y422)))))))))
def spec_l6One.I0 (r1 : Int) (r2 : List (S79)) (m : Nat) (σ : St) : Prop := ∃ (x23 : List (S79)) (x24 : Int) (x25 : Int) (x422000 : Int) (x426000 : Int) (x426001 : List (S79)), spec_l6One.l0 m x23 x24 x25 x426000 x426001 = some (r1, r2) ∧ σ = ⟨[(4, .pt 1004 0 0), (5, .pt 1005 0 0), (23, .sl 2 (r79 x23)), (24, .v (.int .i64 x24)), (25, .v (.int .i64 x25))], [(1004, .box 0 79 false [.v (.int .i64 x422000), .v (.slice none 0 0)]), (3321, .own 0 79 2 (r79 x426001)), (1005, .box 0 79 false [.v (.int .i64 x426000), .ow 3321 0])]⟩
def spec_l6One.I1 (r1 : Int) (r2 : List (S79)) (m : Nat) (σ : St) : Prop := ∃ (x39 : List (S79)) (x40 : Int) (x41 : Int) (x422000 : Int) (x426000 : Int) (x426001 : List (S79)), spec_l6One.l1 m x39 x40 x41 x426000 x426001 = some (r1, r2) ∧ σ = ⟨[(4, .pt 1004 0 0), (5, .pt 1005 0 0), (39, .sl 2 (r79 x39)), (40, .v (.int .i64 x40)), (41, .v (.int .i64 x41))], [(1004, .box 0 79 false [.v (.int .i64 x422000), .v (.slice none 0 0)]), (3321, .own 0 79 2 (r79 x426001)), (1005, .box 0 79 false [.v (.int .i64 x426000), .ow 3321 0])]⟩
def spec_l6One.I2 (r1 : Int) (r2 : List (S79)) (m : Nat) (σ : St) : Prop := ∃ (x56 : Int) (x57 : Int) (x422000 : Int) (x426000 : Int) (x426001 : List (S79)), spec_l6One.l2 m x56 x57 x426000 x426001 = some (r1, r2) ∧ σ = ⟨[(4, .pt 1004 0 0), (5, .pt 1005 0 0), (56, .v (.int .i64 x56)), (57, .v (.int .i64 x57))], [(1004, .box 0 79 false [.v (.int .i64 x422000), .v (.slice none 0 0)]), (3321, .own 0 79 2 (r79 x426001)), (1005, .box 0 79 false [.v (.int .i64 x426000), .ow 3321 0])]⟩
def spec_l6One.I3 (r1 : Int) (r2 : List (S79)) (m : Nat) (σ : St) : Prop := ∃ (x11 : Int) (x421000 : Int) (x421001 : List (S79)) (x422000 : Int) (x426000 : Int) (x426001 : List (S79)), spec_l6One.l3 m x11 x421000 x421001 x426000 x426001 = some (r1, r2) ∧ σ = ⟨[(3, .pt 1003 0 0), (4, .pt 1004 0 0), (5, .pt 1005 0 0), (11, .v (.int .i64 x11))], [(1003, .box 0 79 false [.v (.int .i64 x421000), .sl 2 (r79 x421001)]), (1004, .box 0 79 false [.v (.int .i64 x422000), .v (.slice none 0 0)]), (3321, .own 0 79 2 (r79 x426001)), (1005, .box 0 79 false [.v (.int .i64 x426000), .ow 3321 0])]⟩
def spec_l6One.I4 (r1 : Int) (r2 : List (S79)) (m : Nat) (σ : St) : Prop := ∃ (x99 : List (S79)) (x100 : Int) (x101 : Int) (x422000 : Int) (x426000 : Int) (x426001 : List (S79)), spec_l6One.l4 m x99 x100 x101 x426000 x426001 = some (r1, r2) ∧ σ = ⟨[(4, .pt 1004 0 0), (5, .pt 1005 0 0), (99, .sl 2 (r79 x99)), (100, .v (.int .i64 x100)), (101, .v (.int .i64 x101))], [(1004, .box 0 79 false [.v (.int .i64 x422000), .v (.slice none 0 0)]), (3321, .own 0 79 2 (r79 x426001)), (1005, .box 0 79 false [.v (.int .i64 x426000), .ow 3321 0])]⟩
def spec_l6One.I5 (r1 : Int) (r2 : List (S79)) (m : Nat) (σ : St) : Prop := ∃ (x14 : Int) (x115 : List (S79)) (x116 : Int) (x117 : Int) (x422000 : Int) (x426000 : Int) (x426001 : List (S79)), spec_l6One.l5 m x14 x115 x116 x117 x426000 x426001 = some (r1, r2) ∧ σ = ⟨[(4, .pt 1004 0 0), (5, .pt 1005 0 0), (14, .v (.int .i64 x14)), (115, .sl 2 (r79 x115)), (116, .v (.int .i64 x116)), (117, .v (.int .i64 x117))], [(1004, .box 0 79 false [.v (.int .i64 x422000), .v (.slice none 0 0)]), (3321, .own 0 79 2 (r79 x426001)), (1005, .box 0 79 false [.v (.int .i64 x426000), .ow 3321 0])]⟩
structure spec_l6One.C (k : Nat) : Prop where
 s_l0 : ∀ (r1 : Int) (r2 : List (S79)) (w : World) (ro : Nat → Prop) (B : Nat) (_ : Fr TE (cx0 Tryz.f62 none w ro B)) (x23 : List (S79)) (x24 : Int) (x25 : Int) (x422000 : Int) (x426000 : Int) (x426001 : List (S79)) (_ : spec_l6One.l0 k x23 x24 x25 x426000 x426001 = some (r1, r2)), Kp (WS TE (cx0 Tryz.f62 none w ro B) (stkAt [1, 1, 0, 1, 0, 1, 0, 1, 0] [] (bodyOf Tryz.f62) []) ⟨[(4, .pt 1004 0 0), (5, .pt 1005 0 0), (23, .sl 2 (r79 x23)), (24, .v (.int .i64 x24)), (25, .v (.int .i64 x25))], [(1004, .box 0 79 false [.v (.int .i64 x422000), .v (.slice none 0 0)]), (3321, .own 0 79 2 (r79 x426001)), (1005, .box 0 79 false [.v (.int .i64 x426000), .ow 3321 0])]⟩ (RetQ TE Tryz.f62 none [.ro (.ag [.v (.int .i64 r1), .sl 2 (r79 r2)])] [] w ro B))
 s_l1 : ∀ (r1 : Int) (r2 : List (S79)) (w : World) (ro : Nat → Prop) (B : Nat) (_ : Fr TE (cx0 Tryz.f62 none w ro B)) (x39 : List (S79)) (x40 : Int) (x41 : Int) (x422000 : Int) (x426000 : Int) (x426001 : List (S79)) (_ : spec_l6One.l1 k x39 x40 x41 x426000 x426001 = some (r1, r2)), Kp (WS TE (cx0 Tryz.f62 none w ro B) (stkAt [1, 1, 0, 1, 0, 1, 1, 1, 0, 1, 0] [] (bodyOf Tryz.f62) []) ⟨[(4, .pt 1004 0 0), (5, .pt 1005 0 0), (39, .sl 2 (r79 x39)), (40, .v (.int .i64 x40)), (41, .v (.int .i64 x41))], [(1004, .box 0 79 false [.v (.int .i64 x422000), .v (.slice none 0 0)]), (3321, .own 0 79 2 (r79 x426001)), (1005, .box 0 79 false [.v (.int .i64 x426000), .ow 3321 0])]⟩ (RetQ TE Tryz.f62 none [.ro (.ag [.v (.int .i64 r1), .sl 2 (r79 r2)])] [] w ro B))
 s_l2 : ∀ (r1 : Int) (r2 : List (S79)) (w : World) (ro : Nat → Prop) (B : Nat) (_ : Fr TE (cx0 Tryz.f62 none w ro B)) (x56 : Int) (x57 : Int) (x422000 : Int) (x426000 : Int) (x426001 : List (S79)) (_ : spec_l6One.l2 k x56 x57 x426000 x426001 = some (r1, r2)), Kp (WS TE (cx0 Tryz.f62 none w ro B) (stkAt [1, 1, 0, 1, 0, 1, 1, 1, 1, 1, 0, 1, 0] [] (bodyOf Tryz.f62) []) ⟨[(4, .pt 1004 0 0), (5, .pt 1005 0 0), (56, .v (.int .i64 x56)), (57, .v (.int .i64 x57))], [(1004, .box 0 79 false [.v (.int .i64 x422000), .v (.slice none 0 0)]), (3321, .own 0 79 2 (r79 x426001)), (1005, .box 0 79 false [.v (.int .i64 x426000), .ow 3321 0])]⟩ (RetQ TE Tryz.f62 none [.ro (.ag [.v (.int .i64 r1), .sl 2 (r79 r2)])] [] w ro B))
 s_l3 : ∀ (r1 : Int) (r2 : List (S79)) (w : World) (ro : Nat → Prop) (B : Nat) (_ : Fr TE (cx0 Tryz.f62 none w ro B)) (x11 : Int) (x421000 : Int) (x421001 : List (S79)) (x422000 : Int) (x426000 : Int) (x426001 : List (S79)) (_ : spec_l6One.l3 k x11 x421000 x421001 x426000 x426001 = some (r1, r2)), Kp (WS TE (cx0 Tryz.f62 none w ro B) (stkAt [1, 1, 0, 1, 0, 1, 1, 1, 1, 1, 1, 1, 1, 1, 0, 1, 0] [] (bodyOf Tryz.f62) []) ⟨[(3, .pt 1003 0 0), (4, .pt 1004 0 0), (5, .pt 1005 0 0), (11, .v (.int .i64 x11))], [(1003, .box 0 79 false [.v (.int .i64 x421000), .sl 2 (r79 x421001)]), (1004, .box 0 79 false [.v (.int .i64 x422000), .v (.slice none 0 0)]), (3321, .own 0 79 2 (r79 x426001)), (1005, .box 0 79 false [.v (.int .i64 x426000), .ow 3321 0])]⟩ (RetQ TE Tryz.f62 none [.ro (.ag [.v (.int .i64 r1), .sl 2 (r79 r2)])] [] w ro B))
 s_l4 : ∀ (r1 : Int) (r2 : List (S79)) (w : World) (ro : Nat → Prop) (B : Nat) (_ : Fr TE (cx0 Tryz.f62 none w ro B)) (x99 : List (S79)) (x100 : Int) (x101 : Int) (x422000 : Int) (x426000 : Int) (x426001 : List (S79)) (_ : spec_l6One.l4 k x99 x100 x101 x426000 x426001 = some (r1, r2)), Kp (WS TE (cx0 Tryz.f62 none w ro B) (stkAt [1, 1, 0, 1, 0, 1, 1, 1, 1, 1, 1, 1, 1, 1, 1, 1, 0, 1, 0] [] (bodyOf Tryz.f62) []) ⟨[(4, .pt 1004 0 0), (5, .pt 1005 0 0), (99, .sl 2 (r79 x99)), (100, .v (.int .i64 x100)), (101, .v (.int .i64 x101))], [(1004, .box 0 79 false [.v (.int .i64 x422000), .v (.slice none 0 0)]), (3321, .own 0 79 2 (r79 x426001)), (1005, .box 0 79 false [.v (.int .i64 x426000), .ow 3321 0])]⟩ (RetQ TE Tryz.f62 none [.ro (.ag [.v (.int .i64 r1), .sl 2 (r79 r2)])] [] w ro B))
 s_l5 : ∀ (r1 : Int) (r2 : List (S79)) (w : World) (ro : Nat → Prop) (B : Nat) (_ : Fr TE (cx0 Tryz.f62 none w ro B)) (x14 : Int) (x115 : List (S79)) (x116 : Int) (x117 : Int) (x422000 : Int) (x426000 : Int) (x426001 : List (S79)) (_ : spec_l6One.l5 k x14 x115 x116 x117 x426000 x426001 = some (r1, r2)), Kp (WS TE (cx0 Tryz.f62 none w ro B) (stkAt [1, 1, 0, 1, 0, 1, 1, 1, 1, 1, 1, 1, 1, 1, 1, 1, 1, 1, 0, 1, 1, 0] [] (bodyOf Tryz.f62) []) ⟨[(4, .pt 1004 0 0), (5, .pt 1005 0 0), (14, .v (.int .i64 x14)), (115, .sl 2 (r79 x115)), (116, .v (.int .i64 x116)), (117, .v (.int .i64 x117))], [(1004, .box 0 79 false [.v (.int .i64 x422000), .v (.slice none 0 0)]), (3321, .own 0 79 2 (r79 x426001)), (1005, .box 0 79 false [.v (.int .i64 x426000), .ow 3321 0])]⟩ (RetQ TE Tryz.f62 none [.ro (.ag [.v (.int .i64 r1), .sl 2 (r79 r2)])] [] w ro B))
set_option maxRecDepth 100000 in
set_option maxHeartbeats 4000000 in
theorem spec_l6One.c_l0 (k : Nat) (ih : Kp (∀ m, m < k → spec_l6One.C m)) (r1 : Int) (r2 : List (S79)) (w : World) (ro : Nat → Prop) (B : Nat) (hF : Fr TE (cx0 Tryz.f62 none w ro B)) (x23 : List (S79)) (x24 : Int) (x25 : Int) (x422000 : Int) (x426000 : Int) (x426001 : List (S79)) (h : spec_l6One.l0 k x23 x24 x25 x426000 x426001 = some (r1, r2)) : Kp (WS TE (cx0 Tryz.f62 none w ro B) (stkAt [1, 1, 0, 1, 0, 1, 0, 1, 0] [] (bodyOf Tryz.f62) []) ⟨[(4, .pt 1004 0 0), (5, .pt 1005 0 0), (23, .sl 2 (r79 x23)), (24, .v (.int .i64 x24)), (25, .v (.int .i64 x25))], [(1004, .box 0 79 false [.v (.int .i64 x422000), .v (.slice none 0 0)]), (3321, .own 0 79 2 (r79 x426001)), (1005, .box 0 79 false [.v (.int .i64 x426000), .ow 3321 0])]⟩ (RetQ TE Tryz.f62 none [.ro (.ag [.v (.int .i64 r1), .sl 2 (r79 r2)])] [] w ro B)) := by
 refine ⟨WS.loop (fun m σ => m ≤ k ∧ spec_l6One.I0 r1 r2 m σ) k ⟨Nat.le_refl k, x23, x24, x25, x422000, x426000, x426001, h, rfl⟩ (fun m σ' hI J0 hJ0 => ?_)⟩
 clear h
 obtain ⟨hk, x23, x24, x25, x422000, x426000, x426001, h, rfl⟩ := hI
 cases m with
 | zero => simp [spec_l6One.l0] at h
 | succ k' =>
 simp only [spec_l6One.l0] at h
 by_cases c8 : x25 < x24
 · rw [if_pos c8] at h
   by_cases c9 : 0 ≤ x25
   · rw [if_pos c9] at h
     by_cases c10 : x25 < (x23.length : Int)
     · rw [if_pos c10] at h
       obtain ⟨t428, q11, h⟩ := Option.bind_eq_some_iff.1 h
       have q11c := spec_l3Add.ctr _ _ _ q11
       refine path_ok (k := 12) hF (RetQ_mild _ _ _ _ _ _ _ _) (ds := [.b true, .e 27 (.rf [.v (.int .i64 ((rd_T79 x23 x25).f0)), .sl 2 (r79 ((rd_T79 x23 x25).f1))]), .r [.ro (.v (.int .i64 t428))] []]) (os := []) (c := none) rfl KD ?_
       exact WS.lpc [(1004, some 1004), (1005, some 1005), (3321, some 3321)] (hJ0 _ _ (Nat.lt_succ_self _) ⟨by omega, x23, x24, (wrap64 (x25 + 1)), x422000, t428, x426001, h, rfl⟩) KD
     · rw [if_neg c10] at h
       cases h
   · rw [if_neg c9] at h
     cases h
 · rw [if_neg c8] at h
   refine path_ok (k := 9) hF (RetQ_mild _ _ _ _ _ _ _ _) (ds := [.b false]) (os := []) (c := none) rfl KD ?_
   cases h
   exact ret_as (ms := [.ro]) rfl KD
set_option maxRecDepth 100000 in
set_option maxHeartbeats 4000000 in
theorem spec_l6One.c_l1 (k : Nat) (ih : Kp (∀ m, m < k → spec_l6One.C m)) (r1 : Int) (r2 : List (S79)) (w : World) (ro : Nat → Prop) (B : Nat) (hF : Fr TE (cx0 Tryz.f62 none w ro B)) (x39 : List (S79)) (x40 : Int) (x41 : Int) (x422000 : Int) (x426000 : Int) (x426001 : List (S79)) (h : spec_l6One.l1 k x39 x40 x41 x426000 x426001 = some (r1, r2)) : Kp (WS TE (cx0 Tryz.f62 none w ro B) (stkAt [1, 1, 0, 1, 0, 1, 1, 1, 0, 1, 0] [] (bodyOf Tryz.f62) []) ⟨[(4, .pt 1004 0 0), (5, .pt 1005 0 0), (39, .sl 2 (r79 x39)), (40, .v (.int .i64 x40)), (41, .v (.int .i64 x41))], [(1004, .box 0 79 false [.v (.int .i64 x422000), .v (.slice none 0 0)]), (3321, .own 0 79 2 (r79 x426001)), (1005, .box 0 79 false [.v (.int .i64 x426000), .ow 3321 0])]⟩ (RetQ TE Tryz.f62 none [.ro (.ag [.v (.int .i64 r1), .sl 2 (r79 r2)])] [] w ro B)) := by
 refine ⟨WS.loop (fun m σ => m ≤ k ∧ spec_l6One.I1 r1 r2 m σ) k ⟨Nat.le_refl k, x39, x40, x41, x422000, x426000, x426001, h, rfl⟩ (fun m σ' hI J1 hJ1 => ?_)⟩
 clear h
 obtain ⟨hk, x39, x40, x41, x422000, x426000, x426001, h, rfl⟩ := hI
 cases m with
 | zero => simp [spec_l6One.l1] at h
 | succ k' =>
 simp only [spec_l6One.l1] at h
 by_cases c12 : x41 < x40
 · rw [if_pos c12] at h
   by_cases c13 : 0 ≤ x41
   · rw [if_pos c13] at h
     by_cases c14 : x41 < (x39.length : Int)
     · rw [if_pos c14] at h
       refine path_ok (k := 12) hF (RetQ_mild _ _ _ _ _ _ _ _) (ds := [.b true, .e 43 (.rf [.v (.int .i64 ((rd_T79 x39 x41).f0)), .sl 2 (r79 ((rd_T79 x39 x41).f1))])]) (os := []) (c := none) rfl KD ?_
       exact WS.lpc [(1004, some 1004), (1005, some 1005), (3321, some 3321)] (hJ1 _ _ (Nat.lt_succ_self _) ⟨by omega, x39, x40, (wrap64 (x41 + 1)), x422000, (mx x426000 ((rd_T79 x39 x41).f0)), x426001, h, rfl⟩) KD
     · rw [if_neg c14] at h
       cases h
   · rw [if_neg c13] at h
     cases h
 · rw [if_neg c12] at h
   refine path_ok (k := 9) hF (RetQ_mild _ _ _ _ _ _ _ _) (ds := [.b false]) (os := []) (c := none) rfl KD ?_
   cases h
   exact ret_as (ms := [.ro]) rfl KD
set_option maxRecDepth 100000 in
set_option maxHeartbeats 4000000 in
theorem spec_l6One.c_l2 (k : Nat) (ih : Kp (∀ m, m < k → spec_l6One.C m)) (r1 : Int) (r2 : List (S79)) (w : World) (ro : Nat → Prop) (B : Nat) (hF : Fr TE (cx0 Tryz.f62 none w ro B)) (x56 : Int) (x57 : Int) (x422000 : Int) (x426000 : Int) (x426001 : List (S79)) (h : spec_l6One.l2 k x56 x57 x426000 x426001 = some (r1, r2)) : Kp (WS TE (cx0 Tryz.f62 none w ro B) (stkAt [1, 1, 0, 1, 0, 1, 1, 1, 1, 1, 0, 1, 0] [] (bodyOf Tryz.f62) []) ⟨[(4, .pt 1004 0 0), (5, .pt 1005 0 0), (56, .v (.int .i64 x56)), (57, .v (.int .i64 x57))], [(1004, .box 0 79 false [.v (.int .i64 x422000), .v (.slice none 0 0)]), (3321, .own 0 79 2 (r79 x426001)), (1005, .box 0 79 false [.v (.int .i64 x426000), .ow 3321 0])]⟩ (RetQ TE Tryz.f62 none [.ro (.ag [.v (.int .i64 r1), .sl 2 (r79 r2)])] [] w ro B)) := by
 refine ⟨WS.loop (fun m σ => m ≤ k ∧ spec_l6One.I2 r1 r2 m σ) k ⟨Nat.le_refl k, x56, x57, x422000, x426000, x426001, h, rfl⟩ (fun m σ' hI J2 hJ2 => ?_)⟩
 clear h
 obtain ⟨hk, x56, x57, x422000, x426000, x426001, h, rfl⟩ := hI
 cases m with
 | zero => simp [spec_l6One.l2] at h
 | succ k' =>
 simp only [spec_l6One.l2] at h
 by_cases c15 : x57 < x56
 · rw [if_pos c15] at h
   by_cases c16 : x426001.length < 4398046511104
   · rw [if_pos c16] at h
     refine path_ok (k := 12) hF (RetQ_mild _ _ _ _ _ _ _ _) (ds := [.b true, .p 63 ([]), .p 65 ([[.v (.int .i64 x57), .sl 2 (r79 (([] : List (S79))))]]), .o 66 (r79 (x426001 ++ [(⟨x57, (([] : List (S79)))⟩ : S79)]))]) (os := []) (c := none) rfl KD ?_
     exact WS.lpc [(1004, some 1004), (1005, some 1005), (3321, some 3321)] (hJ2 _ _ (Nat.lt_succ_self _) ⟨by omega, x56, (wrap64 (x57 + 1)), x422000, x426000, (x426001 ++ [(⟨x57, (([] : List (S79)))⟩ : S79)]), h, rfl⟩) KD
   · rw [if_neg c16] at h
     cases h
 · rw [if_neg c15] at h
   refine path_ok (k := 9) hF (RetQ_mild _ _ _ _ _ _ _ _) (ds := [.b false]) (os := []) (c := none) rfl KD ?_
   cases h
   exact ret_as (ms := [.ro]) rfl KD
set_option maxRecDepth 100000 in
set_option maxHeartbeats 4000000 in
theorem spec_l6One.c_l3 (k : Nat) (ih : Kp (∀ m, m < k → spec_l6One.C m)) (r1 : Int) (r2 : List (S79)) (w : World) (ro : Nat → Prop) (B : Nat) (hF : Fr TE (cx0 Tryz.f62 none w ro B)) (x11 : Int) (x421000 : Int) (x421001 : List (S79)) (x422000 : Int) (x426000 : Int) (x426001 : List (S79)) (h : spec_l6One.l3 k x11 x421000 x421001 x426000 x426001 = some (r1, r2)) : Kp (WS TE (cx0 Tryz.f62 none w ro B) (stkAt [1, 1, 0, 1, 0, 1, 1, 1, 1, 1, 1, 1, 1, 1, 0, 1, 0] [] (bodyOf Tryz.f62) []) ⟨[(3, .pt 1003 0 0), (4, .pt 1004 0 0), (5, .pt 1005 0 0), (11, .v (.int .i64 x11))], [(1003, .box 0 79 false [.v (.int .i64 x421000), .sl 2 (r79 x421001)]), (1004, .box 0 79 false [.v (.int .i64 x422000), .v (.slice none 0 0)]), (3321, .own 0 79 2 (r79 x426001)), (1005, .box 0 79 false [.v (.int .i64 x426000), .ow 3321 0])]⟩ (RetQ TE Tryz.f62 none [.ro (.ag [.v (.int .i64 r1), .sl 2 (r79 r2)])] [] w ro B)) := by
 refine ⟨WS.loop (fun m σ => m ≤ k ∧ spec_l6One.I3 r1 r2 m σ) k ⟨Nat.le_refl k, x11, x421000, x421001, x422000, x426000, x426001, h, rfl⟩ (fun m σ' hI J3 hJ3 => ?_)⟩
 clear h
 obtain ⟨hk, x11, x421000, x421001, x422000, x426000, x426001, h, rfl⟩ := hI
 cases m with
 | zero => simp [spec_l6One.l3] at h
 | succ k' =>
 simp only [spec_l6One.l3] at h
 by_cases c17 : x11 ≥ 0
 · rw [if_pos c17] at h
   by_cases c18 : 0 ≤ x11
   · rw [if_pos c18] at h
     by_cases c19 : x11 < (x421001.length : Int)
     · rw [if_pos c19] at h
       by_cases c20 : x426001.length < 4398046511104
       · rw [if_pos c20] at h
         refine path_ok (k := 10) hF (RetQ_mild _ _ _ _ _ _ _ _) (ds := [.b true, .e 91 (.rf [.v (.int .i64 ((rd_T79 x421001 x11).f0)), .sl 2 (r79 ((rd_T79 x421001 x11).f1))]), .p 93 ([[.v (.int .i64 ((rd_T79 x421001 x11).f0)), .sl 2 (r79 ((rd_T79 x421001 x11).f1))]]), .o 94 (r79 (x426001 ++ [(⟨(rd_T79 x421001 x11).f0, (rd_T79 x421001 x11).f1⟩ : S79)]))]) (os := [.o [(0, 0), (1, 1), (2, 0), (3, 1), (4, 0), (5, 0), (6, 1), (7, 2), (8, 2), (9, 0), (10, 2)] [8, 10]]) (c := none) rfl KD ?_
         exact WS.lpc [(1003, some 1003), (1004, some 1004), (1005, some 1005), (3321, some 3321)] (hJ3 _ _ (Nat.lt_succ_self _) ⟨by omega, (wrap64 (x11 - 1)), x421000, x421001, x422000, x426000, (x426001 ++ [(⟨(rd_T79 x421001 x11).f0, (rd_T79 x421001 x11).f1⟩ : S79)]), h, rfl⟩) KD
       · rw [if_neg c20] at h
         cases h
     · rw [if_neg c19] at h
       cases h
   · rw [if_neg c18] at h
     cases h
 · rw [if_neg c17] at h
   refine path_ok (k := 9) hF (RetQ_mild _ _ _ _ _ _ _ _) (ds := [.b false]) (os := []) (c := none) rfl KD ?_
   cases h
   exact ret_as (ms := [.ro]) rfl KD
set_option maxRecDepth 100000 in
set_option maxHeartbeats 4000000 in
theorem spec_l6One.c_l4 (k : Nat) (ih : Kp (∀ m, m < k → spec_l6One.C m)) (r1 : Int) (r2 : List (S79)) (w : World) (ro : Nat → Prop) (B : Nat) (hF : Fr TE (cx0 Tryz.f62 none w ro B)) (x99 : List (S79)) (x100 : Int) (x101 : Int) (x422000 : Int) (x426000 : Int) (x426001 : List (S79)) (h : spec_l6One.l4 k x99 x100 x101 x426000 x426001 = some (r1, r2)) : Kp (WS TE (cx0 Tryz.f62 none w ro B) (stkAt [1, 1, 0, 1, 0, 1, 1, 1, 1, 1, 1, 1, 1, 1, 1, 1, 0, 1, 0] [] (bodyOf Tryz.f62) []) ⟨[(4, .pt 1004 0 0), (5, .pt 1005 0 0), (99, .sl 2 (r79 x99)), (100, .v (.int .i64 x100)), (101, .v (.int .i64 x101))], [(1004, .box 0 79 false [.v (.int .i64 x422000), .v (.slice none 0 0)]), (3321, .own 0 79 2 (r79 x426001)), (1005, .box 0 79 false [.v (.int .i64 x426000), .ow 3321 0])]⟩ (RetQ TE Tryz.f62 none [.ro (.ag [.v (.int .i64 r1), .sl 2 (r79 r2)])] [] w ro B)) := by
 refine ⟨WS.loop (fun m σ => m ≤ k ∧ spec_l6One.I4 r1 r2 m σ) k ⟨Nat.le_refl k, x99, x100, x101, x422000, x426000, x426001, h, rfl⟩ (fun m σ' hI J4 hJ4 => ?_)⟩
 clear h
 obtain ⟨hk, x99, x100, x101, x422000, x426000, x426001, h, rfl⟩ := hI
 cases m with
 | zero => simp [spec_l6One.l4] at h
 | succ k' =>
 simp only [spec_l6One.l4] at h
 by_cases c21 : x101 < x100
 · rw [if_pos c21] at h
   by_cases c22 : 0 ≤ x101
   · rw [if_pos c22] at h
     by_cases c23 : x101 < (x99.length : Int)
     · rw [if_pos c23] at h
       by_cases c24 : x426001.length + ((rd_T79 x99 x101).f1).length < 4398046511104
       · rw [if_pos c24] at h
         refine path_ok (k := 12) hF (RetQ_mild _ _ _ _ _ _ _ _) (ds := [.b true, .e 103 (.rf [.v (.int .i64 ((rd_T79 x99 x101).f0)), .sl 2 (r79 ((rd_T79 x99 x101).f1))]), .o 109 (r79 (x426001 ++ ((rd_T79 x99 x101).f1)))]) (os := []) (c := none) rfl KD ?_
         exact WS.lpc [(1004, some 1004), (1005, some 1005), (3321, some 3321)] (hJ4 _ _ (Nat.lt_succ_self _) ⟨by omega, x99, x100, (wrap64 (x101 + 1)), x422000, x426000, (x426001 ++ ((rd_T79 x99 x101).f1)), h, rfl⟩) KD
       · rw [if_neg c24] at h
         cases h
     · rw [if_neg c23] at h
       cases h
   · rw [if_neg c22] at h
     cases h
 · rw [if_neg c21] at h
   refine path_ok (k := 9) hF (RetQ_mild _ _ _ _ _ _ _ _) (ds := [.b false]) (os := []) (c := none) rfl KD ?_
   cases h
   exact ret_as (ms := [.ro]) rfl KD
set_option maxRecDepth 100000 in
set_option maxHeartbeats 4000000 in
theorem spec_l6One.c_l5 (k : Nat) (ih : Kp (∀ m, m < k → spec_l6One.C m)) (r1 : Int) (r2 : List (S79)) (w : World) (ro : Nat → Prop) (B : Nat) (hF : Fr TE (cx0 Tryz.f62 none w ro B)) (x14 : Int) (x115 : List (S79)) (x116 : Int) (x117 : Int) (x422000 : Int) (x426000 : Int) (x426001 : List (S79)) (h : spec_l6One.l5 k x14 x115 x116 x117 x426000 x426001 = some (r1, r2)) : Kp (WS TE (cx0 Tryz.f62 none w ro B) (stkAt [1, 1, 0, 1, 0, 1, 1, 1, 1, 1, 1, 1, 1, 1, 1, 1, 1, 1, 0, 1, 1, 0] [] (bodyOf Tryz.f62) []) ⟨[(4, .pt 1004 0 0), (5, .pt 1005 0 0), (14, .v (.int .i64 x14)), (115, .sl 2 (r79 x115)), (116, .v (.int .i64 x116)), (117, .v (.int .i64 x117))], [(1004, .box 0 79 false [.v (.int .i64 x422000), .v (.slice none 0 0)]), (3321, .own 0 79 2 (r79 x426001)), (1005, .box 0 79 false [.v (.int .i64 x426000), .ow 3321 0])]⟩ (RetQ TE Tryz.f62 none [.ro (.ag [.v (.int .i64 r1), .sl 2 (r79 r2)])] [] w ro B)) := by
 refine ⟨WS.loop (fun m σ => m ≤ k ∧ spec_l6One.I5 r1 r2 m σ) k ⟨Nat.le_refl k, x14, x115, x116, x117, x422000, x426000, x426001, h, rfl⟩ (fun m σ' hI J5 hJ5 => ?_)⟩
 clear h
 obtain ⟨hk, x14, x115, x116, x117, x422000, x426000, x426001, h, rfl⟩ := hI
 cases m with
 | zero => simp [spec_l6One.l5] at h
 | succ k' =>
 simp only [spec_l6One.l5] at h
 by_cases c25 : x117 < x116
 · rw [if_pos c25] at h
   by_cases c26 : 0 ≤ x117
   · rw [if_pos c26] at h
     by_cases c27 : x117 < (x115.length : Int)
     · rw [if_pos c27] at h
       by_cases c28 : x426001.length < 4398046511104
       · rw [if_pos c28] at h
         obtain ⟨t454, q29, h⟩ := Option.bind_eq_some_iff.1 h
         have q29c := spec_l3Add.ctr _ _ _ q29
         refine path_ok (k := 14) hF (RetQ_mild _ _ _ _ _ _ _ _) (ds := [.b true, .e 119 (.rf [.v (.int .i64 ((rd_T79 x115 x117).f0)), .sl 2 (r79 ((rd_T79 x115 x117).f1))]), .p 124 ([]), .p 126 ([[.v (.int .i64 x14), .sl 2 (r79 (([] : List (S79))))]]), .o 127 (r79 (x426001 ++ [(⟨x14, (([] : List (S79)))⟩ : S79)])), .r [.ro (.v (.int .i64 t454))] []]) (os := []) (c := none) rfl KD ?_
         exact WS.lpc [(1004, some 1004), (1005, some 1005), (3321, some 3321)] (hJ5 _ _ (Nat.lt_succ_self _) ⟨by omega, t454, x115, x116, (wrap64 (x117 + 1)), x422000, x426000, (x426001 ++ [(⟨x14, (([] : List (S79)))⟩ : S79)]), h, rfl⟩) KD
       · rw [if_neg c28] at h
         cases h
     · rw [if_neg c27] at h
       cases h
   · rw [if_neg c26] at h
     cases h
 · rw [if_neg c25] at h
   refine path_ok (k := 9) hF (RetQ_mild _ _ _ _ _ _ _ _) (ds := [.b false]) (os := []) (c := none) rfl KD ?_
   cases h
   exact ret_as (ms := [.ro]) rfl KD
theorem spec_l6One.cs (k : Nat) : spec_l6One.C k := by
 induction k using Nat.strongRecOn with
 | _ k ih0 =>
 have ih : Kp (∀ m, m < k → spec_l6One.C m) := ⟨ih0⟩
 exact ⟨spec_l6One.c_l0 k ih, spec_l6One.c_l1 k ih, spec_l6One.c_l2 k ih, spec_l6One.c_l3 k ih, spec_l6One.c_l4 k ih, spec_l6One.c_l5 k ih⟩
set_option maxRecDepth 100000 in
set_option maxHeartbeats 4000000 in
theorem spec_l6One.ctr (k : Nat) (a0 : Int) (a1_0 : Int) (l1_1 : List (S79)) (r1 : Int) (r2 : List (S79)) (h : spec_l6One.f k a0 a1_0 l1_1 = some (r1, r2)) : Ctr TE 62 none [.v (.int .u8 a0), .ag [.v (.int .i64 a1_0), .sl 2 (r79 l1_1)]] [.ro (.ag [.v (.int .i64 r1), .sl 2 (r79 r2)])] [] := by
 refine ctr_of (fn := Tryz.f62) (c := (bodyOf Tryz.f62)) Tryz.func62 rfl (by kernel_rfl) (Nat.le_of_ble_eq_true (by kernel_rfl)) (fun w ro B hF _ => ?_)
 have ih : Kp (∀ m, m < k + 1 → spec_l6One.C m) := ⟨fun m _ => spec_l6One.cs m⟩
 simp only [spec_l6One.f] at h
 obtain ⟨y422, hy422, h⟩ := Option.bind_eq_some_iff.1 h
 cases hy422
 by_cases c1 : a0 = 83
 · rw [if_pos c1] at h
   refine path_ok (k := 14) hF (RetQ_mild _ _ _ _ _ _ _ _) (ds := [.p 17 ([]), .b true, .e 24 (.v (.int .i64 (l1_1.length : Int)))]) (os := []) (c := none) rfl KD ?_
   exact WS.can [(1004, some 4), (1005, some 5), (3321, some 17)] (((ih.out k (by omega)).s_l0  r1 r2 w ro B hF l1_1 (l1_1.length : Int) 0 0 0 (([] : List (S79))) h).out) KD
 · rw [if_neg c1] at h
   by_cases c2 : a0 = 77
   · rw [if_pos c2] at h
     refine path_ok (k := 17) hF (RetQ_mild _ _ _ _ _ _ _ _) (ds := [.p 17 ([]), .b false, .b true, .e 40 (.v (.int .i64 (l1_1.length : Int)))]) (os := []) (c := none) rfl KD ?_
     exact WS.can [(1004, some 4), (1005, some 5), (3321, some 17)] (((ih.out k (by omega)).s_l1  r1 r2 w ro B hF l1_1 (l1_1.length : Int) 0 0 0 (([] : List (S79))) h).out) KD
   · rw [if_neg c2] at h
     by_cases c3 : a0 = 73
     · rw [if_pos c3] at h
       refine path_ok (k := 20) hF (RetQ_mild _ _ _ _ _ _ _ _) (ds := [.p 17 ([]), .b false, .b false, .b true]) (os := []) (c := none) rfl KD ?_
       exact WS.can [(1004, some 4), (1005, some 5), (3321, some 17)] (((ih.out k (by omega)).s_l2  r1 r2 w ro B hF (mn a1_0 12) 0 0 0 (([] : List (S79))) h).out) KD
     · rw [if_neg c3] at h
       by_cases c4 : a0 = 78
       · rw [if_pos c4] at h
         refine path_ok (k := 25) hF (RetQ_mild _ _ _ _ _ _ _ _) (ds := [.p 17 ([]), .b false, .b false, .b false, .b true, .e 73 (.v (.int .i64 (l1_1.length : Int))), .e 74 (.v (.int .i64 ((l1_1.length : Int) % 10007)))]) (os := []) (c := none) rfl KD ?_
         cases h
         exact ret_as (ms := [.ro]) rfl KD
       · rw [if_neg c4] at h
         by_cases c5 : a0 = 82
         · rw [if_pos c5] at h
           refine path_ok (k := 26) hF (RetQ_mild _ _ _ _ _ _ _ _) (ds := [.p 17 ([]), .b false, .b false, .b false, .b false, .b true, .e 80 (.v (.int .i64 (l1_1.length : Int)))]) (os := []) (c := none) rfl KD ?_
           exact WS.can [(1003, some 3), (1004, some 4), (1005, some 5), (3321, some 17)] (((ih.out k (by omega)).s_l3  r1 r2 w ro B hF (wrap64 ((l1_1.length : Int) - 1)) a1_0 l1_1 0 0 (([] : List (S79))) h).out) KD
         · rw [if_neg c5] at h
           by_cases c6 : a0 = 67
           · rw [if_pos c6] at h
             refine path_ok (k := 29) hF (RetQ_mild _ _ _ _ _ _ _ _) (ds := [.p 17 ([]), .b false, .b false, .b false, .b false, .b false, .b true, .e 100 (.v (.int .i64 (l1_1.length : Int)))]) (os := []) (c := none) rfl KD ?_
             exact WS.can [(1004, some 4), (1005, some 5), (3321, some 17)] (((ih.out k (by omega)).s_l4  r1 r2 w ro B hF l1_1 (l1_1.length : Int) 0 0 0 (([] : List (S79))) h).out) KD
           · rw [if_neg c6] at h
             by_cases c7 : a0 = 80
             · rw [if_pos c7] at h
               refine path_ok (k := 34) hF (RetQ_mild _ _ _ _ _ _ _ _) (ds := [.p 17 ([]), .b false, .b false, .b false, .b false, .b false, .b false, .b true, .e 116 (.v (.int .i64 (l1_1.length : Int)))]) (os := []) (c := none) rfl KD ?_
               exact WS.can [(1004, some 4), (1005, some 5), (3321, some 17)] (((ih.out k (by omega)).s_l5  r1 r2 w ro B hF 0 l1_1 (l1_1.length : Int) 0 0 0 (([] : List (S79))) h).out) KD
             · rw [if_neg c7] at h
               refine path_ok (k := 34) hF (RetQ_mild _ _ _ _ _ _ _ _) (ds := [.p 17 ([]), .b false, .b false, .b false, .b false, .b false, .b false, .b false]) (os := []) (c := none) rfl KD ?_
               cases h
               exact ret_as (ms := [.ro]) rfl KD
def spec_l5Two.j0 : Nat → Bool → Option (Int)
  | 0, _ => none
  | k + 1, x14 => if x14 = true then (some 0) else (some (-1))
def spec_l5Two.f (k : Nat) (a0 : Int) (a1 : Int) (a2 : Int) : Option (Int) := if a0 = 64 then (if a1 = 1 then (spec_l5Two.j0 k (a2 == 0)) else (spec_l5Two.j0 k false)) else (if a1 = 0 then (if a2 = 0 then (some 0) else (some (-1))) else (some (-1)))
theorem spec_l5Two.mono_l : ∀ k, (∀ y0, LeO (spec_l5Two.j0 k y0) (spec_l5Two.j0 (k + 1) y0))
  | 0 => fun _ r h => by simp [spec_l5Two.j0] at h
  | k + 1 => by
    have ih0 := spec_l5Two.mono_l k
    · intro y0
      unfold spec_l5Two.j0
      repeat' first
      | (with_reducible exact ih0 _)
      | (with_reducible exact LeO.refl _)
      | (with_reducible exact LeO.none _)
      | (with_reducible refine LeO.ite ?_ ?_)
      | (with_reducible refine LeO.bind ?_ (fun _ => ?_))
      | exact ih0 _
      | exact LeO.none _
      | refine LeO.ite ?_ ?_
      | refine LeO.bind ?_ (fun _ => ?_)
theorem spec_l5Two.mono : ∀ a0 a1 a2 k, LeO (spec_l5Two.f k a0 a1 a2) (spec_l5Two.f (k + 1) a0 a1 a2) := by
  intro a0 a1 a2 k
  have ih0 := spec_l5Two.mono_l k
  unfold spec_l5Two.f
  repeat' first
      | (with_reducible exact ih0 _)
      | (with_reducible exact LeO.refl _)
      | (with_reducible exact LeO.none _)
      | (with_reducible refine LeO.ite ?_ ?_)
      | (with_reducible refine LeO.bind ?_ (fun _ => ?_))
      | exact ih0 _
      | exact LeO.none _
      | refine LeO.ite ?_ ?_
      | refine LeO.bind ?_ (fun _ => ?_)
structure spec_l5Two.C (k : Nat) : Prop where
 s_j0 : ∀ (r : Int) (w : World) (ro : Nat → Prop) (B : Nat) (_ : Fr TE (cx0 Tryz.f63 none w ro B)) (x14 : Bool) (_ : spec_l5Two.j0 k x14 = some r), Kp (WS TE (cx0 Tryz.f63 none w ro B) (stkAt [1, 0, 1, 0, 0, 0, 9] [] (bodyOf Tryz.f63) []) ⟨[(14, .v (.bool x14))], []⟩ (RetQ TE Tryz.f63 none [.ro (.v (.int .i64 r))] [] w ro B))
set_option maxRecDepth 100000 in
set_option maxHeartbeats 4000000 in
theorem spec_l5Two.c_j0 (k : Nat) (ih : Kp (∀ m, m < k → spec_l5Two.C m)) (r : Int) (w : World) (ro : Nat → Prop) (B : Nat) (hF : Fr TE (cx0 Tryz.f63 none w ro B)) (x14 : Bool) (h : spec_l5Two.j0 k x14 = some r) : Kp (WS TE (cx0 Tryz.f63 none w ro B) (stkAt [1, 0, 1, 0, 0, 0, 9] [] (bodyOf Tryz.f63) []) ⟨[(14, .v (.bool x14))], []⟩ (RetQ TE Tryz.f63 none [.ro (.v (.int .i64 r))] [] w ro B)) := by
 refine ⟨?_⟩
 cases k with
 | zero => simp [spec_l5Two.j0] at h
 | succ k =>
 simp only [spec_l5Two.j0] at h
 by_cases c5 : x14 = true
 · rw [if_pos c5] at h
   refine path_ok (k := 4) hF (RetQ_mild _ _ _ _ _ _ _ _) (ds := [.b true]) (os := []) (c := none) rfl KD ?_
   cases h
   exact ret_as (ms := [.ro]) rfl KD
 · rw [if_neg c5] at h
   refine path_ok (k := 5) hF (RetQ_mild _ _ _ _ _ _ _ _) (ds := [.b false]) (os := []) (c := none) rfl KD ?_
   cases h
   exact ret_as (ms := [.ro]) rfl KD
theorem spec_l5Two.cs (k : Nat) : spec_l5Two.C k := by
 induction k using Nat.strongRecOn with
 | _ k ih0 =>
 have ih : Kp (∀ m, m < k → spec_l5Two.C m) := ⟨ih0⟩
 exact ⟨spec_l5Two.c_j0 k ih⟩
set_option maxRecDepth 100000 in
set_option maxHeartbeats 4000000 in
theorem spec_l5Two.ctr (k : Nat) (a0 : Int) (a1 : Int) (a2 : Int) (r : Int) (h : spec_l5Two.f k a0 a1 a2 = some r) : Ctr TE 63 none [.v (.int .u8 a0), .v (.int .i64 a1), .v (.int .i64 a2)] [.ro (.v (.int .i64 r))] [] := by
 refine ctr_of (fn := Tryz.f63) (c := (bodyOf Tryz.f63)) Tryz.func63 rfl (by kernel_rfl) (Nat.le_of_ble_eq_true (by kernel_rfl)) (fun w ro B hF _ => ?_)
 have ih : Kp (∀ m, m < k + 1 → spec_l5Two.C m) := ⟨fun m _ => spec_l5Two.cs m⟩
 simp only [spec_l5Two.f] at h
 by_cases c1 : a0 = 64
 · rw [if_pos c1] at h
   by_cases c2 : a1 = 1
   · rw [if_pos c2] at h
     refine path_ok (k := 9) hF (RetQ_mild _ _ _ _ _ _ _ _) (ds := [.b true, .b true, .b true, .b true]) (os := []) (c := none) rfl KD ?_
     exact WS.can [] (((ih.out k (by omega)).s_j0  r w ro B hF (a2 == 0) h).out) KD
   · rw [if_neg c2] at h
     refine path_ok (k := 9) hF (RetQ_mild _ _ _ _ _ _ _ _) (ds := [.b true, .b false, .b false, .b false]) (os := []) (c := none) rfl KD ?_
     exact WS.can [] (((ih.out k (by omega)).s_j0  r w ro B hF false h).out) KD
 · rw [if_neg c1] at h
   by_cases c3 : a1 = 0
   · rw [if_pos c3] at h
     by_cases c4 : a2 = 0
     · rw [if_pos c4] at h
       refine path_ok (k := 14) hF (RetQ_mild _ _ _ _ _ _ _ _) (ds := [.b false, .b true, .b true, .b true, .b true]) (os := []) (c := none) rfl KD ?_
       cases h
       exact ret_as (ms := [.ro]) rfl KD
     · rw [if_neg c4] at h
       refine path_ok (k := 15) hF (RetQ_mild _ _ _ _ _ _ _ _) (ds := [.b false, .b true, .b true, .b true, .b false]) (os := []) (c := none) rfl KD ?_
       cases h
       exact ret_as (ms := [.ro]) rfl KD
   · rw [if_neg c3] at h
     refine path_ok (k := 15) hF (RetQ_mild _ _ _ _ _ _ _ _) (ds := [.b false, .b false, .b false, .b false, .b false]) (os := []) (c := none) rfl KD ?_
     cases h
     exact ret_as (ms := [.ro]) rfl KD
def spec_l6Truth.f (a0 : Bool) : Option (Int) := if a0 = true then (some 1) else (some 0)
set_option maxRecDepth 100000 in
set_option maxHeartbeats 4000000 in
theorem spec_l6Truth.ctr (a0 : Bool) (r : Int) (h : spec_l6Truth.f a0 = some r) : Ctr TE 128 none [.v (.bool a0)] [.ro (.v (.int .i64 r))] [] := by
 refine ctr_of (fn := Tryz.f128) (c := (bodyOf Tryz.f128)) Tryz.func128 rfl (by kernel_rfl) (Nat.le_of_ble_eq_true (by kernel_rfl)) (fun w ro B hF _ => ?_)
 simp only [spec_l6Truth.f] at h
 by_cases c1 : a0 = true
 · rw [if_pos c1] at h
   refine path_ok (k := 9) hF (RetQ_mild _ _ _ _ _ _ _ _) (ds := [.b true]) (os := []) (c := none) rfl KD ?_
   cases h
   exact ret_as (ms := [.ro]) rfl KD
 · rw [if_neg c1] at h
   refine path_ok (k := 10) hF (RetQ_mild _ _ _ _ _ _ _ _) (ds := [.b false]) (os := []) (c := none) rfl KD ?_
   cases h
   exact ret_as (ms := [.ro]) rfl KD
def spec_l6Number.f (a0 : Int) (a1 : Int) (a2 : Int) : Option (Int) := if a0 = 43 then ((spec_l3Add.f a1 a2).bind fun t455 => (some t455)) else (if a0 = 42 then (some (Int.tmod (wrap64 (a1 * a2)) 10007)) else (if a0 = 94 then (some (mx a1 a2)) else (if a0 = 45 then (some (mx (wrap64 (a1 - a2)) 0)) else (if a0 = 61 then ((spec_l6Truth.f (a1 == a2)).bind fun t456 => (some t456)) else ((spec_l6Truth.f (decide (a1 < a2))).bind fun t457 => (some t457))))))
set_option maxRecDepth 100000 in
set_option maxHeartbeats 4000000 in
theorem spec_l6Number.ctr (a0 : Int) (a1 : Int) (a2 : Int) (r : Int) (h : spec_l6Number.f a0 a1 a2 = some r) : Ctr TE 104 none [.v (.int .u8 a0), .v (.int .i64 a1), .v (.int .i64 a2)] [.ro (.v (.int .i64 r))] [] := by
 refine ctr_of (fn := Tryz.f104) (c := (bodyOf Tryz.f104)) Tryz.func104 rfl (by kernel_rfl) (Nat.le_of_ble_eq_true (by kernel_rfl)) (fun w ro B hF _ => ?_)
 simp only [spec_l6Number.f] at h
 by_cases c1 : a0 = 43
 · rw [if_pos c1] at h
   obtain ⟨t455, q2, h⟩ := Option.bind_eq_some_iff.1 h
   have q2c := spec_l3Add.ctr _ _ _ q2
   refine path_ok (k := 12) hF (RetQ_mild _ _ _ _ _ _ _ _) (ds := [.b true, .r [.ro (.v (.int .i64 t455))] []]) (os := []) (c := none) rfl KD ?_
   cases h
   exact ret_as (ms := [.ro]) rfl KD
 · rw [if_neg c1] at h
   by_cases c3 : a0 = 42
   · rw [if_pos c3] at h
     refine path_ok (k := 15) hF (RetQ_mild _ _ _ _ _ _ _ _) (ds := [.b false, .b true, .e 18 (.v (.int .i64 (Int.tmod (wrap64 (a1 * a2)) 10007)))]) (os := []) (c := none) rfl KD ?_
     cases h
     exact ret_as (ms := [.ro]) rfl KD
   · rw [if_neg c3] at h
     by_cases c4 : a0 = 94
     · rw [if_pos c4] at h
       refine path_ok (k := 18) hF (RetQ_mild _ _ _ _ _ _ _ _) (ds := [.b false, .b false, .b true]) (os := []) (c := none) rfl KD ?_
       cases h
       exact ret_as (ms := [.ro]) rfl KD
     · rw [if_neg c4] at h
       by_cases c5 : a0 = 45
       · rw [if_pos c5] at h
         refine path_ok (k := 21) hF (RetQ_mild _ _ _ _ _ _ _ _) (ds := [.b false, .b false, .b false, .b true]) (os := []) (c := none) rfl KD ?_
         cases h
         exact ret_as (ms := [.ro]) rfl KD
       · rw [if_neg c5] at h
         by_cases c6 : a0 = 61
         · rw [if_pos c6] at h
           obtain ⟨t456, q7, h⟩ := Option.bind_eq_some_iff.1 h
           have q7c := spec_l6Truth.ctr _ _ q7
           refine path_ok (k := 24) hF (RetQ_mild _ _ _ _ _ _ _ _) (ds := [.b false, .b false, .b false, .b false, .b true, .r [.ro (.v (.int .i64 t456))] []]) (os := []) (c := none) rfl KD ?_
           cases h
           exact ret_as (ms := [.ro]) rfl KD
         · rw [if_neg c6] at h
           obtain ⟨t457, q8, h⟩ := Option.bind_eq_some_iff.1 h
           have q8c := spec_l6Truth.ctr _ _ q8
           refine path_ok (k := 26) hF (RetQ_mild _ _ _ _ _ _ _ _) (ds := [.b false, .b false, .b false, .b false, .b false, .r [.ro (.v (.int .i64 t457))] []]) (os := []) (c := none) rfl KD ?_
           cases h
           exact ret_as (ms := [.ro]) rfl KD
def spec_l6Two.f (a0 : Int) (a1_0 : Int) (l1_1 : List (S79)) (a2_0 : Int) (l2_1 : List (S79)) : Option (Int × (List (S79))) := (some (([] : List (S79)) : List (S79))).bind fun y461 => (if a0 = 64 then (if a2_0 < (l1_1.length : Int) then (if 0 ≤ a2_0 then (some ((rd_T79 l1_1 a2_0).f0, y461)) else (none)) else (some (0, y461))) else ((spec_l6Number.f a0 a1_0 a2_0).bind fun t466 => (some (t466, y461))))
set_option maxRecDepth 100000 in
set_option maxHeartbeats 4000000 in
theorem spec_l6Two.ctr (a0 : Int) (a1_0 : Int) (l1_1 : List (S79)) (a2_0 : Int) (l2_1 : List (S79)) (r1 : Int) (r2 : List (S79)) (h : spec_l6Two.f a0 a1_0 l1_1 a2_0 l2_1 = some (r1, r2)) : Ctr TE 64 none [.v (.int .u8 a0), .ag [.v (.int .i64 a1_0), .sl 2 (r79 l1_1)], .ag [.v (.int .i64 a2_0), .sl 2 (r79 l2_1)]] [.ro (.ag [.v (.int .i64 r1), .sl 2 (r79 r2)])] [] := by
 refine ctr_of (fn := Tryz.f64) (c := (bodyOf Tryz.f64)) Tryz.func64 rfl (by kernel_rfl) (Nat.le_of_ble_eq_true (by kernel_rfl)) (fun w ro B hF _ => ?_)
 simp only [spec_l6Two.f] at h
 obtain ⟨y461, hy461, h⟩ := Option.bind_eq_some_iff.1 h
 cases hy461
 by_cases c1 : a0 = 64
 · rw [if_pos c1] at h
   by_cases c2 : a2_0 < (l1_1.length : Int)
   · rw [if_pos c2] at h
     by_cases c3 : 0 ≤ a2_0
     · rw [if_pos c3] at h
       refine path_ok (k := 16) hF (RetQ_mild _ _ _ _ _ _ _ _) (ds := [.p 8 ([]), .b true, .e 16 (.v (.int .i64 (l1_1.length : Int))), .b true, .e 22 (.rf [.v (.int .i64 ((rd_T79 l1_1 a2_0).f0)), .sl 2 (r79 ((rd_T79 l1_1 a2_0).f1))])]) (os := []) (c := none) rfl KD ?_
       cases h
       exact ret_as (ms := [.ro]) rfl KD
     · rw [if_neg c3] at h
       cases h
   · rw [if_neg c2] at h
     refine path_ok (k := 16) hF (RetQ_mild _ _ _ _ _ _ _ _) (ds := [.p 8 ([]), .b true, .e 16 (.v (.int .i64 (l1_1.length : Int))), .b false]) (os := []) (c := none) rfl KD ?_
     cases h
     exact ret_as (ms := [.ro]) rfl KD
 · rw [if_neg c1] at h
   obtain ⟨t466, q4, h⟩ := Option.bind_eq_some_iff.1 h
   have q4c := spec_l6Number.ctr _ _ _ _ q4
   refine path_ok (k := 14) hF (RetQ_mild _ _ _ _ _ _ _ _) (ds := [.p 8 ([]), .b false, .r [.ro (.v (.int .i64 t466))] []]) (os := []) (c := none) rfl KD ?_
   cases h
   exact ret_as (ms := [.ro]) rfl KD
mutual
def spec_ApplySign.j0 : Nat → ByteArray → List ByteArray → Int → Bool → Option (ByteArray × Bool)
  | 0, _, _, _, _ => none
  | k + 1, x0, x1, x2, x25 => if x25 = true then (some ((⟨#[]⟩ : ByteArray), false)) else (if 0 < (x1.length : Int) then ((spec_l1Read.f k (rdOf ByteArray.empty x1 0) x2).bind fun bt468 => (if bt468.2.2 = true then (if (x1.length : Int) = 1 then (if 0 < (x0.size : Int) then ((spec_l5One.f k (bt x0 0) x2).bind fun t474 => (if t474 < 0 then (spec_ApplySign.j1 k x0 t474 true bt468.1 bt468.2.1) else ((spec_l13Find.f k (⟨#[83, 77, 73, 78, 82, 67, 80]⟩ : ByteArray) (bt x0 0)).bind fun t475 => (spec_ApplySign.j1 k x0 t474 (decide (t475 < 0)) bt468.1 bt468.2.1)))) else (none)) else (if 1 < (x1.length : Int) then ((spec_l1Read.f k (rdOf ByteArray.empty x1 1) 0).bind fun bt483 => (if bt483.2.2 = true then (if 0 < (x0.size : Int) then ((spec_l13Find.f k (⟨#[43, 42, 94, 45, 61, 60, 64]⟩ : ByteArray) (bt x0 0)).bind fun t489 => (if t489 < 0 then (spec_ApplySign.j2 k x0 true bt468.1 bt468.2.1 bt483.1 bt483.2.1) else ((spec_l5Two.f k (bt x0 0) x2 0).bind fun t490 => (spec_ApplySign.j2 k x0 (decide (t490 < 0)) bt468.1 bt468.2.1 bt483.1 bt483.2.1)))) else (none)) else (spec_ApplySign.j2 k x0 true bt468.1 bt468.2.1 bt483.1 bt483.2.1))) else (none))) else (some ((⟨#[]⟩ : ByteArray), false)))) else (none))
def spec_ApplySign.j1 : Nat → ByteArray → Int → Bool → Int → List (S79) → Option (ByteArray × Bool)
  | 0, _, _, _, _, _ => none
  | k + 1, x0, x10, x50, x474000, x474001 => if x50 = true then (some ((⟨#[]⟩ : ByteArray), false)) else (if 0 < (x0.size : Int) then ((spec_l6One.f k (bt x0 0) x474000 x474001).bind fun bt476 => ((spec_l1Told.f k bt476.1 bt476.2 x10).bind fun bt480 => (some (bt480.1, bt480.2)))) else (none))
def spec_ApplySign.j2 : Nat → ByteArray → Bool → Int → List (S79) → Int → List (S79) → Option (ByteArray × Bool)
  | 0, _, _, _, _, _, _ => none
  | k + 1, x0, x80, x474000, x474001, x489000, x489001 => if x80 = true then (some ((⟨#[]⟩ : ByteArray), false)) else (if 0 < (x0.size : Int) then ((spec_l6Two.f (bt x0 0) x474000 x474001 x489000 x489001).bind fun bt491 => ((spec_l1Told.f k bt491.1 bt491.2 0).bind fun bt495 => (some (bt495.1, bt495.2)))) else (none))
end
def spec_ApplySign.f (k : Nat) (a0 : ByteArray) (l1 : List ByteArray) (a2 : Int) : Option (ByteArray × Bool) := if (a0.size : Int) = 1 then (if (l1.length : Int) < 1 then (spec_ApplySign.j0 k a0 l1 a2 true) else (spec_ApplySign.j0 k a0 l1 a2 (decide ((l1.length : Int) > 2)))) else (spec_ApplySign.j0 k a0 l1 a2 true)
structure spec_ApplySign.C (k : Nat) : Prop where
 s_j0 : ∀ (r1 : ByteArray) (r2 : Bool) (w : World) (ro : Nat → Prop) (B : Nat) (_ : Fr TE (cx0 Tryz.f20 none w ro B)) (x0 : ByteArray) (x1 : List ByteArray) (x2 : Int) (x25 : Bool) (_ : spec_ApplySign.j0 k x0 x1 x2 x25 = some (r1, r2)), Kp (WS TE (cx0 Tryz.f20 none w ro B) (stkAt [1, 0, 0, 9] [] (bodyOf Tryz.f20) []) ⟨[(0, .v (.string x0)), (1, .sl 1 (rX cS x1)), (2, .v (.int .i64 x2)), (25, .v (.bool x25))], []⟩ (RetQ TE Tryz.f20 none [.ro (.v (.string r1)), .ro (.v (.bool r2))] [] w ro B))
 s_j1 : ∀ (r1 : ByteArray) (r2 : Bool) (w : World) (ro : Nat → Prop) (B : Nat) (_ : Fr TE (cx0 Tryz.f20 none w ro B)) (x0 : ByteArray) (x10 : Int) (x50 : Bool) (x474000 : Int) (x474001 : List (S79)) (_ : spec_ApplySign.j1 k x0 x10 x50 x474000 x474001 = some (r1, r2)), Kp (WS TE (cx0 Tryz.f20 none w ro B) (stkAt [1, 1, 1, 1, 0, 1, 0, 1, 0, 0, 9] [] (bodyOf Tryz.f20) []) ⟨[(0, .v (.string x0)), (8, .pt 1008 0 0), (10, .v (.int .i64 x10)), (50, .v (.bool x50))], [(1008, .box 0 79 false [.v (.int .i64 x474000), .sl 2 (r79 x474001)])]⟩ (RetQ TE Tryz.f20 none [.ro (.v (.string r1)), .ro (.v (.bool r2))] [] w ro B))
 s_j2 : ∀ (r1 : ByteArray) (r2 : Bool) (w : World) (ro : Nat → Prop) (B : Nat) (_ : Fr TE (cx0 Tryz.f20 none w ro B)) (x0 : ByteArray) (x80 : Bool) (x474000 : Int) (x474001 : List (S79)) (x489000 : Int) (x489001 : List (S79)) (_ : spec_ApplySign.j2 k x0 x80 x474000 x474001 x489000 x489001 = some (r1, r2)), Kp (WS TE (cx0 Tryz.f20 none w ro B) (stkAt [1, 1, 1, 1, 1, 1, 0, 0, 9] [] (bodyOf Tryz.f20) []) ⟨[(0, .v (.string x0)), (8, .pt 1008 0 0), (11, .pt 1011 0 0), (80, .v (.bool x80))], [(1008, .box 0 79 false [.v (.int .i64 x474000), .sl 2 (r79 x474001)]), (1011, .box 0 79 false [.v (.int .i64 x489000), .sl 2 (r79 x489001)])]⟩ (RetQ TE Tryz.f20 none [.ro (.v (.string r1)), .ro (.v (.bool r2))] [] w ro B))
set_option maxRecDepth 100000 in
set_option maxHeartbeats 4000000 in
theorem spec_ApplySign.c_j0 (k : Nat) (ih : Kp (∀ m, m < k → spec_ApplySign.C m)) (r1 : ByteArray) (r2 : Bool) (w : World) (ro : Nat → Prop) (B : Nat) (hF : Fr TE (cx0 Tryz.f20 none w ro B)) (x0 : ByteArray) (x1 : List ByteArray) (x2 : Int) (x25 : Bool) (h : spec_ApplySign.j0 k x0 x1 x2 x25 = some (r1, r2)) : Kp (WS TE (cx0 Tryz.f20 none w ro B) (stkAt [1, 0, 0, 9] [] (bodyOf Tryz.f20) []) ⟨[(0, .v (.string x0)), (1, .sl 1 (rX cS x1)), (2, .v (.int .i64 x2)), (25, .v (.bool x25))], []⟩ (RetQ TE Tryz.f20 none [.ro (.v (.string r1)), .ro (.v (.bool r2))] [] w ro B)) := by
 refine ⟨?_⟩
 cases k with
 | zero => simp [spec_ApplySign.j0] at h
 | succ k =>
 simp only [spec_ApplySign.j0] at h
 by_cases c3 : x25 = true
 · rw [if_pos c3] at h
   refine path_ok (k := 4) hF (RetQ_mild _ _ _ _ _ _ _ _) (ds := [.b true]) (os := []) (c := none) rfl KD ?_
   cases h
   exact ret_as (ms := [.ro, .ro]) rfl KD
 · rw [if_neg c3] at h
   by_cases c4 : 0 < (x1.length : Int)
   · rw [if_pos c4] at h
     obtain ⟨⟨t468, t469, t472⟩, q5, h⟩ := Option.bind_eq_some_iff.1 h
     dsimp only at h
     have q5c := spec_l1Read.ctr k _ _ _ _ _ q5
     by_cases c6 : t472 = true
     · rw [if_pos c6] at h
       by_cases c7 : (x1.length : Int) = 1
       · rw [if_pos c7] at h
         by_cases c8 : 0 < (x0.size : Int)
         · rw [if_pos c8] at h
           obtain ⟨t474, q9, h⟩ := Option.bind_eq_some_iff.1 h
           have q9c := spec_l5One.ctr k _ _ _ q9
           by_cases c10 : t474 < 0
           · rw [if_pos c10] at h
             have hb10 := bt_range x0 0
             refine path_ok (k := 18) hF (RetQ_mild _ _ _ _ _ _ _ _) (ds := [.b false, .e 28 (.rf [.v (.string (rdOf ByteArray.empty x1 0))]), .r [.ro (.ag [.v (.int .i64 t468), .sl 2 (r79 t469)]), .ro (.v (.bool t472))] [], .b false, .e 37 (.v (.int .i64 (x1.length : Int))), .b true, .r [.ro (.v (.int .i64 t474))] [], .b true, .b true, .b true, .b true, .b true]) (os := []) (c := none) rfl KD ?_
             exact WS.can [(1008, some 8)] (((ih.out k (by omega)).s_j1  r1 r2 w ro B hF x0 t474 true t468 t469 h).out) KD
           · rw [if_neg c10] at h
             obtain ⟨t475, q12, h⟩ := Option.bind_eq_some_iff.1 h
             have q12c := spec_l13Find.ctr k _ _ _ q12
             have hb12 := bt_range x0 0
             refine path_ok (k := 18) hF (RetQ_mild _ _ _ _ _ _ _ _) (ds := [.b false, .e 28 (.rf [.v (.string (rdOf ByteArray.empty x1 0))]), .r [.ro (.ag [.v (.int .i64 t468), .sl 2 (r79 t469)]), .ro (.v (.bool t472))] [], .b false, .e 37 (.v (.int .i64 (x1.length : Int))), .b true, .r [.ro (.v (.int .i64 t474))] [], .b false, .b false, .b false, .r [.ro (.v (.int .i64 t475))] [], .b false, .b false]) (os := []) (c := none) rfl KD ?_
             exact WS.can [(1008, some 8)] (((ih.out k (by omega)).s_j1  r1 r2 w ro B hF x0 t474 (decide (t475 < 0)) t468 t469 h).out) KD
         · rw [if_neg c8] at h
           cases h
       · rw [if_neg c7] at h
         by_cases c14 : 1 < (x1.length : Int)
         · rw [if_pos c14] at h
           obtain ⟨⟨t483, t484, t487⟩, q15, h⟩ := Option.bind_eq_some_iff.1 h
           dsimp only at h
           have q15c := spec_l1Read.ctr k _ _ _ _ _ q15
           by_cases c16 : t487 = true
           · rw [if_pos c16] at h
             by_cases c17 : 0 < (x0.size : Int)
             · rw [if_pos c17] at h
               obtain ⟨t489, q18, h⟩ := Option.bind_eq_some_iff.1 h
               have q18c := spec_l13Find.ctr k _ _ _ q18
               by_cases c19 : t489 < 0
               · rw [if_pos c19] at h
                 have hb19 := bt_range x0 0
                 refine path_ok (k := 19) hF (RetQ_mild _ _ _ _ _ _ _ _) (ds := [.b false, .e 28 (.rf [.v (.string (rdOf ByteArray.empty x1 0))]), .r [.ro (.ag [.v (.int .i64 t468), .sl 2 (r79 t469)]), .ro (.v (.bool t472))] [], .b false, .e 37 (.v (.int .i64 (x1.length : Int))), .b false, .e 61 (.rf [.v (.string (rdOf ByteArray.empty x1 1))]), .r [.ro (.ag [.v (.int .i64 t483), .sl 2 (r79 t484)]), .ro (.v (.bool t487))] [], .b false, .b false, .b false, .r [.ro (.v (.int .i64 t489))] [], .b false, .b false, .b true, .b true, .b true, .b true, .b true, .b true]) (os := []) (c := none) rfl KD ?_
                 exact WS.can [(1008, some 8), (1011, some 11)] (((ih.out k (by omega)).s_j2  r1 r2 w ro B hF x0 true t468 t469 t483 t484 h).out) KD
               · rw [if_neg c19] at h
                 obtain ⟨t490, q21, h⟩ := Option.bind_eq_some_iff.1 h
                 have q21c := spec_l5Two.ctr k _ _ _ _ q21
                 have hb21 := bt_range x0 0
                 refine path_ok (k := 19) hF (RetQ_mild _ _ _ _ _ _ _ _) (ds := [.b false, .e 28 (.rf [.v (.string (rdOf ByteArray.empty x1 0))]), .r [.ro (.ag [.v (.int .i64 t468), .sl 2 (r79 t469)]), .ro (.v (.bool t472))] [], .b false, .e 37 (.v (.int .i64 (x1.length : Int))), .b false, .e 61 (.rf [.v (.string (rdOf ByteArray.empty x1 1))]), .r [.ro (.ag [.v (.int .i64 t483), .sl 2 (r79 t484)]), .ro (.v (.bool t487))] [], .b false, .b false, .b false, .r [.ro (.v (.int .i64 t489))] [], .b false, .b false, .b false, .b false, .b false, .b false, .r [.ro (.v (.int .i64 t490))] [], .b false, .b false]) (os := []) (c := none) rfl KD ?_
                 exact WS.can [(1008, some 8), (1011, some 11)] (((ih.out k (by omega)).s_j2  r1 r2 w ro B hF x0 (decide (t490 < 0)) t468 t469 t483 t484 h).out) KD
             · rw [if_neg c17] at h
               cases h
           · rw [if_neg c16] at h
             refine path_ok (k := 19) hF (RetQ_mild _ _ _ _ _ _ _ _) (ds := [.b false, .e 28 (.rf [.v (.string (rdOf ByteArray.empty x1 0))]), .r [.ro (.ag [.v (.int .i64 t468), .sl 2 (r79 t469)]), .ro (.v (.bool t472))] [], .b false, .e 37 (.v (.int .i64 (x1.length : Int))), .b false, .e 61 (.rf [.v (.string (rdOf ByteArray.empty x1 1))]), .r [.ro (.ag [.v (.int .i64 t483), .sl 2 (r79 t484)]), .ro (.v (.bool t487))] [], .b true, .b true, .b true, .b true, .b true, .b true, .b true, .b true, .b true, .b true, .b true]) (os := []) (c := none) rfl KD ?_
             exact WS.can [(1008, some 8), (1011, some 11)] (((ih.out k (by omega)).s_j2  r1 r2 w ro B hF x0 true t468 t469 t483 t484 h).out) KD
         · rw [if_neg c14] at h
           cases h
     · rw [if_neg c6] at h
       refine path_ok (k := 11) hF (RetQ_mild _ _ _ _ _ _ _ _) (ds := [.b false, .e 28 (.rf [.v (.string (rdOf ByteArray.empty x1 0))]), .r [.ro (.ag [.v (.int .i64 t468), .sl 2 (r79 t469)]), .ro (.v (.bool t472))] [], .b true]) (os := []) (c := none) rfl KD ?_
       cases h
       exact ret_as (ms := [.ro, .ro]) rfl KD
   · rw [if_neg c4] at h
     cases h
set_option maxRecDepth 100000 in
set_option maxHeartbeats 4000000 in
theorem spec_ApplySign.c_j1 (k : Nat) (ih : Kp (∀ m, m < k → spec_ApplySign.C m)) (r1 : ByteArray) (r2 : Bool) (w : World) (ro : Nat → Prop) (B : Nat) (hF : Fr TE (cx0 Tryz.f20 none w ro B)) (x0 : ByteArray) (x10 : Int) (x50 : Bool) (x474000 : Int) (x474001 : List (S79)) (h : spec_ApplySign.j1 k x0 x10 x50 x474000 x474001 = some (r1, r2)) : Kp (WS TE (cx0 Tryz.f20 none w ro B) (stkAt [1, 1, 1, 1, 0, 1, 0, 1, 0, 0, 9] [] (bodyOf Tryz.f20) []) ⟨[(0, .v (.string x0)), (8, .pt 1008 0 0), (10, .v (.int .i64 x10)), (50, .v (.bool x50))], [(1008, .box 0 79 false [.v (.int .i64 x474000), .sl 2 (r79 x474001)])]⟩ (RetQ TE Tryz.f20 none [.ro (.v (.string r1)), .ro (.v (.bool r2))] [] w ro B)) := by
 refine ⟨?_⟩
 cases k with
 | zero => simp [spec_ApplySign.j1] at h
 | succ k =>
 simp only [spec_ApplySign.j1] at h
 by_cases c23 : x50 = true
 · rw [if_pos c23] at h
   refine path_ok (k := 4) hF (RetQ_mild _ _ _ _ _ _ _ _) (ds := [.b true]) (os := []) (c := none) rfl KD ?_
   cases h
   exact ret_as (ms := [.ro, .ro]) rfl KD
 · rw [if_neg c23] at h
   by_cases c24 : 0 < (x0.size : Int)
   · rw [if_pos c24] at h
     obtain ⟨⟨t476, t477⟩, q25, h⟩ := Option.bind_eq_some_iff.1 h
     dsimp only at h
     have q25c := spec_l6One.ctr k _ _ _ _ _ q25
     obtain ⟨⟨t480, t481⟩, q26, h⟩ := Option.bind_eq_some_iff.1 h
     dsimp only at h
     have q26c := spec_l1Told.ctr k _ _ _ _ _ q26
     have hb26 := bt_range x0 0
     refine path_ok (k := 5) hF (RetQ_mild _ _ _ _ _ _ _ _) (ds := [.b false, .r [.ro (.ag [.v (.int .i64 t476), .sl 2 (r79 t477)])] [], .r [.ro (.v (.string t480)), .ro (.v (.bool t481))] []]) (os := [.o [(0, 0), (1, 0), (2, 1), (4, 0), (3, 2), (5, 2), (6, 0), (7, 0), (8, 0), (9, 0)] []]) (c := none) rfl KD ?_
     cases h
     exact ret_as (ms := [.ro, .ro]) rfl KD
   · rw [if_neg c24] at h
     cases h
set_option maxRecDepth 100000 in
set_option maxHeartbeats 4000000 in
theorem spec_ApplySign.c_j2 (k : Nat) (ih : Kp (∀ m, m < k → spec_ApplySign.C m)) (r1 : ByteArray) (r2 : Bool) (w : World) (ro : Nat → Prop) (B : Nat) (hF : Fr TE (cx0 Tryz.f20 none w ro B)) (x0 : ByteArray) (x80 : Bool) (x474000 : Int) (x474001 : List (S79)) (x489000 : Int) (x489001 : List (S79)) (h : spec_ApplySign.j2 k x0 x80 x474000 x474001 x489000 x489001 = some (r1, r2)) : Kp (WS TE (cx0 Tryz.f20 none w ro B) (stkAt [1, 1, 1, 1, 1, 1, 0, 0, 9] [] (bodyOf Tryz.f20) []) ⟨[(0, .v (.string x0)), (8, .pt 1008 0 0), (11, .pt 1011 0 0), (80, .v (.bool x80))], [(1008, .box 0 79 false [.v (.int .i64 x474000), .sl 2 (r79 x474001)]), (1011, .box 0 79 false [.v (.int .i64 x489000), .sl 2 (r79 x489001)])]⟩ (RetQ TE Tryz.f20 none [.ro (.v (.string r1)), .ro (.v (.bool r2))] [] w ro B)) := by
 refine ⟨?_⟩
 cases k with
 | zero => simp [spec_ApplySign.j2] at h
 | succ k =>
 simp only [spec_ApplySign.j2] at h
 by_cases c28 : x80 = true
 · rw [if_pos c28] at h
   refine path_ok (k := 4) hF (RetQ_mild _ _ _ _ _ _ _ _) (ds := [.b true]) (os := []) (c := none) rfl KD ?_
   cases h
   exact ret_as (ms := [.ro, .ro]) rfl KD
 · rw [if_neg c28] at h
   by_cases c29 : 0 < (x0.size : Int)
   · rw [if_pos c29] at h
     obtain ⟨⟨t491, t492⟩, q30, h⟩ := Option.bind_eq_some_iff.1 h
     dsimp only at h
     have q30c := spec_l6Two.ctr _ _ _ _ _ _ _ q30
     obtain ⟨⟨t495, t496⟩, q31, h⟩ := Option.bind_eq_some_iff.1 h
     dsimp only at h
     have q31c := spec_l1Told.ctr k _ _ _ _ _ q31
     have hb31 := bt_range x0 0
     refine path_ok (k := 5) hF (RetQ_mild _ _ _ _ _ _ _ _) (ds := [.b false, .r [.ro (.ag [.v (.int .i64 t491), .sl 2 (r79 t492)])] [], .r [.ro (.v (.string t495)), .ro (.v (.bool t496))] []]) (os := [.o [(0, 0), (1, 0), (2, 1), (3, 1), (4, 2), (5, 2), (6, 0), (7, 0), (8, 0), (9, 0)] []]) (c := none) rfl KD ?_
     cases h
     exact ret_as (ms := [.ro, .ro]) rfl KD
   · rw [if_neg c29] at h
     cases h
theorem spec_ApplySign.cs (k : Nat) : spec_ApplySign.C k := by
 induction k using Nat.strongRecOn with
 | _ k ih0 =>
 have ih : Kp (∀ m, m < k → spec_ApplySign.C m) := ⟨ih0⟩
 exact ⟨spec_ApplySign.c_j0 k ih, spec_ApplySign.c_j1 k ih, spec_ApplySign.c_j2 k ih⟩
set_option maxRecDepth 100000 in
set_option maxHeartbeats 4000000 in
theorem spec_ApplySign.ctr (k : Nat) (a0 : ByteArray) (l1 : List ByteArray) (a2 : Int) (r1 : ByteArray) (r2 : Bool) (h : spec_ApplySign.f k a0 l1 a2 = some (r1, r2)) : Ctr TE 20 none [.v (.string a0), .sl 1 (rX cS l1), .v (.int .i64 a2)] [.ro (.v (.string r1)), .ro (.v (.bool r2))] [] := by
 refine ctr_of (fn := Tryz.f20) (c := (bodyOf Tryz.f20)) Tryz.func20 rfl (by kernel_rfl) (Nat.le_of_ble_eq_true (by kernel_rfl)) (fun w ro B hF _ => ?_)
 have ih : Kp (∀ m, m < k + 1 → spec_ApplySign.C m) := ⟨fun m _ => spec_ApplySign.cs m⟩
 simp only [spec_ApplySign.f] at h
 by_cases c1 : (a0.size : Int) = 1
 · rw [if_pos c1] at h
   by_cases c2 : (l1.length : Int) < 1
   · rw [if_pos c2] at h
     refine path_ok (k := 5) hF (RetQ_mild _ _ _ _ _ _ _ _) (ds := [.b false, .b false, .e 18 (.v (.int .i64 (l1.length : Int))), .b false, .b false, .b true, .b true, .b true, .b true]) (os := []) (c := none) rfl KD ?_
     exact WS.can [] (((ih.out k (by omega)).s_j0  r1 r2 w ro B hF a0 l1 a2 true h).out) KD
   · rw [if_neg c2] at h
     refine path_ok (k := 5) hF (RetQ_mild _ _ _ _ _ _ _ _) (ds := [.b false, .b false, .e 18 (.v (.int .i64 (l1.length : Int))), .b false, .b false, .b false, .b false, .e 23 (.v (.int .i64 (l1.length : Int))), .b false, .b false]) (os := []) (c := none) rfl KD ?_
     exact WS.can [] (((ih.out k (by omega)).s_j0  r1 r2 w ro B hF a0 l1 a2 (decide ((l1.length : Int) > 2)) h).out) KD
 · rw [if_neg c1] at h
   refine path_ok (k := 5) hF (RetQ_mild _ _ _ _ _ _ _ _) (ds := [.b true, .b true, .b true, .b true, .b true, .b true, .b true, .b true]) (os := []) (c := none) rfl KD ?_
   exact WS.can [] (((ih.out k (by omega)).s_j0  r1 r2 w ro B hF a0 l1 a2 true h).out) KD
end Go.Proofs.YtoloblgjlnhioaaGreatDoor.I
