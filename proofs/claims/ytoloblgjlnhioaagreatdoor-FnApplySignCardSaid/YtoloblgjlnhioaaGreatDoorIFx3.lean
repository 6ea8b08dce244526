/- A part of the claim. -/
import Derived.Test.YtoloblgjlnhioaaGreatDoorIFx0
import Derived.Test.YtoloblgjlnhioaaGreatDoorIFSgs
-- PRINTED by print.py (a twelfth state) out of the translation. Not trusted: Lean checks it.
namespace Go.Proofs.YtoloblgjlnhioaaGreatDoor.I
open Go.RowKit Go.Proofs.YtoloblgjlnhioaaGreatDoorW.St Go.Proofs.YtoloblgjlnhioaaGreatDoorW.PrintWords Go.Proofs.YtoloblgjlnhioaaGreatDoorW.PrintLast Go.Proofs.YtoloblgjlnhioaaGreatDoorW.PrintMore
attribute [local go_sem] max2_int min2_int max_two min_two max_three min_three max_four min_four   -- for this text's walks alone
set_option linter.unusedVariables false
set_option linter.unusedSimpArgs false
mutual
def impl_signDepth.j0 : Nat → ByteArray → List Int → Bool → Bool → Option (Int)
  | 0, _, _, _, _ => none
  | k + 1, x0, x1, x5, x9 => if x9 = true then (some (-1)) else (if x5 = true then ((strings_Contains.f (⟨#[43, 42, 94, 45, 61, 60]⟩ : ByteArray) x0).bind fun t215 => (if t215 = true then (if 0 < (x1.length : Int) then (impl_signDepth.j1 k x0 x1 x5 ((rd x1 0) == 0)) else (none)) else (impl_signDepth.j1 k x0 x1 x5 false))) else (impl_signDepth.j1 k x0 x1 x5 false))
def impl_signDepth.j1 : Nat → ByteArray → List Int → Bool → Bool → Option (Int)
  | 0, _, _, _, _ => none
  | k + 1, x0, x1, x5, x33 => if x33 = true then (impl_signDepth.j2 k x0 x1 x5 x33) else (if x5 = true then (if x0.toList = ([64] : List UInt8) then (if 0 < (x1.length : Int) then (impl_signDepth.j2 k x0 x1 x5 ((rd x1 0) == 1)) else (none)) else (impl_signDepth.j2 k x0 x1 x5 false)) else (impl_signDepth.j2 k x0 x1 x5 false))
def impl_signDepth.j2 : Nat → ByteArray → List Int → Bool → Bool → Option (Int)
  | 0, _, _, _, _ => none
  | k + 1, x0, x1, x5, x33 => if x33 = true then (some 0) else (if x5 = true then (some (-1)) else (if x0.toList = ([83] : List UInt8) then (if 0 < (x1.length : Int) then (impl_signDepth.j3 k x0 x1 ((rd x1 0) == 1)) else (none)) else (if x0.toList = ([77] : List UInt8) then (if 0 < (x1.length : Int) then (impl_signDepth.j3 k x0 x1 ((rd x1 0) == 1)) else (none)) else (impl_signDepth.j3 k x0 x1 false))))
def impl_signDepth.j3 : Nat → ByteArray → List Int → Bool → Option (Int)
  | 0, _, _, _ => none
  | k + 1, x0, x1, x58 => if x58 = true then (impl_signDepth.j4 k x0 x1 x58) else (if x0.toList = ([78] : List UInt8) then (if 0 < (x1.length : Int) then (impl_signDepth.j4 k x0 x1 (decide ((rd x1 0) ≥ 1))) else (none)) else (impl_signDepth.j4 k x0 x1 false))
def impl_signDepth.j4 : Nat → ByteArray → List Int → Bool → Option (Int)
  | 0, _, _, _ => none
  | k + 1, x0, x1, x58 => if x58 = true then (some 0) else (if x0.toList = ([73] : List UInt8) then (if 0 < (x1.length : Int) then (impl_signDepth.j5 k x0 x1 ((rd x1 0) == 0)) else (none)) else (impl_signDepth.j5 k x0 x1 false))
def impl_signDepth.j5 : Nat → ByteArray → List Int → Bool → Option (Int)
  | 0, _, _, _ => none
  | k + 1, x0, x1, x79 => if x79 = true then (impl_signDepth.j6 k x0 x1 x79) else (if x0.toList = ([80] : List UInt8) then (if 0 < (x1.length : Int) then (impl_signDepth.j6 k x0 x1 ((rd x1 0) == 1)) else (none)) else (impl_signDepth.j6 k x0 x1 false))
def impl_signDepth.j6 : Nat → ByteArray → List Int → Bool → Option (Int)
  | 0, _, _, _ => none
  | k + 1, x0, x1, x79 => if x79 = true then (some 1) else (if x0.toList = ([82] : List UInt8) then (if 0 < (x1.length : Int) then (impl_signDepth.j7 k x0 x1 (decide ((rd x1 0) ≥ 1))) else (none)) else (impl_signDepth.j7 k x0 x1 false))
def impl_signDepth.j7 : Nat → ByteArray → List Int → Bool → Option (Int)
  | 0, _, _, _ => none
  | k + 1, x0, x1, x96 => if x96 = true then (if 0 < (x1.length : Int) then (some (rd x1 0)) else (none)) else (if x0.toList = ([67] : List UInt8) then (if 0 < (x1.length : Int) then (if (rd x1 0) ≥ 2 then (some (wrap64 ((rd x1 0) - 1))) else (some (-1))) else (none)) else (some (-1)))
end
def impl_signDepth.f (k : Nat) (a0 : ByteArray) (l1 : List Int) : Option (Int) := if (l1.length : Int) = 0 then (impl_signDepth.j0 k a0 l1 ((l1.length : Int) == 2) true) else (if (l1.length : Int) > 2 then (impl_signDepth.j0 k a0 l1 ((l1.length : Int) == 2) true) else (if 0 < (l1.length : Int) then (if (rd l1 0) < 0 then (impl_signDepth.j0 k a0 l1 ((l1.length : Int) == 2) true) else (if (l1.length : Int) = 2 then (if 1 < (l1.length : Int) then (impl_signDepth.j0 k a0 l1 ((l1.length : Int) == 2) ((rd l1 1) != 0)) else (none)) else (impl_signDepth.j0 k a0 l1 ((l1.length : Int) == 2) false))) else (none)))
theorem impl_signDepth.mono_l : ∀ k, (∀ y0 y1 y2 y3, LeO (impl_signDepth.j0 k y0 y1 y2 y3) (impl_signDepth.j0 (k + 1) y0 y1 y2 y3)) ∧ (∀ y0 y1 y2 y3, LeO (impl_signDepth.j1 k y0 y1 y2 y3) (impl_signDepth.j1 (k + 1) y0 y1 y2 y3)) ∧ (∀ y0 y1 y2 y3, LeO (impl_signDepth.j2 k y0 y1 y2 y3) (impl_signDepth.j2 (k + 1) y0 y1 y2 y3)) ∧ (∀ y0 y1 y2, LeO (impl_signDepth.j3 k y0 y1 y2) (impl_signDepth.j3 (k + 1) y0 y1 y2)) ∧ (∀ y0 y1 y2, LeO (impl_signDepth.j4 k y0 y1 y2) (impl_signDepth.j4 (k + 1) y0 y1 y2)) ∧ (∀ y0 y1 y2, LeO (impl_signDepth.j5 k y0 y1 y2) (impl_signDepth.j5 (k + 1) y0 y1 y2)) ∧ (∀ y0 y1 y2, LeO (impl_signDepth.j6 k y0 y1 y2) (impl_signDepth.j6 (k + 1) y0 y1 y2)) ∧ (∀ y0 y1 y2, LeO (impl_signDepth.j7 k y0 y1 y2) (impl_signDepth.j7 (k + 1) y0 y1 y2))
  | 0 => ⟨fun _ _ _ _ r h => by simp [impl_signDepth.j0] at h, fun _ _ _ _ r h => by simp [impl_signDepth.j1] at h, fun _ _ _ _ r h => by simp [impl_signDepth.j2] at h, fun _ _ _ r h => by simp [impl_signDepth.j3] at h, fun _ _ _ r h => by simp [impl_signDepth.j4] at h, fun _ _ _ r h => by simp [impl_signDepth.j5] at h, fun _ _ _ r h => by simp [impl_signDepth.j6] at h, fun _ _ _ r h => by simp [impl_signDepth.j7] at h⟩
  | k + 1 => by
    obtain ⟨ih0, ih1, ih2, ih3, ih4, ih5, ih6, ih7⟩ := impl_signDepth.mono_l k
    refine ⟨?_, ?_, ?_, ?_, ?_, ?_, ?_, ?_⟩
    · intro y0 y1 y2 y3
      unfold impl_signDepth.j0
      repeat' first
      | (with_reducible exact ih0 _ _ _ _)
      | (with_reducible exact ih1 _ _ _ _)
      | (with_reducible exact ih2 _ _ _ _)
      | (with_reducible exact ih3 _ _ _)
      | (with_reducible exact ih4 _ _ _)
      | (with_reducible exact ih5 _ _ _)
      | (with_reducible exact ih6 _ _ _)
      | (with_reducible exact ih7 _ _ _)
      | (with_reducible exact LeO.refl _)
      | (with_reducible exact LeO.none _)
      | (with_reducible refine LeO.ite ?_ ?_)
      | (with_reducible refine LeO.bind ?_ (fun _ => ?_))
      | exact ih0 _ _ _ _
      | exact ih1 _ _ _ _
      | exact ih2 _ _ _ _
      | exact ih3 _ _ _
      | exact ih4 _ _ _
      | exact ih5 _ _ _
      | exact ih6 _ _ _
      | exact ih7 _ _ _
      | exact LeO.none _
      | refine LeO.ite ?_ ?_
      | refine LeO.bind ?_ (fun _ => ?_)
    · intro y0 y1 y2 y3
      unfold impl_signDepth.j1
      repeat' first
      | (with_reducible exact ih0 _ _ _ _)
      | (with_reducible exact ih1 _ _ _ _)
      | (with_reducible exact ih2 _ _ _ _)
      | (with_reducible exact ih3 _ _ _)
      | (with_reducible exact ih4 _ _ _)
      | (with_reducible exact ih5 _ _ _)
      | (with_reducible exact ih6 _ _ _)
      | (with_reducible exact ih7 _ _ _)
      | (with_reducible exact LeO.refl _)
      | (with_reducible exact LeO.none _)
      | (with_reducible refine LeO.ite ?_ ?_)
      | (with_reducible refine LeO.bind ?_ (fun _ => ?_))
      | exact ih0 _ _ _ _
      | exact ih1 _ _ _ _
      | exact ih2 _ _ _ _
      | exact ih3 _ _ _
      | exact ih4 _ _ _
      | exact ih5 _ _ _
      | exact ih6 _ _ _
      | exact ih7 _ _ _
      | exact LeO.none _
      | refine LeO.ite ?_ ?_
      | refine LeO.bind ?_ (fun _ => ?_)
    · intro y0 y1 y2 y3
      unfold impl_signDepth.j2
      repeat' first
      | (with_reducible exact ih0 _ _ _ _)
      | (with_reducible exact ih1 _ _ _ _)
      | (with_reducible exact ih2 _ _ _ _)
      | (with_reducible exact ih3 _ _ _)
      | (with_reducible exact ih4 _ _ _)
      | (with_reducible exact ih5 _ _ _)
      | (with_reducible exact ih6 _ _ _)
      | (with_reducible exact ih7 _ _ _)
      | (with_reducible exact LeO.refl _)
      | (with_reducible exact LeO.none _)
      | (with_reducible refine LeO.ite ?_ ?_)
      | (with_reducible refine LeO.bind ?_ (fun _ => ?_))
      | exact ih0 _ _ _ _
      | exact ih1 _ _ _ _
      | exact ih2 _ _ _ _
      | exact ih3 _ _ _
      | exact ih4 _ _ _
      | exact ih5 _ _ _
      | exact ih6 _ _ _
      | exact ih7 _ _ _
      | exact LeO.none _
      | refine LeO.ite ?_ ?_
      | refine LeO.bind ?_ (fun _ => ?_)
    · intro y0 y1 y2
      unfold impl_signDepth.j3
      repeat' first
      | (with_reducible exact ih0 _ _ _ _)
      | (with_reducible exact ih1 _ _ _ _)
      | (with_reducible exact ih2 _ _ _ _)
      | (with_reducible exact ih3 _ _ _)
      | (with_reducible exact ih4 _ _ _)
      | (with_reducible exact ih5 _ _ _)
      | (with_reducible exact ih6 _ _ _)
      | (with_reducible exact ih7 _ _ _)
      | (with_reducible exact LeO.refl _)
      | (with_reducible exact LeO.none _)
      | (with_reducible refine LeO.ite ?_ ?_)
      | (with_reducible refine LeO.bind ?_ (fun _ => ?_))
      | exact ih0 _ _ _ _
      | exact ih1 _ _ _ _
      | exact ih2 _ _ _ _
      | exact ih3 _ _ _
      | exact ih4 _ _ _
      | exact ih5 _ _ _
      | exact ih6 _ _ _
      | exact ih7 _ _ _
      | exact LeO.none _
      | refine LeO.ite ?_ ?_
      | refine LeO.bind ?_ (fun _ => ?_)
    · intro y0 y1 y2
      unfold impl_signDepth.j4
      repeat' first
      | (with_reducible exact ih0 _ _ _ _)
      | (with_reducible exact ih1 _ _ _ _)
      | (with_reducible exact ih2 _ _ _ _)
      | (with_reducible exact ih3 _ _ _)
      | (with_reducible exact ih4 _ _ _)
      | (with_reducible exact ih5 _ _ _)
      | (with_reducible exact ih6 _ _ _)
      | (with_reducible exact ih7 _ _ _)
      | (with_reducible exact LeO.refl _)
      | (with_reducible exact LeO.none _)
      | (with_reducible refine LeO.ite ?_ ?_)
      | (with_reducible refine LeO.bind ?_ (fun _ => ?_))
      | exact ih0 _ _ _ _
      | exact ih1 _ _ _ _
      | exact ih2 _ _ _ _
      | exact ih3 _ _ _
      | exact ih4 _ _ _
      | exact ih5 _ _ _
      | exact ih6 _ _ _
      | exact ih7 _ _ _
      | exact LeO.none _
      | refine LeO.ite ?_ ?_
      | refine LeO.bind ?_ (fun _ => ?_)
    · intro y0 y1 y2
      unfold impl_signDepth.j5
      repeat' first
      | (with_reducible exact ih0 _ _ _ _)
      | (with_reducible exact ih1 _ _ _ _)
      | (with_reducible exact ih2 _ _ _ _)
      | (with_reducible exact ih3 _ _ _)
      | (with_reducible exact ih4 _ _ _)
      | (with_reducible exact ih5 _ _ _)
      | (with_reducible exact ih6 _ _ _)
      | (with_reducible exact ih7 _ _ _)
      | (with_reducible exact LeO.refl _)
      | (with_reducible exact LeO.none _)
      | (with_reducible refine LeO.ite ?_ ?_)
      | (with_reducible refine LeO.bind ?_ (fun _ => ?_))
      | exact ih0 _ _ _ _
      | exact ih1 _ _ _ _
      | exact ih2 _ _ _ _
      | exact ih3 _ _ _
      | exact ih4 _ _ _
      | exact ih5 _ _ _
      | exact ih6 _ _ _
      | exact ih7 _ _ _
      | exact LeO.none _
      | refine LeO.ite ?_ ?_
      | refine LeO.bind ?_ (fun _ => ?_)
    · intro y0 y1 y2
      unfold impl_signDepth.j6
      repeat' first
      | (with_reducible exact ih0 _ _ _ _)
      | (with_reducible exact ih1 _ _ _ _)
      | (with_reducible exact ih2 _ _ _ _)
      | (with_reducible exact ih3 _ _ _)
      | (with_reducible exact ih4 _ _ _)
      | (with_reducible exact ih5 _ _ _)
      | (with_reducible exact ih6 _ _ _)
      | (with_reducible exact ih7 _ _ _)
      | (with_reducible exact LeO.refl _)
      | (with_reducible exact LeO.none _)
      | (with_reducible refine LeO.ite ?_ ?_)
      | (with_reducible refine LeO.bind ?_ (fun _ => ?_))
      | exact ih0 _ _ _ _
      | exact ih1 _ _ _ _
      | exact ih2 _ _ _ _
      | exact ih3 _ _ _
      | exact ih4 _ _ _
      | exact ih5 _ _ _
      | exact ih6 _ _ _
      | exact ih7 _ _ _
      | exact LeO.none _
      | refine LeO.ite ?_ ?_
      | refine LeO.bind ?_ (fun _ => ?_)
    · intro y0 y1 y2
      unfold impl_signDepth.j7
      repeat' first
      | (with_reducible exact ih0 _ _ _ _)
      | (with_reducible exact ih1 _ _ _ _)
      | (with_reducible exact ih2 _ _ _ _)
      | (with_reducible exact ih3 _ _ _)
      | (with_reducible exact ih4 _ _ _)
      | (with_reducible exact ih5 _ _ _)
      | (with_reducible exact ih6 _ _ _)
      | (with_reducible exact ih7 _ _ _)
      | (with_reducible exact LeO.refl _)
      | (with_reducible exact LeO.none _)
      | (with_reducible refine LeO.ite ?_ ?_)
      | (with_reducible refine LeO.bind ?_ (fun _ => ?_))
      | exact ih0 _ _ _ _
      | exact ih1 _ _ _ _
      | exact ih2 _ _ _ _
      | exact ih3 _ _ _
      | exact ih4 _ _ _
      | exact ih5 _ _ _
      | exact ih6 _ _ _
      | exact ih7 _ _ _
      | exact LeO.none _
      | refine LeO.ite ?_ ?_
      | refine LeO.bind ?_ (fun _ => ?_)
theorem impl_signDepth.mono : ∀ a0 a1 k, LeO (impl_signDepth.f k a0 a1) (impl_signDepth.f (k + 1) a0 a1) := by
  intro a0 a1 k
  obtain ⟨ih0, ih1, ih2, ih3, ih4, ih5, ih6, ih7⟩ := impl_signDepth.mono_l k
  unfold impl_signDepth.f
  repeat' first
      | (with_reducible exact ih0 _ _ _ _)
      | (with_reducible exact ih1 _ _ _ _)
      | (with_reducible exact ih2 _ _ _ _)
      | (with_reducible exact ih3 _ _ _)
      | (with_reducible exact ih4 _ _ _)
      | (with_reducible exact ih5 _ _ _)
      | (with_reducible exact ih6 _ _ _)
      | (with_reducible exact ih7 _ _ _)
      | (with_reducible exact LeO.refl _)
      | (with_reducible exact LeO.none _)
      | (with_reducible refine LeO.ite ?_ ?_)
      | (with_reducible refine LeO.bind ?_ (fun _ => ?_))
      | exact ih0 _ _ _ _
      | exact ih1 _ _ _ _
      | exact ih2 _ _ _ _
      | exact ih3 _ _ _
      | exact ih4 _ _ _
      | exact ih5 _ _ _
      | exact ih6 _ _ _
      | exact ih7 _ _ _
      | exact LeO.none _
      | refine LeO.ite ?_ ?_
      | refine LeO.bind ?_ (fun _ => ?_)
structure impl_signDepth.C (k : Nat) : Prop where
 s_j0 : ∀ (r : Int) (w : World) (ro : Nat → Prop) (B : Nat) (_ : Fr TE (cx0 Tryz.f58 none w ro B)) (x0 : ByteArray) (x1 : List Int) (x5 : Bool) (x9 : Bool) (_ : impl_signDepth.j0 k x0 x1 x5 x9 = some r), Kp (WS TE (cx0 Tryz.f58 none w ro B) (stkAt [1, 1, 0, 0, 0, 9] [] (bodyOf Tryz.f58) []) ⟨[(0, .v (.string x0)), (1, .sl 1 (rX (cI .i64) x1)), (5, .v (.bool x5)), (9, .v (.bool x9))], []⟩ (RetQ TE Tryz.f58 none [.ro (.v (.int .i64 r))] [] w ro B))
 s_j1 : ∀ (r : Int) (w : World) (ro : Nat → Prop) (B : Nat) (_ : Fr TE (cx0 Tryz.f58 none w ro B)) (x0 : ByteArray) (x1 : List Int) (x5 : Bool) (x33 : Bool) (_ : impl_signDepth.j1 k x0 x1 x5 x33 = some r), Kp (WS TE (cx0 Tryz.f58 none w ro B) (stkAt [1, 1, 0, 0, 1, 1, 0, 0, 9] [] (bodyOf Tryz.f58) []) ⟨[(0, .v (.string x0)), (1, .sl 1 (rX (cI .i64) x1)), (5, .v (.bool x5)), (33, .v (.bool x33))], []⟩ (RetQ TE Tryz.f58 none [.ro (.v (.int .i64 r))] [] w ro B))
 s_j2 : ∀ (r : Int) (w : World) (ro : Nat → Prop) (B : Nat) (_ : Fr TE (cx0 Tryz.f58 none w ro B)) (x0 : ByteArray) (x1 : List Int) (x5 : Bool) (x33 : Bool) (_ : impl_signDepth.j2 k x0 x1 x5 x33 = some r), Kp (WS TE (cx0 Tryz.f58 none w ro B) (stkAt [1, 1, 0, 0, 1, 1, 0, 1, 9] [] (bodyOf Tryz.f58) []) ⟨[(0, .v (.string x0)), (1, .sl 1 (rX (cI .i64) x1)), (5, .v (.bool x5)), (33, .v (.bool x33))], []⟩ (RetQ TE Tryz.f58 none [.ro (.v (.int .i64 r))] [] w ro B))
 s_j3 : ∀ (r : Int) (w : World) (ro : Nat → Prop) (B : Nat) (_ : Fr TE (cx0 Tryz.f58 none w ro B)) (x0 : ByteArray) (x1 : List Int) (x58 : Bool) (_ : impl_signDepth.j3 k x0 x1 x58 = some r), Kp (WS TE (cx0 Tryz.f58 none w ro B) (stkAt [1, 1, 0, 0, 1, 1, 1, 1, 1, 1, 0, 0, 9] [] (bodyOf Tryz.f58) []) ⟨[(0, .v (.string x0)), (1, .sl 1 (rX (cI .i64) x1)), (58, .v (.bool x58))], []⟩ (RetQ TE Tryz.f58 none [.ro (.v (.int .i64 r))] [] w ro B))
 s_j4 : ∀ (r : Int) (w : World) (ro : Nat → Prop) (B : Nat) (_ : Fr TE (cx0 Tryz.f58 none w ro B)) (x0 : ByteArray) (x1 : List Int) (x58 : Bool) (_ : impl_signDepth.j4 k x0 x1 x58 = some r), Kp (WS TE (cx0 Tryz.f58 none w ro B) (stkAt [1, 1, 0, 0, 1, 1, 1, 1, 1, 1, 0, 1, 9] [] (bodyOf Tryz.f58) []) ⟨[(0, .v (.string x0)), (1, .sl 1 (rX (cI .i64) x1)), (58, .v (.bool x58))], []⟩ (RetQ TE Tryz.f58 none [.ro (.v (.int .i64 r))] [] w ro B))
 s_j5 : ∀ (r : Int) (w : World) (ro : Nat → Prop) (B : Nat) (_ : Fr TE (cx0 Tryz.f58 none w ro B)) (x0 : ByteArray) (x1 : List Int) (x79 : Bool) (_ : impl_signDepth.j5 k x0 x1 x79 = some r), Kp (WS TE (cx0 Tryz.f58 none w ro B) (stkAt [1, 1, 0, 0, 1, 1, 1, 1, 1, 1, 1, 1, 0, 0, 9] [] (bodyOf Tryz.f58) []) ⟨[(0, .v (.string x0)), (1, .sl 1 (rX (cI .i64) x1)), (79, .v (.bool x79))], []⟩ (RetQ TE Tryz.f58 none [.ro (.v (.int .i64 r))] [] w ro B))
 s_j6 : ∀ (r : Int) (w : World) (ro : Nat → Prop) (B : Nat) (_ : Fr TE (cx0 Tryz.f58 none w ro B)) (x0 : ByteArray) (x1 : List Int) (x79 : Bool) (_ : impl_signDepth.j6 k x0 x1 x79 = some r), Kp (WS TE (cx0 Tryz.f58 none w ro B) (stkAt [1, 1, 0, 0, 1, 1, 1, 1, 1, 1, 1, 1, 0, 1, 9] [] (bodyOf Tryz.f58) []) ⟨[(0, .v (.string x0)), (1, .sl 1 (rX (cI .i64) x1)), (79, .v (.bool x79))], []⟩ (RetQ TE Tryz.f58 none [.ro (.v (.int .i64 r))] [] w ro B))
 s_j7 : ∀ (r : Int) (w : World) (ro : Nat → Prop) (B : Nat) (_ : Fr TE (cx0 Tryz.f58 none w ro B)) (x0 : ByteArray) (x1 : List Int) (x96 : Bool) (_ : impl_signDepth.j7 k x0 x1 x96 = some r), Kp (WS TE (cx0 Tryz.f58 none w ro B) (stkAt [1, 1, 0, 0, 1, 1, 1, 1, 1, 1, 1, 1, 1, 1, 0, 9] [] (bodyOf Tryz.f58) []) ⟨[(0, .v (.string x0)), (1, .sl 1 (rX (cI .i64) x1)), (96, .v (.bool x96))], []⟩ (RetQ TE Tryz.f58 none [.ro (.v (.int .i64 r))] [] w ro B))
set_option maxRecDepth 100000 in
set_option maxHeartbeats 4000000 in
theorem impl_signDepth.c_j0 (k : Nat) (ih : Kp (∀ m, m < k → impl_signDepth.C m)) (r : Int) (w : World) (ro : Nat → Prop) (B : Nat) (hF : Fr TE (cx0 Tryz.f58 none w ro B)) (x0 : ByteArray) (x1 : List Int) (x5 : Bool) (x9 : Bool) (h : impl_signDepth.j0 k x0 x1 x5 x9 = some r) : Kp (WS TE (cx0 Tryz.f58 none w ro B) (stkAt [1, 1, 0, 0, 0, 9] [] (bodyOf Tryz.f58) []) ⟨[(0, .v (.string x0)), (1, .sl 1 (rX (cI .i64) x1)), (5, .v (.bool x5)), (9, .v (.bool x9))], []⟩ (RetQ TE Tryz.f58 none [.ro (.v (.int .i64 r))] [] w ro B)) := by
 refine ⟨?_⟩
 cases k with
 | zero => simp [impl_signDepth.j0] at h
 | succ k =>
 simp only [impl_signDepth.j0] at h
 by_cases c7 : x9 = true
 · rw [if_pos c7] at h
   refine path_ok (k := 4) hF (RetQ_mild _ _ _ _ _ _ _ _) (ds := [.b true]) (os := []) (c := none) rfl KD ?_
   cases h
   exact ret_as (ms := [.ro]) rfl KD
 · rw [if_neg c7] at h
   by_cases c8 : x5 = true
   · rw [if_pos c8] at h
     obtain ⟨t215, q9, h⟩ := Option.bind_eq_some_iff.1 h
     have q9c := strings_Contains.ctr _ _ _ q9
     by_cases c10 : t215 = true
     · rw [if_pos c10] at h
       by_cases c11 : 0 < (x1.length : Int)
       · rw [if_pos c11] at h
         refine path_ok (k := 4) hF (RetQ_mild _ _ _ _ _ _ _ _) (ds := [.b false, .b true, .b true, .r [.ro (.v (.bool t215))] [], .b true, .b true, .b true, .e 41 (.rf [.v (.int .i64 (rd x1 0))]), .b true, .b true, .b true]) (os := []) (c := none) rfl KD ?_
         exact WS.can [] (((ih.out k (by omega)).s_j1  r w ro B hF x0 x1 x5 ((rd x1 0) == 0) h).out) KD
       · rw [if_neg c11] at h
         cases h
     · rw [if_neg c10] at h
       refine path_ok (k := 4) hF (RetQ_mild _ _ _ _ _ _ _ _) (ds := [.b false, .b true, .b true, .r [.ro (.v (.bool t215))] [], .b true, .b false, .b false, .b false, .b false, .b false]) (os := []) (c := none) rfl KD ?_
       exact WS.can [] (((ih.out k (by omega)).s_j1  r w ro B hF x0 x1 x5 false h).out) KD
   · rw [if_neg c8] at h
     refine path_ok (k := 4) hF (RetQ_mild _ _ _ _ _ _ _ _) (ds := [.b false, .b false, .b false, .b false, .b false, .b false, .b false, .b false, .b false]) (os := []) (c := none) rfl KD ?_
     exact WS.can [] (((ih.out k (by omega)).s_j1  r w ro B hF x0 x1 x5 false h).out) KD
set_option maxRecDepth 100000 in
set_option maxHeartbeats 4000000 in
theorem impl_signDepth.c_j1 (k : Nat) (ih : Kp (∀ m, m < k → impl_signDepth.C m)) (r : Int) (w : World) (ro : Nat → Prop) (B : Nat) (hF : Fr TE (cx0 Tryz.f58 none w ro B)) (x0 : ByteArray) (x1 : List Int) (x5 : Bool) (x33 : Bool) (h : impl_signDepth.j1 k x0 x1 x5 x33 = some r) : Kp (WS TE (cx0 Tryz.f58 none w ro B) (stkAt [1, 1, 0, 0, 1, 1, 0, 0, 9] [] (bodyOf Tryz.f58) []) ⟨[(0, .v (.string x0)), (1, .sl 1 (rX (cI .i64) x1)), (5, .v (.bool x5)), (33, .v (.bool x33))], []⟩ (RetQ TE Tryz.f58 none [.ro (.v (.int .i64 r))] [] w ro B)) := by
 refine ⟨?_⟩
 cases k with
 | zero => simp [impl_signDepth.j1] at h
 | succ k =>
 simp only [impl_signDepth.j1] at h
 by_cases c12 : x33 = true
 · rw [if_pos c12] at h
   refine path_ok (k := 2) hF (RetQ_mild _ _ _ _ _ _ _ _) (ds := [.b true]) (os := []) (c := none) rfl KD ?_
   exact WS.can [] (((ih.out k (by omega)).s_j2  r w ro B hF x0 x1 x5 x33 h).out) KD
 · rw [if_neg c12] at h
   by_cases c13 : x5 = true
   · rw [if_pos c13] at h
     by_cases c14 : x0.toList = ([64] : List UInt8)
     · rw [if_pos c14] at h
       by_cases c15 : 0 < (x1.length : Int)
       · rw [if_pos c15] at h
         refine path_ok (k := 2) hF (RetQ_mild _ _ _ _ _ _ _ _) (ds := [.b false, .b true, .b true, .b true, .b true, .b true, .e 52 (.rf [.v (.int .i64 (rd x1 0))]), .b true, .b true, .b true]) (os := []) (c := none) rfl KD ?_
         exact WS.can [] (((ih.out k (by omega)).s_j2  r w ro B hF x0 x1 x5 ((rd x1 0) == 1) h).out) KD
       · rw [if_neg c15] at h
         cases h
     · rw [if_neg c14] at h
       refine path_ok (k := 2) hF (RetQ_mild _ _ _ _ _ _ _ _) (ds := [.b false, .b true, .b true, .b true, .b false, .b false, .b false, .b false, .b false]) (os := []) (c := none) rfl KD ?_
       exact WS.can [] (((ih.out k (by omega)).s_j2  r w ro B hF x0 x1 x5 false h).out) KD
   · rw [if_neg c13] at h
     refine path_ok (k := 2) hF (RetQ_mild _ _ _ _ _ _ _ _) (ds := [.b false, .b false, .b false, .b false, .b false, .b false, .b false, .b false, .b false]) (os := []) (c := none) rfl KD ?_
     exact WS.can [] (((ih.out k (by omega)).s_j2  r w ro B hF x0 x1 x5 false h).out) KD
set_option maxRecDepth 100000 in
set_option maxHeartbeats 4000000 in
theorem impl_signDepth.c_j2 (k : Nat) (ih : Kp (∀ m, m < k → impl_signDepth.C m)) (r : Int) (w : World) (ro : Nat → Prop) (B : Nat) (hF : Fr TE (cx0 Tryz.f58 none w ro B)) (x0 : ByteArray) (x1 : List Int) (x5 : Bool) (x33 : Bool) (h : impl_signDepth.j2 k x0 x1 x5 x33 = some r) : Kp (WS TE (cx0 Tryz.f58 none w ro B) (stkAt [1, 1, 0, 0, 1, 1, 0, 1, 9] [] (bodyOf Tryz.f58) []) ⟨[(0, .v (.string x0)), (1, .sl 1 (rX (cI .i64) x1)), (5, .v (.bool x5)), (33, .v (.bool x33))], []⟩ (RetQ TE Tryz.f58 none [.ro (.v (.int .i64 r))] [] w ro B)) := by
 refine ⟨?_⟩
 cases k with
 | zero => simp [impl_signDepth.j2] at h
 | succ k =>
 simp only [impl_signDepth.j2] at h
 by_cases c16 : x33 = true
 · rw [if_pos c16] at h
   refine path_ok (k := 4) hF (RetQ_mild _ _ _ _ _ _ _ _) (ds := [.b true]) (os := []) (c := none) rfl KD ?_
   cases h
   exact ret_as (ms := [.ro]) rfl KD
 · rw [if_neg c16] at h
   by_cases c17 : x5 = true
   · rw [if_pos c17] at h
     refine path_ok (k := 7) hF (RetQ_mild _ _ _ _ _ _ _ _) (ds := [.b false, .b true]) (os := []) (c := none) rfl KD ?_
     cases h
     exact ret_as (ms := [.ro]) rfl KD
   · rw [if_neg c17] at h
     by_cases c18 : x0.toList = ([83] : List UInt8)
     · rw [if_pos c18] at h
       by_cases c19 : 0 < (x1.length : Int)
       · rw [if_pos c19] at h
         refine path_ok (k := 7) hF (RetQ_mild _ _ _ _ _ _ _ _) (ds := [.b false, .b false, .b true, .b true, .b true, .b true, .b true, .e 67 (.rf [.v (.int .i64 (rd x1 0))]), .b true, .b true, .b true]) (os := []) (c := none) rfl KD ?_
         exact WS.can [] (((ih.out k (by omega)).s_j3  r w ro B hF x0 x1 ((rd x1 0) == 1) h).out) KD
       · rw [if_neg c19] at h
         cases h
     · rw [if_neg c18] at h
       by_cases c20 : x0.toList = ([77] : List UInt8)
       · rw [if_pos c20] at h
         by_cases c21 : 0 < (x1.length : Int)
         · rw [if_pos c21] at h
           refine path_ok (k := 7) hF (RetQ_mild _ _ _ _ _ _ _ _) (ds := [.b false, .b false, .b false, .b false, .b false, .b true, .b true, .e 67 (.rf [.v (.int .i64 (rd x1 0))]), .b true, .b true, .b true]) (os := []) (c := none) rfl KD ?_
           exact WS.can [] (((ih.out k (by omega)).s_j3  r w ro B hF x0 x1 ((rd x1 0) == 1) h).out) KD
         · rw [if_neg c21] at h
           cases h
       · rw [if_neg c20] at h
         refine path_ok (k := 7) hF (RetQ_mild _ _ _ _ _ _ _ _) (ds := [.b false, .b false, .b false, .b false, .b false, .b false, .b false, .b false, .b false, .b false]) (os := []) (c := none) rfl KD ?_
         exact WS.can [] (((ih.out k (by omega)).s_j3  r w ro B hF x0 x1 false h).out) KD
set_option maxRecDepth 100000 in
set_option maxHeartbeats 4000000 in
theorem impl_signDepth.c_j3 (k : Nat) (ih : Kp (∀ m, m < k → impl_signDepth.C m)) (r : Int) (w : World) (ro : Nat → Prop) (B : Nat) (hF : Fr TE (cx0 Tryz.f58 none w ro B)) (x0 : ByteArray) (x1 : List Int) (x58 : Bool) (h : impl_signDepth.j3 k x0 x1 x58 = some r) : Kp (WS TE (cx0 Tryz.f58 none w ro B) (stkAt [1, 1, 0, 0, 1, 1, 1, 1, 1, 1, 0, 0, 9] [] (bodyOf Tryz.f58) []) ⟨[(0, .v (.string x0)), (1, .sl 1 (rX (cI .i64) x1)), (58, .v (.bool x58))], []⟩ (RetQ TE Tryz.f58 none [.ro (.v (.int .i64 r))] [] w ro B)) := by
 refine ⟨?_⟩
 cases k with
 | zero => simp [impl_signDepth.j3] at h
 | succ k =>
 simp only [impl_signDepth.j3] at h
 by_cases c22 : x58 = true
 · rw [if_pos c22] at h
   refine path_ok (k := 2) hF (RetQ_mild _ _ _ _ _ _ _ _) (ds := [.b true]) (os := []) (c := none) rfl KD ?_
   exact WS.can [] (((ih.out k (by omega)).s_j4  r w ro B hF x0 x1 x58 h).out) KD
 · rw [if_neg c22] at h
   by_cases c23 : x0.toList = ([78] : List UInt8)
   · rw [if_pos c23] at h
     by_cases c24 : 0 < (x1.length : Int)
     · rw [if_pos c24] at h
       refine path_ok (k := 2) hF (RetQ_mild _ _ _ _ _ _ _ _) (ds := [.b false, .b true, .b true, .e 75 (.rf [.v (.int .i64 (rd x1 0))]), .b true, .b true, .b true]) (os := []) (c := none) rfl KD ?_
       exact WS.can [] (((ih.out k (by omega)).s_j4  r w ro B hF x0 x1 (decide ((rd x1 0) ≥ 1)) h).out) KD
     · rw [if_neg c24] at h
       cases h
   · rw [if_neg c23] at h
     refine path_ok (k := 2) hF (RetQ_mild _ _ _ _ _ _ _ _) (ds := [.b false, .b false, .b false, .b false, .b false, .b false]) (os := []) (c := none) rfl KD ?_
     exact WS.can [] (((ih.out k (by omega)).s_j4  r w ro B hF x0 x1 false h).out) KD
set_option maxRecDepth 100000 in
set_option maxHeartbeats 4000000 in
theorem impl_signDepth.c_j4 (k : Nat) (ih : Kp (∀ m, m < k → impl_signDepth.C m)) (r : Int) (w : World) (ro : Nat → Prop) (B : Nat) (hF : Fr TE (cx0 Tryz.f58 none w ro B)) (x0 : ByteArray) (x1 : List Int) (x58 : Bool) (h : impl_signDepth.j4 k x0 x1 x58 = some r) : Kp (WS TE (cx0 Tryz.f58 none w ro B) (stkAt [1, 1, 0, 0, 1, 1, 1, 1, 1, 1, 0, 1, 9] [] (bodyOf Tryz.f58) []) ⟨[(0, .v (.string x0)), (1, .sl 1 (rX (cI .i64) x1)), (58, .v (.bool x58))], []⟩ (RetQ TE Tryz.f58 none [.ro (.v (.int .i64 r))] [] w ro B)) := by
 refine ⟨?_⟩
 cases k with
 | zero => simp [impl_signDepth.j4] at h
 | succ k =>
 simp only [impl_signDepth.j4] at h
 by_cases c25 : x58 = true
 · rw [if_pos c25] at h
   refine path_ok (k := 4) hF (RetQ_mild _ _ _ _ _ _ _ _) (ds := [.b true]) (os := []) (c := none) rfl KD ?_
   cases h
   exact ret_as (ms := [.ro]) rfl KD
 · rw [if_neg c25] at h
   by_cases c26 : x0.toList = ([73] : List UInt8)
   · rw [if_pos c26] at h
     by_cases c27 : 0 < (x1.length : Int)
     · rw [if_pos c27] at h
       refine path_ok (k := 4) hF (RetQ_mild _ _ _ _ _ _ _ _) (ds := [.b false, .b true, .b true, .e 84 (.rf [.v (.int .i64 (rd x1 0))]), .b true, .b true, .b true]) (os := []) (c := none) rfl KD ?_
       exact WS.can [] (((ih.out k (by omega)).s_j5  r w ro B hF x0 x1 ((rd x1 0) == 0) h).out) KD
     · rw [if_neg c27] at h
       cases h
   · rw [if_neg c26] at h
     refine path_ok (k := 4) hF (RetQ_mild _ _ _ _ _ _ _ _) (ds := [.b false, .b false, .b false, .b false, .b false, .b false]) (os := []) (c := none) rfl KD ?_
     exact WS.can [] (((ih.out k (by omega)).s_j5  r w ro B hF x0 x1 false h).out) KD
set_option maxRecDepth 100000 in
set_option maxHeartbeats 4000000 in
theorem impl_signDepth.c_j5 (k : Nat) (ih : Kp (∀ m, m < k → impl_signDepth.C m)) (r : Int) (w : World) (ro : Nat → Prop) (B : Nat) (hF : Fr TE (cx0 Tryz.f58 none w ro B)) (x0 : ByteArray) (x1 : List Int) (x79 : Bool) (h : impl_signDepth.j5 k x0 x1 x79 = some r) : Kp (WS TE (cx0 Tryz.f58 none w ro B) (stkAt [1, 1, 0, 0, 1, 1, 1, 1, 1, 1, 1, 1, 0, 0, 9] [] (bodyOf Tryz.f58) []) ⟨[(0, .v (.string x0)), (1, .sl 1 (rX (cI .i64) x1)), (79, .v (.bool x79))], []⟩ (RetQ TE Tryz.f58 none [.ro (.v (.int .i64 r))] [] w ro B)) := by
 refine ⟨?_⟩
 cases k with
 | zero => simp [impl_signDepth.j5] at h
 | succ k =>
 simp only [impl_signDepth.j5] at h
 by_cases c28 : x79 = true
 · rw [if_pos c28] at h
   refine path_ok (k := 2) hF (RetQ_mild _ _ _ _ _ _ _ _) (ds := [.b true]) (os := []) (c := none) rfl KD ?_
   exact WS.can [] (((ih.out k (by omega)).s_j6  r w ro B hF x0 x1 x79 h).out) KD
 · rw [if_neg c28] at h
   by_cases c29 : x0.toList = ([80] : List UInt8)
   · rw [if_pos c29] at h
     by_cases c30 : 0 < (x1.length : Int)
     · rw [if_pos c30] at h
       refine path_ok (k := 2) hF (RetQ_mild _ _ _ _ _ _ _ _) (ds := [.b false, .b true, .b true, .e 92 (.rf [.v (.int .i64 (rd x1 0))]), .b true, .b true, .b true]) (os := []) (c := none) rfl KD ?_
       exact WS.can [] (((ih.out k (by omega)).s_j6  r w ro B hF x0 x1 ((rd x1 0) == 1) h).out) KD
     · rw [if_neg c30] at h
       cases h
   · rw [if_neg c29] at h
     refine path_ok (k := 2) hF (RetQ_mild _ _ _ _ _ _ _ _) (ds := [.b false, .b false, .b false, .b false, .b false, .b false]) (os := []) (c := none) rfl KD ?_
     exact WS.can [] (((ih.out k (by omega)).s_j6  r w ro B hF x0 x1 false h).out) KD
set_option maxRecDepth 100000 in
set_option maxHeartbeats 4000000 in
theorem impl_signDepth.c_j6 (k : Nat) (ih : Kp (∀ m, m < k → impl_signDepth.C m)) (r : Int) (w : World) (ro : Nat → Prop) (B : Nat) (hF : Fr TE (cx0 Tryz.f58 none w ro B)) (x0 : ByteArray) (x1 : List Int) (x79 : Bool) (h : impl_signDepth.j6 k x0 x1 x79 = some r) : Kp (WS TE (cx0 Tryz.f58 none w ro B) (stkAt [1, 1, 0, 0, 1, 1, 1, 1, 1, 1, 1, 1, 0, 1, 9] [] (bodyOf Tryz.f58) []) ⟨[(0, .v (.string x0)), (1, .sl 1 (rX (cI .i64) x1)), (79, .v (.bool x79))], []⟩ (RetQ TE Tryz.f58 none [.ro (.v (.int .i64 r))] [] w ro B)) := by
 refine ⟨?_⟩
 cases k with
 | zero => simp [impl_signDepth.j6] at h
 | succ k =>
 simp only [impl_signDepth.j6] at h
 by_cases c31 : x79 = true
 · rw [if_pos c31] at h
   refine path_ok (k := 4) hF (RetQ_mild _ _ _ _ _ _ _ _) (ds := [.b true]) (os := []) (c := none) rfl KD ?_
   cases h
   exact ret_as (ms := [.ro]) rfl KD
 · rw [if_neg c31] at h
   by_cases c32 : x0.toList = ([82] : List UInt8)
   · rw [if_pos c32] at h
     by_cases c33 : 0 < (x1.length : Int)
     · rw [if_pos c33] at h
       refine path_ok (k := 3) hF (RetQ_mild _ _ _ _ _ _ _ _) (ds := [.b false, .b true, .b true, .e 101 (.rf [.v (.int .i64 (rd x1 0))]), .b true, .b true, .b true]) (os := []) (c := none) rfl KD ?_
       exact WS.can [] (((ih.out k (by omega)).s_j7  r w ro B hF x0 x1 (decide ((rd x1 0) ≥ 1)) h).out) KD
     · rw [if_neg c33] at h
       cases h
   · rw [if_neg c32] at h
     refine path_ok (k := 3) hF (RetQ_mild _ _ _ _ _ _ _ _) (ds := [.b false, .b false, .b false, .b false, .b false, .b false]) (os := []) (c := none) rfl KD ?_
     exact WS.can [] (((ih.out k (by omega)).s_j7  r w ro B hF x0 x1 false h).out) KD
set_option maxRecDepth 100000 in
set_option maxHeartbeats 4000000 in
theorem impl_signDepth.c_j7 (k : Nat) (ih : Kp (∀ m, m < k → impl_signDepth.C m)) (r : Int) (w : World) (ro : Nat → Prop) (B : Nat) (hF : Fr TE (cx0 Tryz.f58 none w ro B)) (x0 : ByteArray) (x1 : List Int) (x96 : Bool) (h : impl_signDepth.j7 k x0 x1 x96 = some r) : Kp (WS TE (cx0 Tryz.f58 none w ro B) (stkAt [1, 1, 0, 0, 1, 1, 1, 1, 1, 1, 1, 1, 1, 1, 0, 9] [] (bodyOf Tryz.f58) []) ⟨[(0, .v (.string x0)), (1, .sl 1 (rX (cI .i64) x1)), (96, .v (.bool x96))], []⟩ (RetQ TE Tryz.f58 none [.ro (.v (.int .i64 r))] [] w ro B)) := by
 refine ⟨?_⟩
 cases k with
 | zero => simp [impl_signDepth.j7] at h
 | succ k =>
 simp only [impl_signDepth.j7] at h
 by_cases c34 : x96 = true
 · rw [if_pos c34] at h
   by_cases c35 : 0 < (x1.length : Int)
   · rw [if_pos c35] at h
     refine path_ok (k := 4) hF (RetQ_mild _ _ _ _ _ _ _ _) (ds := [.b true, .e 106 (.rf [.v (.int .i64 (rd x1 0))])]) (os := []) (c := none) rfl KD ?_
     cases h
     exact ret_as (ms := [.ro]) rfl KD
   · rw [if_neg c35] at h
     cases h
 · rw [if_neg c34] at h
   by_cases c36 : x0.toList = ([67] : List UInt8)
   · rw [if_pos c36] at h
     by_cases c37 : 0 < (x1.length : Int)
     · rw [if_pos c37] at h
       by_cases c38 : (rd x1 0) ≥ 2
       · rw [if_pos c38] at h
         refine path_ok (k := 7) hF (RetQ_mild _ _ _ _ _ _ _ _) (ds := [.b false, .b true, .b true, .e 113 (.rf [.v (.int .i64 (rd x1 0))]), .b true, .b true, .b true, .b true, .e 118 (.rf [.v (.int .i64 (rd x1 0))])]) (os := []) (c := none) rfl KD ?_
         cases h
         exact ret_as (ms := [.ro]) rfl KD
       · rw [if_neg c38] at h
         refine path_ok (k := 9) hF (RetQ_mild _ _ _ _ _ _ _ _) (ds := [.b false, .b true, .b true, .e 113 (.rf [.v (.int .i64 (rd x1 0))]), .b true, .b true, .b true, .b false]) (os := []) (c := none) rfl KD ?_
         cases h
         exact ret_as (ms := [.ro]) rfl KD
     · rw [if_neg c37] at h
       cases h
   · rw [if_neg c36] at h
     refine path_ok (k := 9) hF (RetQ_mild _ _ _ _ _ _ _ _) (ds := [.b false, .b false, .b false, .b false, .b false, .b false, .b false]) (os := []) (c := none) rfl KD ?_
     cases h
     exact ret_as (ms := [.ro]) rfl KD
theorem impl_signDepth.cs (k : Nat) : impl_signDepth.C k := by
 induction k using Nat.strongRecOn with
 | _ k ih0 =>
 have ih : Kp (∀ m, m < k → impl_signDepth.C m) := ⟨ih0⟩
 exact ⟨impl_signDepth.c_j0 k ih, impl_signDepth.c_j1 k ih, impl_signDepth.c_j2 k ih, impl_signDepth.c_j3 k ih, impl_signDepth.c_j4 k ih, impl_signDepth.c_j5 k ih, impl_signDepth.c_j6 k ih, impl_signDepth.c_j7 k ih⟩
set_option maxRecDepth 100000 in
set_option maxHeartbeats 4000000 in
theorem impl_signDepth.ctr (k : Nat) (a0 : ByteArray) (l1 : List Int) (r : Int) (h : impl_signDepth.f k a0 l1 = some r) : Ctr TE 58 none [.v (.string a0), .sl 1 (rX (cI .i64) l1)] [.ro (.v (.int .i64 r))] [] := by
 refine ctr_of (fn := Tryz.f58) (c := (bodyOf Tryz.f58)) Tryz.func58 rfl (by kernel_rfl) (Nat.le_of_ble_eq_true (by kernel_rfl)) (fun w ro B hF _ => ?_)
 have ih : Kp (∀ m, m < k + 1 → impl_signDepth.C m) := ⟨fun m _ => impl_signDepth.cs m⟩
 simp only [impl_signDepth.f] at h
 by_cases c1 : (l1.length : Int) = 0
 · rw [if_pos c1] at h
   refine path_ok (k := 8) hF (RetQ_mild _ _ _ _ _ _ _ _) (ds := [.e 7 (.v (.int .i64 (l1.length : Int))), .e 11 (.v (.int .i64 (l1.length : Int))), .b true, .b true, .b true, .b true, .b true, .b true, .b true, .b true, .b true, .b true, .b true, .b true, .b true]) (os := []) (c := none) rfl KD ?_
   exact WS.can [] (((ih.out k (by omega)).s_j0  r w ro B hF a0 l1 ((l1.length : Int) == 2) true h).out) KD
 · rw [if_neg c1] at h
   by_cases c2 : (l1.length : Int) > 2
   · rw [if_pos c2] at h
     refine path_ok (k := 8) hF (RetQ_mild _ _ _ _ _ _ _ _) (ds := [.e 7 (.v (.int .i64 (l1.length : Int))), .e 11 (.v (.int .i64 (l1.length : Int))), .b false, .b false, .e 15 (.v (.int .i64 (l1.length : Int))), .b false, .b false, .b true, .b true, .b true, .b true, .b true, .b true, .b true, .b true, .b true]) (os := []) (c := none) rfl KD ?_
     exact WS.can [] (((ih.out k (by omega)).s_j0  r w ro B hF a0 l1 ((l1.length : Int) == 2) true h).out) KD
   · rw [if_neg c2] at h
     by_cases c3 : 0 < (l1.length : Int)
     · rw [if_pos c3] at h
       by_cases c4 : (rd l1 0) < 0
       · rw [if_pos c4] at h
         refine path_ok (k := 8) hF (RetQ_mild _ _ _ _ _ _ _ _) (ds := [.e 7 (.v (.int .i64 (l1.length : Int))), .e 11 (.v (.int .i64 (l1.length : Int))), .b false, .b false, .e 15 (.v (.int .i64 (l1.length : Int))), .b false, .b false, .b false, .b false, .e 20 (.rf [.v (.int .i64 (rd l1 0))]), .b false, .b false, .b false, .b true, .b true, .b true, .b true]) (os := []) (c := none) rfl KD ?_
         exact WS.can [] (((ih.out k (by omega)).s_j0  r w ro B hF a0 l1 ((l1.length : Int) == 2) true h).out) KD
       · rw [if_neg c4] at h
         by_cases c5 : (l1.length : Int) = 2
         · rw [if_pos c5] at h
           by_cases c6 : 1 < (l1.length : Int)
           · rw [if_pos c6] at h
             refine path_ok (k := 8) hF (RetQ_mild _ _ _ _ _ _ _ _) (ds := [.e 7 (.v (.int .i64 (l1.length : Int))), .e 11 (.v (.int .i64 (l1.length : Int))), .b false, .b false, .e 15 (.v (.int .i64 (l1.length : Int))), .b false, .b false, .b false, .b false, .e 20 (.rf [.v (.int .i64 (rd l1 0))]), .b false, .b false, .b false, .b false, .b false, .b true, .b true, .e 28 (.rf [.v (.int .i64 (rd l1 1))]), .b true, .b true, .b false, .b true, .b false]) (os := []) (c := none) rfl KD ?_
             exact WS.can [] (((ih.out k (by omega)).s_j0  r w ro B hF a0 l1 ((l1.length : Int) == 2) ((rd l1 1) != 0) h).out) KD
           · rw [if_neg c6] at h
             cases h
         · rw [if_neg c5] at h
           refine path_ok (k := 8) hF (RetQ_mild _ _ _ _ _ _ _ _) (ds := [.e 7 (.v (.int .i64 (l1.length : Int))), .e 11 (.v (.int .i64 (l1.length : Int))), .b false, .b false, .e 15 (.v (.int .i64 (l1.length : Int))), .b false, .b false, .b false, .b false, .e 20 (.rf [.v (.int .i64 (rd l1 0))]), .b false, .b false, .b false, .b false, .b false, .b false, .b false, .b false, .b false, .b false, .b false, .b false]) (os := []) (c := none) rfl KD ?_
           exact WS.can [] (((ih.out k (by omega)).s_j0  r w ro B hF a0 l1 ((l1.length : Int) == 2) false h).out) KD
     · rw [if_neg c3] at h
       cases h
def impl_total.l0 : Nat → Int → List Int → Int → Int → Option (Int)
  | 0, _, _, _, _ => none
  | k + 1, x3, x6, x7, x8 => if x8 < x7 then (if 0 ≤ x8 then (if x8 < (x6.length : Int) then (impl_total.l0 k (wrap64 (x3 + (rd x6 x8))) x6 x7 (wrap64 (x8 + 1))) else (none)) else (none)) else (some x3)
def impl_total.f (k : Nat) (l0 : List Int) : Option (Int) := impl_total.l0 k 0 l0 (l0.length : Int) 0
def impl_total.I0 (r : Int) (m : Nat) (σ : St) : Prop := ∃ (x3 : Int) (x6 : List Int) (x7 : Int) (x8 : Int), impl_total.l0 m x3 x6 x7 x8 = some r ∧ σ = ⟨[(3, .v (.int .i64 x3)), (6, .sl 1 (rX (cI .i64) x6)), (7, .v (.int .i64 x7)), (8, .v (.int .i64 x8))], []⟩
structure impl_total.C (k : Nat) : Prop where
 s_l0 : ∀ (r : Int) (w : World) (ro : Nat → Prop) (B : Nat) (_ : Fr TE (cx0 Tryz.f94 none w ro B)) (x3 : Int) (x6 : List Int) (x7 : Int) (x8 : Int) (_ : impl_total.l0 k x3 x6 x7 x8 = some r), Kp (WS TE (cx0 Tryz.f94 none w ro B) (stkAt [1, 1, 0, 1, 0] [] (bodyOf Tryz.f94) []) ⟨[(3, .v (.int .i64 x3)), (6, .sl 1 (rX (cI .i64) x6)), (7, .v (.int .i64 x7)), (8, .v (.int .i64 x8))], []⟩ (RetQ TE Tryz.f94 none [.ro (.v (.int .i64 r))] [] w ro B))
set_option maxRecDepth 100000 in
set_option maxHeartbeats 4000000 in
theorem impl_total.c_l0 (k : Nat) (ih : Kp (∀ m, m < k → impl_total.C m)) (r : Int) (w : World) (ro : Nat → Prop) (B : Nat) (hF : Fr TE (cx0 Tryz.f94 none w ro B)) (x3 : Int) (x6 : List Int) (x7 : Int) (x8 : Int) (h : impl_total.l0 k x3 x6 x7 x8 = some r) : Kp (WS TE (cx0 Tryz.f94 none w ro B) (stkAt [1, 1, 0, 1, 0] [] (bodyOf Tryz.f94) []) ⟨[(3, .v (.int .i64 x3)), (6, .sl 1 (rX (cI .i64) x6)), (7, .v (.int .i64 x7)), (8, .v (.int .i64 x8))], []⟩ (RetQ TE Tryz.f94 none [.ro (.v (.int .i64 r))] [] w ro B)) := by
 refine ⟨WS.loop (fun m σ => m ≤ k ∧ impl_total.I0 r m σ) k ⟨Nat.le_refl k, x3, x6, x7, x8, h, rfl⟩ (fun m σ' hI J0 hJ0 => ?_)⟩
 clear h
 obtain ⟨hk, x3, x6, x7, x8, h, rfl⟩ := hI
 cases m with
 | zero => simp [impl_total.l0] at h
 | succ k' =>
 simp only [impl_total.l0] at h
 by_cases c1 : x8 < x7
 · rw [if_pos c1] at h
   by_cases c2 : 0 ≤ x8
   · rw [if_pos c2] at h
     by_cases c3 : x8 < (x6.length : Int)
     · rw [if_pos c3] at h
       refine path_ok (k := 12) hF (RetQ_mild _ _ _ _ _ _ _ _) (ds := [.b true, .e 10 (.rf [.v (.int .i64 (rd x6 x8))])]) (os := []) (c := none) rfl KD ?_
       exact WS.lpc [] (hJ0 _ _ (Nat.lt_succ_self _) ⟨by omega, (wrap64 (x3 + (rd x6 x8))), x6, x7, (wrap64 (x8 + 1)), h, rfl⟩) KD
     · rw [if_neg c3] at h
       cases h
   · rw [if_neg c2] at h
     cases h
 · rw [if_neg c1] at h
   refine path_ok (k := 8) hF (RetQ_mild _ _ _ _ _ _ _ _) (ds := [.b false]) (os := []) (c := none) rfl KD ?_
   cases h
   exact ret_as (ms := [.ro]) rfl KD
theorem impl_total.cs (k : Nat) : impl_total.C k := by
 induction k using Nat.strongRecOn with
 | _ k ih0 =>
 have ih : Kp (∀ m, m < k → impl_total.C m) := ⟨ih0⟩
 exact ⟨impl_total.c_l0 k ih⟩
set_option maxRecDepth 100000 in
set_option maxHeartbeats 4000000 in
theorem impl_total.ctr (k : Nat) (l0 : List Int) (r : Int) (h : impl_total.f k l0 = some r) : Ctr TE 94 none [.sl 1 (rX (cI .i64) l0)] [.ro (.v (.int .i64 r))] [] := by
 refine ctr_of (fn := Tryz.f94) (c := (bodyOf Tryz.f94)) Tryz.func94 rfl (by kernel_rfl) (Nat.le_of_ble_eq_true (by kernel_rfl)) (fun w ro B hF _ => ?_)
 have ih : Kp (∀ m, m < k + 1 → impl_total.C m) := ⟨fun m _ => impl_total.cs m⟩
 simp only [impl_total.f] at h
 refine path_ok (k := 8) hF (RetQ_mild _ _ _ _ _ _ _ _) (ds := [.e 7 (.v (.int .i64 (l0.length : Int)))]) (os := []) (c := none) rfl KD ?_
 exact WS.can [] (((ih.out k (by omega)).s_l0  r w ro B hF 0 l0 (l0.length : Int) 0 h).out) KD
def impl_sum.f (k : Nat) (l0 : List Int) : Option (Int) := (impl_total.f k l0).bind fun t228 => (some (Int.tmod t228 10007))
set_option maxRecDepth 100000 in
set_option maxHeartbeats 4000000 in
theorem impl_sum.ctr (k : Nat) (l0 : List Int) (r : Int) (h : impl_sum.f k l0 = some r) : Ctr TE 68 none [.sl 1 (rX (cI .i64) l0)] [.ro (.v (.int .i64 r))] [] := by
 refine ctr_of (fn := Tryz.f68) (c := (bodyOf Tryz.f68)) Tryz.func68 rfl (by kernel_rfl) (Nat.le_of_ble_eq_true (by kernel_rfl)) (fun w ro B hF _ => ?_)
 simp only [impl_sum.f] at h
 obtain ⟨t228, q1, h⟩ := Option.bind_eq_some_iff.1 h
 have q1c := impl_total.ctr k _ _ q1
 refine path_ok (k := 5) hF (RetQ_mild _ _ _ _ _ _ _ _) (ds := [.r [.ro (.v (.int .i64 t228))] [], .e 5 (.v (.int .i64 (Int.tmod t228 10007)))]) (os := []) (c := none) rfl KD ?_
 cases h
 exact ret_as (ms := [.ro]) rfl KD
def impl_most.f (l0 : List Int) : Option (Int) := (some (([0] : List Int) : List Int)).bind fun y229 => (if y229.length + l0.length < 17592186044416 then ((slices_Max_int.f (y229 ++ l0)).bind fun t235 => (some t235)) else (none))
set_option maxRecDepth 100000 in
set_option maxHeartbeats 4000000 in
theorem impl_most.ctr (l0 : List Int) (r : Int) (h : impl_most.f l0 = some r) : Ctr TE 70 none [.sl 1 (rX (cI .i64) l0)] [.ro (.v (.int .i64 r))] [] := by
 refine ctr_of (fn := Tryz.f70) (c := (bodyOf Tryz.f70)) Tryz.func70 rfl (by kernel_rfl) (Nat.le_of_ble_eq_true (by kernel_rfl)) (fun w ro B hF _ => ?_)
 simp only [impl_most.f] at h
 obtain ⟨y229, hy229, h⟩ := Option.bind_eq_some_iff.1 h
 cases hy229
 by_cases c1 : (([0] : List Int)).length + l0.length < 17592186044416
 · rw [if_pos c1] at h
   obtain ⟨t235, q2, h⟩ := Option.bind_eq_some_iff.1 h
   have q2c := slices_Max_int.ctr _ _ q2
   refine path_ok (k := 5) hF (RetQ_mild _ _ _ _ _ _ _ _) (ds := [.p 3 ([[.v (.int .i64 0)]]), .o 5 (rX (cI .i64) ((([0] : List Int)) ++ l0)), .r [.ro (.v (.int .i64 t235))] []]) (os := []) (c := none) rfl KD ?_
   cases h
   exact ret_as (ms := [.ro]) rfl KD
 · rw [if_neg c1] at h
   cases h
def impl_give_1.l0 : Nat → List Int → List (S68) → Int → Int → Int → List (S68) → Option (List Int × Int)
  | 0, _, _, _, _, _, _ => none
  | k + 1, x2, x7, x8, x9, x1000, x1001 => if x9 < x8 then (if 0 ≤ x9 then (if x9 < (x7.length : Int) then (if x2.length < 17592186044416 then (impl_give_1.l0 k (x2 ++ [(rd_T68 x7 x9).f0]) x7 x8 (wrap64 (x9 + 1)) x1000 x1001) else (none)) else (none)) else (none)) else (some (x2, x1000))
def impl_give_1.f (k : Nat) (s0_0 : Int) (s0_1 : List (S68)) : Option (List Int × Int) := impl_give_1.l0 k (([] : List Int)) s0_1 (s0_1.length : Int) 0 s0_0 s0_1
def impl_give_1.I0 (s0_0 : Int) (s0_1 : List (S68)) (r1 : List Int) (r2 : Int) (m : Nat) (σ : St) : Prop := ∃ (x2 : List Int) (x7 : List (S68)) (x8 : Int) (x9 : Int) (x1000 : Int), impl_give_1.l0 m x2 x7 x8 x9 x1000 s0_1 = some (r1, r2) ∧ σ = ⟨[(0, .pt 0 0 0), (2, .ow 1002 0), (7, .sl 2 (r68 x7)), (8, .v (.int .i64 x8)), (9, .v (.int .i64 x9))], [(0, .box 0 68 true [.v (.int .i64 x1000), .sl 2 (r68 s0_1)]), (1002, .own 0 3 1 (rX (cI .i64) x2))]⟩
structure impl_give_1.C (k : Nat) : Prop where
 s_l0 : ∀ (s0_0 : Int) (s0_1 : List (S68)) (r1 : List Int) (r2 : Int) (w : World) (ro : Nat → Prop) (B : Nat) (_ : Fr TE (cx0 Tryz.f97 (some (68, [.v (.int .i64 s0_0), .sl 2 (r68 s0_1)])) w ro B)) (x2 : List Int) (x7 : List (S68)) (x8 : Int) (x9 : Int) (x1000 : Int) (_ : impl_give_1.l0 k x2 x7 x8 x9 x1000 s0_1 = some (r1, r2)), Kp (WS TE (cx0 Tryz.f97 (some (68, [.v (.int .i64 s0_0), .sl 2 (r68 s0_1)])) w ro B) (stkAt [1, 1, 0, 1, 0] [] (bodyOf Tryz.f97) []) ⟨[(0, .pt 0 0 0), (2, .ow 1002 0), (7, .sl 2 (r68 x7)), (8, .v (.int .i64 x8)), (9, .v (.int .i64 x9))], [(0, .box 0 68 true [.v (.int .i64 x1000), .sl 2 (r68 s0_1)]), (1002, .own 0 3 1 (rX (cI .i64) x2))]⟩ (RetQ TE Tryz.f97 (some (68, [.v (.int .i64 s0_0), .sl 2 (r68 s0_1)])) [.own 3 1 (rX (cI .i64) r1)] [.v (.int .i64 r2), .sl 2 (r68 s0_1)] w ro B))
set_option maxRecDepth 100000 in
set_option maxHeartbeats 4000000 in
theorem impl_give_1.c_l0 (k : Nat) (ih : Kp (∀ m, m < k → impl_give_1.C m)) (s0_0 : Int) (s0_1 : List (S68)) (r1 : List Int) (r2 : Int) (w : World) (ro : Nat → Prop) (B : Nat) (hF : Fr TE (cx0 Tryz.f97 (some (68, [.v (.int .i64 s0_0), .sl 2 (r68 s0_1)])) w ro B)) (x2 : List Int) (x7 : List (S68)) (x8 : Int) (x9 : Int) (x1000 : Int) (h : impl_give_1.l0 k x2 x7 x8 x9 x1000 s0_1 = some (r1, r2)) : Kp (WS TE (cx0 Tryz.f97 (some (68, [.v (.int .i64 s0_0), .sl 2 (r68 s0_1)])) w ro B) (stkAt [1, 1, 0, 1, 0] [] (bodyOf Tryz.f97) []) ⟨[(0, .pt 0 0 0), (2, .ow 1002 0), (7, .sl 2 (r68 x7)), (8, .v (.int .i64 x8)), (9, .v (.int .i64 x9))], [(0, .box 0 68 true [.v (.int .i64 x1000), .sl 2 (r68 s0_1)]), (1002, .own 0 3 1 (rX (cI .i64) x2))]⟩ (RetQ TE Tryz.f97 (some (68, [.v (.int .i64 s0_0), .sl 2 (r68 s0_1)])) [.own 3 1 (rX (cI .i64) r1)] [.v (.int .i64 r2), .sl 2 (r68 s0_1)] w ro B)) := by
 refine ⟨WS.loop (fun m σ => m ≤ k ∧ impl_give_1.I0 s0_0 s0_1 r1 r2 m σ) k ⟨Nat.le_refl k, x2, x7, x8, x9, x1000, h, rfl⟩ (fun m σ' hI J0 hJ0 => ?_)⟩
 clear h
 obtain ⟨hk, x2, x7, x8, x9, x1000, h, rfl⟩ := hI
 cases m with
 | zero => simp [impl_give_1.l0] at h
 | succ k' =>
 simp only [impl_give_1.l0] at h
 by_cases c1 : x9 < x8
 · rw [if_pos c1] at h
   by_cases c2 : 0 ≤ x9
   · rw [if_pos c2] at h
     by_cases c3 : x9 < (x7.length : Int)
     · rw [if_pos c3] at h
       by_cases c4 : x2.length < 17592186044416
       · rw [if_pos c4] at h
         refine path_ok (k := 12) hF (RetQ_mild _ _ _ _ _ _ _ _) (ds := [.b true, .e 11 (.rf [.v (.int .i64 ((rd_T68 x7 x9).f0)), .sl 2 (r68 ((rd_T68 x7 x9).f1))]), .p 16 ([[.v (.int .i64 ((rd_T68 x7 x9).f0))]]), .o 17 (rX (cI .i64) (x2 ++ [(rd_T68 x7 x9).f0]))]) (os := []) (c := none) rfl KD ?_
         exact WS.lpc [(0, some 0), (1002, some 1002)] (hJ0 _ _ (Nat.lt_succ_self _) ⟨by omega, (x2 ++ [(rd_T68 x7 x9).f0]), x7, x8, (wrap64 (x9 + 1)), x1000, h, rfl⟩) KD
       · rw [if_neg c4] at h
         cases h
     · rw [if_neg c3] at h
       cases h
   · rw [if_neg c2] at h
     cases h
 · rw [if_neg c1] at h
   refine path_ok (k := 8) hF (RetQ_mild _ _ _ _ _ _ _ _) (ds := [.b false]) (os := []) (c := none) rfl KD ?_
   cases h
   exact ret_as (ms := [.own]) rfl KD
theorem impl_give_1.cs (k : Nat) : impl_give_1.C k := by
 induction k using Nat.strongRecOn with
 | _ k ih0 =>
 have ih : Kp (∀ m, m < k → impl_give_1.C m) := ⟨ih0⟩
 exact ⟨impl_give_1.c_l0 k ih⟩
set_option maxRecDepth 100000 in
set_option maxHeartbeats 4000000 in
theorem impl_give_1.ctr (k : Nat) (s0_0 : Int) (s0_1 : List (S68)) (r1 : List Int) (r2 : Int) (h : impl_give_1.f k s0_0 s0_1 = some (r1, r2)) : Ctr TE 97 (some (68, [.v (.int .i64 s0_0), .sl 2 (r68 s0_1)])) [.pt 0 0 0] [.own 3 1 (rX (cI .i64) r1)] [.v (.int .i64 r2), .sl 2 (r68 s0_1)] := by
 refine ctr_of (fn := Tryz.f97) (c := (bodyOf Tryz.f97)) Tryz.func97 rfl (by kernel_rfl) (Nat.le_of_ble_eq_true (by kernel_rfl)) (fun w ro B hF _ => ?_)
 have ih : Kp (∀ m, m < k + 1 → impl_give_1.C m) := ⟨fun m _ => impl_give_1.cs m⟩
 simp only [impl_give_1.f] at h
 refine path_ok (k := 8) hF (RetQ_mild _ _ _ _ _ _ _ _) (ds := [.p 5 ([]), .e 8 (.v (.int .i64 (s0_1.length : Int)))]) (os := []) (c := none) rfl KD ?_
 exact WS.can [(0, some 0), (1002, some 5)] (((ih.out k (by omega)).s_l0 s0_0 s0_1 r1 r2 w ro B hF (([] : List Int)) s0_1 (s0_1.length : Int) 0 s0_0 h).out) KD
def impl_give_2.l0 : Nat → List Int → Int → Int → Int → List (S68) → Option (Int × (List (S68)))
  | 0, _, _, _, _, _ => none
  | k + 1, x6, x7, x8, x246000, x246001 => if x8 < x7 then (if 0 ≤ x8 then (if x8 < (x6.length : Int) then (if x246001.length < 4398046511104 then (impl_give_2.l0 k x6 x7 (wrap64 (x8 + 1)) x246000 (x246001 ++ [(⟨rd x6 x8, ([] : List (S68))⟩ : S68)])) else (none)) else (none)) else (none)) else (some (x246000, x246001))
def impl_give_2.f (k : Nat) (l0 : List Int) : Option (Int × (List (S68))) := impl_give_2.l0 k l0 (l0.length : Int) 0 0 ([] : List (S68))
def impl_give_2.I0 (r1 : Int) (r2 : List (S68)) (m : Nat) (σ : St) : Prop := ∃ (x6 : List Int) (x7 : Int) (x8 : Int) (x245000 : Int) (x246000 : Int) (x246001 : List (S68)), impl_give_2.l0 m x6 x7 x8 x246000 x246001 = some (r1, r2) ∧ σ = ⟨[(2, .pt 1002 0 0), (3, .pt 1003 0 0), (6, .sl 1 (rX (cI .i64) x6)), (7, .v (.int .i64 x7)), (8, .v (.int .i64 x8))], [(1002, .box 0 68 false [.v (.int .i64 x245000), .v (.slice none 0 0)]), (3193, .own 0 68 2 (r68 x246001)), (1003, .box 0 68 false [.v (.int .i64 x246000), .ow 3193 0])]⟩
structure impl_give_2.C (k : Nat) : Prop where
 s_l0 : ∀ (r1 : Int) (r2 : List (S68)) (w : World) (ro : Nat → Prop) (B : Nat) (_ : Fr TE (cx0 Tryz.f98 none w ro B)) (x6 : List Int) (x7 : Int) (x8 : Int) (x245000 : Int) (x246000 : Int) (x246001 : List (S68)) (_ : impl_give_2.l0 k x6 x7 x8 x246000 x246001 = some (r1, r2)), Kp (WS TE (cx0 Tryz.f98 none w ro B) (stkAt [1, 1, 0, 1, 0] [] (bodyOf Tryz.f98) []) ⟨[(2, .pt 1002 0 0), (3, .pt 1003 0 0), (6, .sl 1 (rX (cI .i64) x6)), (7, .v (.int .i64 x7)), (8, .v (.int .i64 x8))], [(1002, .box 0 68 false [.v (.int .i64 x245000), .v (.slice none 0 0)]), (3193, .own 0 68 2 (r68 x246001)), (1003, .box 0 68 false [.v (.int .i64 x246000), .ow 3193 0])]⟩ (RetQ TE Tryz.f98 none [.ro (.ag [.v (.int .i64 r1), .sl 2 (r68 r2)])] [] w ro B))
set_option maxRecDepth 100000 in
set_option maxHeartbeats 4000000 in
theorem impl_give_2.c_l0 (k : Nat) (ih : Kp (∀ m, m < k → impl_give_2.C m)) (r1 : Int) (r2 : List (S68)) (w : World) (ro : Nat → Prop) (B : Nat) (hF : Fr TE (cx0 Tryz.f98 none w ro B)) (x6 : List Int) (x7 : Int) (x8 : Int) (x245000 : Int) (x246000 : Int) (x246001 : List (S68)) (h : impl_give_2.l0 k x6 x7 x8 x246000 x246001 = some (r1, r2)) : Kp (WS TE (cx0 Tryz.f98 none w ro B) (stkAt [1, 1, 0, 1, 0] [] (bodyOf Tryz.f98) []) ⟨[(2, .pt 1002 0 0), (3, .pt 1003 0 0), (6, .sl 1 (rX (cI .i64) x6)), (7, .v (.int .i64 x7)), (8, .v (.int .i64 x8))], [(1002, .box 0 68 false [.v (.int .i64 x245000), .v (.slice none 0 0)]), (3193, .own 0 68 2 (r68 x246001)), (1003, .box 0 68 false [.v (.int .i64 x246000), .ow 3193 0])]⟩ (RetQ TE Tryz.f98 none [.ro (.ag [.v (.int .i64 r1), .sl 2 (r68 r2)])] [] w ro B)) := by
 refine ⟨WS.loop (fun m σ => m ≤ k ∧ impl_give_2.I0 r1 r2 m σ) k ⟨Nat.le_refl k, x6, x7, x8, x245000, x246000, x246001, h, rfl⟩ (fun m σ' hI J0 hJ0 => ?_)⟩
 clear h
 obtain ⟨hk, x6, x7, x8, x245000, x246000, x246001, h, rfl⟩ := hI
 cases m with
 | zero => simp [impl_give_2.l0] at h
 | succ k' =>
 simp only [impl_give_2.l0] at h
 by_cases c1 : x8 < x7
 · rw [if_pos c1] at h
   by_cases c2 : 0 ≤ x8
   · rw [if_pos c2] at h
     by_cases c3 : x8 < (x6.length : Int)
     · rw [if_pos c3] at h
       by_cases c4 : x246001.length < 4398046511104
       · rw [if_pos c4] at h
         refine path_ok (k := 12) hF (RetQ_mild _ _ _ _ _ _ _ _) (ds := [.b true, .e 10 (.rf [.v (.int .i64 (rd x6 x8))]), .p 16 ([[.v (.int .i64 (rd x6 x8)), .sl 2 (r68 [])]]), .o 17 (r68 (x246001 ++ [(⟨rd x6 x8, ([] : List (S68))⟩ : S68)]))]) (os := []) (c := none) rfl KD ?_
         exact WS.lpc [(1002, some 1002), (1003, some 1003), (3193, some 3193)] (hJ0 _ _ (Nat.lt_succ_self _) ⟨by omega, x6, x7, (wrap64 (x8 + 1)), x245000, x246000, (x246001 ++ [(⟨rd x6 x8, ([] : List (S68))⟩ : S68)]), h, rfl⟩) KD
       · rw [if_neg c4] at h
         cases h
     · rw [if_neg c3] at h
       cases h
   · rw [if_neg c2] at h
     cases h
 · rw [if_neg c1] at h
   refine path_ok (k := 8) hF (RetQ_mild _ _ _ _ _ _ _ _) (ds := [.b false]) (os := []) (c := none) rfl KD ?_
   cases h
   exact ret_as (ms := [.ro]) rfl KD
theorem impl_give_2.cs (k : Nat) : impl_give_2.C k := by
 induction k using Nat.strongRecOn with
 | _ k ih0 =>
 have ih : Kp (∀ m, m < k → impl_give_2.C m) := ⟨ih0⟩
 exact ⟨impl_give_2.c_l0 k ih⟩
set_option maxRecDepth 100000 in
set_option maxHeartbeats 4000000 in
theorem impl_give_2.ctr (k : Nat) (l0 : List Int) (r1 : Int) (r2 : List (S68)) (h : impl_give_2.f k l0 = some (r1, r2)) : Ctr TE 98 none [.sl 1 (rX (cI .i64) l0)] [.ro (.ag [.v (.int .i64 r1), .sl 2 (r68 r2)])] [] := by
 refine ctr_of (fn := Tryz.f98) (c := (bodyOf Tryz.f98)) Tryz.func98 rfl (by kernel_rfl) (Nat.le_of_ble_eq_true (by kernel_rfl)) (fun w ro B hF _ => ?_)
 have ih : Kp (∀ m, m < k + 1 → impl_give_2.C m) := ⟨fun m _ => impl_give_2.cs m⟩
 simp only [impl_give_2.f] at h
 refine path_ok (k := 8) hF (RetQ_mild _ _ _ _ _ _ _ _) (ds := [.e 7 (.v (.int .i64 (l0.length : Int)))]) (os := []) (c := none) rfl KD ?_
 exact WS.can [(1002, some 2), (1003, some 3), (3193, none)] (((ih.out k (by omega)).s_l0  r1 r2 w ro B hF l0 (l0.length : Int) 0 0 0 ([] : List (S68)) h).out) KD
def impl_give_3.f (a0 : Bool) : Option (Int × (List (S68))) := if a0 = true then (some (1, ([] : List (S68)))) else (some (0, ([] : List (S68))))
set_option maxRecDepth 100000 in
set_option maxHeartbeats 4000000 in
theorem impl_give_3.ctr (a0 : Bool) (r1 : Int) (r2 : List (S68)) (h : impl_give_3.f a0 = some (r1, r2)) : Ctr TE 99 none [.v (.bool a0)] [.ro (.ag [.v (.int .i64 r1), .sl 2 (r68 r2)])] [] := by
 refine ctr_of (fn := Tryz.f99) (c := (bodyOf Tryz.f99)) Tryz.func99 rfl (by kernel_rfl) (Nat.le_of_ble_eq_true (by kernel_rfl)) (fun w ro B hF _ => ?_)
 simp only [impl_give_3.f] at h
 by_cases c1 : a0 = true
 · rw [if_pos c1] at h
   refine path_ok (k := 9) hF (RetQ_mild _ _ _ _ _ _ _ _) (ds := [.b true]) (os := []) (c := none) rfl KD ?_
   cases h
   exact ret_as (ms := [.ro]) rfl KD
 · rw [if_neg c1] at h
   refine path_ok (k := 10) hF (RetQ_mild _ _ _ _ _ _ _ _) (ds := [.b false]) (os := []) (c := none) rfl KD ?_
   cases h
   exact ret_as (ms := [.ro]) rfl KD
end Go.Proofs.YtoloblgjlnhioaaGreatDoor.I
