/- A part of the claim. -/
import Derived.Test.YtjkngiciigdheaaGreatDoorKFx0
import Derived.Test.YtjkngiciigdheaaGreatDoorKFx2
import Derived.Test.YtjkngiciigdheaaGreatDoorKFSgs
import Derived.Test.YtjkngiciigdheaaGreatDoorKFSgw
namespace Go.Proofs.YtjkngiciigdheaaGreatDoor.K
open Go.RowKit Go.Proofs.YtjkngiciigdheaaGreatDoorW.St Go.Proofs.YtjkngiciigdheaaGreatDoorW.PrintWords Go.Proofs.YtjkngiciigdheaaGreatDoorW.PrintLast Go.Proofs.YtjkngiciigdheaaGreatDoorW.PrintMore
set_option linter.unusedVariables false
set_option linter.unusedSimpArgs false
set_option maxRecDepth 100000
set_option maxHeartbeats 4000000
def impl_wrong.l0 : Nat → Int → List (List Int) → Int → Int → List (List Int) → List Int → Option (Int)
  | 0, _, _, _, _, _, _ => none
  | k + 1, x5, x10, x11, x12, x434000, x434001 => if x12 < x11 then (if 0 ≤ x12 then (if x12 < (x10.length : Int) then (if x12 = 3 then (some x12) else (if ((rd_L1 x10 x12).length : Int) = x5 then ((impl_within.f (rd_L1 x10 x12) 400).bind fun t436 => (if t436 = true then ((impl_total.f k (rd_L1 x10 x12)).bind fun t437 => (impl_wrong.l0 k t437 x10 x11 (wrap64 (x12 + 1)) x434000 x434001)) else (some x12))) else (some x12))) else (none)) else (none)) else (if (x434001.length : Int) = x5 then ((impl_within.f x434001 10006).bind fun t434 => (if t434 = true then (some (-1)) else (some (x434000.length : Int)))) else (some (x434000.length : Int)))
def impl_wrong.f (k : Nat) (l0_0 : List (List Int)) (l0_1 : List Int) (a1 : Int) : Option (Int) := impl_wrong.l0 k a1 l0_0 (l0_0.length : Int) 0 l0_0 l0_1
def I49_0 (r : Int) (m : Nat) (σ : St) : Prop := ∃ (x5 : Int) (x10 : List (List Int)) (x11 : Int) (x12 : Int) (x434000 : List (List Int)) (x434001 : List Int), impl_wrong.l0 m x5 x10 x11 x12 x434000 x434001 = some r ∧ σ = ⟨[(2, .pt 1002 0 0), (5, .i x5), (10, .sl 1 (rX (cL (cI .i64) 1) x10)), (11, .i x11), (12, .i x12)], [(1002, .box 0 29 false [.sl 1 (rX (cL (cI .i64) 1) x434000), .sl 1 (rX (cI .i64) x434001)])]⟩
abbrev W49 (r : Int) (w : World) (ro : Nat → Prop) (B : Nat) (p : List Nat) (j : List (St → Prop)) (σ : St) : Prop := Kp (WS TE (cx0 Tryz.f49 none w ro B) (stkAt p j (bodyOf Tryz.f49) []) σ (RetQ TE Tryz.f49 none [.ro (.i r)] [] w ro B))
def S49l0 (k : Nat) : Prop := ∀ r w ro B (_ : Fr TE (cx0 Tryz.f49 none w ro B)) (σ : St) (_ : I49_0 r k σ), W49 r w ro B [1, 1, 0, 1, 0] [] σ
structure C49 (k : Nat) : Prop where
 s_l0 : S49l0 k
theorem c49l0 (k : Nat) (ih : Kp (∀ m, m < k → C49 m)) : S49l0 k := by
 intro r w ro B hF
 intro σ h0
 refine ⟨WS.loop (fun m σ => m ≤ k ∧ I49_0 r m σ) k ⟨Nat.le_refl k, h0⟩ (fun m σ' hI J0 hJ0 => ?_)⟩
 clear h0
 obtain ⟨hk, x5, x10, x11, x12, x434000, x434001, h, rfl⟩ := hI
 cases m with
 | zero => simp [impl_wrong.l0] at h
 | succ k' =>
 simp only [impl_wrong.l0] at h
 rcases ic h with ⟨c1, h⟩ | ⟨c1, h⟩
 · obtain ⟨c2, h⟩ := ig h
   obtain ⟨c3, h⟩ := ig h
   rcases ic h with ⟨c4, h⟩ | ⟨c4, h⟩
   · refine pk 16 hF [.t, .e 15 (.rf [.sl 1 (rX (cI .i64) (rd_L1 x10 x12))]), .t, .t, .t, .t, .t, .t, .t, .t, .t, .t] [] rfl KD ?_
     cases h
     exact rr [.ro] rfl KD
   · rcases ic h with ⟨c5, h⟩ | ⟨c5, h⟩
     · obtain ⟨t436, q6, h⟩ := ib h
       have q6c := impl_within.ctr _ _ _ q6
       rcases ic h with ⟨c7, h⟩ | ⟨c7, h⟩
       · obtain ⟨t437, q8, h⟩ := ib h
         have q8c := impl_total.ctr k' _ _ q8
         refine pk 17 hF [.t, .e 15 (.rf [.sl 1 (rX (cI .i64) (rd_L1 x10 x12))]), .f, .f, .e 21 (.i ((rd_L1 x10 x12).length : Int)), .f, .f, .f, .f, .f, .r [.ro (.v (.bool t436))] [], .f, .f, .f, .r [.ro (.i t437)] []] [] rfl KD ?_
         exact WS.lpc [(1002, some 1002)] (hJ0 _ _ (Nat.lt_succ_self _) ⟨by omega, t437, x10, x11, (wrap64 (x12 + 1)), x434000, x434001, h, rfl⟩) KD
       · refine pk 16 hF [.t, .e 15 (.rf [.sl 1 (rX (cI .i64) (rd_L1 x10 x12))]), .f, .f, .e 21 (.i ((rd_L1 x10 x12).length : Int)), .f, .f, .f, .f, .f, .r [.ro (.v (.bool t436))] [], .f, .f, .t] [] rfl KD ?_
         cases h
         exact rr [.ro] rfl KD
     · refine pk 16 hF [.t, .e 15 (.rf [.sl 1 (rX (cI .i64) (rd_L1 x10 x12))]), .f, .f, .e 21 (.i ((rd_L1 x10 x12).length : Int)), .f, .f, .f, .t, .t, .t, .t, .t] [] rfl KD ?_
       cases h
       exact rr [.ro] rfl KD
 · rcases ic h with ⟨c9, h⟩ | ⟨c9, h⟩
   · obtain ⟨t434, q10, h⟩ := ib h
     have q10c := impl_within.ctr _ _ _ q10
     rcases ic h with ⟨c11, h⟩ | ⟨c11, h⟩
     · refine pk 13 hF [.f, .e 36 (.i (x434001.length : Int)), .f, .f, .f, .r [.ro (.v (.bool t434))] [], .f, .f, .f] [] rfl KD ?_
       cases h
       exact rr [.ro] rfl KD
     · refine pk 12 hF [.f, .e 36 (.i (x434001.length : Int)), .f, .f, .f, .r [.ro (.v (.bool t434))] [], .f, .f, .t, .e 47 (.i (x434000.length : Int))] [] rfl KD ?_
       cases h
       exact rr [.ro] rfl KD
   · refine pk 12 hF [.f, .e 36 (.i (x434001.length : Int)), .t, .t, .t, .t, .t, .t, .e 47 (.i (x434000.length : Int))] [] rfl KD ?_
     cases h
     exact rr [.ro] rfl KD
theorem cs49 (k : Nat) : C49 k := by
 induction k using Nat.strongRecOn with
 | _ k ih0 =>
 have ih : Kp (∀ m, m < k → C49 m) := ⟨ih0⟩
 exact ⟨c49l0 k ih⟩
theorem impl_wrong.ctr (k : Nat) (l0_0 : List (List Int)) (l0_1 : List Int) (a1 : Int) (r : Int) (h : impl_wrong.f k l0_0 l0_1 a1 = some r) : Ctr TE 49 none [.ag [.sl 1 (rX (cL (cI .i64) 1) l0_0), .sl 1 (rX (cI .i64) l0_1)], .i a1] [.ro (.i r)] [] := by
 refine co Tryz.func49 (by kernel_rfl) (by kernel_rfl) fun w ro B hF => ?_
 have ih : Kp (∀ m, m < k + 1 → C49 m) := ⟨fun m _ => cs49 m⟩
 simp only [impl_wrong.f] at h
 refine pk 8 hF [.e 11 (.i (l0_0.length : Int))] [] rfl KD ?_
 exact WS.can [(1002, some 2)] ((ih.a.s_l0  r w ro B hF _ ⟨a1, l0_0, (l0_0.length : Int), 0, l0_0, l0_1, h, rfl⟩).out) KD
def impl_VectorValid.f (k : Nat) (a0_0 : Int) (l0_1 : List (List Int)) (l0_2 : List Int) : Option (Bool) := if a0_0 ≥ 0 then (if a0_0 ≤ 2000 then ((impl_wrong.f k l0_1 l0_2 a0_0).bind fun t439 => (some (decide (t439 < 0)))) else (some false)) else (some false)
theorem impl_VectorValid.ctr (k : Nat) (a0_0 : Int) (l0_1 : List (List Int)) (l0_2 : List Int) (r : Bool) (h : impl_VectorValid.f k a0_0 l0_1 l0_2 = some r) : Ctr TE 13 none [.ag [.i a0_0, .sl 1 (rX (cL (cI .i64) 1) l0_1), .sl 1 (rX (cI .i64) l0_2)]] [.ro (.v (.bool r))] [] := by
 refine co Tryz.func13 (by kernel_rfl) (by kernel_rfl) fun w ro B hF => ?_
 simp only [impl_VectorValid.f] at h
 rcases ic h with ⟨c1, h⟩ | ⟨c1, h⟩
 · rcases ic h with ⟨c2, h⟩ | ⟨c2, h⟩
   · obtain ⟨t439, q3, h⟩ := ib h
     have q3c := impl_wrong.ctr k _ _ _ _ q3
     refine pk 5 hF [.t, .t, .t, .t, .t, .t, .t, .t, .t, .r [.ro (.i t439)] [], .t, .t] [] rfl KD ?_
     cases h
     exact rr [.ro] rfl KD
   · refine pk 5 hF [.t, .t, .t, .t, .f, .f, .f, .f, .f, .f, .f] [] rfl KD ?_
     cases h
     exact rr [.ro] rfl KD
 · refine pk 5 hF [.f, .f, .f, .f, .f, .f, .f, .f, .f, .f, .f] [] rfl KD ?_
   cases h
   exact rr [.ro] rfl KD
mutual
def impl_signDepth.j0 : Nat → ByteArray → List Int → Bool → Bool → Option (Int)
  | 0, _, _, _, _ => none
  | k + 1, x0, x1, x5, x9 => if x9 = true then (some (-1)) else (if x5 = true then ((strings_Contains.f (⟨#[43, 42, 94, 45, 61, 60]⟩ : ByteArray) x0).bind fun t442 => (if t442 = true then (if 0 < (x1.length : Int) then (impl_signDepth.j1 k x0 x1 x5 ((rd x1 0) == 0)) else (none)) else (impl_signDepth.j1 k x0 x1 x5 false))) else (impl_signDepth.j1 k x0 x1 x5 false))
def impl_signDepth.j1 : Nat → ByteArray → List Int → Bool → Bool → Option (Int)
  | 0, _, _, _, _ => none
  | k + 1, x0, x1, x5, x33 => if x33 = true then (impl_signDepth.j2 k x0 x1 x5 x33) else (if x5 = true then (if x0.toList = ([64] : List UInt8) then (if 0 < (x1.length : Int) then (impl_signDepth.j2 k x0 x1 x5 ((rd x1 0) == 1)) else (none)) else (impl_signDepth.j2 k x0 x1 x5 false)) else (impl_signDepth.j2 k x0 x1 x5 false))
def impl_signDepth.j2 : Nat → ByteArray → List Int → Bool → Bool → Option (Int)
  | 0, _, _, _, _ => none
  | k + 1, x0, x1, x5, x33 => if x33 = true then (some 0) else (if x5 = true then (some (-1)) else (if x0.toList = ([83] : List UInt8) then (if 0 < (x1.length : Int) then (impl_signDepth.j3 k x0 x1 ((rd x1 0) == 1)) else (none)) else (if x0.toList = ([77] : List UInt8) then (if 0 < (x1.length : Int) then (impl_signDepth.j3 k x0 x1 ((rd x1 0) == 1)) else (none)) else (impl_signDepth.j3 k x0 x1 false))))
def impl_signDepth.j3 : Nat → ByteArray → List Int → Bool → Option (Int)
  | 0, _, _, _ => none
  | k + 1, x0, x1, x58 => if x58 = true then (impl_signDepth.j4 k x0 x1 x58) else (if x0.toList = ([78] : List UInt8) then (if 0 < (x1.length : Int) then (impl_signDepth.j4 k x0 x1 (decide ((rd x1 0) ≥ 1))) else (none)) else (impl_signDepth.j4 k x0 x1 false))
def impl_signDepth.j4 : Nat → ByteArray → List Int → Bool → Option (Int)
  | 0, _, _, _ => none
  | k + 1, x0, x1, x58 => if x58 = true then (some 0) else (if x0.toList = ([73] : List UInt8) then (if 0 < (x1.length : Int) then (impl_signDepth.j5 k x0 x1 ((rd x1 0) == 0)) else (none)) else (impl_signDepth.j5 k x0 x1 false))
def impl_signDepth.j5 : Nat → ByteArray → List Int → Bool → Option (Int)
  | 0, _, _, _ => none
  | k + 1, x0, x1, x79 => if x79 = true then (impl_signDepth.j6 k x0 x1 x79) else (if x0.toList = ([80] : List UInt8) then (if 0 < (x1.length : Int) then (impl_signDepth.j6 k x0 x1 ((rd x1 0) == 1)) else (none)) else (impl_signDepth.j6 k x0 x1 false))
def impl_signDepth.j6 : Nat → ByteArray → List Int → Bool → Option (Int)
  | 0, _, _, _ => none
  | k + 1, x0, x1, x79 => if x79 = true then (some 1) else (if x0.toList = ([82] : List UInt8) then (if 0 < (x1.length : Int) then (impl_signDepth.j7 k x0 x1 (decide ((rd x1 0) ≥ 1))) else (none)) else (impl_signDepth.j7 k x0 x1 false))
def impl_signDepth.j7 : Nat → ByteArray → List Int → Bool → Option (Int)
  | 0, _, _, _ => none
  | k + 1, x0, x1, x96 => if x96 = true then (if 0 < (x1.length : Int) then (some (rd x1 0)) else (none)) else (if x0.toList = ([67] : List UInt8) then (if 0 < (x1.length : Int) then (if (rd x1 0) ≥ 2 then (some (wrap64 ((rd x1 0) - 1))) else (some (-1))) else (none)) else (some (-1)))
end
def impl_signDepth.f (k : Nat) (a0 : ByteArray) (l1 : List Int) : Option (Int) := if (l1.length : Int) = 0 then (impl_signDepth.j0 k a0 l1 ((l1.length : Int) == 2) true) else (if (l1.length : Int) > 2 then (impl_signDepth.j0 k a0 l1 ((l1.length : Int) == 2) true) else (if 0 < (l1.length : Int) then (if (rd l1 0) < 0 then (impl_signDepth.j0 k a0 l1 ((l1.length : Int) == 2) true) else (if (l1.length : Int) = 2 then (if 1 < (l1.length : Int) then (impl_signDepth.j0 k a0 l1 ((l1.length : Int) == 2) ((rd l1 1) != 0)) else (none)) else (impl_signDepth.j0 k a0 l1 ((l1.length : Int) == 2) false))) else (none)))
theorem impl_signDepth.mono_l : ∀ k, (∀ y0 y1 y2 y3, LeO (impl_signDepth.j0 k y0 y1 y2 y3) (impl_signDepth.j0 (k + 1) y0 y1 y2 y3)) ∧ (∀ y0 y1 y2 y3, LeO (impl_signDepth.j1 k y0 y1 y2 y3) (impl_signDepth.j1 (k + 1) y0 y1 y2 y3)) ∧ (∀ y0 y1 y2 y3, LeO (impl_signDepth.j2 k y0 y1 y2 y3) (impl_signDepth.j2 (k + 1) y0 y1 y2 y3)) ∧ (∀ y0 y1 y2, LeO (impl_signDepth.j3 k y0 y1 y2) (impl_signDepth.j3 (k + 1) y0 y1 y2)) ∧ (∀ y0 y1 y2, LeO (impl_signDepth.j4 k y0 y1 y2) (impl_signDepth.j4 (k + 1) y0 y1 y2)) ∧ (∀ y0 y1 y2, LeO (impl_signDepth.j5 k y0 y1 y2) (impl_signDepth.j5 (k + 1) y0 y1 y2)) ∧ (∀ y0 y1 y2, LeO (impl_signDepth.j6 k y0 y1 y2) (impl_signDepth.j6 (k + 1) y0 y1 y2)) ∧ (∀ y0 y1 y2, LeO (impl_signDepth.j7 k y0 y1 y2) (impl_signDepth.j7 (k + 1) y0 y1 y2))
  | 0 => ⟨fun _ _ _ _ r h => by simp [impl_signDepth.j0] at h, fun _ _ _ _ r h => by simp [impl_signDepth.j1] at h, fun _ _ _ _ r h => by simp [impl_signDepth.j2] at h, fun _ _ _ r h => by simp [impl_signDepth.j3] at h, fun _ _ _ r h => by simp [impl_signDepth.j4] at h, fun _ _ _ r h => by simp [impl_signDepth.j5] at h, fun _ _ _ r h => by simp [impl_signDepth.j6] at h, fun _ _ _ r h => by simp [impl_signDepth.j7] at h⟩
  | k + 1 => by
    obtain ⟨ih0, ih1, ih2, ih3, ih4, ih5, ih6, ih7⟩ := impl_signDepth.mono_l k
    refine ⟨?_, ?_, ?_, ?_, ?_, ?_, ?_, ?_⟩
    · intro y0 y1 y2 y3
      unfold impl_signDepth.j0
      repeat' first
      | (with_reducible exact ih0 _ _ _ _)
      | (with_reducible exact ih1 _ _ _ _)
      | (with_reducible exact ih2 _ _ _ _)
      | (with_reducible exact ih3 _ _ _)
      | (with_reducible exact ih4 _ _ _)
      | (with_reducible exact ih5 _ _ _)
      | (with_reducible exact ih6 _ _ _)
      | (with_reducible exact ih7 _ _ _)
      | (with_reducible exact LeO.refl _)
      | (with_reducible exact LeO.none _)
      | (with_reducible refine LeO.ite ?_ ?_)
      | (with_reducible refine LeO.bind ?_ (fun _ => ?_))
      | exact ih0 _ _ _ _
      | exact ih1 _ _ _ _
      | exact ih2 _ _ _ _
      | exact ih3 _ _ _
      | exact ih4 _ _ _
      | exact ih5 _ _ _
      | exact ih6 _ _ _
      | exact ih7 _ _ _
      | exact LeO.none _
      | refine LeO.ite ?_ ?_
      | refine LeO.bind ?_ (fun _ => ?_)
    · intro y0 y1 y2 y3
      unfold impl_signDepth.j1
      repeat' first
      | (with_reducible exact ih0 _ _ _ _)
      | (with_reducible exact ih1 _ _ _ _)
      | (with_reducible exact ih2 _ _ _ _)
      | (with_reducible exact ih3 _ _ _)
      | (with_reducible exact ih4 _ _ _)
      | (with_reducible exact ih5 _ _ _)
      | (with_reducible exact ih6 _ _ _)
      | (with_reducible exact ih7 _ _ _)
      | (with_reducible exact LeO.refl _)
      | (with_reducible exact LeO.none _)
      | (with_reducible refine LeO.ite ?_ ?_)
      | (with_reducible refine LeO.bind ?_ (fun _ => ?_))
      | exact ih0 _ _ _ _
      | exact ih1 _ _ _ _
      | exact ih2 _ _ _ _
      | exact ih3 _ _ _
      | exact ih4 _ _ _
      | exact ih5 _ _ _
      | exact ih6 _ _ _
      | exact ih7 _ _ _
      | exact LeO.none _
      | refine LeO.ite ?_ ?_
      | refine LeO.bind ?_ (fun _ => ?_)
    · intro y0 y1 y2 y3
      unfold impl_signDepth.j2
      repeat' first
      | (with_reducible exact ih0 _ _ _ _)
      | (with_reducible exact ih1 _ _ _ _)
      | (with_reducible exact ih2 _ _ _ _)
      | (with_reducible exact ih3 _ _ _)
      | (with_reducible exact ih4 _ _ _)
      | (with_reducible exact ih5 _ _ _)
      | (with_reducible exact ih6 _ _ _)
      | (with_reducible exact ih7 _ _ _)
      | (with_reducible exact LeO.refl _)
      | (with_reducible exact LeO.none _)
      | (with_reducible refine LeO.ite ?_ ?_)
      | (with_reducible refine LeO.bind ?_ (fun _ => ?_))
      | exact ih0 _ _ _ _
      | exact ih1 _ _ _ _
      | exact ih2 _ _ _ _
      | exact ih3 _ _ _
      | exact ih4 _ _ _
      | exact ih5 _ _ _
      | exact ih6 _ _ _
      | exact ih7 _ _ _
      | exact LeO.none _
      | refine LeO.ite ?_ ?_
      | refine LeO.bind ?_ (fun _ => ?_)
    · intro y0 y1 y2
      unfold impl_signDepth.j3
      repeat' first
      | (with_reducible exact ih0 _ _ _ _)
      | (with_reducible exact ih1 _ _ _ _)
      | (with_reducible exact ih2 _ _ _ _)
      | (with_reducible exact ih3 _ _ _)
      | (with_reducible exact ih4 _ _ _)
      | (with_reducible exact ih5 _ _ _)
      | (with_reducible exact ih6 _ _ _)
      | (with_reducible exact ih7 _ _ _)
      | (with_reducible exact LeO.refl _)
      | (with_reducible exact LeO.none _)
      | (with_reducible refine LeO.ite ?_ ?_)
      | (with_reducible refine LeO.bind ?_ (fun _ => ?_))
      | exact ih0 _ _ _ _
      | exact ih1 _ _ _ _
      | exact ih2 _ _ _ _
      | exact ih3 _ _ _
      | exact ih4 _ _ _
      | exact ih5 _ _ _
      | exact ih6 _ _ _
      | exact ih7 _ _ _
      | exact LeO.none _
      | refine LeO.ite ?_ ?_
      | refine LeO.bind ?_ (fun _ => ?_)
    · intro y0 y1 y2
      unfold impl_signDepth.j4
      repeat' first
      | (with_reducible exact ih0 _ _ _ _)
      | (with_reducible exact ih1 _ _ _ _)
      | (with_reducible exact ih2 _ _ _ _)
      | (with_reducible exact ih3 _ _ _)
      | (with_reducible exact ih4 _ _ _)
      | (with_reducible exact ih5 _ _ _)
      | (with_reducible exact ih6 _ _ _)
      | (with_reducible exact ih7 _ _ _)
      | (with_reducible exact LeO.refl _)
      | (with_reducible exact LeO.none _)
      | (with_reducible refine LeO.ite ?_ ?_)
      | (with_reducible refine LeO.bind ?_ (fun _ => ?_))
      | exact ih0 _ _ _ _
      | exact ih1 _ _ _ _
      | exact ih2 _ _ _ _
      | exact ih3 _ _ _
      | exact ih4 _ _ _
      | exact ih5 _ _ _
      | exact ih6 _ _ _
      | exact ih7 _ _ _
      | exact LeO.none _
      | refine LeO.ite ?_ ?_
      | refine LeO.bind ?_ (fun _ => ?_)
    · intro y0 y1 y2
      unfold impl_signDepth.j5
      repeat' first
      | (with_reducible exact ih0 _ _ _ _)
      | (with_reducible exact ih1 _ _ _ _)
      | (with_reducible exact ih2 _ _ _ _)
      | (with_reducible exact ih3 _ _ _)
      | (with_reducible exact ih4 _ _ _)
      | (with_reducible exact ih5 _ _ _)
      | (with_reducible exact ih6 _ _ _)
      | (with_reducible exact ih7 _ _ _)
      | (with_reducible exact LeO.refl _)
      | (with_reducible exact LeO.none _)
      | (with_reducible refine LeO.ite ?_ ?_)
      | (with_reducible refine LeO.bind ?_ (fun _ => ?_))
      | exact ih0 _ _ _ _
      | exact ih1 _ _ _ _
      | exact ih2 _ _ _ _
      | exact ih3 _ _ _
      | exact ih4 _ _ _
      | exact ih5 _ _ _
      | exact ih6 _ _ _
      | exact ih7 _ _ _
      | exact LeO.none _
      | refine LeO.ite ?_ ?_
      | refine LeO.bind ?_ (fun _ => ?_)
    · intro y0 y1 y2
      unfold impl_signDepth.j6
      repeat' first
      | (with_reducible exact ih0 _ _ _ _)
      | (with_reducible exact ih1 _ _ _ _)
      | (with_reducible exact ih2 _ _ _ _)
      | (with_reducible exact ih3 _ _ _)
      | (with_reducible exact ih4 _ _ _)
      | (with_reducible exact ih5 _ _ _)
      | (with_reducible exact ih6 _ _ _)
      | (with_reducible exact ih7 _ _ _)
      | (with_reducible exact LeO.refl _)
      | (with_reducible exact LeO.none _)
      | (with_reducible refine LeO.ite ?_ ?_)
      | (with_reducible refine LeO.bind ?_ (fun _ => ?_))
      | exact ih0 _ _ _ _
      | exact ih1 _ _ _ _
      | exact ih2 _ _ _ _
      | exact ih3 _ _ _
      | exact ih4 _ _ _
      | exact ih5 _ _ _
      | exact ih6 _ _ _
      | exact ih7 _ _ _
      | exact LeO.none _
      | refine LeO.ite ?_ ?_
      | refine LeO.bind ?_ (fun _ => ?_)
    · intro y0 y1 y2
      unfold impl_signDepth.j7
      repeat' first
      | (with_reducible exact ih0 _ _ _ _)
      | (with_reducible exact ih1 _ _ _ _)
      | (with_reducible exact ih2 _ _ _ _)
      | (with_reducible exact ih3 _ _ _)
      | (with_reducible exact ih4 _ _ _)
      | (with_reducible exact ih5 _ _ _)
      | (with_reducible exact ih6 _ _ _)
      | (with_reducible exact ih7 _ _ _)
      | (with_reducible exact LeO.refl _)
      | (with_reducible exact LeO.none _)
      | (with_reducible refine LeO.ite ?_ ?_)
      | (with_reducible refine LeO.bind ?_ (fun _ => ?_))
      | exact ih0 _ _ _ _
      | exact ih1 _ _ _ _
      | exact ih2 _ _ _ _
      | exact ih3 _ _ _
      | exact ih4 _ _ _
      | exact ih5 _ _ _
      | exact ih6 _ _ _
      | exact ih7 _ _ _
      | exact LeO.none _
      | refine LeO.ite ?_ ?_
      | refine LeO.bind ?_ (fun _ => ?_)
theorem impl_signDepth.mono : ∀ a0 a1 k, LeO (impl_signDepth.f k a0 a1) (impl_signDepth.f (k + 1) a0 a1) := by
  intro a0 a1 k
  obtain ⟨ih0, ih1, ih2, ih3, ih4, ih5, ih6, ih7⟩ := impl_signDepth.mono_l k
  unfold impl_signDepth.f
  repeat' first
      | (with_reducible exact ih0 _ _ _ _)
      | (with_reducible exact ih1 _ _ _ _)
      | (with_reducible exact ih2 _ _ _ _)
      | (with_reducible exact ih3 _ _ _)
      | (with_reducible exact ih4 _ _ _)
      | (with_reducible exact ih5 _ _ _)
      | (with_reducible exact ih6 _ _ _)
      | (with_reducible exact ih7 _ _ _)
      | (with_reducible exact LeO.refl _)
      | (with_reducible exact LeO.none _)
      | (with_reducible refine LeO.ite ?_ ?_)
      | (with_reducible refine LeO.bind ?_ (fun _ => ?_))
      | exact ih0 _ _ _ _
      | exact ih1 _ _ _ _
      | exact ih2 _ _ _ _
      | exact ih3 _ _ _
      | exact ih4 _ _ _
      | exact ih5 _ _ _
      | exact ih6 _ _ _
      | exact ih7 _ _ _
      | exact LeO.none _
      | refine LeO.ite ?_ ?_
      | refine LeO.bind ?_ (fun _ => ?_)
abbrev W40 (r : Int) (w : World) (ro : Nat → Prop) (B : Nat) (p : List Nat) (j : List (St → Prop)) (σ : St) : Prop := Kp (WS TE (cx0 Tryz.f40 none w ro B) (stkAt p j (bodyOf Tryz.f40) []) σ (RetQ TE Tryz.f40 none [.ro (.i r)] [] w ro B))
def S40j0 (k : Nat) : Prop := ∀ r w ro B (_ : Fr TE (cx0 Tryz.f40 none w ro B)) x0 x1 x5 x9 (_ : impl_signDepth.j0 k x0 x1 x5 x9 = some r), W40 r w ro B [1, 1, 0, 0, 0, 9] [] ⟨[(0, .v (.string x0)), (1, .sl 1 (rX (cI .i64) x1)), (5, .v (.bool x5)), (9, .v (.bool x9))], []⟩
def S40j1 (k : Nat) : Prop := ∀ r w ro B (_ : Fr TE (cx0 Tryz.f40 none w ro B)) x0 x1 x5 x33 (_ : impl_signDepth.j1 k x0 x1 x5 x33 = some r), W40 r w ro B [1, 1, 0, 0, 1, 1, 0, 0, 9] [] ⟨[(0, .v (.string x0)), (1, .sl 1 (rX (cI .i64) x1)), (5, .v (.bool x5)), (33, .v (.bool x33))], []⟩
def S40j2 (k : Nat) : Prop := ∀ r w ro B (_ : Fr TE (cx0 Tryz.f40 none w ro B)) x0 x1 x5 x33 (_ : impl_signDepth.j2 k x0 x1 x5 x33 = some r), W40 r w ro B [1, 1, 0, 0, 1, 1, 0, 1, 9] [] ⟨[(0, .v (.string x0)), (1, .sl 1 (rX (cI .i64) x1)), (5, .v (.bool x5)), (33, .v (.bool x33))], []⟩
def S40j3 (k : Nat) : Prop := ∀ r w ro B (_ : Fr TE (cx0 Tryz.f40 none w ro B)) x0 x1 x58 (_ : impl_signDepth.j3 k x0 x1 x58 = some r), W40 r w ro B [1, 1, 0, 0, 1, 1, 1, 1, 1, 1, 0, 0, 9] [] ⟨[(0, .v (.string x0)), (1, .sl 1 (rX (cI .i64) x1)), (58, .v (.bool x58))], []⟩
def S40j4 (k : Nat) : Prop := ∀ r w ro B (_ : Fr TE (cx0 Tryz.f40 none w ro B)) x0 x1 x58 (_ : impl_signDepth.j4 k x0 x1 x58 = some r), W40 r w ro B [1, 1, 0, 0, 1, 1, 1, 1, 1, 1, 0, 1, 9] [] ⟨[(0, .v (.string x0)), (1, .sl 1 (rX (cI .i64) x1)), (58, .v (.bool x58))], []⟩
def S40j5 (k : Nat) : Prop := ∀ r w ro B (_ : Fr TE (cx0 Tryz.f40 none w ro B)) x0 x1 x79 (_ : impl_signDepth.j5 k x0 x1 x79 = some r), W40 r w ro B [1, 1, 0, 0, 1, 1, 1, 1, 1, 1, 1, 1, 0, 0, 9] [] ⟨[(0, .v (.string x0)), (1, .sl 1 (rX (cI .i64) x1)), (79, .v (.bool x79))], []⟩
def S40j6 (k : Nat) : Prop := ∀ r w ro B (_ : Fr TE (cx0 Tryz.f40 none w ro B)) x0 x1 x79 (_ : impl_signDepth.j6 k x0 x1 x79 = some r), W40 r w ro B [1, 1, 0, 0, 1, 1, 1, 1, 1, 1, 1, 1, 0, 1, 9] [] ⟨[(0, .v (.string x0)), (1, .sl 1 (rX (cI .i64) x1)), (79, .v (.bool x79))], []⟩
def S40j7 (k : Nat) : Prop := ∀ r w ro B (_ : Fr TE (cx0 Tryz.f40 none w ro B)) x0 x1 x96 (_ : impl_signDepth.j7 k x0 x1 x96 = some r), W40 r w ro B [1, 1, 0, 0, 1, 1, 1, 1, 1, 1, 1, 1, 1, 1, 0, 9] [] ⟨[(0, .v (.string x0)), (1, .sl 1 (rX (cI .i64) x1)), (96, .v (.bool x96))], []⟩
structure C40 (k : Nat) : Prop where
 s_j0 : S40j0 k
 s_j1 : S40j1 k
 s_j2 : S40j2 k
 s_j3 : S40j3 k
 s_j4 : S40j4 k
 s_j5 : S40j5 k
 s_j6 : S40j6 k
 s_j7 : S40j7 k
theorem c40j0 (k : Nat) (ih : Kp (∀ m, m < k → C40 m)) : S40j0 k := by
 intro r w ro B hF
 intro x0 x1 x5 x9 h
 refine ⟨?_⟩
 cases k with
 | zero => simp [impl_signDepth.j0] at h
 | succ k =>
 simp only [impl_signDepth.j0] at h
 rcases ic h with ⟨c7, h⟩ | ⟨c7, h⟩
 · refine pk 4 hF [.t] [] rfl KD ?_
   cases h
   exact rr [.ro] rfl KD
 · rcases ic h with ⟨c8, h⟩ | ⟨c8, h⟩
   · obtain ⟨t442, q9, h⟩ := ib h
     have q9c := strings_Contains.ctr _ _ _ q9
     rcases ic h with ⟨c10, h⟩ | ⟨c10, h⟩
     · obtain ⟨c11, h⟩ := ig h
       refine pk 4 hF [.f, .t, .t, .r [.ro (.v (.bool t442))] [], .t, .t, .t, .e 41 (.rf [.i (rd x1 0)]), .t, .t, .t] [] rfl KD ?_
       exact WS.can [] ((ih.a.s_j1  r w ro B hF x0 x1 x5 ((rd x1 0) == 0) h).out) KD
     · refine pk 4 hF [.f, .t, .t, .r [.ro (.v (.bool t442))] [], .t, .f, .f, .f, .f, .f] [] rfl KD ?_
       exact WS.can [] ((ih.a.s_j1  r w ro B hF x0 x1 x5 false h).out) KD
   · refine pk 4 hF [.f, .f, .f, .f, .f, .f, .f, .f, .f] [] rfl KD ?_
     exact WS.can [] ((ih.a.s_j1  r w ro B hF x0 x1 x5 false h).out) KD
theorem c40j1 (k : Nat) (ih : Kp (∀ m, m < k → C40 m)) : S40j1 k := by
 intro r w ro B hF
 intro x0 x1 x5 x33 h
 refine ⟨?_⟩
 cases k with
 | zero => simp [impl_signDepth.j1] at h
 | succ k =>
 simp only [impl_signDepth.j1] at h
 rcases ic h with ⟨c12, h⟩ | ⟨c12, h⟩
 · refine pk 2 hF [.t] [] rfl KD ?_
   exact WS.can [] ((ih.a.s_j2  r w ro B hF x0 x1 x5 x33 h).out) KD
 · rcases ic h with ⟨c13, h⟩ | ⟨c13, h⟩
   · rcases ic h with ⟨c14, h⟩ | ⟨c14, h⟩
     · obtain ⟨c15, h⟩ := ig h
       refine pk 2 hF [.f, .t, .t, .t, .t, .t, .e 52 (.rf [.i (rd x1 0)]), .t, .t, .t] [] rfl KD ?_
       exact WS.can [] ((ih.a.s_j2  r w ro B hF x0 x1 x5 ((rd x1 0) == 1) h).out) KD
     · refine pk 2 hF [.f, .t, .t, .t, .f, .f, .f, .f, .f] [] rfl KD ?_
       exact WS.can [] ((ih.a.s_j2  r w ro B hF x0 x1 x5 false h).out) KD
   · refine pk 2 hF [.f, .f, .f, .f, .f, .f, .f, .f, .f] [] rfl KD ?_
     exact WS.can [] ((ih.a.s_j2  r w ro B hF x0 x1 x5 false h).out) KD
theorem c40j2 (k : Nat) (ih : Kp (∀ m, m < k → C40 m)) : S40j2 k := by
 intro r w ro B hF
 intro x0 x1 x5 x33 h
 refine ⟨?_⟩
 cases k with
 | zero => simp [impl_signDepth.j2] at h
 | succ k =>
 simp only [impl_signDepth.j2] at h
 rcases ic h with ⟨c16, h⟩ | ⟨c16, h⟩
 · refine pk 4 hF [.t] [] rfl KD ?_
   cases h
   exact rr [.ro] rfl KD
 · rcases ic h with ⟨c17, h⟩ | ⟨c17, h⟩
   · refine pk 7 hF [.f, .t] [] rfl KD ?_
     cases h
     exact rr [.ro] rfl KD
   · rcases ic h with ⟨c18, h⟩ | ⟨c18, h⟩
     · obtain ⟨c19, h⟩ := ig h
       refine pk 7 hF [.f, .f, .t, .t, .t, .t, .t, .e 67 (.rf [.i (rd x1 0)]), .t, .t, .t] [] rfl KD ?_
       exact WS.can [] ((ih.a.s_j3  r w ro B hF x0 x1 ((rd x1 0) == 1) h).out) KD
     · rcases ic h with ⟨c20, h⟩ | ⟨c20, h⟩
       · obtain ⟨c21, h⟩ := ig h
         refine pk 7 hF [.f, .f, .f, .f, .f, .t, .t, .e 67 (.rf [.i (rd x1 0)]), .t, .t, .t] [] rfl KD ?_
         exact WS.can [] ((ih.a.s_j3  r w ro B hF x0 x1 ((rd x1 0) == 1) h).out) KD
       · refine pk 7 hF [.f, .f, .f, .f, .f, .f, .f, .f, .f, .f] [] rfl KD ?_
         exact WS.can [] ((ih.a.s_j3  r w ro B hF x0 x1 false h).out) KD
theorem c40j3 (k : Nat) (ih : Kp (∀ m, m < k → C40 m)) : S40j3 k := by
 intro r w ro B hF
 intro x0 x1 x58 h
 refine ⟨?_⟩
 cases k with
 | zero => simp [impl_signDepth.j3] at h
 | succ k =>
 simp only [impl_signDepth.j3] at h
 rcases ic h with ⟨c22, h⟩ | ⟨c22, h⟩
 · refine pk 2 hF [.t] [] rfl KD ?_
   exact WS.can [] ((ih.a.s_j4  r w ro B hF x0 x1 x58 h).out) KD
 · rcases ic h with ⟨c23, h⟩ | ⟨c23, h⟩
   · obtain ⟨c24, h⟩ := ig h
     refine pk 2 hF [.f, .t, .t, .e 75 (.rf [.i (rd x1 0)]), .t, .t, .t] [] rfl KD ?_
     exact WS.can [] ((ih.a.s_j4  r w ro B hF x0 x1 (decide ((rd x1 0) ≥ 1)) h).out) KD
   · refine pk 2 hF [.f, .f, .f, .f, .f, .f] [] rfl KD ?_
     exact WS.can [] ((ih.a.s_j4  r w ro B hF x0 x1 false h).out) KD
theorem c40j4 (k : Nat) (ih : Kp (∀ m, m < k → C40 m)) : S40j4 k := by
 intro r w ro B hF
 intro x0 x1 x58 h
 refine ⟨?_⟩
 cases k with
 | zero => simp [impl_signDepth.j4] at h
 | succ k =>
 simp only [impl_signDepth.j4] at h
 rcases ic h with ⟨c25, h⟩ | ⟨c25, h⟩
 · refine pk 4 hF [.t] [] rfl KD ?_
   cases h
   exact rr [.ro] rfl KD
 · rcases ic h with ⟨c26, h⟩ | ⟨c26, h⟩
   · obtain ⟨c27, h⟩ := ig h
     refine pk 4 hF [.f, .t, .t, .e 84 (.rf [.i (rd x1 0)]), .t, .t, .t] [] rfl KD ?_
     exact WS.can [] ((ih.a.s_j5  r w ro B hF x0 x1 ((rd x1 0) == 0) h).out) KD
   · refine pk 4 hF [.f, .f, .f, .f, .f, .f] [] rfl KD ?_
     exact WS.can [] ((ih.a.s_j5  r w ro B hF x0 x1 false h).out) KD
theorem c40j5 (k : Nat) (ih : Kp (∀ m, m < k → C40 m)) : S40j5 k := by
 intro r w ro B hF
 intro x0 x1 x79 h
 refine ⟨?_⟩
 cases k with
 | zero => simp [impl_signDepth.j5] at h
 | succ k =>
 simp only [impl_signDepth.j5] at h
 rcases ic h with ⟨c28, h⟩ | ⟨c28, h⟩
 · refine pk 2 hF [.t] [] rfl KD ?_
   exact WS.can [] ((ih.a.s_j6  r w ro B hF x0 x1 x79 h).out) KD
 · rcases ic h with ⟨c29, h⟩ | ⟨c29, h⟩
   · obtain ⟨c30, h⟩ := ig h
     refine pk 2 hF [.f, .t, .t, .e 92 (.rf [.i (rd x1 0)]), .t, .t, .t] [] rfl KD ?_
     exact WS.can [] ((ih.a.s_j6  r w ro B hF x0 x1 ((rd x1 0) == 1) h).out) KD
   · refine pk 2 hF [.f, .f, .f, .f, .f, .f] [] rfl KD ?_
     exact WS.can [] ((ih.a.s_j6  r w ro B hF x0 x1 false h).out) KD
theorem c40j6 (k : Nat) (ih : Kp (∀ m, m < k → C40 m)) : S40j6 k := by
 intro r w ro B hF
 intro x0 x1 x79 h
 refine ⟨?_⟩
 cases k with
 | zero => simp [impl_signDepth.j6] at h
 | succ k =>
 simp only [impl_signDepth.j6] at h
 rcases ic h with ⟨c31, h⟩ | ⟨c31, h⟩
 · refine pk 4 hF [.t] [] rfl KD ?_
   cases h
   exact rr [.ro] rfl KD
 · rcases ic h with ⟨c32, h⟩ | ⟨c32, h⟩
   · obtain ⟨c33, h⟩ := ig h
     refine pk 3 hF [.f, .t, .t, .e 101 (.rf [.i (rd x1 0)]), .t, .t, .t] [] rfl KD ?_
     exact WS.can [] ((ih.a.s_j7  r w ro B hF x0 x1 (decide ((rd x1 0) ≥ 1)) h).out) KD
   · refine pk 3 hF [.f, .f, .f, .f, .f, .f] [] rfl KD ?_
     exact WS.can [] ((ih.a.s_j7  r w ro B hF x0 x1 false h).out) KD
theorem c40j7 (k : Nat) (ih : Kp (∀ m, m < k → C40 m)) : S40j7 k := by
 intro r w ro B hF
 intro x0 x1 x96 h
 refine ⟨?_⟩
 cases k with
 | zero => simp [impl_signDepth.j7] at h
 | succ k =>
 simp only [impl_signDepth.j7] at h
 rcases ic h with ⟨c34, h⟩ | ⟨c34, h⟩
 · obtain ⟨c35, h⟩ := ig h
   refine pk 4 hF [.t, .e 106 (.rf [.i (rd x1 0)])] [] rfl KD ?_
   cases h
   exact rr [.ro] rfl KD
 · rcases ic h with ⟨c36, h⟩ | ⟨c36, h⟩
   · obtain ⟨c37, h⟩ := ig h
     rcases ic h with ⟨c38, h⟩ | ⟨c38, h⟩
     · refine pk 7 hF [.f, .t, .t, .e 113 (.rf [.i (rd x1 0)]), .t, .t, .t, .t, .e 118 (.rf [.i (rd x1 0)])] [] rfl KD ?_
       cases h
       exact rr [.ro] rfl KD
     · refine pk 9 hF [.f, .t, .t, .e 113 (.rf [.i (rd x1 0)]), .t, .t, .t, .f] [] rfl KD ?_
       cases h
       exact rr [.ro] rfl KD
   · refine pk 9 hF [.f, .f, .f, .f, .f, .f, .f] [] rfl KD ?_
     cases h
     exact rr [.ro] rfl KD
theorem cs40 (k : Nat) : C40 k := by
 induction k using Nat.strongRecOn with
 | _ k ih0 =>
 have ih : Kp (∀ m, m < k → C40 m) := ⟨ih0⟩
 exact ⟨c40j0 k ih, c40j1 k ih, c40j2 k ih, c40j3 k ih, c40j4 k ih, c40j5 k ih, c40j6 k ih, c40j7 k ih⟩
theorem impl_signDepth.ctr (k : Nat) (a0 : ByteArray) (l1 : List Int) (r : Int) (h : impl_signDepth.f k a0 l1 = some r) : Ctr TE 40 none [.v (.string a0), .sl 1 (rX (cI .i64) l1)] [.ro (.i r)] [] := by
 refine co Tryz.func40 (by kernel_rfl) (by kernel_rfl) fun w ro B hF => ?_
 have ih : Kp (∀ m, m < k + 1 → C40 m) := ⟨fun m _ => cs40 m⟩
 simp only [impl_signDepth.f] at h
 rcases ic h with ⟨c1, h⟩ | ⟨c1, h⟩
 · refine pk 8 hF [.e 7 (.i (l1.length : Int)), .e 11 (.i (l1.length : Int)), .t, .t, .t, .t, .t, .t, .t, .t, .t, .t, .t, .t, .t] [] rfl KD ?_
   exact WS.can [] ((ih.a.s_j0  r w ro B hF a0 l1 ((l1.length : Int) == 2) true h).out) KD
 · rcases ic h with ⟨c2, h⟩ | ⟨c2, h⟩
   · refine pk 8 hF [.e 7 (.i (l1.length : Int)), .e 11 (.i (l1.length : Int)), .f, .f, .e 15 (.i (l1.length : Int)), .f, .f, .t, .t, .t, .t, .t, .t, .t, .t, .t] [] rfl KD ?_
     exact WS.can [] ((ih.a.s_j0  r w ro B hF a0 l1 ((l1.length : Int) == 2) true h).out) KD
   · obtain ⟨c3, h⟩ := ig h
     rcases ic h with ⟨c4, h⟩ | ⟨c4, h⟩
     · refine pk 8 hF [.e 7 (.i (l1.length : Int)), .e 11 (.i (l1.length : Int)), .f, .f, .e 15 (.i (l1.length : Int)), .f, .f, .f, .f, .e 20 (.rf [.i (rd l1 0)]), .f, .f, .f, .t, .t, .t, .t] [] rfl KD ?_
       exact WS.can [] ((ih.a.s_j0  r w ro B hF a0 l1 ((l1.length : Int) == 2) true h).out) KD
     · rcases ic h with ⟨c5, h⟩ | ⟨c5, h⟩
       · obtain ⟨c6, h⟩ := ig h
         refine pk 8 hF [.e 7 (.i (l1.length : Int)), .e 11 (.i (l1.length : Int)), .f, .f, .e 15 (.i (l1.length : Int)), .f, .f, .f, .f, .e 20 (.rf [.i (rd l1 0)]), .f, .f, .f, .f, .f, .t, .t, .e 28 (.rf [.i (rd l1 1)]), .t, .t, .f, .t, .f] [] rfl KD ?_
         exact WS.can [] ((ih.a.s_j0  r w ro B hF a0 l1 ((l1.length : Int) == 2) ((rd l1 1) != 0) h).out) KD
       · refine pk 8 hF [.e 7 (.i (l1.length : Int)), .e 11 (.i (l1.length : Int)), .f, .f, .e 15 (.i (l1.length : Int)), .f, .f, .f, .f, .e 20 (.rf [.i (rd l1 0)]), .f, .f, .f, .f, .f, .f, .f, .f, .f, .f, .f, .f] [] rfl KD ?_
         exact WS.can [] ((ih.a.s_j0  r w ro B hF a0 l1 ((l1.length : Int) == 2) false h).out) KD
mutual
def impl_raised.l0 : Nat → List (S70) → List Int → Int → Int → List (List Int) → List Int → Option ((List (S70)))
  | 0, _, _, _, _, _, _ => none
  | k + 1, x5, x17, x18, x19, x455000, x455001 => if x19 < x18 then (if 0 ≤ x19 then (if x19 < (x17.length : Int) then (if x5.length < 4398046511104 then (impl_raised.l0 k (x5 ++ [(⟨rd x17 x19, ([] : List (S70))⟩ : S70)]) x17 x18 (wrap64 (x19 + 1)) x455000 x455001) else (none)) else (none)) else (none)) else (impl_raised.l1 k x5 (wrap64 ((x455000.length : Int) - 1)) x455000 x455001)
def impl_raised.l1 : Nat → List (S70) → Int → List (List Int) → List Int → Option ((List (S70)))
  | 0, _, _, _, _ => none
  | k + 1, x5, x8, x455000, x455001 => if x8 ≥ 0 then (if 0 ≤ x8 then (if x8 < (x455000.length : Int) then (impl_raised.l2 k x5 x8 (([] : List (S70))) (rd_L1 x455000 x8) ((rd_L1 x455000 x8).length : Int) 0 x455000 x455001) else (none)) else (none)) else (some x5)
def impl_raised.l2 : Nat → List (S70) → Int → List (S70) → List Int → Int → Int → List (List Int) → List Int → Option ((List (S70)))
  | 0, _, _, _, _, _, _, _, _ => none
  | k + 1, x5, x8, x9, x42, x43, x44, x455000, x455001 => if x44 < x43 then (if 0 ≤ x44 then (if x44 < (x42.length : Int) then (if 0 ≤ (rd x42 x44) then (if (rd x42 x44) ≤ (x5.length : Int) then (if x9.length < 4398046511104 then (impl_raised.l2 k (x5.drop ((rd x42 x44) : Int).toNat) x8 (x9 ++ [(⟨0, (x5.take ((rd x42 x44) : Int).toNat)⟩ : S70)]) x42 x43 (wrap64 (x44 + 1)) x455000 x455001) else (none)) else (none)) else (none)) else (none)) else (none)) else (impl_raised.l1 k x9 (wrap64 (x8 - 1)) x455000 x455001)
end
def impl_raised.f (k : Nat) (l0_0 : List (List Int)) (l0_1 : List Int) (a1 : Int) : Option ((List (S70))) := if 0 ≤ (l0_1.length : Int) then (if ((l0_1.length : Int) : Int).toNat ≤ 8796093022208 then (impl_raised.l0 k (List.replicate 0 z70) l0_1 (l0_1.length : Int) 0 l0_0 l0_1) else (none)) else (none)
def I66_0 (r : List (S70)) (m : Nat) (σ : St) : Prop := ∃ (x5 : List (S70)) (x17 : List Int) (x18 : Int) (x19 : Int) (x455000 : List (List Int)) (x455001 : List Int), impl_raised.l0 m x5 x17 x18 x19 x455000 x455001 = some r ∧ σ = ⟨[(2, .pt 1002 0 0), (5, .ow 1005 0), (17, .sl 1 (rX (cI .i64) x17)), (18, .i x18), (19, .i x19)], [(1002, .box 0 29 false [.sl 1 (rX (cL (cI .i64) 1) x455000), .sl 1 (rX (cI .i64) x455001)]), (1005, .own 0 70 2 (r70 x5))]⟩
def I66_1 (r : List (S70)) (m : Nat) (σ : St) : Prop := ∃ (x5 : List (S70)) (x8 : Int) (x455000 : List (List Int)) (x455001 : List Int), impl_raised.l1 m x5 x8 x455000 x455001 = some r ∧ σ = ⟨[(2, .pt 1002 0 0), (5, .ow 1005 0), (8, .i x8)], [(1002, .box 0 29 false [.sl 1 (rX (cL (cI .i64) 1) x455000), .sl 1 (rX (cI .i64) x455001)]), (1005, .own 0 70 2 (r70 x5))]⟩
def I66_2 (r : List (S70)) (m : Nat) (σ : St) : Prop := ∃ (x5 : List (S70)) (x8 : Int) (x9 : List (S70)) (x42 : List Int) (x43 : Int) (x44 : Int) (x455000 : List (List Int)) (x455001 : List Int), impl_raised.l2 m x5 x8 x9 x42 x43 x44 x455000 x455001 = some r ∧ σ = ⟨[(2, .pt 1002 0 0), (5, .sl 2 (r70 x5)), (8, .i x8), (9, .ow 1009 0), (42, .sl 1 (rX (cI .i64) x42)), (43, .i x43), (44, .i x44)], [(1002, .box 0 29 false [.sl 1 (rX (cL (cI .i64) 1) x455000), .sl 1 (rX (cI .i64) x455001)]), (1009, .own 0 70 2 (r70 x9))]⟩
abbrev W66 (r : List (S70)) (w : World) (ro : Nat → Prop) (B : Nat) (p : List Nat) (j : List (St → Prop)) (σ : St) : Prop := Kp (WS TE (cx0 Tryz.f66 none w ro B) (stkAt p j (bodyOf Tryz.f66) []) σ (RetQ TE Tryz.f66 none [.own 70 2 (r70 r)] [] w ro B))
def S66l0 (k : Nat) : Prop := ∀ r w ro B (_ : Fr TE (cx0 Tryz.f66 none w ro B)) (σ : St) (_ : I66_0 r k σ), W66 r w ro B [1, 1, 0, 1, 0] [] σ
def S66l1 (k : Nat) : Prop := ∀ r w ro B (_ : Fr TE (cx0 Tryz.f66 none w ro B)) (σ : St) (_ : I66_1 r k σ), W66 r w ro B [1, 1, 1, 0, 1, 0] [] σ
def S66l2 (k : Nat) : Prop := ∀ (r : List (S70)) (w : World) (ro : Nat → Prop) (B : Nat) (_ : Fr TE (cx0 Tryz.f66 none w ro B)) (J1 : St → Prop) (_ : ∀ m σ, m ≤ k → I66_1 r m σ → J1 σ) (σ : St) (_ : I66_2 r k σ), W66 r w ro B [1, 1, 1, 0, 1, 0, 0, 1, 0, 0, 1, 0, 1, 0] [J1] σ
structure C66 (k : Nat) : Prop where
 s_l0 : S66l0 k
 s_l1 : S66l1 k
 s_l2 : S66l2 k
theorem c66l0 (k : Nat) (ih : Kp (∀ m, m < k → C66 m)) : S66l0 k := by
 intro r w ro B hF
 intro σ h0
 refine ⟨WS.loop (fun m σ => m ≤ k ∧ I66_0 r m σ) k ⟨Nat.le_refl k, h0⟩ (fun m σ' hI J0 hJ0 => ?_)⟩
 clear h0
 obtain ⟨hk, x5, x17, x18, x19, x455000, x455001, h, rfl⟩ := hI
 cases m with
 | zero => simp [impl_raised.l0] at h
 | succ k' =>
 simp only [impl_raised.l0] at h
 rcases ic h with ⟨c3, h⟩ | ⟨c3, h⟩
 · obtain ⟨c4, h⟩ := ig h
   obtain ⟨c5, h⟩ := ig h
   obtain ⟨c6, h⟩ := ig h
   refine pk 12 hF [.t, .e 21 (.rf [.i (rd x17 x19)]), .p 26 ([[.i (rd x17 x19), .sl 2 (r70 [])]]), .o 27 (r70 (x5 ++ [(⟨rd x17 x19, ([] : List (S70))⟩ : S70)]))] [] rfl KD ?_
   exact WS.lpc [(1002, some 1002), (1005, some 1005)] (hJ0 _ _ (Nat.lt_succ_self _) ⟨by omega, (x5 ++ [(⟨rd x17 x19, ([] : List (S70))⟩ : S70)]), x17, x18, (wrap64 (x19 + 1)), x455000, x455001, h, rfl⟩) KD
 · refine pk 9 hF [.f, .e 31 (.i (x455000.length : Int))] [] rfl KD ?_
   exact WS.can [(1002, some 1002), (1005, some 1005)] (((ih.out k' (by omega)).s_l1  r w ro B hF _ ⟨x5, (wrap64 ((x455000.length : Int) - 1)), x455000, x455001, h, rfl⟩).out) KD
theorem c66l1 (k : Nat) (ih : Kp (∀ m, m < k → C66 m)) : S66l1 k := by
 intro r w ro B hF
 intro σ h0
 refine ⟨WS.loop (fun m σ => m ≤ k ∧ I66_1 r m σ) k ⟨Nat.le_refl k, h0⟩ (fun m σ' hI J1 hJ1 => ?_)⟩
 clear h0
 obtain ⟨hk, x5, x8, x455000, x455001, h, rfl⟩ := hI
 cases m with
 | zero => simp [impl_raised.l1] at h
 | succ k' =>
 simp only [impl_raised.l1] at h
 rcases ic h with ⟨c7, h⟩ | ⟨c7, h⟩
 · obtain ⟨c8, h⟩ := ig h
   obtain ⟨c9, h⟩ := ig h
   refine pk 13 hF [.t, .p 37 ([]), .e 41 (.rf [.sl 1 (rX (cI .i64) (rd_L1 x455000 x8))]), .e 43 (.i ((rd_L1 x455000 x8).length : Int))] [] rfl KD ?_
   refine WS.freeze 1005 ?_ rfl
   exact WS.can [(1002, some 1002), (1009, some 37)] (((ih.out k' (by omega)).s_l2  r w ro B hF J1 (fun m σ hm hI => hJ1 m σ (by omega) ⟨by omega, hI⟩) _ ⟨x5, x8, (([] : List (S70))), (rd_L1 x455000 x8), ((rd_L1 x455000 x8).length : Int), 0, x455000, x455001, h, rfl⟩).out) KD
 · refine pk 8 hF [.f] [] rfl KD ?_
   cases h
   exact rr [.own] rfl KD
theorem c66l2 (k : Nat) (ih : Kp (∀ m, m < k → C66 m)) : S66l2 k := by
 intro r w ro B hF J1 hJ1
 intro σ h0
 refine ⟨WS.loop (fun m σ => m ≤ k ∧ I66_2 r m σ) k ⟨Nat.le_refl k, h0⟩ (fun m σ' hI J2 hJ2 => ?_)⟩
 clear h0
 obtain ⟨hk, x5, x8, x9, x42, x43, x44, x455000, x455001, h, rfl⟩ := hI
 cases m with
 | zero => simp [impl_raised.l2] at h
 | succ k' =>
 simp only [impl_raised.l2] at h
 rcases ic h with ⟨c10, h⟩ | ⟨c10, h⟩
 · obtain ⟨c11, h⟩ := ig h
   obtain ⟨c12, h⟩ := ig h
   obtain ⟨c13, h⟩ := ig h
   obtain ⟨c14, h⟩ := ig h
   obtain ⟨c15, h⟩ := ig h
   refine pk 14 hF [.t, .e 46 (.rf [.i (rd x42 x44)]), .e 52 (.sl 2 (r70 (x5.take ((rd x42 x44) : Int).toNat))), .p 54 ([[.i 0, .sl 2 (r70 (x5.take ((rd x42 x44) : Int).toNat))]]), .o 55 (r70 (x9 ++ [(⟨0, (x5.take ((rd x42 x44) : Int).toNat)⟩ : S70)])), .e 58 (.sl 2 (r70 (x5.drop ((rd x42 x44) : Int).toNat)))] [] rfl KD ?_
   exact WS.lpc [(1002, some 1002), (1009, some 1009)] (hJ2 _ _ (Nat.lt_succ_self _) ⟨by omega, (x5.drop ((rd x42 x44) : Int).toNat), x8, (x9 ++ [(⟨0, (x5.take ((rd x42 x44) : Int).toNat)⟩ : S70)]), x42, x43, (wrap64 (x44 + 1)), x455000, x455001, h, rfl⟩) KD
 · refine pk 8 hF [.f] [] rfl KD ?_
   exact WS.lpc [(1002, some 1002), (1005, some 1009)] (hJ1 _ _ (by omega) ⟨x9, (wrap64 (x8 - 1)), x455000, x455001, h, rfl⟩) KD
theorem cs66 (k : Nat) : C66 k := by
 induction k using Nat.strongRecOn with
 | _ k ih0 =>
 have ih : Kp (∀ m, m < k → C66 m) := ⟨ih0⟩
 exact ⟨c66l0 k ih, c66l1 k ih, c66l2 k ih⟩
theorem impl_raised.ctr (k : Nat) (l0_0 : List (List Int)) (l0_1 : List Int) (a1 : Int) (r : List (S70)) (h : impl_raised.f k l0_0 l0_1 a1 = some r) : Ctr TE 66 none [.ag [.sl 1 (rX (cL (cI .i64) 1) l0_0), .sl 1 (rX (cI .i64) l0_1)], .i a1] [.own 70 2 (r70 r)] [] := by
 refine co Tryz.func66 (by kernel_rfl) (by kernel_rfl) fun w ro B hF => ?_
 have ih : Kp (∀ m, m < k + 1 → C66 m) := ⟨fun m _ => cs66 m⟩
 simp only [impl_raised.f] at h
 obtain ⟨c1, h⟩ := ig h
 obtain ⟨c2, h⟩ := ig h
 refine pk 8 hF [.e 14 (.i (l0_1.length : Int)), .o 15 (r70 (List.replicate 0 z70)), .e 18 (.i (l0_1.length : Int))] [] rfl KD ?_
 exact WS.can [(1002, some 2), (1005, some 15)] ((ih.a.s_l0  r w ro B hF _ ⟨(List.replicate 0 z70), l0_1, (l0_1.length : Int), 0, l0_0, l0_1, h, rfl⟩).out) KD
def impl_Vector_arrays.f (k : Nat) (a0_0 : Int) (l0_1 : List (List Int)) (l0_2 : List Int) : Option ((List (S70))) := (impl_raised.f k l0_1 l0_2 a0_0).bind fun t479 => (some t479)
theorem impl_Vector_arrays.ctr (k : Nat) (a0_0 : Int) (l0_1 : List (List Int)) (l0_2 : List Int) (r : List (S70)) (h : impl_Vector_arrays.f k a0_0 l0_1 l0_2 = some r) : Ctr TE 41 none [.ag [.i a0_0, .sl 1 (rX (cL (cI .i64) 1) l0_1), .sl 1 (rX (cI .i64) l0_2)]] [.own 70 2 (r70 r)] [] := by
 refine co Tryz.func41 (by kernel_rfl) (by kernel_rfl) fun w ro B hF => ?_
 simp only [impl_Vector_arrays.f] at h
 obtain ⟨t479, q1, h⟩ := ib h
 have q1c := impl_raised.ctr k _ _ _ _ q1
 refine pk 5 hF [.r [.own 70 2 (r70 t479)] []] [] rfl KD ?_
 cases h
 exact rr [.own] rfl KD
def impl_give_1.l0 : Nat → List Int → List (S70) → Int → Int → Int → List (S70) → Option (List Int × Int)
  | 0, _, _, _, _, _, _ => none
  | k + 1, x2, x7, x8, x9, x1000, x1001 => if x9 < x8 then (if 0 ≤ x9 then (if x9 < (x7.length : Int) then (if x2.length < 17592186044416 then (impl_give_1.l0 k (x2 ++ [(rd_T70 x7 x9).f0]) x7 x8 (wrap64 (x9 + 1)) x1000 x1001) else (none)) else (none)) else (none)) else (some (x2, x1000))
def impl_give_1.f (k : Nat) (s0_0 : Int) (s0_1 : List (S70)) : Option (List Int × Int) := impl_give_1.l0 k (([] : List Int)) s0_1 (s0_1.length : Int) 0 s0_0 s0_1
def I67_0 (s0_0 : Int) (s0_1 : List (S70)) (r1 : List Int) (r2 : Int) (m : Nat) (σ : St) : Prop := ∃ (x2 : List Int) (x7 : List (S70)) (x8 : Int) (x9 : Int) (x1000 : Int), impl_give_1.l0 m x2 x7 x8 x9 x1000 s0_1 = some (r1, r2) ∧ σ = ⟨[(0, .pt 0 0 0), (2, .ow 1002 0), (7, .sl 2 (r70 x7)), (8, .i x8), (9, .i x9)], [(0, .box 0 70 true [.i x1000, .sl 2 (r70 s0_1)]), (1002, .own 0 3 1 (rX (cI .i64) x2))]⟩
abbrev W67 (s0_0 : Int) (s0_1 : List (S70)) (r1 : List Int) (r2 : Int) (w : World) (ro : Nat → Prop) (B : Nat) (p : List Nat) (j : List (St → Prop)) (σ : St) : Prop := Kp (WS TE (cx0 Tryz.f67 (some (70, [.i s0_0, .sl 2 (r70 s0_1)])) w ro B) (stkAt p j (bodyOf Tryz.f67) []) σ (RetQ TE Tryz.f67 (some (70, [.i s0_0, .sl 2 (r70 s0_1)])) [.own 3 1 (rX (cI .i64) r1)] [.i r2, .sl 2 (r70 s0_1)] w ro B))
def S67l0 (k : Nat) : Prop := ∀ (s0_0 : Int) (s0_1 : List (S70)) (r1 : List Int) (r2 : Int) (w : World) (ro : Nat → Prop) (B : Nat) (_ : Fr TE (cx0 Tryz.f67 (some (70, [.i s0_0, .sl 2 (r70 s0_1)])) w ro B)) (σ : St) (_ : I67_0 s0_0 s0_1 r1 r2 k σ), W67 s0_0 s0_1 r1 r2 w ro B [1, 1, 0, 1, 0] [] σ
structure C67 (k : Nat) : Prop where
 s_l0 : S67l0 k
theorem c67l0 (k : Nat) (ih : Kp (∀ m, m < k → C67 m)) : S67l0 k := by
 intro s0_0 s0_1 r1 r2 w ro B hF
 intro σ h0
 refine ⟨WS.loop (fun m σ => m ≤ k ∧ I67_0 s0_0 s0_1 r1 r2 m σ) k ⟨Nat.le_refl k, h0⟩ (fun m σ' hI J0 hJ0 => ?_)⟩
 clear h0
 obtain ⟨hk, x2, x7, x8, x9, x1000, h, rfl⟩ := hI
 cases m with
 | zero => simp [impl_give_1.l0] at h
 | succ k' =>
 simp only [impl_give_1.l0] at h
 rcases ic h with ⟨c1, h⟩ | ⟨c1, h⟩
 · obtain ⟨c2, h⟩ := ig h
   obtain ⟨c3, h⟩ := ig h
   obtain ⟨c4, h⟩ := ig h
   refine pk 12 hF [.t, .e 11 (.rf [.i ((rd_T70 x7 x9).f0), .sl 2 (r70 ((rd_T70 x7 x9).f1))]), .p 16 ([[.i ((rd_T70 x7 x9).f0)]]), .o 17 (rX (cI .i64) (x2 ++ [(rd_T70 x7 x9).f0]))] [] rfl KD ?_
   exact WS.lpc [(0, some 0), (1002, some 1002)] (hJ0 _ _ (Nat.lt_succ_self _) ⟨by omega, (x2 ++ [(rd_T70 x7 x9).f0]), x7, x8, (wrap64 (x9 + 1)), x1000, h, rfl⟩) KD
 · refine pk 8 hF [.f] [] rfl KD ?_
   cases h
   exact rr [.own] rfl KD
theorem cs67 (k : Nat) : C67 k := by
 induction k using Nat.strongRecOn with
 | _ k ih0 =>
 have ih : Kp (∀ m, m < k → C67 m) := ⟨ih0⟩
 exact ⟨c67l0 k ih⟩
theorem impl_give_1.ctr (k : Nat) (s0_0 : Int) (s0_1 : List (S70)) (r1 : List Int) (r2 : Int) (h : impl_give_1.f k s0_0 s0_1 = some (r1, r2)) : Ctr TE 67 (some (70, [.i s0_0, .sl 2 (r70 s0_1)])) [.pt 0 0 0] [.own 3 1 (rX (cI .i64) r1)] [.i r2, .sl 2 (r70 s0_1)] := by
 refine co Tryz.func67 (by kernel_rfl) (by kernel_rfl) fun w ro B hF => ?_
 have ih : Kp (∀ m, m < k + 1 → C67 m) := ⟨fun m _ => cs67 m⟩
 simp only [impl_give_1.f] at h
 refine pk 8 hF [.p 5 ([]), .e 8 (.i (s0_1.length : Int))] [] rfl KD ?_
 exact WS.can [(0, some 0), (1002, some 5)] ((ih.a.s_l0 s0_0 s0_1 r1 r2 w ro B hF _ ⟨(([] : List Int)), s0_1, (s0_1.length : Int), 0, s0_0, h, rfl⟩).out) KD
end Go.Proofs.YtjkngiciigdheaaGreatDoor.K
