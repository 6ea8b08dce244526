/- A part of the claim. -/
import Derived.Test.YtjkngiciigdheaaGreatDoorKFx0
import Derived.Test.YtjkngiciigdheaaGreatDoorKFx5
import Derived.Test.YtjkngiciigdheaaGreatDoorKFx1
namespace Go.Proofs.YtjkngiciigdheaaGreatDoor.K
open Go.RowKit Go.Proofs.YtjkngiciigdheaaGreatDoorW.St Go.Proofs.YtjkngiciigdheaaGreatDoorW.PrintWords Go.Proofs.YtjkngiciigdheaaGreatDoorW.PrintLast Go.Proofs.YtjkngiciigdheaaGreatDoorW.PrintMore
set_option linter.unusedVariables false
set_option linter.unusedSimpArgs false
set_option maxRecDepth 100000
set_option maxHeartbeats 4000000
mutual
def spec_l3Scans.l0 : Nat → List Int → List (List Int) → Int → Int → Option (List Int)
  | 0, _, _, _, _ => none
  | k + 1, x5, x14, x15, x16 => if x16 < x15 then (if 0 ≤ x16 then (if x16 < (x14.length : Int) then (spec_l3Scans.l1 k x5 0 x14 x15 x16 (rd_L1 x14 x16) ((rd_L1 x14 x16).length : Int) 0) else (none)) else (none)) else (some x5)
def spec_l3Scans.l1 : Nat → List Int → Int → List (List Int) → Int → Int → List Int → Int → Int → Option (List Int)
  | 0, _, _, _, _, _, _, _, _ => none
  | k + 1, x5, x8, x14, x15, x16, x20, x21, x22 => if x22 < x21 then (if 0 ≤ x22 then (if x22 < (x20.length : Int) then (if x5.length < 17592186044416 then ((spec_l3Add.f x8 (rd x20 x22)).bind fun t693 => (spec_l3Scans.l1 k (x5 ++ [x8]) t693 x14 x15 x16 x20 x21 (wrap64 (x22 + 1)))) else (none)) else (none)) else (none)) else (spec_l3Scans.l0 k x5 x14 x15 (wrap64 (x16 + 1)))
end
def spec_l3Scans.f (k : Nat) (l0 : List Int) (l1 : List Int) : Option (List Int) := (spec_l3Cut.f k l0 l1).bind fun t685 => (spec_l3Scans.l0 k (([] : List Int)) t685 (t685.length : Int) 0)
def I115_0 (r : List Int) (m : Nat) (σ : St) : Prop := ∃ (x5 : List Int) (x14 : List (List Int)) (x15 : Int) (x16 : Int), spec_l3Scans.l0 m x5 x14 x15 x16 = some r ∧ σ = ⟨[(5, .ow 1005 0), (14, .ow 1014 0), (15, .i x15), (16, .i x16)], [(1005, .own 0 3 1 (rX (cI .i64) x5)), (1014, .own 0 27 1 (rX (cL (cI .i64) 1) x14))]⟩
def I115_1 (r : List Int) (m : Nat) (σ : St) : Prop := ∃ (x5 : List Int) (x8 : Int) (x14 : List (List Int)) (x15 : Int) (x16 : Int) (x20 : List Int) (x21 : Int) (x22 : Int), spec_l3Scans.l1 m x5 x8 x14 x15 x16 x20 x21 x22 = some r ∧ σ = ⟨[(5, .ow 1005 0), (8, .i x8), (14, .ow 1014 0), (15, .i x15), (16, .i x16), (20, .sl 1 (rX (cI .i64) x20)), (21, .i x21), (22, .i x22)], [(1005, .own 0 3 1 (rX (cI .i64) x5)), (1014, .own 0 27 1 (rX (cL (cI .i64) 1) x14))]⟩
abbrev W115 (r : List Int) (w : World) (ro : Nat → Prop) (B : Nat) (p : List Nat) (j : List (St → Prop)) (σ : St) : Prop := Kp (WS TE (cx0 Tryz.f115 none w ro B) (stkAt p j (bodyOf Tryz.f115) []) σ (RetQ TE Tryz.f115 none [.own 3 1 (rX (cI .i64) r)] [] w ro B))
def S115l0 (k : Nat) : Prop := ∀ r w ro B (_ : Fr TE (cx0 Tryz.f115 none w ro B)) (σ : St) (_ : I115_0 r k σ), W115 r w ro B [1, 1, 0, 1, 0] [] σ
def S115l1 (k : Nat) : Prop := ∀ (r : List Int) (w : World) (ro : Nat → Prop) (B : Nat) (_ : Fr TE (cx0 Tryz.f115 none w ro B)) (J0 : St → Prop) (_ : ∀ m σ, m ≤ k → I115_0 r m σ → J0 σ) (σ : St) (_ : I115_1 r k σ), W115 r w ro B [1, 1, 0, 1, 0, 0, 1, 1, 0, 0, 1, 1, 1, 0] [J0] σ
structure C115 (k : Nat) : Prop where
 s_l0 : S115l0 k
 s_l1 : S115l1 k
theorem c115l0 (k : Nat) (ih : Kp (∀ m, m < k → C115 m)) : S115l0 k := by
 intro r w ro B hF
 intro σ h0
 refine ⟨WS.loop (fun m σ => m ≤ k ∧ I115_0 r m σ) k ⟨Nat.le_refl k, h0⟩ (fun m σ' hI J0 hJ0 => ?_)⟩
 clear h0
 obtain ⟨hk, x5, x14, x15, x16, h, rfl⟩ := hI
 cases m with
 | zero => simp [spec_l3Scans.l0] at h
 | succ k' =>
 simp only [spec_l3Scans.l0] at h
 rcases ic h with ⟨c2, h⟩ | ⟨c2, h⟩
 · obtain ⟨c3, h⟩ := ig h
   obtain ⟨c4, h⟩ := ig h
   refine pk 14 hF [.t, .g [.sl 1 (rX (cI .i64) (rd_L1 x14 x16))], .e 21 (.i ((rd_L1 x14 x16).length : Int))] [] rfl KD ?_
   exact WS.can [(1005, some 1005), (1014, some 1014)] (((ih.out k' (by omega)).s_l1  r w ro B hF J0 (fun m σ hm hI => hJ0 m σ (by omega) ⟨by omega, hI⟩) _ ⟨x5, 0, x14, x15, x16, (rd_L1 x14 x16), ((rd_L1 x14 x16).length : Int), 0, h, rfl⟩).out) KD
 · refine pk 8 hF [.f] [] rfl KD ?_
   cases h
   exact rr [.own] rfl KD
theorem c115l1 (k : Nat) (ih : Kp (∀ m, m < k → C115 m)) : S115l1 k := by
 intro r w ro B hF J0 hJ0
 intro σ h0
 refine ⟨WS.loop (fun m σ => m ≤ k ∧ I115_1 r m σ) k ⟨Nat.le_refl k, h0⟩ (fun m σ' hI J1 hJ1 => ?_)⟩
 clear h0
 obtain ⟨hk, x5, x8, x14, x15, x16, x20, x21, x22, h, rfl⟩ := hI
 cases m with
 | zero => simp [spec_l3Scans.l1] at h
 | succ k' =>
 simp only [spec_l3Scans.l1] at h
 rcases ic h with ⟨c5, h⟩ | ⟨c5, h⟩
 · obtain ⟨c6, h⟩ := ig h
   obtain ⟨c7, h⟩ := ig h
   obtain ⟨c8, h⟩ := ig h
   obtain ⟨t693, q9, h⟩ := ib h
   have q9c := spec_l3Add.ctr _ _ _ q9
   refine pk 14 hF [.t, .e 24 (.rf [.i (rd x20 x22)]), .p 28 ([[.i x8]]), .o 29 (rX (cI .i64) (x5 ++ [x8])), .r [.ro (.i t693)] []] [] rfl KD ?_
   exact WS.lpc [(1005, some 1005), (1014, some 1014)] (hJ1 _ _ (Nat.lt_succ_self _) ⟨by omega, (x5 ++ [x8]), t693, x14, x15, x16, x20, x21, (wrap64 (x22 + 1)), h, rfl⟩) KD
 · refine pk 7 hF [.f] [] rfl KD ?_
   exact WS.lpc [(1005, some 1005), (1014, some 1014)] (hJ0 _ _ (by omega) ⟨x5, x14, x15, (wrap64 (x16 + 1)), h, rfl⟩) KD
theorem cs115 (k : Nat) : C115 k := by
 induction k using Nat.strongRecOn with
 | _ k ih0 =>
 have ih : Kp (∀ m, m < k → C115 m) := ⟨ih0⟩
 exact ⟨c115l0 k ih, c115l1 k ih⟩
theorem spec_l3Scans.ctr (k : Nat) (l0 : List Int) (l1 : List Int) (r : List Int) (h : spec_l3Scans.f k l0 l1 = some r) : Ctr TE 115 none [.sl 1 (rX (cI .i64) l0), .sl 1 (rX (cI .i64) l1)] [.own 3 1 (rX (cI .i64) r)] [] := by
 refine co Tryz.func115 (by kernel_rfl) (by kernel_rfl) fun w ro B hF => ?_
 have ih : Kp (∀ m, m < k + 1 → C115 m) := ⟨fun m _ => cs115 m⟩
 simp only [spec_l3Scans.f] at h
 obtain ⟨t685, q1, h⟩ := ib h
 have q1c := spec_l3Cut.ctr k _ _ _ q1
 refine pk 8 hF [.p 11 ([]), .r [.own 27 1 (rX (cL (cI .i64) 1) t685)] [], .e 15 (.i (t685.length : Int))] [] rfl KD ?_
 exact WS.can [(1005, some 11), (1014, some 100224)] ((ih.a.s_l0  r w ro B hF _ ⟨(([] : List Int)), t685, (t685.length : Int), 0, h, rfl⟩).out) KD
def spec_l3Total.l0 : Nat → Int → List Int → Int → Int → Option (Int)
  | 0, _, _, _, _ => none
  | k + 1, x3, x6, x7, x8 => if x8 < x7 then (if 0 ≤ x8 then (if x8 < (x6.length : Int) then (spec_l3Total.l0 k (wrap64 (x3 + (rd x6 x8))) x6 x7 (wrap64 (x8 + 1))) else (none)) else (none)) else (some x3)
def spec_l3Total.f (k : Nat) (l0 : List Int) : Option (Int) := spec_l3Total.l0 k 0 l0 (l0.length : Int) 0
def I120_0 (r : Int) (m : Nat) (σ : St) : Prop := ∃ (x3 : Int) (x6 : List Int) (x7 : Int) (x8 : Int), spec_l3Total.l0 m x3 x6 x7 x8 = some r ∧ σ = ⟨[(3, .i x3), (6, .sl 1 (rX (cI .i64) x6)), (7, .i x7), (8, .i x8)], []⟩
abbrev W120 (r : Int) (w : World) (ro : Nat → Prop) (B : Nat) (p : List Nat) (j : List (St → Prop)) (σ : St) : Prop := Kp (WS TE (cx0 Tryz.f120 none w ro B) (stkAt p j (bodyOf Tryz.f120) []) σ (RetQ TE Tryz.f120 none [.ro (.i r)] [] w ro B))
def S120l0 (k : Nat) : Prop := ∀ r w ro B (_ : Fr TE (cx0 Tryz.f120 none w ro B)) (σ : St) (_ : I120_0 r k σ), W120 r w ro B [1, 1, 0, 1, 0] [] σ
structure C120 (k : Nat) : Prop where
 s_l0 : S120l0 k
theorem c120l0 (k : Nat) (ih : Kp (∀ m, m < k → C120 m)) : S120l0 k := by
 intro r w ro B hF
 intro σ h0
 refine ⟨WS.loop (fun m σ => m ≤ k ∧ I120_0 r m σ) k ⟨Nat.le_refl k, h0⟩ (fun m σ' hI J0 hJ0 => ?_)⟩
 clear h0
 obtain ⟨hk, x3, x6, x7, x8, h, rfl⟩ := hI
 cases m with
 | zero => simp [spec_l3Total.l0] at h
 | succ k' =>
 simp only [spec_l3Total.l0] at h
 rcases ic h with ⟨c1, h⟩ | ⟨c1, h⟩
 · obtain ⟨c2, h⟩ := ig h
   obtain ⟨c3, h⟩ := ig h
   refine pk 12 hF [.t, .e 10 (.rf [.i (rd x6 x8)])] [] rfl KD ?_
   exact WS.lpc [] (hJ0 _ _ (Nat.lt_succ_self _) ⟨by omega, (wrap64 (x3 + (rd x6 x8))), x6, x7, (wrap64 (x8 + 1)), h, rfl⟩) KD
 · refine pk 8 hF [.f] [] rfl KD ?_
   cases h
   exact rr [.ro] rfl KD
theorem cs120 (k : Nat) : C120 k := by
 induction k using Nat.strongRecOn with
 | _ k ih0 =>
 have ih : Kp (∀ m, m < k → C120 m) := ⟨ih0⟩
 exact ⟨c120l0 k ih⟩
theorem spec_l3Total.ctr (k : Nat) (l0 : List Int) (r : Int) (h : spec_l3Total.f k l0 = some r) : Ctr TE 120 none [.sl 1 (rX (cI .i64) l0)] [.ro (.i r)] [] := by
 refine co Tryz.func120 (by kernel_rfl) (by kernel_rfl) fun w ro B hF => ?_
 have ih : Kp (∀ m, m < k + 1 → C120 m) := ⟨fun m _ => cs120 m⟩
 simp only [spec_l3Total.f] at h
 refine pk 8 hF [.e 7 (.i (l0.length : Int))] [] rfl KD ?_
 exact WS.can [] ((ih.a.s_l0  r w ro B hF _ ⟨0, l0, (l0.length : Int), 0, h, rfl⟩).out) KD
def spec_l8Inner.f (k : Nat) (a0_0 : Int) (l0_1 : List (List Int)) (l0_2 : List Int) : Option (Int × (List (List Int)) × List Int) := if 0 < (l0_1.length : Int) then ((spec_l3Total.f k (rd_L1 l0_1 0)).bind fun t698 => (if 1 ≤ (l0_1.length : Int) then (some (t698, (l0_1.drop 1), l0_2)) else (none))) else (none)
theorem spec_l8Inner.ctr (k : Nat) (a0_0 : Int) (l0_1 : List (List Int)) (l0_2 : List Int) (r1 : Int) (r2 : List (List Int)) (r3 : List Int) (h : spec_l8Inner.f k a0_0 l0_1 l0_2 = some (r1, r2, r3)) : Ctr TE 117 none [.ag [.i a0_0, .sl 1 (rX (cL (cI .i64) 1) l0_1), .sl 1 (rX (cI .i64) l0_2)]] [.ro (.ag [.i r1, .sl 1 (rX (cL (cI .i64) 1) r2), .sl 1 (rX (cI .i64) r3)])] [] := by
 refine co Tryz.func117 (by kernel_rfl) (by kernel_rfl) fun w ro B hF => ?_
 simp only [spec_l8Inner.f] at h
 obtain ⟨c1, h⟩ := ig h
 obtain ⟨t698, q2, h⟩ := ib h
 have q2c := spec_l3Total.ctr k _ _ q2
 obtain ⟨c3, h⟩ := ig h
 refine pk 5 hF [.e 6 (.rf [.sl 1 (rX (cI .i64) (rd_L1 l0_1 0))]), .e 12 (.sl 1 (rX (cL (cI .i64) 1) (l0_1.drop 1))), .r [.ro (.i t698)] []] [.o [(0, 0), (1, 0), (2, 1), (3, 0), (4, 1), (6, 0), (7, 0), (8, 1), (9, 0), (10, 0), (11, 0), (12, 1), (13, 0), (5, 2), (14, 0), (15, 2)] [15]] rfl KD ?_
 cases h
 exact rr [.ro] rfl KD
mutual
def spec_l8Pick.l0 : Nat → List Int → List Int → Int → Int → Int → List (List Int) → List Int → Option (Int × (List (List Int)) × List Int)
  | 0, _, _, _, _, _, _, _ => none
  | k + 1, x5, x20, x21, x22, x704000, x704001, x704002 => if x22 < x21 then (if 0 ≤ x22 then (if x22 < (x20.length : Int) then (if 0 ≤ (rd x20 x22) then (if (rd x20 x22) < (x704002.length : Int) then (if x5.length < 17592186044416 then (spec_l8Pick.l0 k (x5 ++ [rd x704002 (rd x20 x22)]) x20 x21 (wrap64 (x22 + 1)) x704000 x704001 x704002) else (none)) else (none)) else (none)) else (none)) else (none)) else ((spec_l8Plain.f x5).bind fun bt713 => (some (bt713.1, bt713.2.1, bt713.2.2)))
def spec_l8Pick.l1 : Nat → List Int → List Int → List Int → List Int → Int → Int → Int → List (List Int) → List Int → Option (Int × (List (List Int)) × List Int)
  | 0, _, _, _, _, _, _, _, _, _ => none
  | k + 1, x8, x9, x10, x46, x47, x48, x704000, x704001, x704002 => if x48 < x47 then (if 0 ≤ x48 then (if x48 < (x46.length : Int) then (if 0 < (x704001.length : Int) then (if 0 ≤ (rd x46 x48) then (if (rd x46 x48) < ((rd_L1 x704001 0).length : Int) then (if x9.length < 17592186044416 then (spec_l8Pick.l2 k x8 (x9 ++ [rd (rd_L1 x704001 0) (rd x46 x48)]) x10 (rd x46 x48) x46 x47 x48 (rd (rd_L1 x704001 0) (rd x46 x48)) 0 x704000 x704001 x704002) else (none)) else (none)) else (none)) else (none)) else (none)) else (none)) else ((spec_l8Inner.f k x704000 x704001 x704002).bind fun bt730 => ((spec_l8Pick.f k bt730.1 bt730.2.1 bt730.2.2 x10).bind fun bt737 => ((spec_l8Outer.f x9 bt737.1 bt737.2.1 bt737.2.2).bind fun bt744 => (some (bt744.1, bt744.2.1, bt744.2.2)))))
def spec_l8Pick.l2 : Nat → List Int → List Int → List Int → Int → List Int → Int → Int → Int → Int → Int → List (List Int) → List Int → Option (Int × (List (List Int)) × List Int)
  | 0, _, _, _, _, _, _, _, _, _, _, _, _ => none
  | k + 1, x8, x9, x10, x12, x46, x47, x48, x70, x71, x704000, x704001, x704002 => if x71 < x70 then (if 0 ≤ x12 then (if x12 < (x8.length : Int) then (if x10.length < 17592186044416 then (spec_l8Pick.l2 k x8 x9 (x10 ++ [wrap64 ((rd x8 x12) + x71)]) x12 x46 x47 x48 x70 (wrap64 (x71 + 1)) x704000 x704001 x704002) else (none)) else (none)) else (none)) else (spec_l8Pick.l1 k x8 x9 x10 x46 x47 (wrap64 (x48 + 1)) x704000 x704001 x704002)
def spec_l8Pick.f : Nat → Int → List (List Int) → List Int → List Int → Option (Int × (List (List Int)) × List Int)
  | 0, _, _, _, _ => none
  | k + 1, a0_0, l0_1, l0_2, l1 => if (l0_1.length : Int) = 0 then (spec_l8Pick.l0 k (([] : List Int)) l1 (l1.length : Int) 0 a0_0 l0_1 l0_2) else (if 0 < (l0_1.length : Int) then ((spec_l3Starts.f k (rd_L1 l0_1 0)).bind fun t721 => (spec_l8Pick.l1 k t721 (([] : List Int)) (([] : List Int)) l1 (l1.length : Int) 0 a0_0 l0_1 l0_2)) else (none))
end
def I116_0 (r1 : Int) (r2 : List (List Int)) (r3 : List Int) (m : Nat) (σ : St) : Prop := ∃ (x5 : List Int) (x20 : List Int) (x21 : Int) (x22 : Int) (x704000 : Int) (x704001 : List (List Int)) (x704002 : List Int) (x705000 : Int), spec_l8Pick.l0 m x5 x20 x21 x22 x704000 x704001 x704002 = some (r1, r2, r3) ∧ σ = ⟨[(2, .pt 1002 0 0), (4, .pt 1004 0 0), (5, .ow 1005 0), (20, .sl 1 (rX (cI .i64) x20)), (21, .i x21), (22, .i x22)], [(1002, .box 0 31 false [.i x704000, .sl 1 (rX (cL (cI .i64) 1) x704001), .sl 1 (rX (cI .i64) x704002)]), (1004, .box 0 31 false [.i x705000, .v (.slice none 0 0), .v (.slice none 0 0)]), (1005, .own 0 3 1 (rX (cI .i64) x5))]⟩
def I116_1 (r1 : Int) (r2 : List (List Int)) (r3 : List Int) (m : Nat) (σ : St) : Prop := ∃ (x8 : List Int) (x9 : List Int) (x10 : List Int) (x46 : List Int) (x47 : Int) (x48 : Int) (x704000 : Int) (x704001 : List (List Int)) (x704002 : List Int) (x705000 : Int), spec_l8Pick.l1 m x8 x9 x10 x46 x47 x48 x704000 x704001 x704002 = some (r1, r2, r3) ∧ σ = ⟨[(2, .pt 1002 0 0), (4, .pt 1004 0 0), (8, .ow 1008 0), (9, .ow 1009 0), (10, .ow 1010 0), (46, .sl 1 (rX (cI .i64) x46)), (47, .i x47), (48, .i x48)], [(1002, .box 0 31 false [.i x704000, .sl 1 (rX (cL (cI .i64) 1) x704001), .sl 1 (rX (cI .i64) x704002)]), (1004, .box 0 31 false [.i x705000, .v (.slice none 0 0), .v (.slice none 0 0)]), (1008, .own 0 3 1 (rX (cI .i64) x8)), (1009, .own 0 3 1 (rX (cI .i64) x9)), (1010, .own 0 3 1 (rX (cI .i64) x10))]⟩
def I116_2 (r1 : Int) (r2 : List (List Int)) (r3 : List Int) (m : Nat) (σ : St) : Prop := ∃ (x8 : List Int) (x9 : List Int) (x10 : List Int) (x12 : Int) (x46 : List Int) (x47 : Int) (x48 : Int) (x70 : Int) (x71 : Int) (x704000 : Int) (x704001 : List (List Int)) (x704002 : List Int) (x705000 : Int), spec_l8Pick.l2 m x8 x9 x10 x12 x46 x47 x48 x70 x71 x704000 x704001 x704002 = some (r1, r2, r3) ∧ σ = ⟨[(2, .pt 1002 0 0), (4, .pt 1004 0 0), (8, .ow 1008 0), (9, .ow 1009 0), (10, .ow 1010 0), (12, .i x12), (46, .sl 1 (rX (cI .i64) x46)), (47, .i x47), (48, .i x48), (70, .i x70), (71, .i x71)], [(1002, .box 0 31 false [.i x704000, .sl 1 (rX (cL (cI .i64) 1) x704001), .sl 1 (rX (cI .i64) x704002)]), (1004, .box 0 31 false [.i x705000, .v (.slice none 0 0), .v (.slice none 0 0)]), (1008, .own 0 3 1 (rX (cI .i64) x8)), (1009, .own 0 3 1 (rX (cI .i64) x9)), (1010, .own 0 3 1 (rX (cI .i64) x10))]⟩
abbrev W116 (r1 : Int) (r2 : List (List Int)) (r3 : List Int) (w : World) (ro : Nat → Prop) (B : Nat) (p : List Nat) (j : List (St → Prop)) (σ : St) : Prop := Kp (WS TE (cx0 Tryz.f116 none w ro B) (stkAt p j (bodyOf Tryz.f116) []) σ (RetQ TE Tryz.f116 none [.ro (.ag [.i r1, .sl 1 (rX (cL (cI .i64) 1) r2), .sl 1 (rX (cI .i64) r3)])] [] w ro B))
def S116l0 (k : Nat) : Prop := ∀ r1 r2 r3 w ro B (_ : Fr TE (cx0 Tryz.f116 none w ro B)) (σ : St) (_ : I116_0 r1 r2 r3 k σ), W116 r1 r2 r3 w ro B [1, 0, 1, 0, 1, 0, 1, 0] [] σ
def S116l1 (k : Nat) : Prop := ∀ r1 r2 r3 w ro B (_ : Fr TE (cx0 Tryz.f116 none w ro B)) (σ : St) (_ : I116_1 r1 r2 r3 k σ), W116 r1 r2 r3 w ro B [1, 1, 1, 1, 0, 1, 0] [] σ
def S116l2 (k : Nat) : Prop := ∀ (r1 : Int) (r2 : List (List Int)) (r3 : List Int) (w : World) (ro : Nat → Prop) (B : Nat) (_ : Fr TE (cx0 Tryz.f116 none w ro B)) (J1 : St → Prop) (_ : ∀ m σ, m ≤ k → I116_1 r1 r2 r3 m σ → J1 σ) (σ : St) (_ : I116_2 r1 r2 r3 k σ), W116 r1 r2 r3 w ro B [1, 1, 1, 1, 0, 1, 0, 0, 1, 1, 0, 0, 1, 1, 1, 0] [J1] σ
structure C116 (k : Nat) : Prop where
 s_f : ∀ (a0_0 : Int) (l0_1 : List (List Int)) (l0_2 : List Int) (l1 : List Int) (r1 : Int) (r2 : List (List Int)) (r3 : List Int), spec_l8Pick.f k a0_0 l0_1 l0_2 l1 = some (r1, r2, r3) → Ctr TE 116 none [.ag [.i a0_0, .sl 1 (rX (cL (cI .i64) 1) l0_1), .sl 1 (rX (cI .i64) l0_2)], .sl 1 (rX (cI .i64) l1)] [.ro (.ag [.i r1, .sl 1 (rX (cL (cI .i64) 1) r2), .sl 1 (rX (cI .i64) r3)])] []
 s_l0 : S116l0 k
 s_l1 : S116l1 k
 s_l2 : S116l2 k
theorem c116f (k : Nat) (ih : Kp (∀ m, m < k → C116 m)) (a0_0 : Int) (l0_1 : List (List Int)) (l0_2 : List Int) (l1 : List Int) (r1 : Int) (r2 : List (List Int)) (r3 : List Int) (h : spec_l8Pick.f k a0_0 l0_1 l0_2 l1 = some (r1, r2, r3)) : Ctr TE 116 none [.ag [.i a0_0, .sl 1 (rX (cL (cI .i64) 1) l0_1), .sl 1 (rX (cI .i64) l0_2)], .sl 1 (rX (cI .i64) l1)] [.ro (.ag [.i r1, .sl 1 (rX (cL (cI .i64) 1) r2), .sl 1 (rX (cI .i64) r3)])] [] := by
 cases k with
 | zero => simp [spec_l8Pick.f] at h
 | succ k =>
 simp only [spec_l8Pick.f] at h
 refine co Tryz.func116 (by kernel_rfl) (by kernel_rfl) fun w ro B hF => ?_
 rcases ic h with ⟨c1, h⟩ | ⟨c1, h⟩
 · refine pk 12 hF [.e 17 (.i (l0_1.length : Int)), .t, .p 19 ([]), .e 21 (.i (l1.length : Int))] [] rfl KD ?_
   exact WS.can [(1002, some 2), (1004, some 4), (1005, some 19)] ((ih.a.s_l0  r1 r2 r3 w ro B hF _ ⟨(([] : List Int)), l1, (l1.length : Int), 0, a0_0, l0_1, l0_2, 0, h, rfl⟩).out) KD
 · obtain ⟨c2, h⟩ := ig h
   obtain ⟨t721, q3, h⟩ := ib h
   have q3c := spec_l3Starts.ctr k _ _ q3
   refine pk 15 hF [.e 17 (.i (l0_1.length : Int)), .f, .e 41 (.rf [.sl 1 (rX (cI .i64) (rd_L1 l0_1 0))]), .r [.own 3 1 (rX (cI .i64) t721)] [], .p 44 ([]), .p 45 ([]), .e 47 (.i (l1.length : Int))] [] rfl KD ?_
   exact WS.can [(1002, some 2), (1004, some 4), (1008, some 100688), (1009, some 44), (1010, some 45)] ((ih.a.s_l1  r1 r2 r3 w ro B hF _ ⟨t721, (([] : List Int)), (([] : List Int)), l1, (l1.length : Int), 0, a0_0, l0_1, l0_2, 0, h, rfl⟩).out) KD
theorem c116l0 (k : Nat) (ih : Kp (∀ m, m < k → C116 m)) : S116l0 k := by
 intro r1 r2 r3 w ro B hF
 intro σ h0
 refine ⟨WS.loop (fun m σ => m ≤ k ∧ I116_0 r1 r2 r3 m σ) k ⟨Nat.le_refl k, h0⟩ (fun m σ' hI J0 hJ0 => ?_)⟩
 clear h0
 obtain ⟨hk, x5, x20, x21, x22, x704000, x704001, x704002, x705000, h, rfl⟩ := hI
 cases m with
 | zero => simp [spec_l8Pick.l0] at h
 | succ k' =>
 simp only [spec_l8Pick.l0] at h
 rcases ic h with ⟨c4, h⟩ | ⟨c4, h⟩
 · obtain ⟨c5, h⟩ := ig h
   obtain ⟨c6, h⟩ := ig h
   obtain ⟨c7, h⟩ := ig h
   obtain ⟨c8, h⟩ := ig h
   obtain ⟨c9, h⟩ := ig h
   refine pk 12 hF [.t, .e 24 (.rf [.i (rd x20 x22)]), .e 31 (.rf [.i (rd x704002 (rd x20 x22))]), .p 33 ([[.i (rd x704002 (rd x20 x22))]]), .o 34 (rX (cI .i64) (x5 ++ [rd x704002 (rd x20 x22)]))] [] rfl KD ?_
   exact WS.lpc [(1002, some 1002), (1004, some 1004), (1005, some 1005)] (hJ0 _ _ (Nat.lt_succ_self _) ⟨by omega, (x5 ++ [rd x704002 (rd x20 x22)]), x20, x21, (wrap64 (x22 + 1)), x704000, x704001, x704002, x705000, h, rfl⟩) KD
 · obtain ⟨⟨t713, t714, t717⟩, q10, h⟩ := ib h
   dsimp only at h
   have q10c := spec_l8Plain.ctr _ _ _ _ q10
   refine pk 8 hF [.f, .r [.ro (.ag [.i t713, .sl 1 (rX (cL (cI .i64) 1) t714), .sl 1 (rX (cI .i64) t717)])] []] [] rfl KD ?_
   cases h
   exact rr [.ro] rfl KD
theorem c116l1 (k : Nat) (ih : Kp (∀ m, m < k → C116 m)) : S116l1 k := by
 intro r1 r2 r3 w ro B hF
 intro σ h0
 refine ⟨WS.loop (fun m σ => m ≤ k ∧ I116_1 r1 r2 r3 m σ) k ⟨Nat.le_refl k, h0⟩ (fun m σ' hI J1 hJ1 => ?_)⟩
 clear h0
 obtain ⟨hk, x8, x9, x10, x46, x47, x48, x704000, x704001, x704002, x705000, h, rfl⟩ := hI
 cases m with
 | zero => simp [spec_l8Pick.l1] at h
 | succ k' =>
 simp only [spec_l8Pick.l1] at h
 rcases ic h with ⟨c11, h⟩ | ⟨c11, h⟩
 · obtain ⟨c12, h⟩ := ig h
   obtain ⟨c13, h⟩ := ig h
   obtain ⟨c14, h⟩ := ig h
   obtain ⟨c15, h⟩ := ig h
   obtain ⟨c16, h⟩ := ig h
   obtain ⟨c17, h⟩ := ig h
   refine pk 14 hF [.t, .e 50 (.rf [.i (rd x46 x48)]), .e 56 (.rf [.sl 1 (rX (cI .i64) (rd_L1 x704001 0))]), .e 59 (.rf [.i (rd (rd_L1 x704001 0) (rd x46 x48))]), .p 61 ([[.i (rd (rd_L1 x704001 0) (rd x46 x48))]]), .o 62 (rX (cI .i64) (x9 ++ [rd (rd_L1 x704001 0) (rd x46 x48)])), .e 66 (.rf [.sl 1 (rX (cI .i64) (rd_L1 x704001 0))]), .e 69 (.rf [.i (rd (rd_L1 x704001 0) (rd x46 x48))])] [] rfl KD ?_
   exact WS.can [(1002, some 1002), (1004, some 1004), (1008, some 1008), (1009, some 1009), (1010, some 1010)] (((ih.out k' (by omega)).s_l2  r1 r2 r3 w ro B hF J1 (fun m σ hm hI => hJ1 m σ (by omega) ⟨by omega, hI⟩) _ ⟨x8, (x9 ++ [rd (rd_L1 x704001 0) (rd x46 x48)]), x10, (rd x46 x48), x46, x47, x48, (rd (rd_L1 x704001 0) (rd x46 x48)), 0, x704000, x704001, x704002, x705000, h, rfl⟩).out) KD
 · obtain ⟨⟨t730, t731, t734⟩, q18, h⟩ := ib h
   dsimp only at h
   have q18c := spec_l8Inner.ctr k' _ _ _ _ _ _ q18
   obtain ⟨⟨t737, t738, t741⟩, q19, h⟩ := ib h
   dsimp only at h
   have q19c := (ih.out k' (by omega)).s_f _ _ _ _ _ _ _ q19
   obtain ⟨⟨t744, t745, t748⟩, q20, h⟩ := ib h
   dsimp only at h
   have q20c := spec_l8Outer.ctr _ _ _ _ _ _ _ q20
   refine pk 8 hF [.f, .r [.ro (.ag [.i t730, .sl 1 (rX (cL (cI .i64) 1) t731), .sl 1 (rX (cI .i64) t734)])] [], .r [.ro (.ag [.i t737, .sl 1 (rX (cL (cI .i64) 1) t738), .sl 1 (rX (cI .i64) t741)])] [], .r [.ro (.ag [.i t744, .sl 1 (rX (cL (cI .i64) 1) t745), .sl 1 (rX (cI .i64) t748)])] []] [] rfl KD ?_
   cases h
   exact rr [.ro] rfl KD
theorem c116l2 (k : Nat) (ih : Kp (∀ m, m < k → C116 m)) : S116l2 k := by
 intro r1 r2 r3 w ro B hF J1 hJ1
 intro σ h0
 refine ⟨WS.loop (fun m σ => m ≤ k ∧ I116_2 r1 r2 r3 m σ) k ⟨Nat.le_refl k, h0⟩ (fun m σ' hI J2 hJ2 => ?_)⟩
 clear h0
 obtain ⟨hk, x8, x9, x10, x12, x46, x47, x48, x70, x71, x704000, x704001, x704002, x705000, h, rfl⟩ := hI
 cases m with
 | zero => simp [spec_l8Pick.l2] at h
 | succ k' =>
 simp only [spec_l8Pick.l2] at h
 rcases ic h with ⟨c21, h⟩ | ⟨c21, h⟩
 · obtain ⟨c22, h⟩ := ig h
   obtain ⟨c23, h⟩ := ig h
   obtain ⟨c24, h⟩ := ig h
   refine pk 12 hF [.t, .g [.i (rd x8 x12)], .p 81 ([[.i (wrap64 ((rd x8 x12) + x71))]]), .o 82 (rX (cI .i64) (x10 ++ [wrap64 ((rd x8 x12) + x71)]))] [] rfl KD ?_
   exact WS.lpc [(1002, some 1002), (1004, some 1004), (1008, some 1008), (1009, some 1009), (1010, some 1010)] (hJ2 _ _ (Nat.lt_succ_self _) ⟨by omega, x8, x9, (x10 ++ [wrap64 ((rd x8 x12) + x71)]), x12, x46, x47, x48, x70, (wrap64 (x71 + 1)), x704000, x704001, x704002, x705000, h, rfl⟩) KD
 · refine pk 7 hF [.f] [] rfl KD ?_
   exact WS.lpc [(1002, some 1002), (1004, some 1004), (1008, some 1008), (1009, some 1009), (1010, some 1010)] (hJ1 _ _ (by omega) ⟨x8, x9, x10, x46, x47, (wrap64 (x48 + 1)), x704000, x704001, x704002, x705000, h, rfl⟩) KD
theorem cs116 (k : Nat) : C116 k := by
 induction k using Nat.strongRecOn with
 | _ k ih0 =>
 have ih : Kp (∀ m, m < k → C116 m) := ⟨ih0⟩
 exact ⟨c116f k ih, c116l0 k ih, c116l1 k ih, c116l2 k ih⟩
theorem spec_l8Pick.ctr (k : Nat) (a0_0 : Int) (l0_1 : List (List Int)) (l0_2 : List Int) (l1 : List Int) (r1 : Int) (r2 : List (List Int)) (r3 : List Int) (h : spec_l8Pick.f k a0_0 l0_1 l0_2 l1 = some (r1, r2, r3)) : Ctr TE 116 none [.ag [.i a0_0, .sl 1 (rX (cL (cI .i64) 1) l0_1), .sl 1 (rX (cI .i64) l0_2)], .sl 1 (rX (cI .i64) l1)] [.ro (.ag [.i r1, .sl 1 (rX (cL (cI .i64) 1) r2), .sl 1 (rX (cI .i64) r3)])] [] := (cs116 k).s_f a0_0 l0_1 l0_2 l1 r1 r2 r3 h
mutual
def spec_l8Turns.l0 : Nat → List Int → List Int → List Int → Int → Int → Option (List Int)
  | 0, _, _, _, _, _ => none
  | k + 1, x0, x3, x9, x10, x11 => if x11 < x10 then (if 0 ≤ x11 then (if x11 < (x9.length : Int) then (if x11 < (x0.length : Int) then (spec_l8Turns.l1 k x0 x3 x11 (rd x9 x11) x9 x10 x11 (rd x0 x11) 0) else (none)) else (none)) else (none)) else (some x3)
def spec_l8Turns.l1 : Nat → List Int → List Int → Int → Int → List Int → Int → Int → Int → Int → Option (List Int)
  | 0, _, _, _, _, _, _, _, _, _ => none
  | k + 1, x0, x3, x4, x5, x9, x10, x11, x19, x20 => if x20 < x19 then (if 0 ≤ x4 then (if x4 < (x0.length : Int) then (if x3.length < 17592186044416 then (spec_l8Turns.l1 k x0 (x3 ++ [wrap64 ((wrap64 ((wrap64 (x5 + (rd x0 x4))) - 1)) - x20)]) x4 x5 x9 x10 x11 x19 (wrap64 (x20 + 1))) else (none)) else (none)) else (none)) else (spec_l8Turns.l0 k x0 x3 x9 x10 (wrap64 (x11 + 1)))
end
def spec_l8Turns.f (k : Nat) (l0 : List Int) : Option (List Int) := (spec_l3Starts.f k l0).bind fun t766 => (spec_l8Turns.l0 k l0 (([] : List Int)) t766 (t766.length : Int) 0)
def I118_0 (r : List Int) (m : Nat) (σ : St) : Prop := ∃ (x0 : List Int) (x3 : List Int) (x9 : List Int) (x10 : Int) (x11 : Int), spec_l8Turns.l0 m x0 x3 x9 x10 x11 = some r ∧ σ = ⟨[(0, .sl 1 (rX (cI .i64) x0)), (3, .ow 1003 0), (9, .ow 1009 0), (10, .i x10), (11, .i x11)], [(1003, .own 0 3 1 (rX (cI .i64) x3)), (1009, .own 0 3 1 (rX (cI .i64) x9))]⟩
def I118_1 (r : List Int) (m : Nat) (σ : St) : Prop := ∃ (x0 : List Int) (x3 : List Int) (x4 : Int) (x5 : Int) (x9 : List Int) (x10 : Int) (x11 : Int) (x19 : Int) (x20 : Int), spec_l8Turns.l1 m x0 x3 x4 x5 x9 x10 x11 x19 x20 = some r ∧ σ = ⟨[(0, .sl 1 (rX (cI .i64) x0)), (3, .ow 1003 0), (4, .i x4), (5, .i x5), (9, .ow 1009 0), (10, .i x10), (11, .i x11), (19, .i x19), (20, .i x20)], [(1003, .own 0 3 1 (rX (cI .i64) x3)), (1009, .own 0 3 1 (rX (cI .i64) x9))]⟩
abbrev W118 (r : List Int) (w : World) (ro : Nat → Prop) (B : Nat) (p : List Nat) (j : List (St → Prop)) (σ : St) : Prop := Kp (WS TE (cx0 Tryz.f118 none w ro B) (stkAt p j (bodyOf Tryz.f118) []) σ (RetQ TE Tryz.f118 none [.own 3 1 (rX (cI .i64) r)] [] w ro B))
def S118l0 (k : Nat) : Prop := ∀ r w ro B (_ : Fr TE (cx0 Tryz.f118 none w ro B)) (σ : St) (_ : I118_0 r k σ), W118 r w ro B [1, 1, 0, 1, 0] [] σ
def S118l1 (k : Nat) : Prop := ∀ (r : List Int) (w : World) (ro : Nat → Prop) (B : Nat) (_ : Fr TE (cx0 Tryz.f118 none w ro B)) (J0 : St → Prop) (_ : ∀ m σ, m ≤ k → I118_0 r m σ → J0 σ) (σ : St) (_ : I118_1 r k σ), W118 r w ro B [1, 1, 0, 1, 0, 0, 1, 1, 0, 0, 1, 1, 0] [J0] σ
structure C118 (k : Nat) : Prop where
 s_l0 : S118l0 k
 s_l1 : S118l1 k
theorem c118l0 (k : Nat) (ih : Kp (∀ m, m < k → C118 m)) : S118l0 k := by
 intro r w ro B hF
 intro σ h0
 refine ⟨WS.loop (fun m σ => m ≤ k ∧ I118_0 r m σ) k ⟨Nat.le_refl k, h0⟩ (fun m σ' hI J0 hJ0 => ?_)⟩
 clear h0
 obtain ⟨hk, x0, x3, x9, x10, x11, h, rfl⟩ := hI
 cases m with
 | zero => simp [spec_l8Turns.l0] at h
 | succ k' =>
 simp only [spec_l8Turns.l0] at h
 rcases ic h with ⟨c2, h⟩ | ⟨c2, h⟩
 · obtain ⟨c3, h⟩ := ig h
   obtain ⟨c4, h⟩ := ig h
   obtain ⟨c5, h⟩ := ig h
   refine pk 12 hF [.t, .g [.i (rd x9 x11)], .e 18 (.rf [.i (rd x0 x11)])] [] rfl KD ?_
   exact WS.can [(1003, some 1003), (1009, some 1009)] (((ih.out k' (by omega)).s_l1  r w ro B hF J0 (fun m σ hm hI => hJ0 m σ (by omega) ⟨by omega, hI⟩) _ ⟨x0, x3, x11, (rd x9 x11), x9, x10, x11, (rd x0 x11), 0, h, rfl⟩).out) KD
 · refine pk 8 hF [.f] [] rfl KD ?_
   cases h
   exact rr [.own] rfl KD
theorem c118l1 (k : Nat) (ih : Kp (∀ m, m < k → C118 m)) : S118l1 k := by
 intro r w ro B hF J0 hJ0
 intro σ h0
 refine ⟨WS.loop (fun m σ => m ≤ k ∧ I118_1 r m σ) k ⟨Nat.le_refl k, h0⟩ (fun m σ' hI J1 hJ1 => ?_)⟩
 clear h0
 obtain ⟨hk, x0, x3, x4, x5, x9, x10, x11, x19, x20, h, rfl⟩ := hI
 cases m with
 | zero => simp [spec_l8Turns.l1] at h
 | succ k' =>
 simp only [spec_l8Turns.l1] at h
 rcases ic h with ⟨c6, h⟩ | ⟨c6, h⟩
 · obtain ⟨c7, h⟩ := ig h
   obtain ⟨c8, h⟩ := ig h
   obtain ⟨c9, h⟩ := ig h
   refine pk 12 hF [.t, .e 27 (.rf [.i (rd x0 x4)]), .p 33 ([[.i (wrap64 ((wrap64 ((wrap64 (x5 + (rd x0 x4))) - 1)) - x20))]]), .o 34 (rX (cI .i64) (x3 ++ [wrap64 ((wrap64 ((wrap64 (x5 + (rd x0 x4))) - 1)) - x20)]))] [] rfl KD ?_
   exact WS.lpc [(1003, some 1003), (1009, some 1009)] (hJ1 _ _ (Nat.lt_succ_self _) ⟨by omega, x0, (x3 ++ [wrap64 ((wrap64 ((wrap64 (x5 + (rd x0 x4))) - 1)) - x20)]), x4, x5, x9, x10, x11, x19, (wrap64 (x20 + 1)), h, rfl⟩) KD
 · refine pk 7 hF [.f] [] rfl KD ?_
   exact WS.lpc [(1003, some 1003), (1009, some 1009)] (hJ0 _ _ (by omega) ⟨x0, x3, x9, x10, (wrap64 (x11 + 1)), h, rfl⟩) KD
theorem cs118 (k : Nat) : C118 k := by
 induction k using Nat.strongRecOn with
 | _ k ih0 =>
 have ih : Kp (∀ m, m < k → C118 m) := ⟨ih0⟩
 exact ⟨c118l0 k ih, c118l1 k ih⟩
theorem spec_l8Turns.ctr (k : Nat) (l0 : List Int) (r : List Int) (h : spec_l8Turns.f k l0 = some r) : Ctr TE 118 none [.sl 1 (rX (cI .i64) l0)] [.own 3 1 (rX (cI .i64) r)] [] := by
 refine co Tryz.func118 (by kernel_rfl) (by kernel_rfl) fun w ro B hF => ?_
 have ih : Kp (∀ m, m < k + 1 → C118 m) := ⟨fun m _ => cs118 m⟩
 simp only [spec_l8Turns.f] at h
 obtain ⟨t766, q1, h⟩ := ib h
 have q1c := spec_l3Starts.ctr k _ _ q1
 refine pk 8 hF [.p 7 ([]), .r [.own 3 1 (rX (cI .i64) t766)] [], .e 10 (.i (t766.length : Int))] [] rfl KD ?_
 exact WS.can [(1003, some 7), (1009, some 100144)] ((ih.a.s_l0  r w ro B hF _ ⟨l0, (([] : List Int)), t766, (t766.length : Int), 0, h, rfl⟩).out) KD
mutual
def spec_l3Up.l0 : Nat → List Int → List Int → Int → Int → Option (List Int)
  | 0, _, _, _, _ => none
  | k + 1, x3, x8, x9, x10 => if x10 < x9 then (if 0 ≤ x10 then (if x10 < (x8.length : Int) then (spec_l3Up.l1 k x3 x8 x9 x10 (rd x8 x10) 0) else (none)) else (none)) else (some x3)
def spec_l3Up.l1 : Nat → List Int → List Int → Int → Int → Int → Int → Option (List Int)
  | 0, _, _, _, _, _, _ => none
  | k + 1, x3, x8, x9, x10, x14, x15 => if x15 < x14 then (if x3.length < 17592186044416 then (spec_l3Up.l1 k (x3 ++ [x15]) x8 x9 x10 x14 (wrap64 (x15 + 1))) else (none)) else (spec_l3Up.l0 k x3 x8 x9 (wrap64 (x10 + 1)))
end
def spec_l3Up.f (k : Nat) (l0 : List Int) : Option (List Int) := spec_l3Up.l0 k (([] : List Int)) l0 (l0.length : Int) 0
def I121_0 (r : List Int) (m : Nat) (σ : St) : Prop := ∃ (x3 : List Int) (x8 : List Int) (x9 : Int) (x10 : Int), spec_l3Up.l0 m x3 x8 x9 x10 = some r ∧ σ = ⟨[(3, .ow 1003 0), (8, .sl 1 (rX (cI .i64) x8)), (9, .i x9), (10, .i x10)], [(1003, .own 0 3 1 (rX (cI .i64) x3))]⟩
def I121_1 (r : List Int) (m : Nat) (σ : St) : Prop := ∃ (x3 : List Int) (x8 : List Int) (x9 : Int) (x10 : Int) (x14 : Int) (x15 : Int), spec_l3Up.l1 m x3 x8 x9 x10 x14 x15 = some r ∧ σ = ⟨[(3, .ow 1003 0), (8, .sl 1 (rX (cI .i64) x8)), (9, .i x9), (10, .i x10), (14, .i x14), (15, .i x15)], [(1003, .own 0 3 1 (rX (cI .i64) x3))]⟩
abbrev W121 (r : List Int) (w : World) (ro : Nat → Prop) (B : Nat) (p : List Nat) (j : List (St → Prop)) (σ : St) : Prop := Kp (WS TE (cx0 Tryz.f121 none w ro B) (stkAt p j (bodyOf Tryz.f121) []) σ (RetQ TE Tryz.f121 none [.own 3 1 (rX (cI .i64) r)] [] w ro B))
def S121l0 (k : Nat) : Prop := ∀ r w ro B (_ : Fr TE (cx0 Tryz.f121 none w ro B)) (σ : St) (_ : I121_0 r k σ), W121 r w ro B [1, 1, 0, 1, 0] [] σ
def S121l1 (k : Nat) : Prop := ∀ (r : List Int) (w : World) (ro : Nat → Prop) (B : Nat) (_ : Fr TE (cx0 Tryz.f121 none w ro B)) (J0 : St → Prop) (_ : ∀ m σ, m ≤ k → I121_0 r m σ → J0 σ) (σ : St) (_ : I121_1 r k σ), W121 r w ro B [1, 1, 0, 1, 0, 0, 1, 1, 0, 0, 1, 1, 0] [J0] σ
structure C121 (k : Nat) : Prop where
 s_l0 : S121l0 k
 s_l1 : S121l1 k
theorem c121l0 (k : Nat) (ih : Kp (∀ m, m < k → C121 m)) : S121l0 k := by
 intro r w ro B hF
 intro σ h0
 refine ⟨WS.loop (fun m σ => m ≤ k ∧ I121_0 r m σ) k ⟨Nat.le_refl k, h0⟩ (fun m σ' hI J0 hJ0 => ?_)⟩
 clear h0
 obtain ⟨hk, x3, x8, x9, x10, h, rfl⟩ := hI
 cases m with
 | zero => simp [spec_l3Up.l0] at h
 | succ k' =>
 simp only [spec_l3Up.l0] at h
 rcases ic h with ⟨c1, h⟩ | ⟨c1, h⟩
 · obtain ⟨c2, h⟩ := ig h
   obtain ⟨c3, h⟩ := ig h
   refine pk 12 hF [.t, .e 12 (.rf [.i (rd x8 x10)])] [] rfl KD ?_
   exact WS.can [(1003, some 1003)] (((ih.out k' (by omega)).s_l1  r w ro B hF J0 (fun m σ hm hI => hJ0 m σ (by omega) ⟨by omega, hI⟩) _ ⟨x3, x8, x9, x10, (rd x8 x10), 0, h, rfl⟩).out) KD
 · refine pk 8 hF [.f] [] rfl KD ?_
   cases h
   exact rr [.own] rfl KD
theorem c121l1 (k : Nat) (ih : Kp (∀ m, m < k → C121 m)) : S121l1 k := by
 intro r w ro B hF J0 hJ0
 intro σ h0
 refine ⟨WS.loop (fun m σ => m ≤ k ∧ I121_1 r m σ) k ⟨Nat.le_refl k, h0⟩ (fun m σ' hI J1 hJ1 => ?_)⟩
 clear h0
 obtain ⟨hk, x3, x8, x9, x10, x14, x15, h, rfl⟩ := hI
 cases m with
 | zero => simp [spec_l3Up.l1] at h
 | succ k' =>
 simp only [spec_l3Up.l1] at h
 rcases ic h with ⟨c4, h⟩ | ⟨c4, h⟩
 · obtain ⟨c5, h⟩ := ig h
   refine pk 12 hF [.t, .p 20 ([[.i x15]]), .o 21 (rX (cI .i64) (x3 ++ [x15]))] [] rfl KD ?_
   exact WS.lpc [(1003, some 1003)] (hJ1 _ _ (Nat.lt_succ_self _) ⟨by omega, (x3 ++ [x15]), x8, x9, x10, x14, (wrap64 (x15 + 1)), h, rfl⟩) KD
 · refine pk 7 hF [.f] [] rfl KD ?_
   exact WS.lpc [(1003, some 1003)] (hJ0 _ _ (by omega) ⟨x3, x8, x9, (wrap64 (x10 + 1)), h, rfl⟩) KD
theorem cs121 (k : Nat) : C121 k := by
 induction k using Nat.strongRecOn with
 | _ k ih0 =>
 have ih : Kp (∀ m, m < k → C121 m) := ⟨ih0⟩
 exact ⟨c121l0 k ih, c121l1 k ih⟩
theorem spec_l3Up.ctr (k : Nat) (l0 : List Int) (r : List Int) (h : spec_l3Up.f k l0 = some r) : Ctr TE 121 none [.sl 1 (rX (cI .i64) l0)] [.own 3 1 (rX (cI .i64) r)] [] := by
 refine co Tryz.func121 (by kernel_rfl) (by kernel_rfl) fun w ro B hF => ?_
 have ih : Kp (∀ m, m < k + 1 → C121 m) := ⟨fun m _ => cs121 m⟩
 simp only [spec_l3Up.f] at h
 refine pk 8 hF [.p 7 ([]), .e 9 (.i (l0.length : Int))] [] rfl KD ?_
 exact WS.can [(1003, some 7)] ((ih.a.s_l0  r w ro B hF _ ⟨(([] : List Int)), l0, (l0.length : Int), 0, h, rfl⟩).out) KD
mutual
def spec_l8One.l0 : Nat → List Int → List Int → Int → Int → Option (Int × (List (List Int)) × List Int)
  | 0, _, _, _, _ => none
  | k + 1, x5, x46, x47, x48 => if x48 < x47 then (if 0 ≤ x48 then (if x48 < (x46.length : Int) then (if x5.length < 17592186044416 then (spec_l8One.l0 k (x5 ++ [Int.tmod (rd x46 x48) 10007]) x46 x47 (wrap64 (x48 + 1))) else (none)) else (none)) else (none)) else ((spec_l8Plain.f x5).bind fun bt814 => (some (bt814.1, bt814.2.1, bt814.2.2)))
def spec_l8One.l1 : Nat → List Int → List (List Int) → Int → Int → Int → List (List Int) → List Int → Option (Int × (List (List Int)) × List Int)
  | 0, _, _, _, _, _, _, _ => none
  | k + 1, x8, x108, x109, x110, x783000, x783001, x783002 => if x110 < x109 then (if 0 ≤ x110 then (if x110 < (x108.length : Int) then ((spec_l3Total.f k (rd_L1 x108 x110)).bind fun t875 => (if x8.length < 17592186044416 then (spec_l8One.l1 k (x8 ++ [t875]) x108 x109 (wrap64 (x110 + 1)) x783000 x783001 x783002) else (none))) else (none)) else (none)) else ((spec_l8Inner.f k x783000 x783001 x783002).bind fun bt879 => ((spec_l8Inner.f k bt879.1 bt879.2.1 bt879.2.2).bind fun bt886 => ((spec_l8Outer.f x8 bt886.1 bt886.2.1 bt886.2.2).bind fun bt893 => (some (bt893.1, bt893.2.1, bt893.2.2)))))
def spec_l8One.l2 : Nat → List Int → List Int → Int → Int → Option (Int × (List (List Int)) × List Int)
  | 0, _, _, _, _ => none
  | k + 1, x11, x128, x129, x130 => if x130 < x129 then (if 0 ≤ x130 then (if x130 < (x128.length : Int) then (if x11.length < 17592186044416 then (spec_l8One.l2 k (x11 ++ [mn (rd x128 x130) 12]) x128 x129 (wrap64 (x130 + 1))) else (none)) else (none)) else (none)) else ((spec_l3Up.f k x11).bind fun t907 => ((spec_l8Plain.f t907).bind fun bt910 => ((spec_l8Outer.f x11 bt910.1 bt910.2.1 bt910.2.2).bind fun bt917 => (some (bt917.1, bt917.2.1, bt917.2.2)))))
end
def spec_l8One.f (k : Nat) (a0 : Int) (a1_0 : Int) (l1_1 : List (List Int)) (l1_2 : List Int) : Option (Int × (List (List Int)) × List Int) := if a0 = 83 then (if 0 < (l1_1.length : Int) then ((spec_l3Sums.f k (rd_L1 l1_1 0) l1_2).bind fun t785 => ((spec_l8Plain.f t785).bind fun bt788 => (some (bt788.1, bt788.2.1, bt788.2.2)))) else (none)) else (if a0 = 77 then (if 0 < (l1_1.length : Int) then ((spec_l3Most.f k (rd_L1 l1_1 0) l1_2).bind fun t796 => ((spec_l8Plain.f t796).bind fun bt799 => (some (bt799.1, bt799.2.1, bt799.2.2)))) else (none)) else (if a0 = 78 then (if 0 < (l1_1.length : Int) then (spec_l8One.l0 k (([] : List Int)) (rd_L1 l1_1 0) ((rd_L1 l1_1 0).length : Int) 0) else (none)) else (if a0 = 80 then (if 0 < (l1_1.length : Int) then ((spec_l3Scans.f k (rd_L1 l1_1 0) l1_2).bind fun t823 => ((spec_l8Plain.f t823).bind fun bt826 => ((spec_l8Outer.f (rd_L1 l1_1 0) bt826.1 bt826.2.1 bt826.2.2).bind fun bt833 => (some (bt833.1, bt833.2.1, bt833.2.2))))) else (none)) else (if a0 = 82 then (if 0 < (l1_1.length : Int) then ((spec_l8Inner.f k a1_0 l1_1 l1_2).bind fun bt841 => ((spec_l8Turns.f k (rd_L1 l1_1 0)).bind fun t849 => ((spec_l8Pick.f k bt841.1 bt841.2.1 bt841.2.2 t849).bind fun bt852 => ((spec_l8Outer.f (rd_L1 l1_1 0) bt852.1 bt852.2.1 bt852.2.2).bind fun bt859 => (some (bt859.1, bt859.2.1, bt859.2.2)))))) else (none)) else (if a0 = 67 then (if 0 < (l1_1.length : Int) then (if 1 < (l1_1.length : Int) then ((spec_l3Cut.f k (rd_L1 l1_1 0) (rd_L1 l1_1 1)).bind fun t871 => (spec_l8One.l1 k (([] : List Int)) t871 (t871.length : Int) 0 a1_0 l1_1 l1_2)) else (none)) else (none)) else (spec_l8One.l2 k (([] : List Int)) l1_2 (l1_2.length : Int) 0))))))
def I78_0 (r1 : Int) (r2 : List (List Int)) (r3 : List Int) (m : Nat) (σ : St) : Prop := ∃ (x5 : List Int) (x46 : List Int) (x47 : Int) (x48 : Int) (x784000 : Int), spec_l8One.l0 m x5 x46 x47 x48 = some (r1, r2, r3) ∧ σ = ⟨[(4, .pt 1004 0 0), (5, .ow 1005 0), (46, .sl 1 (rX (cI .i64) x46)), (47, .i x47), (48, .i x48)], [(1004, .box 0 31 false [.i x784000, .v (.slice none 0 0), .v (.slice none 0 0)]), (1005, .own 0 3 1 (rX (cI .i64) x5))]⟩
def I78_1 (r1 : Int) (r2 : List (List Int)) (r3 : List Int) (m : Nat) (σ : St) : Prop := ∃ (x8 : List Int) (x108 : List (List Int)) (x109 : Int) (x110 : Int) (x783000 : Int) (x783001 : List (List Int)) (x783002 : List Int) (x784000 : Int), spec_l8One.l1 m x8 x108 x109 x110 x783000 x783001 x783002 = some (r1, r2, r3) ∧ σ = ⟨[(3, .pt 1003 0 0), (4, .pt 1004 0 0), (8, .ow 1008 0), (108, .ow 1108 0), (109, .i x109), (110, .i x110)], [(1003, .box 0 31 false [.i x783000, .sl 1 (rX (cL (cI .i64) 1) x783001), .sl 1 (rX (cI .i64) x783002)]), (1004, .box 0 31 false [.i x784000, .v (.slice none 0 0), .v (.slice none 0 0)]), (1008, .own 0 3 1 (rX (cI .i64) x8)), (1108, .own 0 27 1 (rX (cL (cI .i64) 1) x108))]⟩
def I78_2 (r1 : Int) (r2 : List (List Int)) (r3 : List Int) (m : Nat) (σ : St) : Prop := ∃ (x11 : List Int) (x128 : List Int) (x129 : Int) (x130 : Int) (x784000 : Int), spec_l8One.l2 m x11 x128 x129 x130 = some (r1, r2, r3) ∧ σ = ⟨[(4, .pt 1004 0 0), (11, .ow 1011 0), (128, .sl 1 (rX (cI .i64) x128)), (129, .i x129), (130, .i x130)], [(1004, .box 0 31 false [.i x784000, .v (.slice none 0 0), .v (.slice none 0 0)]), (1011, .own 0 3 1 (rX (cI .i64) x11))]⟩
abbrev W78 (r1 : Int) (r2 : List (List Int)) (r3 : List Int) (w : World) (ro : Nat → Prop) (B : Nat) (p : List Nat) (j : List (St → Prop)) (σ : St) : Prop := Kp (WS TE (cx0 Tryz.f78 none w ro B) (stkAt p j (bodyOf Tryz.f78) []) σ (RetQ TE Tryz.f78 none [.ro (.ag [.i r1, .sl 1 (rX (cL (cI .i64) 1) r2), .sl 1 (rX (cI .i64) r3)])] [] w ro B))
def S78l0 (k : Nat) : Prop := ∀ r1 r2 r3 w ro B (_ : Fr TE (cx0 Tryz.f78 none w ro B)) (σ : St) (_ : I78_0 r1 r2 r3 k σ), W78 r1 r2 r3 w ro B [1, 0, 1, 0, 1, 1, 1, 1, 1, 0, 1, 0, 1, 0] [] σ
def S78l1 (k : Nat) : Prop := ∀ r1 r2 r3 w ro B (_ : Fr TE (cx0 Tryz.f78 none w ro B)) (σ : St) (_ : I78_1 r1 r2 r3 k σ), W78 r1 r2 r3 w ro B [1, 0, 1, 0, 1, 1, 1, 1, 1, 1, 1, 1, 1, 1, 1, 0, 1, 0, 1, 0] [] σ
def S78l2 (k : Nat) : Prop := ∀ r1 r2 r3 w ro B (_ : Fr TE (cx0 Tryz.f78 none w ro B)) (σ : St) (_ : I78_2 r1 r2 r3 k σ), W78 r1 r2 r3 w ro B [1, 1, 1, 0, 1, 0] [] σ
structure C78 (k : Nat) : Prop where
 s_l0 : S78l0 k
 s_l1 : S78l1 k
 s_l2 : S78l2 k
theorem c78l0 (k : Nat) (ih : Kp (∀ m, m < k → C78 m)) : S78l0 k := by
 intro r1 r2 r3 w ro B hF
 intro σ h0
 refine ⟨WS.loop (fun m σ => m ≤ k ∧ I78_0 r1 r2 r3 m σ) k ⟨Nat.le_refl k, h0⟩ (fun m σ' hI J0 hJ0 => ?_)⟩
 clear h0
 obtain ⟨hk, x5, x46, x47, x48, x784000, h, rfl⟩ := hI
 cases m with
 | zero => simp [spec_l8One.l0] at h
 | succ k' =>
 simp only [spec_l8One.l0] at h
 rcases ic h with ⟨c26, h⟩ | ⟨c26, h⟩
 · obtain ⟨c27, h⟩ := ig h
   obtain ⟨c28, h⟩ := ig h
   obtain ⟨c29, h⟩ := ig h
   refine pk 12 hF [.t, .e 50 (.rf [.i (rd x46 x48)]), .e 54 (.i (Int.tmod (rd x46 x48) 10007)), .p 55 ([[.i (Int.tmod (rd x46 x48) 10007)]]), .o 56 (rX (cI .i64) (x5 ++ [Int.tmod (rd x46 x48) 10007]))] [] rfl KD ?_
   exact WS.lpc [(1004, some 1004), (1005, some 1005)] (hJ0 _ _ (Nat.lt_succ_self _) ⟨by omega, (x5 ++ [Int.tmod (rd x46 x48) 10007]), x46, x47, (wrap64 (x48 + 1)), x784000, h, rfl⟩) KD
 · obtain ⟨⟨t814, t815, t818⟩, q30, h⟩ := ib h
   dsimp only at h
   have q30c := spec_l8Plain.ctr _ _ _ _ q30
   refine pk 8 hF [.f, .r [.ro (.ag [.i t814, .sl 1 (rX (cL (cI .i64) 1) t815), .sl 1 (rX (cI .i64) t818)])] []] [] rfl KD ?_
   cases h
   exact rr [.ro] rfl KD
theorem c78l1 (k : Nat) (ih : Kp (∀ m, m < k → C78 m)) : S78l1 k := by
 intro r1 r2 r3 w ro B hF
 intro σ h0
 refine ⟨WS.loop (fun m σ => m ≤ k ∧ I78_1 r1 r2 r3 m σ) k ⟨Nat.le_refl k, h0⟩ (fun m σ' hI J1 hJ1 => ?_)⟩
 clear h0
 obtain ⟨hk, x8, x108, x109, x110, x783000, x783001, x783002, x784000, h, rfl⟩ := hI
 cases m with
 | zero => simp [spec_l8One.l1] at h
 | succ k' =>
 simp only [spec_l8One.l1] at h
 rcases ic h with ⟨c31, h⟩ | ⟨c31, h⟩
 · obtain ⟨c32, h⟩ := ig h
   obtain ⟨c33, h⟩ := ig h
   obtain ⟨t875, q34, h⟩ := ib h
   have q34c := spec_l3Total.ctr k' _ _ q34
   obtain ⟨c35, h⟩ := ig h
   refine pk 12 hF [.t, .g [.sl 1 (rX (cI .i64) (rd_L1 x108 x110))], .r [.ro (.i t875)] [], .p 117 ([[.i t875]]), .o 118 (rX (cI .i64) (x8 ++ [t875]))] [] rfl KD ?_
   exact WS.lpc [(1003, some 1003), (1004, some 1004), (1008, some 1008), (1108, some 1108)] (hJ1 _ _ (Nat.lt_succ_self _) ⟨by omega, (x8 ++ [t875]), x108, x109, (wrap64 (x110 + 1)), x783000, x783001, x783002, x784000, h, rfl⟩) KD
 · obtain ⟨⟨t879, t880, t883⟩, q36, h⟩ := ib h
   dsimp only at h
   have q36c := spec_l8Inner.ctr k' _ _ _ _ _ _ q36
   obtain ⟨⟨t886, t887, t890⟩, q37, h⟩ := ib h
   dsimp only at h
   have q37c := spec_l8Inner.ctr k' _ _ _ _ _ _ q37
   obtain ⟨⟨t893, t894, t897⟩, q38, h⟩ := ib h
   dsimp only at h
   have q38c := spec_l8Outer.ctr _ _ _ _ _ _ _ q38
   refine pk 8 hF [.f, .r [.ro (.ag [.i t879, .sl 1 (rX (cL (cI .i64) 1) t880), .sl 1 (rX (cI .i64) t883)])] [], .r [.ro (.ag [.i t886, .sl 1 (rX (cL (cI .i64) 1) t887), .sl 1 (rX (cI .i64) t890)])] [], .r [.ro (.ag [.i t893, .sl 1 (rX (cL (cI .i64) 1) t894), .sl 1 (rX (cI .i64) t897)])] []] [] rfl KD ?_
   cases h
   exact rr [.ro] rfl KD
theorem c78l2 (k : Nat) (ih : Kp (∀ m, m < k → C78 m)) : S78l2 k := by
 intro r1 r2 r3 w ro B hF
 intro σ h0
 refine ⟨WS.loop (fun m σ => m ≤ k ∧ I78_2 r1 r2 r3 m σ) k ⟨Nat.le_refl k, h0⟩ (fun m σ' hI J2 hJ2 => ?_)⟩
 clear h0
 obtain ⟨hk, x11, x128, x129, x130, x784000, h, rfl⟩ := hI
 cases m with
 | zero => simp [spec_l8One.l2] at h
 | succ k' =>
 simp only [spec_l8One.l2] at h
 rcases ic h with ⟨c39, h⟩ | ⟨c39, h⟩
 · obtain ⟨c40, h⟩ := ig h
   obtain ⟨c41, h⟩ := ig h
   obtain ⟨c42, h⟩ := ig h
   refine pk 12 hF [.t, .e 132 (.rf [.i (rd x128 x130)]), .p 137 ([[.i (mn (rd x128 x130) 12)]]), .o 138 (rX (cI .i64) (x11 ++ [mn (rd x128 x130) 12]))] [] rfl KD ?_
   exact WS.lpc [(1004, some 1004), (1011, some 1011)] (hJ2 _ _ (Nat.lt_succ_self _) ⟨by omega, (x11 ++ [mn (rd x128 x130) 12]), x128, x129, (wrap64 (x130 + 1)), x784000, h, rfl⟩) KD
 · obtain ⟨t907, q43, h⟩ := ib h
   have q43c := spec_l3Up.ctr k' _ _ q43
   obtain ⟨⟨t910, t911, t914⟩, q44, h⟩ := ib h
   dsimp only at h
   have q44c := spec_l8Plain.ctr _ _ _ _ q44
   obtain ⟨⟨t917, t918, t921⟩, q45, h⟩ := ib h
   dsimp only at h
   have q45c := spec_l8Outer.ctr _ _ _ _ _ _ _ q45
   refine pk 8 hF [.f, .r [.own 3 1 (rX (cI .i64) t907)] [], .r [.ro (.ag [.i t910, .sl 1 (rX (cL (cI .i64) 1) t911), .sl 1 (rX (cI .i64) t914)])] [], .r [.ro (.ag [.i t917, .sl 1 (rX (cL (cI .i64) 1) t918), .sl 1 (rX (cI .i64) t921)])] []] [] rfl KD ?_
   cases h
   exact rr [.ro] rfl KD
theorem cs78 (k : Nat) : C78 k := by
 induction k using Nat.strongRecOn with
 | _ k ih0 =>
 have ih : Kp (∀ m, m < k → C78 m) := ⟨ih0⟩
 exact ⟨c78l0 k ih, c78l1 k ih, c78l2 k ih⟩
theorem spec_l8One.ctr (k : Nat) (a0 : Int) (a1_0 : Int) (l1_1 : List (List Int)) (l1_2 : List Int) (r1 : Int) (r2 : List (List Int)) (r3 : List Int) (h : spec_l8One.f k a0 a1_0 l1_1 l1_2 = some (r1, r2, r3)) : Ctr TE 78 none [.v (.int .u8 a0), .ag [.i a1_0, .sl 1 (rX (cL (cI .i64) 1) l1_1), .sl 1 (rX (cI .i64) l1_2)]] [.ro (.ag [.i r1, .sl 1 (rX (cL (cI .i64) 1) r2), .sl 1 (rX (cI .i64) r3)])] [] := by
 refine co Tryz.func78 (by kernel_rfl) (by kernel_rfl) fun w ro B hF => ?_
 have ih : Kp (∀ m, m < k + 1 → C78 m) := ⟨fun m _ => cs78 m⟩
 simp only [spec_l8One.f] at h
 rcases ic h with ⟨c1, h⟩ | ⟨c1, h⟩
 · obtain ⟨c2, h⟩ := ig h
   obtain ⟨t785, q3, h⟩ := ib h
   have q3c := spec_l3Sums.ctr k _ _ _ q3
   obtain ⟨⟨t788, t789, t792⟩, q4, h⟩ := ib h
   dsimp only at h
   have q4c := spec_l8Plain.ctr _ _ _ _ q4
   refine pk 12 hF [.t, .e 20 (.rf [.sl 1 (rX (cI .i64) (rd_L1 l1_1 0))]), .r [.own 3 1 (rX (cI .i64) t785)] [], .r [.ro (.ag [.i t788, .sl 1 (rX (cL (cI .i64) 1) t789), .sl 1 (rX (cI .i64) t792)])] []] [.o [(0, 0), (1, 0), (2, 1), (3, 0), (4, 1), (5, 0), (6, 0), (7, 1), (8, 2), (9, 2), (10, 2)] [10]] rfl KD ?_
   cases h
   exact rr [.ro] rfl KD
 · rcases ic h with ⟨c5, h⟩ | ⟨c5, h⟩
   · obtain ⟨c6, h⟩ := ig h
     obtain ⟨t796, q7, h⟩ := ib h
     have q7c := spec_l3Most.ctr k _ _ _ q7
     obtain ⟨⟨t799, t800, t803⟩, q8, h⟩ := ib h
     dsimp only at h
     have q8c := spec_l8Plain.ctr _ _ _ _ q8
     refine pk 15 hF [.f, .t, .e 32 (.rf [.sl 1 (rX (cI .i64) (rd_L1 l1_1 0))]), .r [.own 3 1 (rX (cI .i64) t796)] [], .r [.ro (.ag [.i t799, .sl 1 (rX (cL (cI .i64) 1) t800), .sl 1 (rX (cI .i64) t803)])] []] [.o [(0, 0), (1, 0), (2, 1), (3, 0), (4, 1), (5, 0), (6, 0), (7, 1), (8, 2), (9, 2), (10, 2)] [10]] rfl KD ?_
     cases h
     exact rr [.ro] rfl KD
   · rcases ic h with ⟨c9, h⟩ | ⟨c9, h⟩
     · obtain ⟨c10, h⟩ := ig h
       refine pk 21 hF [.f, .f, .t, .p 41 ([]), .e 45 (.rf [.sl 1 (rX (cI .i64) (rd_L1 l1_1 0))]), .e 47 (.i ((rd_L1 l1_1 0).length : Int))] [] rfl KD ?_
       exact WS.can [(1004, some 4), (1005, some 41)] ((ih.a.s_l0  r1 r2 r3 w ro B hF _ ⟨(([] : List Int)), (rd_L1 l1_1 0), ((rd_L1 l1_1 0).length : Int), 0, 0, h, rfl⟩).out) KD
     · rcases ic h with ⟨c11, h⟩ | ⟨c11, h⟩
       · obtain ⟨c12, h⟩ := ig h
         obtain ⟨t823, q13, h⟩ := ib h
         have q13c := spec_l3Scans.ctr k _ _ _ q13
         obtain ⟨⟨t826, t827, t830⟩, q14, h⟩ := ib h
         dsimp only at h
         have q14c := spec_l8Plain.ctr _ _ _ _ q14
         obtain ⟨⟨t833, t834, t837⟩, q15, h⟩ := ib h
         dsimp only at h
         have q15c := spec_l8Outer.ctr _ _ _ _ _ _ _ q15
         refine pk 21 hF [.f, .f, .f, .t, .e 65 (.rf [.sl 1 (rX (cI .i64) (rd_L1 l1_1 0))]), .e 70 (.rf [.sl 1 (rX (cI .i64) (rd_L1 l1_1 0))]), .r [.own 3 1 (rX (cI .i64) t823)] [], .r [.ro (.ag [.i t826, .sl 1 (rX (cL (cI .i64) 1) t827), .sl 1 (rX (cI .i64) t830)])] [], .r [.ro (.ag [.i t833, .sl 1 (rX (cL (cI .i64) 1) t834), .sl 1 (rX (cI .i64) t837)])] []] [.o [(0, 0), (1, 0), (2, 1), (3, 0), (4, 1), (5, 0), (6, 0), (7, 1), (8, 0), (9, 1), (10, 0), (11, 0), (12, 1), (13, 2), (14, 2), (15, 2), (16, 2)] [16]] rfl KD ?_
         cases h
         exact rr [.ro] rfl KD
       · rcases ic h with ⟨c16, h⟩ | ⟨c16, h⟩
         · obtain ⟨c17, h⟩ := ig h
           obtain ⟨⟨t841, t842, t845⟩, q18, h⟩ := ib h
           dsimp only at h
           have q18c := spec_l8Inner.ctr k _ _ _ _ _ _ q18
           obtain ⟨t849, q19, h⟩ := ib h
           have q19c := spec_l8Turns.ctr k _ _ q19
           obtain ⟨⟨t852, t853, t856⟩, q20, h⟩ := ib h
           dsimp only at h
           have q20c := spec_l8Pick.ctr k _ _ _ _ _ _ _ q20
           obtain ⟨⟨t859, t860, t863⟩, q21, h⟩ := ib h
           dsimp only at h
           have q21c := spec_l8Outer.ctr _ _ _ _ _ _ _ q21
           refine pk 24 hF [.f, .f, .f, .f, .t, .e 83 (.rf [.sl 1 (rX (cI .i64) (rd_L1 l1_1 0))]), .e 90 (.rf [.sl 1 (rX (cI .i64) (rd_L1 l1_1 0))]), .r [.ro (.ag [.i t841, .sl 1 (rX (cL (cI .i64) 1) t842), .sl 1 (rX (cI .i64) t845)])] [], .r [.own 3 1 (rX (cI .i64) t849)] [], .r [.ro (.ag [.i t852, .sl 1 (rX (cL (cI .i64) 1) t853), .sl 1 (rX (cI .i64) t856)])] [], .r [.ro (.ag [.i t859, .sl 1 (rX (cL (cI .i64) 1) t860), .sl 1 (rX (cI .i64) t863)])] []] [.o [(0, 0), (1, 0), (2, 1), (3, 0), (4, 1), (5, 1), (7, 0), (8, 0), (9, 1), (10, 0), (11, 1), (6, 2), (12, 2), (13, 2), (14, 2), (15, 2)] [15]] rfl KD ?_
           cases h
           exact rr [.ro] rfl KD
         · rcases ic h with ⟨c22, h⟩ | ⟨c22, h⟩
           · obtain ⟨c23, h⟩ := ig h
             obtain ⟨c24, h⟩ := ig h
             obtain ⟨t871, q25, h⟩ := ib h
             have q25c := spec_l3Cut.ctr k _ _ _ q25
             refine pk 30 hF [.f, .f, .f, .f, .f, .t, .p 97 ([]), .e 101 (.rf [.sl 1 (rX (cI .i64) (rd_L1 l1_1 0))]), .e 106 (.rf [.sl 1 (rX (cI .i64) (rd_L1 l1_1 1))]), .r [.own 27 1 (rX (cL (cI .i64) 1) t871)] [], .e 109 (.i (t871.length : Int))] [.o [(0, 0), (1, 0), (2, 1), (3, 0), (4, 1), (5, 0), (6, 0), (7, 1), (8, 0), (9, 1), (12, 0), (10, 2), (11, 0)] []] rfl KD ?_
             exact WS.can [(1003, some 3), (1004, some 4), (1008, some 97), (1108, some 101728)] ((ih.a.s_l1  r1 r2 r3 w ro B hF _ ⟨(([] : List Int)), t871, (t871.length : Int), 0, a1_0, l1_1, l1_2, 0, h, rfl⟩).out) KD
           · refine pk 32 hF [.f, .f, .f, .f, .f, .f, .p 125 ([]), .e 129 (.i (l1_2.length : Int))] [] rfl KD ?_
             exact WS.can [(1004, some 4), (1011, some 125)] ((ih.a.s_l2  r1 r2 r3 w ro B hF _ ⟨(([] : List Int)), l1_2, (l1_2.length : Int), 0, 0, h, rfl⟩).out) KD
def spec_l5Two.j0 : Nat → Bool → Option (Int)
  | 0, _ => none
  | k + 1, x14 => if x14 = true then (some 0) else (some (-1))
def spec_l5Two.f (k : Nat) (a0 : Int) (a1 : Int) (a2 : Int) : Option (Int) := if a0 = 64 then (if a1 = 1 then (spec_l5Two.j0 k (a2 == 0)) else (spec_l5Two.j0 k false)) else (if a1 = 0 then (if a2 = 0 then (some 0) else (some (-1))) else (some (-1)))
theorem spec_l5Two.mono_l : ∀ k, (∀ y0, LeO (spec_l5Two.j0 k y0) (spec_l5Two.j0 (k + 1) y0))
  | 0 => fun _ r h => by simp [spec_l5Two.j0] at h
  | k + 1 => by
    have ih0 := spec_l5Two.mono_l k
    · intro y0
      unfold spec_l5Two.j0
      repeat' first
      | (with_reducible exact ih0 _)
      | (with_reducible exact LeO.refl _)
      | (with_reducible exact LeO.none _)
      | (with_reducible refine LeO.ite ?_ ?_)
      | (with_reducible refine LeO.bind ?_ (fun _ => ?_))
      | exact ih0 _
      | exact LeO.none _
      | refine LeO.ite ?_ ?_
      | refine LeO.bind ?_ (fun _ => ?_)
theorem spec_l5Two.mono : ∀ a0 a1 a2 k, LeO (spec_l5Two.f k a0 a1 a2) (spec_l5Two.f (k + 1) a0 a1 a2) := by
  intro a0 a1 a2 k
  have ih0 := spec_l5Two.mono_l k
  unfold spec_l5Two.f
  repeat' first
      | (with_reducible exact ih0 _)
      | (with_reducible exact LeO.refl _)
      | (with_reducible exact LeO.none _)
      | (with_reducible refine LeO.ite ?_ ?_)
      | (with_reducible refine LeO.bind ?_ (fun _ => ?_))
      | exact ih0 _
      | exact LeO.none _
      | refine LeO.ite ?_ ?_
      | refine LeO.bind ?_ (fun _ => ?_)
abbrev W79 (r : Int) (w : World) (ro : Nat → Prop) (B : Nat) (p : List Nat) (j : List (St → Prop)) (σ : St) : Prop := Kp (WS TE (cx0 Tryz.f79 none w ro B) (stkAt p j (bodyOf Tryz.f79) []) σ (RetQ TE Tryz.f79 none [.ro (.i r)] [] w ro B))
def S79j0 (k : Nat) : Prop := ∀ r w ro B (_ : Fr TE (cx0 Tryz.f79 none w ro B)) x14 (_ : spec_l5Two.j0 k x14 = some r), W79 r w ro B [1, 0, 1, 0, 0, 0, 9] [] ⟨[(14, .v (.bool x14))], []⟩
structure C79 (k : Nat) : Prop where
 s_j0 : S79j0 k
theorem c79j0 (k : Nat) (ih : Kp (∀ m, m < k → C79 m)) : S79j0 k := by
 intro r w ro B hF
 intro x14 h
 refine ⟨?_⟩
 cases k with
 | zero => simp [spec_l5Two.j0] at h
 | succ k =>
 simp only [spec_l5Two.j0] at h
 rcases ic h with ⟨c5, h⟩ | ⟨c5, h⟩
 · refine pk 4 hF [.t] [] rfl KD ?_
   cases h
   exact rr [.ro] rfl KD
 · refine pk 5 hF [.f] [] rfl KD ?_
   cases h
   exact rr [.ro] rfl KD
theorem cs79 (k : Nat) : C79 k := by
 induction k using Nat.strongRecOn with
 | _ k ih0 =>
 have ih : Kp (∀ m, m < k → C79 m) := ⟨ih0⟩
 exact ⟨c79j0 k ih⟩
theorem spec_l5Two.ctr (k : Nat) (a0 : Int) (a1 : Int) (a2 : Int) (r : Int) (h : spec_l5Two.f k a0 a1 a2 = some r) : Ctr TE 79 none [.v (.int .u8 a0), .i a1, .i a2] [.ro (.i r)] [] := by
 refine co Tryz.func79 (by kernel_rfl) (by kernel_rfl) fun w ro B hF => ?_
 have ih : Kp (∀ m, m < k + 1 → C79 m) := ⟨fun m _ => cs79 m⟩
 simp only [spec_l5Two.f] at h
 rcases ic h with ⟨c1, h⟩ | ⟨c1, h⟩
 · rcases ic h with ⟨c2, h⟩ | ⟨c2, h⟩
   · refine pk 9 hF [.t, .t, .t, .t] [] rfl KD ?_
     exact WS.can [] ((ih.a.s_j0  r w ro B hF (a2 == 0) h).out) KD
   · refine pk 9 hF [.t, .f, .f, .f] [] rfl KD ?_
     exact WS.can [] ((ih.a.s_j0  r w ro B hF false h).out) KD
 · rcases ic h with ⟨c3, h⟩ | ⟨c3, h⟩
   · rcases ic h with ⟨c4, h⟩ | ⟨c4, h⟩
     · refine pk 14 hF [.f, .t, .t, .t, .t] [] rfl KD ?_
       cases h
       exact rr [.ro] rfl KD
     · refine pk 15 hF [.f, .t, .t, .t, .f] [] rfl KD ?_
       cases h
       exact rr [.ro] rfl KD
   · refine pk 15 hF [.f, .f, .f, .f, .f] [] rfl KD ?_
     cases h
     exact rr [.ro] rfl KD
def spec_l6Truth.f (a0 : Bool) : Option (Int) := if a0 = true then (some 1) else (some 0)
theorem spec_l6Truth.ctr (a0 : Bool) (r : Int) (h : spec_l6Truth.f a0 = some r) : Ctr TE 143 none [.v (.bool a0)] [.ro (.i r)] [] := by
 refine co Tryz.func143 (by kernel_rfl) (by kernel_rfl) fun w ro B hF => ?_
 simp only [spec_l6Truth.f] at h
 rcases ic h with ⟨c1, h⟩ | ⟨c1, h⟩
 · refine pk 9 hF [.t] [] rfl KD ?_
   cases h
   exact rr [.ro] rfl KD
 · refine pk 10 hF [.f] [] rfl KD ?_
   cases h
   exact rr [.ro] rfl KD
def spec_l6Number.f (a0 : Int) (a1 : Int) (a2 : Int) : Option (Int) := if a0 = 43 then ((spec_l3Add.f a1 a2).bind fun t924 => (some t924)) else (if a0 = 42 then (some (Int.tmod (wrap64 (a1 * a2)) 10007)) else (if a0 = 94 then (some (mx a1 a2)) else (if a0 = 45 then (some (mx (wrap64 (a1 - a2)) 0)) else (if a0 = 61 then ((spec_l6Truth.f (a1 == a2)).bind fun t925 => (some t925)) else ((spec_l6Truth.f (decide (a1 < a2))).bind fun t926 => (some t926))))))
theorem spec_l6Number.ctr (a0 : Int) (a1 : Int) (a2 : Int) (r : Int) (h : spec_l6Number.f a0 a1 a2 = some r) : Ctr TE 122 none [.v (.int .u8 a0), .i a1, .i a2] [.ro (.i r)] [] := by
 refine co Tryz.func122 (by kernel_rfl) (by kernel_rfl) fun w ro B hF => ?_
 simp only [spec_l6Number.f] at h
 rcases ic h with ⟨c1, h⟩ | ⟨c1, h⟩
 · obtain ⟨t924, q2, h⟩ := ib h
   have q2c := spec_l3Add.ctr _ _ _ q2
   refine pk 12 hF [.t, .r [.ro (.i t924)] []] [] rfl KD ?_
   cases h
   exact rr [.ro] rfl KD
 · rcases ic h with ⟨c3, h⟩ | ⟨c3, h⟩
   · refine pk 15 hF [.f, .t, .e 18 (.i (Int.tmod (wrap64 (a1 * a2)) 10007))] [] rfl KD ?_
     cases h
     exact rr [.ro] rfl KD
   · rcases ic h with ⟨c4, h⟩ | ⟨c4, h⟩
     · refine pk 18 hF [.f, .f, .t] [] rfl KD ?_
       cases h
       exact rr [.ro] rfl KD
     · rcases ic h with ⟨c5, h⟩ | ⟨c5, h⟩
       · refine pk 21 hF [.f, .f, .f, .t] [] rfl KD ?_
         cases h
         exact rr [.ro] rfl KD
       · rcases ic h with ⟨c6, h⟩ | ⟨c6, h⟩
         · obtain ⟨t925, q7, h⟩ := ib h
           have q7c := spec_l6Truth.ctr _ _ q7
           refine pk 24 hF [.f, .f, .f, .f, .t, .r [.ro (.i t925)] []] [] rfl KD ?_
           cases h
           exact rr [.ro] rfl KD
         · obtain ⟨t926, q8, h⟩ := ib h
           have q8c := spec_l6Truth.ctr _ _ q8
           refine pk 26 hF [.f, .f, .f, .f, .f, .r [.ro (.i t926)] []] [] rfl KD ?_
           cases h
           exact rr [.ro] rfl KD
def spec_l8Two.l0 : Nat → Int → List Int → Int → Int → Int → List (List Int) → List Int → Int → List (List Int) → List Int → Option (Int × (List (List Int)) × List Int)
  | 0, _, _, _, _, _, _, _, _, _, _ => none
  | k + 1, x0, x7, x11, x12, x928000, x928001, x928002, x929000, x929001, x929002 => if x12 < x11 then (if x0 = 64 then (if 0 ≤ x12 then (if x12 < (x929002.length : Int) then (if 0 < (x928001.length : Int) then (if x12 < ((rd_L1 x928001 0).length : Int) then (if (rd x929002 x12) < (rd (rd_L1 x928001 0) x12) then (if x12 ≤ ((rd_L1 x928001 0).length : Int) then ((spec_l3Total.f k ((rd_L1 x928001 0).take (x12 : Int).toNat)).bind fun t945 => (if 0 ≤ (wrap64 (t945 + (rd x929002 x12))) then (if (wrap64 (t945 + (rd x929002 x12))) < (x928002.length : Int) then (if x7.length < 17592186044416 then (spec_l8Two.l0 k x0 (x7 ++ [rd x928002 (wrap64 (t945 + (rd x929002 x12)))]) x11 (wrap64 (x12 + 1)) x928000 x928001 x928002 x929000 x929001 x929002) else (none)) else (none)) else (none))) else (none)) else (if x7.length < 17592186044416 then (spec_l8Two.l0 k x0 (x7 ++ [0]) x11 (wrap64 (x12 + 1)) x928000 x928001 x928002 x929000 x929001 x929002) else (none))) else (none)) else (none)) else (none)) else (none)) else (if 0 ≤ x12 then (if x12 < (x928002.length : Int) then (if x12 < (x929002.length : Int) then ((spec_l6Number.f x0 (rd x928002 x12) (rd x929002 x12)).bind fun t956 => (if x7.length < 17592186044416 then (spec_l8Two.l0 k x0 (x7 ++ [t956]) x11 (wrap64 (x12 + 1)) x928000 x928001 x928002 x929000 x929001 x929002) else (none))) else (none)) else (none)) else (none))) else ((spec_l8Plain.f x7).bind fun bt933 => (some (bt933.1, bt933.2.1, bt933.2.2)))
def spec_l8Two.f (k : Nat) (a0 : Int) (a1_0 : Int) (l1_1 : List (List Int)) (l1_2 : List Int) (a2_0 : Int) (l2_1 : List (List Int)) (l2_2 : List Int) : Option (Int × (List (List Int)) × List Int) := spec_l8Two.l0 k a0 (([] : List Int)) a1_0 0 a1_0 l1_1 l1_2 a2_0 l2_1 l2_2
def I80_0 (r1 : Int) (r2 : List (List Int)) (r3 : List Int) (m : Nat) (σ : St) : Prop := ∃ (x0 : Int) (x7 : List Int) (x11 : Int) (x12 : Int) (x928000 : Int) (x928001 : List (List Int)) (x928002 : List Int) (x929000 : Int) (x929001 : List (List Int)) (x929002 : List Int) (x930000 : Int), spec_l8Two.l0 m x0 x7 x11 x12 x928000 x928001 x928002 x929000 x929001 x929002 = some (r1, r2, r3) ∧ σ = ⟨[(0, .v (.int .u8 x0)), (4, .pt 1004 0 0), (5, .pt 1005 0 0), (6, .pt 1006 0 0), (7, .ow 1007 0), (11, .i x11), (12, .i x12)], [(1004, .box 0 31 false [.i x928000, .sl 1 (rX (cL (cI .i64) 1) x928001), .sl 1 (rX (cI .i64) x928002)]), (1005, .box 0 31 false [.i x929000, .sl 1 (rX (cL (cI .i64) 1) x929001), .sl 1 (rX (cI .i64) x929002)]), (1006, .box 0 31 false [.i x930000, .v (.slice none 0 0), .v (.slice none 0 0)]), (1007, .own 0 3 1 (rX (cI .i64) x7))]⟩
abbrev W80 (r1 : Int) (r2 : List (List Int)) (r3 : List Int) (w : World) (ro : Nat → Prop) (B : Nat) (p : List Nat) (j : List (St → Prop)) (σ : St) : Prop := Kp (WS TE (cx0 Tryz.f80 none w ro B) (stkAt p j (bodyOf Tryz.f80) []) σ (RetQ TE Tryz.f80 none [.ro (.ag [.i r1, .sl 1 (rX (cL (cI .i64) 1) r2), .sl 1 (rX (cI .i64) r3)])] [] w ro B))
def S80l0 (k : Nat) : Prop := ∀ r1 r2 r3 w ro B (_ : Fr TE (cx0 Tryz.f80 none w ro B)) (σ : St) (_ : I80_0 r1 r2 r3 k σ), W80 r1 r2 r3 w ro B [1, 1, 0, 1, 0] [] σ
structure C80 (k : Nat) : Prop where
 s_l0 : S80l0 k
theorem c80l0 (k : Nat) (ih : Kp (∀ m, m < k → C80 m)) : S80l0 k := by
 intro r1 r2 r3 w ro B hF
 intro σ h0
 refine ⟨WS.loop (fun m σ => m ≤ k ∧ I80_0 r1 r2 r3 m σ) k ⟨Nat.le_refl k, h0⟩ (fun m σ' hI J0 hJ0 => ?_)⟩
 clear h0
 obtain ⟨hk, x0, x7, x11, x12, x928000, x928001, x928002, x929000, x929001, x929002, x930000, h, rfl⟩ := hI
 cases m with
 | zero => simp [spec_l8Two.l0] at h
 | succ k' =>
 simp only [spec_l8Two.l0] at h
 rcases ic h with ⟨c1, h⟩ | ⟨c1, h⟩
 · rcases ic h with ⟨c2, h⟩ | ⟨c2, h⟩
   · obtain ⟨c3, h⟩ := ig h
     obtain ⟨c4, h⟩ := ig h
     obtain ⟨c5, h⟩ := ig h
     obtain ⟨c6, h⟩ := ig h
     rcases ic h with ⟨c7, h⟩ | ⟨c7, h⟩
     · obtain ⟨c8, h⟩ := ig h
       obtain ⟨t945, q9, h⟩ := ib h
       have q9c := spec_l3Total.ctr k' _ _ q9
       obtain ⟨c10, h⟩ := ig h
       obtain ⟨c11, h⟩ := ig h
       obtain ⟨c12, h⟩ := ig h
       refine pk 20 hF [.t, .f, .e 43 (.rf [.i (rd x929002 x12)]), .e 48 (.rf [.sl 1 (rX (cI .i64) (rd_L1 x928001 0))]), .e 51 (.rf [.i (rd (rd_L1 x928001 0) x12)]), .t, .e 61 (.rf [.sl 1 (rX (cI .i64) (rd_L1 x928001 0))]), .e 64 (.sl 1 (rX (cI .i64) ((rd_L1 x928001 0).take (x12 : Int).toNat))), .e 70 (.rf [.i (rd x929002 x12)]), .r [.ro (.i t945)] [], .e 73 (.rf [.i (rd x928002 (wrap64 (t945 + (rd x929002 x12))))]), .p 75 ([[.i (rd x928002 (wrap64 (t945 + (rd x929002 x12))))]]), .o 76 (rX (cI .i64) (x7 ++ [rd x928002 (wrap64 (t945 + (rd x929002 x12)))]))] [.o [(0, 0), (1, 0), (2, 1), (3, 0), (4, 0), (5, 1), (6, 0), (7, 0), (8, 1), (9, 0), (10, 1), (11, 0), (12, 0), (13, 1), (14, 0), (15, 0)] [], .o [(0, 0), (1, 0), (2, 0), (3, 1), (4, 0), (5, 0), (6, 1), (7, 0), (8, 1), (9, 0), (10, 0), (12, 0), (13, 0), (14, 1), (15, 0), (16, 0), (17, 1), (11, 2), (18, 0), (19, 0), (20, 2), (21, 2), (22, 2), (23, 0)] [22]] rfl KD ?_
       exact WS.lpc [(1004, some 1004), (1005, some 1005), (1006, some 1006), (1007, some 1007)] (hJ0 _ _ (Nat.lt_succ_self _) ⟨by omega, x0, (x7 ++ [rd x928002 (wrap64 (t945 + (rd x929002 x12)))]), x11, (wrap64 (x12 + 1)), x928000, x928001, x928002, x929000, x929001, x929002, x930000, h, rfl⟩) KD
     · obtain ⟨c13, h⟩ := ig h
       refine pk 20 hF [.t, .f, .e 43 (.rf [.i (rd x929002 x12)]), .e 48 (.rf [.sl 1 (rX (cI .i64) (rd_L1 x928001 0))]), .e 51 (.rf [.i (rd (rd_L1 x928001 0) x12)]), .f, .p 16 ([[.i 0]]), .o 17 (rX (cI .i64) (x7 ++ [0]))] [.o [(0, 0), (1, 0), (2, 1), (3, 0), (4, 0), (5, 1), (6, 0), (7, 0), (8, 1), (9, 0), (10, 1), (11, 0), (12, 0), (13, 1), (14, 0), (15, 0)] []] rfl KD ?_
       exact WS.lpc [(1004, some 1004), (1005, some 1005), (1006, some 1006), (1007, some 1007)] (hJ0 _ _ (Nat.lt_succ_self _) ⟨by omega, x0, (x7 ++ [0]), x11, (wrap64 (x12 + 1)), x928000, x928001, x928002, x929000, x929001, x929002, x930000, h, rfl⟩) KD
   · obtain ⟨c14, h⟩ := ig h
     obtain ⟨c15, h⟩ := ig h
     obtain ⟨c16, h⟩ := ig h
     obtain ⟨t956, q17, h⟩ := ib h
     have q17c := spec_l6Number.ctr _ _ _ _ q17
     obtain ⟨c18, h⟩ := ig h
     refine pk 17 hF [.t, .t, .e 27 (.rf [.i (rd x928002 x12)]), .e 33 (.rf [.i (rd x929002 x12)]), .r [.ro (.i t956)] [], .p 36 ([[.i t956]]), .o 37 (rX (cI .i64) (x7 ++ [t956]))] [.o [(0, 0), (1, 0), (2, 0), (3, 0), (4, 1), (5, 0), (6, 0), (7, 1), (8, 0), (9, 0), (10, 1), (11, 0), (12, 0), (13, 1), (14, 2), (15, 2), (16, 2), (17, 0)] [16]] rfl KD ?_
     exact WS.lpc [(1004, some 1004), (1005, some 1005), (1006, some 1006), (1007, some 1007)] (hJ0 _ _ (Nat.lt_succ_self _) ⟨by omega, x0, (x7 ++ [t956]), x11, (wrap64 (x12 + 1)), x928000, x928001, x928002, x929000, x929001, x929002, x930000, h, rfl⟩) KD
 · obtain ⟨⟨t933, t934, t937⟩, q19, h⟩ := ib h
   dsimp only at h
   have q19c := spec_l8Plain.ctr _ _ _ _ q19
   refine pk 8 hF [.f, .r [.ro (.ag [.i t933, .sl 1 (rX (cL (cI .i64) 1) t934), .sl 1 (rX (cI .i64) t937)])] []] [] rfl KD ?_
   cases h
   exact rr [.ro] rfl KD
theorem cs80 (k : Nat) : C80 k := by
 induction k using Nat.strongRecOn with
 | _ k ih0 =>
 have ih : Kp (∀ m, m < k → C80 m) := ⟨ih0⟩
 exact ⟨c80l0 k ih⟩
theorem spec_l8Two.ctr (k : Nat) (a0 : Int) (a1_0 : Int) (l1_1 : List (List Int)) (l1_2 : List Int) (a2_0 : Int) (l2_1 : List (List Int)) (l2_2 : List Int) (r1 : Int) (r2 : List (List Int)) (r3 : List Int) (h : spec_l8Two.f k a0 a1_0 l1_1 l1_2 a2_0 l2_1 l2_2 = some (r1, r2, r3)) : Ctr TE 80 none [.v (.int .u8 a0), .ag [.i a1_0, .sl 1 (rX (cL (cI .i64) 1) l1_1), .sl 1 (rX (cI .i64) l1_2)], .ag [.i a2_0, .sl 1 (rX (cL (cI .i64) 1) l2_1), .sl 1 (rX (cI .i64) l2_2)]] [.ro (.ag [.i r1, .sl 1 (rX (cL (cI .i64) 1) r2), .sl 1 (rX (cI .i64) r3)])] [] := by
 refine co Tryz.func80 (by kernel_rfl) (by kernel_rfl) fun w ro B hF => ?_
 have ih : Kp (∀ m, m < k + 1 → C80 m) := ⟨fun m _ => cs80 m⟩
 simp only [spec_l8Two.f] at h
 refine pk 8 hF [.p 9 ([])] [] rfl KD ?_
 exact WS.can [(1004, some 4), (1005, some 5), (1006, some 6), (1007, some 9)] ((ih.a.s_l0  r1 r2 r3 w ro B hF _ ⟨a0, (([] : List Int)), a1_0, 0, a1_0, l1_1, l1_2, a2_0, l2_1, l2_2, 0, h, rfl⟩).out) KD
mutual
def spec_l8RawDoInstruction.l0 : Nat → ByteArray → List (S31) → List (S31) → Int → Int → Option (Int × (List (List Int)) × List Int × Bool)
  | 0, _, _, _, _, _ => none
  | k + 1, x0, x1, x8, x9, x10 => if x10 < x9 then (if 0 ≤ x10 then (if x10 < (x8.length : Int) then ((spec_VectorValid.f k ((rd_T31 x8 x10).f0) ((rd_T31 x8 x10).f1.f0) ((rd_T31 x8 x10).f1.f1)).bind fun t963 => (if t963 = true then (spec_l8RawDoInstruction.l0 k x0 x1 x8 x9 (wrap64 (x10 + 1))) else (some (0, ([] : List (List Int)), ([] : List Int), false)))) else (none)) else (none)) else ((spec_l7Kind.f k x0).bind fun t964 => (if t964 = 83 then (if (x1.length : Int) = 1 then (if 0 < (x0.size : Int) then (if 0 < (x1.length : Int) then ((spec_l5One.f k (bt x0 0) (((rd_T31 x1 0).f1.f0).length : Int)).bind fun t966 => (spec_l8RawDoInstruction.j1 k x0 x1 (decide (t966 ≥ 0)))) else (none)) else (none)) else (spec_l8RawDoInstruction.j1 k x0 x1 false)) else (spec_l8RawDoInstruction.j1 k x0 x1 false)))
def spec_l8RawDoInstruction.j1 : Nat → ByteArray → List (S31) → Bool → Option (Int × (List (List Int)) × List Int × Bool)
  | 0, _, _, _ => none
  | k + 1, x0, x1, x19 => if x19 = true then (if 0 < (x0.size : Int) then (if 0 < (x1.length : Int) then ((spec_l8One.f k (bt x0 0) ((rd_T31 x1 0).f0) ((rd_T31 x1 0).f1.f0) ((rd_T31 x1 0).f1.f1)).bind fun bt968 => (some (bt968.1, bt968.2.1, bt968.2.2, true))) else (none)) else (none)) else ((spec_l7Kind.f k x0).bind fun t975 => (if t975 = 43 then (if (x1.length : Int) = 2 then (if 0 < (x1.length : Int) then (if 1 < (x1.length : Int) then (if ((rd_T31 x1 0).f0) = ((rd_T31 x1 1).f0) then (if 0 < (x0.size : Int) then ((spec_l5Two.f k (bt x0 0) (((rd_T31 x1 0).f1.f0).length : Int) (((rd_T31 x1 1).f1.f0).length : Int)).bind fun t980 => (if t980 ≥ 0 then ((spec_l8Two.f k (bt x0 0) ((rd_T31 x1 0).f0) ((rd_T31 x1 0).f1.f0) ((rd_T31 x1 0).f1.f1) ((rd_T31 x1 1).f0) ((rd_T31 x1 1).f1.f0) ((rd_T31 x1 1).f1.f1)).bind fun bt983 => (some (bt983.1, bt983.2.1, bt983.2.2, true))) else (some (0, ([] : List (List Int)), ([] : List Int), false)))) else (none)) else (some (0, ([] : List (List Int)), ([] : List Int), false))) else (none)) else (none)) else (some (0, ([] : List (List Int)), ([] : List Int), false))) else (some (0, ([] : List (List Int)), ([] : List Int), false))))
end
def spec_l8RawDoInstruction.f (k : Nat) (a0 : ByteArray) (l1 : List (S31)) : Option (Int × (List (List Int)) × List Int × Bool) := spec_l8RawDoInstruction.l0 k a0 l1 l1 (l1.length : Int) 0
def I44_0 (r1 : Int) (r2 : List (List Int)) (r3 : List Int) (r4 : Bool) (m : Nat) (σ : St) : Prop := ∃ (x0 : ByteArray) (x1 : List (S31)) (x8 : List (S31)) (x9 : Int) (x10 : Int) (x961000 : Int), spec_l8RawDoInstruction.l0 m x0 x1 x8 x9 x10 = some (r1, r2, r3, r4) ∧ σ = ⟨[(0, .v (.string x0)), (1, .sl 3 (r31 x1)), (4, .pt 1004 0 0), (8, .sl 3 (r31 x8)), (9, .i x9), (10, .i x10)], [(1004, .box 0 31 false [.i x961000, .v (.slice none 0 0), .v (.slice none 0 0)])]⟩
abbrev W44 (r1 : Int) (r2 : List (List Int)) (r3 : List Int) (r4 : Bool) (w : World) (ro : Nat → Prop) (B : Nat) (p : List Nat) (j : List (St → Prop)) (σ : St) : Prop := Kp (WS TE (cx0 Tryz.f44 none w ro B) (stkAt p j (bodyOf Tryz.f44) []) σ (RetQ TE Tryz.f44 none [.ro (.ag [.i r1, .sl 1 (rX (cL (cI .i64) 1) r2), .sl 1 (rX (cI .i64) r3)]), .ro (.v (.bool r4))] [] w ro B))
def S44l0 (k : Nat) : Prop := ∀ r1 r2 r3 r4 w ro B (_ : Fr TE (cx0 Tryz.f44 none w ro B)) (σ : St) (_ : I44_0 r1 r2 r3 r4 k σ), W44 r1 r2 r3 r4 w ro B [1, 0, 1, 0] [] σ
def S44j1 (k : Nat) : Prop := ∀ r1 r2 r3 r4 w ro B (_ : Fr TE (cx0 Tryz.f44 none w ro B)) x0 x1 x19 x961000 (_ : spec_l8RawDoInstruction.j1 k x0 x1 x19 = some (r1, r2, r3, r4)), W44 r1 r2 r3 r4 w ro B [1, 1, 0, 0, 0, 9] [] ⟨[(0, .v (.string x0)), (1, .sl 3 (r31 x1)), (4, .pt 1004 0 0), (19, .v (.bool x19))], [(1004, .box 0 31 false [.i x961000, .v (.slice none 0 0), .v (.slice none 0 0)])]⟩
structure C44 (k : Nat) : Prop where
 s_l0 : S44l0 k
 s_j1 : S44j1 k
theorem c44l0 (k : Nat) (ih : Kp (∀ m, m < k → C44 m)) : S44l0 k := by
 intro r1 r2 r3 r4 w ro B hF
 intro σ h0
 refine ⟨WS.loop (fun m σ => m ≤ k ∧ I44_0 r1 r2 r3 r4 m σ) k ⟨Nat.le_refl k, h0⟩ (fun m σ' hI J0 hJ0 => ?_)⟩
 clear h0
 obtain ⟨hk, x0, x1, x8, x9, x10, x961000, h, rfl⟩ := hI
 cases m with
 | zero => simp [spec_l8RawDoInstruction.l0] at h
 | succ k' =>
 simp only [spec_l8RawDoInstruction.l0] at h
 rcases ic h with ⟨c1, h⟩ | ⟨c1, h⟩
 · obtain ⟨c2, h⟩ := ig h
   obtain ⟨c3, h⟩ := ig h
   obtain ⟨t963, q4, h⟩ := ib h
   have q4c := spec_VectorValid.ctr k' _ _ _ _ q4
   rcases ic h with ⟨c5, h⟩ | ⟨c5, h⟩
   · refine pk 15 hF [.t, .e 12 (.rf [.i ((rd_T31 x8 x10).f0), .sl 1 (rX (cL (cI .i64) 1) ((rd_T31 x8 x10).f1.f0)), .sl 1 (rX (cI .i64) ((rd_T31 x8 x10).f1.f1))]), .r [.ro (.v (.bool t963))] [], .f] [] rfl KD ?_
     exact WS.lpc [(1004, some 1004)] (hJ0 _ _ (Nat.lt_succ_self _) ⟨by omega, x0, x1, x8, x9, (wrap64 (x10 + 1)), x961000, h, rfl⟩) KD
   · refine pk 15 hF [.t, .e 12 (.rf [.i ((rd_T31 x8 x10).f0), .sl 1 (rX (cL (cI .i64) 1) ((rd_T31 x8 x10).f1.f0)), .sl 1 (rX (cI .i64) ((rd_T31 x8 x10).f1.f1))]), .r [.ro (.v (.bool t963))] [], .t] [] rfl KD ?_
     cases h
     exact rr [.ro, .ro] rfl KD
 · obtain ⟨t964, q6, h⟩ := ib h
   have q6c := spec_l7Kind.ctr k' _ _ q6
   rcases ic h with ⟨c7, h⟩ | ⟨c7, h⟩
   · rcases ic h with ⟨c8, h⟩ | ⟨c8, h⟩
     · obtain ⟨c9, h⟩ := ig h
       obtain ⟨c10, h⟩ := ig h
       obtain ⟨t966, q11, h⟩ := ib h
       have q11c := spec_l5One.ctr k' _ _ _ q11
       refine pk 9 hF [.f, .r [.ro (.v (.int .u8 t964))] [], .t, .t, .e 25 (.i (x1.length : Int)), .t, .t, .t, .t, .t, .t, .e 32 (.rf [.i ((rd_T31 x1 0).f0), .sl 1 (rX (cL (cI .i64) 1) ((rd_T31 x1 0).f1.f0)), .sl 1 (rX (cI .i64) ((rd_T31 x1 0).f1.f1))]), .t, .t, .t, .t, .e 36 (.i (((rd_T31 x1 0).f1.f0).length : Int)), .t, .r [.ro (.i t966)] [], .t, .t] [.o [(0, 0), (1, 2), (2, 0), (3, 0), (4, 0), (5, 0), (6, 0), (7, 0), (8, 0), (9, 0), (10, 0), (11, 0), (12, 0), (13, 0), (14, 0), (15, 2), (16, 0), (17, 2), (18, 0), (19, 0), (20, 0)] []] rfl KD ?_
       exact WS.can [(1004, some 1004)] (((ih.out k' (by omega)).s_j1  r1 r2 r3 r4 w ro B hF x0 x1 (decide (t966 ≥ 0)) x961000 h).out) KD
     · refine pk 9 hF [.f, .r [.ro (.v (.int .u8 t964))] [], .t, .t, .e 25 (.i (x1.length : Int)), .t, .t, .f, .f, .f, .f, .f, .f, .f, .f, .f, .f, .f] [.o [(0, 0), (1, 2), (2, 0), (3, 0), (4, 0), (5, 0), (6, 0), (7, 0), (8, 0), (9, 0), (10, 0), (11, 0), (12, 0), (13, 0), (14, 0), (15, 2), (16, 0), (17, 2), (18, 0), (19, 0), (20, 0)] []] rfl KD ?_
       exact WS.can [(1004, some 1004)] (((ih.out k' (by omega)).s_j1  r1 r2 r3 r4 w ro B hF x0 x1 false x961000 h).out) KD
   · refine pk 9 hF [.f, .r [.ro (.v (.int .u8 t964))] [], .f, .f, .f, .f, .f, .f, .f, .f, .f, .f, .f, .f, .f, .f, .f] [.o [(0, 0), (1, 2), (2, 0), (3, 0), (4, 0), (5, 0), (6, 0), (7, 0), (8, 0), (9, 0), (10, 0), (11, 0), (12, 0), (13, 0), (14, 0), (15, 2), (16, 0), (17, 2), (18, 0), (19, 0), (20, 0)] []] rfl KD ?_
     exact WS.can [(1004, some 1004)] (((ih.out k' (by omega)).s_j1  r1 r2 r3 r4 w ro B hF x0 x1 false x961000 h).out) KD
theorem c44j1 (k : Nat) (ih : Kp (∀ m, m < k → C44 m)) : S44j1 k := by
 intro r1 r2 r3 r4 w ro B hF
 intro x0 x1 x19 x961000 h
 refine ⟨?_⟩
 cases k with
 | zero => simp [spec_l8RawDoInstruction.j1] at h
 | succ k =>
 simp only [spec_l8RawDoInstruction.j1] at h
 rcases ic h with ⟨c12, h⟩ | ⟨c12, h⟩
 · obtain ⟨c13, h⟩ := ig h
   obtain ⟨c14, h⟩ := ig h
   obtain ⟨⟨t968, t969, t972⟩, q15, h⟩ := ib h
   dsimp only at h
   have q15c := spec_l8One.ctr k _ _ _ _ _ _ _ q15
   refine pk 4 hF [.t, .e 43 (.rf [.i ((rd_T31 x1 0).f0), .sl 1 (rX (cL (cI .i64) 1) ((rd_T31 x1 0).f1.f0)), .sl 1 (rX (cI .i64) ((rd_T31 x1 0).f1.f1))]), .r [.ro (.ag [.i t968, .sl 1 (rX (cL (cI .i64) 1) t969), .sl 1 (rX (cI .i64) t972)])] []] [.o [(0, 0), (1, 0), (2, 0), (3, 0), (4, 1), (5, 2), (6, 2), (7, 0)] [6]] rfl KD ?_
   cases h
   exact rr [.ro, .ro] rfl KD
 · obtain ⟨t975, q16, h⟩ := ib h
   have q16c := spec_l7Kind.ctr k _ _ q16
   rcases ic h with ⟨c17, h⟩ | ⟨c17, h⟩
   · rcases ic h with ⟨c18, h⟩ | ⟨c18, h⟩
     · obtain ⟨c19, h⟩ := ig h
       obtain ⟨c20, h⟩ := ig h
       rcases ic h with ⟨c21, h⟩ | ⟨c21, h⟩
       · obtain ⟨c22, h⟩ := ig h
         obtain ⟨t980, q23, h⟩ := ib h
         have q23c := spec_l5Two.ctr k _ _ _ _ q23
         rcases ic h with ⟨c24, h⟩ | ⟨c24, h⟩
         · obtain ⟨⟨t983, t984, t987⟩, q25, h⟩ := ib h
           dsimp only at h
           have q25c := spec_l8Two.ctr k _ _ _ _ _ _ _ _ _ _ q25
           refine pk 7 hF [.f, .t, .e 87 (.rf [.i ((rd_T31 x1 0).f0), .sl 1 (rX (cL (cI .i64) 1) ((rd_T31 x1 0).f1.f0)), .sl 1 (rX (cI .i64) ((rd_T31 x1 0).f1.f1))]), .e 90 (.rf [.i ((rd_T31 x1 1).f0), .sl 1 (rX (cL (cI .i64) 1) ((rd_T31 x1 1).f1.f0)), .sl 1 (rX (cI .i64) ((rd_T31 x1 1).f1.f1))]), .r [.ro (.ag [.i t983, .sl 1 (rX (cL (cI .i64) 1) t984), .sl 1 (rX (cI .i64) t987)])] []] [.p 274877906943 [⟨0, 38, true, [0]⟩, ⟨1, 37, false, [1]⟩, ⟨3, 36, true, [2]⟩, ⟨7, 35, true, [3]⟩, ⟨15, 34, true, [4]⟩, ⟨31, 33, true, [5]⟩, ⟨63, 32, true, [6]⟩, ⟨127, 31, true, [7]⟩, ⟨255, 30, true, [8]⟩, ⟨511, 29, true, [9]⟩, ⟨1023, 28, true, [10]⟩, ⟨2047, 27, true, [11]⟩, ⟨4095, 26, true, [13]⟩, ⟨12287, 25, true, [14]⟩, ⟨28671, 24, true, [15]⟩, ⟨61439, 23, false, [12, 16]⟩, ⟨65535, 22, false, [16]⟩, ⟨126975, 22, false, [12]⟩, ⟨131071, 21, true, [17]⟩, ⟨262143, 20, true, [18]⟩, ⟨524287, 19, true, [19]⟩, ⟨1048575, 18, true, [20]⟩, ⟨2097151, 17, true, [21]⟩, ⟨4194303, 16, true, [22]⟩, ⟨8388607, 15, true, [23]⟩, ⟨16777215, 14, true, [24]⟩, ⟨33554431, 13, true, [25]⟩, ⟨67108863, 12, true, [28]⟩, ⟨335544319, 11, true, [29]⟩, ⟨872415231, 10, true, [30]⟩, ⟨1946157055, 9, true, [31]⟩, ⟨4093640703, 8, false, [26, 32]⟩, ⟨4160749567, 7, true, [27]⟩, ⟨8388607999, 7, true, [33]⟩, ⟨4294967295, 6, false, [32]⟩, ⟨16978542591, 6, false, [26]⟩, ⟨8589934591, 5, true, [33]⟩, ⟨17045651455, 5, true, [27]⟩, ⟨17179869183, 4, false, [34]⟩, ⟨34359738367, 3, true, [35]⟩, ⟨68719476735, 2, true, [36]⟩, ⟨137438953471, 1, true, [37]⟩] [(0, true), (1, false), (2, true), (3, true), (4, true), (5, true), (6, true), (7, true), (8, true), (9, true), (10, true), (11, true), (13, true), (14, true), (15, true), (12, false), (16, false), (17, true), (18, true), (19, true), (20, true), (21, true), (22, true), (23, true), (24, true), (25, true), (28, true), (29, true), (30, true), (31, true), (26, false), (27, true), (32, false), (33, true), (34, false), (35, true), (36, true), (37, true)] [(1, [.r [.ro (.v (.int .u8 t975))] []]), (4, [.b true]), (5, [.b true, .e 52 (.i (x1.length : Int))]), (6, [.b true]), (7, [.b true]), (9, [.c true]), (10, [.c true, .e 57 (.rf [.i ((rd_T31 x1 0).f0), .sl 1 (rX (cL (cI .i64) 1) ((rd_T31 x1 0).f1.f0)), .sl 1 (rX (cI .i64) ((rd_T31 x1 0).f1.f1))])]), (11, [.c true]), (13, [.c true]), (14, [.c true, .e 61 (.rf [.i ((rd_T31 x1 1).f0), .sl 1 (rX (cL (cI .i64) 1) ((rd_T31 x1 1).f1.f0)), .sl 1 (rX (cI .i64) ((rd_T31 x1 1).f1.f1))])]), (15, [.c true]), (12, [.c true]), (16, [.c true]), (17, [.c true]), (18, [.b true]), (20, [.c true]), (21, [.c true]), (22, [.c true]), (23, [.c true, .e 70 (.rf [.i ((rd_T31 x1 0).f0), .sl 1 (rX (cL (cI .i64) 1) ((rd_T31 x1 0).f1.f0)), .sl 1 (rX (cI .i64) ((rd_T31 x1 0).f1.f1))])]), (24, [.c true]), (25, [.c true]), (28, [.c true]), (29, [.c true, .e 76 (.rf [.i ((rd_T31 x1 1).f0), .sl 1 (rX (cL (cI .i64) 1) ((rd_T31 x1 1).f1.f0)), .sl 1 (rX (cI .i64) ((rd_T31 x1 1).f1.f1))])]), (30, [.c true]), (31, [.c true]), (26, [.c true]), (27, [.c true, .e 74 (.i (((rd_T31 x1 0).f1.f0).length : Int))]), (32, [.c true]), (33, [.c true, .e 80 (.i (((rd_T31 x1 1).f1.f0).length : Int))]), (34, [.c true, .r [.ro (.i t980)] []]), (35, [.c true]), (36, [.b true])], .o [(0, 0), (1, 0), (2, 0), (3, 0), (4, 1), (5, 0), (6, 0), (7, 1), (8, 2), (9, 2), (10, 0)] [9]] rfl KD ?_
           cases h
           exact rr [.ro, .ro] rfl KD
         · refine pk 9 hF [.f, .f] [.p 274877906943 [⟨0, 38, true, [0]⟩, ⟨1, 37, false, [1]⟩, ⟨3, 36, true, [2]⟩, ⟨7, 35, true, [3]⟩, ⟨15, 34, true, [4]⟩, ⟨31, 33, true, [5]⟩, ⟨63, 32, true, [6]⟩, ⟨127, 31, true, [7]⟩, ⟨255, 30, true, [8]⟩, ⟨511, 29, true, [9]⟩, ⟨1023, 28, true, [10]⟩, ⟨2047, 27, true, [11]⟩, ⟨4095, 26, true, [13]⟩, ⟨12287, 25, true, [14]⟩, ⟨28671, 24, true, [15]⟩, ⟨61439, 23, false, [12, 16]⟩, ⟨65535, 22, false, [16]⟩, ⟨126975, 22, false, [12]⟩, ⟨131071, 21, true, [17]⟩, ⟨262143, 20, true, [18]⟩, ⟨524287, 19, true, [19]⟩, ⟨1048575, 18, true, [20]⟩, ⟨2097151, 17, true, [21]⟩, ⟨4194303, 16, true, [22]⟩, ⟨8388607, 15, true, [23]⟩, ⟨16777215, 14, true, [24]⟩, ⟨33554431, 13, true, [25]⟩, ⟨67108863, 12, true, [28]⟩, ⟨335544319, 11, true, [29]⟩, ⟨872415231, 10, true, [30]⟩, ⟨1946157055, 9, true, [31]⟩, ⟨4093640703, 8, false, [26, 32]⟩, ⟨4160749567, 7, true, [27]⟩, ⟨8388607999, 7, true, [33]⟩, ⟨4294967295, 6, false, [32]⟩, ⟨16978542591, 6, false, [26]⟩, ⟨8589934591, 5, true, [33]⟩, ⟨17045651455, 5, true, [27]⟩, ⟨17179869183, 4, false, [34]⟩, ⟨34359738367, 3, true, [35]⟩, ⟨68719476735, 2, true, [36]⟩, ⟨137438953471, 1, true, [37]⟩] [(0, true), (1, false), (2, true), (3, true), (4, true), (5, true), (6, true), (7, true), (8, true), (9, true), (10, true), (11, true), (13, true), (14, true), (15, true), (12, false), (16, false), (17, true), (18, true), (19, true), (20, true), (21, true), (22, true), (23, true), (24, true), (25, true), (28, true), (29, true), (30, true), (31, true), (26, false), (27, true), (32, false), (33, true), (34, false), (35, true), (36, true), (37, true)] [(1, [.r [.ro (.v (.int .u8 t975))] []]), (4, [.b true]), (5, [.b true, .e 52 (.i (x1.length : Int))]), (6, [.b true]), (7, [.b true]), (9, [.c true]), (10, [.c true, .e 57 (.rf [.i ((rd_T31 x1 0).f0), .sl 1 (rX (cL (cI .i64) 1) ((rd_T31 x1 0).f1.f0)), .sl 1 (rX (cI .i64) ((rd_T31 x1 0).f1.f1))])]), (11, [.c true]), (13, [.c true]), (14, [.c true, .e 61 (.rf [.i ((rd_T31 x1 1).f0), .sl 1 (rX (cL (cI .i64) 1) ((rd_T31 x1 1).f1.f0)), .sl 1 (rX (cI .i64) ((rd_T31 x1 1).f1.f1))])]), (15, [.c true]), (12, [.c true]), (16, [.c true]), (17, [.c true]), (18, [.b true]), (20, [.c true]), (21, [.c true]), (22, [.c true]), (23, [.c true, .e 70 (.rf [.i ((rd_T31 x1 0).f0), .sl 1 (rX (cL (cI .i64) 1) ((rd_T31 x1 0).f1.f0)), .sl 1 (rX (cI .i64) ((rd_T31 x1 0).f1.f1))])]), (24, [.c true]), (25, [.c true]), (28, [.c true]), (29, [.c true, .e 76 (.rf [.i ((rd_T31 x1 1).f0), .sl 1 (rX (cL (cI .i64) 1) ((rd_T31 x1 1).f1.f0)), .sl 1 (rX (cI .i64) ((rd_T31 x1 1).f1.f1))])]), (30, [.c true]), (31, [.c true]), (26, [.c true]), (27, [.c true, .e 74 (.i (((rd_T31 x1 0).f1.f0).length : Int))]), (32, [.c true]), (33, [.c true, .e 80 (.i (((rd_T31 x1 1).f1.f0).length : Int))]), (34, [.c true, .r [.ro (.i t980)] []]), (35, [.c true]), (36, [.b true])]] rfl KD ?_
           cases h
           exact rr [.ro, .ro] rfl KD
       · refine pk 9 hF [.f, .f] [.p 274877906943 [⟨0, 38, true, [0]⟩, ⟨1, 37, false, [1]⟩, ⟨3, 36, true, [2]⟩, ⟨7, 35, true, [3]⟩, ⟨15, 34, true, [4]⟩, ⟨31, 33, true, [5]⟩, ⟨63, 32, true, [6]⟩, ⟨127, 31, true, [7]⟩, ⟨255, 30, true, [8]⟩, ⟨511, 29, true, [9]⟩, ⟨1023, 28, true, [10]⟩, ⟨2047, 27, true, [11]⟩, ⟨4095, 26, true, [13]⟩, ⟨12287, 25, true, [14]⟩, ⟨28671, 24, true, [15]⟩, ⟨61439, 23, false, [12, 16]⟩, ⟨65535, 22, false, [16]⟩, ⟨126975, 22, false, [12]⟩, ⟨131071, 21, true, [17]⟩, ⟨262143, 20, true, [18]⟩, ⟨524287, 19, true, [19]⟩, ⟨1048575, 18, true, [20]⟩, ⟨2097151, 17, true, [21]⟩, ⟨4194303, 16, true, [22]⟩, ⟨8388607, 15, true, [23]⟩, ⟨16777215, 14, true, [24]⟩, ⟨33554431, 13, true, [25]⟩, ⟨67108863, 12, true, [28]⟩, ⟨335544319, 11, true, [29]⟩, ⟨872415231, 10, true, [30]⟩, ⟨1946157055, 9, true, [31]⟩, ⟨4093640703, 8, false, [26, 32]⟩, ⟨4160749567, 7, true, [27]⟩, ⟨8388607999, 7, true, [33]⟩, ⟨4294967295, 6, false, [32]⟩, ⟨16978542591, 6, false, [26]⟩, ⟨8589934591, 5, true, [33]⟩, ⟨17045651455, 5, true, [27]⟩, ⟨17179869183, 4, false, [34]⟩, ⟨34359738367, 3, true, [35]⟩, ⟨68719476735, 2, true, [36]⟩, ⟨137438953471, 1, true, [37]⟩] [(0, true), (1, false), (2, true), (3, true), (4, true), (5, true), (6, true), (7, true), (8, true), (9, true), (10, true), (11, true), (13, true), (14, true), (15, true), (12, false), (16, false), (17, true), (18, true), (19, true), (20, true), (21, true), (22, true), (23, true), (24, true), (25, true), (28, true), (29, true), (30, true), (31, true), (26, false), (27, true), (32, false), (33, true), (34, false), (35, true), (36, true), (37, true)] [(1, [.r [.ro (.v (.int .u8 t975))] []]), (4, [.b true]), (5, [.b true, .e 52 (.i (x1.length : Int))]), (6, [.b true]), (7, [.b true]), (9, [.c true]), (10, [.c true, .e 57 (.rf [.i ((rd_T31 x1 0).f0), .sl 1 (rX (cL (cI .i64) 1) ((rd_T31 x1 0).f1.f0)), .sl 1 (rX (cI .i64) ((rd_T31 x1 0).f1.f1))])]), (11, [.c true]), (13, [.c true]), (14, [.c true, .e 61 (.rf [.i ((rd_T31 x1 1).f0), .sl 1 (rX (cL (cI .i64) 1) ((rd_T31 x1 1).f1.f0)), .sl 1 (rX (cI .i64) ((rd_T31 x1 1).f1.f1))])]), (15, [.c true]), (12, [.c true]), (16, [.c true]), (17, [.c true]), (18, [.b true]), (20, [.c false]), (21, [.c false]), (22, [.c false]), (23, [.c false]), (24, [.c false]), (25, [.c false]), (28, [.c false]), (29, [.c false]), (30, [.c false]), (31, [.c false]), (26, [.c false]), (27, [.c false]), (32, [.c false]), (33, [.c false]), (34, [.c false]), (35, [.c false]), (36, [.b false])]] rfl KD ?_
         cases h
         exact rr [.ro, .ro] rfl KD
     · refine pk 9 hF [.f, .f] [.p 274877906943 [⟨0, 38, true, [0]⟩, ⟨1, 37, false, [1]⟩, ⟨3, 36, true, [2]⟩, ⟨7, 35, true, [3]⟩, ⟨15, 34, true, [4]⟩, ⟨31, 33, true, [5]⟩, ⟨63, 32, true, [6]⟩, ⟨127, 31, true, [7]⟩, ⟨255, 30, true, [8]⟩, ⟨511, 29, true, [9]⟩, ⟨1023, 28, true, [10]⟩, ⟨2047, 27, true, [11]⟩, ⟨4095, 26, true, [13]⟩, ⟨12287, 25, true, [14]⟩, ⟨28671, 24, true, [15]⟩, ⟨61439, 23, false, [12, 16]⟩, ⟨65535, 22, false, [16]⟩, ⟨126975, 22, false, [12]⟩, ⟨131071, 21, true, [17]⟩, ⟨262143, 20, true, [18]⟩, ⟨524287, 19, true, [19]⟩, ⟨1048575, 18, true, [20]⟩, ⟨2097151, 17, true, [21]⟩, ⟨4194303, 16, true, [22]⟩, ⟨8388607, 15, true, [23]⟩, ⟨16777215, 14, true, [24]⟩, ⟨33554431, 13, true, [25]⟩, ⟨67108863, 12, true, [28]⟩, ⟨335544319, 11, true, [29]⟩, ⟨872415231, 10, true, [30]⟩, ⟨1946157055, 9, true, [31]⟩, ⟨4093640703, 8, false, [26, 32]⟩, ⟨4160749567, 7, true, [27]⟩, ⟨8388607999, 7, true, [33]⟩, ⟨4294967295, 6, false, [32]⟩, ⟨16978542591, 6, false, [26]⟩, ⟨8589934591, 5, true, [33]⟩, ⟨17045651455, 5, true, [27]⟩, ⟨17179869183, 4, false, [34]⟩, ⟨34359738367, 3, true, [35]⟩, ⟨68719476735, 2, true, [36]⟩, ⟨137438953471, 1, true, [37]⟩] [(0, true), (1, false), (2, true), (3, true), (4, true), (5, true), (6, true), (7, true), (8, true), (9, true), (10, true), (11, true), (13, true), (14, true), (15, true), (12, false), (16, false), (17, true), (18, true), (19, true), (20, true), (21, true), (22, true), (23, true), (24, true), (25, true), (28, true), (29, true), (30, true), (31, true), (26, false), (27, true), (32, false), (33, true), (34, false), (35, true), (36, true), (37, true)] [(1, [.r [.ro (.v (.int .u8 t975))] []]), (4, [.b true]), (5, [.b true, .e 52 (.i (x1.length : Int))]), (6, [.b true]), (7, [.b true]), (9, [.c false]), (10, [.c false]), (11, [.c false]), (13, [.c false]), (14, [.c false]), (15, [.c false]), (12, [.c false]), (16, [.c false]), (17, [.c false]), (18, [.b false]), (20, [.c false]), (21, [.c false]), (22, [.c false]), (23, [.c false]), (24, [.c false]), (25, [.c false]), (28, [.c false]), (29, [.c false]), (30, [.c false]), (31, [.c false]), (26, [.c false]), (27, [.c false]), (32, [.c false]), (33, [.c false]), (34, [.c false]), (35, [.c false]), (36, [.b false])]] rfl KD ?_
       cases h
       exact rr [.ro, .ro] rfl KD
   · refine pk 9 hF [.f, .f] [.p 274877906943 [⟨0, 38, true, [0]⟩, ⟨1, 37, false, [1]⟩, ⟨3, 36, true, [2]⟩, ⟨7, 35, true, [3]⟩, ⟨15, 34, true, [4]⟩, ⟨31, 33, true, [5]⟩, ⟨63, 32, true, [6]⟩, ⟨127, 31, true, [7]⟩, ⟨255, 30, true, [8]⟩, ⟨511, 29, true, [9]⟩, ⟨1023, 28, true, [10]⟩, ⟨2047, 27, true, [11]⟩, ⟨4095, 26, true, [13]⟩, ⟨12287, 25, true, [14]⟩, ⟨28671, 24, true, [15]⟩, ⟨61439, 23, false, [12, 16]⟩, ⟨65535, 22, false, [16]⟩, ⟨126975, 22, false, [12]⟩, ⟨131071, 21, true, [17]⟩, ⟨262143, 20, true, [18]⟩, ⟨524287, 19, true, [19]⟩, ⟨1048575, 18, true, [20]⟩, ⟨2097151, 17, true, [21]⟩, ⟨4194303, 16, true, [22]⟩, ⟨8388607, 15, true, [23]⟩, ⟨16777215, 14, true, [24]⟩, ⟨33554431, 13, true, [25]⟩, ⟨67108863, 12, true, [28]⟩, ⟨335544319, 11, true, [29]⟩, ⟨872415231, 10, true, [30]⟩, ⟨1946157055, 9, true, [31]⟩, ⟨4093640703, 8, false, [26, 32]⟩, ⟨4160749567, 7, true, [27]⟩, ⟨8388607999, 7, true, [33]⟩, ⟨4294967295, 6, false, [32]⟩, ⟨16978542591, 6, false, [26]⟩, ⟨8589934591, 5, true, [33]⟩, ⟨17045651455, 5, true, [27]⟩, ⟨17179869183, 4, false, [34]⟩, ⟨34359738367, 3, true, [35]⟩, ⟨68719476735, 2, true, [36]⟩, ⟨137438953471, 1, true, [37]⟩] [(0, true), (1, false), (2, true), (3, true), (4, true), (5, true), (6, true), (7, true), (8, true), (9, true), (10, true), (11, true), (13, true), (14, true), (15, true), (12, false), (16, false), (17, true), (18, true), (19, true), (20, true), (21, true), (22, true), (23, true), (24, true), (25, true), (28, true), (29, true), (30, true), (31, true), (26, false), (27, true), (32, false), (33, true), (34, false), (35, true), (36, true), (37, true)] [(1, [.r [.ro (.v (.int .u8 t975))] []]), (4, [.b false]), (5, [.b false]), (6, [.b false]), (7, [.b false]), (9, [.c false]), (10, [.c false]), (11, [.c false]), (13, [.c false]), (14, [.c false]), (15, [.c false]), (12, [.c false]), (16, [.c false]), (17, [.c false]), (18, [.b false]), (20, [.c false]), (21, [.c false]), (22, [.c false]), (23, [.c false]), (24, [.c false]), (25, [.c false]), (28, [.c false]), (29, [.c false]), (30, [.c false]), (31, [.c false]), (26, [.c false]), (27, [.c false]), (32, [.c false]), (33, [.c false]), (34, [.c false]), (35, [.c false]), (36, [.b false])]] rfl KD ?_
     cases h
     exact rr [.ro, .ro] rfl KD
theorem cs44 (k : Nat) : C44 k := by
 induction k using Nat.strongRecOn with
 | _ k ih0 =>
 have ih : Kp (∀ m, m < k → C44 m) := ⟨ih0⟩
 exact ⟨c44l0 k ih, c44j1 k ih⟩
theorem spec_l8RawDoInstruction.ctr (k : Nat) (a0 : ByteArray) (l1 : List (S31)) (r1 : Int) (r2 : List (List Int)) (r3 : List Int) (r4 : Bool) (h : spec_l8RawDoInstruction.f k a0 l1 = some (r1, r2, r3, r4)) : Ctr TE 44 none [.v (.string a0), .sl 3 (r31 l1)] [.ro (.ag [.i r1, .sl 1 (rX (cL (cI .i64) 1) r2), .sl 1 (rX (cI .i64) r3)]), .ro (.v (.bool r4))] [] := by
 refine co Tryz.func44 (by kernel_rfl) (by kernel_rfl) fun w ro B hF => ?_
 have ih : Kp (∀ m, m < k + 1 → C44 m) := ⟨fun m _ => cs44 m⟩
 simp only [spec_l8RawDoInstruction.f] at h
 refine pk 6 hF [.e 9 (.i (l1.length : Int))] [] rfl KD ?_
 exact WS.can [(1004, some 4)] ((ih.a.s_l0  r1 r2 r3 r4 w ro B hF _ ⟨a0, l1, l1, (l1.length : Int), 0, 0, h, rfl⟩).out) KD
def spec_DoInstruction.f (k : Nat) (a0 : ByteArray) (l1 : List (S31)) : Option (Int × (List (List Int)) × List Int × Bool) := (spec_l8RawDoInstruction.f k a0 l1).bind fun bt991 => ((spec_l13OwnVector.f k bt991.1 bt991.2.1 bt991.2.2.1).bind fun bt1000 => (some (bt1000.1, bt1000.2.1, bt1000.2.2, bt991.2.2.2)))
theorem spec_DoInstruction.ctr (k : Nat) (a0 : ByteArray) (l1 : List (S31)) (r1 : Int) (r2 : List (List Int)) (r3 : List Int) (r4 : Bool) (h : spec_DoInstruction.f k a0 l1 = some (r1, r2, r3, r4)) : Ctr TE 9 none [.v (.string a0), .sl 3 (r31 l1)] [.ro (.ag [.i r1, .sl 1 (rX (cL (cI .i64) 1) r2), .sl 1 (rX (cI .i64) r3)]), .ro (.v (.bool r4))] [] := by
 refine co Tryz.func9 (by kernel_rfl) (by kernel_rfl) fun w ro B hF => ?_
 simp only [spec_DoInstruction.f] at h
 obtain ⟨⟨t991, t992, t995, t998⟩, q1, h⟩ := ib h
 dsimp only at h
 have q1c := spec_l8RawDoInstruction.ctr k _ _ _ _ _ _ q1
 obtain ⟨⟨t1000, t1001, t1004⟩, q2, h⟩ := ib h
 dsimp only at h
 have q2c := spec_l13OwnVector.ctr k _ _ _ _ _ _ q2
 refine pk 7 hF [.r [.ro (.ag [.i t991, .sl 1 (rX (cL (cI .i64) 1) t992), .sl 1 (rX (cI .i64) t995)]), .ro (.v (.bool t998))] [], .r [.ro (.ag [.i t1000, .sl 1 (rX (cL (cI .i64) 1) t1001), .sl 1 (rX (cI .i64) t1004)])] []] [] rfl KD ?_
 cases h
 exact rr [.ro, .ro] rfl KD
def laws_faSame.l0 : Nat → List Int → List Int → Int → Int → Option (Bool)
  | 0, _, _, _, _ => none
  | k + 1, x0, x1, x10, x11 => if x11 < x10 then (if 0 ≤ x11 then (if x11 < (x0.length : Int) then (if x11 < (x1.length : Int) then (if (rd x0 x11) = (rd x1 x11) then (laws_faSame.l0 k x0 x1 x10 (wrap64 (x11 + 1))) else (some false)) else (none)) else (none)) else (none)) else (some ((x0.length : Int) == (x1.length : Int)))
def laws_faSame.f (k : Nat) (l0 : List Int) (l1 : List Int) : Option (Bool) := laws_faSame.l0 k l0 l1 (mn (l0.length : Int) (l1.length : Int)) 0
def I83_0 (r : Bool) (m : Nat) (σ : St) : Prop := ∃ (x0 : List Int) (x1 : List Int) (x10 : Int) (x11 : Int), laws_faSame.l0 m x0 x1 x10 x11 = some r ∧ σ = ⟨[(0, .sl 1 (rX (cI .i64) x0)), (1, .sl 1 (rX (cI .i64) x1)), (10, .i x10), (11, .i x11)], []⟩
abbrev W83 (r : Bool) (w : World) (ro : Nat → Prop) (B : Nat) (p : List Nat) (j : List (St → Prop)) (σ : St) : Prop := Kp (WS TE (cx0 Tryz.f83 none w ro B) (stkAt p j (bodyOf Tryz.f83) []) σ (RetQ TE Tryz.f83 none [.ro (.v (.bool r))] [] w ro B))
def S83l0 (k : Nat) : Prop := ∀ r w ro B (_ : Fr TE (cx0 Tryz.f83 none w ro B)) (σ : St) (_ : I83_0 r k σ), W83 r w ro B [1, 0, 1, 0] [] σ
structure C83 (k : Nat) : Prop where
 s_l0 : S83l0 k
theorem c83l0 (k : Nat) (ih : Kp (∀ m, m < k → C83 m)) : S83l0 k := by
 intro r w ro B hF
 intro σ h0
 refine ⟨WS.loop (fun m σ => m ≤ k ∧ I83_0 r m σ) k ⟨Nat.le_refl k, h0⟩ (fun m σ' hI J0 hJ0 => ?_)⟩
 clear h0
 obtain ⟨hk, x0, x1, x10, x11, h, rfl⟩ := hI
 cases m with
 | zero => simp [laws_faSame.l0] at h
 | succ k' =>
 simp only [laws_faSame.l0] at h
 rcases ic h with ⟨c1, h⟩ | ⟨c1, h⟩
 · obtain ⟨c2, h⟩ := ig h
   obtain ⟨c3, h⟩ := ig h
   obtain ⟨c4, h⟩ := ig h
   rcases ic h with ⟨c5, h⟩ | ⟨c5, h⟩
   · refine pk 15 hF [.t, .e 16 (.rf [.i (rd x0 x11)]), .e 20 (.rf [.i (rd x1 x11)]), .f] [.o [(0, 0), (1, 0), (2, 0), (3, 1), (4, 0), (5, 0), (6, 0), (7, 1), (8, 0)] []] rfl KD ?_
     exact WS.lpc [] (hJ0 _ _ (Nat.lt_succ_self _) ⟨by omega, x0, x1, x10, (wrap64 (x11 + 1)), h, rfl⟩) KD
   · refine pk 15 hF [.t, .e 16 (.rf [.i (rd x0 x11)]), .e 20 (.rf [.i (rd x1 x11)]), .t] [.o [(0, 0), (1, 0), (2, 0), (3, 1), (4, 0), (5, 0), (6, 0), (7, 1), (8, 0)] []] rfl KD ?_
     cases h
     exact rr [.ro] rfl KD
 · refine pk 8 hF [.f, .e 25 (.i (x0.length : Int)), .e 27 (.i (x1.length : Int))] [] rfl KD ?_
   cases h
   exact rr [.ro] rfl KD
theorem cs83 (k : Nat) : C83 k := by
 induction k using Nat.strongRecOn with
 | _ k ih0 =>
 have ih : Kp (∀ m, m < k → C83 m) := ⟨ih0⟩
 exact ⟨c83l0 k ih⟩
theorem laws_faSame.ctr (k : Nat) (l0 : List Int) (l1 : List Int) (r : Bool) (h : laws_faSame.f k l0 l1 = some r) : Ctr TE 83 none [.sl 1 (rX (cI .i64) l0), .sl 1 (rX (cI .i64) l1)] [.ro (.v (.bool r))] [] := by
 refine co Tryz.func83 (by kernel_rfl) (by kernel_rfl) fun w ro B hF => ?_
 have ih : Kp (∀ m, m < k + 1 → C83 m) := ⟨fun m _ => cs83 m⟩
 simp only [laws_faSame.f] at h
 refine pk 6 hF [.e 7 (.i (l0.length : Int)), .e 9 (.i (l1.length : Int))] [] rfl KD ?_
 exact WS.can [] ((ih.a.s_l0  r w ro B hF _ ⟨l0, l1, (mn (l0.length : Int) (l1.length : Int)), 0, h, rfl⟩).out) KD
end Go.Proofs.YtjkngiciigdheaaGreatDoor.K
