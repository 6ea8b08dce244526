/- A part of the claim. -/
import Derived.Test.YtjkngiciigdheaaGreatDoorKFx0
namespace Go.Proofs.YtjkngiciigdheaaGreatDoor.K
open Go.RowKit Go.Proofs.YtjkngiciigdheaaGreatDoorW.St Go.Proofs.YtjkngiciigdheaaGreatDoorW.PrintWords Go.Proofs.YtjkngiciigdheaaGreatDoorW.PrintLast Go.Proofs.YtjkngiciigdheaaGreatDoorW.PrintMore
set_option linter.unusedVariables false
set_option linter.unusedSimpArgs false
set_option maxRecDepth 100000
set_option maxHeartbeats 4000000
def spec_l13Open.f (l0 : List Int) : Option (List Int × Int) := if (l0.length : Int) > 2000 then (if 2000 ≤ (l0.length : Int) then (some (l0.take 2000, 0)) else (none)) else (some (l0, 0))
theorem spec_l13Open.ctr (l0 : List Int) (r1 : List Int) (r2 : Int) (h : spec_l13Open.f l0 = some (r1, r2)) : Ctr TE 33 none [.sl 1 (rX (cI .u8) l0)] [.nb 105 [.sl 1 (rX (cI .u8) r1), .i r2]] [] := by
 refine co Tryz.func33 (by kernel_rfl) (by kernel_rfl) fun w ro B hF => ?_
 simp only [spec_l13Open.f] at h
 rcases ic h with ⟨c1, h⟩ | ⟨c1, h⟩
 · obtain ⟨c2, h⟩ := ig h
   refine pk 10 hF [.e 4 (.i (l0.length : Int)), .t, .e 7 (.sl 1 (rX (cI .u8) (l0.take 2000)))] [] rfl KD ?_
   cases h
   exact rr [.nb] rfl KD
 · refine pk 10 hF [.e 4 (.i (l0.length : Int)), .f] [] rfl KD ?_
   cases h
   exact rr [.nb] rfl KD
def spec_l13Rd_pick.j0 : Nat → Int → Bool → List Int → Int → Option (Int × Int)
  | 0, _, _, _, _ => none
  | k + 1, x1, x24, x1000, x1001 => if x24 = true then (some (0, x1001)) else (if (wrap64 (x1001 - 1)) < (x1000.length : Int) then (if 0 ≤ (wrap64 (x1001 - 1)) then (if x1 = 0 then (none) else (some (Int.tmod (wrap64 (rd x1000 (wrap64 (x1001 - 1)))) x1, x1001))) else (none)) else (if (x1000.length : Int) = 0 then (none) else (if 0 ≤ (Int.tmod (wrap64 (x1001 - 1)) (x1000.length : Int)) then (if (Int.tmod (wrap64 (x1001 - 1)) (x1000.length : Int)) < (x1000.length : Int) then (if 0 ≤ (Int.tmod (wrap64 ((wrap64 ((wrap64 (x1001 - 1)) * 7)) + 3)) (x1000.length : Int)) then (if (Int.tmod (wrap64 ((wrap64 ((wrap64 (x1001 - 1)) * 7)) + 3)) (x1000.length : Int)) < (x1000.length : Int) then (if x1 = 0 then (none) else (some (Int.tmod (Go.bits .xor .i64 (wrap64 ((wrap64 ((wrap64 ((wrap64 ((wrap64 (rd x1000 (Int.tmod (wrap64 (x1001 - 1)) (x1000.length : Int)))) * 131)) + (wrap64 ((wrap64 (rd x1000 (Int.tmod (wrap64 ((wrap64 ((wrap64 (x1001 - 1)) * 7)) + 3)) (x1000.length : Int)))) * 1117)))) + (wrap64 ((wrap64 (x1001 - 1)) * 29)))) + (wrap64 ((wrap64 (Int.tdiv (wrap64 (x1001 - 1)) (x1000.length : Int))) * 53)))) (wrap64 (Int.tdiv (wrap64 ((wrap64 ((wrap64 ((wrap64 ((wrap64 (rd x1000 (Int.tmod (wrap64 (x1001 - 1)) (x1000.length : Int)))) * 131)) + (wrap64 ((wrap64 (rd x1000 (Int.tmod (wrap64 ((wrap64 ((wrap64 (x1001 - 1)) * 7)) + 3)) (x1000.length : Int)))) * 1117)))) + (wrap64 ((wrap64 (x1001 - 1)) * 29)))) + (wrap64 ((wrap64 (Int.tdiv (wrap64 (x1001 - 1)) (x1000.length : Int))) * 53)))) 64))) x1, x1001))) else (none)) else (none)) else (none)) else (none))))
def spec_l13Rd_pick.f (k : Nat) (s0_0 : List Int) (s0_1 : Int) (a1 : Int) : Option (Int × Int) := if a1 < 1 then (spec_l13Rd_pick.j0 k a1 true s0_0 (wrap64 (s0_1 + 1))) else (spec_l13Rd_pick.j0 k a1 ((s0_0.length : Int) == 0) s0_0 (wrap64 (s0_1 + 1)))
abbrev W35 (s0_0 : List Int) (s0_1 : Int) (r1 : Int) (r2 : Int) (w : World) (ro : Nat → Prop) (B : Nat) (p : List Nat) (j : List (St → Prop)) (σ : St) : Prop := Kp (WS TE (cx0 Tryz.f35 (some (105, [.sl 1 (rX (cI .u8) s0_0), .i s0_1])) w ro B) (stkAt p j (bodyOf Tryz.f35) []) σ (RetQ TE Tryz.f35 (some (105, [.sl 1 (rX (cI .u8) s0_0), .i s0_1])) [.ro (.i r1)] [.sl 1 (rX (cI .u8) s0_0), .i r2] w ro B))
def S35j0 (k : Nat) : Prop := ∀ (s0_0 : List Int) (s0_1 : Int) (r1 : Int) (r2 : Int) (w : World) (ro : Nat → Prop) (B : Nat) (_ : Fr TE (cx0 Tryz.f35 (some (105, [.sl 1 (rX (cI .u8) s0_0), .i s0_1])) w ro B)) x1 x24 x1001 (_ : spec_l13Rd_pick.j0 k x1 x24 s0_0 x1001 = some (r1, r2)), W35 s0_0 s0_1 r1 r2 w ro B [1, 1, 0, 0, 9] [] ⟨[(0, .pt 0 0 0), (1, .i x1), (24, .v (.bool x24))], [(0, .box 0 105 true [.sl 1 (rX (cI .u8) s0_0), .i x1001])]⟩
structure C35 (k : Nat) : Prop where
 s_j0 : S35j0 k
theorem c35j0 (k : Nat) (ih : Kp (∀ m, m < k → C35 m)) : S35j0 k := by
 intro s0_0 s0_1 r1 r2 w ro B hF
 intro x1 x24 x1001 h
 refine ⟨?_⟩
 cases k with
 | zero => simp [spec_l13Rd_pick.j0] at h
 | succ k =>
 simp only [spec_l13Rd_pick.j0] at h
 rcases ic h with ⟨c2, h⟩ | ⟨c2, h⟩
 · refine pk 4 hF [.t] [] rfl KD ?_
   cases h
   exact rr [.ro] rfl KD
 · rcases ic h with ⟨c3, h⟩ | ⟨c3, h⟩
   · obtain ⟨c4, h⟩ := ig h
     obtain ⟨c5, h⟩ := ih' h
     refine pk 11 hF [.f, .e 35 (.i (s0_0.length : Int)), .t, .e 42 (.rf [.v (.int .u8 (rd s0_0 (wrap64 (x1001 - 1))))]), .e 44 (.i (wrap64 (rd s0_0 (wrap64 (x1001 - 1))))), .e 46 (.i (Int.tmod (wrap64 (rd s0_0 (wrap64 (x1001 - 1)))) x1))] [] rfl KD ?_
     cases h
     exact rr [.ro] rfl KD
   · obtain ⟨c6, h⟩ := ih' h
     obtain ⟨c7, h⟩ := ig h
     obtain ⟨c8, h⟩ := ig h
     obtain ⟨c9, h⟩ := ig h
     obtain ⟨c10, h⟩ := ig h
     obtain ⟨c11, h⟩ := ih' h
     refine pk 16 hF [.f, .e 35 (.i (s0_0.length : Int)), .f, .e 56 (.i (s0_0.length : Int)), .e 57 (.i (Int.tmod (wrap64 (x1001 - 1)) (s0_0.length : Int))), .e 58 (.rf [.v (.int .u8 (rd s0_0 (Int.tmod (wrap64 (x1001 - 1)) (s0_0.length : Int))))]), .e 60 (.i (wrap64 (rd s0_0 (Int.tmod (wrap64 (x1001 - 1)) (s0_0.length : Int))))), .e 73 (.i (s0_0.length : Int)), .e 74 (.i (Int.tmod (wrap64 ((wrap64 ((wrap64 (x1001 - 1)) * 7)) + 3)) (s0_0.length : Int))), .e 75 (.rf [.v (.int .u8 (rd s0_0 (Int.tmod (wrap64 ((wrap64 ((wrap64 (x1001 - 1)) * 7)) + 3)) (s0_0.length : Int))))]), .e 77 (.i (wrap64 (rd s0_0 (Int.tmod (wrap64 ((wrap64 ((wrap64 (x1001 - 1)) * 7)) + 3)) (s0_0.length : Int))))), .e 88 (.i (s0_0.length : Int)), .e 89 (.i (wrap64 (Int.tdiv (wrap64 (x1001 - 1)) (s0_0.length : Int)))), .e 94 (.i (wrap64 (Int.tdiv (wrap64 ((wrap64 ((wrap64 ((wrap64 ((wrap64 (rd s0_0 (Int.tmod (wrap64 (x1001 - 1)) (s0_0.length : Int)))) * 131)) + (wrap64 ((wrap64 (rd s0_0 (Int.tmod (wrap64 ((wrap64 ((wrap64 (x1001 - 1)) * 7)) + 3)) (s0_0.length : Int)))) * 1117)))) + (wrap64 ((wrap64 (x1001 - 1)) * 29)))) + (wrap64 ((wrap64 (Int.tdiv (wrap64 (x1001 - 1)) (s0_0.length : Int))) * 53)))) 64))), .e 98 (.i (Int.tmod (Go.bits .xor .i64 (wrap64 ((wrap64 ((wrap64 ((wrap64 ((wrap64 (rd s0_0 (Int.tmod (wrap64 (x1001 - 1)) (s0_0.length : Int)))) * 131)) + (wrap64 ((wrap64 (rd s0_0 (Int.tmod (wrap64 ((wrap64 ((wrap64 (x1001 - 1)) * 7)) + 3)) (s0_0.length : Int)))) * 1117)))) + (wrap64 ((wrap64 (x1001 - 1)) * 29)))) + (wrap64 ((wrap64 (Int.tdiv (wrap64 (x1001 - 1)) (s0_0.length : Int))) * 53)))) (wrap64 (Int.tdiv (wrap64 ((wrap64 ((wrap64 ((wrap64 ((wrap64 (rd s0_0 (Int.tmod (wrap64 (x1001 - 1)) (s0_0.length : Int)))) * 131)) + (wrap64 ((wrap64 (rd s0_0 (Int.tmod (wrap64 ((wrap64 ((wrap64 (x1001 - 1)) * 7)) + 3)) (s0_0.length : Int)))) * 1117)))) + (wrap64 ((wrap64 (x1001 - 1)) * 29)))) + (wrap64 ((wrap64 (Int.tdiv (wrap64 (x1001 - 1)) (s0_0.length : Int))) * 53)))) 64))) x1))] [.o [(0, 0), (1, 0), (2, 0), (3, 1), (4, 0), (5, 0), (6, 0), (7, 0), (8, 1), (9, 0), (10, 0), (11, 0), (12, 1), (13, 0), (14, 0), (15, 0), (16, 0), (17, 0), (18, 1), (19, 0), (20, 0), (21, 0), (22, 0), (23, 0), (24, 0), (25, 1), (26, 0), (27, 0), (28, 0), (29, 1), (30, 0), (31, 0), (32, 0), (33, 0), (34, 0), (35, 0), (36, 0), (37, 0), (38, 0), (39, 0), (40, 1), (41, 0), (42, 0), (43, 0), (44, 0), (45, 0)] []] rfl KD ?_
     cases h
     exact rr [.ro] rfl KD
theorem cs35 (k : Nat) : C35 k := by
 induction k using Nat.strongRecOn with
 | _ k ih0 =>
 have ih : Kp (∀ m, m < k → C35 m) := ⟨ih0⟩
 exact ⟨c35j0 k ih⟩
theorem spec_l13Rd_pick.ctr (k : Nat) (s0_0 : List Int) (s0_1 : Int) (a1 : Int) (r1 : Int) (r2 : Int) (h : spec_l13Rd_pick.f k s0_0 s0_1 a1 = some (r1, r2)) : Ctr TE 35 (some (105, [.sl 1 (rX (cI .u8) s0_0), .i s0_1])) [.pt 0 0 0, .i a1] [.ro (.i r1)] [.sl 1 (rX (cI .u8) s0_0), .i r2] := by
 refine co Tryz.func35 (by kernel_rfl) (by kernel_rfl) fun w ro B hF => ?_
 have ih : Kp (∀ m, m < k + 1 → C35 m) := ⟨fun m _ => cs35 m⟩
 simp only [spec_l13Rd_pick.f] at h
 rcases ic h with ⟨c1, h⟩ | ⟨c1, h⟩
 · refine pk 7 hF [.t, .t, .t, .t, .t, .t, .t] [] rfl KD ?_
   exact WS.can [(0, some 0)] ((ih.a.s_j0 s0_0 s0_1 r1 r2 w ro B hF a1 true (wrap64 (s0_1 + 1)) h).out) KD
 · refine pk 7 hF [.f, .f, .f, .f, .f, .e 22 (.i (s0_0.length : Int)), .f, .f] [] rfl KD ?_
   exact WS.can [(0, some 0)] ((ih.a.s_j0 s0_0 s0_1 r1 r2 w ro B hF a1 ((s0_0.length : Int) == 0) (wrap64 (s0_1 + 1)) h).out) KD
def spec_l13Rd_of.f (k : Nat) (s0_0 : List Int) (s0_1 : Int) (l1 : List ByteArray) : Option (ByteArray × Int) := (spec_l13Rd_pick.f k s0_0 s0_1 (l1.length : Int)).bind fun bt107 => (if 0 ≤ bt107.1 then (if bt107.1 < (l1.length : Int) then (some (rdOf ByteArray.empty l1 bt107.1, bt107.2)) else (none)) else (none))
theorem spec_l13Rd_of.ctr (k : Nat) (s0_0 : List Int) (s0_1 : Int) (l1 : List ByteArray) (r1 : ByteArray) (r2 : Int) (h : spec_l13Rd_of.f k s0_0 s0_1 l1 = some (r1, r2)) : Ctr TE 34 (some (105, [.sl 1 (rX (cI .u8) s0_0), .i s0_1])) [.pt 0 0 0, .sl 1 (rX cS l1)] [.ro (.v (.string r1))] [.sl 1 (rX (cI .u8) s0_0), .i r2] := by
 refine co Tryz.func34 (by kernel_rfl) (by kernel_rfl) fun w ro B hF => ?_
 simp only [spec_l13Rd_of.f] at h
 obtain ⟨⟨t107, t108⟩, q1, h⟩ := ib h
 dsimp only at h
 have q1c := spec_l13Rd_pick.ctr k _ _ _ _ _ q1
 obtain ⟨c2, h⟩ := ig h
 obtain ⟨c3, h⟩ := ig h
 refine pk 5 hF [.e 8 (.i (l1.length : Int)), .r [.ro (.i t107)] [.sl 1 (rX (cI .u8) s0_0), .i t108], .e 10 (.rf [.v (.string (rdOf ByteArray.empty l1 t107))])] [] rfl KD ?_
 cases h
 exact rr [.ro] rfl KD
def spec_l13Rd_num.f (k : Nat) (s0_0 : List Int) (s0_1 : Int) (l1 : List Int) : Option (Int × Int) := (spec_l13Rd_pick.f k s0_0 s0_1 (l1.length : Int)).bind fun bt110 => (if 0 ≤ bt110.1 then (if bt110.1 < (l1.length : Int) then (some (rd l1 bt110.1, bt110.2)) else (none)) else (none))
theorem spec_l13Rd_num.ctr (k : Nat) (s0_0 : List Int) (s0_1 : Int) (l1 : List Int) (r1 : Int) (r2 : Int) (h : spec_l13Rd_num.f k s0_0 s0_1 l1 = some (r1, r2)) : Ctr TE 36 (some (105, [.sl 1 (rX (cI .u8) s0_0), .i s0_1])) [.pt 0 0 0, .sl 1 (rX (cI .i64) l1)] [.ro (.i r1)] [.sl 1 (rX (cI .u8) s0_0), .i r2] := by
 refine co Tryz.func36 (by kernel_rfl) (by kernel_rfl) fun w ro B hF => ?_
 simp only [spec_l13Rd_num.f] at h
 obtain ⟨⟨t110, t111⟩, q1, h⟩ := ib h
 dsimp only at h
 have q1c := spec_l13Rd_pick.ctr k _ _ _ _ _ q1
 obtain ⟨c2, h⟩ := ig h
 obtain ⟨c3, h⟩ := ig h
 refine pk 5 hF [.e 8 (.i (l1.length : Int)), .r [.ro (.i t110)] [.sl 1 (rX (cI .u8) s0_0), .i t111], .e 10 (.rf [.i (rd l1 t110)])] [] rfl KD ?_
 cases h
 exact rr [.ro] rfl KD
def spec_l13Find.l0 : Nat → ByteArray → Int → Int → Option (Int)
  | 0, _, _, _ => none
  | k + 1, x0, x1, x5 => if x5 < (x0.size : Int) then (if 0 ≤ x5 then (if (bt x0 x5) = x1 then (some x5) else (spec_l13Find.l0 k x0 x1 (wrap64 (x5 + 1)))) else (none)) else (some (-1))
def spec_l13Find.f (k : Nat) (a0 : ByteArray) (a1 : Int) : Option (Int) := spec_l13Find.l0 k a0 a1 0
def I37_0 (r : Int) (m : Nat) (σ : St) : Prop := ∃ (x0 : ByteArray) (x1 : Int) (x5 : Int), spec_l13Find.l0 m x0 x1 x5 = some r ∧ σ = ⟨[(0, .v (.string x0)), (1, .v (.int .u8 x1)), (5, .i x5)], []⟩
abbrev W37 (r : Int) (w : World) (ro : Nat → Prop) (B : Nat) (p : List Nat) (j : List (St → Prop)) (σ : St) : Prop := Kp (WS TE (cx0 Tryz.f37 none w ro B) (stkAt p j (bodyOf Tryz.f37) []) σ (RetQ TE Tryz.f37 none [.ro (.i r)] [] w ro B))
def S37l0 (k : Nat) : Prop := ∀ r w ro B (_ : Fr TE (cx0 Tryz.f37 none w ro B)) (σ : St) (_ : I37_0 r k σ), W37 r w ro B [1, 0, 1, 0] [] σ
structure C37 (k : Nat) : Prop where
 s_l0 : S37l0 k
theorem c37l0 (k : Nat) (ih : Kp (∀ m, m < k → C37 m)) : S37l0 k := by
 intro r w ro B hF
 intro σ h0
 refine ⟨WS.loop (fun m σ => m ≤ k ∧ I37_0 r m σ) k ⟨Nat.le_refl k, h0⟩ (fun m σ' hI J0 hJ0 => ?_)⟩
 clear h0
 obtain ⟨hk, x0, x1, x5, h, rfl⟩ := hI
 cases m with
 | zero => simp [spec_l13Find.l0] at h
 | succ k' =>
 simp only [spec_l13Find.l0] at h
 rcases ic h with ⟨c1, h⟩ | ⟨c1, h⟩
 · obtain ⟨c2, h⟩ := ig h
   rcases ic h with ⟨c3, h⟩ | ⟨c3, h⟩
   · refine pk 13 hF [.t, .t] [] rfl KD ?_
     cases h
     exact rr [.ro] rfl KD
   · refine pk 13 hF [.t, .f] [] rfl KD ?_
     exact WS.lpc [] (hJ0 _ _ (Nat.lt_succ_self _) ⟨by omega, x0, x1, (wrap64 (x5 + 1)), h, rfl⟩) KD
 · refine pk 8 hF [.f] [] rfl KD ?_
   cases h
   exact rr [.ro] rfl KD
theorem cs37 (k : Nat) : C37 k := by
 induction k using Nat.strongRecOn with
 | _ k ih0 =>
 have ih : Kp (∀ m, m < k → C37 m) := ⟨ih0⟩
 exact ⟨c37l0 k ih⟩
theorem spec_l13Find.ctr (k : Nat) (a0 : ByteArray) (a1 : Int) (r : Int) (h : spec_l13Find.f k a0 a1 = some r) : Ctr TE 37 none [.v (.string a0), .v (.int .u8 a1)] [.ro (.i r)] [] := by
 refine co Tryz.func37 (by kernel_rfl) (by kernel_rfl) fun w ro B hF => ?_
 have ih : Kp (∀ m, m < k + 1 → C37 m) := ⟨fun m _ => cs37 m⟩
 simp only [spec_l13Find.f] at h
 refine pk 6 hF [] [] rfl KD ?_
 exact WS.can [] ((ih.a.s_l0  r w ro B hF _ ⟨a0, a1, 0, h, rfl⟩).out) KD
mutual
def spec_l13Dec.l0 : Nat → Int → ByteArray → Option (ByteArray)
  | 0, _, _ => none
  | k + 1, x0, x3 => if x0 > 9 then ((some (([(wrap64 (48 + (Int.tmod x0 10))) % 256] : List Int) : List Int)).bind fun y114 => (if (strOfNums y114).size + x3.size ≤ 9223372036854775807 then (spec_l13Dec.l0 k (wrap64 (Int.tdiv x0 10)) ((strOfNums y114) ++ x3)) else (none))) else ((some (([(wrap64 (48 + x0)) % 256] : List Int) : List Int)).bind fun y117 => (if (strOfNums y117).size + x3.size ≤ 9223372036854775807 then (some ((strOfNums y117) ++ x3)) else (none)))
def spec_l13Dec.f : Nat → Int → Option (ByteArray)
  | 0, _ => none
  | k + 1, a0 => if a0 < (-9223372036854775807) then (some (⟨#[45, 57, 50, 50, 51, 51, 55, 50, 48, 51, 54, 56, 53, 52, 55, 55, 53, 56, 48, 56]⟩ : ByteArray)) else (if a0 < 0 then ((spec_l13Dec.f k (wrap64 (-a0))).bind fun t113 => (if 1 + t113.size ≤ 9223372036854775807 then (some ((⟨#[45]⟩ : ByteArray) ++ t113)) else (none))) else (spec_l13Dec.l0 k a0 (⟨#[]⟩ : ByteArray)))
end
def I105_0 (r : ByteArray) (m : Nat) (σ : St) : Prop := ∃ (x0 : Int) (x3 : ByteArray), spec_l13Dec.l0 m x0 x3 = some r ∧ σ = ⟨[(0, .i x0), (3, .v (.string x3))], []⟩
abbrev W105 (r : ByteArray) (w : World) (ro : Nat → Prop) (B : Nat) (p : List Nat) (j : List (St → Prop)) (σ : St) : Prop := Kp (WS TE (cx0 Tryz.f105 none w ro B) (stkAt p j (bodyOf Tryz.f105) []) σ (RetQ TE Tryz.f105 none [.ro (.v (.string r))] [] w ro B))
def S105l0 (k : Nat) : Prop := ∀ r w ro B (_ : Fr TE (cx0 Tryz.f105 none w ro B)) (σ : St) (_ : I105_0 r k σ), W105 r w ro B [1, 1, 1, 1, 0, 0] [] σ
structure C105 (k : Nat) : Prop where
 s_f : ∀ (a0 : Int) (r : ByteArray), spec_l13Dec.f k a0 = some r → Ctr TE 105 none [.i a0] [.ro (.v (.string r))] []
 s_l0 : S105l0 k
theorem c105f (k : Nat) (ih : Kp (∀ m, m < k → C105 m)) (a0 : Int) (r : ByteArray) (h : spec_l13Dec.f k a0 = some r) : Ctr TE 105 none [.i a0] [.ro (.v (.string r))] [] := by
 cases k with
 | zero => simp [spec_l13Dec.f] at h
 | succ k =>
 simp only [spec_l13Dec.f] at h
 refine co Tryz.func105 (by kernel_rfl) (by kernel_rfl) fun w ro B hF => ?_
 rcases ic h with ⟨c1, h⟩ | ⟨c1, h⟩
 · refine pk 9 hF [.t] [] rfl KD ?_
   cases h
   exact rr [.ro] rfl KD
 · rcases ic h with ⟨c2, h⟩ | ⟨c2, h⟩
   · obtain ⟨t113, q3, h⟩ := ib h
     have q3c := ih.a.s_f _ _ q3
     obtain ⟨c4, h⟩ := ig h
     refine pk 14 hF [.f, .t, .e 9 (.i (wrap64 (-a0))), .r [.ro (.v (.string t113))] []] [] rfl KD ?_
     cases h
     exact rr [.ro] rfl KD
   · refine pk 16 hF [.f, .f] [] rfl KD ?_
     exact WS.can [] ((ih.a.s_l0  r w ro B hF _ ⟨a0, (⟨#[]⟩ : ByteArray), h, rfl⟩).out) KD
theorem c105l0 (k : Nat) (ih : Kp (∀ m, m < k → C105 m)) : S105l0 k := by
 intro r w ro B hF
 intro σ h0
 refine ⟨WS.loop (fun m σ => m ≤ k ∧ I105_0 r m σ) k ⟨Nat.le_refl k, h0⟩ (fun m σ' hI J0 hJ0 => ?_)⟩
 clear h0
 obtain ⟨hk, x0, x3, h, rfl⟩ := hI
 cases m with
 | zero => simp [spec_l13Dec.l0] at h
 | succ k' =>
 simp only [spec_l13Dec.l0] at h
 rcases ic h with ⟨c5, h⟩ | ⟨c5, h⟩
 · obtain ⟨y114, hy114, h⟩ := ib h
   cases hy114
   obtain ⟨c6, h⟩ := ig h
   refine pk 10 hF [.t, .e 15 (.i (Int.tmod x0 10)), .e 17 (.v (.int .u8 ((wrap64 (48 + (Int.tmod x0 10))) % 256))), .p 18 ([[.v (.int .u8 ((wrap64 (48 + (Int.tmod x0 10))) % 256))]]), .w (([(wrap64 (48 + (Int.tmod x0 10))) % 256] : List Int)), .e 23 (.i (wrap64 (Int.tdiv x0 10)))] [] rfl KD ?_
   exact WS.lpc [] (hJ0 _ _ (Nat.lt_succ_self _) ⟨by omega, (wrap64 (Int.tdiv x0 10)), ((strOfNums (([(wrap64 (48 + (Int.tmod x0 10))) % 256] : List Int))) ++ x3), h, rfl⟩) KD
 · obtain ⟨y117, hy117, h⟩ := ib h
   cases hy117
   obtain ⟨c7, h⟩ := ig h
   refine pk 8 hF [.f, .e 26 (.v (.int .u8 ((wrap64 (48 + x0)) % 256))), .p 27 ([[.v (.int .u8 ((wrap64 (48 + x0)) % 256))]]), .w (([(wrap64 (48 + x0)) % 256] : List Int))] [] rfl KD ?_
   cases h
   exact rr [.ro] rfl KD
theorem cs105 (k : Nat) : C105 k := by
 induction k using Nat.strongRecOn with
 | _ k ih0 =>
 have ih : Kp (∀ m, m < k → C105 m) := ⟨ih0⟩
 exact ⟨c105f k ih, c105l0 k ih⟩
theorem spec_l13Dec.ctr (k : Nat) (a0 : Int) (r : ByteArray) (h : spec_l13Dec.f k a0 = some r) : Ctr TE 105 none [.i a0] [.ro (.v (.string r))] [] := (cs105 k).s_f a0 r h
mutual
def spec_l1Draw.l0 : Nat → Int → ByteArray → Int → Int → List Int → Int → Option (ByteArray × Int)
  | 0, _, _, _, _, _, _ => none
  | k + 1, x1, x5, x17, x18, x1000, x1001 => if x18 < x17 then (if x18 > 0 then (if x5.size + 1 ≤ 9223372036854775807 then ((spec_l1Draw.f k x1000 x1001 (wrap64 (x1 - 1))).bind fun bt133 => (if x5.size + 1 + bt133.1.size ≤ 9223372036854775807 then (spec_l1Draw.l0 k x1 ((x5 ++ (⟨#[44]⟩ : ByteArray)) ++ bt133.1) x17 (wrap64 (x18 + 1)) x1000 bt133.2) else (none))) else (none)) else ((spec_l1Draw.f k x1000 x1001 (wrap64 (x1 - 1))).bind fun bt135 => (if x5.size + bt135.1.size ≤ 9223372036854775807 then (spec_l1Draw.l0 k x1 (x5 ++ bt135.1) x17 (wrap64 (x18 + 1)) x1000 bt135.2) else (none)))) else (if x5.size + 1 ≤ 9223372036854775807 then (some (x5 ++ (⟨#[93]⟩ : ByteArray), x1001)) else (none))
def spec_l1Draw.f : Nat → List Int → Int → Int → Option (ByteArray × Int)
  | 0, _, _, _ => none
  | k + 1, s0_0, s0_1, a1 => if a1 = 0 then ((spec_l13Rd_pick.f k s0_0 s0_1 9).bind fun bt120 => ((spec_l13Rd_num.f k s0_0 bt120.2 (([1, 0, 2, 3, bt120.1, 5, 10006, 100] : List Int))).bind fun bt125 => ((spec_l13Dec.f k bt125.1).bind fun t127 => (some (t127, bt125.2))))) else ((spec_l13Rd_num.f k s0_0 s0_1 (([2, 0, 1, 3, 4] : List Int))).bind fun bt131 => (spec_l1Draw.l0 k a1 (⟨#[91]⟩ : ByteArray) bt131.1 0 s0_0 bt131.2))
end
def I63_0 (s0_0 : List Int) (s0_1 : Int) (r1 : ByteArray) (r2 : Int) (m : Nat) (σ : St) : Prop := ∃ (x1 : Int) (x5 : ByteArray) (x17 : Int) (x18 : Int) (x1001 : Int), spec_l1Draw.l0 m x1 x5 x17 x18 s0_0 x1001 = some (r1, r2) ∧ σ = ⟨[(0, .pt 0 0 0), (1, .i x1), (5, .v (.string x5)), (17, .i x17), (18, .i x18)], [(0, .box 0 105 true [.sl 1 (rX (cI .u8) s0_0), .i x1001])]⟩
abbrev W63 (s0_0 : List Int) (s0_1 : Int) (r1 : ByteArray) (r2 : Int) (w : World) (ro : Nat → Prop) (B : Nat) (p : List Nat) (j : List (St → Prop)) (σ : St) : Prop := Kp (WS TE (cx0 Tryz.f63 (some (105, [.sl 1 (rX (cI .u8) s0_0), .i s0_1])) w ro B) (stkAt p j (bodyOf Tryz.f63) []) σ (RetQ TE Tryz.f63 (some (105, [.sl 1 (rX (cI .u8) s0_0), .i s0_1])) [.ro (.v (.string r1))] [.sl 1 (rX (cI .u8) s0_0), .i r2] w ro B))
def S63l0 (k : Nat) : Prop := ∀ (s0_0 : List Int) (s0_1 : Int) (r1 : ByteArray) (r2 : Int) (w : World) (ro : Nat → Prop) (B : Nat) (_ : Fr TE (cx0 Tryz.f63 (some (105, [.sl 1 (rX (cI .u8) s0_0), .i s0_1])) w ro B)) (σ : St) (_ : I63_0 s0_0 s0_1 r1 r2 k σ), W63 s0_0 s0_1 r1 r2 w ro B [1, 1, 1, 0, 1, 0] [] σ
structure C63 (k : Nat) : Prop where
 s_f : ∀ (s0_0 : List Int) (s0_1 : Int) (a1 : Int) (r1 : ByteArray) (r2 : Int), spec_l1Draw.f k s0_0 s0_1 a1 = some (r1, r2) → Ctr TE 63 (some (105, [.sl 1 (rX (cI .u8) s0_0), .i s0_1])) [.pt 0 0 0, .i a1] [.ro (.v (.string r1))] [.sl 1 (rX (cI .u8) s0_0), .i r2]
 s_l0 : S63l0 k
theorem c63f (k : Nat) (ih : Kp (∀ m, m < k → C63 m)) (s0_0 : List Int) (s0_1 : Int) (a1 : Int) (r1 : ByteArray) (r2 : Int) (h : spec_l1Draw.f k s0_0 s0_1 a1 = some (r1, r2)) : Ctr TE 63 (some (105, [.sl 1 (rX (cI .u8) s0_0), .i s0_1])) [.pt 0 0 0, .i a1] [.ro (.v (.string r1))] [.sl 1 (rX (cI .u8) s0_0), .i r2] := by
 cases k with
 | zero => simp [spec_l1Draw.f] at h
 | succ k =>
 simp only [spec_l1Draw.f] at h
 refine co Tryz.func63 (by kernel_rfl) (by kernel_rfl) fun w ro B hF => ?_
 rcases ic h with ⟨c1, h⟩ | ⟨c1, h⟩
 · obtain ⟨⟨t120, t121⟩, q2, h⟩ := ib h
   dsimp only at h
   have q2c := spec_l13Rd_pick.ctr k _ _ _ _ _ q2
   obtain ⟨⟨t125, t126⟩, q3, h⟩ := ib h
   dsimp only at h
   have q3c := spec_l13Rd_num.ctr k _ _ _ _ _ q3
   obtain ⟨t127, q4, h⟩ := ib h
   have q4c := spec_l13Dec.ctr k _ _ q4
   refine pk 9 hF [.t, .r [.ro (.i t120)] [.sl 1 (rX (cI .u8) s0_0), .i t121], .p 12 ([[.i 1], [.i 0], [.i 2], [.i 3], [.i t120], [.i 5], [.i 10006], [.i 100]]), .r [.ro (.i t125)] [.sl 1 (rX (cI .u8) s0_0), .i t126], .r [.ro (.v (.string t127))] []] [] rfl KD ?_
   cases h
   exact rr [.ro] rfl KD
 · obtain ⟨⟨t131, t132⟩, q5, h⟩ := ib h
   dsimp only at h
   have q5c := spec_l13Rd_num.ctr k _ _ _ _ _ q5
   refine pk 13 hF [.f, .p 16 ([[.i 2], [.i 0], [.i 1], [.i 3], [.i 4]]), .r [.ro (.i t131)] [.sl 1 (rX (cI .u8) s0_0), .i t132]] [] rfl KD ?_
   exact WS.can [(0, some 0)] ((ih.a.s_l0 s0_0 s0_1 r1 r2 w ro B hF _ ⟨a1, (⟨#[91]⟩ : ByteArray), t131, 0, t132, h, rfl⟩).out) KD
theorem c63l0 (k : Nat) (ih : Kp (∀ m, m < k → C63 m)) : S63l0 k := by
 intro s0_0 s0_1 r1 r2 w ro B hF
 intro σ h0
 refine ⟨WS.loop (fun m σ => m ≤ k ∧ I63_0 s0_0 s0_1 r1 r2 m σ) k ⟨Nat.le_refl k, h0⟩ (fun m σ' hI J0 hJ0 => ?_)⟩
 clear h0
 obtain ⟨hk, x1, x5, x17, x18, x1001, h, rfl⟩ := hI
 cases m with
 | zero => simp [spec_l1Draw.l0] at h
 | succ k' =>
 simp only [spec_l1Draw.l0] at h
 rcases ic h with ⟨c6, h⟩ | ⟨c6, h⟩
 · rcases ic h with ⟨c7, h⟩ | ⟨c7, h⟩
   · obtain ⟨c8, h⟩ := ig h
     obtain ⟨⟨t133, t134⟩, q9, h⟩ := ib h
     dsimp only at h
     have q9c := (ih.out k' (by omega)).s_f _ _ _ _ _ q9
     obtain ⟨c10, h⟩ := ig h
     refine pk 17 hF [.t, .t, .r [.ro (.v (.string t133))] [.sl 1 (rX (cI .u8) s0_0), .i t134]] [] rfl KD ?_
     exact WS.lpc [(0, some 0)] (hJ0 _ _ (Nat.lt_succ_self _) ⟨by omega, x1, ((x5 ++ (⟨#[44]⟩ : ByteArray)) ++ t133), x17, (wrap64 (x18 + 1)), t134, h, rfl⟩) KD
   · obtain ⟨⟨t135, t136⟩, q11, h⟩ := ib h
     dsimp only at h
     have q11c := (ih.out k' (by omega)).s_f _ _ _ _ _ q11
     obtain ⟨c12, h⟩ := ig h
     refine pk 17 hF [.t, .f, .r [.ro (.v (.string t135))] [.sl 1 (rX (cI .u8) s0_0), .i t136]] [] rfl KD ?_
     exact WS.lpc [(0, some 0)] (hJ0 _ _ (Nat.lt_succ_self _) ⟨by omega, x1, (x5 ++ t135), x17, (wrap64 (x18 + 1)), t136, h, rfl⟩) KD
 · obtain ⟨c13, h⟩ := ig h
   refine pk 8 hF [.f] [] rfl KD ?_
   cases h
   exact rr [.ro] rfl KD
theorem cs63 (k : Nat) : C63 k := by
 induction k using Nat.strongRecOn with
 | _ k ih0 =>
 have ih : Kp (∀ m, m < k → C63 m) := ⟨ih0⟩
 exact ⟨c63f k ih, c63l0 k ih⟩
theorem spec_l1Draw.ctr (k : Nat) (s0_0 : List Int) (s0_1 : Int) (a1 : Int) (r1 : ByteArray) (r2 : Int) (h : spec_l1Draw.f k s0_0 s0_1 a1 = some (r1, r2)) : Ctr TE 63 (some (105, [.sl 1 (rX (cI .u8) s0_0), .i s0_1])) [.pt 0 0 0, .i a1] [.ro (.v (.string r1))] [.sl 1 (rX (cI .u8) s0_0), .i r2] := (cs63 k).s_f s0_0 s0_1 a1 r1 r2 h
def spec_l13OwnListListint.l0 : Nat → List (List Int) → List (List Int) → Int → Int → Option ((List (List Int)))
  | 0, _, _, _, _ => none
  | k + 1, x3, x7, x8, x9 => if x9 < x8 then (if 0 ≤ x9 then (if x9 < (x7.length : Int) then ((some (([] : List Int) : List Int)).bind fun y141 => (if y141.length + (rd_L1 x7 x9).length < 17592186044416 then (if x3.length < 5864062014805 then (spec_l13OwnListListint.l0 k (x3 ++ [(y141 ++ (rd_L1 x7 x9))]) x7 x8 (wrap64 (x9 + 1))) else (none)) else (none))) else (none)) else (none)) else (some x3)
def spec_l13OwnListListint.f (k : Nat) (l0 : List (List Int)) : Option ((List (List Int))) := spec_l13OwnListListint.l0 k (([] : List (List Int))) l0 (l0.length : Int) 0
def I123_0 (r : List (List Int)) (m : Nat) (σ : St) : Prop := ∃ (x3 : List (List Int)) (x7 : List (List Int)) (x8 : Int) (x9 : Int), spec_l13OwnListListint.l0 m x3 x7 x8 x9 = some r ∧ σ = ⟨[(3, .ow 1003 0), (7, .sl 1 (rX (cL (cI .i64) 1) x7)), (8, .i x8), (9, .i x9)], [(1003, .own 0 27 1 (rX (cL (cI .i64) 1) x3))]⟩
abbrev W123 (r : List (List Int)) (w : World) (ro : Nat → Prop) (B : Nat) (p : List Nat) (j : List (St → Prop)) (σ : St) : Prop := Kp (WS TE (cx0 Tryz.f123 none w ro B) (stkAt p j (bodyOf Tryz.f123) []) σ (RetQ TE Tryz.f123 none [.own 27 1 (rX (cL (cI .i64) 1) r)] [] w ro B))
def S123l0 (k : Nat) : Prop := ∀ r w ro B (_ : Fr TE (cx0 Tryz.f123 none w ro B)) (σ : St) (_ : I123_0 r k σ), W123 r w ro B [1, 1, 0, 1, 0] [] σ
structure C123 (k : Nat) : Prop where
 s_l0 : S123l0 k
theorem c123l0 (k : Nat) (ih : Kp (∀ m, m < k → C123 m)) : S123l0 k := by
 intro r w ro B hF
 intro σ h0
 refine ⟨WS.loop (fun m σ => m ≤ k ∧ I123_0 r m σ) k ⟨Nat.le_refl k, h0⟩ (fun m σ' hI J0 hJ0 => ?_)⟩
 clear h0
 obtain ⟨hk, x3, x7, x8, x9, h, rfl⟩ := hI
 cases m with
 | zero => simp [spec_l13OwnListListint.l0] at h
 | succ k' =>
 simp only [spec_l13OwnListListint.l0] at h
 rcases ic h with ⟨c1, h⟩ | ⟨c1, h⟩
 · obtain ⟨c2, h⟩ := ig h
   obtain ⟨c3, h⟩ := ig h
   obtain ⟨y141, hy141, h⟩ := ib h
   cases hy141
   obtain ⟨c4, h⟩ := ig h
   obtain ⟨c5, h⟩ := ig h
   refine pk 12 hF [.t, .e 11 (.rf [.sl 1 (rX (cI .i64) (rd_L1 x7 x9))]), .p 14 ([]), .o 16 (rX (cI .i64) ((([] : List Int)) ++ (rd_L1 x7 x9))), .p 17 ([[.sl 1 (rX (cI .i64) ((([] : List Int)) ++ (rd_L1 x7 x9)))]]), .o 18 (rX (cL (cI .i64) 1) (x3 ++ [((([] : List Int)) ++ (rd_L1 x7 x9))]))] [] rfl KD ?_
   exact WS.lpc [(1003, some 1003)] (hJ0 _ _ (Nat.lt_succ_self _) ⟨by omega, (x3 ++ [((([] : List Int)) ++ (rd_L1 x7 x9))]), x7, x8, (wrap64 (x9 + 1)), h, rfl⟩) KD
 · refine pk 8 hF [.f] [] rfl KD ?_
   cases h
   exact rr [.own] rfl KD
theorem cs123 (k : Nat) : C123 k := by
 induction k using Nat.strongRecOn with
 | _ k ih0 =>
 have ih : Kp (∀ m, m < k → C123 m) := ⟨ih0⟩
 exact ⟨c123l0 k ih⟩
theorem spec_l13OwnListListint.ctr (k : Nat) (l0 : List (List Int)) (r : List (List Int)) (h : spec_l13OwnListListint.f k l0 = some r) : Ctr TE 123 none [.sl 1 (rX (cL (cI .i64) 1) l0)] [.own 27 1 (rX (cL (cI .i64) 1) r)] [] := by
 refine co Tryz.func123 (by kernel_rfl) (by kernel_rfl) fun w ro B hF => ?_
 have ih : Kp (∀ m, m < k + 1 → C123 m) := ⟨fun m _ => cs123 m⟩
 simp only [spec_l13OwnListListint.f] at h
 refine pk 8 hF [.p 6 ([]), .e 8 (.i (l0.length : Int))] [] rfl KD ?_
 exact WS.can [(1003, some 6)] ((ih.a.s_l0  r w ro B hF _ ⟨(([] : List (List Int))), l0, (l0.length : Int), 0, h, rfl⟩).out) KD
def spec_l13OwnLayout.f (k : Nat) (l0_0 : List (List Int)) (l0_1 : List Int) : Option ((List (List Int)) × List Int) := (spec_l13OwnListListint.f k l0_0).bind fun t152 => ((some (([] : List Int) : List Int)).bind fun y155 => (if y155.length + l0_1.length < 17592186044416 then (some (t152, (y155 ++ l0_1))) else (none)))
theorem spec_l13OwnLayout.ctr (k : Nat) (l0_0 : List (List Int)) (l0_1 : List Int) (r1 : List (List Int)) (r2 : List Int) (h : spec_l13OwnLayout.f k l0_0 l0_1 = some (r1, r2)) : Ctr TE 81 none [.ag [.sl 1 (rX (cL (cI .i64) 1) l0_0), .sl 1 (rX (cI .i64) l0_1)]] [.ro (.ag [.sl 1 (rX (cL (cI .i64) 1) r1), .sl 1 (rX (cI .i64) r2)])] [] := by
 refine co Tryz.func81 (by kernel_rfl) (by kernel_rfl) fun w ro B hF => ?_
 simp only [spec_l13OwnLayout.f] at h
 obtain ⟨t152, q1, h⟩ := ib h
 have q1c := spec_l13OwnListListint.ctr k _ _ q1
 obtain ⟨y155, hy155, h⟩ := ib h
 cases hy155
 obtain ⟨c2, h⟩ := ig h
 refine pk 9 hF [.r [.own 27 1 (rX (cL (cI .i64) 1) t152)] [], .p 7 ([]), .o 10 (rX (cI .i64) ((([] : List Int)) ++ l0_1))] [] rfl KD ?_
 cases h
 exact rr [.ro] rfl KD
def spec_l13OwnVector.f (k : Nat) (a0_0 : Int) (l0_1 : List (List Int)) (l0_2 : List Int) : Option (Int × (List (List Int)) × List Int) := (spec_l13OwnLayout.f k l0_1 l0_2).bind fun bt163 => (some (a0_0, bt163.1, bt163.2))
theorem spec_l13OwnVector.ctr (k : Nat) (a0_0 : Int) (l0_1 : List (List Int)) (l0_2 : List Int) (r1 : Int) (r2 : List (List Int)) (r3 : List Int) (h : spec_l13OwnVector.f k a0_0 l0_1 l0_2 = some (r1, r2, r3)) : Ctr TE 45 none [.ag [.i a0_0, .sl 1 (rX (cL (cI .i64) 1) l0_1), .sl 1 (rX (cI .i64) l0_2)]] [.ro (.ag [.i r1, .sl 1 (rX (cL (cI .i64) 1) r2), .sl 1 (rX (cI .i64) r3)])] [] := by
 refine co Tryz.func45 (by kernel_rfl) (by kernel_rfl) fun w ro B hF => ?_
 simp only [spec_l13OwnVector.f] at h
 obtain ⟨⟨t163, t166⟩, q1, h⟩ := ib h
 dsimp only at h
 have q1c := spec_l13OwnLayout.ctr k _ _ _ _ q1
 refine pk 7 hF [.r [.ro (.ag [.sl 1 (rX (cL (cI .i64) 1) t163), .sl 1 (rX (cI .i64) t166)])] []] [] rfl KD ?_
 cases h
 exact rr [.ro] rfl KD
def spec_l1In.f (a0 : Int) (a1 : Int) (a2 : Int) : Option (Bool) := if a0 ≥ a1 then (some (decide (a0 ≤ a2))) else (some false)
theorem spec_l1In.ctr (a0 : Int) (a1 : Int) (a2 : Int) (r : Bool) (h : spec_l1In.f a0 a1 a2 = some r) : Ctr TE 109 none [.i a0, .i a1, .i a2] [.ro (.v (.bool r))] [] := by
 refine co Tryz.func109 (by kernel_rfl) (by kernel_rfl) fun w ro B hF => ?_
 simp only [spec_l1In.f] at h
 rcases ic h with ⟨c1, h⟩ | ⟨c1, h⟩
 · refine pk 5 hF [.t, .t, .t, .t] [] rfl KD ?_
   cases h
   exact rr [.ro] rfl KD
 · refine pk 5 hF [.f, .f, .f, .f] [] rfl KD ?_
   cases h
   exact rr [.ro] rfl KD
mutual
def spec_l13Num.j0 : Nat → ByteArray → Bool → Option (Int × Bool)
  | 0, _, _ => none
  | k + 1, x0, x4 => if x4 = true then (if 1 ≤ (x0.size : Int) then (spec_l13Num.j1 k (x0.extract 1 x0.size) x4) else (none)) else (spec_l13Num.j1 k x0 x4)
def spec_l13Num.j1 : Nat → ByteArray → Bool → Option (Int × Bool)
  | 0, _, _ => none
  | k + 1, x0, x4 => if (x0.size : Int) = 0 then (spec_l13Num.j2 k x0 x4 true) else (if (x0.size : Int) > 17 then (spec_l13Num.j2 k x0 x4 true) else (if 0 < (x0.size : Int) then (if (bt x0 0) = 48 then (if (x0.size : Int) > 1 then (spec_l13Num.j2 k x0 x4 true) else (spec_l13Num.j2 k x0 x4 x4)) else (spec_l13Num.j2 k x0 x4 false)) else (none)))
def spec_l13Num.j2 : Nat → ByteArray → Bool → Bool → Option (Int × Bool)
  | 0, _, _, _ => none
  | k + 1, x0, x4, x38 => if x38 = true then (some (0, false)) else (spec_l13Num.l0 k x0 x4 0 0)
def spec_l13Num.l0 : Nat → ByteArray → Bool → Int → Int → Option (Int × Bool)
  | 0, _, _, _, _ => none
  | k + 1, x0, x4, x5, x6 => if x6 < (x0.size : Int) then (if 0 ≤ x6 then (if (bt x0 x6) < 48 then (some (0, false)) else (if (bt x0 x6) > 57 then (some (0, false)) else (spec_l13Num.l0 k x0 x4 (wrap64 ((wrap64 (x5 * 10)) + (((bt x0 x6) - 48) % 256))) (wrap64 (x6 + 1))))) else (none)) else (if x4 = true then (some (wrap64 (-x5), true)) else (some (x5, true)))
end
def spec_l13Num.f (k : Nat) (a0 : ByteArray) : Option (Int × Bool) := if (a0.size : Int) > 0 then (if 0 < (a0.size : Int) then (spec_l13Num.j0 k a0 ((bt a0 0) == 45)) else (none)) else (spec_l13Num.j0 k a0 false)
def I173_0 (r1 : Int) (r2 : Bool) (m : Nat) (σ : St) : Prop := ∃ (x0 : ByteArray) (x4 : Bool) (x5 : Int) (x6 : Int), spec_l13Num.l0 m x0 x4 x5 x6 = some (r1, r2) ∧ σ = ⟨[(0, .v (.string x0)), (4, .v (.bool x4)), (5, .i x5), (6, .i x6)], []⟩
abbrev W173 (r1 : Int) (r2 : Bool) (w : World) (ro : Nat → Prop) (B : Nat) (p : List Nat) (j : List (St → Prop)) (σ : St) : Prop := Kp (WS TE (cx0 Tryz.f173 none w ro B) (stkAt p j (bodyOf Tryz.f173) []) σ (RetQ TE Tryz.f173 none [.ro (.i r1), .ro (.v (.bool r2))] [] w ro B))
def S173j0 (k : Nat) : Prop := ∀ r1 r2 w ro B (_ : Fr TE (cx0 Tryz.f173 none w ro B)) x0 x4 (_ : spec_l13Num.j0 k x0 x4 = some (r1, r2)), W173 r1 r2 w ro B [1, 0, 9] [] ⟨[(0, .v (.string x0)), (4, .v (.bool x4))], []⟩
def S173j1 (k : Nat) : Prop := ∀ r1 r2 w ro B (_ : Fr TE (cx0 Tryz.f173 none w ro B)) x0 x4 (_ : spec_l13Num.j1 k x0 x4 = some (r1, r2)), W173 r1 r2 w ro B [1, 1, 0, 1, 9] [] ⟨[(0, .v (.string x0)), (4, .v (.bool x4))], []⟩
def S173j2 (k : Nat) : Prop := ∀ r1 r2 w ro B (_ : Fr TE (cx0 Tryz.f173 none w ro B)) x0 x4 x38 (_ : spec_l13Num.j2 k x0 x4 x38 = some (r1, r2)), W173 r1 r2 w ro B [1, 1, 1, 0, 0, 9] [] ⟨[(0, .v (.string x0)), (4, .v (.bool x4)), (38, .v (.bool x38))], []⟩
def S173l0 (k : Nat) : Prop := ∀ r1 r2 w ro B (_ : Fr TE (cx0 Tryz.f173 none w ro B)) (σ : St) (_ : I173_0 r1 r2 k σ), W173 r1 r2 w ro B [1, 1, 1, 1, 1, 0, 1, 0] [] σ
structure C173 (k : Nat) : Prop where
 s_j0 : S173j0 k
 s_j1 : S173j1 k
 s_j2 : S173j2 k
 s_l0 : S173l0 k
theorem c173j0 (k : Nat) (ih : Kp (∀ m, m < k → C173 m)) : S173j0 k := by
 intro r1 r2 w ro B hF
 intro x0 x4 h
 refine ⟨?_⟩
 cases k with
 | zero => simp [spec_l13Num.j0] at h
 | succ k =>
 simp only [spec_l13Num.j0] at h
 rcases ic h with ⟨c3, h⟩ | ⟨c3, h⟩
 · obtain ⟨c4, h⟩ := ig h
   refine pk 5 hF [.t] [] rfl KD ?_
   exact WS.can [] ((ih.a.s_j1  r1 r2 w ro B hF (x0.extract 1 x0.size) x4 h).out) KD
 · refine pk 5 hF [.f] [] rfl KD ?_
   exact WS.can [] ((ih.a.s_j1  r1 r2 w ro B hF x0 x4 h).out) KD
theorem c173j1 (k : Nat) (ih : Kp (∀ m, m < k → C173 m)) : S173j1 k := by
 intro r1 r2 w ro B hF
 intro x0 x4 h
 refine ⟨?_⟩
 cases k with
 | zero => simp [spec_l13Num.j1] at h
 | succ k =>
 simp only [spec_l13Num.j1] at h
 rcases ic h with ⟨c5, h⟩ | ⟨c5, h⟩
 · refine pk 3 hF [.t, .t, .t, .t, .t, .t, .t, .t, .t, .t] [] rfl KD ?_
   exact WS.can [] ((ih.a.s_j2  r1 r2 w ro B hF x0 x4 true h).out) KD
 · rcases ic h with ⟨c6, h⟩ | ⟨c6, h⟩
   · refine pk 3 hF [.f, .f, .f, .f, .t, .t, .t, .t, .t, .t] [] rfl KD ?_
     exact WS.can [] ((ih.a.s_j2  r1 r2 w ro B hF x0 x4 true h).out) KD
   · obtain ⟨c7, h⟩ := ig h
     rcases ic h with ⟨c8, h⟩ | ⟨c8, h⟩
     · rcases ic h with ⟨c9, h⟩ | ⟨c9, h⟩
       · refine pk 3 hF [.f, .f, .f, .f, .f, .f, .f, .f, .t, .t, .t, .t, .t, .t, .t, .f, .t, .f] [] rfl KD ?_
         exact WS.can [] ((ih.a.s_j2  r1 r2 w ro B hF x0 x4 true h).out) KD
       · refine pk 3 hF [.f, .f, .f, .f, .f, .f, .f, .f, .t, .t, .t, .t, .f, .t, .f, .f, .t, .f] [] rfl KD ?_
         exact WS.can [] ((ih.a.s_j2  r1 r2 w ro B hF x0 x4 x4 h).out) KD
     · refine pk 3 hF [.f, .f, .f, .f, .f, .f, .f, .f, .f, .f, .f, .f, .f, .f, .f, .f] [] rfl KD ?_
       exact WS.can [] ((ih.a.s_j2  r1 r2 w ro B hF x0 x4 false h).out) KD
theorem c173j2 (k : Nat) (ih : Kp (∀ m, m < k → C173 m)) : S173j2 k := by
 intro r1 r2 w ro B hF
 intro x0 x4 x38 h
 refine ⟨?_⟩
 cases k with
 | zero => simp [spec_l13Num.j2] at h
 | succ k =>
 simp only [spec_l13Num.j2] at h
 rcases ic h with ⟨c10, h⟩ | ⟨c10, h⟩
 · refine pk 4 hF [.t] [] rfl KD ?_
   cases h
   exact rr [.ro, .ro] rfl KD
 · refine pk 8 hF [.f] [] rfl KD ?_
   exact WS.can [] ((ih.a.s_l0  r1 r2 w ro B hF _ ⟨x0, x4, 0, 0, h, rfl⟩).out) KD
theorem c173l0 (k : Nat) (ih : Kp (∀ m, m < k → C173 m)) : S173l0 k := by
 intro r1 r2 w ro B hF
 intro σ h0
 refine ⟨WS.loop (fun m σ => m ≤ k ∧ I173_0 r1 r2 m σ) k ⟨Nat.le_refl k, h0⟩ (fun m σ' hI J0 hJ0 => ?_)⟩
 clear h0
 obtain ⟨hk, x0, x4, x5, x6, h, rfl⟩ := hI
 cases m with
 | zero => simp [spec_l13Num.l0] at h
 | succ k' =>
 simp only [spec_l13Num.l0] at h
 rcases ic h with ⟨c11, h⟩ | ⟨c11, h⟩
 · obtain ⟨c12, h⟩ := ig h
   rcases ic h with ⟨c13, h⟩ | ⟨c13, h⟩
   · refine pk 14 hF [.t, .t, .t, .t, .t, .t, .t] [] rfl KD ?_
     cases h
     exact rr [.ro, .ro] rfl KD
   · rcases ic h with ⟨c14, h⟩ | ⟨c14, h⟩
     · refine pk 14 hF [.t, .f, .f, .f, .f, .f, .t] [] rfl KD ?_
       cases h
       exact rr [.ro, .ro] rfl KD
     · have hb14 := bt_range x0 x6
       refine pk 15 hF [.t, .f, .f, .f, .f, .f, .f, .e 60 (.v (.int .u8 (((bt x0 x6) - 48) % 256))), .e 61 (.i (((bt x0 x6) - 48) % 256))] [] rfl KD ?_
       exact WS.lpc [] (hJ0 _ _ (Nat.lt_succ_self _) ⟨by omega, x0, x4, (wrap64 ((wrap64 (x5 * 10)) + (((bt x0 x6) - 48) % 256))), (wrap64 (x6 + 1)), h, rfl⟩) KD
 · rcases ic h with ⟨c16, h⟩ | ⟨c16, h⟩
   · refine pk 13 hF [.f, .t, .e 65 (.i (wrap64 (-x5)))] [] rfl KD ?_
     cases h
     exact rr [.ro, .ro] rfl KD
   · refine pk 13 hF [.f, .f] [] rfl KD ?_
     cases h
     exact rr [.ro, .ro] rfl KD
theorem cs173 (k : Nat) : C173 k := by
 induction k using Nat.strongRecOn with
 | _ k ih0 =>
 have ih : Kp (∀ m, m < k → C173 m) := ⟨ih0⟩
 exact ⟨c173j0 k ih, c173j1 k ih, c173j2 k ih, c173l0 k ih⟩
theorem spec_l13Num.ctr (k : Nat) (a0 : ByteArray) (r1 : Int) (r2 : Bool) (h : spec_l13Num.f k a0 = some (r1, r2)) : Ctr TE 173 none [.v (.string a0)] [.ro (.i r1), .ro (.v (.bool r2))] [] := by
 refine co Tryz.func173 (by kernel_rfl) (by kernel_rfl) fun w ro B hF => ?_
 have ih : Kp (∀ m, m < k + 1 → C173 m) := ⟨fun m _ => cs173 m⟩
 simp only [spec_l13Num.f] at h
 rcases ic h with ⟨c1, h⟩ | ⟨c1, h⟩
 · obtain ⟨c2, h⟩ := ig h
   refine pk 4 hF [.t, .t, .t, .t] [] rfl KD ?_
   exact WS.can [] ((ih.a.s_j0  r1 r2 w ro B hF a0 ((bt a0 0) == 45) h).out) KD
 · refine pk 4 hF [.f, .f, .f, .f] [] rfl KD ?_
   exact WS.can [] ((ih.a.s_j0  r1 r2 w ro B hF a0 false h).out) KD
end Go.Proofs.YtjkngiciigdheaaGreatDoor.K
