/- A part of the claim. -/
import Derived.Test.YtjkngiciigdheaaGreatDoorKFx0
import Derived.Test.YtjkngiciigdheaaGreatDoorKFx1
import Derived.Test.YtjkngiciigdheaaGreatDoorKFSgm
namespace Go.Proofs.YtjkngiciigdheaaGreatDoor.K
open Go.RowKit Go.Proofs.YtjkngiciigdheaaGreatDoorW.St Go.Proofs.YtjkngiciigdheaaGreatDoorW.PrintWords Go.Proofs.YtjkngiciigdheaaGreatDoorW.PrintLast Go.Proofs.YtjkngiciigdheaaGreatDoorW.PrintMore
set_option linter.unusedVariables false
set_option linter.unusedSimpArgs false
set_option maxRecDepth 100000
set_option maxHeartbeats 4000000
def spec_l1Reader_number.l0 : Nat → Int → ByteArray → Int → Bool → Option (Int × ByteArray × Int × Bool)
  | 0, _, _, _, _ => none
  | k + 1, x3, x1000, x1001, x1002 => if x1001 < (x1000.size : Int) then (if 0 ≤ x1001 then ((spec_l1In.f (wrap64 (bt x1000 x1001)) 48 57).bind fun t169 => (if t169 = true then (if x1001 < (wrap64 (x3 + 6)) then (spec_l1Reader_number.l0 k x3 x1000 (wrap64 (x1001 + 1)) x1002) else (if 0 ≤ x3 then (if x3 ≤ x1001 then (if x1001 ≤ (x1000.size : Int) then ((spec_l13Num.f k (x1000.extract (x3 : Int).toNat (x1001 : Int).toNat)).bind fun bt170 => (if x1002 = true then (some (bt170.1, x1000, x1001, true)) else (if bt170.2 = true then ((spec_l1In.f bt170.1 0 10006).bind fun t172 => (some (bt170.1, x1000, x1001, !t172))) else (some (bt170.1, x1000, x1001, true))))) else (none)) else (none)) else (none))) else (if 0 ≤ x3 then (if x3 ≤ x1001 then (if x1001 ≤ (x1000.size : Int) then ((spec_l13Num.f k (x1000.extract (x3 : Int).toNat (x1001 : Int).toNat)).bind fun bt173 => (if x1002 = true then (some (bt173.1, x1000, x1001, true)) else (if bt173.2 = true then ((spec_l1In.f bt173.1 0 10006).bind fun t175 => (some (bt173.1, x1000, x1001, !t175))) else (some (bt173.1, x1000, x1001, true))))) else (none)) else (none)) else (none)))) else (none)) else (if 0 ≤ x3 then (if x3 ≤ x1001 then (if x1001 ≤ (x1000.size : Int) then ((spec_l13Num.f k (x1000.extract (x3 : Int).toNat (x1001 : Int).toNat)).bind fun bt176 => (if x1002 = true then (some (bt176.1, x1000, x1001, true)) else (if bt176.2 = true then ((spec_l1In.f bt176.1 0 10006).bind fun t178 => (some (bt176.1, x1000, x1001, !t178))) else (some (bt176.1, x1000, x1001, true))))) else (none)) else (none)) else (none))
def spec_l1Reader_number.f (k : Nat) (s0_0 : ByteArray) (s0_1 : Int) (s0_2 : Bool) : Option (Int × ByteArray × Int × Bool) := spec_l1Reader_number.l0 k s0_1 s0_0 s0_1 s0_2
def I155_0 (s0_0 : ByteArray) (s0_1 : Int) (s0_2 : Bool) (r1 : Int) (r2 : ByteArray) (r3 : Int) (r4 : Bool) (m : Nat) (σ : St) : Prop := ∃ (x3 : Int) (x1000 : ByteArray) (x1001 : Int) (x1002 : Bool), spec_l1Reader_number.l0 m x3 x1000 x1001 x1002 = some (r1, r2, r3, r4) ∧ σ = ⟨[(0, .pt 0 0 0), (3, .i x3)], [(0, .box 0 180 true [.v (.string x1000), .i x1001, .v (.bool x1002)])]⟩
abbrev W155 (s0_0 : ByteArray) (s0_1 : Int) (s0_2 : Bool) (r1 : Int) (r2 : ByteArray) (r3 : Int) (r4 : Bool) (w : World) (ro : Nat → Prop) (B : Nat) (p : List Nat) (j : List (St → Prop)) (σ : St) : Prop := Kp (WS TE (cx0 Tryz.f155 (some (180, [.v (.string s0_0), .i s0_1, .v (.bool s0_2)])) w ro B) (stkAt p j (bodyOf Tryz.f155) []) σ (RetQ TE Tryz.f155 (some (180, [.v (.string s0_0), .i s0_1, .v (.bool s0_2)])) [.ro (.i r1)] [.v (.string r2), .i r3, .v (.bool r4)] w ro B))
def S155l0 (k : Nat) : Prop := ∀ (s0_0 : ByteArray) (s0_1 : Int) (s0_2 : Bool) (r1 : Int) (r2 : ByteArray) (r3 : Int) (r4 : Bool) (w : World) (ro : Nat → Prop) (B : Nat) (_ : Fr TE (cx0 Tryz.f155 (some (180, [.v (.string s0_0), .i s0_1, .v (.bool s0_2)])) w ro B)) (σ : St) (_ : I155_0 s0_0 s0_1 s0_2 r1 r2 r3 r4 k σ), W155 s0_0 s0_1 s0_2 r1 r2 r3 r4 w ro B [1, 1, 0, 0] [] σ
structure C155 (k : Nat) : Prop where
 s_l0 : S155l0 k
theorem c155l0 (k : Nat) (ih : Kp (∀ m, m < k → C155 m)) : S155l0 k := by
 intro s0_0 s0_1 s0_2 r1 r2 r3 r4 w ro B hF
 intro σ h0
 refine ⟨WS.loop (fun m σ => m ≤ k ∧ I155_0 s0_0 s0_1 s0_2 r1 r2 r3 r4 m σ) k ⟨Nat.le_refl k, h0⟩ (fun m σ' hI J0 hJ0 => ?_)⟩
 clear h0
 obtain ⟨hk, x3, x1000, x1001, x1002, h, rfl⟩ := hI
 cases m with
 | zero => simp [spec_l1Reader_number.l0] at h
 | succ k' =>
 simp only [spec_l1Reader_number.l0] at h
 rcases ic h with ⟨c1, h⟩ | ⟨c1, h⟩
 · obtain ⟨c2, h⟩ := ig h
   obtain ⟨t169, q3, h⟩ := ib h
   have q3c := spec_l1In.ctr _ _ _ _ q3
   rcases ic h with ⟨c4, h⟩ | ⟨c4, h⟩
   · rcases ic h with ⟨c5, h⟩ | ⟨c5, h⟩
     · have hb5 := bt_range x1000 x1001
       refine pk 8 hF [.t, .t, .t, .t, .t, .t, .t, .t, .t, .t, .e 30 (.i (wrap64 (bt x1000 x1001))), .t, .r [.ro (.v (.bool t169))] [], .t, .t, .t, .t, .t, .t, .t, .t, .t, .t] [.o [(0, 0), (1, 0), (2, 0), (3, 1), (4, 0), (5, 0), (6, 0), (7, 1), (8, 0), (9, 0), (10, 0), (11, 0), (12, 0), (13, 0), (14, 1), (15, 0), (16, 0), (17, 0), (18, 1), (19, 0), (20, 0), (21, 2), (22, 0), (23, 0), (24, 0), (25, 0), (26, 0), (28, 0), (29, 0), (27, 2), (30, 0), (31, 0)] []] rfl KD ?_
       exact WS.lpc [(0, some 0)] (hJ0 _ _ (Nat.lt_succ_self _) ⟨by omega, x3, x1000, (wrap64 (x1001 + 1)), x1002, h, rfl⟩) KD
     · obtain ⟨c7, h⟩ := ig h
       obtain ⟨c8, h⟩ := ig h
       obtain ⟨c9, h⟩ := ig h
       obtain ⟨⟨t170, t171⟩, q10, h⟩ := ib h
       dsimp only at h
       have q10c := spec_l13Num.ctr k' _ _ _ q10
       rcases ic h with ⟨c11, h⟩ | ⟨c11, h⟩
       · have hb11 := bt_range x1000 x1001
         refine pk 12 hF [.t, .t, .t, .t, .t, .t, .t, .t, .t, .t, .e 30 (.i (wrap64 (bt x1000 x1001))), .t, .r [.ro (.v (.bool t169))] [], .t, .t, .t, .t, .t, .t, .t, .t, .t, .f, .r [.ro (.i t170), .ro (.v (.bool t171))] [], .t, .t, .t, .t, .t, .t, .t] [.o [(0, 0), (1, 0), (2, 0), (3, 1), (4, 0), (5, 0), (6, 0), (7, 1), (8, 0), (9, 0), (10, 0), (11, 0), (12, 0), (13, 0), (14, 1), (15, 0), (16, 0), (17, 0), (18, 1), (19, 0), (20, 0), (21, 2), (22, 0), (23, 0), (24, 0), (25, 0), (26, 0), (28, 0), (29, 0), (27, 2), (30, 0), (31, 0)] [], .o [(0, 0), (1, 0), (2, 0), (3, 1), (4, 0), (5, 0), (6, 0), (7, 0), (8, 1), (9, 0), (10, 2), (11, 0), (12, 0), (13, 0), (14, 0), (15, 0)] []] rfl KD ?_
         cases h
         exact rr [.ro] rfl KD
       · rcases ic h with ⟨c13, h⟩ | ⟨c13, h⟩
         · obtain ⟨t172, q14, h⟩ := ib h
           have q14c := spec_l1In.ctr _ _ _ _ q14
           have hb14 := bt_range x1000 x1001
           refine pk 12 hF [.t, .t, .t, .t, .t, .t, .t, .t, .t, .t, .e 30 (.i (wrap64 (bt x1000 x1001))), .t, .r [.ro (.v (.bool t169))] [], .t, .t, .t, .t, .t, .t, .t, .t, .t, .f, .r [.ro (.i t170), .ro (.v (.bool t171))] [], .f, .f, .f, .f, .f, .r [.ro (.v (.bool t172))] [], .f, .f] [.o [(0, 0), (1, 0), (2, 0), (3, 1), (4, 0), (5, 0), (6, 0), (7, 1), (8, 0), (9, 0), (10, 0), (11, 0), (12, 0), (13, 0), (14, 1), (15, 0), (16, 0), (17, 0), (18, 1), (19, 0), (20, 0), (21, 2), (22, 0), (23, 0), (24, 0), (25, 0), (26, 0), (28, 0), (29, 0), (27, 2), (30, 0), (31, 0)] [], .o [(0, 0), (1, 0), (2, 0), (3, 1), (4, 0), (5, 0), (6, 0), (7, 0), (8, 1), (9, 0), (10, 2), (11, 0), (12, 0), (13, 0), (14, 0), (15, 0)] []] rfl KD ?_
           cases h
           exact rr [.ro] rfl KD
         · have hb15 := bt_range x1000 x1001
           refine pk 12 hF [.t, .t, .t, .t, .t, .t, .t, .t, .t, .t, .e 30 (.i (wrap64 (bt x1000 x1001))), .t, .r [.ro (.v (.bool t169))] [], .t, .t, .t, .t, .t, .t, .t, .t, .t, .f, .r [.ro (.i t170), .ro (.v (.bool t171))] [], .f, .f, .f, .t, .t, .t, .t] [.o [(0, 0), (1, 0), (2, 0), (3, 1), (4, 0), (5, 0), (6, 0), (7, 1), (8, 0), (9, 0), (10, 0), (11, 0), (12, 0), (13, 0), (14, 1), (15, 0), (16, 0), (17, 0), (18, 1), (19, 0), (20, 0), (21, 2), (22, 0), (23, 0), (24, 0), (25, 0), (26, 0), (28, 0), (29, 0), (27, 2), (30, 0), (31, 0)] [], .o [(0, 0), (1, 0), (2, 0), (3, 1), (4, 0), (5, 0), (6, 0), (7, 0), (8, 1), (9, 0), (10, 2), (11, 0), (12, 0), (13, 0), (14, 0), (15, 0)] []] rfl KD ?_
           cases h
           exact rr [.ro] rfl KD
   · obtain ⟨c17, h⟩ := ig h
     obtain ⟨c18, h⟩ := ig h
     obtain ⟨c19, h⟩ := ig h
     obtain ⟨⟨t173, t174⟩, q20, h⟩ := ib h
     dsimp only at h
     have q20c := spec_l13Num.ctr k' _ _ _ q20
     rcases ic h with ⟨c21, h⟩ | ⟨c21, h⟩
     · have hb21 := bt_range x1000 x1001
       refine pk 12 hF [.t, .t, .t, .t, .t, .t, .t, .t, .t, .t, .e 30 (.i (wrap64 (bt x1000 x1001))), .t, .r [.ro (.v (.bool t169))] [], .t, .f, .f, .f, .f, .f, .f, .f, .f, .f, .r [.ro (.i t173), .ro (.v (.bool t174))] [], .t, .t, .t, .t, .t, .t, .t] [.o [(0, 0), (1, 0), (2, 0), (3, 1), (4, 0), (5, 0), (6, 0), (7, 1), (8, 0), (9, 0), (10, 0), (11, 0), (12, 0), (13, 0), (14, 1), (15, 0), (16, 0), (17, 0), (18, 1), (19, 0), (20, 0), (21, 2), (22, 0), (23, 0), (24, 0), (25, 0), (26, 0), (28, 0), (29, 0), (27, 2), (30, 0), (31, 0)] [], .o [(0, 0), (1, 0), (2, 0), (3, 1), (4, 0), (5, 0), (6, 0), (7, 0), (8, 1), (9, 0), (10, 2), (11, 0), (12, 0), (13, 0), (14, 0), (15, 0)] []] rfl KD ?_
       cases h
       exact rr [.ro] rfl KD
     · rcases ic h with ⟨c23, h⟩ | ⟨c23, h⟩
       · obtain ⟨t175, q24, h⟩ := ib h
         have q24c := spec_l1In.ctr _ _ _ _ q24
         have hb24 := bt_range x1000 x1001
         refine pk 12 hF [.t, .t, .t, .t, .t, .t, .t, .t, .t, .t, .e 30 (.i (wrap64 (bt x1000 x1001))), .t, .r [.ro (.v (.bool t169))] [], .t, .f, .f, .f, .f, .f, .f, .f, .f, .f, .r [.ro (.i t173), .ro (.v (.bool t174))] [], .f, .f, .f, .f, .f, .r [.ro (.v (.bool t175))] [], .f, .f] [.o [(0, 0), (1, 0), (2, 0), (3, 1), (4, 0), (5, 0), (6, 0), (7, 1), (8, 0), (9, 0), (10, 0), (11, 0), (12, 0), (13, 0), (14, 1), (15, 0), (16, 0), (17, 0), (18, 1), (19, 0), (20, 0), (21, 2), (22, 0), (23, 0), (24, 0), (25, 0), (26, 0), (28, 0), (29, 0), (27, 2), (30, 0), (31, 0)] [], .o [(0, 0), (1, 0), (2, 0), (3, 1), (4, 0), (5, 0), (6, 0), (7, 0), (8, 1), (9, 0), (10, 2), (11, 0), (12, 0), (13, 0), (14, 0), (15, 0)] []] rfl KD ?_
         cases h
         exact rr [.ro] rfl KD
       · have hb25 := bt_range x1000 x1001
         refine pk 12 hF [.t, .t, .t, .t, .t, .t, .t, .t, .t, .t, .e 30 (.i (wrap64 (bt x1000 x1001))), .t, .r [.ro (.v (.bool t169))] [], .t, .f, .f, .f, .f, .f, .f, .f, .f, .f, .r [.ro (.i t173), .ro (.v (.bool t174))] [], .f, .f, .f, .t, .t, .t, .t] [.o [(0, 0), (1, 0), (2, 0), (3, 1), (4, 0), (5, 0), (6, 0), (7, 1), (8, 0), (9, 0), (10, 0), (11, 0), (12, 0), (13, 0), (14, 1), (15, 0), (16, 0), (17, 0), (18, 1), (19, 0), (20, 0), (21, 2), (22, 0), (23, 0), (24, 0), (25, 0), (26, 0), (28, 0), (29, 0), (27, 2), (30, 0), (31, 0)] [], .o [(0, 0), (1, 0), (2, 0), (3, 1), (4, 0), (5, 0), (6, 0), (7, 0), (8, 1), (9, 0), (10, 2), (11, 0), (12, 0), (13, 0), (14, 0), (15, 0)] []] rfl KD ?_
         cases h
         exact rr [.ro] rfl KD
 · obtain ⟨c27, h⟩ := ig h
   obtain ⟨c28, h⟩ := ig h
   obtain ⟨c29, h⟩ := ig h
   obtain ⟨⟨t176, t177⟩, q30, h⟩ := ib h
   dsimp only at h
   have q30c := spec_l13Num.ctr k' _ _ _ q30
   rcases ic h with ⟨c31, h⟩ | ⟨c31, h⟩
   · refine pk 12 hF [.f, .f, .f, .f, .f, .f, .f, .f, .f, .f, .f, .f, .f, .f, .f, .f, .f, .f, .f, .f, .f, .r [.ro (.i t176), .ro (.v (.bool t177))] [], .t, .t, .t, .t, .t, .t, .t] [.o [(0, 0), (1, 0), (2, 0), (3, 1), (4, 0), (5, 0), (6, 0), (7, 1), (8, 0), (9, 0), (10, 0), (11, 0), (12, 0), (13, 0), (14, 1), (15, 0), (16, 0), (17, 0), (18, 1), (19, 0), (20, 0), (21, 2), (22, 0), (23, 0), (24, 0), (25, 0), (26, 0), (28, 0), (29, 0), (27, 2), (30, 0), (31, 0)] [], .o [(0, 0), (1, 0), (2, 0), (3, 1), (4, 0), (5, 0), (6, 0), (7, 0), (8, 1), (9, 0), (10, 2), (11, 0), (12, 0), (13, 0), (14, 0), (15, 0)] []] rfl KD ?_
     cases h
     exact rr [.ro] rfl KD
   · rcases ic h with ⟨c32, h⟩ | ⟨c32, h⟩
     · obtain ⟨t178, q33, h⟩ := ib h
       have q33c := spec_l1In.ctr _ _ _ _ q33
       refine pk 12 hF [.f, .f, .f, .f, .f, .f, .f, .f, .f, .f, .f, .f, .f, .f, .f, .f, .f, .f, .f, .f, .f, .r [.ro (.i t176), .ro (.v (.bool t177))] [], .f, .f, .f, .f, .f, .r [.ro (.v (.bool t178))] [], .f, .f] [.o [(0, 0), (1, 0), (2, 0), (3, 1), (4, 0), (5, 0), (6, 0), (7, 1), (8, 0), (9, 0), (10, 0), (11, 0), (12, 0), (13, 0), (14, 1), (15, 0), (16, 0), (17, 0), (18, 1), (19, 0), (20, 0), (21, 2), (22, 0), (23, 0), (24, 0), (25, 0), (26, 0), (28, 0), (29, 0), (27, 2), (30, 0), (31, 0)] [], .o [(0, 0), (1, 0), (2, 0), (3, 1), (4, 0), (5, 0), (6, 0), (7, 0), (8, 1), (9, 0), (10, 2), (11, 0), (12, 0), (13, 0), (14, 0), (15, 0)] []] rfl KD ?_
       cases h
       exact rr [.ro] rfl KD
     · refine pk 12 hF [.f, .f, .f, .f, .f, .f, .f, .f, .f, .f, .f, .f, .f, .f, .f, .f, .f, .f, .f, .f, .f, .r [.ro (.i t176), .ro (.v (.bool t177))] [], .f, .f, .f, .t, .t, .t, .t] [.o [(0, 0), (1, 0), (2, 0), (3, 1), (4, 0), (5, 0), (6, 0), (7, 1), (8, 0), (9, 0), (10, 0), (11, 0), (12, 0), (13, 0), (14, 1), (15, 0), (16, 0), (17, 0), (18, 1), (19, 0), (20, 0), (21, 2), (22, 0), (23, 0), (24, 0), (25, 0), (26, 0), (28, 0), (29, 0), (27, 2), (30, 0), (31, 0)] [], .o [(0, 0), (1, 0), (2, 0), (3, 1), (4, 0), (5, 0), (6, 0), (7, 0), (8, 1), (9, 0), (10, 2), (11, 0), (12, 0), (13, 0), (14, 0), (15, 0)] []] rfl KD ?_
       cases h
       exact rr [.ro] rfl KD
theorem cs155 (k : Nat) : C155 k := by
 induction k using Nat.strongRecOn with
 | _ k ih0 =>
 have ih : Kp (∀ m, m < k → C155 m) := ⟨ih0⟩
 exact ⟨c155l0 k ih⟩
theorem spec_l1Reader_number.ctr (k : Nat) (s0_0 : ByteArray) (s0_1 : Int) (s0_2 : Bool) (r1 : Int) (r2 : ByteArray) (r3 : Int) (r4 : Bool) (h : spec_l1Reader_number.f k s0_0 s0_1 s0_2 = some (r1, r2, r3, r4)) : Ctr TE 155 (some (180, [.v (.string s0_0), .i s0_1, .v (.bool s0_2)])) [.pt 0 0 0] [.ro (.i r1)] [.v (.string r2), .i r3, .v (.bool r4)] := by
 refine co Tryz.func155 (by kernel_rfl) (by kernel_rfl) fun w ro B hF => ?_
 have ih : Kp (∀ m, m < k + 1 → C155 m) := ⟨fun m _ => cs155 m⟩
 simp only [spec_l1Reader_number.f] at h
 refine pk 6 hF [] [] rfl KD ?_
 exact WS.can [(0, some 0)] ((ih.a.s_l0 s0_0 s0_1 s0_2 r1 r2 r3 r4 w ro B hF _ ⟨s0_1, s0_0, s0_1, s0_2, h, rfl⟩).out) KD
def spec_l1Reader_is.f (s0_0 : ByteArray) (s0_1 : Int) (s0_2 : Bool) (a1 : Int) : Option (Bool × ByteArray × Int × Bool) := if s0_1 < (s0_0.size : Int) then (if 0 ≤ s0_1 then (if (bt s0_0 s0_1) = a1 then (some (true, s0_0, wrap64 (s0_1 + 1), s0_2)) else (some (false, s0_0, s0_1, s0_2))) else (none)) else (some (false, s0_0, s0_1, s0_2))
theorem spec_l1Reader_is.ctr (s0_0 : ByteArray) (s0_1 : Int) (s0_2 : Bool) (a1 : Int) (r1 : Bool) (r2 : ByteArray) (r3 : Int) (r4 : Bool) (h : spec_l1Reader_is.f s0_0 s0_1 s0_2 a1 = some (r1, r2, r3, r4)) : Ctr TE 156 (some (180, [.v (.string s0_0), .i s0_1, .v (.bool s0_2)])) [.pt 0 0 0, .v (.int .u8 a1)] [.ro (.v (.bool r1))] [.v (.string r2), .i r3, .v (.bool r4)] := by
 refine co Tryz.func156 (by kernel_rfl) (by kernel_rfl) fun w ro B hF => ?_
 simp only [spec_l1Reader_is.f] at h
 rcases ic h with ⟨c1, h⟩ | ⟨c1, h⟩
 · obtain ⟨c2, h⟩ := ig h
   rcases ic h with ⟨c3, h⟩ | ⟨c3, h⟩
   · refine pk 11 hF [.t, .t, .t, .t, .t, .t, .t, .t, .t, .t, .t, .t, .t] [.o [(0, 0), (1, 0), (2, 0), (3, 1), (4, 0), (5, 0), (6, 0), (7, 1), (8, 0), (9, 0), (10, 0), (11, 0), (12, 0), (13, 0), (14, 1), (15, 0), (16, 0), (17, 0), (18, 1), (19, 0), (20, 0), (21, 0), (22, 0)] []] rfl KD ?_
     cases h
     exact rr [.ro] rfl KD
   · refine pk 10 hF [.t, .t, .t, .t, .t, .t, .t, .t, .t, .t, .t, .t, .f] [.o [(0, 0), (1, 0), (2, 0), (3, 1), (4, 0), (5, 0), (6, 0), (7, 1), (8, 0), (9, 0), (10, 0), (11, 0), (12, 0), (13, 0), (14, 1), (15, 0), (16, 0), (17, 0), (18, 1), (19, 0), (20, 0), (21, 0), (22, 0)] []] rfl KD ?_
     cases h
     exact rr [.ro] rfl KD
 · refine pk 10 hF [.f, .f, .f, .f, .f, .f, .f, .f, .f, .f, .f, .f, .f] [.o [(0, 0), (1, 0), (2, 0), (3, 1), (4, 0), (5, 0), (6, 0), (7, 1), (8, 0), (9, 0), (10, 0), (11, 0), (12, 0), (13, 0), (14, 1), (15, 0), (16, 0), (17, 0), (18, 1), (19, 0), (20, 0), (21, 0), (22, 0)] []] rfl KD ?_
   cases h
   exact rr [.ro] rfl KD
mutual
def spec_l1Reader_node.l0 : Nat → Int → ByteArray → Int → Bool → Int → List (S86) → Option (Int × (List (S86)) × ByteArray × Int × Bool)
  | 0, _, _, _, _, _, _ => none
  | k + 1, x1, x1000, x1001, x1002, x184000, x184001 => if x1002 = true then (some (x184000, x184001, x1000, x1001, true)) else ((spec_l1Reader_is.f x1000 x1001 x1002 44).bind fun bt206 => (if bt206.1 = true then ((spec_l1Reader_node.f k bt206.2.1 bt206.2.2.1 bt206.2.2.2 (wrap64 (x1 - 1))).bind fun bt210 => (if x184001.length < 4398046511104 then (spec_l1Reader_node.l0 k x1 bt210.2.2.1 bt210.2.2.2.1 bt210.2.2.2.2 x184000 (x184001 ++ [(⟨bt210.1, bt210.2.1⟩ : S86)])) else (none))) else (if bt206.2.2.2 = true then (some (x184000, x184001, bt206.2.1, bt206.2.2.1, true)) else ((spec_l1Reader_is.f bt206.2.1 bt206.2.2.1 bt206.2.2.2 93).bind fun bt220 => (some (x184000, x184001, bt220.2.1, bt220.2.2.1, !bt220.1))))))
def spec_l1Reader_node.f : Nat → ByteArray → Int → Bool → Int → Option (Int × (List (S86)) × ByteArray × Int × Bool)
  | 0, _, _, _, _ => none
  | k + 1, s0_0, s0_1, s0_2, a1 => (some (([] : List (S86)) : List (S86))).bind fun y180 => (if a1 = 0 then ((spec_l1Reader_number.f k s0_0 s0_1 s0_2).bind fun bt184 => (some (bt184.1, y180, bt184.2.1, bt184.2.2.1, bt184.2.2.2))) else ((spec_l1Reader_is.f s0_0 s0_1 s0_2 91).bind fun bt188 => (if bt188.1 = true then ((spec_l1Reader_is.f bt188.2.1 bt188.2.2.1 bt188.2.2.2 93).bind fun bt192 => (if bt192.1 = true then (some (0, y180, bt192.2.1, bt192.2.2.1, bt192.2.2.2)) else ((spec_l1Reader_node.f k bt192.2.1 bt192.2.2.1 bt192.2.2.2 (wrap64 (a1 - 1))).bind fun bt196 => (if y180.length < 4398046511104 then (spec_l1Reader_node.l0 k a1 bt196.2.2.1 bt196.2.2.2.1 bt196.2.2.2.2 0 (y180 ++ [(⟨bt196.1, bt196.2.1⟩ : S86)])) else (none))))) else (some (0, y180, bt188.2.1, bt188.2.2.1, true)))))
end
def I133_0 (s0_0 : ByteArray) (s0_1 : Int) (s0_2 : Bool) (r1 : Int) (r2 : List (S86)) (r3 : ByteArray) (r4 : Int) (r5 : Bool) (m : Nat) (σ : St) : Prop := ∃ (x1 : Int) (x1000 : ByteArray) (x1001 : Int) (x1002 : Bool) (x180000 : Int) (x184000 : Int) (x184001 : List (S86)), spec_l1Reader_node.l0 m x1 x1000 x1001 x1002 x184000 x184001 = some (r1, r2, r3, r4, r5) ∧ σ = ⟨[(0, .pt 0 0 0), (1, .i x1), (4, .pt 1004 0 0), (5, .pt 1005 0 0)], [(0, .box 0 180 true [.v (.string x1000), .i x1001, .v (.bool x1002)]), (1004, .box 0 86 false [.i x180000, .v (.slice none 0 0)]), (3321, .own 0 86 2 (r86 x184001)), (1005, .box 0 86 false [.i x184000, .ow 3321 0])]⟩
abbrev W133 (s0_0 : ByteArray) (s0_1 : Int) (s0_2 : Bool) (r1 : Int) (r2 : List (S86)) (r3 : ByteArray) (r4 : Int) (r5 : Bool) (w : World) (ro : Nat → Prop) (B : Nat) (p : List Nat) (j : List (St → Prop)) (σ : St) : Prop := Kp (WS TE (cx0 Tryz.f133 (some (180, [.v (.string s0_0), .i s0_1, .v (.bool s0_2)])) w ro B) (stkAt p j (bodyOf Tryz.f133) []) σ (RetQ TE Tryz.f133 (some (180, [.v (.string s0_0), .i s0_1, .v (.bool s0_2)])) [.ro (.ag [.i r1, .sl 2 (r86 r2)])] [.v (.string r3), .i r4, .v (.bool r5)] w ro B))
def S133l0 (k : Nat) : Prop := ∀ (s0_0 : ByteArray) (s0_1 : Int) (s0_2 : Bool) (r1 : Int) (r2 : List (S86)) (r3 : ByteArray) (r4 : Int) (r5 : Bool) (w : World) (ro : Nat → Prop) (B : Nat) (_ : Fr TE (cx0 Tryz.f133 (some (180, [.v (.string s0_0), .i s0_1, .v (.bool s0_2)])) w ro B)) (σ : St) (_ : I133_0 s0_0 s0_1 s0_2 r1 r2 r3 r4 r5 k σ), W133 s0_0 s0_1 s0_2 r1 r2 r3 r4 r5 w ro B [1, 1, 1, 1, 1, 1, 0, 0] [] σ
structure C133 (k : Nat) : Prop where
 s_f : ∀ (s0_0 : ByteArray) (s0_1 : Int) (s0_2 : Bool) (a1 : Int) (r1 : Int) (r2 : List (S86)) (r3 : ByteArray) (r4 : Int) (r5 : Bool), spec_l1Reader_node.f k s0_0 s0_1 s0_2 a1 = some (r1, r2, r3, r4, r5) → Ctr TE 133 (some (180, [.v (.string s0_0), .i s0_1, .v (.bool s0_2)])) [.pt 0 0 0, .i a1] [.ro (.ag [.i r1, .sl 2 (r86 r2)])] [.v (.string r3), .i r4, .v (.bool r5)]
 s_l0 : S133l0 k
theorem c133f (k : Nat) (ih : Kp (∀ m, m < k → C133 m)) (s0_0 : ByteArray) (s0_1 : Int) (s0_2 : Bool) (a1 : Int) (r1 : Int) (r2 : List (S86)) (r3 : ByteArray) (r4 : Int) (r5 : Bool) (h : spec_l1Reader_node.f k s0_0 s0_1 s0_2 a1 = some (r1, r2, r3, r4, r5)) : Ctr TE 133 (some (180, [.v (.string s0_0), .i s0_1, .v (.bool s0_2)])) [.pt 0 0 0, .i a1] [.ro (.ag [.i r1, .sl 2 (r86 r2)])] [.v (.string r3), .i r4, .v (.bool r5)] := by
 cases k with
 | zero => simp [spec_l1Reader_node.f] at h
 | succ k =>
 simp only [spec_l1Reader_node.f] at h
 refine co Tryz.func133 (by kernel_rfl) (by kernel_rfl) fun w ro B hF => ?_
 obtain ⟨y180, hy180, h⟩ := ib h
 cases hy180
 rcases ic h with ⟨c1, h⟩ | ⟨c1, h⟩
 · obtain ⟨⟨t184, t185, t186, t187⟩, q2, h⟩ := ib h
   dsimp only at h
   have q2c := spec_l1Reader_number.ctr k _ _ _ _ _ _ _ q2
   refine pk 13 hF [.p 6 ([]), .t, .r [.ro (.i t184)] [.v (.string t185), .i t186, .v (.bool t187)]] [] rfl KD ?_
   cases h
   exact rr [.ro] rfl KD
 · obtain ⟨⟨t188, t189, t190, t191⟩, q3, h⟩ := ib h
   dsimp only at h
   have q3c := spec_l1Reader_is.ctr _ _ _ _ _ _ _ _ q3
   rcases ic h with ⟨c4, h⟩ | ⟨c4, h⟩
   · obtain ⟨⟨t192, t193, t194, t195⟩, q5, h⟩ := ib h
     dsimp only at h
     have q5c := spec_l1Reader_is.ctr _ _ _ _ _ _ _ _ q5
     rcases ic h with ⟨c6, h⟩ | ⟨c6, h⟩
     · refine pk 21 hF [.p 6 ([]), .f, .r [.ro (.v (.bool t188))] [.v (.string t189), .i t190, .v (.bool t191)], .f, .r [.ro (.v (.bool t192))] [.v (.string t193), .i t194, .v (.bool t195)], .t] [] rfl KD ?_
       cases h
       exact rr [.ro] rfl KD
     · obtain ⟨⟨t196, t197, t200, t201, t202⟩, q7, h⟩ := ib h
       dsimp only at h
       have q7c := ih.a.s_f _ _ _ _ _ _ _ _ _ q7
       obtain ⟨c8, h⟩ := ig h
       refine pk 23 hF [.p 6 ([]), .f, .r [.ro (.v (.bool t188))] [.v (.string t189), .i t190, .v (.bool t191)], .f, .r [.ro (.v (.bool t192))] [.v (.string t193), .i t194, .v (.bool t195)], .f] [.p 1023 [⟨0, 10, true, [0]⟩, ⟨1, 9, true, [2]⟩, ⟨5, 8, true, [3]⟩, ⟨13, 7, true, [4]⟩, ⟨29, 6, false, [1, 5]⟩, ⟨31, 5, false, [5]⟩, ⟨61, 5, false, [1, 6]⟩, ⟨63, 4, false, [6]⟩, ⟨125, 4, false, [1]⟩, ⟨127, 3, false, [7]⟩, ⟨255, 2, true, [8]⟩, ⟨511, 1, false, [9]⟩] [(0, true), (2, true), (3, true), (4, true), (1, false), (5, false), (6, false), (7, false), (8, true), (9, false)] [(5, [.r [.ro (.ag [.i t196, .sl 2 (r86 t197)])] [.v (.string t200), .i t201, .v (.bool t202)]]), (6, [.p 30 ([[.i t196, .sl 2 (r86 t197)]])]), (7, [.o 31 (r86 ((([] : List (S86))) ++ [(⟨t196, t197⟩ : S86)]))])]] rfl KD ?_
       exact WS.can [(0, some 0), (1004, some 4), (1005, some 5), (3321, some 6)] ((ih.a.s_l0 s0_0 s0_1 s0_2 r1 r2 r3 r4 r5 w ro B hF _ ⟨a1, t200, t201, t202, 0, 0, ((([] : List (S86))) ++ [(⟨t196, t197⟩ : S86)]), h, rfl⟩).out) KD
   · refine pk 18 hF [.p 6 ([]), .f, .r [.ro (.v (.bool t188))] [.v (.string t189), .i t190, .v (.bool t191)], .t] [] rfl KD ?_
     cases h
     exact rr [.ro] rfl KD
theorem c133l0 (k : Nat) (ih : Kp (∀ m, m < k → C133 m)) : S133l0 k := by
 intro s0_0 s0_1 s0_2 r1 r2 r3 r4 r5 w ro B hF
 intro σ h0
 refine ⟨WS.loop (fun m σ => m ≤ k ∧ I133_0 s0_0 s0_1 s0_2 r1 r2 r3 r4 r5 m σ) k ⟨Nat.le_refl k, h0⟩ (fun m σ' hI J0 hJ0 => ?_)⟩
 clear h0
 obtain ⟨hk, x1, x1000, x1001, x1002, x180000, x184000, x184001, h, rfl⟩ := hI
 cases m with
 | zero => simp [spec_l1Reader_node.l0] at h
 | succ k' =>
 simp only [spec_l1Reader_node.l0] at h
 rcases ic h with ⟨c9, h⟩ | ⟨c9, h⟩
 · refine pk 10 hF [.f, .f, .f, .f, .t, .t, .t, .t] [] rfl KD ?_
   cases h
   exact rr [.ro] rfl KD
 · obtain ⟨⟨t206, t207, t208, t209⟩, q10, h⟩ := ib h
   dsimp only at h
   have q10c := spec_l1Reader_is.ctr _ _ _ _ _ _ _ _ q10
   rcases ic h with ⟨c11, h⟩ | ⟨c11, h⟩
   · obtain ⟨⟨t210, t211, t214, t215, t216⟩, q12, h⟩ := ib h
     dsimp only at h
     have q12c := (ih.out k' (by omega)).s_f _ _ _ _ _ _ _ _ _ q12
     obtain ⟨c13, h⟩ := ig h
     refine pk 8 hF [.t, .t, .r [.ro (.v (.bool t206))] [.v (.string t207), .i t208, .v (.bool t209)], .t, .t] [.p 1023 [⟨0, 10, true, [0]⟩, ⟨1, 9, true, [2]⟩, ⟨5, 8, true, [3]⟩, ⟨13, 7, true, [4]⟩, ⟨29, 6, false, [1, 5]⟩, ⟨31, 5, false, [5]⟩, ⟨61, 5, false, [1, 6]⟩, ⟨63, 4, false, [6]⟩, ⟨125, 4, false, [1]⟩, ⟨127, 3, false, [7]⟩, ⟨255, 2, true, [8]⟩, ⟨511, 1, false, [9]⟩] [(0, true), (2, true), (3, true), (4, true), (1, false), (5, false), (6, false), (7, false), (8, true), (9, false)] [(5, [.r [.ro (.ag [.i t210, .sl 2 (r86 t211)])] [.v (.string t214), .i t215, .v (.bool t216)]]), (6, [.p 48 ([[.i t210, .sl 2 (r86 t211)]])]), (7, [.o 49 (r86 (x184001 ++ [(⟨t210, t211⟩ : S86)]))])]] rfl KD ?_
     exact WS.lpc [(0, some 0), (1004, some 1004), (1005, some 1005), (3321, some 3321)] (hJ0 _ _ (Nat.lt_succ_self _) ⟨by omega, x1, t214, t215, t216, x180000, x184000, (x184001 ++ [(⟨t210, t211⟩ : S86)]), h, rfl⟩) KD
   · rcases ic h with ⟨c14, h⟩ | ⟨c14, h⟩
     · refine pk 10 hF [.t, .t, .r [.ro (.v (.bool t206))] [.v (.string t207), .i t208, .v (.bool t209)], .t, .f, .t, .t, .t, .t] [] rfl KD ?_
       cases h
       exact rr [.ro] rfl KD
     · obtain ⟨⟨t220, t221, t222, t223⟩, q15, h⟩ := ib h
       dsimp only at h
       have q15c := spec_l1Reader_is.ctr _ _ _ _ _ _ _ _ q15
       refine pk 10 hF [.t, .t, .r [.ro (.v (.bool t206))] [.v (.string t207), .i t208, .v (.bool t209)], .t, .f, .f, .f, .r [.ro (.v (.bool t220))] [.v (.string t221), .i t222, .v (.bool t223)], .f, .f] [] rfl KD ?_
       cases h
       exact rr [.ro] rfl KD
theorem cs133 (k : Nat) : C133 k := by
 induction k using Nat.strongRecOn with
 | _ k ih0 =>
 have ih : Kp (∀ m, m < k → C133 m) := ⟨ih0⟩
 exact ⟨c133f k ih, c133l0 k ih⟩
theorem spec_l1Reader_node.ctr (k : Nat) (s0_0 : ByteArray) (s0_1 : Int) (s0_2 : Bool) (a1 : Int) (r1 : Int) (r2 : List (S86)) (r3 : ByteArray) (r4 : Int) (r5 : Bool) (h : spec_l1Reader_node.f k s0_0 s0_1 s0_2 a1 = some (r1, r2, r3, r4, r5)) : Ctr TE 133 (some (180, [.v (.string s0_0), .i s0_1, .v (.bool s0_2)])) [.pt 0 0 0, .i a1] [.ro (.ag [.i r1, .sl 2 (r86 r2)])] [.v (.string r3), .i r4, .v (.bool r5)] := (cs133 k).s_f s0_0 s0_1 s0_2 a1 r1 r2 r3 r4 r5 h
def spec_l1Read.j0 : Nat → ByteArray → Int → Bool → Option (Int × (List (S86)) × Bool)
  | 0, _, _, _ => none
  | k + 1, x0, x1, x15 => if x15 = true then (some (0, ([] : List (S86)), false)) else ((spec_l1Reader_node.f k x0 0 false x1).bind fun bt227 => (if bt227.2.2.2.2 = true then (some (0, ([] : List (S86)), false)) else (if bt227.2.2.2.1 = (x0.size : Int) then (some (bt227.1, bt227.2.1, true)) else (some (0, ([] : List (S86)), false)))))
def spec_l1Read.f (k : Nat) (a0 : ByteArray) (a1 : Int) : Option (Int × (List (S86)) × Bool) := (spec_l1In.f a1 0 3).bind fun t225 => (if t225 = true then (spec_l1Read.j0 k a0 a1 (decide ((a0.size : Int) > 400))) else (spec_l1Read.j0 k a0 a1 true))
abbrev W97 (r1 : Int) (r2 : List (S86)) (r3 : Bool) (w : World) (ro : Nat → Prop) (B : Nat) (p : List Nat) (j : List (St → Prop)) (σ : St) : Prop := Kp (WS TE (cx0 Tryz.f97 none w ro B) (stkAt p j (bodyOf Tryz.f97) []) σ (RetQ TE Tryz.f97 none [.ro (.ag [.i r1, .sl 2 (r86 r2)]), .ro (.v (.bool r3))] [] w ro B))
def S97j0 (k : Nat) : Prop := ∀ r1 r2 r3 w ro B (_ : Fr TE (cx0 Tryz.f97 none w ro B)) x0 x1 x15 x225000 (_ : spec_l1Read.j0 k x0 x1 x15 = some (r1, r2, r3)), W97 r1 r2 r3 w ro B [1, 0, 0, 9] [] ⟨[(0, .v (.string x0)), (1, .i x1), (4, .pt 1004 0 0), (15, .v (.bool x15))], [(1004, .box 0 86 false [.i x225000, .v (.slice none 0 0)])]⟩
structure C97 (k : Nat) : Prop where
 s_j0 : S97j0 k
theorem c97j0 (k : Nat) (ih : Kp (∀ m, m < k → C97 m)) : S97j0 k := by
 intro r1 r2 r3 w ro B hF
 intro x0 x1 x15 x225000 h
 refine ⟨?_⟩
 cases k with
 | zero => simp [spec_l1Read.j0] at h
 | succ k =>
 simp only [spec_l1Read.j0] at h
 rcases ic h with ⟨c3, h⟩ | ⟨c3, h⟩
 · refine pk 4 hF [.t] [] rfl KD ?_
   cases h
   exact rr [.ro, .ro] rfl KD
 · obtain ⟨⟨t227, t228, t231, t232, t233⟩, q4, h⟩ := ib h
   dsimp only at h
   have q4c := spec_l1Reader_node.ctr k _ _ _ _ _ _ _ _ _ q4
   rcases ic h with ⟨c5, h⟩ | ⟨c5, h⟩
   · refine pk 13 hF [.f, .r [.ro (.ag [.i t227, .sl 2 (r86 t228)])] [.v (.string t231), .i t232, .v (.bool t233)], .t, .t, .t, .t, .t, .t, .t, .t, .t] [] rfl KD ?_
     cases h
     exact rr [.ro, .ro] rfl KD
   · rcases ic h with ⟨c6, h⟩ | ⟨c6, h⟩
     · refine pk 14 hF [.f, .r [.ro (.ag [.i t227, .sl 2 (r86 t228)])] [.v (.string t231), .i t232, .v (.bool t233)], .f, .f, .f, .f, .f, .f, .f, .f, .f] [] rfl KD ?_
       cases h
       exact rr [.ro, .ro] rfl KD
     · refine pk 13 hF [.f, .r [.ro (.ag [.i t227, .sl 2 (r86 t228)])] [.v (.string t231), .i t232, .v (.bool t233)], .f, .f, .f, .f, .f, .f, .f, .f, .t] [] rfl KD ?_
       cases h
       exact rr [.ro, .ro] rfl KD
theorem cs97 (k : Nat) : C97 k := by
 induction k using Nat.strongRecOn with
 | _ k ih0 =>
 have ih : Kp (∀ m, m < k → C97 m) := ⟨ih0⟩
 exact ⟨c97j0 k ih⟩
theorem spec_l1Read.ctr (k : Nat) (a0 : ByteArray) (a1 : Int) (r1 : Int) (r2 : List (S86)) (r3 : Bool) (h : spec_l1Read.f k a0 a1 = some (r1, r2, r3)) : Ctr TE 97 none [.v (.string a0), .i a1] [.ro (.ag [.i r1, .sl 2 (r86 r2)]), .ro (.v (.bool r3))] [] := by
 refine co Tryz.func97 (by kernel_rfl) (by kernel_rfl) fun w ro B hF => ?_
 have ih : Kp (∀ m, m < k + 1 → C97 m) := ⟨fun m _ => cs97 m⟩
 simp only [spec_l1Read.f] at h
 obtain ⟨t225, q1, h⟩ := ib h
 have q1c := spec_l1In.ctr _ _ _ _ q1
 rcases ic h with ⟨c2, h⟩ | ⟨c2, h⟩
 · refine pk 5 hF [.r [.ro (.v (.bool t225))] [], .f, .f, .f, .f] [] rfl KD ?_
   exact WS.can [(1004, some 4)] ((ih.a.s_j0  r1 r2 r3 w ro B hF a0 a1 (decide ((a0.size : Int) > 400)) 0 h).out) KD
 · refine pk 5 hF [.r [.ro (.v (.bool t225))] [], .t, .t, .t, .t] [] rfl KD ?_
   exact WS.can [(1004, some 4)] ((ih.a.s_j0  r1 r2 r3 w ro B hF a0 a1 true 0 h).out) KD
mutual
def spec_l8RawPackVector.j0 : Nat → List ByteArray → Int → List (S86) → Bool → Option (Int × (List (List Int)) × List Int × Bool)
  | 0, _, _, _, _ => none
  | k + 1, x0, x1, x6, x19 => if x19 = true then (some (0, ([] : List (List Int)), ([] : List Int), false)) else (spec_l8RawPackVector.l0 k x1 x6 x0 (x0.length : Int) 0)
def spec_l8RawPackVector.l0 : Nat → Int → List (S86) → List ByteArray → Int → Int → Option (Int × (List (List Int)) × List Int × Bool)
  | 0, _, _, _, _, _ => none
  | k + 1, x1, x6, x21, x22, x23 => if x23 < x22 then (if 0 ≤ x23 then (if x23 < (x21.length : Int) then ((spec_l1Read.f k (rdOf ByteArray.empty x21 x23) x1).bind fun bt241 => (if bt241.2.2 = true then (if x6.length < 4398046511104 then (spec_l8RawPackVector.l0 k x1 (x6 ++ [(⟨bt241.1, bt241.2.1⟩ : S86)]) x21 x22 (wrap64 (x23 + 1))) else (none)) else (some (0, ([] : List (List Int)), ([] : List Int), false)))) else (none)) else (none)) else ((spec_l8Pack.f k x6 x1).bind fun bt250 => (some (bt250.1, bt250.2.1, bt250.2.2, true)))
end
def spec_l8RawPackVector.f (k : Nat) (l0 : List ByteArray) (a1 : Int) : Option (Int × (List (List Int)) × List Int × Bool) := (some (([] : List (S86)) : List (S86))).bind fun y236 => ((spec_l1In.f a1 0 3).bind fun t239 => (if t239 = true then (spec_l8RawPackVector.j0 k l0 a1 y236 (decide ((l0.length : Int) > 2000))) else (spec_l8RawPackVector.j0 k l0 a1 y236 true)))
def I106_0 (r1 : Int) (r2 : List (List Int)) (r3 : List Int) (r4 : Bool) (m : Nat) (σ : St) : Prop := ∃ (x1 : Int) (x6 : List (S86)) (x21 : List ByteArray) (x22 : Int) (x23 : Int) (x236000 : Int), spec_l8RawPackVector.l0 m x1 x6 x21 x22 x23 = some (r1, r2, r3, r4) ∧ σ = ⟨[(1, .i x1), (4, .pt 1004 0 0), (6, .ow 1006 0), (21, .sl 1 (rX cS x21)), (22, .i x22), (23, .i x23)], [(1004, .box 0 31 false [.i x236000, .v (.slice none 0 0), .v (.slice none 0 0)]), (1006, .own 0 86 2 (r86 x6))]⟩
abbrev W106 (r1 : Int) (r2 : List (List Int)) (r3 : List Int) (r4 : Bool) (w : World) (ro : Nat → Prop) (B : Nat) (p : List Nat) (j : List (St → Prop)) (σ : St) : Prop := Kp (WS TE (cx0 Tryz.f106 none w ro B) (stkAt p j (bodyOf Tryz.f106) []) σ (RetQ TE Tryz.f106 none [.ro (.ag [.i r1, .sl 1 (rX (cL (cI .i64) 1) r2), .sl 1 (rX (cI .i64) r3)]), .ro (.v (.bool r4))] [] w ro B))
def S106j0 (k : Nat) : Prop := ∀ r1 r2 r3 r4 w ro B (_ : Fr TE (cx0 Tryz.f106 none w ro B)) x0 x1 x6 x19 x236000 (_ : spec_l8RawPackVector.j0 k x0 x1 x6 x19 = some (r1, r2, r3, r4)), W106 r1 r2 r3 r4 w ro B [1, 1, 0, 0, 9] [] ⟨[(0, .sl 1 (rX cS x0)), (1, .i x1), (4, .pt 1004 0 0), (6, .ow 1006 0), (19, .v (.bool x19))], [(1004, .box 0 31 false [.i x236000, .v (.slice none 0 0), .v (.slice none 0 0)]), (1006, .own 0 86 2 (r86 x6))]⟩
def S106l0 (k : Nat) : Prop := ∀ r1 r2 r3 r4 w ro B (_ : Fr TE (cx0 Tryz.f106 none w ro B)) (σ : St) (_ : I106_0 r1 r2 r3 r4 k σ), W106 r1 r2 r3 r4 w ro B [1, 1, 1, 0, 1, 0] [] σ
structure C106 (k : Nat) : Prop where
 s_j0 : S106j0 k
 s_l0 : S106l0 k
theorem c106j0 (k : Nat) (ih : Kp (∀ m, m < k → C106 m)) : S106j0 k := by
 intro r1 r2 r3 r4 w ro B hF
 intro x0 x1 x6 x19 x236000 h
 refine ⟨?_⟩
 cases k with
 | zero => simp [spec_l8RawPackVector.j0] at h
 | succ k =>
 simp only [spec_l8RawPackVector.j0] at h
 rcases ic h with ⟨c3, h⟩ | ⟨c3, h⟩
 · refine pk 4 hF [.t] [] rfl KD ?_
   cases h
   exact rr [.ro, .ro] rfl KD
 · refine pk 6 hF [.f, .e 22 (.i (x0.length : Int))] [] rfl KD ?_
   exact WS.can [(1004, some 1004), (1006, some 1006)] ((ih.a.s_l0  r1 r2 r3 r4 w ro B hF _ ⟨x1, x6, x0, (x0.length : Int), 0, x236000, h, rfl⟩).out) KD
theorem c106l0 (k : Nat) (ih : Kp (∀ m, m < k → C106 m)) : S106l0 k := by
 intro r1 r2 r3 r4 w ro B hF
 intro σ h0
 refine ⟨WS.loop (fun m σ => m ≤ k ∧ I106_0 r1 r2 r3 r4 m σ) k ⟨Nat.le_refl k, h0⟩ (fun m σ' hI J0 hJ0 => ?_)⟩
 clear h0
 obtain ⟨hk, x1, x6, x21, x22, x23, x236000, h, rfl⟩ := hI
 cases m with
 | zero => simp [spec_l8RawPackVector.l0] at h
 | succ k' =>
 simp only [spec_l8RawPackVector.l0] at h
 rcases ic h with ⟨c4, h⟩ | ⟨c4, h⟩
 · obtain ⟨c5, h⟩ := ig h
   obtain ⟨c6, h⟩ := ig h
   obtain ⟨⟨t241, t242, t245⟩, q7, h⟩ := ib h
   dsimp only at h
   have q7c := spec_l1Read.ctr k' _ _ _ _ _ q7
   rcases ic h with ⟨c8, h⟩ | ⟨c8, h⟩
   · obtain ⟨c9, h⟩ := ig h
     refine pk 19 hF [.t, .e 25 (.rf [.v (.string (rdOf ByteArray.empty x21 x23))]), .r [.ro (.ag [.i t241, .sl 2 (r86 t242)]), .ro (.v (.bool t245))] [], .f, .p 38 ([[.i t241, .sl 2 (r86 t242)]]), .o 39 (r86 (x6 ++ [(⟨t241, t242⟩ : S86)]))] [] rfl KD ?_
     exact WS.lpc [(1004, some 1004), (1006, some 1006)] (hJ0 _ _ (Nat.lt_succ_self _) ⟨by omega, x1, (x6 ++ [(⟨t241, t242⟩ : S86)]), x21, x22, (wrap64 (x23 + 1)), x236000, h, rfl⟩) KD
   · refine pk 18 hF [.t, .e 25 (.rf [.v (.string (rdOf ByteArray.empty x21 x23))]), .r [.ro (.ag [.i t241, .sl 2 (r86 t242)]), .ro (.v (.bool t245))] [], .t] [] rfl KD ?_
     cases h
     exact rr [.ro, .ro] rfl KD
 · obtain ⟨⟨t250, t251, t254⟩, q10, h⟩ := ib h
   dsimp only at h
   have q10c := spec_l8Pack.ctr k' _ _ _ _ _ q10
   refine pk 8 hF [.f, .r [.ro (.ag [.i t250, .sl 1 (rX (cL (cI .i64) 1) t251), .sl 1 (rX (cI .i64) t254)])] []] [] rfl KD ?_
   cases h
   exact rr [.ro, .ro] rfl KD
theorem cs106 (k : Nat) : C106 k := by
 induction k using Nat.strongRecOn with
 | _ k ih0 =>
 have ih : Kp (∀ m, m < k → C106 m) := ⟨ih0⟩
 exact ⟨c106j0 k ih, c106l0 k ih⟩
theorem spec_l8RawPackVector.ctr (k : Nat) (l0 : List ByteArray) (a1 : Int) (r1 : Int) (r2 : List (List Int)) (r3 : List Int) (r4 : Bool) (h : spec_l8RawPackVector.f k l0 a1 = some (r1, r2, r3, r4)) : Ctr TE 106 none [.sl 1 (rX cS l0), .i a1] [.ro (.ag [.i r1, .sl 1 (rX (cL (cI .i64) 1) r2), .sl 1 (rX (cI .i64) r3)]), .ro (.v (.bool r4))] [] := by
 refine co Tryz.func106 (by kernel_rfl) (by kernel_rfl) fun w ro B hF => ?_
 have ih : Kp (∀ m, m < k + 1 → C106 m) := ⟨fun m _ => cs106 m⟩
 simp only [spec_l8RawPackVector.f] at h
 obtain ⟨y236, hy236, h⟩ := ib h
 cases hy236
 obtain ⟨t239, q1, h⟩ := ib h
 have q1c := spec_l1In.ctr _ _ _ _ q1
 rcases ic h with ⟨c2, h⟩ | ⟨c2, h⟩
 · refine pk 7 hF [.p 11 ([]), .r [.ro (.v (.bool t239))] [], .f, .f, .e 17 (.i (l0.length : Int)), .f, .f] [] rfl KD ?_
   exact WS.can [(1004, some 4), (1006, some 11)] ((ih.a.s_j0  r1 r2 r3 r4 w ro B hF l0 a1 (([] : List (S86))) (decide ((l0.length : Int) > 2000)) 0 h).out) KD
 · refine pk 7 hF [.p 11 ([]), .r [.ro (.v (.bool t239))] [], .t, .t, .t, .t] [] rfl KD ?_
   exact WS.can [(1004, some 4), (1006, some 11)] ((ih.a.s_j0  r1 r2 r3 r4 w ro B hF l0 a1 (([] : List (S86))) true 0 h).out) KD
def spec_PackVector.f (k : Nat) (l0 : List ByteArray) (a1 : Int) : Option (Int × (List (List Int)) × List Int × Bool) := (spec_l8RawPackVector.f k l0 a1).bind fun bt258 => ((spec_l13OwnVector.f k bt258.1 bt258.2.1 bt258.2.2.1).bind fun bt267 => (some (bt267.1, bt267.2.1, bt267.2.2, bt258.2.2.2)))
theorem spec_PackVector.ctr (k : Nat) (l0 : List ByteArray) (a1 : Int) (r1 : Int) (r2 : List (List Int)) (r3 : List Int) (r4 : Bool) (h : spec_PackVector.f k l0 a1 = some (r1, r2, r3, r4)) : Ctr TE 64 none [.sl 1 (rX cS l0), .i a1] [.ro (.ag [.i r1, .sl 1 (rX (cL (cI .i64) 1) r2), .sl 1 (rX (cI .i64) r3)]), .ro (.v (.bool r4))] [] := by
 refine co Tryz.func64 (by kernel_rfl) (by kernel_rfl) fun w ro B hF => ?_
 simp only [spec_PackVector.f] at h
 obtain ⟨⟨t258, t259, t262, t265⟩, q1, h⟩ := ib h
 dsimp only at h
 have q1c := spec_l8RawPackVector.ctr k _ _ _ _ _ _ q1
 obtain ⟨⟨t267, t268, t271⟩, q2, h⟩ := ib h
 dsimp only at h
 have q2c := spec_l13OwnVector.ctr k _ _ _ _ _ _ q2
 refine pk 7 hF [.r [.ro (.ag [.i t258, .sl 1 (rX (cL (cI .i64) 1) t259), .sl 1 (rX (cI .i64) t262)]), .ro (.v (.bool t265))] [], .r [.ro (.ag [.i t267, .sl 1 (rX (cL (cI .i64) 1) t268), .sl 1 (rX (cI .i64) t271)])] []] [] rfl KD ?_
 cases h
 exact rr [.ro, .ro] rfl KD
def spec_l8Draw.l0 : Nat → Int → List ByteArray → Int → Int → List Int → Int → Option (Int × (List (List Int)) × List Int × Int)
  | 0, _, _, _, _, _, _ => none
  | k + 1, x1, x7, x11, x12, x1000, x1001 => if x12 < x11 then ((spec_l1Draw.f k x1000 x1001 x1).bind fun bt278 => (if x7.length < 8796093022208 then (spec_l8Draw.l0 k x1 (x7 ++ [bt278.1]) x11 (wrap64 (x12 + 1)) x1000 bt278.2) else (none))) else ((spec_PackVector.f k x7 x1).bind fun bt283 => (if bt283.2.2.2 = true then (some (bt283.1, bt283.2.1, bt283.2.2.1, x1001)) else ((spec_PackVector.f k (([] : List ByteArray)) x1).bind fun bt295 => (some (bt295.1, bt295.2.1, bt295.2.2.1, x1001)))))
def spec_l8Draw.f (k : Nat) (s0_0 : List Int) (s0_1 : Int) (a1 : Int) (a2 : Int) : Option (Int × (List (List Int)) × List Int × Int) := spec_l8Draw.l0 k a1 (([] : List ByteArray)) a2 0 s0_0 s0_1
def I38_0 (s0_0 : List Int) (s0_1 : Int) (r1 : Int) (r2 : List (List Int)) (r3 : List Int) (r4 : Int) (m : Nat) (σ : St) : Prop := ∃ (x1 : Int) (x7 : List ByteArray) (x11 : Int) (x12 : Int) (x1001 : Int) (x275000 : Int), spec_l8Draw.l0 m x1 x7 x11 x12 s0_0 x1001 = some (r1, r2, r3, r4) ∧ σ = ⟨[(0, .pt 0 0 0), (1, .i x1), (6, .pt 1006 0 0), (7, .ow 1007 0), (11, .i x11), (12, .i x12)], [(0, .box 0 105 true [.sl 1 (rX (cI .u8) s0_0), .i x1001]), (1006, .box 0 31 false [.i x275000, .v (.slice none 0 0), .v (.slice none 0 0)]), (1007, .own 0 9 1 (rX cS x7))]⟩
abbrev W38 (s0_0 : List Int) (s0_1 : Int) (r1 : Int) (r2 : List (List Int)) (r3 : List Int) (r4 : Int) (w : World) (ro : Nat → Prop) (B : Nat) (p : List Nat) (j : List (St → Prop)) (σ : St) : Prop := Kp (WS TE (cx0 Tryz.f38 (some (105, [.sl 1 (rX (cI .u8) s0_0), .i s0_1])) w ro B) (stkAt p j (bodyOf Tryz.f38) []) σ (RetQ TE Tryz.f38 (some (105, [.sl 1 (rX (cI .u8) s0_0), .i s0_1])) [.ro (.ag [.i r1, .sl 1 (rX (cL (cI .i64) 1) r2), .sl 1 (rX (cI .i64) r3)])] [.sl 1 (rX (cI .u8) s0_0), .i r4] w ro B))
def S38l0 (k : Nat) : Prop := ∀ (s0_0 : List Int) (s0_1 : Int) (r1 : Int) (r2 : List (List Int)) (r3 : List Int) (r4 : Int) (w : World) (ro : Nat → Prop) (B : Nat) (_ : Fr TE (cx0 Tryz.f38 (some (105, [.sl 1 (rX (cI .u8) s0_0), .i s0_1])) w ro B)) (σ : St) (_ : I38_0 s0_0 s0_1 r1 r2 r3 r4 k σ), W38 s0_0 s0_1 r1 r2 r3 r4 w ro B [1, 1, 0, 1, 0] [] σ
structure C38 (k : Nat) : Prop where
 s_l0 : S38l0 k
theorem c38l0 (k : Nat) (ih : Kp (∀ m, m < k → C38 m)) : S38l0 k := by
 intro s0_0 s0_1 r1 r2 r3 r4 w ro B hF
 intro σ h0
 refine ⟨WS.loop (fun m σ => m ≤ k ∧ I38_0 s0_0 s0_1 r1 r2 r3 r4 m σ) k ⟨Nat.le_refl k, h0⟩ (fun m σ' hI J0 hJ0 => ?_)⟩
 clear h0
 obtain ⟨hk, x1, x7, x11, x12, x1001, x275000, h, rfl⟩ := hI
 cases m with
 | zero => simp [spec_l8Draw.l0] at h
 | succ k' =>
 simp only [spec_l8Draw.l0] at h
 rcases ic h with ⟨c1, h⟩ | ⟨c1, h⟩
 · obtain ⟨⟨t278, t279⟩, q2, h⟩ := ib h
   dsimp only at h
   have q2c := spec_l1Draw.ctr k' _ _ _ _ _ q2
   obtain ⟨c3, h⟩ := ig h
   refine pk 10 hF [.t, .r [.ro (.v (.string t278))] [.sl 1 (rX (cI .u8) s0_0), .i t279], .p 18 ([[.v (.string t278)]]), .o 19 (rX cS (x7 ++ [t278]))] [] rfl KD ?_
   exact WS.lpc [(0, some 0), (1006, some 1006), (1007, some 1007)] (hJ0 _ _ (Nat.lt_succ_self _) ⟨by omega, x1, (x7 ++ [t278]), x11, (wrap64 (x12 + 1)), t279, x275000, h, rfl⟩) KD
 · obtain ⟨⟨t283, t284, t287, t290⟩, q4, h⟩ := ib h
   dsimp only at h
   have q4c := spec_PackVector.ctr k' _ _ _ _ _ _ q4
   rcases ic h with ⟨c5, h⟩ | ⟨c5, h⟩
   · refine pk 15 hF [.f, .r [.ro (.ag [.i t283, .sl 1 (rX (cL (cI .i64) 1) t284), .sl 1 (rX (cI .i64) t287)]), .ro (.v (.bool t290))] [], .f] [] rfl KD ?_
     cases h
     exact rr [.ro] rfl KD
   · obtain ⟨⟨t295, t296, t299, t302⟩, q6, h⟩ := ib h
     dsimp only at h
     have q6c := spec_PackVector.ctr k' _ _ _ _ _ _ q6
     refine pk 15 hF [.f, .r [.ro (.ag [.i t283, .sl 1 (rX (cL (cI .i64) 1) t284), .sl 1 (rX (cI .i64) t287)]), .ro (.v (.bool t290))] [], .t, .p 30 ([]), .r [.ro (.ag [.i t295, .sl 1 (rX (cL (cI .i64) 1) t296), .sl 1 (rX (cI .i64) t299)]), .ro (.v (.bool t302))] []] [] rfl KD ?_
     cases h
     exact rr [.ro] rfl KD
theorem cs38 (k : Nat) : C38 k := by
 induction k using Nat.strongRecOn with
 | _ k ih0 =>
 have ih : Kp (∀ m, m < k → C38 m) := ⟨ih0⟩
 exact ⟨c38l0 k ih⟩
theorem spec_l8Draw.ctr (k : Nat) (s0_0 : List Int) (s0_1 : Int) (a1 : Int) (a2 : Int) (r1 : Int) (r2 : List (List Int)) (r3 : List Int) (r4 : Int) (h : spec_l8Draw.f k s0_0 s0_1 a1 a2 = some (r1, r2, r3, r4)) : Ctr TE 38 (some (105, [.sl 1 (rX (cI .u8) s0_0), .i s0_1])) [.pt 0 0 0, .i a1, .i a2] [.ro (.ag [.i r1, .sl 1 (rX (cL (cI .i64) 1) r2), .sl 1 (rX (cI .i64) r3)])] [.sl 1 (rX (cI .u8) s0_0), .i r4] := by
 refine co Tryz.func38 (by kernel_rfl) (by kernel_rfl) fun w ro B hF => ?_
 have ih : Kp (∀ m, m < k + 1 → C38 m) := ⟨fun m _ => cs38 m⟩
 simp only [spec_l8Draw.f] at h
 refine pk 8 hF [.p 10 ([])] [] rfl KD ?_
 exact WS.can [(0, some 0), (1006, some 6), (1007, some 10)] ((ih.a.s_l0 s0_0 s0_1 r1 r2 r3 r4 w ro B hF _ ⟨a1, (([] : List ByteArray)), a2, 0, s0_1, 0, h, rfl⟩).out) KD
def spec_l8Some.f (k : Nat) (s0_0 : List Int) (s0_1 : Int) : Option (Int × (List (List Int)) × List Int × Int) := (spec_l13Rd_num.f k s0_0 s0_1 (([1, 0, 2, 1, 3] : List Int))).bind fun bt307 => ((spec_l13Rd_pick.f k s0_0 bt307.2 4).bind fun bt309 => ((spec_l8Draw.f k s0_0 bt309.2 bt307.1 bt309.1).bind fun bt311 => ((spec_l13Rd_pick.f k s0_0 bt311.2.2.2 24).bind fun bt320 => (if bt320.1 = 0 then ((spec_l13Rd_num.f k s0_0 bt320.2 (([(-1), 2001, wrap64 (bt311.1 + 1), 9223372036854775807] : List Int))).bind fun bt325 => (some (bt325.1, bt311.2.1, bt311.2.2.1, bt325.2))) else (if bt320.1 = 1 then ((some (([] : List Int) : List Int)).bind fun y327 => (if y327.length + bt311.2.2.1.length < 17592186044416 then ((some (y327 ++ bt311.2.2.1 : List Int)).bind fun y330 => ((spec_l13Rd_num.f k s0_0 bt320.2 (([0, (-1), 10007] : List Int))).bind fun bt336 => (if y330.length < 17592186044416 then (some (bt311.1, bt311.2.1, (y330 ++ [bt336.1]), bt336.2)) else (none)))) else (none))) else (some (bt311.1, bt311.2.1, bt311.2.2.1, bt320.2)))))))
theorem spec_l8Some.ctr (k : Nat) (s0_0 : List Int) (s0_1 : Int) (r1 : Int) (r2 : List (List Int)) (r3 : List Int) (r4 : Int) (h : spec_l8Some.f k s0_0 s0_1 = some (r1, r2, r3, r4)) : Ctr TE 39 (some (105, [.sl 1 (rX (cI .u8) s0_0), .i s0_1])) [.pt 0 0 0] [.ro (.ag [.i r1, .sl 1 (rX (cL (cI .i64) 1) r2), .sl 1 (rX (cI .i64) r3)])] [.sl 1 (rX (cI .u8) s0_0), .i r4] := by
 refine co Tryz.func39 (by kernel_rfl) (by kernel_rfl) fun w ro B hF => ?_
 simp only [spec_l8Some.f] at h
 obtain ⟨⟨t307, t308⟩, q1, h⟩ := ib h
 dsimp only at h
 have q1c := spec_l13Rd_num.ctr k _ _ _ _ _ q1
 obtain ⟨⟨t309, t310⟩, q2, h⟩ := ib h
 dsimp only at h
 have q2c := spec_l13Rd_pick.ctr k _ _ _ _ _ q2
 obtain ⟨⟨t311, t312, t315, t318⟩, q3, h⟩ := ib h
 dsimp only at h
 have q3c := spec_l8Draw.ctr k _ _ _ _ _ _ _ _ q3
 obtain ⟨⟨t320, t321⟩, q4, h⟩ := ib h
 dsimp only at h
 have q4c := spec_l13Rd_pick.ctr k _ _ _ _ _ q4
 rcases ic h with ⟨c5, h⟩ | ⟨c5, h⟩
 · obtain ⟨⟨t325, t326⟩, q6, h⟩ := ib h
   dsimp only at h
   have q6c := spec_l13Rd_num.ctr k _ _ _ _ _ q6
   refine pk 16 hF [.p 6 ([[.i 1], [.i 0], [.i 2], [.i 1], [.i 3]]), .r [.ro (.i t307)] [.sl 1 (rX (cI .u8) s0_0), .i t308], .r [.ro (.i t309)] [.sl 1 (rX (cI .u8) s0_0), .i t310], .r [.ro (.ag [.i t311, .sl 1 (rX (cL (cI .i64) 1) t312), .sl 1 (rX (cI .i64) t315)])] [.sl 1 (rX (cI .u8) s0_0), .i t318], .r [.ro (.i t320)] [.sl 1 (rX (cI .u8) s0_0), .i t321], .t, .p 19 ([[.i (-1)], [.i 2001], [.i (wrap64 (t311 + 1))], [.i 9223372036854775807]]), .r [.ro (.i t325)] [.sl 1 (rX (cI .u8) s0_0), .i t326]] [] rfl KD ?_
   cases h
   exact rr [.ro] rfl KD
 · rcases ic h with ⟨c7, h⟩ | ⟨c7, h⟩
   · obtain ⟨y327, hy327, h⟩ := ib h
     cases hy327
     obtain ⟨c8, h⟩ := ig h
     obtain ⟨y330, hy330, h⟩ := ib h
     cases hy330
     obtain ⟨⟨t336, t337⟩, q9, h⟩ := ib h
     dsimp only at h
     have q9c := spec_l13Rd_num.ctr k _ _ _ _ _ q9
     obtain ⟨c10, h⟩ := ig h
     refine pk 19 hF [.p 6 ([[.i 1], [.i 0], [.i 2], [.i 1], [.i 3]]), .r [.ro (.i t307)] [.sl 1 (rX (cI .u8) s0_0), .i t308], .r [.ro (.i t309)] [.sl 1 (rX (cI .u8) s0_0), .i t310], .r [.ro (.ag [.i t311, .sl 1 (rX (cL (cI .i64) 1) t312), .sl 1 (rX (cI .i64) t315)])] [.sl 1 (rX (cI .u8) s0_0), .i t318], .r [.ro (.i t320)] [.sl 1 (rX (cI .u8) s0_0), .i t321], .f, .t, .p 24 ([]), .o 28 (rX (cI .i64) ((([] : List Int)) ++ t315)), .p 30 ([[.i 0], [.i (-1)], [.i 10007]]), .r [.ro (.i t336)] [.sl 1 (rX (cI .u8) s0_0), .i t337], .p 32 ([[.i t336]]), .o 33 (rX (cI .i64) (((([] : List Int)) ++ t315) ++ [t336]))] [] rfl KD ?_
     cases h
     exact rr [.ro] rfl KD
   · refine pk 19 hF [.p 6 ([[.i 1], [.i 0], [.i 2], [.i 1], [.i 3]]), .r [.ro (.i t307)] [.sl 1 (rX (cI .u8) s0_0), .i t308], .r [.ro (.i t309)] [.sl 1 (rX (cI .u8) s0_0), .i t310], .r [.ro (.ag [.i t311, .sl 1 (rX (cL (cI .i64) 1) t312), .sl 1 (rX (cI .i64) t315)])] [.sl 1 (rX (cI .u8) s0_0), .i t318], .r [.ro (.i t320)] [.sl 1 (rX (cI .u8) s0_0), .i t321], .f, .f] [] rfl KD ?_
     cases h
     exact rr [.ro] rfl KD
def spec_DrawDoInstruction.j0 : Nat → ByteArray → Int → Int → List Int → Int → Option (ByteArray × (List (S31)))
  | 0, _, _, _, _, _ => none
  | k + 1, x5, x6, x7, x344000, x344001 => (spec_l13Rd_pick.f k x344000 x344001 16).bind fun bt400 => (if bt400.1 = 0 then ((spec_l8Some.f k x344000 bt400.2).bind fun bt402 => ((spec_l8Some.f k x344000 bt402.2.2.2).bind fun bt410 => (some (x5, (([(⟨bt402.1, (⟨bt402.2.1, bt402.2.2.1⟩ : S29)⟩ : S31), (⟨bt410.1, (⟨bt410.2.1, bt410.2.2.1⟩ : S29)⟩ : S31)] : List (S31))))))) else ((spec_l8Draw.f k x344000 bt400.2 x7 x6).bind fun bt421 => (some (x5, (([(⟨bt421.1, (⟨bt421.2.1, bt421.2.2.1⟩ : S29)⟩ : S31)] : List (S31)))))))
def spec_DrawDoInstruction.f (k : Nat) (l0 : List Int) : Option (ByteArray × (List (S31))) := (spec_l13Open.f l0).bind fun bt341 => ((spec_l13Rd_of.f k bt341.1 bt341.2 (([(⟨#[83]⟩ : ByteArray), (⟨#[77]⟩ : ByteArray), (⟨#[73]⟩ : ByteArray), (⟨#[78]⟩ : ByteArray), (⟨#[82]⟩ : ByteArray), (⟨#[67]⟩ : ByteArray), (⟨#[80]⟩ : ByteArray), (⟨#[43]⟩ : ByteArray), (⟨#[42]⟩ : ByteArray), (⟨#[94]⟩ : ByteArray), (⟨#[45]⟩ : ByteArray), (⟨#[61]⟩ : ByteArray), (⟨#[60]⟩ : ByteArray), (⟨#[64]⟩ : ByteArray), (⟨#[91, 120]⟩ : ByteArray), (⟨#[]⟩ : ByteArray), (⟨#[51]⟩ : ByteArray)] : List ByteArray))).bind fun bt347 => ((spec_l13Rd_pick.f k bt341.1 bt347.2 4).bind fun bt349 => ((spec_l13Rd_num.f k bt341.1 bt349.2 (([1, 0, 2, 1, 3] : List Int))).bind fun bt354 => (if bt347.1.size + 1 ≤ 9223372036854775807 then (if 0 < ((bt347.1.size : Int) + 1) then ((spec_l13Find.f k (⟨#[83, 77, 80]⟩ : ByteArray) (bt (bt347.1 ++ (⟨#[32]⟩ : ByteArray)) 0)).bind fun t356 => (if t356 ≥ 0 then (spec_DrawDoInstruction.j0 k bt347.1 bt349.1 1 bt341.1 bt354.2) else (if bt347.1.toList = ([67] : List UInt8) then ((spec_l13Rd_pick.f k bt341.1 bt354.2 2).bind fun bt357 => (spec_DrawDoInstruction.j0 k bt347.1 bt349.1 (wrap64 (2 + bt357.1)) bt341.1 bt357.2)) else (if bt347.1.toList = ([73] : List UInt8) then (spec_DrawDoInstruction.j0 k bt347.1 bt349.1 0 bt341.1 bt354.2) else (if bt347.1.toList = ([64] : List UInt8) then ((spec_l8Draw.f k bt341.1 bt354.2 1 bt349.1).bind fun bt359 => ((spec_l8Draw.f k bt341.1 bt359.2.2.2 0 bt349.1).bind fun bt367 => (some (bt347.1, (([(⟨bt359.1, (⟨bt359.2.1, bt359.2.2.1⟩ : S29)⟩ : S31), (⟨bt367.1, (⟨bt367.2.1, bt367.2.2.1⟩ : S29)⟩ : S31)] : List (S31))))))) else ((spec_l13Find.f k (⟨#[43, 42, 94, 45, 61, 60]⟩ : ByteArray) (bt (bt347.1 ++ (⟨#[32]⟩ : ByteArray)) 0)).bind fun t378 => (if t378 ≥ 0 then ((spec_l8Draw.f k bt341.1 bt354.2 0 bt349.1).bind fun bt379 => ((spec_l13Rd_pick.f k bt341.1 bt379.2.2.2 10).bind fun bt387 => ((spec_l8Draw.f k bt341.1 bt387.2 0 (wrap64 (bt349.1 + (wrap64 (Int.tdiv bt387.1 9))))).bind fun bt389 => (some (bt347.1, (([(⟨bt379.1, (⟨bt379.2.1, bt379.2.2.1⟩ : S29)⟩ : S31), (⟨bt389.1, (⟨bt389.2.1, bt389.2.2.1⟩ : S29)⟩ : S31)] : List (S31)))))))) else (spec_DrawDoInstruction.j0 k bt347.1 bt349.1 bt354.1 bt341.1 bt354.2)))))))) else (none)) else (none)))))
abbrev W7 (r1 : ByteArray) (r2 : List (S31)) (w : World) (ro : Nat → Prop) (B : Nat) (p : List Nat) (j : List (St → Prop)) (σ : St) : Prop := Kp (WS TE (cx0 Tryz.f7 none w ro B) (stkAt p j (bodyOf Tryz.f7) []) σ (RetQ TE Tryz.f7 none [.ro (.v (.string r1)), .own 31 3 (r31 r2)] [] w ro B))
def S7j0 (k : Nat) : Prop := ∀ r1 r2 w ro B (_ : Fr TE (cx0 Tryz.f7 none w ro B)) x5 x6 x7 x344000 x344001 (_ : spec_DrawDoInstruction.j0 k x5 x6 x7 x344000 x344001 = some (r1, r2)), W7 r1 r2 w ro B [1, 1, 1, 1, 1, 0, 9] [] ⟨[(4, .pt 1004 0 0), (5, .v (.string x5)), (6, .i x6), (7, .i x7)], [(1004, .box 0 105 false [.sl 1 (rX (cI .u8) x344000), .i x344001])]⟩
structure C7 (k : Nat) : Prop where
 s_j0 : S7j0 k
theorem c7j0 (k : Nat) (ih : Kp (∀ m, m < k → C7 m)) : S7j0 k := by
 intro r1 r2 w ro B hF
 intro x5 x6 x7 x344000 x344001 h
 refine ⟨?_⟩
 cases k with
 | zero => simp [spec_DrawDoInstruction.j0] at h
 | succ k =>
 simp only [spec_DrawDoInstruction.j0] at h
 obtain ⟨⟨t400, t401⟩, q20, h⟩ := ib h
 dsimp only at h
 have q20c := spec_l13Rd_pick.ctr k _ _ _ _ _ q20
 rcases ic h with ⟨c21, h⟩ | ⟨c21, h⟩
 · obtain ⟨⟨t402, t403, t406, t409⟩, q22, h⟩ := ib h
   dsimp only at h
   have q22c := spec_l8Some.ctr k _ _ _ _ _ _ q22
   obtain ⟨⟨t410, t411, t414, t417⟩, q23, h⟩ := ib h
   dsimp only at h
   have q23c := spec_l8Some.ctr k _ _ _ _ _ _ q23
   refine pk 7 hF [.r [.ro (.i t400)] [.sl 1 (rX (cI .u8) x344000), .i t401], .t, .r [.ro (.ag [.i t402, .sl 1 (rX (cL (cI .i64) 1) t403), .sl 1 (rX (cI .i64) t406)])] [.sl 1 (rX (cI .u8) x344000), .i t409], .r [.ro (.ag [.i t410, .sl 1 (rX (cL (cI .i64) 1) t411), .sl 1 (rX (cI .i64) t414)])] [.sl 1 (rX (cI .u8) x344000), .i t417], .p 70 ([[.i t402, .sl 1 (rX (cL (cI .i64) 1) t403), .sl 1 (rX (cI .i64) t406)], [.i t410, .sl 1 (rX (cL (cI .i64) 1) t411), .sl 1 (rX (cI .i64) t414)]])] [] rfl KD ?_
   cases h
   exact rr [.ro, .own] rfl KD
 · obtain ⟨⟨t421, t422, t425, t428⟩, q24, h⟩ := ib h
   dsimp only at h
   have q24c := spec_l8Draw.ctr k _ _ _ _ _ _ _ _ q24
   refine pk 8 hF [.r [.ro (.i t400)] [.sl 1 (rX (cI .u8) x344000), .i t401], .f, .r [.ro (.ag [.i t421, .sl 1 (rX (cL (cI .i64) 1) t422), .sl 1 (rX (cI .i64) t425)])] [.sl 1 (rX (cI .u8) x344000), .i t428], .p 76 ([[.i t421, .sl 1 (rX (cL (cI .i64) 1) t422), .sl 1 (rX (cI .i64) t425)]])] [] rfl KD ?_
   cases h
   exact rr [.ro, .own] rfl KD
theorem cs7 (k : Nat) : C7 k := by
 induction k using Nat.strongRecOn with
 | _ k ih0 =>
 have ih : Kp (∀ m, m < k → C7 m) := ⟨ih0⟩
 exact ⟨c7j0 k ih⟩
theorem spec_DrawDoInstruction.ctr (k : Nat) (l0 : List Int) (r1 : ByteArray) (r2 : List (S31)) (h : spec_DrawDoInstruction.f k l0 = some (r1, r2)) : Ctr TE 7 none [.sl 1 (rX (cI .u8) l0)] [.ro (.v (.string r1)), .own 31 3 (r31 r2)] [] := by
 refine co Tryz.func7 (by kernel_rfl) (by kernel_rfl) fun w ro B hF => ?_
 have ih : Kp (∀ m, m < k + 1 → C7 m) := ⟨fun m _ => cs7 m⟩
 simp only [spec_DrawDoInstruction.f] at h
 obtain ⟨⟨t341, t342⟩, q1, h⟩ := ib h
 dsimp only at h
 have q1c := spec_l13Open.ctr _ _ _ q1
 obtain ⟨⟨t347, t348⟩, q2, h⟩ := ib h
 dsimp only at h
 have q2c := spec_l13Rd_of.ctr k _ _ _ _ _ q2
 obtain ⟨⟨t349, t350⟩, q3, h⟩ := ib h
 dsimp only at h
 have q3c := spec_l13Rd_pick.ctr k _ _ _ _ _ q3
 obtain ⟨⟨t354, t355⟩, q4, h⟩ := ib h
 dsimp only at h
 have q4c := spec_l13Rd_num.ctr k _ _ _ _ _ q4
 obtain ⟨c5, h⟩ := ig h
 obtain ⟨c6, h⟩ := ig h
 obtain ⟨t356, q7, h⟩ := ib h
 have q7c := spec_l13Find.ctr k _ _ _ q7
 rcases ic h with ⟨c8, h⟩ | ⟨c8, h⟩
 · refine pk 17 hF [.r [.nb 105 [.sl 1 (rX (cI .u8) t341), .i t342]] [], .p 11 ([[.v (.string (⟨#[83]⟩ : ByteArray))], [.v (.string (⟨#[77]⟩ : ByteArray))], [.v (.string (⟨#[73]⟩ : ByteArray))], [.v (.string (⟨#[78]⟩ : ByteArray))], [.v (.string (⟨#[82]⟩ : ByteArray))], [.v (.string (⟨#[67]⟩ : ByteArray))], [.v (.string (⟨#[80]⟩ : ByteArray))], [.v (.string (⟨#[43]⟩ : ByteArray))], [.v (.string (⟨#[42]⟩ : ByteArray))], [.v (.string (⟨#[94]⟩ : ByteArray))], [.v (.string (⟨#[45]⟩ : ByteArray))], [.v (.string (⟨#[61]⟩ : ByteArray))], [.v (.string (⟨#[60]⟩ : ByteArray))], [.v (.string (⟨#[64]⟩ : ByteArray))], [.v (.string (⟨#[91, 120]⟩ : ByteArray))], [.v (.string (⟨#[]⟩ : ByteArray))], [.v (.string (⟨#[51]⟩ : ByteArray))]]), .r [.ro (.v (.string t347))] [.sl 1 (rX (cI .u8) t341), .i t348], .r [.ro (.i t349)] [.sl 1 (rX (cI .u8) t341), .i t350], .p 16 ([[.i 1], [.i 0], [.i 2], [.i 1], [.i 3]]), .r [.ro (.i t354)] [.sl 1 (rX (cI .u8) t341), .i t355], .r [.ro (.i t356)] [], .t] [] rfl KD ?_
   exact WS.can [(1004, some 100144)] ((ih.a.s_j0  r1 r2 w ro B hF t347 t349 1 t341 t355 h).out) KD
 · rcases ic h with ⟨c9, h⟩ | ⟨c9, h⟩
   · obtain ⟨⟨t357, t358⟩, q10, h⟩ := ib h
     dsimp only at h
     have q10c := spec_l13Rd_pick.ctr k _ _ _ _ _ q10
     refine pk 20 hF [.r [.nb 105 [.sl 1 (rX (cI .u8) t341), .i t342]] [], .p 11 ([[.v (.string (⟨#[83]⟩ : ByteArray))], [.v (.string (⟨#[77]⟩ : ByteArray))], [.v (.string (⟨#[73]⟩ : ByteArray))], [.v (.string (⟨#[78]⟩ : ByteArray))], [.v (.string (⟨#[82]⟩ : ByteArray))], [.v (.string (⟨#[67]⟩ : ByteArray))], [.v (.string (⟨#[80]⟩ : ByteArray))], [.v (.string (⟨#[43]⟩ : ByteArray))], [.v (.string (⟨#[42]⟩ : ByteArray))], [.v (.string (⟨#[94]⟩ : ByteArray))], [.v (.string (⟨#[45]⟩ : ByteArray))], [.v (.string (⟨#[61]⟩ : ByteArray))], [.v (.string (⟨#[60]⟩ : ByteArray))], [.v (.string (⟨#[64]⟩ : ByteArray))], [.v (.string (⟨#[91, 120]⟩ : ByteArray))], [.v (.string (⟨#[]⟩ : ByteArray))], [.v (.string (⟨#[51]⟩ : ByteArray))]]), .r [.ro (.v (.string t347))] [.sl 1 (rX (cI .u8) t341), .i t348], .r [.ro (.i t349)] [.sl 1 (rX (cI .u8) t341), .i t350], .p 16 ([[.i 1], [.i 0], [.i 2], [.i 1], [.i 3]]), .r [.ro (.i t354)] [.sl 1 (rX (cI .u8) t341), .i t355], .r [.ro (.i t356)] [], .f, .t, .r [.ro (.i t357)] [.sl 1 (rX (cI .u8) t341), .i t358]] [] rfl KD ?_
     exact WS.can [(1004, some 100144)] ((ih.a.s_j0  r1 r2 w ro B hF t347 t349 (wrap64 (2 + t357)) t341 t358 h).out) KD
   · rcases ic h with ⟨c11, h⟩ | ⟨c11, h⟩
     · refine pk 23 hF [.r [.nb 105 [.sl 1 (rX (cI .u8) t341), .i t342]] [], .p 11 ([[.v (.string (⟨#[83]⟩ : ByteArray))], [.v (.string (⟨#[77]⟩ : ByteArray))], [.v (.string (⟨#[73]⟩ : ByteArray))], [.v (.string (⟨#[78]⟩ : ByteArray))], [.v (.string (⟨#[82]⟩ : ByteArray))], [.v (.string (⟨#[67]⟩ : ByteArray))], [.v (.string (⟨#[80]⟩ : ByteArray))], [.v (.string (⟨#[43]⟩ : ByteArray))], [.v (.string (⟨#[42]⟩ : ByteArray))], [.v (.string (⟨#[94]⟩ : ByteArray))], [.v (.string (⟨#[45]⟩ : ByteArray))], [.v (.string (⟨#[61]⟩ : ByteArray))], [.v (.string (⟨#[60]⟩ : ByteArray))], [.v (.string (⟨#[64]⟩ : ByteArray))], [.v (.string (⟨#[91, 120]⟩ : ByteArray))], [.v (.string (⟨#[]⟩ : ByteArray))], [.v (.string (⟨#[51]⟩ : ByteArray))]]), .r [.ro (.v (.string t347))] [.sl 1 (rX (cI .u8) t341), .i t348], .r [.ro (.i t349)] [.sl 1 (rX (cI .u8) t341), .i t350], .p 16 ([[.i 1], [.i 0], [.i 2], [.i 1], [.i 3]]), .r [.ro (.i t354)] [.sl 1 (rX (cI .u8) t341), .i t355], .r [.ro (.i t356)] [], .f, .f, .t] [] rfl KD ?_
       exact WS.can [(1004, some 100144)] ((ih.a.s_j0  r1 r2 w ro B hF t347 t349 0 t341 t355 h).out) KD
     · rcases ic h with ⟨c12, h⟩ | ⟨c12, h⟩
       · obtain ⟨⟨t359, t360, t363, t366⟩, q13, h⟩ := ib h
         dsimp only at h
         have q13c := spec_l8Draw.ctr k _ _ _ _ _ _ _ _ q13
         obtain ⟨⟨t367, t368, t371, t374⟩, q14, h⟩ := ib h
         dsimp only at h
         have q14c := spec_l8Draw.ctr k _ _ _ _ _ _ _ _ q14
         refine pk 27 hF [.r [.nb 105 [.sl 1 (rX (cI .u8) t341), .i t342]] [], .p 11 ([[.v (.string (⟨#[83]⟩ : ByteArray))], [.v (.string (⟨#[77]⟩ : ByteArray))], [.v (.string (⟨#[73]⟩ : ByteArray))], [.v (.string (⟨#[78]⟩ : ByteArray))], [.v (.string (⟨#[82]⟩ : ByteArray))], [.v (.string (⟨#[67]⟩ : ByteArray))], [.v (.string (⟨#[80]⟩ : ByteArray))], [.v (.string (⟨#[43]⟩ : ByteArray))], [.v (.string (⟨#[42]⟩ : ByteArray))], [.v (.string (⟨#[94]⟩ : ByteArray))], [.v (.string (⟨#[45]⟩ : ByteArray))], [.v (.string (⟨#[61]⟩ : ByteArray))], [.v (.string (⟨#[60]⟩ : ByteArray))], [.v (.string (⟨#[64]⟩ : ByteArray))], [.v (.string (⟨#[91, 120]⟩ : ByteArray))], [.v (.string (⟨#[]⟩ : ByteArray))], [.v (.string (⟨#[51]⟩ : ByteArray))]]), .r [.ro (.v (.string t347))] [.sl 1 (rX (cI .u8) t341), .i t348], .r [.ro (.i t349)] [.sl 1 (rX (cI .u8) t341), .i t350], .p 16 ([[.i 1], [.i 0], [.i 2], [.i 1], [.i 3]]), .r [.ro (.i t354)] [.sl 1 (rX (cI .u8) t341), .i t355], .r [.ro (.i t356)] [], .f, .f, .f, .t, .r [.ro (.ag [.i t359, .sl 1 (rX (cL (cI .i64) 1) t360), .sl 1 (rX (cI .i64) t363)])] [.sl 1 (rX (cI .u8) t341), .i t366], .r [.ro (.ag [.i t367, .sl 1 (rX (cL (cI .i64) 1) t368), .sl 1 (rX (cI .i64) t371)])] [.sl 1 (rX (cI .u8) t341), .i t374], .p 43 ([[.i t359, .sl 1 (rX (cL (cI .i64) 1) t360), .sl 1 (rX (cI .i64) t363)], [.i t367, .sl 1 (rX (cL (cI .i64) 1) t368), .sl 1 (rX (cI .i64) t371)]])] [] rfl KD ?_
         cases h
         exact rr [.ro, .own] rfl KD
       · obtain ⟨t378, q15, h⟩ := ib h
         have q15c := spec_l13Find.ctr k _ _ _ q15
         rcases ic h with ⟨c16, h⟩ | ⟨c16, h⟩
         · obtain ⟨⟨t379, t380, t383, t386⟩, q17, h⟩ := ib h
           dsimp only at h
           have q17c := spec_l8Draw.ctr k _ _ _ _ _ _ _ _ q17
           obtain ⟨⟨t387, t388⟩, q18, h⟩ := ib h
           dsimp only at h
           have q18c := spec_l13Rd_pick.ctr k _ _ _ _ _ q18
           obtain ⟨⟨t389, t390, t393, t396⟩, q19, h⟩ := ib h
           dsimp only at h
           have q19c := spec_l8Draw.ctr k _ _ _ _ _ _ _ _ q19
           refine pk 30 hF [.r [.nb 105 [.sl 1 (rX (cI .u8) t341), .i t342]] [], .p 11 ([[.v (.string (⟨#[83]⟩ : ByteArray))], [.v (.string (⟨#[77]⟩ : ByteArray))], [.v (.string (⟨#[73]⟩ : ByteArray))], [.v (.string (⟨#[78]⟩ : ByteArray))], [.v (.string (⟨#[82]⟩ : ByteArray))], [.v (.string (⟨#[67]⟩ : ByteArray))], [.v (.string (⟨#[80]⟩ : ByteArray))], [.v (.string (⟨#[43]⟩ : ByteArray))], [.v (.string (⟨#[42]⟩ : ByteArray))], [.v (.string (⟨#[94]⟩ : ByteArray))], [.v (.string (⟨#[45]⟩ : ByteArray))], [.v (.string (⟨#[61]⟩ : ByteArray))], [.v (.string (⟨#[60]⟩ : ByteArray))], [.v (.string (⟨#[64]⟩ : ByteArray))], [.v (.string (⟨#[91, 120]⟩ : ByteArray))], [.v (.string (⟨#[]⟩ : ByteArray))], [.v (.string (⟨#[51]⟩ : ByteArray))]]), .r [.ro (.v (.string t347))] [.sl 1 (rX (cI .u8) t341), .i t348], .r [.ro (.i t349)] [.sl 1 (rX (cI .u8) t341), .i t350], .p 16 ([[.i 1], [.i 0], [.i 2], [.i 1], [.i 3]]), .r [.ro (.i t354)] [.sl 1 (rX (cI .u8) t341), .i t355], .r [.ro (.i t356)] [], .f, .f, .f, .f, .r [.ro (.i t378)] [], .t, .r [.ro (.ag [.i t379, .sl 1 (rX (cL (cI .i64) 1) t380), .sl 1 (rX (cI .i64) t383)])] [.sl 1 (rX (cI .u8) t341), .i t386], .r [.ro (.i t387)] [.sl 1 (rX (cI .u8) t341), .i t388], .e 58 (.i (wrap64 (Int.tdiv t387 9))), .r [.ro (.ag [.i t389, .sl 1 (rX (cL (cI .i64) 1) t390), .sl 1 (rX (cI .i64) t393)])] [.sl 1 (rX (cI .u8) t341), .i t396], .p 61 ([[.i t379, .sl 1 (rX (cL (cI .i64) 1) t380), .sl 1 (rX (cI .i64) t383)], [.i t389, .sl 1 (rX (cL (cI .i64) 1) t390), .sl 1 (rX (cI .i64) t393)]])] [] rfl KD ?_
           cases h
           exact rr [.ro, .own] rfl KD
         · refine pk 29 hF [.r [.nb 105 [.sl 1 (rX (cI .u8) t341), .i t342]] [], .p 11 ([[.v (.string (⟨#[83]⟩ : ByteArray))], [.v (.string (⟨#[77]⟩ : ByteArray))], [.v (.string (⟨#[73]⟩ : ByteArray))], [.v (.string (⟨#[78]⟩ : ByteArray))], [.v (.string (⟨#[82]⟩ : ByteArray))], [.v (.string (⟨#[67]⟩ : ByteArray))], [.v (.string (⟨#[80]⟩ : ByteArray))], [.v (.string (⟨#[43]⟩ : ByteArray))], [.v (.string (⟨#[42]⟩ : ByteArray))], [.v (.string (⟨#[94]⟩ : ByteArray))], [.v (.string (⟨#[45]⟩ : ByteArray))], [.v (.string (⟨#[61]⟩ : ByteArray))], [.v (.string (⟨#[60]⟩ : ByteArray))], [.v (.string (⟨#[64]⟩ : ByteArray))], [.v (.string (⟨#[91, 120]⟩ : ByteArray))], [.v (.string (⟨#[]⟩ : ByteArray))], [.v (.string (⟨#[51]⟩ : ByteArray))]]), .r [.ro (.v (.string t347))] [.sl 1 (rX (cI .u8) t341), .i t348], .r [.ro (.i t349)] [.sl 1 (rX (cI .u8) t341), .i t350], .p 16 ([[.i 1], [.i 0], [.i 2], [.i 1], [.i 3]]), .r [.ro (.i t354)] [.sl 1 (rX (cI .u8) t341), .i t355], .r [.ro (.i t356)] [], .f, .f, .f, .f, .r [.ro (.i t378)] [], .f] [] rfl KD ?_
           exact WS.can [(1004, some 100144)] ((ih.a.s_j0  r1 r2 w ro B hF t347 t349 t354 t341 t355 h).out) KD
def impl_total.l0 : Nat → Int → List Int → Int → Int → Option (Int)
  | 0, _, _, _, _ => none
  | k + 1, x3, x6, x7, x8 => if x8 < x7 then (if 0 ≤ x8 then (if x8 < (x6.length : Int) then (impl_total.l0 k (wrap64 (x3 + (rd x6 x8))) x6 x7 (wrap64 (x8 + 1))) else (none)) else (none)) else (some x3)
def impl_total.f (k : Nat) (l0 : List Int) : Option (Int) := impl_total.l0 k 0 l0 (l0.length : Int) 0
def I87_0 (r : Int) (m : Nat) (σ : St) : Prop := ∃ (x3 : Int) (x6 : List Int) (x7 : Int) (x8 : Int), impl_total.l0 m x3 x6 x7 x8 = some r ∧ σ = ⟨[(3, .i x3), (6, .sl 1 (rX (cI .i64) x6)), (7, .i x7), (8, .i x8)], []⟩
abbrev W87 (r : Int) (w : World) (ro : Nat → Prop) (B : Nat) (p : List Nat) (j : List (St → Prop)) (σ : St) : Prop := Kp (WS TE (cx0 Tryz.f87 none w ro B) (stkAt p j (bodyOf Tryz.f87) []) σ (RetQ TE Tryz.f87 none [.ro (.i r)] [] w ro B))
def S87l0 (k : Nat) : Prop := ∀ r w ro B (_ : Fr TE (cx0 Tryz.f87 none w ro B)) (σ : St) (_ : I87_0 r k σ), W87 r w ro B [1, 1, 0, 1, 0] [] σ
structure C87 (k : Nat) : Prop where
 s_l0 : S87l0 k
theorem c87l0 (k : Nat) (ih : Kp (∀ m, m < k → C87 m)) : S87l0 k := by
 intro r w ro B hF
 intro σ h0
 refine ⟨WS.loop (fun m σ => m ≤ k ∧ I87_0 r m σ) k ⟨Nat.le_refl k, h0⟩ (fun m σ' hI J0 hJ0 => ?_)⟩
 clear h0
 obtain ⟨hk, x3, x6, x7, x8, h, rfl⟩ := hI
 cases m with
 | zero => simp [impl_total.l0] at h
 | succ k' =>
 simp only [impl_total.l0] at h
 rcases ic h with ⟨c1, h⟩ | ⟨c1, h⟩
 · obtain ⟨c2, h⟩ := ig h
   obtain ⟨c3, h⟩ := ig h
   refine pk 12 hF [.t, .e 10 (.rf [.i (rd x6 x8)])] [] rfl KD ?_
   exact WS.lpc [] (hJ0 _ _ (Nat.lt_succ_self _) ⟨by omega, (wrap64 (x3 + (rd x6 x8))), x6, x7, (wrap64 (x8 + 1)), h, rfl⟩) KD
 · refine pk 8 hF [.f] [] rfl KD ?_
   cases h
   exact rr [.ro] rfl KD
theorem cs87 (k : Nat) : C87 k := by
 induction k using Nat.strongRecOn with
 | _ k ih0 =>
 have ih : Kp (∀ m, m < k → C87 m) := ⟨ih0⟩
 exact ⟨c87l0 k ih⟩
theorem impl_total.ctr (k : Nat) (l0 : List Int) (r : Int) (h : impl_total.f k l0 = some r) : Ctr TE 87 none [.sl 1 (rX (cI .i64) l0)] [.ro (.i r)] [] := by
 refine co Tryz.func87 (by kernel_rfl) (by kernel_rfl) fun w ro B hF => ?_
 have ih : Kp (∀ m, m < k + 1 → C87 m) := ⟨fun m _ => cs87 m⟩
 simp only [impl_total.f] at h
 refine pk 8 hF [.e 7 (.i (l0.length : Int))] [] rfl KD ?_
 exact WS.can [] ((ih.a.s_l0  r w ro B hF _ ⟨0, l0, (l0.length : Int), 0, h, rfl⟩).out) KD
end Go.Proofs.YtjkngiciigdheaaGreatDoor.K
