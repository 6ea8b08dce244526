/- A part of the claim. -/
import Derived.Test.YtjkngiciigdheaaGreatDoorKFx0
import Derived.Test.YtjkngiciigdheaaGreatDoorKFx3
import Derived.Test.YtjkngiciigdheaaGreatDoorKFx7
import Derived.Test.YtjkngiciigdheaaGreatDoorKFSgc
import Derived.Test.YtjkngiciigdheaaGreatDoorKFx2
import Derived.Test.YtjkngiciigdheaaGreatDoorKFx5
namespace Go.Proofs.YtjkngiciigdheaaGreatDoor.K
open Go.RowKit Go.Proofs.YtjkngiciigdheaaGreatDoorW.St Go.Proofs.YtjkngiciigdheaaGreatDoorW.PrintWords Go.Proofs.YtjkngiciigdheaaGreatDoorW.PrintLast Go.Proofs.YtjkngiciigdheaaGreatDoorW.PrintMore
set_option linter.unusedVariables false
set_option linter.unusedSimpArgs false
set_option maxRecDepth 100000
set_option maxHeartbeats 4000000
def laws_faLists.l0 : Nat → List (List Int) → List (List Int) → Int → Int → Option (Bool)
  | 0, _, _, _, _ => none
  | k + 1, x0, x1, x10, x11 => if x11 < x10 then (if 0 ≤ x11 then (if x11 < (x0.length : Int) then (if x11 < (x1.length : Int) then ((laws_faSame.f k (rd_L1 x0 x11) (rd_L1 x1 x11)).bind fun t1011 => (if t1011 = true then (laws_faLists.l0 k x0 x1 x10 (wrap64 (x11 + 1))) else (some false))) else (none)) else (none)) else (none)) else (some ((x0.length : Int) == (x1.length : Int)))
def laws_faLists.f (k : Nat) (l0 : List (List Int)) (l1 : List (List Int)) : Option (Bool) := laws_faLists.l0 k l0 l1 (mn (l0.length : Int) (l1.length : Int)) 0
def I82_0 (r : Bool) (m : Nat) (σ : St) : Prop := ∃ (x0 : List (List Int)) (x1 : List (List Int)) (x10 : Int) (x11 : Int), laws_faLists.l0 m x0 x1 x10 x11 = some r ∧ σ = ⟨[(0, .sl 1 (rX (cL (cI .i64) 1) x0)), (1, .sl 1 (rX (cL (cI .i64) 1) x1)), (10, .i x10), (11, .i x11)], []⟩
abbrev W82 (r : Bool) (w : World) (ro : Nat → Prop) (B : Nat) (p : List Nat) (j : List (St → Prop)) (σ : St) : Prop := Kp (WS TE (cx0 Tryz.f82 none w ro B) (stkAt p j (bodyOf Tryz.f82) []) σ (RetQ TE Tryz.f82 none [.ro (.v (.bool r))] [] w ro B))
def S82l0 (k : Nat) : Prop := ∀ r w ro B (_ : Fr TE (cx0 Tryz.f82 none w ro B)) (σ : St) (_ : I82_0 r k σ), W82 r w ro B [1, 0, 1, 0] [] σ
structure C82 (k : Nat) : Prop where
 s_l0 : S82l0 k
theorem c82l0 (k : Nat) (ih : Kp (∀ m, m < k → C82 m)) : S82l0 k := by
 intro r w ro B hF
 intro σ h0
 refine ⟨WS.loop (fun m σ => m ≤ k ∧ I82_0 r m σ) k ⟨Nat.le_refl k, h0⟩ (fun m σ' hI J0 hJ0 => ?_)⟩
 clear h0
 obtain ⟨hk, x0, x1, x10, x11, h, rfl⟩ := hI
 cases m with
 | zero => simp [laws_faLists.l0] at h
 | succ k' =>
 simp only [laws_faLists.l0] at h
 rcases ic h with ⟨c1, h⟩ | ⟨c1, h⟩
 · obtain ⟨c2, h⟩ := ig h
   obtain ⟨c3, h⟩ := ig h
   obtain ⟨c4, h⟩ := ig h
   obtain ⟨t1011, q5, h⟩ := ib h
   have q5c := laws_faSame.ctr k' _ _ _ q5
   rcases ic h with ⟨c6, h⟩ | ⟨c6, h⟩
   · refine pk 15 hF [.t, .e 16 (.rf [.sl 1 (rX (cI .i64) (rd_L1 x0 x11))]), .e 20 (.rf [.sl 1 (rX (cI .i64) (rd_L1 x1 x11))]), .r [.ro (.v (.bool t1011))] [], .f] [.o [(0, 0), (1, 0), (2, 0), (3, 1), (4, 0), (5, 0), (6, 0), (7, 1), (8, 2), (9, 0)] []] rfl KD ?_
     exact WS.lpc [] (hJ0 _ _ (Nat.lt_succ_self _) ⟨by omega, x0, x1, x10, (wrap64 (x11 + 1)), h, rfl⟩) KD
   · refine pk 15 hF [.t, .e 16 (.rf [.sl 1 (rX (cI .i64) (rd_L1 x0 x11))]), .e 20 (.rf [.sl 1 (rX (cI .i64) (rd_L1 x1 x11))]), .r [.ro (.v (.bool t1011))] [], .t] [.o [(0, 0), (1, 0), (2, 0), (3, 1), (4, 0), (5, 0), (6, 0), (7, 1), (8, 2), (9, 0)] []] rfl KD ?_
     cases h
     exact rr [.ro] rfl KD
 · refine pk 8 hF [.f, .e 26 (.i (x0.length : Int)), .e 28 (.i (x1.length : Int))] [] rfl KD ?_
   cases h
   exact rr [.ro] rfl KD
theorem cs82 (k : Nat) : C82 k := by
 induction k using Nat.strongRecOn with
 | _ k ih0 =>
 have ih : Kp (∀ m, m < k → C82 m) := ⟨ih0⟩
 exact ⟨c82l0 k ih⟩
theorem laws_faLists.ctr (k : Nat) (l0 : List (List Int)) (l1 : List (List Int)) (r : Bool) (h : laws_faLists.f k l0 l1 = some r) : Ctr TE 82 none [.sl 1 (rX (cL (cI .i64) 1) l0), .sl 1 (rX (cL (cI .i64) 1) l1)] [.ro (.v (.bool r))] [] := by
 refine co Tryz.func82 (by kernel_rfl) (by kernel_rfl) fun w ro B hF => ?_
 have ih : Kp (∀ m, m < k + 1 → C82 m) := ⟨fun m _ => cs82 m⟩
 simp only [laws_faLists.f] at h
 refine pk 6 hF [.e 7 (.i (l0.length : Int)), .e 9 (.i (l1.length : Int))] [] rfl KD ?_
 exact WS.can [] ((ih.a.s_l0  r w ro B hF _ ⟨l0, l1, (mn (l0.length : Int) (l1.length : Int)), 0, h, rfl⟩).out) KD
def laws_faLayout.f (k : Nat) (l0_0 : List (List Int)) (l0_1 : List Int) (l1_0 : List (List Int)) (l1_1 : List Int) : Option (Bool) := (laws_faLists.f k l0_0 l1_0).bind fun t1014 => (if t1014 = true then ((laws_faSame.f k l0_1 l1_1).bind fun t1015 => (some t1015)) else (some false))
theorem laws_faLayout.ctr (k : Nat) (l0_0 : List (List Int)) (l0_1 : List Int) (l1_0 : List (List Int)) (l1_1 : List Int) (r : Bool) (h : laws_faLayout.f k l0_0 l0_1 l1_0 l1_1 = some r) : Ctr TE 46 none [.ag [.sl 1 (rX (cL (cI .i64) 1) l0_0), .sl 1 (rX (cI .i64) l0_1)], .ag [.sl 1 (rX (cL (cI .i64) 1) l1_0), .sl 1 (rX (cI .i64) l1_1)]] [.ro (.v (.bool r))] [] := by
 refine co Tryz.func46 (by kernel_rfl) (by kernel_rfl) fun w ro B hF => ?_
 simp only [laws_faLayout.f] at h
 obtain ⟨t1014, q1, h⟩ := ib h
 have q1c := laws_faLists.ctr k _ _ _ q1
 rcases ic h with ⟨c2, h⟩ | ⟨c2, h⟩
 · obtain ⟨t1015, q3, h⟩ := ib h
   have q3c := laws_faSame.ctr k _ _ _ q3
   refine pk 5 hF [.r [.ro (.v (.bool t1014))] [], .t, .t, .t, .t, .t, .r [.ro (.v (.bool t1015))] [], .t] [] rfl KD ?_
   cases h
   exact rr [.ro] rfl KD
 · refine pk 5 hF [.r [.ro (.v (.bool t1014))] [], .f, .f, .f, .f, .f, .f] [] rfl KD ?_
   cases h
   exact rr [.ro] rfl KD
def laws_faVector.f (k : Nat) (a0_0 : Int) (l0_1 : List (List Int)) (l0_2 : List Int) (a1_0 : Int) (l1_1 : List (List Int)) (l1_2 : List Int) : Option (Bool) := if a0_0 = a1_0 then ((laws_faLayout.f k l0_1 l0_2 l1_1 l1_2).bind fun t1018 => (some t1018)) else (some false)
theorem laws_faVector.ctr (k : Nat) (a0_0 : Int) (l0_1 : List (List Int)) (l0_2 : List Int) (a1_0 : Int) (l1_1 : List (List Int)) (l1_2 : List Int) (r : Bool) (h : laws_faVector.f k a0_0 l0_1 l0_2 a1_0 l1_1 l1_2 = some r) : Ctr TE 10 none [.ag [.i a0_0, .sl 1 (rX (cL (cI .i64) 1) l0_1), .sl 1 (rX (cI .i64) l0_2)], .ag [.i a1_0, .sl 1 (rX (cL (cI .i64) 1) l1_1), .sl 1 (rX (cI .i64) l1_2)]] [.ro (.v (.bool r))] [] := by
 refine co Tryz.func10 (by kernel_rfl) (by kernel_rfl) fun w ro B hF => ?_
 simp only [laws_faVector.f] at h
 rcases ic h with ⟨c1, h⟩ | ⟨c1, h⟩
 · obtain ⟨t1018, q2, h⟩ := ib h
   have q2c := laws_faLayout.ctr k _ _ _ _ _ q2
   refine pk 5 hF [.t, .t, .t, .t, .t, .r [.ro (.v (.bool t1018))] [], .t] [] rfl KD ?_
   cases h
   exact rr [.ro] rfl KD
 · refine pk 5 hF [.f, .f, .f, .f, .f, .f] [] rfl KD ?_
   cases h
   exact rr [.ro] rfl KD
mutual
def impl_arr_text.l0 : Nat → Int → List ByteArray → List (S70) → Int → Int → Option (ByteArray)
  | 0, _, _, _, _, _ => none
  | k + 1, x1, x5, x15, x16, x17 => if x17 < x16 then (if 0 ≤ x17 then (if x17 < (x15.length : Int) then ((impl_arr_text.f k ((rd_T70 x15 x17).f0) ((rd_T70 x15 x17).f1) (wrap64 (x1 - 1))).bind fun t1026 => (if x5.length < 8796093022208 then (impl_arr_text.l0 k x1 (x5 ++ [t1026]) x15 x16 (wrap64 (x17 + 1))) else (none))) else (none)) else (none)) else ((strings_Join.f x5 (⟨#[44]⟩ : ByteArray)).bind fun t1030 => (if 1 + t1030.size ≤ 9223372036854775807 then (if 1 + t1030.size + 1 ≤ 9223372036854775807 then (some (((⟨#[91]⟩ : ByteArray) ++ t1030) ++ (⟨#[93]⟩ : ByteArray))) else (none)) else (none)))
def impl_arr_text.f : Nat → Int → List (S70) → Int → Option (ByteArray)
  | 0, _, _, _ => none
  | k + 1, a0_0, l0_1, a1 => if a1 = 0 then ((strconv_Itoa.f a0_0).bind fun t1020 => (some t1020)) else (impl_arr_text.l0 k a1 (([] : List ByteArray)) l0_1 (l0_1.length : Int) 0)
end
def I84_0 (r : ByteArray) (m : Nat) (σ : St) : Prop := ∃ (x1 : Int) (x5 : List ByteArray) (x15 : List (S70)) (x16 : Int) (x17 : Int), impl_arr_text.l0 m x1 x5 x15 x16 x17 = some r ∧ σ = ⟨[(1, .i x1), (5, .ow 1005 0), (15, .sl 2 (r70 x15)), (16, .i x16), (17, .i x17)], [(1005, .own 0 9 1 (rX cS x5))]⟩
abbrev W84 (r : ByteArray) (w : World) (ro : Nat → Prop) (B : Nat) (p : List Nat) (j : List (St → Prop)) (σ : St) : Prop := Kp (WS TE (cx0 Tryz.f84 none w ro B) (stkAt p j (bodyOf Tryz.f84) []) σ (RetQ TE Tryz.f84 none [.ro (.v (.string r))] [] w ro B))
def S84l0 (k : Nat) : Prop := ∀ r w ro B (_ : Fr TE (cx0 Tryz.f84 none w ro B)) (σ : St) (_ : I84_0 r k σ), W84 r w ro B [1, 1, 1, 0, 1, 0] [] σ
structure C84 (k : Nat) : Prop where
 s_f : ∀ (a0_0 : Int) (l0_1 : List (S70)) (a1 : Int) (r : ByteArray), impl_arr_text.f k a0_0 l0_1 a1 = some r → Ctr TE 84 none [.ag [.i a0_0, .sl 2 (r70 l0_1)], .i a1] [.ro (.v (.string r))] []
 s_l0 : S84l0 k
theorem c84f (k : Nat) (ih : Kp (∀ m, m < k → C84 m)) (a0_0 : Int) (l0_1 : List (S70)) (a1 : Int) (r : ByteArray) (h : impl_arr_text.f k a0_0 l0_1 a1 = some r) : Ctr TE 84 none [.ag [.i a0_0, .sl 2 (r70 l0_1)], .i a1] [.ro (.v (.string r))] [] := by
 cases k with
 | zero => simp [impl_arr_text.f] at h
 | succ k =>
 simp only [impl_arr_text.f] at h
 refine co Tryz.func84 (by kernel_rfl) (by kernel_rfl) fun w ro B hF => ?_
 rcases ic h with ⟨c1, h⟩ | ⟨c1, h⟩
 · obtain ⟨t1020, q2, h⟩ := ib h
   have q2c := strconv_Itoa.ctr _ _ q2
   refine pk 9 hF [.t, .r [.ro (.v (.string t1020))] []] [] rfl KD ?_
   cases h
   exact rr [.ro] rfl KD
 · refine pk 13 hF [.f, .p 13 ([]), .e 16 (.i (l0_1.length : Int))] [] rfl KD ?_
   exact WS.can [(1005, some 13)] ((ih.a.s_l0  r w ro B hF _ ⟨a1, (([] : List ByteArray)), l0_1, (l0_1.length : Int), 0, h, rfl⟩).out) KD
theorem c84l0 (k : Nat) (ih : Kp (∀ m, m < k → C84 m)) : S84l0 k := by
 intro r w ro B hF
 intro σ h0
 refine ⟨WS.loop (fun m σ => m ≤ k ∧ I84_0 r m σ) k ⟨Nat.le_refl k, h0⟩ (fun m σ' hI J0 hJ0 => ?_)⟩
 clear h0
 obtain ⟨hk, x1, x5, x15, x16, x17, h, rfl⟩ := hI
 cases m with
 | zero => simp [impl_arr_text.l0] at h
 | succ k' =>
 simp only [impl_arr_text.l0] at h
 rcases ic h with ⟨c3, h⟩ | ⟨c3, h⟩
 · obtain ⟨c4, h⟩ := ig h
   obtain ⟨c5, h⟩ := ig h
   obtain ⟨t1026, q6, h⟩ := ib h
   have q6c := (ih.out k' (by omega)).s_f _ _ _ _ q6
   obtain ⟨c7, h⟩ := ig h
   refine pk 12 hF [.t, .e 19 (.rf [.i ((rd_T70 x15 x17).f0), .sl 2 (r70 ((rd_T70 x15 x17).f1))]), .r [.ro (.v (.string t1026))] [], .p 26 ([[.v (.string t1026)]]), .o 27 (rX cS (x5 ++ [t1026]))] [] rfl KD ?_
   exact WS.lpc [(1005, some 1005)] (hJ0 _ _ (Nat.lt_succ_self _) ⟨by omega, x1, (x5 ++ [t1026]), x15, x16, (wrap64 (x17 + 1)), h, rfl⟩) KD
 · obtain ⟨t1030, q8, h⟩ := ib h
   have q8c := strings_Join.ctr _ _ _ q8
   obtain ⟨c9, h⟩ := ig h
   obtain ⟨c10, h⟩ := ig h
   refine pk 8 hF [.f, .r [.ro (.v (.string t1030))] []] [] rfl KD ?_
   cases h
   exact rr [.ro] rfl KD
theorem cs84 (k : Nat) : C84 k := by
 induction k using Nat.strongRecOn with
 | _ k ih0 =>
 have ih : Kp (∀ m, m < k → C84 m) := ⟨ih0⟩
 exact ⟨c84f k ih, c84l0 k ih⟩
theorem impl_arr_text.ctr (k : Nat) (a0_0 : Int) (l0_1 : List (S70)) (a1 : Int) (r : ByteArray) (h : impl_arr_text.f k a0_0 l0_1 a1 = some r) : Ctr TE 84 none [.ag [.i a0_0, .sl 2 (r70 l0_1)], .i a1] [.ro (.v (.string r))] [] := (cs84 k).s_f a0_0 l0_1 a1 r h
def impl_arr_short.f (k : Nat) (a0_0 : Int) (l0_1 : List (S70)) (a1 : Int) : Option (ByteArray × Bool) := (impl_arr_text.f k a0_0 l0_1 a1).bind fun t1032 => (if (t1032.size : Int) > 400 then (some ((⟨#[]⟩ : ByteArray), false)) else (some (t1032, true)))
theorem impl_arr_short.ctr (k : Nat) (a0_0 : Int) (l0_1 : List (S70)) (a1 : Int) (r1 : ByteArray) (r2 : Bool) (h : impl_arr_short.f k a0_0 l0_1 a1 = some (r1, r2)) : Ctr TE 47 none [.ag [.i a0_0, .sl 2 (r70 l0_1)], .i a1] [.ro (.v (.string r1)), .ro (.v (.bool r2))] [] := by
 refine co Tryz.func47 (by kernel_rfl) (by kernel_rfl) fun w ro B hF => ?_
 simp only [impl_arr_short.f] at h
 obtain ⟨t1032, q1, h⟩ := ib h
 have q1c := impl_arr_text.ctr k _ _ _ _ q1
 rcases ic h with ⟨c2, h⟩ | ⟨c2, h⟩
 · refine pk 11 hF [.r [.ro (.v (.string t1032))] [], .t] [] rfl KD ?_
   cases h
   exact rr [.ro, .ro] rfl KD
 · refine pk 12 hF [.r [.ro (.v (.string t1032))] [], .f] [] rfl KD ?_
   cases h
   exact rr [.ro, .ro] rfl KD
def impl_UnpackVector.l0 : Nat → List ByteArray → List (S70) → Int → Int → Int → List (List Int) → List Int → Option (List ByteArray × Bool)
  | 0, _, _, _, _, _, _, _ => none
  | k + 1, x4, x14, x15, x16, x1034000, x1034001, x1034002 => if x16 < x15 then (if 0 ≤ x16 then (if x16 < (x14.length : Int) then ((impl_arr_short.f k ((rd_T70 x14 x16).f0) ((rd_T70 x14 x16).f1) (x1034001.length : Int)).bind fun bt1043 => (if bt1043.2 = true then (if x4.length < 8796093022208 then (impl_UnpackVector.l0 k (x4 ++ [bt1043.1]) x14 x15 (wrap64 (x16 + 1)) x1034000 x1034001 x1034002) else (none)) else (some (([] : List ByteArray), false)))) else (none)) else (none)) else (some (x4, true))
def impl_UnpackVector.f (k : Nat) (a0_0 : Int) (l0_1 : List (List Int)) (l0_2 : List Int) : Option (List ByteArray × Bool) := (impl_VectorValid.f k a0_0 l0_1 l0_2).bind fun t1034 => (if t1034 = true then ((impl_Vector_arrays.f k a0_0 l0_1 l0_2).bind fun t1038 => (impl_UnpackVector.l0 k (([] : List ByteArray)) t1038 (t1038.length : Int) 0 a0_0 l0_1 l0_2)) else (some (([] : List ByteArray), false)))
def I11_0 (r1 : List ByteArray) (r2 : Bool) (m : Nat) (σ : St) : Prop := ∃ (x4 : List ByteArray) (x14 : List (S70)) (x15 : Int) (x16 : Int) (x1034000 : Int) (x1034001 : List (List Int)) (x1034002 : List Int), impl_UnpackVector.l0 m x4 x14 x15 x16 x1034000 x1034001 x1034002 = some (r1, r2) ∧ σ = ⟨[(1, .pt 1001 0 0), (4, .ow 1004 0), (14, .ow 1014 0), (15, .i x15), (16, .i x16)], [(1001, .box 0 31 false [.i x1034000, .sl 1 (rX (cL (cI .i64) 1) x1034001), .sl 1 (rX (cI .i64) x1034002)]), (1004, .own 0 9 1 (rX cS x4)), (1014, .own 0 70 2 (r70 x14))]⟩
abbrev W11 (r1 : List ByteArray) (r2 : Bool) (w : World) (ro : Nat → Prop) (B : Nat) (p : List Nat) (j : List (St → Prop)) (σ : St) : Prop := Kp (WS TE (cx0 Tryz.f11 none w ro B) (stkAt p j (bodyOf Tryz.f11) []) σ (RetQ TE Tryz.f11 none [.own 9 1 (rX cS r1), .ro (.v (.bool r2))] [] w ro B))
def S11l0 (k : Nat) : Prop := ∀ r1 r2 w ro B (_ : Fr TE (cx0 Tryz.f11 none w ro B)) (σ : St) (_ : I11_0 r1 r2 k σ), W11 r1 r2 w ro B [1, 1, 1, 0, 1, 0] [] σ
structure C11 (k : Nat) : Prop where
 s_l0 : S11l0 k
theorem c11l0 (k : Nat) (ih : Kp (∀ m, m < k → C11 m)) : S11l0 k := by
 intro r1 r2 w ro B hF
 intro σ h0
 refine ⟨WS.loop (fun m σ => m ≤ k ∧ I11_0 r1 r2 m σ) k ⟨Nat.le_refl k, h0⟩ (fun m σ' hI J0 hJ0 => ?_)⟩
 clear h0
 obtain ⟨hk, x4, x14, x15, x16, x1034000, x1034001, x1034002, h, rfl⟩ := hI
 cases m with
 | zero => simp [impl_UnpackVector.l0] at h
 | succ k' =>
 simp only [impl_UnpackVector.l0] at h
 rcases ic h with ⟨c4, h⟩ | ⟨c4, h⟩
 · obtain ⟨c5, h⟩ := ig h
   obtain ⟨c6, h⟩ := ig h
   obtain ⟨⟨t1043, t1044⟩, q7, h⟩ := ib h
   dsimp only at h
   have q7c := impl_arr_short.ctr k' _ _ _ _ _ q7
   rcases ic h with ⟨c8, h⟩ | ⟨c8, h⟩
   · obtain ⟨c9, h⟩ := ig h
     refine pk 19 hF [.t, .g [.i ((rd_T70 x14 x16).f0), .sl 2 (r70 ((rd_T70 x14 x16).f1))], .e 25 (.i (x1034001.length : Int)), .r [.ro (.v (.string t1043)), .ro (.v (.bool t1044))] [], .f, .p 33 ([[.v (.string t1043)]]), .o 34 (rX cS (x4 ++ [t1043]))] [] rfl KD ?_
     exact WS.lpc [(1001, some 1001), (1004, some 1004), (1014, some 1014)] (hJ0 _ _ (Nat.lt_succ_self _) ⟨by omega, (x4 ++ [t1043]), x14, x15, (wrap64 (x16 + 1)), x1034000, x1034001, x1034002, h, rfl⟩) KD
   · refine pk 18 hF [.t, .g [.i ((rd_T70 x14 x16).f0), .sl 2 (r70 ((rd_T70 x14 x16).f1))], .e 25 (.i (x1034001.length : Int)), .r [.ro (.v (.string t1043)), .ro (.v (.bool t1044))] [], .t] [] rfl KD ?_
     cases h
     exact rr [.nil 9 1, .ro] rfl KD
 · refine pk 8 hF [.f] [] rfl KD ?_
   cases h
   exact rr [.own, .ro] rfl KD
theorem cs11 (k : Nat) : C11 k := by
 induction k using Nat.strongRecOn with
 | _ k ih0 =>
 have ih : Kp (∀ m, m < k → C11 m) := ⟨ih0⟩
 exact ⟨c11l0 k ih⟩
theorem impl_UnpackVector.ctr (k : Nat) (a0_0 : Int) (l0_1 : List (List Int)) (l0_2 : List Int) (r1 : List ByteArray) (r2 : Bool) (h : impl_UnpackVector.f k a0_0 l0_1 l0_2 = some (r1, r2)) : Ctr TE 11 none [.ag [.i a0_0, .sl 1 (rX (cL (cI .i64) 1) l0_1), .sl 1 (rX (cI .i64) l0_2)]] [.own 9 1 (rX cS r1), .ro (.v (.bool r2))] [] := by
 refine co Tryz.func11 (by kernel_rfl) (by kernel_rfl) fun w ro B hF => ?_
 have ih : Kp (∀ m, m < k + 1 → C11 m) := ⟨fun m _ => cs11 m⟩
 simp only [impl_UnpackVector.f] at h
 obtain ⟨t1034, q1, h⟩ := ib h
 have q1c := impl_VectorValid.ctr k _ _ _ _ q1
 rcases ic h with ⟨c2, h⟩ | ⟨c2, h⟩
 · obtain ⟨t1038, q3, h⟩ := ib h
   have q3c := impl_Vector_arrays.ctr k _ _ _ _ q3
   refine pk 13 hF [.r [.ro (.v (.bool t1034))] [], .f, .p 12 ([]), .r [.own 70 2 (r70 t1038)] [], .e 15 (.i (t1038.length : Int))] [] rfl KD ?_
   exact WS.can [(1001, some 1), (1004, some 12), (1014, some 100224)] ((ih.a.s_l0  r1 r2 w ro B hF _ ⟨(([] : List ByteArray)), t1038, (t1038.length : Int), 0, a0_0, l0_1, l0_2, h, rfl⟩).out) KD
 · refine pk 9 hF [.r [.ro (.v (.bool t1034))] [], .t] [] rfl KD ?_
   cases h
   exact rr [.nil 9 1, .ro] rfl KD
mutual
def impl_readArr.j1 : Nat → ByteArray → Int → Option (Int × (List (S70)) × ByteArray × Bool)
  | 0, _, _ => none
  | k + 1, x0, x7 => if 0 ≤ x7 then (if x7 ≤ (x0.size : Int) then ((strconv_Atoi.f (x0.extract 0 (x7 : Int).toNat)).bind fun bt1049 => (if bt1049.2.isNone = true then (if bt1049.1 ≥ 10007 then (some (0, ([] : List (S70)), (⟨#[]⟩ : ByteArray), false)) else ((strconv_Itoa.f bt1049.1).bind fun t1052 => (if t1052.toList = (x0.extract 0 (x7 : Int).toNat).toList then (some (bt1049.1, ([] : List (S70)), x0.extract (x7 : Int).toNat x0.size, true)) else (some (0, ([] : List (S70)), (⟨#[]⟩ : ByteArray), false))))) else (some (0, ([] : List (S70)), (⟨#[]⟩ : ByteArray), false)))) else (none)) else (none)
def impl_readArr.l0 : Nat → ByteArray → Int → Option (Int × (List (S70)) × ByteArray × Bool)
  | 0, _, _ => none
  | k + 1, x0, x7 => if x7 < (x0.size : Int) then (if 0 ≤ x7 then (if (bt x0 x7) ≥ 48 then (if (bt x0 x7) ≤ 57 then (impl_readArr.l0 k x0 (wrap64 (x7 + 1))) else (impl_readArr.j1 k x0 x7)) else (impl_readArr.j1 k x0 x7)) else (none)) else (impl_readArr.j1 k x0 x7)
def impl_readArr.j2 : Nat → ByteArray → Int → Bool → Option (Int × (List (S70)) × ByteArray × Bool)
  | 0, _, _, _ => none
  | k + 1, x0, x1, x67 => if x67 = true then (some (0, ([] : List (S70)), (⟨#[]⟩ : ByteArray), false)) else (if 1 ≤ (x0.size : Int) then (impl_readArr.l1 k (x0.extract 1 x0.size) x1 0 ([] : List (S70))) else (none))
def impl_readArr.l1 : Nat → ByteArray → Int → Int → List (S70) → Option (Int × (List (S70)) × ByteArray × Bool)
  | 0, _, _, _, _ => none
  | k + 1, x0, x1, x1054000, x1054001 => if x0.toList = ([] : List UInt8) then (impl_readArr.j4 k x0 x1 false x1054000 x1054001) else (if 0 < (x0.size : Int) then (if (bt x0 0) = 93 then (impl_readArr.j4 k x0 x1 (decide ((x1054001.length : Int) > 0)) x1054000 x1054001) else (impl_readArr.j4 k x0 x1 true x1054000 x1054001)) else (none))
def impl_readArr.j4 : Nat → ByteArray → Int → Bool → Int → List (S70) → Option (Int × (List (S70)) × ByteArray × Bool)
  | 0, _, _, _, _, _ => none
  | k + 1, x0, x1, x83, x1054000, x1054001 => if x83 = true then ((impl_readArr.f k x0 (wrap64 (x1 - 1))).bind fun bt1054 => (if bt1054.2.2.2 = true then (if bt1054.2.2.1.toList = ([] : List UInt8) then (impl_readArr.j5 k x1 bt1054.2.2.1 true x1054000 x1054001 bt1054.1 bt1054.2.1) else (if 0 < (bt1054.2.2.1.size : Int) then (if (bt bt1054.2.2.1 0) = 44 then (impl_readArr.j5 k x1 bt1054.2.2.1 false x1054000 x1054001 bt1054.1 bt1054.2.1) else (impl_readArr.j5 k x1 bt1054.2.2.1 ((bt bt1054.2.2.1 0) != 93) x1054000 x1054001 bt1054.1 bt1054.2.1)) else (none))) else (impl_readArr.j5 k x1 bt1054.2.2.1 true x1054000 x1054001 bt1054.1 bt1054.2.1))) else (if x0.toList = ([] : List UInt8) then (some (0, ([] : List (S70)), (⟨#[]⟩ : ByteArray), false)) else (if 1 ≤ (x0.size : Int) then (some (x1054000, x1054001, x0.extract 1 x0.size, true)) else (none)))
def impl_readArr.j5 : Nat → Int → ByteArray → Bool → Int → List (S70) → Int → List (S70) → Option (Int × (List (S70)) × ByteArray × Bool)
  | 0, _, _, _, _, _, _, _ => none
  | k + 1, x1, x12, x107, x1054000, x1054001, x1061000, x1061001 => if x107 = true then (some (0, ([] : List (S70)), (⟨#[]⟩ : ByteArray), false)) else (if x1054001.length < 4398046511104 then ((some (x1054001 ++ [(⟨x1061000, x1061001⟩ : S70)] : List (S70))).bind fun y1061 => (if 0 < (x12.size : Int) then (if (bt x12 0) = 93 then (if 1 ≤ (x12.size : Int) then (some (x1054000, y1061, x12.extract 1 x12.size, true)) else (none)) else (if 1 ≤ (x12.size : Int) then (impl_readArr.l1 k (x12.extract 1 x12.size) x1 x1054000 y1061) else (none))) else (none))) else (none))
def impl_readArr.f : Nat → ByteArray → Int → Option (Int × (List (S70)) × ByteArray × Bool)
  | 0, _, _ => none
  | k + 1, a0, a1 => if a1 = 0 then (impl_readArr.l0 k a0 0) else (if a0.toList = ([] : List UInt8) then (impl_readArr.j2 k a0 a1 true) else (if 0 < (a0.size : Int) then (impl_readArr.j2 k a0 a1 ((bt a0 0) != 91)) else (none)))
end
def I85_0 (r1 : Int) (r2 : List (S70)) (r3 : ByteArray) (r4 : Bool) (m : Nat) (σ : St) : Prop := ∃ (x0 : ByteArray) (x7 : Int) (x1049000 : Int), impl_readArr.l0 m x0 x7 = some (r1, r2, r3, r4) ∧ σ = ⟨[(0, .v (.string x0)), (4, .pt 1004 0 0), (7, .i x7)], [(1004, .box 0 70 false [.i x1049000, .v (.slice none 0 0)])]⟩
def I85_1 (r1 : Int) (r2 : List (S70)) (r3 : ByteArray) (r4 : Bool) (m : Nat) (σ : St) : Prop := ∃ (x0 : ByteArray) (x1 : Int) (x1049000 : Int) (x1054000 : Int) (x1054001 : List (S70)), impl_readArr.l1 m x0 x1 x1054000 x1054001 = some (r1, r2, r3, r4) ∧ σ = ⟨[(0, .v (.string x0)), (1, .i x1), (4, .pt 1004 0 0), (10, .pt 1010 0 0)], [(1004, .box 0 70 false [.i x1049000, .v (.slice none 0 0)]), (3641, .own 0 70 2 (r70 x1054001)), (1010, .box 0 70 false [.i x1054000, .ow 3641 0])]⟩
abbrev W85 (r1 : Int) (r2 : List (S70)) (r3 : ByteArray) (r4 : Bool) (w : World) (ro : Nat → Prop) (B : Nat) (p : List Nat) (j : List (St → Prop)) (σ : St) : Prop := Kp (WS TE (cx0 Tryz.f85 none w ro B) (stkAt p j (bodyOf Tryz.f85) []) σ (RetQ TE Tryz.f85 none [.ro (.ag [.i r1, .sl 2 (r70 r2)]), .ro (.v (.string r3)), .ro (.v (.bool r4))] [] w ro B))
def S85j1 (k : Nat) : Prop := ∀ r1 r2 r3 r4 w ro B (_ : Fr TE (cx0 Tryz.f85 none w ro B)) x0 x7 x1049000 (_ : impl_readArr.j1 k x0 x7 = some (r1, r2, r3, r4)), W85 r1 r2 r3 r4 w ro B [1, 0, 1, 0, 1, 0, 9] [] ⟨[(0, .v (.string x0)), (4, .pt 1004 0 0), (7, .i x7)], [(1004, .box 0 70 false [.i x1049000, .v (.slice none 0 0)])]⟩
def S85l0 (k : Nat) : Prop := ∀ r1 r2 r3 r4 w ro B (_ : Fr TE (cx0 Tryz.f85 none w ro B)) (σ : St) (_ : I85_0 r1 r2 r3 r4 k σ), W85 r1 r2 r3 r4 w ro B [1, 0, 1, 0, 1, 0, 0] [] σ
def S85j2 (k : Nat) : Prop := ∀ r1 r2 r3 r4 w ro B (_ : Fr TE (cx0 Tryz.f85 none w ro B)) x0 x1 x67 x1049000 (_ : impl_readArr.j2 k x0 x1 x67 = some (r1, r2, r3, r4)), W85 r1 r2 r3 r4 w ro B [1, 1, 0, 0, 9] [] ⟨[(0, .v (.string x0)), (1, .i x1), (4, .pt 1004 0 0), (67, .v (.bool x67))], [(1004, .box 0 70 false [.i x1049000, .v (.slice none 0 0)])]⟩
def S85l1 (k : Nat) : Prop := ∀ r1 r2 r3 r4 w ro B (_ : Fr TE (cx0 Tryz.f85 none w ro B)) (σ : St) (_ : I85_1 r1 r2 r3 r4 k σ), W85 r1 r2 r3 r4 w ro B [1, 1, 1, 1, 0, 1, 0] [] σ
def S85j4 (k : Nat) : Prop := ∀ (r1 : Int) (r2 : List (S70)) (r3 : ByteArray) (r4 : Bool) (w : World) (ro : Nat → Prop) (B : Nat) (_ : Fr TE (cx0 Tryz.f85 none w ro B)) (J1 : St → Prop) (_ : ∀ m σ, m ≤ k → I85_1 r1 r2 r3 r4 m σ → J1 σ) x0 x1 x83 x1049000 x1054000 x1054001 (_ : impl_readArr.j4 k x0 x1 x83 x1054000 x1054001 = some (r1, r2, r3, r4)), W85 r1 r2 r3 r4 w ro B [1, 1, 1, 1, 0, 1, 0, 0, 0, 0, 9] [J1] ⟨[(0, .v (.string x0)), (1, .i x1), (4, .pt 1004 0 0), (10, .pt 1010 0 0), (83, .v (.bool x83))], [(1004, .box 0 70 false [.i x1049000, .v (.slice none 0 0)]), (3641, .own 0 70 2 (r70 x1054001)), (1010, .box 0 70 false [.i x1054000, .ow 3641 0])]⟩
def S85j5 (k : Nat) : Prop := ∀ (r1 : Int) (r2 : List (S70)) (r3 : ByteArray) (r4 : Bool) (w : World) (ro : Nat → Prop) (B : Nat) (_ : Fr TE (cx0 Tryz.f85 none w ro B)) (J1 : St → Prop) (_ : ∀ m σ, m ≤ k → I85_1 r1 r2 r3 r4 m σ → J1 σ) x1 x12 x107 x1049000 x1054000 x1054001 x1061000 x1061001 (_ : impl_readArr.j5 k x1 x12 x107 x1054000 x1054001 x1061000 x1061001 = some (r1, r2, r3, r4)), W85 r1 r2 r3 r4 w ro B [1, 1, 1, 1, 0, 1, 0, 0, 1, 0, 1, 0, 0, 9] [J1] ⟨[(1, .i x1), (4, .pt 1004 0 0), (10, .pt 1010 0 0), (11, .pt 1011 0 0), (12, .v (.string x12)), (107, .v (.bool x107))], [(1004, .box 0 70 false [.i x1049000, .v (.slice none 0 0)]), (3641, .own 0 70 2 (r70 x1054001)), (1010, .box 0 70 false [.i x1054000, .ow 3641 0]), (1011, .box 0 70 false [.i x1061000, .sl 2 (r70 x1061001)])]⟩
structure C85 (k : Nat) : Prop where
 s_f : ∀ (a0 : ByteArray) (a1 : Int) (r1 : Int) (r2 : List (S70)) (r3 : ByteArray) (r4 : Bool), impl_readArr.f k a0 a1 = some (r1, r2, r3, r4) → Ctr TE 85 none [.v (.string a0), .i a1] [.ro (.ag [.i r1, .sl 2 (r70 r2)]), .ro (.v (.string r3)), .ro (.v (.bool r4))] []
 s_j1 : S85j1 k
 s_l0 : S85l0 k
 s_j2 : S85j2 k
 s_l1 : S85l1 k
 s_j4 : S85j4 k
 s_j5 : S85j5 k
theorem c85f (k : Nat) (ih : Kp (∀ m, m < k → C85 m)) (a0 : ByteArray) (a1 : Int) (r1 : Int) (r2 : List (S70)) (r3 : ByteArray) (r4 : Bool) (h : impl_readArr.f k a0 a1 = some (r1, r2, r3, r4)) : Ctr TE 85 none [.v (.string a0), .i a1] [.ro (.ag [.i r1, .sl 2 (r70 r2)]), .ro (.v (.string r3)), .ro (.v (.bool r4))] [] := by
 cases k with
 | zero => simp [impl_readArr.f] at h
 | succ k =>
 simp only [impl_readArr.f] at h
 refine co Tryz.func85 (by kernel_rfl) (by kernel_rfl) fun w ro B hF => ?_
 rcases ic h with ⟨c1, h⟩ | ⟨c1, h⟩
 · refine pk 10 hF [.t] [] rfl KD ?_
   exact WS.can [(1004, some 4)] ((ih.a.s_l0  r1 r2 r3 r4 w ro B hF _ ⟨a0, 0, 0, h, rfl⟩).out) KD
 · rcases ic h with ⟨c2, h⟩ | ⟨c2, h⟩
   · refine pk 10 hF [.f, .t, .t, .t, .t] [] rfl KD ?_
     exact WS.can [(1004, some 4)] ((ih.a.s_j2  r1 r2 r3 r4 w ro B hF a0 a1 true 0 h).out) KD
   · obtain ⟨c3, h⟩ := ig h
     refine pk 10 hF [.f, .f, .f, .f, .f] [] rfl KD ?_
     exact WS.can [(1004, some 4)] ((ih.a.s_j2  r1 r2 r3 r4 w ro B hF a0 a1 ((bt a0 0) != 91) 0 h).out) KD
theorem c85j1 (k : Nat) (ih : Kp (∀ m, m < k → C85 m)) : S85j1 k := by
 intro r1 r2 r3 r4 w ro B hF
 intro x0 x7 x1049000 h
 refine ⟨?_⟩
 cases k with
 | zero => simp [impl_readArr.j1] at h
 | succ k =>
 simp only [impl_readArr.j1] at h
 obtain ⟨c10, h⟩ := ig h
 obtain ⟨c11, h⟩ := ig h
 obtain ⟨⟨t1049, t1050⟩, q12, h⟩ := ib h
 dsimp only at h
 have q12c := strconv_Atoi.ctr _ _ _ q12
 by_cases c13 : t1050.isNone = true
 · rw [if_pos c13] at h
   rcases ic h with ⟨c14, h⟩ | ⟨c14, h⟩
   · refine pk 9 hF [.r [.ro (.i t1049), .ro (.er t1050.isNone)] [], .f, .f, .f, .t, .t, .t, .t, .t, .t, .t, .t] [.o [(0, 0), (1, 0), (2, 0), (3, 0), (4, 0), (5, 0), (6, 0), (7, 0), (9, 0), (10, 0), (11, 0), (8, 2), (12, 0), (13, 0)] []] rfl KD ?_
     cases h
     exact rr [.ro, .ro, .ro] rfl KD
   · obtain ⟨t1052, q15, h⟩ := ib h
     have q15c := strconv_Itoa.ctr _ _ q15
     rcases ic h with ⟨c16, h⟩ | ⟨c16, h⟩
     · refine pk 10 hF [.r [.ro (.i t1049), .ro (.er t1050.isNone)] [], .f, .f, .f, .f, .f, .f, .f, .f, .r [.ro (.v (.string t1052))] [], .f, .f, .f] [.o [(0, 0), (1, 0), (2, 0), (3, 0), (4, 0), (5, 0), (6, 0), (7, 0), (9, 0), (10, 0), (11, 0), (8, 2), (12, 0), (13, 0)] [], .o [(0, 0), (1, 0), (2, 0), (3, 0), (4, 0), (5, 2), (6, 0), (7, 0)] [5]] rfl KD ?_
       cases h
       exact rr [.ro, .ro, .ro] rfl KD
     · refine pk 9 hF [.r [.ro (.i t1049), .ro (.er t1050.isNone)] [], .f, .f, .f, .f, .f, .f, .f, .f, .r [.ro (.v (.string t1052))] [], .f, .f, .t] [.o [(0, 0), (1, 0), (2, 0), (3, 0), (4, 0), (5, 0), (6, 0), (7, 0), (9, 0), (10, 0), (11, 0), (8, 2), (12, 0), (13, 0)] []] rfl KD ?_
       cases h
       exact rr [.ro, .ro, .ro] rfl KD
 · rw [if_neg c13] at h
   refine pk 9 hF [.r [.ro (.i t1049), .ro (.er t1050.isNone)] [], .t, .t, .t, .t, .t, .t, .t, .t, .t, .t, .t] [.o [(0, 0), (1, 0), (2, 0), (3, 0), (4, 0), (5, 0), (6, 0), (7, 0), (9, 0), (10, 0), (11, 0), (8, 2), (12, 0), (13, 0)] []] rfl KD ?_
   cases h
   exact rr [.ro, .ro, .ro] rfl KD
theorem c85l0 (k : Nat) (ih : Kp (∀ m, m < k → C85 m)) : S85l0 k := by
 intro r1 r2 r3 r4 w ro B hF
 intro σ h0
 refine ⟨WS.loop (fun m σ => m ≤ k ∧ I85_0 r1 r2 r3 r4 m σ) k ⟨Nat.le_refl k, h0⟩ (fun m σ' hI J0 hJ0 => ?_)⟩
 clear h0
 obtain ⟨hk, x0, x7, x1049000, h, rfl⟩ := hI
 cases m with
 | zero => simp [impl_readArr.l0] at h
 | succ k' =>
 simp only [impl_readArr.l0] at h
 rcases ic h with ⟨c4, h⟩ | ⟨c4, h⟩
 · obtain ⟨c5, h⟩ := ig h
   rcases ic h with ⟨c6, h⟩ | ⟨c6, h⟩
   · rcases ic h with ⟨c7, h⟩ | ⟨c7, h⟩
     · refine pk 8 hF [.t, .t, .t, .t, .t, .t, .t, .t, .t, .t, .t] [] rfl KD ?_
       exact WS.lpc [(1004, some 1004)] (hJ0 _ _ (Nat.lt_succ_self _) ⟨by omega, x0, (wrap64 (x7 + 1)), x1049000, h, rfl⟩) KD
     · refine pk 5 hF [.t, .t, .t, .t, .t, .t, .t, .t, .t, .t, .f] [] rfl KD ?_
       exact WS.can [(1004, some 1004)] (((ih.out k' (by omega)).s_j1  r1 r2 r3 r4 w ro B hF x0 x7 x1049000 h).out) KD
   · refine pk 5 hF [.t, .t, .t, .t, .t, .f, .f, .f, .f, .f, .f] [] rfl KD ?_
     exact WS.can [(1004, some 1004)] (((ih.out k' (by omega)).s_j1  r1 r2 r3 r4 w ro B hF x0 x7 x1049000 h).out) KD
 · refine pk 5 hF [.f, .f, .f, .f, .f, .f, .f, .f, .f, .f, .f] [] rfl KD ?_
   exact WS.can [(1004, some 1004)] (((ih.out k' (by omega)).s_j1  r1 r2 r3 r4 w ro B hF x0 x7 x1049000 h).out) KD
theorem c85j2 (k : Nat) (ih : Kp (∀ m, m < k → C85 m)) : S85j2 k := by
 intro r1 r2 r3 r4 w ro B hF
 intro x0 x1 x67 x1049000 h
 refine ⟨?_⟩
 cases k with
 | zero => simp [impl_readArr.j2] at h
 | succ k =>
 simp only [impl_readArr.j2] at h
 rcases ic h with ⟨c8, h⟩ | ⟨c8, h⟩
 · refine pk 4 hF [.t] [] rfl KD ?_
   cases h
   exact rr [.ro, .ro, .ro] rfl KD
 · obtain ⟨c9, h⟩ := ig h
   refine pk 8 hF [.f] [] rfl KD ?_
   exact WS.can [(1004, some 1004), (1010, some 10), (3641, none)] ((ih.a.s_l1  r1 r2 r3 r4 w ro B hF _ ⟨(x0.extract 1 x0.size), x1, x1049000, 0, ([] : List (S70)), h, rfl⟩).out) KD
theorem c85l1 (k : Nat) (ih : Kp (∀ m, m < k → C85 m)) : S85l1 k := by
 intro r1 r2 r3 r4 w ro B hF
 intro σ h0
 refine ⟨WS.loop (fun m σ => m ≤ k ∧ I85_1 r1 r2 r3 r4 m σ) k ⟨Nat.le_refl k, h0⟩ (fun m σ' hI J1 hJ1 => ?_)⟩
 clear h0
 obtain ⟨hk, x0, x1, x1049000, x1054000, x1054001, h, rfl⟩ := hI
 cases m with
 | zero => simp [impl_readArr.l1] at h
 | succ k' =>
 simp only [impl_readArr.l1] at h
 rcases ic h with ⟨c17, h⟩ | ⟨c17, h⟩
 · refine pk 3 hF [.f, .f, .f, .f, .f, .f] [] rfl KD ?_
   exact WS.can [(1004, some 1004), (1010, some 1010), (3641, some 3641)] (((ih.out k' (by omega)).s_j4  r1 r2 r3 r4 w ro B hF J1 (fun m σ hm hI => hJ1 m σ (by omega) ⟨by omega, hI⟩) x0 x1 false x1049000 x1054000 x1054001 h).out) KD
 · obtain ⟨c18, h⟩ := ig h
   rcases ic h with ⟨c19, h⟩ | ⟨c19, h⟩
   · refine pk 3 hF [.t, .t, .t, .t, .f, .f, .f, .e 80 (.i (x1054001.length : Int)), .f, .t, .f, .t] [] rfl KD ?_
     exact WS.can [(1004, some 1004), (1010, some 1010), (3641, some 3641)] (((ih.out k' (by omega)).s_j4  r1 r2 r3 r4 w ro B hF J1 (fun m σ hm hI => hJ1 m σ (by omega) ⟨by omega, hI⟩) x0 x1 (decide ((x1054001.length : Int) > 0)) x1049000 x1054000 x1054001 h).out) KD
   · refine pk 3 hF [.t, .t, .t, .t, .t, .t, .t, .t, .t, .t, .t] [] rfl KD ?_
     exact WS.can [(1004, some 1004), (1010, some 1010), (3641, some 3641)] (((ih.out k' (by omega)).s_j4  r1 r2 r3 r4 w ro B hF J1 (fun m σ hm hI => hJ1 m σ (by omega) ⟨by omega, hI⟩) x0 x1 true x1049000 x1054000 x1054001 h).out) KD
theorem c85j4 (k : Nat) (ih : Kp (∀ m, m < k → C85 m)) : S85j4 k := by
 intro r1 r2 r3 r4 w ro B hF J1 hJ1
 intro x0 x1 x83 x1049000 x1054000 x1054001 h
 refine ⟨?_⟩
 cases k with
 | zero => simp [impl_readArr.j4] at h
 | succ k =>
 simp only [impl_readArr.j4] at h
 rcases ic h with ⟨c20, h⟩ | ⟨c20, h⟩
 · obtain ⟨⟨t1054, t1055, t1058, t1059⟩, q21, h⟩ := ib h
   dsimp only at h
   have q21c := ih.a.s_f _ _ _ _ _ _ q21
   rcases ic h with ⟨c22, h⟩ | ⟨c22, h⟩
   · rcases ic h with ⟨c23, h⟩ | ⟨c23, h⟩
     · refine pk 8 hF [.t, .r [.ro (.ag [.i t1054, .sl 2 (r70 t1055)]), .ro (.v (.string t1058)), .ro (.v (.bool t1059))] [], .f, .f, .f, .t, .t, .t, .t, .t, .t] [] rfl KD ?_
       exact WS.can [(1004, some 1004), (1010, some 1010), (3641, some 3641), (1011, some 11)] ((ih.a.s_j5  r1 r2 r3 r4 w ro B hF J1 (fun m σ hm hI => hJ1 m σ (by omega) hI) x1 t1058 true x1049000 x1054000 x1054001 t1054 t1055 h).out) KD
     · obtain ⟨c24, h⟩ := ig h
       rcases ic h with ⟨c25, h⟩ | ⟨c25, h⟩
       · refine pk 8 hF [.t, .r [.ro (.ag [.i t1054, .sl 2 (r70 t1055)]), .ro (.v (.string t1058)), .ro (.v (.bool t1059))] [], .f, .f, .f, .f, .f, .f, .f, .f, .f, .f, .f, .f, .f] [] rfl KD ?_
         exact WS.can [(1004, some 1004), (1010, some 1010), (3641, some 3641), (1011, some 11)] ((ih.a.s_j5  r1 r2 r3 r4 w ro B hF J1 (fun m σ hm hI => hJ1 m σ (by omega) hI) x1 t1058 false x1049000 x1054000 x1054001 t1054 t1055 h).out) KD
       · refine pk 8 hF [.t, .r [.ro (.ag [.i t1054, .sl 2 (r70 t1055)]), .ro (.v (.string t1058)), .ro (.v (.bool t1059))] [], .f, .f, .f, .f, .f, .f, .f, .t, .t, .t, .f, .t, .f] [] rfl KD ?_
         exact WS.can [(1004, some 1004), (1010, some 1010), (3641, some 3641), (1011, some 11)] ((ih.a.s_j5  r1 r2 r3 r4 w ro B hF J1 (fun m σ hm hI => hJ1 m σ (by omega) hI) x1 t1058 ((bt t1058 0) != 93) x1049000 x1054000 x1054001 t1054 t1055 h).out) KD
   · refine pk 8 hF [.t, .r [.ro (.ag [.i t1054, .sl 2 (r70 t1055)]), .ro (.v (.string t1058)), .ro (.v (.bool t1059))] [], .t, .t, .t, .t, .t, .t, .t, .t, .t] [] rfl KD ?_
     exact WS.can [(1004, some 1004), (1010, some 1010), (3641, some 3641), (1011, some 11)] ((ih.a.s_j5  r1 r2 r3 r4 w ro B hF J1 (fun m σ hm hI => hJ1 m σ (by omega) hI) x1 t1058 true x1049000 x1054000 x1054001 t1054 t1055 h).out) KD
 · rcases ic h with ⟨c26, h⟩ | ⟨c26, h⟩
   · refine pk 9 hF [.f, .t] [] rfl KD ?_
     cases h
     exact rr [.ro, .ro, .ro] rfl KD
   · obtain ⟨c27, h⟩ := ig h
     refine pk 10 hF [.f, .f] [.o [(0, 1), (1, 0), (2, 0), (3, 2), (4, 0), (5, 0)] [3]] rfl KD ?_
     cases h
     exact rr [.ro, .ro, .ro] rfl KD
theorem c85j5 (k : Nat) (ih : Kp (∀ m, m < k → C85 m)) : S85j5 k := by
 intro r1 r2 r3 r4 w ro B hF J1 hJ1
 intro x1 x12 x107 x1049000 x1054000 x1054001 x1061000 x1061001 h
 refine ⟨?_⟩
 cases k with
 | zero => simp [impl_readArr.j5] at h
 | succ k =>
 simp only [impl_readArr.j5] at h
 rcases ic h with ⟨c28, h⟩ | ⟨c28, h⟩
 · refine pk 4 hF [.t] [] rfl KD ?_
   cases h
   exact rr [.ro, .ro, .ro] rfl KD
 · obtain ⟨c29, h⟩ := ig h
   obtain ⟨y1061, hy1061, h⟩ := ib h
   cases hy1061
   obtain ⟨c30, h⟩ := ig h
   rcases ic h with ⟨c31, h⟩ | ⟨c31, h⟩
   · obtain ⟨c32, h⟩ := ig h
     refine pk 11 hF [.f, .p 112 ([[.i x1061000, .sl 2 (r70 x1061001)]]), .o 113 (r70 (x1054001 ++ [(⟨x1061000, x1061001⟩ : S70)])), .t] [.o [(0, 1), (1, 0), (2, 0), (3, 2), (4, 0), (5, 0)] [3]] rfl KD ?_
     cases h
     exact rr [.ro, .ro, .ro] rfl KD
   · obtain ⟨c33, h⟩ := ig h
     refine pk 11 hF [.f, .p 112 ([[.i x1061000, .sl 2 (r70 x1061001)]]), .o 113 (r70 (x1054001 ++ [(⟨x1061000, x1061001⟩ : S70)])), .f] [] rfl KD ?_
     exact WS.lpc [(1004, some 1004), (1010, some 1010), (3641, some 3641)] (hJ1 _ _ (by omega) ⟨(x12.extract 1 x12.size), x1, x1049000, x1054000, (x1054001 ++ [(⟨x1061000, x1061001⟩ : S70)]), h, rfl⟩) KD
theorem cs85 (k : Nat) : C85 k := by
 induction k using Nat.strongRecOn with
 | _ k ih0 =>
 have ih : Kp (∀ m, m < k → C85 m) := ⟨ih0⟩
 exact ⟨c85f k ih, c85j1 k ih, c85l0 k ih, c85j2 k ih, c85l1 k ih, c85j4 k ih, c85j5 k ih⟩
theorem impl_readArr.ctr (k : Nat) (a0 : ByteArray) (a1 : Int) (r1 : Int) (r2 : List (S70)) (r3 : ByteArray) (r4 : Bool) (h : impl_readArr.f k a0 a1 = some (r1, r2, r3, r4)) : Ctr TE 85 none [.v (.string a0), .i a1] [.ro (.ag [.i r1, .sl 2 (r70 r2)]), .ro (.v (.string r3)), .ro (.v (.bool r4))] [] := (cs85 k).s_f a0 a1 r1 r2 r3 r4 h
def impl_arrOf.f (k : Nat) (a0 : ByteArray) (a1 : Int) : Option (Int × (List (S70)) × Bool) := if a1 < 0 then (some (0, ([] : List (S70)), false)) else (if a1 > 3 then (some (0, ([] : List (S70)), false)) else (if (a0.size : Int) > 400 then (some (0, ([] : List (S70)), false)) else ((impl_readArr.f k a0 a1).bind fun bt1065 => (if bt1065.2.2.2 = true then (some (bt1065.1, bt1065.2.1, (bt1065.2.2.1.toList == ([] : List UInt8)))) else (some (bt1065.1, bt1065.2.1, false))))))
theorem impl_arrOf.ctr (k : Nat) (a0 : ByteArray) (a1 : Int) (r1 : Int) (r2 : List (S70)) (r3 : Bool) (h : impl_arrOf.f k a0 a1 = some (r1, r2, r3)) : Ctr TE 48 none [.v (.string a0), .i a1] [.ro (.ag [.i r1, .sl 2 (r70 r2)]), .ro (.v (.bool r3))] [] := by
 refine co Tryz.func48 (by kernel_rfl) (by kernel_rfl) fun w ro B hF => ?_
 simp only [impl_arrOf.f] at h
 rcases ic h with ⟨c1, h⟩ | ⟨c1, h⟩
 · refine pk 9 hF [.t, .t, .t, .t, .t, .t, .t, .t] [] rfl KD ?_
   cases h
   exact rr [.ro, .ro] rfl KD
 · rcases ic h with ⟨c2, h⟩ | ⟨c2, h⟩
   · refine pk 9 hF [.f, .f, .f, .t, .t, .t, .t, .t] [] rfl KD ?_
     cases h
     exact rr [.ro, .ro] rfl KD
   · rcases ic h with ⟨c3, h⟩ | ⟨c3, h⟩
     · refine pk 9 hF [.f, .f, .f, .f, .f, .f, .f, .t] [] rfl KD ?_
       cases h
       exact rr [.ro, .ro] rfl KD
     · obtain ⟨⟨t1065, t1066, t1069, t1070⟩, q4, h⟩ := ib h
       dsimp only at h
       have q4c := impl_readArr.ctr k _ _ _ _ _ _ q4
       rcases ic h with ⟨c5, h⟩ | ⟨c5, h⟩
       · refine pk 12 hF [.f, .f, .f, .f, .f, .f, .f, .f, .r [.ro (.ag [.i t1065, .sl 2 (r70 t1066)]), .ro (.v (.string t1069)), .ro (.v (.bool t1070))] [], .t, .t, .t] [] rfl KD ?_
         cases h
         exact rr [.ro, .ro] rfl KD
       · refine pk 12 hF [.f, .f, .f, .f, .f, .f, .f, .f, .r [.ro (.ag [.i t1065, .sl 2 (r70 t1066)]), .ro (.v (.string t1069)), .ro (.v (.bool t1070))] [], .f, .f, .f] [] rfl KD ?_
         cases h
         exact rr [.ro, .ro] rfl KD
mutual
def impl_ApplySign.l0 : Nat → ByteArray → Int → List (S70) → List Int → List ByteArray → Int → Int → Option (ByteArray × Bool)
  | 0, _, _, _, _, _, _, _ => none
  | k + 1, x0, x2, x8, x9, x18, x19, x20 => if x20 < x19 then (if 0 ≤ x20 then (if x20 < (x18.length : Int) then (if x20 > 0 then ((impl_arrOf.f k (rdOf ByteArray.empty x18 x20) 0).bind fun bt1079 => (if bt1079.2.2 = true then (if x8.length < 4398046511104 then (if x9.length < 17592186044416 then (impl_ApplySign.l0 k x0 x2 (x8 ++ [(⟨bt1079.1, bt1079.2.1⟩ : S70)]) (x9 ++ [0]) x18 x19 (wrap64 (x20 + 1))) else (none)) else (none)) else (some ((⟨#[]⟩ : ByteArray), false)))) else ((impl_arrOf.f k (rdOf ByteArray.empty x18 x20) x2).bind fun bt1091 => (if bt1091.2.2 = true then (if x8.length < 4398046511104 then (if x9.length < 17592186044416 then (impl_ApplySign.l0 k x0 x2 (x8 ++ [(⟨bt1091.1, bt1091.2.1⟩ : S70)]) (x9 ++ [x2]) x18 x19 (wrap64 (x20 + 1))) else (none)) else (none)) else (some ((⟨#[]⟩ : ByteArray), false))))) else (none)) else (none)) else ((impl_signDepth.f k x0 x9).bind fun t1103 => (if (x0.size : Int) = 1 then (impl_ApplySign.j1 k x0 x8 t1103 (decide (t1103 < 0))) else (impl_ApplySign.j1 k x0 x8 t1103 true)))
def impl_ApplySign.j1 : Nat → ByteArray → List (S70) → Int → Bool → Option (ByteArray × Bool)
  | 0, _, _, _, _ => none
  | k + 1, x0, x8, x15, x54 => if x54 = true then (some ((⟨#[]⟩ : ByteArray), false)) else ((impl_give.f k x0 x8).bind fun bt1104 => ((impl_arr_short.f k bt1104.1 bt1104.2 x15).bind fun bt1108 => (some (bt1108.1, bt1108.2))))
end
def impl_ApplySign.f (k : Nat) (a0 : ByteArray) (l1 : List ByteArray) (a2 : Int) : Option (ByteArray × Bool) := impl_ApplySign.l0 k a0 a2 (([] : List (S70))) (([] : List Int)) l1 (l1.length : Int) 0
def I12_0 (r1 : ByteArray) (r2 : Bool) (m : Nat) (σ : St) : Prop := ∃ (x0 : ByteArray) (x2 : Int) (x8 : List (S70)) (x9 : List Int) (x18 : List ByteArray) (x19 : Int) (x20 : Int), impl_ApplySign.l0 m x0 x2 x8 x9 x18 x19 x20 = some (r1, r2) ∧ σ = ⟨[(0, .v (.string x0)), (2, .i x2), (8, .ow 1008 0), (9, .ow 1009 0), (18, .sl 1 (rX cS x18)), (19, .i x19), (20, .i x20)], [(1008, .own 0 70 2 (r70 x8)), (1009, .own 0 3 1 (rX (cI .i64) x9))]⟩
abbrev W12 (r1 : ByteArray) (r2 : Bool) (w : World) (ro : Nat → Prop) (B : Nat) (p : List Nat) (j : List (St → Prop)) (σ : St) : Prop := Kp (WS TE (cx0 Tryz.f12 none w ro B) (stkAt p j (bodyOf Tryz.f12) []) σ (RetQ TE Tryz.f12 none [.ro (.v (.string r1)), .ro (.v (.bool r2))] [] w ro B))
def S12l0 (k : Nat) : Prop := ∀ r1 r2 w ro B (_ : Fr TE (cx0 Tryz.f12 none w ro B)) (σ : St) (_ : I12_0 r1 r2 k σ), W12 r1 r2 w ro B [1, 1, 0, 1, 0] [] σ
def S12j1 (k : Nat) : Prop := ∀ r1 r2 w ro B (_ : Fr TE (cx0 Tryz.f12 none w ro B)) x0 x8 x15 x54 (_ : impl_ApplySign.j1 k x0 x8 x15 x54 = some (r1, r2)), W12 r1 r2 w ro B [1, 1, 1, 1, 0, 0, 9] [] ⟨[(0, .v (.string x0)), (8, .ow 1008 0), (15, .i x15), (54, .v (.bool x54))], [(1008, .own 0 70 2 (r70 x8))]⟩
structure C12 (k : Nat) : Prop where
 s_l0 : S12l0 k
 s_j1 : S12j1 k
theorem c12l0 (k : Nat) (ih : Kp (∀ m, m < k → C12 m)) : S12l0 k := by
 intro r1 r2 w ro B hF
 intro σ h0
 refine ⟨WS.loop (fun m σ => m ≤ k ∧ I12_0 r1 r2 m σ) k ⟨Nat.le_refl k, h0⟩ (fun m σ' hI J0 hJ0 => ?_)⟩
 clear h0
 obtain ⟨hk, x0, x2, x8, x9, x18, x19, x20, h, rfl⟩ := hI
 cases m with
 | zero => simp [impl_ApplySign.l0] at h
 | succ k' =>
 simp only [impl_ApplySign.l0] at h
 rcases ic h with ⟨c1, h⟩ | ⟨c1, h⟩
 · obtain ⟨c2, h⟩ := ig h
   obtain ⟨c3, h⟩ := ig h
   rcases ic h with ⟨c4, h⟩ | ⟨c4, h⟩
   · obtain ⟨⟨t1079, t1080, t1083⟩, q5, h⟩ := ib h
     dsimp only at h
     have q5c := impl_arrOf.ctr k' _ _ _ _ _ q5
     rcases ic h with ⟨c6, h⟩ | ⟨c6, h⟩
     · obtain ⟨c7, h⟩ := ig h
       obtain ⟨c8, h⟩ := ig h
       refine pk 28 hF [.t, .e 23 (.rf [.v (.string (rdOf ByteArray.empty x18 x20))]), .t, .r [.ro (.ag [.i t1079, .sl 2 (r70 t1080)]), .ro (.v (.bool t1083))] [], .f, .p 38 ([[.i t1079, .sl 2 (r70 t1080)]]), .o 39 (r70 (x8 ++ [(⟨t1079, t1080⟩ : S70)])), .p 42 ([[.i 0]]), .o 43 (rX (cI .i64) (x9 ++ [0]))] [] rfl KD ?_
       exact WS.lpc [(1008, some 1008), (1009, some 1009)] (hJ0 _ _ (Nat.lt_succ_self _) ⟨by omega, x0, x2, (x8 ++ [(⟨t1079, t1080⟩ : S70)]), (x9 ++ [0]), x18, x19, (wrap64 (x20 + 1)), h, rfl⟩) KD
     · refine pk 25 hF [.t, .e 23 (.rf [.v (.string (rdOf ByteArray.empty x18 x20))]), .t, .r [.ro (.ag [.i t1079, .sl 2 (r70 t1080)]), .ro (.v (.bool t1083))] [], .t] [] rfl KD ?_
       cases h
       exact rr [.ro, .ro] rfl KD
   · obtain ⟨⟨t1091, t1092, t1095⟩, q9, h⟩ := ib h
     dsimp only at h
     have q9c := impl_arrOf.ctr k' _ _ _ _ _ q9
     rcases ic h with ⟨c10, h⟩ | ⟨c10, h⟩
     · obtain ⟨c11, h⟩ := ig h
       obtain ⟨c12, h⟩ := ig h
       refine pk 28 hF [.t, .e 23 (.rf [.v (.string (rdOf ByteArray.empty x18 x20))]), .f, .r [.ro (.ag [.i t1091, .sl 2 (r70 t1092)]), .ro (.v (.bool t1095))] [], .f, .p 38 ([[.i t1091, .sl 2 (r70 t1092)]]), .o 39 (r70 (x8 ++ [(⟨t1091, t1092⟩ : S70)])), .p 42 ([[.i x2]]), .o 43 (rX (cI .i64) (x9 ++ [x2]))] [] rfl KD ?_
       exact WS.lpc [(1008, some 1008), (1009, some 1009)] (hJ0 _ _ (Nat.lt_succ_self _) ⟨by omega, x0, x2, (x8 ++ [(⟨t1091, t1092⟩ : S70)]), (x9 ++ [x2]), x18, x19, (wrap64 (x20 + 1)), h, rfl⟩) KD
     · refine pk 25 hF [.t, .e 23 (.rf [.v (.string (rdOf ByteArray.empty x18 x20))]), .f, .r [.ro (.ag [.i t1091, .sl 2 (r70 t1092)]), .ro (.v (.bool t1095))] [], .t] [] rfl KD ?_
       cases h
       exact rr [.ro, .ro] rfl KD
 · obtain ⟨t1103, q13, h⟩ := ib h
   have q13c := impl_signDepth.ctr k' _ _ _ q13
   rcases ic h with ⟨c14, h⟩ | ⟨c14, h⟩
   · refine pk 10 hF [.f, .r [.ro (.i t1103)] [], .f, .f, .f] [] rfl KD ?_
     exact WS.can [(1008, some 1008)] (((ih.out k' (by omega)).s_j1  r1 r2 w ro B hF x0 x8 t1103 (decide (t1103 < 0)) h).out) KD
   · refine pk 10 hF [.f, .r [.ro (.i t1103)] [], .t, .t, .t] [] rfl KD ?_
     exact WS.can [(1008, some 1008)] (((ih.out k' (by omega)).s_j1  r1 r2 w ro B hF x0 x8 t1103 true h).out) KD
theorem c12j1 (k : Nat) (ih : Kp (∀ m, m < k → C12 m)) : S12j1 k := by
 intro r1 r2 w ro B hF
 intro x0 x8 x15 x54 h
 refine ⟨?_⟩
 cases k with
 | zero => simp [impl_ApplySign.j1] at h
 | succ k =>
 simp only [impl_ApplySign.j1] at h
 rcases ic h with ⟨c15, h⟩ | ⟨c15, h⟩
 · refine pk 4 hF [.t] [] rfl KD ?_
   cases h
   exact rr [.ro, .ro] rfl KD
 · obtain ⟨⟨t1104, t1105⟩, q16, h⟩ := ib h
   dsimp only at h
   have q16c := impl_give.ctr k _ _ _ _ q16
   obtain ⟨⟨t1108, t1109⟩, q17, h⟩ := ib h
   dsimp only at h
   have q17c := impl_arr_short.ctr k _ _ _ _ _ q17
   refine pk 5 hF [.f, .r [.ro (.ag [.i t1104, .sl 2 (r70 t1105)])] [], .r [.ro (.v (.string t1108)), .ro (.v (.bool t1109))] []] [] rfl KD ?_
   cases h
   exact rr [.ro, .ro] rfl KD
theorem cs12 (k : Nat) : C12 k := by
 induction k using Nat.strongRecOn with
 | _ k ih0 =>
 have ih : Kp (∀ m, m < k → C12 m) := ⟨ih0⟩
 exact ⟨c12l0 k ih, c12j1 k ih⟩
theorem impl_ApplySign.ctr (k : Nat) (a0 : ByteArray) (l1 : List ByteArray) (a2 : Int) (r1 : ByteArray) (r2 : Bool) (h : impl_ApplySign.f k a0 l1 a2 = some (r1, r2)) : Ctr TE 12 none [.v (.string a0), .sl 1 (rX cS l1), .i a2] [.ro (.v (.string r1)), .ro (.v (.bool r2))] [] := by
 refine co Tryz.func12 (by kernel_rfl) (by kernel_rfl) fun w ro B hF => ?_
 have ih : Kp (∀ m, m < k + 1 → C12 m) := ⟨fun m _ => cs12 m⟩
 simp only [impl_ApplySign.f] at h
 refine pk 8 hF [.p 16 ([]), .p 17 ([]), .e 19 (.i (l1.length : Int))] [] rfl KD ?_
 exact WS.can [(1008, some 16), (1009, some 17)] ((ih.a.s_l0  r1 r2 w ro B hF _ ⟨a0, a2, (([] : List (S70))), (([] : List Int)), l1, (l1.length : Int), 0, h, rfl⟩).out) KD
mutual
def laws_FnDoInstruction.j0 : Nat → ByteArray → List (S31) → Bool → Bool → Bool → Int → List (List Int) → List Int → Int → List (List Int) → List Int → Option (Bool)
  | 0, _, _, _, _, _, _, _, _, _, _, _ => none
  | k + 1, x3, x4, x6, x8, x54, x1123000, x1123001, x1123002, x1132000, x1132001, x1132002 => if x54 = true then ((laws_faVector.f k x1123000 x1123001 x1123002 x1132000 x1132001 x1132002).bind fun t1133 => (if t1133 = true then (some (x6 == x8)) else (some false))) else ((impl_UnpackVector.f k x1123000 x1123001 x1123002).bind fun bt1134 => (laws_FnDoInstruction.l0 k x3 x4 bt1134.1 bt1134.2 (([] : List (List ByteArray))) x4 (x4.length : Int) 0 x1123000 x1123001 x1123002))
def laws_FnDoInstruction.l0 : Nat → ByteArray → List (S31) → List ByteArray → Bool → List (List ByteArray) → List (S31) → Int → Int → Int → List (List Int) → List Int → Option (Bool)
  | 0, _, _, _, _, _, _, _, _, _, _, _ => none
  | k + 1, x3, x4, x9, x10, x11, x69, x70, x71, x1123000, x1123001, x1123002 => if x71 < x70 then (if 0 ≤ x71 then (if x71 < (x69.length : Int) then ((impl_UnpackVector.f k ((rd_T31 x69 x71).f0) ((rd_T31 x69 x71).f1.f0) ((rd_T31 x69 x71).f1.f1)).bind fun bt1143 => (if x10 = true then (if x11.length < 5864062014805 then (laws_FnDoInstruction.l0 k x3 x4 x9 bt1143.2 (x11 ++ [bt1143.1]) x69 x70 (wrap64 (x71 + 1)) x1123000 x1123001 x1123002) else (none)) else (if x11.length < 5864062014805 then (laws_FnDoInstruction.l0 k x3 x4 x9 false (x11 ++ [bt1143.1]) x69 x70 (wrap64 (x71 + 1)) x1123000 x1123001 x1123002) else (none)))) else (none)) else (none)) else (if x10 = true then (laws_FnDoInstruction.l1 k x3 x4 x9 x11 x1123000 0 x1123000 x1123001 x1123002) else (some true))
def laws_FnDoInstruction.l1 : Nat → ByteArray → List (S31) → List ByteArray → List (List ByteArray) → Int → Int → Int → List (List Int) → List Int → Option (Bool)
  | 0, _, _, _, _, _, _, _, _, _ => none
  | k + 1, x3, x4, x9, x11, x92, x93, x1123000, x1123001, x1123002 => if x93 < x92 then (laws_FnDoInstruction.l2 k x3 x4 x9 x11 x93 (([] : List ByteArray)) x92 x93 x11 (x11.length : Int) 0 x1123000 x1123001 x1123002) else ((impl_VectorValid.f k x1123000 x1123001 x1123002).bind fun t1153 => (if t1153 = true then (if 0 < (x4.length : Int) then (some (x1123000 == ((rd_T31 x4 0).f0))) else (none)) else (some false)))
def laws_FnDoInstruction.l2 : Nat → ByteArray → List (S31) → List ByteArray → List (List ByteArray) → Int → List ByteArray → Int → Int → List (List ByteArray) → Int → Int → Int → List (List Int) → List Int → Option (Bool)
  | 0, _, _, _, _, _, _, _, _, _, _, _, _, _, _ => none
  | k + 1, x3, x4, x9, x11, x16, x17, x92, x93, x97, x98, x99, x1123000, x1123001, x1123002 => if x99 < x98 then (if 0 ≤ x99 then (if x99 < (x97.length : Int) then (if 0 ≤ x16 then (if x16 < ((rd_L10 x97 x99).length : Int) then (if x17.length < 8796093022208 then (laws_FnDoInstruction.l2 k x3 x4 x9 x11 x16 (x17 ++ [rdOf ByteArray.empty (rd_L10 x97 x99) x16]) x92 x93 x97 x98 (wrap64 (x99 + 1)) x1123000 x1123001 x1123002) else (none)) else (none)) else (none)) else (none)) else (none)) else (if 0 < (x4.length : Int) then ((impl_ApplySign.f k x3 x17 (((rd_T31 x4 0).f1.f0).length : Int)).bind fun bt1164 => (if bt1164.2 = true then (if 0 ≤ x16 then (if x16 < (x9.length : Int) then (if bt1164.1.toList = (rdOf ByteArray.empty x9 x16).toList then (laws_FnDoInstruction.l1 k x3 x4 x9 x11 x92 (wrap64 (x93 + 1)) x1123000 x1123001 x1123002) else (some false)) else (none)) else (none)) else (some false))) else (none))
end
def laws_FnDoInstruction.f (k : Nat) (l0 : List Int) : Option (Bool) := if (l0.length : Int) > 1048576 then (some true) else ((spec_DrawDoInstruction.f k l0).bind fun bt1110 => ((impl_DoInstruction.f k bt1110.1 bt1110.2).bind fun bt1114 => ((spec_DoInstruction.f k bt1110.1 bt1110.2).bind fun bt1123 => ((laws_faVector.f k bt1114.1 bt1114.2.1 bt1114.2.2.1 bt1123.1 bt1123.2.1 bt1123.2.2.1).bind fun t1132 => (if t1132 = true then (if (bt1114.2.2.2 != bt1123.2.2.2) = true then (laws_FnDoInstruction.j0 k bt1110.1 bt1110.2 bt1114.2.2.2 bt1123.2.2.2 true bt1114.1 bt1114.2.1 bt1114.2.2.1 bt1123.1 bt1123.2.1 bt1123.2.2.1) else (laws_FnDoInstruction.j0 k bt1110.1 bt1110.2 bt1114.2.2.2 bt1123.2.2.2 (!bt1114.2.2.2) bt1114.1 bt1114.2.1 bt1114.2.2.1 bt1123.1 bt1123.2.1 bt1123.2.2.1)) else (laws_FnDoInstruction.j0 k bt1110.1 bt1110.2 bt1114.2.2.2 bt1123.2.2.2 true bt1114.1 bt1114.2.1 bt1114.2.2.1 bt1123.1 bt1123.2.1 bt1123.2.2.1))))))
def I3_0 (r : Bool) (m : Nat) (σ : St) : Prop := ∃ (x3 : ByteArray) (x4 : List (S31)) (x9 : List ByteArray) (x10 : Bool) (x11 : List (List ByteArray)) (x69 : List (S31)) (x70 : Int) (x71 : Int) (x1123000 : Int) (x1123001 : List (List Int)) (x1123002 : List Int), laws_FnDoInstruction.l0 m x3 x4 x9 x10 x11 x69 x70 x71 x1123000 x1123001 x1123002 = some r ∧ σ = ⟨[(3, .v (.string x3)), (4, .sl 3 (r31 x4)), (5, .pt 1005 0 0), (9, .ow 1009 0), (10, .v (.bool x10)), (11, .ow 1011 0), (69, .sl 3 (r31 x69)), (70, .i x70), (71, .i x71)], [(1005, .box 0 31 false [.i x1123000, .sl 1 (rX (cL (cI .i64) 1) x1123001), .sl 1 (rX (cI .i64) x1123002)]), (1009, .own 0 9 1 (rX cS x9)), (1011, .own 0 35 1 (rX (cL cS 1) x11))]⟩
def I3_1 (r : Bool) (m : Nat) (σ : St) : Prop := ∃ (x3 : ByteArray) (x4 : List (S31)) (x9 : List ByteArray) (x11 : List (List ByteArray)) (x92 : Int) (x93 : Int) (x1123000 : Int) (x1123001 : List (List Int)) (x1123002 : List Int), laws_FnDoInstruction.l1 m x3 x4 x9 x11 x92 x93 x1123000 x1123001 x1123002 = some r ∧ σ = ⟨[(3, .v (.string x3)), (4, .sl 3 (r31 x4)), (5, .pt 1005 0 0), (9, .ow 1009 0), (11, .sl 1 (rX (cL cS 1) x11)), (92, .i x92), (93, .i x93)], [(1005, .box 0 31 false [.i x1123000, .sl 1 (rX (cL (cI .i64) 1) x1123001), .sl 1 (rX (cI .i64) x1123002)]), (1009, .own 0 9 1 (rX cS x9))]⟩
def I3_2 (r : Bool) (m : Nat) (σ : St) : Prop := ∃ (x3 : ByteArray) (x4 : List (S31)) (x9 : List ByteArray) (x11 : List (List ByteArray)) (x16 : Int) (x17 : List ByteArray) (x92 : Int) (x93 : Int) (x97 : List (List ByteArray)) (x98 : Int) (x99 : Int) (x1123000 : Int) (x1123001 : List (List Int)) (x1123002 : List Int), laws_FnDoInstruction.l2 m x3 x4 x9 x11 x16 x17 x92 x93 x97 x98 x99 x1123000 x1123001 x1123002 = some r ∧ σ = ⟨[(3, .v (.string x3)), (4, .sl 3 (r31 x4)), (5, .pt 1005 0 0), (9, .ow 1009 0), (11, .sl 1 (rX (cL cS 1) x11)), (16, .i x16), (17, .ow 1017 0), (92, .i x92), (93, .i x93), (97, .sl 1 (rX (cL cS 1) x97)), (98, .i x98), (99, .i x99)], [(1005, .box 0 31 false [.i x1123000, .sl 1 (rX (cL (cI .i64) 1) x1123001), .sl 1 (rX (cI .i64) x1123002)]), (1009, .own 0 9 1 (rX cS x9)), (1017, .own 0 9 1 (rX cS x17))]⟩
abbrev W3 (r : Bool) (w : World) (ro : Nat → Prop) (B : Nat) (p : List Nat) (j : List (St → Prop)) (σ : St) : Prop := Kp (WS TE (cx0 Tryz.f3 none w ro B) (stkAt p j (bodyOf Tryz.f3) []) σ (RetQ TE Tryz.f3 none [.ro (.v (.bool r))] [] w ro B))
def S3j0 (k : Nat) : Prop := ∀ r w ro B (_ : Fr TE (cx0 Tryz.f3 none w ro B)) x3 x4 x6 x8 x54 x1123000 x1123001 x1123002 x1132000 x1132001 x1132002 (_ : laws_FnDoInstruction.j0 k x3 x4 x6 x8 x54 x1123000 x1123001 x1123002 x1132000 x1132001 x1132002 = some r), W3 r w ro B [1, 1, 1, 1, 1, 0, 0, 9] [] ⟨[(3, .v (.string x3)), (4, .sl 3 (r31 x4)), (5, .pt 1005 0 0), (6, .v (.bool x6)), (7, .pt 1007 0 0), (8, .v (.bool x8)), (54, .v (.bool x54))], [(1005, .box 0 31 false [.i x1123000, .sl 1 (rX (cL (cI .i64) 1) x1123001), .sl 1 (rX (cI .i64) x1123002)]), (1007, .box 0 31 false [.i x1132000, .sl 1 (rX (cL (cI .i64) 1) x1132001), .sl 1 (rX (cI .i64) x1132002)])]⟩
def S3l0 (k : Nat) : Prop := ∀ r w ro B (_ : Fr TE (cx0 Tryz.f3 none w ro B)) (σ : St) (_ : I3_0 r k σ), W3 r w ro B [1, 1, 1, 1, 1, 1, 1, 1, 0, 1, 0] [] σ
def S3l1 (k : Nat) : Prop := ∀ r w ro B (_ : Fr TE (cx0 Tryz.f3 none w ro B)) (σ : St) (_ : I3_1 r k σ), W3 r w ro B [1, 1, 1, 1, 1, 1, 1, 1, 1, 1, 0, 1, 0] [] σ
def S3l2 (k : Nat) : Prop := ∀ (r : Bool) (w : World) (ro : Nat → Prop) (B : Nat) (_ : Fr TE (cx0 Tryz.f3 none w ro B)) (J1 : St → Prop) (_ : ∀ m σ, m ≤ k → I3_1 r m σ → J1 σ) (σ : St) (_ : I3_2 r k σ), W3 r w ro B [1, 1, 1, 1, 1, 1, 1, 1, 1, 1, 0, 1, 0, 0, 1, 1, 0, 0, 1, 1, 0, 1, 0] [J1] σ
structure C3 (k : Nat) : Prop where
 s_j0 : S3j0 k
 s_l0 : S3l0 k
 s_l1 : S3l1 k
 s_l2 : S3l2 k
theorem c3j0 (k : Nat) (ih : Kp (∀ m, m < k → C3 m)) : S3j0 k := by
 intro r w ro B hF
 intro x3 x4 x6 x8 x54 x1123000 x1123001 x1123002 x1132000 x1132001 x1132002 h
 refine ⟨?_⟩
 cases k with
 | zero => simp [laws_FnDoInstruction.j0] at h
 | succ k =>
 simp only [laws_FnDoInstruction.j0] at h
 rcases ic h with ⟨c8, h⟩ | ⟨c8, h⟩
 · obtain ⟨t1133, q9, h⟩ := ib h
   have q9c := laws_faVector.ctr k _ _ _ _ _ _ _ q9
   rcases ic h with ⟨c10, h⟩ | ⟨c10, h⟩
   · refine pk 4 hF [.t, .r [.ro (.v (.bool t1133))] [], .t, .t, .t, .t] [] rfl KD ?_
     cases h
     exact rr [.ro] rfl KD
   · refine pk 4 hF [.t, .r [.ro (.v (.bool t1133))] [], .f, .f, .f, .f] [] rfl KD ?_
     cases h
     exact rr [.ro] rfl KD
 · obtain ⟨⟨t1134, t1137⟩, q11, h⟩ := ib h
   dsimp only at h
   have q11c := impl_UnpackVector.ctr k _ _ _ _ _ q11
   refine pk 10 hF [.f, .r [.own 9 1 (rX cS t1134), .ro (.v (.bool t1137))] [], .p 68 ([]), .e 70 (.i (x4.length : Int))] [] rfl KD ?_
   exact WS.can [(1005, some 1005), (1009, some 101040), (1011, some 68)] ((ih.a.s_l0  r w ro B hF _ ⟨x3, x4, t1134, t1137, (([] : List (List ByteArray))), x4, (x4.length : Int), 0, x1123000, x1123001, x1123002, h, rfl⟩).out) KD
theorem c3l0 (k : Nat) (ih : Kp (∀ m, m < k → C3 m)) : S3l0 k := by
 intro r w ro B hF
 intro σ h0
 refine ⟨WS.loop (fun m σ => m ≤ k ∧ I3_0 r m σ) k ⟨Nat.le_refl k, h0⟩ (fun m σ' hI J0 hJ0 => ?_)⟩
 clear h0
 obtain ⟨hk, x3, x4, x9, x10, x11, x69, x70, x71, x1123000, x1123001, x1123002, h, rfl⟩ := hI
 cases m with
 | zero => simp [laws_FnDoInstruction.l0] at h
 | succ k' =>
 simp only [laws_FnDoInstruction.l0] at h
 rcases ic h with ⟨c12, h⟩ | ⟨c12, h⟩
 · obtain ⟨c13, h⟩ := ig h
   obtain ⟨c14, h⟩ := ig h
   obtain ⟨⟨t1143, t1146⟩, q15, h⟩ := ib h
   dsimp only at h
   have q15c := impl_UnpackVector.ctr k' _ _ _ _ _ q15
   rcases ic h with ⟨c16, h⟩ | ⟨c16, h⟩
   · obtain ⟨c17, h⟩ := ig h
     refine pk 16 hF [.t, .e 73 (.rf [.i ((rd_T31 x69 x71).f0), .sl 1 (rX (cL (cI .i64) 1) ((rd_T31 x69 x71).f1.f0)), .sl 1 (rX (cI .i64) ((rd_T31 x69 x71).f1.f1))]), .r [.own 9 1 (rX cS t1143), .ro (.v (.bool t1146))] [], .t, .t, .p 86 ([[.sl 1 (rX cS t1143)]]), .o 87 (rX (cL cS 1) (x11 ++ [t1143]))] [] rfl KD ?_
     exact WS.lpc [(1005, some 1005), (1009, some 1009), (1011, some 1011)] (hJ0 _ _ (Nat.lt_succ_self _) ⟨by omega, x3, x4, x9, t1146, (x11 ++ [t1143]), x69, x70, (wrap64 (x71 + 1)), x1123000, x1123001, x1123002, h, rfl⟩) KD
   · obtain ⟨c18, h⟩ := ig h
     refine pk 16 hF [.t, .e 73 (.rf [.i ((rd_T31 x69 x71).f0), .sl 1 (rX (cL (cI .i64) 1) ((rd_T31 x69 x71).f1.f0)), .sl 1 (rX (cI .i64) ((rd_T31 x69 x71).f1.f1))]), .r [.own 9 1 (rX cS t1143), .ro (.v (.bool t1146))] [], .f, .f, .p 86 ([[.sl 1 (rX cS t1143)]]), .o 87 (rX (cL cS 1) (x11 ++ [t1143]))] [] rfl KD ?_
     exact WS.lpc [(1005, some 1005), (1009, some 1009), (1011, some 1011)] (hJ0 _ _ (Nat.lt_succ_self _) ⟨by omega, x3, x4, x9, false, (x11 ++ [t1143]), x69, x70, (wrap64 (x71 + 1)), x1123000, x1123001, x1123002, h, rfl⟩) KD
 · rcases ic h with ⟨c19, h⟩ | ⟨c19, h⟩
   · refine pk 14 hF [.f, .f] [] rfl KD ?_
     refine WS.freeze 1011 ?_ rfl
     exact WS.can [(1005, some 1005), (1009, some 1009)] (((ih.out k' (by omega)).s_l1  r w ro B hF _ ⟨x3, x4, x9, x11, x1123000, 0, x1123000, x1123001, x1123002, h, rfl⟩).out) KD
   · refine pk 12 hF [.f, .t] [] rfl KD ?_
     cases h
     exact rr [.ro] rfl KD
theorem c3l1 (k : Nat) (ih : Kp (∀ m, m < k → C3 m)) : S3l1 k := by
 intro r w ro B hF
 intro σ h0
 refine ⟨WS.loop (fun m σ => m ≤ k ∧ I3_1 r m σ) k ⟨Nat.le_refl k, h0⟩ (fun m σ' hI J1 hJ1 => ?_)⟩
 clear h0
 obtain ⟨hk, x3, x4, x9, x11, x92, x93, x1123000, x1123001, x1123002, h, rfl⟩ := hI
 cases m with
 | zero => simp [laws_FnDoInstruction.l1] at h
 | succ k' =>
 simp only [laws_FnDoInstruction.l1] at h
 rcases ic h with ⟨c20, h⟩ | ⟨c20, h⟩
 · refine pk 15 hF [.t, .p 96 ([]), .e 98 (.i (x11.length : Int))] [] rfl KD ?_
   exact WS.can [(1005, some 1005), (1009, some 1009), (1017, some 96)] (((ih.out k' (by omega)).s_l2  r w ro B hF J1 (fun m σ hm hI => hJ1 m σ (by omega) ⟨by omega, hI⟩) _ ⟨x3, x4, x9, x11, x93, (([] : List ByteArray)), x92, x93, x11, (x11.length : Int), 0, x1123000, x1123001, x1123002, h, rfl⟩).out) KD
 · obtain ⟨t1153, q21, h⟩ := ib h
   have q21c := impl_VectorValid.ctr k' _ _ _ _ q21
   rcases ic h with ⟨c22, h⟩ | ⟨c22, h⟩
   · obtain ⟨c23, h⟩ := ig h
     refine pk 8 hF [.f] [.p 4095 [⟨0, 12, false, [0]⟩, ⟨1, 11, false, [1]⟩, ⟨3, 10, true, [2]⟩, ⟨7, 9, true, [3]⟩, ⟨15, 8, true, [5]⟩, ⟨47, 7, true, [6]⟩, ⟨111, 6, true, [7]⟩, ⟨239, 5, false, [4, 8]⟩, ⟨255, 4, false, [8]⟩, ⟨495, 4, false, [4]⟩, ⟨511, 3, true, [9]⟩, ⟨1023, 2, true, [10]⟩, ⟨2047, 1, true, [11]⟩] [(0, false), (1, false), (2, true), (3, true), (5, true), (6, true), (7, true), (4, false), (8, false), (9, true), (10, true), (11, true)] [(1, [.r [.ro (.v (.bool t1153))] []]), (3, [.c true]), (5, [.c true]), (6, [.c true, .e 140 (.rf [.i ((rd_T31 x4 0).f0), .sl 1 (rX (cL (cI .i64) 1) ((rd_T31 x4 0).f1.f0)), .sl 1 (rX (cI .i64) ((rd_T31 x4 0).f1.f1))])]), (7, [.c true]), (4, [.c true]), (8, [.c true]), (9, [.c true]), (10, [.b true])]] rfl KD ?_
     cases h
     exact rr [.ro] rfl KD
   · refine pk 8 hF [.f] [.p 4095 [⟨0, 12, false, [0]⟩, ⟨1, 11, false, [1]⟩, ⟨3, 10, true, [2]⟩, ⟨7, 9, true, [3]⟩, ⟨15, 8, true, [5]⟩, ⟨47, 7, true, [6]⟩, ⟨111, 6, true, [7]⟩, ⟨239, 5, false, [4, 8]⟩, ⟨255, 4, false, [8]⟩, ⟨495, 4, false, [4]⟩, ⟨511, 3, true, [9]⟩, ⟨1023, 2, true, [10]⟩, ⟨2047, 1, true, [11]⟩] [(0, false), (1, false), (2, true), (3, true), (5, true), (6, true), (7, true), (4, false), (8, false), (9, true), (10, true), (11, true)] [(1, [.r [.ro (.v (.bool t1153))] []]), (3, [.c false]), (5, [.c false]), (6, [.c false]), (7, [.c false]), (4, [.c false]), (8, [.c false]), (9, [.c false]), (10, [.b false])]] rfl KD ?_
     cases h
     exact rr [.ro] rfl KD
theorem c3l2 (k : Nat) (ih : Kp (∀ m, m < k → C3 m)) : S3l2 k := by
 intro r w ro B hF J1 hJ1
 intro σ h0
 refine ⟨WS.loop (fun m σ => m ≤ k ∧ I3_2 r m σ) k ⟨Nat.le_refl k, h0⟩ (fun m σ' hI J2 hJ2 => ?_)⟩
 clear h0
 obtain ⟨hk, x3, x4, x9, x11, x16, x17, x92, x93, x97, x98, x99, x1123000, x1123001, x1123002, h, rfl⟩ := hI
 cases m with
 | zero => simp [laws_FnDoInstruction.l2] at h
 | succ k' =>
 simp only [laws_FnDoInstruction.l2] at h
 rcases ic h with ⟨c24, h⟩ | ⟨c24, h⟩
 · obtain ⟨c25, h⟩ := ig h
   obtain ⟨c26, h⟩ := ig h
   obtain ⟨c27, h⟩ := ig h
   obtain ⟨c28, h⟩ := ig h
   obtain ⟨c29, h⟩ := ig h
   refine pk 12 hF [.t, .e 101 (.rf [.sl 1 (rX cS (rd_L10 x97 x99))]), .e 106 (.rf [.v (.string (rdOf ByteArray.empty (rd_L10 x97 x99) x16))]), .p 108 ([[.v (.string (rdOf ByteArray.empty (rd_L10 x97 x99) x16))]]), .o 109 (rX cS (x17 ++ [rdOf ByteArray.empty (rd_L10 x97 x99) x16]))] [] rfl KD ?_
   exact WS.lpc [(1005, some 1005), (1009, some 1009), (1017, some 1017)] (hJ2 _ _ (Nat.lt_succ_self _) ⟨by omega, x3, x4, x9, x11, x16, (x17 ++ [rdOf ByteArray.empty (rd_L10 x97 x99) x16]), x92, x93, x97, x98, (wrap64 (x99 + 1)), x1123000, x1123001, x1123002, h, rfl⟩) KD
 · obtain ⟨c30, h⟩ := ig h
   obtain ⟨⟨t1164, t1165⟩, q31, h⟩ := ib h
   dsimp only at h
   have q31c := impl_ApplySign.ctr k' _ _ _ _ _ q31
   rcases ic h with ⟨c32, h⟩ | ⟨c32, h⟩
   · obtain ⟨c33, h⟩ := ig h
     obtain ⟨c34, h⟩ := ig h
     rcases ic h with ⟨c35, h⟩ | ⟨c35, h⟩
     · refine pk 13 hF [.f, .e 115 (.rf [.i ((rd_T31 x4 0).f0), .sl 1 (rX (cL (cI .i64) 1) ((rd_T31 x4 0).f1.f0)), .sl 1 (rX (cI .i64) ((rd_T31 x4 0).f1.f1))]), .e 119 (.i (((rd_T31 x4 0).f1.f0).length : Int)), .r [.ro (.v (.string t1164)), .ro (.v (.bool t1165))] [], .f, .f, .f, .f, .f, .g [.v (.string (rdOf ByteArray.empty x9 x16))], .f, .f, .f] [] rfl KD ?_
       exact WS.lpc [(1005, some 1005), (1009, some 1009)] (hJ1 _ _ (by omega) ⟨x3, x4, x9, x11, x92, (wrap64 (x93 + 1)), x1123000, x1123001, x1123002, h, rfl⟩) KD
     · refine pk 13 hF [.f, .e 115 (.rf [.i ((rd_T31 x4 0).f0), .sl 1 (rX (cL (cI .i64) 1) ((rd_T31 x4 0).f1.f0)), .sl 1 (rX (cI .i64) ((rd_T31 x4 0).f1.f1))]), .e 119 (.i (((rd_T31 x4 0).f1.f0).length : Int)), .r [.ro (.v (.string t1164)), .ro (.v (.bool t1165))] [], .f, .f, .f, .f, .f, .g [.v (.string (rdOf ByteArray.empty x9 x16))], .f, .f, .t] [] rfl KD ?_
       cases h
       exact rr [.ro] rfl KD
   · refine pk 13 hF [.f, .e 115 (.rf [.i ((rd_T31 x4 0).f0), .sl 1 (rX (cL (cI .i64) 1) ((rd_T31 x4 0).f1.f0)), .sl 1 (rX (cI .i64) ((rd_T31 x4 0).f1.f1))]), .e 119 (.i (((rd_T31 x4 0).f1.f0).length : Int)), .r [.ro (.v (.string t1164)), .ro (.v (.bool t1165))] [], .t, .t, .t, .t, .t, .t, .t, .t] [] rfl KD ?_
     cases h
     exact rr [.ro] rfl KD
theorem cs3 (k : Nat) : C3 k := by
 induction k using Nat.strongRecOn with
 | _ k ih0 =>
 have ih : Kp (∀ m, m < k → C3 m) := ⟨ih0⟩
 exact ⟨c3j0 k ih, c3l0 k ih, c3l1 k ih, c3l2 k ih⟩
theorem laws_FnDoInstruction.ctr (k : Nat) (l0 : List Int) (r : Bool) (h : laws_FnDoInstruction.f k l0 = some r) : Ctr TE 3 none [.sl 1 (rX (cI .u8) l0)] [.ro (.v (.bool r))] [] := by
 refine co Tryz.func3 (by kernel_rfl) (by kernel_rfl) fun w ro B hF => ?_
 have ih : Kp (∀ m, m < k + 1 → C3 m) := ⟨fun m _ => cs3 m⟩
 simp only [laws_FnDoInstruction.f] at h
 rcases ic h with ⟨c1, h⟩ | ⟨c1, h⟩
 · refine pk 9 hF [.e 23 (.i (l0.length : Int)), .t] [] rfl KD ?_
   cases h
   exact rr [.ro] rfl KD
 · obtain ⟨⟨t1110, t1111⟩, q2, h⟩ := ib h
   dsimp only at h
   have q2c := spec_DrawDoInstruction.ctr k _ _ _ q2
   obtain ⟨⟨t1114, t1115, t1118, t1121⟩, q3, h⟩ := ib h
   dsimp only at h
   have q3c := impl_DoInstruction.ctr k _ _ _ _ _ _ q3
   obtain ⟨⟨t1123, t1124, t1127, t1130⟩, q4, h⟩ := ib h
   dsimp only at h
   have q4c := spec_DoInstruction.ctr k _ _ _ _ _ _ q4
   obtain ⟨t1132, q5, h⟩ := ib h
   have q5c := laws_faVector.ctr k _ _ _ _ _ _ _ q5
   rcases ic h with ⟨c6, h⟩ | ⟨c6, h⟩
   · rcases ic h with ⟨c7, h⟩ | ⟨c7, h⟩
     · refine pk 16 hF [.e 23 (.i (l0.length : Int)), .f, .r [.ro (.v (.string t1110)), .own 31 3 (r31 t1111)] [], .r [.ro (.ag [.i t1114, .sl 1 (rX (cL (cI .i64) 1) t1115), .sl 1 (rX (cI .i64) t1118)]), .ro (.v (.bool t1121))] [], .r [.ro (.ag [.i t1123, .sl 1 (rX (cL (cI .i64) 1) t1124), .sl 1 (rX (cI .i64) t1127)]), .ro (.v (.bool t1130))] [], .r [.ro (.v (.bool t1132))] [], .f, .f, .f, .f, .t, .t, .t] [] rfl KD ?_
       exact WS.can [(1005, some 5), (1007, some 7)] ((ih.a.s_j0  r w ro B hF t1110 t1111 t1121 t1130 true t1114 t1115 t1118 t1123 t1124 t1127 h).out) KD
     · refine pk 16 hF [.e 23 (.i (l0.length : Int)), .f, .r [.ro (.v (.string t1110)), .own 31 3 (r31 t1111)] [], .r [.ro (.ag [.i t1114, .sl 1 (rX (cL (cI .i64) 1) t1115), .sl 1 (rX (cI .i64) t1118)]), .ro (.v (.bool t1121))] [], .r [.ro (.ag [.i t1123, .sl 1 (rX (cL (cI .i64) 1) t1124), .sl 1 (rX (cI .i64) t1127)]), .ro (.v (.bool t1130))] [], .r [.ro (.v (.bool t1132))] [], .f, .f, .f, .f, .f, .f, .f] [] rfl KD ?_
       exact WS.can [(1005, some 5), (1007, some 7)] ((ih.a.s_j0  r w ro B hF t1110 t1111 t1121 t1130 (!t1121) t1114 t1115 t1118 t1123 t1124 t1127 h).out) KD
   · refine pk 16 hF [.e 23 (.i (l0.length : Int)), .f, .r [.ro (.v (.string t1110)), .own 31 3 (r31 t1111)] [], .r [.ro (.ag [.i t1114, .sl 1 (rX (cL (cI .i64) 1) t1115), .sl 1 (rX (cI .i64) t1118)]), .ro (.v (.bool t1121))] [], .r [.ro (.ag [.i t1123, .sl 1 (rX (cL (cI .i64) 1) t1124), .sl 1 (rX (cI .i64) t1127)]), .ro (.v (.bool t1130))] [], .r [.ro (.v (.bool t1132))] [], .t, .t, .t, .t, .t, .t, .t] [] rfl KD ?_
     exact WS.can [(1005, some 5), (1007, some 7)] ((ih.a.s_j0  r w ro B hF t1110 t1111 t1121 t1130 true t1114 t1115 t1118 t1123 t1124 t1127 h).out) KD
def laws_FnDoInstruction.Pure : Prop := ∀ (l0 : List Int), l0.length ≤ maxLen → l0.length * 1 ≤ 140737488351232 → (∀ x ∈ l0, (Lit.int .u8 x).wf = true) → ∃ k, laws_FnDoInstruction.f k l0 = some true
end Go.Proofs.YtjkngiciigdheaaGreatDoor.K
