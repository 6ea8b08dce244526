/- A part of the claim. -/
import Derived.Test.YtjkngiciigdheaaGreatDoorKFx0
import Derived.Test.YtjkngiciigdheaaGreatDoorKFx1
import Derived.Test.YtjkngiciigdheaaGreatDoorKFx2
import Derived.Test.YtjkngiciigdheaaGreatDoorKFx3
import Derived.Test.YtjkngiciigdheaaGreatDoorKFSgr
import Derived.Test.YtjkngiciigdheaaGreatDoorKFSgs
import Derived.Test.YtjkngiciigdheaaGreatDoorKFSgz
namespace Go.Proofs.YtjkngiciigdheaaGreatDoor.K
open Go.RowKit Go.Proofs.YtjkngiciigdheaaGreatDoorW.St Go.Proofs.YtjkngiciigdheaaGreatDoorW.PrintWords Go.Proofs.YtjkngiciigdheaaGreatDoorW.PrintLast Go.Proofs.YtjkngiciigdheaaGreatDoorW.PrintMore
set_option linter.unusedVariables false
set_option linter.unusedSimpArgs false
set_option maxRecDepth 100000
set_option maxHeartbeats 4000000
def impl_give_2.l0 : Nat → List Int → Int → Int → Int → List (S70) → Option (Int × (List (S70)))
  | 0, _, _, _, _, _ => none
  | k + 1, x6, x7, x8, x492000, x492001 => if x8 < x7 then (if 0 ≤ x8 then (if x8 < (x6.length : Int) then (if x492001.length < 4398046511104 then (impl_give_2.l0 k x6 x7 (wrap64 (x8 + 1)) x492000 (x492001 ++ [(⟨rd x6 x8, ([] : List (S70))⟩ : S70)])) else (none)) else (none)) else (none)) else (some (x492000, x492001))
def impl_give_2.f (k : Nat) (l0 : List Int) : Option (Int × (List (S70))) := impl_give_2.l0 k l0 (l0.length : Int) 0 0 ([] : List (S70))
def I68_0 (r1 : Int) (r2 : List (S70)) (m : Nat) (σ : St) : Prop := ∃ (x6 : List Int) (x7 : Int) (x8 : Int) (x491000 : Int) (x492000 : Int) (x492001 : List (S70)), impl_give_2.l0 m x6 x7 x8 x492000 x492001 = some (r1, r2) ∧ σ = ⟨[(2, .pt 1002 0 0), (3, .pt 1003 0 0), (6, .sl 1 (rX (cI .i64) x6)), (7, .i x7), (8, .i x8)], [(1002, .box 0 70 false [.i x491000, .v (.slice none 0 0)]), (3193, .own 0 70 2 (r70 x492001)), (1003, .box 0 70 false [.i x492000, .ow 3193 0])]⟩
abbrev W68 (r1 : Int) (r2 : List (S70)) (w : World) (ro : Nat → Prop) (B : Nat) (p : List Nat) (j : List (St → Prop)) (σ : St) : Prop := Kp (WS TE (cx0 Tryz.f68 none w ro B) (stkAt p j (bodyOf Tryz.f68) []) σ (RetQ TE Tryz.f68 none [.ro (.ag [.i r1, .sl 2 (r70 r2)])] [] w ro B))
def S68l0 (k : Nat) : Prop := ∀ r1 r2 w ro B (_ : Fr TE (cx0 Tryz.f68 none w ro B)) (σ : St) (_ : I68_0 r1 r2 k σ), W68 r1 r2 w ro B [1, 1, 0, 1, 0] [] σ
structure C68 (k : Nat) : Prop where
 s_l0 : S68l0 k
theorem c68l0 (k : Nat) (ih : Kp (∀ m, m < k → C68 m)) : S68l0 k := by
 intro r1 r2 w ro B hF
 intro σ h0
 refine ⟨WS.loop (fun m σ => m ≤ k ∧ I68_0 r1 r2 m σ) k ⟨Nat.le_refl k, h0⟩ (fun m σ' hI J0 hJ0 => ?_)⟩
 clear h0
 obtain ⟨hk, x6, x7, x8, x491000, x492000, x492001, h, rfl⟩ := hI
 cases m with
 | zero => simp [impl_give_2.l0] at h
 | succ k' =>
 simp only [impl_give_2.l0] at h
 rcases ic h with ⟨c1, h⟩ | ⟨c1, h⟩
 · obtain ⟨c2, h⟩ := ig h
   obtain ⟨c3, h⟩ := ig h
   obtain ⟨c4, h⟩ := ig h
   refine pk 12 hF [.t, .e 10 (.rf [.i (rd x6 x8)]), .p 16 ([[.i (rd x6 x8), .sl 2 (r70 [])]]), .o 17 (r70 (x492001 ++ [(⟨rd x6 x8, ([] : List (S70))⟩ : S70)]))] [] rfl KD ?_
   exact WS.lpc [(1002, some 1002), (1003, some 1003), (3193, some 3193)] (hJ0 _ _ (Nat.lt_succ_self _) ⟨by omega, x6, x7, (wrap64 (x8 + 1)), x491000, x492000, (x492001 ++ [(⟨rd x6 x8, ([] : List (S70))⟩ : S70)]), h, rfl⟩) KD
 · refine pk 8 hF [.f] [] rfl KD ?_
   cases h
   exact rr [.ro] rfl KD
theorem cs68 (k : Nat) : C68 k := by
 induction k using Nat.strongRecOn with
 | _ k ih0 =>
 have ih : Kp (∀ m, m < k → C68 m) := ⟨ih0⟩
 exact ⟨c68l0 k ih⟩
theorem impl_give_2.ctr (k : Nat) (l0 : List Int) (r1 : Int) (r2 : List (S70)) (h : impl_give_2.f k l0 = some (r1, r2)) : Ctr TE 68 none [.sl 1 (rX (cI .i64) l0)] [.ro (.ag [.i r1, .sl 2 (r70 r2)])] [] := by
 refine co Tryz.func68 (by kernel_rfl) (by kernel_rfl) fun w ro B hF => ?_
 have ih : Kp (∀ m, m < k + 1 → C68 m) := ⟨fun m _ => cs68 m⟩
 simp only [impl_give_2.f] at h
 refine pk 8 hF [.e 7 (.i (l0.length : Int))] [] rfl KD ?_
 exact WS.can [(1002, some 2), (1003, some 3), (3193, none)] ((ih.a.s_l0  r1 r2 w ro B hF _ ⟨l0, (l0.length : Int), 0, 0, 0, ([] : List (S70)), h, rfl⟩).out) KD
def impl_give_3.f (a0 : Bool) : Option (Int × (List (S70))) := if a0 = true then (some (1, ([] : List (S70)))) else (some (0, ([] : List (S70))))
theorem impl_give_3.ctr (a0 : Bool) (r1 : Int) (r2 : List (S70)) (h : impl_give_3.f a0 = some (r1, r2)) : Ctr TE 69 none [.v (.bool a0)] [.ro (.ag [.i r1, .sl 2 (r70 r2)])] [] := by
 refine co Tryz.func69 (by kernel_rfl) (by kernel_rfl) fun w ro B hF => ?_
 simp only [impl_give_3.f] at h
 rcases ic h with ⟨c1, h⟩ | ⟨c1, h⟩
 · refine pk 9 hF [.t] [] rfl KD ?_
   cases h
   exact rr [.ro] rfl KD
 · refine pk 10 hF [.f] [] rfl KD ?_
   cases h
   exact rr [.ro] rfl KD
def impl_sum.f (k : Nat) (l0 : List Int) : Option (Int) := (impl_total.f k l0).bind fun t497 => (some (Int.tmod t497 10007))
theorem impl_sum.ctr (k : Nat) (l0 : List Int) (r : Int) (h : impl_sum.f k l0 = some r) : Ctr TE 70 none [.sl 1 (rX (cI .i64) l0)] [.ro (.i r)] [] := by
 refine co Tryz.func70 (by kernel_rfl) (by kernel_rfl) fun w ro B hF => ?_
 simp only [impl_sum.f] at h
 obtain ⟨t497, q1, h⟩ := ib h
 have q1c := impl_total.ctr k _ _ q1
 refine pk 5 hF [.r [.ro (.i t497)] [], .e 5 (.i (Int.tmod t497 10007))] [] rfl KD ?_
 cases h
 exact rr [.ro] rfl KD
def impl_most.f (l0 : List Int) : Option (Int) := (some (([0] : List Int) : List Int)).bind fun y498 => (if y498.length + l0.length < 17592186044416 then ((slices_Max_int.f (y498 ++ l0)).bind fun t504 => (some t504)) else (none))
theorem impl_most.ctr (l0 : List Int) (r : Int) (h : impl_most.f l0 = some r) : Ctr TE 71 none [.sl 1 (rX (cI .i64) l0)] [.ro (.i r)] [] := by
 refine co Tryz.func71 (by kernel_rfl) (by kernel_rfl) fun w ro B hF => ?_
 simp only [impl_most.f] at h
 obtain ⟨y498, hy498, h⟩ := ib h
 cases hy498
 obtain ⟨c1, h⟩ := ig h
 obtain ⟨t504, q2, h⟩ := ib h
 have q2c := slices_Max_int.ctr _ _ q2
 refine pk 5 hF [.p 3 ([[.i 0]]), .o 5 (rX (cI .i64) ((([0] : List Int)) ++ l0)), .r [.ro (.i t504)] []] [] rfl KD ?_
 cases h
 exact rr [.ro] rfl KD
mutual
def impl_give.l0 : Nat → List Int → Int → Int → Option (Int × (List (S70)))
  | 0, _, _, _ => none
  | k + 1, x9, x42, x43 => if x43 < x42 then (if x9.length < 17592186044416 then (impl_give.l0 k (x9 ++ [x43]) x42 (wrap64 (x43 + 1))) else (none)) else ((impl_give_2.f k x9).bind fun bt524 => (some (bt524.1, bt524.2)))
def impl_give.l1 : Nat → List (S70) → Int → Int → Int → List (S70) → Option (Int × (List (S70)))
  | 0, _, _, _, _, _ => none
  | k + 1, x73, x74, x75, x532000, x532001 => if x75 < x74 then (if 0 ≤ x75 then (if x75 < (x73.length : Int) then (if x532001.length + ((rd_T70 x73 x75).f1).length < 4398046511104 then (impl_give.l1 k x73 x74 (wrap64 (x75 + 1)) x532000 (x532001 ++ ((rd_T70 x73 x75).f1))) else (none)) else (none)) else (none)) else (some (x532000, x532001))
def impl_give.l2 : Nat → List Int → Int → List Int → Int → Int → Option (Int × (List (S70)))
  | 0, _, _, _, _, _ => none
  | k + 1, x15, x16, x91, x92, x93 => if x93 < x92 then (if 0 ≤ x93 then (if x93 < (x91.length : Int) then (if x15.length < 17592186044416 then (impl_give.l2 k (x15 ++ [x16]) (Int.tmod (wrap64 (x16 + (rd x91 x93))) 10007) x91 x92 (wrap64 (x93 + 1))) else (none)) else (none)) else (none)) else ((impl_give_2.f k x15).bind fun bt548 => (some (bt548.1, bt548.2)))
end
def impl_give.f (k : Nat) (a0 : ByteArray) (l1 : List (S70)) : Option (Int × (List (S70))) := if 0 < (l1.length : Int) then (if a0.toList = ([83] : List UInt8) then ((impl_give_1.f k ((rd_T70 l1 0).f0) ((rd_T70 l1 0).f1)).bind fun bt508 => ((impl_sum.f k bt508.1).bind fun t512 => (some (t512, ([] : List (S70)))))) else (if a0.toList = ([77] : List UInt8) then ((impl_give_1.f k ((rd_T70 l1 0).f0) ((rd_T70 l1 0).f1)).bind fun bt513 => ((impl_most.f bt513.1).bind fun t517 => (some (t517, ([] : List (S70)))))) else (if a0.toList = ([73] : List UInt8) then (impl_give.l0 k (([] : List Int)) (mn ((rd_T70 l1 0).f0) 12) 0) else (if a0.toList = ([78] : List UInt8) then (some ((((rd_T70 l1 0).f1).length : Int) % 10007, ([] : List (S70)))) else (if a0.toList = ([82] : List UInt8) then ((slices_Clone_arr.f ((rd_T70 l1 0).f1)).bind fun t528 => (some (0, t528.reverse))) else (if a0.toList = ([67] : List UInt8) then (impl_give.l1 k ((rd_T70 l1 0).f1) (((rd_T70 l1 0).f1).length : Int) 0 0 ([] : List (S70))) else (if a0.toList = ([80] : List UInt8) then ((impl_give_1.f k ((rd_T70 l1 0).f0) ((rd_T70 l1 0).f1)).bind fun bt540 => (impl_give.l2 k (([] : List Int)) 0 bt540.1 (bt540.1.length : Int) 0)) else (if 1 < (l1.length : Int) then (if a0.toList = ([43] : List UInt8) then (some (Int.tmod (wrap64 (((rd_T70 l1 0).f0) + ((rd_T70 l1 1).f0))) 10007, ([] : List (S70)))) else (if a0.toList = ([42] : List UInt8) then (some (Int.tmod (wrap64 (((rd_T70 l1 0).f0) * ((rd_T70 l1 1).f0))) 10007, ([] : List (S70)))) else (if a0.toList = ([94] : List UInt8) then (some (mx ((rd_T70 l1 0).f0) ((rd_T70 l1 1).f0), ([] : List (S70)))) else (if a0.toList = ([45] : List UInt8) then (some (mx 0 (wrap64 (((rd_T70 l1 0).f0) - ((rd_T70 l1 1).f0))), ([] : List (S70)))) else (if a0.toList = ([61] : List UInt8) then ((impl_give_3.f (((rd_T70 l1 0).f0) == ((rd_T70 l1 1).f0))).bind fun bt553 => (some (bt553.1, bt553.2))) else (if a0.toList = ([60] : List UInt8) then ((impl_give_3.f (decide (((rd_T70 l1 0).f0) < ((rd_T70 l1 1).f0)))).bind fun bt557 => (some (bt557.1, bt557.2))) else (if ((rd_T70 l1 1).f0) < (((rd_T70 l1 0).f1).length : Int) then (if 0 ≤ ((rd_T70 l1 1).f0) then (some ((rd_T70 ((rd_T70 l1 0).f1) ((rd_T70 l1 1).f0)).f0, (rd_T70 ((rd_T70 l1 0).f1) ((rd_T70 l1 1).f0)).f1)) else (none)) else (some (0, ([] : List (S70))))))))))) else (none))))))))) else (none)
def I42_0 (r1 : Int) (r2 : List (S70)) (m : Nat) (σ : St) : Prop := ∃ (x9 : List Int) (x42 : Int) (x43 : Int) (x506000 : Int), impl_give.l0 m x9 x42 x43 = some (r1, r2) ∧ σ = ⟨[(4, .pt 1004 0 0), (7, .v (.func (.func 68) #[] #[])), (9, .ow 1009 0), (42, .i x42), (43, .i x43)], [(1004, .box 0 70 false [.i x506000, .v (.slice none 0 0)]), (1009, .own 0 3 1 (rX (cI .i64) x9))]⟩
def I42_1 (r1 : Int) (r2 : List (S70)) (m : Nat) (σ : St) : Prop := ∃ (x73 : List (S70)) (x74 : Int) (x75 : Int) (x506000 : Int) (x532000 : Int) (x532001 : List (S70)), impl_give.l1 m x73 x74 x75 x532000 x532001 = some (r1, r2) ∧ σ = ⟨[(4, .pt 1004 0 0), (12, .pt 1012 0 0), (73, .sl 2 (r70 x73)), (74, .i x74), (75, .i x75)], [(1004, .box 0 70 false [.i x506000, .v (.slice none 0 0)]), (3769, .own 0 70 2 (r70 x532001)), (1012, .box 0 70 false [.i x532000, .ow 3769 0])]⟩
def I42_2 (r1 : Int) (r2 : List (S70)) (m : Nat) (σ : St) : Prop := ∃ (x15 : List Int) (x16 : Int) (x91 : List Int) (x92 : Int) (x93 : Int) (x506000 : Int), impl_give.l2 m x15 x16 x91 x92 x93 = some (r1, r2) ∧ σ = ⟨[(4, .pt 1004 0 0), (7, .v (.func (.func 68) #[] #[])), (15, .ow 1015 0), (16, .i x16), (91, .ow 1091 0), (92, .i x92), (93, .i x93)], [(1004, .box 0 70 false [.i x506000, .v (.slice none 0 0)]), (1015, .own 0 3 1 (rX (cI .i64) x15)), (1091, .own 0 3 1 (rX (cI .i64) x91))]⟩
abbrev W42 (r1 : Int) (r2 : List (S70)) (w : World) (ro : Nat → Prop) (B : Nat) (p : List Nat) (j : List (St → Prop)) (σ : St) : Prop := Kp (WS TE (cx0 Tryz.f42 none w ro B) (stkAt p j (bodyOf Tryz.f42) []) σ (RetQ TE Tryz.f42 none [.ro (.ag [.i r1, .sl 2 (r70 r2)])] [] w ro B))
def S42l0 (k : Nat) : Prop := ∀ r1 r2 w ro B (_ : Fr TE (cx0 Tryz.f42 none w ro B)) (σ : St) (_ : I42_0 r1 r2 k σ), W42 r1 r2 w ro B [1, 1, 1, 1, 1, 0, 1, 0, 1, 1, 1, 1, 1, 0, 1, 0, 1, 0] [] σ
def S42l1 (k : Nat) : Prop := ∀ r1 r2 w ro B (_ : Fr TE (cx0 Tryz.f42 none w ro B)) (σ : St) (_ : I42_1 r1 r2 k σ), W42 r1 r2 w ro B [1, 1, 1, 1, 1, 0, 1, 0, 1, 1, 1, 1, 1, 1, 1, 1, 1, 1, 1, 0, 1, 0, 1, 0] [] σ
def S42l2 (k : Nat) : Prop := ∀ r1 r2 w ro B (_ : Fr TE (cx0 Tryz.f42 none w ro B)) (σ : St) (_ : I42_2 r1 r2 k σ), W42 r1 r2 w ro B [1, 1, 1, 1, 1, 0, 1, 0, 1, 1, 1, 1, 1, 1, 1, 1, 1, 1, 1, 1, 1, 0, 1, 0, 1, 0] [] σ
structure C42 (k : Nat) : Prop where
 s_l0 : S42l0 k
 s_l1 : S42l1 k
 s_l2 : S42l2 k
theorem c42l0 (k : Nat) (ih : Kp (∀ m, m < k → C42 m)) : S42l0 k := by
 intro r1 r2 w ro B hF
 intro σ h0
 refine ⟨WS.loop (fun m σ => m ≤ k ∧ I42_0 r1 r2 m σ) k ⟨Nat.le_refl k, h0⟩ (fun m σ' hI J0 hJ0 => ?_)⟩
 clear h0
 obtain ⟨hk, x9, x42, x43, x506000, h, rfl⟩ := hI
 cases m with
 | zero => simp [impl_give.l0] at h
 | succ k' =>
 simp only [impl_give.l0] at h
 rcases ic h with ⟨c27, h⟩ | ⟨c27, h⟩
 · obtain ⟨c28, h⟩ := ig h
   refine pk 12 hF [.t, .p 48 ([[.i x43]]), .o 49 (rX (cI .i64) (x9 ++ [x43]))] [] rfl KD ?_
   exact WS.lpc [(1004, some 1004), (1009, some 1009)] (hJ0 _ _ (Nat.lt_succ_self _) ⟨by omega, (x9 ++ [x43]), x42, (wrap64 (x43 + 1)), x506000, h, rfl⟩) KD
 · obtain ⟨⟨t524, t525⟩, q29, h⟩ := ib h
   dsimp only at h
   have q29c := impl_give_2.ctr k' _ _ _ q29
   refine pk 8 hF [.f, .r [.ro (.ag [.i t524, .sl 2 (r70 t525)])] []] [] rfl KD ?_
   cases h
   exact rr [.ro] rfl KD
theorem c42l1 (k : Nat) (ih : Kp (∀ m, m < k → C42 m)) : S42l1 k := by
 intro r1 r2 w ro B hF
 intro σ h0
 refine ⟨WS.loop (fun m σ => m ≤ k ∧ I42_1 r1 r2 m σ) k ⟨Nat.le_refl k, h0⟩ (fun m σ' hI J1 hJ1 => ?_)⟩
 clear h0
 obtain ⟨hk, x73, x74, x75, x506000, x532000, x532001, h, rfl⟩ := hI
 cases m with
 | zero => simp [impl_give.l1] at h
 | succ k' =>
 simp only [impl_give.l1] at h
 rcases ic h with ⟨c30, h⟩ | ⟨c30, h⟩
 · obtain ⟨c31, h⟩ := ig h
   obtain ⟨c32, h⟩ := ig h
   obtain ⟨c33, h⟩ := ig h
   refine pk 12 hF [.t, .e 77 (.rf [.i ((rd_T70 x73 x75).f0), .sl 2 (r70 ((rd_T70 x73 x75).f1))]), .o 83 (r70 (x532001 ++ ((rd_T70 x73 x75).f1)))] [] rfl KD ?_
   exact WS.lpc [(1004, some 1004), (1012, some 1012), (3769, some 3769)] (hJ1 _ _ (Nat.lt_succ_self _) ⟨by omega, x73, x74, (wrap64 (x75 + 1)), x506000, x532000, (x532001 ++ ((rd_T70 x73 x75).f1)), h, rfl⟩) KD
 · refine pk 8 hF [.f] [] rfl KD ?_
   cases h
   exact rr [.ro] rfl KD
theorem c42l2 (k : Nat) (ih : Kp (∀ m, m < k → C42 m)) : S42l2 k := by
 intro r1 r2 w ro B hF
 intro σ h0
 refine ⟨WS.loop (fun m σ => m ≤ k ∧ I42_2 r1 r2 m σ) k ⟨Nat.le_refl k, h0⟩ (fun m σ' hI J2 hJ2 => ?_)⟩
 clear h0
 obtain ⟨hk, x15, x16, x91, x92, x93, x506000, h, rfl⟩ := hI
 cases m with
 | zero => simp [impl_give.l2] at h
 | succ k' =>
 simp only [impl_give.l2] at h
 rcases ic h with ⟨c34, h⟩ | ⟨c34, h⟩
 · obtain ⟨c35, h⟩ := ig h
   obtain ⟨c36, h⟩ := ig h
   obtain ⟨c37, h⟩ := ig h
   refine pk 14 hF [.t, .g [.i (rd x91 x93)], .p 99 ([[.i x16]]), .o 100 (rX (cI .i64) (x15 ++ [x16])), .e 104 (.i (Int.tmod (wrap64 (x16 + (rd x91 x93))) 10007))] [] rfl KD ?_
   exact WS.lpc [(1004, some 1004), (1015, some 1015), (1091, some 1091)] (hJ2 _ _ (Nat.lt_succ_self _) ⟨by omega, (x15 ++ [x16]), (Int.tmod (wrap64 (x16 + (rd x91 x93))) 10007), x91, x92, (wrap64 (x93 + 1)), x506000, h, rfl⟩) KD
 · obtain ⟨⟨t548, t549⟩, q38, h⟩ := ib h
   dsimp only at h
   have q38c := impl_give_2.ctr k' _ _ _ q38
   refine pk 8 hF [.f, .r [.ro (.ag [.i t548, .sl 2 (r70 t549)])] []] [] rfl KD ?_
   cases h
   exact rr [.ro] rfl KD
theorem cs42 (k : Nat) : C42 k := by
 induction k using Nat.strongRecOn with
 | _ k ih0 =>
 have ih : Kp (∀ m, m < k → C42 m) := ⟨ih0⟩
 exact ⟨c42l0 k ih, c42l1 k ih, c42l2 k ih⟩
theorem impl_give.ctr (k : Nat) (a0 : ByteArray) (l1 : List (S70)) (r1 : Int) (r2 : List (S70)) (h : impl_give.f k a0 l1 = some (r1, r2)) : Ctr TE 42 none [.v (.string a0), .sl 2 (r70 l1)] [.ro (.ag [.i r1, .sl 2 (r70 r2)])] [] := by
 refine co Tryz.func42 (by kernel_rfl) (by kernel_rfl) fun w ro B hF => ?_
 have ih : Kp (∀ m, m < k + 1 → C42 m) := ⟨fun m _ => cs42 m⟩
 simp only [impl_give.f] at h
 obtain ⟨c1, h⟩ := ig h
 rcases ic h with ⟨c2, h⟩ | ⟨c2, h⟩
 · obtain ⟨⟨t508, t511⟩, q3, h⟩ := ib h
   dsimp only at h
   have q3c := impl_give_1.ctr k _ _ _ _ q3
   obtain ⟨t512, q4, h⟩ := ib h
   have q4c := impl_sum.ctr k _ _ q4
   refine pk 20 hF [.e 21 (.rf [.i ((rd_T70 l1 0).f0), .sl 2 (r70 ((rd_T70 l1 0).f1))]), .t, .r [.own 3 1 (rX (cI .i64) t508)] [.i t511, .sl 2 (r70 ((rd_T70 l1 0).f1))], .r [.ro (.i t512)] []] [] rfl KD ?_
   cases h
   exact rr [.ro] rfl KD
 · rcases ic h with ⟨c5, h⟩ | ⟨c5, h⟩
   · obtain ⟨⟨t513, t516⟩, q6, h⟩ := ib h
     dsimp only at h
     have q6c := impl_give_1.ctr k _ _ _ _ q6
     obtain ⟨t517, q7, h⟩ := ib h
     have q7c := impl_most.ctr _ _ q7
     refine pk 23 hF [.e 21 (.rf [.i ((rd_T70 l1 0).f0), .sl 2 (r70 ((rd_T70 l1 0).f1))]), .f, .t, .r [.own 3 1 (rX (cI .i64) t513)] [.i t516, .sl 2 (r70 ((rd_T70 l1 0).f1))], .r [.ro (.i t517)] []] [] rfl KD ?_
     cases h
     exact rr [.ro] rfl KD
   · rcases ic h with ⟨c8, h⟩ | ⟨c8, h⟩
     · refine pk 29 hF [.e 21 (.rf [.i ((rd_T70 l1 0).f0), .sl 2 (r70 ((rd_T70 l1 0).f1))]), .f, .f, .t, .p 39 ([])] [] rfl KD ?_
       exact WS.can [(1004, some 4), (1009, some 39)] ((ih.a.s_l0  r1 r2 w ro B hF _ ⟨(([] : List Int)), (mn ((rd_T70 l1 0).f0) 12), 0, 0, h, rfl⟩).out) KD
     · rcases ic h with ⟨c9, h⟩ | ⟨c9, h⟩
       · refine pk 29 hF [.e 21 (.rf [.i ((rd_T70 l1 0).f0), .sl 2 (r70 ((rd_T70 l1 0).f1))]), .f, .f, .f, .t, .e 58 (.i (((rd_T70 l1 0).f1).length : Int)), .e 59 (.i ((((rd_T70 l1 0).f1).length : Int) % 10007))] [] rfl KD ?_
         cases h
         exact rr [.ro] rfl KD
       · rcases ic h with ⟨c10, h⟩ | ⟨c10, h⟩
         · obtain ⟨t528, q11, h⟩ := ib h
           have q11c := slices_Clone_arr.ctr _ _ q11
           have q12 := slices_Reverse_arr.ctrR t528
           refine pk 36 hF [.e 21 (.rf [.i ((rd_T70 l1 0).f0), .sl 2 (r70 ((rd_T70 l1 0).f1))]), .f, .f, .f, .f, .t, .r [.own 70 2 (r70 t528)] [], .m (r70 t528.reverse)] [] rfl KD ?_
           cases h
           exact rr [.ro] rfl KD
         · rcases ic h with ⟨c13, h⟩ | ⟨c13, h⟩
           · refine pk 38 hF [.e 21 (.rf [.i ((rd_T70 l1 0).f0), .sl 2 (r70 ((rd_T70 l1 0).f1))]), .f, .f, .f, .f, .f, .t, .e 74 (.i (((rd_T70 l1 0).f1).length : Int))] [] rfl KD ?_
             exact WS.can [(1004, some 4), (1012, some 12), (3769, none)] ((ih.a.s_l1  r1 r2 w ro B hF _ ⟨((rd_T70 l1 0).f1), (((rd_T70 l1 0).f1).length : Int), 0, 0, 0, ([] : List (S70)), h, rfl⟩).out) KD
           · rcases ic h with ⟨c14, h⟩ | ⟨c14, h⟩
             · obtain ⟨⟨t540, t543⟩, q15, h⟩ := ib h
               dsimp only at h
               have q15c := impl_give_1.ctr k _ _ _ _ q15
               refine pk 41 hF [.e 21 (.rf [.i ((rd_T70 l1 0).f0), .sl 2 (r70 ((rd_T70 l1 0).f1))]), .f, .f, .f, .f, .f, .f, .t, .p 89 ([]), .r [.own 3 1 (rX (cI .i64) t540)] [.i t543, .sl 2 (r70 ((rd_T70 l1 0).f1))], .e 92 (.i (t540.length : Int))] [] rfl KD ?_
               exact WS.can [(1004, some 4), (1015, some 89), (1091, some 101456)] ((ih.a.s_l2  r1 r2 w ro B hF _ ⟨(([] : List Int)), 0, t540, (t540.length : Int), 0, 0, h, rfl⟩).out) KD
             · obtain ⟨c16, h⟩ := ig h
               rcases ic h with ⟨c17, h⟩ | ⟨c17, h⟩
               · refine pk 49 hF [.e 21 (.rf [.i ((rd_T70 l1 0).f0), .sl 2 (r70 ((rd_T70 l1 0).f1))]), .f, .f, .f, .f, .f, .f, .f, .e 110 (.rf [.i ((rd_T70 l1 1).f0), .sl 2 (r70 ((rd_T70 l1 1).f1))]), .t, .e 120 (.i (Int.tmod (wrap64 (((rd_T70 l1 0).f0) + ((rd_T70 l1 1).f0))) 10007))] [] rfl KD ?_
                 cases h
                 exact rr [.ro] rfl KD
               · rcases ic h with ⟨c18, h⟩ | ⟨c18, h⟩
                 · refine pk 52 hF [.e 21 (.rf [.i ((rd_T70 l1 0).f0), .sl 2 (r70 ((rd_T70 l1 0).f1))]), .f, .f, .f, .f, .f, .f, .f, .e 110 (.rf [.i ((rd_T70 l1 1).f0), .sl 2 (r70 ((rd_T70 l1 1).f1))]), .f, .t, .e 128 (.i (Int.tmod (wrap64 (((rd_T70 l1 0).f0) * ((rd_T70 l1 1).f0))) 10007))] [] rfl KD ?_
                   cases h
                   exact rr [.ro] rfl KD
                 · rcases ic h with ⟨c19, h⟩ | ⟨c19, h⟩
                   · refine pk 55 hF [.e 21 (.rf [.i ((rd_T70 l1 0).f0), .sl 2 (r70 ((rd_T70 l1 0).f1))]), .f, .f, .f, .f, .f, .f, .f, .e 110 (.rf [.i ((rd_T70 l1 1).f0), .sl 2 (r70 ((rd_T70 l1 1).f1))]), .f, .f, .t] [] rfl KD ?_
                     cases h
                     exact rr [.ro] rfl KD
                   · rcases ic h with ⟨c20, h⟩ | ⟨c20, h⟩
                     · refine pk 58 hF [.e 21 (.rf [.i ((rd_T70 l1 0).f0), .sl 2 (r70 ((rd_T70 l1 0).f1))]), .f, .f, .f, .f, .f, .f, .f, .e 110 (.rf [.i ((rd_T70 l1 1).f0), .sl 2 (r70 ((rd_T70 l1 1).f1))]), .f, .f, .f, .t] [] rfl KD ?_
                       cases h
                       exact rr [.ro] rfl KD
                     · rcases ic h with ⟨c21, h⟩ | ⟨c21, h⟩
                       · obtain ⟨⟨t553, t554⟩, q22, h⟩ := ib h
                         dsimp only at h
                         have q22c := impl_give_3.ctr _ _ _ q22
                         refine pk 61 hF [.e 21 (.rf [.i ((rd_T70 l1 0).f0), .sl 2 (r70 ((rd_T70 l1 0).f1))]), .f, .f, .f, .f, .f, .f, .f, .e 110 (.rf [.i ((rd_T70 l1 1).f0), .sl 2 (r70 ((rd_T70 l1 1).f1))]), .f, .f, .f, .f, .t, .r [.ro (.ag [.i t553, .sl 2 (r70 t554)])] []] [] rfl KD ?_
                         cases h
                         exact rr [.ro] rfl KD
                       · rcases ic h with ⟨c23, h⟩ | ⟨c23, h⟩
                         · obtain ⟨⟨t557, t558⟩, q24, h⟩ := ib h
                           dsimp only at h
                           have q24c := impl_give_3.ctr _ _ _ q24
                           refine pk 64 hF [.e 21 (.rf [.i ((rd_T70 l1 0).f0), .sl 2 (r70 ((rd_T70 l1 0).f1))]), .f, .f, .f, .f, .f, .f, .f, .e 110 (.rf [.i ((rd_T70 l1 1).f0), .sl 2 (r70 ((rd_T70 l1 1).f1))]), .f, .f, .f, .f, .f, .t, .r [.ro (.ag [.i t557, .sl 2 (r70 t558)])] []] [] rfl KD ?_
                           cases h
                           exact rr [.ro] rfl KD
                         · rcases ic h with ⟨c25, h⟩ | ⟨c25, h⟩
                           · obtain ⟨c26, h⟩ := ig h
                             refine pk 70 hF [.e 21 (.rf [.i ((rd_T70 l1 0).f0), .sl 2 (r70 ((rd_T70 l1 0).f1))]), .f, .f, .f, .f, .f, .f, .f, .e 110 (.rf [.i ((rd_T70 l1 1).f0), .sl 2 (r70 ((rd_T70 l1 1).f1))]), .f, .f, .f, .f, .f, .f, .e 164 (.i (((rd_T70 l1 0).f1).length : Int)), .t, .e 169 (.rf [.i ((rd_T70 ((rd_T70 l1 0).f1) ((rd_T70 l1 1).f0)).f0), .sl 2 (r70 ((rd_T70 ((rd_T70 l1 0).f1) ((rd_T70 l1 1).f0)).f1))])] [] rfl KD ?_
                             cases h
                             exact rr [.ro] rfl KD
                           · refine pk 71 hF [.e 21 (.rf [.i ((rd_T70 l1 0).f0), .sl 2 (r70 ((rd_T70 l1 0).f1))]), .f, .f, .f, .f, .f, .f, .f, .e 110 (.rf [.i ((rd_T70 l1 1).f0), .sl 2 (r70 ((rd_T70 l1 1).f1))]), .f, .f, .f, .f, .f, .f, .e 164 (.i (((rd_T70 l1 0).f1).length : Int)), .f] [] rfl KD ?_
                             cases h
                             exact rr [.ro] rfl KD
mutual
def impl_DoInstruction.l0 : Nat → ByteArray → List (S31) → List Int → List (S31) → Int → Int → Option (Int × (List (List Int)) × List Int × Bool)
  | 0, _, _, _, _, _, _ => none
  | k + 1, x0, x1, x6, x19, x20, x21 => if x21 < x20 then (if 0 ≤ x21 then (if x21 < (x19.length : Int) then ((impl_VectorValid.f k ((rd_T31 x19 x21).f0) ((rd_T31 x19 x21).f1.f0) ((rd_T31 x19 x21).f1.f1)).bind fun t568 => (if t568 = true then (if 0 < (x1.length : Int) then (if ((rd_T31 x19 x21).f0) = ((rd_T31 x1 0).f0) then (if x6.length < 17592186044416 then (impl_DoInstruction.l0 k x0 x1 (x6 ++ [(((rd_T31 x19 x21).f1.f0).length : Int)]) x19 x20 (wrap64 (x21 + 1))) else (none)) else (some (0, ([] : List (List Int)), ([] : List Int), false))) else (none)) else (some (0, ([] : List (List Int)), ([] : List Int), false)))) else (none)) else (none)) else ((impl_signDepth.f k x0 x6).bind fun t573 => (if (x0.size : Int) = 1 then (impl_DoInstruction.j1 k x0 x1 t573 (decide (t573 < 0))) else (impl_DoInstruction.j1 k x0 x1 t573 true)))
def impl_DoInstruction.j1 : Nat → ByteArray → List (S31) → Int → Bool → Option (Int × (List (List Int)) × List Int × Bool)
  | 0, _, _, _, _ => none
  | k + 1, x0, x1, x9, x55 => if x55 = true then (some (0, ([] : List (List Int)), ([] : List Int), false)) else (impl_DoInstruction.l1 k x0 x1 x9 (([] : List (List (S70)))) x1 (x1.length : Int) 0)
def impl_DoInstruction.l1 : Nat → ByteArray → List (S31) → Int → List (List (S70)) → List (S31) → Int → Int → Option (Int × (List (List Int)) × List Int × Bool)
  | 0, _, _, _, _, _, _, _ => none
  | k + 1, x0, x1, x9, x10, x58, x59, x60 => if x60 < x59 then (if 0 ≤ x60 then (if x60 < (x58.length : Int) then ((impl_Vector_arrays.f k ((rd_T31 x58 x60).f0) ((rd_T31 x58 x60).f1.f0) ((rd_T31 x58 x60).f1.f1)).bind fun t579 => (if x10.length < 5864062014805 then (impl_DoInstruction.l1 k x0 x1 x9 (x10 ++ [t579]) x58 x59 (wrap64 (x60 + 1))) else (none))) else (none)) else (none)) else (if 0 < (x1.length : Int) then (impl_DoInstruction.l2 k x0 x9 x10 (([] : List (S70))) ((rd_T31 x1 0).f0) 0) else (none))
def impl_DoInstruction.l2 : Nat → ByteArray → Int → List (List (S70)) → List (S70) → Int → Int → Option (Int × (List (List Int)) × List Int × Bool)
  | 0, _, _, _, _, _, _ => none
  | k + 1, x0, x9, x10, x13, x74, x75 => if x75 < x74 then (impl_DoInstruction.l3 k x0 x9 x10 x13 x75 (([] : List (S70))) x74 x75 x10 (x10.length : Int) 0) else ((impl_laid.f k x13 x9).bind fun bt589 => (some ((x13.length : Int), bt589.1, bt589.2, true)))
def impl_DoInstruction.l3 : Nat → ByteArray → Int → List (List (S70)) → List (S70) → Int → List (S70) → Int → Int → List (List (S70)) → Int → Int → Option (Int × (List (List Int)) × List Int × Bool)
  | 0, _, _, _, _, _, _, _, _, _, _, _ => none
  | k + 1, x0, x9, x10, x13, x14, x15, x74, x75, x79, x80, x81 => if x81 < x80 then (if 0 ≤ x81 then (if x81 < (x79.length : Int) then (if 0 ≤ x14 then (if x14 < ((rd_L8 x79 x81).length : Int) then (if x15.length < 4398046511104 then (impl_DoInstruction.l3 k x0 x9 x10 x13 x14 (x15 ++ [(⟨(rd_T70 (rd_L8 x79 x81) x14).f0, (rd_T70 (rd_L8 x79 x81) x14).f1⟩ : S70)]) x74 x75 x79 x80 (wrap64 (x81 + 1))) else (none)) else (none)) else (none)) else (none)) else (none)) else ((impl_give.f k x0 x15).bind fun bt603 => (if x13.length < 4398046511104 then (impl_DoInstruction.l2 k x0 x9 x10 (x13 ++ [(⟨bt603.1, bt603.2⟩ : S70)]) x74 (wrap64 (x75 + 1))) else (none)))
end
def impl_DoInstruction.f (k : Nat) (a0 : ByteArray) (l1 : List (S31)) : Option (Int × (List (List Int)) × List Int × Bool) := impl_DoInstruction.l0 k a0 l1 (([] : List Int)) l1 (l1.length : Int) 0
def I8_0 (r1 : Int) (r2 : List (List Int)) (r3 : List Int) (r4 : Bool) (m : Nat) (σ : St) : Prop := ∃ (x0 : ByteArray) (x1 : List (S31)) (x6 : List Int) (x19 : List (S31)) (x20 : Int) (x21 : Int) (x563000 : Int), impl_DoInstruction.l0 m x0 x1 x6 x19 x20 x21 = some (r1, r2, r3, r4) ∧ σ = ⟨[(0, .v (.string x0)), (1, .sl 3 (r31 x1)), (4, .pt 1004 0 0), (6, .ow 1006 0), (19, .sl 3 (r31 x19)), (20, .i x20), (21, .i x21)], [(1004, .box 0 31 false [.i x563000, .v (.slice none 0 0), .v (.slice none 0 0)]), (1006, .own 0 3 1 (rX (cI .i64) x6))]⟩
def I8_1 (r1 : Int) (r2 : List (List Int)) (r3 : List Int) (r4 : Bool) (m : Nat) (σ : St) : Prop := ∃ (x0 : ByteArray) (x1 : List (S31)) (x9 : Int) (x10 : List (List (S70))) (x58 : List (S31)) (x59 : Int) (x60 : Int) (x563000 : Int), impl_DoInstruction.l1 m x0 x1 x9 x10 x58 x59 x60 = some (r1, r2, r3, r4) ∧ σ = ⟨[(0, .v (.string x0)), (1, .sl 3 (r31 x1)), (4, .pt 1004 0 0), (9, .i x9), (10, .ow 1010 0), (58, .sl 3 (r31 x58)), (59, .i x59), (60, .i x60)], [(1004, .box 0 31 false [.i x563000, .v (.slice none 0 0), .v (.slice none 0 0)]), (1010, .own 0 67 1 (rX (cV r70 2) x10))]⟩
def I8_2 (r1 : Int) (r2 : List (List Int)) (r3 : List Int) (r4 : Bool) (m : Nat) (σ : St) : Prop := ∃ (x0 : ByteArray) (x9 : Int) (x10 : List (List (S70))) (x13 : List (S70)) (x74 : Int) (x75 : Int) (x563000 : Int), impl_DoInstruction.l2 m x0 x9 x10 x13 x74 x75 = some (r1, r2, r3, r4) ∧ σ = ⟨[(0, .v (.string x0)), (4, .pt 1004 0 0), (9, .i x9), (10, .sl 1 (rX (cV r70 2) x10)), (13, .ow 1013 0), (74, .i x74), (75, .i x75)], [(1004, .box 0 31 false [.i x563000, .v (.slice none 0 0), .v (.slice none 0 0)]), (1013, .own 0 70 2 (r70 x13))]⟩
def I8_3 (r1 : Int) (r2 : List (List Int)) (r3 : List Int) (r4 : Bool) (m : Nat) (σ : St) : Prop := ∃ (x0 : ByteArray) (x9 : Int) (x10 : List (List (S70))) (x13 : List (S70)) (x14 : Int) (x15 : List (S70)) (x74 : Int) (x75 : Int) (x79 : List (List (S70))) (x80 : Int) (x81 : Int) (x563000 : Int), impl_DoInstruction.l3 m x0 x9 x10 x13 x14 x15 x74 x75 x79 x80 x81 = some (r1, r2, r3, r4) ∧ σ = ⟨[(0, .v (.string x0)), (4, .pt 1004 0 0), (9, .i x9), (10, .sl 1 (rX (cV r70 2) x10)), (13, .ow 1013 0), (14, .i x14), (15, .ow 1015 0), (74, .i x74), (75, .i x75), (79, .sl 1 (rX (cV r70 2) x79)), (80, .i x80), (81, .i x81)], [(1004, .box 0 31 false [.i x563000, .v (.slice none 0 0), .v (.slice none 0 0)]), (1013, .own 0 70 2 (r70 x13)), (1015, .own 0 70 2 (r70 x15))]⟩
abbrev W8 (r1 : Int) (r2 : List (List Int)) (r3 : List Int) (r4 : Bool) (w : World) (ro : Nat → Prop) (B : Nat) (p : List Nat) (j : List (St → Prop)) (σ : St) : Prop := Kp (WS TE (cx0 Tryz.f8 none w ro B) (stkAt p j (bodyOf Tryz.f8) []) σ (RetQ TE Tryz.f8 none [.ro (.ag [.i r1, .sl 1 (rX (cL (cI .i64) 1) r2), .sl 1 (rX (cI .i64) r3)]), .ro (.v (.bool r4))] [] w ro B))
def S8l0 (k : Nat) : Prop := ∀ r1 r2 r3 r4 w ro B (_ : Fr TE (cx0 Tryz.f8 none w ro B)) (σ : St) (_ : I8_0 r1 r2 r3 r4 k σ), W8 r1 r2 r3 r4 w ro B [1, 1, 0, 1, 0] [] σ
def S8j1 (k : Nat) : Prop := ∀ r1 r2 r3 r4 w ro B (_ : Fr TE (cx0 Tryz.f8 none w ro B)) x0 x1 x9 x55 x563000 (_ : impl_DoInstruction.j1 k x0 x1 x9 x55 = some (r1, r2, r3, r4)), W8 r1 r2 r3 r4 w ro B [1, 1, 1, 1, 0, 0, 9] [] ⟨[(0, .v (.string x0)), (1, .sl 3 (r31 x1)), (4, .pt 1004 0 0), (9, .i x9), (55, .v (.bool x55))], [(1004, .box 0 31 false [.i x563000, .v (.slice none 0 0), .v (.slice none 0 0)])]⟩
def S8l1 (k : Nat) : Prop := ∀ r1 r2 r3 r4 w ro B (_ : Fr TE (cx0 Tryz.f8 none w ro B)) (σ : St) (_ : I8_1 r1 r2 r3 r4 k σ), W8 r1 r2 r3 r4 w ro B [1, 1, 1, 1, 1, 1, 0, 1, 0] [] σ
def S8l2 (k : Nat) : Prop := ∀ r1 r2 r3 r4 w ro B (_ : Fr TE (cx0 Tryz.f8 none w ro B)) (σ : St) (_ : I8_2 r1 r2 r3 r4 k σ), W8 r1 r2 r3 r4 w ro B [1, 1, 1, 1, 1, 1, 1, 1, 0, 1, 0] [] σ
def S8l3 (k : Nat) : Prop := ∀ (r1 : Int) (r2 : List (List Int)) (r3 : List Int) (r4 : Bool) (w : World) (ro : Nat → Prop) (B : Nat) (_ : Fr TE (cx0 Tryz.f8 none w ro B)) (J2 : St → Prop) (_ : ∀ m σ, m ≤ k → I8_2 r1 r2 r3 r4 m σ → J2 σ) (σ : St) (_ : I8_3 r1 r2 r3 r4 k σ), W8 r1 r2 r3 r4 w ro B [1, 1, 1, 1, 1, 1, 1, 1, 0, 1, 0, 0, 1, 1, 0, 0, 1, 1, 0, 1, 0] [J2] σ
structure C8 (k : Nat) : Prop where
 s_l0 : S8l0 k
 s_j1 : S8j1 k
 s_l1 : S8l1 k
 s_l2 : S8l2 k
 s_l3 : S8l3 k
theorem c8l0 (k : Nat) (ih : Kp (∀ m, m < k → C8 m)) : S8l0 k := by
 intro r1 r2 r3 r4 w ro B hF
 intro σ h0
 refine ⟨WS.loop (fun m σ => m ≤ k ∧ I8_0 r1 r2 r3 r4 m σ) k ⟨Nat.le_refl k, h0⟩ (fun m σ' hI J0 hJ0 => ?_)⟩
 clear h0
 obtain ⟨hk, x0, x1, x6, x19, x20, x21, x563000, h, rfl⟩ := hI
 cases m with
 | zero => simp [impl_DoInstruction.l0] at h
 | succ k' =>
 simp only [impl_DoInstruction.l0] at h
 rcases ic h with ⟨c1, h⟩ | ⟨c1, h⟩
 · obtain ⟨c2, h⟩ := ig h
   obtain ⟨c3, h⟩ := ig h
   obtain ⟨t568, q4, h⟩ := ib h
   have q4c := impl_VectorValid.ctr k' _ _ _ _ q4
   rcases ic h with ⟨c5, h⟩ | ⟨c5, h⟩
   · obtain ⟨c6, h⟩ := ig h
     rcases ic h with ⟨c7, h⟩ | ⟨c7, h⟩
     · obtain ⟨c8, h⟩ := ig h
       refine pk 17 hF [.t, .e 23 (.rf [.i ((rd_T31 x19 x21).f0), .sl 1 (rX (cL (cI .i64) 1) ((rd_T31 x19 x21).f1.f0)), .sl 1 (rX (cI .i64) ((rd_T31 x19 x21).f1.f1))]), .f, .e 42 (.i (((rd_T31 x19 x21).f1.f0).length : Int)), .p 43 ([[.i (((rd_T31 x19 x21).f1.f0).length : Int)]]), .o 44 (rX (cI .i64) (x6 ++ [(((rd_T31 x19 x21).f1.f0).length : Int)]))] [.p 4095 [⟨0, 12, false, [0]⟩, ⟨1, 11, false, [1]⟩, ⟨3, 10, true, [2]⟩, ⟨7, 9, true, [3]⟩, ⟨15, 8, true, [4]⟩, ⟨31, 7, true, [6]⟩, ⟨95, 6, true, [7]⟩, ⟨223, 5, true, [8]⟩, ⟨479, 4, false, [5, 9]⟩, ⟨511, 3, false, [9]⟩, ⟨991, 3, false, [5]⟩, ⟨1023, 2, true, [10]⟩, ⟨2047, 1, true, [11]⟩] [(0, false), (1, false), (2, true), (3, true), (4, true), (6, true), (7, true), (8, true), (5, false), (9, false), (10, true), (11, true)] [(1, [.r [.ro (.v (.bool t568))] []]), (4, [.c false]), (6, [.c false]), (7, [.c false, .e 32 (.rf [.i ((rd_T31 x1 0).f0), .sl 1 (rX (cL (cI .i64) 1) ((rd_T31 x1 0).f1.f0)), .sl 1 (rX (cI .i64) ((rd_T31 x1 0).f1.f1))])]), (8, [.c false]), (5, [.c false]), (9, [.c false]), (10, [.c false]), (11, [.b false])]] rfl KD ?_
       exact WS.lpc [(1004, some 1004), (1006, some 1006)] (hJ0 _ _ (Nat.lt_succ_self _) ⟨by omega, x0, x1, (x6 ++ [(((rd_T31 x19 x21).f1.f0).length : Int)]), x19, x20, (wrap64 (x21 + 1)), x563000, h, rfl⟩) KD
     · refine pk 16 hF [.t, .e 23 (.rf [.i ((rd_T31 x19 x21).f0), .sl 1 (rX (cL (cI .i64) 1) ((rd_T31 x19 x21).f1.f0)), .sl 1 (rX (cI .i64) ((rd_T31 x19 x21).f1.f1))]), .t] [.p 4095 [⟨0, 12, false, [0]⟩, ⟨1, 11, false, [1]⟩, ⟨3, 10, true, [2]⟩, ⟨7, 9, true, [3]⟩, ⟨15, 8, true, [4]⟩, ⟨31, 7, true, [6]⟩, ⟨95, 6, true, [7]⟩, ⟨223, 5, true, [8]⟩, ⟨479, 4, false, [5, 9]⟩, ⟨511, 3, false, [9]⟩, ⟨991, 3, false, [5]⟩, ⟨1023, 2, true, [10]⟩, ⟨2047, 1, true, [11]⟩] [(0, false), (1, false), (2, true), (3, true), (4, true), (6, true), (7, true), (8, true), (5, false), (9, false), (10, true), (11, true)] [(1, [.r [.ro (.v (.bool t568))] []]), (4, [.c false]), (6, [.c false]), (7, [.c false, .e 32 (.rf [.i ((rd_T31 x1 0).f0), .sl 1 (rX (cL (cI .i64) 1) ((rd_T31 x1 0).f1.f0)), .sl 1 (rX (cI .i64) ((rd_T31 x1 0).f1.f1))])]), (8, [.c false]), (5, [.c false]), (9, [.c false]), (10, [.c false]), (11, [.b false])]] rfl KD ?_
       cases h
       exact rr [.ro, .ro] rfl KD
   · refine pk 16 hF [.t, .e 23 (.rf [.i ((rd_T31 x19 x21).f0), .sl 1 (rX (cL (cI .i64) 1) ((rd_T31 x19 x21).f1.f0)), .sl 1 (rX (cI .i64) ((rd_T31 x19 x21).f1.f1))]), .t] [.p 4095 [⟨0, 12, false, [0]⟩, ⟨1, 11, false, [1]⟩, ⟨3, 10, true, [2]⟩, ⟨7, 9, true, [3]⟩, ⟨15, 8, true, [4]⟩, ⟨31, 7, true, [6]⟩, ⟨95, 6, true, [7]⟩, ⟨223, 5, true, [8]⟩, ⟨479, 4, false, [5, 9]⟩, ⟨511, 3, false, [9]⟩, ⟨991, 3, false, [5]⟩, ⟨1023, 2, true, [10]⟩, ⟨2047, 1, true, [11]⟩] [(0, false), (1, false), (2, true), (3, true), (4, true), (6, true), (7, true), (8, true), (5, false), (9, false), (10, true), (11, true)] [(1, [.r [.ro (.v (.bool t568))] []]), (4, [.c true]), (6, [.c true]), (7, [.c true]), (8, [.c true]), (5, [.c true]), (9, [.c true]), (10, [.c true]), (11, [.b true])]] rfl KD ?_
     cases h
     exact rr [.ro, .ro] rfl KD
 · obtain ⟨t573, q9, h⟩ := ib h
   have q9c := impl_signDepth.ctr k' _ _ _ q9
   rcases ic h with ⟨c10, h⟩ | ⟨c10, h⟩
   · refine pk 10 hF [.f, .r [.ro (.i t573)] [], .f, .f, .f] [] rfl KD ?_
     exact WS.can [(1004, some 1004)] (((ih.out k' (by omega)).s_j1  r1 r2 r3 r4 w ro B hF x0 x1 t573 (decide (t573 < 0)) x563000 h).out) KD
   · refine pk 10 hF [.f, .r [.ro (.i t573)] [], .t, .t, .t] [] rfl KD ?_
     exact WS.can [(1004, some 1004)] (((ih.out k' (by omega)).s_j1  r1 r2 r3 r4 w ro B hF x0 x1 t573 true x563000 h).out) KD
theorem c8j1 (k : Nat) (ih : Kp (∀ m, m < k → C8 m)) : S8j1 k := by
 intro r1 r2 r3 r4 w ro B hF
 intro x0 x1 x9 x55 x563000 h
 refine ⟨?_⟩
 cases k with
 | zero => simp [impl_DoInstruction.j1] at h
 | succ k =>
 simp only [impl_DoInstruction.j1] at h
 rcases ic h with ⟨c11, h⟩ | ⟨c11, h⟩
 · refine pk 4 hF [.t] [] rfl KD ?_
   cases h
   exact rr [.ro, .ro] rfl KD
 · refine pk 8 hF [.f, .p 57 ([]), .e 59 (.i (x1.length : Int))] [] rfl KD ?_
   exact WS.can [(1004, some 1004), (1010, some 57)] ((ih.a.s_l1  r1 r2 r3 r4 w ro B hF _ ⟨x0, x1, x9, (([] : List (List (S70)))), x1, (x1.length : Int), 0, x563000, h, rfl⟩).out) KD
theorem c8l1 (k : Nat) (ih : Kp (∀ m, m < k → C8 m)) : S8l1 k := by
 intro r1 r2 r3 r4 w ro B hF
 intro σ h0
 refine ⟨WS.loop (fun m σ => m ≤ k ∧ I8_1 r1 r2 r3 r4 m σ) k ⟨Nat.le_refl k, h0⟩ (fun m σ' hI J1 hJ1 => ?_)⟩
 clear h0
 obtain ⟨hk, x0, x1, x9, x10, x58, x59, x60, x563000, h, rfl⟩ := hI
 cases m with
 | zero => simp [impl_DoInstruction.l1] at h
 | succ k' =>
 simp only [impl_DoInstruction.l1] at h
 rcases ic h with ⟨c12, h⟩ | ⟨c12, h⟩
 · obtain ⟨c13, h⟩ := ig h
   obtain ⟨c14, h⟩ := ig h
   obtain ⟨t579, q15, h⟩ := ib h
   have q15c := impl_Vector_arrays.ctr k' _ _ _ _ q15
   obtain ⟨c16, h⟩ := ig h
   refine pk 12 hF [.t, .e 62 (.rf [.i ((rd_T31 x58 x60).f0), .sl 1 (rX (cL (cI .i64) 1) ((rd_T31 x58 x60).f1.f0)), .sl 1 (rX (cI .i64) ((rd_T31 x58 x60).f1.f1))]), .r [.own 70 2 (r70 t579)] [], .p 67 ([[.sl 2 (r70 t579)]]), .o 68 (rX (cV r70 2) (x10 ++ [t579]))] [] rfl KD ?_
   exact WS.lpc [(1004, some 1004), (1010, some 1010)] (hJ1 _ _ (Nat.lt_succ_self _) ⟨by omega, x0, x1, x9, (x10 ++ [t579]), x58, x59, (wrap64 (x60 + 1)), x563000, h, rfl⟩) KD
 · obtain ⟨c17, h⟩ := ig h
   refine pk 11 hF [.f, .p 70 ([]), .e 72 (.rf [.i ((rd_T31 x1 0).f0), .sl 1 (rX (cL (cI .i64) 1) ((rd_T31 x1 0).f1.f0)), .sl 1 (rX (cI .i64) ((rd_T31 x1 0).f1.f1))])] [] rfl KD ?_
   refine WS.freeze 1010 ?_ rfl
   exact WS.can [(1004, some 1004), (1013, some 70)] (((ih.out k' (by omega)).s_l2  r1 r2 r3 r4 w ro B hF _ ⟨x0, x9, x10, (([] : List (S70))), ((rd_T31 x1 0).f0), 0, x563000, h, rfl⟩).out) KD
theorem c8l2 (k : Nat) (ih : Kp (∀ m, m < k → C8 m)) : S8l2 k := by
 intro r1 r2 r3 r4 w ro B hF
 intro σ h0
 refine ⟨WS.loop (fun m σ => m ≤ k ∧ I8_2 r1 r2 r3 r4 m σ) k ⟨Nat.le_refl k, h0⟩ (fun m σ' hI J2 hJ2 => ?_)⟩
 clear h0
 obtain ⟨hk, x0, x9, x10, x13, x74, x75, x563000, h, rfl⟩ := hI
 cases m with
 | zero => simp [impl_DoInstruction.l2] at h
 | succ k' =>
 simp only [impl_DoInstruction.l2] at h
 rcases ic h with ⟨c18, h⟩ | ⟨c18, h⟩
 · refine pk 15 hF [.t, .p 78 ([]), .e 80 (.i (x10.length : Int))] [] rfl KD ?_
   exact WS.can [(1004, some 1004), (1013, some 1013), (1015, some 78)] (((ih.out k' (by omega)).s_l3  r1 r2 r3 r4 w ro B hF J2 (fun m σ hm hI => hJ2 m σ (by omega) ⟨by omega, hI⟩) _ ⟨x0, x9, x10, x13, x75, (([] : List (S70))), x74, x75, x10, (x10.length : Int), 0, x563000, h, rfl⟩).out) KD
 · obtain ⟨⟨t589, t592⟩, q19, h⟩ := ib h
   dsimp only at h
   have q19c := impl_laid.ctr k' _ _ _ _ q19
   refine pk 8 hF [.f, .e 101 (.i (x13.length : Int)), .r [.ro (.ag [.sl 1 (rX (cL (cI .i64) 1) t589), .sl 1 (rX (cI .i64) t592)])] []] [] rfl KD ?_
   cases h
   exact rr [.ro, .ro] rfl KD
theorem c8l3 (k : Nat) (ih : Kp (∀ m, m < k → C8 m)) : S8l3 k := by
 intro r1 r2 r3 r4 w ro B hF J2 hJ2
 intro σ h0
 refine ⟨WS.loop (fun m σ => m ≤ k ∧ I8_3 r1 r2 r3 r4 m σ) k ⟨Nat.le_refl k, h0⟩ (fun m σ' hI J3 hJ3 => ?_)⟩
 clear h0
 obtain ⟨hk, x0, x9, x10, x13, x14, x15, x74, x75, x79, x80, x81, x563000, h, rfl⟩ := hI
 cases m with
 | zero => simp [impl_DoInstruction.l3] at h
 | succ k' =>
 simp only [impl_DoInstruction.l3] at h
 rcases ic h with ⟨c20, h⟩ | ⟨c20, h⟩
 · obtain ⟨c21, h⟩ := ig h
   obtain ⟨c22, h⟩ := ig h
   obtain ⟨c23, h⟩ := ig h
   obtain ⟨c24, h⟩ := ig h
   obtain ⟨c25, h⟩ := ig h
   refine pk 12 hF [.t, .e 83 (.rf [.sl 2 (r70 (rd_L8 x79 x81))]), .e 88 (.rf [.i ((rd_T70 (rd_L8 x79 x81) x14).f0), .sl 2 (r70 ((rd_T70 (rd_L8 x79 x81) x14).f1))]), .p 90 ([[.i ((rd_T70 (rd_L8 x79 x81) x14).f0), .sl 2 (r70 ((rd_T70 (rd_L8 x79 x81) x14).f1))]]), .o 91 (r70 (x15 ++ [(⟨(rd_T70 (rd_L8 x79 x81) x14).f0, (rd_T70 (rd_L8 x79 x81) x14).f1⟩ : S70)]))] [] rfl KD ?_
   exact WS.lpc [(1004, some 1004), (1013, some 1013), (1015, some 1015)] (hJ3 _ _ (Nat.lt_succ_self _) ⟨by omega, x0, x9, x10, x13, x14, (x15 ++ [(⟨(rd_T70 (rd_L8 x79 x81) x14).f0, (rd_T70 (rd_L8 x79 x81) x14).f1⟩ : S70)]), x74, x75, x79, x80, (wrap64 (x81 + 1)), x563000, h, rfl⟩) KD
 · obtain ⟨⟨t603, t604⟩, q26, h⟩ := ib h
   dsimp only at h
   have q26c := impl_give.ctr k' _ _ _ _ q26
   obtain ⟨c27, h⟩ := ig h
   refine pk 8 hF [.f, .r [.ro (.ag [.i t603, .sl 2 (r70 t604)])] [], .p 97 ([[.i t603, .sl 2 (r70 t604)]]), .o 98 (r70 (x13 ++ [(⟨t603, t604⟩ : S70)]))] [] rfl KD ?_
   exact WS.lpc [(1004, some 1004), (1013, some 1013)] (hJ2 _ _ (by omega) ⟨x0, x9, x10, (x13 ++ [(⟨t603, t604⟩ : S70)]), x74, (wrap64 (x75 + 1)), x563000, h, rfl⟩) KD
theorem cs8 (k : Nat) : C8 k := by
 induction k using Nat.strongRecOn with
 | _ k ih0 =>
 have ih : Kp (∀ m, m < k → C8 m) := ⟨ih0⟩
 exact ⟨c8l0 k ih, c8j1 k ih, c8l1 k ih, c8l2 k ih, c8l3 k ih⟩
theorem impl_DoInstruction.ctr (k : Nat) (a0 : ByteArray) (l1 : List (S31)) (r1 : Int) (r2 : List (List Int)) (r3 : List Int) (r4 : Bool) (h : impl_DoInstruction.f k a0 l1 = some (r1, r2, r3, r4)) : Ctr TE 8 none [.v (.string a0), .sl 3 (r31 l1)] [.ro (.ag [.i r1, .sl 1 (rX (cL (cI .i64) 1) r2), .sl 1 (rX (cI .i64) r3)]), .ro (.v (.bool r4))] [] := by
 refine co Tryz.func8 (by kernel_rfl) (by kernel_rfl) fun w ro B hF => ?_
 have ih : Kp (∀ m, m < k + 1 → C8 m) := ⟨fun m _ => cs8 m⟩
 simp only [impl_DoInstruction.f] at h
 refine pk 8 hF [.p 18 ([]), .e 20 (.i (l1.length : Int))] [] rfl KD ?_
 exact WS.can [(1004, some 4), (1006, some 18)] ((ih.a.s_l0  r1 r2 r3 r4 w ro B hF _ ⟨a0, l1, (([] : List Int)), l1, (l1.length : Int), 0, 0, h, rfl⟩).out) KD
def spec_l3Numbers.l0 : Nat → List Int → Int → Int → Option (Bool)
  | 0, _, _, _ => none
  | k + 1, x5, x6, x7 => if x7 < x6 then (if 0 ≤ x7 then (if x7 < (x5.length : Int) then ((spec_l1In.f (rd x5 x7) 0 10006).bind fun t611 => (if t611 = true then (spec_l3Numbers.l0 k x5 x6 (wrap64 (x7 + 1))) else (some false))) else (none)) else (none)) else (some true)
def spec_l3Numbers.f (k : Nat) (l0 : List Int) : Option (Bool) := spec_l3Numbers.l0 k l0 (l0.length : Int) 0
def I110_0 (r : Bool) (m : Nat) (σ : St) : Prop := ∃ (x5 : List Int) (x6 : Int) (x7 : Int), spec_l3Numbers.l0 m x5 x6 x7 = some r ∧ σ = ⟨[(5, .sl 1 (rX (cI .i64) x5)), (6, .i x6), (7, .i x7)], []⟩
abbrev W110 (r : Bool) (w : World) (ro : Nat → Prop) (B : Nat) (p : List Nat) (j : List (St → Prop)) (σ : St) : Prop := Kp (WS TE (cx0 Tryz.f110 none w ro B) (stkAt p j (bodyOf Tryz.f110) []) σ (RetQ TE Tryz.f110 none [.ro (.v (.bool r))] [] w ro B))
def S110l0 (k : Nat) : Prop := ∀ r w ro B (_ : Fr TE (cx0 Tryz.f110 none w ro B)) (σ : St) (_ : I110_0 r k σ), W110 r w ro B [1, 0, 1, 0] [] σ
structure C110 (k : Nat) : Prop where
 s_l0 : S110l0 k
theorem c110l0 (k : Nat) (ih : Kp (∀ m, m < k → C110 m)) : S110l0 k := by
 intro r w ro B hF
 intro σ h0
 refine ⟨WS.loop (fun m σ => m ≤ k ∧ I110_0 r m σ) k ⟨Nat.le_refl k, h0⟩ (fun m σ' hI J0 hJ0 => ?_)⟩
 clear h0
 obtain ⟨hk, x5, x6, x7, h, rfl⟩ := hI
 cases m with
 | zero => simp [spec_l3Numbers.l0] at h
 | succ k' =>
 simp only [spec_l3Numbers.l0] at h
 rcases ic h with ⟨c1, h⟩ | ⟨c1, h⟩
 · obtain ⟨c2, h⟩ := ig h
   obtain ⟨c3, h⟩ := ig h
   obtain ⟨t611, q4, h⟩ := ib h
   have q4c := spec_l1In.ctr _ _ _ _ q4
   rcases ic h with ⟨c5, h⟩ | ⟨c5, h⟩
   · refine pk 15 hF [.t, .e 9 (.rf [.i (rd x5 x7)]), .r [.ro (.v (.bool t611))] [], .f] [] rfl KD ?_
     exact WS.lpc [] (hJ0 _ _ (Nat.lt_succ_self _) ⟨by omega, x5, x6, (wrap64 (x7 + 1)), h, rfl⟩) KD
   · refine pk 15 hF [.t, .e 9 (.rf [.i (rd x5 x7)]), .r [.ro (.v (.bool t611))] [], .t] [] rfl KD ?_
     cases h
     exact rr [.ro] rfl KD
 · refine pk 8 hF [.f] [] rfl KD ?_
   cases h
   exact rr [.ro] rfl KD
theorem cs110 (k : Nat) : C110 k := by
 induction k using Nat.strongRecOn with
 | _ k ih0 =>
 have ih : Kp (∀ m, m < k → C110 m) := ⟨ih0⟩
 exact ⟨c110l0 k ih⟩
theorem spec_l3Numbers.ctr (k : Nat) (l0 : List Int) (r : Bool) (h : spec_l3Numbers.f k l0 = some r) : Ctr TE 110 none [.sl 1 (rX (cI .i64) l0)] [.ro (.v (.bool r))] [] := by
 refine co Tryz.func110 (by kernel_rfl) (by kernel_rfl) fun w ro B hF => ?_
 have ih : Kp (∀ m, m < k + 1 → C110 m) := ⟨fun m _ => cs110 m⟩
 simp only [spec_l3Numbers.f] at h
 refine pk 6 hF [.e 6 (.i (l0.length : Int))] [] rfl KD ?_
 exact WS.can [] ((ih.a.s_l0  r w ro B hF _ ⟨l0, (l0.length : Int), 0, h, rfl⟩).out) KD
mutual
def spec_VectorValid.j0 : Nat → Int → Bool → Int → List (List Int) → List Int → Option (Bool)
  | 0, _, _, _, _, _ => none
  | k + 1, x3, x20, x613000, x613001, x613002 => if x20 = true then (some false) else (spec_VectorValid.l0 k x3 x613001 (x613001.length : Int) 0 x613000 x613001 x613002)
def spec_VectorValid.l0 : Nat → Int → List (List Int) → Int → Int → Int → List (List Int) → List Int → Option (Bool)
  | 0, _, _, _, _, _, _, _ => none
  | k + 1, x3, x23, x24, x25, x613000, x613001, x613002 => if x25 < x24 then (if 0 ≤ x25 then (if x25 < (x23.length : Int) then (if ((rd_L1 x23 x25).length : Int) = x3 then (spec_VectorValid.l1 k 0 x23 x24 x25 (rd_L1 x23 x25) ((rd_L1 x23 x25).length : Int) 0 x613000 x613001 x613002) else (some false)) else (none)) else (none)) else (if (x613002.length : Int) = x3 then ((spec_l3Numbers.f k x613002).bind fun t614 => (some t614)) else (some false))
def spec_VectorValid.l1 : Nat → Int → List (List Int) → Int → Int → List Int → Int → Int → Int → List (List Int) → List Int → Option (Bool)
  | 0, _, _, _, _, _, _, _, _, _, _ => none
  | k + 1, x6, x23, x24, x25, x33, x34, x35, x613000, x613001, x613002 => if x35 < x34 then (if 0 ≤ x35 then (if x35 < (x33.length : Int) then ((spec_l1In.f (rd x33 x35) 0 400).bind fun t617 => (if t617 = true then (spec_VectorValid.l1 k (wrap64 (x6 + (rd x33 x35))) x23 x24 x25 x33 x34 (wrap64 (x35 + 1)) x613000 x613001 x613002) else (some false))) else (none)) else (none)) else (spec_VectorValid.l0 k x6 x23 x24 (wrap64 (x25 + 1)) x613000 x613001 x613002)
end
def spec_VectorValid.f (k : Nat) (a0_0 : Int) (l0_1 : List (List Int)) (l0_2 : List Int) : Option (Bool) := (spec_l1In.f a0_0 0 2000).bind fun t613 => (if t613 = true then (spec_VectorValid.j0 k a0_0 (decide ((l0_1.length : Int) > 3)) a0_0 l0_1 l0_2) else (spec_VectorValid.j0 k a0_0 true a0_0 l0_1 l0_2))
def I75_0 (r : Bool) (m : Nat) (σ : St) : Prop := ∃ (x3 : Int) (x23 : List (List Int)) (x24 : Int) (x25 : Int) (x613000 : Int) (x613001 : List (List Int)) (x613002 : List Int), spec_VectorValid.l0 m x3 x23 x24 x25 x613000 x613001 x613002 = some r ∧ σ = ⟨[(1, .pt 1001 0 0), (3, .i x3), (23, .sl 1 (rX (cL (cI .i64) 1) x23)), (24, .i x24), (25, .i x25)], [(1001, .box 0 31 false [.i x613000, .sl 1 (rX (cL (cI .i64) 1) x613001), .sl 1 (rX (cI .i64) x613002)])]⟩
def I75_1 (r : Bool) (m : Nat) (σ : St) : Prop := ∃ (x6 : Int) (x23 : List (List Int)) (x24 : Int) (x25 : Int) (x33 : List Int) (x34 : Int) (x35 : Int) (x613000 : Int) (x613001 : List (List Int)) (x613002 : List Int), spec_VectorValid.l1 m x6 x23 x24 x25 x33 x34 x35 x613000 x613001 x613002 = some r ∧ σ = ⟨[(1, .pt 1001 0 0), (6, .i x6), (23, .sl 1 (rX (cL (cI .i64) 1) x23)), (24, .i x24), (25, .i x25), (33, .sl 1 (rX (cI .i64) x33)), (34, .i x34), (35, .i x35)], [(1001, .box 0 31 false [.i x613000, .sl 1 (rX (cL (cI .i64) 1) x613001), .sl 1 (rX (cI .i64) x613002)])]⟩
abbrev W75 (r : Bool) (w : World) (ro : Nat → Prop) (B : Nat) (p : List Nat) (j : List (St → Prop)) (σ : St) : Prop := Kp (WS TE (cx0 Tryz.f75 none w ro B) (stkAt p j (bodyOf Tryz.f75) []) σ (RetQ TE Tryz.f75 none [.ro (.v (.bool r))] [] w ro B))
def S75j0 (k : Nat) : Prop := ∀ r w ro B (_ : Fr TE (cx0 Tryz.f75 none w ro B)) x3 x20 x613000 x613001 x613002 (_ : spec_VectorValid.j0 k x3 x20 x613000 x613001 x613002 = some r), W75 r w ro B [1, 1, 0, 0, 9] [] ⟨[(1, .pt 1001 0 0), (3, .i x3), (20, .v (.bool x20))], [(1001, .box 0 31 false [.i x613000, .sl 1 (rX (cL (cI .i64) 1) x613001), .sl 1 (rX (cI .i64) x613002)])]⟩
def S75l0 (k : Nat) : Prop := ∀ r w ro B (_ : Fr TE (cx0 Tryz.f75 none w ro B)) (σ : St) (_ : I75_0 r k σ), W75 r w ro B [1, 1, 1, 0, 1, 0] [] σ
def S75l1 (k : Nat) : Prop := ∀ (r : Bool) (w : World) (ro : Nat → Prop) (B : Nat) (_ : Fr TE (cx0 Tryz.f75 none w ro B)) (J0 : St → Prop) (_ : ∀ m σ, m ≤ k → I75_0 r m σ → J0 σ) (σ : St) (_ : I75_1 r k σ), W75 r w ro B [1, 1, 1, 0, 1, 0, 0, 1, 1, 0, 0, 1, 1, 1, 0, 1, 0] [J0] σ
structure C75 (k : Nat) : Prop where
 s_j0 : S75j0 k
 s_l0 : S75l0 k
 s_l1 : S75l1 k
theorem c75j0 (k : Nat) (ih : Kp (∀ m, m < k → C75 m)) : S75j0 k := by
 intro r w ro B hF
 intro x3 x20 x613000 x613001 x613002 h
 refine ⟨?_⟩
 cases k with
 | zero => simp [spec_VectorValid.j0] at h
 | succ k =>
 simp only [spec_VectorValid.j0] at h
 rcases ic h with ⟨c3, h⟩ | ⟨c3, h⟩
 · refine pk 4 hF [.t] [] rfl KD ?_
   cases h
   exact rr [.ro] rfl KD
 · refine pk 6 hF [.f, .e 24 (.i (x613001.length : Int))] [] rfl KD ?_
   exact WS.can [(1001, some 1001)] ((ih.a.s_l0  r w ro B hF _ ⟨x3, x613001, (x613001.length : Int), 0, x613000, x613001, x613002, h, rfl⟩).out) KD
theorem c75l0 (k : Nat) (ih : Kp (∀ m, m < k → C75 m)) : S75l0 k := by
 intro r w ro B hF
 intro σ h0
 refine ⟨WS.loop (fun m σ => m ≤ k ∧ I75_0 r m σ) k ⟨Nat.le_refl k, h0⟩ (fun m σ' hI J0 hJ0 => ?_)⟩
 clear h0
 obtain ⟨hk, x3, x23, x24, x25, x613000, x613001, x613002, h, rfl⟩ := hI
 cases m with
 | zero => simp [spec_VectorValid.l0] at h
 | succ k' =>
 simp only [spec_VectorValid.l0] at h
 rcases ic h with ⟨c4, h⟩ | ⟨c4, h⟩
 · obtain ⟨c5, h⟩ := ig h
   obtain ⟨c6, h⟩ := ig h
   rcases ic h with ⟨c7, h⟩ | ⟨c7, h⟩
   · refine pk 20 hF [.t, .e 27 (.rf [.sl 1 (rX (cI .i64) (rd_L1 x23 x25))]), .e 30 (.i ((rd_L1 x23 x25).length : Int)), .f, .e 34 (.i ((rd_L1 x23 x25).length : Int))] [] rfl KD ?_
     exact WS.can [(1001, some 1001)] (((ih.out k' (by omega)).s_l1  r w ro B hF J0 (fun m σ hm hI => hJ0 m σ (by omega) ⟨by omega, hI⟩) _ ⟨0, x23, x24, x25, (rd_L1 x23 x25), ((rd_L1 x23 x25).length : Int), 0, x613000, x613001, x613002, h, rfl⟩).out) KD
   · refine pk 16 hF [.t, .e 27 (.rf [.sl 1 (rX (cI .i64) (rd_L1 x23 x25))]), .e 30 (.i ((rd_L1 x23 x25).length : Int)), .t] [] rfl KD ?_
     cases h
     exact rr [.ro] rfl KD
 · rcases ic h with ⟨c8, h⟩ | ⟨c8, h⟩
   · obtain ⟨t614, q9, h⟩ := ib h
     have q9c := spec_l3Numbers.ctr k' _ _ q9
     refine pk 8 hF [.f, .e 51 (.i (x613002.length : Int)), .t, .t, .t, .t, .r [.ro (.v (.bool t614))] [], .t] [] rfl KD ?_
     cases h
     exact rr [.ro] rfl KD
   · refine pk 8 hF [.f, .e 51 (.i (x613002.length : Int)), .f, .f, .f, .f, .f] [] rfl KD ?_
     cases h
     exact rr [.ro] rfl KD
theorem c75l1 (k : Nat) (ih : Kp (∀ m, m < k → C75 m)) : S75l1 k := by
 intro r w ro B hF J0 hJ0
 intro σ h0
 refine ⟨WS.loop (fun m σ => m ≤ k ∧ I75_1 r m σ) k ⟨Nat.le_refl k, h0⟩ (fun m σ' hI J1 hJ1 => ?_)⟩
 clear h0
 obtain ⟨hk, x6, x23, x24, x25, x33, x34, x35, x613000, x613001, x613002, h, rfl⟩ := hI
 cases m with
 | zero => simp [spec_VectorValid.l1] at h
 | succ k' =>
 simp only [spec_VectorValid.l1] at h
 rcases ic h with ⟨c10, h⟩ | ⟨c10, h⟩
 · obtain ⟨c11, h⟩ := ig h
   obtain ⟨c12, h⟩ := ig h
   obtain ⟨t617, q13, h⟩ := ib h
   have q13c := spec_l1In.ctr _ _ _ _ q13
   rcases ic h with ⟨c14, h⟩ | ⟨c14, h⟩
   · refine pk 17 hF [.t, .e 37 (.rf [.i (rd x33 x35)]), .r [.ro (.v (.bool t617))] [], .f] [] rfl KD ?_
     exact WS.lpc [(1001, some 1001)] (hJ1 _ _ (Nat.lt_succ_self _) ⟨by omega, (wrap64 (x6 + (rd x33 x35))), x23, x24, x25, x33, x34, (wrap64 (x35 + 1)), x613000, x613001, x613002, h, rfl⟩) KD
   · refine pk 16 hF [.t, .e 37 (.rf [.i (rd x33 x35)]), .r [.ro (.v (.bool t617))] [], .t] [] rfl KD ?_
     cases h
     exact rr [.ro] rfl KD
 · refine pk 8 hF [.f] [] rfl KD ?_
   exact WS.lpc [(1001, some 1001)] (hJ0 _ _ (by omega) ⟨x6, x23, x24, (wrap64 (x25 + 1)), x613000, x613001, x613002, h, rfl⟩) KD
theorem cs75 (k : Nat) : C75 k := by
 induction k using Nat.strongRecOn with
 | _ k ih0 =>
 have ih : Kp (∀ m, m < k → C75 m) := ⟨ih0⟩
 exact ⟨c75j0 k ih, c75l0 k ih, c75l1 k ih⟩
theorem spec_VectorValid.ctr (k : Nat) (a0_0 : Int) (l0_1 : List (List Int)) (l0_2 : List Int) (r : Bool) (h : spec_VectorValid.f k a0_0 l0_1 l0_2 = some r) : Ctr TE 75 none [.ag [.i a0_0, .sl 1 (rX (cL (cI .i64) 1) l0_1), .sl 1 (rX (cI .i64) l0_2)]] [.ro (.v (.bool r))] [] := by
 refine co Tryz.func75 (by kernel_rfl) (by kernel_rfl) fun w ro B hF => ?_
 have ih : Kp (∀ m, m < k + 1 → C75 m) := ⟨fun m _ => cs75 m⟩
 simp only [spec_VectorValid.f] at h
 obtain ⟨t613, q1, h⟩ := ib h
 have q1c := spec_l1In.ctr _ _ _ _ q1
 rcases ic h with ⟨c2, h⟩ | ⟨c2, h⟩
 · refine pk 7 hF [.r [.ro (.v (.bool t613))] [], .f, .f, .f, .f, .e 18 (.i (l0_1.length : Int)), .f, .f] [] rfl KD ?_
   exact WS.can [(1001, some 1)] ((ih.a.s_j0  r w ro B hF a0_0 (decide ((l0_1.length : Int) > 3)) a0_0 l0_1 l0_2 h).out) KD
 · refine pk 7 hF [.r [.ro (.v (.bool t613))] [], .t, .t, .t, .t, .t, .t] [] rfl KD ?_
   exact WS.can [(1001, some 1)] ((ih.a.s_j0  r w ro B hF a0_0 true a0_0 l0_1 l0_2 h).out) KD
mutual
def spec_l7Kind.j0 : Nat → ByteArray → Bool → Option (Int)
  | 0, _, _ => none
  | k + 1, x0, x3 => if x3 = true then (some 91) else (if (x0.size : Int) = 1 then (if 0 < (x0.size : Int) then ((spec_l1In.f (wrap64 (bt x0 0)) 48 57).bind fun t620 => (if t620 = true then (spec_l7Kind.j1 k x0 true) else (if (bt x0 0) = 97 then (spec_l7Kind.j1 k x0 true) else (if (bt x0 0) = 98 then (spec_l7Kind.j1 k x0 true) else ((spec_l1In.f (wrap64 (bt x0 0)) 118 122).bind fun t621 => (spec_l7Kind.j1 k x0 t621)))))) else (none)) else (some 0))
def spec_l7Kind.j1 : Nat → ByteArray → Bool → Option (Int)
  | 0, _, _ => none
  | k + 1, x0, x27 => if x27 = true then (some 97) else (if 0 < (x0.size : Int) then ((spec_l13Find.f k (⟨#[83, 77, 73, 78, 82, 67, 80]⟩ : ByteArray) (bt x0 0)).bind fun t622 => (if t622 ≥ 0 then (some 83) else ((spec_l13Find.f k (⟨#[43, 42, 94, 45, 61, 60, 64]⟩ : ByteArray) (bt x0 0)).bind fun t623 => (if t623 ≥ 0 then (some 43) else (if (bt x0 0) = 93 then (some 93) else (if (bt x0 0) = 125 then (some 93) else (some 0))))))) else (none))
end
def spec_l7Kind.f (k : Nat) (a0 : ByteArray) : Option (Int) := if (a0.size : Int) = 2 then (if 0 < (a0.size : Int) then (if (bt a0 0) = 91 then (if 1 < (a0.size : Int) then ((spec_l1In.f (wrap64 (bt a0 1)) 118 122).bind fun t618 => (spec_l7Kind.j0 k a0 t618)) else (none)) else (if (bt a0 0) = 123 then (if 1 < (a0.size : Int) then ((spec_l1In.f (wrap64 (bt a0 1)) 118 122).bind fun t619 => (spec_l7Kind.j0 k a0 t619)) else (none)) else (spec_l7Kind.j0 k a0 false))) else (none)) else (spec_l7Kind.j0 k a0 false)
abbrev W76 (r : Int) (w : World) (ro : Nat → Prop) (B : Nat) (p : List Nat) (j : List (St → Prop)) (σ : St) : Prop := Kp (WS TE (cx0 Tryz.f76 none w ro B) (stkAt p j (bodyOf Tryz.f76) []) σ (RetQ TE Tryz.f76 none [.ro (.v (.int .u8 r))] [] w ro B))
def S76j0 (k : Nat) : Prop := ∀ r w ro B (_ : Fr TE (cx0 Tryz.f76 none w ro B)) x0 x3 (_ : spec_l7Kind.j0 k x0 x3 = some r), W76 r w ro B [1, 0, 0, 0, 9] [] ⟨[(0, .v (.string x0)), (3, .v (.bool x3))], []⟩
def S76j1 (k : Nat) : Prop := ∀ r w ro B (_ : Fr TE (cx0 Tryz.f76 none w ro B)) x0 x27 (_ : spec_l7Kind.j1 k x0 x27 = some r), W76 r w ro B [1, 0, 0, 1, 1, 1, 1, 0, 9] [] ⟨[(0, .v (.string x0)), (27, .v (.bool x27))], []⟩
structure C76 (k : Nat) : Prop where
 s_j0 : S76j0 k
 s_j1 : S76j1 k
theorem c76j0 (k : Nat) (ih : Kp (∀ m, m < k → C76 m)) : S76j0 k := by
 intro r w ro B hF
 intro x0 x3 h
 refine ⟨?_⟩
 cases k with
 | zero => simp [spec_l7Kind.j0] at h
 | succ k =>
 simp only [spec_l7Kind.j0] at h
 rcases ic h with ⟨c13, h⟩ | ⟨c13, h⟩
 · refine pk 4 hF [.t] [] rfl KD ?_
   cases h
   exact rr [.ro] rfl KD
 · rcases ic h with ⟨c14, h⟩ | ⟨c14, h⟩
   · obtain ⟨c15, h⟩ := ig h
     obtain ⟨t620, q16, h⟩ := ib h
     have q16c := spec_l1In.ctr _ _ _ _ q16
     rcases ic h with ⟨c17, h⟩ | ⟨c17, h⟩
     · have hb17 := bt_range x0 0
       refine pk 6 hF [.f, .f, .e 30 (.i (wrap64 (bt x0 0))), .r [.ro (.v (.bool t620))] [], .t, .t, .t, .t, .t, .t, .t, .t, .t, .t, .t, .t, .t] [] rfl KD ?_
       exact WS.can [] ((ih.a.s_j1  r w ro B hF x0 true h).out) KD
     · rcases ic h with ⟨c19, h⟩ | ⟨c19, h⟩
       · have hb19 := bt_range x0 0
         refine pk 6 hF [.f, .f, .e 30 (.i (wrap64 (bt x0 0))), .r [.ro (.v (.bool t620))] [], .f, .f, .f, .f, .t, .t, .t, .t, .t, .t, .t, .t, .t] [] rfl KD ?_
         exact WS.can [] ((ih.a.s_j1  r w ro B hF x0 true h).out) KD
       · rcases ic h with ⟨c21, h⟩ | ⟨c21, h⟩
         · have hb21 := bt_range x0 0
           refine pk 6 hF [.f, .f, .e 30 (.i (wrap64 (bt x0 0))), .r [.ro (.v (.bool t620))] [], .f, .f, .f, .f, .f, .f, .f, .f, .t, .t, .t, .t, .t] [] rfl KD ?_
           exact WS.can [] ((ih.a.s_j1  r w ro B hF x0 true h).out) KD
         · obtain ⟨t621, q23, h⟩ := ib h
           have q23c := spec_l1In.ctr _ _ _ _ q23
           have hb23 := bt_range x0 0
           refine pk 6 hF [.f, .f, .e 30 (.i (wrap64 (bt x0 0))), .r [.ro (.v (.bool t620))] [], .f, .f, .f, .f, .f, .f, .f, .f, .f, .f, .f, .e 45 (.i (wrap64 (bt x0 0))), .f, .r [.ro (.v (.bool t621))] [], .f] [] rfl KD ?_
           exact WS.can [] ((ih.a.s_j1  r w ro B hF x0 t621 h).out) KD
   · refine pk 7 hF [.f, .t] [] rfl KD ?_
     cases h
     exact rr [.ro] rfl KD
theorem c76j1 (k : Nat) (ih : Kp (∀ m, m < k → C76 m)) : S76j1 k := by
 intro r w ro B hF
 intro x0 x27 h
 refine ⟨?_⟩
 cases k with
 | zero => simp [spec_l7Kind.j1] at h
 | succ k =>
 simp only [spec_l7Kind.j1] at h
 rcases ic h with ⟨c25, h⟩ | ⟨c25, h⟩
 · refine pk 4 hF [.t] [] rfl KD ?_
   cases h
   exact rr [.ro] rfl KD
 · obtain ⟨c26, h⟩ := ig h
   obtain ⟨t622, q27, h⟩ := ib h
   have q27c := spec_l13Find.ctr k _ _ _ q27
   rcases ic h with ⟨c28, h⟩ | ⟨c28, h⟩
   · refine pk 7 hF [.f, .r [.ro (.i t622)] [], .t] [] rfl KD ?_
     cases h
     exact rr [.ro] rfl KD
   · obtain ⟨t623, q29, h⟩ := ib h
     have q29c := spec_l13Find.ctr k _ _ _ q29
     rcases ic h with ⟨c30, h⟩ | ⟨c30, h⟩
     · refine pk 10 hF [.f, .r [.ro (.i t622)] [], .f, .r [.ro (.i t623)] [], .t] [] rfl KD ?_
       cases h
       exact rr [.ro] rfl KD
     · rcases ic h with ⟨c31, h⟩ | ⟨c31, h⟩
       · refine pk 13 hF [.f, .r [.ro (.i t622)] [], .f, .r [.ro (.i t623)] [], .f, .t, .t, .t, .t, .t] [] rfl KD ?_
         cases h
         exact rr [.ro] rfl KD
       · rcases ic h with ⟨c32, h⟩ | ⟨c32, h⟩
         · refine pk 13 hF [.f, .r [.ro (.i t622)] [], .f, .r [.ro (.i t623)] [], .f, .f, .f, .f, .f, .t] [] rfl KD ?_
           cases h
           exact rr [.ro] rfl KD
         · refine pk 15 hF [.f, .r [.ro (.i t622)] [], .f, .r [.ro (.i t623)] [], .f, .f, .f, .f, .f, .f] [] rfl KD ?_
           cases h
           exact rr [.ro] rfl KD
theorem cs76 (k : Nat) : C76 k := by
 induction k using Nat.strongRecOn with
 | _ k ih0 =>
 have ih : Kp (∀ m, m < k → C76 m) := ⟨ih0⟩
 exact ⟨c76j0 k ih, c76j1 k ih⟩
theorem spec_l7Kind.ctr (k : Nat) (a0 : ByteArray) (r : Int) (h : spec_l7Kind.f k a0 = some r) : Ctr TE 76 none [.v (.string a0)] [.ro (.v (.int .u8 r))] [] := by
 refine co Tryz.func76 (by kernel_rfl) (by kernel_rfl) fun w ro B hF => ?_
 have ih : Kp (∀ m, m < k + 1 → C76 m) := ⟨fun m _ => cs76 m⟩
 simp only [spec_l7Kind.f] at h
 rcases ic h with ⟨c1, h⟩ | ⟨c1, h⟩
 · obtain ⟨c2, h⟩ := ig h
   rcases ic h with ⟨c3, h⟩ | ⟨c3, h⟩
   · obtain ⟨c4, h⟩ := ig h
     obtain ⟨t618, q5, h⟩ := ib h
     have q5c := spec_l1In.ctr _ _ _ _ q5
     have hb5 := bt_range a0 0
     have hb6 := bt_range a0 1
     refine pk 6 hF [.t, .t, .t, .t, .t, .t, .t, .t, .t, .t, .t, .t, .t, .e 20 (.i (wrap64 (bt a0 1))), .t, .r [.ro (.v (.bool t618))] [], .t] [] rfl KD ?_
     exact WS.can [] ((ih.a.s_j0  r w ro B hF a0 t618 h).out) KD
   · rcases ic h with ⟨c8, h⟩ | ⟨c8, h⟩
     · obtain ⟨c9, h⟩ := ig h
       obtain ⟨t619, q10, h⟩ := ib h
       have q10c := spec_l1In.ctr _ _ _ _ q10
       have hb10 := bt_range a0 0
       have hb11 := bt_range a0 1
       refine pk 6 hF [.t, .t, .t, .t, .f, .f, .f, .t, .f, .t, .t, .t, .t, .e 20 (.i (wrap64 (bt a0 1))), .t, .r [.ro (.v (.bool t619))] [], .t] [] rfl KD ?_
       exact WS.can [] ((ih.a.s_j0  r w ro B hF a0 t619 h).out) KD
     · refine pk 6 hF [.t, .t, .t, .t, .f, .f, .f, .t, .f, .t, .f, .f, .f, .f, .f] [] rfl KD ?_
       exact WS.can [] ((ih.a.s_j0  r w ro B hF a0 false h).out) KD
 · refine pk 6 hF [.f, .f, .f, .f, .f, .f, .f, .f, .f, .f, .f] [] rfl KD ?_
   exact WS.can [] ((ih.a.s_j0  r w ro B hF a0 false h).out) KD
def spec_l5One.j0 : Nat → Int → Int → Bool → Option (Int)
  | 0, _, _, _ => none
  | k + 1, x1, x5, x6 => if x6 = true then (if x1 = 1 then (some 0) else (some (-1))) else (if x5 = 73 then (if x1 = 0 then (some 1) else (some (-1))) else (if x5 = 78 then (if x1 ≥ 1 then (some 0) else (some (-1))) else (if x5 = 82 then (if x1 ≥ 1 then (some x1) else (some (-1))) else (if x5 = 67 then (if x1 ≥ 2 then (some (wrap64 (x1 - 1))) else (some (-1))) else (if x5 = 80 then (if x1 = 1 then (some 1) else (some (-1))) else (some (-1)))))))
def spec_l5One.f (k : Nat) (a0 : Int) (a1 : Int) : Option (Int) := if a0 = 83 then (spec_l5One.j0 k a1 a0 (a0 == 83)) else (spec_l5One.j0 k a1 a0 (a0 == 77))
theorem spec_l5One.mono_l : ∀ k, (∀ y0 y1 y2, LeO (spec_l5One.j0 k y0 y1 y2) (spec_l5One.j0 (k + 1) y0 y1 y2))
  | 0 => fun _ _ _ r h => by simp [spec_l5One.j0] at h
  | k + 1 => by
    have ih0 := spec_l5One.mono_l k
    · intro y0 y1 y2
      unfold spec_l5One.j0
      repeat' first
      | (with_reducible exact ih0 _ _ _)
      | (with_reducible exact LeO.refl _)
      | (with_reducible exact LeO.none _)
      | (with_reducible refine LeO.ite ?_ ?_)
      | (with_reducible refine LeO.bind ?_ (fun _ => ?_))
      | exact ih0 _ _ _
      | exact LeO.none _
      | refine LeO.ite ?_ ?_
      | refine LeO.bind ?_ (fun _ => ?_)
theorem spec_l5One.mono : ∀ a0 a1 k, LeO (spec_l5One.f k a0 a1) (spec_l5One.f (k + 1) a0 a1) := by
  intro a0 a1 k
  have ih0 := spec_l5One.mono_l k
  unfold spec_l5One.f
  repeat' first
      | (with_reducible exact ih0 _ _ _)
      | (with_reducible exact LeO.refl _)
      | (with_reducible exact LeO.none _)
      | (with_reducible refine LeO.ite ?_ ?_)
      | (with_reducible refine LeO.bind ?_ (fun _ => ?_))
      | exact ih0 _ _ _
      | exact LeO.none _
      | refine LeO.ite ?_ ?_
      | refine LeO.bind ?_ (fun _ => ?_)
abbrev W77 (r : Int) (w : World) (ro : Nat → Prop) (B : Nat) (p : List Nat) (j : List (St → Prop)) (σ : St) : Prop := Kp (WS TE (cx0 Tryz.f77 none w ro B) (stkAt p j (bodyOf Tryz.f77) []) σ (RetQ TE Tryz.f77 none [.ro (.i r)] [] w ro B))
def S77j0 (k : Nat) : Prop := ∀ r w ro B (_ : Fr TE (cx0 Tryz.f77 none w ro B)) x1 x5 x6 (_ : spec_l5One.j0 k x1 x5 x6 = some r), W77 r w ro B [1, 0, 1, 0, 0, 1, 9] [] ⟨[(1, .i x1), (5, .v (.int .u8 x5)), (6, .v (.bool x6))], []⟩
structure C77 (k : Nat) : Prop where
 s_j0 : S77j0 k
theorem c77j0 (k : Nat) (ih : Kp (∀ m, m < k → C77 m)) : S77j0 k := by
 intro r w ro B hF
 intro x1 x5 x6 h
 refine ⟨?_⟩
 cases k with
 | zero => simp [spec_l5One.j0] at h
 | succ k =>
 simp only [spec_l5One.j0] at h
 rcases ic h with ⟨c2, h⟩ | ⟨c2, h⟩
 · rcases ic h with ⟨c3, h⟩ | ⟨c3, h⟩
   · refine pk 7 hF [.t, .t] [] rfl KD ?_
     cases h
     exact rr [.ro] rfl KD
   · refine pk 9 hF [.t, .f] [] rfl KD ?_
     cases h
     exact rr [.ro] rfl KD
 · rcases ic h with ⟨c4, h⟩ | ⟨c4, h⟩
   · rcases ic h with ⟨c5, h⟩ | ⟨c5, h⟩
     · refine pk 10 hF [.f, .t, .t] [] rfl KD ?_
       cases h
       exact rr [.ro] rfl KD
     · refine pk 12 hF [.f, .t, .f] [] rfl KD ?_
       cases h
       exact rr [.ro] rfl KD
   · rcases ic h with ⟨c6, h⟩ | ⟨c6, h⟩
     · rcases ic h with ⟨c7, h⟩ | ⟨c7, h⟩
       · refine pk 13 hF [.f, .f, .t, .t] [] rfl KD ?_
         cases h
         exact rr [.ro] rfl KD
       · refine pk 15 hF [.f, .f, .t, .f] [] rfl KD ?_
         cases h
         exact rr [.ro] rfl KD
     · rcases ic h with ⟨c8, h⟩ | ⟨c8, h⟩
       · rcases ic h with ⟨c9, h⟩ | ⟨c9, h⟩
         · refine pk 16 hF [.f, .f, .f, .t, .t] [] rfl KD ?_
           cases h
           exact rr [.ro] rfl KD
         · refine pk 18 hF [.f, .f, .f, .t, .f] [] rfl KD ?_
           cases h
           exact rr [.ro] rfl KD
       · rcases ic h with ⟨c10, h⟩ | ⟨c10, h⟩
         · rcases ic h with ⟨c11, h⟩ | ⟨c11, h⟩
           · refine pk 19 hF [.f, .f, .f, .f, .t, .t] [] rfl KD ?_
             cases h
             exact rr [.ro] rfl KD
           · refine pk 21 hF [.f, .f, .f, .f, .t, .f] [] rfl KD ?_
             cases h
             exact rr [.ro] rfl KD
         · rcases ic h with ⟨c12, h⟩ | ⟨c12, h⟩
           · rcases ic h with ⟨c13, h⟩ | ⟨c13, h⟩
             · refine pk 22 hF [.f, .f, .f, .f, .f, .t, .t] [] rfl KD ?_
               cases h
               exact rr [.ro] rfl KD
             · refine pk 24 hF [.f, .f, .f, .f, .f, .t, .f] [] rfl KD ?_
               cases h
               exact rr [.ro] rfl KD
           · refine pk 21 hF [.f, .f, .f, .f, .f, .f] [] rfl KD ?_
             cases h
             exact rr [.ro] rfl KD
theorem cs77 (k : Nat) : C77 k := by
 induction k using Nat.strongRecOn with
 | _ k ih0 =>
 have ih : Kp (∀ m, m < k → C77 m) := ⟨ih0⟩
 exact ⟨c77j0 k ih⟩
theorem spec_l5One.ctr (k : Nat) (a0 : Int) (a1 : Int) (r : Int) (h : spec_l5One.f k a0 a1 = some r) : Ctr TE 77 none [.v (.int .u8 a0), .i a1] [.ro (.i r)] [] := by
 refine co Tryz.func77 (by kernel_rfl) (by kernel_rfl) fun w ro B hF => ?_
 have ih : Kp (∀ m, m < k + 1 → C77 m) := ⟨fun m _ => cs77 m⟩
 simp only [spec_l5One.f] at h
 rcases ic h with ⟨c1, h⟩ | ⟨c1, h⟩
 · refine pk 11 hF [.t] [] rfl KD ?_
   exact WS.can [] ((ih.a.s_j0  r w ro B hF a1 a0 (a0 == 83) h).out) KD
 · refine pk 11 hF [.f] [] rfl KD ?_
   exact WS.can [] ((ih.a.s_j0  r w ro B hF a1 a0 (a0 == 77) h).out) KD
def spec_l8Plain.f (l0 : List Int) : Option (Int × (List (List Int)) × List Int) := some ((l0.length : Int), (([] : List (List Int))), l0)
theorem spec_l8Plain.ctr (l0 : List Int) (r1 : Int) (r2 : List (List Int)) (r3 : List Int) (h : spec_l8Plain.f l0 = some (r1, r2, r3)) : Ctr TE 111 none [.sl 1 (rX (cI .i64) l0)] [.ro (.ag [.i r1, .sl 1 (rX (cL (cI .i64) 1) r2), .sl 1 (rX (cI .i64) r3)])] [] := by
 refine co Tryz.func111 (by kernel_rfl) (by kernel_rfl) fun w ro B hF => ?_
 simp only [spec_l8Plain.f] at h
 refine pk 5 hF [.e 4 (.i (l0.length : Int)), .p 5 ([])] [] rfl KD ?_
 cases h
 exact rr [.ro] rfl KD
def spec_l3Starts.l0 : Nat → List Int → Int → List Int → Int → Int → Option (List Int)
  | 0, _, _, _, _, _ => none
  | k + 1, x3, x4, x8, x9, x10 => if x10 < x9 then (if 0 ≤ x10 then (if x10 < (x8.length : Int) then (if x3.length < 17592186044416 then (spec_l3Starts.l0 k (x3 ++ [x4]) (wrap64 (x4 + (rd x8 x10))) x8 x9 (wrap64 (x10 + 1))) else (none)) else (none)) else (none)) else (some x3)
def spec_l3Starts.f (k : Nat) (l0 : List Int) : Option (List Int) := spec_l3Starts.l0 k (([] : List Int)) 0 l0 (l0.length : Int) 0
def I142_0 (r : List Int) (m : Nat) (σ : St) : Prop := ∃ (x3 : List Int) (x4 : Int) (x8 : List Int) (x9 : Int) (x10 : Int), spec_l3Starts.l0 m x3 x4 x8 x9 x10 = some r ∧ σ = ⟨[(3, .ow 1003 0), (4, .i x4), (8, .sl 1 (rX (cI .i64) x8)), (9, .i x9), (10, .i x10)], [(1003, .own 0 3 1 (rX (cI .i64) x3))]⟩
abbrev W142 (r : List Int) (w : World) (ro : Nat → Prop) (B : Nat) (p : List Nat) (j : List (St → Prop)) (σ : St) : Prop := Kp (WS TE (cx0 Tryz.f142 none w ro B) (stkAt p j (bodyOf Tryz.f142) []) σ (RetQ TE Tryz.f142 none [.own 3 1 (rX (cI .i64) r)] [] w ro B))
def S142l0 (k : Nat) : Prop := ∀ r w ro B (_ : Fr TE (cx0 Tryz.f142 none w ro B)) (σ : St) (_ : I142_0 r k σ), W142 r w ro B [1, 1, 1, 0, 1, 0] [] σ
structure C142 (k : Nat) : Prop where
 s_l0 : S142l0 k
theorem c142l0 (k : Nat) (ih : Kp (∀ m, m < k → C142 m)) : S142l0 k := by
 intro r w ro B hF
 intro σ h0
 refine ⟨WS.loop (fun m σ => m ≤ k ∧ I142_0 r m σ) k ⟨Nat.le_refl k, h0⟩ (fun m σ' hI J0 hJ0 => ?_)⟩
 clear h0
 obtain ⟨hk, x3, x4, x8, x9, x10, h, rfl⟩ := hI
 cases m with
 | zero => simp [spec_l3Starts.l0] at h
 | succ k' =>
 simp only [spec_l3Starts.l0] at h
 rcases ic h with ⟨c1, h⟩ | ⟨c1, h⟩
 · obtain ⟨c2, h⟩ := ig h
   obtain ⟨c3, h⟩ := ig h
   obtain ⟨c4, h⟩ := ig h
   refine pk 14 hF [.t, .e 12 (.rf [.i (rd x8 x10)]), .p 16 ([[.i x4]]), .o 17 (rX (cI .i64) (x3 ++ [x4]))] [] rfl KD ?_
   exact WS.lpc [(1003, some 1003)] (hJ0 _ _ (Nat.lt_succ_self _) ⟨by omega, (x3 ++ [x4]), (wrap64 (x4 + (rd x8 x10))), x8, x9, (wrap64 (x10 + 1)), h, rfl⟩) KD
 · refine pk 8 hF [.f] [] rfl KD ?_
   cases h
   exact rr [.own] rfl KD
theorem cs142 (k : Nat) : C142 k := by
 induction k using Nat.strongRecOn with
 | _ k ih0 =>
 have ih : Kp (∀ m, m < k → C142 m) := ⟨ih0⟩
 exact ⟨c142l0 k ih⟩
theorem spec_l3Starts.ctr (k : Nat) (l0 : List Int) (r : List Int) (h : spec_l3Starts.f k l0 = some r) : Ctr TE 142 none [.sl 1 (rX (cI .i64) l0)] [.own 3 1 (rX (cI .i64) r)] [] := by
 refine co Tryz.func142 (by kernel_rfl) (by kernel_rfl) fun w ro B hF => ?_
 have ih : Kp (∀ m, m < k + 1 → C142 m) := ⟨fun m _ => cs142 m⟩
 simp only [spec_l3Starts.f] at h
 refine pk 10 hF [.p 7 ([]), .e 9 (.i (l0.length : Int))] [] rfl KD ?_
 exact WS.can [(1003, some 7)] ((ih.a.s_l0  r w ro B hF _ ⟨(([] : List Int)), 0, l0, (l0.length : Int), 0, h, rfl⟩).out) KD
def spec_l3Cut.l0 : Nat → List Int → List Int → List (List Int) → List Int → Int → Int → Option ((List (List Int)))
  | 0, _, _, _, _, _, _ => none
  | k + 1, x0, x1, x5, x10, x11, x12 => if x12 < x11 then (if 0 ≤ x12 then (if x12 < (x10.length : Int) then (if x12 < (x0.length : Int) then (if 0 ≤ (rd x10 x12) then (if (rd x10 x12) ≤ (wrap64 ((rd x10 x12) + (rd x0 x12))) then (if (wrap64 ((rd x10 x12) + (rd x0 x12))) ≤ (x1.length : Int) then (if x5.length < 5864062014805 then (spec_l3Cut.l0 k x0 x1 (x5 ++ [((x1.take ((wrap64 ((rd x10 x12) + (rd x0 x12))) : Int).toNat).drop ((rd x10 x12) : Int).toNat)]) x10 x11 (wrap64 (x12 + 1))) else (none)) else (none)) else (none)) else (none)) else (none)) else (none)) else (none)) else (some x5)
def spec_l3Cut.f (k : Nat) (l0 : List Int) (l1 : List Int) : Option ((List (List Int))) := (spec_l3Starts.f k l0).bind fun t638 => (spec_l3Cut.l0 k l0 l1 (([] : List (List Int))) t638 (t638.length : Int) 0)
def I119_0 (r : List (List Int)) (m : Nat) (σ : St) : Prop := ∃ (x0 : List Int) (x1 : List Int) (x5 : List (List Int)) (x10 : List Int) (x11 : Int) (x12 : Int), spec_l3Cut.l0 m x0 x1 x5 x10 x11 x12 = some r ∧ σ = ⟨[(0, .sl 1 (rX (cI .i64) x0)), (1, .sl 1 (rX (cI .i64) x1)), (5, .ow 1005 0), (10, .ow 1010 0), (11, .i x11), (12, .i x12)], [(1005, .own 0 27 1 (rX (cL (cI .i64) 1) x5)), (1010, .own 0 3 1 (rX (cI .i64) x10))]⟩
abbrev W119 (r : List (List Int)) (w : World) (ro : Nat → Prop) (B : Nat) (p : List Nat) (j : List (St → Prop)) (σ : St) : Prop := Kp (WS TE (cx0 Tryz.f119 none w ro B) (stkAt p j (bodyOf Tryz.f119) []) σ (RetQ TE Tryz.f119 none [.own 27 1 (rX (cL (cI .i64) 1) r)] [] w ro B))
def S119l0 (k : Nat) : Prop := ∀ r w ro B (_ : Fr TE (cx0 Tryz.f119 none w ro B)) (σ : St) (_ : I119_0 r k σ), W119 r w ro B [1, 1, 0, 1, 0] [] σ
structure C119 (k : Nat) : Prop where
 s_l0 : S119l0 k
theorem c119l0 (k : Nat) (ih : Kp (∀ m, m < k → C119 m)) : S119l0 k := by
 intro r w ro B hF
 intro σ h0
 refine ⟨WS.loop (fun m σ => m ≤ k ∧ I119_0 r m σ) k ⟨Nat.le_refl k, h0⟩ (fun m σ' hI J0 hJ0 => ?_)⟩
 clear h0
 obtain ⟨hk, x0, x1, x5, x10, x11, x12, h, rfl⟩ := hI
 cases m with
 | zero => simp [spec_l3Cut.l0] at h
 | succ k' =>
 simp only [spec_l3Cut.l0] at h
 rcases ic h with ⟨c2, h⟩ | ⟨c2, h⟩
 · obtain ⟨c3, h⟩ := ig h
   obtain ⟨c4, h⟩ := ig h
   obtain ⟨c5, h⟩ := ig h
   obtain ⟨c6, h⟩ := ig h
   obtain ⟨c7, h⟩ := ig h
   obtain ⟨c8, h⟩ := ig h
   obtain ⟨c9, h⟩ := ig h
   refine pk 12 hF [.t, .g [.i (rd x10 x12)], .e 23 (.rf [.i (rd x0 x12)]), .e 26 (.sl 1 (rX (cI .i64) ((x1.take ((wrap64 ((rd x10 x12) + (rd x0 x12))) : Int).toNat).drop ((rd x10 x12) : Int).toNat))), .p 27 ([[.sl 1 (rX (cI .i64) ((x1.take ((wrap64 ((rd x10 x12) + (rd x0 x12))) : Int).toNat).drop ((rd x10 x12) : Int).toNat))]]), .o 28 (rX (cL (cI .i64) 1) (x5 ++ [((x1.take ((wrap64 ((rd x10 x12) + (rd x0 x12))) : Int).toNat).drop ((rd x10 x12) : Int).toNat)]))] [] rfl KD ?_
   exact WS.lpc [(1005, some 1005), (1010, some 1010)] (hJ0 _ _ (Nat.lt_succ_self _) ⟨by omega, x0, x1, (x5 ++ [((x1.take ((wrap64 ((rd x10 x12) + (rd x0 x12))) : Int).toNat).drop ((rd x10 x12) : Int).toNat)]), x10, x11, (wrap64 (x12 + 1)), h, rfl⟩) KD
 · refine pk 8 hF [.f] [] rfl KD ?_
   cases h
   exact rr [.own] rfl KD
theorem cs119 (k : Nat) : C119 k := by
 induction k using Nat.strongRecOn with
 | _ k ih0 =>
 have ih : Kp (∀ m, m < k → C119 m) := ⟨ih0⟩
 exact ⟨c119l0 k ih⟩
theorem spec_l3Cut.ctr (k : Nat) (l0 : List Int) (l1 : List Int) (r : List (List Int)) (h : spec_l3Cut.f k l0 l1 = some r) : Ctr TE 119 none [.sl 1 (rX (cI .i64) l0), .sl 1 (rX (cI .i64) l1)] [.own 27 1 (rX (cL (cI .i64) 1) r)] [] := by
 refine co Tryz.func119 (by kernel_rfl) (by kernel_rfl) fun w ro B hF => ?_
 have ih : Kp (∀ m, m < k + 1 → C119 m) := ⟨fun m _ => cs119 m⟩
 simp only [spec_l3Cut.f] at h
 obtain ⟨t638, q1, h⟩ := ib h
 have q1c := spec_l3Starts.ctr k _ _ q1
 refine pk 8 hF [.p 8 ([]), .r [.own 3 1 (rX (cI .i64) t638)] [], .e 11 (.i (t638.length : Int))] [] rfl KD ?_
 exact WS.can [(1005, some 8), (1010, some 100160)] ((ih.a.s_l0  r w ro B hF _ ⟨l0, l1, (([] : List (List Int))), t638, (t638.length : Int), 0, h, rfl⟩).out) KD
def spec_l3Add.f (a0 : Int) (a1 : Int) : Option (Int) := some (Int.tmod (wrap64 (a0 + a1)) 10007)
theorem spec_l3Add.ctr (a0 : Int) (a1 : Int) (r : Int) (h : spec_l3Add.f a0 a1 = some r) : Ctr TE 141 none [.i a0, .i a1] [.ro (.i r)] [] := by
 refine co Tryz.func141 (by kernel_rfl) (by kernel_rfl) fun w ro B hF => ?_
 simp only [spec_l3Add.f] at h
 refine pk 5 hF [.e 8 (.i (Int.tmod (wrap64 (a0 + a1)) 10007))] [] rfl KD ?_
 cases h
 exact rr [.ro] rfl KD
mutual
def spec_l3Sums.l0 : Nat → List Int → List (List Int) → Int → Int → Option (List Int)
  | 0, _, _, _, _ => none
  | k + 1, x5, x14, x15, x16 => if x16 < x15 then (if 0 ≤ x16 then (if x16 < (x14.length : Int) then (spec_l3Sums.l1 k x5 0 x14 x15 x16 (rd_L1 x14 x16) ((rd_L1 x14 x16).length : Int) 0) else (none)) else (none)) else (some x5)
def spec_l3Sums.l1 : Nat → List Int → Int → List (List Int) → Int → Int → List Int → Int → Int → Option (List Int)
  | 0, _, _, _, _, _, _, _, _ => none
  | k + 1, x5, x8, x14, x15, x16, x20, x21, x22 => if x22 < x21 then (if 0 ≤ x22 then (if x22 < (x20.length : Int) then ((spec_l3Add.f x8 (rd x20 x22)).bind fun t659 => (spec_l3Sums.l1 k x5 t659 x14 x15 x16 x20 x21 (wrap64 (x22 + 1)))) else (none)) else (none)) else (if x5.length < 17592186044416 then (spec_l3Sums.l0 k (x5 ++ [x8]) x14 x15 (wrap64 (x16 + 1))) else (none))
end
def spec_l3Sums.f (k : Nat) (l0 : List Int) (l1 : List Int) : Option (List Int) := (spec_l3Cut.f k l0 l1).bind fun t654 => (spec_l3Sums.l0 k (([] : List Int)) t654 (t654.length : Int) 0)
def I112_0 (r : List Int) (m : Nat) (σ : St) : Prop := ∃ (x5 : List Int) (x14 : List (List Int)) (x15 : Int) (x16 : Int), spec_l3Sums.l0 m x5 x14 x15 x16 = some r ∧ σ = ⟨[(5, .ow 1005 0), (14, .ow 1014 0), (15, .i x15), (16, .i x16)], [(1005, .own 0 3 1 (rX (cI .i64) x5)), (1014, .own 0 27 1 (rX (cL (cI .i64) 1) x14))]⟩
def I112_1 (r : List Int) (m : Nat) (σ : St) : Prop := ∃ (x5 : List Int) (x8 : Int) (x14 : List (List Int)) (x15 : Int) (x16 : Int) (x20 : List Int) (x21 : Int) (x22 : Int), spec_l3Sums.l1 m x5 x8 x14 x15 x16 x20 x21 x22 = some r ∧ σ = ⟨[(5, .ow 1005 0), (8, .i x8), (14, .ow 1014 0), (15, .i x15), (16, .i x16), (20, .sl 1 (rX (cI .i64) x20)), (21, .i x21), (22, .i x22)], [(1005, .own 0 3 1 (rX (cI .i64) x5)), (1014, .own 0 27 1 (rX (cL (cI .i64) 1) x14))]⟩
abbrev W112 (r : List Int) (w : World) (ro : Nat → Prop) (B : Nat) (p : List Nat) (j : List (St → Prop)) (σ : St) : Prop := Kp (WS TE (cx0 Tryz.f112 none w ro B) (stkAt p j (bodyOf Tryz.f112) []) σ (RetQ TE Tryz.f112 none [.own 3 1 (rX (cI .i64) r)] [] w ro B))
def S112l0 (k : Nat) : Prop := ∀ r w ro B (_ : Fr TE (cx0 Tryz.f112 none w ro B)) (σ : St) (_ : I112_0 r k σ), W112 r w ro B [1, 1, 0, 1, 0] [] σ
def S112l1 (k : Nat) : Prop := ∀ (r : List Int) (w : World) (ro : Nat → Prop) (B : Nat) (_ : Fr TE (cx0 Tryz.f112 none w ro B)) (J0 : St → Prop) (_ : ∀ m σ, m ≤ k → I112_0 r m σ → J0 σ) (σ : St) (_ : I112_1 r k σ), W112 r w ro B [1, 1, 0, 1, 0, 0, 1, 1, 0, 0, 1, 1, 0, 1, 0] [J0] σ
structure C112 (k : Nat) : Prop where
 s_l0 : S112l0 k
 s_l1 : S112l1 k
theorem c112l0 (k : Nat) (ih : Kp (∀ m, m < k → C112 m)) : S112l0 k := by
 intro r w ro B hF
 intro σ h0
 refine ⟨WS.loop (fun m σ => m ≤ k ∧ I112_0 r m σ) k ⟨Nat.le_refl k, h0⟩ (fun m σ' hI J0 hJ0 => ?_)⟩
 clear h0
 obtain ⟨hk, x5, x14, x15, x16, h, rfl⟩ := hI
 cases m with
 | zero => simp [spec_l3Sums.l0] at h
 | succ k' =>
 simp only [spec_l3Sums.l0] at h
 rcases ic h with ⟨c2, h⟩ | ⟨c2, h⟩
 · obtain ⟨c3, h⟩ := ig h
   obtain ⟨c4, h⟩ := ig h
   refine pk 15 hF [.t, .g [.sl 1 (rX (cI .i64) (rd_L1 x14 x16))], .e 21 (.i ((rd_L1 x14 x16).length : Int))] [] rfl KD ?_
   exact WS.can [(1005, some 1005), (1014, some 1014)] (((ih.out k' (by omega)).s_l1  r w ro B hF J0 (fun m σ hm hI => hJ0 m σ (by omega) ⟨by omega, hI⟩) _ ⟨x5, 0, x14, x15, x16, (rd_L1 x14 x16), ((rd_L1 x14 x16).length : Int), 0, h, rfl⟩).out) KD
 · refine pk 8 hF [.f] [] rfl KD ?_
   cases h
   exact rr [.own] rfl KD
theorem c112l1 (k : Nat) (ih : Kp (∀ m, m < k → C112 m)) : S112l1 k := by
 intro r w ro B hF J0 hJ0
 intro σ h0
 refine ⟨WS.loop (fun m σ => m ≤ k ∧ I112_1 r m σ) k ⟨Nat.le_refl k, h0⟩ (fun m σ' hI J1 hJ1 => ?_)⟩
 clear h0
 obtain ⟨hk, x5, x8, x14, x15, x16, x20, x21, x22, h, rfl⟩ := hI
 cases m with
 | zero => simp [spec_l3Sums.l1] at h
 | succ k' =>
 simp only [spec_l3Sums.l1] at h
 rcases ic h with ⟨c5, h⟩ | ⟨c5, h⟩
 · obtain ⟨c6, h⟩ := ig h
   obtain ⟨c7, h⟩ := ig h
   obtain ⟨t659, q8, h⟩ := ib h
   have q8c := spec_l3Add.ctr _ _ _ q8
   refine pk 12 hF [.t, .e 24 (.rf [.i (rd x20 x22)]), .r [.ro (.i t659)] []] [] rfl KD ?_
   exact WS.lpc [(1005, some 1005), (1014, some 1014)] (hJ1 _ _ (Nat.lt_succ_self _) ⟨by omega, x5, t659, x14, x15, x16, x20, x21, (wrap64 (x22 + 1)), h, rfl⟩) KD
 · obtain ⟨c9, h⟩ := ig h
   refine pk 8 hF [.f, .p 32 ([[.i x8]]), .o 33 (rX (cI .i64) (x5 ++ [x8]))] [] rfl KD ?_
   exact WS.lpc [(1005, some 1005), (1014, some 1014)] (hJ0 _ _ (by omega) ⟨(x5 ++ [x8]), x14, x15, (wrap64 (x16 + 1)), h, rfl⟩) KD
theorem cs112 (k : Nat) : C112 k := by
 induction k using Nat.strongRecOn with
 | _ k ih0 =>
 have ih : Kp (∀ m, m < k → C112 m) := ⟨ih0⟩
 exact ⟨c112l0 k ih, c112l1 k ih⟩
theorem spec_l3Sums.ctr (k : Nat) (l0 : List Int) (l1 : List Int) (r : List Int) (h : spec_l3Sums.f k l0 l1 = some r) : Ctr TE 112 none [.sl 1 (rX (cI .i64) l0), .sl 1 (rX (cI .i64) l1)] [.own 3 1 (rX (cI .i64) r)] [] := by
 refine co Tryz.func112 (by kernel_rfl) (by kernel_rfl) fun w ro B hF => ?_
 have ih : Kp (∀ m, m < k + 1 → C112 m) := ⟨fun m _ => cs112 m⟩
 simp only [spec_l3Sums.f] at h
 obtain ⟨t654, q1, h⟩ := ib h
 have q1c := spec_l3Cut.ctr k _ _ _ q1
 refine pk 8 hF [.p 11 ([]), .r [.own 27 1 (rX (cL (cI .i64) 1) t654)] [], .e 15 (.i (t654.length : Int))] [] rfl KD ?_
 exact WS.can [(1005, some 11), (1014, some 100224)] ((ih.a.s_l0  r w ro B hF _ ⟨(([] : List Int)), t654, (t654.length : Int), 0, h, rfl⟩).out) KD
mutual
def spec_l3Most.l0 : Nat → List Int → List (List Int) → Int → Int → Option (List Int)
  | 0, _, _, _, _ => none
  | k + 1, x5, x14, x15, x16 => if x16 < x15 then (if 0 ≤ x16 then (if x16 < (x14.length : Int) then (spec_l3Most.l1 k x5 0 x14 x15 x16 (rd_L1 x14 x16) ((rd_L1 x14 x16).length : Int) 0) else (none)) else (none)) else (some x5)
def spec_l3Most.l1 : Nat → List Int → Int → List (List Int) → Int → Int → List Int → Int → Int → Option (List Int)
  | 0, _, _, _, _, _, _, _, _ => none
  | k + 1, x5, x8, x14, x15, x16, x20, x21, x22 => if x22 < x21 then (if 0 ≤ x22 then (if x22 < (x20.length : Int) then (spec_l3Most.l1 k x5 (mx x8 (rd x20 x22)) x14 x15 x16 x20 x21 (wrap64 (x22 + 1))) else (none)) else (none)) else (if x5.length < 17592186044416 then (spec_l3Most.l0 k (x5 ++ [x8]) x14 x15 (wrap64 (x16 + 1))) else (none))
end
def spec_l3Most.f (k : Nat) (l0 : List Int) (l1 : List Int) : Option (List Int) := (spec_l3Cut.f k l0 l1).bind fun t666 => (spec_l3Most.l0 k (([] : List Int)) t666 (t666.length : Int) 0)
def I113_0 (r : List Int) (m : Nat) (σ : St) : Prop := ∃ (x5 : List Int) (x14 : List (List Int)) (x15 : Int) (x16 : Int), spec_l3Most.l0 m x5 x14 x15 x16 = some r ∧ σ = ⟨[(5, .ow 1005 0), (14, .ow 1014 0), (15, .i x15), (16, .i x16)], [(1005, .own 0 3 1 (rX (cI .i64) x5)), (1014, .own 0 27 1 (rX (cL (cI .i64) 1) x14))]⟩
def I113_1 (r : List Int) (m : Nat) (σ : St) : Prop := ∃ (x5 : List Int) (x8 : Int) (x14 : List (List Int)) (x15 : Int) (x16 : Int) (x20 : List Int) (x21 : Int) (x22 : Int), spec_l3Most.l1 m x5 x8 x14 x15 x16 x20 x21 x22 = some r ∧ σ = ⟨[(5, .ow 1005 0), (8, .i x8), (14, .ow 1014 0), (15, .i x15), (16, .i x16), (20, .sl 1 (rX (cI .i64) x20)), (21, .i x21), (22, .i x22)], [(1005, .own 0 3 1 (rX (cI .i64) x5)), (1014, .own 0 27 1 (rX (cL (cI .i64) 1) x14))]⟩
abbrev W113 (r : List Int) (w : World) (ro : Nat → Prop) (B : Nat) (p : List Nat) (j : List (St → Prop)) (σ : St) : Prop := Kp (WS TE (cx0 Tryz.f113 none w ro B) (stkAt p j (bodyOf Tryz.f113) []) σ (RetQ TE Tryz.f113 none [.own 3 1 (rX (cI .i64) r)] [] w ro B))
def S113l0 (k : Nat) : Prop := ∀ r w ro B (_ : Fr TE (cx0 Tryz.f113 none w ro B)) (σ : St) (_ : I113_0 r k σ), W113 r w ro B [1, 1, 0, 1, 0] [] σ
def S113l1 (k : Nat) : Prop := ∀ (r : List Int) (w : World) (ro : Nat → Prop) (B : Nat) (_ : Fr TE (cx0 Tryz.f113 none w ro B)) (J0 : St → Prop) (_ : ∀ m σ, m ≤ k → I113_0 r m σ → J0 σ) (σ : St) (_ : I113_1 r k σ), W113 r w ro B [1, 1, 0, 1, 0, 0, 1, 1, 0, 0, 1, 1, 0, 1, 0] [J0] σ
structure C113 (k : Nat) : Prop where
 s_l0 : S113l0 k
 s_l1 : S113l1 k
theorem c113l0 (k : Nat) (ih : Kp (∀ m, m < k → C113 m)) : S113l0 k := by
 intro r w ro B hF
 intro σ h0
 refine ⟨WS.loop (fun m σ => m ≤ k ∧ I113_0 r m σ) k ⟨Nat.le_refl k, h0⟩ (fun m σ' hI J0 hJ0 => ?_)⟩
 clear h0
 obtain ⟨hk, x5, x14, x15, x16, h, rfl⟩ := hI
 cases m with
 | zero => simp [spec_l3Most.l0] at h
 | succ k' =>
 simp only [spec_l3Most.l0] at h
 rcases ic h with ⟨c2, h⟩ | ⟨c2, h⟩
 · obtain ⟨c3, h⟩ := ig h
   obtain ⟨c4, h⟩ := ig h
   refine pk 15 hF [.t, .g [.sl 1 (rX (cI .i64) (rd_L1 x14 x16))], .e 21 (.i ((rd_L1 x14 x16).length : Int))] [] rfl KD ?_
   exact WS.can [(1005, some 1005), (1014, some 1014)] (((ih.out k' (by omega)).s_l1  r w ro B hF J0 (fun m σ hm hI => hJ0 m σ (by omega) ⟨by omega, hI⟩) _ ⟨x5, 0, x14, x15, x16, (rd_L1 x14 x16), ((rd_L1 x14 x16).length : Int), 0, h, rfl⟩).out) KD
 · refine pk 8 hF [.f] [] rfl KD ?_
   cases h
   exact rr [.own] rfl KD
theorem c113l1 (k : Nat) (ih : Kp (∀ m, m < k → C113 m)) : S113l1 k := by
 intro r w ro B hF J0 hJ0
 intro σ h0
 refine ⟨WS.loop (fun m σ => m ≤ k ∧ I113_1 r m σ) k ⟨Nat.le_refl k, h0⟩ (fun m σ' hI J1 hJ1 => ?_)⟩
 clear h0
 obtain ⟨hk, x5, x8, x14, x15, x16, x20, x21, x22, h, rfl⟩ := hI
 cases m with
 | zero => simp [spec_l3Most.l1] at h
 | succ k' =>
 simp only [spec_l3Most.l1] at h
 rcases ic h with ⟨c5, h⟩ | ⟨c5, h⟩
 · obtain ⟨c6, h⟩ := ig h
   obtain ⟨c7, h⟩ := ig h
   refine pk 12 hF [.t, .e 24 (.rf [.i (rd x20 x22)])] [] rfl KD ?_
   exact WS.lpc [(1005, some 1005), (1014, some 1014)] (hJ1 _ _ (Nat.lt_succ_self _) ⟨by omega, x5, (mx x8 (rd x20 x22)), x14, x15, x16, x20, x21, (wrap64 (x22 + 1)), h, rfl⟩) KD
 · obtain ⟨c8, h⟩ := ig h
   refine pk 8 hF [.f, .p 32 ([[.i x8]]), .o 33 (rX (cI .i64) (x5 ++ [x8]))] [] rfl KD ?_
   exact WS.lpc [(1005, some 1005), (1014, some 1014)] (hJ0 _ _ (by omega) ⟨(x5 ++ [x8]), x14, x15, (wrap64 (x16 + 1)), h, rfl⟩) KD
theorem cs113 (k : Nat) : C113 k := by
 induction k using Nat.strongRecOn with
 | _ k ih0 =>
 have ih : Kp (∀ m, m < k → C113 m) := ⟨ih0⟩
 exact ⟨c113l0 k ih, c113l1 k ih⟩
theorem spec_l3Most.ctr (k : Nat) (l0 : List Int) (l1 : List Int) (r : List Int) (h : spec_l3Most.f k l0 l1 = some r) : Ctr TE 113 none [.sl 1 (rX (cI .i64) l0), .sl 1 (rX (cI .i64) l1)] [.own 3 1 (rX (cI .i64) r)] [] := by
 refine co Tryz.func113 (by kernel_rfl) (by kernel_rfl) fun w ro B hF => ?_
 have ih : Kp (∀ m, m < k + 1 → C113 m) := ⟨fun m _ => cs113 m⟩
 simp only [spec_l3Most.f] at h
 obtain ⟨t666, q1, h⟩ := ib h
 have q1c := spec_l3Cut.ctr k _ _ _ q1
 refine pk 8 hF [.p 11 ([]), .r [.own 27 1 (rX (cL (cI .i64) 1) t666)] [], .e 15 (.i (t666.length : Int))] [] rfl KD ?_
 exact WS.can [(1005, some 11), (1014, some 100224)] ((ih.a.s_l0  r w ro B hF _ ⟨(([] : List Int)), t666, (t666.length : Int), 0, h, rfl⟩).out) KD
def spec_l8Outer.f (l0 : List Int) (a1_0 : Int) (l1_1 : List (List Int)) (l1_2 : List Int) : Option (Int × (List (List Int)) × List Int) := (some (([l0] : List (List Int)) : List (List Int))).bind fun y676 => (if y676.length + l1_1.length < 5864062014805 then (some ((l0.length : Int), (y676 ++ l1_1), l1_2)) else (none))
theorem spec_l8Outer.ctr (l0 : List Int) (a1_0 : Int) (l1_1 : List (List Int)) (l1_2 : List Int) (r1 : Int) (r2 : List (List Int)) (r3 : List Int) (h : spec_l8Outer.f l0 a1_0 l1_1 l1_2 = some (r1, r2, r3)) : Ctr TE 114 none [.sl 1 (rX (cI .i64) l0), .ag [.i a1_0, .sl 1 (rX (cL (cI .i64) 1) l1_1), .sl 1 (rX (cI .i64) l1_2)]] [.ro (.ag [.i r1, .sl 1 (rX (cL (cI .i64) 1) r2), .sl 1 (rX (cI .i64) r3)])] [] := by
 refine co Tryz.func114 (by kernel_rfl) (by kernel_rfl) fun w ro B hF => ?_
 simp only [spec_l8Outer.f] at h
 obtain ⟨y676, hy676, h⟩ := ib h
 cases hy676
 obtain ⟨c1, h⟩ := ig h
 refine pk 5 hF [] [.p 16383 [⟨0, 14, true, [0]⟩, ⟨1, 13, true, [1]⟩, ⟨3, 12, true, [2]⟩, ⟨7, 11, true, [4]⟩, ⟨23, 10, true, [5]⟩, ⟨55, 9, true, [8]⟩, ⟨311, 8, true, [9]⟩, ⟨823, 7, false, [3, 6, 10]⟩, ⟨831, 6, false, [6, 10]⟩, ⟨887, 6, false, [3, 10]⟩, ⟨1847, 6, false, [3, 6]⟩, ⟨895, 5, false, [7, 10]⟩, ⟨1855, 5, false, [6]⟩, ⟨1911, 5, false, [3]⟩, ⟨1023, 4, false, [10]⟩, ⟨1919, 4, false, [7]⟩, ⟨2047, 3, true, [11]⟩, ⟨4095, 2, true, [12]⟩, ⟨8191, 1, false, [13]⟩] [(0, true), (1, true), (2, true), (4, true), (5, true), (8, true), (9, true), (3, false), (6, false), (7, false), (10, false), (11, true), (12, true), (13, false)] [(1, [.e 6 (.i (l0.length : Int))]), (3, [.p 8 ([[.sl 1 (rX (cI .i64) l0)]])]), (7, [.o 12 (rX (cL (cI .i64) 1) ((([l0] : List (List Int))) ++ l1_1))])]] rfl KD ?_
 cases h
 exact rr [.ro] rfl KD
end Go.Proofs.YtjkngiciigdheaaGreatDoor.K
