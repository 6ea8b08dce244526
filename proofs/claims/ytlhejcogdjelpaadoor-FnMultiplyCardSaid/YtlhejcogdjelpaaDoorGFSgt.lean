/- A part of the claim. -/
import Derived.Test.YtlhejcogdjelpaaDoorGFSkd
import Derived.Test.YtlhejcogdjelpaaDoorGFSgc
import Derived.Test.YtlhejcogdjelpaaDoorGFW1
import Derived.Test.YtlhejcogdjelpaaDoorGFx1
import Derived.Test.YtlhejcogdjelpaaDoorGFx3
namespace Go.Proofs.YtlhejcogdjelpaaDoor.G
open Go.RowKit Go.Proofs.YtlhejcogdjelpaaDoorW.St Go.Proofs.YtlhejcogdjelpaaDoorW.PrintWords Go.Proofs.YtlhejcogdjelpaaDoorW.PrintLast Go.Proofs.YtlhejcogdjelpaaDoorW.PrintMore
attribute [local go_sem] max2_int min2_int max_two min_two max_three min_three max_four min_four
set_option linter.unusedVariables false
set_option linter.unusedSimpArgs false
theorem at_L3 {w : World} {A : Option Addr} {n : Nat} {xs : List (List Int)} (h : Kd.C (Kd.slice 3 (Kd.int .i64)) w A n xs) (i : Int) (h0 : 0 ≤ i) (h1 : i < n) : ∃ ad A0 c0, A = some ad ∧ w.cell? (ad.add i.toNat) = some (.slice A0 (rd_L3 xs i).length c0) ∧ (rd_L3 xs i).length ≤ c0 ∧ (Kd.int .i64).C w A0 (rd_L3 xs i).length (rd_L3 xs i) := by
 obtain ⟨ad, c, e, _, hK, hc0⟩ := Kd.C_get h ([] : List Int) i h0 h1
 have hc : ∀ j u, c[j]? = some u → w.cell? (ad.add (i.toNat * 1 + j)) = some u := hc0
 obtain ⟨A0, c0, rfl, l0, g0⟩ := hK
 exact ⟨ad, A0, c0, e, by have hq := hc 0 _ rfl; rwa [Nat.mul_one, Nat.add_zero] at hq, l0, g0⟩
mutual
def impl_TransposeArray.l0 : Nat → List (List Int) → List (List Int) → Int → Int → Option (ByteArray × Bool)
 | 0, _, _, _, _ => none
 | k + 1, L, P, n, x => if x < n then impl_TransposeArray.l1 k L P n x (P.length : Int) 0 else impl_rowed.f k L
def impl_TransposeArray.l1 : Nat → List (List Int) → List (List Int) → Int → Int → Int → Int → Option (ByteArray × Bool)
 | 0, _, _, _, _, _, _ => none
 | k + 1, L, P, n, x, m, i => if i < m then (if 0 ≤ i then (if i < (P.length : Int) then (if 0 ≤ x then (if x < (L.length : Int) then (if x < ((rd_L3 P i).length : Int) then (if (L.getD x.toNat []).length < 17592186044416 then impl_TransposeArray.l1 k (L.set x.toNat (L.getD x.toNat [] ++ [rd (rd_L3 P i) x])) P n x m (wrap64 (i + 1)) else none) else none) else none) else none) else none) else none) else impl_TransposeArray.l0 k L P n (wrap64 (x + 1))
end
def impl_TransposeArray.f (k : Nat) (a0 : ByteArray) : Option (ByteArray × Bool) := (impl_ShapeOf.f k a0 2).bind fun q => if q.2 = true then ((impl_rowsOf.f k a0).bind fun z => if 1 < (q.1.length : Int) then (if 0 ≤ rd q.1 1 then (if rd q.1 1 ≤ 1000000 then impl_TransposeArray.l0 k (List.replicate (rd q.1 1).toNat []) z.1 (rd q.1 1) 0 else none) else none) else none) else some ((⟨#[]⟩ : ByteArray), false)
def impl_TransposeArray.T12 : Bool × List (List Nat × List Nat) := (true, [([], []), ([], []), ([], []), ([], []), ([2, 3], [2, 3]), ([4], [4]), ([], []), ([], []), ([6, 7], [6, 7]), ([8], [8]), ([9], [9]), ([5, 10], [5, 10]), ([0, 1, 0, 1, 2, 3, 4, 5, 6, 7, 8, 9, 10, 11], [0, 1]), ([12, 11, 11, 0, 1, 2, 3, 4, 5, 6, 7, 8, 9, 10, 11], [11, 12])])
def impl_TransposeArray.B12 : List Nat := [0, 0, 0, 0, 12, 28, 0, 0, 192, 448, 960, 2044, 4095, 8191]
theorem impl_TransposeArray.tab12 : rtab .any (opsOf Tryd.f20 12) = impl_TransposeArray.T12 := by kernel_rfl
theorem impl_TransposeArray.bits12 : waitsOk impl_TransposeArray.T12.2 impl_TransposeArray.B12 = true := by kernel_rfl
theorem impl_ShapeOf.calls (k : Nat) (a0 : ByteArray) (a1 : Int) (r1 : List Int) (r2 : Bool) (w : World) (h : impl_ShapeOf.f k a0 a1 = some (r1, r2)) (hL_ : Sg.LaidW w) :
   Calls Tryd.prog 7 #[.string a0, .int .i64 a1] w fun e w' => ∃ v0_ : Value, e = .returned (.tuple #[v0_, .bool r2]) ∧ RdI w' v0_ r1 ∧ Below w.heap.size w w' :=
 ((impl_ShapeOf.ctr k a0 a1 r1 r2 h).2 w (fun b => b < w.heap.size) 0 [.string a0, .int .i64 a1] hL_ (fun _ hb => hb) (fun T cs e => by cases e) ⟨_, _, rfl, ⟨rfl, rfl⟩, _, _, rfl, ⟨rfl, rfl⟩, rfl⟩).mono fun e w' ⟨vs, ro', he, hs⟩ => by
   have hb : Below w.heap.size w w' := ⟨hs.os, hs.tape, hs.output, hs.size, fun k hk => hs.same k hk (fun e => absurd rfl e)⟩
   first
   | (obtain ⟨v, r, rfl, ⟨_, us, hf, ho⟩, _, v2, r', rfl, hv2, hr⟩ := hs.res
      obtain rfl : r' = [] := hr
      obtain rfl : v2 = .bool r2 := (show v2 = .bool r2 ∧ _ from hv2).1
      exact ⟨v, he, int_of (rep_of_own hf ho), hb⟩)
   | (obtain ⟨v, r, rfl, hv, v2, r', rfl, hv2, hr⟩ := hs.res
      obtain rfl : r' = [] := hr
      obtain rfl : v2 = .bool r2 := (show v2 = .bool r2 ∧ _ from hv2).1
      exact ⟨v, he, int_of hv, hb⟩)
theorem impl_rowsOf.calls (k : Nat) (a0 : ByteArray) (r1 : List (List Int)) (r2 : Bool) (w : World) (h : impl_rowsOf.f k a0 = some (r1, r2)) (hL_ : Sg.LaidW w) :
   Calls Tryd.prog 47 #[.string a0] w fun e w' => ∃ v0_ : Value, e = .returned (.tuple #[v0_, .bool r2]) ∧ (∃ A c, v0_ = .slice A r1.length c ∧ r1.length ≤ c ∧ Kd.C (Kd.slice 3 (Kd.int .i64)) w' A r1.length r1) ∧ Below w.heap.size w w' :=
 ((impl_rowsOf.ctr k a0 r1 r2 h).2 w (fun b => b < w.heap.size) 0 [.string a0] hL_ (fun _ hb => hb) (fun T cs e => by cases e) ⟨_, _, rfl, ⟨rfl, rfl⟩, rfl⟩).mono fun e w' ⟨vs, ro', he, hs⟩ => by
   have hb : Below w.heap.size w w' := ⟨hs.os, hs.tape, hs.output, hs.size, fun k hk => hs.same k hk (fun e => absurd rfl e)⟩
   first
   | (obtain ⟨v, r, rfl, ⟨_, us, hf, ho⟩, _, v2, r', rfl, hv2, hr⟩ := hs.res
      obtain rfl : r' = [] := hr
      obtain rfl : v2 = .bool r2 := (show v2 = .bool r2 ∧ _ from hv2).1
      exact ⟨v, he, ints_of (rep_of_own hf ho), hb⟩)
   | (obtain ⟨v, r, rfl, hv, v2, r', rfl, hv2, hr⟩ := hs.res
      obtain rfl : r' = [] := hr
      obtain rfl : v2 = .bool r2 := (show v2 = .bool r2 ∧ _ from hv2).1
      exact ⟨v, he, ints_of hv, hb⟩)
set_option maxHeartbeats 8000000 in
set_option maxRecDepth 100000 in
theorem impl_TransposeArray.bad (k : Nat) (a0 : ByteArray) (t1 : List Int) (w : World) (h : impl_ShapeOf.f k a0 2 = some (t1, false)) (hL_ : Sg.LaidW w) :
   Calls Tryd.prog 20 #[.string a0] w fun e w' => e = .returned (.tuple #[.string (⟨#[]⟩ : ByteArray), .bool false]) ∧ Below w.heap.size w w' := by
 have HLd := Aside0.mk hL_
 clear hL_
 have A3 := Aside0.mk h
 clear h
 go_enter Tryd.func20, Tryd.ntmps20
 try go_wp2_with (first | (go_at_call 7; (with_reducible refine (impl_ShapeOf.calls k a0 2 t1 false _ A3.out HLd.out).mono ?_); rintro e w6 ⟨v6, rfl, ho, hb⟩; have HB := Aside0.mk hb; clear hb ho))
 repeat (go_quiet (fail); try go_wp2)
 go_ret2
 exact ⟨rfl, HB.out⟩
theorem impl_TransposeArray.rowed (k : Nat) (A0 : Option Addr) (c0 : Nat) (l0 : List (List Int)) (r1 : ByteArray) (r2 : Bool) (w : World) (n base : Nat) (hS : Kd.S (Kd.slice 3 (Kd.int .i64)) 25 w base (fun _ => True) (.slice A0 n c0) l0) (h : impl_rowed.f k l0 = some (r1, r2)) (hL_ : Sg.LaidW w) :
   Calls Tryd.prog 48 #[.slice A0 n c0] w fun e w' => e = .returned (.tuple #[.string r1, .bool r2]) ∧ Below w.heap.size w w' :=
 ((impl_rowed.ctr k l0 r1 r2 h).2 w (fun b => b < w.heap.size) 0 [.slice A0 n c0] hL_ (fun _ hb => hb) (fun T cs e => by cases e) ⟨_, _, rfl, rep_ints (Kd.S_R hS) (fun b _ hb => hb), rfl⟩).mono fun e w' ⟨vs, ro', he, hs⟩ => by
   obtain ⟨v, r, rfl, hv, v2, r', rfl, hv2, hr⟩ := hs.res
   obtain rfl : r' = [] := hr
   obtain rfl : v = .string r1 := (show v = .string r1 ∧ _ from hv).1
   obtain rfl : v2 = .bool r2 := (show v2 = .bool r2 ∧ _ from hv2).1
   exact ⟨he, hs.os, hs.tape, hs.output, hs.size, fun k hk => hs.same k hk (fun e => absurd rfl e)⟩
set_option maxHeartbeats 8000000 in
set_option maxRecDepth 100000 in
theorem impl_TransposeArray.good (k : Nat) (a0 : ByteArray) (t1 : List Int) (P : List (List Int)) (zb : Bool) (w : World) (h : impl_ShapeOf.f k a0 2 = some (t1, true)) (hz : impl_rowsOf.f k a0 = some (P, zb)) (hl : 1 < (t1.length : Int)) (hn0 : 0 ≤ rd t1 1) (hn1 : rd t1 1 ≤ 1000000) (L0 : List (List Int)) (hL0 : List.replicate (rd t1 1).toNat [] = L0) (r1 : ByteArray) (r2 : Bool) (hrun : impl_TransposeArray.l0 k L0 P (rd t1 1) 0 = some (r1, r2)) (hL_ : Sg.LaidW w) :
   Calls Tryd.prog 20 #[.string a0] w fun e w' => e = .returned (.tuple #[.string r1, .bool r2]) ∧ Below w.heap.size w w' := by
 have hu30 := Tryd.underlying59
 have hu22 := Tryd.underlying25
 have HLd := Aside0.mk hL_
 clear hL_
 have A3 := Aside0.mk h
 clear h
 have A4 := Aside0.mk hz
 clear hz
 have H' := Aside0.mk hrun
 clear hrun
 have HN := Aside0.mk (show (L0.length : Int) = rd t1 1 by rw [← hL0, List.length_replicate]; omega)
 have HL0 := Aside0.mk hL0
 clear hL0
 go_enter Tryd.func20, Tryd.ntmps20
 try go_wp2_with (first | (go_at_call 7; (with_reducible refine (impl_ShapeOf.calls k a0 2 t1 true _ A3.out HLd.out).mono ?_); rintro e w6 ⟨v6, rfl, ho, hb⟩; have HB6 := Aside0.mk hb; have HO6 := Aside0.mk ho; clear hb ho) | (go_at_call 47; (with_reducible refine (impl_rowsOf.calls k a0 P zb _ A4.out (laid_b HLd.out HB6.out)).mono ?_); rintro e w7 ⟨v7, rfl, ho, hb⟩; have HO7 := Aside0.mk (RdI_below HO6.out hb); have HB7 := Aside0.mk (below_step HB6.out hb); obtain ⟨AR, cR, eR, _, hrw_⟩ := ho; subst eR; have HRW := Aside0.mk hrw_; clear hrw_ hb HO6 HB6; obtain ⟨A1, c1, e1, _, r1_⟩ := HO7.out; subst e1; have q1 : (1 : Int) < (t1.length : Int) := hl; obtain ⟨ad1, e1, hx1⟩ := Kd.at_int r1_ 1 (by omega) q1; cases e1; (try simp only [show (1 : Int).toNat = 1 from rfl, Nat.reduceMul, Nat.reduceEqDiff, Go.Addr.add, ↓reduceIte] at hx1); (try rw [show ((1 : Int)).toNat = 1 from rfl] at hx1); have qi1 : (1 < t1.length) = True := eq_true (by omega)) | ((with_reducible refine gate_dst (N := 27) rfl ?_); refine Kd.S_make (Kd.slice 3 (Kd.int .i64)) _ 25 ?hg (N := 27) ?hd 59 (.tmp 26) (.tmp 26) rfl (rd t1 1) rfl rfl Tryd.underlying59 (.slice none 0 0) 24 info22 rfl (by decide) (by decide) [] (ok := fun _ => True) (okp := fun _ => False) ?hz (fun _ hk => hk.elim) trivial (by omega) (by omega) (Below.refl _ _) (Nat.le_refl _) ?_; (case hd => rfl); (case hg => rfl); (case hz => exact ⟨_, rfl, Kd.R_nil _ _ _ _ _⟩); intro v27 wm hS hb hg_ hn_; rw [HL0.out] at hS; have HS := Aside0.mk hS; have HBM := Aside0.mk hb; clear hS hb hg_ hn_; obtain ⟨AO, cO, eO⟩ := Kd.S_slice HS.out; subst eO))
 have HLn := Aside0.mk (show L0.length = (rd t1 1).toNat by have := HN.out; omega)
 go_loopg [30] k (fun kq v30 w' => ∃ (L2 : List (List Int)) (x_ : Int), v30 = .int .i64 x_ ∧ Aside0 (impl_TransposeArray.l0 kq L2 P (rd t1 1) x_ = some (r1, r2)) ∧ Aside0 (kq ≤ k) ∧ Aside0 (Kd.S (Kd.slice 3 (Kd.int .i64)) 25 w' w7.heap.size (fun _ => True) (.slice AO L0.length cO) L2) ∧ Aside0 (Below w7.heap.size w7 w'))
 case atStart => exact ⟨L0, 0, (by first | rfl | (simp; done)), H', ⟨Nat.le_refl _⟩, HS, HBM⟩
 case round =>
   clear H' HS HBM
   try clear hx1
   try clear qi1
   try clear q1
   obtain ⟨L2, x_, rfl, HA, HK2, HS2, HB2⟩ := hrel
   cases gk with
   | zero => exact absurd HA.out (by simp [impl_TransposeArray.l0])
   | succ k2 =>
     have H := HA.out
     clear HA
     simp only [impl_TransposeArray.l0] at H
     have hNr : rd t1 1 = (L0.length : Int) := HN.out.symm
     by_cases c1_ : x_ < rd t1 1
     · rw [if_pos c1_] at H
       have b1 : decide (x_ < rd t1 1) = true := decide_eq_true c1_
       have b1' : decide (x_ < (L0.length : Int)) = true := decide_eq_true (by omega)
       clear c1_ hNr
       have H' := Aside0.mk H
       clear H
       go_wp2
       repeat (go_quiet (fail); try go_wp2)
       go_loopg [35] k2 (fun kq v35 w' => ∃ (L3 : List (List Int)) (i_ : Int), v35 = .int .i64 i_ ∧ Aside0 (impl_TransposeArray.l1 kq L3 P (rd t1 1) x_ (P.length : Int) i_ = some (r1, r2)) ∧ Aside0 (kq ≤ k2) ∧ Aside0 (Kd.S (Kd.slice 3 (Kd.int .i64)) 25 w' w7.heap.size (fun _ => True) (.slice AO L0.length cO) L3) ∧ Aside0 (Below w7.heap.size w7 w'))
       case atStart => exact ⟨L2, 0, (by first | rfl | (simp; done)), H', ⟨Nat.le_refl _⟩, HS2, HB2⟩
       case round =>
         clear H' HS2 HB2 b1 b1'
         obtain ⟨L3, i_, rfl, HA, HK3, HS3, HB3⟩ := hrel
         cases gk with
         | zero => exact absurd HA.out (by simp [impl_TransposeArray.l1])
         | succ k3 =>
           have H := HA.out
           clear HA
           simp only [impl_TransposeArray.l1] at H
           by_cases c2_ : i_ < (P.length : Int)
           · rw [if_pos c2_] at H
             by_cases c3_ : 0 ≤ i_
             · rw [if_pos c3_, if_pos c2_] at H
               by_cases c4_ : 0 ≤ x_
               · rw [if_pos c4_] at H
                 by_cases c5_ : x_ < (L3.length : Int)
                 · rw [if_pos c5_] at H
                   by_cases c6_ : x_ < ((rd_L3 P i_).length : Int)
                   · rw [if_pos c6_] at H
                     by_cases c7_ : (L3.getD x_.toNat []).length < 17592186044416
                     · rw [if_pos c7_] at H
                       obtain ⟨j, rfl⟩ : ∃ j : Nat, x_ = (j : Int) := ⟨x_.toNat, by omega⟩
                       rw [Int.toNat_natCast] at H c7_
                       obtain ⟨x, hx⟩ : ∃ x, L3.getD j [] = x := ⟨_, rfl⟩
                       rw [hx] at H c7_
                       have HX := Aside0.mk hx
                       clear hx
                       obtain ⟨y, hy⟩ : ∃ y, rd (rd_L3 P i_) (j : Int) = y := ⟨_, rfl⟩
                       rw [hy] at H
                       obtain ⟨x', hx'⟩ : ∃ x', x' = x ++ [y] := ⟨_, rfl⟩
                       rw [← hx'] at H
                       have HX' := Aside0.mk hx'
                       clear hx'
                       obtain ⟨L4, hL4⟩ : ∃ L4, L4 = L3.set j x' := ⟨_, rfl⟩
                       rw [← hL4] at H
                       have HL4 := Aside0.mk hL4
                       clear hL4
                       have H' := Aside0.mk H
                       clear H
                       have hLL : L0.length = L3.length := (Kd.S_reads' HS3.out).1
                       have p0 : decide (0 ≤ (j : Int)) = true := decide_eq_true c4_
                       have p1 : decide ((j : Int) < (L0.length : Int)) = true := decide_eq_true (by omega)
                       have p2 : decide ((j : Int) < ((rd_L3 P i_).length : Int)) = true := decide_eq_true c6_
                       have b2 : decide (i_ < (P.length : Int)) = true := decide_eq_true c2_
                       have b3 : decide (0 ≤ i_) = true := decide_eq_true c3_
                       obtain ⟨adr, A3, c3, e3, hx3, hl3, hi3⟩ := at_L3 HRW.out i_ c3_ c2_
                       cases e3
                       obtain ⟨ady, e4, hx4⟩ := Kd.at_int hi3 (j : Int) c4_ c6_
                       cases e4
                       rw [hy, Int.toNat_natCast] at hx4
                       clear hi3 hl3
                       replace hx3 := (HB3.out.cell (World.block_lt_of_cell? w7 _ hx3)).trans hx3
                       have HX4 := Aside0.mk hx4
                       clear hx4
                       obtain ⟨bo, cL, eV, hbb, hbl, cs, hBo⟩ := Kd.S_form HS3.out (by omega)
                       injection eV with eA eB eC
                       subst eA
                       clear eB eC
                       have HBB := Aside0.mk hbb
                       have HBO := Aside0.mk hBo
                       have hjl : j < L0.length := by omega
                       have q2 := eq_true c2_
                       have q3 := eq_true c3_
                       have hjr : j < (rd_L3 P i_).length := by omega
                       clear hbb hbl hBo c2_ c3_ c4_ c5_ c6_ hLL
                       go_wp2
                       repeat (go_quiet (fail); try go_wp2)
                       have HS5 := Kd.S_drew HS3.out
                       have HBo5 := blk_drew HBO.out
                       have HB5 := below_drew HB3.out
                       have hx4 := (HB5.cell (World.block_lt_of_cell? w7 _ HX4.out)).trans HX4.out
                       clear HS3 HBO HB3 hx3
                       obtain ⟨oki, cc, hcl, hM, hcc, hfr, hoki, hH⟩ := Kd.S_elem HS5 [] (j : Int) (by omega) (by omega)
                       obtain ⟨ve, rfl, ge⟩ := hM
                       have hce : wr.drew.cell? ⟨bo, j, none⟩ = some ve := (by have := hcc 0 ve rfl; simpa [Kd.slice] using this)
                       rw [Int.toNat_natCast, HX.out] at ge
                       clear hcl hcc HS5
                       obtain ⟨Ae, ce, rfl⟩ := Kd.R_slice ge
                       refine start_ (n := 14) (S := fun w' => w'.cell? ⟨bo, j, none⟩ = some (.slice Ae x.length ce) ∧ w'.cell? (ady.add j) = some (.int .i64 y)) (ds := [13]) #[false, false, false, false, false, false, false, false, false, false, false, false, false, false] (by kernel_rfl) rfl rfl ⟨hce, hx4⟩ (fun hHeld => ?_); refine with_tabW impl_TransposeArray.tab12 impl_TransposeArray.bits12 (fun HT_ HW_ => ?_)
                       generalize wr.drew = w5 at HBo5 HB5 ge hfr hH hce hx4 hHeld ⊢
                       refine pure_ (i := 0) (N := some 39) (v := ?_) (a' := ?_) #[true, false, false, false, false, false, false, false, false, false, false, false, false, false] rfl rfl (any_of HT_.out (by kernel_rfl)) (fun _ _ _ h => h) (Or.inl ⟨by rfl, ?_⟩) ?_ ?_
                       rotate_left
                       · intro w'
                         go_simp
                         with_reducible rfl
                       rotate_left
                       · simp only [Act.put, List.setIfInBounds_toArray, List.set_cons_zero, List.set_cons_succ, i64_w, i32_w]
                         rfl
                       refine pure_ (i := 1) (N := some 40) (v := ?_) (a' := ?_) #[true, true, false, false, false, false, false, false, false, false, false, false, false, false] rfl rfl (any_of HT_.out (by kernel_rfl)) (fun _ _ _ h => h) (Or.inl ⟨by rfl, ?_⟩) ?_ ?_
                       rotate_left
                       · intro w'
                         go_simp
                         with_reducible rfl
                       rotate_left
                       · simp only [Act.put, List.setIfInBounds_toArray, List.set_cons_zero, List.set_cons_succ, i64_w, i32_w]
                         rfl
                       refine pure_ (i := 2) (N := some 41) (v := ?_) (a' := ?_) #[true, true, true, false, false, false, false, false, false, false, false, false, false, false] rfl rfl (any_of HT_.out (by kernel_rfl)) (fun _ _ _ h => h) (Or.inl ⟨by rfl, ?_⟩) ?_ ?_
                       rotate_left
                       · intro w'
                         go_simp
                         with_reducible rfl
                       rotate_left
                       · simp only [Act.put, List.setIfInBounds_toArray, List.set_cons_zero, List.set_cons_succ, i64_w, i32_w]
                         rfl
                       refine pure_ (i := 3) (N := some 42) (v := ?_) (a' := ?_) #[true, true, true, true, false, false, false, false, false, false, false, false, false, false] rfl rfl (any_of HT_.out (by kernel_rfl)) (fun _ _ _ h => h) (Or.inl ⟨by rfl, ?_⟩) ?_ ?_
                       rotate_left
                       · intro w'
                         go_simp
                         with_reducible rfl
                       rotate_left
                       · simp only [Act.put, List.setIfInBounds_toArray, List.set_cons_zero, List.set_cons_succ, i64_w, i32_w]
                         rfl
                       refine pure_ (i := 6) (N := some 45) (v := ?_) (a' := ?_) #[true, true, true, true, false, false, true, false, false, false, false, false, false, false] rfl rfl (any_of HT_.out (by kernel_rfl)) (fun _ _ _ h => h) (Or.inl ⟨by rfl, ?_⟩) ?_ ?_
                       rotate_left
                       · intro w'
                         go_simp
                         with_reducible rfl
                       rotate_left
                       · simp only [Act.put, List.setIfInBounds_toArray, List.set_cons_zero, List.set_cons_succ, i64_w, i32_w]
                         rfl
                       refine pure_ (i := 7) (N := some 46) (v := ?_) (a' := ?_) #[true, true, true, true, false, false, true, true, false, false, false, false, false, false] rfl rfl (any_of HT_.out (by kernel_rfl)) (fun _ _ _ h => h) (Or.inl ⟨by rfl, ?_⟩) ?_ ?_
                       rotate_left
                       · intro w'
                         go_simp
                         with_reducible rfl
                       rotate_left
                       · simp only [Act.put, List.setIfInBounds_toArray, List.set_cons_zero, List.set_cons_succ, i64_w, i32_w]
                         rfl
                       refine pure_ (i := 4) (N := some 43) (v := ?_) (a' := ?_) #[true, true, true, true, true, false, true, true, false, false, false, false, false, false] rfl rfl (any_of HT_.out (by kernel_rfl)) (fun _ _ _ h => h) (Or.inl ⟨by rfl, ?_⟩) ?_ ?_
                       rotate_left
                       · intro w'
                         go_simp
                         with_reducible rfl
                       rotate_left
                       · simp only [Act.put, List.setIfInBounds_toArray, List.set_cons_zero, List.set_cons_succ, i64_w, i32_w]
                         rfl
                       refine take_ (i := 5) (N := some 44) (v := ?_) (a' := ?_) #[true, true, true, true, true, true, true, true, false, false, false, false, false, false] rfl rfl (take_ofW HT_.out HW_.out (by kernel_rfl)) (fun _ _ _ h => h) (Or.inl ⟨by rfl, ?_⟩) hHeld ?_ ?_
                       rotate_left
                       · rintro w' ⟨s0, s1⟩
                         go_simp
                         with_reducible rfl
                       rotate_left
                       · simp only [Act.put, List.setIfInBounds_toArray, List.set_cons_zero, List.set_cons_succ, i64_w, i32_w]
                         rfl
                       refine pure_ (i := 8) (N := some 47) (v := ?_) (a' := ?_) #[true, true, true, true, true, true, true, true, true, false, false, false, false, false] rfl rfl (any_of HT_.out (by kernel_rfl)) (fun _ _ _ h => h) (Or.inl ⟨by rfl, ?_⟩) ?_ ?_
                       rotate_left
                       · intro w'
                         go_simp
                         with_reducible rfl
                       rotate_left
                       · simp only [Act.put, List.setIfInBounds_toArray, List.set_cons_zero, List.set_cons_succ, i64_w, i32_w]
                         rfl
                       refine take_ (i := 9) (N := some 48) (v := ?_) (a' := ?_) #[true, true, true, true, true, true, true, true, true, true, false, false, false, false] rfl rfl (take_ofW HT_.out HW_.out (by kernel_rfl)) (fun _ _ _ h => h) (Or.inl ⟨by rfl, ?_⟩) hHeld ?_ ?_
                       rotate_left
                       · rintro w' ⟨s0, s1⟩
                         go_simp
                         with_reducible rfl
                       rotate_left
                       · simp only [Act.put, List.setIfInBounds_toArray, List.set_cons_zero, List.set_cons_succ, i64_w, i32_w]
                         rfl
                       refine one_ (i := 10) (N := some 49) #[true, true, true, true, true, true, true, true, true, true, true, false, false, false] rfl rfl (one_of HT_.out (by kernel_rfl)) (by decide) (fun K hK => ?_)
                       refine value_ (w1 := ?_) (v := ?_) (by rfl) rfl ?_ ?_
                       rotate_left 2
                       · go_simp
                         constructor
                         · rfl
                         · rfl
                       refine hK.out _ _ ⟨((below_alloc (Below.refl _ w5) _).cell (World.block_lt_of_cell? _ _ hce)).trans hce, ((below_alloc (Below.refl _ w5) _).cell (World.block_lt_of_cell? _ _ hx4)).trans hx4⟩ (fun hHeld => ?_)
                       clear hK K
                       refine norm_ (a' := ?_) ?_ ?_
                       rotate_left
                       · show Act.put _ (some 49) _ = _
                         simp only [Act.put, List.setIfInBounds_toArray, List.set_cons_zero, List.set_cons_succ, i64_w, i32_w]
                         rfl
                       refine one_ (i := 11) (N := some 50) #[true, true, true, true, true, true, true, true, true, true, true, true, false, false] rfl rfl (one_of HT_.out (by kernel_rfl)) (by decide) (fun K hK => ?_)
                       refine Kd.R_append_step (Kd.int .i64) w7.heap.size (by rfl) (.tmp 44) (.tmp 49) 25 3 (.int .i64 0) 8 rfl Tryd.underlying25 info3 rfl (by decide) (by omega) (.slice Ae x.length ce) x y [.int .i64 y] (fun k_ => oki k_ ∨ (True ∧ w5.heap.size ≤ k_)) (fun k_ => (oki k_ ∨ (True ∧ w5.heap.size ≤ k_)) ∧ some k_ ≠ (.slice Ae x.length ce : Value).ownBlock) rfl rfl ?aP (fun _ hk => hk) (fun k_ hk => .inr ⟨trivial, hk⟩) (Kd.R_mono ge (fun _ hk => .inl hk)) (Below.refl _ _) (below_size HB5) (by omega) ?_
                       (case aP => exact rfl)
                       intro v1 w6 ho hb hg hat
                       rw [← HX'.out] at ho
                       have hBo6 := blk_grown HBo5 hg (Kd.R_ne ge HBo5 (by decide))
                       have hce6 : w6.cell? ⟨bo, j, none⟩ = some (.slice Ae x.length ce) := cell_grown hg hce (Kd.R_ne ge HBo5 (by decide))
                       have hB6 := HB5.trans hb
                       have hx6 := (hB6.cell (World.block_lt_of_cell? w7 _ HX4.out)).trans HX4.out
                       have hH6 := Kd.H_grown (Kd.H_widen hH) hg (fun k_ hk => .inl (ge.1 k_ hk))
                       clear HBo5 HB5 hb hg hat hH hce ge hx4
                       obtain ⟨A6, c6, rfl⟩ := Kd.R_slice ho
                       refine hK.out _ _ ⟨hce6, hx6⟩ (fun hHeld => ?_)
                       clear hK K
                       refine norm_ (a' := ?_) ?_ ?_
                       rotate_left
                       · show Act.put _ (some 50) _ = _
                         simp only [Act.put, List.setIfInBounds_toArray, List.set_cons_zero, List.set_cons_succ, i64_w, i32_w]
                         rfl
                       refine pure_ (i := 12) (N := some 51) (v := ?_) (a' := ?_) #[true, true, true, true, true, true, true, true, true, true, true, true, true, false] rfl rfl (any_of HT_.out (by kernel_rfl)) (fun _ _ _ h => h) (Or.inl ⟨by rfl, ?_⟩) ?_ ?_
                       rotate_left
                       · intro w'
                         go_simp
                         with_reducible rfl
                       rotate_left
                       · simp only [Act.put, List.setIfInBounds_toArray, List.set_cons_zero, List.set_cons_succ, i64_w, i32_w]
                         rfl
                       refine last_ (i := 13) (N := none) #[true, true, true, true, true, true, true, true, true, true, true, true, true, true] rfl rfl (one_of HT_.out (by kernel_rfl)) (by decide) (fun K hK => ?_)
                       have hf1 : w6.frozen? ⟨bo, j, none⟩ = false := blk_frozen hBo6 j
                       refine skip_ (w1 := ?_) (by rfl) rfl ?_ ?_
                       rotate_left
                       · go_simp
                         rfl
                       refine hK.out _ _ ?_
                       clear hK K
                       refine done_ (done_of HT_.out (by kernel_rfl)) ?_
                       have hH7 := (Kd.H_seg hH6 (by omega) (by omega) (seg := [.slice A6 x'.length c6]) (j := 0) (Nat.le_refl 1) (by simp [Value.oneCell'])).1
                       have hR7 := Kd.R_far (p := ⟨bo, j, none⟩) (Kd.R_types ho hBo6 (by decide)) (fun _ hk => hk.2) (.slice A6 x'.length c6)
                       rw [show w6.setCells bo ((j : Int).toNat * (Kd.slice 3 (Kd.int .i64)).sz + 0) [.slice A6 x'.length c6] = w6.setCell ⟨bo, j, none⟩ (.slice A6 x'.length c6) by rw [Int.toNat_natCast]; show w6.setCells bo (j * 1 + 0) [_] = _; rw [Nat.mul_one]; rfl] at hH7
                       have hS7 := Kd.H_back (x' := x') hH7 ⟨_, rfl, hR7⟩ (fun _ hk => hk.1)
                       rw [Int.toNat_natCast, ← HL4.out] at hS7
                       have HS7 := Aside0.mk hS7
                       have HB7' := Aside0.mk (below_set (j := j) (v := .slice A6 x'.length c6) hB6 HBB.out)
                       generalize w6.setCell ⟨bo, j, none⟩ (.slice A6 x'.length c6) = w8 at HS7 HB7' ⊢
                       clear hH6 hH7 hR7 hS7 hBo6 hce6 hx6 hB6 hf1 hHeld ho hoki hfr
                       try go_wp2
                       repeat (go_quiet (fail); try go_wp2)
                       go_roundg k3
                       case measure => have := HK3.out; omega
                       case rel => exact ⟨L4, wrap64 (i_ + 1), (by first | rfl | (simp; done)), H', ⟨by have := HK3.out; omega⟩, HS7, HB7'⟩
                     · rw [if_neg c7_] at H
                       exact absurd H (by simp)
                   · rw [if_neg c6_] at H
                     exact absurd H (by simp)
                 · rw [if_neg c5_] at H
                   exact absurd H (by simp)
               · rw [if_neg c4_] at H
                 exact absurd H (by simp)
             · rw [if_neg c3_] at H
               exact absurd H (by simp)
           · rw [if_neg c2_] at H
             have b2 : decide (i_ < (P.length : Int)) = false := decide_eq_false c2_
             clear c2_
             have H' := Aside0.mk H
             clear H
             go_wp2
             repeat (go_quiet (fail); try go_wp2)
             go_roundg k3
             case measure => have := HK2.out; have := HK3.out; omega
             case rel => exact ⟨L3, wrap64 (x_ + 1), (by first | rfl | (simp; done)), H', ⟨by have := HK2.out; have := HK3.out; omega⟩, HS3, HB3⟩
     · rw [if_neg c1_] at H
       have b1 : decide (x_ < rd t1 1) = false := decide_eq_false c1_
       have b1' : decide (x_ < (L0.length : Int)) = false := decide_eq_false (by omega)
       clear c1_ hNr
       have A9 := Aside0.mk H
       clear H
       have hLL : L0.length = L2.length := (Kd.S_reads' HS2.out).1
       have HE9 := Aside0.mk hLL
       clear hLL
       go_wp2_with (first | (go_at_call 48; (with_reducible refine (impl_TransposeArray.rowed k2 AO cO L2 r1 r2 _ _ _ HS2.out A9.out (laid_b HLd.out (below_step HB7.out HB2.out))).mono ?_); rintro e w9 ⟨rfl, hb⟩; have HB9 := Aside0.mk (below_step (below_step HB7.out HB2.out) hb); clear hb))
       repeat (go_quiet (fail); try go_wp2)
       go_ret2
       exact ⟨rfl, HB9.out⟩
theorem impl_TransposeArray.calls (k : Nat) (a0 : ByteArray) (r1 : ByteArray) (r2 : Bool) (w : World) (h : impl_TransposeArray.f k a0 = some (r1, r2)) (hL_ : Sg.LaidW w) :
   Calls Tryd.prog 20 #[.string a0] w fun e w' => e = .returned (.tuple #[.string r1, .bool r2]) ∧ Below w.heap.size w w' := by
 unfold impl_TransposeArray.f at h
 obtain ⟨⟨t1, t2⟩, h1, h⟩ := Option.bind_eq_some_iff.mp h
 dsimp only at h
 cases t2 with
 | false =>
   rw [if_neg (by simp)] at h
   simp only [Option.some.injEq, Prod.mk.injEq] at h
   obtain ⟨rfl, rfl⟩ := h
   exact impl_TransposeArray.bad k a0 t1 w h1 hL_
 | true =>
   rw [if_pos rfl] at h
   obtain ⟨⟨P, zb⟩, h2, h⟩ := Option.bind_eq_some_iff.mp h
   dsimp only at h
   by_cases c0 : 1 < (t1.length : Int)
   · rw [if_pos c0] at h
     by_cases c1 : 0 ≤ rd t1 1
     · rw [if_pos c1] at h
       by_cases c2 : rd t1 1 ≤ 1000000
       · rw [if_pos c2] at h
         exact impl_TransposeArray.good k a0 t1 P zb w h1 h2 c0 c1 c2 _ rfl r1 r2 h hL_
       · rw [if_neg c2] at h; cases h
     · rw [if_neg c1] at h; cases h
   · rw [if_neg c0] at h; cases h
theorem impl_TransposeArray.ctr (k : Nat) (a0 : ByteArray) (r1 : ByteArray) (r2 : Bool) (h : impl_TransposeArray.f k a0 = some (r1, r2)) : Ctr TE 20 none [.v (.string a0)] [.ro (.v (.string r1)), .ro (.v (.bool r2))] [] := by
 refine ctr_made (callable_of Tryd.func20 (by kernel_rfl) (by kernel_rfl)) (fun w ro g vals hL hp => ?_)
 obtain ⟨u, q, rfl, hu, rfl⟩ := hp
 obtain rfl : u = .string a0 := (show u = .string a0 ∧ _ from hu).1
 refine (impl_TransposeArray.calls k a0 r1 r2 w h hL).mono ?_
 rintro e w' ⟨rfl, hb⟩
 exact ⟨[_, _], rfl, hb, fun ro' _ hr => ⟨_, [_], rfl, ⟨rfl, rfl⟩, _, [], rfl, ⟨rfl, rfl⟩, rfl⟩⟩
end Go.Proofs.YtlhejcogdjelpaaDoor.G
