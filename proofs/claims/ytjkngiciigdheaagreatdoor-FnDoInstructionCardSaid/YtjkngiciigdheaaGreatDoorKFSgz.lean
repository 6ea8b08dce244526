/- A part of the claim. -/
import Derived.Test.YtjkngiciigdheaaGreatDoorKFSgy
import Derived.Test.YtjkngiciigdheaaGreatDoorKFSgc
import Derived.Test.YtjkngiciigdheaaGreatDoorKFW1
namespace Go.Proofs.YtjkngiciigdheaaGreatDoor.K
open Go.RowKit Go.Proofs.YtjkngiciigdheaaGreatDoorW.St Go.Proofs.YtjkngiciigdheaaGreatDoorW.PrintWords Go.Proofs.YtjkngiciigdheaaGreatDoorW.PrintLast Go.Proofs.YtjkngiciigdheaaGreatDoorW.PrintMore
attribute [local go_sem] max2_int min2_int max_two min_two max_three min_three max_four min_four
set_option linter.unusedVariables false
set_option linter.unusedSimpArgs false
def impl_laid.l0 : Nat → List S70 → List (List Int) → List Int → Int → Int → Option (List (List Int) × List Int)
 | 0, _, _, _, _, _ => none
 | k + 1, l, L, D, m, i => if i < m then (if 0 ≤ i then (if i < (l.length : Int) then ((lay.f k L D ((rd_T70 l i).f0) ((rd_T70 l i).f1) 0).bind fun q => impl_laid.l0 k l q.1 q.2 m (wrap64 (i + 1))) else none) else none) else some (L, D)
def impl_laid.f (k : Nat) (l : List S70) (d : Int) : Option (List (List Int) × List Int) := if 0 ≤ d then (if d ≤ 1000000 then impl_laid.l0 k l (List.replicate d.toNat []) [] (l.length : Int) 0 else none) else none
set_option maxHeartbeats 8000000 in
set_option maxRecDepth 100000 in
theorem impl_laid.walk (k : Nat) (A0 : Option Addr) (c0 : Nat) (l : List S70) (d : Nat) (L0 : List (List Int)) (hL0 : List.replicate d [] = L0) (r1 : List (List Int)) (r2 : List Int) (w : World) (hr0 : Kd.C k70 w A0 l.length l) (hc0 : l.length ≤ c0) (hd : d ≤ 1000000) (h : impl_laid.l0 k l L0 [] (l.length : Int) 0 = some (r1, r2)) :
 Calls Tryz.prog 43 #[.slice A0 l.length c0, .int .i64 (d : Int)] w fun e w' => ∃ v0_ v1_ : Value, e = .returned (.agg #[v0_, v1_]) ∧ Kd.S (Kd.slice 3 (Kd.int .i64)) 27 w' w.heap.size (fun k_ => some k_ ≠ (v1_ : Value).ownBlock) v0_ r1 ∧ Kd.R (Kd.int .i64) 3 w' w.heap.size (fun _ => True) v1_ r2 ∧ Below w.heap.size w w' := by
 have hu70 := Tryz.underlying70
 have hu32 := Tryz.underlying29
 have hu30 := Tryz.underlying26
 have HR := Aside0.mk hr0
 clear hr0
 have HL0 := Aside0.mk hL0
 clear hL0
 have H' := Aside0.mk h
 clear h
 go_enter Tryz.func43, Tryz.ntmps43
 try go_wp2_with (first | ((with_reducible refine gate_dst (N := 4) rfl ?_); refine box_event ?hg (N := 4) ?hd (cs := #[.slice none 0 0, .slice none 0 0]) (t := 29) ?hr ?_; (case hd => rfl); (case hg => rfl); (case hr => first | (go_simp; done) | (go_simp; rfl)); intro g4 hg4 w4 hbox4 hb4; have HW4 := Aside0.mk (show w.heap.size ≤ g4 from (by omega)); have HB4 := Aside0.mk (show Below w.heap.size w w4 from hb4); have BK4 := Aside0.mk hbox4; clear hg4 hbox4 hb4) | ((with_reducible refine gate_dst (N := 9) rfl ?_); refine Kd.S_make (Kd.slice 3 (Kd.int .i64)) w.heap.size 27 ?hg (N := 9) ?hd 26 (.tmp 8) (.tmp 8) rfl (d : Int) rfl rfl Tryz.underlying26 (.slice none 0 0) 24 info22 rfl (by decide) (by decide) [] (ok := fun _ => True) (okp := fun _ => False) ?hz (fun _ hk => hk.elim) trivial (by omega) (by omega) (Below.refl _ _) (below_size HB4.out) ?_; (case hd => rfl); (case hg => rfl); (case hz => exact ⟨_, rfl, Kd.R_nil _ _ _ _ _⟩); intro v9 w9 hS9 hb9 hg9 hn9; rw [Int.toNat_natCast, HL0.out] at hS9; have HS9 := Aside0.mk hS9; have HB9 := Aside0.mk (HB4.out.trans hb9); have BK9 := Aside0.mk (blk_grown BK4.out hg9 (by simp)); clear hS9 hb9 hg9 hn9 HB4 BK4; obtain ⟨A9, c9, e9⟩ := Kd.S_slice HS9.out; subst e9) | ((with_reducible refine gate_dst (N := 5) rfl ?_); refine box_event ?hg (N := 5) ?hd (cs := #[.slice none 0 0, .slice none 0 0]) (t := 29) ?hr ?_; (case hd => rfl); (case hg => rfl); (case hr => first | (go_simp; done) | (go_simp; rfl)); intro g hg w5 hbox hb; have HS5 := Aside0.mk (Kd.S_below HS9.out hb); have BK5 := Aside0.mk (blk_below BK9.out hb); have HB5 := Aside0.mk (below_step HB9.out hb); have HG5 := Aside0.mk hbox; have HGW := Aside0.mk (show w.heap.size ≤ g from (by have := below_size HB9.out; omega)); have HN5 := Aside0.mk (show g4 ≠ g from (by have := blk_lt BK9.out; omega)); have hcz0 : w5.cell? ⟨g, 0, none⟩ = some (.slice none 0 0) := (blk_cell hbox 0).trans rfl; have hcz1 : w5.cell? ⟨g, 1, none⟩ = some (.slice none 0 0) := (blk_cell hbox 1).trans rfl; have hfz0 := blk_frozen hbox 0; have hfz1 := blk_frozen hbox 1; clear hg hbox hb HS9 BK9 HB9))
 have HI6 := Aside0.mk (show IsLay w ((w5.setCell ⟨g, 0, none⟩ (.slice A9 L0.length c9)).setCell ⟨g, 1, none⟩ (.slice none 0 0)) g (.slice A9 L0.length c9) (.slice none 0 0) L0 [] from
  ⟨blk_put (blk_put HG5.out 0 _ rfl) 1 _ rfl, Kd.S_mono (Kd.S_far (p := ⟨g, 1, none⟩) (Kd.S_far (p := ⟨g, 0, none⟩) (Kd.S_types HS5.out HG5.out (by decide)) (fun _ hk => hk.2) _) (fun _ hk => hk.2) _) (fun k_ _ => by simp [Value.ownBlock]), Kd.R_nil _ _ _ _ _, below_set (below_set HB5.out HGW.out) HGW.out, HGW.out⟩)
 have BK6 := Aside0.mk (blk_far (p := ⟨g, 1, none⟩) (blk_far (p := ⟨g, 0, none⟩) BK5.out HN5.out (.slice A9 L0.length c9)) HN5.out (.slice none 0 0))
 go_loopg [13] k (fun kq v13 w' => ∃ (L2 : List (List Int)) (D2 : List Int) (vD2 : Value) (i_ : Int), v13 = .int .i64 i_ ∧ Aside0 (impl_laid.l0 kq l L2 D2 (l.length : Int) i_ = some (r1, r2)) ∧ Aside0 (kq ≤ k) ∧ Aside0 (IsLay w w' g (.slice A9 L0.length c9) vD2 L2 D2) ∧ Aside0 (w'.heap[g4]? = some (.cells #[.slice none 0 0, .slice none 0 0] 29 (0, 0))))
 case atStart => exact ⟨L0, [], _, 0, (by first | rfl | (simp; done)), H', ⟨Nat.le_refl _⟩, HI6, BK6⟩
 case round =>
  clear H' HI6 BK6 HS5 BK5 HB5 HG5
  (try clear hcz0 hcz1 hfz0 hfz1)
  obtain ⟨L2, D2, vD2, i_, rfl, HA, HK1, HI8, HA8⟩ := hrel
  cases gk with
  | zero => exact absurd HA.out (by simp [impl_laid.l0])
  | succ k1 =>
   have H := HA.out
   clear HA
   simp only [impl_laid.l0] at H
   by_cases c1_ : i_ < (l.length : Int)
   · rw [if_pos c1_] at H
     have b1 : decide (i_ < (l.length : Int)) = true := decide_eq_true c1_
     by_cases c2_ : 0 ≤ i_
     · rw [if_pos c2_, if_pos c1_] at H
       have b2 : decide (0 ≤ i_) = true := decide_eq_true c2_
       replace H := Option.bind_eq_some_iff.mp H
       obtain ⟨⟨L3, D3⟩, hA, H⟩ := H
       have A15 := Aside0.mk hA
       have H' := Aside0.mk H
       clear hA H
       obtain ⟨ad, A3, c3, e3, hx0, hx1, hl3, hi3⟩ := at_T70 HR.out i_ c2_ c1_
       cases e3
       replace hx0 := (HI8.out.2.2.2.1.cell (World.block_lt_of_cell? w _ hx0)).trans hx0
       replace hx1 := (HI8.out.2.2.2.1.cell (World.block_lt_of_cell? w _ hx1)).trans hx1
       have HR3 := Aside0.mk hi3
       have HC3 := Aside0.mk hl3
       clear hi3 hl3
       replace c2_ := eq_true c2_
       replace c1_ := eq_true c1_
       go_wp2_with (first | ((with_reducible refine gate_dst (N := 7) rfl ?_); refine box_event ?hg (N := 7) ?hd (cs := #[.int .i64 0, .slice none 0 0]) (t := 70) ?hr ?_; (case hd => rfl); (case hg => rfl); (case hr => first | (go_simp; done) | (go_simp; rfl)); intro gb hgb w17 hbox hb; have HI17 := Aside0.mk (HI8.out.below hb); have HA17 := Aside0.mk (blk_below HA8.out hb); have HGB := Aside0.mk (show w.heap.size ≤ gb from (by have := below_size HI8.out.2.2.2.1; omega)); have HNA := Aside0.mk (show g4 ≠ gb from (by have := blk_lt HA8.out; omega)); clear hb hgb HI8 HA8; have hcz0 : w17.cell? ⟨gb, 0, none⟩ = some (.int .i64 0) := (blk_cell hbox 0).trans rfl; have hcz1 : w17.cell? ⟨gb, 1, none⟩ = some (.slice none 0 0) := (blk_cell hbox 1).trans rfl; have hfz0 := blk_frozen hbox 0; have hfz1 := blk_frozen hbox 1; have HBK := Aside0.mk hbox; clear hbox) | ((with_reducible refine gate_callee (f := 74) rfl ?_); refine goesL_ (some 18) rfl rfl Tryz.func74 (by kernel_rfl) rfl #[.pointer (some ⟨g, 0, none⟩), .agg #[.int .i64 ((rd_T70 l i_).f0), .slice A3 ((rd_T70 l i_).f1).length c3], .int .i64 0] rfl (by (try simp only [List.map_toArray, List.map_cons, List.map_nil]); first | done | rfl) ?_; (with_reducible refine (lay.calls w g k1 L2 D2 ((rd_T70 l i_).f0) A3 c3 ((rd_T70 l i_).f1) 0 (.slice A9 L0.length c9) vD2 _ L3 D3 HR3.out HC3.out ?side1 A15.out).mono ?_); (case side1 => exact (HI17.out.far HBK.out HGB.out 0 _).far (blk_put HBK.out 0 _ rfl) HGB.out 1 _); rintro e w20 ⟨rfl, hF, vD3, hI⟩; refine ⟨_, rfl, ?_⟩; have HI9 := Aside0.mk hI; have HA9 := Aside0.mk (hF g4 _ 29 (.inr rfl) HN5.out (blk_far (p := ⟨gb, 1, none⟩) (blk_far (p := ⟨gb, 0, none⟩) HA17.out HNA.out _) HNA.out _)); clear HI17 HA17 HBK hF hI))
       go_roundg k1
       case measure => have := HK1.out; omega
       case rel => exact ⟨L3, D3, vD3, wrap64 (i_ + 1), (by first | rfl | (simp; done)), H', ⟨by have := HK1.out; omega⟩, HI9, HA9⟩
     · rw [if_neg c2_] at H
       exact absurd H (by simp)
   · rw [if_neg c1_] at H
     have b1 : decide (i_ < (l.length : Int)) = false := decide_eq_false c1_
     clear c1_
     simp only [Option.some.injEq, Prod.mk.injEq] at H
     obtain ⟨rfl, rfl⟩ := H
     obtain ⟨AD, cD, rfl⟩ := Kd.R_slice HI8.out.2.2.1
     obtain ⟨AL, cL, eL⟩ := Kd.S_slice HI8.out.2.1
     have hcg0 := (blk_cell HI8.out.1 0).trans rfl
     have hcg1 := (blk_cell HI8.out.1 1).trans rfl
     have hc40 := (blk_cell HA8.out 0).trans rfl
     have hc41 := (blk_cell HA8.out 1).trans rfl
     have hf40 := blk_frozen HA8.out 0
     have hf41 := blk_frozen HA8.out 1
     go_wp2
     have hS8 := HI8.out.2.1
     rw [eL] at hS8
     refine bodyPost_ret (results_cell_row rfl _ _ g4 29 #[.slice AL L2.length cL, .slice AD D2.length cD] (0, 0) _ rfl (blk_put (blk_put HA8.out 0 _ rfl) 1 _ rfl) Tryz.underlying29 rfl (by kernel_rfl)) rfl ?_
     exact ⟨_, _, rfl, Kd.S_mono (Kd.S_far (p := ⟨g4, 1, none⟩) (Kd.S_far (p := ⟨g4, 0, none⟩) (Kd.S_types hS8 HA8.out (by decide)) (fun _ hk => hk.2) _) (fun _ hk => hk.2) _) (fun _ hk => hk.1), Kd.R_mono (Kd.R_far (p := ⟨g4, 1, none⟩) (Kd.R_far (p := ⟨g4, 0, none⟩) (Kd.R_types HI8.out.2.2.1 HA8.out (by decide)) (fun _ hk => hk.2) _) (fun _ hk => hk.2) _) (fun _ _ => trivial), below_set (below_set HI8.out.2.2.2.1 HW4.out) HW4.out⟩
theorem impl_laid.calls (k : Nat) (A0 : Option Addr) (c0 : Nat) (l : List S70) (a1 : Int) (r1 : List (List Int)) (r2 : List Int) (w : World) (hr0 : Kd.C k70 w A0 l.length l) (hc0 : l.length ≤ c0) (h : impl_laid.f k l a1 = some (r1, r2)) :
 Calls Tryz.prog 43 #[.slice A0 l.length c0, .int .i64 a1] w fun e w' => ∃ v0_ v1_ : Value, e = .returned (.agg #[v0_, v1_]) ∧ Kd.S (Kd.slice 3 (Kd.int .i64)) 27 w' w.heap.size (fun k_ => some k_ ≠ (v1_ : Value).ownBlock) v0_ r1 ∧ Kd.R (Kd.int .i64) 3 w' w.heap.size (fun _ => True) v1_ r2 ∧ Below w.heap.size w w' := by
 unfold impl_laid.f at h
 by_cases h0 : 0 ≤ a1
 · rw [if_pos h0] at h
   by_cases h1 : a1 ≤ 1000000
   · rw [if_pos h1] at h
     obtain ⟨d, rfl⟩ : ∃ d : Nat, a1 = (d : Int) := ⟨a1.toNat, by omega⟩
     rw [Int.toNat_natCast] at h
     exact impl_laid.walk k A0 c0 l d _ rfl r1 r2 w hr0 hc0 (by omega) h
   · rw [if_neg h1] at h; cases h
 · rw [if_neg h0] at h; cases h
theorem impl_laid.ctr (k : Nat) (l : List S70) (a1 : Int) (r1 : List (List Int)) (r2 : List Int) (h : impl_laid.f k l a1 = some (r1, r2)) : Ctr TE 43 none [.sl 2 (r70 l), .v (.int .i64 a1)] [.ro (.ag [.sl 1 (rX (cL (cI .i64) 1) r1), .sl 1 (rX (cI .i64) r2)])] [] := by
 refine ctr_made (callable_of Tryz.func43 (by kernel_rfl) (by kernel_rfl)) (fun w ro g vals hL hp => ?_)
 obtain ⟨u, q, rfl, hu, u2, q2, rfl, hu2, rfl⟩ := hp
 obtain rfl : u2 = .int .i64 a1 := (show u2 = .int .i64 a1 ∧ _ from hu2).1
 obtain ⟨A0, c0, rfl, hc0, hx⟩ := r70_of l _ hu
 refine (impl_laid.calls k A0 c0 l a1 r1 r2 w hx hc0 h).mono ?_
 rintro e w' ⟨v0, v1, rfl, h0, h1, hb⟩
 exact ⟨[_], rfl, hb, fun ro' _ hr => ⟨_, [], rfl, ⟨[v0, v1], rfl, v0, [v1], rfl, rep_ints (Kd.S_R h0) hr, v1, [], rfl, rep_int h1 hr, rfl⟩, rfl⟩⟩
end Go.Proofs.YtjkngiciigdheaaGreatDoor.K
