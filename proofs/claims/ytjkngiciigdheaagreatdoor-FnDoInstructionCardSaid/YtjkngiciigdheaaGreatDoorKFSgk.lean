/- A part of the claim. -/
import Derived.Test.YtjkngiciigdheaaGreatDoorKFSke
import Derived.Test.YtjkngiciigdheaaGreatDoorKFW1
namespace Go.Proofs.YtjkngiciigdheaaGreatDoor.K
open Go.RowKit Go.Proofs.YtjkngiciigdheaaGreatDoorW.PrintWords Go.Proofs.YtjkngiciigdheaaGreatDoorW.PrintLast Go.Proofs.YtjkngiciigdheaaGreatDoorW.PrintMore
attribute [local go_sem] max2_int min2_int max_two min_two max_three min_three max_four min_four
set_option linter.unusedVariables false
set_option linter.unusedSimpArgs false
mutual
def pv.f : Nat → List (List Int) → List Int → Int → List S86 → Int → Option (List (List Int) × List Int)
 | 0, _, _, _, _, _ => none
 | k + 1, L, D, n, ps, lv => if lv = (L.length : Int) then (if D.length < 17592186044416 then some (L, D ++ [n]) else none) else (if 0 ≤ lv then (if lv < (L.length : Int) then (if (L.getD lv.toNat []).length < 17592186044416 then pv.l0 k (L.set lv.toNat (L.getD lv.toNat [] ++ [(ps.length : Int)])) D ps lv (ps.length : Int) 0 else none) else none) else none)
def pv.l0 : Nat → List (List Int) → List Int → List S86 → Int → Int → Int → Option (List (List Int) × List Int)
 | 0, _, _, _, _, _, _ => none
 | k + 1, L, D, ps, lv, m, i => if i < m then (if 0 ≤ i then (if i < (ps.length : Int) then ((pv.f k L D ((rd_T86 ps i).f0) ((rd_T86 ps i).f1) (wrap64 (lv + 1))).bind fun q => pv.l0 k q.1 q.2 ps lv m (wrap64 (i + 1))) else none) else none) else some (L, D)
end
def pv.T2 : Bool × List (List Nat × List Nat) := (true, [([], []), ([], []), ([1], [1]), ([2], [2]), ([3], [3]), ([], []), ([5], [5]), ([6], [6]), ([4, 7], [4, 7]), ([0, 0, 1, 2, 3, 4, 5, 6, 7, 8], [0]), ([9, 0, 1, 2, 3, 4, 5, 6, 7, 8], [9]), ([10, 8, 8, 0, 1, 2, 3, 4, 5, 6, 7, 8], [8, 10])])
def pv.B2 : List Nat := [0, 0, 2, 6, 14, 0, 32, 96, 254, 511, 1023, 2047]
theorem pv.tab2 : rtab .any (opsOf Tryz.f160 2) = pv.T2 := by kernel_rfl
theorem pv.bits2 : waitsOk pv.T2.2 pv.B2 = true := by kernel_rfl
def pv.T3 : Bool × List (List Nat × List Nat) := (true, [([], []), ([0], [0]), ([1], [1]), ([2], [2]), ([], []), ([], []), ([5], [5]), ([6], [6]), ([7], [7]), ([], []), ([8, 9], [8, 9]), ([10], [10]), ([], []), ([12], [12]), ([13], [13]), ([14], [14]), ([11, 15], [11, 15]), ([3, 4, 0, 1, 2, 3, 4, 5, 6, 7, 8, 9, 10, 11, 12, 13, 14, 15, 16], [3, 4]), ([17, 16, 16, 0, 1, 2, 3, 4, 5, 6, 7, 8, 9, 10, 11, 12, 13, 14, 15, 16], [16, 17])])
def pv.B3 : List Nat := [0, 1, 3, 7, 0, 0, 32, 96, 224, 0, 992, 2016, 0, 4096, 12288, 28672, 65504, 131071, 262143]
theorem pv.tab3 : rtab .any (opsOf Tryz.f160 3) = pv.T3 := by kernel_rfl
theorem pv.bits3 : waitsOk pv.T3.2 pv.B3 = true := by kernel_rfl
def IsPv (w0 w : World) (g : Nat) (vL vD : Value) (L : List (List Int)) (D : List Int) : Prop :=
 w.heap[g]? = some (.cells #[.int .i64 0, vL, vD] 31 (0, 0)) ∧ Kd.S (Kd.slice 3 (Kd.int .i64)) 27 w w0.heap.size (fun k_ => some k_ ≠ vD.ownBlock) vL L ∧ Kd.R (Kd.int .i64) 3 w w0.heap.size (fun _ => True) vD D ∧ Below w0.heap.size w0 w ∧ w0.heap.size ≤ g
theorem IsPv.below {w0 w w1 : World} {g : Nat} {vL vD : Value} {L : List (List Int)} {D : List Int} (h : IsPv w0 w g vL vD L D) (hb : Below w.heap.size w w1) : IsPv w0 w1 g vL vD L D :=
 ⟨blk_below h.1 hb, Kd.S_below h.2.1 hb, Kd.R_below h.2.2.1 hb, below_step h.2.2.2.1 hb, h.2.2.2.2⟩
theorem IsPv.drew {w0 w : World} {g : Nat} {vL vD : Value} {L : List (List Int)} {D : List Int} (h : IsPv w0 w g vL vD L D) : IsPv w0 w.drew g vL vD L D :=
 h.below (below_drew1 (Below.refl _ _))
def pv.Fr (g : Nat) (w w' : World) : Prop := ∀ (b : Nat) (cs : Array Value) (t : Nat), (t = 86 ∨ t = 31) → b ≠ g → w.heap[b]? = some (.cells cs t (0, 0)) → w'.heap[b]? = some (.cells cs t (0, 0))
theorem pv.Fr.trans {g : Nat} {w w1 w2 : World} (h : pv.Fr g w w1) (h2 : pv.Fr g w1 w2) : pv.Fr g w w2 := fun b cs t ht hbg hb => h2 b cs t ht hbg (h b cs t ht hbg hb)
theorem pv.Fr.below {g : Nat} {w w1 : World} (hb : Below w.heap.size w w1) : pv.Fr g w w1 := fun b cs t _ _ h => blk_below h hb
theorem pv.Fr.drew {g : Nat} {w w1 : World} (h : pv.Fr g w w1) : pv.Fr g w w1.drew := h.trans (pv.Fr.below (below_drew1 (Below.refl _ _)))
theorem pv.Fr.grown {g : Nat} {w w1 : World} {row : Option Nat} (hg : w.grownBy w1 row) (hne : ∀ (b : Nat) (cs : Array Value) (t : Nat), (t = 86 ∨ t = 31) → w.heap[b]? = some (.cells cs t (0, 0)) → some b ≠ row) : pv.Fr g w w1 := fun b cs t ht _ h => blk_grown h hg (hne b cs t ht h)
theorem pv.blk_ne {w : World} {a b : Nat} {ca cb : Array Value} {s t : Nat} (ha : w.heap[a]? = some (.cells ca s (0, 0))) (hb : w.heap[b]? = some (.cells cb t (0, 0))) (hst : s ≠ t) : a ≠ b := by
 rintro rfl
 rw [ha] at hb
 injection hb with hb
 injection hb with _ hb _
 exact hst hb
theorem pv.Fr.set {g : Nat} {w : World} {a : Nat} {ca : Array Value} {s : Nat} (ha : w.heap[a]? = some (.cells ca s (0, 0))) (h1 : 86 ≠ s) (h2 : 31 ≠ s) (i : Nat) (u : Value) : pv.Fr g w (w.setCell ⟨a, i, none⟩ u) := fun b cs t ht _ h => blk_far h (pv.blk_ne h ha (by rcases ht with rfl | rfl <;> assumption)) _
theorem pv.Fr.setG {g : Nat} {w : World} (i : Nat) (u : Value) : pv.Fr g w (w.setCell ⟨g, i, none⟩ u) := fun b cs t _ hb h => blk_far h hb _
theorem IsPv.far {w0 w : World} {g : Nat} {vL vD : Value} {L : List (List Int)} {D : List Int} (h : IsPv w0 w g vL vD L D) {a : Nat} {ca : Array Value} (ha : w.heap[a]? = some (.cells ca 86 (0, 0))) (hw : w0.heap.size ≤ a) (i : Nat) (u : Value) : IsPv w0 (w.setCell ⟨a, i, none⟩ u) g vL vD L D :=
 ⟨blk_far h.1 (pv.blk_ne h.1 ha (by decide)) _, Kd.S_mono (Kd.S_far (Kd.S_types h.2.1 ha (by decide)) (fun _ hk => hk.2) _) (fun _ hk => hk.1), Kd.R_mono (Kd.R_far (Kd.R_types h.2.2.1 ha (by decide)) (fun _ hk => hk.2) _) (fun _ _ => trivial), below_set h.2.2.2.1 hw, h.2.2.2.2⟩
set_option maxHeartbeats 8000000 in
set_option maxRecDepth 100000 in
theorem pv.leaf (w0 : World) (g : Nat) (L : List (List Int)) (D : List Int) (n : Int) (A : Option Addr) (c : Nat) (ps : List S86) (vL vD : Value) (w : World)
 (h : IsPv w0 w g vL vD L D) (hl : D.length < 17592186044416) (D' : List Int) (hD' : D' = D ++ [n]) :
 Calls Tryz.prog 160 #[.pointer (some ⟨g, 1, none⟩), .agg #[.int .i64 n, .slice A ps.length c], .int .i64 (L.length : Int)] w fun e w' => e = .returned (.tuple #[]) ∧ pv.Fr g w w' ∧ ∃ vD' : Value, IsPv w0 w' g vL vD' L D' := by
 have hu86 := Tryz.underlying86
 have hu32 := Tryz.underlying29
 obtain ⟨AL, cL, rfl⟩ := Kd.S_slice h.2.1
 obtain ⟨AD, cD, rfl⟩ := Kd.R_slice h.2.2.1
 have e0 : ((L.length : Int) == (L.length : Int)) = true := beq_self_eq_true _
 have HD := Aside0.mk hD'
 clear hD'
 go_enter Tryz.func160, Tryz.ntmps160
 try go_wp2_with (first | ((with_reducible refine gate_dst (N := 4) rfl ?_); refine box_event ?hg (N := 4) ?hd (cs := #[.int .i64 n, .slice A ps.length c]) (t := 86) ?hr ?_; (case hd => rfl); (case hg => rfl); (case hr => first | (go_simp; done) | (go_simp; rfl)); intro ga hga w4 hbox hb; have HI4 := h.below hb; have hF4 := pv.Fr.below (g := g) hb; have hne : ga ≠ g := (by have := blk_lt h.1; omega); have hwa : w0.heap.size ≤ ga := (by have := below_size h.2.2.2.1; omega); clear h hga hb; have hcg0 : w4.cell? ⟨g, 1, none⟩ = some (.slice AL L.length cL) := (blk_cell HI4.1 1).trans rfl; have hcg1 : w4.cell? ⟨g, 2, none⟩ = some (.slice AD D.length cD) := (blk_cell HI4.1 2).trans rfl; have hca0 : w4.cell? ⟨ga, 0, none⟩ = some (.int .i64 n) := (blk_cell hbox 0).trans rfl; have hca1 : w4.cell? ⟨ga, 1, none⟩ = some (.slice A ps.length c) := (blk_cell hbox 1).trans rfl))
 have HI5 := HI4.drew
 have hbox5 := blk_drew hbox
 have hF5 := hF4.drew
 clear HI4 hbox hcg0 hcg1 hca0 hca1 hF4
 refine start_ (n := 12) (S := fun w' => w'.cell? ⟨g, 2, none⟩ = some (.slice AD D.length cD) ∧ w'.cell? ⟨ga, 0, none⟩ = some (.int .i64 n)) (ds := [11]) #[false, false, false, false, false, false, false, false, false, false, false, false] (by kernel_rfl) rfl rfl ⟨(blk_cell HI5.1 2).trans rfl, (blk_cell hbox5 0).trans rfl⟩ (fun hHeld => ?_); refine with_tabW pv.tab2 pv.bits2 (fun HT_ HW_ => ?_)
 generalize w4.drew = w5 at HI5 hbox5 hF5 hHeld ⊢
 refine pure_ (i := 0) (N := some 15) (v := ?_) (a' := ?_) #[true, false, false, false, false, false, false, false, false, false, false, false] rfl rfl (any_of HT_.out (by kernel_rfl)) (fun _ _ _ h => h) (Or.inl ⟨by rfl, ?_⟩) ?_ ?_
 rotate_left
 · intro w'
   go_simp
   with_reducible rfl
 rotate_left
 · simp only [Act.put, List.setIfInBounds_toArray, List.set_cons_zero, List.set_cons_succ, i64_w, i32_w]
   rfl
 refine pure_ (i := 1) (N := some 16) (v := ?_) (a' := ?_) #[true, true, false, false, false, false, false, false, false, false, false, false] rfl rfl (any_of HT_.out (by kernel_rfl)) (fun _ _ _ h => h) (Or.inl ⟨by rfl, ?_⟩) ?_ ?_
 rotate_left
 · intro w'
   go_simp
   with_reducible rfl
 rotate_left
 · simp only [Act.put, List.setIfInBounds_toArray, List.set_cons_zero, List.set_cons_succ, i64_w, i32_w]
   rfl
 refine pure_ (i := 2) (N := some 17) (v := ?_) (a' := ?_) #[true, true, true, false, false, false, false, false, false, false, false, false] rfl rfl (any_of HT_.out (by kernel_rfl)) (fun _ _ _ h => h) (Or.inl ⟨by rfl, ?_⟩) ?_ ?_
 rotate_left
 · intro w'
   go_simp
   with_reducible rfl
 rotate_left
 · simp only [Act.put, List.setIfInBounds_toArray, List.set_cons_zero, List.set_cons_succ, i64_w, i32_w]
   rfl
 refine pure_ (i := 3) (N := some 18) (v := ?_) (a' := ?_) #[true, true, true, true, false, false, false, false, false, false, false, false] rfl rfl (any_of HT_.out (by kernel_rfl)) (fun _ _ _ h => h) (Or.inl ⟨by rfl, ?_⟩) ?_ ?_
 rotate_left
 · intro w'
   go_simp
   with_reducible rfl
 rotate_left
 · simp only [Act.put, List.setIfInBounds_toArray, List.set_cons_zero, List.set_cons_succ, i64_w, i32_w]
   rfl
 refine pure_ (i := 5) (N := some 20) (v := ?_) (a' := ?_) #[true, true, true, true, false, true, false, false, false, false, false, false] rfl rfl (any_of HT_.out (by kernel_rfl)) (fun _ _ _ h => h) (Or.inl ⟨by rfl, ?_⟩) ?_ ?_
 rotate_left
 · intro w'
   go_simp
   with_reducible rfl
 rotate_left
 · simp only [Act.put, List.setIfInBounds_toArray, List.set_cons_zero, List.set_cons_succ, i64_w, i32_w]
   rfl
 refine take_ (i := 4) (N := some 19) (v := ?_) (a' := ?_) #[true, true, true, true, true, true, false, false, false, false, false, false] rfl rfl (take_ofW HT_.out HW_.out (by kernel_rfl)) (fun _ _ _ h => h) (Or.inl ⟨by rfl, ?_⟩) hHeld ?_ ?_
 rotate_left
 · rintro w' ⟨s0, s1⟩
   go_simp
   with_reducible rfl
 rotate_left
 · simp only [Act.put, List.setIfInBounds_toArray, List.set_cons_zero, List.set_cons_succ, i64_w, i32_w]
   rfl
 refine take_ (i := 6) (N := some 21) (v := ?_) (a' := ?_) #[true, true, true, true, true, true, true, false, false, false, false, false] rfl rfl (take_ofW HT_.out HW_.out (by kernel_rfl)) (fun _ _ _ h => h) (Or.inl ⟨by rfl, ?_⟩) hHeld ?_ ?_
 rotate_left
 · rintro w' ⟨s0, s1⟩
   go_simp
   with_reducible rfl
 rotate_left
 · simp only [Act.put, List.setIfInBounds_toArray, List.set_cons_zero, List.set_cons_succ, i64_w, i32_w]
   rfl
 refine one_ (i := 7) (N := some 22) #[true, true, true, true, true, true, true, true, false, false, false, false] rfl rfl (one_of HT_.out (by kernel_rfl)) (by decide) (fun K hK => ?_)
 refine value_ (w1 := ?_) (v := ?_) (by rfl) rfl ?_ ?_
 rotate_left 2
 · go_simp
   constructor
   · rfl
   · rfl
 refine hK.out _ _ ⟨(blk_cell (blk_alloc HI5.1 _) 2).trans rfl, (blk_cell (blk_alloc hbox5 _) 0).trans rfl⟩ (fun hHeld => ?_)
 clear hK K
 refine norm_ (a' := ?_) ?_ ?_
 rotate_left
 · show Act.put _ (some 22) _ = _
   simp only [Act.put, List.setIfInBounds_toArray, List.set_cons_zero, List.set_cons_succ, i64_w, i32_w]
   rfl
 refine one_ (i := 8) (N := some 23) #[true, true, true, true, true, true, true, true, true, false, false, false] rfl rfl (one_of HT_.out (by kernel_rfl)) (by decide) (fun K hK => ?_)
 refine Kd.R_append_step (Kd.int .i64) w0.heap.size (by rfl) (.tmp 19) (.tmp 22) 27 3 (.int .i64 0) 8 rfl Tryz.underlying27 info3 rfl (by decide) (by omega) (.slice AD D.length cD) D n [.int .i64 n] (fun _ => True) (fun k_ => some k_ ≠ (.slice AD D.length cD : Value).ownBlock) rfl rfl ?aP (fun _ hk => ⟨trivial, hk⟩) (fun _ _ => trivial) HI5.2.2.1 (Below.refl _ _) (below_size HI5.2.2.2.1) (by omega) ?_
 (case aP => exact rfl)
 intro v1 w6 ho hb hg hat
 rw [← HD.out] at ho
 have hG6 := blk_grown HI5.1 hg (Kd.R_ne HI5.2.2.1 HI5.1 (by decide))
 have hA6 := blk_grown hbox5 hg (Kd.R_ne HI5.2.2.1 hbox5 (by decide))
 have hS6 := Kd.S_after (Kd.S_mono HI5.2.1 (fun k_ hk => (⟨trivial, hk⟩ : True ∧ _))) hg hat
 have hF6 := hF5.trans (pv.Fr.grown hg (fun b cs t ht h_ => Kd.R_ne HI5.2.2.1 h_ (by rcases ht with rfl | rfl <;> decide)))
 have hB6 := HI5.2.2.2.1.trans hb
 have hgw := HI5.2.2.2.2
 clear HI5 hbox5 hb hg hat
 obtain ⟨A1, c1, rfl⟩ := Kd.R_slice ho
 refine hK.out _ _ ⟨(blk_cell hG6 2).trans rfl, (blk_cell hA6 0).trans rfl⟩ (fun hHeld => ?_)
 clear hK K
 refine norm_ (a' := ?_) ?_ ?_
 rotate_left
 · show Act.put _ (some 23) _ = _
   simp only [Act.put, List.setIfInBounds_toArray, List.set_cons_zero, List.set_cons_succ, i64_w, i32_w]
   rfl
 refine pure_ (i := 9) (N := some 24) (v := ?_) (a' := ?_) #[true, true, true, true, true, true, true, true, true, true, false, false] rfl rfl (any_of HT_.out (by kernel_rfl)) (fun _ _ _ h => h) (Or.inl ⟨by rfl, ?_⟩) ?_ ?_
 rotate_left
 · intro w'
   go_simp
   with_reducible rfl
 rotate_left
 · simp only [Act.put, List.setIfInBounds_toArray, List.set_cons_zero, List.set_cons_succ, i64_w, i32_w]
   rfl
 refine pure_ (i := 10) (N := some 25) (v := ?_) (a' := ?_) #[true, true, true, true, true, true, true, true, true, true, true, false] rfl rfl (any_of HT_.out (by kernel_rfl)) (fun _ _ _ h => h) (Or.inl ⟨by rfl, ?_⟩) ?_ ?_
 rotate_left
 · intro w'
   go_simp
   with_reducible rfl
 rotate_left
 · simp only [Act.put, List.setIfInBounds_toArray, List.set_cons_zero, List.set_cons_succ, i64_w, i32_w]
   rfl
 refine last_ (i := 11) (N := none) #[true, true, true, true, true, true, true, true, true, true, true, true] rfl rfl (one_of HT_.out (by kernel_rfl)) (by decide) (fun K hK => ?_)
 have hs1 : w6.cell? ⟨g, 2, none⟩ = some (.slice AD D.length cD) := (blk_cell hG6 2).trans rfl
 have hf1 := blk_frozen hG6 2
 refine skip_ (w1 := ?_) (by rfl) rfl ?_ ?_
 rotate_left
 · go_simp
   rfl
 refine hK.out _ _ ?_
 clear hK K
 refine done_ (done_of HT_.out (by kernel_rfl)) ?_
 try go_wp2
 refine bodyPost_ret (results_none rfl _ _ _) rfl ?_
 refine ⟨rfl, hF6.trans (pv.Fr.setG _ _), _, blk_put hG6 2 _ rfl, Kd.S_mono (Kd.S_far (Kd.S_types hS6 hG6 (by decide)) (fun _ hk => hk.2) _) (fun _ hk => hk.1.2), Kd.R_mono (Kd.R_far (Kd.R_types ho hG6 (by decide)) (fun _ hk => hk.2) _) (fun _ _ => trivial), below_set hB6 hgw, hgw⟩
set_option maxHeartbeats 8000000 in
set_option maxRecDepth 100000 in
theorem pv.node (w0 : World) (g : Nat) (k : Nat) (ih : ∀ m, m ≤ k → ∀ (L : List (List Int)) (D : List Int) (n : Int) (A : Option Addr) (c : Nat) (ps : List S86) (lv : Int) (vL vD : Value) (w : World) (r1 : List (List Int)) (r2 : List Int), Kd.C k86 w0 A ps.length ps → ps.length ≤ c → IsPv w0 w g vL vD L D → pv.f m L D n ps lv = some (r1, r2) →
 Calls Tryz.prog 160 #[.pointer (some ⟨g, 1, none⟩), .agg #[.int .i64 n, .slice A ps.length c], .int .i64 lv] w fun e w' => e = .returned (.tuple #[]) ∧ pv.Fr g w w' ∧ ∃ vD' : Value, IsPv w0 w' g vL vD' r1 r2)
 (L : List (List Int)) (D : List Int) (n : Int) (A : Option Addr) (c : Nat) (ps : List S86) (j : Nat) (vL vD : Value) (w : World)
 (h : IsPv w0 w g vL vD L D) (h1 : j < L.length) (x : List Int) (hx : L.getD j [] = x) (hl : x.length < 17592186044416) (x' : List Int) (hx' : x' = x ++ [(ps.length : Int)]) (hr : Kd.C k86 w0 A ps.length ps) (hc : ps.length ≤ c) (r1 : List (List Int)) (r2 : List Int) (hrun : pv.l0 k (L.set j x') D ps (j : Int) (ps.length : Int) 0 = some (r1, r2)) :
 Calls Tryz.prog 160 #[.pointer (some ⟨g, 1, none⟩), .agg #[.int .i64 n, .slice A ps.length c], .int .i64 (j : Int)] w fun e w' => e = .returned (.tuple #[]) ∧ pv.Fr g w w' ∧ ∃ vD' : Value, IsPv w0 w' g vL vD' r1 r2 := by
 have hu86 := Tryz.underlying86
 have hu32 := Tryz.underlying29
 have hu22 := Tryz.underlying27
 have hu30 := Tryz.underlying26
 obtain ⟨bo, cL, rfl, hbb, hbl, cs, hBo⟩ := Kd.S_form h.2.1 (by omega)
 obtain ⟨AD, cD, rfl⟩ := Kd.R_slice h.2.2.1
 have e0 : ((j : Int) == (L.length : Int)) = false := beq_eq_false_iff_ne.mpr (by omega)
 have HL := Aside0.mk hx'
 clear hx'
 have HX := Aside0.mk hx
 clear hx
 have HR := Aside0.mk hr
 clear hr
 obtain ⟨L1, hL1⟩ : ∃ L1, L1 = L.set j x' := ⟨_, rfl⟩
 rw [← hL1] at hrun
 have HL1 := Aside0.mk hL1
 clear hL1
 have H' := Aside0.mk hrun
 clear hrun
 have p0 : decide (0 ≤ (j : Int)) = true := decide_eq_true (by omega)
 have p1 : decide ((j : Int) < (L.length : Int)) = true := decide_eq_true (by omega)
 go_enter Tryz.func160, Tryz.ntmps160
 try go_wp2_with (first | ((with_reducible refine gate_dst (N := 4) rfl ?_); refine box_event ?hg (N := 4) ?hd (cs := #[.int .i64 n, .slice A ps.length c]) (t := 86) ?hr ?_; (case hd => rfl); (case hg => rfl); (case hr => first | (go_simp; done) | (go_simp; rfl)); intro ga hga w4 hbox hb; have HI4 := h.below hb; have hF4 := pv.Fr.below (g := g) hb; have hne : ga ≠ g := (by have := blk_lt h.1; omega); have hwa : w0.heap.size ≤ ga := (by have := below_size h.2.2.2.1; omega); have hBo4 := blk_below hBo hb; clear h hga hb hBo; have hcg0 : w4.cell? ⟨g, 1, none⟩ = some (.slice (some ⟨bo, 0, none⟩) L.length cL) := (blk_cell HI4.1 1).trans rfl; have hcg1 : w4.cell? ⟨g, 2, none⟩ = some (.slice AD D.length cD) := (blk_cell HI4.1 2).trans rfl; have hca0 : w4.cell? ⟨ga, 0, none⟩ = some (.int .i64 n) := (blk_cell hbox 0).trans rfl; have hca1 : w4.cell? ⟨ga, 1, none⟩ = some (.slice A ps.length c) := (blk_cell hbox 1).trans rfl))
 have HI5 := HI4.drew
 have hbox5 := blk_drew hbox
 have hBo5 := blk_drew hBo4
 have hF5 := hF4.drew
 clear HI4 hbox hcg0 hcg1 hca0 hca1 hBo4 hF4
 obtain ⟨oki, ce, hcl, hM, hcc, hfr, hoki, hH⟩ := Kd.S_elem HI5.2.1 [] (j : Int) (by omega) (by omega)
 obtain ⟨ve, rfl, ge⟩ := hM
 have hce : w4.drew.cell? ⟨bo, j, none⟩ = some ve := (by have := hcc 0 ve rfl; simpa [Kd.slice] using this)
 rw [Int.toNat_natCast, HX.out] at ge
 clear hcl hcc
 obtain ⟨Ae, ce, rfl⟩ := Kd.R_slice ge
 refine start_ (n := 19) (S := fun w' => w'.cell? ⟨g, 1, none⟩ = some (.slice (some ⟨bo, 0, none⟩) L.length cL) ∧ w'.cell? ⟨ga, 1, none⟩ = some (.slice A ps.length c) ∧ w'.cell? ⟨bo, j, none⟩ = some (.slice Ae x.length ce)) (ds := [18]) #[false, false, false, false, false, false, false, false, false, false, false, false, false, false, false, false, false, false, false] (by kernel_rfl) rfl rfl ⟨(blk_cell HI5.1 1).trans rfl, (blk_cell hbox5 1).trans rfl, hce⟩ (fun hHeld => ?_); refine with_tabW pv.tab3 pv.bits3 (fun HT_ HW_ => ?_)
 generalize w4.drew = w5 at HI5 hbox5 hBo5 hF5 ge hfr hH hce hHeld ⊢
 refine pure_ (i := 0) (N := some 26) (v := ?_) (a' := ?_) #[true, false, false, false, false, false, false, false, false, false, false, false, false, false, false, false, false, false, false] rfl rfl (any_of HT_.out (by kernel_rfl)) (fun _ _ _ h => h) (Or.inl ⟨by rfl, ?_⟩) ?_ ?_
 rotate_left
 · intro w'
   go_simp
   with_reducible rfl
 rotate_left
 · simp only [Act.put, List.setIfInBounds_toArray, List.set_cons_zero, List.set_cons_succ, i64_w, i32_w]
   rfl
 refine pure_ (i := 1) (N := some 27) (v := ?_) (a' := ?_) #[true, true, false, false, false, false, false, false, false, false, false, false, false, false, false, false, false, false, false] rfl rfl (any_of HT_.out (by kernel_rfl)) (fun _ _ _ h => h) (Or.inl ⟨by rfl, ?_⟩) ?_ ?_
 rotate_left
 · intro w'
   go_simp
   with_reducible rfl
 rotate_left
 · simp only [Act.put, List.setIfInBounds_toArray, List.set_cons_zero, List.set_cons_succ, i64_w, i32_w]
   rfl
 refine pure_ (i := 2) (N := some 28) (v := ?_) (a' := ?_) #[true, true, true, false, false, false, false, false, false, false, false, false, false, false, false, false, false, false, false] rfl rfl (any_of HT_.out (by kernel_rfl)) (fun _ _ _ h => h) (Or.inl ⟨by rfl, ?_⟩) ?_ ?_
 rotate_left
 · intro w'
   go_simp
   with_reducible rfl
 rotate_left
 · simp only [Act.put, List.setIfInBounds_toArray, List.set_cons_zero, List.set_cons_succ, i64_w, i32_w]
   rfl
 refine pure_ (i := 4) (N := some 30) (v := ?_) (a' := ?_) #[true, true, true, false, true, false, false, false, false, false, false, false, false, false, false, false, false, false, false] rfl rfl (any_of HT_.out (by kernel_rfl)) (fun _ _ _ h => h) (Or.inl ⟨by rfl, ?_⟩) ?_ ?_
 rotate_left
 · intro w'
   go_simp
   with_reducible rfl
 rotate_left
 · simp only [Act.put, List.setIfInBounds_toArray, List.set_cons_zero, List.set_cons_succ, i64_w, i32_w]
   rfl
 refine pure_ (i := 5) (N := some 31) (v := ?_) (a' := ?_) #[true, true, true, false, true, true, false, false, false, false, false, false, false, false, false, false, false, false, false] rfl rfl (any_of HT_.out (by kernel_rfl)) (fun _ _ _ h => h) (Or.inl ⟨by rfl, ?_⟩) ?_ ?_
 rotate_left
 · intro w'
   go_simp
   with_reducible rfl
 rotate_left
 · simp only [Act.put, List.setIfInBounds_toArray, List.set_cons_zero, List.set_cons_succ, i64_w, i32_w]
   rfl
 refine pure_ (i := 6) (N := some 32) (v := ?_) (a' := ?_) #[true, true, true, false, true, true, true, false, false, false, false, false, false, false, false, false, false, false, false] rfl rfl (any_of HT_.out (by kernel_rfl)) (fun _ _ _ h => h) (Or.inl ⟨by rfl, ?_⟩) ?_ ?_
 rotate_left
 · intro w'
   go_simp
   with_reducible rfl
 rotate_left
 · simp only [Act.put, List.setIfInBounds_toArray, List.set_cons_zero, List.set_cons_succ, i64_w, i32_w]
   rfl
 refine pure_ (i := 7) (N := some 33) (v := ?_) (a' := ?_) #[true, true, true, false, true, true, true, true, false, false, false, false, false, false, false, false, false, false, false] rfl rfl (any_of HT_.out (by kernel_rfl)) (fun _ _ _ h => h) (Or.inl ⟨by rfl, ?_⟩) ?_ ?_
 rotate_left
 · intro w'
   go_simp
   with_reducible rfl
 rotate_left
 · simp only [Act.put, List.setIfInBounds_toArray, List.set_cons_zero, List.set_cons_succ, i64_w, i32_w]
   rfl
 refine pure_ (i := 9) (N := some 35) (v := ?_) (a' := ?_) #[true, true, true, false, true, true, true, true, false, true, false, false, false, false, false, false, false, false, false] rfl rfl (any_of HT_.out (by kernel_rfl)) (fun _ _ _ h => h) (Or.inl ⟨by rfl, ?_⟩) ?_ ?_
 rotate_left
 · intro w'
   go_simp
   with_reducible rfl
 rotate_left
 · simp only [Act.put, List.setIfInBounds_toArray, List.set_cons_zero, List.set_cons_succ, i64_w, i32_w]
   rfl
 refine pure_ (i := 12) (N := some 38) (v := ?_) (a' := ?_) #[true, true, true, false, true, true, true, true, false, true, false, false, true, false, false, false, false, false, false] rfl rfl (any_of HT_.out (by kernel_rfl)) (fun _ _ _ h => h) (Or.inl ⟨by rfl, ?_⟩) ?_ ?_
 rotate_left
 · intro w'
   go_simp
   with_reducible rfl
 rotate_left
 · simp only [Act.put, List.setIfInBounds_toArray, List.set_cons_zero, List.set_cons_succ, i64_w, i32_w]
   rfl
 refine take_ (i := 3) (N := some 29) (v := ?_) (a' := ?_) #[true, true, true, true, true, true, true, true, false, true, false, false, true, false, false, false, false, false, false] rfl rfl (take_ofW HT_.out HW_.out (by kernel_rfl)) (fun _ _ _ h => h) (Or.inl ⟨by rfl, ?_⟩) hHeld ?_ ?_
 rotate_left
 · rintro w' ⟨s0, s1, s2⟩
   go_simp
   with_reducible rfl
 rotate_left
 · simp only [Act.put, List.setIfInBounds_toArray, List.set_cons_zero, List.set_cons_succ, i64_w, i32_w]
   rfl
 refine take_ (i := 8) (N := some 34) (v := ?_) (a' := ?_) #[true, true, true, true, true, true, true, true, true, true, false, false, true, false, false, false, false, false, false] rfl rfl (take_ofW HT_.out HW_.out (by kernel_rfl)) (fun _ _ _ h => h) (Or.inl ⟨by rfl, ?_⟩) hHeld ?_ ?_
 rotate_left
 · rintro w' ⟨s0, s1, s2⟩
   go_simp
   with_reducible rfl
 rotate_left
 · simp only [Act.put, List.setIfInBounds_toArray, List.set_cons_zero, List.set_cons_succ, i64_w, i32_w]
   rfl
 refine take_ (i := 13) (N := some 39) (v := ?_) (a' := ?_) #[true, true, true, true, true, true, true, true, true, true, false, false, true, true, false, false, false, false, false] rfl rfl (take_ofW HT_.out HW_.out (by kernel_rfl)) (fun _ _ _ h => h) (Or.inl ⟨by rfl, ?_⟩) hHeld ?_ ?_
 rotate_left
 · rintro w' ⟨s0, s1, s2⟩
   go_simp
   with_reducible rfl
 rotate_left
 · simp only [Act.put, List.setIfInBounds_toArray, List.set_cons_zero, List.set_cons_succ, i64_w, i32_w]
   rfl
 refine pure_ (i := 14) (N := some 40) (v := ?_) (a' := ?_) #[true, true, true, true, true, true, true, true, true, true, false, false, true, true, true, false, false, false, false] rfl rfl (any_of HT_.out (by kernel_rfl)) (fun _ _ _ h => h) (Or.inl ⟨by rfl, ?_⟩) ?_ ?_
 rotate_left
 · intro w'
   go_simp
   with_reducible rfl
 rotate_left
 · simp only [Act.put, List.setIfInBounds_toArray, List.set_cons_zero, List.set_cons_succ, i64_w, i32_w]
   rfl
 refine pure_ (i := 10) (N := some 36) (v := ?_) (a' := ?_) #[true, true, true, true, true, true, true, true, true, true, true, false, true, true, true, false, false, false, false] rfl rfl (any_of HT_.out (by kernel_rfl)) (fun _ _ _ h => h) (Or.inl ⟨by rfl, ?_⟩) ?_ ?_
 rotate_left
 · intro w'
   go_simp
   with_reducible rfl
 rotate_left
 · simp only [Act.put, List.setIfInBounds_toArray, List.set_cons_zero, List.set_cons_succ, i64_w, i32_w]
   rfl
 refine take_ (i := 11) (N := some 37) (v := ?_) (a' := ?_) #[true, true, true, true, true, true, true, true, true, true, true, true, true, true, true, false, false, false, false] rfl rfl (take_ofW HT_.out HW_.out (by kernel_rfl)) (fun _ _ _ h => h) (Or.inl ⟨by rfl, ?_⟩) hHeld ?_ ?_
 rotate_left
 · rintro w' ⟨s0, s1, s2⟩
   go_simp
   with_reducible rfl
 rotate_left
 · simp only [Act.put, List.setIfInBounds_toArray, List.set_cons_zero, List.set_cons_succ, i64_w, i32_w]
   rfl
 refine one_ (i := 15) (N := some 41) #[true, true, true, true, true, true, true, true, true, true, true, true, true, true, true, true, false, false, false] rfl rfl (one_of HT_.out (by kernel_rfl)) (by decide) (fun K hK => ?_)
 refine value_ (w1 := ?_) (v := ?_) (by rfl) rfl ?_ ?_
 rotate_left 2
 · go_simp
   constructor
   · rfl
   · rfl
 refine hK.out _ _ ⟨(blk_cell (blk_alloc HI5.1 _) 1).trans rfl, (blk_cell (blk_alloc hbox5 _) 1).trans rfl, ((below_alloc (Below.refl _ w5) _).cell (World.block_lt_of_cell? _ _ hce)).trans hce⟩ (fun hHeld => ?_)
 clear hK K
 refine norm_ (a' := ?_) ?_ ?_
 rotate_left
 · show Act.put _ (some 41) _ = _
   simp only [Act.put, List.setIfInBounds_toArray, List.set_cons_zero, List.set_cons_succ, i64_w, i32_w]
   rfl
 refine one_ (i := 16) (N := some 42) #[true, true, true, true, true, true, true, true, true, true, true, true, true, true, true, true, true, false, false] rfl rfl (one_of HT_.out (by kernel_rfl)) (by decide) (fun K hK => ?_)
 have hvD := Kd.R_lt HI5.2.2.1
 refine Kd.R_append_step (Kd.int .i64) w0.heap.size (by rfl) (.tmp 37) (.tmp 41) 27 3 (.int .i64 0) 8 rfl Tryz.underlying27 info3 rfl (by decide) (by omega) (.slice Ae x.length ce) x (ps.length : Int) [.int .i64 (ps.length : Int)] (fun k_ => oki k_ ∨ (some k_ ≠ (.slice AD D.length cD : Value).ownBlock ∧ w5.heap.size ≤ k_)) (fun k_ => (oki k_ ∨ (some k_ ≠ (.slice AD D.length cD : Value).ownBlock ∧ w5.heap.size ≤ k_)) ∧ some k_ ≠ (.slice Ae x.length ce : Value).ownBlock) rfl rfl ?aP (fun _ hk => hk) (fun k_ hk => .inr ⟨fun e_ => Nat.lt_irrefl _ (Nat.lt_of_lt_of_le (hvD k_ e_.symm) hk), hk⟩) (Kd.R_mono ge (fun _ hk => .inl hk)) (Below.refl _ _) (below_size HI5.2.2.2.1) (by omega) ?_
 (case aP => exact rfl)
 intro v1 w6 ho hb hg hat
 rw [← HL.out] at ho
 have hG6 := blk_grown HI5.1 hg (Kd.R_ne ge HI5.1 (by decide))
 have hA6 := blk_grown hbox5 hg (Kd.R_ne ge hbox5 (by decide))
 have hBo6 := blk_grown hBo5 hg (Kd.R_ne ge hBo5 (by decide))
 have hce6 : w6.cell? ⟨bo, j, none⟩ = some (.slice Ae x.length ce) := cell_grown hg hce (Kd.R_ne ge hBo5 (by decide))
 have hH6 := Kd.H_grown (Kd.H_widen hH) hg (fun k_ hk => .inl (ge.1 k_ hk))
 have hD6 := Kd.R_grown2 HI5.2.2.1 rfl hg (fun k_ hk => (hoki k_ (ge.1 k_ hk)).1)
 have hF6 := hF5.trans (pv.Fr.grown hg (fun b cs t ht h_ => Kd.R_ne ge h_ (by rcases ht with rfl | rfl <;> decide)))
 have hB6 := HI5.2.2.2.1.trans hb
 have hgw := HI5.2.2.2.2
 clear HI5 hbox5 hBo5 hb hg hat hH hce ge hvD hF5
 obtain ⟨A1, c1, rfl⟩ := Kd.R_slice ho
 refine hK.out _ _ ⟨(blk_cell hG6 1).trans rfl, (blk_cell hA6 1).trans rfl, hce6⟩ (fun hHeld => ?_)
 clear hK K
 refine norm_ (a' := ?_) ?_ ?_
 rotate_left
 · show Act.put _ (some 42) _ = _
   simp only [Act.put, List.setIfInBounds_toArray, List.set_cons_zero, List.set_cons_succ, i64_w, i32_w]
   rfl
 refine pure_ (i := 17) (N := some 43) (v := ?_) (a' := ?_) #[true, true, true, true, true, true, true, true, true, true, true, true, true, true, true, true, true, true, false] rfl rfl (any_of HT_.out (by kernel_rfl)) (fun _ _ _ h => h) (Or.inl ⟨by rfl, ?_⟩) ?_ ?_
 rotate_left
 · intro w'
   go_simp
   with_reducible rfl
 rotate_left
 · simp only [Act.put, List.setIfInBounds_toArray, List.set_cons_zero, List.set_cons_succ, i64_w, i32_w]
   rfl
 refine last_ (i := 18) (N := none) #[true, true, true, true, true, true, true, true, true, true, true, true, true, true, true, true, true, true, true] rfl rfl (one_of HT_.out (by kernel_rfl)) (by decide) (fun K hK => ?_)
 have hf1 : w6.frozen? ⟨bo, j, none⟩ = false := blk_frozen hBo6 j
 refine skip_ (w1 := ?_) (by rfl) rfl ?_ ?_
 rotate_left
 · go_simp
   rfl
 refine hK.out _ _ ?_
 clear hK K
 refine done_ (done_of HT_.out (by kernel_rfl)) ?_
 have hH7 := (Kd.H_seg hH6 (by omega) (by omega) (seg := [.slice A1 x'.length c1]) (j := 0) (Nat.le_refl 1) (by simp [Value.oneCell'])).1
 have hR7 := Kd.R_far (p := ⟨bo, j, none⟩) (Kd.R_types ho hBo6 (by decide)) (fun _ hk => hk.2) (.slice A1 x'.length c1)
 rw [show w6.setCells bo ((j : Int).toNat * (Kd.slice 3 (Kd.int .i64)).sz + 0) [.slice A1 x'.length c1] = w6.setCell ⟨bo, j, none⟩ (.slice A1 x'.length c1) by rw [Int.toNat_natCast]; show w6.setCells bo (j * 1 + 0) [_] = _; rw [Nat.mul_one]; rfl] at hH7
 have hS7 := Kd.H_back (x' := x') hH7 ⟨_, rfl, hR7⟩ (fun _ hk => hk.1)
 rw [Int.toNat_natCast, ← HL1.out] at hS7
 have HI7 : IsPv w0 (w6.setCell ⟨bo, j, none⟩ (.slice A1 x'.length c1)) g (.slice (some ⟨bo, 0, none⟩) L.length cL) (.slice AD D.length cD) L1 D := ⟨blk_far hG6 (pv.blk_ne hG6 hBo6 (by decide)) _, hS7, Kd.R_mono (Kd.R_far (Kd.R_types hD6 hBo6 (by decide)) (fun _ hk => hk.2) _) (fun _ _ => trivial), below_set hB6 hbb, hgw⟩
 have hA7 := blk_far (p := ⟨bo, j, none⟩) hA6 (pv.blk_ne hA6 hBo6 (by decide)) (.slice A1 x'.length c1)
 have hF7 := hF6.trans (pv.Fr.set hBo6 (by decide) (by decide) j (.slice A1 x'.length c1))
 generalize w6.setCell ⟨bo, j, none⟩ (.slice A1 x'.length c1) = w7 at HI7 hA7 hF7 ⊢
 clear hH6 hH7 hR7 hS7 hG6 hA6 hBo6 hce6 hD6 hB6 hf1 hHeld ho hoki hF6
 have hca1 : w7.cell? ⟨ga, 1, none⟩ = some (.slice A ps.length c) := (blk_cell hA7 1).trans rfl
 have HI7 := Aside0.mk HI7
 try go_wp2
 go_loopg [47] k (fun kq v47 w' => ∃ (L2 : List (List Int)) (D2 : List Int) (vD2 : Value) (i_ : Int), v47 = .int .i64 i_ ∧ Aside0 (pv.l0 kq L2 D2 ps (j : Int) (ps.length : Int) i_ = some (r1, r2)) ∧ Aside0 (kq ≤ k) ∧ Aside0 (IsPv w0 w' g (.slice (some ⟨bo, 0, none⟩) L.length cL) vD2 L2 D2) ∧ Aside0 (w'.heap[ga]? = some (.cells #[.int .i64 n, .slice A ps.length c] 86 (0, 0))) ∧ Aside0 (pv.Fr g w w'))
 case atStart => exact ⟨L1, D, _, 0, (by first | rfl | (simp; done)), H', ⟨Nat.le_refl _⟩, HI7, ⟨hA7⟩, ⟨hF7⟩⟩
 case round =>
  clear H' HI7 hA7 hF7 hca1
  obtain ⟨L2, D2, vD2, i_, rfl, HA, HK1, HI8, HA8, HF8⟩ := hrel
  cases gk with
  | zero => exact absurd HA.out (by simp [pv.l0])
  | succ k1 =>
   have H := HA.out
   clear HA
   simp only [pv.l0] at H
   by_cases c1_ : i_ < (ps.length : Int)
   · rw [if_pos c1_] at H
     have b1 : decide (i_ < (ps.length : Int)) = true := decide_eq_true c1_
     by_cases c2_ : 0 ≤ i_
     · rw [if_pos c2_, if_pos c1_] at H
       have b2 : decide (0 ≤ i_) = true := decide_eq_true c2_
       replace H := Option.bind_eq_some_iff.mp H
       obtain ⟨⟨L3, D3⟩, hA, H⟩ := H
       have A15 := Aside0.mk hA
       have H' := Aside0.mk H
       clear hA H
       obtain ⟨ad, A3, c3, e3, hx0, hx1, hl3, hi3⟩ := at_T86 HR.out i_ c2_ c1_
       cases e3
       replace hx0 := (HI8.out.2.2.2.1.cell (World.block_lt_of_cell? w0 _ hx0)).trans hx0
       replace hx1 := (HI8.out.2.2.2.1.cell (World.block_lt_of_cell? w0 _ hx1)).trans hx1
       have HR3 := Aside0.mk hi3
       have HC3 := Aside0.mk hl3
       clear hi3 hl3
       replace c2_ := eq_true c2_
       replace c1_ := eq_true c1_
       go_wp2_with (first | ((with_reducible refine gate_dst (N := 7) rfl ?_); refine box_event ?hg (N := 7) ?hd (cs := #[.int .i64 0, .slice none 0 0]) (t := 86) ?hr ?_; (case hd => rfl); (case hg => rfl); (case hr => first | (go_simp; done) | (go_simp; rfl)); intro gb hgb w17 hbox hb; have HI17 := Aside0.mk (HI8.out.below hb); have HA17 := Aside0.mk (blk_below HA8.out hb); have HF17 := Aside0.mk (HF8.out.trans (pv.Fr.below hb)); have HGW := Aside0.mk (show w0.heap.size ≤ gb from (by have := below_size HI8.out.2.2.2.1; omega)); have HN := Aside0.mk (show ∀ (b : Nat) (cs : Array Value) (t : Nat), (t = 86 ∨ t = 31) → b ≠ g → w.heap[b]? = some (.cells cs t (0, 0)) → b ≠ gb from fun b cs t ht hbg h_ => (by have := blk_lt (HF8.out b cs t ht hbg h_); omega)); have HNA := Aside0.mk (show ga ≠ gb from (by have := blk_lt HA8.out; omega)); clear hb hgb HI8 HA8 HF8; have hcz0 : w17.cell? ⟨gb, 0, none⟩ = some (.int .i64 0) := (blk_cell hbox 0).trans rfl; have hcz1 : w17.cell? ⟨gb, 1, none⟩ = some (.slice none 0 0) := (blk_cell hbox 1).trans rfl; have hfz0 := blk_frozen hbox 0; have hfz1 := blk_frozen hbox 1; have HBK := Aside0.mk hbox; clear hbox) | ((with_reducible refine gate_callee (f := 160) rfl ?_); refine goesL_ (some 55) rfl rfl Tryz.func160 (by kernel_rfl) rfl #[.pointer (some ⟨g, 1, none⟩), .agg #[.int .i64 ((rd_T86 ps i_).f0), .slice A3 ((rd_T86 ps i_).f1).length c3], .int .i64 (wrap64 ((j : Int) + 1))] rfl (by (try simp only [List.map_toArray, List.map_cons, List.map_nil]); first | done | rfl) ?_; (with_reducible refine (ih k1 (by have := HK1.out; omega) L2 D2 ((rd_T86 ps i_).f0) A3 c3 ((rd_T86 ps i_).f1) (wrap64 ((j : Int) + 1)) (.slice (some ⟨bo, 0, none⟩) L.length cL) vD2 _ L3 D3 HR3.out HC3.out ?side1 A15.out).mono ?_); (case side1 => exact (HI17.out.far HBK.out HGW.out 0 _).far (blk_put HBK.out 0 _ rfl) HGW.out 1 _); rintro e w20 ⟨rfl, hF, vD3, hI⟩; refine ⟨_, rfl, ?_⟩; have HI9 := Aside0.mk hI; have HA9 := Aside0.mk (hF ga _ 86 (.inl rfl) hne (blk_far (p := ⟨gb, 1, none⟩) (blk_far (p := ⟨gb, 0, none⟩) HA17.out HNA.out _) HNA.out _)); have HF9 := Aside0.mk (show pv.Fr g w w20 from fun b cs t ht hbg h_ => hF b cs t ht hbg (blk_far (p := ⟨gb, 1, none⟩) (blk_far (p := ⟨gb, 0, none⟩) (HF17.out b cs t ht hbg h_) (HN.out b cs t ht hbg h_) _) (HN.out b cs t ht hbg h_) _)); clear HI17 HA17 HF17 HBK hF hI))
       go_roundg k1
       case measure => have := HK1.out; omega
       case rel => exact ⟨L3, D3, vD3, wrap64 (i_ + 1), (by first | rfl | (simp; done)), H', ⟨by have := HK1.out; omega⟩, HI9, HA9, HF9⟩
     · rw [if_neg c2_] at H
       exact absurd H (by simp)
   · rw [if_neg c1_] at H
     have b1 : decide (i_ < (ps.length : Int)) = false := decide_eq_false c1_
     clear c1_
     simp only [Option.some.injEq, Prod.mk.injEq] at H
     obtain ⟨rfl, rfl⟩ := H
     go_wp2
     (try simp only [Exit.inBlock, Exit.then])
     refine bodyPost_end (results_none rfl _ _ _) rfl ?_
     exact ⟨rfl, HF8.out, _, HI8.out⟩
theorem pv.calls (w0 : World) (g : Nat) (k : Nat) : ∀ (L : List (List Int)) (D : List Int) (n : Int) (A : Option Addr) (c : Nat) (ps : List S86) (lv : Int) (vL vD : Value) (w : World) (r1 : List (List Int)) (r2 : List Int), Kd.C k86 w0 A ps.length ps → ps.length ≤ c → IsPv w0 w g vL vD L D → pv.f k L D n ps lv = some (r1, r2) →
 Calls Tryz.prog 160 #[.pointer (some ⟨g, 1, none⟩), .agg #[.int .i64 n, .slice A ps.length c], .int .i64 lv] w fun e w' => e = .returned (.tuple #[]) ∧ pv.Fr g w w' ∧ ∃ vD' : Value, IsPv w0 w' g vL vD' r1 r2 := by
 induction k using Nat.strongRecOn with
 | _ k ihk =>
 intro L D n A c ps lv vL vD w r1 r2 hr hc hI h
 cases k with
 | zero => exact absurd h (by simp [pv.f])
 | succ k =>
 simp only [pv.f] at h
 by_cases c1 : lv = (L.length : Int)
 · rw [if_pos c1] at h
   subst c1
   by_cases c2 : D.length < 17592186044416
   · rw [if_pos c2] at h
     simp only [Option.some.injEq, Prod.mk.injEq] at h
     obtain ⟨rfl, rfl⟩ := h
     exact pv.leaf w0 g L D n A c ps vL vD w hI c2 _ rfl
   · rw [if_neg c2] at h; cases h
 · rw [if_neg c1] at h
   by_cases c2 : 0 ≤ lv
   · rw [if_pos c2] at h
     by_cases c3 : lv < (L.length : Int)
     · rw [if_pos c3] at h
       by_cases c4 : (L.getD lv.toNat []).length < 17592186044416
       · rw [if_pos c4] at h
         obtain ⟨j, rfl⟩ : ∃ j : Nat, lv = (j : Int) := ⟨lv.toNat, by omega⟩
         rw [Int.toNat_natCast] at h c4
         exact pv.node w0 g k (fun m hm => ihk m (by omega)) L D n A c ps j vL vD w hI (by omega) _ rfl c4 _ rfl hr hc r1 r2 h
       · rw [if_neg c4] at h; cases h
     · rw [if_neg c3] at h; cases h
   · rw [if_neg c2] at h; cases h
end Go.Proofs.YtjkngiciigdheaaGreatDoor.K
