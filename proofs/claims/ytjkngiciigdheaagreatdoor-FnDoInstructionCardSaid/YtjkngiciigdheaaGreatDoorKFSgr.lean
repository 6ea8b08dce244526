/- A part of the claim. -/
import Derived.Test.YtjkngiciigdheaaGreatDoorKFSkd
import Derived.Test.YtjkngiciigdheaaGreatDoorKFSgc
import Derived.WalkKit
import Derived.ProofKit
import Derived.Deep.LoopGhost
import Derived.Lib.Walk
import Derived.Lib.SliceRun
import Derived.BigRegion
import Derived.RegionCalls
import Derived.Deep.RegionWith
import Derived.Deep.RegionLaw
import Derived.Deep.QuietTactic
import Derived.Below
namespace Go.Proofs.YtjkngiciigdheaaGreatDoor.K
open Go.RowKit Go.Proofs.YtjkngiciigdheaaGreatDoorW.St Go.Proofs.YtjkngiciigdheaaGreatDoorW.PrintWords Go.Proofs.YtjkngiciigdheaaGreatDoorW.PrintLast Go.Proofs.YtjkngiciigdheaaGreatDoorW.PrintMore
set_option linter.unusedVariables false
set_option linter.unusedSimpArgs false
theorem repF_get {sz : Nat} {w : World} {ro : Nat → Prop} : ∀ {xs : List (List AV)} {us : List Value} {j : Nat} {x : List AV}, repF w ro sz xs us → xs[j]? = some x → x.length = sz ∧ repL w ro x ((us.drop (j * sz)).take sz)
 | [], us, j, x, h, hj => by simp at hj
 | y :: ys, us, 0, x, h, hj => by
  obtain ⟨c, r, rfl, h1, h2, h3⟩ := h
  obtain rfl : y = x := by simpa using hj
  refine ⟨h1, ?_⟩
  rw [Nat.zero_mul, List.drop_zero, List.take_append_of_le_length (by rw [repL_len h2]; omega), List.take_of_length_le (by rw [repL_len h2]; omega)]
  exact h2
 | y :: ys, us, j + 1, x, h, hj => by
  obtain ⟨c, r, rfl, h1, h2, h3⟩ := h
  obtain ⟨h4, h5⟩ := repF_get h3 (by simpa using hj)
  refine ⟨h4, ?_⟩
  have hc := repL_len h2
  rw [show (j + 1) * sz = c.length + j * sz by rw [hc, h1, Nat.add_mul, Nat.one_mul, Nat.add_comm], List.drop_append, List.drop_of_length_le (by omega), Nat.add_sub_cancel_left, List.nil_append]
  exact h5
def RvW (w wr : World) (g : Nat) : Prop := wr.os = w.os ∧ wr.tape = w.tape ∧ wr.output = w.output ∧ wr.heap.size = w.heap.size ∧ ∀ k, k ≠ g → wr.heap[k]? = w.heap[k]?
theorem RvW.refl (w : World) (g : Nat) : RvW w w g := ⟨rfl, rfl, rfl, rfl, fun _ _ => rfl⟩
theorem RvW.set {w wr : World} {g : Nat} (h : RvW w wr g) (o : Nat) (v : Value) : RvW w (wr.setCell ⟨g, o, none⟩ v) g :=
 ⟨h.1, h.2.1, h.2.2.1, by rw [← h.2.2.2.1]; simp [World.setCell], fun k hk => (Below.heap_setCell wr ⟨g, o, none⟩ v k (by simpa using hk)).trans (h.2.2.2.2 k hk)⟩
theorem RvW.drew {w wr : World} {g : Nat} (h : RvW w wr g) : RvW w wr.drew g := h
def rvAt (cur : Array Value) (n i : Nat) (c : Array Value) : Prop := c.size = cur.size ∧ ∀ p q, p < n → q < 2 → c[p * 2 + q]? = cur[(if p < i ∨ n ≤ p + i then n - 1 - p else p) * 2 + q]?
theorem rvAt.step {cur c : Array Value} {n i j : Nat} (h : rvAt cur n i c) (hs : n * 2 ≤ cur.size) (hn : n = j + 1 + i) (hij : i < j) {x0 x1 y0 y1 : Value} (e0 : c[i * 2]? = some x0) (e1 : c[i * 2 + 1]? = some x1) (e2 : c[j * 2]? = some y0) (e3 : c[j * 2 + 1]? = some y1) :
 rvAt cur n (i + 1) ((((c.setIfInBounds (i * 2) y0).setIfInBounds (i * 2 + 1) y1).setIfInBounds (j * 2) x0).setIfInBounds (j * 2 + 1) x1) := by
 obtain ⟨h1, h2⟩ := h
 refine ⟨by simp [h1], fun p q hp hq => ?_⟩
 have hsz : c.size = cur.size := h1
 by_cases hpi : p = i
 · subst hpi
   have e := h2 j q (by omega) hq
   rw [if_neg (by omega)] at e
   rw [if_pos (Or.inl (by omega)), show n - 1 - p = j by omega, ← e]
   match q, hq with
   | 0, _ =>
    simp only [Array.getElem?_setIfInBounds, Array.size_setIfInBounds, Nat.add_zero]
    rw [if_neg (by omega), if_neg (by omega), if_neg (by omega), if_pos trivial, if_pos (by omega)]
    exact e2.symm
   | 1, _ =>
    simp only [Array.getElem?_setIfInBounds, Array.size_setIfInBounds]
    rw [if_neg (by omega), if_neg (by omega), if_pos trivial, if_pos (by omega)]
    exact e3.symm
 · by_cases hpj : p = j
   · subst hpj
     have e := h2 i q (by omega) hq
     rw [if_neg (by omega)] at e
     rw [if_pos (Or.inr (by omega)), show n - 1 - p = i by omega, ← e]
     match q, hq with
     | 0, _ =>
      simp only [Array.getElem?_setIfInBounds, Array.size_setIfInBounds, Nat.add_zero]
      rw [if_neg (by omega), if_pos trivial, if_pos (by omega)]
      exact e0.symm
     | 1, _ =>
      simp only [Array.getElem?_setIfInBounds, Array.size_setIfInBounds]
      rw [if_pos trivial, if_pos (by omega)]
      exact e1.symm
   · have e := h2 p q hp hq
     simp only [Array.getElem?_setIfInBounds]
     rw [if_neg (by omega), if_neg (by omega), if_neg (by omega), if_neg (by omega), e]
     by_cases h3 : p < i ∨ n ≤ p + i
     · rw [if_pos h3, if_pos (by omega)]
     · rw [if_neg h3, if_neg (by omega)]
def Shp (n : Nat) (cur : Array Value) : Prop := ∀ p, p < n → ∃ a A l k, cur[p * 2]? = some (.int .i64 a) ∧ cur[p * 2 + 1]? = some (.slice A l k)
theorem rvAt.shp {cur c : Array Value} {n i : Nat} (h : rvAt cur n i c) (hS : Shp n cur) : Shp n c := fun p hp => by
 have e0 := h.2 p 0 hp (by omega)
 have e1 := h.2 p 1 hp (by omega)
 simp only [Nat.add_zero] at e0
 rw [e0, e1]
 refine hS _ ?_
 split <;> omega
set_option maxHeartbeats 1600000 in
set_option maxRecDepth 1000000 in
theorem rev_walk (w : World) (g n cap : Nat) (cur : Array Value) (hb : w.heap[g]? = some (.cells cur 70 (0, 0))) (hn : n ≤ cap) (hc : cap ≤ maxLen) (hs : cur.size = cap * 2) (hS : Shp n cur) :
 Calls Tryz.prog 73 #[.slice (some ⟨g, 0, none⟩) n cap] w fun e w' => e = .returned (.tuple #[]) ∧ RvW w w' g ∧ ∃ c i, w'.heap[g]? = some (.cells c 70 (0, 0)) ∧ rvAt cur n i c ∧ n ≤ i + i + 1 ∧ i + i ≤ n + 1 := by
 have A0 : Aside (Shp n cur) := hS
 have A1 : Aside (w.heap[g]? = some (.cells cur 70 (0, 0))) := hb
 clear hS hb
 go_enter Tryz.func73, Tryz.ntmps73
 go_wp2
 go_loopg [2, 3] n (fun k s2 s3 wr => ∃ (i : Nat) (jz : Int) (c : Array Value), s2 = .int .i64 i ∧ s3 = .int .i64 jz ∧ (jz = wrap64 ((n : Int) - 1) - i) ∧ i + i ≤ n + 1 ∧ n - (i + i) ≤ k ∧ Aside (rvAt cur n i c) ∧ Aside (wr.heap[g]? = some (.cells c 70 (0, 0))) ∧ Aside (RvW w wr g))
 case atStart => exact ⟨0, wrap64 ((n : Int) - 1), cur, rfl, rfl, by omega, by omega, by omega, ⟨rfl, fun p q hp hq => by rw [if_neg (by omega)]⟩, A1.out, RvW.refl w g⟩
 case round =>
  obtain ⟨i, jz, c, rfl, rfl, h1, h2, h3, h4, h5, h6⟩ := hrel
  have hN : n ≤ 9223372036854775807 := by simp only [maxLen] at hc; omega
  have e0 : wrap64 ((n : Int) - 1) = (n : Int) - 1 := by unfold wrap64; omega
  rw [e0] at h1
  by_cases hlt : (i : Int) < jz
  · obtain ⟨j, hj, hn1⟩ : ∃ j : Nat, jz = (j : Int) ∧ n = j + 1 + i := ⟨jz.toNat, by omega, by omega⟩
    clear h1
    subst hj
    obtain ⟨a1, B1, l1, k1, d1, d2⟩ := h4.out.shp A0.out i (by omega)
    obtain ⟨a2, B2, l2, k2, d3, d4⟩ := h4.out.shp A0.out j (by omega)
    have hstep := h4.out.step (by rw [hs]; exact Nat.mul_le_mul_right _ hn) hn1 (by omega) d1 d2 d3 d4
    have c1 : wr.cell? ⟨g, i * 2, none⟩ = some (.int .i64 a1) := (blk_cell h5.out _).trans d1
    have c2 : wr.cell? ⟨g, i * 2 + 1, none⟩ = some (.slice B1 l1 k1) := (blk_cell h5.out _).trans d2
    have c3 : wr.cell? ⟨g, j * 2, none⟩ = some (.int .i64 a2) := (blk_cell h5.out _).trans d3
    have c4 : wr.cell? ⟨g, j * 2 + 1, none⟩ = some (.slice B2 l2 k2) := (blk_cell h5.out _).trans d4
    have f1 : wr.frozen? ⟨g, i * 2, none⟩ = false := blk_frozen h5.out _
    have f2 : wr.frozen? ⟨g, i * 2 + 1, none⟩ = false := blk_frozen h5.out _
    have f3 : wr.frozen? ⟨g, j * 2, none⟩ = false := blk_frozen h5.out _
    have f4 : wr.frozen? ⟨g, j * 2 + 1, none⟩ = false := blk_frozen h5.out _
    have hS1 : Aside (rvAt cur n (i + 1) ((((c.setIfInBounds (i * 2) (.int .i64 a2)).setIfInBounds (i * 2 + 1) (.slice B2 l2 k2)).setIfInBounds (j * 2) (.int .i64 a1)).setIfInBounds (j * 2 + 1) (.slice B1 l1 k1))) := hstep
    clear d1 d2 d3 d4 hstep
    go_wp2_with fail
    go_region
    go_wp2
    go_roundg (n - (i + 1 + (i + 1)))
    case measure => omega
    case rel => exact ⟨i + 1, (j : Int) - 1, _, by simp, rfl, by rw [e0]; omega, by omega, by omega, hS1, blk_set (blk_set (blk_set (blk_set h5.out _ _) _ _) _ _) _ _, ((((h6.out.set _ _).set _ _).set _ _).set _ _).drew⟩
  · go_wp2
    go_end0
    exact ⟨rfl, h6.out, c, h5.out, i, h4.out, by omega, h2⟩
set_option maxHeartbeats 1000000 in
theorem rev_empty (a : Option Addr) (cap : Nat) (w : World) :
 Calls Tryz.prog 73 #[.slice a 0 cap] w fun e w' => e = .returned (.tuple #[]) ∧ w' = w := by
 go_enter Tryz.func73, Tryz.ntmps73
 go_wp2
 go_loopg [2, 3] 0 (fun _ s2 s3 wr => s2 = .int .i64 0 ∧ s3 = .int .i64 (-1) ∧ wr = w)
 case atStart => exact ⟨rfl, rfl, rfl⟩
 case round =>
  obtain ⟨rfl, rfl, rfl⟩ := hrel
  go_wp2
  go_end0
  exact ⟨rfl, rfl⟩
theorem pair_eq {us us' : List Value} {a b : Nat} (h : ∀ q, q < 2 → us'[a * 2 + q]? = us[b * 2 + q]?) : (us'.drop (a * 2)).take 2 = (us.drop (b * 2)).take 2 := by
 apply List.ext_getElem?
 intro q
 rw [List.getElem?_take, List.getElem?_take]
 split
 · rw [List.getElem?_drop, List.getElem?_drop]
   exact h q ‹_›
 · rfl
theorem slices_Reverse_arr.ctrR (l : List S70) : CtrR TE 73 70 2 (r70 l) (r70 l.reverse) := by
 refine ⟨callable_of Tryz.func73 (by kernel_rfl) (by kernel_rfl), fun w ro base v us hL hro hLb h0 hF hO hN => ?_⟩
 have hlen : (r70 l).length = l.length := by rw [r70_eq, rX_length]
 have hrev : r70 l.reverse = (r70 l).reverse := by rw [r70_eq, r70_eq]; simp [rX]
 rw [hlen] at hO
 have hul := repF_len hF
 rw [hlen] at hul
 rcases hO with ⟨hO1, ⟨rfl, hz⟩ | ⟨g, cap, cur, rfl, hg, hb, hn, hc, hs, ht⟩⟩
 · obtain rfl : l = [] := List.eq_nil_of_length_eq_zero hz
   refine (rev_empty none 0 w).mono ?_
   rintro e w' ⟨rfl, rfl⟩
   exact ⟨rfl, rfl, rfl, rfl, Nat.le_refl _, fun _ _ _ => rfl, us, hF, hO1, .inl ⟨rfl, by rw [hrev, r70_eq]; rfl⟩⟩
 · have hsz : l.length * 2 ≤ cur.size := by rw [hs]; exact Nat.mul_le_mul_right _ hn
   have hget : ∀ k, k < l.length * 2 → cur[k]? = us[k]? := fun k hk => by
    rw [← ht, List.getElem?_take, if_pos hk]
    simp
   have hS : Shp l.length cur := fun p hp => by
    obtain ⟨h1, h2⟩ := repF_get (j := p) (x := c70 l[p]) hF (by rw [r70_eq]; simp [rX, hp])
    rw [c70_eq] at h2
    obtain ⟨u1, q1, e1, h3, u2, q2, rfl, h4, h5⟩ := h2
    obtain rfl : q2 = [] := h5
    obtain rfl : u1 = .int .i64 l[p].f0 := (show u1 = _ ∧ _ from h3).1
    obtain ⟨A, k, rfl, _⟩ := h4
    have g0 : ((us.drop (p * 2)).take 2)[0]? = some (.int .i64 l[p].f0) := by rw [e1]; rfl
    have g1 := congrArg (fun z : List Value => z[1]?) e1
    rw [List.getElem?_take, if_pos (by omega), List.getElem?_drop, Nat.add_zero] at g0
    simp only [List.getElem?_take, List.getElem?_drop] at g1
    rw [if_pos (by omega)] at g1
    exact ⟨_, _, _, _, (hget _ (by omega)).trans g0, (hget _ (by omega)).trans g1⟩
   refine (rev_walk w g l.length cap cur hb hn hc hs hS).mono ?_
   rintro e w' ⟨rfl, ⟨r1, r2, r3, r4, r5⟩, c, i, hb', hv, hi1, hi2⟩
   have hcs : c.size = cap * 2 := hv.1.trans hs
   have hget' : ∀ k, k < l.length * 2 → (c.toList.take (l.length * 2))[k]? = c[k]? := fun k hk => by
    rw [List.getElem?_take, if_pos hk]
    simp
   have hul' : (c.toList.take (l.length * 2)).length = l.length * 2 := by
    rw [List.length_take]; simp only [Array.length_toList]; omega
   refine ⟨rfl, r1, r2, r3, Nat.le_of_eq r4.symm, fun k hk hne => r5 k (fun e => hne (by rw [e]; rfl)), c.toList.take (l.length * 2), ?_, ?_⟩
   · rw [hrev]
     refine repF_idx (by rw [hul', List.length_reverse, hlen]) (fun j x hj => ?_)
     have hjl : j < l.length := by
      have := (List.getElem?_eq_some_iff.1 hj).1
      rw [List.length_reverse, hlen] at this
      exact this
     rw [List.getElem?_reverse (by rw [hlen]; exact hjl), hlen] at hj
     obtain ⟨h1, h2⟩ := repF_get hF hj
     refine ⟨h1, ?_⟩
     rw [pair_eq (us := us) (b := l.length - 1 - j) (fun q hq => ?_)]
     · exact h2
     · rw [hget' _ (by omega), hv.2 j q hjl hq, ← hget _ (by omega)]
       by_cases h3 : j < i ∨ l.length ≤ j + i
       · rw [if_pos h3]
       · rw [if_neg h3, show l.length - 1 - j = j by omega]
   · have hl2 : (r70 l.reverse).length = l.length := by rw [hrev, List.length_reverse, hlen]
     rw [hl2]
     exact ⟨hul', .inr ⟨g, cap, c, rfl, hg, hb', hn, hc, hcs, rfl⟩⟩
theorem info_arr : (Tryz.prog.info? 70).map (fun i => (i.zero, i.size, i.bytes)) = some (some (.agg #[.int .i64 0, .slice none 0 0]), 2, 32) := by kernel_rfl
def slices_Clone_arr.f (l0 : List S70) : Option (List S70) := if l0.length < 4398046511104 then some l0 else none
set_option maxHeartbeats 2000000 in
set_option maxRecDepth 100000 in
theorem clone_some (w : World) (ad : Addr) (n c : Nat) (us : List Value) (hu : us.length = n * 2) (hone : ∀ u ∈ us, u.oneCell' = true) (hbig : n * 32 ≤ 140737488355328) (hc : ∀ j u, us[j]? = some u → w.cell? (ad.add j) = some u) :
 Calls Tryz.prog 72 #[.slice (some ad) n c] w fun e w' => ∃ v', e = .returned v' ∧ w'.ownsRow w.heap.size 70 2 v' n us ∧ Below w.heap.size w w' := by
 obtain ⟨i0, hi, hz0, hz1, hz2⟩ := info_parts info_arr
 have q60 : ∀ (w : World) (a : Option Addr) (n c n' c' : Nat), (binOp .eql 67 (.slice a n c) (.slice none n' c')).run Tryz.prog w = .ok (.bool a.isNone) w := fun w a n c n' c' => Lib.run_eql_slice_nil w _ _ a n c n' c' Tryz.underlying67
 have u60 : ∀ w, Sem.run Tryz.prog (underlying 67) w = .ok (TypeDesc.slice 70) w := run_underlying Tryz.underlying67
 have A : Aside (∀ j u, us[j]? = some u → w.cell? (ad.add j) = some u) := hc
 have A1 : Aside (∀ u ∈ us, u.oneCell' = true) := hone
 clear hc hone
 go_enter Tryz.func72, Tryz.ntmps72
 go_wp2_with (at_builtin; refine wpList_append_own _ rfl _ _ 67 rfl w.heap.size 70 i0 (.agg #[.int .i64 0, .slice none 0 0]) 2 32 Tryz.underlying67 hi hz0 hz1 hz2 rfl (by decide) _ _ _ rfl (World.ownsRow_made w #[] 0 (Nat.le_refl _) (Nat.zero_le _) rfl) ad n c us rfl ?qc1 ?qc2 ?qc3 ?qc4 ?qc5 ?qc6 ?_)
 case qc1 => exact hu
 case qc2 =>
  intro j u hj
  exact Lib.cell?_alloc_some _ (A.out j u hj)
 case qc3 => exact A1.out
 case qc4 => unfold maxLen; omega
 case qc5 => omega
 case qc6 => simp
 intro v' w1 hown hgrow hnil
 go_wp2
 go_ret
 refine ⟨v', rfl, by simpa using hown, ?_⟩
 exact ((Below.refl _ w).alloc (Nat.le_refl _) _).grown hgrow (by simp) (by intro k hk; simp [Value.ownBlock] at hk; omega)
set_option maxHeartbeats 1000000 in
theorem clone_none (w : World) (n c : Nat) : Calls Tryz.prog 72 #[.slice none n c] w fun e w' => e = .returned (.slice none 0 0) ∧ w' = w := by
 have q60 : ∀ (w : World) (a : Option Addr) (n c n' c' : Nat), (binOp .eql 67 (.slice a n c) (.slice none n' c')).run Tryz.prog w = .ok (.bool a.isNone) w := fun w a n c n' c' => Lib.run_eql_slice_nil w _ _ a n c n' c' Tryz.underlying67
 go_enter Tryz.func72, Tryz.ntmps72
 go_wp2
 go_ret
 exact ⟨rfl, rfl⟩
theorem slices_Clone_arr.ctr (l0 r : List S70) (h : slices_Clone_arr.f l0 = some r) : Ctr TE 72 none [.sl 2 (r70 l0)] [.own 70 2 (r70 r)] [] := by
 unfold slices_Clone_arr.f at h
 split at h
 · next hlt =>
   obtain rfl := Option.some.inj h
   refine ⟨callable_of Tryz.func72 (by kernel_rfl) (by kernel_rfl), fun w ro B vals hL hro _ hp => ?_⟩
   obtain ⟨u, q, rfl, hu, rfl⟩ := hp
   obtain ⟨A, c, rfl, h2, h3, h4⟩ := hu
   have hlen : (r70 l0).length = l0.length := by rw [r70_eq, rX_length]
   have said : ∀ (ad : Addr) (us : List Value), repF w ro 2 (r70 l0) us → (∀ j u, us[j]? = some u → w.cell? (ad.add j) = some u) → Calls TE.P 72 #[.slice (some ad) (r70 l0).length c] w fun e w' => ∃ vs ro', e = .returned (retV vs) ∧ Said TE none [.own 70 2 (r70 l0)] [] w ro B vs w' ro' := fun ad us hF hc => by
    refine (clone_some w ad _ c us (repF_len hF) (repF_one hF) (by rw [hlen]; omega) hc).mono ?_
    rintro e w' ⟨v, rfl, ho, hb⟩
    refine ⟨[v], ro, rfl, hb.os, hb.tape, hb.output, hb.size, fun k hk _ => hb.block k hk, fun b hb => hb, fun b hb' => ⟨Nat.lt_of_lt_of_le (hro b hb') hb.size, .inl hb'⟩, ⟨v, [], rfl, ⟨by omega, us, repF_mono (fun b hr => ⟨hr, hb.block b (hro b hr)⟩) _ _ _ hF, ho⟩, fun b hb' => ⟨fun hr => ?_, by simp⟩, rfl⟩, fun T cs e => by cases e⟩
    have := (ho.lt b hb').1
    have := hro b hr
    omega
   by_cases hp : 0 < (r70 l0).length
   · obtain ⟨b, o, rfl, hrb, hR⟩ := h4 hp
     obtain ⟨us, hF, hat⟩ := repF_of hR
     exact said ⟨b, o, none⟩ us hF (fun j u hj => by rw [addr_add]; exact hat j u hj)
   · have hz : r70 l0 = [] := List.eq_nil_of_length_eq_zero (by omega)
     cases A with
     | some ad => exact said ad [] (by rw [hz]; rfl) (fun j u hj => by simp at hj)
     | none =>
      refine (clone_none w _ c).mono ?_
      rintro e w' ⟨rfl, rfl⟩
      refine ⟨[_], ro, rfl, rfl, rfl, rfl, Nat.le_refl _, fun k hk _ => rfl, fun b hb => hb, fun b hb' => ⟨hro b hb', .inl hb'⟩, ⟨_, [], rfl, ⟨by omega, [], by rw [hz]; rfl, by rw [hz]; exact World.ownsRow_nil w' _ _ _⟩, fun b hb' => by simp [Value.ownBlock] at hb', rfl⟩, fun T cs e => by cases e⟩
 · cases h
end Go.Proofs.YtjkngiciigdheaaGreatDoor.K
