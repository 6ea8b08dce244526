/- A part of the claim. -/
import Derived.Test.YtoloblgjlnhioaaGreatDoorIFSgr
namespace Go.Proofs.YtoloblgjlnhioaaGreatDoor.I
open Go.RowKit Go.Proofs.YtoloblgjlnhioaaGreatDoorW.St Go.Proofs.YtoloblgjlnhioaaGreatDoorW.PrintWords Go.Proofs.YtoloblgjlnhioaaGreatDoorW.PrintLast Go.Proofs.YtoloblgjlnhioaaGreatDoorW.PrintMore
set_option linter.unusedVariables false
set_option linter.unusedSimpArgs false
def rvAtS (cur : Array Value) (n i : Nat) (c : Array Value) : Prop := c.size = cur.size ∧ ∀ p, p < n → c[p]? = cur[if p < i ∨ n ≤ p + i then n - 1 - p else p]?
theorem rvAtS.step {cur c : Array Value} {n i j : Nat} (h : rvAtS cur n i c) (hs : n ≤ cur.size) (hn : n = j + 1 + i) (hij : i < j) {x y : Value} (e0 : c[i]? = some x) (e2 : c[j]? = some y) : rvAtS cur n (i + 1) ((c.setIfInBounds i y).setIfInBounds j x) := by
 obtain ⟨h1, h2⟩ := h
 refine ⟨by simp [h1], fun p hp => ?_⟩
 have hsz : c.size = cur.size := h1
 by_cases hpi : p = i
 · subst hpi
   have e := h2 j (by omega)
   rw [if_neg (by omega)] at e
   rw [if_pos (Or.inl (by omega)), show n - 1 - p = j by omega, ← e]
   simp only [Array.getElem?_setIfInBounds, Array.size_setIfInBounds]
   rw [if_neg (by omega), if_pos trivial, if_pos (by omega)]
   exact e2.symm
 · by_cases hpj : p = j
   · subst hpj
     have e := h2 i (by omega)
     rw [if_neg (by omega)] at e
     rw [if_pos (Or.inr (by omega)), show n - 1 - p = i by omega, ← e]
     simp only [Array.getElem?_setIfInBounds, Array.size_setIfInBounds]
     rw [if_pos trivial, if_pos (by omega)]
     exact e0.symm
   · have e := h2 p hp
     simp only [Array.getElem?_setIfInBounds]
     rw [if_neg (by omega), if_neg (by omega), e]
     by_cases h3 : p < i ∨ n ≤ p + i
     · rw [if_pos h3, if_pos (by omega)]
     · rw [if_neg h3, if_neg (by omega)]
def ShpS (n : Nat) (cur : Array Value) : Prop := ∀ p, p < n → ∃ a, cur[p]? = some (.string a)
theorem rvAtS.shp {cur c : Array Value} {n i : Nat} (h : rvAtS cur n i c) (hS : ShpS n cur) : ShpS n c := fun p hp => by
 rw [h.2 p hp]
 refine hS _ ?_
 split <;> omega
set_option maxHeartbeats 1600000 in
set_option maxRecDepth 1000000 in
theorem revS_walk (w : World) (g n cap : Nat) (cur : Array Value) (hb : w.heap[g]? = some (.cells cur 9 (0, 0))) (hn : n ≤ cap) (hc : cap ≤ maxLen) (hs : cur.size = cap) (hS : ShpS n cur) :
   Calls Tryz.prog 73 #[.slice (some ⟨g, 0, none⟩) n cap] w fun e w' => e = .returned (.tuple #[]) ∧ RvW w w' g ∧ ∃ c i, w'.heap[g]? = some (.cells c 9 (0, 0)) ∧ rvAtS cur n i c ∧ n ≤ i + i + 1 ∧ i + i ≤ n + 1 := by
 have A0 : Aside (ShpS n cur) := hS
 have A1 : Aside (w.heap[g]? = some (.cells cur 9 (0, 0))) := hb
 clear hS hb
 go_enter Tryz.func73, Tryz.ntmps73
 go_wp2
 go_loopg [2, 3] n (fun k s2 s3 wr => ∃ (i : Nat) (jz : Int) (c : Array Value), s2 = .int .i64 i ∧ s3 = .int .i64 jz ∧ (jz = wrap64 ((n : Int) - 1) - i) ∧ i + i ≤ n + 1 ∧ n - (i + i) ≤ k ∧ Aside (rvAtS cur n i c) ∧ Aside (wr.heap[g]? = some (.cells c 9 (0, 0))) ∧ Aside (RvW w wr g))
 case atStart => exact ⟨0, wrap64 ((n : Int) - 1), cur, rfl, rfl, by omega, by omega, by omega, ⟨rfl, fun p hp => by rw [if_neg (by omega)]⟩, A1.out, RvW.refl w g⟩
 case round =>
   obtain ⟨i, jz, c, rfl, rfl, h1, h2, h3, h4, h5, h6⟩ := hrel
   have hN : n ≤ 9223372036854775807 := by simp only [maxLen] at hc; omega
   have e0 : wrap64 ((n : Int) - 1) = (n : Int) - 1 := by unfold wrap64; omega
   rw [e0] at h1
   by_cases hlt : (i : Int) < jz
   · obtain ⟨j, hj, hn1⟩ : ∃ j : Nat, jz = (j : Int) ∧ n = j + 1 + i := ⟨jz.toNat, by omega, by omega⟩
     clear h1
     subst hj
     obtain ⟨a1, d1⟩ := h4.out.shp A0.out i (by omega)
     obtain ⟨a2, d3⟩ := h4.out.shp A0.out j (by omega)
     have hstep := h4.out.step (by rw [hs]; exact hn) hn1 (by omega) d1 d3
     have c1 : wr.cell? ⟨g, i, none⟩ = some (.string a1) := (blk_cell h5.out _).trans d1
     have c3 : wr.cell? ⟨g, j, none⟩ = some (.string a2) := (blk_cell h5.out _).trans d3
     have f1 : wr.frozen? ⟨g, i, none⟩ = false := blk_frozen h5.out _
     have f3 : wr.frozen? ⟨g, j, none⟩ = false := blk_frozen h5.out _
     have hS1 : Aside (rvAtS cur n (i + 1) ((c.setIfInBounds i (.string a2)).setIfInBounds j (.string a1))) := hstep
     clear d1 d3 hstep
     go_wp2_with fail
     go_region
     go_wp2
     go_roundg (n - (i + 1 + (i + 1)))
     case measure => omega
     case rel => exact ⟨i + 1, (j : Int) - 1, _, by simp, rfl, by rw [e0]; omega, by omega, by omega, hS1, blk_set (blk_set h5.out _ _) _ _, ((h6.out.set _ _).set _ _).drew⟩
   · go_wp2
     go_end0
     exact ⟨rfl, h6.out, c, h5.out, i, h4.out, by omega, h2⟩
set_option maxHeartbeats 1000000 in
theorem revS_empty (a : Option Addr) (cap : Nat) (w : World) :
   Calls Tryz.prog 73 #[.slice a 0 cap] w fun e w' => e = .returned (.tuple #[]) ∧ w' = w := by
 go_enter Tryz.func73, Tryz.ntmps73
 go_wp2
 go_loopg [2, 3] 0 (fun _ s2 s3 wr => s2 = .int .i64 0 ∧ s3 = .int .i64 (-1) ∧ wr = w)
 case atStart => exact ⟨rfl, rfl, rfl⟩
 case round =>
   obtain ⟨rfl, rfl, rfl⟩ := hrel
   go_wp2
   go_end0
   exact ⟨rfl, rfl⟩
theorem one_eq {us us' : List Value} {a b : Nat} (h : us'[a]? = us[b]?) : (us'.drop (a * 1)).take 1 = (us.drop (b * 1)).take 1 := by
 rw [Nat.mul_one, Nat.mul_one]
 apply List.ext_getElem?
 intro q
 rw [List.getElem?_take, List.getElem?_take]
 split
 · rw [List.getElem?_drop, List.getElem?_drop, show q = 0 by omega]
   exact h
 · rfl
theorem slices_Reverse_str.ctrR (l : List ByteArray) : CtrR TE 73 9 1 (rX cS l) (rX cS l.reverse) := by
 refine ⟨callable_of Tryz.func73 (by kernel_rfl) (by kernel_rfl), fun w ro base v us hL hro hLb h0 hF hO hN => ?_⟩
 have hlen : (rX cS l).length = l.length := rX_length cS l
 have hrev : rX cS l.reverse = (rX cS l).reverse := by simp [rX]
 rw [hlen] at hO
 have hul := repF_len hF
 rw [hlen, Nat.mul_one] at hul
 rcases hO with ⟨hO1, ⟨rfl, hz⟩ | ⟨g, cap, cur, rfl, hg, hb, hn, hc, hs, ht⟩⟩
 · obtain rfl : l = [] := List.eq_nil_of_length_eq_zero hz
   refine (revS_empty none 0 w).mono ?_
   rintro e w' ⟨rfl, rfl⟩
   exact ⟨rfl, rfl, rfl, rfl, Nat.le_refl _, fun _ _ _ => rfl, us, hF, hO1, .inl ⟨rfl, rfl⟩⟩
 · rw [Nat.mul_one] at hs ht
   have hget : ∀ k, k < l.length → cur[k]? = us[k]? := fun k hk => by
     rw [← ht, List.getElem?_take, if_pos hk]
     simp
   have hS : ShpS l.length cur := fun p hp => by
     obtain ⟨h1, h2⟩ := repF_get (j := p) (x := cS l[p]) hF (by simp [rX, hp])
     obtain ⟨u1, q1, e1, h3, h5⟩ := h2
     obtain rfl : q1 = [] := h5
     obtain rfl : u1 = .string l[p] := (show u1 = _ ∧ _ from h3).1
     have g0 : ((us.drop (p * 1)).take 1)[0]? = some (.string l[p]) := by rw [e1]; rfl
     rw [List.getElem?_take, if_pos (by omega), List.getElem?_drop, Nat.mul_one, Nat.add_zero] at g0
     exact ⟨_, (hget p hp).trans g0⟩
   refine (revS_walk w g l.length cap cur hb hn hc hs hS).mono ?_
   rintro e w' ⟨rfl, ⟨r1, r2, r3, r4, r5⟩, c, i, hb', hv, hi1, hi2⟩
   have hcs : c.size = cap := hv.1.trans hs
   have hget' : ∀ k, k < l.length → (c.toList.take l.length)[k]? = c[k]? := fun k hk => by
     rw [List.getElem?_take, if_pos hk]
     simp
   have hul' : (c.toList.take l.length).length = l.length := by
     rw [List.length_take]; simp only [Array.length_toList]; omega
   refine ⟨rfl, r1, r2, r3, Nat.le_of_eq r4.symm, fun k hk hne => r5 k (fun e => hne (by rw [e]; rfl)), c.toList.take l.length, ?_, ?_⟩
   · rw [hrev]
     refine repF_idx (by rw [hul', List.length_reverse, hlen, Nat.mul_one]) (fun j x hj => ?_)
     have hjl : j < l.length := by
       have := (List.getElem?_eq_some_iff.1 hj).1
       rw [List.length_reverse, hlen] at this
       exact this
     rw [List.getElem?_reverse (by rw [hlen]; exact hjl), hlen] at hj
     obtain ⟨h1, h2⟩ := repF_get hF hj
     refine ⟨h1, ?_⟩
     rw [one_eq (us := us) (b := l.length - 1 - j) ?_]
     · exact h2
     · rw [hget' _ hjl, hv.2 j hjl, ← hget _ (by omega)]
       by_cases h3 : j < i ∨ l.length ≤ j + i
       · rw [if_pos h3]
       · rw [if_neg h3, show l.length - 1 - j = j by omega]
   · have hl2 : (rX cS l.reverse).length = l.length := by rw [hrev, List.length_reverse, hlen]
     rw [hl2]
     exact ⟨by rw [hul', Nat.mul_one], .inr ⟨g, cap, c, rfl, hg, hb', hn, hc, by rw [hcs, Nat.mul_one], by rw [Nat.mul_one]⟩⟩
end Go.Proofs.YtoloblgjlnhioaaGreatDoor.I
