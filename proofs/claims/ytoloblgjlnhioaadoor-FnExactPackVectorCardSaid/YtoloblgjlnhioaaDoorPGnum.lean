/- The reader's number: at most six digits are taken, and what they say is read by l13Num. -/
import Derived.Test.YtoloblgjlnhioaaDoorPx0
import Derived.Test.YtoloblgjlnhioaaDoorPx1

namespace Go.Proofs.YtoloblgjlnhioaaDoor.P
open Go.RowKit Go.Proofs.YtoloblgjlnhioaaDoorW.PrintWords Go.Proofs.YtoloblgjlnhioaaDoorW.PrintLast Go.Proofs.YtoloblgjlnhioaaDoorW.PrintMore
attribute [local go_sem] max2_int min2_int max_two min_two max_three min_three max_four min_four
set_option linter.unusedVariables false
set_option linter.unusedSimpArgs false

/-- Is there a digit at p? -/
def digitAt (s : ByteArray) (p : Int) : Bool := decide (0 ≤ p) && (decide (p < (s.size : Int)) && (decide (48 ≤ bt s p) && decide (bt s p ≤ 57)))
/-- Where the digits end, n at the most. -/
def numStop (s : ByteArray) : Nat → Int → Int
 | 0, p => p
 | n + 1, p => if digitAt s p = true then numStop s n (p + 1) else p
def spec_l1Reader_number.f (k : Nat) (s0_0 : ByteArray) (s0_1 : Int) (s0_2 : Bool) : Option (Int × ByteArray × Int × Bool) :=
 if 0 ≤ s0_1 then (if s0_1 ≤ (s0_0.size : Int) then (if (s0_0.size : Int) ≤ 1000000000000000000 then (spec_l13Num.f k (s0_0.extract s0_1.toNat (numStop s0_0 6 s0_1).toNat)).bind fun r => some (r.1, s0_0, numStop s0_0 6 s0_1, s0_2 || !r.2 || !(decide (0 ≤ r.1) && decide (r.1 ≤ 10006))) else none) else none) else none
theorem spec_l1Reader_number.mono : ∀ a0 a1 a2 k, LeO (spec_l1Reader_number.f k a0 a1 a2) (spec_l1Reader_number.f (k + 1) a0 a1 a2) := by
 intro a0 a1 a2 k
 unfold spec_l1Reader_number.f
 repeat' first
     | (with_reducible exact spec_l13Num.mono _ _)
     | (with_reducible exact LeO.refl _)
     | (with_reducible exact LeO.none _)
     | (with_reducible refine LeO.ite ?_ ?_)
     | (with_reducible refine LeO.bind ?_ (fun _ => ?_))

theorem numStop_ge (s : ByteArray) : ∀ n p, p ≤ numStop s n p
 | 0, p => Int.le_refl _
 | n + 1, p => by
   unfold numStop
   split
   · have := numStop_ge s n (p + 1); omega
   · exact Int.le_refl _
theorem numStop_le (s : ByteArray) : ∀ n p, p ≤ (s.size : Int) → numStop s n p ≤ (s.size : Int)
 | 0, p, h => h
 | n + 1, p, h => by
   unfold numStop
   split
   · next hd =>
     have : p < (s.size : Int) := by simp [digitAt] at hd; omega
     exact numStop_le s n (p + 1) (by omega)
   · exact h

theorem l1In_is (a b c : Int) (w : World) : Calls Tryd.prog 53 #[.int .i64 a, .int .i64 b, .int .i64 c] w fun e w' => e = .returned (.bool (decide (b ≤ a) && decide (a ≤ c))) ∧ ∃ n, w' = w.drewN n := by
 by_cases h : a ≥ b
 · by_cases h2 : a ≤ c
   · refine (spec_l1In.calls a b c true w (by unfold spec_l1In.f; rw [if_pos h]; simp [h2])).mono ?_
     rintro e w' ⟨rfl, hd⟩
     exact ⟨by simp [h2]; omega, hd.out⟩
   · refine (spec_l1In.calls a b c false w (by unfold spec_l1In.f; rw [if_pos h]; simp [h2])).mono ?_
     rintro e w' ⟨rfl, hd⟩
     exact ⟨by simp [h2], hd.out⟩
 · refine (spec_l1In.calls a b c false w (by unfold spec_l1In.f; rw [if_neg h])).mono ?_
   rintro e w' ⟨rfl, hd⟩
   exact ⟨by simp; omega, hd.out⟩

theorem l1In_true (a b c : Int) (w : World) (h : b ≤ a) (h2 : a ≤ c) : Calls Tryd.prog 53 #[.int .i64 a, .int .i64 b, .int .i64 c] w fun e w' => e = .returned (.bool true) ∧ ∃ n, w' = w.drewN n :=
 (l1In_is a b c w).mono fun e w' ⟨he, hw⟩ => ⟨by simpa [h, h2] using he, hw⟩
theorem l1In_false (a b c : Int) (w : World) (h : ¬ (b ≤ a ∧ a ≤ c)) : Calls Tryd.prog 53 #[.int .i64 a, .int .i64 b, .int .i64 c] w fun e w' => e = .returned (.bool false) ∧ ∃ n, w' = w.drewN n :=
 (l1In_is a b c w).mono fun e w' ⟨he, hw⟩ => ⟨by
   rw [he]
   have : (decide (b ≤ a) && decide (a ≤ c)) = false := by simpa using h
   rw [this], hw⟩
theorem l13Num_is (k : Nat) (s : ByteArray) (n : Int) (ok : Bool) (w : World) (h : spec_l13Num.f k s = some (n, ok)) : Calls Tryd.prog 134 #[.string s] w fun e w' => e = .returned (.tuple #[.int .i64 n, .bool ok]) ∧ ∃ m, w' = w.drewN m :=
 (spec_l13Num.calls k s n ok w h).mono fun e w' h => ⟨h.1, h.2.out⟩
theorem quiet2 {P : Program} {f : FuncId} {args : Array Value} {w : World} {a b : Nat} {v : Value} (h : ∀ w, Calls P f args w fun e w' => e = .returned v ∧ ∃ m, w' = w.drewN m) : Calls P f args (w.drewN (a + b)) fun e w'' => e = .returned v ∧ ∃ n, w'' = w.drewN (a + n) :=
 (h _).mono fun _ _ ⟨he, m, hm⟩ => ⟨he, b + m, by rw [hm, World.drewN_drewN, Nat.add_assoc]⟩
theorem wrap_small {a : Int} (h0 : 0 ≤ a) (h1 : a ≤ 9000000000000000000) : wrap64 a = a := by unfold wrap64; omega

set_option maxHeartbeats 2000000 in
theorem spec_l1Reader_number.calls (k : Nat) (g : Nat) (s0_0 : ByteArray) (s0_1 : Int) (s0_2 : Bool) (r1 : Int) (r2 : ByteArray) (r3 : Int) (r4 : Bool) (w0 w : World) (hI : IsS123 w0 w g s0_0 s0_1 s0_2) (hB : Below w0.heap.size w0 w) (h : spec_l1Reader_number.f k s0_0 s0_1 s0_2 = some (r1, r2, r3, r4)) :
   Calls Tryd.prog 119 #[.pointer (some ⟨g, 0, none⟩)] w fun e w' => e = .returned (.int .i64 r1) ∧ IsS123 w0 w' g r2 r3 r4 ∧ Below w0.heap.size w0 w' ∧ KeepBut w w' g none := by
 unfold spec_l1Reader_number.f at h
 by_cases h0 : 0 ≤ s0_1
 case neg => rw [if_neg h0] at h; cases h
 rw [if_pos h0] at h
 by_cases h1 : s0_1 ≤ (s0_0.size : Int)
 case neg => rw [if_neg h1] at h; cases h
 rw [if_pos h1] at h
 by_cases h2 : (s0_0.size : Int) ≤ 1000000000000000000
 case neg => rw [if_neg h2] at h; cases h
 rw [if_pos h2] at h
 have hge := numStop_ge s0_0 6 s0_1
 have hle := numStop_le s0_0 6 s0_1 h1
 generalize he : numStop s0_0 6 s0_1 = e at h hge hle
 replace h := Option.bind_eq_some_iff.mp h
 obtain ⟨⟨n, ok⟩, hn, h⟩ := h
 simp only [Option.some.injEq, Prod.mk.injEq] at h
 obtain ⟨rfl, rfl, rfl, rfl⟩ := h
 have HE := Aside0.mk he
 have HN := Aside0.mk hn
 have HI := Aside0.mk hI
 have HB := Aside0.mk hB
 have HK := Aside0.mk (KeepBut.refl w g none)
 have HL := Aside0.mk hB.size
 clear he hn hI hB
 have hc1 := cellS123_1 HI.out.1
 go_enter Tryd.func119, Tryd.ntmps119
 go_wp2
 clear hc1
 go_loopg [] 6 (fun q w' => ∃ p : Int, 0 ≤ p ∧ p ≤ (s0_0.size : Int) ∧ Aside0 (p + q = s0_1 + 6) ∧ Aside0 (numStop s0_0 q p = e) ∧ Aside0 (IsS123 w0 w' g s0_0 p s0_2) ∧ Aside0 (KeepBut w w' g none) ∧ Aside0 (Below w0.heap.size w0 w'))
 case atStart => exact ⟨s0_1, h0, h1, ⟨rfl⟩, HE, HI, HK, HB⟩
 case round =>
   obtain ⟨p, hp0, hp1, Hq, HE, HI, HK, HB⟩ := hrel
   have hc0 := cellS123_0 HI.out.1
   have hc1 := cellS123_1 HI.out.1
   have hc2 := cellS123_2 HI.out.1
   have hf1 := blk_frozen HI.out.1 1
   have hf2 := blk_frozen HI.out.1 2
   have hbt := bt_range s0_0 p
   obtain ⟨hbt0, hbt1⟩ := hbt
   by_cases hlt : p < (s0_0.size : Int)
   · have d1 : decide (p < (s0_0.size : Int)) = true := decide_eq_true hlt
     have hx := bt_at s0_0 p
     have q0 : (0 ≤ p) = True := eq_true hp0
     have q1 : (p < (s0_0.size : Int)) = True := eq_true hlt
     by_cases hd : 48 ≤ bt s0_0 p ∧ bt s0_0 p ≤ 57
     · have HD := Aside0.mk hd
       clear hd
       have hw1 : wrap64 (s0_1 + 6) = s0_1 + 6 := wrap_small (by omega) (by omega)
       cases gk with
       | zero =>
         have d2 : decide (p < s0_1 + 6) = false := decide_eq_false (by have := Hq.out; omega)
         obtain rfl : p = e := HE.out
         go_wp2
         go_quiet ((go_at_call 53; exact Calls.quiet_of (l1In_true _ _ _ _ HD.out.1 HD.out.2)))
         go_wp2
         have l1 : s0_1 ≤ p := by have := hge; omega
         go_quiet ((go_at_call 134; exact quiet2 (fun _ => l13Num_is k _ n ok _ HN.out)))
         cases s0_2 <;> cases ok
         all_goals
           go_wp2_with (first | (go_at_call 53; refine (l1In_is _ _ _ _).mono ?_; rintro e w' ⟨rfl, nd, rfl⟩))
           go_ret
           exact ⟨rfl, by (try simp only [Bool.not_false, Bool.not_true, Bool.or_true, Bool.true_or, Bool.false_or, Bool.or_false, Bool.not_and]); repeat (first | (with_reducible first | exact HI.out | apply IsS123.drewN | apply IsS123.drew | apply IsS123.set_2) | exact HI.out), by repeat (first | (with_reducible first | exact HB.out | apply below_alloc | apply pw_below_drewN | apply below_drew1 | refine below_set ?_ (IsS123.ge HI.out)) | exact HB.out), by repeat (first | (with_reducible first | exact HK.out | apply KeepBut.set_ | apply keep_drewN | apply keep_drew | apply keep_alloc) | exact HK.out)⟩
       | succ q =>
         have d2 : decide (p < s0_1 + 6) = true := decide_eq_true (by have := Hq.out; omega)
         have hw2 : wrap64 (p + 1) = p + 1 := wrap_small (by omega) (by omega)
         have HE2 : Aside0 (numStop s0_0 q (p + 1) = e) := ⟨by
           have h := HE.out
           unfold numStop at h
           rwa [if_pos (by simp [digitAt, hp0, hlt, HD.out.1, HD.out.2])] at h⟩
         go_wp2
         go_quiet ((go_at_call 53; exact Calls.quiet_of (l1In_true _ _ _ _ HD.out.1 HD.out.2)))
         go_wp2
         go_roundg q
         case rel => exact ⟨p + 1, by omega, by omega, ⟨by have := Hq.out; omega⟩, HE2, ⟨by repeat (first | (with_reducible first | exact HI.out | apply IsS123.alloc | apply IsS123.drewN | apply IsS123.drew | apply IsS123.set_0 | apply IsS123.set_1 | apply IsS123.set_2) | exact HI.out)⟩, ⟨by repeat (first | (with_reducible first | exact HK.out | apply KeepBut.set_ | apply keep_drewN | apply keep_drew | apply keep_alloc) | exact HK.out)⟩, ⟨by repeat (first | (with_reducible first | exact HB.out | apply below_alloc | apply pw_below_drewN | apply below_drew1 | refine below_set ?_ (IsS123.ge HI.out)) | exact HB.out)⟩⟩
         case measure => omega
     · have HD := Aside0.mk hd
       clear hd
       obtain rfl : p = e := by
         have h := HE.out
         cases gk with
         | zero => exact h
         | succ q =>
           unfold numStop at h
           rwa [if_neg (by have := HD.out; simp only [digitAt, Bool.and_eq_true, decide_eq_true_eq]; omega)] at h
       go_wp2
       go_quiet ((go_at_call 53; exact Calls.quiet_of (l1In_false _ _ _ _ HD.out)))
       go_wp2
       have l1 : s0_1 ≤ p := by have := hge; omega
       go_quiet ((go_at_call 134; exact quiet2 (fun _ => l13Num_is k _ n ok _ HN.out)))
       cases s0_2 <;> cases ok
       all_goals
         go_wp2_with (first | (go_at_call 53; refine (l1In_is _ _ _ _).mono ?_; rintro e w' ⟨rfl, nd, rfl⟩))
         go_ret
         exact ⟨rfl, by (try simp only [Bool.not_false, Bool.not_true, Bool.or_true, Bool.true_or, Bool.false_or, Bool.or_false, Bool.not_and]); repeat (first | (with_reducible first | exact HI.out | apply IsS123.drewN | apply IsS123.drew | apply IsS123.set_2) | exact HI.out), by repeat (first | (with_reducible first | exact HB.out | apply below_alloc | apply pw_below_drewN | apply below_drew1 | refine below_set ?_ (IsS123.ge HI.out)) | exact HB.out), by repeat (first | (with_reducible first | exact HK.out | apply KeepBut.set_ | apply keep_drewN | apply keep_drew | apply keep_alloc) | exact HK.out)⟩
   · have d1 : decide (p < (s0_0.size : Int)) = false := decide_eq_false hlt
     obtain rfl : p = e := by
       have h := HE.out
       cases gk with
       | zero => exact h
       | succ q =>
         unfold numStop at h
         rwa [if_neg (by simp only [digitAt, Bool.and_eq_true, decide_eq_true_eq]; omega)] at h
     go_wp2
     go_quiet (fail)
     go_wp2
     have l1 : s0_1 ≤ p := by have := hge; omega
     go_quiet ((go_at_call 134; exact quiet2 (fun _ => l13Num_is k _ n ok _ HN.out)))
     cases s0_2 <;> cases ok
     all_goals
       go_wp2_with (first | (go_at_call 53; refine (l1In_is _ _ _ _).mono ?_; rintro e w' ⟨rfl, nd, rfl⟩))
       go_ret
       exact ⟨rfl, by (try simp only [Bool.not_false, Bool.not_true, Bool.or_true, Bool.true_or, Bool.false_or, Bool.or_false, Bool.not_and]); repeat (first | (with_reducible first | exact HI.out | apply IsS123.drewN | apply IsS123.drew | apply IsS123.set_2) | exact HI.out), by repeat (first | (with_reducible first | exact HB.out | apply below_alloc | apply pw_below_drewN | apply below_drew1 | refine below_set ?_ (IsS123.ge HI.out)) | exact HB.out), by repeat (first | (with_reducible first | exact HK.out | apply KeepBut.set_ | apply keep_drewN | apply keep_drew | apply keep_alloc) | exact HK.out)⟩
end Go.Proofs.YtoloblgjlnhioaaDoor.P
