/- A part of the claim. -/
import Derived.Test.YtmjoigpnnechgaaDoorTFx0
import Derived.Test.YtmjoigpnnechgaaDoorTFx1
import Derived.Test.YtmjoigpnnechgaaDoorTFx3
import Derived.Test.YtmjoigpnnechgaaDoorTFx4
-- PRINTED by print.py (a twelfth state) out of the translation. Not trusted: Lean checks it.
namespace Go.Proofs.YtmjoigpnnechgaaDoor.T
open Go.RowKit Go.Proofs.YtmjoigpnnechgaaDoorW.St Go.Proofs.YtmjoigpnnechgaaDoorW.PrintWords Go.Proofs.YtmjoigpnnechgaaDoorW.PrintLast Go.Proofs.YtmjoigpnnechgaaDoorW.PrintMore
attribute [local go_sem] max2_int min2_int max_two min_two max_three min_three max_four min_four   -- for this text's walks alone
set_option linter.unusedVariables false
set_option linter.unusedSimpArgs false
def laws_FnReshape.j0 : Nat → ByteArray → Int → List Int → ByteArray → Bool → ByteArray → Bool → Bool → Option (Bool)
  | 0, _, _, _, _, _, _, _, _ => none
  | k + 1, x3, x4, x5, x6, x7, x8, x9, x52 => if x52 = true then (if x6.toList = x8.toList then (if (x7 == x9) = true then (some (x6.toList == ([] : List UInt8))) else (some false)) else (some false)) else ((impl_NumbersOf.f k x3 x4).bind fun bt459 => ((impl_NumbersOf.f k x6 (x5.length : Int)).bind fun bt463 => ((impl_ShapeOf.f k x3 x4).bind fun bt467 => ((impl_ReshapeArray.f k x6 (x5.length : Int) bt467.1).bind fun bt471 => ((laws_faSame.f k bt459.1 bt463.1).bind fun t473 => (if t473 = true then (if bt467.2 = true then (if bt471.2 = true then (some (bt471.1.toList == x3.toList)) else (some false)) else (some true)) else (some false)))))))
def laws_FnReshape.f (k : Nat) (l0 : List Int) : Option (Bool) := if (l0.length : Int) > 1048576 then (some true) else ((spec_DrawReshapeArray.f k l0).bind fun bt450 => ((impl_ReshapeArray.f k bt450.1 bt450.2.1 bt450.2.2).bind fun bt455 => ((spec_ReshapeArray.f k bt450.1 bt450.2.1 bt450.2.2).bind fun bt457 => (if bt455.1.toList = bt457.1.toList then (if (bt455.2 != bt457.2) = true then (laws_FnReshape.j0 k bt450.1 bt450.2.1 bt450.2.2 bt455.1 bt455.2 bt457.1 bt457.2 true) else (laws_FnReshape.j0 k bt450.1 bt450.2.1 bt450.2.2 bt455.1 bt455.2 bt457.1 bt457.2 (!bt455.2))) else (laws_FnReshape.j0 k bt450.1 bt450.2.1 bt450.2.2 bt455.1 bt455.2 bt457.1 bt457.2 true)))))
structure laws_FnReshape.C (k : Nat) : Prop where
 s_j0 : ∀ (r : Bool) (w : World) (ro : Nat → Prop) (B : Nat) (_ : Fr TE (cx0 Tryd.f12 none w ro B)) (x3 : ByteArray) (x4 : Int) (x5 : List Int) (x6 : ByteArray) (x7 : Bool) (x8 : ByteArray) (x9 : Bool) (x52 : Bool) (_ : laws_FnReshape.j0 k x3 x4 x5 x6 x7 x8 x9 x52 = some r), Kp (WS TE (cx0 Tryd.f12 none w ro B) (stkAt [1, 1, 1, 1, 1, 0, 0, 9] [] (bodyOf Tryd.f12) []) ⟨[(3, .v (.string x3)), (4, .v (.int .i64 x4)), (5, .sl 1 (rX (cI .i64) x5)), (6, .v (.string x6)), (7, .v (.bool x7)), (8, .v (.string x8)), (9, .v (.bool x9)), (52, .v (.bool x52))], []⟩ (RetQ TE Tryd.f12 none [.ro (.v (.bool r))] [] w ro B))
set_option maxRecDepth 100000 in
set_option maxHeartbeats 4000000 in
theorem laws_FnReshape.c_j0 (k : Nat) (ih : Kp (∀ m, m < k → laws_FnReshape.C m)) (r : Bool) (w : World) (ro : Nat → Prop) (B : Nat) (hF : Fr TE (cx0 Tryd.f12 none w ro B)) (x3 : ByteArray) (x4 : Int) (x5 : List Int) (x6 : ByteArray) (x7 : Bool) (x8 : ByteArray) (x9 : Bool) (x52 : Bool) (h : laws_FnReshape.j0 k x3 x4 x5 x6 x7 x8 x9 x52 = some r) : Kp (WS TE (cx0 Tryd.f12 none w ro B) (stkAt [1, 1, 1, 1, 1, 0, 0, 9] [] (bodyOf Tryd.f12) []) ⟨[(3, .v (.string x3)), (4, .v (.int .i64 x4)), (5, .sl 1 (rX (cI .i64) x5)), (6, .v (.string x6)), (7, .v (.bool x7)), (8, .v (.string x8)), (9, .v (.bool x9)), (52, .v (.bool x52))], []⟩ (RetQ TE Tryd.f12 none [.ro (.v (.bool r))] [] w ro B)) := by
 refine ⟨?_⟩
 cases k with
 | zero => simp [laws_FnReshape.j0] at h
 | succ k =>
 simp only [laws_FnReshape.j0] at h
 by_cases c7 : x52 = true
 · rw [if_pos c7] at h
   by_cases c8 : x6.toList = x8.toList
   · rw [if_pos c8] at h
     by_cases c9 : (x7 == x9) = true
     · rw [if_pos c9] at h
       refine path_ok (k := 4) hF (RetQ_mild _ _ _ _ _ _ _ _) (ds := [.b true, .b true, .b true, .b true, .b true, .b true, .b true, .b true]) (os := []) (c := none) rfl KD ?_
       cases h
       exact ret_as (ms := [.ro]) rfl KD
     · rw [if_neg c9] at h
       refine path_ok (k := 4) hF (RetQ_mild _ _ _ _ _ _ _ _) (ds := [.b true, .b true, .b true, .b true, .b true, .b false, .b false, .b false]) (os := []) (c := none) rfl KD ?_
       cases h
       exact ret_as (ms := [.ro]) rfl KD
   · rw [if_neg c8] at h
     refine path_ok (k := 4) hF (RetQ_mild _ _ _ _ _ _ _ _) (ds := [.b true, .b false, .b false, .b false, .b false, .b false, .b false, .b false]) (os := []) (c := none) rfl KD ?_
     cases h
     exact ret_as (ms := [.ro]) rfl KD
 · rw [if_neg c7] at h
   obtain ⟨⟨t459, t460⟩, q10, h⟩ := Option.bind_eq_some_iff.1 h
   dsimp only at h
   have q10c := impl_NumbersOf.ctr k _ _ _ _ q10
   obtain ⟨⟨t463, t464⟩, q11, h⟩ := Option.bind_eq_some_iff.1 h
   dsimp only at h
   have q11c := impl_NumbersOf.ctr k _ _ _ _ q11
   obtain ⟨⟨t467, t468⟩, q12, h⟩ := Option.bind_eq_some_iff.1 h
   dsimp only at h
   have q12c := impl_ShapeOf.ctr k _ _ _ _ q12
   obtain ⟨⟨t471, t472⟩, q13, h⟩ := Option.bind_eq_some_iff.1 h
   dsimp only at h
   have q13c := impl_ReshapeArray.ctr k _ _ _ _ _ q13
   obtain ⟨t473, q14, h⟩ := Option.bind_eq_some_iff.1 h
   have q14c := laws_faSame.ctr k _ _ _ q14
   by_cases c15 : t473 = true
   · rw [if_pos c15] at h
     by_cases c16 : t468 = true
     · rw [if_pos c16] at h
       by_cases c17 : t472 = true
       · rw [if_pos c17] at h
         refine path_ok (k := 13) hF (RetQ_mild _ _ _ _ _ _ _ _) (ds := [.b false, .r [.ro (.sl 1 (rX (cI .i64) t459)), .ro (.v (.bool t460))] [], .e 74 (.v (.int .i64 (x5.length : Int))), .r [.ro (.sl 1 (rX (cI .i64) t463)), .ro (.v (.bool t464))] [], .r [.own 3 1 (rX (cI .i64) t467), .ro (.v (.bool t468))] [], .e 87 (.v (.int .i64 (x5.length : Int))), .r [.ro (.v (.string t471)), .ro (.v (.bool t472))] [], .r [.ro (.v (.bool t473))] [], .b true, .b true, .b true, .b false, .b false, .b true, .b true, .b true, .b false, .b true, .b true, .b false, .b true]) (os := []) (c := none) rfl KD ?_
         cases h
         exact ret_as (ms := [.ro]) rfl KD
       · rw [if_neg c17] at h
         refine path_ok (k := 13) hF (RetQ_mild _ _ _ _ _ _ _ _) (ds := [.b false, .r [.ro (.sl 1 (rX (cI .i64) t459)), .ro (.v (.bool t460))] [], .e 74 (.v (.int .i64 (x5.length : Int))), .r [.ro (.sl 1 (rX (cI .i64) t463)), .ro (.v (.bool t464))] [], .r [.own 3 1 (rX (cI .i64) t467), .ro (.v (.bool t468))] [], .e 87 (.v (.int .i64 (x5.length : Int))), .r [.ro (.v (.string t471)), .ro (.v (.bool t472))] [], .r [.ro (.v (.bool t473))] [], .b true, .b true, .b true, .b false, .b false, .b false, .b false, .b false, .b false, .b false, .b true, .b false, .b true]) (os := []) (c := none) rfl KD ?_
         cases h
         exact ret_as (ms := [.ro]) rfl KD
     · rw [if_neg c16] at h
       refine path_ok (k := 13) hF (RetQ_mild _ _ _ _ _ _ _ _) (ds := [.b false, .r [.ro (.sl 1 (rX (cI .i64) t459)), .ro (.v (.bool t460))] [], .e 74 (.v (.int .i64 (x5.length : Int))), .r [.ro (.sl 1 (rX (cI .i64) t463)), .ro (.v (.bool t464))] [], .r [.own 3 1 (rX (cI .i64) t467), .ro (.v (.bool t468))] [], .e 87 (.v (.int .i64 (x5.length : Int))), .r [.ro (.v (.string t471)), .ro (.v (.bool t472))] [], .r [.ro (.v (.bool t473))] [], .b true, .b true, .b true, .b true, .b true, .b true, .b true, .b true, .b true]) (os := []) (c := none) rfl KD ?_
       cases h
       exact ret_as (ms := [.ro]) rfl KD
   · rw [if_neg c15] at h
     refine path_ok (k := 13) hF (RetQ_mild _ _ _ _ _ _ _ _) (ds := [.b false, .r [.ro (.sl 1 (rX (cI .i64) t459)), .ro (.v (.bool t460))] [], .e 74 (.v (.int .i64 (x5.length : Int))), .r [.ro (.sl 1 (rX (cI .i64) t463)), .ro (.v (.bool t464))] [], .r [.own 3 1 (rX (cI .i64) t467), .ro (.v (.bool t468))] [], .e 87 (.v (.int .i64 (x5.length : Int))), .r [.ro (.v (.string t471)), .ro (.v (.bool t472))] [], .r [.ro (.v (.bool t473))] [], .b false, .b false, .b false, .b false, .b false]) (os := []) (c := none) rfl KD ?_
     cases h
     exact ret_as (ms := [.ro]) rfl KD
theorem laws_FnReshape.cs (k : Nat) : laws_FnReshape.C k := by
 induction k using Nat.strongRecOn with
 | _ k ih0 =>
 have ih : Kp (∀ m, m < k → laws_FnReshape.C m) := ⟨ih0⟩
 exact ⟨laws_FnReshape.c_j0 k ih⟩
set_option maxRecDepth 100000 in
set_option maxHeartbeats 4000000 in
theorem laws_FnReshape.ctr (k : Nat) (l0 : List Int) (r : Bool) (h : laws_FnReshape.f k l0 = some r) : Ctr TE 12 none [.sl 1 (rX (cI .u8) l0)] [.ro (.v (.bool r))] [] := by
 refine ctr_of (fn := Tryd.f12) (c := (bodyOf Tryd.f12)) Tryd.func12 rfl (by kernel_rfl) (Nat.le_of_ble_eq_true (by kernel_rfl)) (fun w ro B hF _ => ?_)
 have ih : Kp (∀ m, m < k + 1 → laws_FnReshape.C m) := ⟨fun m _ => laws_FnReshape.cs m⟩
 simp only [laws_FnReshape.f] at h
 by_cases c1 : (l0.length : Int) > 1048576
 · rw [if_pos c1] at h
   refine path_ok (k := 9) hF (RetQ_mild _ _ _ _ _ _ _ _) (ds := [.e 19 (.v (.int .i64 (l0.length : Int))), .b true]) (os := []) (c := none) rfl KD ?_
   cases h
   exact ret_as (ms := [.ro]) rfl KD
 · rw [if_neg c1] at h
   obtain ⟨⟨t450, t451, t452⟩, q2, h⟩ := Option.bind_eq_some_iff.1 h
   dsimp only at h
   have q2c := spec_DrawReshapeArray.ctr k _ _ _ _ q2
   obtain ⟨⟨t455, t456⟩, q3, h⟩ := Option.bind_eq_some_iff.1 h
   dsimp only at h
   have q3c := impl_ReshapeArray.ctr k _ _ _ _ _ q3
   obtain ⟨⟨t457, t458⟩, q4, h⟩ := Option.bind_eq_some_iff.1 h
   dsimp only at h
   have q4c := spec_ReshapeArray.ctr k _ _ _ _ _ q4
   by_cases c5 : t455.toList = t457.toList
   · rw [if_pos c5] at h
     by_cases c6 : (t456 != t458) = true
     · rw [if_pos c6] at h
       refine path_ok (k := 16) hF (RetQ_mild _ _ _ _ _ _ _ _) (ds := [.e 19 (.v (.int .i64 (l0.length : Int))), .b false, .r [.ro (.v (.string t450)), .ro (.v (.int .i64 t451)), .ro (.sl 1 (rX (cI .i64) t452))] [], .r [.ro (.v (.string t455)), .ro (.v (.bool t456))] [], .r [.ro (.v (.string t457)), .ro (.v (.bool t458))] [], .b false, .b false, .b false, .b false, .b true, .b true, .b true]) (os := []) (c := none) rfl KD ?_
       exact WS.can [] (((ih.out k (by omega)).s_j0  r w ro B hF t450 t451 t452 t455 t456 t457 t458 true h).out) KD
     · rw [if_neg c6] at h
       refine path_ok (k := 16) hF (RetQ_mild _ _ _ _ _ _ _ _) (ds := [.e 19 (.v (.int .i64 (l0.length : Int))), .b false, .r [.ro (.v (.string t450)), .ro (.v (.int .i64 t451)), .ro (.sl 1 (rX (cI .i64) t452))] [], .r [.ro (.v (.string t455)), .ro (.v (.bool t456))] [], .r [.ro (.v (.string t457)), .ro (.v (.bool t458))] [], .b false, .b false, .b false, .b false, .b false, .b false, .b false]) (os := []) (c := none) rfl KD ?_
       exact WS.can [] (((ih.out k (by omega)).s_j0  r w ro B hF t450 t451 t452 t455 t456 t457 t458 (!t456) h).out) KD
   · rw [if_neg c5] at h
     refine path_ok (k := 16) hF (RetQ_mild _ _ _ _ _ _ _ _) (ds := [.e 19 (.v (.int .i64 (l0.length : Int))), .b false, .r [.ro (.v (.string t450)), .ro (.v (.int .i64 t451)), .ro (.sl 1 (rX (cI .i64) t452))] [], .r [.ro (.v (.string t455)), .ro (.v (.bool t456))] [], .r [.ro (.v (.string t457)), .ro (.v (.bool t458))] [], .b true, .b true, .b true, .b true, .b true, .b true, .b true]) (os := []) (c := none) rfl KD ?_
     exact WS.can [] (((ih.out k (by omega)).s_j0  r w ro B hF t450 t451 t452 t455 t456 t457 t458 true h).out) KD
def laws_FnReshape.Pure : Prop := ∀ (l0 : List Int), l0.length ≤ maxLen → l0.length * 1 ≤ 140737488351232 → (∀ x ∈ l0, (Lit.int .u8 x).wf = true) → ∃ k, laws_FnReshape.f k l0 = some true
end Go.Proofs.YtmjoigpnnechgaaDoor.T
