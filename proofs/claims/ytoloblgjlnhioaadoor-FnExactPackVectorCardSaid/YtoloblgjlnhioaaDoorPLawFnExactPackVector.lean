/- The law FnExactPackVector answers true for every input and leaves its arguments alone: the tied card, out of the walk and the plain law. No further condition. -/
import Derived.Lay
import Derived.Test.YtoloblgjlnhioaaDoorCards
import Derived.Test.YtoloblgjlnhioaaDoorTie
import Derived.Test.YtoloblgjlnhioaaDoorQclosed
import Derived.Test.YtoloblgjlnhioaaDoorPGex
import Derived.Test.YtoloblgjlnhioaaDoorPGlaw
import Derived.Test.YtoloblgjlnhioaaDoorPPureFnExactPackVector
import Derived.WalkKit
import Derived.ProofKit
import Derived.OpenShut
import Derived.ShutString
import Derived.ChangeOld
import Derived.Below
import Derived.SizedLaws
import Derived.SliceStrings
import Derived.MakeChecks
namespace Go.Proofs.YtoloblgjlnhioaaDoor.P
open Go.RowKit Go.Proofs.YtoloblgjlnhioaaDoorW.PrintWords Go.Proofs.YtoloblgjlnhioaaDoorW.PrintLast Go.Proofs.YtoloblgjlnhioaaDoorW.PrintMore
/-- A row of texts as an argument reads. -/
def IsRowS (w : World) (a : Option Addr) (len cap : Nat) (zs : List ByteArray) : Prop :=
 (a = none ∧ len = 0 ∧ cap = 0 ∧ zs = []) ∨
 ∃ x, a = some x ∧ len ≤ cap ∧ cap ≤ maxLen ∧ zs.length = cap ∧ (∀ i, i < zs.length → w.cell? (x.add i) = some (.string (zs.getD i ByteArray.empty))) ∧ ∀ s ∈ zs, s.size ≤ maxLen
theorem rowS_C {w : World} {a : Option Addr} {len cap : Nat} {zs : List ByteArray} (h : IsRowS w a len cap zs) : (zs.take len).length = len ∧ len ≤ cap ∧ len ≤ maxLen ∧ (∀ s ∈ zs.take len, s.size ≤ maxLen) ∧ Kd.C Kd.string w a (zs.take len).length (zs.take len) := by
 rcases h with ⟨rfl, rfl, rfl, rfl⟩ | ⟨x, rfl, h1, h2, h3, h4, h5⟩
 · exact ⟨rfl, Nat.le_refl _, Nat.zero_le _, fun s hs => by simp at hs, Kd.C_nil _ _⟩
 · have hlen : (zs.take len).length = len := by rw [List.length_take]; omega
   refine ⟨hlen, h1, Nat.le_trans h1 h2, fun s hs => h5 s (List.mem_of_mem_take hs), rfl, by rw [hlen]; simp only [maxLen] at h2; omega, fun hp => ⟨x, rfl, fun j p hj => ⟨[.string p], rfl, rfl, fun i u hu => ?_⟩⟩⟩
   have hjl : j < len := by
     have := (List.getElem?_eq_some_iff.1 hj).1
     omega
   have hz : zs[j]? = some p := by
     rw [List.getElem?_take, if_pos hjl] at hj
     exact hj
   have h6 := h4 j (by omega)
   rw [List.getD_eq_getElem?_getD, hz] at h6
   obtain ⟨hi, e⟩ := List.getElem?_eq_some_iff.1 hu
   have hi0 : i = 0 := by simpa using hi
   subst hi0
   have e' : Value.string p = u := by simpa using e
   rw [← e', show j * Kd.string.sz + 0 = j by show j * 1 + 0 = j; omega]
   exact h6
theorem laws_FnExactPackVector.walk (P : laws_FnExactPackVector.Pure) (a1 : Option Addr) (len1 cap1 : Nat) (z1 : List ByteArray) (a2 : Int) (w : World) (w1 : IsRowS w a1 len1 cap1 z1) (hL : LaidW w) :
   Calls Tryd.prog 3 #[.slice a1 len1 cap1, .int .i64 a2] w fun e w' => e = .returned (.bool true) ∧ Below w.heap.size w w' := by
 obtain ⟨h1, h2, h3, h4, h5⟩ := rowS_C w1
 obtain ⟨k, t, ht, hall⟩ := P (z1.take len1) a2 (by rw [h1]; exact h3) h4
 have e : #[Value.slice a1 len1 cap1, .int .i64 a2] = #[Value.slice a1 (z1.take len1).length cap1, .int .i64 a2] := by rw [h1]
 rw [e]
 by_cases h : t < 0
 · exact exact_large k a1 cap1 (z1.take len1) a2 t w h5 (by rw [h1]; exact h2) ht h
 · obtain ⟨c, m1, m2, ok, L, D, l2, L2, D2, q2, q3, q4, q5, q6, q7, q8, q9, q10, q11⟩ := hall h
   exact exact_walk k a1 cap1 (z1.take len1) a2 t c m1 m2 ok L D l2 L2 D2 w h5 (by rw [h1]; exact h2) hL ht h q2 q3 q4 q5 q6 q7 q8 q9 q10 q11
end Go.Proofs.YtoloblgjlnhioaaDoor.P
namespace Go.Proofs.YtoloblgjlnhioaaDoor.P.LFnExactPackVector
open Go.ChangeShapes Go.WideShapes Go.ChangeAt Go.RowKit
open Go.ChangeMaps (open_string shut_string)
set_option linter.unusedVariables false
set_option maxRecDepth 100000 in
theorem door_met (os : Os) (args : Array Value) : laidMetH Tryd.prog Rows.fnExactPackVectorRow.laid ((World.laidAll Tryd.prog os Rows.fnExactPackVectorRow.laid).forCall (fun _ _ => 0) ⟨#[], args, []⟩).memory := by
 rw [MakeChecks.laidMetH_plain _ _ _ (by kernel_rfl)]
 exact laidMet_laidAll _ (by kernel_rfl) (by kernel_rfl)
set_option maxRecDepth 100000 in
theorem witness_row (os : Os) {H : Type} (enc : TypeId × Value → H) :
   (OpenSpec.ofChange Rows.fnExactPackVectorSpec).preRow enc Tryd.prog Tryd.f3 Rows.fnExactPackVectorRow.domain false Rows.fnExactPackVectorRow.laid ((World.laidAll Tryd.prog os Rows.fnExactPackVectorRow.laid).forCall (fun _ _ => 0) ⟨#[], #[.slice none 0 0, .int .i64 0], []⟩).memory #[.slice none 0 0, .int .i64 0] := by
 have hw : (DataW.whole enc Tryd.prog ((World.laidAll Tryd.prog os Rows.fnExactPackVectorRow.laid).forCall (fun _ _ => 0) ⟨#[], #[.slice none 0 0, .int .i64 0], []⟩).memory Tryd.f3.params.toList (OpenSpec.ofChange Rows.fnExactPackVectorSpec).vars false (#[.slice none 0 0, .int .i64 0] : Array Value).toList 8).map (fun x => (x.1, x.2.1)) = some ([.nil, .lit (.int .i64 0)], []) := by kernel_rfl
 obtain ⟨⟨x1, x2, x3⟩, hx, hx1⟩ := Option.map_eq_some_iff.1 hw
 simp only [Prod.mk.injEq] at hx1
 obtain ⟨rfl, rfl⟩ := hx1
 exact OpenSpec.preRow_of_cond 8 hx (by kernel_rfl) (fun k hk => by cases hk) (by kernel_rfl) (door_met os _)
set_option maxRecDepth 100000 in
set_option maxHeartbeats 2000000 in
theorem lifted (os : Os) (started : os.Started) (H : Type) (enc : TypeId × Value → H) (F : Stop.Interp) :
   ReturnsInHanded {} Tryd.checked os 3 .any ((OpenSpec.ofChange Rows.fnExactPackVectorSpec).preRow enc Tryd.prog Tryd.f3 Rows.fnExactPackVectorRow.domain false Rows.fnExactPackVectorRow.laid) (((OpenSpec.ofChange Rows.fnExactPackVectorSpec).at F).post enc Tryd.prog Tryd.f3 false true false false) := by
 refine returnsInHanded_of_row (C := Tryd.checked) (s := (OpenSpec.ofChange Rows.fnExactPackVectorSpec)) own started (by kernel_rfl) Tryd.func3
   (witness_row_atRef (enc := enc) (C := Tryd.checked) false (World.laidAll Tryd.prog os Rows.fnExactPackVectorRow.laid) #[.slice none 0 0, .int .i64 0] (World.laidAll_os _ _ _) (by kernel_rfl) (by kernel_rfl) (by kernel_rfl) (witness_row os enc)) ?_
 intro W base args ds gs before hval0 hW _ _ hsz0 hL hSh _
 have hsz : (DataW.weightsEach Tryd.prog (Tryd.f3.params.toList ++ Rows.fnExactPackVectorSpec.plain.varTypes Tryd.prog) (ds ++ gs)).all (· ≤ reachBytes) = true := hsz0
 have hval : ∀ (j : Nat) t v, Tryd.f3.params[j]? = some t → args[j]? = some v → Value.okWide Tryd.prog W .any base t v := hval0
 have hW' := hW
 obtain ⟨p, q, hA0, hV, rfl, hfz, hnd⟩ := hW
 have hA : DataW.TrodAll enc Tryd.prog W 0 (fun _ => true) true Tryd.f3.params.toList args.toList ds p := hA0
 rw [Tryd.params3] at hA hval hsz
 obtain ⟨v0, vs0, d0, ds0, p0, q0, hargs, rfl, rfl, h0, r0⟩ := trodAll_cons hA
 obtain ⟨v1, vs1, d1, ds1, p1, q1, rfl, rfl, rfl, h1, r1⟩ := trodAll_cons r0
 obtain ⟨rfl, rfl, rfl⟩ := trodAll_nil r1
 obtain rfl : args = #[v0, v1] := by cases args; simp_all
 obtain ⟨rfl, rfl⟩ := trodVars_none hV
 obtain ⟨a1, len1, cap1, rfl⟩ := okWide_slice Tryd.underlying22 (hval 0 22 v0 rfl rfl)
 have k1 := h0
 have lt1 : ∀ x ∈ p0, x.block < W.heap.size := by obtain ⟨m, hm⟩ := k1; exact DataW.trod_lt m _ _ _ hm
 obtain ⟨z1, w1⟩ : ∃ zs, IsRowS W a1 len1 cap1 zs := by
   obtain ⟨fuel, hf⟩ := h0
   rcases open_strings Tryd.underlying22 Tryd.underlying9 (by kernel_rfl) hf with ⟨hcs, _⟩ | ⟨x, l, c, zs, hcs, _, hl, hm, hz, _, hcell, hwz⟩
   · simp [Value.cells] at hcs
     obtain ⟨rfl, rfl, rfl⟩ := hcs
     exact ⟨[], .inl ⟨rfl, rfl, rfl, rfl⟩⟩
   · simp [Value.cells] at hcs
     obtain ⟨rfl, rfl, rfl⟩ := hcs
     exact ⟨zs, .inr ⟨_, rfl, hl, hm, by simpa using hz, hcell, hwz⟩⟩
 obtain ⟨a2, rfl, rfl, rfl, w2⟩ := open_int Tryd.underlying3 (hval 1 3 v1 rfl rfl) h1
 have hLW : LaidW W := laidW_of hL (by kernel_rfl) (by kernel_rfl) (by kernel_rfl) (by kernel_rfl)
 clear hA0 hval0 hsz0 hsz
 refine (laws_FnExactPackVector.walk Pure_FnExactPackVector a1 len1 cap1 z1 a2 W w1 hLW).mono fun e W' ⟨he, bel⟩ => ?_
 subst he
 exact ⟨_, rfl, _, _, _, [], _, [], hW', trodAll_mk1 (shut_bool Tryd.underlying4 _), (trodAll_cons_mk (Below.trod laidOut (by kernel_rfl) (of_decide_eq_true (by kernel_rfl)) k1 bel lt1) (trodAll_cons_mk (shut_int Tryd.underlying3 w2) trodAll_mk0)), rfl, bel.frame _, fun h => by cases h⟩
theorem makeIs : (Tryd.pinned.checked.prog.make == some Rows.fnExactPackVectorRow.make) = true := Go.Proofs.YtoloblgjlnhioaaDoor.Q.makeIs
theorem closed : joinedFacts Tryd.pinned.checked.prog 3 Tryd.f3 (OpenSpec.ofChange Rows.fnExactPackVectorSpec).bare Rows.fnExactPackVectorRow = true := by
 unfold joinedFacts
 rw [Go.Proofs.YtoloblgjlnhioaaDoor.Q.mayEnter, Go.Proofs.YtoloblgjlnhioaaDoor.Q.liftsIs, makeIs]
 kernel_rfl
theorem said : Rows.FnExactPackVectorSaid :=
 OpenClaim.holds_of_cond 3 Tryd.f3 rfl rfl rfl rfl rfl rfl rfl ⟨rfl, rfl, rfl, rfl, rfl⟩ rfl rfl rfl rfl rfl (by kernel_rfl) Tryd.func3 closed
   (of_decide_eq_true (by kernel_rfl)) (by unfold Func.isWrapper; first | (rw [if_pos (by decide +kernel)]; kernel_rfl) | (rw [if_neg (by decide +kernel)]; exact ⟨rfl, rfl⟩))
   (fun os started H enc _ F => by rw [OpenClaim.pre_eq_preRow]; exact lifted os started H enc F)
theorem plain (f : FuncId) (fn : Func) (hf : Tryd.pinned.checked.prog.funcNamed Rows.fnExactPackVectorRow.func = some f) (hfn : Tryd.pinned.checked.prog.funcs[f]? = some fn) :
   true = Tryd.pinned.checked.prog.looks [] ∧ ∀ (j : Nat) t, fn.params[j]? = some t → Tryd.pinned.checked.prog.wantsStandIn t = false := by
 obtain rfl : f = 3 := Option.some.inj ((show Tryd.prog.funcNamed Rows.fnExactPackVectorRow.func = some 3 by kernel_rfl).symm.trans hf) |>.symm
 obtain rfl : fn = Tryd.f3 := (Option.some.inj (Tryd.func3.symm.trans hfn)).symm
 refine ⟨by kernel_rfl, fun j t ht => ?_⟩
 rw [Tryd.params3] at ht
 have hm : t ∈ [22, 3] := by simpa using Array.mem_of_getElem? ht
 have hall : ([22, 3].all fun u => !Tryd.prog.wantsStandIn u) = true := by kernel_rfl
 exact (show Tryd.prog.wantsStandIn t = false by simpa using List.all_eq_true.1 hall t hm)
theorem goes : false = Rows.fnExactPackVectorRow.goesBy Tryd.pinned.checked.prog := by kernel_rfl
theorem mainIs : Tryd.pinned.checked.prog.mainIs = some (Rows.fnExactPackVectorCard.stood.harness.1, Rows.fnExactPackVectorCard.stood.harness.2.toList) := by kernel_rfl
/-- The card. -/
theorem card : Rows.FnExactPackVectorCardSaid :=
 Claim7.holds_tied_plain_at .later [] _ _ _ _ said (fun _ h => by cases h) (by kernel_rfl) (fun _ h => by cases h) fnExactPackVector_row_tie rfl ⟨rfl, rfl⟩ mainIs rfl plain goes
#print axioms card
end Go.Proofs.YtoloblgjlnhioaaDoor.P.LFnExactPackVector
namespace Go.Proofs.YtoloblgjlnhioaaDoor
theorem fnExactPackVector_holds : Rows.FnExactPackVectorCardSaid := P.LFnExactPackVector.card
end Go.Proofs.YtoloblgjlnhioaaDoor
