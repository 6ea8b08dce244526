/- A part of the claim. -/
import Derived.Test.YtidpankoobdfjaaGreatDoorLFSgc
import Derived.Test.YtidpankoobdfjaaGreatDoorLFSkd
namespace Go.Proofs.YtidpankoobdfjaaGreatDoor.L
open Go.RowKit Go.Proofs.YtidpankoobdfjaaGreatDoorW.St Go.Proofs.YtidpankoobdfjaaGreatDoorW.PrintWords Go.Proofs.YtidpankoobdfjaaGreatDoorW.PrintLast Go.Proofs.YtidpankoobdfjaaGreatDoorW.PrintMore
set_option linter.unusedVariables false
set_option linter.unusedSimpArgs false
theorem alloc_new (w : World) (o : Obj) : (w.alloc o).heap[w.heap.size]? = some o := by
 show (w.heap.push o)[w.heap.size]? = some o
 simp
theorem rep_strs {w : World} {ro : Nat → Prop} {b t : Nat} (xs : List ByteArray) (hm : xs.length ≤ maxLen) (hro : ro b) (hb : w.heap[b]? = some (.cells (xs.map Value.string).toArray t (0, 0))) : rep w ro (.sl 1 (rX cS xs)) (.slice (some ⟨b, 0, none⟩) xs.length xs.length) := by
 refine ⟨some ⟨b, 0, none⟩, xs.length, by rw [rX_length], by rw [rX_length]; exact Nat.le_refl _, hm, fun hp => ⟨b, 0, rfl, hro, ?_⟩⟩
 have one : ∀ j (h : j < xs.length), w.cell? ⟨b, 0 + j, none⟩ = some (.string xs[j]) := fun j h => by
   rw [blk_cell hb (0 + j)]
   rw [Nat.zero_add]
   simp [h]
 clear hb hm hp
 generalize 0 = o at one
 induction xs generalizing o with
 | nil => simp [rX, repR]
 | cons x xs ih =>
   refine ⟨⟨rfl, ⟨_, ⟨rfl, rfl⟩, one 0 (by simp)⟩, trivial⟩, ih (o + 1) (fun j hj => ?_)⟩
   have := one (j + 1) (by simpa using hj)
   rwa [show o + (j + 1) = o + 1 + j by omega] at this
def strings_Split.f (a0 a1 : ByteArray) : Option (List ByteArray) := if a0.size < 4294967281 then (if 1 ≤ a1.size then some (Lib.splitB a1 0 (Lib.countB a0 a1) a0) else none) else none
theorem strings_Split.ctr (a0 a1 : ByteArray) (r : List ByteArray) (h : strings_Split.f a0 a1 = some r) : Ctr TE 77 none [.v (.string a0), .v (.string a1)] [.ro (.sl 1 (rX cS r))] [] := by
 unfold strings_Split.f at h
 split at h
 · split at h
   · next h0 h1 =>
     obtain rfl := Option.some.inj h
     refine ctr_made (callable_of Tryz.func77 (by kernel_rfl) (by kernel_rfl)) (fun w ro g vals hL hp => ?_)
     obtain ⟨u, q, rfl, hu, u2, q2, rfl, hu2, rfl⟩ := hp
     obtain rfl : u = .string a0 := (show u = .string a0 ∧ _ from hu).1
     obtain rfl : u2 = .string a1 := (show u2 = .string a1 ∧ _ from hu2).1
     obtain ⟨_, _, _, _, ⟨m, hm⟩⟩ := hL
     have hlen := Lib.splitB_all a1 h1 0 _ a0 rfl
     have hle := Lib.countB_le a1 h1 a0.size a0 (Nat.le_refl _)
     refine (Any.strings_Split { Tryz.laysM146 with } Tryz.laysM146.i9 a0 a1 m w h0 hm h1).mono ?_
     rintro e w' ⟨rfl, rfl⟩
     refine ⟨[_], rfl, below_alloc (Below.refl _ w) _, fun ro' _ hr => ⟨_, [], rfl, ?_, rfl⟩⟩
     rw [← hlen]
     exact rep_strs _ (by rw [hlen]; simp only [maxLen]; omega) (hr _ (Nat.le_refl _) (by rw [World.size_alloc]; exact Nat.lt_succ_self _)) (alloc_new _ _)
   · cases h
 · cases h
def strings_Fields.f (a0 : ByteArray) : Option (List ByteArray) := if a0.size < 4294967281 then (if a0.data.toList.all (fun b => decide (b.toNat < 128)) = true then some ((Lib.fields a0.data.toList).map fun l => ⟨l.toArray⟩) else none) else none
theorem fieldsGo_le : ∀ (l cur : List UInt8), (Lib.fieldsGo cur l).length ≤ l.length + 1
 | [], cur => by unfold Lib.fieldsGo; split <;> simp
 | b :: l, cur => by
   have h1 := fieldsGo_le l []
   have h2 := fieldsGo_le l (cur ++ [b])
   unfold Lib.fieldsGo
   split
   · split
     · simp; omega
     · simp; omega
   · simp; omega
theorem strings_Fields.ctr (a0 : ByteArray) (r : List ByteArray) (h : strings_Fields.f a0 = some r) : Ctr TE 78 none [.v (.string a0)] [.ro (.sl 1 (rX cS r))] [] := by
 unfold strings_Fields.f at h
 split at h
 · split at h
   · next h0 h1 =>
     obtain rfl := Option.some.inj h
     refine ctr_made (callable_of Tryz.func78 (by kernel_rfl) (by kernel_rfl)) (fun w ro g vals hL hp => ?_)
     obtain ⟨u, q, rfl, hu, rfl⟩ := hp
     obtain rfl : u = .string a0 := (show u = .string a0 ∧ _ from hu).1
     obtain ⟨_, _, _, hT, _⟩ := hL
     have hle := fieldsGo_le a0.data.toList []
     have hsz : a0.data.toList.length = a0.size := by rw [Array.length_toList]; rfl
     refine (Tryz.strings_Fields_laid a0 w h0 (fun j b hb => ?_) hT).mono ?_
     · have := List.all_eq_true.1 h1 b (List.mem_of_getElem? hb)
       simpa using this
     · rintro e w' ⟨rfl, rfl⟩
       refine ⟨[_], rfl, below_alloc (Below.refl _ w) _, fun ro' _ hr => ⟨_, [], rfl, ?_, rfl⟩⟩
       have e1 : (Lib.fields a0.data.toList).map (fun l => Value.string ⟨l.toArray⟩) = ((Lib.fields a0.data.toList).map fun l => (⟨l.toArray⟩ : ByteArray)).map Value.string := by
         rw [List.map_map]
         rfl
       have e2 : (Lib.fields a0.data.toList).length = ((Lib.fields a0.data.toList).map fun l => (⟨l.toArray⟩ : ByteArray)).length := by rw [List.length_map]
       rw [e1, e2]
       exact rep_strs _ (by rw [List.length_map]; simp only [maxLen]; have : (Lib.fields a0.data.toList).length ≤ a0.data.toList.length + 1 := hle; omega) (hr _ (Nat.le_refl _) (by rw [World.size_alloc]; exact Nat.lt_succ_self _)) (alloc_new _ _)
   · cases h
 · cases h
end Go.Proofs.YtidpankoobdfjaaGreatDoor.L
