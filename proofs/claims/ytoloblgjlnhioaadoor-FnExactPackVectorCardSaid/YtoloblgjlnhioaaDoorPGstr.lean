/- What the library's functions Itoa, Atoi and Join answer, in the form that the printed callers ask for; and what of the package-level variables stays. -/
import Derived.Test.YtoloblgjlnhioaaDoorPx0
import Derived.Test.YtoloblgjlnhioaaDoorShelf
import Derived.Lib.SmallJoins
import Derived.Lib.AppendIntMem
import Derived.Lib.AtoiErrMem
namespace Go.Proofs.YtoloblgjlnhioaaDoor.P
open Go.RowKit Go.Proofs.YtoloblgjlnhioaaDoorW.PrintWords Go.Proofs.YtoloblgjlnhioaaDoorW.PrintLast Go.Proofs.YtoloblgjlnhioaaDoorW.PrintMore
set_option linter.unusedVariables false
set_option linter.unusedSimpArgs false

theorem gPow : Tryd.prog.globalNamed "internal/strconv.uint64pow10" = some 3 := by kernel_rfl

/-- The package-level variables that the library reads: the table of the powers of ten, the two errors. -/
def LaidW (w : World) : Prop :=
 Lib.TabIs Tryd.prog w "internal/strconv.uint64pow10" .u64 Lib.pow10Tab ∧ (∃ tp p, w.cell? ⟨1, 0, none⟩ = some (.iface tp p)) ∧ ∃ tp p, w.cell? ⟨2, 0, none⟩ = some (.iface tp p)

theorem LaidW.after {w w' : World} (h : LaidW w) (hb : Below w.heap.size w w') : LaidW w' := by
 obtain ⟨h1, ⟨t2, p2, h2⟩, ⟨t3, p3, h3⟩⟩ := h
 have l2 := World.block_lt_of_cell? _ _ h2
 have l3 := World.block_lt_of_cell? _ _ h3
 exact ⟨Go.Joins.tab_stays gPow h1 hb (Nat.le_refl _), ⟨t2, p2, (hb.cell l2).trans h2⟩, ⟨t3, p3, (hb.cell l3).trans h3⟩⟩

def strconv_Itoa.f (a0 : Int) : Option ByteArray := if -9223372036854775808 ≤ a0 then (if a0 ≤ 9223372036854775807 then some ⟨(Lib.itoa a0).toArray⟩ else none) else none

theorem strconv_Itoa.calls (a0 : Int) (r : ByteArray) (w : World) (h : strconv_Itoa.f a0 = some r) (hL_ : LaidW w) :
   Calls Tryd.prog 93 #[.int .i64 a0] w fun e w' => e = .returned (.string r) ∧ Below w.heap.size w w' := by
 unfold strconv_Itoa.f at h
 split at h
 · split at h
   · next h0 h1 =>
     obtain rfl := Option.some.inj h
     refine (Tryd.strconv_Itoa a0 h0 h1 w hL_.1).mono ?_
     rintro e w' ⟨rfl, k, os, rfl⟩
     exact ⟨rfl, Lib.below_grow _ w (Nat.le_refl _) k os⟩
   · cases h
 · cases h

def strconv_Atoi.f (a0 : ByteArray) : Option (Int × Option Int) :=
 if a0.size ≤ 281474976710656 then
   (match Lib.atoiAll a0.data.toList with
   | .ok v => some (v, none)
   | Lib.NumEnd.syntax => some (0, some 0)
   | .range => some (Lib.atoiSat a0.data.toList, some 0))
 else none

theorem strconv_Atoi.calls (a0 : ByteArray) (r1 : Int) (r2 : Option Int) (w : World) (h : strconv_Atoi.f a0 = some (r1, r2)) (hL_ : LaidW w) :
   Calls Tryd.prog 110 #[.string a0] w fun e w' => ∃ q_ : Int, e = .returned (.tuple #[.int .i64 r1, errW (r2.map fun _ => q_)]) ∧ Below w.heap.size w w' := by
 unfold strconv_Atoi.f at h
 split at h
 · next hs =>
   obtain ⟨_, ⟨t2, p2, h2⟩, ⟨t3, p3, h3⟩⟩ := hL_
   split at h
   · next v hv =>
     simp only [Option.some.injEq, Prod.mk.injEq] at h
     obtain ⟨rfl, rfl⟩ := h
     refine (Tryd.strconv_Atoi_ok a0 (by omega) v hv w).mono ?_
     rintro e w' ⟨rfl, rfl | ⟨t, rfl⟩⟩
     · exact ⟨0, rfl, Below.refl _ _⟩
     · exact ⟨0, rfl, Lib.bytesWorld_below _ _ _⟩
   · next hv =>
     simp only [Option.some.injEq, Prod.mk.injEq] at h
     obtain ⟨rfl, rfl⟩ := h
     refine (Tryd.strconv_Atoi_syntax a0 hs hv _ w h2 (.inr ⟨_, _, rfl⟩)).mono ?_
     rintro e w' ⟨N, rfl, _, _, hb⟩
     exact ⟨N, rfl, hb⟩
   · next hv =>
     simp only [Option.some.injEq, Prod.mk.injEq] at h
     obtain ⟨rfl, rfl⟩ := h
     refine (Tryd.strconv_Atoi_range a0 hs hv _ w h3 (.inr ⟨_, _, rfl⟩)).mono ?_
     rintro e w' ⟨N, rfl, _, _, hb⟩
     exact ⟨N, rfl, hb⟩
 · cases h

/-- Texts that are read, one cell each. -/
theorem strs_cells {w : World} {A : Option Addr} {xs : List ByteArray} (h : Kd.C Kd.string w A xs.length xs) (hx : xs ≠ []) :
   ∃ b o, A = some ⟨b, o, none⟩ ∧ b < w.heap.size ∧ ∀ (j : Nat) x, xs[j]? = some x → w.cell? ⟨b, o + j, none⟩ = some (.string x) := by
 have hp : 0 < xs.length := List.length_pos_iff.mpr hx
 obtain ⟨ad, rfl, hc⟩ := h.2.2 hp
 have one : ∀ (j : Nat) x, xs[j]? = some x → w.cell? (ad.add j) = some (.string x) := by
   intro j x hj
   obtain ⟨c, hs, hk, hcell⟩ := hc j x hj
   have hk' : c = [Value.string x] := hk
   subst hk'
   have := hcell 0 _ rfl
   simpa [Kd.string, Kd.scalar] using this
 have h0 := one 0 _ (List.getElem?_eq_getElem hp)
 have hs : ad.spot = none := by
   have h1 : w.cell? ad = some (.string xs[0]) := by simpa [Addr.add] using h0
   unfold World.cell? at h1
   split at h1
   · split at h1
     · cases h1
     · next hn => simpa using hn
   · cases h1
 obtain ⟨b, o, sp⟩ := ad
 obtain rfl : sp = none := hs
 refine ⟨b, o, rfl, ?_, ?_⟩
 · have := World.block_lt_of_cell? _ _ h0
   simpa [Addr.add] using this
 · intro j x hj
   have := one j x hj
   unfold Addr.add at this
   split at this
   · next hj0 => subst hj0; exact this
   · exact this

def strings_Join.f (l0 : List ByteArray) (a1 : ByteArray) : Option ByteArray :=
 if l0.length ≤ 140737488355328 then
   (if (Lib.join (l0.map (·.data.toList)) a1.data.toList).length ≤ 140737488355328 then some ⟨(Lib.join (l0.map (·.data.toList)) a1.data.toList).toArray⟩ else none)
 else none

theorem strings_Join.calls (A0 : Option Addr) (c0 : Nat) (l0 : List ByteArray) (a1 : ByteArray) (r : ByteArray) (w : World) (hr0 : Kd.C Kd.string w A0 l0.length l0) (hc0 : l0.length ≤ c0) (h : strings_Join.f l0 a1 = some r) :
   Calls Tryd.prog 94 #[.slice A0 l0.length c0, .string a1] w fun e w' => e = .returned (.string r) ∧ Below w.heap.size w w' := by
 unfold strings_Join.f at h
 split at h
 · split at h
   · next hN hl =>
     obtain rfl := Option.some.inj h
     by_cases hx : l0 = []
     · subst hx
       refine (Tryd.strings_Join_none A0 c0 a1 w).mono ?_
       rintro e w' ⟨rfl, rfl⟩
       exact ⟨rfl, Below.refl _ _⟩
     · obtain ⟨b, o, rfl, hb, hcells⟩ := strs_cells hr0 hx
       exact (Tryd.strings_Join b o c0 l0 a1 w hcells hb hN hc0 hl).mono fun e w' h => h
   · cases h
 · cases h

end Go.Proofs.YtoloblgjlnhioaaDoor.P
