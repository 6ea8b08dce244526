/- A part of the claim. -/
import Derived.Test.YtjkngiciigdheaaGreatDoorKFx0
namespace Go.Proofs.YtjkngiciigdheaaGreatDoor.K
open Go.RowKit Go.Proofs.YtjkngiciigdheaaGreatDoorW.St Go.Proofs.YtjkngiciigdheaaGreatDoorW.PrintWords Go.Proofs.YtjkngiciigdheaaGreatDoorW.PrintLast Go.Proofs.YtjkngiciigdheaaGreatDoorW.PrintMore
set_option linter.unusedVariables false
set_option linter.unusedSimpArgs false
def strconv_Itoa.f (a0 : Int) : Option ByteArray := if -9223372036854775808 ≤ a0 then (if a0 ≤ 9223372036854775807 then some ⟨(Lib.itoa a0).toArray⟩ else none) else none
theorem callable_of {f : Nat} {fn : Func} (h1 : TE.P.funcs[f]? = some fn) (h2 : (fn.name == "runtime.NumGoroutine") = false) (h3 : fn.body.isSome = true) : Callable TE.P f := ⟨fn, h1, h2, h3⟩
theorem strconv_Itoa.ctr (a0 : Int) (r : ByteArray) (h : strconv_Itoa.f a0 = some r) : Ctr TE 124 none [.v (.int .i64 a0)] [.ro (.v (.string r))] [] := by
 unfold strconv_Itoa.f at h
 split at h
 · split at h
   · next h0 h1 =>
     obtain rfl := Option.some.inj h
     refine ctr_given (callable_of Tryz.func124 (by kernel_rfl) (by kernel_rfl)) (fun w ro g vals hL hp => ?_)
     obtain ⟨u, q, rfl, hu, rfl⟩ := hp
     obtain rfl : u = .int .i64 a0 := (show u = .int .i64 a0 ∧ _ from hu).1
     refine (Tryz.strconv_Itoa a0 h0 h1 w hL.1).mono ?_
     rintro e w' ⟨rfl, k, os, rfl⟩
     exact ⟨[_], rfl, Lib.below_grow _ w (Nat.le_refl _) k os, _, [], rfl, ⟨rfl, rfl⟩, rfl⟩
   · cases h
 · cases h
def strconv_Atoi.f (a0 : ByteArray) : Option (Int × Option Int) :=
 if a0.size ≤ 281474976710656 then
  (match Lib.atoiAll a0.data.toList with
  | .ok v => some (v, none)
  | Lib.NumEnd.syntax => some (0, some 0)
  | .range => some (Lib.atoiSat a0.data.toList, some 0))
 else none
theorem strconv_Atoi.ctr (a0 : ByteArray) (r1 : Int) (r2 : Option Int) (h : strconv_Atoi.f a0 = some (r1, r2)) : Ctr TE 126 none [.v (.string a0)] [.ro (.v (.int .i64 r1)), .ro (.er r2.isNone)] [] := by
 unfold strconv_Atoi.f at h
 split at h
 · next hs =>
   refine ctr_given (callable_of Tryz.func126 (by kernel_rfl) (by kernel_rfl)) (fun w ro g vals hL hp => ?_)
   obtain ⟨u, q, rfl, hu, rfl⟩ := hp
   obtain rfl : u = .string a0 := (show u = .string a0 ∧ _ from hu).1
   obtain ⟨_, ⟨t2, p2, h2⟩, ⟨t3, p3, h3⟩, _⟩ := hL
   split at h
   · next v hv =>
     simp only [Option.some.injEq, Prod.mk.injEq] at h
     obtain ⟨rfl, rfl⟩ := h
     refine (Tryz.strconv_Atoi_ok a0 (by omega) v hv w).mono ?_
     rintro e w' ⟨rfl, hw⟩
     refine ⟨[.int .i64 v, .nilIface], rfl, ?_, _, _, rfl, ⟨rfl, rfl⟩, _, [], rfl, ⟨rfl, .inl ⟨rfl, rfl⟩⟩, rfl⟩
     rcases hw with rfl | ⟨t, rfl⟩
     · exact Below.refl _ _
     · exact Lib.bytesWorld_below _ _ _
   · next hv =>
     simp only [Option.some.injEq, Prod.mk.injEq] at h
     obtain ⟨rfl, rfl⟩ := h
     refine (Tryz.strconv_Atoi_syntax a0 hs hv _ w h2 (.inr ⟨_, _, rfl⟩)).mono ?_
     rintro e w' ⟨N, rfl, _, _, hb⟩
     exact ⟨[_, _], rfl, hb, _, _, rfl, ⟨rfl, rfl⟩, _, [], rfl, ⟨rfl, .inr ⟨rfl, _, _, rfl⟩⟩, rfl⟩
   · next hv =>
     simp only [Option.some.injEq, Prod.mk.injEq] at h
     obtain ⟨rfl, rfl⟩ := h
     refine (Tryz.strconv_Atoi_range a0 hs hv _ w h3 (.inr ⟨_, _, rfl⟩)).mono ?_
     rintro e w' ⟨N, rfl, _, _, hb⟩
     exact ⟨[_, _], rfl, hb, _, _, rfl, ⟨rfl, rfl⟩, _, [], rfl, ⟨rfl, .inr ⟨rfl, _, _, rfl⟩⟩, rfl⟩
 · cases h
def strings_Join.f (l0 : List ByteArray) (a1 : ByteArray) : Option ByteArray :=
 if l0.length ≤ 140737488355328 then
  (if (Lib.join (l0.map (·.data.toList)) a1.data.toList).length ≤ 140737488355328 then some ⟨(Lib.join (l0.map (·.data.toList)) a1.data.toList).toArray⟩ else none)
 else none
theorem strings_Join.ctr (l0 : List ByteArray) (a1 : ByteArray) (r : ByteArray) (h : strings_Join.f l0 a1 = some r) : Ctr TE 125 none [.sl 1 (rX cS l0), .v (.string a1)] [.ro (.v (.string r))] [] := by
 unfold strings_Join.f at h
 split at h
 · split at h
   · next hN hl =>
     obtain rfl := Option.some.inj h
     refine ctr_given (callable_of Tryz.func125 (by kernel_rfl) (by kernel_rfl)) (fun w ro g vals hL hp => ?_)
     obtain ⟨u, q, rfl, hu, u2, q2, rfl, hu2, rfl⟩ := hp
     obtain rfl : u2 = .string a1 := (show u2 = .string a1 ∧ _ from hu2).1
     obtain ⟨A0, c0, rfl, hc0, hx⟩ := rS_cells hu
     by_cases hx0 : l0 = []
     · subst hx0
       refine (Tryz.strings_Join_none A0 c0 a1 w).mono ?_
       rintro e w' ⟨rfl, rfl⟩
       exact ⟨[_], rfl, Below.refl _ _, _, [], rfl, ⟨rfl, rfl⟩, rfl⟩
     · obtain ⟨b, o, rfl, hb, hcells⟩ := hx hx0
       refine (Tryz.strings_Join b o c0 l0 a1 w hcells hb hN hc0 hl).mono fun e w' h => ?_
       obtain ⟨rfl, hb⟩ := h
       exact ⟨[_], rfl, hb, _, [], rfl, ⟨rfl, rfl⟩, rfl⟩
   · cases h
 · cases h
end Go.Proofs.YtjkngiciigdheaaGreatDoor.K
