/- A part of the claim. -/
import Derived.Test.YtoloblgjlnhioaaDoorProg
import Derived.Test.YtoloblgjlnhioaaDoorHFS2
import Derived.Test.YtoloblgjlnhioaaDoorHFSg2
import Derived.Test.YtoloblgjlnhioaaDoorHFW1
-- PRINTED by print.py (a twelfth state) out of the translation. Not trusted: Lean checks it.
namespace Go.Proofs.YtoloblgjlnhioaaDoor.H
open Go.RowKit Go.Proofs.YtoloblgjlnhioaaDoorW.St Go.Proofs.YtoloblgjlnhioaaDoorW.PrintWords Go.Proofs.YtoloblgjlnhioaaDoorW.PrintLast Go.Proofs.YtoloblgjlnhioaaDoorW.PrintMore
attribute [local go_sem] max2_int min2_int max_two min_two max_three min_three max_four min_four   -- for this text's walks alone
set_option linter.unusedVariables false
set_option linter.unusedSimpArgs false
def errW : Option Int → Value
  | none => .nilIface
  | some c => .iface 0 (.int .i64 c)
theorem errW_none : errW none = .nilIface := rfl
theorem errW_some (c : Int) : errW (some c) = .iface 0 (.int .i64 c) := rfl
-- the values' own types
structure S77 where
  f0 : Int
  f1 : (List S77)
def z77 : S77 := ⟨(0 : Int), ([] : List S77)⟩
def rd_T77 (xs : List S77) (i : Int) : S77 := xs.getD i.toNat z77
def rd_L2 (xs : List (List S77)) (i : Int) : (List S77) := xs.getD i.toNat ([] : List S77)
structure S62 where
  f0 : Int
  f1 : (List S62)
def z62 : S62 := ⟨(0 : Int), ([] : List S62)⟩
def rd_T62 (xs : List S62) (i : Int) : S62 := xs.getD i.toNat z62
def rd_L4 (xs : List (List S62)) (i : Int) : (List S62) := xs.getD i.toNat ([] : List S62)
mutual
def c77 : S77 → List AV
 | ⟨f_0, f_1⟩ => [.v (.int .i64 f_0), .sl 2 (r77 f_1)]
def r77 : List S77 → List (List AV)
 | [] => []
 | x :: xs => c77 x :: r77 xs
end
theorem r77_eq : ∀ xs, r77 xs = rX c77 xs
 | [] => by simp [r77, rX]
 | x :: xs => by simp [r77, rX, r77_eq xs]
theorem c77_eq (x : S77) : c77 x = [.v (.int .i64 x.f0), .sl 2 (r77 x.f1)] := by cases x; simp [c77]
theorem r77_get {xs : List S77} {i : Int} (h0 : 0 ≤ i) (h1 : i < (xs.length : Int)) : (r77 xs).getD i.toNat [] = [.v (.int .i64 (rd_T77 xs i).f0), .sl 2 (r77 (rd_T77 xs i).f1)] := by rw [r77_eq, rX_get c77 xs i z77 h0 h1, c77_eq]; rfl
theorem r77_at {xs : List S77} {i : Int} (h0 : 0 ≤ i) (h1 : i < (xs.length : Int)) : (r77 xs)[i.toNat]? = some [.v (.int .i64 (rd_T77 xs i).f0), .sl 2 (r77 (rd_T77 xs i).f1)] := by rw [r77_eq, rX_at c77 xs i z77 h0 h1, c77_eq]; rfl
mutual
def c62 : S62 → List AV
 | ⟨f_0, f_1⟩ => [.v (.int .i64 f_0), .sl 2 (r62 f_1)]
def r62 : List S62 → List (List AV)
 | [] => []
 | x :: xs => c62 x :: r62 xs
end
theorem r62_eq : ∀ xs, r62 xs = rX c62 xs
 | [] => by simp [r62, rX]
 | x :: xs => by simp [r62, rX, r62_eq xs]
theorem c62_eq (x : S62) : c62 x = [.v (.int .i64 x.f0), .sl 2 (r62 x.f1)] := by cases x; simp [c62]
theorem r62_get {xs : List S62} {i : Int} (h0 : 0 ≤ i) (h1 : i < (xs.length : Int)) : (r62 xs).getD i.toNat [] = [.v (.int .i64 (rd_T62 xs i).f0), .sl 2 (r62 (rd_T62 xs i).f1)] := by rw [r62_eq, rX_get c62 xs i z62 h0 h1, c62_eq]; rfl
theorem r62_at {xs : List S62} {i : Int} (h0 : 0 ≤ i) (h1 : i < (xs.length : Int)) : (r62 xs)[i.toNat]? = some [.v (.int .i64 (rd_T62 xs i).f0), .sl 2 (r62 (rd_T62 xs i).f1)] := by rw [r62_eq, rX_at c62 xs i z62 h0 h1, c62_eq]; rfl
theorem gL4_get {xs : List (List (S62))} {i : Int} (h0 : 0 ≤ i) (h1 : i < (xs.length : Int)) : (rX (cV r62 2) xs).getD i.toNat [] = [.sl 2 (r62 (rd_L4 xs i))] := by rw [rX_get (cV r62 2) xs i [] h0 h1]; rfl
theorem gL4_at {xs : List (List (S62))} {i : Int} (h0 : 0 ≤ i) (h1 : i < (xs.length : Int)) : (rX (cV r62 2) xs)[i.toNat]? = some [.sl 2 (r62 (rd_L4 xs i))] := by rw [rX_at (cV r62 2) xs i [] h0 h1]; rfl
theorem gL2_get {xs : List (List (S77))} {i : Int} (h0 : 0 ≤ i) (h1 : i < (xs.length : Int)) : (rX (cV r77 2) xs).getD i.toNat [] = [.sl 2 (r77 (rd_L2 xs i))] := by rw [rX_get (cV r77 2) xs i [] h0 h1]; rfl
theorem gL2_at {xs : List (List (S77))} {i : Int} (h0 : 0 ≤ i) (h1 : i < (xs.length : Int)) : (rX (cV r77 2) xs)[i.toNat]? = some [.sl 2 (r77 (rd_L2 xs i))] := by rw [rX_at (cV r77 2) xs i [] h0 h1]; rfl
def TT : List (Nat × Ty) := [(3, ⟨.int .i64, 1, 8, (.int .i64 0)⟩), (4, ⟨.bool, 1, 1, (.bool false)⟩), (5, ⟨.int .u8, 1, 1, (.int .u8 0)⟩), (9, ⟨.str, 1, 16, (.string ⟨#[]⟩)⟩), (22, ⟨.slice 9, 1, 24, (.slice none 0 0)⟩), (25, ⟨.slice 3, 1, 24, (.slice none 0 0)⟩), (37, ⟨.slice 5, 1, 24, (.slice none 0 0)⟩), (60, ⟨.slice 62, 1, 24, (.slice none 0 0)⟩), (62, ⟨.strct [(0, 3), (1, 60)], 2, 32, (.agg #[(.int .i64 0), (.slice none 0 0)])⟩), (75, ⟨.slice 77, 1, 24, (.slice none 0 0)⟩), (77, ⟨.strct [(0, 3), (1, 75)], 2, 32, (.agg #[(.int .i64 0), (.slice none 0 0)])⟩), (123, ⟨.strct [(0, 9), (1, 3), (2, 4)], 3, 32, (.agg #[(.string ⟨#[]⟩), (.int .i64 0), (.bool false)])⟩), (136, ⟨.ifc, 1, 16, .nilIface⟩)]
theorem tok : TOk Tryd.prog TT := TOk.cons 3 ⟨.int .i64, 1, 8, (.int .i64 0)⟩ (by kernel_rfl) (by kernel_rfl) (TOk.cons 4 ⟨.bool, 1, 1, (.bool false)⟩ (by kernel_rfl) (by kernel_rfl) (TOk.cons 5 ⟨.int .u8, 1, 1, (.int .u8 0)⟩ (by kernel_rfl) (by kernel_rfl) (TOk.cons 9 ⟨.str, 1, 16, (.string ⟨#[]⟩)⟩ (by kernel_rfl) (by kernel_rfl) (TOk.cons 22 ⟨.slice 9, 1, 24, (.slice none 0 0)⟩ (by kernel_rfl) (by kernel_rfl) (TOk.cons 25 ⟨.slice 3, 1, 24, (.slice none 0 0)⟩ (by kernel_rfl) (by kernel_rfl) (TOk.cons 37 ⟨.slice 5, 1, 24, (.slice none 0 0)⟩ (by kernel_rfl) (by kernel_rfl) (TOk.cons 60 ⟨.slice 62, 1, 24, (.slice none 0 0)⟩ (by kernel_rfl) (by kernel_rfl) (TOk.cons 62 ⟨.strct [(0, 3), (1, 60)], 2, 32, (.agg #[(.int .i64 0), (.slice none 0 0)])⟩ (by kernel_rfl) (by kernel_rfl) (TOk.cons 75 ⟨.slice 77, 1, 24, (.slice none 0 0)⟩ (by kernel_rfl) (by kernel_rfl) (TOk.cons 77 ⟨.strct [(0, 3), (1, 75)], 2, 32, (.agg #[(.int .i64 0), (.slice none 0 0)])⟩ (by kernel_rfl) (by kernel_rfl) (TOk.cons 123 ⟨.strct [(0, 9), (1, 3), (2, 4)], 3, 32, (.agg #[(.string ⟨#[]⟩), (.int .i64 0), (.bool false)])⟩ (by kernel_rfl) (by kernel_rfl) (TOk.cons 136 ⟨.ifc, 1, 16, .nilIface⟩ (by kernel_rfl) (by kernel_rfl) (TOk.nil _)))))))))))))
noncomputable def TE : Env := ⟨Tryd.prog, TT, Sg.LaidW, Sg.LaidL, tok, Sg.LaidW.size, Sg.LaidW.stay, by kernel_rfl⟩
theorem KD {p : Prop} (h : p := by
  repeat' first
    | with_reducible assumption
    | exact trivial
    | with_reducible exact chk_of (by kernel_rfl)
    | with_reducible exact chk_of2 (by kernel_rfl)
    | with_reducible exact chk_of3 (by kernel_rfl)
    | exact rfl
    | assumption
    | refine And.intro ?_ ?_
    | refine Exists.intro _ (And.intro rfl ?_)
    | exact congrArg AV.rf (r77_get (by first | omega | assumption) (by first | omega | assumption))
    | exact (r77_at (by first | omega | assumption) (by first | omega | assumption))
    | exact congrArg AV.rf (r62_get (by first | omega | assumption) (by first | omega | assumption))
    | exact (r62_at (by first | omega | assumption) (by first | omega | assumption))
    | exact congrArg AV.rf (gL4_get (by first | omega | assumption) (by first | omega | assumption))
    | exact (gL4_at (by first | omega | assumption) (by first | omega | assumption))
    | exact congrArg AV.rf (gL2_get (by first | omega | assumption) (by first | omega | assumption))
    | exact (gL2_at (by first | omega | assumption) (by first | omega | assumption))
    | exact congrArg AV.rf (rI_get (by first | omega | assumption) (by first | omega | assumption))
    | exact (rI_at (by first | omega | assumption) (by first | omega | assumption))
    | exact congrArg AV.rf (rS_get (by first | omega | assumption) (by first | omega | assumption))
    | exact (rS_at (by first | omega | assumption) (by first | omega | assumption))
    | exact congrArg AV.rf (rB_get (by first | omega | assumption) (by first | omega | assumption))
    | exact (rB_at (by first | omega | assumption) (by first | omega | assumption))
    | exact congrArg (AV.sl _) (rX_drop _ _ _).symm
    | exact (rX_rep cS _ _).symm
    | exact (rX_rep cB _ _).symm
    | exact congrArg (AV.sl _) (rX_take _ _ _).symm
    | exact decide_eq_true (by first | assumption | omega)
    | exact decide_eq_false (by first | assumption | omega)
    | exact beq_iff_eq.mpr (by first | assumption | omega)
    | exact beq_eq_false_iff_ne.mpr (by first | assumption | omega)
    | exact bne_iff_ne.mpr (by first | assumption | omega)
    | exact bne_eq_false_iff_eq.mpr (by first | assumption | omega)
    | exact eq_false_of_ne_true (by assumption)
    | exact congrArg (fun z => AV.v (.int _ z)) (wr_id (by omega) (by omega))
    | exact congrArg (fun z => AV.pt _ _ z) (by omega)
    | omega
    | exact congrArg Value.bool (by first | rfl | (simp only [ba_toList]; done) | (simp only [ba_toList]; rfl) | (simp [ba_toList, *]; done))
    | (simp only [wr_i64, wr_u8, ba_toList, ba_size, ByteArray.size_append, rX_length, rX_append, rX_take, rX_drop, rX_set, rX_rep, rX_nil, rX_cons, cI, cS, cB, cL, r77_eq, r62_eq, c77_eq, c62_eq]; first | assumption | omega)
    | (simp only [wr_i64, wr_u8, ba_toList, ba_size, ByteArray.size_append, rX_length, rX_append, rX_take, rX_drop, rX_set, rX_rep, rX_nil, rX_cons, cI, cS, cB, cL, r77_eq, r62_eq, c77_eq, c62_eq, *]; done)
    | (simp [wr_i64, wr_u8, ba_toList, ba_size, ByteArray.size_append, rX_length, rX_append, rX_take, rX_drop, rX_set, rX_rep, rX_nil, rX_cons, cI, cS, cB, cL, r77_eq, r62_eq, c77_eq, c62_eq, *]; done)
    | (simp only [wr_i64, wr_u8, ba_toList, ba_size, ByteArray.size_append, rX_length, rX_append, rX_take, rX_drop, rX_set, rX_rep, rX_nil, rX_cons, cI, cS, cB, cL, r77_eq, r62_eq, c77_eq, c62_eq, List.length_cons, List.length_nil, List.length_append]; omega)
    | (simp [wr_i64, wr_u8, ba_toList, ba_size, ByteArray.size_append, rX_length, rX_append, rX_take, rX_drop, rX_set, rX_rep, rX_nil, rX_cons, cI, cS, cB, cL, r77_eq, r62_eq, c77_eq, c62_eq, *]; omega)
    | (simp only [rX_length, List.length_cons, List.length_nil, List.length_drop, List.length_append] at *; omega)) : p := h
end Go.Proofs.YtoloblgjlnhioaaDoor.H
