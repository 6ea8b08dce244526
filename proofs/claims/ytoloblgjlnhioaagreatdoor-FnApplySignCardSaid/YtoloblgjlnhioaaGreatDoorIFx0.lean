/- A part of the claim. -/
import Derived.Test.YtoloblgjlnhioaaGreatDoorProg
import Derived.Test.YtoloblgjlnhioaaGreatDoorIFS2
import Derived.Test.YtoloblgjlnhioaaGreatDoorIFSg2
import Derived.Test.YtoloblgjlnhioaaGreatDoorIFW1
-- PRINTED by print.py (a twelfth state) out of the translation. Not trusted: Lean checks it.
namespace Go.Proofs.YtoloblgjlnhioaaGreatDoor.I
open Go.RowKit Go.Proofs.YtoloblgjlnhioaaGreatDoorW.St Go.Proofs.YtoloblgjlnhioaaGreatDoorW.PrintWords Go.Proofs.YtoloblgjlnhioaaGreatDoorW.PrintLast Go.Proofs.YtoloblgjlnhioaaGreatDoorW.PrintMore
attribute [local go_sem] max2_int min2_int max_two min_two max_three min_three max_four min_four   -- for this text's walks alone
set_option linter.unusedVariables false
set_option linter.unusedSimpArgs false
def errW : Option Int → Value
  | none => .nilIface
  | some c => .iface 0 (.int .i64 c)
theorem errW_none : errW none = .nilIface := rfl
theorem errW_some (c : Int) : errW (some c) = .iface 0 (.int .i64 c) := rfl
-- the values' own types
structure S68 where
  f0 : Int
  f1 : (List S68)
def z68 : S68 := ⟨(0 : Int), ([] : List S68)⟩
def rd_T68 (xs : List S68) (i : Int) : S68 := xs.getD i.toNat z68
def rd_L2 (xs : List (List S68)) (i : Int) : (List S68) := xs.getD i.toNat ([] : List S68)
structure S79 where
  f0 : Int
  f1 : (List S79)
def z79 : S79 := ⟨(0 : Int), ([] : List S79)⟩
def rd_T79 (xs : List S79) (i : Int) : S79 := xs.getD i.toNat z79
def rd_L4 (xs : List (List S79)) (i : Int) : (List S79) := xs.getD i.toNat ([] : List S79)
def rd_L5 (xs : List (List Int)) (i : Int) : (List Int) := xs.getD i.toNat ([] : List Int)
mutual
def c68 : S68 → List AV
 | ⟨f_0, f_1⟩ => [.v (.int .i64 f_0), .sl 2 (r68 f_1)]
def r68 : List S68 → List (List AV)
 | [] => []
 | x :: xs => c68 x :: r68 xs
end
theorem r68_eq : ∀ xs, r68 xs = rX c68 xs
 | [] => by simp [r68, rX]
 | x :: xs => by simp [r68, rX, r68_eq xs]
theorem c68_eq (x : S68) : c68 x = [.v (.int .i64 x.f0), .sl 2 (r68 x.f1)] := by cases x; simp [c68]
theorem r68_get {xs : List S68} {i : Int} (h0 : 0 ≤ i) (h1 : i < (xs.length : Int)) : (r68 xs).getD i.toNat [] = [.v (.int .i64 (rd_T68 xs i).f0), .sl 2 (r68 (rd_T68 xs i).f1)] := by rw [r68_eq, rX_get c68 xs i z68 h0 h1, c68_eq]; rfl
theorem r68_at {xs : List S68} {i : Int} (h0 : 0 ≤ i) (h1 : i < (xs.length : Int)) : (r68 xs)[i.toNat]? = some [.v (.int .i64 (rd_T68 xs i).f0), .sl 2 (r68 (rd_T68 xs i).f1)] := by rw [r68_eq, rX_at c68 xs i z68 h0 h1, c68_eq]; rfl
mutual
def c79 : S79 → List AV
 | ⟨f_0, f_1⟩ => [.v (.int .i64 f_0), .sl 2 (r79 f_1)]
def r79 : List S79 → List (List AV)
 | [] => []
 | x :: xs => c79 x :: r79 xs
end
theorem r79_eq : ∀ xs, r79 xs = rX c79 xs
 | [] => by simp [r79, rX]
 | x :: xs => by simp [r79, rX, r79_eq xs]
theorem c79_eq (x : S79) : c79 x = [.v (.int .i64 x.f0), .sl 2 (r79 x.f1)] := by cases x; simp [c79]
theorem r79_get {xs : List S79} {i : Int} (h0 : 0 ≤ i) (h1 : i < (xs.length : Int)) : (r79 xs).getD i.toNat [] = [.v (.int .i64 (rd_T79 xs i).f0), .sl 2 (r79 (rd_T79 xs i).f1)] := by rw [r79_eq, rX_get c79 xs i z79 h0 h1, c79_eq]; rfl
theorem r79_at {xs : List S79} {i : Int} (h0 : 0 ≤ i) (h1 : i < (xs.length : Int)) : (r79 xs)[i.toNat]? = some [.v (.int .i64 (rd_T79 xs i).f0), .sl 2 (r79 (rd_T79 xs i).f1)] := by rw [r79_eq, rX_at c79 xs i z79 h0 h1, c79_eq]; rfl
theorem gL5_get {xs : List (List Int)} {i : Int} (h0 : 0 ≤ i) (h1 : i < (xs.length : Int)) : (rX (cL (cI .i64) 1) xs).getD i.toNat [] = [.sl 1 (rX (cI .i64) (rd_L5 xs i))] := by rw [rX_get (cL (cI .i64) 1) xs i [] h0 h1]; rfl
theorem gL5_at {xs : List (List Int)} {i : Int} (h0 : 0 ≤ i) (h1 : i < (xs.length : Int)) : (rX (cL (cI .i64) 1) xs)[i.toNat]? = some [.sl 1 (rX (cI .i64) (rd_L5 xs i))] := by rw [rX_at (cL (cI .i64) 1) xs i [] h0 h1]; rfl
theorem gL2_get {xs : List (List (S68))} {i : Int} (h0 : 0 ≤ i) (h1 : i < (xs.length : Int)) : (rX (cV r68 2) xs).getD i.toNat [] = [.sl 2 (r68 (rd_L2 xs i))] := by rw [rX_get (cV r68 2) xs i [] h0 h1]; rfl
theorem gL2_at {xs : List (List (S68))} {i : Int} (h0 : 0 ≤ i) (h1 : i < (xs.length : Int)) : (rX (cV r68 2) xs)[i.toNat]? = some [.sl 2 (r68 (rd_L2 xs i))] := by rw [rX_at (cV r68 2) xs i [] h0 h1]; rfl
theorem gL4_get {xs : List (List (S79))} {i : Int} (h0 : 0 ≤ i) (h1 : i < (xs.length : Int)) : (rX (cV r79 2) xs).getD i.toNat [] = [.sl 2 (r79 (rd_L4 xs i))] := by rw [rX_get (cV r79 2) xs i [] h0 h1]; rfl
theorem gL4_at {xs : List (List (S79))} {i : Int} (h0 : 0 ≤ i) (h1 : i < (xs.length : Int)) : (rX (cV r79 2) xs)[i.toNat]? = some [.sl 2 (r79 (rd_L4 xs i))] := by rw [rX_at (cV r79 2) xs i [] h0 h1]; rfl
def TT : List (Nat × Ty) := [(3, ⟨.int .i64, 1, 8, (.int .i64 0)⟩), (4, ⟨.bool, 1, 1, (.bool false)⟩), (5, ⟨.int .u8, 1, 1, (.int .u8 0)⟩), (9, ⟨.str, 1, 16, (.string ⟨#[]⟩)⟩), (22, ⟨.slice 5, 1, 24, (.slice none 0 0)⟩), (23, ⟨.slice 9, 1, 24, (.slice none 0 0)⟩), (26, ⟨.slice 27, 1, 24, (.slice none 0 0)⟩), (27, ⟨.slice 3, 1, 24, (.slice none 0 0)⟩), (66, ⟨.slice 68, 1, 24, (.slice none 0 0)⟩), (68, ⟨.strct [(0, 3), (1, 66)], 2, 32, (.agg #[(.int .i64 0), (.slice none 0 0)])⟩), (76, ⟨.slice 79, 1, 24, (.slice none 0 0)⟩), (79, ⟨.strct [(0, 3), (1, 76)], 2, 32, (.agg #[(.int .i64 0), (.slice none 0 0)])⟩), (106, ⟨.ifc, 1, 16, .nilIface⟩), (112, ⟨.strct [(0, 22), (1, 3)], 2, 32, (.agg #[(.slice none 0 0), (.int .i64 0)])⟩), (134, ⟨.strct [(0, 9), (1, 3), (2, 4)], 3, 32, (.agg #[(.string ⟨#[]⟩), (.int .i64 0), (.bool false)])⟩)]
theorem tok : TOk Tryz.prog TT := TOk.cons 3 ⟨.int .i64, 1, 8, (.int .i64 0)⟩ (by kernel_rfl) (by kernel_rfl) (TOk.cons 4 ⟨.bool, 1, 1, (.bool false)⟩ (by kernel_rfl) (by kernel_rfl) (TOk.cons 5 ⟨.int .u8, 1, 1, (.int .u8 0)⟩ (by kernel_rfl) (by kernel_rfl) (TOk.cons 9 ⟨.str, 1, 16, (.string ⟨#[]⟩)⟩ (by kernel_rfl) (by kernel_rfl) (TOk.cons 22 ⟨.slice 5, 1, 24, (.slice none 0 0)⟩ (by kernel_rfl) (by kernel_rfl) (TOk.cons 23 ⟨.slice 9, 1, 24, (.slice none 0 0)⟩ (by kernel_rfl) (by kernel_rfl) (TOk.cons 26 ⟨.slice 27, 1, 24, (.slice none 0 0)⟩ (by kernel_rfl) (by kernel_rfl) (TOk.cons 27 ⟨.slice 3, 1, 24, (.slice none 0 0)⟩ (by kernel_rfl) (by kernel_rfl) (TOk.cons 66 ⟨.slice 68, 1, 24, (.slice none 0 0)⟩ (by kernel_rfl) (by kernel_rfl) (TOk.cons 68 ⟨.strct [(0, 3), (1, 66)], 2, 32, (.agg #[(.int .i64 0), (.slice none 0 0)])⟩ (by kernel_rfl) (by kernel_rfl) (TOk.cons 76 ⟨.slice 79, 1, 24, (.slice none 0 0)⟩ (by kernel_rfl) (by kernel_rfl) (TOk.cons 79 ⟨.strct [(0, 3), (1, 76)], 2, 32, (.agg #[(.int .i64 0), (.slice none 0 0)])⟩ (by kernel_rfl) (by kernel_rfl) (TOk.cons 106 ⟨.ifc, 1, 16, .nilIface⟩ (by kernel_rfl) (by kernel_rfl) (TOk.cons 112 ⟨.strct [(0, 22), (1, 3)], 2, 32, (.agg #[(.slice none 0 0), (.int .i64 0)])⟩ (by kernel_rfl) (by kernel_rfl) (TOk.cons 134 ⟨.strct [(0, 9), (1, 3), (2, 4)], 3, 32, (.agg #[(.string ⟨#[]⟩), (.int .i64 0), (.bool false)])⟩ (by kernel_rfl) (by kernel_rfl) (TOk.nil _)))))))))))))))
noncomputable def TE : Env := ⟨Tryz.prog, TT, Sg.LaidW, Sg.LaidL, tok, Sg.LaidW.size, Sg.LaidW.stay, by kernel_rfl⟩
theorem KD {p : Prop} (h : p := by
  repeat' first
    | with_reducible assumption
    | exact trivial
    | with_reducible exact chk_of (by kernel_rfl)
    | with_reducible exact chk_of2 (by kernel_rfl)
    | with_reducible exact chk_of3 (by kernel_rfl)
    | exact rfl
    | assumption
    | refine And.intro ?_ ?_
    | refine Exists.intro _ (And.intro rfl ?_)
    | exact congrArg AV.rf (r68_get (by first | omega | assumption) (by first | omega | assumption))
    | exact (r68_at (by first | omega | assumption) (by first | omega | assumption))
    | exact congrArg AV.rf (r79_get (by first | omega | assumption) (by first | omega | assumption))
    | exact (r79_at (by first | omega | assumption) (by first | omega | assumption))
    | exact congrArg AV.rf (gL5_get (by first | omega | assumption) (by first | omega | assumption))
    | exact (gL5_at (by first | omega | assumption) (by first | omega | assumption))
    | exact congrArg AV.rf (gL2_get (by first | omega | assumption) (by first | omega | assumption))
    | exact (gL2_at (by first | omega | assumption) (by first | omega | assumption))
    | exact congrArg AV.rf (gL4_get (by first | omega | assumption) (by first | omega | assumption))
    | exact (gL4_at (by first | omega | assumption) (by first | omega | assumption))
    | exact congrArg AV.rf (rI_get (by first | omega | assumption) (by first | omega | assumption))
    | exact (rI_at (by first | omega | assumption) (by first | omega | assumption))
    | exact congrArg AV.rf (rS_get (by first | omega | assumption) (by first | omega | assumption))
    | exact (rS_at (by first | omega | assumption) (by first | omega | assumption))
    | exact congrArg AV.rf (rB_get (by first | omega | assumption) (by first | omega | assumption))
    | exact (rB_at (by first | omega | assumption) (by first | omega | assumption))
    | exact congrArg (AV.sl _) (rX_drop _ _ _).symm
    | exact (rX_rep cS _ _).symm
    | exact (rX_rep cB _ _).symm
    | exact congrArg (AV.sl _) (rX_take _ _ _).symm
    | exact decide_eq_true (by first | assumption | omega)
    | exact decide_eq_false (by first | assumption | omega)
    | exact beq_iff_eq.mpr (by first | assumption | omega)
    | exact beq_eq_false_iff_ne.mpr (by first | assumption | omega)
    | exact bne_iff_ne.mpr (by first | assumption | omega)
    | exact bne_eq_false_iff_eq.mpr (by first | assumption | omega)
    | exact eq_false_of_ne_true (by assumption)
    | exact congrArg (fun z => AV.v (.int _ z)) (wr_id (by omega) (by omega))
    | exact congrArg (fun z => AV.pt _ _ z) (by omega)
    | omega
    | exact congrArg Value.bool (by first | rfl | (simp only [ba_toList]; done) | (simp only [ba_toList]; rfl) | (simp [ba_toList, *]; done))
    | (simp only [wr_i64, wr_u8, ba_toList, ba_size, ByteArray.size_append, rX_length, rX_append, rX_take, rX_drop, rX_set, rX_rep, rX_nil, rX_cons, cI, cS, cB, cL, r68_eq, r79_eq, c68_eq, c79_eq]; first | assumption | omega)
    | (simp only [wr_i64, wr_u8, ba_toList, ba_size, ByteArray.size_append, rX_length, rX_append, rX_take, rX_drop, rX_set, rX_rep, rX_nil, rX_cons, cI, cS, cB, cL, r68_eq, r79_eq, c68_eq, c79_eq, *]; done)
    | (simp [wr_i64, wr_u8, ba_toList, ba_size, ByteArray.size_append, rX_length, rX_append, rX_take, rX_drop, rX_set, rX_rep, rX_nil, rX_cons, cI, cS, cB, cL, r68_eq, r79_eq, c68_eq, c79_eq, *]; done)
    | (simp only [wr_i64, wr_u8, ba_toList, ba_size, ByteArray.size_append, rX_length, rX_append, rX_take, rX_drop, rX_set, rX_rep, rX_nil, rX_cons, cI, cS, cB, cL, r68_eq, r79_eq, c68_eq, c79_eq, List.length_cons, List.length_nil, List.length_append]; omega)
    | (simp [wr_i64, wr_u8, ba_toList, ba_size, ByteArray.size_append, rX_length, rX_append, rX_take, rX_drop, rX_set, rX_rep, rX_nil, rX_cons, cI, cS, cB, cL, r68_eq, r79_eq, c68_eq, c79_eq, *]; omega)
    | (simp only [rX_length, List.length_cons, List.length_nil, List.length_drop, List.length_append] at *; omega)) : p := h
end Go.Proofs.YtoloblgjlnhioaaGreatDoor.I
