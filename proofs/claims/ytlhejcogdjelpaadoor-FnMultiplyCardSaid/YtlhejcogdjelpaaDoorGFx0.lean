/- A part of the claim. -/
import Derived.Test.YtlhejcogdjelpaaDoorProg
import Derived.Test.YtlhejcogdjelpaaDoorGFS2
import Derived.Test.YtlhejcogdjelpaaDoorGFSg1
import Derived.Test.YtlhejcogdjelpaaDoorGFW1
-- PRINTED by print.py (a twelfth state) out of the translation. Not trusted: Lean checks it.
namespace Go.Proofs.YtlhejcogdjelpaaDoor.G
open Go.RowKit Go.Proofs.YtlhejcogdjelpaaDoorW.St Go.Proofs.YtlhejcogdjelpaaDoorW.PrintWords Go.Proofs.YtlhejcogdjelpaaDoorW.PrintLast Go.Proofs.YtlhejcogdjelpaaDoorW.PrintMore
attribute [local go_sem] max2_int min2_int max_two min_two max_three min_three max_four min_four   -- for this text's walks alone
set_option linter.unusedVariables false
set_option linter.unusedSimpArgs false
def errW : Option Int → Value
  | none => .nilIface
  | some c => .iface 0 (.int .i64 c)
theorem errW_none : errW none = .nilIface := rfl
theorem errW_some (c : Int) : errW (some c) = .iface 0 (.int .i64 c) := rfl
-- the values' own types
structure S55 where
  f0 : Int
  f1 : (List S55)
def z55 : S55 := ⟨(0 : Int), ([] : List S55)⟩
def rd_T55 (xs : List S55) (i : Int) : S55 := xs.getD i.toNat z55
def rd_L2 (xs : List (List S55)) (i : Int) : (List S55) := xs.getD i.toNat ([] : List S55)
def rd_L3 (xs : List (List Int)) (i : Int) : (List Int) := xs.getD i.toNat ([] : List Int)
structure S73 where
  f0 : Int
  f1 : (List S73)
def z73 : S73 := ⟨(0 : Int), ([] : List S73)⟩
def rd_T73 (xs : List S73) (i : Int) : S73 := xs.getD i.toNat z73
def rd_L5 (xs : List (List S73)) (i : Int) : (List S73) := xs.getD i.toNat ([] : List S73)
mutual
def c73 : S73 → List AV
 | ⟨f_0, f_1⟩ => [.v (.int .i64 f_0), .sl 2 (r73 f_1)]
def r73 : List S73 → List (List AV)
 | [] => []
 | x :: xs => c73 x :: r73 xs
end
theorem r73_eq : ∀ xs, r73 xs = rX c73 xs
 | [] => by simp [r73, rX]
 | x :: xs => by simp [r73, rX, r73_eq xs]
theorem c73_eq (x : S73) : c73 x = [.v (.int .i64 x.f0), .sl 2 (r73 x.f1)] := by cases x; simp [c73]
theorem r73_get {xs : List S73} {i : Int} (h0 : 0 ≤ i) (h1 : i < (xs.length : Int)) : (r73 xs).getD i.toNat [] = [.v (.int .i64 (rd_T73 xs i).f0), .sl 2 (r73 (rd_T73 xs i).f1)] := by rw [r73_eq, rX_get c73 xs i z73 h0 h1, c73_eq]; rfl
theorem r73_at {xs : List S73} {i : Int} (h0 : 0 ≤ i) (h1 : i < (xs.length : Int)) : (r73 xs)[i.toNat]? = some [.v (.int .i64 (rd_T73 xs i).f0), .sl 2 (r73 (rd_T73 xs i).f1)] := by rw [r73_eq, rX_at c73 xs i z73 h0 h1, c73_eq]; rfl
mutual
def c55 : S55 → List AV
 | ⟨f_0, f_1⟩ => [.v (.int .i64 f_0), .sl 2 (r55 f_1)]
def r55 : List S55 → List (List AV)
 | [] => []
 | x :: xs => c55 x :: r55 xs
end
theorem r55_eq : ∀ xs, r55 xs = rX c55 xs
 | [] => by simp [r55, rX]
 | x :: xs => by simp [r55, rX, r55_eq xs]
theorem c55_eq (x : S55) : c55 x = [.v (.int .i64 x.f0), .sl 2 (r55 x.f1)] := by cases x; simp [c55]
theorem r55_get {xs : List S55} {i : Int} (h0 : 0 ≤ i) (h1 : i < (xs.length : Int)) : (r55 xs).getD i.toNat [] = [.v (.int .i64 (rd_T55 xs i).f0), .sl 2 (r55 (rd_T55 xs i).f1)] := by rw [r55_eq, rX_get c55 xs i z55 h0 h1, c55_eq]; rfl
theorem r55_at {xs : List S55} {i : Int} (h0 : 0 ≤ i) (h1 : i < (xs.length : Int)) : (r55 xs)[i.toNat]? = some [.v (.int .i64 (rd_T55 xs i).f0), .sl 2 (r55 (rd_T55 xs i).f1)] := by rw [r55_eq, rX_at c55 xs i z55 h0 h1, c55_eq]; rfl
theorem gL3_get {xs : List (List Int)} {i : Int} (h0 : 0 ≤ i) (h1 : i < (xs.length : Int)) : (rX (cL (cI .i64) 1) xs).getD i.toNat [] = [.sl 1 (rX (cI .i64) (rd_L3 xs i))] := by rw [rX_get (cL (cI .i64) 1) xs i [] h0 h1]; rfl
theorem gL3_at {xs : List (List Int)} {i : Int} (h0 : 0 ≤ i) (h1 : i < (xs.length : Int)) : (rX (cL (cI .i64) 1) xs)[i.toNat]? = some [.sl 1 (rX (cI .i64) (rd_L3 xs i))] := by rw [rX_at (cL (cI .i64) 1) xs i [] h0 h1]; rfl
theorem gL2_get {xs : List (List (S55))} {i : Int} (h0 : 0 ≤ i) (h1 : i < (xs.length : Int)) : (rX (cV r55 2) xs).getD i.toNat [] = [.sl 2 (r55 (rd_L2 xs i))] := by rw [rX_get (cV r55 2) xs i [] h0 h1]; rfl
theorem gL2_at {xs : List (List (S55))} {i : Int} (h0 : 0 ≤ i) (h1 : i < (xs.length : Int)) : (rX (cV r55 2) xs)[i.toNat]? = some [.sl 2 (r55 (rd_L2 xs i))] := by rw [rX_at (cV r55 2) xs i [] h0 h1]; rfl
theorem gL5_get {xs : List (List (S73))} {i : Int} (h0 : 0 ≤ i) (h1 : i < (xs.length : Int)) : (rX (cV r73 2) xs).getD i.toNat [] = [.sl 2 (r73 (rd_L5 xs i))] := by rw [rX_get (cV r73 2) xs i [] h0 h1]; rfl
theorem gL5_at {xs : List (List (S73))} {i : Int} (h0 : 0 ≤ i) (h1 : i < (xs.length : Int)) : (rX (cV r73 2) xs)[i.toNat]? = some [.sl 2 (r73 (rd_L5 xs i))] := by rw [rX_at (cV r73 2) xs i [] h0 h1]; rfl
def TT : List (Nat × Ty) := [(3, ⟨.int .i64, 1, 8, (.int .i64 0)⟩), (4, ⟨.bool, 1, 1, (.bool false)⟩), (5, ⟨.int .u8, 1, 1, (.int .u8 0)⟩), (9, ⟨.str, 1, 16, (.string ⟨#[]⟩)⟩), (22, ⟨.slice 5, 1, 24, (.slice none 0 0)⟩), (25, ⟨.slice 3, 1, 24, (.slice none 0 0)⟩), (45, ⟨.slice 9, 1, 24, (.slice none 0 0)⟩), (53, ⟨.slice 55, 1, 24, (.slice none 0 0)⟩), (55, ⟨.strct [(0, 3), (1, 53)], 2, 32, (.agg #[(.int .i64 0), (.slice none 0 0)])⟩), (59, ⟨.slice 25, 1, 24, (.slice none 0 0)⟩), (61, ⟨.strct [(0, 59), (1, 25)], 2, 48, (.agg #[(.slice none 0 0), (.slice none 0 0)])⟩), (71, ⟨.slice 73, 1, 24, (.slice none 0 0)⟩), (73, ⟨.strct [(0, 3), (1, 71)], 2, 32, (.agg #[(.int .i64 0), (.slice none 0 0)])⟩), (88, ⟨.strct [(0, 22), (1, 3)], 2, 32, (.agg #[(.slice none 0 0), (.int .i64 0)])⟩), (103, ⟨.ifc, 1, 16, .nilIface⟩), (113, ⟨.strct [(0, 9), (1, 3), (2, 4)], 3, 32, (.agg #[(.string ⟨#[]⟩), (.int .i64 0), (.bool false)])⟩)]
theorem tok : TOk Tryd.prog TT := TOk.cons 3 ⟨.int .i64, 1, 8, (.int .i64 0)⟩ (by kernel_rfl) (by kernel_rfl) (TOk.cons 4 ⟨.bool, 1, 1, (.bool false)⟩ (by kernel_rfl) (by kernel_rfl) (TOk.cons 5 ⟨.int .u8, 1, 1, (.int .u8 0)⟩ (by kernel_rfl) (by kernel_rfl) (TOk.cons 9 ⟨.str, 1, 16, (.string ⟨#[]⟩)⟩ (by kernel_rfl) (by kernel_rfl) (TOk.cons 22 ⟨.slice 5, 1, 24, (.slice none 0 0)⟩ (by kernel_rfl) (by kernel_rfl) (TOk.cons 25 ⟨.slice 3, 1, 24, (.slice none 0 0)⟩ (by kernel_rfl) (by kernel_rfl) (TOk.cons 45 ⟨.slice 9, 1, 24, (.slice none 0 0)⟩ (by kernel_rfl) (by kernel_rfl) (TOk.cons 53 ⟨.slice 55, 1, 24, (.slice none 0 0)⟩ (by kernel_rfl) (by kernel_rfl) (TOk.cons 55 ⟨.strct [(0, 3), (1, 53)], 2, 32, (.agg #[(.int .i64 0), (.slice none 0 0)])⟩ (by kernel_rfl) (by kernel_rfl) (TOk.cons 59 ⟨.slice 25, 1, 24, (.slice none 0 0)⟩ (by kernel_rfl) (by kernel_rfl) (TOk.cons 61 ⟨.strct [(0, 59), (1, 25)], 2, 48, (.agg #[(.slice none 0 0), (.slice none 0 0)])⟩ (by kernel_rfl) (by kernel_rfl) (TOk.cons 71 ⟨.slice 73, 1, 24, (.slice none 0 0)⟩ (by kernel_rfl) (by kernel_rfl) (TOk.cons 73 ⟨.strct [(0, 3), (1, 71)], 2, 32, (.agg #[(.int .i64 0), (.slice none 0 0)])⟩ (by kernel_rfl) (by kernel_rfl) (TOk.cons 88 ⟨.strct [(0, 22), (1, 3)], 2, 32, (.agg #[(.slice none 0 0), (.int .i64 0)])⟩ (by kernel_rfl) (by kernel_rfl) (TOk.cons 103 ⟨.ifc, 1, 16, .nilIface⟩ (by kernel_rfl) (by kernel_rfl) (TOk.cons 113 ⟨.strct [(0, 9), (1, 3), (2, 4)], 3, 32, (.agg #[(.string ⟨#[]⟩), (.int .i64 0), (.bool false)])⟩ (by kernel_rfl) (by kernel_rfl) (TOk.nil _))))))))))))))))
noncomputable def TE : Env := ⟨Tryd.prog, TT, Sg.LaidW, Sg.LaidL, tok, Sg.LaidW.size, Sg.LaidW.stay, by kernel_rfl⟩
theorem KD {p : Prop} (h : p := by
  repeat' first
    | with_reducible assumption
    | exact trivial
    | with_reducible exact chk_of (by kernel_rfl)
    | with_reducible exact chk_of2 (by kernel_rfl)
    | with_reducible exact chk_of3 (by kernel_rfl)
    | exact rfl
    | assumption
    | refine And.intro ?_ ?_
    | refine Exists.intro _ (And.intro rfl ?_)
    | exact congrArg AV.rf (r73_get (by first | omega | assumption) (by first | omega | assumption))
    | exact (r73_at (by first | omega | assumption) (by first | omega | assumption))
    | exact congrArg AV.rf (r55_get (by first | omega | assumption) (by first | omega | assumption))
    | exact (r55_at (by first | omega | assumption) (by first | omega | assumption))
    | exact congrArg AV.rf (gL3_get (by first | omega | assumption) (by first | omega | assumption))
    | exact (gL3_at (by first | omega | assumption) (by first | omega | assumption))
    | exact congrArg AV.rf (gL2_get (by first | omega | assumption) (by first | omega | assumption))
    | exact (gL2_at (by first | omega | assumption) (by first | omega | assumption))
    | exact congrArg AV.rf (gL5_get (by first | omega | assumption) (by first | omega | assumption))
    | exact (gL5_at (by first | omega | assumption) (by first | omega | assumption))
    | exact congrArg AV.rf (rI_get (by first | omega | assumption) (by first | omega | assumption))
    | exact (rI_at (by first | omega | assumption) (by first | omega | assumption))
    | exact congrArg AV.rf (rS_get (by first | omega | assumption) (by first | omega | assumption))
    | exact (rS_at (by first | omega | assumption) (by first | omega | assumption))
    | exact congrArg AV.rf (rB_get (by first | omega | assumption) (by first | omega | assumption))
    | exact (rB_at (by first | omega | assumption) (by first | omega | assumption))
    | exact congrArg (AV.sl _) (rX_drop _ _ _).symm
    | exact congrArg (AV.sl _) (rX_take _ _ _).symm
    | exact decide_eq_true (by first | assumption | omega)
    | exact decide_eq_false (by first | assumption | omega)
    | exact beq_iff_eq.mpr (by first | assumption | omega)
    | exact beq_eq_false_iff_ne.mpr (by first | assumption | omega)
    | exact bne_iff_ne.mpr (by first | assumption | omega)
    | exact bne_eq_false_iff_eq.mpr (by first | assumption | omega)
    | exact congrArg (fun z => AV.v (.int _ z)) (wr_id (by omega) (by omega))
    | omega
    | exact congrArg Value.bool (by first | rfl | (simp only [ba_toList]; done) | (simp only [ba_toList]; rfl) | (simp [ba_toList, *]; done))
    | (simp only [wr_i64, wr_u8, ba_toList, ba_size, ByteArray.size_append, rX_length, rX_append, rX_take, rX_drop, rX_set, rX_rep, rX_nil, rX_cons, cI, cS, cB, cL, r73_eq, r55_eq, c73_eq, c55_eq]; first | assumption | omega)
    | (simp only [wr_i64, wr_u8, ba_toList, ba_size, ByteArray.size_append, rX_length, rX_append, rX_take, rX_drop, rX_set, rX_rep, rX_nil, rX_cons, cI, cS, cB, cL, r73_eq, r55_eq, c73_eq, c55_eq, *]; done)
    | (simp [wr_i64, wr_u8, ba_toList, ba_size, ByteArray.size_append, rX_length, rX_append, rX_take, rX_drop, rX_set, rX_rep, rX_nil, rX_cons, cI, cS, cB, cL, r73_eq, r55_eq, c73_eq, c55_eq, *]; done)
    | (simp only [wr_i64, wr_u8, ba_toList, ba_size, ByteArray.size_append, rX_length, rX_append, rX_take, rX_drop, rX_set, rX_rep, rX_nil, rX_cons, cI, cS, cB, cL, r73_eq, r55_eq, c73_eq, c55_eq, List.length_cons, List.length_nil, List.length_append]; omega)
    | (simp [wr_i64, wr_u8, ba_toList, ba_size, ByteArray.size_append, rX_length, rX_append, rX_take, rX_drop, rX_set, rX_rep, rX_nil, rX_cons, cI, cS, cB, cL, r73_eq, r55_eq, c73_eq, c55_eq, *]; omega)) : p := h
end Go.Proofs.YtlhejcogdjelpaaDoor.G
