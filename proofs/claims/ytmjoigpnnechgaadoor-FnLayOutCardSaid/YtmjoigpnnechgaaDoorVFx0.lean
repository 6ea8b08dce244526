/- A part of the claim. -/
import Derived.Test.YtmjoigpnnechgaaDoorProg
import Derived.Test.YtmjoigpnnechgaaDoorVFS2
import Derived.Test.YtmjoigpnnechgaaDoorVFSg1
import Derived.Test.YtmjoigpnnechgaaDoorVFW1
-- PRINTED by print.py (a twelfth state) out of the translation. Not trusted: Lean checks it.
namespace Go.Proofs.YtmjoigpnnechgaaDoor.V
open Go.RowKit Go.Proofs.YtmjoigpnnechgaaDoorW.St Go.Proofs.YtmjoigpnnechgaaDoorW.PrintWords Go.Proofs.YtmjoigpnnechgaaDoorW.PrintLast Go.Proofs.YtmjoigpnnechgaaDoorW.PrintMore
attribute [local go_sem] max2_int min2_int max_two min_two max_three min_three max_four min_four   -- for this text's walks alone
set_option linter.unusedVariables false
set_option linter.unusedSimpArgs false
def errW : Option Int → Value
  | none => .nilIface
  | some c => .iface 0 (.int .i64 c)
theorem errW_none : errW none = .nilIface := rfl
theorem errW_some (c : Int) : errW (some c) = .iface 0 (.int .i64 c) := rfl
-- the values' own types
structure S84 where
  f0 : Int
  f1 : (List S84)
def z84 : S84 := ⟨(0 : Int), ([] : List S84)⟩
def rd_T84 (xs : List S84) (i : Int) : S84 := xs.getD i.toNat z84
def rd_L2 (xs : List (List S84)) (i : Int) : (List S84) := xs.getD i.toNat ([] : List S84)
def rd_L3 (xs : List (List Int)) (i : Int) : (List Int) := xs.getD i.toNat ([] : List Int)
structure S95 where
  f0 : Int
  f1 : (List S95)
def z95 : S95 := ⟨(0 : Int), ([] : List S95)⟩
def rd_T95 (xs : List S95) (i : Int) : S95 := xs.getD i.toNat z95
def rd_L5 (xs : List (List S95)) (i : Int) : (List S95) := xs.getD i.toNat ([] : List S95)
mutual
def c84 : S84 → List AV
 | ⟨f_0, f_1⟩ => [.v (.int .i64 f_0), .sl 2 (r84 f_1)]
def r84 : List S84 → List (List AV)
 | [] => []
 | x :: xs => c84 x :: r84 xs
end
theorem r84_eq : ∀ xs, r84 xs = rX c84 xs
 | [] => by simp [r84, rX]
 | x :: xs => by simp [r84, rX, r84_eq xs]
theorem c84_eq (x : S84) : c84 x = [.v (.int .i64 x.f0), .sl 2 (r84 x.f1)] := by cases x; simp [c84]
theorem r84_get {xs : List S84} {i : Int} (h0 : 0 ≤ i) (h1 : i < (xs.length : Int)) : (r84 xs).getD i.toNat [] = [.v (.int .i64 (rd_T84 xs i).f0), .sl 2 (r84 (rd_T84 xs i).f1)] := by rw [r84_eq, rX_get c84 xs i z84 h0 h1, c84_eq]; rfl
theorem r84_at {xs : List S84} {i : Int} (h0 : 0 ≤ i) (h1 : i < (xs.length : Int)) : (r84 xs)[i.toNat]? = some [.v (.int .i64 (rd_T84 xs i).f0), .sl 2 (r84 (rd_T84 xs i).f1)] := by rw [r84_eq, rX_at c84 xs i z84 h0 h1, c84_eq]; rfl
mutual
def c95 : S95 → List AV
 | ⟨f_0, f_1⟩ => [.v (.int .i64 f_0), .sl 2 (r95 f_1)]
def r95 : List S95 → List (List AV)
 | [] => []
 | x :: xs => c95 x :: r95 xs
end
theorem r95_eq : ∀ xs, r95 xs = rX c95 xs
 | [] => by simp [r95, rX]
 | x :: xs => by simp [r95, rX, r95_eq xs]
theorem c95_eq (x : S95) : c95 x = [.v (.int .i64 x.f0), .sl 2 (r95 x.f1)] := by cases x; simp [c95]
theorem r95_get {xs : List S95} {i : Int} (h0 : 0 ≤ i) (h1 : i < (xs.length : Int)) : (r95 xs).getD i.toNat [] = [.v (.int .i64 (rd_T95 xs i).f0), .sl 2 (r95 (rd_T95 xs i).f1)] := by rw [r95_eq, rX_get c95 xs i z95 h0 h1, c95_eq]; rfl
theorem r95_at {xs : List S95} {i : Int} (h0 : 0 ≤ i) (h1 : i < (xs.length : Int)) : (r95 xs)[i.toNat]? = some [.v (.int .i64 (rd_T95 xs i).f0), .sl 2 (r95 (rd_T95 xs i).f1)] := by rw [r95_eq, rX_at c95 xs i z95 h0 h1, c95_eq]; rfl
theorem gL3_get {xs : List (List Int)} {i : Int} (h0 : 0 ≤ i) (h1 : i < (xs.length : Int)) : (rX (cL (cI .i64) 1) xs).getD i.toNat [] = [.sl 1 (rX (cI .i64) (rd_L3 xs i))] := by rw [rX_get (cL (cI .i64) 1) xs i [] h0 h1]; rfl
theorem gL3_at {xs : List (List Int)} {i : Int} (h0 : 0 ≤ i) (h1 : i < (xs.length : Int)) : (rX (cL (cI .i64) 1) xs)[i.toNat]? = some [.sl 1 (rX (cI .i64) (rd_L3 xs i))] := by rw [rX_at (cL (cI .i64) 1) xs i [] h0 h1]; rfl
theorem gL2_get {xs : List (List (S84))} {i : Int} (h0 : 0 ≤ i) (h1 : i < (xs.length : Int)) : (rX (cV r84 2) xs).getD i.toNat [] = [.sl 2 (r84 (rd_L2 xs i))] := by rw [rX_get (cV r84 2) xs i [] h0 h1]; rfl
theorem gL2_at {xs : List (List (S84))} {i : Int} (h0 : 0 ≤ i) (h1 : i < (xs.length : Int)) : (rX (cV r84 2) xs)[i.toNat]? = some [.sl 2 (r84 (rd_L2 xs i))] := by rw [rX_at (cV r84 2) xs i [] h0 h1]; rfl
theorem gL5_get {xs : List (List (S95))} {i : Int} (h0 : 0 ≤ i) (h1 : i < (xs.length : Int)) : (rX (cV r95 2) xs).getD i.toNat [] = [.sl 2 (r95 (rd_L5 xs i))] := by rw [rX_get (cV r95 2) xs i [] h0 h1]; rfl
theorem gL5_at {xs : List (List (S95))} {i : Int} (h0 : 0 ≤ i) (h1 : i < (xs.length : Int)) : (rX (cV r95 2) xs)[i.toNat]? = some [.sl 2 (r95 (rd_L5 xs i))] := by rw [rX_at (cV r95 2) xs i [] h0 h1]; rfl
def TT : List (Nat × Ty) := [(3, ⟨.int .i64, 1, 8, (.int .i64 0)⟩), (4, ⟨.bool, 1, 1, (.bool false)⟩), (5, ⟨.int .u8, 1, 1, (.int .u8 0)⟩), (9, ⟨.str, 1, 16, (.string ⟨#[]⟩)⟩), (22, ⟨.slice 3, 1, 24, (.slice none 0 0)⟩), (28, ⟨.slice 9, 1, 24, (.slice none 0 0)⟩), (30, ⟨.slice 22, 1, 24, (.slice none 0 0)⟩), (32, ⟨.strct [(0, 30), (1, 22)], 2, 48, (.agg #[(.slice none 0 0), (.slice none 0 0)])⟩), (42, ⟨.slice 5, 1, 24, (.slice none 0 0)⟩), (82, ⟨.slice 84, 1, 24, (.slice none 0 0)⟩), (84, ⟨.strct [(0, 3), (1, 82)], 2, 32, (.agg #[(.int .i64 0), (.slice none 0 0)])⟩), (93, ⟨.slice 95, 1, 24, (.slice none 0 0)⟩), (95, ⟨.strct [(0, 3), (1, 93)], 2, 32, (.agg #[(.int .i64 0), (.slice none 0 0)])⟩), (129, ⟨.strct [(0, 42), (1, 3)], 2, 32, (.agg #[(.slice none 0 0), (.int .i64 0)])⟩), (132, ⟨.strct [(0, 9), (1, 3), (2, 4)], 3, 32, (.agg #[(.string ⟨#[]⟩), (.int .i64 0), (.bool false)])⟩), (139, ⟨.ifc, 1, 16, .nilIface⟩)]
theorem tok : TOk Tryd.prog TT := TOk.cons 3 ⟨.int .i64, 1, 8, (.int .i64 0)⟩ (by kernel_rfl) (by kernel_rfl) (TOk.cons 4 ⟨.bool, 1, 1, (.bool false)⟩ (by kernel_rfl) (by kernel_rfl) (TOk.cons 5 ⟨.int .u8, 1, 1, (.int .u8 0)⟩ (by kernel_rfl) (by kernel_rfl) (TOk.cons 9 ⟨.str, 1, 16, (.string ⟨#[]⟩)⟩ (by kernel_rfl) (by kernel_rfl) (TOk.cons 22 ⟨.slice 3, 1, 24, (.slice none 0 0)⟩ (by kernel_rfl) (by kernel_rfl) (TOk.cons 28 ⟨.slice 9, 1, 24, (.slice none 0 0)⟩ (by kernel_rfl) (by kernel_rfl) (TOk.cons 30 ⟨.slice 22, 1, 24, (.slice none 0 0)⟩ (by kernel_rfl) (by kernel_rfl) (TOk.cons 32 ⟨.strct [(0, 30), (1, 22)], 2, 48, (.agg #[(.slice none 0 0), (.slice none 0 0)])⟩ (by kernel_rfl) (by kernel_rfl) (TOk.cons 42 ⟨.slice 5, 1, 24, (.slice none 0 0)⟩ (by kernel_rfl) (by kernel_rfl) (TOk.cons 82 ⟨.slice 84, 1, 24, (.slice none 0 0)⟩ (by kernel_rfl) (by kernel_rfl) (TOk.cons 84 ⟨.strct [(0, 3), (1, 82)], 2, 32, (.agg #[(.int .i64 0), (.slice none 0 0)])⟩ (by kernel_rfl) (by kernel_rfl) (TOk.cons 93 ⟨.slice 95, 1, 24, (.slice none 0 0)⟩ (by kernel_rfl) (by kernel_rfl) (TOk.cons 95 ⟨.strct [(0, 3), (1, 93)], 2, 32, (.agg #[(.int .i64 0), (.slice none 0 0)])⟩ (by kernel_rfl) (by kernel_rfl) (TOk.cons 129 ⟨.strct [(0, 42), (1, 3)], 2, 32, (.agg #[(.slice none 0 0), (.int .i64 0)])⟩ (by kernel_rfl) (by kernel_rfl) (TOk.cons 132 ⟨.strct [(0, 9), (1, 3), (2, 4)], 3, 32, (.agg #[(.string ⟨#[]⟩), (.int .i64 0), (.bool false)])⟩ (by kernel_rfl) (by kernel_rfl) (TOk.cons 139 ⟨.ifc, 1, 16, .nilIface⟩ (by kernel_rfl) (by kernel_rfl) (TOk.nil _))))))))))))))))
noncomputable def TE : Env := ⟨Tryd.prog, TT, Sg.LaidW, Sg.LaidL, tok, Sg.LaidW.size, Sg.LaidW.stay, by kernel_rfl⟩
theorem KD {p : Prop} (h : p := by
  repeat' first
    | with_reducible assumption
    | exact trivial
    | with_reducible exact chk_of (by kernel_rfl)
    | with_reducible exact chk_of2 (by kernel_rfl)
    | with_reducible exact chk_of3 (by kernel_rfl)
    | exact rfl
    | assumption
    | refine And.intro ?_ ?_
    | refine Exists.intro _ (And.intro rfl ?_)
    | exact congrArg AV.rf (r84_get (by first | omega | assumption) (by first | omega | assumption))
    | exact (r84_at (by first | omega | assumption) (by first | omega | assumption))
    | exact congrArg AV.rf (r95_get (by first | omega | assumption) (by first | omega | assumption))
    | exact (r95_at (by first | omega | assumption) (by first | omega | assumption))
    | exact congrArg AV.rf (gL3_get (by first | omega | assumption) (by first | omega | assumption))
    | exact (gL3_at (by first | omega | assumption) (by first | omega | assumption))
    | exact congrArg AV.rf (gL2_get (by first | omega | assumption) (by first | omega | assumption))
    | exact (gL2_at (by first | omega | assumption) (by first | omega | assumption))
    | exact congrArg AV.rf (gL5_get (by first | omega | assumption) (by first | omega | assumption))
    | exact (gL5_at (by first | omega | assumption) (by first | omega | assumption))
    | exact congrArg AV.rf (rI_get (by first | omega | assumption) (by first | omega | assumption))
    | exact (rI_at (by first | omega | assumption) (by first | omega | assumption))
    | exact congrArg AV.rf (rS_get (by first | omega | assumption) (by first | omega | assumption))
    | exact (rS_at (by first | omega | assumption) (by first | omega | assumption))
    | exact congrArg AV.rf (rB_get (by first | omega | assumption) (by first | omega | assumption))
    | exact (rB_at (by first | omega | assumption) (by first | omega | assumption))
    | exact congrArg (AV.sl _) (rX_drop _ _ _).symm
    | exact congrArg (AV.sl _) (rX_take _ _ _).symm
    | exact decide_eq_true (by first | assumption | omega)
    | exact decide_eq_false (by first | assumption | omega)
    | exact beq_iff_eq.mpr (by first | assumption | omega)
    | exact beq_eq_false_iff_ne.mpr (by first | assumption | omega)
    | exact bne_iff_ne.mpr (by first | assumption | omega)
    | exact bne_eq_false_iff_eq.mpr (by first | assumption | omega)
    | exact congrArg (fun z => AV.v (.int _ z)) (wr_id (by omega) (by omega))
    | omega
    | exact congrArg Value.bool (by first | rfl | (simp only [ba_toList]; done) | (simp only [ba_toList]; rfl) | (simp [ba_toList, *]; done))
    | (simp only [wr_i64, wr_u8, ba_toList, ba_size, ByteArray.size_append, rX_length, rX_append, rX_take, rX_drop, rX_set, rX_rep, rX_nil, rX_cons, cI, cS, cB, cL, r84_eq, r95_eq, c84_eq, c95_eq]; first | assumption | omega)
    | (simp only [wr_i64, wr_u8, ba_toList, ba_size, ByteArray.size_append, rX_length, rX_append, rX_take, rX_drop, rX_set, rX_rep, rX_nil, rX_cons, cI, cS, cB, cL, r84_eq, r95_eq, c84_eq, c95_eq, *]; done)
    | (simp [wr_i64, wr_u8, ba_toList, ba_size, ByteArray.size_append, rX_length, rX_append, rX_take, rX_drop, rX_set, rX_rep, rX_nil, rX_cons, cI, cS, cB, cL, r84_eq, r95_eq, c84_eq, c95_eq, *]; done)
    | (simp only [wr_i64, wr_u8, ba_toList, ba_size, ByteArray.size_append, rX_length, rX_append, rX_take, rX_drop, rX_set, rX_rep, rX_nil, rX_cons, cI, cS, cB, cL, r84_eq, r95_eq, c84_eq, c95_eq, List.length_cons, List.length_nil, List.length_append]; omega)
    | (simp [wr_i64, wr_u8, ba_toList, ba_size, ByteArray.size_append, rX_length, rX_append, rX_take, rX_drop, rX_set, rX_rep, rX_nil, rX_cons, cI, cS, cB, cL, r84_eq, r95_eq, c84_eq, c95_eq, *]; omega)) : p := h
end Go.Proofs.YtmjoigpnnechgaaDoor.V
