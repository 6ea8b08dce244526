/- A part of the claim. -/
import Derived.Test.YtidpankoobdfjaaDoorProg
import Derived.Test.YtidpankoobdfjaaDoorUFS2
import Derived.Test.YtidpankoobdfjaaDoorUFSg1
import Derived.Test.YtidpankoobdfjaaDoorUFW1
-- PRINTED by print.py (a twelfth state) out of the translation. Not trusted: Lean checks it.
namespace Go.Proofs.YtidpankoobdfjaaDoor.U
open Go.RowKit Go.Proofs.YtidpankoobdfjaaDoorW.St Go.Proofs.YtidpankoobdfjaaDoorW.PrintWords Go.Proofs.YtidpankoobdfjaaDoorW.PrintLast Go.Proofs.YtidpankoobdfjaaDoorW.PrintMore
attribute [local go_sem] max2_int min2_int max_two min_two max_three min_three max_four min_four   -- for this text's walks alone
set_option linter.unusedVariables false
set_option linter.unusedSimpArgs false
def errW : Option Int → Value
  | none => .nilIface
  | some c => .iface 0 (.int .i64 c)
theorem errW_none : errW none = .nilIface := rfl
theorem errW_some (c : Int) : errW (some c) = .iface 0 (.int .i64 c) := rfl
-- the values' own types
def rd_L1 (xs : List (List Int)) (i : Int) : (List Int) := xs.getD i.toNat ([] : List Int)
structure S71 where
  f0 : Int
  f1 : (List S71)
def z71 : S71 := ⟨(0 : Int), ([] : List S71)⟩
def rd_T71 (xs : List S71) (i : Int) : S71 := xs.getD i.toNat z71
def rd_L3 (xs : List (List S71)) (i : Int) : (List S71) := xs.getD i.toNat ([] : List S71)
structure S65 where
  f0 : Int
  f1 : (List S65)
def z65 : S65 := ⟨(0 : Int), ([] : List S65)⟩
def rd_T65 (xs : List S65) (i : Int) : S65 := xs.getD i.toNat z65
def rd_L5 (xs : List (List S65)) (i : Int) : (List S65) := xs.getD i.toNat ([] : List S65)
mutual
def c65 : S65 → List AV
 | ⟨f_0, f_1⟩ => [.v (.int .i64 f_0), .sl 2 (r65 f_1)]
def r65 : List S65 → List (List AV)
 | [] => []
 | x :: xs => c65 x :: r65 xs
end
theorem r65_eq : ∀ xs, r65 xs = rX c65 xs
 | [] => by simp [r65, rX]
 | x :: xs => by simp [r65, rX, r65_eq xs]
theorem c65_eq (x : S65) : c65 x = [.v (.int .i64 x.f0), .sl 2 (r65 x.f1)] := by cases x; simp [c65]
theorem r65_get {xs : List S65} {i : Int} (h0 : 0 ≤ i) (h1 : i < (xs.length : Int)) : (r65 xs).getD i.toNat [] = [.v (.int .i64 (rd_T65 xs i).f0), .sl 2 (r65 (rd_T65 xs i).f1)] := by rw [r65_eq, rX_get c65 xs i z65 h0 h1, c65_eq]; rfl
theorem r65_at {xs : List S65} {i : Int} (h0 : 0 ≤ i) (h1 : i < (xs.length : Int)) : (r65 xs)[i.toNat]? = some [.v (.int .i64 (rd_T65 xs i).f0), .sl 2 (r65 (rd_T65 xs i).f1)] := by rw [r65_eq, rX_at c65 xs i z65 h0 h1, c65_eq]; rfl
mutual
def c71 : S71 → List AV
 | ⟨f_0, f_1⟩ => [.v (.int .i64 f_0), .sl 2 (r71 f_1)]
def r71 : List S71 → List (List AV)
 | [] => []
 | x :: xs => c71 x :: r71 xs
end
theorem r71_eq : ∀ xs, r71 xs = rX c71 xs
 | [] => by simp [r71, rX]
 | x :: xs => by simp [r71, rX, r71_eq xs]
theorem c71_eq (x : S71) : c71 x = [.v (.int .i64 x.f0), .sl 2 (r71 x.f1)] := by cases x; simp [c71]
theorem r71_get {xs : List S71} {i : Int} (h0 : 0 ≤ i) (h1 : i < (xs.length : Int)) : (r71 xs).getD i.toNat [] = [.v (.int .i64 (rd_T71 xs i).f0), .sl 2 (r71 (rd_T71 xs i).f1)] := by rw [r71_eq, rX_get c71 xs i z71 h0 h1, c71_eq]; rfl
theorem r71_at {xs : List S71} {i : Int} (h0 : 0 ≤ i) (h1 : i < (xs.length : Int)) : (r71 xs)[i.toNat]? = some [.v (.int .i64 (rd_T71 xs i).f0), .sl 2 (r71 (rd_T71 xs i).f1)] := by rw [r71_eq, rX_at c71 xs i z71 h0 h1, c71_eq]; rfl
theorem gL1_get {xs : List (List Int)} {i : Int} (h0 : 0 ≤ i) (h1 : i < (xs.length : Int)) : (rX (cL (cI .i64) 1) xs).getD i.toNat [] = [.sl 1 (rX (cI .i64) (rd_L1 xs i))] := by rw [rX_get (cL (cI .i64) 1) xs i [] h0 h1]; rfl
theorem gL1_at {xs : List (List Int)} {i : Int} (h0 : 0 ≤ i) (h1 : i < (xs.length : Int)) : (rX (cL (cI .i64) 1) xs)[i.toNat]? = some [.sl 1 (rX (cI .i64) (rd_L1 xs i))] := by rw [rX_at (cL (cI .i64) 1) xs i [] h0 h1]; rfl
theorem gL5_get {xs : List (List (S65))} {i : Int} (h0 : 0 ≤ i) (h1 : i < (xs.length : Int)) : (rX (cV r65 2) xs).getD i.toNat [] = [.sl 2 (r65 (rd_L5 xs i))] := by rw [rX_get (cV r65 2) xs i [] h0 h1]; rfl
theorem gL5_at {xs : List (List (S65))} {i : Int} (h0 : 0 ≤ i) (h1 : i < (xs.length : Int)) : (rX (cV r65 2) xs)[i.toNat]? = some [.sl 2 (r65 (rd_L5 xs i))] := by rw [rX_at (cV r65 2) xs i [] h0 h1]; rfl
theorem gL3_get {xs : List (List (S71))} {i : Int} (h0 : 0 ≤ i) (h1 : i < (xs.length : Int)) : (rX (cV r71 2) xs).getD i.toNat [] = [.sl 2 (r71 (rd_L3 xs i))] := by rw [rX_get (cV r71 2) xs i [] h0 h1]; rfl
theorem gL3_at {xs : List (List (S71))} {i : Int} (h0 : 0 ≤ i) (h1 : i < (xs.length : Int)) : (rX (cV r71 2) xs)[i.toNat]? = some [.sl 2 (r71 (rd_L3 xs i))] := by rw [rX_at (cV r71 2) xs i [] h0 h1]; rfl
def TT : List (Nat × Ty) := [(3, ⟨.int .i64, 1, 8, (.int .i64 0)⟩), (4, ⟨.bool, 1, 1, (.bool false)⟩), (5, ⟨.int .u8, 1, 1, (.int .u8 0)⟩), (9, ⟨.str, 1, 16, (.string ⟨#[]⟩)⟩), (22, ⟨.slice 5, 1, 24, (.slice none 0 0)⟩), (23, ⟨.slice 24, 1, 24, (.slice none 0 0)⟩), (24, ⟨.slice 3, 1, 24, (.slice none 0 0)⟩), (26, ⟨.strct [(0, 23), (1, 24)], 2, 48, (.agg #[(.slice none 0 0), (.slice none 0 0)])⟩), (36, ⟨.slice 9, 1, 24, (.slice none 0 0)⟩), (63, ⟨.slice 65, 1, 24, (.slice none 0 0)⟩), (65, ⟨.strct [(0, 3), (1, 63)], 2, 32, (.agg #[(.int .i64 0), (.slice none 0 0)])⟩), (69, ⟨.slice 71, 1, 24, (.slice none 0 0)⟩), (71, ⟨.strct [(0, 3), (1, 69)], 2, 32, (.agg #[(.int .i64 0), (.slice none 0 0)])⟩), (100, ⟨.strct [(0, 22), (1, 3)], 2, 32, (.agg #[(.slice none 0 0), (.int .i64 0)])⟩), (103, ⟨.arr 4 3, 4, 32, (.agg #[(.int .i64 0), (.int .i64 0), (.int .i64 0), (.int .i64 0)])⟩), (105, ⟨.strct [(0, 26), (2, 103)], 6, 80, (.agg #[(.slice none 0 0), (.slice none 0 0), (.int .i64 0), (.int .i64 0), (.int .i64 0), (.int .i64 0)])⟩), (123, ⟨.strct [(0, 9), (1, 3), (2, 4)], 3, 32, (.agg #[(.string ⟨#[]⟩), (.int .i64 0), (.bool false)])⟩), (134, ⟨.ifc, 1, 16, .nilIface⟩)]
theorem tok : TOk Tryd.prog TT := TOk.cons 3 ⟨.int .i64, 1, 8, (.int .i64 0)⟩ (by kernel_rfl) (by kernel_rfl) (TOk.cons 4 ⟨.bool, 1, 1, (.bool false)⟩ (by kernel_rfl) (by kernel_rfl) (TOk.cons 5 ⟨.int .u8, 1, 1, (.int .u8 0)⟩ (by kernel_rfl) (by kernel_rfl) (TOk.cons 9 ⟨.str, 1, 16, (.string ⟨#[]⟩)⟩ (by kernel_rfl) (by kernel_rfl) (TOk.cons 22 ⟨.slice 5, 1, 24, (.slice none 0 0)⟩ (by kernel_rfl) (by kernel_rfl) (TOk.cons 23 ⟨.slice 24, 1, 24, (.slice none 0 0)⟩ (by kernel_rfl) (by kernel_rfl) (TOk.cons 24 ⟨.slice 3, 1, 24, (.slice none 0 0)⟩ (by kernel_rfl) (by kernel_rfl) (TOk.cons 26 ⟨.strct [(0, 23), (1, 24)], 2, 48, (.agg #[(.slice none 0 0), (.slice none 0 0)])⟩ (by kernel_rfl) (by kernel_rfl) (TOk.cons 36 ⟨.slice 9, 1, 24, (.slice none 0 0)⟩ (by kernel_rfl) (by kernel_rfl) (TOk.cons 63 ⟨.slice 65, 1, 24, (.slice none 0 0)⟩ (by kernel_rfl) (by kernel_rfl) (TOk.cons 65 ⟨.strct [(0, 3), (1, 63)], 2, 32, (.agg #[(.int .i64 0), (.slice none 0 0)])⟩ (by kernel_rfl) (by kernel_rfl) (TOk.cons 69 ⟨.slice 71, 1, 24, (.slice none 0 0)⟩ (by kernel_rfl) (by kernel_rfl) (TOk.cons 71 ⟨.strct [(0, 3), (1, 69)], 2, 32, (.agg #[(.int .i64 0), (.slice none 0 0)])⟩ (by kernel_rfl) (by kernel_rfl) (TOk.cons 100 ⟨.strct [(0, 22), (1, 3)], 2, 32, (.agg #[(.slice none 0 0), (.int .i64 0)])⟩ (by kernel_rfl) (by kernel_rfl) (TOk.cons 103 ⟨.arr 4 3, 4, 32, (.agg #[(.int .i64 0), (.int .i64 0), (.int .i64 0), (.int .i64 0)])⟩ (by kernel_rfl) (by kernel_rfl) (TOk.cons 105 ⟨.strct [(0, 26), (2, 103)], 6, 80, (.agg #[(.slice none 0 0), (.slice none 0 0), (.int .i64 0), (.int .i64 0), (.int .i64 0), (.int .i64 0)])⟩ (by kernel_rfl) (by kernel_rfl) (TOk.cons 123 ⟨.strct [(0, 9), (1, 3), (2, 4)], 3, 32, (.agg #[(.string ⟨#[]⟩), (.int .i64 0), (.bool false)])⟩ (by kernel_rfl) (by kernel_rfl) (TOk.cons 134 ⟨.ifc, 1, 16, .nilIface⟩ (by kernel_rfl) (by kernel_rfl) (TOk.nil _))))))))))))))))))
noncomputable def TE : Env := ⟨Tryd.prog, TT, Sg.LaidW, Sg.LaidL, tok, Sg.LaidW.size, Sg.LaidW.stay, by kernel_rfl⟩
theorem KD {p : Prop} (h : p := by
  repeat' first
    | with_reducible assumption
    | exact trivial
    | with_reducible exact chk_of (by kernel_rfl)
    | with_reducible exact chk_of2 (by kernel_rfl)
    | with_reducible exact chk_of3 (by kernel_rfl)
    | exact rfl
    | assumption
    | refine And.intro ?_ ?_
    | refine Exists.intro _ (And.intro rfl ?_)
    | exact congrArg AV.rf (r65_get (by first | omega | assumption) (by first | omega | assumption))
    | exact (r65_at (by first | omega | assumption) (by first | omega | assumption))
    | exact congrArg AV.rf (r71_get (by first | omega | assumption) (by first | omega | assumption))
    | exact (r71_at (by first | omega | assumption) (by first | omega | assumption))
    | exact congrArg AV.rf (gL1_get (by first | omega | assumption) (by first | omega | assumption))
    | exact (gL1_at (by first | omega | assumption) (by first | omega | assumption))
    | exact congrArg AV.rf (gL5_get (by first | omega | assumption) (by first | omega | assumption))
    | exact (gL5_at (by first | omega | assumption) (by first | omega | assumption))
    | exact congrArg AV.rf (gL3_get (by first | omega | assumption) (by first | omega | assumption))
    | exact (gL3_at (by first | omega | assumption) (by first | omega | assumption))
    | exact congrArg AV.rf (rI_get (by first | omega | assumption) (by first | omega | assumption))
    | exact (rI_at (by first | omega | assumption) (by first | omega | assumption))
    | exact congrArg AV.rf (rS_get (by first | omega | assumption) (by first | omega | assumption))
    | exact (rS_at (by first | omega | assumption) (by first | omega | assumption))
    | exact congrArg AV.rf (rB_get (by first | omega | assumption) (by first | omega | assumption))
    | exact (rB_at (by first | omega | assumption) (by first | omega | assumption))
    | exact congrArg (AV.sl _) (rX_drop _ _ _).symm
    | exact congrArg (AV.sl _) (rX_take _ _ _).symm
    | exact decide_eq_true (by first | assumption | omega)
    | exact decide_eq_false (by first | assumption | omega)
    | exact beq_iff_eq.mpr (by first | assumption | omega)
    | exact beq_eq_false_iff_ne.mpr (by first | assumption | omega)
    | exact bne_iff_ne.mpr (by first | assumption | omega)
    | exact bne_eq_false_iff_eq.mpr (by first | assumption | omega)
    | exact eq_false_of_ne_true (by assumption)
    | exact congrArg (fun z => AV.v (.int _ z)) (wr_id (by omega) (by omega))
    | exact congrArg (fun z => AV.pt _ _ z) (by omega)
    | omega
    | exact congrArg Value.bool (by first | rfl | (simp only [ba_toList]; done) | (simp only [ba_toList]; rfl) | (simp [ba_toList, *]; done))
    | (simp only [wr_i64, wr_u8, ba_toList, ba_size, ByteArray.size_append, rX_length, rX_append, rX_take, rX_drop, rX_set, rX_rep, rX_nil, rX_cons, cI, cS, cB, cL, r65_eq, r71_eq, c65_eq, c71_eq]; first | assumption | omega)
    | (simp only [wr_i64, wr_u8, ba_toList, ba_size, ByteArray.size_append, rX_length, rX_append, rX_take, rX_drop, rX_set, rX_rep, rX_nil, rX_cons, cI, cS, cB, cL, r65_eq, r71_eq, c65_eq, c71_eq, *]; done)
    | (simp [wr_i64, wr_u8, ba_toList, ba_size, ByteArray.size_append, rX_length, rX_append, rX_take, rX_drop, rX_set, rX_rep, rX_nil, rX_cons, cI, cS, cB, cL, r65_eq, r71_eq, c65_eq, c71_eq, *]; done)
    | (simp only [wr_i64, wr_u8, ba_toList, ba_size, ByteArray.size_append, rX_length, rX_append, rX_take, rX_drop, rX_set, rX_rep, rX_nil, rX_cons, cI, cS, cB, cL, r65_eq, r71_eq, c65_eq, c71_eq, List.length_cons, List.length_nil, List.length_append]; omega)
    | (simp [wr_i64, wr_u8, ba_toList, ba_size, ByteArray.size_append, rX_length, rX_append, rX_take, rX_drop, rX_set, rX_rep, rX_nil, rX_cons, cI, cS, cB, cL, r65_eq, r71_eq, c65_eq, c71_eq, *]; omega)
    | (simp only [rX_length, List.length_cons, List.length_nil, List.length_drop, List.length_append] at *; omega)) : p := h
end Go.Proofs.YtidpankoobdfjaaDoor.U
