/- A part of the claim. -/
import Derived.Test.YtjkngiciigdheaaGreatDoorProg
import Derived.Test.YtjkngiciigdheaaGreatDoorKFS2
import Derived.Test.YtjkngiciigdheaaGreatDoorKFSg2
import Derived.Test.YtjkngiciigdheaaGreatDoorKFW1
namespace Go.Proofs.YtjkngiciigdheaaGreatDoor.K
open Go.RowKit Go.Proofs.YtjkngiciigdheaaGreatDoorW.St Go.Proofs.YtjkngiciigdheaaGreatDoorW.PrintWords Go.Proofs.YtjkngiciigdheaaGreatDoorW.PrintLast Go.Proofs.YtjkngiciigdheaaGreatDoorW.PrintMore
set_option linter.unusedVariables false
set_option linter.unusedSimpArgs false
set_option maxRecDepth 100000
set_option maxHeartbeats 4000000
def errW : Option Int → Value
  | none => .nilIface
  | some c => .iface 0 (.int .i64 c)
theorem errW_none : errW none = .nilIface := rfl
theorem errW_some (c : Int) : errW (some c) = .iface 0 (.int .i64 c) := rfl
-- the values' own types
def rd_L1 (xs : List (List Int)) (i : Int) : (List Int) := xs.getD i.toNat ([] : List Int)
structure S86 where
  f0 : Int
  f1 : (List S86)
def z86 : S86 := ⟨(0 : Int), ([] : List S86)⟩
def rd_T86 (xs : List S86) (i : Int) : S86 := xs.getD i.toNat z86
def rd_L3 (xs : List (List S86)) (i : Int) : (List S86) := xs.getD i.toNat ([] : List S86)
def rd_L4 (xs : List (List (List Int))) (i : Int) : (List (List Int)) := xs.getD i.toNat ([] : List (List Int))
structure S29 where
  f0 : (List (List Int))
  f1 : (List Int)
def z29 : S29 := ⟨([] : List (List Int)), ([] : List Int)⟩
def rd_T29 (xs : List S29) (i : Int) : S29 := xs.getD i.toNat z29
structure S31 where
  f0 : Int
  f1 : S29
def z31 : S31 := ⟨(0 : Int), z29⟩
def rd_T31 (xs : List S31) (i : Int) : S31 := xs.getD i.toNat z31
structure S70 where
  f0 : Int
  f1 : (List S70)
def z70 : S70 := ⟨(0 : Int), ([] : List S70)⟩
def rd_T70 (xs : List S70) (i : Int) : S70 := xs.getD i.toNat z70
def rd_L8 (xs : List (List S70)) (i : Int) : (List S70) := xs.getD i.toNat ([] : List S70)
def rd_L10 (xs : List (List ByteArray)) (i : Int) : (List ByteArray) := xs.getD i.toNat ([] : List ByteArray)
mutual
def c70 : S70 → List AV
 | ⟨f_0, f_1⟩ => [.v (.int .i64 f_0), .sl 2 (r70 f_1)]
def r70 : List S70 → List (List AV)
 | [] => []
 | x :: xs => c70 x :: r70 xs
end
theorem r70_eq : ∀ xs, r70 xs = rX c70 xs
 | [] => by simp [r70, rX]
 | x :: xs => by simp [r70, rX, r70_eq xs]
theorem c70_eq (x : S70) : c70 x = [.v (.int .i64 x.f0), .sl 2 (r70 x.f1)] := by cases x; simp [c70]
theorem r70_get {xs : List S70} {i : Int} (h0 : 0 ≤ i) (h1 : i < (xs.length : Int)) : (r70 xs).getD i.toNat [] = [.v (.int .i64 (rd_T70 xs i).f0), .sl 2 (r70 (rd_T70 xs i).f1)] := by rw [r70_eq, rX_get c70 xs i z70 h0 h1, c70_eq]; rfl
theorem r70_at {xs : List S70} {i : Int} (h0 : 0 ≤ i) (h1 : i < (xs.length : Int)) : (r70 xs)[i.toNat]? = some [.v (.int .i64 (rd_T70 xs i).f0), .sl 2 (r70 (rd_T70 xs i).f1)] := by rw [r70_eq, rX_at c70 xs i z70 h0 h1, c70_eq]; rfl
mutual
def c86 : S86 → List AV
 | ⟨f_0, f_1⟩ => [.v (.int .i64 f_0), .sl 2 (r86 f_1)]
def r86 : List S86 → List (List AV)
 | [] => []
 | x :: xs => c86 x :: r86 xs
end
theorem r86_eq : ∀ xs, r86 xs = rX c86 xs
 | [] => by simp [r86, rX]
 | x :: xs => by simp [r86, rX, r86_eq xs]
theorem c86_eq (x : S86) : c86 x = [.v (.int .i64 x.f0), .sl 2 (r86 x.f1)] := by cases x; simp [c86]
theorem r86_get {xs : List S86} {i : Int} (h0 : 0 ≤ i) (h1 : i < (xs.length : Int)) : (r86 xs).getD i.toNat [] = [.v (.int .i64 (rd_T86 xs i).f0), .sl 2 (r86 (rd_T86 xs i).f1)] := by rw [r86_eq, rX_get c86 xs i z86 h0 h1, c86_eq]; rfl
theorem r86_at {xs : List S86} {i : Int} (h0 : 0 ≤ i) (h1 : i < (xs.length : Int)) : (r86 xs)[i.toNat]? = some [.v (.int .i64 (rd_T86 xs i).f0), .sl 2 (r86 (rd_T86 xs i).f1)] := by rw [r86_eq, rX_at c86 xs i z86 h0 h1, c86_eq]; rfl
def c31 (x : S31) : List AV := [.v (.int .i64 x.f0), .sl 1 (rX (cL (cI .i64) 1) x.f1.f0), .sl 1 (rX (cI .i64) x.f1.f1)]
def r31 (xs : List S31) : List (List AV) := rX c31 xs
theorem r31_eq (xs : List S31) : r31 xs = rX c31 xs := rfl
theorem c31_eq (x : S31) : c31 x = [.v (.int .i64 x.f0), .sl 1 (rX (cL (cI .i64) 1) x.f1.f0), .sl 1 (rX (cI .i64) x.f1.f1)] := rfl
theorem r31_get {xs : List S31} {i : Int} (h0 : 0 ≤ i) (h1 : i < (xs.length : Int)) : (r31 xs).getD i.toNat [] = [.v (.int .i64 (rd_T31 xs i).f0), .sl 1 (rX (cL (cI .i64) 1) (rd_T31 xs i).f1.f0), .sl 1 (rX (cI .i64) (rd_T31 xs i).f1.f1)] := by rw [r31_eq, rX_get c31 xs i z31 h0 h1, c31_eq]; rfl
theorem r31_at {xs : List S31} {i : Int} (h0 : 0 ≤ i) (h1 : i < (xs.length : Int)) : (r31 xs)[i.toNat]? = some [.v (.int .i64 (rd_T31 xs i).f0), .sl 1 (rX (cL (cI .i64) 1) (rd_T31 xs i).f1.f0), .sl 1 (rX (cI .i64) (rd_T31 xs i).f1.f1)] := by rw [r31_eq, rX_at c31 xs i z31 h0 h1, c31_eq]; rfl
theorem gL4_get {xs : List (List (List Int))} {i : Int} (h0 : 0 ≤ i) (h1 : i < (xs.length : Int)) : (rX (cL (cL (cI .i64) 1) 1) xs).getD i.toNat [] = [.sl 1 (rX (cL (cI .i64) 1) (rd_L4 xs i))] := by rw [rX_get (cL (cL (cI .i64) 1) 1) xs i [] h0 h1]; rfl
theorem gL4_at {xs : List (List (List Int))} {i : Int} (h0 : 0 ≤ i) (h1 : i < (xs.length : Int)) : (rX (cL (cL (cI .i64) 1) 1) xs)[i.toNat]? = some [.sl 1 (rX (cL (cI .i64) 1) (rd_L4 xs i))] := by rw [rX_at (cL (cL (cI .i64) 1) 1) xs i [] h0 h1]; rfl
theorem gL1_get {xs : List (List Int)} {i : Int} (h0 : 0 ≤ i) (h1 : i < (xs.length : Int)) : (rX (cL (cI .i64) 1) xs).getD i.toNat [] = [.sl 1 (rX (cI .i64) (rd_L1 xs i))] := by rw [rX_get (cL (cI .i64) 1) xs i [] h0 h1]; rfl
theorem gL1_at {xs : List (List Int)} {i : Int} (h0 : 0 ≤ i) (h1 : i < (xs.length : Int)) : (rX (cL (cI .i64) 1) xs)[i.toNat]? = some [.sl 1 (rX (cI .i64) (rd_L1 xs i))] := by rw [rX_at (cL (cI .i64) 1) xs i [] h0 h1]; rfl
theorem gL8_get {xs : List (List (S70))} {i : Int} (h0 : 0 ≤ i) (h1 : i < (xs.length : Int)) : (rX (cV r70 2) xs).getD i.toNat [] = [.sl 2 (r70 (rd_L8 xs i))] := by rw [rX_get (cV r70 2) xs i [] h0 h1]; rfl
theorem gL8_at {xs : List (List (S70))} {i : Int} (h0 : 0 ≤ i) (h1 : i < (xs.length : Int)) : (rX (cV r70 2) xs)[i.toNat]? = some [.sl 2 (r70 (rd_L8 xs i))] := by rw [rX_at (cV r70 2) xs i [] h0 h1]; rfl
theorem gL3_get {xs : List (List (S86))} {i : Int} (h0 : 0 ≤ i) (h1 : i < (xs.length : Int)) : (rX (cV r86 2) xs).getD i.toNat [] = [.sl 2 (r86 (rd_L3 xs i))] := by rw [rX_get (cV r86 2) xs i [] h0 h1]; rfl
theorem gL3_at {xs : List (List (S86))} {i : Int} (h0 : 0 ≤ i) (h1 : i < (xs.length : Int)) : (rX (cV r86 2) xs)[i.toNat]? = some [.sl 2 (r86 (rd_L3 xs i))] := by rw [rX_at (cV r86 2) xs i [] h0 h1]; rfl
theorem gL10_get {xs : List (List ByteArray)} {i : Int} (h0 : 0 ≤ i) (h1 : i < (xs.length : Int)) : (rX (cL cS 1) xs).getD i.toNat [] = [.sl 1 (rX cS (rd_L10 xs i))] := by rw [rX_get (cL cS 1) xs i [] h0 h1]; rfl
theorem gL10_at {xs : List (List ByteArray)} {i : Int} (h0 : 0 ≤ i) (h1 : i < (xs.length : Int)) : (rX (cL cS 1) xs)[i.toNat]? = some [.sl 1 (rX cS (rd_L10 xs i))] := by rw [rX_at (cL cS 1) xs i [] h0 h1]; rfl
def TT : List (Nat × Ty) := [(3, ⟨.int .i64, 1, 8, (.int .i64 0)⟩), (4, ⟨.bool, 1, 1, (.bool false)⟩), (5, ⟨.int .u8, 1, 1, (.int .u8 0)⟩), (9, ⟨.str, 1, 16, (.string ⟨#[]⟩)⟩), (22, ⟨.slice 5, 1, 24, (.slice none 0 0)⟩), (23, ⟨.slice 31, 1, 24, (.slice none 0 0)⟩), (26, ⟨.slice 27, 1, 24, (.slice none 0 0)⟩), (27, ⟨.slice 3, 1, 24, (.slice none 0 0)⟩), (29, ⟨.strct [(0, 26), (1, 27)], 2, 48, (.agg #[(.slice none 0 0), (.slice none 0 0)])⟩), (31, ⟨.strct [(0, 3), (1, 29)], 3, 56, (.agg #[(.int .i64 0), (.slice none 0 0), (.slice none 0 0)])⟩), (35, ⟨.slice 9, 1, 24, (.slice none 0 0)⟩), (38, ⟨.slice 35, 1, 24, (.slice none 0 0)⟩), (66, ⟨.slice 67, 1, 24, (.slice none 0 0)⟩), (67, ⟨.slice 70, 1, 24, (.slice none 0 0)⟩), (70, ⟨.strct [(0, 3), (1, 67)], 2, 32, (.agg #[(.int .i64 0), (.slice none 0 0)])⟩), (84, ⟨.slice 86, 1, 24, (.slice none 0 0)⟩), (86, ⟨.strct [(0, 3), (1, 84)], 2, 32, (.agg #[(.int .i64 0), (.slice none 0 0)])⟩), (105, ⟨.strct [(0, 22), (1, 3)], 2, 32, (.agg #[(.slice none 0 0), (.int .i64 0)])⟩), (166, ⟨.ifc, 1, 16, .nilIface⟩), (180, ⟨.strct [(0, 9), (1, 3), (2, 4)], 3, 32, (.agg #[(.string ⟨#[]⟩), (.int .i64 0), (.bool false)])⟩)]
theorem tok : TOk Tryz.prog TT := TOk.cons 3 ⟨.int .i64, 1, 8, (.int .i64 0)⟩ (by kernel_rfl) (by kernel_rfl) (TOk.cons 4 ⟨.bool, 1, 1, (.bool false)⟩ (by kernel_rfl) (by kernel_rfl) (TOk.cons 5 ⟨.int .u8, 1, 1, (.int .u8 0)⟩ (by kernel_rfl) (by kernel_rfl) (TOk.cons 9 ⟨.str, 1, 16, (.string ⟨#[]⟩)⟩ (by kernel_rfl) (by kernel_rfl) (TOk.cons 22 ⟨.slice 5, 1, 24, (.slice none 0 0)⟩ (by kernel_rfl) (by kernel_rfl) (TOk.cons 23 ⟨.slice 31, 1, 24, (.slice none 0 0)⟩ (by kernel_rfl) (by kernel_rfl) (TOk.cons 26 ⟨.slice 27, 1, 24, (.slice none 0 0)⟩ (by kernel_rfl) (by kernel_rfl) (TOk.cons 27 ⟨.slice 3, 1, 24, (.slice none 0 0)⟩ (by kernel_rfl) (by kernel_rfl) (TOk.cons 29 ⟨.strct [(0, 26), (1, 27)], 2, 48, (.agg #[(.slice none 0 0), (.slice none 0 0)])⟩ (by kernel_rfl) (by kernel_rfl) (TOk.cons 31 ⟨.strct [(0, 3), (1, 29)], 3, 56, (.agg #[(.int .i64 0), (.slice none 0 0), (.slice none 0 0)])⟩ (by kernel_rfl) (by kernel_rfl) (TOk.cons 35 ⟨.slice 9, 1, 24, (.slice none 0 0)⟩ (by kernel_rfl) (by kernel_rfl) (TOk.cons 38 ⟨.slice 35, 1, 24, (.slice none 0 0)⟩ (by kernel_rfl) (by kernel_rfl) (TOk.cons 66 ⟨.slice 67, 1, 24, (.slice none 0 0)⟩ (by kernel_rfl) (by kernel_rfl) (TOk.cons 67 ⟨.slice 70, 1, 24, (.slice none 0 0)⟩ (by kernel_rfl) (by kernel_rfl) (TOk.cons 70 ⟨.strct [(0, 3), (1, 67)], 2, 32, (.agg #[(.int .i64 0), (.slice none 0 0)])⟩ (by kernel_rfl) (by kernel_rfl) (TOk.cons 84 ⟨.slice 86, 1, 24, (.slice none 0 0)⟩ (by kernel_rfl) (by kernel_rfl) (TOk.cons 86 ⟨.strct [(0, 3), (1, 84)], 2, 32, (.agg #[(.int .i64 0), (.slice none 0 0)])⟩ (by kernel_rfl) (by kernel_rfl) (TOk.cons 105 ⟨.strct [(0, 22), (1, 3)], 2, 32, (.agg #[(.slice none 0 0), (.int .i64 0)])⟩ (by kernel_rfl) (by kernel_rfl) (TOk.cons 166 ⟨.ifc, 1, 16, .nilIface⟩ (by kernel_rfl) (by kernel_rfl) (TOk.cons 180 ⟨.strct [(0, 9), (1, 3), (2, 4)], 3, 32, (.agg #[(.string ⟨#[]⟩), (.int .i64 0), (.bool false)])⟩ (by kernel_rfl) (by kernel_rfl) (TOk.nil _))))))))))))))))))))
noncomputable def TE : Env := ⟨Tryz.prog, TT, Sg.LaidW, Sg.LaidL, tok, Sg.LaidW.size, Sg.LaidW.stay, by kernel_rfl⟩
theorem KD {p : Prop} (h : p := by
  repeat' first
    | with_reducible assumption
    | exact trivial
    | with_reducible exact chk_of (by kernel_rfl)
    | with_reducible exact chk_of2 (by kernel_rfl)
    | with_reducible exact chk_of3 (by kernel_rfl)
    | exact rfl
    | assumption
    | refine And.intro ?_ ?_
    | refine Exists.intro _ (And.intro rfl ?_)
    | exact congrArg AV.rf (r70_get (by first | omega | assumption) (by first | omega | assumption))
    | exact (r70_at (by first | omega | assumption) (by first | omega | assumption))
    | exact congrArg AV.rf (r86_get (by first | omega | assumption) (by first | omega | assumption))
    | exact (r86_at (by first | omega | assumption) (by first | omega | assumption))
    | exact congrArg AV.rf (r31_get (by first | omega | assumption) (by first | omega | assumption))
    | exact (r31_at (by first | omega | assumption) (by first | omega | assumption))
    | exact congrArg AV.rf (gL4_get (by first | omega | assumption) (by first | omega | assumption))
    | exact (gL4_at (by first | omega | assumption) (by first | omega | assumption))
    | exact congrArg AV.rf (gL1_get (by first | omega | assumption) (by first | omega | assumption))
    | exact (gL1_at (by first | omega | assumption) (by first | omega | assumption))
    | exact congrArg AV.rf (gL8_get (by first | omega | assumption) (by first | omega | assumption))
    | exact (gL8_at (by first | omega | assumption) (by first | omega | assumption))
    | exact congrArg AV.rf (gL3_get (by first | omega | assumption) (by first | omega | assumption))
    | exact (gL3_at (by first | omega | assumption) (by first | omega | assumption))
    | exact congrArg AV.rf (gL10_get (by first | omega | assumption) (by first | omega | assumption))
    | exact (gL10_at (by first | omega | assumption) (by first | omega | assumption))
    | exact congrArg AV.rf (rI_get (by first | omega | assumption) (by first | omega | assumption))
    | exact (rI_at (by first | omega | assumption) (by first | omega | assumption))
    | exact congrArg AV.rf (rS_get (by first | omega | assumption) (by first | omega | assumption))
    | exact (rS_at (by first | omega | assumption) (by first | omega | assumption))
    | exact congrArg AV.rf (rB_get (by first | omega | assumption) (by first | omega | assumption))
    | exact (rB_at (by first | omega | assumption) (by first | omega | assumption))
    | exact congrArg (AV.sl _) (rX_drop _ _ _).symm
    | exact (rX_rep cS _ _).symm
    | exact (rX_rep cB _ _).symm
    | exact congrArg (AV.sl _) (rX_take _ _ _).symm
    | exact decide_eq_true (by first | assumption | omega)
    | exact decide_eq_false (by first | assumption | omega)
    | exact beq_iff_eq.mpr (by first | assumption | omega)
    | exact beq_eq_false_iff_ne.mpr (by first | assumption | omega)
    | exact bne_iff_ne.mpr (by first | assumption | omega)
    | exact bne_eq_false_iff_eq.mpr (by first | assumption | omega)
    | exact eq_false_of_ne_true (by assumption)
    | exact congrArg (fun z => AV.v (.int _ z)) (wr_id (by omega) (by omega))
    | exact congrArg (fun z => AV.pt _ _ z) (by omega)
    | omega
    | exact congrArg Value.bool (by first | rfl | (simp only [ba_toList]; done) | (simp only [ba_toList]; rfl) | (simp [ba_toList, *]; done))
    | (simp only [wr_i64, wr_u8, ba_toList, ba_size, ByteArray.size_append, rX_length, rX_append, rX_take, rX_drop, rX_set, rX_rep, rX_nil, rX_cons, cI, cS, cB, cL, cV, r70_eq, r86_eq, r31_eq, c70_eq, c86_eq, c31_eq]; first | assumption | omega)
    | (simp only [wr_i64, wr_u8, ba_toList, ba_size, ByteArray.size_append, rX_length, rX_append, rX_take, rX_drop, rX_set, rX_rep, rX_nil, rX_cons, cI, cS, cB, cL, cV, r70_eq, r86_eq, r31_eq, c70_eq, c86_eq, c31_eq, *]; done)
    | (simp [wr_i64, wr_u8, ba_toList, ba_size, ByteArray.size_append, rX_length, rX_append, rX_take, rX_drop, rX_set, rX_rep, rX_nil, rX_cons, cI, cS, cB, cL, cV, r70_eq, r86_eq, r31_eq, c70_eq, c86_eq, c31_eq, *]; done)
    | (simp only [wr_i64, wr_u8, ba_toList, ba_size, ByteArray.size_append, rX_length, rX_append, rX_take, rX_drop, rX_set, rX_rep, rX_nil, rX_cons, cI, cS, cB, cL, cV, r70_eq, r86_eq, r31_eq, c70_eq, c86_eq, c31_eq, List.length_cons, List.length_nil, List.length_append]; omega)
    | (simp [wr_i64, wr_u8, ba_toList, ba_size, ByteArray.size_append, rX_length, rX_append, rX_take, rX_drop, rX_set, rX_rep, rX_nil, rX_cons, cI, cS, cB, cL, cV, r70_eq, r86_eq, r31_eq, c70_eq, c86_eq, c31_eq, *]; omega)
    | (simp only [rX_length, List.length_cons, List.length_nil, List.length_drop, List.length_append] at *; omega)) : p := h
end Go.Proofs.YtjkngiciigdheaaGreatDoor.K
