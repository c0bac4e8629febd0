/-
  Contracts: the table of the rules.
-/
import Derived.Test.YtkfdniccmcolgaaGreatWh
set_option linter.all false

namespace Go.Va
open Go.Proofs
set_option maxHeartbeats 4000000
set_option maxRecDepth 10000
set_option linter.unusedSimpArgs false
set_option linter.unusedVariables false

/-- A string, by its bytes. -/
def bs (l : List UInt8) : ByteArray := ⟨l.toArray⟩

/-- A fact or a guard with letters. -/
structure Pat where
  kind : Int
  letters : List UInt8
  n : Int
def Pat.ds (p : Pat) : List D := [.int .i64 p.kind, .str (bs p.letters), .int .i64 p.n]
theorem Pat.ds_len (p : Pat) : p.ds.length = 3 := rfl
def patsD (l : List Pat) : D := .slice l.length (l.flatMap Pat.ds)
/-- A row of the table. -/
structure Rul where
  name : List UInt8
  prem : List Pat
  concl : List Pat
  guards : List Pat
  count : Int
  derive : D
def Rul.ds (r : Rul) : List D := [.str (bs r.name), patsD r.prem, patsD r.concl, patsD r.guards, .int .i64 r.count, r.derive]
def Rul.zero : Rul := ⟨[], [], [], [], 0, .nilFn⟩

theorem list_c (n : Nat) (cs : List D) : CallsF Tryz.prog 138 [.c (.slice n cs)] (.u (.c (.d (.slice n cs)))) := by
  refine callsF_of (T := tb) tab_ok mixed Tryz.func138 rfl (by decide) (Nat.le_of_ble_eq_true rfl) rfl ?_; unfold St.init
  simp (maxSteps := 2000000) -implicitDefEqProofs [-List.map_set, Ja, -Int.natCast_add, -Int.natCast_mul, -Int.natCast_emod, -Int.natCast_ediv, -Int.natCast_pow, Jb, Jc, Jd, Je, Jf, Jg, Jh, Ji, Jj, Jk, Jl, Jm, Jn, Jo, Jp, Jq, Jr, Js, Jt, Ju, Jv, Jw, Jx, Jy, Jz]

def pPar (s : List UInt8) : Pat := ⟨2, s, 0⟩
def pPerp (s : List UInt8) : Pat := ⟨3, s, 0⟩
def pCong (s : List UInt8) : Pat := ⟨4, s, 0⟩
def pCol (s : List UInt8) : Pat := ⟨1, s, 0⟩
def pMid (s : List UInt8) : Pat := ⟨5, s, 0⟩
def pCirc (s : List UInt8) : Pat := ⟨6, s, 0⟩
def pAng (s : List UInt8) : Pat := ⟨7, s, 0⟩
def pSame (s : List UInt8) : Pat := ⟨8, s, 0⟩
def pRat (s : List UInt8) (n : Int) : Pat := ⟨9, s, n⟩
def pDist (s : List UInt8) : Pat := ⟨1, s, 0⟩
def pTri (s : List UInt8) : Pat := ⟨2, s, 0⟩

theorem parallel_c (s : ByteArray) : CallsF Tryz.prog 139 [.c (.str s)] (.u (.agg [.d (.int .i64 2), .d (.str s), .d (.int .i64 0)])) := by
  refine callsF_of (T := tb) tab_ok mixed Tryz.func139 rfl (by decide) (Nat.le_of_ble_eq_true rfl) rfl ?_; unfold St.init
  simp (maxSteps := 2000000) -implicitDefEqProofs [-List.map_set, Ja, -Int.natCast_add, -Int.natCast_mul, -Int.natCast_emod, -Int.natCast_ediv, -Int.natCast_pow, Jb, Jc, Jd, Je, Jf, Jg, Jh, Ji, Jj, Jk, Jl, Jm, Jn, Jo, Jp, Jq, Jr, Js, Jt, Ju, Jv, Jw, Jx, Jy, Jz]
theorem perpendicular_c (s : ByteArray) : CallsF Tryz.prog 141 [.c (.str s)] (.u (.agg [.d (.int .i64 3), .d (.str s), .d (.int .i64 0)])) := by
  refine callsF_of (T := tb) tab_ok mixed Tryz.func141 rfl (by decide) (Nat.le_of_ble_eq_true rfl) rfl ?_; unfold St.init
  simp (maxSteps := 2000000) -implicitDefEqProofs [-List.map_set, Ja, -Int.natCast_add, -Int.natCast_mul, -Int.natCast_emod, -Int.natCast_ediv, -Int.natCast_pow, Jb, Jc, Jd, Je, Jf, Jg, Jh, Ji, Jj, Jk, Jl, Jm, Jn, Jo, Jp, Jq, Jr, Js, Jt, Ju, Jv, Jw, Jx, Jy, Jz]
theorem congruent_c (s : ByteArray) : CallsF Tryz.prog 145 [.c (.str s)] (.u (.agg [.d (.int .i64 4), .d (.str s), .d (.int .i64 0)])) := by
  refine callsF_of (T := tb) tab_ok mixed Tryz.func145 rfl (by decide) (Nat.le_of_ble_eq_true rfl) rfl ?_; unfold St.init
  simp (maxSteps := 2000000) -implicitDefEqProofs [-List.map_set, Ja, -Int.natCast_add, -Int.natCast_mul, -Int.natCast_emod, -Int.natCast_ediv, -Int.natCast_pow, Jb, Jc, Jd, Je, Jf, Jg, Jh, Ji, Jj, Jk, Jl, Jm, Jn, Jo, Jp, Jq, Jr, Js, Jt, Ju, Jv, Jw, Jx, Jy, Jz]
theorem collinear_c (s : ByteArray) : CallsF Tryz.prog 144 [.c (.str s)] (.u (.agg [.d (.int .i64 1), .d (.str s), .d (.int .i64 0)])) := by
  refine callsF_of (T := tb) tab_ok mixed Tryz.func144 rfl (by decide) (Nat.le_of_ble_eq_true rfl) rfl ?_; unfold St.init
  simp (maxSteps := 2000000) -implicitDefEqProofs [-List.map_set, Ja, -Int.natCast_add, -Int.natCast_mul, -Int.natCast_emod, -Int.natCast_ediv, -Int.natCast_pow, Jb, Jc, Jd, Je, Jf, Jg, Jh, Ji, Jj, Jk, Jl, Jm, Jn, Jo, Jp, Jq, Jr, Js, Jt, Ju, Jv, Jw, Jx, Jy, Jz]
theorem midpoint_c (s : ByteArray) : CallsF Tryz.prog 143 [.c (.str s)] (.u (.agg [.d (.int .i64 5), .d (.str s), .d (.int .i64 0)])) := by
  refine callsF_of (T := tb) tab_ok mixed Tryz.func143 rfl (by decide) (Nat.le_of_ble_eq_true rfl) rfl ?_; unfold St.init
  simp (maxSteps := 2000000) -implicitDefEqProofs [-List.map_set, Ja, -Int.natCast_add, -Int.natCast_mul, -Int.natCast_emod, -Int.natCast_ediv, -Int.natCast_pow, Jb, Jc, Jd, Je, Jf, Jg, Jh, Ji, Jj, Jk, Jl, Jm, Jn, Jo, Jp, Jq, Jr, Js, Jt, Ju, Jv, Jw, Jx, Jy, Jz]
theorem concyclic_c (s : ByteArray) : CallsF Tryz.prog 149 [.c (.str s)] (.u (.agg [.d (.int .i64 6), .d (.str s), .d (.int .i64 0)])) := by
  refine callsF_of (T := tb) tab_ok mixed Tryz.func149 rfl (by decide) (Nat.le_of_ble_eq_true rfl) rfl ?_; unfold St.init
  simp (maxSteps := 2000000) -implicitDefEqProofs [-List.map_set, Ja, -Int.natCast_add, -Int.natCast_mul, -Int.natCast_emod, -Int.natCast_ediv, -Int.natCast_pow, Jb, Jc, Jd, Je, Jf, Jg, Jh, Ji, Jj, Jk, Jl, Jm, Jn, Jo, Jp, Jq, Jr, Js, Jt, Ju, Jv, Jw, Jx, Jy, Jz]
theorem angle_c (s : ByteArray) : CallsF Tryz.prog 151 [.c (.str s)] (.u (.agg [.d (.int .i64 7), .d (.str s), .d (.int .i64 0)])) := by
  refine callsF_of (T := tb) tab_ok mixed Tryz.func151 rfl (by decide) (Nat.le_of_ble_eq_true rfl) rfl ?_; unfold St.init
  simp (maxSteps := 2000000) -implicitDefEqProofs [-List.map_set, Ja, -Int.natCast_add, -Int.natCast_mul, -Int.natCast_emod, -Int.natCast_ediv, -Int.natCast_pow, Jb, Jc, Jd, Je, Jf, Jg, Jh, Ji, Jj, Jk, Jl, Jm, Jn, Jo, Jp, Jq, Jr, Js, Jt, Ju, Jv, Jw, Jx, Jy, Jz]
theorem same0_c (s : ByteArray) : CallsF Tryz.prog 147 [.c (.str s)] (.u (.agg [.d (.int .i64 8), .d (.str s), .d (.int .i64 0)])) := by
  refine callsF_of (T := tb) tab_ok mixed Tryz.func147 rfl (by decide) (Nat.le_of_ble_eq_true rfl) rfl ?_; unfold St.init
  simp (maxSteps := 2000000) -implicitDefEqProofs [-List.map_set, Ja, -Int.natCast_add, -Int.natCast_mul, -Int.natCast_emod, -Int.natCast_ediv, -Int.natCast_pow, Jb, Jc, Jd, Je, Jf, Jg, Jh, Ji, Jj, Jk, Jl, Jm, Jn, Jo, Jp, Jq, Jr, Js, Jt, Ju, Jv, Jw, Jx, Jy, Jz]
theorem ratio_c (s : ByteArray) (n : Int) : CallsF Tryz.prog 146 [.c (.str s), .c (.int .i64 n)] (.u (.agg [.d (.int .i64 9), .d (.str s), .d (.int .i64 n)])) := by
  refine callsF_of (T := tb) tab_ok mixed Tryz.func146 rfl (by decide) (Nat.le_of_ble_eq_true rfl) rfl ?_; unfold St.init
  simp (maxSteps := 2000000) -implicitDefEqProofs [-List.map_set, Ja, -Int.natCast_add, -Int.natCast_mul, -Int.natCast_emod, -Int.natCast_ediv, -Int.natCast_pow, Jb, Jc, Jd, Je, Jf, Jg, Jh, Ji, Jj, Jk, Jl, Jm, Jn, Jo, Jp, Jq, Jr, Js, Jt, Ju, Jv, Jw, Jx, Jy, Jz]
theorem distinct_c (s : ByteArray) : CallsF Tryz.prog 140 [.c (.str s)] (.u (.agg [.d (.int .i64 1), .d (.str s), .d (.int .i64 0)])) := by
  refine callsF_of (T := tb) tab_ok mixed Tryz.func140 rfl (by decide) (Nat.le_of_ble_eq_true rfl) rfl ?_; unfold St.init
  simp (maxSteps := 2000000) -implicitDefEqProofs [-List.map_set, Ja, -Int.natCast_add, -Int.natCast_mul, -Int.natCast_emod, -Int.natCast_ediv, -Int.natCast_pow, Jb, Jc, Jd, Je, Jf, Jg, Jh, Ji, Jj, Jk, Jl, Jm, Jn, Jo, Jp, Jq, Jr, Js, Jt, Ju, Jv, Jw, Jx, Jy, Jz]
theorem triangle_c (s : ByteArray) : CallsF Tryz.prog 150 [.c (.str s)] (.u (.agg [.d (.int .i64 2), .d (.str s), .d (.int .i64 0)])) := by
  refine callsF_of (T := tb) tab_ok mixed Tryz.func150 rfl (by decide) (Nat.le_of_ble_eq_true rfl) rfl ?_; unfold St.init
  simp (maxSteps := 2000000) -implicitDefEqProofs [-List.map_set, Ja, -Int.natCast_add, -Int.natCast_mul, -Int.natCast_emod, -Int.natCast_ediv, -Int.natCast_pow, Jb, Jc, Jd, Je, Jf, Jg, Jh, Ji, Jj, Jk, Jl, Jm, Jn, Jo, Jp, Jq, Jr, Js, Jt, Ju, Jv, Jw, Jx, Jy, Jz]

end Go.Va

/-
  Contracts: the rules by their numbers.
-/
namespace Go.Va
open Go.Proofs
set_option maxHeartbeats 4000000
set_option maxRecDepth 10000
set_option linter.unusedSimpArgs false
set_option linter.unusedVariables false

/-- The rows of the table (the count: of the rules with a function alone). -/
def rulN : Nat → Rul
  | 1 => ⟨[112, 97, 114, 97, 108, 108, 101, 108], [pPar [115, 116], pPar [115, 117]], [pPar [116, 117]], [pDist [115]], 0, .nilFn⟩
  | 2 => ⟨[112, 101, 114, 112, 101, 110, 100, 105, 99, 117, 108, 97, 114], [pPar [115, 116], pPerp [115, 117]], [pPerp [116, 117]], [pDist [115]], 0, .nilFn⟩
  | 3 => ⟨[110, 111, 114, 109, 97, 108, 115], [pPerp [115, 116], pPerp [115, 117]], [pPar [116, 117]], [pDist [115]], 0, .nilFn⟩
  | 4 => ⟨[108, 101, 110, 103, 116, 104, 115], [], [], [], 2, .fn 142 []⟩
  | 5 => ⟨[109, 105, 100, 112, 111, 105, 110, 116], [pMid [77, 65, 66]], [pCol [77, 65, 66], pCong [77, 65, 77, 66], pRat [65, 66, 77, 65] 4], [], 0, .nilFn⟩
  | 6 => ⟨[109, 105, 100, 108, 105, 110, 101], [pMid [77, 65, 66], pMid [78, 65, 67]], [pPar [77, 78, 66, 67], pRat [66, 67, 77, 78] 4], [], 0, .nilFn⟩
  | 7 => ⟨[100, 105, 97, 103, 111, 110, 97, 108, 115], [pMid [77, 65, 66], pMid [77, 67, 68]], [pPar [65, 67, 66, 68], pCong [65, 67, 66, 68]], [], 0, .nilFn⟩
  | 8 => ⟨[117, 110, 105, 113, 117, 101], [pMid [77, 65, 66], pMid [78, 65, 66]], [pSame [77, 78]], [], 0, .nilFn⟩
  | 9 => ⟨[115, 117, 98, 115, 116, 105, 116, 117, 116, 105, 111, 110], [], [], [], 2, .fn 148 []⟩
  | 10 => ⟨[101, 113, 117, 105, 100, 105, 115, 116, 97, 110, 116], [pCong [80, 65, 80, 66], pCong [81, 65, 81, 66]], [pPerp [65, 66, 80, 81]], [], 0, .nilFn⟩
  | 11 => ⟨[99, 105, 114, 99, 108, 101], [pCong [79, 65, 79, 66], pCong [79, 65, 79, 67], pCong [79, 65, 79, 68]], [pCirc [65, 66, 67, 68]], [], 0, .nilFn⟩
  | 12 => ⟨[99, 111, 110, 99, 121, 99, 108, 105, 99], [pCirc [65, 66, 67, 68], pCirc [65, 66, 67, 69]], [pCirc [65, 66, 68, 69]], [pTri [65, 66, 67]], 0, .nilFn⟩
  | 13 => ⟨[105, 110, 115, 99, 114, 105, 98, 101, 100], [pCirc [65, 66, 67, 68]], [pAng [67, 65, 67, 66, 68, 65, 68, 66]], [], 0, .nilFn⟩
  | 14 => ⟨[97, 114, 99], [pAng [67, 65, 67, 66, 68, 65, 68, 66]], [pCirc [65, 66, 67, 68]], [], 0, .nilFn⟩
  | 15 => ⟨[115, 117, 109, 115], [pAng [117, 115, 116, 118], pAng [115, 119, 120, 116]], [pAng [117, 119, 120, 118]], [pDist [115], pDist [116]], 0, .nilFn⟩
  | 16 => ⟨[100, 105, 102, 102, 101, 114, 101, 110, 99, 101, 115], [pAng [115, 116, 117, 118], pAng [115, 116, 119, 120]], [pAng [119, 117, 120, 118]], [pDist [115], pDist [116]], 0, .nilFn⟩
  | 17 => ⟨[100, 105, 114, 101, 99, 116, 105, 111, 110, 115], [pAng [115, 117, 118, 119], pPar [115, 116]], [pAng [116, 117, 118, 119]], [pDist [115]], 0, .nilFn⟩
  | 18 => ⟨[100, 105, 97, 109, 101, 116, 101, 114], [pPerp [67, 65, 67, 66], pPerp [68, 65, 68, 66]], [pCirc [65, 66, 67, 68]], [], 0, .nilFn⟩
  | 19 => ⟨[99, 97, 110, 99, 101, 108], [pAng [115, 115, 116, 117]], [pPar [116, 117]], [pDist [115]], 0, .nilFn⟩
  | 20 => ⟨[114, 105, 103, 104, 116], [pAng [115, 116, 117, 118], pPerp [115, 116]], [pPerp [117, 118]], [pDist [115], pDist [116]], 0, .nilFn⟩
  | 21 => ⟨[105, 115, 111, 115, 99, 101, 108, 101, 115], [pCong [79, 65, 79, 66]], [pAng [79, 65, 65, 66, 65, 66, 79, 66]], [], 0, .nilFn⟩
  | 22 => ⟨[98, 97, 115, 101], [pAng [79, 65, 65, 66, 65, 66, 79, 66]], [pCong [79, 65, 79, 66]], [pTri [79, 65, 66]], 0, .nilFn⟩
  | 23 => ⟨[116, 104, 97, 108, 101, 115], [pMid [79, 65, 66], pCong [79, 65, 79, 67]], [pPerp [67, 65, 67, 66]], [], 0, .nilFn⟩
  | 24 => ⟨[104, 121, 112, 111, 116, 101, 110, 117, 115, 101], [pMid [77, 65, 66], pPerp [67, 65, 67, 66]], [pCong [77, 65, 77, 67]], [], 0, .nilFn⟩
  | 25 => ⟨[98, 105, 115, 101, 99, 116, 111, 114], [pMid [77, 65, 66], pPerp [77, 67, 65, 66]], [pCong [67, 65, 67, 66]], [], 0, .nilFn⟩
  | 26 => ⟨[115, 105, 100, 101], [pMid [77, 65, 66], pPar [77, 78, 66, 67], pCol [65, 78, 67]], [pMid [78, 65, 67]], [pTri [65, 66, 67]], 0, .nilFn⟩
  | 27 => ⟨[112, 97, 114, 97, 108, 108, 101, 108, 111, 103, 114, 97, 109], [pPar [65, 66, 67, 68], pPar [65, 67, 66, 68]], [pCong [65, 66, 67, 68], pCong [65, 67, 66, 68]], [pTri [65, 66, 67]], 0, .nilFn⟩
  | 28 => ⟨[109, 105, 100, 100, 108, 101], [pCol [77, 65, 66], pCong [77, 65, 77, 66]], [pMid [77, 65, 66]], [pDist [65, 66]], 0, .nilFn⟩
  | _ => .zero
def Rul.res (r : Rul) : R := .u (.agg (r.ds.map .d))

theorem lines_c (n : Int) (h : n < 10) : CallsF Tryz.prog 75 [.c (.int .i64 n)] (Rul.res (if 1 ≤ n then rulN n.toNat else .zero)) := by
  refine callsF_of (T := tb) tab_ok mixed Tryz.func75 rfl (by decide) (Nat.le_of_ble_eq_true rfl) rfl ?_; unfold St.init
  by_cases h1 : n = 1
  · subst h1
    simp (maxSteps := 2000000) -implicitDefEqProofs [-List.map_set, Ja, -Int.natCast_add, -Int.natCast_mul, -Int.natCast_emod, -Int.natCast_ediv, -Int.natCast_pow, Jb, Jc, Jd, Je, Jf, Jg, Jh, Ji, Jj, Jk, Jl, Jm, Jn, Jo, Jp, Jq, Jr, Js, Jt, Ju, Jv, Jw, Jx, Jy, Jz]
    repeat ((first | refine .inl ⟨_, list_c _ _, ?_⟩ | refine .inl ⟨_, parallel_c _, ?_⟩ | refine .inl ⟨_, perpendicular_c _, ?_⟩ | refine .inl ⟨_, congruent_c _, ?_⟩ | refine .inl ⟨_, collinear_c _, ?_⟩ | refine .inl ⟨_, midpoint_c _, ?_⟩ | refine .inl ⟨_, concyclic_c _, ?_⟩ | refine .inl ⟨_, angle_c _, ?_⟩ | refine .inl ⟨_, same0_c _, ?_⟩ | refine .inl ⟨_, ratio_c _ _, ?_⟩ | refine .inl ⟨_, distinct_c _, ?_⟩ | refine .inl ⟨_, triangle_c _, ?_⟩); simp (maxSteps := 2000000) -implicitDefEqProofs [-List.map_set, Ja, -Int.natCast_add, -Int.natCast_mul, -Int.natCast_emod, -Int.natCast_ediv, -Int.natCast_pow, Jb, Jc, Jd, Je, Jf, Jg, Jh, Ji, Jj, Jk, Jl, Jm, Jn, Jo, Jp, Jq, Jr, Js, Jt, Ju, Jv, Jw, Jx, Jy, Jz])
    simp [Rul.res, Rul.ds, rulN, patsD, Pat.ds, bs, pPar, pPerp, pCong, pCol, pMid, pCirc, pAng, pSame, pRat, pDist, pTri]
  by_cases h2 : n = 2
  · subst h2
    simp (maxSteps := 2000000) -implicitDefEqProofs [-List.map_set, Ja, -Int.natCast_add, -Int.natCast_mul, -Int.natCast_emod, -Int.natCast_ediv, -Int.natCast_pow, Jb, Jc, Jd, Je, Jf, Jg, Jh, Ji, Jj, Jk, Jl, Jm, Jn, Jo, Jp, Jq, Jr, Js, Jt, Ju, Jv, Jw, Jx, Jy, Jz]
    repeat ((first | refine .inl ⟨_, list_c _ _, ?_⟩ | refine .inl ⟨_, parallel_c _, ?_⟩ | refine .inl ⟨_, perpendicular_c _, ?_⟩ | refine .inl ⟨_, congruent_c _, ?_⟩ | refine .inl ⟨_, collinear_c _, ?_⟩ | refine .inl ⟨_, midpoint_c _, ?_⟩ | refine .inl ⟨_, concyclic_c _, ?_⟩ | refine .inl ⟨_, angle_c _, ?_⟩ | refine .inl ⟨_, same0_c _, ?_⟩ | refine .inl ⟨_, ratio_c _ _, ?_⟩ | refine .inl ⟨_, distinct_c _, ?_⟩ | refine .inl ⟨_, triangle_c _, ?_⟩); simp (maxSteps := 2000000) -implicitDefEqProofs [-List.map_set, Ja, -Int.natCast_add, -Int.natCast_mul, -Int.natCast_emod, -Int.natCast_ediv, -Int.natCast_pow, Jb, Jc, Jd, Je, Jf, Jg, Jh, Ji, Jj, Jk, Jl, Jm, Jn, Jo, Jp, Jq, Jr, Js, Jt, Ju, Jv, Jw, Jx, Jy, Jz])
    simp [Rul.res, Rul.ds, rulN, patsD, Pat.ds, bs, pPar, pPerp, pCong, pCol, pMid, pCirc, pAng, pSame, pRat, pDist, pTri]
  by_cases h3 : n = 3
  · subst h3
    simp (maxSteps := 2000000) -implicitDefEqProofs [-List.map_set, Ja, -Int.natCast_add, -Int.natCast_mul, -Int.natCast_emod, -Int.natCast_ediv, -Int.natCast_pow, Jb, Jc, Jd, Je, Jf, Jg, Jh, Ji, Jj, Jk, Jl, Jm, Jn, Jo, Jp, Jq, Jr, Js, Jt, Ju, Jv, Jw, Jx, Jy, Jz]
    repeat ((first | refine .inl ⟨_, list_c _ _, ?_⟩ | refine .inl ⟨_, parallel_c _, ?_⟩ | refine .inl ⟨_, perpendicular_c _, ?_⟩ | refine .inl ⟨_, congruent_c _, ?_⟩ | refine .inl ⟨_, collinear_c _, ?_⟩ | refine .inl ⟨_, midpoint_c _, ?_⟩ | refine .inl ⟨_, concyclic_c _, ?_⟩ | refine .inl ⟨_, angle_c _, ?_⟩ | refine .inl ⟨_, same0_c _, ?_⟩ | refine .inl ⟨_, ratio_c _ _, ?_⟩ | refine .inl ⟨_, distinct_c _, ?_⟩ | refine .inl ⟨_, triangle_c _, ?_⟩); simp (maxSteps := 2000000) -implicitDefEqProofs [-List.map_set, Ja, -Int.natCast_add, -Int.natCast_mul, -Int.natCast_emod, -Int.natCast_ediv, -Int.natCast_pow, Jb, Jc, Jd, Je, Jf, Jg, Jh, Ji, Jj, Jk, Jl, Jm, Jn, Jo, Jp, Jq, Jr, Js, Jt, Ju, Jv, Jw, Jx, Jy, Jz])
    simp [Rul.res, Rul.ds, rulN, patsD, Pat.ds, bs, pPar, pPerp, pCong, pCol, pMid, pCirc, pAng, pSame, pRat, pDist, pTri]
  by_cases h4 : n = 4
  · subst h4
    simp (maxSteps := 2000000) -implicitDefEqProofs [-List.map_set, Ja, -Int.natCast_add, -Int.natCast_mul, -Int.natCast_emod, -Int.natCast_ediv, -Int.natCast_pow, Jb, Jc, Jd, Je, Jf, Jg, Jh, Ji, Jj, Jk, Jl, Jm, Jn, Jo, Jp, Jq, Jr, Js, Jt, Ju, Jv, Jw, Jx, Jy, Jz]
    repeat ((first | refine .inl ⟨_, list_c _ _, ?_⟩ | refine .inl ⟨_, parallel_c _, ?_⟩ | refine .inl ⟨_, perpendicular_c _, ?_⟩ | refine .inl ⟨_, congruent_c _, ?_⟩ | refine .inl ⟨_, collinear_c _, ?_⟩ | refine .inl ⟨_, midpoint_c _, ?_⟩ | refine .inl ⟨_, concyclic_c _, ?_⟩ | refine .inl ⟨_, angle_c _, ?_⟩ | refine .inl ⟨_, same0_c _, ?_⟩ | refine .inl ⟨_, ratio_c _ _, ?_⟩ | refine .inl ⟨_, distinct_c _, ?_⟩ | refine .inl ⟨_, triangle_c _, ?_⟩); simp (maxSteps := 2000000) -implicitDefEqProofs [-List.map_set, Ja, -Int.natCast_add, -Int.natCast_mul, -Int.natCast_emod, -Int.natCast_ediv, -Int.natCast_pow, Jb, Jc, Jd, Je, Jf, Jg, Jh, Ji, Jj, Jk, Jl, Jm, Jn, Jo, Jp, Jq, Jr, Js, Jt, Ju, Jv, Jw, Jx, Jy, Jz])
    simp [Rul.res, Rul.ds, rulN, patsD, Pat.ds, bs, pPar, pPerp, pCong, pCol, pMid, pCirc, pAng, pSame, pRat, pDist, pTri]
  by_cases h5 : n = 5
  · subst h5
    simp (maxSteps := 2000000) -implicitDefEqProofs [-List.map_set, Ja, -Int.natCast_add, -Int.natCast_mul, -Int.natCast_emod, -Int.natCast_ediv, -Int.natCast_pow, Jb, Jc, Jd, Je, Jf, Jg, Jh, Ji, Jj, Jk, Jl, Jm, Jn, Jo, Jp, Jq, Jr, Js, Jt, Ju, Jv, Jw, Jx, Jy, Jz]
    repeat ((first | refine .inl ⟨_, list_c _ _, ?_⟩ | refine .inl ⟨_, parallel_c _, ?_⟩ | refine .inl ⟨_, perpendicular_c _, ?_⟩ | refine .inl ⟨_, congruent_c _, ?_⟩ | refine .inl ⟨_, collinear_c _, ?_⟩ | refine .inl ⟨_, midpoint_c _, ?_⟩ | refine .inl ⟨_, concyclic_c _, ?_⟩ | refine .inl ⟨_, angle_c _, ?_⟩ | refine .inl ⟨_, same0_c _, ?_⟩ | refine .inl ⟨_, ratio_c _ _, ?_⟩ | refine .inl ⟨_, distinct_c _, ?_⟩ | refine .inl ⟨_, triangle_c _, ?_⟩); simp (maxSteps := 2000000) -implicitDefEqProofs [-List.map_set, Ja, -Int.natCast_add, -Int.natCast_mul, -Int.natCast_emod, -Int.natCast_ediv, -Int.natCast_pow, Jb, Jc, Jd, Je, Jf, Jg, Jh, Ji, Jj, Jk, Jl, Jm, Jn, Jo, Jp, Jq, Jr, Js, Jt, Ju, Jv, Jw, Jx, Jy, Jz])
    simp [Rul.res, Rul.ds, rulN, patsD, Pat.ds, bs, pPar, pPerp, pCong, pCol, pMid, pCirc, pAng, pSame, pRat, pDist, pTri]
  by_cases h6 : n = 6
  · subst h6
    simp (maxSteps := 2000000) -implicitDefEqProofs [-List.map_set, Ja, -Int.natCast_add, -Int.natCast_mul, -Int.natCast_emod, -Int.natCast_ediv, -Int.natCast_pow, Jb, Jc, Jd, Je, Jf, Jg, Jh, Ji, Jj, Jk, Jl, Jm, Jn, Jo, Jp, Jq, Jr, Js, Jt, Ju, Jv, Jw, Jx, Jy, Jz]
    repeat ((first | refine .inl ⟨_, list_c _ _, ?_⟩ | refine .inl ⟨_, parallel_c _, ?_⟩ | refine .inl ⟨_, perpendicular_c _, ?_⟩ | refine .inl ⟨_, congruent_c _, ?_⟩ | refine .inl ⟨_, collinear_c _, ?_⟩ | refine .inl ⟨_, midpoint_c _, ?_⟩ | refine .inl ⟨_, concyclic_c _, ?_⟩ | refine .inl ⟨_, angle_c _, ?_⟩ | refine .inl ⟨_, same0_c _, ?_⟩ | refine .inl ⟨_, ratio_c _ _, ?_⟩ | refine .inl ⟨_, distinct_c _, ?_⟩ | refine .inl ⟨_, triangle_c _, ?_⟩); simp (maxSteps := 2000000) -implicitDefEqProofs [-List.map_set, Ja, -Int.natCast_add, -Int.natCast_mul, -Int.natCast_emod, -Int.natCast_ediv, -Int.natCast_pow, Jb, Jc, Jd, Je, Jf, Jg, Jh, Ji, Jj, Jk, Jl, Jm, Jn, Jo, Jp, Jq, Jr, Js, Jt, Ju, Jv, Jw, Jx, Jy, Jz])
    simp [Rul.res, Rul.ds, rulN, patsD, Pat.ds, bs, pPar, pPerp, pCong, pCol, pMid, pCirc, pAng, pSame, pRat, pDist, pTri]
  by_cases h7 : n = 7
  · subst h7
    simp (maxSteps := 2000000) -implicitDefEqProofs [-List.map_set, Ja, -Int.natCast_add, -Int.natCast_mul, -Int.natCast_emod, -Int.natCast_ediv, -Int.natCast_pow, Jb, Jc, Jd, Je, Jf, Jg, Jh, Ji, Jj, Jk, Jl, Jm, Jn, Jo, Jp, Jq, Jr, Js, Jt, Ju, Jv, Jw, Jx, Jy, Jz]
    repeat ((first | refine .inl ⟨_, list_c _ _, ?_⟩ | refine .inl ⟨_, parallel_c _, ?_⟩ | refine .inl ⟨_, perpendicular_c _, ?_⟩ | refine .inl ⟨_, congruent_c _, ?_⟩ | refine .inl ⟨_, collinear_c _, ?_⟩ | refine .inl ⟨_, midpoint_c _, ?_⟩ | refine .inl ⟨_, concyclic_c _, ?_⟩ | refine .inl ⟨_, angle_c _, ?_⟩ | refine .inl ⟨_, same0_c _, ?_⟩ | refine .inl ⟨_, ratio_c _ _, ?_⟩ | refine .inl ⟨_, distinct_c _, ?_⟩ | refine .inl ⟨_, triangle_c _, ?_⟩); simp (maxSteps := 2000000) -implicitDefEqProofs [-List.map_set, Ja, -Int.natCast_add, -Int.natCast_mul, -Int.natCast_emod, -Int.natCast_ediv, -Int.natCast_pow, Jb, Jc, Jd, Je, Jf, Jg, Jh, Ji, Jj, Jk, Jl, Jm, Jn, Jo, Jp, Jq, Jr, Js, Jt, Ju, Jv, Jw, Jx, Jy, Jz])
    simp [Rul.res, Rul.ds, rulN, patsD, Pat.ds, bs, pPar, pPerp, pCong, pCol, pMid, pCirc, pAng, pSame, pRat, pDist, pTri]
  by_cases h8 : n = 8
  · subst h8
    simp (maxSteps := 2000000) -implicitDefEqProofs [-List.map_set, Ja, -Int.natCast_add, -Int.natCast_mul, -Int.natCast_emod, -Int.natCast_ediv, -Int.natCast_pow, Jb, Jc, Jd, Je, Jf, Jg, Jh, Ji, Jj, Jk, Jl, Jm, Jn, Jo, Jp, Jq, Jr, Js, Jt, Ju, Jv, Jw, Jx, Jy, Jz]
    repeat ((first | refine .inl ⟨_, list_c _ _, ?_⟩ | refine .inl ⟨_, parallel_c _, ?_⟩ | refine .inl ⟨_, perpendicular_c _, ?_⟩ | refine .inl ⟨_, congruent_c _, ?_⟩ | refine .inl ⟨_, collinear_c _, ?_⟩ | refine .inl ⟨_, midpoint_c _, ?_⟩ | refine .inl ⟨_, concyclic_c _, ?_⟩ | refine .inl ⟨_, angle_c _, ?_⟩ | refine .inl ⟨_, same0_c _, ?_⟩ | refine .inl ⟨_, ratio_c _ _, ?_⟩ | refine .inl ⟨_, distinct_c _, ?_⟩ | refine .inl ⟨_, triangle_c _, ?_⟩); simp (maxSteps := 2000000) -implicitDefEqProofs [-List.map_set, Ja, -Int.natCast_add, -Int.natCast_mul, -Int.natCast_emod, -Int.natCast_ediv, -Int.natCast_pow, Jb, Jc, Jd, Je, Jf, Jg, Jh, Ji, Jj, Jk, Jl, Jm, Jn, Jo, Jp, Jq, Jr, Js, Jt, Ju, Jv, Jw, Jx, Jy, Jz])
    simp [Rul.res, Rul.ds, rulN, patsD, Pat.ds, bs, pPar, pPerp, pCong, pCol, pMid, pCirc, pAng, pSame, pRat, pDist, pTri]
  by_cases h9 : n = 9
  · subst h9
    simp (maxSteps := 2000000) -implicitDefEqProofs [-List.map_set, Ja, -Int.natCast_add, -Int.natCast_mul, -Int.natCast_emod, -Int.natCast_ediv, -Int.natCast_pow, Jb, Jc, Jd, Je, Jf, Jg, Jh, Ji, Jj, Jk, Jl, Jm, Jn, Jo, Jp, Jq, Jr, Js, Jt, Ju, Jv, Jw, Jx, Jy, Jz]
    repeat ((first | refine .inl ⟨_, list_c _ _, ?_⟩ | refine .inl ⟨_, parallel_c _, ?_⟩ | refine .inl ⟨_, perpendicular_c _, ?_⟩ | refine .inl ⟨_, congruent_c _, ?_⟩ | refine .inl ⟨_, collinear_c _, ?_⟩ | refine .inl ⟨_, midpoint_c _, ?_⟩ | refine .inl ⟨_, concyclic_c _, ?_⟩ | refine .inl ⟨_, angle_c _, ?_⟩ | refine .inl ⟨_, same0_c _, ?_⟩ | refine .inl ⟨_, ratio_c _ _, ?_⟩ | refine .inl ⟨_, distinct_c _, ?_⟩ | refine .inl ⟨_, triangle_c _, ?_⟩); simp (maxSteps := 2000000) -implicitDefEqProofs [-List.map_set, Ja, -Int.natCast_add, -Int.natCast_mul, -Int.natCast_emod, -Int.natCast_ediv, -Int.natCast_pow, Jb, Jc, Jd, Je, Jf, Jg, Jh, Ji, Jj, Jk, Jl, Jm, Jn, Jo, Jp, Jq, Jr, Js, Jt, Ju, Jv, Jw, Jx, Jy, Jz])
    simp [Rul.res, Rul.ds, rulN, patsD, Pat.ds, bs, pPar, pPerp, pCong, pCol, pMid, pCirc, pAng, pSame, pRat, pDist, pTri]
  simp (maxSteps := 2000000) -implicitDefEqProofs [-List.map_set, Ja, -Int.natCast_add, -Int.natCast_mul, -Int.natCast_emod, -Int.natCast_ediv, -Int.natCast_pow, Jb, Jc, Jd, Je, Jf, Jg, Jh, Ji, Jj, Jk, Jl, Jm, Jn, Jo, Jp, Jq, Jr, Js, Jt, Ju, Jv, Jw, Jx, Jy, Jz, h1, h2, h3, h4, h5, h6, h7, h8, h9]
  rw [if_neg (by omega)]
  simp [Rul.res, Rul.ds, Rul.zero, patsD, bs, show ByteArray.empty = ⟨#[]⟩ from rfl]

theorem circles_c (n : Int) (h : n < 19) : CallsF Tryz.prog 76 [.c (.int .i64 n)] (Rul.res (if 10 ≤ n then rulN n.toNat else .zero)) := by
  refine callsF_of (T := tb) tab_ok mixed Tryz.func76 rfl (by decide) (Nat.le_of_ble_eq_true rfl) rfl ?_; unfold St.init
  by_cases h10 : n = 10
  · subst h10
    simp (maxSteps := 2000000) -implicitDefEqProofs [-List.map_set, Ja, -Int.natCast_add, -Int.natCast_mul, -Int.natCast_emod, -Int.natCast_ediv, -Int.natCast_pow, Jb, Jc, Jd, Je, Jf, Jg, Jh, Ji, Jj, Jk, Jl, Jm, Jn, Jo, Jp, Jq, Jr, Js, Jt, Ju, Jv, Jw, Jx, Jy, Jz]
    repeat ((first | refine .inl ⟨_, list_c _ _, ?_⟩ | refine .inl ⟨_, parallel_c _, ?_⟩ | refine .inl ⟨_, perpendicular_c _, ?_⟩ | refine .inl ⟨_, congruent_c _, ?_⟩ | refine .inl ⟨_, collinear_c _, ?_⟩ | refine .inl ⟨_, midpoint_c _, ?_⟩ | refine .inl ⟨_, concyclic_c _, ?_⟩ | refine .inl ⟨_, angle_c _, ?_⟩ | refine .inl ⟨_, same0_c _, ?_⟩ | refine .inl ⟨_, ratio_c _ _, ?_⟩ | refine .inl ⟨_, distinct_c _, ?_⟩ | refine .inl ⟨_, triangle_c _, ?_⟩); simp (maxSteps := 2000000) -implicitDefEqProofs [-List.map_set, Ja, -Int.natCast_add, -Int.natCast_mul, -Int.natCast_emod, -Int.natCast_ediv, -Int.natCast_pow, Jb, Jc, Jd, Je, Jf, Jg, Jh, Ji, Jj, Jk, Jl, Jm, Jn, Jo, Jp, Jq, Jr, Js, Jt, Ju, Jv, Jw, Jx, Jy, Jz])
    simp [Rul.res, Rul.ds, rulN, patsD, Pat.ds, bs, pPar, pPerp, pCong, pCol, pMid, pCirc, pAng, pSame, pRat, pDist, pTri]
  by_cases h11 : n = 11
  · subst h11
    simp (maxSteps := 2000000) -implicitDefEqProofs [-List.map_set, Ja, -Int.natCast_add, -Int.natCast_mul, -Int.natCast_emod, -Int.natCast_ediv, -Int.natCast_pow, Jb, Jc, Jd, Je, Jf, Jg, Jh, Ji, Jj, Jk, Jl, Jm, Jn, Jo, Jp, Jq, Jr, Js, Jt, Ju, Jv, Jw, Jx, Jy, Jz]
    repeat ((first | refine .inl ⟨_, list_c _ _, ?_⟩ | refine .inl ⟨_, parallel_c _, ?_⟩ | refine .inl ⟨_, perpendicular_c _, ?_⟩ | refine .inl ⟨_, congruent_c _, ?_⟩ | refine .inl ⟨_, collinear_c _, ?_⟩ | refine .inl ⟨_, midpoint_c _, ?_⟩ | refine .inl ⟨_, concyclic_c _, ?_⟩ | refine .inl ⟨_, angle_c _, ?_⟩ | refine .inl ⟨_, same0_c _, ?_⟩ | refine .inl ⟨_, ratio_c _ _, ?_⟩ | refine .inl ⟨_, distinct_c _, ?_⟩ | refine .inl ⟨_, triangle_c _, ?_⟩); simp (maxSteps := 2000000) -implicitDefEqProofs [-List.map_set, Ja, -Int.natCast_add, -Int.natCast_mul, -Int.natCast_emod, -Int.natCast_ediv, -Int.natCast_pow, Jb, Jc, Jd, Je, Jf, Jg, Jh, Ji, Jj, Jk, Jl, Jm, Jn, Jo, Jp, Jq, Jr, Js, Jt, Ju, Jv, Jw, Jx, Jy, Jz])
    simp [Rul.res, Rul.ds, rulN, patsD, Pat.ds, bs, pPar, pPerp, pCong, pCol, pMid, pCirc, pAng, pSame, pRat, pDist, pTri]
  by_cases h12 : n = 12
  · subst h12
    simp (maxSteps := 2000000) -implicitDefEqProofs [-List.map_set, Ja, -Int.natCast_add, -Int.natCast_mul, -Int.natCast_emod, -Int.natCast_ediv, -Int.natCast_pow, Jb, Jc, Jd, Je, Jf, Jg, Jh, Ji, Jj, Jk, Jl, Jm, Jn, Jo, Jp, Jq, Jr, Js, Jt, Ju, Jv, Jw, Jx, Jy, Jz]
    repeat ((first | refine .inl ⟨_, list_c _ _, ?_⟩ | refine .inl ⟨_, parallel_c _, ?_⟩ | refine .inl ⟨_, perpendicular_c _, ?_⟩ | refine .inl ⟨_, congruent_c _, ?_⟩ | refine .inl ⟨_, collinear_c _, ?_⟩ | refine .inl ⟨_, midpoint_c _, ?_⟩ | refine .inl ⟨_, concyclic_c _, ?_⟩ | refine .inl ⟨_, angle_c _, ?_⟩ | refine .inl ⟨_, same0_c _, ?_⟩ | refine .inl ⟨_, ratio_c _ _, ?_⟩ | refine .inl ⟨_, distinct_c _, ?_⟩ | refine .inl ⟨_, triangle_c _, ?_⟩); simp (maxSteps := 2000000) -implicitDefEqProofs [-List.map_set, Ja, -Int.natCast_add, -Int.natCast_mul, -Int.natCast_emod, -Int.natCast_ediv, -Int.natCast_pow, Jb, Jc, Jd, Je, Jf, Jg, Jh, Ji, Jj, Jk, Jl, Jm, Jn, Jo, Jp, Jq, Jr, Js, Jt, Ju, Jv, Jw, Jx, Jy, Jz])
    simp [Rul.res, Rul.ds, rulN, patsD, Pat.ds, bs, pPar, pPerp, pCong, pCol, pMid, pCirc, pAng, pSame, pRat, pDist, pTri]
  by_cases h13 : n = 13
  · subst h13
    simp (maxSteps := 2000000) -implicitDefEqProofs [-List.map_set, Ja, -Int.natCast_add, -Int.natCast_mul, -Int.natCast_emod, -Int.natCast_ediv, -Int.natCast_pow, Jb, Jc, Jd, Je, Jf, Jg, Jh, Ji, Jj, Jk, Jl, Jm, Jn, Jo, Jp, Jq, Jr, Js, Jt, Ju, Jv, Jw, Jx, Jy, Jz]
    repeat ((first | refine .inl ⟨_, list_c _ _, ?_⟩ | refine .inl ⟨_, parallel_c _, ?_⟩ | refine .inl ⟨_, perpendicular_c _, ?_⟩ | refine .inl ⟨_, congruent_c _, ?_⟩ | refine .inl ⟨_, collinear_c _, ?_⟩ | refine .inl ⟨_, midpoint_c _, ?_⟩ | refine .inl ⟨_, concyclic_c _, ?_⟩ | refine .inl ⟨_, angle_c _, ?_⟩ | refine .inl ⟨_, same0_c _, ?_⟩ | refine .inl ⟨_, ratio_c _ _, ?_⟩ | refine .inl ⟨_, distinct_c _, ?_⟩ | refine .inl ⟨_, triangle_c _, ?_⟩); simp (maxSteps := 2000000) -implicitDefEqProofs [-List.map_set, Ja, -Int.natCast_add, -Int.natCast_mul, -Int.natCast_emod, -Int.natCast_ediv, -Int.natCast_pow, Jb, Jc, Jd, Je, Jf, Jg, Jh, Ji, Jj, Jk, Jl, Jm, Jn, Jo, Jp, Jq, Jr, Js, Jt, Ju, Jv, Jw, Jx, Jy, Jz])
    simp [Rul.res, Rul.ds, rulN, patsD, Pat.ds, bs, pPar, pPerp, pCong, pCol, pMid, pCirc, pAng, pSame, pRat, pDist, pTri]
  by_cases h14 : n = 14
  · subst h14
    simp (maxSteps := 2000000) -implicitDefEqProofs [-List.map_set, Ja, -Int.natCast_add, -Int.natCast_mul, -Int.natCast_emod, -Int.natCast_ediv, -Int.natCast_pow, Jb, Jc, Jd, Je, Jf, Jg, Jh, Ji, Jj, Jk, Jl, Jm, Jn, Jo, Jp, Jq, Jr, Js, Jt, Ju, Jv, Jw, Jx, Jy, Jz]
    repeat ((first | refine .inl ⟨_, list_c _ _, ?_⟩ | refine .inl ⟨_, parallel_c _, ?_⟩ | refine .inl ⟨_, perpendicular_c _, ?_⟩ | refine .inl ⟨_, congruent_c _, ?_⟩ | refine .inl ⟨_, collinear_c _, ?_⟩ | refine .inl ⟨_, midpoint_c _, ?_⟩ | refine .inl ⟨_, concyclic_c _, ?_⟩ | refine .inl ⟨_, angle_c _, ?_⟩ | refine .inl ⟨_, same0_c _, ?_⟩ | refine .inl ⟨_, ratio_c _ _, ?_⟩ | refine .inl ⟨_, distinct_c _, ?_⟩ | refine .inl ⟨_, triangle_c _, ?_⟩); simp (maxSteps := 2000000) -implicitDefEqProofs [-List.map_set, Ja, -Int.natCast_add, -Int.natCast_mul, -Int.natCast_emod, -Int.natCast_ediv, -Int.natCast_pow, Jb, Jc, Jd, Je, Jf, Jg, Jh, Ji, Jj, Jk, Jl, Jm, Jn, Jo, Jp, Jq, Jr, Js, Jt, Ju, Jv, Jw, Jx, Jy, Jz])
    simp [Rul.res, Rul.ds, rulN, patsD, Pat.ds, bs, pPar, pPerp, pCong, pCol, pMid, pCirc, pAng, pSame, pRat, pDist, pTri]
  by_cases h15 : n = 15
  · subst h15
    simp (maxSteps := 2000000) -implicitDefEqProofs [-List.map_set, Ja, -Int.natCast_add, -Int.natCast_mul, -Int.natCast_emod, -Int.natCast_ediv, -Int.natCast_pow, Jb, Jc, Jd, Je, Jf, Jg, Jh, Ji, Jj, Jk, Jl, Jm, Jn, Jo, Jp, Jq, Jr, Js, Jt, Ju, Jv, Jw, Jx, Jy, Jz]
    repeat ((first | refine .inl ⟨_, list_c _ _, ?_⟩ | refine .inl ⟨_, parallel_c _, ?_⟩ | refine .inl ⟨_, perpendicular_c _, ?_⟩ | refine .inl ⟨_, congruent_c _, ?_⟩ | refine .inl ⟨_, collinear_c _, ?_⟩ | refine .inl ⟨_, midpoint_c _, ?_⟩ | refine .inl ⟨_, concyclic_c _, ?_⟩ | refine .inl ⟨_, angle_c _, ?_⟩ | refine .inl ⟨_, same0_c _, ?_⟩ | refine .inl ⟨_, ratio_c _ _, ?_⟩ | refine .inl ⟨_, distinct_c _, ?_⟩ | refine .inl ⟨_, triangle_c _, ?_⟩); simp (maxSteps := 2000000) -implicitDefEqProofs [-List.map_set, Ja, -Int.natCast_add, -Int.natCast_mul, -Int.natCast_emod, -Int.natCast_ediv, -Int.natCast_pow, Jb, Jc, Jd, Je, Jf, Jg, Jh, Ji, Jj, Jk, Jl, Jm, Jn, Jo, Jp, Jq, Jr, Js, Jt, Ju, Jv, Jw, Jx, Jy, Jz])
    simp [Rul.res, Rul.ds, rulN, patsD, Pat.ds, bs, pPar, pPerp, pCong, pCol, pMid, pCirc, pAng, pSame, pRat, pDist, pTri]
  by_cases h16 : n = 16
  · subst h16
    simp (maxSteps := 2000000) -implicitDefEqProofs [-List.map_set, Ja, -Int.natCast_add, -Int.natCast_mul, -Int.natCast_emod, -Int.natCast_ediv, -Int.natCast_pow, Jb, Jc, Jd, Je, Jf, Jg, Jh, Ji, Jj, Jk, Jl, Jm, Jn, Jo, Jp, Jq, Jr, Js, Jt, Ju, Jv, Jw, Jx, Jy, Jz]
    repeat ((first | refine .inl ⟨_, list_c _ _, ?_⟩ | refine .inl ⟨_, parallel_c _, ?_⟩ | refine .inl ⟨_, perpendicular_c _, ?_⟩ | refine .inl ⟨_, congruent_c _, ?_⟩ | refine .inl ⟨_, collinear_c _, ?_⟩ | refine .inl ⟨_, midpoint_c _, ?_⟩ | refine .inl ⟨_, concyclic_c _, ?_⟩ | refine .inl ⟨_, angle_c _, ?_⟩ | refine .inl ⟨_, same0_c _, ?_⟩ | refine .inl ⟨_, ratio_c _ _, ?_⟩ | refine .inl ⟨_, distinct_c _, ?_⟩ | refine .inl ⟨_, triangle_c _, ?_⟩); simp (maxSteps := 2000000) -implicitDefEqProofs [-List.map_set, Ja, -Int.natCast_add, -Int.natCast_mul, -Int.natCast_emod, -Int.natCast_ediv, -Int.natCast_pow, Jb, Jc, Jd, Je, Jf, Jg, Jh, Ji, Jj, Jk, Jl, Jm, Jn, Jo, Jp, Jq, Jr, Js, Jt, Ju, Jv, Jw, Jx, Jy, Jz])
    simp [Rul.res, Rul.ds, rulN, patsD, Pat.ds, bs, pPar, pPerp, pCong, pCol, pMid, pCirc, pAng, pSame, pRat, pDist, pTri]
  by_cases h17 : n = 17
  · subst h17
    simp (maxSteps := 2000000) -implicitDefEqProofs [-List.map_set, Ja, -Int.natCast_add, -Int.natCast_mul, -Int.natCast_emod, -Int.natCast_ediv, -Int.natCast_pow, Jb, Jc, Jd, Je, Jf, Jg, Jh, Ji, Jj, Jk, Jl, Jm, Jn, Jo, Jp, Jq, Jr, Js, Jt, Ju, Jv, Jw, Jx, Jy, Jz]
    repeat ((first | refine .inl ⟨_, list_c _ _, ?_⟩ | refine .inl ⟨_, parallel_c _, ?_⟩ | refine .inl ⟨_, perpendicular_c _, ?_⟩ | refine .inl ⟨_, congruent_c _, ?_⟩ | refine .inl ⟨_, collinear_c _, ?_⟩ | refine .inl ⟨_, midpoint_c _, ?_⟩ | refine .inl ⟨_, concyclic_c _, ?_⟩ | refine .inl ⟨_, angle_c _, ?_⟩ | refine .inl ⟨_, same0_c _, ?_⟩ | refine .inl ⟨_, ratio_c _ _, ?_⟩ | refine .inl ⟨_, distinct_c _, ?_⟩ | refine .inl ⟨_, triangle_c _, ?_⟩); simp (maxSteps := 2000000) -implicitDefEqProofs [-List.map_set, Ja, -Int.natCast_add, -Int.natCast_mul, -Int.natCast_emod, -Int.natCast_ediv, -Int.natCast_pow, Jb, Jc, Jd, Je, Jf, Jg, Jh, Ji, Jj, Jk, Jl, Jm, Jn, Jo, Jp, Jq, Jr, Js, Jt, Ju, Jv, Jw, Jx, Jy, Jz])
    simp [Rul.res, Rul.ds, rulN, patsD, Pat.ds, bs, pPar, pPerp, pCong, pCol, pMid, pCirc, pAng, pSame, pRat, pDist, pTri]
  by_cases h18 : n = 18
  · subst h18
    simp (maxSteps := 2000000) -implicitDefEqProofs [-List.map_set, Ja, -Int.natCast_add, -Int.natCast_mul, -Int.natCast_emod, -Int.natCast_ediv, -Int.natCast_pow, Jb, Jc, Jd, Je, Jf, Jg, Jh, Ji, Jj, Jk, Jl, Jm, Jn, Jo, Jp, Jq, Jr, Js, Jt, Ju, Jv, Jw, Jx, Jy, Jz]
    repeat ((first | refine .inl ⟨_, list_c _ _, ?_⟩ | refine .inl ⟨_, parallel_c _, ?_⟩ | refine .inl ⟨_, perpendicular_c _, ?_⟩ | refine .inl ⟨_, congruent_c _, ?_⟩ | refine .inl ⟨_, collinear_c _, ?_⟩ | refine .inl ⟨_, midpoint_c _, ?_⟩ | refine .inl ⟨_, concyclic_c _, ?_⟩ | refine .inl ⟨_, angle_c _, ?_⟩ | refine .inl ⟨_, same0_c _, ?_⟩ | refine .inl ⟨_, ratio_c _ _, ?_⟩ | refine .inl ⟨_, distinct_c _, ?_⟩ | refine .inl ⟨_, triangle_c _, ?_⟩); simp (maxSteps := 2000000) -implicitDefEqProofs [-List.map_set, Ja, -Int.natCast_add, -Int.natCast_mul, -Int.natCast_emod, -Int.natCast_ediv, -Int.natCast_pow, Jb, Jc, Jd, Je, Jf, Jg, Jh, Ji, Jj, Jk, Jl, Jm, Jn, Jo, Jp, Jq, Jr, Js, Jt, Ju, Jv, Jw, Jx, Jy, Jz])
    simp [Rul.res, Rul.ds, rulN, patsD, Pat.ds, bs, pPar, pPerp, pCong, pCol, pMid, pCirc, pAng, pSame, pRat, pDist, pTri]
  simp (maxSteps := 2000000) -implicitDefEqProofs [-List.map_set, Ja, -Int.natCast_add, -Int.natCast_mul, -Int.natCast_emod, -Int.natCast_ediv, -Int.natCast_pow, Jb, Jc, Jd, Je, Jf, Jg, Jh, Ji, Jj, Jk, Jl, Jm, Jn, Jo, Jp, Jq, Jr, Js, Jt, Ju, Jv, Jw, Jx, Jy, Jz, h10, h11, h12, h13, h14, h15, h16, h17, h18]
  rw [if_neg (by omega)]
  simp [Rul.res, Rul.ds, Rul.zero, patsD, bs, show ByteArray.empty = ⟨#[]⟩ from rfl]

theorem triangles_c (n : Int) : CallsF Tryz.prog 77 [.c (.int .i64 n)] (Rul.res (if 19 ≤ n ∧ n < 29 then rulN n.toNat else .zero)) := by
  refine callsF_of (T := tb) tab_ok mixed Tryz.func77 rfl (by decide) (Nat.le_of_ble_eq_true rfl) rfl ?_; unfold St.init
  by_cases h19 : n = 19
  · subst h19
    simp (maxSteps := 2000000) -implicitDefEqProofs [-List.map_set, Ja, -Int.natCast_add, -Int.natCast_mul, -Int.natCast_emod, -Int.natCast_ediv, -Int.natCast_pow, Jb, Jc, Jd, Je, Jf, Jg, Jh, Ji, Jj, Jk, Jl, Jm, Jn, Jo, Jp, Jq, Jr, Js, Jt, Ju, Jv, Jw, Jx, Jy, Jz]
    repeat ((first | refine .inl ⟨_, list_c _ _, ?_⟩ | refine .inl ⟨_, parallel_c _, ?_⟩ | refine .inl ⟨_, perpendicular_c _, ?_⟩ | refine .inl ⟨_, congruent_c _, ?_⟩ | refine .inl ⟨_, collinear_c _, ?_⟩ | refine .inl ⟨_, midpoint_c _, ?_⟩ | refine .inl ⟨_, concyclic_c _, ?_⟩ | refine .inl ⟨_, angle_c _, ?_⟩ | refine .inl ⟨_, same0_c _, ?_⟩ | refine .inl ⟨_, ratio_c _ _, ?_⟩ | refine .inl ⟨_, distinct_c _, ?_⟩ | refine .inl ⟨_, triangle_c _, ?_⟩); simp (maxSteps := 2000000) -implicitDefEqProofs [-List.map_set, Ja, -Int.natCast_add, -Int.natCast_mul, -Int.natCast_emod, -Int.natCast_ediv, -Int.natCast_pow, Jb, Jc, Jd, Je, Jf, Jg, Jh, Ji, Jj, Jk, Jl, Jm, Jn, Jo, Jp, Jq, Jr, Js, Jt, Ju, Jv, Jw, Jx, Jy, Jz])
    simp [Rul.res, Rul.ds, rulN, patsD, Pat.ds, bs, pPar, pPerp, pCong, pCol, pMid, pCirc, pAng, pSame, pRat, pDist, pTri]
  by_cases h20 : n = 20
  · subst h20
    simp (maxSteps := 2000000) -implicitDefEqProofs [-List.map_set, Ja, -Int.natCast_add, -Int.natCast_mul, -Int.natCast_emod, -Int.natCast_ediv, -Int.natCast_pow, Jb, Jc, Jd, Je, Jf, Jg, Jh, Ji, Jj, Jk, Jl, Jm, Jn, Jo, Jp, Jq, Jr, Js, Jt, Ju, Jv, Jw, Jx, Jy, Jz]
    repeat ((first | refine .inl ⟨_, list_c _ _, ?_⟩ | refine .inl ⟨_, parallel_c _, ?_⟩ | refine .inl ⟨_, perpendicular_c _, ?_⟩ | refine .inl ⟨_, congruent_c _, ?_⟩ | refine .inl ⟨_, collinear_c _, ?_⟩ | refine .inl ⟨_, midpoint_c _, ?_⟩ | refine .inl ⟨_, concyclic_c _, ?_⟩ | refine .inl ⟨_, angle_c _, ?_⟩ | refine .inl ⟨_, same0_c _, ?_⟩ | refine .inl ⟨_, ratio_c _ _, ?_⟩ | refine .inl ⟨_, distinct_c _, ?_⟩ | refine .inl ⟨_, triangle_c _, ?_⟩); simp (maxSteps := 2000000) -implicitDefEqProofs [-List.map_set, Ja, -Int.natCast_add, -Int.natCast_mul, -Int.natCast_emod, -Int.natCast_ediv, -Int.natCast_pow, Jb, Jc, Jd, Je, Jf, Jg, Jh, Ji, Jj, Jk, Jl, Jm, Jn, Jo, Jp, Jq, Jr, Js, Jt, Ju, Jv, Jw, Jx, Jy, Jz])
    simp [Rul.res, Rul.ds, rulN, patsD, Pat.ds, bs, pPar, pPerp, pCong, pCol, pMid, pCirc, pAng, pSame, pRat, pDist, pTri]
  by_cases h21 : n = 21
  · subst h21
    simp (maxSteps := 2000000) -implicitDefEqProofs [-List.map_set, Ja, -Int.natCast_add, -Int.natCast_mul, -Int.natCast_emod, -Int.natCast_ediv, -Int.natCast_pow, Jb, Jc, Jd, Je, Jf, Jg, Jh, Ji, Jj, Jk, Jl, Jm, Jn, Jo, Jp, Jq, Jr, Js, Jt, Ju, Jv, Jw, Jx, Jy, Jz]
    repeat ((first | refine .inl ⟨_, list_c _ _, ?_⟩ | refine .inl ⟨_, parallel_c _, ?_⟩ | refine .inl ⟨_, perpendicular_c _, ?_⟩ | refine .inl ⟨_, congruent_c _, ?_⟩ | refine .inl ⟨_, collinear_c _, ?_⟩ | refine .inl ⟨_, midpoint_c _, ?_⟩ | refine .inl ⟨_, concyclic_c _, ?_⟩ | refine .inl ⟨_, angle_c _, ?_⟩ | refine .inl ⟨_, same0_c _, ?_⟩ | refine .inl ⟨_, ratio_c _ _, ?_⟩ | refine .inl ⟨_, distinct_c _, ?_⟩ | refine .inl ⟨_, triangle_c _, ?_⟩); simp (maxSteps := 2000000) -implicitDefEqProofs [-List.map_set, Ja, -Int.natCast_add, -Int.natCast_mul, -Int.natCast_emod, -Int.natCast_ediv, -Int.natCast_pow, Jb, Jc, Jd, Je, Jf, Jg, Jh, Ji, Jj, Jk, Jl, Jm, Jn, Jo, Jp, Jq, Jr, Js, Jt, Ju, Jv, Jw, Jx, Jy, Jz])
    simp [Rul.res, Rul.ds, rulN, patsD, Pat.ds, bs, pPar, pPerp, pCong, pCol, pMid, pCirc, pAng, pSame, pRat, pDist, pTri]
  by_cases h22 : n = 22
  · subst h22
    simp (maxSteps := 2000000) -implicitDefEqProofs [-List.map_set, Ja, -Int.natCast_add, -Int.natCast_mul, -Int.natCast_emod, -Int.natCast_ediv, -Int.natCast_pow, Jb, Jc, Jd, Je, Jf, Jg, Jh, Ji, Jj, Jk, Jl, Jm, Jn, Jo, Jp, Jq, Jr, Js, Jt, Ju, Jv, Jw, Jx, Jy, Jz]
    repeat ((first | refine .inl ⟨_, list_c _ _, ?_⟩ | refine .inl ⟨_, parallel_c _, ?_⟩ | refine .inl ⟨_, perpendicular_c _, ?_⟩ | refine .inl ⟨_, congruent_c _, ?_⟩ | refine .inl ⟨_, collinear_c _, ?_⟩ | refine .inl ⟨_, midpoint_c _, ?_⟩ | refine .inl ⟨_, concyclic_c _, ?_⟩ | refine .inl ⟨_, angle_c _, ?_⟩ | refine .inl ⟨_, same0_c _, ?_⟩ | refine .inl ⟨_, ratio_c _ _, ?_⟩ | refine .inl ⟨_, distinct_c _, ?_⟩ | refine .inl ⟨_, triangle_c _, ?_⟩); simp (maxSteps := 2000000) -implicitDefEqProofs [-List.map_set, Ja, -Int.natCast_add, -Int.natCast_mul, -Int.natCast_emod, -Int.natCast_ediv, -Int.natCast_pow, Jb, Jc, Jd, Je, Jf, Jg, Jh, Ji, Jj, Jk, Jl, Jm, Jn, Jo, Jp, Jq, Jr, Js, Jt, Ju, Jv, Jw, Jx, Jy, Jz])
    simp [Rul.res, Rul.ds, rulN, patsD, Pat.ds, bs, pPar, pPerp, pCong, pCol, pMid, pCirc, pAng, pSame, pRat, pDist, pTri]
  by_cases h23 : n = 23
  · subst h23
    simp (maxSteps := 2000000) -implicitDefEqProofs [-List.map_set, Ja, -Int.natCast_add, -Int.natCast_mul, -Int.natCast_emod, -Int.natCast_ediv, -Int.natCast_pow, Jb, Jc, Jd, Je, Jf, Jg, Jh, Ji, Jj, Jk, Jl, Jm, Jn, Jo, Jp, Jq, Jr, Js, Jt, Ju, Jv, Jw, Jx, Jy, Jz]
    repeat ((first | refine .inl ⟨_, list_c _ _, ?_⟩ | refine .inl ⟨_, parallel_c _, ?_⟩ | refine .inl ⟨_, perpendicular_c _, ?_⟩ | refine .inl ⟨_, congruent_c _, ?_⟩ | refine .inl ⟨_, collinear_c _, ?_⟩ | refine .inl ⟨_, midpoint_c _, ?_⟩ | refine .inl ⟨_, concyclic_c _, ?_⟩ | refine .inl ⟨_, angle_c _, ?_⟩ | refine .inl ⟨_, same0_c _, ?_⟩ | refine .inl ⟨_, ratio_c _ _, ?_⟩ | refine .inl ⟨_, distinct_c _, ?_⟩ | refine .inl ⟨_, triangle_c _, ?_⟩); simp (maxSteps := 2000000) -implicitDefEqProofs [-List.map_set, Ja, -Int.natCast_add, -Int.natCast_mul, -Int.natCast_emod, -Int.natCast_ediv, -Int.natCast_pow, Jb, Jc, Jd, Je, Jf, Jg, Jh, Ji, Jj, Jk, Jl, Jm, Jn, Jo, Jp, Jq, Jr, Js, Jt, Ju, Jv, Jw, Jx, Jy, Jz])
    simp [Rul.res, Rul.ds, rulN, patsD, Pat.ds, bs, pPar, pPerp, pCong, pCol, pMid, pCirc, pAng, pSame, pRat, pDist, pTri]
  by_cases h24 : n = 24
  · subst h24
    simp (maxSteps := 2000000) -implicitDefEqProofs [-List.map_set, Ja, -Int.natCast_add, -Int.natCast_mul, -Int.natCast_emod, -Int.natCast_ediv, -Int.natCast_pow, Jb, Jc, Jd, Je, Jf, Jg, Jh, Ji, Jj, Jk, Jl, Jm, Jn, Jo, Jp, Jq, Jr, Js, Jt, Ju, Jv, Jw, Jx, Jy, Jz]
    repeat ((first | refine .inl ⟨_, list_c _ _, ?_⟩ | refine .inl ⟨_, parallel_c _, ?_⟩ | refine .inl ⟨_, perpendicular_c _, ?_⟩ | refine .inl ⟨_, congruent_c _, ?_⟩ | refine .inl ⟨_, collinear_c _, ?_⟩ | refine .inl ⟨_, midpoint_c _, ?_⟩ | refine .inl ⟨_, concyclic_c _, ?_⟩ | refine .inl ⟨_, angle_c _, ?_⟩ | refine .inl ⟨_, same0_c _, ?_⟩ | refine .inl ⟨_, ratio_c _ _, ?_⟩ | refine .inl ⟨_, distinct_c _, ?_⟩ | refine .inl ⟨_, triangle_c _, ?_⟩); simp (maxSteps := 2000000) -implicitDefEqProofs [-List.map_set, Ja, -Int.natCast_add, -Int.natCast_mul, -Int.natCast_emod, -Int.natCast_ediv, -Int.natCast_pow, Jb, Jc, Jd, Je, Jf, Jg, Jh, Ji, Jj, Jk, Jl, Jm, Jn, Jo, Jp, Jq, Jr, Js, Jt, Ju, Jv, Jw, Jx, Jy, Jz])
    simp [Rul.res, Rul.ds, rulN, patsD, Pat.ds, bs, pPar, pPerp, pCong, pCol, pMid, pCirc, pAng, pSame, pRat, pDist, pTri]
  by_cases h25 : n = 25
  · subst h25
    simp (maxSteps := 2000000) -implicitDefEqProofs [-List.map_set, Ja, -Int.natCast_add, -Int.natCast_mul, -Int.natCast_emod, -Int.natCast_ediv, -Int.natCast_pow, Jb, Jc, Jd, Je, Jf, Jg, Jh, Ji, Jj, Jk, Jl, Jm, Jn, Jo, Jp, Jq, Jr, Js, Jt, Ju, Jv, Jw, Jx, Jy, Jz]
    repeat ((first | refine .inl ⟨_, list_c _ _, ?_⟩ | refine .inl ⟨_, parallel_c _, ?_⟩ | refine .inl ⟨_, perpendicular_c _, ?_⟩ | refine .inl ⟨_, congruent_c _, ?_⟩ | refine .inl ⟨_, collinear_c _, ?_⟩ | refine .inl ⟨_, midpoint_c _, ?_⟩ | refine .inl ⟨_, concyclic_c _, ?_⟩ | refine .inl ⟨_, angle_c _, ?_⟩ | refine .inl ⟨_, same0_c _, ?_⟩ | refine .inl ⟨_, ratio_c _ _, ?_⟩ | refine .inl ⟨_, distinct_c _, ?_⟩ | refine .inl ⟨_, triangle_c _, ?_⟩); simp (maxSteps := 2000000) -implicitDefEqProofs [-List.map_set, Ja, -Int.natCast_add, -Int.natCast_mul, -Int.natCast_emod, -Int.natCast_ediv, -Int.natCast_pow, Jb, Jc, Jd, Je, Jf, Jg, Jh, Ji, Jj, Jk, Jl, Jm, Jn, Jo, Jp, Jq, Jr, Js, Jt, Ju, Jv, Jw, Jx, Jy, Jz])
    simp [Rul.res, Rul.ds, rulN, patsD, Pat.ds, bs, pPar, pPerp, pCong, pCol, pMid, pCirc, pAng, pSame, pRat, pDist, pTri]
  by_cases h26 : n = 26
  · subst h26
    simp (maxSteps := 2000000) -implicitDefEqProofs [-List.map_set, Ja, -Int.natCast_add, -Int.natCast_mul, -Int.natCast_emod, -Int.natCast_ediv, -Int.natCast_pow, Jb, Jc, Jd, Je, Jf, Jg, Jh, Ji, Jj, Jk, Jl, Jm, Jn, Jo, Jp, Jq, Jr, Js, Jt, Ju, Jv, Jw, Jx, Jy, Jz]
    repeat ((first | refine .inl ⟨_, list_c _ _, ?_⟩ | refine .inl ⟨_, parallel_c _, ?_⟩ | refine .inl ⟨_, perpendicular_c _, ?_⟩ | refine .inl ⟨_, congruent_c _, ?_⟩ | refine .inl ⟨_, collinear_c _, ?_⟩ | refine .inl ⟨_, midpoint_c _, ?_⟩ | refine .inl ⟨_, concyclic_c _, ?_⟩ | refine .inl ⟨_, angle_c _, ?_⟩ | refine .inl ⟨_, same0_c _, ?_⟩ | refine .inl ⟨_, ratio_c _ _, ?_⟩ | refine .inl ⟨_, distinct_c _, ?_⟩ | refine .inl ⟨_, triangle_c _, ?_⟩); simp (maxSteps := 2000000) -implicitDefEqProofs [-List.map_set, Ja, -Int.natCast_add, -Int.natCast_mul, -Int.natCast_emod, -Int.natCast_ediv, -Int.natCast_pow, Jb, Jc, Jd, Je, Jf, Jg, Jh, Ji, Jj, Jk, Jl, Jm, Jn, Jo, Jp, Jq, Jr, Js, Jt, Ju, Jv, Jw, Jx, Jy, Jz])
    simp [Rul.res, Rul.ds, rulN, patsD, Pat.ds, bs, pPar, pPerp, pCong, pCol, pMid, pCirc, pAng, pSame, pRat, pDist, pTri]
  by_cases h27 : n = 27
  · subst h27
    simp (maxSteps := 2000000) -implicitDefEqProofs [-List.map_set, Ja, -Int.natCast_add, -Int.natCast_mul, -Int.natCast_emod, -Int.natCast_ediv, -Int.natCast_pow, Jb, Jc, Jd, Je, Jf, Jg, Jh, Ji, Jj, Jk, Jl, Jm, Jn, Jo, Jp, Jq, Jr, Js, Jt, Ju, Jv, Jw, Jx, Jy, Jz]
    repeat ((first | refine .inl ⟨_, list_c _ _, ?_⟩ | refine .inl ⟨_, parallel_c _, ?_⟩ | refine .inl ⟨_, perpendicular_c _, ?_⟩ | refine .inl ⟨_, congruent_c _, ?_⟩ | refine .inl ⟨_, collinear_c _, ?_⟩ | refine .inl ⟨_, midpoint_c _, ?_⟩ | refine .inl ⟨_, concyclic_c _, ?_⟩ | refine .inl ⟨_, angle_c _, ?_⟩ | refine .inl ⟨_, same0_c _, ?_⟩ | refine .inl ⟨_, ratio_c _ _, ?_⟩ | refine .inl ⟨_, distinct_c _, ?_⟩ | refine .inl ⟨_, triangle_c _, ?_⟩); simp (maxSteps := 2000000) -implicitDefEqProofs [-List.map_set, Ja, -Int.natCast_add, -Int.natCast_mul, -Int.natCast_emod, -Int.natCast_ediv, -Int.natCast_pow, Jb, Jc, Jd, Je, Jf, Jg, Jh, Ji, Jj, Jk, Jl, Jm, Jn, Jo, Jp, Jq, Jr, Js, Jt, Ju, Jv, Jw, Jx, Jy, Jz])
    simp [Rul.res, Rul.ds, rulN, patsD, Pat.ds, bs, pPar, pPerp, pCong, pCol, pMid, pCirc, pAng, pSame, pRat, pDist, pTri]
  by_cases h28 : n = 28
  · subst h28
    simp (maxSteps := 2000000) -implicitDefEqProofs [-List.map_set, Ja, -Int.natCast_add, -Int.natCast_mul, -Int.natCast_emod, -Int.natCast_ediv, -Int.natCast_pow, Jb, Jc, Jd, Je, Jf, Jg, Jh, Ji, Jj, Jk, Jl, Jm, Jn, Jo, Jp, Jq, Jr, Js, Jt, Ju, Jv, Jw, Jx, Jy, Jz]
    repeat ((first | refine .inl ⟨_, list_c _ _, ?_⟩ | refine .inl ⟨_, parallel_c _, ?_⟩ | refine .inl ⟨_, perpendicular_c _, ?_⟩ | refine .inl ⟨_, congruent_c _, ?_⟩ | refine .inl ⟨_, collinear_c _, ?_⟩ | refine .inl ⟨_, midpoint_c _, ?_⟩ | refine .inl ⟨_, concyclic_c _, ?_⟩ | refine .inl ⟨_, angle_c _, ?_⟩ | refine .inl ⟨_, same0_c _, ?_⟩ | refine .inl ⟨_, ratio_c _ _, ?_⟩ | refine .inl ⟨_, distinct_c _, ?_⟩ | refine .inl ⟨_, triangle_c _, ?_⟩); simp (maxSteps := 2000000) -implicitDefEqProofs [-List.map_set, Ja, -Int.natCast_add, -Int.natCast_mul, -Int.natCast_emod, -Int.natCast_ediv, -Int.natCast_pow, Jb, Jc, Jd, Je, Jf, Jg, Jh, Ji, Jj, Jk, Jl, Jm, Jn, Jo, Jp, Jq, Jr, Js, Jt, Ju, Jv, Jw, Jx, Jy, Jz])
    simp [Rul.res, Rul.ds, rulN, patsD, Pat.ds, bs, pPar, pPerp, pCong, pCol, pMid, pCirc, pAng, pSame, pRat, pDist, pTri]
  simp (maxSteps := 2000000) -implicitDefEqProofs [-List.map_set, Ja, -Int.natCast_add, -Int.natCast_mul, -Int.natCast_emod, -Int.natCast_ediv, -Int.natCast_pow, Jb, Jc, Jd, Je, Jf, Jg, Jh, Ji, Jj, Jk, Jl, Jm, Jn, Jo, Jp, Jq, Jr, Js, Jt, Ju, Jv, Jw, Jx, Jy, Jz, h19, h20, h21, h22, h23, h24, h25, h26, h27, h28]
  rw [if_neg (by omega)]
  simp [Rul.res, Rul.ds, Rul.zero, patsD, bs, show ByteArray.empty = ⟨#[]⟩ from rfl]

end Go.Va

/-
  Contracts: the names and the numbers of premises of the rules.
-/
namespace Go.Va
open Go.Proofs
set_option maxHeartbeats 4000000
set_option maxRecDepth 10000
set_option linter.unusedSimpArgs false
set_option linter.unusedVariables false

/-- The rule with a number. -/
def rulT (n : Int) : Rul := { rulN n.toNat with count := (rulN n.toNat).count + (rulN n.toNat).prem.length }

theorem rulN_ge (n : Nat) (h : 28 < n) : rulN n = .zero := by
  unfold rulN
  split <;> first | omega | rfl
theorem rulN_sel (n : Int) : (if n < 10 then (if 1 ≤ n then rulN n.toNat else Rul.zero) else if n < 19 then (if 10 ≤ n then rulN n.toNat else .zero) else (if 19 ≤ n ∧ n < 29 then rulN n.toNat else .zero)) = rulN n.toNat := by
  by_cases h1 : n < 10
  · rw [if_pos h1]
    by_cases h2 : 1 ≤ n
    · rw [if_pos h2]
    · rw [if_neg h2, show n.toNat = 0 by omega]; rfl
  rw [if_neg h1]
  by_cases h2 : n < 19
  · rw [if_pos h2, if_pos (by omega)]
  rw [if_neg h2]
  by_cases h3 : n < 29
  · rw [if_pos ⟨by omega, h3⟩]
  · rw [if_neg (by omega), rulN_ge n.toNat (by omega)]

theorem rulN_small (n : Nat) : (rulN n).count ≤ 2 ∧ 0 ≤ (rulN n).count ∧ (rulN n).prem.length ≤ 3 := by
  unfold rulN
  split <;> simp [Rul.zero]

theorem ruleOf_c (n : Int) : CallsF Tryz.prog 37 [.c (.int .i64 n)] (rulT n).res := by
  have hs := rulN_small n.toNat
  have e := rulN_sel n
  unfold rulT
  generalize hR : rulN n.toNat = R at *
  obtain ⟨nm, p, c, g, k, d⟩ := R
  simp only at hs
  simp only [Rul.res, Rul.ds] at *
  refine callsF_of (T := tb) tab_ok mixed Tryz.func37 rfl (by decide) (Nat.le_of_ble_eq_true rfl) rfl ?_; unfold St.init
  by_cases h1 : n < 10
  · have c1 := lines_c n h1
    rw [if_pos h1] at e
    rw [hR, e] at c1
    simp only [Rul.res, Rul.ds] at c1
    simp (maxSteps := 2000000) -implicitDefEqProofs [-List.map_set, Ja, -Int.natCast_add, -Int.natCast_mul, -Int.natCast_emod, -Int.natCast_ediv, -Int.natCast_pow, Jb, Jc, Jd, Je, Jf, Jg, Jh, Ji, Jj, Jk, Jl, Jm, Jn, Jo, Jp, Jq, Jr, Js, Jt, Ju, Jv, Jw, Jx, Jy, Jz, h1]
    (first | refine .inl ⟨_, c1, ?_⟩ | refine ⟨_, c1, ?_⟩)
    simp (maxSteps := 2000000) -implicitDefEqProofs [-List.map_set, Ja, -Int.natCast_add, -Int.natCast_mul, -Int.natCast_emod, -Int.natCast_ediv, -Int.natCast_pow, Jb, Jc, Jd, Je, Jf, Jg, Jh, Ji, Jj, Jk, Jl, Jm, Jn, Jo, Jp, Jq, Jr, Js, Jt, Ju, Jv, Jw, Jx, Jy, Jz, patsD]
    trace_state
    omega
  rw [if_neg h1] at e
  by_cases h2 : n < 19
  · have c1 := circles_c n h2
    rw [if_pos h2] at e
    rw [hR, e] at c1
    simp only [Rul.res, Rul.ds] at c1
    simp (maxSteps := 2000000) -implicitDefEqProofs [-List.map_set, Ja, -Int.natCast_add, -Int.natCast_mul, -Int.natCast_emod, -Int.natCast_ediv, -Int.natCast_pow, Jb, Jc, Jd, Je, Jf, Jg, Jh, Ji, Jj, Jk, Jl, Jm, Jn, Jo, Jp, Jq, Jr, Js, Jt, Ju, Jv, Jw, Jx, Jy, Jz, h1, h2]
    (first | refine .inl ⟨_, c1, ?_⟩ | refine ⟨_, c1, ?_⟩)
    simp (maxSteps := 2000000) -implicitDefEqProofs [-List.map_set, Ja, -Int.natCast_add, -Int.natCast_mul, -Int.natCast_emod, -Int.natCast_ediv, -Int.natCast_pow, Jb, Jc, Jd, Je, Jf, Jg, Jh, Ji, Jj, Jk, Jl, Jm, Jn, Jo, Jp, Jq, Jr, Js, Jt, Ju, Jv, Jw, Jx, Jy, Jz, patsD]
    trace_state
    omega
  rw [if_neg h2] at e
  have c1 := triangles_c n
  rw [hR, e] at c1
  simp only [Rul.res, Rul.ds] at c1
  simp (maxSteps := 2000000) -implicitDefEqProofs [-List.map_set, Ja, -Int.natCast_add, -Int.natCast_mul, -Int.natCast_emod, -Int.natCast_ediv, -Int.natCast_pow, Jb, Jc, Jd, Je, Jf, Jg, Jh, Ji, Jj, Jk, Jl, Jm, Jn, Jo, Jp, Jq, Jr, Js, Jt, Ju, Jv, Jw, Jx, Jy, Jz, h1, h2]
  (first | refine .inl ⟨_, c1, ?_⟩ | refine ⟨_, c1, ?_⟩)
  simp (maxSteps := 2000000) -implicitDefEqProofs [-List.map_set, Ja, -Int.natCast_add, -Int.natCast_mul, -Int.natCast_emod, -Int.natCast_ediv, -Int.natCast_pow, Jb, Jc, Jd, Je, Jf, Jg, Jh, Ji, Jj, Jk, Jl, Jm, Jn, Jo, Jp, Jq, Jr, Js, Jt, Ju, Jv, Jw, Jx, Jy, Jz, patsD]
  omega

end Go.Va

/-
  Contracts: what the letters stand for.
-/
namespace Go.Va
open Go.Proofs
set_option maxHeartbeats 4000000
set_option maxRecDepth 10000
set_option linter.unusedSimpArgs false
set_option linter.unusedVariables false

/-- What the letters stand for: 26 points, then 26 segments, 1 added: 78 numbers. -/
structure Bnd where
  v : List Int
  h : v.length = 78
theorem Bnd.ext' {a b : Bnd} (h : a.v = b.v) : a = b := by cases a; cases b; simp only at h; subst h; rfl
def Bnd.ds (b : Bnd) : List D := b.v.map i64
def Bnd.cs (b : Bnd) : List C := b.v.map fun x => .d (i64 x)
def Bnd.rs (b : Bnd) : List RC := b.v.map fun x => .d (i64 x)
def Bnd.zero : Bnd := ⟨List.replicate 78 0, rfl⟩
def Bnd.P (b : Bnd) (k : Nat) : Int := b.v.getD k 0
def Bnd.S1 (b : Bnd) (k : Nat) : Int := b.v.getD (26 + k * 2) 0
def Bnd.S2 (b : Bnd) (k : Nat) : Int := b.v.getD (26 + k * 2 + 1) 0
def Bnd.setP (b : Bnd) (k : Nat) (x : Int) : Bnd := ⟨b.v.set k x, by simp [b.h]⟩
def Bnd.setS (b : Bnd) (k : Nat) (x y : Int) : Bnd := ⟨(b.v.set (26 + k * 2) x).set (26 + k * 2 + 1) y, by simp [b.h]⟩

section
variable (b : Bnd)
@[simp] theorem Bnd.cs_len : b.cs.length = 78 := by simp [Bnd.cs, b.h]
@[simp] theorem Bnd.ds_len : b.ds.length = 78 := by simp [Bnd.ds, b.h]
@[simp] theorem Bnd.map_ds : b.ds.map C.d = b.cs := by simp [Bnd.cs, Bnd.ds]
@[simp] theorem Bnd.on_cs (g : Nat → C → C) : b.cs.map (C.on g) = b.cs := by simp [Bnd.cs]
@[simp] theorem Bnd.take_cs : b.cs.take 78 = b.cs := List.take_of_length_le (by simp)
@[simp] theorem Bnd.cut_cs : cut 0 78 b.cs = b.cs := by simp [cut]
@[simp] theorem Bnd.splice_rep (z : C) : splice 0 b.cs (List.replicate 78 z) = b.cs := by simp [splice]
@[simp] theorem Bnd.splice_cs (b' : Bnd) : splice 0 b.cs b'.cs = b.cs := by simp [splice, List.drop_of_length_le]
@[simp] theorem Bnd.toD_cs (ok : Nat → Bool) (h : List (Nat × Blk)) (k : Nat) : b.cs.mapM (toD ok h k) = some b.ds := by
  unfold Bnd.cs Bnd.ds
  induction b.v with
  | nil => rfl
  | cons a r ih =>
    have : toD ok h k (.d (i64 a)) = some (i64 a) := by cases k <;> rfl
    simp only [List.map_cons, List.mapM_cons, this, ih]
    rfl
theorem reach_nil_of (h : List (Nat × Blk)) : ∀ (k : Nat) (l : List C), (∀ c ∈ l, c.id? = none) → reach h k l = []
  | 0, _, _ => rfl
  | k + 1, l, hl => by
    unfold reach
    rw [List.flatMap_eq_nil_iff]
    intro c hc
    rw [hl c hc]
theorem Bnd.id_cs : ∀ c ∈ b.cs, c.id? = none := fun c hc => by
  unfold Bnd.cs at hc
  obtain ⟨x, _, rfl⟩ := List.mem_map.1 hc
  rfl
theorem reach_append (h : List (Nat × Blk)) (k : Nat) (l1 l2 : List C) : reach h k (l1 ++ l2) = reach h k l1 ++ reach h k l2 := by
  cases k with
  | zero => rfl
  | succ k => simp [reach, List.flatMap_append]
@[simp] theorem Bnd.reach_cs (h : List (Nat × Blk)) (k : Nat) : reach h k b.cs = [] := reach_nil_of h k _ b.id_cs
theorem reach_nil (h : List (Nat × Blk)) (k : Nat) : reach h k [] = [] := by cases k <;> rfl
theorem reach_cons_d (h : List (Nat × Blk)) (k : Nat) (x : D) (l : List C) : reach h k (.d x :: l) = reach h k l := by cases k <;> rfl
theorem reach_cons_row {h : List (Nat × Blk)} {i off n sz : Nat} {cs : List D} {app : Bool} (hl : lk i h = some (.row sz cs app)) (k : Nat) (l : List C) : reach h (k + 1) (.sl i off n :: l) = i :: reach h (k + 1) l := by
  simp [reach, C.id?, hl]
@[simp] theorem Bnd.flatMap_reach (f : C → List Nat) (hf : ∀ c, c.id? = none → f c = []) : b.cs.flatMap f = [] := List.flatMap_eq_nil_iff.2 fun c hc => hf c (b.id_cs c hc)
@[simp] theorem Bnd.noIds_cs : b.cs.all (fun c => c.id?.isNone) = true := List.all_eq_true.2 fun c hc => by rw [b.id_cs c hc]; rfl
@[simp] theorem Bnd.men_cs (d : Nat) : b.cs.any (C.men d) = false := List.any_eq_false.2 fun c hc => by simp [C.men, b.id_cs c hc]
@[simp] theorem Bnd.ptr_cs : b.cs.any isPtr = false := List.any_eq_false.2 fun c hc => by
  unfold Bnd.cs at hc
  obtain ⟨x, _, rfl⟩ := List.mem_map.1 hc
  simp
@[simp] theorem Bnd.imp_rs (k : Nat) : b.rs.map (RC.imp k) = b.cs := by simp [Bnd.cs, Bnd.rs, RC.imp]
@[simp] theorem Bnd.rows_rs : b.rs.flatMap RC.rows = [] := by
  rw [List.flatMap_eq_nil_iff]
  intro c hc
  obtain ⟨x, _, rfl⟩ := List.mem_map.1 hc
  rfl
@[simp] theorem Bnd.flat_rs : b.rs.all RC.flat = true := List.all_eq_true.2 fun c hc => by
  obtain ⟨x, _, rfl⟩ := List.mem_map.1 hc
  rfl
theorem fitL_ints (st : St) (pure : Bool) : ∀ l : List Int, fitL (fitC st pure) (l.map fun x => C.d (i64 x)) (l.map fun x => RC.d (i64 x))
  | [] => trivial
  | a :: l => ⟨⟨fun _ => rfl, rfl⟩, fitL_ints st pure l⟩
@[simp] theorem Bnd.fit_rs (st : St) (pure : Bool) : fitL (fitC st pure) b.cs b.rs := fitL_ints st pure b.v

theorem Bnd.get_p {k : Nat} (hk : k < 26) : b.cs[k]? = some (.d (.int .i64 (b.P k))) := by
  have h1 : k < b.v.length := by rw [b.h]; omega
  simp [Bnd.cs, Bnd.P, h1, i64]
theorem Bnd.set_p {k : Nat} (hk : k < 26) (x : Int) : splice k [.d (.int .i64 x)] b.cs = (b.setP k x).cs := by
  have h1 : k < b.cs.length := by rw [b.cs_len]; omega
  apply List.ext_getElem?
  intro j
  rw [splice_get _ _ _ (by simp; omega)]
  have h2 : k < b.v.length := by rw [b.h]; omega
  simp only [Bnd.cs, Bnd.setP, List.getElem?_map, List.getElem?_set]
  by_cases e1 : j = k
  · subst e1; simp [h2, i64]
  · rw [if_neg (by simp; omega), if_neg (by omega)]
theorem Bnd.get_s {k : Nat} (hk : k < 26) : (b.cs.drop (26 + k * 2)).take 2 = [.d (.int .i64 (b.S1 k)), .d (.int .i64 (b.S2 k))] := by
  have h1 : 26 + k * 2 < b.v.length := by rw [b.h]; omega
  have h2 : 26 + k * 2 + 1 < b.v.length := by rw [b.h]; omega
  unfold Bnd.cs
  apply List.ext_getElem?
  intro j
  rw [List.getElem?_take, List.getElem?_drop, List.getElem?_map]
  match j with
  | 0 => simp [Bnd.S1, h1, i64]
  | 1 => simp [Bnd.S2, h2, i64]
  | j + 2 => simp; omega
theorem Bnd.set_s {k : Nat} (hk : k < 26) (x y : Int) : splice (26 + k * 2) [.d (.int .i64 x), .d (.int .i64 y)] b.cs = (b.setS k x y).cs := by
  have h1 : 26 + k * 2 + 1 < b.v.length := by rw [b.h]; omega
  apply List.ext_getElem?
  intro j
  rw [splice_get _ _ _ (by simp; omega)]
  simp only [Bnd.cs, Bnd.setS, List.getElem?_map, List.getElem?_set, List.length_set]
  by_cases e1 : j = 26 + k * 2
  · subst e1; simp [show 26 + k * 2 < b.v.length by omega, i64]
  · by_cases e2 : j = 26 + k * 2 + 1
    · subst e2; simp [h1, i64]
    · rw [if_neg (by simp; omega), if_neg (by omega), if_neg (by omega)]
end
/-- A letter is bound. -/
def Bnd.point (b : Bnd) (k : Nat) (p : Int) : Option Bnd := if b.P k ≠ 0 ∧ b.P k ≠ p + 1 then none else some (b.setP k (p + 1))
def Bnd.segment (b : Bnd) (k : Nat) (s : Int × Int) : Option Bnd := if ¬ (b.S1 k = 0 ∧ b.S2 k = 0) ∧ ¬ (b.S1 k = s.1 + 1 ∧ b.S2 k = s.2 + 1) then none else some (b.setS k (s.1 + 1) (s.2 + 1))
def bndR (b : Bnd) (o : Option Bnd) : R := .tup [.agg (o.getD b).rs, .c (.d (.bool o.isSome))]

theorem point_c (b : Bnd) (k : Nat) (hk : k < 26) (p : Int) (hp : -1 ≤ p ∧ p < 1000000) :
    CallsF Tryz.prog 184 [.agg b.ds, .c (.int .u8 ((65 + k : Nat) : Int)), .c (.int .i64 p)] (bndR b (b.point k p)) := by
  have e1 : (((65 + k : Nat) : Int) - 65) % 256 = (k : Int) := by omega
  have g := Bnd.get_p b hk
  have s1 := Bnd.set_p b hk (p + 1)
  have hb : b.point k p = if b.P k ≠ 0 ∧ b.P k ≠ p + 1 then none else some (b.setP k (p + 1)) := rfl
  rw [hb]
  generalize b.P k = v at *
  generalize b.setP k (p + 1) = b' at *
  unfold bndR
  refine callsF_of (T := tb) tab_ok mixed Tryz.func184 rfl (by decide) (Nat.le_of_ble_eq_true rfl) rfl ?_; unfold St.init
  simp (maxSteps := 2000000) -implicitDefEqProofs [-List.map_set, Ja, -Int.natCast_add, -Int.natCast_mul, -Int.natCast_emod, -Int.natCast_ediv, -Int.natCast_pow, Jb, Jc, Jd, Je, Jf, Jg, Jh, Ji, Jj, Jk, Jl, Jm, Jn, Jo, Jp, Jq, Jr, Js, Jt, Ju, Jv, Jw, Jx, Jy, Jz, e1, g, -List.reduceReplicate]
  by_cases h1 : v = 0
  · simp (maxSteps := 2000000) -implicitDefEqProofs [-List.map_set, Ja, -Int.natCast_add, -Int.natCast_mul, -Int.natCast_emod, -Int.natCast_ediv, -Int.natCast_pow, Jb, Jc, Jd, Je, Jf, Jg, Jh, Ji, Jj, Jk, Jl, Jm, Jn, Jo, Jp, Jq, Jr, Js, Jt, Ju, Jv, Jw, Jx, Jy, Jz, h1, g, s1, -List.reduceReplicate]
    omega
  · by_cases h2 : v = p + 1
    · simp (maxSteps := 2000000) -implicitDefEqProofs [-List.map_set, Ja, -Int.natCast_add, -Int.natCast_mul, -Int.natCast_emod, -Int.natCast_ediv, -Int.natCast_pow, Jb, Jc, Jd, Je, Jf, Jg, Jh, Ji, Jj, Jk, Jl, Jm, Jn, Jo, Jp, Jq, Jr, Js, Jt, Ju, Jv, Jw, Jx, Jy, Jz, h1, h2, g, s1, -List.reduceReplicate]
      omega
    · simp (maxSteps := 2000000) -implicitDefEqProofs [-List.map_set, Ja, -Int.natCast_add, -Int.natCast_mul, -Int.natCast_emod, -Int.natCast_ediv, -Int.natCast_pow, Jb, Jc, Jd, Je, Jf, Jg, Jh, Ji, Jj, Jk, Jl, Jm, Jn, Jo, Jp, Jq, Jr, Js, Jt, Ju, Jv, Jw, Jx, Jy, Jz, h1, h2, g, s1, -List.reduceReplicate]
      omega

theorem segment_c (b : Bnd) (k : Nat) (hk : k < 26) (p q : Int) (hp : -1 ≤ p ∧ p < 1000000) (hq : -1 ≤ q ∧ q < 1000000) :
    CallsF Tryz.prog 245 [.agg b.ds, .c (.int .u8 ((97 + k : Nat) : Int)), .agg [.int .i64 p, .int .i64 q]] (bndR b (b.segment k (p, q))) := by
  have e1 : (((97 + k : Nat) : Int) - 97) % 256 = (k : Int) := by omega
  have g := Bnd.get_s b hk
  have s1 := Bnd.set_s b hk (p + 1) (q + 1)
  have hb : b.segment k (p, q) = if ¬ (b.S1 k = 0 ∧ b.S2 k = 0) ∧ ¬ (b.S1 k = p + 1 ∧ b.S2 k = q + 1) then none else some (b.setS k (p + 1) (q + 1)) := rfl
  rw [hb]
  generalize b.S1 k = v1 at *
  generalize b.S2 k = v2 at *
  generalize b.setS k (p + 1) (q + 1) = b' at *
  unfold bndR
  refine callsF_of (T := tb) tab_ok mixed Tryz.func245 rfl (by decide) (Nat.le_of_ble_eq_true rfl) rfl ?_; unfold St.init
  simp (maxSteps := 2000000) -implicitDefEqProofs [-List.map_set, Ja, -Int.natCast_add, -Int.natCast_mul, -Int.natCast_emod, -Int.natCast_ediv, -Int.natCast_pow, Jb, Jc, Jd, Je, Jf, Jg, Jh, Ji, Jj, Jk, Jl, Jm, Jn, Jo, Jp, Jq, Jr, Js, Jt, Ju, Jv, Jw, Jx, Jy, Jz, e1, g, -List.reduceReplicate]
  refine ⟨by omega, by omega, hk, ?_⟩
  refine wpDraw_by [[], [0], [0, 1], [], [0, 1, 2, 3], [0, 1, 2, 3, 4], [0, 1, 2, 3, 4, 5], [0, 1, 2, 3, 4, 5, 6], [0, 1, 2, 3, 4, 5, 6, 7], [0, 1, 2, 3, 4, 5], [0, 1, 2, 3, 4, 5, 6, 7, 8, 9], [0, 1, 2, 3, 4, 5, 6, 7, 8, 9, 10]] [.any [] [] [⟨0, [9], [], [], []⟩, ⟨0, [21], [], [], []⟩, ⟨0, [22], [], [], []⟩, ⟨0, [], [], [], []⟩], .one, .one, .any [] [] [⟨0, [9, 26], [], [], []⟩, ⟨0, [27, 26], [], [], []⟩, ⟨0, [28, 26], [], [], []⟩, ⟨0, [8, 26], [], [], []⟩], .one, .one] (by rfl) ?_
  simp (maxSteps := 2000000) -implicitDefEqProofs [-List.map_set, Ja, -Int.natCast_add, -Int.natCast_mul, -Int.natCast_emod, -Int.natCast_ediv, -Int.natCast_pow, Jb, Jc, Jd, Je, Jf, Jg, Jh, Ji, Jj, Jk, Jl, Jm, Jn, Jo, Jp, Jq, Jr, Js, Jt, Ju, Jv, Jw, Jx, Jy, Jz, e1, g, -List.reduceReplicate]
  have fin : k ≤ 25 := by omega
  have fin2 : 26 + k * 2 ≤ 76 := by omega
  rcases Classical.propComplete (v1 = 0) with a1 | a1 <;> rcases Classical.propComplete (v2 = 0) with a2 | a2 <;> rcases Classical.propComplete (v1 = p + 1) with b1 | b1 <;> rcases Classical.propComplete (v2 = q + 1) with b2 | b2 <;>
    simp (maxSteps := 2000000) -implicitDefEqProofs [-List.map_set, Ja, -Int.natCast_add, -Int.natCast_mul, -Int.natCast_emod, -Int.natCast_ediv, -Int.natCast_pow, Jb, Jc, Jd, Je, Jf, Jg, Jh, Ji, Jj, Jk, Jl, Jm, Jn, Jo, Jp, Jq, Jr, Js, Jt, Ju, Jv, Jw, Jx, Jy, Jz, a1, a2, b1, b2, g, s1, fin2, -List.reduceReplicate]

theorem small_c (c : Nat) : CallsF Tryz.prog 188 [.c (.int .u8 (c : Int))] (.u (.c (.d (.bool (decide (97 ≤ c)))))) := by
  refine callsF_of (T := tb) tab_ok mixed Tryz.func188 rfl (by decide) (Nat.le_of_ble_eq_true rfl) rfl ?_; unfold St.init
  simp (maxSteps := 2000000) -implicitDefEqProofs [-List.map_set, Ja, -Int.natCast_add, -Int.natCast_mul, -Int.natCast_emod, -Int.natCast_ediv, -Int.natCast_pow, Jb, Jc, Jd, Je, Jf, Jg, Jh, Ji, Jj, Jk, Jl, Jm, Jn, Jo, Jp, Jq, Jr, Js, Jt, Ju, Jv, Jw, Jx, Jy, Jz]

end Go.Va

/-
  Contracts: the points of a pattern's letters.
-/
namespace Go.Va
open Go.Proofs
set_option maxHeartbeats 4000000
set_option maxRecDepth 10000
set_option linter.unusedSimpArgs false
set_option linter.unusedVariables false

@[simp] theorem bs_size (l : List UInt8) : (bs l).size = l.length := by simp [bs, ByteArray.size]
theorem bs_get' (l : List UInt8) (i : Nat) : (bs l)[i]? = l[i]? := by
  by_cases h : i < l.length
  · rw [getElem?_pos (bs l) i (by simpa using h), List.getElem?_eq_getElem h]
    congr 1
  · rw [getElem?_neg (bs l) i (by simpa using h), List.getElem?_eq_none (by omega)]
@[simp] theorem bs_getE (l : List UInt8) (i : Nat) (h : i < (bs l).size) : (bs l)[i] = l[i]'(by simpa using h) := rfl
theorem bs_toList_loop (l : List UInt8) : ∀ (n i : Nat) (r : List UInt8), n = l.length - i → i ≤ l.length → ByteArray.toList.loop (bs l) i r = r.reverse ++ l.drop i
  | 0, i, r, h, hi => by
    unfold ByteArray.toList.loop
    rw [if_neg (by simp; omega), List.drop_of_length_le (by omega), List.append_nil]
  | n + 1, i, r, h, hi => by
    have hlt : i < l.length := by omega
    unfold ByteArray.toList.loop
    rw [if_pos (by simpa using hlt), bs_toList_loop l n (i + 1) _ (by omega) (by omega)]
    have e : (bs l).get! i = l[i] := by simp [ByteArray.get!, bs, hlt]
    rw [e, List.drop_eq_getElem_cons hlt]
    simp
@[simp] theorem bs_toList (l : List UInt8) : (bs l).toList = l := by
  unfold ByteArray.toList
  rw [bs_toList_loop l l.length 0 [] rfl (Nat.zero_le _)]
  simp
theorem bs_drop (l : List UInt8) (n : Nat) (h : n ≤ l.length) : (bs l).extract n (n + (l.length - n)) = bs (l.drop n) := by
  unfold bs
  apply ByteArray.ext
  apply Array.ext'
  simp [ByteArray.extract, ByteArray.copySlice]
  exact List.take_of_length_le (by simp)

/-- A letter. -/
def ltr (c : UInt8) : Prop := (65 ≤ c.toNat ∧ c.toNat < 91) ∨ (97 ≤ c.toNat ∧ c.toNat < 123)
def Bnd.Ok (b : Bnd) : Prop := ∀ x ∈ b.v, 0 ≤ x ∧ x < 2000000
theorem Bnd.Ok.p {b : Bnd} (h : b.Ok) {k : Nat} (hk : k < 26) : 0 ≤ b.P k ∧ b.P k < 2000000 := by
  have h1 : k < b.v.length := by rw [b.h]; omega
  refine h _ ?_
  simp [Bnd.P, h1]
theorem Bnd.Ok.s {b : Bnd} (h : b.Ok) {k : Nat} (hk : k < 26) : (0 ≤ b.S1 k ∧ b.S1 k < 2000000) ∧ (0 ≤ b.S2 k ∧ b.S2 k < 2000000) := by
  have h1 : 26 + k * 2 < b.v.length := by rw [b.h]; omega
  have h2 : 26 + k * 2 + 1 < b.v.length := by rw [b.h]; omega
  refine ⟨h _ ?_, h _ ?_⟩
  · simp [Bnd.S1, h1]
  · simp [Bnd.S2, h2]

/-- The points for which one letter stands. -/
def val1 (b : Bnd) (c : UInt8) : List Int := if 97 ≤ c.toNat then [b.S1 (c.toNat - 97) - 1, b.S2 (c.toNat - 97) - 1] else [b.P (c.toNat - 65) - 1]
def valsB (b : Bnd) (l : List UInt8) : List Int := l.flatMap (val1 b)

theorem values_c (b : Bnd) (hb : b.Ok) (l : List UInt8) (hl : ∀ c ∈ l, ltr c) (hn : l.length ≤ 1000) :
    CallsF Tryz.prog 110 [.agg b.ds, .c (.str (bs l))] (.u (.c (.own 1 (valsB b l).length ((valsB b l).map i64)))) := by
  have hlen : ∀ n, (valsB b (l.take n)).length ≤ 2 * n := fun n => by
    have : ∀ l : List UInt8, (valsB b l).length ≤ 2 * l.length := fun l => by
      unfold valsB
      induction l with
      | nil => simp
      | cons c r ih =>
        have : (val1 b c).length ≤ 2 := by unfold val1; split <;> simp
        rw [List.flatMap_cons, List.length_append, List.length_cons]; omega
    exact Nat.le_trans (this _) (by rw [List.length_take]; omega)
  refine callsF_of (T := tb) tab_ok mixed Tryz.func110 rfl (by decide) (Nat.le_of_ble_eq_true rfl) rfl ?_; unfold St.init
  simp (maxSteps := 2000000) -implicitDefEqProofs [-List.map_set, Ja, -Int.natCast_add, -Int.natCast_mul, -Int.natCast_emod, -Int.natCast_ediv, -Int.natCast_pow, Jb, Jc, Jd, Je, Jf, Jg, Jh, Ji, Jj, Jk, Jl, Jm, Jn, Jo, Jp, Jq, Jr, Js, Jt, Ju, Jv, Jw, Jx, Jy, Jz, -List.reduceReplicate]
  refine wpLoop_by [(5, 32), (5, 41)] (fun i : Nat => ⟨[(11, vI .i64 i), (10, vI .i64 l.length), (5, vC (.sl 5 0 (valsB b (l.take i)).length)), (2, vC (.ptr 2 0)), (1, vC (.d (.str (bs l))))], [(5, .row 1 ((valsB b (l.take i)).map i64) true), (2, .box b.cs)]⟩)
    (fun i => i ≤ l.length) (fun i => l.length - i) 0 (by simp [valsB]) (by omega) ?_
  rintro i hi
  by_cases h : i < l.length
  · have e : valsB b (l.take (i + 1)) = valsB b (l.take i) ++ val1 b l[i] := by
      rw [List.take_succ_eq_append_getElem h]; unfold valsB; rw [List.flatMap_append]; simp
    have hm := hlen i
    have hc := hl l[i] (List.getElem_mem h)
    have g0 : (bs l)[i]? = some l[i] := by rw [bs_get', List.getElem?_eq_getElem h]
    simp (maxSteps := 2000000) -implicitDefEqProofs [-List.map_set, Ja, -Int.natCast_add, -Int.natCast_mul, -Int.natCast_emod, -Int.natCast_ediv, -Int.natCast_pow, Jb, Jc, Jd, Je, Jf, Jg, Jh, Ji, Jj, Jk, Jl, Jm, Jn, Jo, Jp, Jq, Jr, Js, Jt, Ju, Jv, Jw, Jx, Jy, Jz, h, g0, -List.reduceReplicate]
    (first | refine .inl ⟨_, small_c l[i].toNat, ?_⟩ | refine ⟨_, small_c l[i].toNat, ?_⟩)
    by_cases h97 : 97 ≤ l[i].toNat
    · obtain ⟨k, hk⟩ : ∃ k, l[i].toNat = 97 + k := ⟨l[i].toNat - 97, by omega⟩
      have hk26 : k < 26 := by unfold ltr at hc; omega
      have g1 := Bnd.get_s b hk26
      have g2 := hb.s hk26
      have e1 : (((97 + k : Nat) : Int) - 97) % 256 = (k : Int) := by omega
      have e2 : val1 b l[i] = [b.S1 k - 1, b.S2 k - 1] := by unfold val1; rw [if_pos h97, hk]; simp
      simp (maxSteps := 2000000) -implicitDefEqProofs [-List.map_set, Ja, -Int.natCast_add, -Int.natCast_mul, -Int.natCast_emod, -Int.natCast_ediv, -Int.natCast_pow, Jb, Jc, Jd, Je, Jf, Jg, Jh, Ji, Jj, Jk, Jl, Jm, Jn, Jo, Jp, Jq, Jr, Js, Jt, Ju, Jv, Jw, Jx, Jy, Jz, hk, g1, e1, -List.reduceReplicate]
      exact ⟨hk26, by omega, by omega, by omega, by omega, by omega, i + 1, ⟨⟨rfl, by rw [e, e2]; simp⟩, by rw [e, e2]; simp [i64]⟩, by omega, by omega⟩
    · obtain ⟨k, hk⟩ : ∃ k, l[i].toNat = 65 + k := ⟨l[i].toNat - 65, by unfold ltr at hc; omega⟩
      have hk26 : k < 26 := by unfold ltr at hc; omega
      have g1 := Bnd.get_p b hk26
      have g2 := hb.p hk26
      have e1 : (((65 + k : Nat) : Int) - 65) % 256 = (k : Int) := by omega
      have e2 : val1 b l[i] = [b.P k - 1] := by unfold val1; rw [if_neg h97, hk]; simp
      have e3 : (97 ≤ 65 + k) = False := by simp; omega
      simp (maxSteps := 2000000) -implicitDefEqProofs [-List.map_set, Ja, -Int.natCast_add, -Int.natCast_mul, -Int.natCast_emod, -Int.natCast_ediv, -Int.natCast_pow, Jb, Jc, Jd, Je, Jf, Jg, Jh, Ji, Jj, Jk, Jl, Jm, Jn, Jo, Jp, Jq, Jr, Js, Jt, Ju, Jv, Jw, Jx, Jy, Jz, e3, hk, g1, e1, -List.reduceReplicate]
      exact ⟨hk26, by omega, by omega, by omega, i + 1, ⟨⟨rfl, by rw [e, e2]; simp⟩, by rw [e, e2]; simp [i64]⟩, by omega, by omega⟩
  · have hi2 : i = l.length := by omega
    subst hi2
    simp (maxSteps := 2000000) -implicitDefEqProofs [-List.map_set, Ja, -Int.natCast_add, -Int.natCast_mul, -Int.natCast_emod, -Int.natCast_ediv, -Int.natCast_pow, Jb, Jc, Jd, Je, Jf, Jg, Jh, Ji, Jj, Jk, Jl, Jm, Jn, Jo, Jp, Jq, Jr, Js, Jt, Ju, Jv, Jw, Jx, Jy, Jz, -List.reduceReplicate]

end Go.Va

/-
  Contracts: slices.Delete, to which a row is given up.
-/
namespace Go.Va
open Go.Proofs Go.Shelf Go.RowKit Go.Lib Go.Sort
set_option maxHeartbeats 4000000
set_option maxRecDepth 10000
set_option linter.unusedSimpArgs false
set_option linter.unusedVariables false

theorem delete_c (l : List Int) (i : Nat) (hi : i < l.length) (hl : l.length ≤ 1099511627776) :
    CallsA Tryz.prog 243 1 l.length (l.map i64) [.c (.int .i64 i), .c (.int .i64 (i + 1 : Int))] (l.length - 1) ((l.eraseIdx i).map i64) := by
  have hpos : 0 < l.length := by omega
  refine ⟨⟨_, Tryz.func243, rfl, by decide⟩, fun w Z ρ k v0 vals hZ hh hcz hone hv0 hv => ?_⟩
  obtain ⟨v1, v2, rfl⟩ : ∃ v1 v2, vals = [v1, v2] := by
    have := hv.1
    match vals, this with
    | [v1, v2], _ => exact ⟨v1, v2, rfl⟩
  have e1 : v1 = .int .i64 (i : Int) := by
    have h2 : RepD w (Out ρ Z) (.int .i64 i) v1 := hv.2 0 _ _ rfl rfl
    cases h2; rfl
  have e2 : v2 = .int .i64 ((i + 1 : Nat) : Int) := by
    have h2 : RepD w (Out ρ Z) (.int .i64 (i + 1 : Int)) v2 := hv.2 1 _ _ rfl rfl
    cases h2; rfl
  subst e1 e2
  obtain ⟨o, ho, hroom, hcase⟩ := hv0
  obtain ⟨o', ho', hb⟩ := hh.rep k (.row 1 (l.map i64) true) (by simp [lk])
  obtain rfl : o' = o := Option.some.inj (ho'.symm.trans ho)
  have hb' := hb
  obtain ⟨hsz, happ, hlen, ⟨hn1, hn2⟩, hc⟩ := hb'
  rcases hcase with ⟨_, _, _, h4⟩ | ⟨hnil, a, c, rfl, hnc, hcm, had, hcap⟩
  · omega
  have hgone : o'.gone = false := by rw [hn2]; exact hnil
  have hval : ∀ j (hj : j < l.length), w.cell? ⟨o'.g, o'.o + j, none⟩ = some (.int .i64 l[j]) := fun j hj => by
    obtain ⟨v, h1, h2⟩ := hc j (i64 l[j]) (by simp [hj])
    cases h2
    exact h1
  have hH : Holds (Value.int .i64) w o'.g o'.o l.toArray := fun j hj => by
    have hj' : j < l.length := by simpa using hj
    refine ⟨?_, (hh.owns.cells k o' ho hgone j (by rw [hsz]; omega)).2⟩
    rw [hval j hj']
    simp [hj']
  have ha : a = ⟨o'.g, o'.o, none⟩ := by
    rcases had with h | h
    · omega
    · rw [h]; simp [Own.at]
  subst ha
  have hcon := AnyG.slices_Delete_int Tryz.laysDel o'.g o'.o c i (i + 1) l w hH hnc (by unfold maxLen at hcm; omega) (by omega) (by omega)
  refine hcon.mono fun e w' ⟨he, q, hw⟩ => ?_
  have hnew : l.take i ++ l.drop (i + 1) ++ List.replicate (i + 1 - i) 0 = l.eraseIdx i ++ [0] := by
    rw [List.eraseIdx_eq_take_drop_succ, show i + 1 - i = 1 by omega]; rfl
  rw [hnew] at hw
  have hlen2 : (l.eraseIdx i).length = l.length - 1 := List.length_eraseIdx_of_lt hi
  rw [putRow_eq_setCells (Value.int .i64) w o'.g o'.o l.toArray _ q hH (by simp [hlen2]; omega)] at hw
  have ht := turnRow hZ hh hcz ho hgone hb (vs := (l.eraseIdx i ++ [0]).map (Value.int .i64)) (cs' := (l.eraseIdx i ++ [0]).map i64) (by simp [hlen2]; omega) (repL_ints _) q #[]
  have hg : Go.Sort.grow ((w.drewN q).setCells o'.g o'.o ((l.eraseIdx i ++ [0]).map (Value.int .i64))) #[] = w' := by
    rw [hw]; simp [Go.Sort.grow, Sort.ahead]
  rw [hg] at ht
  have ht2 := ht.2
  simp only [rm, if_true] at ht2
  refine ⟨_, he, ρ, ht.1, ⟨ht2.owns, fun j b hjb => ?_⟩, hone, fun ad h => .inl h, o', ho, by omega, .inr ⟨hnil, _, c, by rw [show i + 1 - i = 1 by omega], by omega, hcm, .inr (by simp [Own.at]), hcap⟩⟩
  by_cases e : j = k
  · subst e
    rw [lk_cons_same] at hjb
    cases hjb
    obtain ⟨o2, ho2, q1, q2, q3, q4, q5⟩ := ht2.rep j _ (lk_cons_same _ _ _)
    refine ⟨o2, ho2, q1, q2, by simp at q3 ⊢; omega, q4, fun t x hx => q5 t x ?_⟩
    rw [List.map_append, List.getElem?_append_left (List.getElem?_eq_some_iff.1 hx).1]
    exact hx
  · rw [lk_cons_ne e] at hjb; cases hjb

end Go.Va
