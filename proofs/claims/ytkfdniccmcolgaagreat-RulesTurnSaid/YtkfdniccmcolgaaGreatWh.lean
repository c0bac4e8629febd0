/-
  Rows of elements of several cells; segments of facts.
-/
import Derived.Test.YtkfdniccmcolgaaGreatWf
import Derived.Test.YtkfdniccmcolgaaGreatWg
import Derived.Lib.RowBridge
import Derived.Shelf.Sort.Plain
set_option linter.all false

namespace Go.Va
open Go.Proofs
set_option maxHeartbeats 4000000
set_option maxRecDepth 10000
set_option linter.unusedSimpArgs false
set_option linter.unusedVariables false

/-! ### elements of k cells -/
section
variable {α : Type} {k : Nat} {e : α → List D} (he : ∀ x, (e x).length = k)
include he
theorem fm_length (l : List α) : (l.flatMap e).length = l.length * k := by
  induction l with
  | nil => simp
  | cons a l ih => rw [List.flatMap_cons, List.length_append, he, ih, List.length_cons, Nat.add_mul, Nat.one_mul, Nat.add_comm]
theorem fm_drop (l : List α) (i : Nat) : (l.flatMap e).drop (i * k) = (l.drop i).flatMap e := by
  induction l generalizing i with
  | nil => simp
  | cons a l ih =>
    cases i with
    | zero => simp
    | succ i =>
      rw [List.flatMap_cons, List.drop_succ_cons, List.drop_append, List.drop_of_length_le (by rw [he, Nat.add_mul]; omega), he, List.nil_append, Nat.add_mul, Nat.one_mul, Nat.add_sub_cancel, ih]
theorem fm_take (l : List α) (i : Nat) : (l.flatMap e).take (i * k) = (l.take i).flatMap e := by
  induction l generalizing i with
  | nil => simp
  | cons a l ih =>
    cases i with
    | zero => simp
    | succ i =>
      rw [List.flatMap_cons, List.take_succ_cons, List.flatMap_cons, List.take_append, List.take_of_length_le (by rw [he, Nat.add_mul]; omega), he, Nat.add_mul, Nat.one_mul, Nat.add_sub_cancel, ih]
theorem fm_at (l : List α) (i : Nat) (h : i < l.length) : ((l.flatMap e).drop (i * k)).take k = e l[i] := by
  rw [fm_drop he, List.drop_eq_getElem_cons h, List.flatMap_cons, List.take_append, List.take_of_length_le (by rw [he]; omega), he, Nat.sub_self]
  simp
end

/-- A segment's cells. -/
def segD (s : Int × Int) : List D := [i64 s.1, i64 s.2]
theorem segD_len (s : Int × Int) : (segD s).length = 2 := rfl
theorem Fct.ds_len (f : Fct) : f.ds.length = 5 := rfl

@[simp high] theorem seg_len (l : List (Int × Int)) : (l.flatMap segD).length = l.length * 2 := fm_length segD_len l
@[simp high] theorem seg_at (l : List (Int × Int)) (i : Nat) (h : i < l.length) : ((l.flatMap segD).drop (i * 2)).take 2 = segD l[i] := fm_at segD_len l i h
@[simp high] theorem fct_len (l : List Fct) : (l.flatMap Fct.ds).length = l.length * 5 := fm_length Fct.ds_len l
@[simp high] theorem fct_at (l : List Fct) (i : Nat) (h : i < l.length) : ((l.flatMap Fct.ds).drop (i * 5)).take 5 = l[i].ds := fm_at Fct.ds_len l i h

/-- Rows of segments, of facts, as data. -/
def segsD (l : List (Int × Int)) : D := .slice l.length (l.flatMap segD)
def fctsD (l : List Fct) : D := .slice l.length (l.flatMap Fct.ds)

@[simp] theorem lenC_segs (l : List (Int × Int)) : lenC (.d (segsD l)) = some l.length := rfl
@[simp] theorem lenC_fcts (l : List Fct) : lenC (.d (fctsD l)) = some l.length := rfl
@[simp] theorem idxSl_segs (h : List (Nat × Blk)) (i : Int) (l : List (Int × Int)) : idxSl h 2 i (.d (segsD l)) = if 0 ≤ i ∧ i < l.length then some (.d (.ref ((l.drop i.toNat).flatMap segD))) else none := by
  unfold segsD idxSl
  simp only [seg_len, and_true, fm_drop segD_len]
@[simp] theorem idxSl_fcts (h : List (Nat × Blk)) (i : Int) (l : List Fct) : idxSl h 5 i (.d (fctsD l)) = if 0 ≤ i ∧ i < l.length then some (.d (.ref ((l.drop i.toNat).flatMap Fct.ds))) else none := by
  unfold fctsD idxSl
  simp only [fct_len, and_true, fm_drop Fct.ds_len]
@[simp] theorem flat_segs (l : List (Int × Int)) : D.flat (segsD l) = false := rfl
@[simp] theorem flat_fcts (l : List Fct) : D.flat (fctsD l) = false := rfl
theorem seg_drop {l : List (Int × Int)} {i : Nat} (h : i < l.length) : (l.drop i).flatMap segD = .int .i64 l[i].1 :: .int .i64 l[i].2 :: (l.drop (i + 1)).flatMap segD := by
  rw [List.drop_eq_getElem_cons h]; rfl
theorem fct_drop {l : List Fct} {i : Nat} (h : i < l.length) : (l.drop i).flatMap Fct.ds = .int .i64 l[i].kind :: intsD l[i].args :: .bool l[i].neg :: natD l[i].abs :: natD l[i].den :: (l.drop (i + 1)).flatMap Fct.ds := by
  rw [List.drop_eq_getElem_cons h]; rfl

/-- The lesser one, the greater one. -/
def lo (a b : Int) : Int := if b < a then b else a
def hi (a b : Int) : Int := if a < b then b else a
/-- An unordered pair. -/
def two (a b : Int) : Int × Int := (lo a b, hi a b)
theorem between_c (a b : Int) : CallsF Tryz.prog 182 [.c (.int .i64 a), .c (.int .i64 b)] (.u (.agg [.d (.int .i64 (lo a b)), .d (.int .i64 (hi a b))])) := by
  refine callsF_of (T := tb) tab_ok mixed Tryz.func182 rfl (by decide) (Nat.le_of_ble_eq_true rfl) rfl ?_; unfold St.init
  simp (maxSteps := 2000000) -implicitDefEqProofs [-List.map_set, Ja, -Int.natCast_add, -Int.natCast_mul, -Int.natCast_emod, -Int.natCast_ediv, -Int.natCast_pow, Jb, Jc, Jd, Je, Jf, Jg, Jh, Ji, Jj, Jk, Jl, Jm, Jn, Jo, Jp, Jq, Jr, Js, Jt, Ju, Jv, Jw, Jx, Jy, Jz, lo, hi]

/-- The segments of a fact. -/
def pairUp : List Int → List (Int × Int)
  | a :: b :: l => two a b :: pairUp l
  | _ => []
theorem pairUp_len : ∀ l : List Int, (pairUp l).length = l.length / 2
  | [] => rfl
  | [a] => by simp [pairUp]
  | a :: b :: l => by
    simp only [pairUp, List.length_cons, pairUp_len l]
    omega
theorem pairUp_get : ∀ (l : List Int) (m : Nat) (h : 2 * m + 1 < l.length), (pairUp l)[m]'(by rw [pairUp_len]; omega) = two (l[2 * m]'(by omega)) l[2 * m + 1]
  | a :: b :: l, 0, _ => rfl
  | a :: b :: l, m + 1, h => by
    have := pairUp_get l m (by simp at h; omega)
    simp only [pairUp, List.getElem_cons_succ, this]
    rfl
theorem pairUp_take {l : List Int} {m : Nat} (h : 2 * m + 1 < l.length) : ((pairUp l).take (m + 1)).flatMap segD = ((pairUp l).take m).flatMap segD ++ [.int .i64 (lo (l[2 * m]'(by omega)) l[2 * m + 1]), .int .i64 (hi (l[2 * m]'(by omega)) l[2 * m + 1])] := by
  rw [List.take_succ_eq_append_getElem (by rw [pairUp_len]; omega), List.flatMap_append, pairUp_get l m h]
  rfl

theorem segments_c (f : Fct) (hl : f.args.length ≤ 1099511627776) : CallsF Tryz.prog 102 [.agg f.ds] (.u (.c (.own 2 (pairUp f.args).length ((pairUp f.args).flatMap segD)))) := by
  refine callsF_of (T := tb) tab_ok mixed Tryz.func102 rfl (by decide) (Nat.le_of_ble_eq_true rfl) rfl ?_; unfold St.init
  obtain ⟨kind, args, neg, abs, den⟩ := f
  simp only at hl
  simp (maxSteps := 2000000) -implicitDefEqProofs [-List.map_set, Ja, -Int.natCast_add, -Int.natCast_mul, -Int.natCast_emod, -Int.natCast_ediv, -Int.natCast_pow, Jb, Jc, Jd, Je, Jf, Jg, Jh, Ji, Jj, Jk, Jl, Jm, Jn, Jo, Jp, Jq, Jr, Js, Jt, Ju, Jv, Jw, Jx, Jy, Jz]
  refine wpLoop_by [(3, 27)] (fun x : Nat × Nat × List D => ⟨[(4, vI .i64 x.1), (3, vC (.sl 3 0 x.2.1)), (1, vC (.ptr 1 0))], [(3, .row 2 x.2.2 true), (1, .box [.d (.int .i64 kind), .d (intsD args), .d (.bool neg), .d (natD abs), .d (natD den)])]⟩) (fun x => x.1 = 2 * x.2.1 ∧ x.2.1 ≤ (pairUp args).length ∧ x.2.2 = ((pairUp args).take x.2.1).flatMap segD) (fun x => (pairUp args).length - x.2.1) (0, 0, []) (by simp) (by simp) ?_
  rintro ⟨i, m, cs⟩ ⟨hm2, hm, hc⟩
  simp only at hm2 hm hc
  subst hc
  have hlen := pairUp_len args
  by_cases h : i + 1 < args.length
  · have e := pairUp_take (l := args) (m := m) (by omega)
    have e1 : args[2 * m]'(by omega) = args[i] := by simp only [hm2]
    have e2 : args[2 * m + 1]'(by omega) = args[i + 1] := by simp only [hm2]
    rw [e1, e2] at e
    have hb : i ≤ 9223372036854775806 := by omega
    have h0 : i < args.length := by omega
    simp (maxSteps := 2000000) -implicitDefEqProofs [-List.map_set, Ja, -Int.natCast_add, -Int.natCast_mul, -Int.natCast_emod, -Int.natCast_ediv, -Int.natCast_pow, Jb, Jc, Jd, Je, Jf, Jg, Jh, Ji, Jj, Jk, Jl, Jm, Jn, Jo, Jp, Jq, Jr, Js, Jt, Ju, Jv, Jw, Jx, Jy, Jz, h, hb]
    refine wpDraw_by [[], [], [1], [], [1, 2, 3], [1, 2, 3, 4], [], [6], [], [8], [6, 7, 8, 9], [6, 7, 8, 9, 10], [1, 2, 3, 4, 5, 6, 7, 8, 9, 10, 11], [1, 2, 3, 4, 5, 6, 7, 8, 9, 10, 11, 12], [0, 1, 2, 3, 4, 5, 6, 7, 8, 9, 10, 11, 12, 13], [0, 1, 2, 3, 4, 5, 6, 7, 8, 9, 10, 11, 12, 13, 14]] [.any [] [26] [⟨0, [3], [26], [26], []⟩, ⟨0, [1], [], [26], []⟩, ⟨0, [14], [], [26], []⟩, ⟨0, [4], [], [26], []⟩, ⟨0, [15, 16], [], [26], []⟩, ⟨0, [17], [], [26], []⟩, ⟨0, [1], [], [26], []⟩, ⟨0, [19], [], [26], []⟩, ⟨0, [4], [], [26], []⟩, ⟨0, [21], [], [26], []⟩, ⟨0, [20, 22], [], [26], []⟩, ⟨0, [23], [], [26], []⟩, ⟨0, [18, 24], [], [26], []⟩, ⟨1, [25], [], [], []⟩], .one, .one] (by rfl) ?_
    simp (maxSteps := 2000000) -implicitDefEqProofs [-List.map_set, Ja, -Int.natCast_add, -Int.natCast_mul, -Int.natCast_emod, -Int.natCast_ediv, -Int.natCast_pow, Jb, Jc, Jd, Je, Jf, Jg, Jh, Ji, Jj, Jk, Jl, Jm, Jn, Jo, Jp, Jq, Jr, Js, Jt, Ju, Jv, Jw, Jx, Jy, Jz, h, h0, hb, i64]
    (first | refine .inl ⟨_, between_c args[i] args[i + 1], ?_⟩ | refine ⟨_, between_c args[i] args[i + 1], ?_⟩)
    simp (maxSteps := 2000000) -implicitDefEqProofs [-List.map_set, Ja, -Int.natCast_add, -Int.natCast_mul, -Int.natCast_emod, -Int.natCast_ediv, -Int.natCast_pow, Jb, Jc, Jd, Je, Jf, Jg, Jh, Ji, Jj, Jk, Jl, Jm, Jn, Jo, Jp, Jq, Jr, Js, Jt, Ju, Jv, Jw, Jx, Jy, Jz]
    rw [Nat.min_eq_left hm]
    exact ⟨rfl, ⟨by omega, by omega⟩, by omega, i + 2, m + 1, _, ⟨⟨rfl, rfl⟩, rfl⟩, ⟨by omega, by omega, e.symm⟩, by omega⟩
  · have hb : i ≤ 9223372036854775806 := by omega
    have e : m = (pairUp args).length := by omega
    subst e
    simp (maxSteps := 2000000) -implicitDefEqProofs [-List.map_set, Ja, -Int.natCast_add, -Int.natCast_mul, -Int.natCast_emod, -Int.natCast_ediv, -Int.natCast_pow, Jb, Jc, Jd, Je, Jf, Jg, Jh, Ji, Jj, Jk, Jl, Jm, Jn, Jo, Jp, Jq, Jr, Js, Jt, Ju, Jv, Jw, Jx, Jy, Jz, h, hb]

/-- A fact of segments. -/
def joinArgs (l : List (Int × Int)) : List Int := l.flatMap fun s => [s.1, s.2]
theorem joinArgs_len (l : List (Int × Int)) : (joinArgs l).length = l.length * 2 := by
  induction l with
  | nil => rfl
  | cons a l ih => simp only [joinArgs, List.flatMap_cons, List.length_append, List.length_cons, List.length_nil] at ih ⊢; omega

theorem single_c (a b : Int) : CallsF Tryz.prog 103 [.agg [.int .i64 a, .int .i64 b]] (.u (.c (.d (.bool (decide (a = b)))))) := by
  refine callsF_of (T := tb) tab_ok mixed Tryz.func103 rfl (by decide) (Nat.le_of_ble_eq_true rfl) rfl ?_; unfold St.init
  simp (maxSteps := 2000000) -implicitDefEqProofs [-List.map_set, Ja, -Int.natCast_add, -Int.natCast_mul, -Int.natCast_emod, -Int.natCast_ediv, -Int.natCast_pow, Jb, Jc, Jd, Je, Jf, Jg, Jh, Ji, Jj, Jk, Jl, Jm, Jn, Jo, Jp, Jq, Jr, Js, Jt, Ju, Jv, Jw, Jx, Jy, Jz]

theorem has_c (a b p : Int) : CallsF Tryz.prog 221 [.agg [.int .i64 a, .int .i64 b], .c (.int .i64 p)] (.u (.c (.d (.bool (decide (a = p) || decide (b = p)))))) := by
  refine callsF_of (T := tb) tab_ok mixed Tryz.func221 rfl (by decide) (Nat.le_of_ble_eq_true rfl) rfl ?_; unfold St.init
  by_cases h : a = p <;> simp (maxSteps := 2000000) -implicitDefEqProofs [-List.map_set, Ja, -Int.natCast_add, -Int.natCast_mul, -Int.natCast_emod, -Int.natCast_ediv, -Int.natCast_pow, Jb, Jc, Jd, Je, Jf, Jg, Jh, Ji, Jj, Jk, Jl, Jm, Jn, Jo, Jp, Jq, Jr, Js, Jt, Ju, Jv, Jw, Jx, Jy, Jz, h]

/-- The other point of a segment. -/
def oth (a b p : Int) : Int := a + b - p
theorem other_c (a b p : Int) (ha : 0 ≤ a ∧ a < 64) (hb : 0 ≤ b ∧ b < 64) (hp : 0 ≤ p ∧ p < 64) : CallsF Tryz.prog 222 [.agg [.int .i64 a, .int .i64 b], .c (.int .i64 p)] (.u (.c (.d (.int .i64 (oth a b p))))) := by
  refine callsF_of (T := tb) tab_ok mixed Tryz.func222 rfl (by decide) (Nat.le_of_ble_eq_true rfl) rfl ?_; unfold St.init
  simp (maxSteps := 2000000) -implicitDefEqProofs [-List.map_set, Ja, -Int.natCast_add, -Int.natCast_mul, -Int.natCast_emod, -Int.natCast_ediv, -Int.natCast_pow, Jb, Jc, Jd, Je, Jf, Jg, Jh, Ji, Jj, Jk, Jl, Jm, Jn, Jo, Jp, Jq, Jr, Js, Jt, Ju, Jv, Jw, Jx, Jy, Jz, oth]
  omega

def cmpP (p q : Int × Int) : Int := orL [cmpZ p.1 q.1, cmpZ p.2 q.2]
theorem segCompare_c (a b c d : Int) : CallsF Tryz.prog 223 [.agg [.int .i64 a, .int .i64 b], .agg [.int .i64 c, .int .i64 d]] (.u (.c (.d (.int .i64 (cmpP (a, b) (c, d)))))) := by
  refine callsF_of (T := tb) tab_ok mixed Tryz.func223 rfl (by decide) (Nat.le_of_ble_eq_true rfl) rfl ?_; unfold St.init
  have k : CallsF Tryz.prog 71 [.c (.slice 2 [.int .i64 (cmpZ a c), .int .i64 (cmpZ b d)])] _ := or_c [cmpZ a c, cmpZ b d] (by simp)
  simp (maxSteps := 2000000) -implicitDefEqProofs [-List.map_set, Ja, -Int.natCast_add, -Int.natCast_mul, -Int.natCast_emod, -Int.natCast_ediv, -Int.natCast_pow, Jb, Jc, Jd, Je, Jf, Jg, Jh, Ji, Jj, Jk, Jl, Jm, Jn, Jo, Jp, Jq, Jr, Js, Jt, Ju, Jv, Jw, Jx, Jy, Jz]
  refine wpDraw_by [[], [0], [], [2], [0, 1, 2, 3], [], [5], [], [7], [0, 1, 2, 3, 4, 5, 6, 7, 8], [0, 1, 2, 3, 4, 5, 6, 7, 8, 9], [0, 1, 2, 3, 4, 5, 6, 7, 8, 9, 10], [0, 1, 2, 3, 4, 5, 6, 7, 8, 9, 10, 11]] [.any [] [] [⟨0, [2], [], [], []⟩, ⟨0, [5], [], [], []⟩, ⟨0, [3], [], [], []⟩, ⟨0, [7], [], [], []⟩, ⟨0, [6, 8], [], [], []⟩, ⟨0, [2], [], [], []⟩, ⟨0, [10], [], [], []⟩, ⟨0, [3], [], [], []⟩, ⟨0, [12], [], [], []⟩], .one, .one, .one, .one] (by rfl) ?_
  simp (maxSteps := 2000000) -implicitDefEqProofs [-List.map_set, Ja, -Int.natCast_add, -Int.natCast_mul, -Int.natCast_emod, -Int.natCast_ediv, -Int.natCast_pow, Jb, Jc, Jd, Je, Jf, Jg, Jh, Ji, Jj, Jk, Jl, Jm, Jn, Jo, Jp, Jq, Jr, Js, Jt, Ju, Jv, Jw, Jx, Jy, Jz]
  (first | refine .inl ⟨_, compare_c a c, ?_⟩ | refine ⟨_, compare_c a c, ?_⟩)
  simp (maxSteps := 2000000) -implicitDefEqProofs [-List.map_set, Ja, -Int.natCast_add, -Int.natCast_mul, -Int.natCast_emod, -Int.natCast_ediv, -Int.natCast_pow, Jb, Jc, Jd, Je, Jf, Jg, Jh, Ji, Jj, Jk, Jl, Jm, Jn, Jo, Jp, Jq, Jr, Js, Jt, Ju, Jv, Jw, Jx, Jy, Jz]
  (first | refine .inl ⟨_, compare_c b d, ?_⟩ | refine ⟨_, compare_c b d, ?_⟩)
  simp (maxSteps := 2000000) -implicitDefEqProofs [-List.map_set, Ja, -Int.natCast_add, -Int.natCast_mul, -Int.natCast_emod, -Int.natCast_ediv, -Int.natCast_pow, Jb, Jc, Jd, Je, Jf, Jg, Jh, Ji, Jj, Jk, Jl, Jm, Jn, Jo, Jp, Jq, Jr, Js, Jt, Ju, Jv, Jw, Jx, Jy, Jz]
  (first | refine .inl ⟨_, k, ?_⟩ | refine ⟨_, k, ?_⟩)
  simp (maxSteps := 2000000) -implicitDefEqProofs [-List.map_set, Ja, -Int.natCast_add, -Int.natCast_mul, -Int.natCast_emod, -Int.natCast_ediv, -Int.natCast_pow, Jb, Jc, Jd, Je, Jf, Jg, Jh, Ji, Jj, Jk, Jl, Jm, Jn, Jo, Jp, Jq, Jr, Js, Jt, Ju, Jv, Jw, Jx, Jy, Jz, cmpP]

theorem joined_c (kind : Int) (neg : Bool) (abs den : List Nat) (l : List (Int × Int)) (hl : l.length ≤ 1099511627776) : CallsF Tryz.prog 224 [.c (.int .i64 kind), .agg [.bool neg, natD abs, natD den], .c (segsD l)]
    (.u (.agg [.d (.int .i64 kind), .d (intsD (joinArgs l)), .d (.bool neg), .d (natD abs), .d (natD den)])) := by
  refine callsF_of (T := tb) tab_ok mixed Tryz.func224 rfl (by decide) (Nat.le_of_ble_eq_true rfl) rfl ?_; unfold St.init
  simp (maxSteps := 2000000) -implicitDefEqProofs [-List.map_set, Ja, -Int.natCast_add, -Int.natCast_mul, -Int.natCast_emod, -Int.natCast_ediv, -Int.natCast_pow, Jb, Jc, Jd, Je, Jf, Jg, Jh, Ji, Jj, Jk, Jl, Jm, Jn, Jo, Jp, Jq, Jr, Js, Jt, Ju, Jv, Jw, Jx, Jy, Jz]
  refine wpLoop_of (fun i : Nat => ⟨[(15, vI .i64 i), (14, vI .i64 l.length), (13, vC (.d (segsD l))), (7, vC (.ptr 7 0)), (6, vC (.ptr 6 0))], match i with
    | 0 => [(7, .box [.d (.int .i64 kind), .nl, .d (.bool neg), .d (natD abs), .d (natD den)]), (6, .box [.d (.int .i64 0), .nl, .d (.bool false), .nl, .nl])]
    | n + 1 => [(7, .box [.d (.int .i64 kind), .sl 26 0 ((n + 1) * 2), .d (.bool neg), .d (natD abs), .d (natD den)]), (6, .box [.d (.int .i64 0), .nl, .d (.bool false), .nl, .nl]), (26, .row 1 ((joinArgs (l.take (n + 1))).map i64) true)]⟩)
    (fun i => i ≤ l.length) (fun i => l.length - i) 0 (by simp) (by omega) ?_
  rintro i hi
  by_cases h : i < l.length
  · have e : joinArgs (l.take (i + 1)) = joinArgs (l.take i) ++ [l[i].1, l[i].2] := by
      rw [List.take_succ_eq_append_getElem h]; unfold joinArgs; rw [List.flatMap_append]; rfl
    have e2 := seg_drop h
    have e3 := joinArgs_len (l.take i)
    rw [List.length_take, Nat.min_eq_left (by omega)] at e3
    cases i with
    | zero =>
      have e4 : (joinArgs (l.take 1)).map i64 = [.int .i64 l[0].1, .int .i64 l[0].2] := by rw [e]; rfl
      rw [List.drop_zero] at e2
      simp (maxSteps := 2000000) -implicitDefEqProofs [-List.map_set, Ja, -Int.natCast_add, -Int.natCast_mul, -Int.natCast_emod, -Int.natCast_ediv, -Int.natCast_pow, Jb, Jc, Jd, Je, Jf, Jg, Jh, Ji, Jj, Jk, Jl, Jm, Jn, Jo, Jp, Jq, Jr, Js, Jt, Ju, Jv, Jw, Jx, Jy, Jz, h, e2, e4]
      exact ⟨1, ⟨rfl, by simp [leL, lk, e4]⟩, by omega, by omega⟩
    | succ n =>
      simp (maxSteps := 2000000) -implicitDefEqProofs [-List.map_set, Ja, -Int.natCast_add, -Int.natCast_mul, -Int.natCast_emod, -Int.natCast_ediv, -Int.natCast_pow, Jb, Jc, Jd, Je, Jf, Jg, Jh, Ji, Jj, Jk, Jl, Jm, Jn, Jo, Jp, Jq, Jr, Js, Jt, Ju, Jv, Jw, Jx, Jy, Jz, h, e2, e, e3]
      refine ⟨by omega, by omega, n + 2, ⟨rfl, ?_⟩, by omega, by omega⟩
      have e5 : (n + 1) * 2 + 2 = (n + 1 + 1) * 2 := by omega
      simp [leL, lk, e, e5]
      exact ⟨rfl, rfl⟩
  · have hi2 : i = l.length := by omega
    cases i with
    | zero =>
      have : l = [] := List.length_eq_zero_iff.1 hi2.symm
      subst this
      simp (maxSteps := 2000000) -implicitDefEqProofs [-List.map_set, Ja, -Int.natCast_add, -Int.natCast_mul, -Int.natCast_emod, -Int.natCast_ediv, -Int.natCast_pow, Jb, Jc, Jd, Je, Jf, Jg, Jh, Ji, Jj, Jk, Jl, Jm, Jn, Jo, Jp, Jq, Jr, Js, Jt, Ju, Jv, Jw, Jx, Jy, Jz]
      rfl
    | succ n =>
      have e3 := joinArgs_len l
      simp (maxSteps := 2000000) -implicitDefEqProofs [-List.map_set, Ja, -Int.natCast_add, -Int.natCast_mul, -Int.natCast_emod, -Int.natCast_ediv, -Int.natCast_pow, Jb, Jc, Jd, Je, Jf, Jg, Jh, Ji, Jj, Jk, Jl, Jm, Jn, Jo, Jp, Jq, Jr, Js, Jt, Ju, Jv, Jw, Jx, Jy, Jz, h]
      rw [hi2, List.take_length, ← e3, List.take_of_length_le (by simp)]
      refine ⟨Nat.le_refl _, rfl⟩

end Go.Va

/-
  Contracts: normal forms of facts (package fact).
-/
namespace Go.Va
open Go.Proofs
set_option maxHeartbeats 4000000
set_option maxRecDepth 10000
set_option linter.unusedSimpArgs false
set_option linter.unusedVariables false

/-- Is the fact right? -/
def okF (f : Fct) : Bool := decide (wrong f 40 = 0)

theorem right_c (f : Fct) (hf : f.Mild) : CallsF Tryz.prog 69 [.agg f.ds] (.u (.c (.d (.bool (okF f))))) := by
  refine callsF_of (T := tb) tab_ok mixed Tryz.func69 rfl (by decide) (Nat.le_of_ble_eq_true rfl) rfl ?_; unfold St.init
  have k := predRight_c f hf 40
  simp only [Fct.ds] at k ⊢
  simp (maxSteps := 2000000) -implicitDefEqProofs [-List.map_set, Ja, -Int.natCast_add, -Int.natCast_mul, -Int.natCast_emod, -Int.natCast_ediv, -Int.natCast_pow, Jb, Jc, Jd, Je, Jf, Jg, Jh, Ji, Jj, Jk, Jl, Jm, Jn, Jo, Jp, Jq, Jr, Js, Jt, Ju, Jv, Jw, Jx, Jy, Jz]
  (first | refine .inl ⟨_, k, ?_⟩ | refine ⟨_, k, ?_⟩)
  simp (maxSteps := 2000000) -implicitDefEqProofs [-List.map_set, Ja, -Int.natCast_add, -Int.natCast_mul, -Int.natCast_emod, -Int.natCast_ediv, -Int.natCast_pow, Jb, Jc, Jd, Je, Jf, Jg, Jh, Ji, Jj, Jk, Jl, Jm, Jn, Jo, Jp, Jq, Jr, Js, Jt, Ju, Jv, Jw, Jx, Jy, Jz, okF]

theorem segments4_c (kind a b c d : Int) (neg : Bool) (abs den : List Nat) : CallsF Tryz.prog 102 [.agg [.int .i64 kind, intsD [a, b, c, d], .bool neg, natD abs, natD den]] (.u (.c (.own 2 2 [.int .i64 (lo a b), .int .i64 (hi a b), .int .i64 (lo c d), .int .i64 (hi c d)]))) :=
  segments_c ⟨kind, [a, b, c, d], neg, abs, den⟩ (by simp)
theorem segments8_c (kind a b c d e f g h : Int) (neg : Bool) (abs den : List Nat) : CallsF Tryz.prog 102 [.agg [.int .i64 kind, intsD [a, b, c, d, e, f, g, h], .bool neg, natD abs, natD den]] (.u (.c (.own 2 4 [.int .i64 (lo a b), .int .i64 (hi a b), .int .i64 (lo c d), .int .i64 (hi c d), .int .i64 (lo e f), .int .i64 (hi e f), .int .i64 (lo g h), .int .i64 (hi g h)]))) :=
  segments_c ⟨kind, [a, b, c, d, e, f, g, h], neg, abs, den⟩ (by simp)

/-- A fact as a result. -/
def Fct.res (f : Fct) : R := .u (.agg [.d (.int .i64 f.kind), .d (intsD f.args), .d (.bool f.neg), .d (natD f.abs), .d (natD f.den)])
def pairsF (kind : Int) (neg : Bool) (abs den : List Nat) (l : List (Int × Int)) : Fct := ⟨kind, joinArgs l, neg, abs, den⟩

theorem joined2_c (kind a b c d : Int) (neg : Bool) (abs den : List Nat) : CallsF Tryz.prog 224 [.c (.int .i64 kind), .agg [.bool neg, natD abs, natD den], .c (.slice 2 [.int .i64 a, .int .i64 b, .int .i64 c, .int .i64 d])]
    (.u (.agg [.d (.int .i64 kind), .d (intsD [a, b, c, d]), .d (.bool neg), .d (natD abs), .d (natD den)])) :=
  joined_c kind neg abs den [(a, b), (c, d)] (by simp)
theorem joined4_c (kind a b c d e f g h : Int) (neg : Bool) (abs den : List Nat) : CallsF Tryz.prog 224 [.c (.int .i64 kind), .agg [.bool neg, natD abs, natD den], .c (.slice 4 [.int .i64 a, .int .i64 b, .int .i64 c, .int .i64 d, .int .i64 e, .int .i64 f, .int .i64 g, .int .i64 h])]
    (.u (.agg [.d (.int .i64 kind), .d (intsD [a, b, c, d, e, f, g, h]), .d (.bool neg), .d (natD abs), .d (natD den)])) :=
  joined_c kind neg abs den [(a, b), (c, d), (e, f), (g, h)] (by simp)

/-- The normal form of two segments that may be exchanged. -/
def normPairF (kind : Int) (p q : Int × Int) : Fct := if cmpP q p < 0 then ⟨kind, [q.1, q.2, p.1, p.2], false, [], []⟩ else ⟨kind, [p.1, p.2, q.1, q.2], false, [], []⟩

theorem normPair_c (kind a b c d : Int) (neg : Bool) (abs den : List Nat) : CallsF Tryz.prog 130 [.agg [.int .i64 kind, intsD [a, b, c, d], .bool neg, natD abs, natD den]] (normPairF kind (two a b) (two c d)).res := by
  refine callsF_of (T := tb) tab_ok mixed Tryz.func130 rfl (by decide) (Nat.le_of_ble_eq_true rfl) rfl ?_; unfold St.init
  have k1 := segments4_c kind a b c d neg abs den
  have k2 := segCompare_c (lo c d) (hi c d) (lo a b) (hi a b)
  have k3 := joined2_c kind (lo c d) (hi c d) (lo a b) (hi a b) false [] []
  have k4 := joined2_c kind (lo a b) (hi a b) (lo c d) (hi c d) false [] []
  unfold normPairF two
  simp only
  generalize intsD [a, b, c, d] = l at *
  generalize lo c d = x at *
  generalize hi c d = y at *
  generalize lo a b = z at *
  generalize hi a b = t at *
  simp (maxSteps := 2000000) -implicitDefEqProofs [-List.map_set, Ja, -Int.natCast_add, -Int.natCast_mul, -Int.natCast_emod, -Int.natCast_ediv, -Int.natCast_pow, Jb, Jc, Jd, Je, Jf, Jg, Jh, Ji, Jj, Jk, Jl, Jm, Jn, Jo, Jp, Jq, Jr, Js, Jt, Ju, Jv, Jw, Jx, Jy, Jz]
  (first | refine .inl ⟨_, k1, ?_⟩ | refine ⟨_, k1, ?_⟩)
  simp (maxSteps := 2000000) -implicitDefEqProofs [-List.map_set, Ja, -Int.natCast_add, -Int.natCast_mul, -Int.natCast_emod, -Int.natCast_ediv, -Int.natCast_pow, Jb, Jc, Jd, Je, Jf, Jg, Jh, Ji, Jj, Jk, Jl, Jm, Jn, Jo, Jp, Jq, Jr, Js, Jt, Ju, Jv, Jw, Jx, Jy, Jz]
  refine wpDraw_by [[], [0], [0, 1], [], [3], [3, 4], [0, 1, 2, 3, 4, 5], [0, 1, 2, 3, 4, 5, 6]] [.any [] [] [⟨0, [3], [], [], []⟩, ⟨0, [6], [], [], []⟩, ⟨0, [7], [], [], []⟩, ⟨0, [3], [], [], []⟩, ⟨0, [9], [], [], []⟩, ⟨0, [10], [], [], []⟩], .one, .one] (by rfl) ?_
  simp (maxSteps := 2000000) -implicitDefEqProofs [-List.map_set, Ja, -Int.natCast_add, -Int.natCast_mul, -Int.natCast_emod, -Int.natCast_ediv, -Int.natCast_pow, Jb, Jc, Jd, Je, Jf, Jg, Jh, Ji, Jj, Jk, Jl, Jm, Jn, Jo, Jp, Jq, Jr, Js, Jt, Ju, Jv, Jw, Jx, Jy, Jz]
  (first | refine .inl ⟨_, k2, ?_⟩ | refine ⟨_, k2, ?_⟩)
  by_cases h : cmpP (x, y) (z, t) < 0
  · simp (maxSteps := 2000000) -implicitDefEqProofs [-List.map_set, Ja, -Int.natCast_add, -Int.natCast_mul, -Int.natCast_emod, -Int.natCast_ediv, -Int.natCast_pow, Jb, Jc, Jd, Je, Jf, Jg, Jh, Ji, Jj, Jk, Jl, Jm, Jn, Jo, Jp, Jq, Jr, Js, Jt, Ju, Jv, Jw, Jx, Jy, Jz, h]
    refine wpDraw_by [[], [], [], [2], [2, 3], [], [5], [5, 6], [0, 2, 3, 4, 5, 6, 7], [0, 2, 3, 4, 5, 6, 7, 8], [0, 1, 2, 3, 4, 5, 6, 7, 8, 9], [0, 1, 2, 3, 4, 5, 6, 7, 8, 9, 10]] [.any [] [] [⟨0, [3], [], [], []⟩, ⟨0, [3], [5], [], []⟩, ⟨0, [3], [], [], []⟩, ⟨0, [16], [], [], []⟩, ⟨0, [17], [], [], []⟩, ⟨0, [3], [], [], []⟩, ⟨0, [19], [], [], []⟩, ⟨0, [20], [], [], []⟩, ⟨0, [14], [], [], []⟩, ⟨2, [18, 22], [], [], [5]⟩], .one, .one] (by rfl) ?_
    simp (maxSteps := 2000000) -implicitDefEqProofs [-List.map_set, Ja, -Int.natCast_add, -Int.natCast_mul, -Int.natCast_emod, -Int.natCast_ediv, -Int.natCast_pow, Jb, Jc, Jd, Je, Jf, Jg, Jh, Ji, Jj, Jk, Jl, Jm, Jn, Jo, Jp, Jq, Jr, Js, Jt, Ju, Jv, Jw, Jx, Jy, Jz]
    (first | refine .inl ⟨_, k3, ?_⟩ | refine ⟨_, k3, ?_⟩)
    simp (maxSteps := 2000000) -implicitDefEqProofs [-List.map_set, Ja, -Int.natCast_add, -Int.natCast_mul, -Int.natCast_emod, -Int.natCast_ediv, -Int.natCast_pow, Jb, Jc, Jd, Je, Jf, Jg, Jh, Ji, Jj, Jk, Jl, Jm, Jn, Jo, Jp, Jq, Jr, Js, Jt, Ju, Jv, Jw, Jx, Jy, Jz, Fct.res]
  · simp (maxSteps := 2000000) -implicitDefEqProofs [-List.map_set, Ja, -Int.natCast_add, -Int.natCast_mul, -Int.natCast_emod, -Int.natCast_ediv, -Int.natCast_pow, Jb, Jc, Jd, Je, Jf, Jg, Jh, Ji, Jj, Jk, Jl, Jm, Jn, Jo, Jp, Jq, Jr, Js, Jt, Ju, Jv, Jw, Jx, Jy, Jz, h]
    (first | refine .inl ⟨_, k4, ?_⟩ | refine ⟨_, k4, ?_⟩)
    simp (maxSteps := 2000000) -implicitDefEqProofs [-List.map_set, Ja, -Int.natCast_add, -Int.natCast_mul, -Int.natCast_emod, -Int.natCast_ediv, -Int.natCast_pow, Jb, Jc, Jd, Je, Jf, Jg, Jh, Ji, Jj, Jk, Jl, Jm, Jn, Jo, Jp, Jq, Jr, Js, Jt, Ju, Jv, Jw, Jx, Jy, Jz, Fct.res]

end Go.Va

/-
  The order of facts, in plain words.
-/
namespace Go.Va
set_option linter.unusedSimpArgs false
set_option linter.unusedVariables false

/-- The order of facts. -/
def cmpR (a b : Fct) : Int := cmpZ (toZ a.neg (val a.abs) * val b.den) (toZ b.neg (val b.abs) * val a.den)
def cmpK (a b : Fct) : Int := orL [cmpZ a.kind b.kind, lexI a.args b.args]
def cmpF (a b : Fct) : Int := if cmpK a b ≠ 0 ∨ a.kind ≠ 9 then cmpK a b else cmpR a b
/-- Is the ratio a number, where it counts? -/
def Fct.Num (f : Fct) : Prop := f.kind = 9 → val f.den ≠ 0

theorem cmpZ_cases (a b : Int) : (a < b ∧ cmpZ a b = -1) ∨ (b < a ∧ cmpZ a b = 1) ∨ (a = b ∧ cmpZ a b = 0) := by
  unfold cmpZ
  split
  · left; exact ⟨‹_›, rfl⟩
  · split
    · right; left; exact ⟨‹_›, rfl⟩
    · right; right; exact ⟨by omega, rfl⟩

/-- What an order's comparison is, on what meets 'P'. -/
structure IsCmp {α : Type} (P : α → Prop) (c : α → α → Int) : Prop where
  rng : ∀ x y, P x → P y → -1 ≤ c x y ∧ c x y ≤ 1
  anti : ∀ x y, P x → P y → c y x = -c x y
  tr : ∀ x y z, P x → P y → P z → c x y ≤ 0 → c y z ≤ 0 → c x z ≤ 0 ∧ (c x z = 0 → c x y = 0 ∧ c y z = 0)

theorem isCmp_Z : IsCmp (fun _ => True) cmpZ where
  rng x y _ _ := by rcases cmpZ_cases x y with ⟨_, h⟩ | ⟨_, h⟩ | ⟨_, h⟩ <;> omega
  anti x y _ _ := by rcases cmpZ_cases x y with ⟨_, h⟩ | ⟨_, h⟩ | ⟨_, h⟩ <;> rcases cmpZ_cases y x with ⟨_, h'⟩ | ⟨_, h'⟩ | ⟨_, h'⟩ <;> omega
  tr x y z _ _ _ := by
    rcases cmpZ_cases x y with ⟨_, h⟩ | ⟨_, h⟩ | ⟨_, h⟩ <;> rcases cmpZ_cases y z with ⟨_, h'⟩ | ⟨_, h'⟩ | ⟨_, h'⟩ <;> rcases cmpZ_cases x z with ⟨_, h''⟩ | ⟨_, h''⟩ | ⟨_, h''⟩ <;> omega

/-- First the one, then the other; of the other all is asked only where the first says 0. -/
theorem IsCmp.lex {α : Type} {P : α → Prop} {c d : α → α → Int} (hc : IsCmp P c)
    (rng : ∀ x y, P x → P y → c x y = 0 → -1 ≤ d x y ∧ d x y ≤ 1) (anti : ∀ x y, P x → P y → c x y = 0 → d y x = -d x y)
    (tr : ∀ x y z, P x → P y → P z → c x y = 0 → c y z = 0 → d x y ≤ 0 → d y z ≤ 0 → d x z ≤ 0 ∧ (d x z = 0 → d x y = 0 ∧ d y z = 0)) :
    IsCmp P fun x y => if c x y ≠ 0 then c x y else d x y where
  rng x y hx hy := by
    by_cases h : c x y = 0
    · simp only [h, ne_eq, not_true_eq_false, if_false]; exact rng x y hx hy h
    · simp only [h, ne_eq, not_false_eq_true, if_true]; exact hc.rng x y hx hy
  anti x y hx hy := by
    have h0 := hc.anti x y hx hy
    by_cases h : c x y = 0
    · have h' : c y x = 0 := by omega
      simp only [h, h', ne_eq, not_true_eq_false, if_false]; exact anti x y hx hy h
    · have h' : ¬ c y x = 0 := by omega
      simp only [h, h', ne_eq, not_false_eq_true, if_true]; exact h0
  tr x y z hx hy hz := by
    have t := hc.tr x y z hx hy hz
    have t2 := hc.tr z y x hz hy hx
    have a1 := hc.anti x y hx hy
    have a2 := hc.anti y z hy hz
    have a3 := hc.anti x z hx hz
    by_cases h1 : c x y = 0 <;> by_cases h2 : c y z = 0 <;> by_cases h3 : c x z = 0 <;> simp only [h1, h2, h3, ne_eq, not_true_eq_false, not_false_eq_true, if_false, if_true] <;> intro k1 k2
    · exact tr x y z hx hy hz h1 h2 k1 k2
    all_goals first
      | (have := t (by omega) (by omega); exact ⟨by omega, fun h => by first | exact h.elim | omega⟩)
      | exact ⟨by omega, fun h => by first | exact h.elim | omega⟩

theorem isCmp_lexI : IsCmp (fun _ => True) lexI where
  rng := by
    intro x
    induction x with
    | nil => intro y _ _; cases y <;> simp [lexI]
    | cons a x ih =>
      intro y _ _
      cases y with
      | nil => simp [lexI]
      | cons b y =>
        have h := isCmp_Z.rng a b trivial trivial
        have h2 := ih y trivial trivial
        unfold lexI
        split <;> omega
  anti := by
    intro x
    induction x with
    | nil => intro y _ _; cases y <;> simp [lexI]
    | cons a x ih =>
      intro y _ _
      cases y with
      | nil => simp [lexI]
      | cons b y =>
        have h := isCmp_Z.anti a b trivial trivial
        have h2 := ih y trivial trivial
        unfold lexI
        split <;> split <;> omega
  tr := by
    intro x
    induction x with
    | nil => intro y z _ _ _; cases y <;> cases z <;> simp [lexI]
    | cons a x ih =>
      intro y z _ _ _
      cases y with
      | nil => cases z <;> simp [lexI]
      | cons b y =>
        cases z with
        | nil => simp [lexI]
        | cons c z =>
          have h2 := ih y z trivial trivial trivial
          have t := isCmp_Z.tr a b c trivial trivial trivial
          have t2 := isCmp_Z.tr c b a trivial trivial trivial
          have a1 := isCmp_Z.anti a b trivial trivial
          have a2 := isCmp_Z.anti b c trivial trivial
          have a3 := isCmp_Z.anti a c trivial trivial
          simp only [lexI]
          by_cases h1 : cmpZ a b = 0 <;> by_cases h4 : cmpZ b c = 0 <;> by_cases h3 : cmpZ a c = 0 <;> simp only [h1, h4, h3, if_false, if_true] <;> intro k1 k2
          · exact h2 k1 k2
          all_goals first
            | (have := t (by omega) (by omega); exact ⟨by omega, fun h => by first | exact h.elim | omega⟩)
            | exact ⟨by omega, fun h => by first | exact h.elim | omega⟩

theorem lexI_eq : ∀ (x y : List Int), lexI x y = 0 ↔ x = y
  | [], [] => by simp [lexI]
  | [], _ :: _ => by simp [lexI]
  | _ :: _, [] => by simp [lexI]
  | a :: x, b :: y => by
    have := lexI_eq x y
    have hz := cmpZ_zero a b
    unfold lexI
    split
    · rename_i h; rw [this]; simp [hz.1 h]
    · rename_i h
      constructor
      · intro h2; exact absurd h2 h
      · intro h2; simp at h2; exact absurd (hz.2 h2.1) h

theorem cmpK_eq (a b : Fct) : cmpK a b = if cmpZ a.kind b.kind ≠ 0 then cmpZ a.kind b.kind else lexI a.args b.args := by
  unfold cmpK orL orL orL
  by_cases h : cmpZ a.kind b.kind = 0
  · by_cases h2 : lexI a.args b.args = 0 <;> simp [h, h2]
  · simp [h]

theorem isCmp_K : IsCmp (fun _ : Fct => True) cmpK := by
  have hz : IsCmp (fun _ : Fct => True) fun a b => cmpZ a.kind b.kind := ⟨fun x y _ _ => isCmp_Z.rng _ _ trivial trivial, fun x y _ _ => isCmp_Z.anti _ _ trivial trivial, fun x y z _ _ _ => isCmp_Z.tr _ _ _ trivial trivial trivial⟩
  have h := hz.lex (d := fun a b => lexI a.args b.args) (fun x y _ _ _ => isCmp_lexI.rng _ _ trivial trivial) (fun x y _ _ _ => isCmp_lexI.anti _ _ trivial trivial) (fun x y z _ _ _ _ _ => isCmp_lexI.tr _ _ _ trivial trivial trivial)
  have e : cmpK = fun a b => if cmpZ a.kind b.kind ≠ 0 then cmpZ a.kind b.kind else lexI a.args b.args := by funext a b; exact cmpK_eq a b
  rw [e]; exact h

theorem cmpK_zero {a b : Fct} : cmpK a b = 0 ↔ a.kind = b.kind ∧ a.args = b.args := by
  rw [cmpK_eq]
  have h1 := cmpZ_zero a.kind b.kind
  have h2 := lexI_eq a.args b.args
  by_cases h : cmpZ a.kind b.kind = 0
  · rw [if_neg (by simp [h]), h2]; simp [h1.1 h]
  · rw [if_pos h]
    constructor
    · intro h3; exact absurd h3 h
    · intro h3; exact absurd (h1.2 h3.1) h

theorem cmpF_eq (a b : Fct) : cmpF a b = if cmpK a b ≠ 0 then cmpK a b else if a.kind = 9 then cmpR a b else 0 := by
  unfold cmpF
  by_cases h : cmpK a b = 0 <;> by_cases h2 : a.kind = 9 <;> simp [h, h2]

theorem mul_le_cancel {a b d : Int} (hd : 0 < d) (h : a * d ≤ b * d) : a ≤ b := Int.le_of_mul_le_mul_right h hd
theorem cross_le {x1 x2 x3 d1 d2 d3 : Int} (h1 : 0 < d1) (h2 : 0 < d2) (h3 : 0 < d3) (k1 : x1 * d2 ≤ x2 * d1) (k2 : x2 * d3 ≤ x3 * d2) : x1 * d3 ≤ x3 * d1 ∧ (x1 * d3 = x3 * d1 → x1 * d2 = x2 * d1 ∧ x2 * d3 = x3 * d2) := by
  have e1 : x1 * d2 * d3 ≤ x2 * d1 * d3 := Int.mul_le_mul_of_nonneg_right k1 (by omega)
  have e2 : x2 * d3 * d1 ≤ x3 * d2 * d1 := Int.mul_le_mul_of_nonneg_right k2 (by omega)
  have r1 : x2 * d1 * d3 = x2 * d3 * d1 := by rw [Int.mul_assoc, Int.mul_comm d1, ← Int.mul_assoc]
  have r2 : x1 * d2 * d3 = x1 * d3 * d2 := by rw [Int.mul_assoc, Int.mul_comm d2, ← Int.mul_assoc]
  have r3 : x3 * d2 * d1 = x3 * d1 * d2 := by rw [Int.mul_assoc, Int.mul_comm d2, ← Int.mul_assoc]
  refine ⟨mul_le_cancel h2 (by omega), fun h => ?_⟩
  rw [← h] at r3
  refine ⟨Int.eq_of_mul_eq_mul_right (a := d3) (by omega) (by omega), Int.eq_of_mul_eq_mul_right (a := d1) (by omega) (by omega)⟩

theorem isCmp_F : IsCmp Fct.Num cmpF := by
  have hk : IsCmp Fct.Num cmpK := ⟨fun x y _ _ => isCmp_K.rng _ _ trivial trivial, fun x y _ _ => isCmp_K.anti _ _ trivial trivial, fun x y z _ _ _ => isCmp_K.tr _ _ _ trivial trivial trivial⟩
  have h := hk.lex (d := fun a b => if a.kind = 9 then cmpR a b else 0) (fun x y _ _ _ => by
      by_cases h : x.kind = 9
      · simp only [h, if_true]; exact isCmp_Z.rng _ _ trivial trivial
      · simp [h]) (fun x y hx hy h0 => by
      have e := (cmpK_zero.1 h0).1
      by_cases h : x.kind = 9
      · have h' : y.kind = 9 := by omega
        simp only [h, h', if_true]; exact isCmp_Z.anti _ _ trivial trivial
      · have h' : ¬ y.kind = 9 := by omega
        simp [h, h']) (fun x y z hx hy hz h0 h1 => by
      have e := (cmpK_zero.1 h0).1
      have e' := (cmpK_zero.1 h1).1
      by_cases h : x.kind = 9
      · have h' : y.kind = 9 := by omega
        have h'' : z.kind = 9 := by omega
        have px := hx h
        have py := hy h'
        have pz := hz h''
        simp only [h, h', if_true, cmpR]
        rcases cmpZ_cases (toZ x.neg (val x.abs) * val y.den) (toZ y.neg (val y.abs) * val x.den) with ⟨q1, q2⟩ | ⟨q1, q2⟩ | ⟨q1, q2⟩ <;>
        rcases cmpZ_cases (toZ y.neg (val y.abs) * val z.den) (toZ z.neg (val z.abs) * val y.den) with ⟨r1, r2⟩ | ⟨r1, r2⟩ | ⟨r1, r2⟩ <;> intro k1 k2 <;> try omega
        all_goals
          have c := cross_le (x1 := toZ x.neg (val x.abs)) (x2 := toZ y.neg (val y.abs)) (x3 := toZ z.neg (val z.abs)) (d1 := val x.den) (d2 := val y.den) (d3 := val z.den) (by omega) (by omega) (by omega) (by omega) (by omega)
          rcases cmpZ_cases (toZ x.neg (val x.abs) * val z.den) (toZ z.neg (val z.abs) * val x.den) with ⟨s1, s2⟩ | ⟨s1, s2⟩ | ⟨s1, s2⟩ <;> omega
      · have h' : ¬ y.kind = 9 := by omega
        simp [h, h'])
  have e : cmpF = fun a b => if cmpK a b ≠ 0 then cmpK a b else if a.kind = 9 then cmpR a b else 0 := by funext a b; exact cmpF_eq a b
  rw [e]; exact h

theorem IsCmp.self {α : Type} {P : α → Prop} {c : α → α → Int} (h : IsCmp P c) {x : α} (hx : P x) : c x x = 0 := by
  have := h.anti x x hx hx
  omega
end Go.Va

/-
  Contracts: the library's sorts, at numbers and at facts.
-/
namespace Go.Va
open Go.Proofs Go.Shelf Go.RowKit Go.Lib Go.Sort
set_option maxHeartbeats 4000000
set_option maxRecDepth 10000
set_option linter.unusedSimpArgs false
set_option linter.unusedVariables false

theorem Ext.drewN (w : World) (q : Nat) : Ext w (w.drewN q) := ⟨⟨rfl, rfl, rfl, Nat.le_refl _, fun _ _ => rfl⟩, Nat.le_add_right _ _⟩
theorem Ext.grow (w : World) (os : Array Obj) : Ext w (Go.Sort.grow w os) :=
  ⟨⟨rfl, rfl, rfl, by simp [Go.Sort.grow], fun k hk => by simp [Go.Sort.grow, Array.getElem?_append, hk]⟩, Nat.le_refl _⟩
/-- Where nothing has turned, some draws were made and some blocks were laid. -/
theorem Ext.asGrow {w w' : World} (h : Ext w w') : ∃ q os, w' = Go.Sort.grow (w.drewN q) os := by
  refine ⟨w'.drawn - w.drawn, w'.heap.extract w.heap.size w'.heap.size, ?_⟩
  have hd := h.drawn
  have ho := h.os
  have ht := h.tape
  have hu := h.output
  have hs := h.size
  have hb := h.block
  have hh : w'.heap = w.heap ++ w'.heap.extract w.heap.size w'.heap.size := by
    apply Array.ext_getElem?
    intro k
    by_cases hk : k < w.heap.size
    · rw [hb k hk, Array.getElem?_append_left hk]
    · rw [Array.getElem?_append_right (by omega), Array.getElem?_extract]
      by_cases hk2 : k < w'.heap.size
      · rw [if_pos (by omega), show w.heap.size + (k - w.heap.size) = k by omega]
      · rw [if_neg (by omega), Array.getElem?_eq_none (by omega)]
  obtain ⟨heap, tape, drawn, os, output⟩ := w
  obtain ⟨heap', tape', drawn', os', output'⟩ := w'
  simp only at hd ho ht hu hs hb hh
  simp only [Go.Sort.grow, World.drewN]
  subst ho ht hu
  rw [← hh, show drawn + (drawn' - drawn) = drawn' by omega]

/-- A row of the call's own is turned: what is known behind it. -/
theorem turnRow {ρ : Rho} {w : World} {Z : Addr → Prop} {h : List (Nat × Blk)} (hZ : ∀ ad, Z ad → ad.block < w.heap.size) (hh : Heap ρ w Z h) (hcz : ∀ ad, Cells ρ ad → ¬ Z ad)
    {i : Nat} {o : Own} (hi : ρ i = some o) (hn : o.gone = false) {sz : Nat} {cs cs' : List D} {app : Bool} (hb : RepB ρ w Z o (.row sz cs app)) {vs : List Value} (hl : vs.length = cs.length)
    (hr : RepL (RepD w (Out ρ Z)) cs' vs) (q : Nat) (os : Array Obj) :
    Fr (Cells ρ) w (Go.Sort.grow ((w.drewN q).setCells o.g o.o vs) os) ∧ Heap ρ (Go.Sort.grow ((w.drewN q).setCells o.g o.o vs) os) Z ((i, .row sz cs' app) :: rm i h) := by
  have hrel : Rel (Cells ρ) Z w ρ ⟨[], h⟩ { tmps := #[], defers := [] } w :=
    { fr := ⟨rfl, Nat.le_refl _, rfl, rfl, Nat.le_refl _, fun a v _ h => h, fun _ _ => rfl, fun _ _ _ => rfl⟩
      heap := hh
      mine := fun j o' ad hj ho => .inl ⟨j, o', hj, ho⟩
      out := hZ
      mz := hcz
      tmps := fun t v hv => by cases hv
      defers := rfl }
  have h1 := hrel.ext (Ext.drewN w q)
  obtain ⟨hs, happ, hlen, hnil, hc⟩ := hb
  have hfit : 0 + vs.length ≤ o.room * o.sz := by rw [hs, Nat.zero_add, hl]; exact hlen
  have h2 := h1.write hi hn (off := 0) (vs := vs) (by simpa using hfit) (b := .row sz cs' app) (fun hk => by
    refine ⟨hs, happ, by rw [hr.1, hl]; exact hlen, hnil, fun j x hx => ?_⟩
    have hj : j < vs.length := by rw [← hr.1]; exact (List.getElem?_eq_some_iff.1 hx).1
    have hin := World.cell?_setCells_in o.g vs o.o (w.drewN q) (fun p hp => by
      obtain ⟨v, hv, _⟩ := hc p (cs[p]'(by omega)) (List.getElem?_eq_getElem (by omega))
      show (w.cell? _).isSome = true
      rw [hv]; rfl) j hj
    refine ⟨vs[j], by simpa [Own.at] using hin, ?_⟩
    exact RepD.keep (by simpa using hk) (RepD.keep (Keep.ext (Ext.drewN w q) _) (hr.2 j x _ hx (List.getElem?_eq_getElem hj))))
  have h3 := h2.ext (Ext.grow _ os)
  exact ⟨by simpa using h3.fr, by simpa [St.blk] using h3.heap⟩

theorem slOf {ρ : Rho} {w : World} {Z : Addr → Prop} {i n : Nat} {v : Value} (h : RepC ρ w Z (.sl i 0 n) v) (hn : 0 < n) : ∃ o c, ρ i = some o ∧ o.nil = false ∧ n ≤ o.room ∧ v = .slice (some ⟨o.g, o.o, none⟩) n c := by
  obtain ⟨o, h1, h2, h3⟩ := h
  rcases h3 with ⟨_, _, _, h4⟩ | ⟨h4, a, c, rfl, h5, h6, h7, h8⟩
  · omega
  · rcases h7 with h7 | h7
    · omega
    · refine ⟨o, c, h1, h4, by omega, ?_⟩
      rw [h7]
      simp [Own.at]

/-- Numbers in ascending order. -/
def sortL (l : List Int) : List Int := l.mergeSort fun x y => decide (x ≤ y)
theorem sortL_len (l : List Int) : (sortL l).length = l.length := (List.mergeSort_perm _ _).length_eq
theorem sortL_of {l m : List Int} (hp : m.Perm l) (hs : m.Pairwise (· ≤ ·)) : m = sortL l := by
  have h := List.pairwise_mergeSort (le := fun x y : Int => decide (x ≤ y)) (fun a b c h1 h2 => by simp at *; omega) (fun a b => by simp; omega) l
  refine List.Perm.eq_of_pairwise (le := fun a b : Int => a ≤ b) (fun a b _ _ h1 h2 => by omega) hs ?_ (hp.trans (List.mergeSort_perm _ _).symm)
  exact h.imp fun h => by simpa using h

theorem repL_ints {w : World} {Z : Addr → Prop} (l : List Int) : RepL (RepD w Z) (l.map i64) (l.map (Value.int .i64)) := by
  refine ⟨by simp, fun j x v hx hv => ?_⟩
  simp only [List.getElem?_map, Option.map_eq_some_iff] at hx hv
  obtain ⟨a, ha, rfl⟩ := hx
  obtain ⟨b, hb, rfl⟩ := hv
  rw [ha] at hb
  cases hb
  exact .int _ _

theorem sort_c (i : Nat) (l : List Int) (app : Bool) (h0 : l ≠ []) (hl : l.length ≤ 1099511627776) :
    CallsW Tryz.prog 187 [.c (.sl i 0 l.length)] [(i, .row 1 (l.map i64) app)] [(i, .row 1 ((sortL l).map i64) app)] (.tup []) := by
  have hpos : 0 < l.length := List.length_pos_iff.2 h0
  refine ⟨⟨_, Tryz.func187, rfl, by decide⟩, rfl, fun w Z ρ vals hZ hh hcz hρ hv => ?_⟩
  obtain ⟨v, rfl⟩ : ∃ v, vals = [v] := by
    have := hv.1
    match vals, this with
    | [v], _ => exact ⟨v, rfl⟩
  obtain ⟨o, c, ho, hnil, hroom, rfl⟩ := slOf (w := w) (Z := Z) (hv.2 0 _ _ rfl rfl) hpos
  obtain ⟨o', ho', hb⟩ := hh.rep i (.row 1 (l.map i64) app) (by simp [lk])
  rw [ho] at ho'
  cases ho'
  have hb' := hb
  obtain ⟨hsz, happ, hlen, ⟨hn1, hn2⟩, hc⟩ := hb'
  have hgone : o.gone = false := by rw [hn2]; exact hnil
  have hval : ∀ j (hj : j < l.length), w.cell? ⟨o.g, o.o + j, none⟩ = some (.int .i64 l[j]) := fun j hj => by
    obtain ⟨v, h1, h2⟩ := hc j (i64 l[j]) (by simp [hj])
    cases h2
    exact h1
  have hH : Holds (Value.int .i64) w o.g o.o l.toArray := fun j hj => by
    have hj' : j < l.length := by simpa using hj
    refine ⟨?_, (hh.owns.cells i o ho hgone j (by rw [hsz]; omega)).2⟩
    rw [hval j hj']
    simp [hj']
  have hblk : o.g < w.heap.size := World.block_lt_of_cell? w _ (hval 0 hpos)
  have hcon := Any.slices_Sort_int Tryz.laysSI o.g o.o c l w hH hblk (by omega)
  refine hcon.mono fun e w' ⟨he, n, os, hw⟩ => ?_
  rw [putRow_eq_setCells (Value.int .i64) w o.g o.o l.toArray _ n hH (by simp [List.length_mergeSort])] at hw
  have ht := turnRow hZ hh hcz ho hgone hb (vs := (sortL l).map (Value.int .i64)) (cs' := (sortL l).map i64) (by simp [sortL_len]) (repL_ints _) n os
  subst hw
  have ht2 := ht.2
  simp only [rm, if_true] at ht2
  refine ⟨_, he, ht.1, ht2, [], rfl, by simp [RepL], fun j x v hx => by simp at hx⟩

/-! ### facts -/
/-- Right, of short parts. -/
structure Fct.Rt (f : Fct) : Prop where
  ok : okF f = true
  mild : f.Mild

theorem limbs_of_last {a : List Nat} (ha : Ok a) (h : lastOk a = true) : a = limbs (val a) := by
  rw [← take_trim a ha]
  rcases Nat.eq_zero_or_pos a.length with h0 | h0
  · have : a = [] := List.length_eq_zero_iff.1 h0
    subst this; rfl
  · obtain ⟨n, hn⟩ : ∃ n, a.length = n + 1 := ⟨a.length - 1, by omega⟩
    unfold lastOk at h
    rw [List.getLast?_eq_getElem?, hn] at h
    simp only [Nat.add_sub_cancel, decide_eq_true_eq] at h
    have : trimL a a.length = a.length := by
      rw [hn]
      unfold trimL
      rw [if_neg]
      rw [List.getElem?_eq_getElem (by omega)] at h
      rw [List.getD_eq_getElem?_getD, List.getElem?_eq_getElem (by omega)]
      simpa using h
    rw [this, List.take_length]

theorem ratOk_spec {neg : Bool} {a b : List Nat} (h : ratOk neg a b = true) (ha : Ok a) (hb : Ok b) :
    a = limbs (val a) ∧ b = limbs (val b) ∧ val b ≠ 0 ∧ Nat.gcd (val a) (val b) = 1 ∧ (neg = true → val a ≠ 0) := by
  unfold ratOk at h
  simp only [Bool.and_eq_true, Bool.not_eq_true', decide_eq_true_eq, Bool.and_eq_false_iff, decide_eq_false_iff_not] at h
  obtain ⟨⟨⟨⟨h1, h2⟩, h3⟩, h4⟩, h5⟩ := h
  have ea := limbs_of_last ha h1
  have eb := limbs_of_last hb h4
  refine ⟨ea, eb, fun h0 => h3 ?_, h5, fun hn h0 => ?_⟩
  · rw [eb, h0]; rfl
  · rcases h2 with h2 | h2
    · rw [hn] at h2; cases h2
    · exact h2 (by rw [ea, h0]; rfl)

theorem coprime_eq {m d n e : Nat} (h1 : Nat.gcd m d = 1) (h2 : Nat.gcd n e = 1) (d0 : d ≠ 0) (e0 : e ≠ 0) (h : m * e = n * d) : m = n ∧ d = e := by
  have a1 : m ∣ n := Nat.Coprime.dvd_of_dvd_mul_right (k := m) (n := d) h1 ⟨e, h.symm⟩
  have a2 : n ∣ m := Nat.Coprime.dvd_of_dvd_mul_right (k := n) (n := e) h2 ⟨d, h⟩
  have a3 : d ∣ e := Nat.Coprime.dvd_of_dvd_mul_left (k := d) (m := m) (by rw [Nat.Coprime, Nat.gcd_comm]; exact h1) ⟨n, by rw [h, Nat.mul_comm]⟩
  have a4 : e ∣ d := Nat.Coprime.dvd_of_dvd_mul_left (k := e) (m := n) (by rw [Nat.Coprime, Nat.gcd_comm]; exact h2) ⟨m, by rw [← h, Nat.mul_comm]⟩
  exact ⟨Nat.dvd_antisymm a1 a2, Nat.dvd_antisymm a3 a4⟩

theorem toZ_cross {na nb : Bool} {m d n e : Nat} (h : toZ na m * (e : Int) = toZ nb n * (d : Int)) (d0 : d ≠ 0) (e0 : e ≠ 0) : m * e = n * d ∧ (m = 0 ∨ na = nb) := by
  have p : 0 ≤ (m : Int) * e := by exact_mod_cast Nat.zero_le _
  have q : 0 ≤ (n : Int) * d := by exact_mod_cast Nat.zero_le _
  have z : (m : Int) * e = 0 → m = 0 := fun h => by
    have : m * e = 0 := by exact_mod_cast h
    rcases Nat.mul_eq_zero.1 this with h | h
    · exact h
    · exact absurd h e0
  unfold toZ at h
  cases na <;> cases nb <;> simp only [if_true, if_false, Int.neg_mul, Bool.false_eq_true] at h
  · exact ⟨by exact_mod_cast h, .inr rfl⟩
  · have h1 : (m : Int) * e = n * d := by omega
    exact ⟨by exact_mod_cast h1, .inl (z (by omega))⟩
  · have h1 : (m : Int) * e = n * d := by omega
    exact ⟨by exact_mod_cast h1, .inl (z (by omega))⟩
  · have h1 : (m : Int) * e = n * d := by omega
    exact ⟨by exact_mod_cast h1, .inr rfl⟩

/-- What a right fact's parts are. -/
theorem Fct.Rt.parts {f : Fct} (h : f.Rt) : arity f.kind ≠ 0 ∧ f.args.length = arity f.kind ∧ (∀ a ∈ f.args, 0 ≤ a ∧ a < 40) ∧
    (if f.kind = 9 then ratOk f.neg f.abs f.den = true else f.neg = false ∧ f.abs = [] ∧ f.den = []) := by
  have := h.ok
  unfold okF wrong at this
  simp only [decide_eq_true_eq] at this
  by_cases h1 : arity f.kind = 0
  · rw [if_pos h1] at this; cases this
  rw [if_neg h1] at this
  by_cases h2 : f.args.length ≠ arity f.kind
  · rw [if_pos h2] at this; cases this
  rw [if_neg h2] at this
  by_cases h3 : f.args.any (fun a => decide (a < 0) || decide (40 ≤ a)) = true
  · rw [if_pos h3] at this; cases this
  rw [if_neg h3] at this
  refine ⟨h1, by omega, fun a ha => ?_, ?_⟩
  · simp only [List.any_eq_true, not_exists, Bool.or_eq_true, decide_eq_true_eq, not_and, not_or] at h3
    have := h3 a ha
    omega
  · by_cases h9 : f.kind = 9
    · rw [if_pos h9] at this ⊢
      by_cases h4 : ratOk f.neg f.abs f.den = true
      · exact h4
      · rw [if_neg h4] at this; cases this
    · rw [if_neg h9] at this ⊢
      by_cases h4 : noRat f.neg f.abs f.den = true
      · unfold noRat at h4
        simp only [Bool.and_eq_true, Bool.not_eq_true', decide_eq_true_eq] at h4
        exact ⟨h4.1.1, h4.1.2, h4.2⟩
      · rw [if_neg h4] at this; cases this

theorem Fct.Rt.num {f : Fct} (h : f.Rt) : f.Num := fun h9 => by
  have := h.parts.2.2.2
  rw [if_pos h9] at this
  exact (ratOk_spec this h.mild.oa h.mild.od).2.2.1

theorem Fct.ext' {f g : Fct} (h1 : f.kind = g.kind) (h2 : f.args = g.args) (h3 : f.neg = g.neg) (h4 : f.abs = g.abs) (h5 : f.den = g.den) : f = g := by
  cases f; cases g; simp only at h1 h2 h3 h4 h5; subst h1 h2 h3 h4 h5; rfl

/-- Right facts that are not parted are equal. -/
theorem cmpF_zero {f g : Fct} (hf : f.Rt) (hg : g.Rt) : cmpF f g = 0 ↔ f = g := by
  constructor
  · intro h
    rw [cmpF_eq] at h
    by_cases h0 : cmpK f g = 0
    · obtain ⟨k1, k2⟩ := cmpK_zero.1 h0
      rw [if_neg (by simp [h0])] at h
      have p := hf.parts.2.2.2
      have q := hg.parts.2.2.2
      by_cases h9 : f.kind = 9
      · rw [if_pos h9] at h p
        rw [if_pos (by omega)] at q
        obtain ⟨a1, a2, a3, a4, a5⟩ := ratOk_spec p hf.mild.oa hf.mild.od
        obtain ⟨b1, b2, b3, b4, b5⟩ := ratOk_spec q hg.mild.oa hg.mild.od
        have hc := (cmpZ_zero _ _).1 h
        obtain ⟨c1, c2⟩ := toZ_cross hc a3 b3
        obtain ⟨e1, e2⟩ := coprime_eq a4 b4 a3 b3 c1
        refine Fct.ext' k1 k2 ?_ (by rw [a1, b1, e1]) (by rw [a2, b2, e2])
        rcases c2 with c2 | c2
        · cases hn : f.neg with
          | true => exact absurd c2 (a5 hn)
          | false =>
            cases hn' : g.neg with
            | true => exact absurd (e1 ▸ c2) (b5 hn')
            | false => rfl
        · exact c2
      · rw [if_neg h9] at p
        rw [if_neg (by omega)] at q
        exact Fct.ext' k1 k2 (by rw [p.1, q.1]) (by rw [p.2.1, q.2.1]) (by rw [p.2.2, q.2.2])
    · rw [if_pos h0] at h
      exact absurd h h0
  · rintro rfl
    exact isCmp_F.self hf.num

end Go.Va

/-
  Contracts: comparing facts; the library's sort at facts.
-/
namespace Go.Va
open Go.Proofs
set_option maxHeartbeats 4000000
set_option maxRecDepth 10000
set_option linter.unusedSimpArgs false
set_option linter.unusedVariables false

theorem cmp_c (f g : Fct) (hf : f.Mild) (hg : g.Mild) (nf : f.Num) (ng : g.Num) : CallsF Tryz.prog 35 [.agg f.ds, .agg g.ds] (.u (.c (.d (.int .i64 (cmpF f g))))) := by
  obtain ⟨k, a, n, m, d⟩ := f
  obtain ⟨k', a', n', m', d'⟩ := g
  obtain ⟨la, ld, oa, od, ln⟩ := hf
  obtain ⟨la', ld', oa', od', ln'⟩ := hg
  simp only [Fct.Num, Fct.ds] at *
  have k1 := compare_c k k'
  have k2 := slCompare_c a a' ln ln'
  have k3 : CallsF Tryz.prog 71 [.c (.slice 2 [.int .i64 (cmpZ k k'), .int .i64 (lexI a a')])] _ := or_c [cmpZ k k', lexI a a'] (by simp)
  have e : cmpK ⟨k, a, n, m, d⟩ ⟨k', a', n', m', d'⟩ = orL [cmpZ k k', lexI a a'] := rfl
  have z := cmpK_zero (a := ⟨k, a, n, m, d⟩) (b := ⟨k', a', n', m', d'⟩)
  simp only at z
  rw [← e] at k3
  unfold cmpF
  generalize cmpK ⟨k, a, n, m, d⟩ ⟨k', a', n', m', d'⟩ = c at *
  refine callsF_of (T := tb) tab_ok mixed Tryz.func35 rfl (by decide) (Nat.le_of_ble_eq_true rfl) rfl ?_; unfold St.init
  simp (maxSteps := 2000000) -implicitDefEqProofs [-List.map_set, Ja, -Int.natCast_add, -Int.natCast_mul, -Int.natCast_emod, -Int.natCast_ediv, -Int.natCast_pow, Jb, Jc, Jd, Je, Jf, Jg, Jh, Ji, Jj, Jk, Jl, Jm, Jn, Jo, Jp, Jq, Jr, Js, Jt, Ju, Jv, Jw, Jx, Jy, Jz]
  refine wpDraw_by [[], [0], [], [2], [0, 1, 2, 3], [], [5], [], [7], [0, 1, 2, 3, 4, 5, 6, 7, 8], [0, 1, 2, 3, 4, 5, 6, 7, 8, 9], [0, 1, 2, 3, 4, 5, 6, 7, 8, 9, 10], [0, 1, 2, 3, 4, 5, 6, 7, 8, 9, 10, 11]] [.any [] [] [⟨0, [2], [], [], []⟩, ⟨0, [6], [], [], []⟩, ⟨0, [3], [], [], []⟩, ⟨0, [8], [], [], []⟩, ⟨0, [7, 9], [], [], []⟩, ⟨0, [2], [], [], []⟩, ⟨0, [11], [], [], []⟩, ⟨0, [3], [], [], []⟩, ⟨0, [13], [], [], []⟩], .one, .one, .one, .one] (by rfl) ?_
  simp (maxSteps := 2000000) -implicitDefEqProofs [-List.map_set, Ja, -Int.natCast_add, -Int.natCast_mul, -Int.natCast_emod, -Int.natCast_ediv, -Int.natCast_pow, Jb, Jc, Jd, Je, Jf, Jg, Jh, Ji, Jj, Jk, Jl, Jm, Jn, Jo, Jp, Jq, Jr, Js, Jt, Ju, Jv, Jw, Jx, Jy, Jz]
  (first | refine .inl ⟨_, k1, ?_⟩ | refine ⟨_, k1, ?_⟩)
  simp (maxSteps := 2000000) -implicitDefEqProofs [-List.map_set, Ja, -Int.natCast_add, -Int.natCast_mul, -Int.natCast_emod, -Int.natCast_ediv, -Int.natCast_pow, Jb, Jc, Jd, Je, Jf, Jg, Jh, Ji, Jj, Jk, Jl, Jm, Jn, Jo, Jp, Jq, Jr, Js, Jt, Ju, Jv, Jw, Jx, Jy, Jz]
  (first | refine .inl ⟨_, k2, ?_⟩ | refine ⟨_, k2, ?_⟩)
  simp (maxSteps := 2000000) -implicitDefEqProofs [-List.map_set, Ja, -Int.natCast_add, -Int.natCast_mul, -Int.natCast_emod, -Int.natCast_ediv, -Int.natCast_pow, Jb, Jc, Jd, Je, Jf, Jg, Jh, Ji, Jj, Jk, Jl, Jm, Jn, Jo, Jp, Jq, Jr, Js, Jt, Ju, Jv, Jw, Jx, Jy, Jz]
  (first | refine .inl ⟨_, k3, ?_⟩ | refine ⟨_, k3, ?_⟩)
  by_cases h : c = 0
  · by_cases h9 : k = 9
    · have h9' : k' = 9 := by rw [← (z.1 h).1]; exact h9
      have k4 := ratCmp_c n n' m d m' d' oa (by omega) od (by omega) oa' (by omega) od' (by omega) (nf h9) (ng h9')
      simp (maxSteps := 2000000) -implicitDefEqProofs [-List.map_set, Ja, -Int.natCast_add, -Int.natCast_mul, -Int.natCast_emod, -Int.natCast_ediv, -Int.natCast_pow, Jb, Jc, Jd, Je, Jf, Jg, Jh, Ji, Jj, Jk, Jl, Jm, Jn, Jo, Jp, Jq, Jr, Js, Jt, Ju, Jv, Jw, Jx, Jy, Jz, h, h9]
      (first | refine .inl ⟨_, k4, ?_⟩ | refine ⟨_, k4, ?_⟩)
      simp (maxSteps := 2000000) -implicitDefEqProofs [-List.map_set, Ja, -Int.natCast_add, -Int.natCast_mul, -Int.natCast_emod, -Int.natCast_ediv, -Int.natCast_pow, Jb, Jc, Jd, Je, Jf, Jg, Jh, Ji, Jj, Jk, Jl, Jm, Jn, Jo, Jp, Jq, Jr, Js, Jt, Ju, Jv, Jw, Jx, Jy, Jz, cmpR]
    · simp (maxSteps := 2000000) -implicitDefEqProofs [-List.map_set, Ja, -Int.natCast_add, -Int.natCast_mul, -Int.natCast_emod, -Int.natCast_ediv, -Int.natCast_pow, Jb, Jc, Jd, Je, Jf, Jg, Jh, Ji, Jj, Jk, Jl, Jm, Jn, Jo, Jp, Jq, Jr, Js, Jt, Ju, Jv, Jw, Jx, Jy, Jz, h, h9]
  · simp (maxSteps := 2000000) -implicitDefEqProofs [-List.map_set, Ja, -Int.natCast_add, -Int.natCast_mul, -Int.natCast_emod, -Int.natCast_ediv, -Int.natCast_pow, Jb, Jc, Jd, Je, Jf, Jg, Jh, Ji, Jj, Jk, Jl, Jm, Jn, Jo, Jp, Jq, Jr, Js, Jt, Ju, Jv, Jw, Jx, Jy, Jz, h]

end Go.Va

/-
  Contracts: the library's SortFunc, at elements of any size and any order.
-/
namespace Go.Va
open Go.Proofs
set_option maxHeartbeats 4000000
set_option maxRecDepth 10000
set_option linter.unusedSimpArgs false
set_option linter.unusedVariables false
open Go.Shelf Go.RowKit Go.Lib Go.Sort

/-- In ascending order. -/
def insBy {α : Type} (cf : α → α → Int) (f : α) : List α → List α
  | [] => [f]
  | a :: l => if cf a f < 0 then a :: insBy cf f l else f :: a :: l
def sortBy {α : Type} (cf : α → α → Int) : List α → List α
  | [] => []
  | a :: l => insBy cf a (sortBy cf l)
section
variable {α : Type} {cf : α → α → Int} {P : α → Prop}
theorem insBy_perm (f : α) : ∀ l, (insBy cf f l).Perm (f :: l)
  | [] => List.Perm.refl _
  | a :: l => by
    unfold insBy
    split
    · exact ((insBy_perm f l).cons a).trans (List.Perm.swap f a l)
    · exact List.Perm.refl _
theorem sortBy_perm : ∀ l, (sortBy cf l).Perm l
  | [] => List.Perm.refl _
  | a :: l => (insBy_perm a _).trans ((sortBy_perm l).cons a)
theorem sortBy_len (l : List α) : (sortBy cf l).length = l.length := (sortBy_perm l).length_eq
theorem insBy_sorted (h : IsCmp P cf) {f : α} (hf : P f) : ∀ {l : List α}, (∀ x ∈ l, P x) → l.Pairwise (fun a b => cf a b ≤ 0) → (insBy cf f l).Pairwise (fun a b => cf a b ≤ 0)
  | [], _, _ => by simp [insBy]
  | a :: l, hl, hp => by
    rw [List.pairwise_cons] at hp
    have ha := hl a (by simp)
    unfold insBy
    split
    · rename_i hlt
      rw [List.pairwise_cons]
      refine ⟨fun b hb => ?_, insBy_sorted h hf (fun x hx => hl x (by simp [hx])) hp.2⟩
      rcases List.mem_cons.1 ((insBy_perm f l).mem_iff.1 hb) with rfl | hb
      · omega
      · exact hp.1 b hb
    · rename_i hge
      have hfa : cf f a ≤ 0 := by have := h.anti a f ha hf; omega
      rw [List.pairwise_cons, List.pairwise_cons]
      refine ⟨fun b hb => ?_, hp.1, hp.2⟩
      rcases List.mem_cons.1 hb with rfl | hb
      · exact hfa
      · exact (h.tr f a b hf ha (hl b (by simp [hb])) hfa (hp.1 b hb)).1
theorem sortBy_sorted (h : IsCmp P cf) : ∀ {l : List α}, (∀ x ∈ l, P x) → (sortBy cf l).Pairwise (fun a b => cf a b ≤ 0)
  | [], _ => by simp [sortBy]
  | a :: l, hl => insBy_sorted h (hl a (by simp)) (fun x hx => hl x (by simp [(sortBy_perm l).mem_iff.1 hx])) (sortBy_sorted h fun x hx => hl x (by simp [hx]))
theorem sortBy_of (h : IsCmp P cf) (h0 : ∀ x y, P x → P y → cf x y = 0 → x = y) {l m : List α} (hl : ∀ x ∈ l, P x) (hp : m.Perm l) (hs : m.Pairwise (fun a b => cf a b ≤ 0)) : m = sortBy cf l := by
  refine List.Perm.eq_of_pairwise (le := fun a b => cf a b ≤ 0) (fun a b ha hb h1 h2 => ?_) hs (sortBy_sorted h hl) (hp.trans (sortBy_perm l).symm)
  have ra := hl a (hp.mem_iff.1 ha)
  have rb := hl b ((sortBy_perm l).mem_iff.1 hb)
  have := h.anti a b ra rb
  exact h0 a b ra rb (by omega)
end

theorem flatK_toList' {α : Type} [Inhabited α] {enc : α → List Value} {k : Nat} (hk : ∀ x, (enc x).length = k) (d : Array α) : (flatK enc k d).toList = d.toList.flatMap enc := by
  have hfl : ∀ l : List α, (l.flatMap enc).length = l.length * k := fun l => by
    induction l with
    | nil => simp
    | cons a l ih => rw [List.flatMap_cons, List.length_append, hk, ih, List.length_cons, Nat.add_mul, Nat.one_mul, Nat.add_comm]
  have hfd : ∀ (l : List α) (i : Nat), (l.flatMap enc).drop (i * k) = (l.drop i).flatMap enc := fun l => by
    induction l with
    | nil => intro i; simp
    | cons a l ih =>
      intro i
      cases i with
      | zero => simp
      | succ i => rw [List.flatMap_cons, List.drop_succ_cons, List.drop_append, List.drop_of_length_le (by rw [hk, Nat.add_mul]; omega), hk, List.nil_append, Nat.add_mul, Nat.one_mul, Nat.add_sub_cancel, ih]
  apply List.ext_getElem?
  intro t
  by_cases ht : t < d.size * k
  · have k0 : 0 < k := by
      rcases Nat.eq_zero_or_pos k with h | h
      · subst h; omega
      · exact h
    have hq : t / k < d.size := (Nat.div_lt_iff_lt_mul k0).2 ht
    have hm : t % k < k := Nat.mod_lt _ k0
    have e1 : (d.toList.flatMap enc)[t]? = ((d.toList.flatMap enc).drop (t / k * k))[t % k]? := by
      rw [List.getElem?_drop]
      congr 1
      rw [Nat.mul_comm]
      exact (Nat.div_add_mod t k).symm
    have hq' : t / k < d.toList.length := by simpa using hq
    rw [e1, hfd, List.drop_eq_getElem_cons hq', List.flatMap_cons, List.getElem?_append_left (by rw [hk]; exact hm)]
    have e2 := get_flatK enc k d t ht
    rw [Array.getElem?_toList]
    have hsz : t < (flatK enc k d).size := by rw [size_flatK]; exact ht
    rw [getElem!_pos _ t hsz, getElem!_pos d (t / k) hq, getElem!_pos _ (t % k) (by rw [hk]; exact hm)] at e2
    rw [Array.getElem?_eq_getElem hsz, e2, List.getElem?_eq_getElem (by rw [hk]; exact hm)]
    simp
  · rw [List.getElem?_eq_none (by simp [size_flatK]; omega), List.getElem?_eq_none (by rw [hfl]; simp; omega)]

/-- An element with values that stand for it. -/
def EV {α : Type} (ds : α → List D) (P : α → Prop) (w : World) (Z : Addr → Prop) : Type := { p : α × List Value // RepL (RepD w Z) (ds p.1) p.2 ∧ P p.1 }

theorem repL_flatE {α : Type} {ds : α → List D} {P : α → Prop} {w : World} {Z : Addr → Prop} : ∀ l : List (EV ds P w Z), RepL (RepD w Z) ((l.map fun x => x.1.1).flatMap ds) (l.flatMap fun x => x.1.2)
  | [] => ⟨rfl, fun j x v hx => by simp at hx⟩
  | a :: l => by
    simp only [List.map_cons, List.flatMap_cons]
    exact RepL.append a.2.1 (repL_flatE l)

theorem map_range_get {k : Nat} (f : Nat → Value) (b j : Nat) (hj : j < k) : ((List.range k).map fun r => f (b + r))[j]? = some (f (b + j)) := by
  simp [hj]

section
variable {α : Type} {ds : α → List D} {K : Nat} {P : α → Prop} {cf : α → α → Int}

theorem sortFunc_g (hK : 0 < K) (hds : ∀ x, (ds x).length = K) (hC : IsCmp P cf) (h00 : ∀ x, P x → cf x x = 0) (h0 : ∀ x y, P x → P y → cf x y = 0 → x = y) {ren : Ren} (L : SlLaysF0.n6 Tryz.prog ren) {fs : Nat} (hfs : ren.f 6 = fs) (hok : FnOk Tryz.prog fs)
    (aE : ∀ w, (isAgg (ren.t 24)).run Tryz.prog w = .ok true w) (zE : ∀ w, (Go.sizeOf (ren.t 24)).run Tryz.prog w = .ok K w) (g : FuncId) (eg : ∀ args w, (callFunc g args).run Tryz.prog w = .ok (.enter g args) w)
    (hg : ∀ x y, P x → P y → CallsF Tryz.prog g [.agg (ds x), .agg (ds y)] (.u (.c (.d (.int .i64 (cf x y))))))
    (i : Nat) (l : List α) (app : Bool) (hl : l.length ≤ 1099511627776) (hr : ∀ f ∈ l, P f) :
    CallsW Tryz.prog fs [.c (.sl i 0 l.length), .c (.d (.fn g []))] [(i, .row K (l.flatMap ds) app)] [(i, .row K ((sortBy cf l).flatMap ds) app)] (.tup []) := by
  refine ⟨hok, rfl, fun w Z ρ vals hZ hh hcz hρ hv => ?_⟩
  obtain ⟨v, v2, rfl⟩ : ∃ v v2, vals = [v, v2] := by
    have := hv.1
    match vals, this with
    | [v, v2], _ => exact ⟨v, v2, rfl⟩
  have hv2 : v2 = .func (.func g) #[] #[] := by
    have h2 : RepD w (Out ρ Z) (.fn g []) v2 := hv.2 1 _ _ rfl rfl
    cases h2 with
    | fn f caps vs hlen h3 =>
      have : vs = [] := List.length_eq_zero_iff.1 hlen.symm
      subst this; rfl
  subst hv2
  subst hfs
  rcases Nat.eq_zero_or_pos l.length with hlz | hpos
  · -- nothing to sort
    have hl0 : l = [] := List.length_eq_zero_iff.1 hlz
    subst hl0
    obtain ⟨p, cap, rfl⟩ : ∃ p cap, v = .slice p 0 cap := by
      obtain ⟨o, _, _, h3⟩ := hv.2 0 _ v rfl rfl
      rcases h3 with ⟨_, h4, _⟩ | ⟨_, a, c, h4, _⟩
      · exact ⟨none, 0, h4⟩
      · exact ⟨some a, c, h4⟩
    have hcon := AnyF.slices_SortFunc_none L p cap (.func (.func g) #[] #[]) w
    refine Calls.mono hcon fun e w' ⟨he, hw⟩ => ?_
    subst hw
    exact ⟨_, he, ⟨rfl, Nat.le_refl _, rfl, rfl, Nat.le_refl _, fun _ _ _ h => h, fun _ _ => rfl, fun _ _ _ => rfl⟩, hh, [], rfl, by simp [RepL], fun j x v hx => by simp at hx⟩
  obtain ⟨o, c, ho, hnil, hroom, rfl⟩ := slOf (w := w) (Z := Z) (hv.2 0 _ _ rfl rfl) hpos
  obtain ⟨o', ho', hb⟩ := hh.rep i (.row K (l.flatMap ds) app) (by simp [lk])
  rw [ho] at ho'
  cases ho'
  have hb' := hb
  obtain ⟨hsz, happ, hlen, ⟨hn1, hn2⟩, hc⟩ := hb'
  have hgone : o.gone = false := by rw [hn2]; exact hnil
  rw [fm_length hds] at hlen
  -- the values of a cell
  let vs : Nat → Value := fun j => (w.cell? (o.at j)).getD undef
  have hvs : ∀ (j : Nat) (x : D), (l.flatMap ds)[j]? = some x → w.cell? (o.at j) = some (vs j) ∧ RepD w (Out ρ Z) x (vs j) := fun j x hx => by
    obtain ⟨v, h1, h2⟩ := hc j x hx
    have : vs j = v := by simp only [vs, h1, Option.getD_some]
    rw [this]
    exact ⟨h1, h2⟩
  have hrow : ∀ (k : Nat) (hk : k < l.length), RepL (RepD w (Out ρ Z)) (ds l[k]) ((List.range K).map fun r => vs (k * K + r)) := fun k hk => by
    refine ⟨by simp [hds], fun j x v hx hv => ?_⟩
    have hj : j < K := by rw [← hds l[k]]; exact (List.getElem?_eq_some_iff.1 hx).1
    have he : (l.flatMap ds)[k * K + j]? = some x := by
      have := fm_at hds l k hk
      rw [← this, List.getElem?_take, if_pos hj, List.getElem?_drop] at hx
      exact hx
    rw [map_range_get vs (k * K) j hj] at hv
    rw [← Option.some.inj hv]
    exact (hvs (k * K + j) x he).2
  let el : Fin l.length → EV ds P w (Out ρ Z) := fun k => ⟨(l[k], (List.range K).map fun r => vs (k * K + r)), hrow k k.2, hr _ (List.getElem_mem k.2)⟩
  haveI : Inhabited (EV ds P w (Out ρ Z)) := ⟨el ⟨0, hpos⟩⟩
  let enc : EV ds P w (Out ρ Z) → List Value := fun x => x.1.2
  have hk : ∀ x, (enc x).length = K := fun x => x.2.1.1.symm.trans (hds _)
  have h1 : ∀ x, ∀ v ∈ enc x, v.oneCell' = true := fun x v hv => by
    obtain ⟨j, hj⟩ := List.getElem?_of_mem hv
    have hlt : j < (ds x.1.1).length := by
      have h1 : j < x.1.2.length := (List.getElem?_eq_some_iff.1 hj).1
      have h2 : (ds x.1.1).length = x.1.2.length := x.2.1.1
      omega
    exact (x.2.1.2 j _ v (List.getElem?_eq_getElem hlt) hj).one
  let d : Array (EV ds P w (Out ρ Z)) := Array.ofFn el
  have hdsz : d.size = l.length := by simp [d]
  have hdg : ∀ (t : Nat) (ht : t < l.length), d[t]! = el ⟨t, ht⟩ := fun t ht => by
    rw [getElem!_pos d t (by rw [hdsz]; exact ht)]
    simp [d]
  have hH : HoldsK enc K w o.g o.o d := fun t ht => by
    rw [size_flatK, hdsz] at ht
    have hq : t / K < l.length := (Nat.div_lt_iff_lt_mul hK).2 ht
    have hin : t < o.room * o.sz := by rw [hsz]; omega
    refine ⟨?_, (hh.owns.cells i o ho hgone t hin).2⟩
    rw [get_flatK enc K d t (by rw [hdsz]; exact ht), hdg _ hq]
    have hx := List.getElem?_eq_getElem (l := l.flatMap ds) (i := t) (by rw [fm_length hds]; exact ht)
    have h2 := (hvs t _ hx).1
    show w.cell? (o.at t) = some (id _)
    rw [h2]
    have hm : t % K < K := Nat.mod_lt _ hK
    show some (vs t) = some (((List.range K).map fun r => vs (t / K * K + r))[t % K]!)
    have h3 := map_range_get vs (t / K * K) (t % K) hm
    rw [List.getElem!_of_getElem? h3, show t / K * K + t % K = t by rw [Nat.mul_comm]; exact Nat.div_add_mod t K]
  let cg : EV ds P w (Out ρ Z) → EV ds P w (Out ρ Z) → Int := fun x y => cf x.1.1 y.1.1
  have hO : SWO (ltOf cg) :=
    { irrefl := fun x => by
        have := h00 x.1.1 x.2.2
        simp [ltOf, cg, this]
      trans := fun x y z h1 h2 => by
        simp only [ltOf, cg, decide_eq_true_eq] at *
        have := hC.tr x.1.1 y.1.1 z.1.1 x.2.2 y.2.2 z.2.2 (by omega) (by omega)
        omega
      ntrans := fun x y z h1 h2 => by
        simp only [ltOf, cg, decide_eq_false_iff_not] at *
        have a1 := hC.anti x.1.1 y.1.1 x.2.2 y.2.2
        have a2 := hC.anti y.1.1 z.1.1 y.2.2 z.2.2
        have a3 := hC.anti x.1.1 z.1.1 x.2.2 z.2.2
        have := hC.tr z.1.1 y.1.1 x.1.1 z.2.2 y.2.2 x.2.2 (by omega) (by omega)
        omega }
  have hblk : o.g < w.heap.size := by
    have hx := List.getElem?_eq_getElem (l := l.flatMap ds) (i := 0) (by rw [fm_length hds]; exact Nat.mul_pos hpos hK)
    exact World.block_lt_of_cell? w _ (hvs 0 _ hx).1
  have hcmp : CmpLays Tryz.prog g #[] enc K cg o.g o.o d.size w := fun m os dk hdk x y => by
    have hkeep : Keep w (sortWorldK enc K w o.g o.o m dk os) (Out ρ Z) (fun _ => False) := fun ad v hn hv => by
      refine ⟨?_, fun h => h⟩
      have hlt := World.block_lt_of_cell? w _ hv
      unfold sortWorldK
      have hsz2 : ad.block < (putRowK enc K (Sort.ahead w m) o.g o.o dk).heap.size := by
        rw [size_putRowK]; exact hlt
      rw [cell?_grow _ _ _ hsz2]
      unfold putRowK
      rw [cell?_putRow_other id (Sort.ahead w m) o.g o.o _ ad ?_]
      · exact hv
      · rw [size_flatK, hdk, hdsz]
        by_cases e1 : ad.block = o.g
        · by_cases e2 : ad.off < o.o
          · exact .inr (.inl e2)
          · by_cases e3 : o.o + l.length * K ≤ ad.off
            · exact .inr (.inr e3)
            · exact absurd (.inr ⟨i, o, ho, hgone, e1, by omega, by rw [hsz]; omega⟩) hn
        · exact .inl e1
    have hc1 := (hg x.1.1 y.1.1 x.2.2 y.2.2).2 (sortWorldK enc K w o.g o.o m dk os) (fun _ => False) [.agg (enc x).toArray, .agg (enc y).toArray] (fun _ h => h.elim)
      ⟨rfl, fun j a v ha hv => by
        match j, ha, hv with
        | 0, ha, hv =>
          cases ha; cases hv
          exact ⟨enc x, rfl, x.2.1.mono fun q u hu => hu.keep hkeep⟩
        | 1, ha, hv =>
          cases ha; cases hv
          exact ⟨enc y, rfl, y.2.1.mono fun q u hu => hu.keep hkeep⟩⟩
    refine Calls.mono hc1 fun e w' ⟨v, he, hx, hres⟩ => ?_
    obtain ⟨_, o2, _, h3⟩ := hres
    have h4 : RepD w' (Out (single 0 [] o2) fun _ => False) (.int .i64 (cf x.1.1 y.1.1)) v := (h3 0).1
    cases h4
    obtain ⟨q, os', hw⟩ := hx.asGrow
    exact ⟨he, q, os', hw⟩
  have hcon := AnyQ.slices_SortFunc L K aE zE enc hk h1 cg hO g #[] o.g o.o c d w eg hcmp hH hblk (by rw [hdsz]; omega)
  rw [hdsz] at hcon
  refine Calls.mono hcon fun e w' ⟨he, d', n, os, hp, hs, hw⟩ => ?_
  obtain ⟨hp1, hp2, hp3⟩ := hp
  have hds' : d'.size = l.length := hp1.trans hdsz
  have hperm : d'.toList.Perm d.toList := by
    have e1 : d'.extract 0 l.length = d' := by rw [← hds']; simp
    have e2 : d.extract 0 l.length = d := by rw [← hdsz]; simp
    rwa [e1, e2] at hp3
  have hdl : d.toList.map (fun x => x.1.1) = l := by
    apply List.ext_getElem?
    intro t
    by_cases ht : t < l.length
    · have hlt : t < d.size := by rw [hdsz]; exact ht
      have h3 := hdg t ht
      rw [getElem!_pos d t hlt] at h3
      rw [List.getElem?_map, List.getElem?_eq_getElem ht, Array.getElem?_toList, Array.getElem?_eq_getElem hlt, Option.map_some, h3]
      rfl
    · rw [List.getElem?_eq_none (by simp [hdsz]; omega), List.getElem?_eq_none (by omega)]
  have hsort : d'.toList.map (fun x => x.1.1) = sortBy cf l := by
    refine sortBy_of hC h0 hr (by rw [← hdl]; exact hperm.map _) ?_
    rw [List.pairwise_map, List.pairwise_iff_getElem]
    intro a b ha hb hab
    have ha' : a < d'.size := by simpa using ha
    have hb' : b < d'.size := by simpa using hb
    have h2 := hs a b (Nat.zero_le _) hab (by omega)
    rw [getElem!_pos d' a ha', getElem!_pos d' b hb'] at h2
    simp only [ltOf, cg, decide_eq_false_iff_not] at h2
    simp only [Array.getElem_toList]
    have := hC.anti d'[a].1.1 d'[b].1.1 d'[a].2.2 d'[b].2.2
    omega
  have hfl := flatK_toList' hk d'
  have hw2 : w' = Go.Sort.grow ((w.drewN n).setCells o.g o.o ((d'.toList.flatMap enc).map id)) os := by
    rw [hw]
    unfold sortWorldK putRowK
    have e1 : flatK enc K d' = (d'.toList.flatMap enc).toArray := by rw [← hfl]
    rw [e1, putRow_eq_setCells id w o.g o.o (flatK enc K d) _ n hH (by rw [← hfl, Array.length_toList, size_flatK, size_flatK, hdsz, hds'])]
  rw [List.map_id] at hw2
  have hrl := repL_flatE d'.toList
  rw [hsort] at hrl
  have ht := turnRow hZ hh hcz ho hgone hb (vs := d'.toList.flatMap enc) (cs' := (sortBy cf l).flatMap ds) (by
    rw [← hfl, Array.length_toList, size_flatK, hds', fm_length hds]) hrl n os
  have ht2 := ht.2
  simp only [rm, if_true] at ht2
  subst hw2
  exact ⟨_, he, ht.1, ht2, [], rfl, by simp [RepL], fun j x v hx => by simp at hx⟩
end

end Go.Va
