/-
  Contracts: other numbers for a fact's points; variants of a fact, their steps.
-/
import Derived.Test.YtdjgdhbeikdojaaGreatWj
set_option linter.all false

namespace Go.Va
open Go.Proofs
set_option maxHeartbeats 4000000
set_option maxRecDepth 10000
set_option linter.unusedSimpArgs false
set_option linter.unusedVariables false

@[simp] theorem nil_ints : (D.slice 0 [] = intsD []) = True := eq_true rfl
@[simp] theorem nil_nats : (D.slice 0 [] = natD []) = True := eq_true rfl

/-- May the point get its new number? -/
def okT (to : List Int) (a : Int) : Bool := decide (a < to.length) && decide (0 ≤ to.getD a.toNat 0) && decide (to.getD a.toNat 0 < 40)
def allT (to : List Int) (l : List Int) : Bool := l.all (okT to)
def toAt (to : List Int) (a : Int) : Int := to.getD a.toNat 0
def Fct.ru (f : Fct) : RU := .agg [.d (.int .i64 f.kind), .d (intsD f.args), .d (.bool f.neg), .d (natD f.abs), .d (natD f.den)]
def renU (f : Fct) (to : List Int) : Fct := ⟨f.kind, f.args.map (toAt to), f.neg, f.abs, f.den⟩
def renF (f : Fct) (to : List Int) : Fct × Int := if okF f = true then (if allT to f.args = true then (renU f to, 0) else (.zero, 2)) else (.zero, 1)
def renR (f : Fct) (to : List Int) : R := .tup [(renF f to).1.ru, .c (.d (.int .i64 (renF f to).2))]

def rowT (to : List Int) (l : List Int) : List D := (l.map (toAt to)).map i64
theorem rowT_len (to l : List Int) : (rowT to l).length = l.length := by simp [rowT]
theorem okT_false {to : List Int} {n : Nat} : okT to (n : Int) = false ↔ ¬ n < to.length ∨ ∃ h : n < to.length, to[n] < 0 ∨ 40 ≤ to[n] := by
  unfold okT
  by_cases h : n < to.length
  · have e : to.getD n 0 = to[n] := by rw [List.getD_eq_getElem?_getD, List.getElem?_eq_getElem h]; rfl
    simp only [Int.toNat_natCast, e]
    by_cases h1 : to[n] < 0
    · simp [h, h1]; omega
    · by_cases h2 : 40 ≤ to[n]
      · simp [h, h1, h2]
      · simp [h, h1, h2]
  · simp [h]

theorem rename_c (f : Fct) (hf : f.Mild) (to : List Int) (ht : to.length ≤ 1099511627776) : CallsF Tryz.prog 24 [.agg f.ds, .c (intsD to)] (renR f to) := by
  have k1 := right_c f hf
  have k2 := fun h => (Fct.Rt.mk h hf).parts
  unfold renR renF
  cases h : okF f
  · rw [h] at k1
    obtain ⟨k, l, n, m, d⟩ := f
    simp only [Fct.ds] at *
    refine callsF_of (T := tb) tab_ok mixed Tryz.func24 rfl (by decide) (Nat.le_of_ble_eq_true rfl) rfl ?_; unfold St.init
    simp (config := { maxSteps := 2000000 }) -implicitDefEqProofs [-List.map_set, set_u16, -Int.natCast_add, -Int.natCast_mul, -Int.natCast_emod, -Int.natCast_ediv, -Int.natCast_pow, nn_add, nn_addl, nn_ladd, nn_mul, nn_mull, nn_lmul, nn_mod, nn_modl, nn_tmod, nn_tmodl, nn_tdiv, nn_tdivl, nn_div, nn_divl, nn_shr, nn_sub1, nn_lel, nn_lle, nn_ltl, nn_llt, nn_eql, nn_leq, nn_eq, nn_neg, nn_pos]
    (first | refine .inl ⟨_, k1, ?_⟩ | refine ⟨_, k1, ?_⟩)
    simp (config := { maxSteps := 2000000 }) -implicitDefEqProofs [-List.map_set, set_u16, -Int.natCast_add, -Int.natCast_mul, -Int.natCast_emod, -Int.natCast_ediv, -Int.natCast_pow, nn_add, nn_addl, nn_ladd, nn_mul, nn_mull, nn_lmul, nn_mod, nn_modl, nn_tmod, nn_tmodl, nn_tdiv, nn_tdivl, nn_div, nn_divl, nn_shr, nn_sub1, nn_lel, nn_lle, nn_ltl, nn_llt, nn_eql, nn_leq, nn_eq, nn_neg, nn_pos, Fct.ru, Fct.zero]
  · rw [h] at k1
    obtain ⟨h1, h2, h3, h4⟩ := k2 h
    have ln := hf.ln
    clear k2 h h4 hf
    obtain ⟨k, l, n, m, d⟩ := f
    simp only [Fct.ds, renU] at *
    have hpos : 0 < l.length := by omega
    clear h1 h2
    refine callsF_of (T := tb) tab_ok mixed Tryz.func24 rfl (by decide) (Nat.le_of_ble_eq_true rfl) rfl ?_; unfold St.init
    simp (config := { maxSteps := 2000000 }) -implicitDefEqProofs [-List.map_set, set_u16, -Int.natCast_add, -Int.natCast_mul, -Int.natCast_emod, -Int.natCast_ediv, -Int.natCast_pow, nn_add, nn_addl, nn_ladd, nn_mul, nn_mull, nn_lmul, nn_mod, nn_modl, nn_tmod, nn_tmodl, nn_tdiv, nn_tdivl, nn_div, nn_divl, nn_shr, nn_sub1, nn_lel, nn_lle, nn_ltl, nn_llt, nn_eql, nn_leq, nn_eq, nn_neg, nn_pos]
    (first | refine .inl ⟨_, k1, ?_⟩ | refine ⟨_, k1, ?_⟩)
    simp (config := { maxSteps := 2000000 }) -implicitDefEqProofs [-List.map_set, set_u16, -Int.natCast_add, -Int.natCast_mul, -Int.natCast_emod, -Int.natCast_ediv, -Int.natCast_pow, nn_add, nn_addl, nn_ladd, nn_mul, nn_mull, nn_lmul, nn_mod, nn_modl, nn_tmod, nn_tmodl, nn_tdiv, nn_tdivl, nn_div, nn_divl, nn_shr, nn_sub1, nn_lel, nn_lle, nn_ltl, nn_llt, nn_eql, nn_leq, nn_eq, nn_neg, nn_pos]
    refine wpLoop_of (fun i : Nat => ⟨[(21, vI .i64 i), (20, vI .i64 l.length), (19, vC (.d (intsD l))), (6, vC (.ptr 6 0)), (4, vC (.ptr 4 0)), (2, vC (.ptr 2 0)), (1, vC (.d (intsD to)))], match i with
      | 0 => [(6, .box [.d (.int .i64 k), .nl, .d (.bool n), .d (natD m), .d (natD d)]), (4, .box [.d (.int .i64 0), .nl, .d (.bool false), .nl, .nl])]
      | j + 1 => [(6, .box [.d (.int .i64 k), .sl 51 0 (j + 1), .d (.bool n), .d (natD m), .d (natD d)]), (4, .box [.d (.int .i64 0), .nl, .d (.bool false), .nl, .nl]), (51, .row 1 (rowT to (l.take (j + 1))) true)]⟩)
      (fun i => i ≤ l.length ∧ allT to (l.take i) = true) (fun i => l.length - i) 0 (by simp) (by simp [allT]) ?_
    rintro i ⟨hi, ha⟩
    by_cases h : i < l.length
    · obtain ⟨a, hea⟩ := Int.eq_ofNat_of_zero_le (h3 l[i] (List.getElem_mem h)).1
      have e := List.take_succ_eq_append_getElem h
      cases hok : okT to l[i]
      · have hall : allT to l = false := by
          unfold allT
          rw [List.all_eq_false]
          exact ⟨l[i], List.getElem_mem h, by rw [hok]; simp⟩
        rw [hall]
        rw [hea] at hok
        simp only [Bool.false_eq_true, if_false, if_true]
        rcases okT_false.1 hok with g | ⟨g, g2 | g2⟩
        · have g' : to.length ≤ a := by omega
          cases i with
          | zero =>
            simp (config := { maxSteps := 2000000 }) -implicitDefEqProofs [-List.map_set, set_u16, -Int.natCast_add, -Int.natCast_mul, -Int.natCast_emod, -Int.natCast_ediv, -Int.natCast_pow, nn_add, nn_addl, nn_ladd, nn_mul, nn_mull, nn_lmul, nn_mod, nn_modl, nn_tmod, nn_tmodl, nn_tdiv, nn_tdivl, nn_div, nn_divl, nn_shr, nn_sub1, nn_lel, nn_lle, nn_ltl, nn_llt, nn_eql, nn_leq, nn_eq, nn_neg, nn_pos, h, i64, hea, g', Fct.ru, Fct.zero]
          | succ j =>
            simp (config := { maxSteps := 2000000 }) -implicitDefEqProofs [-List.map_set, set_u16, -Int.natCast_add, -Int.natCast_mul, -Int.natCast_emod, -Int.natCast_ediv, -Int.natCast_pow, nn_add, nn_addl, nn_ladd, nn_mul, nn_mull, nn_lmul, nn_mod, nn_modl, nn_tmod, nn_tmodl, nn_tdiv, nn_tdivl, nn_div, nn_divl, nn_shr, nn_sub1, nn_lel, nn_lle, nn_ltl, nn_llt, nn_eql, nn_leq, nn_eq, nn_neg, nn_pos, h, i64, hea, g', Fct.ru, Fct.zero]
        · have g' : ¬ to.length ≤ a := by omega
          cases i with
          | zero =>
            simp (config := { maxSteps := 2000000 }) -implicitDefEqProofs [-List.map_set, set_u16, -Int.natCast_add, -Int.natCast_mul, -Int.natCast_emod, -Int.natCast_ediv, -Int.natCast_pow, nn_add, nn_addl, nn_ladd, nn_mul, nn_mull, nn_lmul, nn_mod, nn_modl, nn_tmod, nn_tmodl, nn_tdiv, nn_tdivl, nn_div, nn_divl, nn_shr, nn_sub1, nn_lel, nn_lle, nn_ltl, nn_llt, nn_eql, nn_leq, nn_eq, nn_neg, nn_pos, h, i64, hea, g, g', g2, Fct.ru, Fct.zero]
          | succ j =>
            simp (config := { maxSteps := 2000000 }) -implicitDefEqProofs [-List.map_set, set_u16, -Int.natCast_add, -Int.natCast_mul, -Int.natCast_emod, -Int.natCast_ediv, -Int.natCast_pow, nn_add, nn_addl, nn_ladd, nn_mul, nn_mull, nn_lmul, nn_mod, nn_modl, nn_tmod, nn_tmodl, nn_tdiv, nn_tdivl, nn_div, nn_divl, nn_shr, nn_sub1, nn_lel, nn_lle, nn_ltl, nn_llt, nn_eql, nn_leq, nn_eq, nn_neg, nn_pos, h, i64, hea, g, g', g2, Fct.ru, Fct.zero]
        · have g' : ¬ to.length ≤ a := by omega
          have g3 : ¬ to[a] < 0 := by omega
          cases i with
          | zero =>
            simp (config := { maxSteps := 2000000 }) -implicitDefEqProofs [-List.map_set, set_u16, -Int.natCast_add, -Int.natCast_mul, -Int.natCast_emod, -Int.natCast_ediv, -Int.natCast_pow, nn_add, nn_addl, nn_ladd, nn_mul, nn_mull, nn_lmul, nn_mod, nn_modl, nn_tmod, nn_tmodl, nn_tdiv, nn_tdivl, nn_div, nn_divl, nn_shr, nn_sub1, nn_lel, nn_lle, nn_ltl, nn_llt, nn_eql, nn_leq, nn_eq, nn_neg, nn_pos, h, i64, hea, g, g', g2, g3, Fct.ru, Fct.zero]
          | succ j =>
            simp (config := { maxSteps := 2000000 }) -implicitDefEqProofs [-List.map_set, set_u16, -Int.natCast_add, -Int.natCast_mul, -Int.natCast_emod, -Int.natCast_ediv, -Int.natCast_pow, nn_add, nn_addl, nn_ladd, nn_mul, nn_mull, nn_lmul, nn_mod, nn_modl, nn_tmod, nn_tmodl, nn_tdiv, nn_tdivl, nn_div, nn_divl, nn_shr, nn_sub1, nn_lel, nn_lle, nn_ltl, nn_llt, nn_eql, nn_leq, nn_eq, nn_neg, nn_pos, h, i64, hea, g, g', g2, g3, Fct.ru, Fct.zero]
      · have hok' := hok
        rw [hea] at hok'
        have g : a < to.length := by
          unfold okT at hok'
          simp only [Bool.and_eq_true, decide_eq_true_eq] at hok'
          omega
        have e1 : to.getD a 0 = to[a] := by rw [List.getD_eq_getElem?_getD, List.getElem?_eq_getElem g]; rfl
        have g' : ¬ to.length ≤ a := by omega
        have g2 : ¬ to[a] < 0 ∧ ¬ 40 ≤ to[a] := by
          unfold okT at hok'
          simp only [Bool.and_eq_true, decide_eq_true_eq, Int.toNat_natCast, e1] at hok'
          omega
        have e2 : toAt to l[i] = to[a] := by unfold toAt; rw [hea]; exact e1
        have ha2 : allT to (l.take (i + 1)) = true := by
          unfold allT at ha ⊢
          rw [e, List.all_append, ha]
          simpa using hok
        have e3 : rowT to (l.take (i + 1)) = rowT to (l.take i) ++ [.int .i64 to[a]] := by
          unfold rowT
          rw [e, List.map_append, List.map_append, List.map_singleton, e2]; rfl
        have e4 := rowT_len to (l.take i)
        rw [List.length_take, Nat.min_eq_left (by omega)] at e4
        cases i with
        | zero =>
          have e5 : rowT to (l.take 1) = [.int .i64 to[a]] := e3
          simp (config := { maxSteps := 2000000 }) -implicitDefEqProofs [-List.map_set, set_u16, -Int.natCast_add, -Int.natCast_mul, -Int.natCast_emod, -Int.natCast_ediv, -Int.natCast_pow, nn_add, nn_addl, nn_ladd, nn_mul, nn_mull, nn_lmul, nn_mod, nn_modl, nn_tmod, nn_tmodl, nn_tdiv, nn_tdivl, nn_div, nn_divl, nn_shr, nn_sub1, nn_lel, nn_lle, nn_ltl, nn_llt, nn_eql, nn_leq, nn_eq, nn_neg, nn_pos, h, i64, hea, g, g', g2]
          refine wpDraw_by [[], [0], [], [], [2, 3], [2, 3, 4], [2, 3, 4, 5], [0, 1, 2, 3, 4, 5, 6], [0, 1, 2, 3, 4, 5, 6, 7], [0, 1, 2, 3, 4, 5, 6, 7, 8]] [.any [] [50] [⟨0, [6], [50], [50], []⟩, ⟨0, [44], [50], [50], []⟩, ⟨0, [1], [], [50], []⟩, ⟨0, [8], [], [50], []⟩, ⟨0, [46, 47], [], [50], []⟩, ⟨0, [48], [], [50], []⟩, ⟨1, [49], [], [], []⟩], .one, .one, .one] (by rfl) ?_
          simp (config := { maxSteps := 2000000 }) -implicitDefEqProofs [-List.map_set, set_u16, -Int.natCast_add, -Int.natCast_mul, -Int.natCast_emod, -Int.natCast_ediv, -Int.natCast_pow, nn_add, nn_addl, nn_ladd, nn_mul, nn_mull, nn_lmul, nn_mod, nn_modl, nn_tmod, nn_tmodl, nn_tdiv, nn_tdivl, nn_div, nn_divl, nn_shr, nn_sub1, nn_lel, nn_lle, nn_ltl, nn_llt, nn_eql, nn_leq, nn_eq, nn_neg, nn_pos, h, i64, hea, g, g', g2]
          exact ⟨1, ⟨rfl, by simp [leL, lk, e5]⟩, ⟨by omega, ha2⟩, by omega⟩
        | succ j =>
          simp (config := { maxSteps := 2000000 }) -implicitDefEqProofs [-List.map_set, set_u16, -Int.natCast_add, -Int.natCast_mul, -Int.natCast_emod, -Int.natCast_ediv, -Int.natCast_pow, nn_add, nn_addl, nn_ladd, nn_mul, nn_mull, nn_lmul, nn_mod, nn_modl, nn_tmod, nn_tmodl, nn_tdiv, nn_tdivl, nn_div, nn_divl, nn_shr, nn_sub1, nn_lel, nn_lle, nn_ltl, nn_llt, nn_eql, nn_leq, nn_eq, nn_neg, nn_pos, h, i64, hea, g, g', g2]
          refine wpDraw_by [[], [0], [], [], [2, 3], [2, 3, 4], [2, 3, 4, 5], [0, 1, 2, 3, 4, 5, 6], [0, 1, 2, 3, 4, 5, 6, 7], [0, 1, 2, 3, 4, 5, 6, 7, 8]] [.any [] [50] [⟨0, [6], [50], [50], []⟩, ⟨0, [44], [50], [50], []⟩, ⟨0, [1], [], [50], []⟩, ⟨0, [8], [], [50], []⟩, ⟨0, [46, 47], [], [50], []⟩, ⟨0, [48], [], [50], []⟩, ⟨1, [49], [], [], []⟩], .one, .one, .one] (by rfl) ?_
          simp (config := { maxSteps := 2000000 }) -implicitDefEqProofs [-List.map_set, set_u16, -Int.natCast_add, -Int.natCast_mul, -Int.natCast_emod, -Int.natCast_ediv, -Int.natCast_pow, nn_add, nn_addl, nn_ladd, nn_mul, nn_mull, nn_lmul, nn_mod, nn_modl, nn_tmod, nn_tmodl, nn_tdiv, nn_tdivl, nn_div, nn_divl, nn_shr, nn_sub1, nn_lel, nn_lle, nn_ltl, nn_llt, nn_eql, nn_leq, nn_eq, nn_neg, nn_pos, h, i64, hea, g, g', g2, e4]
          exact ⟨by omega, by omega, j + 2, ⟨rfl, by simp [leL, lk, e3]⟩, ⟨by omega, ha2⟩, by omega⟩
    · have hi2 : i = l.length := by omega
      have e : l.take i = l := by rw [hi2, List.take_length]
      rw [e] at ha
      rw [ha]
      cases i with
      | zero => omega
      | succ j =>
        have e4 := rowT_len to l
        have hln : l.length = j + 1 := hi2.symm
        simp (config := { maxSteps := 2000000 }) -implicitDefEqProofs [-List.map_set, set_u16, -Int.natCast_add, -Int.natCast_mul, -Int.natCast_emod, -Int.natCast_ediv, -Int.natCast_pow, nn_add, nn_addl, nn_ladd, nn_mul, nn_mull, nn_lmul, nn_mod, nn_modl, nn_tmod, nn_tmodl, nn_tdiv, nn_tdivl, nn_div, nn_divl, nn_shr, nn_sub1, nn_lel, nn_lle, nn_ltl, nn_llt, nn_eql, nn_leq, nn_eq, nn_neg, nn_pos, h, e, e4, hln, Fct.ru]
        rw [List.take_of_length_le (by omega)]
        show D.slice (j + 1) (rowT to l) = D.slice (l.map (toAt to)).length ((l.map (toAt to)).map i64)
        rw [List.length_map, hln]
        rfl

end Go.Va

/-
  Contracts: variants of a fact: their steps.
-/
namespace Go.Va
open Go.Proofs
set_option maxHeartbeats 4000000
set_option maxRecDepth 10000
set_option linter.unusedSimpArgs false
set_option linter.unusedVariables false

/-- The exchanges that make a fact's variants; 'r': the ratio is not 0. -/
def exchL (k : Int) (r : Bool) : List (List Int × Bool) :=
  if k = 1 then [([1, 0, 2], false), ([0, 2, 1], false)]
  else if k = 6 then [([1, 0, 2, 3], false), ([0, 2, 1, 3], false), ([0, 1, 3, 2], false)]
  else if k = 8 then [([1, 0], false)]
  else if k = 5 then [([0, 2, 1], false)]
  else if k = 7 then [([1, 0, 2, 3, 4, 5, 6, 7], false), ([0, 1, 4, 5, 2, 3, 6, 7], false), ([6, 7, 2, 3, 4, 5, 0, 1], false), ([2, 3, 0, 1, 6, 7, 4, 5], false)]
  else if k ≠ 9 then [([1, 0, 2, 3], false), ([0, 1, 3, 2], false), ([2, 3, 0, 1], false)]
  else if r then [([1, 0, 2, 3], false), ([0, 1, 3, 2], false), ([2, 3, 0, 1], true)]
  else [([1, 0, 2, 3], false), ([0, 1, 3, 2], false)]
def exD (x : List Int × Bool) : List D := [intsD x.1, .bool x.2]
theorem exD_len (x : List Int × Bool) : (exD x).length = 2 := rfl
def exsD (l : List (List Int × Bool)) : D := .slice l.length (l.flatMap exD)

theorem exchanges_c (f : Fct) (h : f.Rt) : CallsF Tryz.prog 53 [.agg f.ds] (.u (.c (.d (exsD (exchL f.kind (decide (val f.abs ≠ 0))))))) := by
  have h4 := h.parts.2.2.2
  obtain ⟨la, ld, oa, od, ln⟩ := h.mild
  have k1 : f.kind = 9 → CallsF Tryz.prog 82 [.agg [.bool f.neg, natD f.abs, natD f.den]] (.u (.c (.d (.int .i64 (sgnI f.neg (val f.abs)))))) := fun h9 => by
    rw [if_pos h9] at h4
    exact ratSign_c f.neg f.abs f.den oa (by omega) od (by omega) (ratOk_spec h4 oa od).2.2.1
  obtain ⟨k, l, n, m, d⟩ := f
  simp only [Fct.ds] at *
  clear h h4 la ld oa od ln
  unfold exchL
  refine callsF_of (T := tb) tab_ok mixed Tryz.func53 rfl (by decide) (Nat.le_of_ble_eq_true rfl) rfl ?_; unfold St.init
  by_cases i1 : k = 1
  · subst i1
    simp (config := { maxSteps := 2000000 }) -implicitDefEqProofs [-List.map_set, set_u16, -Int.natCast_add, -Int.natCast_mul, -Int.natCast_emod, -Int.natCast_ediv, -Int.natCast_pow, nn_add, nn_addl, nn_ladd, nn_mul, nn_mull, nn_lmul, nn_mod, nn_modl, nn_tmod, nn_tmodl, nn_tdiv, nn_tdivl, nn_div, nn_divl, nn_shr, nn_sub1, nn_lel, nn_lle, nn_ltl, nn_llt, nn_eql, nn_leq, nn_eq, nn_neg, nn_pos]
    rfl
  by_cases i2 : k = 6
  · subst i2
    simp (config := { maxSteps := 2000000 }) -implicitDefEqProofs [-List.map_set, set_u16, -Int.natCast_add, -Int.natCast_mul, -Int.natCast_emod, -Int.natCast_ediv, -Int.natCast_pow, nn_add, nn_addl, nn_ladd, nn_mul, nn_mull, nn_lmul, nn_mod, nn_modl, nn_tmod, nn_tmodl, nn_tdiv, nn_tdivl, nn_div, nn_divl, nn_shr, nn_sub1, nn_lel, nn_lle, nn_ltl, nn_llt, nn_eql, nn_leq, nn_eq, nn_neg, nn_pos]
    rfl
  by_cases i3 : k = 8
  · subst i3
    simp (config := { maxSteps := 2000000 }) -implicitDefEqProofs [-List.map_set, set_u16, -Int.natCast_add, -Int.natCast_mul, -Int.natCast_emod, -Int.natCast_ediv, -Int.natCast_pow, nn_add, nn_addl, nn_ladd, nn_mul, nn_mull, nn_lmul, nn_mod, nn_modl, nn_tmod, nn_tmodl, nn_tdiv, nn_tdivl, nn_div, nn_divl, nn_shr, nn_sub1, nn_lel, nn_lle, nn_ltl, nn_llt, nn_eql, nn_leq, nn_eq, nn_neg, nn_pos]
    rfl
  by_cases i4 : k = 5
  · subst i4
    simp (config := { maxSteps := 2000000 }) -implicitDefEqProofs [-List.map_set, set_u16, -Int.natCast_add, -Int.natCast_mul, -Int.natCast_emod, -Int.natCast_ediv, -Int.natCast_pow, nn_add, nn_addl, nn_ladd, nn_mul, nn_mull, nn_lmul, nn_mod, nn_modl, nn_tmod, nn_tmodl, nn_tdiv, nn_tdivl, nn_div, nn_divl, nn_shr, nn_sub1, nn_lel, nn_lle, nn_ltl, nn_llt, nn_eql, nn_leq, nn_eq, nn_neg, nn_pos]
    rfl
  by_cases i5 : k = 7
  · subst i5
    simp (config := { maxSteps := 2000000 }) -implicitDefEqProofs [-List.map_set, set_u16, -Int.natCast_add, -Int.natCast_mul, -Int.natCast_emod, -Int.natCast_ediv, -Int.natCast_pow, nn_add, nn_addl, nn_ladd, nn_mul, nn_mull, nn_lmul, nn_mod, nn_modl, nn_tmod, nn_tmodl, nn_tdiv, nn_tdivl, nn_div, nn_divl, nn_shr, nn_sub1, nn_lel, nn_lle, nn_ltl, nn_llt, nn_eql, nn_leq, nn_eq, nn_neg, nn_pos]
    rfl
  by_cases i6 : k = 9
  · subst i6
    have k1 := k1 rfl
    simp (config := { maxSteps := 2000000 }) -implicitDefEqProofs [-List.map_set, set_u16, -Int.natCast_add, -Int.natCast_mul, -Int.natCast_emod, -Int.natCast_ediv, -Int.natCast_pow, nn_add, nn_addl, nn_ladd, nn_mul, nn_mull, nn_lmul, nn_mod, nn_modl, nn_tmod, nn_tmodl, nn_tdiv, nn_tdivl, nn_div, nn_divl, nn_shr, nn_sub1, nn_lel, nn_lle, nn_ltl, nn_llt, nn_eql, nn_leq, nn_eq, nn_neg, nn_pos]
    (first | refine .inl ⟨_, k1, ?_⟩ | refine ⟨_, k1, ?_⟩)
    by_cases j : val m = 0
    · simp (config := { maxSteps := 2000000 }) -implicitDefEqProofs [-List.map_set, set_u16, -Int.natCast_add, -Int.natCast_mul, -Int.natCast_emod, -Int.natCast_ediv, -Int.natCast_pow, nn_add, nn_addl, nn_ladd, nn_mul, nn_mull, nn_lmul, nn_mod, nn_modl, nn_tmod, nn_tmodl, nn_tdiv, nn_tdivl, nn_div, nn_divl, nn_shr, nn_sub1, nn_lel, nn_lle, nn_ltl, nn_llt, nn_eql, nn_leq, nn_eq, nn_neg, nn_pos, sgnI_zero, j]
      rfl
    · simp (config := { maxSteps := 2000000 }) -implicitDefEqProofs [-List.map_set, set_u16, -Int.natCast_add, -Int.natCast_mul, -Int.natCast_emod, -Int.natCast_ediv, -Int.natCast_pow, nn_add, nn_addl, nn_ladd, nn_mul, nn_mull, nn_lmul, nn_mod, nn_modl, nn_tmod, nn_tmodl, nn_tdiv, nn_tdivl, nn_div, nn_divl, nn_shr, nn_sub1, nn_lel, nn_lle, nn_ltl, nn_llt, nn_eql, nn_leq, nn_eq, nn_neg, nn_pos, sgnI_zero, j]
      rfl
  · simp (config := { maxSteps := 2000000 }) -implicitDefEqProofs [-List.map_set, set_u16, -Int.natCast_add, -Int.natCast_mul, -Int.natCast_emod, -Int.natCast_ediv, -Int.natCast_pow, nn_add, nn_addl, nn_ladd, nn_mul, nn_mull, nn_lmul, nn_mod, nn_modl, nn_tmod, nn_tmodl, nn_tdiv, nn_tdivl, nn_div, nn_divl, nn_shr, nn_sub1, nn_lel, nn_lle, nn_ltl, nn_llt, nn_eql, nn_leq, nn_eq, nn_neg, nn_pos, i1, i2, i3, i4, i5, i6]
    rfl

/-- A fact behind an exchange. -/
def appF (f : Fct) (x : List Int × Bool) : Fct := ⟨f.kind, x.1.map (toAt f.args), f.neg, if x.2 then f.den else f.abs, if x.2 then f.abs else f.den⟩

theorem applied_c (f : Fct) (x : List Int × Bool) (hf : f.args.length ≤ 1099511627776) (hx : x.1.length ≤ 1099511627776) (h0 : x.1 ≠ []) (hr : ∀ i ∈ x.1, 0 ≤ i ∧ i < f.args.length)
    (ht : x.2 = true → ∃ m e, f.abs = limbs m ∧ f.den = limbs e ∧ m ≠ 0 ∧ e ≠ 0 ∧ m < 4294967296 ∧ e < 4294967296 ∧ Nat.gcd m e = 1) :
    CallsF Tryz.prog 54 [.agg f.ds, .agg (exD x)] (appF f x).res := by
  have hpos : 0 < x.1.length := List.length_pos_iff.2 h0
  obtain ⟨k, l, n, m, d⟩ := f
  obtain ⟨o, b⟩ := x
  simp only [Fct.ds, exD, appF] at *
  clear h0
  refine callsF_of (T := tb) tab_ok mixed Tryz.func54 rfl (by decide) (Nat.le_of_ble_eq_true rfl) rfl ?_; unfold St.init
  simp (config := { maxSteps := 2000000 }) -implicitDefEqProofs [-List.map_set, set_u16, -Int.natCast_add, -Int.natCast_mul, -Int.natCast_emod, -Int.natCast_ediv, -Int.natCast_pow, nn_add, nn_addl, nn_ladd, nn_mul, nn_mull, nn_lmul, nn_mod, nn_modl, nn_tmod, nn_tmodl, nn_tdiv, nn_tdivl, nn_div, nn_divl, nn_shr, nn_sub1, nn_lel, nn_lle, nn_ltl, nn_llt, nn_eql, nn_leq, nn_eq, nn_neg, nn_pos]
  refine wpLoop_of (fun i : Nat => ⟨[(16, vI .i64 i), (15, vI .i64 o.length), (14, vC (.d (intsD o))), (5, vC (.ptr 5 0)), (4, vC (.ptr 4 0)), (3, vC (.ptr 3 0)), (2, vC (.ptr 2 0))], match i with
    | 0 => [(5, .box [.d (.int .i64 k), .nl, .d (.bool n), .d (natD m), .d (natD d)]), (4, .box [.d (.int .i64 0), .nl, .d (.bool false), .nl, .nl]), (3, .box [.d (intsD o), .d (.bool b)]), (2, .box [.d (.int .i64 k), .d (intsD l), .d (.bool n), .d (natD m), .d (natD d)])]
    | j + 1 => [(5, .box [.d (.int .i64 k), .sl 28 0 (j + 1), .d (.bool n), .d (natD m), .d (natD d)]), (4, .box [.d (.int .i64 0), .nl, .d (.bool false), .nl, .nl]), (3, .box [.d (intsD o), .d (.bool b)]), (2, .box [.d (.int .i64 k), .d (intsD l), .d (.bool n), .d (natD m), .d (natD d)]), (28, .row 1 (rowT l (o.take (j + 1))) true)]⟩)
    (fun i => i ≤ o.length) (fun i => o.length - i) 0 (by simp) (by simp) ?_
  rintro i hi
  by_cases h : i < o.length
  · obtain ⟨a, hea⟩ := Int.eq_ofNat_of_zero_le (hr o[i] (List.getElem_mem h)).1
    have e := List.take_succ_eq_append_getElem h
    have g : a < l.length := by
      have := (hr o[i] (List.getElem_mem h)).2
      omega
    have e1 : l.getD a 0 = l[a] := by rw [List.getD_eq_getElem?_getD, List.getElem?_eq_getElem g]; rfl
    have e2 : toAt l o[i] = l[a] := by unfold toAt; rw [hea]; exact e1
    have e3 : rowT l (o.take (i + 1)) = rowT l (o.take i) ++ [.int .i64 l[a]] := by
      unfold rowT
      rw [e, List.map_append, List.map_append, List.map_singleton, e2]; rfl
    have e4 := rowT_len l (o.take i)
    rw [List.length_take, Nat.min_eq_left (by omega)] at e4
    cases i with
    | zero =>
      have e5 : rowT l (o.take 1) = [.int .i64 l[a]] := e3
      simp (config := { maxSteps := 2000000 }) -implicitDefEqProofs [-List.map_set, set_u16, -Int.natCast_add, -Int.natCast_mul, -Int.natCast_emod, -Int.natCast_ediv, -Int.natCast_pow, nn_add, nn_addl, nn_ladd, nn_mul, nn_mull, nn_lmul, nn_mod, nn_modl, nn_tmod, nn_tmodl, nn_tdiv, nn_tdivl, nn_div, nn_divl, nn_shr, nn_sub1, nn_lel, nn_lle, nn_ltl, nn_llt, nn_eql, nn_leq, nn_eq, nn_neg, nn_pos, h, i64, hea, g]
      refine wpDraw_by [[], [0], [], [2], [], [2, 3, 4], [2, 3, 4, 5], [2, 3, 4, 5, 6], [0, 1, 2, 3, 4, 5, 6, 7], [0, 1, 2, 3, 4, 5, 6, 7, 8], [0, 1, 2, 3, 4, 5, 6, 7, 8, 9]] [.any [] [27] [⟨0, [5], [27], [27], []⟩, ⟨0, [20], [27], [27], []⟩, ⟨0, [2], [], [27], []⟩, ⟨0, [22], [], [27], []⟩, ⟨0, [7], [], [27], []⟩, ⟨0, [23, 24], [], [27], []⟩, ⟨0, [25], [], [27], []⟩, ⟨1, [26], [], [], []⟩], .one, .one, .one] (by rfl) ?_
      simp (config := { maxSteps := 2000000 }) -implicitDefEqProofs [-List.map_set, set_u16, -Int.natCast_add, -Int.natCast_mul, -Int.natCast_emod, -Int.natCast_ediv, -Int.natCast_pow, nn_add, nn_addl, nn_ladd, nn_mul, nn_mull, nn_lmul, nn_mod, nn_modl, nn_tmod, nn_tmodl, nn_tdiv, nn_tdivl, nn_div, nn_divl, nn_shr, nn_sub1, nn_lel, nn_lle, nn_ltl, nn_llt, nn_eql, nn_leq, nn_eq, nn_neg, nn_pos, h, i64, hea, g]
      exact ⟨1, ⟨rfl, by simp [leL, lk, e5]⟩, by omega, by omega⟩
    | succ j =>
      simp (config := { maxSteps := 2000000 }) -implicitDefEqProofs [-List.map_set, set_u16, -Int.natCast_add, -Int.natCast_mul, -Int.natCast_emod, -Int.natCast_ediv, -Int.natCast_pow, nn_add, nn_addl, nn_ladd, nn_mul, nn_mull, nn_lmul, nn_mod, nn_modl, nn_tmod, nn_tmodl, nn_tdiv, nn_tdivl, nn_div, nn_divl, nn_shr, nn_sub1, nn_lel, nn_lle, nn_ltl, nn_llt, nn_eql, nn_leq, nn_eq, nn_neg, nn_pos, h, i64, hea, g]
      refine wpDraw_by [[], [0], [], [2], [], [2, 3, 4], [2, 3, 4, 5], [2, 3, 4, 5, 6], [0, 1, 2, 3, 4, 5, 6, 7], [0, 1, 2, 3, 4, 5, 6, 7, 8], [0, 1, 2, 3, 4, 5, 6, 7, 8, 9]] [.any [] [27] [⟨0, [5], [27], [27], []⟩, ⟨0, [20], [27], [27], []⟩, ⟨0, [2], [], [27], []⟩, ⟨0, [22], [], [27], []⟩, ⟨0, [7], [], [27], []⟩, ⟨0, [23, 24], [], [27], []⟩, ⟨0, [25], [], [27], []⟩, ⟨1, [26], [], [], []⟩], .one, .one, .one] (by rfl) ?_
      simp (config := { maxSteps := 2000000 }) -implicitDefEqProofs [-List.map_set, set_u16, -Int.natCast_add, -Int.natCast_mul, -Int.natCast_emod, -Int.natCast_ediv, -Int.natCast_pow, nn_add, nn_addl, nn_ladd, nn_mul, nn_mull, nn_lmul, nn_mod, nn_modl, nn_tmod, nn_tmodl, nn_tdiv, nn_tdivl, nn_div, nn_divl, nn_shr, nn_sub1, nn_lel, nn_lle, nn_ltl, nn_llt, nn_eql, nn_leq, nn_eq, nn_neg, nn_pos, h, i64, hea, g, e4]
      exact ⟨by omega, by omega, j + 2, ⟨rfl, by simp [leL, lk, e3]⟩, by omega, by omega⟩
  · have hi2 : i = o.length := by omega
    have e : o.take i = o := by rw [hi2, List.take_length]
    have e4 := rowT_len l o
    have key : D.slice o.length (rowT l o) = intsD (o.map (toAt l)) := by
      show D.slice o.length (rowT l o) = D.slice (o.map (toAt l)).length ((o.map (toAt l)).map i64)
      rw [List.length_map]
      rfl
    cases i with
    | zero => omega
    | succ j =>
      have hln : o.length = j + 1 := hi2.symm
      rw [hln] at key
      have e6 : (rowT l o).take (j + 1) = rowT l o := List.take_of_length_le (by omega)
      cases b with
      | false =>
        simp (config := { maxSteps := 2000000 }) -implicitDefEqProofs [-List.map_set, set_u16, -Int.natCast_add, -Int.natCast_mul, -Int.natCast_emod, -Int.natCast_ediv, -Int.natCast_pow, nn_add, nn_addl, nn_ladd, nn_mul, nn_mull, nn_lmul, nn_mod, nn_modl, nn_tmod, nn_tmodl, nn_tdiv, nn_tdivl, nn_div, nn_divl, nn_shr, nn_sub1, nn_lel, nn_lle, nn_ltl, nn_llt, nn_eql, nn_leq, nn_eq, nn_neg, nn_pos, h, e, e4, hln, Fct.res, e6, key]
      | true =>
        obtain ⟨M, E, rfl, rfl, m0, e0, hm, he, hg⟩ := ht rfl
        have k4 := ratOf_c 1 (by omega)
        have k5 := ratDiv_c n M E (by omega) (by omega) e0 hg
        rw [if_neg m0] at k5
        simp (config := { maxSteps := 2000000 }) -implicitDefEqProofs [-List.map_set, set_u16, -Int.natCast_add, -Int.natCast_mul, -Int.natCast_emod, -Int.natCast_ediv, -Int.natCast_pow, nn_add, nn_addl, nn_ladd, nn_mul, nn_mull, nn_lmul, nn_mod, nn_modl, nn_tmod, nn_tmodl, nn_tdiv, nn_tdivl, nn_div, nn_divl, nn_shr, nn_sub1, nn_lel, nn_lle, nn_ltl, nn_llt, nn_eql, nn_leq, nn_eq, nn_neg, nn_pos, h, e, e4, hln]
        refine wpDraw_by [[], [], [1], [0, 1, 2], [0, 1, 2, 3], [0, 1, 2, 3, 4], [0, 1, 2, 3, 4], [0, 1, 2, 3, 4, 5], [0, 1, 2, 3, 4, 5, 7]] [.any [] [] [⟨0, [], [], [], []⟩, ⟨0, [2], [], [], []⟩, ⟨0, [35], [], [], []⟩], .one, .one, .any [] [] [⟨0, [33], [], [], []⟩, ⟨0, [33], [5], [], []⟩, ⟨0, [5], [], [], []⟩, ⟨2, [38, 40], [], [], [5]⟩]] (by rfl) ?_
        simp (config := { maxSteps := 2000000 }) -implicitDefEqProofs [-List.map_set, set_u16, -Int.natCast_add, -Int.natCast_mul, -Int.natCast_emod, -Int.natCast_ediv, -Int.natCast_pow, nn_add, nn_addl, nn_ladd, nn_mul, nn_mull, nn_lmul, nn_mod, nn_modl, nn_tmod, nn_tmodl, nn_tdiv, nn_tdivl, nn_div, nn_divl, nn_shr, nn_sub1, nn_lel, nn_lle, nn_ltl, nn_llt, nn_eql, nn_leq, nn_eq, nn_neg, nn_pos]
        (first | refine .inl ⟨_, k4, ?_⟩ | refine ⟨_, k4, ?_⟩)
        simp (config := { maxSteps := 2000000 }) -implicitDefEqProofs [-List.map_set, set_u16, -Int.natCast_add, -Int.natCast_mul, -Int.natCast_emod, -Int.natCast_ediv, -Int.natCast_pow, nn_add, nn_addl, nn_ladd, nn_mul, nn_mull, nn_lmul, nn_mod, nn_modl, nn_tmod, nn_tmodl, nn_tdiv, nn_tdivl, nn_div, nn_divl, nn_shr, nn_sub1, nn_lel, nn_lle, nn_ltl, nn_llt, nn_eql, nn_leq, nn_eq, nn_neg, nn_pos]
        (first | refine .inl ⟨_, k5, ?_⟩ | refine ⟨_, k5, ?_⟩)
        simp (config := { maxSteps := 2000000 }) -implicitDefEqProofs [-List.map_set, set_u16, -Int.natCast_add, -Int.natCast_mul, -Int.natCast_emod, -Int.natCast_ediv, -Int.natCast_pow, nn_add, nn_addl, nn_ladd, nn_mul, nn_mull, nn_lmul, nn_mod, nn_modl, nn_tmod, nn_tmodl, nn_tdiv, nn_tdivl, nn_div, nn_divl, nn_shr, nn_sub1, nn_lel, nn_lle, nn_ltl, nn_llt, nn_eql, nn_leq, nn_eq, nn_neg, nn_pos, h, e, e4, hln, Fct.res, e6, key]

end Go.Va

/-
  Contracts: variants of a fact.
-/
namespace Go.Va
open Go.Proofs
set_option maxHeartbeats 4000000
set_option maxRecDepth 10000
set_option linter.unusedSimpArgs false
set_option linter.unusedVariables false

/-- Is a fact there that is not parted from 'g'? -/
def anyF (g : Fct) (l : List Fct) : Bool := l.any fun a => decide (cmpF g a = 0)
/-- The index of the first fact that is not parted from 'g', or -1. -/
def idxF (g : Fct) : List Fct → Nat → Int
  | [], _ => -1
  | a :: l, i => if cmpF g a = 0 then i else idxF g l (i + 1)
theorem idxF_any (g : Fct) : ∀ (l : List Fct) (i : Nat), 0 ≤ idxF g l i ↔ anyF g l = true
  | [], i => by simp [idxF, anyF]
  | a :: l, i => by
    unfold idxF
    by_cases h : cmpF g a = 0
    · rw [if_pos h]; simp [h, anyF]
    · rw [if_neg h, idxF_any g l (i + 1)]; simp [h, anyF]
theorem idxF_drop {g : Fct} {l : List Fct} {i : Nat} (h : i < l.length) : idxF g (l.drop i) i = if cmpF g l[i] = 0 then (i : Int) else idxF g (l.drop (i + 1)) (i + 1) := by
  rw [List.drop_eq_getElem_cons h]
  rfl

theorem clos_c (g f : Fct) (hg : g.Rt) (hf : f.Rt) : CallsF Tryz.prog 56 [.agg f.ds, .c (.ref g.ds)] (.u (.c (.d (.bool (decide (cmpF g f = 0)))))) := by
  have k1 := cmp_c g f hg.mild hf.mild hg.num hf.num
  clear hg hf
  simp only [Fct.ds] at *
  refine callsF_of (T := tb) tab_ok mixed Tryz.func56 rfl (by decide) (Nat.le_of_ble_eq_true rfl) rfl ?_; unfold St.init
  simp (config := { maxSteps := 2000000 }) -implicitDefEqProofs [-List.map_set, set_u16, -Int.natCast_add, -Int.natCast_mul, -Int.natCast_emod, -Int.natCast_ediv, -Int.natCast_pow, nn_add, nn_addl, nn_ladd, nn_mul, nn_mull, nn_lmul, nn_mod, nn_modl, nn_tmod, nn_tmodl, nn_tdiv, nn_tdivl, nn_div, nn_divl, nn_shr, nn_sub1, nn_lel, nn_lle, nn_ltl, nn_llt, nn_eql, nn_leq, nn_eq, nn_neg, nn_pos]
  (first | refine .inl ⟨_, k1, ?_⟩ | refine ⟨_, k1, ?_⟩)
  simp (config := { maxSteps := 2000000 }) -implicitDefEqProofs [-List.map_set, set_u16, -Int.natCast_add, -Int.natCast_mul, -Int.natCast_emod, -Int.natCast_ediv, -Int.natCast_pow, nn_add, nn_addl, nn_ladd, nn_mul, nn_mull, nn_lmul, nn_mod, nn_modl, nn_tmod, nn_tmodl, nn_tdiv, nn_tdivl, nn_div, nn_divl, nn_shr, nn_sub1, nn_lel, nn_lle, nn_ltl, nn_llt, nn_eql, nn_leq, nn_eq, nn_neg, nn_pos]

theorem indexFunc_c (g : Fct) (l : List Fct) (hg : g.Rt) (hl : ∀ f ∈ l, f.Rt) (hn : l.length ≤ 1099511627776) : CallsF Tryz.prog 101 [.c (fctsD l), .c (.fn 56 [.ref g.ds])] (.u (.c (.d (.int .i64 (idxF g l 0))))) := by
  have k := fun f hf => clos_c g f hg (hl f hf)
  clear hg hl
  generalize hr : D.ref g.ds = rg at *
  clear hr
  refine callsF_of (T := tb) tab_ok mixed Tryz.func101 rfl (by decide) (Nat.le_of_ble_eq_true rfl) rfl ?_; unfold St.init
  simp (config := { maxSteps := 2000000 }) -implicitDefEqProofs [-List.map_set, set_u16, -Int.natCast_add, -Int.natCast_mul, -Int.natCast_emod, -Int.natCast_ediv, -Int.natCast_pow, nn_add, nn_addl, nn_ladd, nn_mul, nn_mull, nn_lmul, nn_mod, nn_modl, nn_tmod, nn_tmodl, nn_tdiv, nn_tdivl, nn_div, nn_divl, nn_shr, nn_sub1, nn_lel, nn_lle, nn_ltl, nn_llt, nn_eql, nn_leq, nn_eq, nn_neg, nn_pos]
  refine wpLoop_of (fun i : Nat => ⟨[(8, vI .i64 i), (7, vI .i64 l.length), (0, vC (.d (fctsD l))), (1, vC (.d (.fn 56 [rg])))], []⟩) (fun i => i ≤ l.length ∧ idxF g (l.drop i) i = idxF g l 0) (fun i => l.length - i) 0 (by simp) ⟨by omega, rfl⟩ ?_
  rintro i ⟨h1, h2⟩
  by_cases h : i < l.length
  · have e := idxF_drop (g := g) h
    have k := k l[i] (List.getElem_mem h)
    have e2 := fct_drop h
    simp only [Fct.ds] at k
    by_cases h0 : cmpF g l[i] = 0
    · rw [if_pos h0] at e
      simp (config := { maxSteps := 2000000 }) -implicitDefEqProofs [-List.map_set, set_u16, -Int.natCast_add, -Int.natCast_mul, -Int.natCast_emod, -Int.natCast_ediv, -Int.natCast_pow, nn_add, nn_addl, nn_ladd, nn_mul, nn_mull, nn_lmul, nn_mod, nn_modl, nn_tmod, nn_tmodl, nn_tdiv, nn_tdivl, nn_div, nn_divl, nn_shr, nn_sub1, nn_lel, nn_lle, nn_ltl, nn_llt, nn_eql, nn_leq, nn_eq, nn_neg, nn_pos, h, e2]
      (first | refine .inl ⟨_, k, ?_⟩ | refine ⟨_, k, ?_⟩)
      simp (config := { maxSteps := 2000000 }) -implicitDefEqProofs [-List.map_set, set_u16, -Int.natCast_add, -Int.natCast_mul, -Int.natCast_emod, -Int.natCast_ediv, -Int.natCast_pow, nn_add, nn_addl, nn_ladd, nn_mul, nn_mull, nn_lmul, nn_mod, nn_modl, nn_tmod, nn_tmodl, nn_tdiv, nn_tdivl, nn_div, nn_divl, nn_shr, nn_sub1, nn_lel, nn_lle, nn_ltl, nn_llt, nn_eql, nn_leq, nn_eq, nn_neg, nn_pos, h0]
      rw [← h2, e]
    · rw [if_neg h0] at e
      simp (config := { maxSteps := 2000000 }) -implicitDefEqProofs [-List.map_set, set_u16, -Int.natCast_add, -Int.natCast_mul, -Int.natCast_emod, -Int.natCast_ediv, -Int.natCast_pow, nn_add, nn_addl, nn_ladd, nn_mul, nn_mull, nn_lmul, nn_mod, nn_modl, nn_tmod, nn_tmodl, nn_tdiv, nn_tdivl, nn_div, nn_divl, nn_shr, nn_sub1, nn_lel, nn_lle, nn_ltl, nn_llt, nn_eql, nn_leq, nn_eq, nn_neg, nn_pos, h, e2]
      (first | refine .inl ⟨_, k, ?_⟩ | refine ⟨_, k, ?_⟩)
      simp (config := { maxSteps := 2000000 }) -implicitDefEqProofs [-List.map_set, set_u16, -Int.natCast_add, -Int.natCast_mul, -Int.natCast_emod, -Int.natCast_ediv, -Int.natCast_pow, nn_add, nn_addl, nn_ladd, nn_mul, nn_mull, nn_lmul, nn_mod, nn_modl, nn_tmod, nn_tmodl, nn_tdiv, nn_tdivl, nn_div, nn_divl, nn_shr, nn_sub1, nn_lel, nn_lle, nn_ltl, nn_llt, nn_eql, nn_leq, nn_eq, nn_neg, nn_pos, h0]
      exact ⟨by omega, ⟨by omega, by rw [← e, h2]⟩, by omega⟩
  · have : i = l.length := by omega
    subst this
    rw [List.drop_length] at h2
    simp (config := { maxSteps := 2000000 }) -implicitDefEqProofs [-List.map_set, set_u16, -Int.natCast_add, -Int.natCast_mul, -Int.natCast_emod, -Int.natCast_ediv, -Int.natCast_pow, nn_add, nn_addl, nn_ladd, nn_mul, nn_mull, nn_lmul, nn_mod, nn_modl, nn_tmod, nn_tmodl, nn_tdiv, nn_tdivl, nn_div, nn_divl, nn_shr, nn_sub1, nn_lel, nn_lle, nn_ltl, nn_llt, nn_eql, nn_leq, nn_eq, nn_neg, nn_pos]
    exact h2

theorem containsFunc_c (g : Fct) (l : List Fct) (hg : g.Rt) (hl : ∀ f ∈ l, f.Rt) (hn : l.length ≤ 1099511627776) : CallsF Tryz.prog 55 [.c (fctsD l), .c (.fn 56 [.ref g.ds])] (.u (.c (.d (.bool (anyF g l))))) := by
  have k := indexFunc_c g l hg hl hn
  have e := idxF_any g l 0
  clear hg hl
  generalize hr : D.ref g.ds = rg at *
  clear hr
  refine callsF_of (T := tb) tab_ok mixed Tryz.func55 rfl (by decide) (Nat.le_of_ble_eq_true rfl) rfl ?_; unfold St.init
  simp (config := { maxSteps := 2000000 }) -implicitDefEqProofs [-List.map_set, set_u16, -Int.natCast_add, -Int.natCast_mul, -Int.natCast_emod, -Int.natCast_ediv, -Int.natCast_pow, nn_add, nn_addl, nn_ladd, nn_mul, nn_mull, nn_lmul, nn_mod, nn_modl, nn_tmod, nn_tmodl, nn_tdiv, nn_tdivl, nn_div, nn_divl, nn_shr, nn_sub1, nn_lel, nn_lle, nn_ltl, nn_llt, nn_eql, nn_leq, nn_eq, nn_neg, nn_pos]
  (first | refine .inl ⟨_, k, ?_⟩ | refine ⟨_, k, ?_⟩)
  simp (config := { maxSteps := 2000000 }) -implicitDefEqProofs [-List.map_set, set_u16, -Int.natCast_add, -Int.natCast_mul, -Int.natCast_emod, -Int.natCast_ediv, -Int.natCast_pow, nn_add, nn_addl, nn_ladd, nn_mul, nn_mull, nn_lmul, nn_mod, nn_modl, nn_tmod, nn_tmodl, nn_tdiv, nn_tdivl, nn_div, nn_divl, nn_shr, nn_sub1, nn_lel, nn_lle, nn_ltl, nn_llt, nn_eql, nn_leq, nn_eq, nn_neg, nn_pos, e]

theorem anyF_iff {g : Fct} {l : List Fct} (hg : g.Rt) (hl : ∀ f ∈ l, f.Rt) : anyF g l = true ↔ g ∈ l := by
  unfold anyF
  rw [List.any_eq_true]
  constructor
  · rintro ⟨a, ha, h⟩
    have := (cmpF_zero hg (hl a ha)).1 (by simpa using h)
    exact this ▸ ha
  · intro h
    exact ⟨g, h, by simpa using (cmpF_zero hg hg).2 rfl⟩

@[simp] theorem lenC_exs (l : List (List Int × Bool)) : lenC (.d (exsD l)) = some l.length := rfl
@[simp] theorem flat_exs (l : List (List Int × Bool)) : D.flat (exsD l) = false := rfl
theorem exs_len (l : List (List Int × Bool)) : (l.flatMap exD).length = l.length * 2 := fm_length exD_len l
@[simp] theorem idxSl_exs (h : List (Nat × Blk)) (i : Int) (l : List (List Int × Bool)) : idxSl h 2 i (.d (exsD l)) = if 0 ≤ i ∧ i < l.length then some (.d (.ref ((l.drop i.toNat).flatMap exD))) else none := by
  unfold exsD idxSl
  simp only [exs_len, and_true, fm_drop exD_len]
theorem ex_drop {l : List (List Int × Bool)} {i : Nat} (h : i < l.length) : (l.drop i).flatMap exD = intsD l[i].1 :: .bool l[i].2 :: (l.drop (i + 1)).flatMap exD := by
  rw [List.drop_eq_getElem_cons h]; rfl
@[simp] theorem fct_take (l : List Fct) : (l.flatMap Fct.ds).take (l.length * 5) = l.flatMap Fct.ds := List.take_of_length_le (by rw [fct_len]; omega)
@[simp] theorem fcts_fold (l : List Fct) : D.slice l.length (l.flatMap Fct.ds) = fctsD l := rfl

theorem fct_atC (l : List Fct) (i : Nat) (h : i < l.length) : List.take 5 (List.drop (i * 5) (List.map C.d (l.flatMap Fct.ds))) = l[i].ds.map C.d := by
  rw [← List.map_drop, ← List.map_take, fct_at l i h]

/-- What is asked of the list of a fact's variants. -/
structure VarOk (f : Fct) (xs : List (List Int × Bool)) (E : List Fct) : Prop where
  self : f ∈ E
  rt : ∀ e ∈ E, e.Rt
  nodup : E.Nodup
  sorted : E.Pairwise (fun a b => cmpF a b ≤ 0)
  step : ∀ e ∈ E, ∀ x ∈ xs, appF e x ∈ E
  can : ∀ e ∈ E, ∀ x ∈ xs, CallsF Tryz.prog 54 [.agg e.ds, .agg (exD x)] (appF e x).res
  reach : ∀ S : Fct → Prop, S f → (∀ e, S e → ∀ x ∈ xs, S (appF e x)) → ∀ e ∈ E, S e
  small : E.length ≤ 1000

/-- These exchanges of a fact are there. -/
def Done (ys : List (List Int × Bool)) (e : Fct) (m : List Fct) : Prop := ∀ y ∈ ys, appF e y ∈ m

theorem nodup_le {α : Type} [DecidableEq α] : ∀ {l m : List α}, l.Nodup → (∀ x ∈ l, x ∈ m) → l.length ≤ m.length
  | [], m, _, _ => Nat.zero_le _
  | a :: l, m, hn, hs => by
    rw [List.nodup_cons] at hn
    have h1 := hs a (by simp)
    have := nodup_le (l := l) (m := m.erase a) hn.2 (fun x hx => (List.mem_erase_of_ne (fun e => hn.1 (by rw [← e]; exact hx))).2 (hs x (by simp [hx])))
    rw [List.length_erase_of_mem h1] at this
    have hp : 0 < m.length := List.length_pos_iff.2 (List.ne_nil_of_mem h1)
    simp only [List.length_cons]
    omega

theorem variants_c (f : Fct) (h : f.Rt) (E : List Fct) (hE : VarOk f (exchL f.kind (decide (val f.abs ≠ 0))) E) : CallsF Tryz.prog 22 [.agg f.ds] (.u (.c (.d (fctsD E)))) := by
  have k1 := right_c f h.mild
  have k2 := exchanges_c f h
  have k3 : f.args ≠ [] := fun h0 => by
    have := h.parts
    rw [h0] at this
    exact this.1 this.2.1.symm
  have k3 := clone_c f.args h.mild.ln k3
  rw [h.ok] at k1
  have e0 : [f].flatMap Fct.ds = f.ds := by simp [List.flatMap]
  generalize hxs : exchL f.kind (decide (val f.abs ≠ 0)) = xs at *
  have hxl : xs.length ≤ 8 := by
    rw [← hxs]; unfold exchL
    repeat' split
    all_goals simp
  have hln := h.mild.ln
  clear hxs
  -- the fact's own cells
  generalize hfd : f.kind = K at *
  refine callsF_of (T := tb) tab_ok mixed Tryz.func22 rfl (by decide) (Nat.le_of_ble_eq_true rfl) rfl ?_; unfold St.init
  simp only [Fct.ds, hfd] at k1 k2 e0 ⊢
  simp (config := { maxSteps := 2000000 }) -implicitDefEqProofs [-List.map_set, set_u16, -Int.natCast_add, -Int.natCast_mul, -Int.natCast_emod, -Int.natCast_ediv, -Int.natCast_pow, nn_add, nn_addl, nn_ladd, nn_mul, nn_mull, nn_lmul, nn_mod, nn_modl, nn_tmod, nn_tmodl, nn_tdiv, nn_tdivl, nn_div, nn_divl, nn_shr, nn_sub1, nn_lel, nn_lle, nn_ltl, nn_llt, nn_eql, nn_leq, nn_eq, nn_neg, nn_pos]
  (first | refine .inl ⟨_, k1, ?_⟩ | refine ⟨_, k1, ?_⟩)
  simp (config := { maxSteps := 2000000 }) -implicitDefEqProofs [-List.map_set, set_u16, -Int.natCast_add, -Int.natCast_mul, -Int.natCast_emod, -Int.natCast_ediv, -Int.natCast_pow, nn_add, nn_addl, nn_ladd, nn_mul, nn_mull, nn_lmul, nn_mod, nn_modl, nn_tmod, nn_tmodl, nn_tdiv, nn_tdivl, nn_div, nn_divl, nn_shr, nn_sub1, nn_lel, nn_lle, nn_ltl, nn_llt, nn_eql, nn_leq, nn_eq, nn_neg, nn_pos]
  refine wpDraw_by [[], [0], [], [2], [2, 3], [], [5], [0, 1, 2, 3, 4, 5, 6], [0, 1, 2, 3, 4, 5, 6, 7], [0, 1, 2, 3, 4, 5, 6, 7, 8]] [.any [] [15] [⟨0, [1], [15], [15], []⟩, ⟨0, [11], [15], [15], []⟩, ⟨0, [1], [], [15], []⟩, ⟨0, [13], [], [15], []⟩, ⟨1, [14], [], [], []⟩, ⟨0, [1], [15], [15], []⟩, ⟨0, [16], [15], [15], []⟩], .one, .one, .one] (by rfl) ?_
  simp (config := { maxSteps := 2000000 }) -implicitDefEqProofs [-List.map_set, set_u16, -Int.natCast_add, -Int.natCast_mul, -Int.natCast_emod, -Int.natCast_ediv, -Int.natCast_pow, nn_add, nn_addl, nn_ladd, nn_mul, nn_mull, nn_lmul, nn_mod, nn_modl, nn_tmod, nn_tmodl, nn_tdiv, nn_tdivl, nn_div, nn_divl, nn_shr, nn_sub1, nn_lel, nn_lle, nn_ltl, nn_llt, nn_eql, nn_leq, nn_eq, nn_neg, nn_pos]
  (first | refine .inl ⟨_, k3, ?_⟩ | refine ⟨_, k3, ?_⟩)
  simp (config := { maxSteps := 2000000 }) -implicitDefEqProofs [-List.map_set, set_u16, -Int.natCast_add, -Int.natCast_mul, -Int.natCast_emod, -Int.natCast_ediv, -Int.natCast_pow, nn_add, nn_addl, nn_ladd, nn_mul, nn_mull, nn_lmul, nn_mod, nn_modl, nn_tmod, nn_tmodl, nn_tdiv, nn_tdivl, nn_div, nn_divl, nn_shr, nn_sub1, nn_lel, nn_lle, nn_ltl, nn_llt, nn_eql, nn_leq, nn_eq, nn_neg, nn_pos]
  refine wpLoop_by [(3, 19), (3, 46)] (fun x : Nat × Nat × List D => ⟨[(4, vI .i64 x.1), (3, vC (.sl 3 0 x.2.1)), (1, vC (.ptr 1 0))], [(3, .row 5 x.2.2 true), (1, .box (f.ds.map .d))]⟩)
    (fun x => ∃ l : List Fct, x.2.1 = l.length ∧ x.2.2 = l.flatMap Fct.ds ∧ x.1 ≤ l.length ∧ l.Nodup ∧ (∀ e ∈ l, e ∈ E) ∧ f ∈ l ∧ ∀ k (hk : k < l.length), k < x.1 → Done xs l[k] l) (fun x => E.length + 1 - x.1) (0, 1, f.ds) ?_ ?_ ?_
  · simp [hfd]
  · exact ⟨[f], rfl, by simp [List.flatMap], by simp, by simp, by simpa using hE.self, by simp, fun k hk hlt => by omega⟩
  rintro ⟨i, n, cs⟩ ⟨l, hn, hc, h1, h2, h3, h4, h5⟩
  simp only at hn hc h1 h2 h3 h4 h5
  subst hn hc
  have hle := nodup_le h2 h3
  have hsm := hE.small
  by_cases hi : i < l.length
  · simp only [Fct.ds, hfd]
    simp (config := { maxSteps := 2000000 }) -implicitDefEqProofs [-List.map_set, set_u16, -Int.natCast_add, -Int.natCast_mul, -Int.natCast_emod, -Int.natCast_ediv, -Int.natCast_pow, nn_add, nn_addl, nn_ladd, nn_mul, nn_mull, nn_lmul, nn_mod, nn_modl, nn_tmod, nn_tmodl, nn_tdiv, nn_tdivl, nn_div, nn_divl, nn_shr, nn_sub1, nn_lel, nn_lle, nn_ltl, nn_llt, nn_eql, nn_leq, nn_eq, nn_neg, nn_pos, hi]
    (first | refine .inl ⟨_, k2, ?_⟩ | refine ⟨_, k2, ?_⟩)
    simp (config := { maxSteps := 2000000 }) -implicitDefEqProofs [-List.map_set, set_u16, -Int.natCast_add, -Int.natCast_mul, -Int.natCast_emod, -Int.natCast_ediv, -Int.natCast_pow, nn_add, nn_addl, nn_ladd, nn_mul, nn_mull, nn_lmul, nn_mod, nn_modl, nn_tmod, nn_tmodl, nn_tdiv, nn_tdivl, nn_div, nn_divl, nn_shr, nn_sub1, nn_lel, nn_lle, nn_ltl, nn_llt, nn_eql, nn_leq, nn_eq, nn_neg, nn_pos]
    refine wpLoop_by [(3, 46)] (fun x : Nat × Nat × List D => ⟨[(29, vI .i64 x.1), (28, vI .i64 xs.length), (27, vC (.d (exsD xs))), (4, vI .i64 i), (3, vC (.sl 3 0 x.2.1)), (1, vC (.ptr 1 0))], [(3, .row 5 x.2.2 true), (1, .box [.d (.int .i64 K), .d (intsD f.args), .d (.bool f.neg), .d (natD f.abs), .d (natD f.den)])]⟩)
      (fun x => ∃ m : List Fct, l <+: m ∧ x.2.1 = m.length ∧ x.2.2 = m.flatMap Fct.ds ∧ x.1 ≤ xs.length ∧ m.Nodup ∧ (∀ e ∈ m, e ∈ E) ∧ Done (xs.take x.1) l[i] m) (fun x => xs.length - x.1) (0, l.length, l.flatMap Fct.ds) ?_ ?_ ?_
    · simp
    · exact ⟨l, List.prefix_refl _, rfl, rfl, by simp, h2, h3, by simp [Done]⟩
    rintro ⟨j, n, cs⟩ ⟨m, hm, hn, hc, g1, g2, g3, g4⟩
    simp only at hn hc g1 g2 g3 g4
    subst hn hc
    have gle := nodup_le g2 g3
    by_cases hj : j < xs.length
    · have e1 := ex_drop hj
      have hi2 : i < m.length := Nat.lt_of_lt_of_le hi hm.length_le
      have hli : m[i] = l[i] := (hm.getElem hi).symm
      have q1 := hE.can l[i] (h3 _ (List.getElem_mem hi)) xs[j] (List.getElem_mem hj)
      have q2 := hE.step l[i] (h3 _ (List.getElem_mem hi)) xs[j] (List.getElem_mem hj)
      have q3 := containsFunc_c (appF l[i] xs[j]) m (hE.rt _ q2) (fun e he => hE.rt e (g3 e he)) (by omega)
      have q4 := anyF_iff (g := appF l[i] xs[j]) (l := m) (hE.rt _ q2) (fun e he => hE.rt e (g3 e he))
      have e2 := fct_atC m i hi2
      have hb : i * 5 + 5 ≤ m.length * 5 := by omega
      rw [hli] at e2
      have e3 := List.take_succ_eq_append_getElem hj
      clear hli
      obtain ⟨G, hG⟩ : ∃ G, G = appF l[i] xs[j] := ⟨_, rfl⟩
      rw [← hG] at q1 q2 q3 q4
      simp only [Fct.ds, exD, Fct.res, List.map_cons, List.map_nil] at q1 q3 e2
      simp (config := { maxSteps := 2000000 }) -implicitDefEqProofs [-List.map_set, set_u16, -Int.natCast_add, -Int.natCast_mul, -Int.natCast_emod, -Int.natCast_ediv, -Int.natCast_pow, nn_add, nn_addl, nn_ladd, nn_mul, nn_mull, nn_lmul, nn_mod, nn_modl, nn_tmod, nn_tmodl, nn_tdiv, nn_tdivl, nn_div, nn_divl, nn_shr, nn_sub1, nn_lel, nn_lle, nn_ltl, nn_llt, nn_eql, nn_leq, nn_eq, nn_neg, nn_pos, hj, e1]
      refine wpDraw_by [[], [], [0, 1], [0, 1, 2], [], [0, 1, 2, 3, 4], [], [0, 1, 2, 3, 4, 5, 6]] [.any [] [7] [⟨0, [3], [7], [7], []⟩, ⟨0, [4], [7], [7], []⟩, ⟨0, [33, 34], [7], [7], []⟩, ⟨0, [35], [7], [7], []⟩, ⟨0, [6], [7], [7], []⟩, ⟨0, [36, 37], [7], [7], []⟩, ⟨1, [], [], [], []⟩], .one] (by rfl) ?_
      simp (config := { maxSteps := 2000000 }) -implicitDefEqProofs [-List.map_set, set_u16, -Int.natCast_add, -Int.natCast_mul, -Int.natCast_emod, -Int.natCast_ediv, -Int.natCast_pow, nn_add, nn_addl, nn_ladd, nn_mul, nn_mull, nn_lmul, nn_mod, nn_modl, nn_tmod, nn_tmodl, nn_tdiv, nn_tdivl, nn_div, nn_divl, nn_shr, nn_sub1, nn_lel, nn_lle, nn_ltl, nn_llt, nn_eql, nn_leq, nn_eq, nn_neg, nn_pos, hi2, e2, hb]
      (first | refine .inl ⟨_, q1, ?_⟩ | refine ⟨_, q1, ?_⟩)
      simp (config := { maxSteps := 2000000 }) -implicitDefEqProofs [-List.map_set, set_u16, -Int.natCast_add, -Int.natCast_mul, -Int.natCast_emod, -Int.natCast_ediv, -Int.natCast_pow, nn_add, nn_addl, nn_ladd, nn_mul, nn_mull, nn_lmul, nn_mod, nn_modl, nn_tmod, nn_tmodl, nn_tdiv, nn_tdivl, nn_div, nn_divl, nn_shr, nn_sub1, nn_lel, nn_lle, nn_ltl, nn_llt, nn_eql, nn_leq, nn_eq, nn_neg, nn_pos]
      (first | refine .inl ⟨_, q3, ?_⟩ | refine ⟨_, q3, ?_⟩)
      by_cases hx : anyF G m = true
      · have hGm := q4.1 hx
        simp (config := { maxSteps := 2000000 }) -implicitDefEqProofs [-List.map_set, set_u16, -Int.natCast_add, -Int.natCast_mul, -Int.natCast_emod, -Int.natCast_ediv, -Int.natCast_pow, nn_add, nn_addl, nn_ladd, nn_mul, nn_mull, nn_lmul, nn_mod, nn_modl, nn_tmod, nn_tmodl, nn_tdiv, nn_tdivl, nn_div, nn_divl, nn_shr, nn_sub1, nn_lel, nn_lle, nn_ltl, nn_llt, nn_eql, nn_leq, nn_eq, nn_neg, nn_pos, hx]
        refine ⟨by omega, j + 1, m.length, _, ⟨⟨rfl, rfl⟩, rfl⟩, ⟨m, hm, rfl, rfl, by omega, g2, g3, ?_⟩, by omega⟩
        intro y hy
        rw [e3] at hy
        rcases List.mem_append.1 hy with hy | hy
        · exact g4 y hy
        · have : y = xs[j] := by simpa using hy
          rw [this, ← hG]
          exact hGm
      · have hGm : G ∉ m := fun hh => hx (q4.2 hh)
        simp (config := { maxSteps := 2000000 }) -implicitDefEqProofs [-List.map_set, set_u16, -Int.natCast_add, -Int.natCast_mul, -Int.natCast_emod, -Int.natCast_ediv, -Int.natCast_pow, nn_add, nn_addl, nn_ladd, nn_mul, nn_mull, nn_lmul, nn_mod, nn_modl, nn_tmod, nn_tmodl, nn_tdiv, nn_tdivl, nn_div, nn_divl, nn_shr, nn_sub1, nn_lel, nn_lle, nn_ltl, nn_llt, nn_eql, nn_leq, nn_eq, nn_neg, nn_pos, hx]
        refine ⟨by omega, by omega, j + 1, m.length + 1, _, ⟨⟨rfl, rfl⟩, rfl⟩, ⟨m ++ [G], hm.trans (List.prefix_append _ _), by simp, by simp [Fct.ds], by omega, ?_, ?_, ?_⟩, by omega⟩
        · rw [List.nodup_append]
          exact ⟨g2, by simp, fun a ha b hb hab => by
            have : b = G := by simpa using hb
            exact hGm (this ▸ hab ▸ ha)⟩
        · intro e he
          rcases List.mem_append.1 he with he | he
          · exact g3 e he
          · have : e = G := by simpa using he
            exact this ▸ q2
        · intro y hy
          rw [e3] at hy
          rcases List.mem_append.1 hy with hy | hy
          · exact List.mem_append_left _ (g4 y hy)
          · have : y = xs[j] := by simpa using hy
            rw [this, ← hG]
            simp
    · have hjx : j = xs.length := by omega
      subst hjx
      rw [List.take_length] at g4
      simp (config := { maxSteps := 2000000 }) -implicitDefEqProofs [-List.map_set, set_u16, -Int.natCast_add, -Int.natCast_mul, -Int.natCast_emod, -Int.natCast_ediv, -Int.natCast_pow, nn_add, nn_addl, nn_ladd, nn_mul, nn_mull, nn_lmul, nn_mod, nn_modl, nn_tmod, nn_tmodl, nn_tdiv, nn_tdivl, nn_div, nn_divl, nn_shr, nn_sub1, nn_lel, nn_lle, nn_ltl, nn_llt, nn_eql, nn_leq, nn_eq, nn_neg, nn_pos]
      refine ⟨by omega, i + 1, m.length, _, ⟨⟨rfl, rfl⟩, rfl⟩, ⟨m, rfl, rfl, Nat.lt_of_lt_of_le hi hm.length_le, g2, g3, hm.subset h4, ?_⟩, by omega⟩
      intro k hk hki
      have hkl : k < l.length := by omega
      rw [(hm.getElem hkl).symm]
      by_cases hik : k = i
      · subst hik
        exact g4
      · exact fun y hy => hm.subset (h5 k hkl (by omega) y hy)
  · have : i = l.length := by omega
    subst this
    have hcl : ∀ e ∈ E, e ∈ l := hE.reach (fun e => e ∈ l) h4 fun e he y hy => by
      obtain ⟨k, hk, rfl⟩ := List.mem_iff_getElem.1 he
      exact h5 k hk hk y hy
    have hperm : E.Perm l := (List.perm_ext_iff_of_nodup hE.nodup h2).2 fun e => ⟨fun he => hcl e he, fun he => h3 e he⟩
    have hso := sortF_of (l := l) (m := E) (fun e he => hE.rt e (h3 e he)) hperm hE.sorted
    have q := sortFunc_c 3 l true (List.ne_nil_of_mem h4) (by omega) (fun e he => hE.rt e (h3 e he))
    rw [← hso] at q
    have hlen := hperm.length_eq
    simp (config := { maxSteps := 2000000 }) -implicitDefEqProofs [-List.map_set, set_u16, -Int.natCast_add, -Int.natCast_mul, -Int.natCast_emod, -Int.natCast_ediv, -Int.natCast_pow, nn_add, nn_addl, nn_ladd, nn_mul, nn_mull, nn_lmul, nn_mod, nn_modl, nn_tmod, nn_tmodl, nn_tdiv, nn_tdivl, nn_div, nn_divl, nn_shr, nn_sub1, nn_lel, nn_lle, nn_ltl, nn_llt, nn_eql, nn_leq, nn_eq, nn_neg, nn_pos]
    refine .inr (ioK_one q (by simp [inIds, U.all, C.id?]) (by simp [lk]) ?_)
    have e6 : (E.flatMap Fct.ds).take (l.length * 5) = E.flatMap Fct.ds := by rw [← hlen]; exact fct_take E
    have e7 : D.slice l.length (E.flatMap Fct.ds) = fctsD E := by rw [← hlen]; rfl
    simp (config := { maxSteps := 2000000 }) -implicitDefEqProofs [-List.map_set, set_u16, -Int.natCast_add, -Int.natCast_mul, -Int.natCast_emod, -Int.natCast_ediv, -Int.natCast_pow, nn_add, nn_addl, nn_ladd, nn_mul, nn_mull, nn_lmul, nn_mod, nn_modl, nn_tmod, nn_tmodl, nn_tdiv, nn_tdivl, nn_div, nn_divl, nn_shr, nn_sub1, nn_lel, nn_lle, nn_ltl, nn_llt, nn_eql, nn_leq, nn_eq, nn_neg, nn_pos, St.backW, hlen, e6, e7]

end Go.Va

/-
  Contracts: the document's facts (geoproverref37): comparing.
-/
namespace Go.Va
open Go.Proofs
set_option maxHeartbeats 4000000
set_option maxRecDepth 10000
set_option linter.unusedSimpArgs false
set_option linter.unusedVariables false

theorem order_c (a b : Int) : CallsF Tryz.prog 50 [.c (.int .i64 a), .c (.int .i64 b)] (.u (.c (.d (.int .i64 (cmpZ a b))))) := by
  refine callsF_of (T := tb) tab_ok mixed Tryz.func50 rfl (by decide) (Nat.le_of_ble_eq_true rfl) rfl ?_; unfold St.init
  unfold cmpZ
  by_cases h : a < b
  · simp (config := { maxSteps := 2000000 }) -implicitDefEqProofs [-List.map_set, set_u16, -Int.natCast_add, -Int.natCast_mul, -Int.natCast_emod, -Int.natCast_ediv, -Int.natCast_pow, nn_add, nn_addl, nn_ladd, nn_mul, nn_mull, nn_lmul, nn_mod, nn_modl, nn_tmod, nn_tmodl, nn_tdiv, nn_tdivl, nn_div, nn_divl, nn_shr, nn_sub1, nn_lel, nn_lle, nn_ltl, nn_llt, nn_eql, nn_leq, nn_eq, nn_neg, nn_pos, h]
  · by_cases h2 : b < a
    · simp (config := { maxSteps := 2000000 }) -implicitDefEqProofs [-List.map_set, set_u16, -Int.natCast_add, -Int.natCast_mul, -Int.natCast_emod, -Int.natCast_ediv, -Int.natCast_pow, nn_add, nn_addl, nn_ladd, nn_mul, nn_mull, nn_lmul, nn_mod, nn_modl, nn_tmod, nn_tmodl, nn_tdiv, nn_tdivl, nn_div, nn_divl, nn_shr, nn_sub1, nn_lel, nn_lle, nn_ltl, nn_llt, nn_eql, nn_leq, nn_eq, nn_neg, nn_pos, h, h2]
    · simp (config := { maxSteps := 2000000 }) -implicitDefEqProofs [-List.map_set, set_u16, -Int.natCast_add, -Int.natCast_mul, -Int.natCast_emod, -Int.natCast_ediv, -Int.natCast_pow, nn_add, nn_addl, nn_ladd, nn_mul, nn_mull, nn_lmul, nn_mod, nn_modl, nn_tmod, nn_tmodl, nn_tdiv, nn_tdivl, nn_div, nn_divl, nn_shr, nn_sub1, nn_lel, nn_lle, nn_ltl, nn_llt, nn_eql, nn_leq, nn_eq, nn_neg, nn_pos, h, h2]

/-- Is the ratio valid, where it counts? -/
def Fct.Val (f : Fct) : Prop := f.kind = 9 → ratOk f.neg f.abs f.den = true
theorem Fct.Val.num {f : Fct} (h : f.Val) (hm : f.Mild) : f.Num := fun h9 => (ratOk_spec (h h9) hm.oa hm.od).2.2.1
theorem Fct.Rt.val {f : Fct} (h : f.Rt) : f.Val := fun h9 => by
  have := h.parts.2.2.2
  rwa [if_pos h9] at this

theorem lexI_len {x y : List Int} {i : Nat} (hx : i ≤ x.length) (hy : i ≤ y.length) (h : i = x.length ∨ i = y.length) : lexI (x.drop i) (y.drop i) = cmpZ x.length y.length := by
  unfold cmpZ
  rcases h with h | h
  · subst h
    rw [List.drop_length, lexI_nil, List.length_drop]
    by_cases h2 : x.length < y.length
    · rw [if_pos (by omega), if_pos (by omega)]
    · rw [if_neg (by omega), if_neg (by omega), if_neg (by omega)]
  · subst h
    by_cases h2 : y.length < x.length
    · rw [if_neg (by omega), if_pos (by omega), List.drop_eq_getElem_cons h2, List.drop_length]
      rfl
    · rw [if_neg (by omega), if_neg (by omega), List.drop_length, List.drop_of_length_le (by omega)]
      rfl

theorem refCmpF_c (f g : Fct) (hf : f.Mild) (hg : g.Mild) (nf : f.Val) (ng : g.Val) : CallsF Tryz.prog 20 [.agg f.ds, .agg g.ds] (.u (.c (.d (.int .i64 (cmpF f g))))) := by
  have z := cmpK_zero (a := f) (b := g)
  have e1 := cmpK_eq f g
  have e2 := cmpZ_zero f.kind g.kind
  have e3 := lexI_eq f.args g.args
  rw [cmpF_eq]
  obtain ⟨k, a, n, m, d⟩ := f
  obtain ⟨k', a', n', m', d'⟩ := g
  obtain ⟨la, ld, oa, od, ln⟩ := hf
  obtain ⟨la', ld', oa', od', ln'⟩ := hg
  simp only [Fct.Val, Fct.ds, cmpR] at *
  generalize cmpK ⟨k, a, n, m, d⟩ ⟨k', a', n', m', d'⟩ = c at *
  refine callsF_of (T := tb) tab_ok mixed Tryz.func20 rfl (by decide) (Nat.le_of_ble_eq_true rfl) rfl ?_; unfold St.init
  by_cases hk : k = k'
  · rw [if_neg (by simp [e2.2 hk])] at e1
    subst e1
    simp (config := { maxSteps := 2000000 }) -implicitDefEqProofs [-List.map_set, set_u16, -Int.natCast_add, -Int.natCast_mul, -Int.natCast_emod, -Int.natCast_ediv, -Int.natCast_pow, nn_add, nn_addl, nn_ladd, nn_mul, nn_mull, nn_lmul, nn_mod, nn_modl, nn_tmod, nn_tmodl, nn_tdiv, nn_tdivl, nn_div, nn_divl, nn_shr, nn_sub1, nn_lel, nn_lle, nn_ltl, nn_llt, nn_eql, nn_leq, nn_eq, nn_neg, nn_pos, hk]
    refine wpLoop_of (fun i : Nat => ⟨[(5, vI .i64 i), (2, vC (.ptr 2 0)), (3, vC (.ptr 3 0))], [(3, .box [.d (.int .i64 k'), .d (intsD a'), .d (.bool n'), .d (natD m'), .d (natD d')]), (2, .box [.d (.int .i64 k), .d (intsD a), .d (.bool n), .d (natD m), .d (natD d)])]⟩)
      (fun i => i ≤ a.length ∧ i ≤ a'.length ∧ lexI (a.drop i) (a'.drop i) = lexI a a') (fun i => a.length - i) 0 (by simp [hk]) ⟨by omega, by omega, rfl⟩ ?_
    rintro i ⟨h1, h2, h3⟩
    by_cases h : i < a.length
    · by_cases h' : i < a'.length
      · have e4 := lexI_drop h h'
        have e5 := cmpZ_zero a[i] a'[i]
        have o := order_c a[i] a'[i]
        by_cases h0 : a[i] = a'[i]
        · rw [if_pos (e5.2 h0)] at e4
          simp (config := { maxSteps := 2000000 }) -implicitDefEqProofs [-List.map_set, set_u16, -Int.natCast_add, -Int.natCast_mul, -Int.natCast_emod, -Int.natCast_ediv, -Int.natCast_pow, nn_add, nn_addl, nn_ladd, nn_mul, nn_mull, nn_lmul, nn_mod, nn_modl, nn_tmod, nn_tmodl, nn_tdiv, nn_tdivl, nn_div, nn_divl, nn_shr, nn_sub1, nn_lel, nn_lle, nn_ltl, nn_llt, nn_eql, nn_leq, nn_eq, nn_neg, nn_pos, h, h']
          refine wpDraw_by [[], [0], [], [0, 1, 2], [0, 1, 2, 3], [], [5], [], [5, 6, 7], [5, 6, 7, 8], [0, 1, 2, 3, 4, 5, 6, 7, 8, 9]] [.any [] [] [⟨0, [2], [], [], []⟩, ⟨0, [30], [], [], []⟩, ⟨0, [5], [], [], []⟩, ⟨0, [31, 32], [], [], []⟩, ⟨0, [33], [], [], []⟩, ⟨0, [3], [], [], []⟩, ⟨0, [35], [], [], []⟩, ⟨0, [5], [], [], []⟩, ⟨0, [36, 37], [], [], []⟩, ⟨0, [38], [], [], []⟩], .one] (by rfl) ?_
          simp (config := { maxSteps := 2000000 }) -implicitDefEqProofs [-List.map_set, set_u16, -Int.natCast_add, -Int.natCast_mul, -Int.natCast_emod, -Int.natCast_ediv, -Int.natCast_pow, nn_add, nn_addl, nn_ladd, nn_mul, nn_mull, nn_lmul, nn_mod, nn_modl, nn_tmod, nn_tmodl, nn_tdiv, nn_tdivl, nn_div, nn_divl, nn_shr, nn_sub1, nn_lel, nn_lle, nn_ltl, nn_llt, nn_eql, nn_leq, nn_eq, nn_neg, nn_pos, h, h', i64, h0]
          exact ⟨by omega, ⟨by omega, by omega, by rw [← e4, h3]⟩, by omega⟩
        · have h5 : cmpZ a[i] a'[i] ≠ 0 := fun q => h0 (e5.1 q)
          rw [if_neg h5, h3] at e4
          simp (config := { maxSteps := 2000000 }) -implicitDefEqProofs [-List.map_set, set_u16, -Int.natCast_add, -Int.natCast_mul, -Int.natCast_emod, -Int.natCast_ediv, -Int.natCast_pow, nn_add, nn_addl, nn_ladd, nn_mul, nn_mull, nn_lmul, nn_mod, nn_modl, nn_tmod, nn_tmodl, nn_tdiv, nn_tdivl, nn_div, nn_divl, nn_shr, nn_sub1, nn_lel, nn_lle, nn_ltl, nn_llt, nn_eql, nn_leq, nn_eq, nn_neg, nn_pos, h, h']
          refine wpDraw_by [[], [0], [], [0, 1, 2], [0, 1, 2, 3], [], [5], [], [5, 6, 7], [5, 6, 7, 8], [0, 1, 2, 3, 4, 5, 6, 7, 8, 9]] [.any [] [] [⟨0, [2], [], [], []⟩, ⟨0, [30], [], [], []⟩, ⟨0, [5], [], [], []⟩, ⟨0, [31, 32], [], [], []⟩, ⟨0, [33], [], [], []⟩, ⟨0, [3], [], [], []⟩, ⟨0, [35], [], [], []⟩, ⟨0, [5], [], [], []⟩, ⟨0, [36, 37], [], [], []⟩, ⟨0, [38], [], [], []⟩], .one] (by rfl) ?_
          simp (config := { maxSteps := 2000000 }) -implicitDefEqProofs [-List.map_set, set_u16, -Int.natCast_add, -Int.natCast_mul, -Int.natCast_emod, -Int.natCast_ediv, -Int.natCast_pow, nn_add, nn_addl, nn_ladd, nn_mul, nn_mull, nn_lmul, nn_mod, nn_modl, nn_tmod, nn_tmodl, nn_tdiv, nn_tdivl, nn_div, nn_divl, nn_shr, nn_sub1, nn_lel, nn_lle, nn_ltl, nn_llt, nn_eql, nn_leq, nn_eq, nn_neg, nn_pos, h, h', i64, h0]
          refine wpDraw_by [[], [0], [], [0, 1, 2], [0, 1, 2, 3], [], [5], [], [5, 6, 7], [5, 6, 7, 8], [0, 1, 2, 3, 4, 5, 6, 7, 8, 9], [0, 1, 2, 3, 4, 5, 6, 7, 8, 9, 10]] [.any [] [] [⟨0, [2], [], [], []⟩, ⟨0, [41], [], [], []⟩, ⟨0, [5], [], [], []⟩, ⟨0, [42, 43], [], [], []⟩, ⟨0, [44], [], [], []⟩, ⟨0, [3], [], [], []⟩, ⟨0, [46], [], [], []⟩, ⟨0, [5], [], [], []⟩, ⟨0, [47, 48], [], [], []⟩, ⟨0, [49], [], [], []⟩], .one, .one] (by rfl) ?_
          simp (config := { maxSteps := 2000000 }) -implicitDefEqProofs [-List.map_set, set_u16, -Int.natCast_add, -Int.natCast_mul, -Int.natCast_emod, -Int.natCast_ediv, -Int.natCast_pow, nn_add, nn_addl, nn_ladd, nn_mul, nn_mull, nn_lmul, nn_mod, nn_modl, nn_tmod, nn_tmodl, nn_tdiv, nn_tdivl, nn_div, nn_divl, nn_shr, nn_sub1, nn_lel, nn_lle, nn_ltl, nn_llt, nn_eql, nn_leq, nn_eq, nn_neg, nn_pos, h, h', i64, h0]
          (first | refine .inl ⟨_, o, ?_⟩ | refine ⟨_, o, ?_⟩)
          simp (config := { maxSteps := 2000000 }) -implicitDefEqProofs [-List.map_set, set_u16, -Int.natCast_add, -Int.natCast_mul, -Int.natCast_emod, -Int.natCast_ediv, -Int.natCast_pow, nn_add, nn_addl, nn_ladd, nn_mul, nn_mull, nn_lmul, nn_mod, nn_modl, nn_tmod, nn_tmodl, nn_tdiv, nn_tdivl, nn_div, nn_divl, nn_shr, nn_sub1, nn_lel, nn_lle, nn_ltl, nn_llt, nn_eql, nn_leq, nn_eq, nn_neg, nn_pos, e4, h5]
      · have e4 := lexI_len h1 h2 (.inr (by omega))
        rw [h3] at e4
        have o := order_c a.length a'.length
        have hn : ¬ a.length = a'.length := by omega
        have h5 : cmpZ (a.length : Int) a'.length ≠ 0 := fun q => hn (by have := (cmpZ_zero _ _).1 q; omega)
        simp (config := { maxSteps := 2000000 }) -implicitDefEqProofs [-List.map_set, set_u16, -Int.natCast_add, -Int.natCast_mul, -Int.natCast_emod, -Int.natCast_ediv, -Int.natCast_pow, nn_add, nn_addl, nn_ladd, nn_mul, nn_mull, nn_lmul, nn_mod, nn_modl, nn_tmod, nn_tmodl, nn_tdiv, nn_tdivl, nn_div, nn_divl, nn_shr, nn_sub1, nn_lel, nn_lle, nn_ltl, nn_llt, nn_eql, nn_leq, nn_eq, nn_neg, nn_pos, h, h', hn]
        (first | refine .inl ⟨_, o, ?_⟩ | refine ⟨_, o, ?_⟩)
        simp (config := { maxSteps := 2000000 }) -implicitDefEqProofs [-List.map_set, set_u16, -Int.natCast_add, -Int.natCast_mul, -Int.natCast_emod, -Int.natCast_ediv, -Int.natCast_pow, nn_add, nn_addl, nn_ladd, nn_mul, nn_mull, nn_lmul, nn_mod, nn_modl, nn_tmod, nn_tmodl, nn_tdiv, nn_tdivl, nn_div, nn_divl, nn_shr, nn_sub1, nn_lel, nn_lle, nn_ltl, nn_llt, nn_eql, nn_leq, nn_eq, nn_neg, nn_pos, e4, h5]
    · have e4 := lexI_len h1 h2 (.inl (by omega))
      rw [h3] at e4
      by_cases hn : a.length = a'.length
      · have h5 : cmpZ (a.length : Int) a'.length = 0 := (cmpZ_zero _ _).2 (by omega)
        rw [h5] at e4
        have h'' : ¬ i < a'.length := by omega
        by_cases h9 : k = 9
        · have h9' : k' = 9 := by omega
          obtain ⟨p1, p2, p3, p4, p5⟩ := ratOk_spec (nf h9) oa od
          obtain ⟨q1, q2, q3, q4, q5⟩ := ratOk_spec (ng h9') oa' od'
          have l1 := oa.lt32 la
          have l2 := od.lt32 ld
          have l3 := oa'.lt32 la'
          have l4 := od'.lt32 ld'
          have r := refRatCmp_c n n' (val m) (val d) (val m') (val d') (by omega) (by omega) p3 p4 (by omega) (by omega) q3 q4
          rw [← p1, ← p2, ← q1, ← q2] at r
          simp (config := { maxSteps := 2000000 }) -implicitDefEqProofs [-List.map_set, set_u16, -Int.natCast_add, -Int.natCast_mul, -Int.natCast_emod, -Int.natCast_ediv, -Int.natCast_pow, nn_add, nn_addl, nn_ladd, nn_mul, nn_mull, nn_lmul, nn_mod, nn_modl, nn_tmod, nn_tmodl, nn_tdiv, nn_tdivl, nn_div, nn_divl, nn_shr, nn_sub1, nn_lel, nn_lle, nn_ltl, nn_llt, nn_eql, nn_leq, nn_eq, nn_neg, nn_pos, h, h'', hn, h9, h9']
          (first | refine .inl ⟨_, r, ?_⟩ | refine ⟨_, r, ?_⟩)
          simp (config := { maxSteps := 2000000 }) -implicitDefEqProofs [-List.map_set, set_u16, -Int.natCast_add, -Int.natCast_mul, -Int.natCast_emod, -Int.natCast_ediv, -Int.natCast_pow, nn_add, nn_addl, nn_ladd, nn_mul, nn_mull, nn_lmul, nn_mod, nn_modl, nn_tmod, nn_tmodl, nn_tdiv, nn_tdivl, nn_div, nn_divl, nn_shr, nn_sub1, nn_lel, nn_lle, nn_ltl, nn_llt, nn_eql, nn_leq, nn_eq, nn_neg, nn_pos, e4, h9]
        · have h9' : ¬ k' = 9 := by omega
          simp (config := { maxSteps := 2000000 }) -implicitDefEqProofs [-List.map_set, set_u16, -Int.natCast_add, -Int.natCast_mul, -Int.natCast_emod, -Int.natCast_ediv, -Int.natCast_pow, nn_add, nn_addl, nn_ladd, nn_mul, nn_mull, nn_lmul, nn_mod, nn_modl, nn_tmod, nn_tmodl, nn_tdiv, nn_tdivl, nn_div, nn_divl, nn_shr, nn_sub1, nn_lel, nn_lle, nn_ltl, nn_llt, nn_eql, nn_leq, nn_eq, nn_neg, nn_pos, h, h'', hn, h9, h9', e4, hk]
      · have o := order_c a.length a'.length
        have h5 : cmpZ (a.length : Int) a'.length ≠ 0 := fun q => hn (by have := (cmpZ_zero _ _).1 q; omega)
        simp (config := { maxSteps := 2000000 }) -implicitDefEqProofs [-List.map_set, set_u16, -Int.natCast_add, -Int.natCast_mul, -Int.natCast_emod, -Int.natCast_ediv, -Int.natCast_pow, nn_add, nn_addl, nn_ladd, nn_mul, nn_mull, nn_lmul, nn_mod, nn_modl, nn_tmod, nn_tmodl, nn_tdiv, nn_tdivl, nn_div, nn_divl, nn_shr, nn_sub1, nn_lel, nn_lle, nn_ltl, nn_llt, nn_eql, nn_leq, nn_eq, nn_neg, nn_pos, h, hn]
        (first | refine .inl ⟨_, o, ?_⟩ | refine ⟨_, o, ?_⟩)
        simp (config := { maxSteps := 2000000 }) -implicitDefEqProofs [-List.map_set, set_u16, -Int.natCast_add, -Int.natCast_mul, -Int.natCast_emod, -Int.natCast_ediv, -Int.natCast_pow, nn_add, nn_addl, nn_ladd, nn_mul, nn_mull, nn_lmul, nn_mod, nn_modl, nn_tmod, nn_tmodl, nn_tdiv, nn_tdivl, nn_div, nn_divl, nn_shr, nn_sub1, nn_lel, nn_lle, nn_ltl, nn_llt, nn_eql, nn_leq, nn_eq, nn_neg, nn_pos, e4, h5]
  · have hz : cmpZ k k' ≠ 0 := fun q => hk (e2.1 q)
    rw [if_pos hz] at e1
    subst e1
    have o := order_c k k'
    simp (config := { maxSteps := 2000000 }) -implicitDefEqProofs [-List.map_set, set_u16, -Int.natCast_add, -Int.natCast_mul, -Int.natCast_emod, -Int.natCast_ediv, -Int.natCast_pow, nn_add, nn_addl, nn_ladd, nn_mul, nn_mull, nn_lmul, nn_mod, nn_modl, nn_tmod, nn_tmodl, nn_tdiv, nn_tdivl, nn_div, nn_divl, nn_shr, nn_sub1, nn_lel, nn_lle, nn_ltl, nn_llt, nn_eql, nn_leq, nn_eq, nn_neg, nn_pos, hk]
    (first | refine .inl ⟨_, o, ?_⟩ | refine ⟨_, o, ?_⟩)
    simp (config := { maxSteps := 2000000 }) -implicitDefEqProofs [-List.map_set, set_u16, -Int.natCast_add, -Int.natCast_mul, -Int.natCast_emod, -Int.natCast_ediv, -Int.natCast_pow, nn_add, nn_addl, nn_ladd, nn_mul, nn_mull, nn_lmul, nn_mod, nn_modl, nn_tmod, nn_tmodl, nn_tdiv, nn_tdivl, nn_div, nn_divl, nn_shr, nn_sub1, nn_lel, nn_lle, nn_ltl, nn_llt, nn_eql, nn_leq, nn_eq, nn_neg, nn_pos, hz]

theorem refEqualF_c (f g : Fct) (hf : f.Mild) (hg : g.Mild) (nf : f.Val) (ng : g.Val) : CallsF Tryz.prog 10 [.agg f.ds, .agg g.ds] (.u (.c (.d (.bool (decide (cmpF f g = 0)))))) := by
  have k := refCmpF_c f g hf hg nf ng
  clear hf hg nf ng
  simp only [Fct.ds] at *
  refine callsF_of (T := tb) tab_ok mixed Tryz.func10 rfl (by decide) (Nat.le_of_ble_eq_true rfl) rfl ?_; unfold St.init
  simp (config := { maxSteps := 2000000 }) -implicitDefEqProofs [-List.map_set, set_u16, -Int.natCast_add, -Int.natCast_mul, -Int.natCast_emod, -Int.natCast_ediv, -Int.natCast_pow, nn_add, nn_addl, nn_ladd, nn_mul, nn_mull, nn_lmul, nn_mod, nn_modl, nn_tmod, nn_tmodl, nn_tdiv, nn_tdivl, nn_div, nn_divl, nn_shr, nn_sub1, nn_lel, nn_lle, nn_ltl, nn_llt, nn_eql, nn_leq, nn_eq, nn_neg, nn_pos]
  (first | refine .inl ⟨_, k, ?_⟩ | refine ⟨_, k, ?_⟩)
  simp (config := { maxSteps := 2000000 }) -implicitDefEqProofs [-List.map_set, set_u16, -Int.natCast_add, -Int.natCast_mul, -Int.natCast_emod, -Int.natCast_ediv, -Int.natCast_pow, nn_add, nn_addl, nn_ladd, nn_mul, nn_mull, nn_lmul, nn_mod, nn_modl, nn_tmod, nn_tmodl, nn_tdiv, nn_tdivl, nn_div, nn_divl, nn_shr, nn_sub1, nn_lel, nn_lle, nn_ltl, nn_llt, nn_eql, nn_leq, nn_eq, nn_neg, nn_pos]

end Go.Va
