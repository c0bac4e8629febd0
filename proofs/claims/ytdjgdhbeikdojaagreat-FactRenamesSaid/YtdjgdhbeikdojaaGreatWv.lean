/-
  Contracts: the document's facts: other numbers for a fact's points.
-/
import Derived.Test.YtdjgdhbeikdojaaGreatWs
import Derived.Test.YtdjgdhbeikdojaaGreatWn
set_option linter.all false

namespace Go.Va
open Go.Proofs
set_option maxHeartbeats 4000000
set_option maxRecDepth 10000
set_option linter.unusedSimpArgs false
set_option linter.unusedVariables false

theorem refRename_c (f : Fct) (hf : f.Mild) (to : List Int) (ht : to.length ≤ 1099511627776) : CallsF Tryz.prog 25 [.agg f.ds, .c (intsD to)] (renR f to) := by
  have k1 := ref37Right_c f hf
  have k2 := fun h => (Fct.Rt.mk h hf).parts
  unfold renR renF
  cases h : okF f
  · rw [h] at k1
    obtain ⟨k, l, n, m, d⟩ := f
    simp only [Fct.ds] at *
    refine callsF_of (T := tb) tab_ok mixed Tryz.func25 rfl (by decide) (Nat.le_of_ble_eq_true rfl) rfl ?_; unfold St.init
    simp (config := { maxSteps := 2000000 }) -implicitDefEqProofs [-List.map_set, set_u16, -Int.natCast_add, -Int.natCast_mul, -Int.natCast_emod, -Int.natCast_ediv, -Int.natCast_pow, nn_add, nn_addl, nn_ladd, nn_mul, nn_mull, nn_lmul, nn_mod, nn_modl, nn_tmod, nn_tmodl, nn_tdiv, nn_tdivl, nn_div, nn_divl, nn_shr, nn_sub1, nn_lel, nn_lle, nn_ltl, nn_llt, nn_eql, nn_leq, nn_eq, nn_neg, nn_pos]
    (first | refine .inl ⟨_, k1, ?_⟩ | refine ⟨_, k1, ?_⟩)
    simp (config := { maxSteps := 2000000 }) -implicitDefEqProofs [-List.map_set, set_u16, -Int.natCast_add, -Int.natCast_mul, -Int.natCast_emod, -Int.natCast_ediv, -Int.natCast_pow, nn_add, nn_addl, nn_ladd, nn_mul, nn_mull, nn_lmul, nn_mod, nn_modl, nn_tmod, nn_tmodl, nn_tdiv, nn_tdivl, nn_div, nn_divl, nn_shr, nn_sub1, nn_lel, nn_lle, nn_ltl, nn_llt, nn_eql, nn_leq, nn_eq, nn_neg, nn_pos, Fct.ru, Fct.zero]
  · rw [h] at k1
    obtain ⟨h1, h2, h3, h4⟩ := k2 h
    have ln := hf.ln
    clear k2 h h4 hf
    obtain ⟨k, l, n, m, d⟩ := f
    simp only [Fct.ds, renU] at *
    have hpos : 0 < l.length := by omega
    clear h1 h2
    refine callsF_of (T := tb) tab_ok mixed Tryz.func25 rfl (by decide) (Nat.le_of_ble_eq_true rfl) rfl ?_; unfold St.init
    simp (config := { maxSteps := 2000000 }) -implicitDefEqProofs [-List.map_set, set_u16, -Int.natCast_add, -Int.natCast_mul, -Int.natCast_emod, -Int.natCast_ediv, -Int.natCast_pow, nn_add, nn_addl, nn_ladd, nn_mul, nn_mull, nn_lmul, nn_mod, nn_modl, nn_tmod, nn_tmodl, nn_tdiv, nn_tdivl, nn_div, nn_divl, nn_shr, nn_sub1, nn_lel, nn_lle, nn_ltl, nn_llt, nn_eql, nn_leq, nn_eq, nn_neg, nn_pos]
    (first | refine .inl ⟨_, k1, ?_⟩ | refine ⟨_, k1, ?_⟩)
    simp (config := { maxSteps := 2000000 }) -implicitDefEqProofs [-List.map_set, set_u16, -Int.natCast_add, -Int.natCast_mul, -Int.natCast_emod, -Int.natCast_ediv, -Int.natCast_pow, nn_add, nn_addl, nn_ladd, nn_mul, nn_mull, nn_lmul, nn_mod, nn_modl, nn_tmod, nn_tmodl, nn_tdiv, nn_tdivl, nn_div, nn_divl, nn_shr, nn_sub1, nn_lel, nn_lle, nn_ltl, nn_llt, nn_eql, nn_leq, nn_eq, nn_neg, nn_pos]
    refine wpLoop_by [(6, 60)] (fun i : Nat => ⟨[(7, vI .i64 i), (6, vC (.sl 6 0 i)), (4, vC (.ptr 4 0)), (2, vC (.ptr 2 0)), (1, vC (.d (intsD to)))], [(6, .row 1 (rowT to (l.take i)) true), (4, .box [.d (.int .i64 0), .nl, .d (.bool false), .nl, .nl]), (2, .box [.d (.int .i64 k), .d (intsD l), .d (.bool n), .d (natD m), .d (natD d)])]⟩)
      (fun i => i ≤ l.length ∧ allT to (l.take i) = true) (fun i => l.length - i) 0 (by simp [rowT]) (by simp [allT]) ?_
    rintro i ⟨hi, ha⟩
    by_cases h : i < l.length
    · obtain ⟨a, hea⟩ := Int.eq_ofNat_of_zero_le (h3 l[i] (List.getElem_mem h)).1
      have e := List.take_succ_eq_append_getElem h
      cases hok : okT to l[i]
      · have hall : allT to l = false := by
          unfold allT
          rw [List.all_eq_false]
          exact ⟨l[i], List.getElem_mem h, by rw [hok]; simp⟩
        rw [hall]
        rw [hea] at hok
        simp only [Bool.false_eq_true, if_false, if_true]
        rcases okT_false.1 hok with g | ⟨g, g2 | g2⟩
        · have g' : to.length ≤ a := by omega
          simp (config := { maxSteps := 2000000 }) -implicitDefEqProofs [-List.map_set, set_u16, -Int.natCast_add, -Int.natCast_mul, -Int.natCast_emod, -Int.natCast_ediv, -Int.natCast_pow, nn_add, nn_addl, nn_ladd, nn_mul, nn_mull, nn_lmul, nn_mod, nn_modl, nn_tmod, nn_tmodl, nn_tdiv, nn_tdivl, nn_div, nn_divl, nn_shr, nn_sub1, nn_lel, nn_lle, nn_ltl, nn_llt, nn_eql, nn_leq, nn_eq, nn_neg, nn_pos, h, i64, hea, g', Fct.ru, Fct.zero]
        · have g' : ¬ to.length ≤ a := by omega
          simp (config := { maxSteps := 2000000 }) -implicitDefEqProofs [-List.map_set, set_u16, -Int.natCast_add, -Int.natCast_mul, -Int.natCast_emod, -Int.natCast_ediv, -Int.natCast_pow, nn_add, nn_addl, nn_ladd, nn_mul, nn_mull, nn_lmul, nn_mod, nn_modl, nn_tmod, nn_tmodl, nn_tdiv, nn_tdivl, nn_div, nn_divl, nn_shr, nn_sub1, nn_lel, nn_lle, nn_ltl, nn_llt, nn_eql, nn_leq, nn_eq, nn_neg, nn_pos, h, i64, hea, g, g', g2, Fct.ru, Fct.zero]
        · have g' : ¬ to.length ≤ a := by omega
          have g3 : ¬ to[a] < 0 := by omega
          simp (config := { maxSteps := 2000000 }) -implicitDefEqProofs [-List.map_set, set_u16, -Int.natCast_add, -Int.natCast_mul, -Int.natCast_emod, -Int.natCast_ediv, -Int.natCast_pow, nn_add, nn_addl, nn_ladd, nn_mul, nn_mull, nn_lmul, nn_mod, nn_modl, nn_tmod, nn_tmodl, nn_tdiv, nn_tdivl, nn_div, nn_divl, nn_shr, nn_sub1, nn_lel, nn_lle, nn_ltl, nn_llt, nn_eql, nn_leq, nn_eq, nn_neg, nn_pos, h, i64, hea, g, g', g2, g3, Fct.ru, Fct.zero]
      · have hok' := hok
        rw [hea] at hok'
        have g : a < to.length := by
          unfold okT at hok'
          simp only [Bool.and_eq_true, decide_eq_true_eq] at hok'
          omega
        have e1 : to.getD a 0 = to[a] := by rw [List.getD_eq_getElem?_getD, List.getElem?_eq_getElem g]; rfl
        have g' : ¬ to.length ≤ a := by omega
        have g2 : ¬ to[a] < 0 ∧ ¬ 40 ≤ to[a] := by
          unfold okT at hok'
          simp only [Bool.and_eq_true, decide_eq_true_eq, Int.toNat_natCast, e1] at hok'
          omega
        have e2 : toAt to l[i] = to[a] := by unfold toAt; rw [hea]; exact e1
        have ha2 : allT to (l.take (i + 1)) = true := by
          unfold allT at ha ⊢
          rw [e, List.all_append, ha]
          simpa using hok
        have e3 : rowT to (l.take (i + 1)) = rowT to (l.take i) ++ [.int .i64 to[a]] := by
          unfold rowT
          rw [e, List.map_append, List.map_append, List.map_singleton, e2]; rfl
        have e4 := rowT_len to (l.take i)
        rw [List.length_take, Nat.min_eq_left (by omega)] at e4
        simp (config := { maxSteps := 2000000 }) -implicitDefEqProofs [-List.map_set, set_u16, -Int.natCast_add, -Int.natCast_mul, -Int.natCast_emod, -Int.natCast_ediv, -Int.natCast_pow, nn_add, nn_addl, nn_ladd, nn_mul, nn_mull, nn_lmul, nn_mod, nn_modl, nn_tmod, nn_tmodl, nn_tdiv, nn_tdivl, nn_div, nn_divl, nn_shr, nn_sub1, nn_lel, nn_lle, nn_ltl, nn_llt, nn_eql, nn_leq, nn_eq, nn_neg, nn_pos, h, i64, hea, g, g', g2, e4]
        exact ⟨by omega, by omega, i + 1, ⟨rfl, e3.symm⟩, ⟨by omega, ha2⟩, by omega⟩
    · have hi2 : i = l.length := by omega
      have e : l.take i = l := by rw [hi2, List.take_length]
      rw [e] at ha
      rw [ha]
      subst hi2
      have e4 := rowT_len to l
      simp (config := { maxSteps := 2000000 }) -implicitDefEqProofs [-List.map_set, set_u16, -Int.natCast_add, -Int.natCast_mul, -Int.natCast_emod, -Int.natCast_ediv, -Int.natCast_pow, nn_add, nn_addl, nn_ladd, nn_mul, nn_mull, nn_lmul, nn_mod, nn_modl, nn_tmod, nn_tmodl, nn_tdiv, nn_tdivl, nn_div, nn_divl, nn_shr, nn_sub1, nn_lel, nn_lle, nn_ltl, nn_llt, nn_eql, nn_leq, nn_eq, nn_neg, nn_pos, e, e4, Fct.ru]
      rw [List.take_of_length_le (by omega)]
      show D.slice l.length (rowT to l) = D.slice (l.map (toAt to)).length ((l.map (toAt to)).map i64)
      rw [List.length_map]
      rfl

end Go.Va

/-
  The law of renaming.
-/
namespace Go.Va
open Go.Proofs
set_option maxHeartbeats 4000000
set_option maxRecDepth 100000
set_option linter.unusedSimpArgs false
set_option linter.unusedVariables false

theorem renF_mild {f : Fct} (hf : f.Mild) (to : List Int) : (renF f to).1.Mild := by
  unfold renF
  split
  · split
    · exact ⟨hf.la, hf.ld, hf.oa, hf.od, by simpa [renU] using hf.ln⟩
    · exact zero_mild
  · exact zero_mild
theorem renF_val {f : Fct} (hf : f.Mild) (to : List Int) : (renF f to).1.Val := by
  unfold renF
  split
  · split
    · have := (Fct.Rt.mk (by assumption) hf).val
      exact this
    · exact fun h => absurd h (by decide)
  · exact fun h => absurd h (by decide)

theorem renames_c (f : Fct) (hf : InF f) (to : List Int) : CallsF Tryz.prog 7 [.agg f.ds, .c (intsD to)] (.u (.c (.d (.bool true)))) := by
  have aw := awake_c
  have m1 := mild_c f
  cases b1 : mildB f
  · rw [b1] at m1
    simp only [Fct.ds] at *
    refine callsF_of (T := tb) tab_ok mixed Tryz.func7 rfl (by decide) (Nat.le_of_ble_eq_true rfl) rfl ?_; unfold St.init
    simp (config := { maxSteps := 2000000 }) -implicitDefEqProofs [-List.map_set, set_u16, -Int.natCast_add, -Int.natCast_mul, -Int.natCast_emod, -Int.natCast_ediv, -Int.natCast_pow, nn_add, nn_addl, nn_ladd, nn_mul, nn_mull, nn_lmul, nn_mod, nn_modl, nn_tmod, nn_tmodl, nn_tdiv, nn_tdivl, nn_div, nn_divl, nn_shr, nn_sub1, nn_lel, nn_lle, nn_ltl, nn_llt, nn_eql, nn_leq, nn_eq, nn_neg, nn_pos]
    (first | refine .inl ⟨_, m1, ?_⟩ | refine ⟨_, m1, ?_⟩)
    simp (config := { maxSteps := 2000000 }) -implicitDefEqProofs [-List.map_set, set_u16, -Int.natCast_add, -Int.natCast_mul, -Int.natCast_emod, -Int.natCast_ediv, -Int.natCast_pow, nn_add, nn_addl, nn_ladd, nn_mul, nn_mull, nn_lmul, nn_mod, nn_modl, nn_tmod, nn_tmodl, nn_tdiv, nn_tdivl, nn_div, nn_divl, nn_shr, nn_sub1, nn_lel, nn_lle, nn_ltl, nn_llt, nn_eql, nn_leq, nn_eq, nn_neg, nn_pos]
    (first | refine .inl ⟨_, aw, ?_⟩ | refine ⟨_, aw, ?_⟩)
    simp (config := { maxSteps := 2000000 }) -implicitDefEqProofs [-List.map_set, set_u16, -Int.natCast_add, -Int.natCast_mul, -Int.natCast_emod, -Int.natCast_ediv, -Int.natCast_pow, nn_add, nn_addl, nn_ladd, nn_mul, nn_mull, nn_lmul, nn_mod, nn_modl, nn_tmod, nn_tmodl, nn_tdiv, nn_tdivl, nn_div, nn_divl, nn_shr, nn_sub1, nn_lel, nn_lle, nn_ltl, nn_llt, nn_eql, nn_leq, nn_eq, nn_neg, nn_pos]
  rw [b1] at m1
  by_cases b2 : 60 < to.length
  · simp only [Fct.ds] at *
    refine callsF_of (T := tb) tab_ok mixed Tryz.func7 rfl (by decide) (Nat.le_of_ble_eq_true rfl) rfl ?_; unfold St.init
    simp (config := { maxSteps := 2000000 }) -implicitDefEqProofs [-List.map_set, set_u16, -Int.natCast_add, -Int.natCast_mul, -Int.natCast_emod, -Int.natCast_ediv, -Int.natCast_pow, nn_add, nn_addl, nn_ladd, nn_mul, nn_mull, nn_lmul, nn_mod, nn_modl, nn_tmod, nn_tmodl, nn_tdiv, nn_tdivl, nn_div, nn_divl, nn_shr, nn_sub1, nn_lel, nn_lle, nn_ltl, nn_llt, nn_eql, nn_leq, nn_eq, nn_neg, nn_pos]
    (first | refine .inl ⟨_, m1, ?_⟩ | refine ⟨_, m1, ?_⟩)
    simp (config := { maxSteps := 2000000 }) -implicitDefEqProofs [-List.map_set, set_u16, -Int.natCast_add, -Int.natCast_mul, -Int.natCast_emod, -Int.natCast_ediv, -Int.natCast_pow, nn_add, nn_addl, nn_ladd, nn_mul, nn_mull, nn_lmul, nn_mod, nn_modl, nn_tmod, nn_tmodl, nn_tdiv, nn_tdivl, nn_div, nn_divl, nn_shr, nn_sub1, nn_lel, nn_lle, nn_ltl, nn_llt, nn_eql, nn_leq, nn_eq, nn_neg, nn_pos, b2]
    (first | refine .inl ⟨_, aw, ?_⟩ | refine ⟨_, aw, ?_⟩)
    simp (config := { maxSteps := 2000000 }) -implicitDefEqProofs [-List.map_set, set_u16, -Int.natCast_add, -Int.natCast_mul, -Int.natCast_emod, -Int.natCast_ediv, -Int.natCast_pow, nn_add, nn_addl, nn_ladd, nn_mul, nn_mull, nn_lmul, nn_mod, nn_modl, nn_tmod, nn_tmodl, nn_tdiv, nn_tdivl, nn_div, nn_divl, nn_shr, nn_sub1, nn_lel, nn_lle, nn_ltl, nn_llt, nn_eql, nn_leq, nn_eq, nn_neg, nn_pos]
  have p1 := mildB_mild b1 hf.oa hf.od
  have c1 := rename_c f p1 to (by omega)
  have c2 := refRename_c f p1 to (by omega)
  unfold renR at c1 c2
  have q1 := renF_mild p1 to
  have q2 := renF_val p1 to
  have c3 := refEqualF_c (renF f to).1 (renF f to).1 q1 q1 q2 q2
  rw [show cmpF (renF f to).1 (renF f to).1 = 0 from isCmp_F.self (q2.num q1)] at c3
  generalize (renF f to).1 = x at *
  generalize (renF f to).2 = y at *
  clear hf b1 p1
  simp only [Fct.ds, Fct.ru] at *
  refine callsF_of (T := tb) tab_ok mixed Tryz.func7 rfl (by decide) (Nat.le_of_ble_eq_true rfl) rfl ?_; unfold St.init
  simp (config := { maxSteps := 2000000 }) -implicitDefEqProofs [-List.map_set, set_u16, -Int.natCast_add, -Int.natCast_mul, -Int.natCast_emod, -Int.natCast_ediv, -Int.natCast_pow, nn_add, nn_addl, nn_ladd, nn_mul, nn_mull, nn_lmul, nn_mod, nn_modl, nn_tmod, nn_tmodl, nn_tdiv, nn_tdivl, nn_div, nn_divl, nn_shr, nn_sub1, nn_lel, nn_lle, nn_ltl, nn_llt, nn_eql, nn_leq, nn_eq, nn_neg, nn_pos]
  (first | refine .inl ⟨_, m1, ?_⟩ | refine ⟨_, m1, ?_⟩)
  simp (config := { maxSteps := 2000000 }) -implicitDefEqProofs [-List.map_set, set_u16, -Int.natCast_add, -Int.natCast_mul, -Int.natCast_emod, -Int.natCast_ediv, -Int.natCast_pow, nn_add, nn_addl, nn_ladd, nn_mul, nn_mull, nn_lmul, nn_mod, nn_modl, nn_tmod, nn_tmodl, nn_tdiv, nn_tdivl, nn_div, nn_divl, nn_shr, nn_sub1, nn_lel, nn_lle, nn_ltl, nn_llt, nn_eql, nn_leq, nn_eq, nn_neg, nn_pos, b2]
  (first | refine .inl ⟨_, c1, ?_⟩ | refine ⟨_, c1, ?_⟩)
  simp (config := { maxSteps := 2000000 }) -implicitDefEqProofs [-List.map_set, set_u16, -Int.natCast_add, -Int.natCast_mul, -Int.natCast_emod, -Int.natCast_ediv, -Int.natCast_pow, nn_add, nn_addl, nn_ladd, nn_mul, nn_mull, nn_lmul, nn_mod, nn_modl, nn_tmod, nn_tmodl, nn_tdiv, nn_tdivl, nn_div, nn_divl, nn_shr, nn_sub1, nn_lel, nn_lle, nn_ltl, nn_llt, nn_eql, nn_leq, nn_eq, nn_neg, nn_pos]
  (first | refine .inl ⟨_, c2, ?_⟩ | refine ⟨_, c2, ?_⟩)
  simp (config := { maxSteps := 2000000 }) -implicitDefEqProofs [-List.map_set, set_u16, -Int.natCast_add, -Int.natCast_mul, -Int.natCast_emod, -Int.natCast_ediv, -Int.natCast_pow, nn_add, nn_addl, nn_ladd, nn_mul, nn_mull, nn_lmul, nn_mod, nn_modl, nn_tmod, nn_tmodl, nn_tdiv, nn_tdivl, nn_div, nn_divl, nn_shr, nn_sub1, nn_lel, nn_lle, nn_ltl, nn_llt, nn_eql, nn_leq, nn_eq, nn_neg, nn_pos]
  (first | refine .inl ⟨_, c3, ?_⟩ | refine ⟨_, c3, ?_⟩)
  simp (config := { maxSteps := 2000000 }) -implicitDefEqProofs [-List.map_set, set_u16, -Int.natCast_add, -Int.natCast_mul, -Int.natCast_emod, -Int.natCast_ediv, -Int.natCast_pow, nn_add, nn_addl, nn_ladd, nn_mul, nn_mull, nn_lmul, nn_mod, nn_modl, nn_tmod, nn_tmodl, nn_tdiv, nn_tdivl, nn_div, nn_divl, nn_shr, nn_sub1, nn_lel, nn_lle, nn_ltl, nn_llt, nn_eql, nn_leq, nn_eq, nn_neg, nn_pos]
  (first | refine .inl ⟨_, aw, ?_⟩ | refine ⟨_, aw, ?_⟩)
  simp (config := { maxSteps := 2000000 }) -implicitDefEqProofs [-List.map_set, set_u16, -Int.natCast_add, -Int.natCast_mul, -Int.natCast_emod, -Int.natCast_ediv, -Int.natCast_pow, nn_add, nn_addl, nn_ladd, nn_mul, nn_mull, nn_lmul, nn_mod, nn_modl, nn_tmod, nn_tmodl, nn_tdiv, nn_tdivl, nn_div, nn_divl, nn_shr, nn_sub1, nn_lel, nn_lle, nn_ltl, nn_llt, nn_eql, nn_leq, nn_eq, nn_neg, nn_pos]

end Go.Va
