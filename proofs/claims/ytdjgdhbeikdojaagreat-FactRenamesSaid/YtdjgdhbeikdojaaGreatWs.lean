/-
  Contracts: the document's facts: Norm, Same.
-/
import Derived.Test.YtdjgdhbeikdojaaGreatWr
set_option linter.all false

namespace Go.Va
open Go.Proofs
set_option maxHeartbeats 4000000
set_option maxRecDepth 10000
set_option linter.unusedSimpArgs false
set_option linter.unusedVariables false

theorem arity_kinds {k : Int} (h : arity k ≠ 0) : k = 1 ∨ k = 2 ∨ k = 3 ∨ k = 4 ∨ k = 5 ∨ k = 6 ∨ k = 7 ∨ k = 8 ∨ k = 9 := by
  unfold arity at h
  by_cases q1 : k = 1 ∨ k = 5
  · omega
  rw [if_neg q1] at h
  by_cases q2 : k = 2 ∨ k = 3 ∨ k = 4 ∨ k = 6 ∨ k = 9
  · omega
  rw [if_neg q2] at h
  by_cases q3 : k = 7
  · omega
  rw [if_neg q3] at h
  by_cases q4 : k = 8
  · omega
  rw [if_neg q4] at h
  exact absurd rfl h

theorem refNormF_c (f : Fct) (hf : f.Mild) : CallsF Tryz.prog 12 [.agg f.ds] (normF f).res := by
  have k1 := ref37Right_c f hf
  have k2 := fun h => (Fct.Rt.mk h hf).parts
  unfold normF
  obtain ⟨k, l, n, m, d⟩ := f
  obtain ⟨la, ld, oa, od, ln⟩ := hf
  simp only [Fct.ds] at *
  cases h : okF ⟨k, l, n, m, d⟩
  · rw [h] at k1
    refine callsF_of (T := tb) tab_ok mixed Tryz.func12 rfl (by decide) (Nat.le_of_ble_eq_true rfl) rfl ?_; unfold St.init
    simp (config := { maxSteps := 2000000 }) -implicitDefEqProofs [-List.map_set, set_u16, -Int.natCast_add, -Int.natCast_mul, -Int.natCast_emod, -Int.natCast_ediv, -Int.natCast_pow, nn_add, nn_addl, nn_ladd, nn_mul, nn_mull, nn_lmul, nn_mod, nn_modl, nn_tmod, nn_tmodl, nn_tdiv, nn_tdivl, nn_div, nn_divl, nn_shr, nn_sub1, nn_lel, nn_lle, nn_ltl, nn_llt, nn_eql, nn_leq, nn_eq, nn_neg, nn_pos]
    (first | refine .inl ⟨_, k1, ?_⟩ | refine ⟨_, k1, ?_⟩)
    simp (config := { maxSteps := 2000000 }) -implicitDefEqProofs [-List.map_set, set_u16, -Int.natCast_add, -Int.natCast_mul, -Int.natCast_emod, -Int.natCast_ediv, -Int.natCast_pow, nn_add, nn_addl, nn_ladd, nn_mul, nn_mull, nn_lmul, nn_mod, nn_modl, nn_tmod, nn_tmodl, nn_tdiv, nn_tdivl, nn_div, nn_divl, nn_shr, nn_sub1, nn_lel, nn_lle, nn_ltl, nn_llt, nn_eql, nn_leq, nn_eq, nn_neg, nn_pos, Fct.res, Fct.zero]
  · rw [h] at k1
    obtain ⟨h1, h2, h3, h4⟩ := k2 h
    clear k2 h
    rw [if_pos rfl]
    unfold normG
    simp only
    by_cases i1 : k = 1 ∨ k = 6 ∨ k = 8
    · have r := refSorted_c l ln
      rw [if_neg (by omega), if_neg (by omega), if_neg (by omega), if_neg (by omega), if_neg (by omega)]
      clear h1 h2 h3 h4
      refine callsF_of (T := tb) tab_ok mixed Tryz.func12 rfl (by decide) (Nat.le_of_ble_eq_true rfl) rfl ?_; unfold St.init
      simp (config := { maxSteps := 2000000 }) -implicitDefEqProofs [-List.map_set, set_u16, -Int.natCast_add, -Int.natCast_mul, -Int.natCast_emod, -Int.natCast_ediv, -Int.natCast_pow, nn_add, nn_addl, nn_ladd, nn_mul, nn_mull, nn_lmul, nn_mod, nn_modl, nn_tmod, nn_tmodl, nn_tdiv, nn_tdivl, nn_div, nn_divl, nn_shr, nn_sub1, nn_lel, nn_lle, nn_ltl, nn_llt, nn_eql, nn_leq, nn_eq, nn_neg, nn_pos]
      (first | refine .inl ⟨_, k1, ?_⟩ | refine ⟨_, k1, ?_⟩)
      rcases i1 with rfl | rfl | rfl <;> simp (config := { maxSteps := 2000000 }) -implicitDefEqProofs [-List.map_set, set_u16, -Int.natCast_add, -Int.natCast_mul, -Int.natCast_emod, -Int.natCast_ediv, -Int.natCast_pow, nn_add, nn_addl, nn_ladd, nn_mul, nn_mull, nn_lmul, nn_mod, nn_modl, nn_tmod, nn_tmodl, nn_tdiv, nn_tdivl, nn_div, nn_divl, nn_shr, nn_sub1, nn_lel, nn_lle, nn_ltl, nn_llt, nn_eql, nn_leq, nn_eq, nn_neg, nn_pos] <;> refine wpDraw_by [[], [0], [], [2], [0, 1, 2, 3], [0, 1, 2, 3, 4]] [.any [] [] [⟨0, [1], [], [], []⟩, ⟨0, [17], [], [], []⟩, ⟨0, [3], [], [], []⟩, ⟨0, [19], [], [], []⟩], .one, .one] (by rfl) ?_ <;> simp (config := { maxSteps := 2000000 }) -implicitDefEqProofs [-List.map_set, set_u16, -Int.natCast_add, -Int.natCast_mul, -Int.natCast_emod, -Int.natCast_ediv, -Int.natCast_pow, nn_add, nn_addl, nn_ladd, nn_mul, nn_mull, nn_lmul, nn_mod, nn_modl, nn_tmod, nn_tmodl, nn_tdiv, nn_tdivl, nn_div, nn_divl, nn_shr, nn_sub1, nn_lel, nn_lle, nn_ltl, nn_llt, nn_eql, nn_leq, nn_eq, nn_neg, nn_pos] <;> (first | refine .inl ⟨_, r, ?_⟩ | refine ⟨_, r, ?_⟩) <;> simp (config := { maxSteps := 2000000 }) -implicitDefEqProofs [-List.map_set, set_u16, -Int.natCast_add, -Int.natCast_mul, -Int.natCast_emod, -Int.natCast_ediv, -Int.natCast_pow, nn_add, nn_addl, nn_ladd, nn_mul, nn_mull, nn_lmul, nn_mod, nn_modl, nn_tmod, nn_tmodl, nn_tdiv, nn_tdivl, nn_div, nn_divl, nn_shr, nn_sub1, nn_lel, nn_lle, nn_ltl, nn_llt, nn_eql, nn_leq, nn_eq, nn_neg, nn_pos, Fct.res]
    by_cases i2 : k = 5
    · subst i2
      obtain ⟨a, b, c, rfl⟩ := list3 (by simpa [arity] using h2)
      rw [if_pos rfl]
      have r := refTwo_c b c
      clear h1 h2 h3 h4
      refine callsF_of (T := tb) tab_ok mixed Tryz.func12 rfl (by decide) (Nat.le_of_ble_eq_true rfl) rfl ?_; unfold St.init
      simp (config := { maxSteps := 2000000 }) -implicitDefEqProofs [-List.map_set, set_u16, -Int.natCast_add, -Int.natCast_mul, -Int.natCast_emod, -Int.natCast_ediv, -Int.natCast_pow, nn_add, nn_addl, nn_ladd, nn_mul, nn_mull, nn_lmul, nn_mod, nn_modl, nn_tmod, nn_tmodl, nn_tdiv, nn_tdivl, nn_div, nn_divl, nn_shr, nn_sub1, nn_lel, nn_lle, nn_ltl, nn_llt, nn_eql, nn_leq, nn_eq, nn_neg, nn_pos]
      (first | refine .inl ⟨_, k1, ?_⟩ | refine ⟨_, k1, ?_⟩)
      simp (config := { maxSteps := 2000000 }) -implicitDefEqProofs [-List.map_set, set_u16, -Int.natCast_add, -Int.natCast_mul, -Int.natCast_emod, -Int.natCast_ediv, -Int.natCast_pow, nn_add, nn_addl, nn_ladd, nn_mul, nn_mull, nn_lmul, nn_mod, nn_modl, nn_tmod, nn_tmodl, nn_tdiv, nn_tdivl, nn_div, nn_divl, nn_shr, nn_sub1, nn_lel, nn_lle, nn_ltl, nn_llt, nn_eql, nn_leq, nn_eq, nn_neg, nn_pos]
      refine wpDraw_by [[], [0], [0, 1], [], [3], [3, 4], [0, 1, 2, 3, 4, 5], [], [0, 1, 2, 3, 4, 5, 6, 7]] [.any [] [4] [⟨0, [3], [4], [4], []⟩, ⟨0, [24], [4], [4], []⟩, ⟨0, [25], [4], [4], []⟩, ⟨0, [3], [4], [4], []⟩, ⟨0, [27], [4], [4], []⟩, ⟨0, [28], [4], [4], []⟩, ⟨0, [26, 29], [4], [4], []⟩, ⟨1, [], [], [], []⟩], .one] (by rfl) ?_
      simp (config := { maxSteps := 2000000 }) -implicitDefEqProofs [-List.map_set, set_u16, -Int.natCast_add, -Int.natCast_mul, -Int.natCast_emod, -Int.natCast_ediv, -Int.natCast_pow, nn_add, nn_addl, nn_ladd, nn_mul, nn_mull, nn_lmul, nn_mod, nn_modl, nn_tmod, nn_tmodl, nn_tdiv, nn_tdivl, nn_div, nn_divl, nn_shr, nn_sub1, nn_lel, nn_lle, nn_ltl, nn_llt, nn_eql, nn_leq, nn_eq, nn_neg, nn_pos, i64]
      (first | refine .inl ⟨_, r, ?_⟩ | refine ⟨_, r, ?_⟩)
      simp (config := { maxSteps := 2000000 }) -implicitDefEqProofs [-List.map_set, set_u16, -Int.natCast_add, -Int.natCast_mul, -Int.natCast_emod, -Int.natCast_ediv, -Int.natCast_pow, nn_add, nn_addl, nn_ladd, nn_mul, nn_mull, nn_lmul, nn_mod, nn_modl, nn_tmod, nn_tmodl, nn_tdiv, nn_tdivl, nn_div, nn_divl, nn_shr, nn_sub1, nn_lel, nn_lle, nn_ltl, nn_llt, nn_eql, nn_leq, nn_eq, nn_neg, nn_pos]
      refine wpDraw_by [[], [0], [], [2], [2, 3], [], [5], [], [7], [2, 3, 4, 5, 6, 7, 8], [0, 1, 2, 3, 4, 5, 6, 7, 8, 9], [0, 1, 2, 3, 4, 5, 6, 7, 8, 9, 10]] [.any [] [40] [⟨0, [1], [40], [40], []⟩, ⟨0, [31], [40], [40], []⟩, ⟨0, [3], [], [40], []⟩, ⟨0, [33], [], [40], []⟩, ⟨0, [34], [], [40], []⟩, ⟨0, [4], [], [40], []⟩, ⟨0, [36], [], [40], []⟩, ⟨0, [4], [], [40], []⟩, ⟨0, [38], [], [40], []⟩, ⟨1, [35, 37, 39], [], [], []⟩], .one, .one] (by rfl) ?_
      simp (config := { maxSteps := 2000000 }) -implicitDefEqProofs [-List.map_set, set_u16, -Int.natCast_add, -Int.natCast_mul, -Int.natCast_emod, -Int.natCast_ediv, -Int.natCast_pow, nn_add, nn_addl, nn_ladd, nn_mul, nn_mull, nn_lmul, nn_mod, nn_modl, nn_tmod, nn_tmodl, nn_tdiv, nn_tdivl, nn_div, nn_divl, nn_shr, nn_sub1, nn_lel, nn_lle, nn_ltl, nn_llt, nn_eql, nn_leq, nn_eq, nn_neg, nn_pos, i64, Fct.res]
      rfl
    rw [if_neg i2]
    by_cases i3 : k = 7
    · subst i3
      obtain ⟨a, b, c, e, a', b', c', e', rfl⟩ := list8 (by simpa [arity] using h2)
      rw [if_neg (by omega), if_neg (by omega), if_neg (by omega), if_pos rfl]
      have r1 := refTwo_c a b
      have r2 := refTwo_c c e
      have r3 := refTwo_c a' b'
      have r4 := refTwo_c c' e'
      have r5 := refAngle_c (lo a b) (hi a b) (lo c e) (hi c e) (lo a' b') (hi a' b') (lo c' e') (hi c' e')
      simp only [two]
      clear h1 h2 h3 h4
      refine callsF_of (T := tb) tab_ok mixed Tryz.func12 rfl (by decide) (Nat.le_of_ble_eq_true rfl) rfl ?_; unfold St.init
      simp (config := { maxSteps := 2000000 }) -implicitDefEqProofs [-List.map_set, set_u16, -Int.natCast_add, -Int.natCast_mul, -Int.natCast_emod, -Int.natCast_ediv, -Int.natCast_pow, nn_add, nn_addl, nn_ladd, nn_mul, nn_mull, nn_lmul, nn_mod, nn_modl, nn_tmod, nn_tmodl, nn_tdiv, nn_tdivl, nn_div, nn_divl, nn_shr, nn_sub1, nn_lel, nn_lle, nn_ltl, nn_llt, nn_eql, nn_leq, nn_eq, nn_neg, nn_pos]
      (first | refine .inl ⟨_, k1, ?_⟩ | refine ⟨_, k1, ?_⟩)
      simp (config := { maxSteps := 2000000 }) -implicitDefEqProofs [-List.map_set, set_u16, -Int.natCast_add, -Int.natCast_mul, -Int.natCast_emod, -Int.natCast_ediv, -Int.natCast_pow, nn_add, nn_addl, nn_ladd, nn_mul, nn_mull, nn_lmul, nn_mod, nn_modl, nn_tmod, nn_tmodl, nn_tdiv, nn_tdivl, nn_div, nn_divl, nn_shr, nn_sub1, nn_lel, nn_lle, nn_ltl, nn_llt, nn_eql, nn_leq, nn_eq, nn_neg, nn_pos]
      refine wpDraw_by [[], [0], [0, 1], [], [3], [3, 4], [0, 1, 2, 3, 4, 5], [], [7], [7, 8], [], [10], [10, 11], [0, 1, 2, 3, 4, 5, 6, 7, 8, 9, 10, 11, 12], [], [14], [14, 15], [], [17], [17, 18], [0, 1, 2, 3, 4, 5, 6, 7, 8, 9, 10, 11, 12, 13, 14, 15, 16, 17, 18, 19], [], [21], [21, 22], [], [24], [24, 25], [0, 1, 2, 3, 4, 5, 6, 7, 8, 9, 10, 11, 12, 13, 14, 15, 16, 17, 18, 19, 20, 21, 22, 23, 24, 25, 26], [0, 1, 2, 3, 4, 5, 6, 7, 8, 9, 10, 11, 12, 13, 14, 15, 16, 17, 18, 19, 20, 21, 22, 23, 24, 25, 26, 27], [0, 1, 2, 3, 4, 5, 6, 7, 8, 9, 10, 11, 12, 13, 14, 15, 16, 17, 18, 19, 20, 21, 22, 23, 24, 25, 26, 27, 28]] [.any [] [] [⟨0, [3], [], [], []⟩, ⟨0, [44], [], [], []⟩, ⟨0, [45], [], [], []⟩, ⟨0, [3], [], [], []⟩, ⟨0, [47], [], [], []⟩, ⟨0, [48], [], [], []⟩, ⟨0, [46, 49], [], [], []⟩, ⟨0, [3], [], [], []⟩, ⟨0, [51], [], [], []⟩, ⟨0, [52], [], [], []⟩, ⟨0, [3], [], [], []⟩, ⟨0, [54], [], [], []⟩, ⟨0, [55], [], [], []⟩, ⟨0, [53, 56], [], [], []⟩, ⟨0, [3], [], [], []⟩, ⟨0, [58], [], [], []⟩, ⟨0, [59], [], [], []⟩, ⟨0, [3], [], [], []⟩, ⟨0, [61], [], [], []⟩, ⟨0, [62], [], [], []⟩, ⟨0, [60, 63], [], [], []⟩, ⟨0, [3], [], [], []⟩, ⟨0, [65], [], [], []⟩, ⟨0, [66], [], [], []⟩, ⟨0, [3], [], [], []⟩, ⟨0, [68], [], [], []⟩, ⟨0, [69], [], [], []⟩], .one, .one, .one] (by rfl) ?_
      simp (config := { maxSteps := 2000000 }) -implicitDefEqProofs [-List.map_set, set_u16, -Int.natCast_add, -Int.natCast_mul, -Int.natCast_emod, -Int.natCast_ediv, -Int.natCast_pow, nn_add, nn_addl, nn_ladd, nn_mul, nn_mull, nn_lmul, nn_mod, nn_modl, nn_tmod, nn_tmodl, nn_tdiv, nn_tdivl, nn_div, nn_divl, nn_shr, nn_sub1, nn_lel, nn_lle, nn_ltl, nn_llt, nn_eql, nn_leq, nn_eq, nn_neg, nn_pos, i64]
      (first | refine .inl ⟨_, r1, ?_⟩ | refine ⟨_, r1, ?_⟩)
      simp (config := { maxSteps := 2000000 }) -implicitDefEqProofs [-List.map_set, set_u16, -Int.natCast_add, -Int.natCast_mul, -Int.natCast_emod, -Int.natCast_ediv, -Int.natCast_pow, nn_add, nn_addl, nn_ladd, nn_mul, nn_mull, nn_lmul, nn_mod, nn_modl, nn_tmod, nn_tmodl, nn_tdiv, nn_tdivl, nn_div, nn_divl, nn_shr, nn_sub1, nn_lel, nn_lle, nn_ltl, nn_llt, nn_eql, nn_leq, nn_eq, nn_neg, nn_pos]
      (first | refine .inl ⟨_, r2, ?_⟩ | refine ⟨_, r2, ?_⟩)
      simp (config := { maxSteps := 2000000 }) -implicitDefEqProofs [-List.map_set, set_u16, -Int.natCast_add, -Int.natCast_mul, -Int.natCast_emod, -Int.natCast_ediv, -Int.natCast_pow, nn_add, nn_addl, nn_ladd, nn_mul, nn_mull, nn_lmul, nn_mod, nn_modl, nn_tmod, nn_tmodl, nn_tdiv, nn_tdivl, nn_div, nn_divl, nn_shr, nn_sub1, nn_lel, nn_lle, nn_ltl, nn_llt, nn_eql, nn_leq, nn_eq, nn_neg, nn_pos]
      (first | refine .inl ⟨_, r3, ?_⟩ | refine ⟨_, r3, ?_⟩)
      simp (config := { maxSteps := 2000000 }) -implicitDefEqProofs [-List.map_set, set_u16, -Int.natCast_add, -Int.natCast_mul, -Int.natCast_emod, -Int.natCast_ediv, -Int.natCast_pow, nn_add, nn_addl, nn_ladd, nn_mul, nn_mull, nn_lmul, nn_mod, nn_modl, nn_tmod, nn_tmodl, nn_tdiv, nn_tdivl, nn_div, nn_divl, nn_shr, nn_sub1, nn_lel, nn_lle, nn_ltl, nn_llt, nn_eql, nn_leq, nn_eq, nn_neg, nn_pos]
      (first | refine .inl ⟨_, r4, ?_⟩ | refine ⟨_, r4, ?_⟩)
      simp (config := { maxSteps := 2000000 }) -implicitDefEqProofs [-List.map_set, set_u16, -Int.natCast_add, -Int.natCast_mul, -Int.natCast_emod, -Int.natCast_ediv, -Int.natCast_pow, nn_add, nn_addl, nn_ladd, nn_mul, nn_mull, nn_lmul, nn_mod, nn_modl, nn_tmod, nn_tmodl, nn_tdiv, nn_tdivl, nn_div, nn_divl, nn_shr, nn_sub1, nn_lel, nn_lle, nn_ltl, nn_llt, nn_eql, nn_leq, nn_eq, nn_neg, nn_pos]
      (first | refine .inl ⟨_, r5, ?_⟩ | refine ⟨_, r5, ?_⟩)
      simp (config := { maxSteps := 2000000 }) -implicitDefEqProofs [-List.map_set, set_u16, -Int.natCast_add, -Int.natCast_mul, -Int.natCast_emod, -Int.natCast_ediv, -Int.natCast_pow, nn_add, nn_addl, nn_ladd, nn_mul, nn_mull, nn_lmul, nn_mod, nn_modl, nn_tmod, nn_tmodl, nn_tdiv, nn_tdivl, nn_div, nn_divl, nn_shr, nn_sub1, nn_lel, nn_lle, nn_ltl, nn_llt, nn_eql, nn_leq, nn_eq, nn_neg, nn_pos, Fct.res]
    have hk := arity_kinds h1
    have h22 : l.length = 4 := by
      rw [h2]
      rcases hk with rfl | rfl | rfl | rfl | rfl | rfl | rfl | rfl | rfl <;> simp [arity] at * 
    obtain ⟨a, b, c, e, rfl⟩ := list4 h22
    have a1 := lo_rng (h3 a (by simp)) (h3 b (by simp))
    have a2 := hi_rng (h3 a (by simp)) (h3 b (by simp))
    have a3 := lo_rng (h3 c (by simp)) (h3 e (by simp))
    have a4 := hi_rng (h3 c (by simp)) (h3 e (by simp))
    have r1 := refTwo_c a b
    have r2 := refTwo_c c e
    have key : ∀ R : Fct, CallsF Tryz.prog 34 [.agg [.int .i64 k, intsD [a, b, c, e], .bool n, natD m, natD d], .agg [.int .i64 (lo a b), .int .i64 (hi a b)], .agg [.int .i64 (lo c e), .int .i64 (hi c e)]] R.res →
        CallsF Tryz.prog 12 [.agg [.int .i64 k, intsD [a, b, c, e], .bool n, natD m, natD d]] R.res := fun R hR => by
      have j1 : ¬ k = 1 := by omega
      have j6 : ¬ k = 6 := by omega
      have j8 : ¬ k = 8 := by omega
      clear h1 h2 h3 h4 hk i1
      refine callsF_of (T := tb) tab_ok mixed Tryz.func12 rfl (by decide) (Nat.le_of_ble_eq_true rfl) rfl ?_; unfold St.init
      simp (config := { maxSteps := 2000000 }) -implicitDefEqProofs [-List.map_set, set_u16, -Int.natCast_add, -Int.natCast_mul, -Int.natCast_emod, -Int.natCast_ediv, -Int.natCast_pow, nn_add, nn_addl, nn_ladd, nn_mul, nn_mull, nn_lmul, nn_mod, nn_modl, nn_tmod, nn_tmodl, nn_tdiv, nn_tdivl, nn_div, nn_divl, nn_shr, nn_sub1, nn_lel, nn_lle, nn_ltl, nn_llt, nn_eql, nn_leq, nn_eq, nn_neg, nn_pos]
      (first | refine .inl ⟨_, k1, ?_⟩ | refine ⟨_, k1, ?_⟩)
      simp (config := { maxSteps := 2000000 }) -implicitDefEqProofs [-List.map_set, set_u16, -Int.natCast_add, -Int.natCast_mul, -Int.natCast_emod, -Int.natCast_ediv, -Int.natCast_pow, nn_add, nn_addl, nn_ladd, nn_mul, nn_mull, nn_lmul, nn_mod, nn_modl, nn_tmod, nn_tmodl, nn_tdiv, nn_tdivl, nn_div, nn_divl, nn_shr, nn_sub1, nn_lel, nn_lle, nn_ltl, nn_llt, nn_eql, nn_leq, nn_eq, nn_neg, nn_pos, j1, j6, j8, i2, i3]
      refine wpDraw_by [[], [], [1], [1, 2], [], [4], [4, 5], [1, 2, 3, 4, 5, 6], [], [8], [8, 9], [], [11], [11, 12], [1, 2, 3, 4, 5, 6, 7, 8, 9, 10, 11, 12, 13], [0, 1, 2, 3, 4, 5, 6, 7, 8, 9, 10, 11, 12, 13, 14], [0, 1, 2, 3, 4, 5, 6, 7, 8, 9, 10, 11, 12, 13, 14, 15]] [.any [] [] [⟨0, [1], [], [], []⟩, ⟨0, [3], [], [], []⟩, ⟨0, [74], [], [], []⟩, ⟨0, [75], [], [], []⟩, ⟨0, [3], [], [], []⟩, ⟨0, [77], [], [], []⟩, ⟨0, [78], [], [], []⟩, ⟨0, [76, 79], [], [], []⟩, ⟨0, [3], [], [], []⟩, ⟨0, [81], [], [], []⟩, ⟨0, [82], [], [], []⟩, ⟨0, [3], [], [], []⟩, ⟨0, [84], [], [], []⟩, ⟨0, [85], [], [], []⟩, ⟨0, [83, 86], [], [], []⟩], .one, .one] (by rfl) ?_
      simp (config := { maxSteps := 2000000 }) -implicitDefEqProofs [-List.map_set, set_u16, -Int.natCast_add, -Int.natCast_mul, -Int.natCast_emod, -Int.natCast_ediv, -Int.natCast_pow, nn_add, nn_addl, nn_ladd, nn_mul, nn_mull, nn_lmul, nn_mod, nn_modl, nn_tmod, nn_tmodl, nn_tdiv, nn_tdivl, nn_div, nn_divl, nn_shr, nn_sub1, nn_lel, nn_lle, nn_ltl, nn_llt, nn_eql, nn_leq, nn_eq, nn_neg, nn_pos, i64]
      (first | refine .inl ⟨_, r1, ?_⟩ | refine ⟨_, r1, ?_⟩)
      simp (config := { maxSteps := 2000000 }) -implicitDefEqProofs [-List.map_set, set_u16, -Int.natCast_add, -Int.natCast_mul, -Int.natCast_emod, -Int.natCast_ediv, -Int.natCast_pow, nn_add, nn_addl, nn_ladd, nn_mul, nn_mull, nn_lmul, nn_mod, nn_modl, nn_tmod, nn_tmodl, nn_tdiv, nn_tdivl, nn_div, nn_divl, nn_shr, nn_sub1, nn_lel, nn_lle, nn_ltl, nn_llt, nn_eql, nn_leq, nn_eq, nn_neg, nn_pos]
      (first | refine .inl ⟨_, r2, ?_⟩ | refine ⟨_, r2, ?_⟩)
      simp (config := { maxSteps := 2000000 }) -implicitDefEqProofs [-List.map_set, set_u16, -Int.natCast_add, -Int.natCast_mul, -Int.natCast_emod, -Int.natCast_ediv, -Int.natCast_pow, nn_add, nn_addl, nn_ladd, nn_mul, nn_mull, nn_lmul, nn_mod, nn_modl, nn_tmod, nn_tmodl, nn_tdiv, nn_tdivl, nn_div, nn_divl, nn_shr, nn_sub1, nn_lel, nn_lle, nn_ltl, nn_llt, nn_eql, nn_leq, nn_eq, nn_neg, nn_pos]
      (first | refine .inl ⟨_, hR, ?_⟩ | refine ⟨_, hR, ?_⟩)
      simp (config := { maxSteps := 2000000 }) -implicitDefEqProofs [-List.map_set, set_u16, -Int.natCast_add, -Int.natCast_mul, -Int.natCast_emod, -Int.natCast_ediv, -Int.natCast_pow, nn_add, nn_addl, nn_ladd, nn_mul, nn_mull, nn_lmul, nn_mod, nn_modl, nn_tmod, nn_tmodl, nn_tdiv, nn_tdivl, nn_div, nn_divl, nn_shr, nn_sub1, nn_lel, nn_lle, nn_ltl, nn_llt, nn_eql, nn_leq, nn_eq, nn_neg, nn_pos, Fct.res]
    refine key _ ?_
    rw [if_neg i3]
    simp only [two]
    by_cases q2 : k = 2
    · subst q2
      rw [if_pos rfl]
      exact pairs2_c _ n m d _ _ _ _ a1 a2 a3 a4
    rw [if_neg q2]
    by_cases q3 : k = 3 ∨ k = 4
    · rw [if_pos q3]
      exact pairsK_c k _ n m d _ _ _ _ q3
    rw [if_neg q3]
    have q9 : k = 9 := by omega
    subst q9
    rw [if_pos rfl]
    rw [if_pos rfl] at h4
    obtain ⟨e1, e2, d0, g, _⟩ := ratOk_spec h4 oa od
    have r := pairs9_c [a, b, c, e] n (val m) (val d) (lo a b) (hi a b) (lo c e) (hi c e) (oa.lt32 la) (od.lt32 ld) d0 g
    rwa [← e1, ← e2] at r

theorem refSameF_c (f g : Fct) (hf : f.Mild) (hg : g.Mild) : CallsF Tryz.prog 16 [.agg f.ds, .agg g.ds] (.u (.c (.d (.bool (sameF f g))))) := by
  have k1 := ref37Right_c f hf
  have k2 := ref37Right_c g hg
  have k3 := refNormF_c f hf
  have k4 := refNormF_c g hg
  have n1 := fun h => normG_rt (f := f) ⟨h, hf⟩
  have n2 := fun h => normG_rt (f := g) ⟨h, hg⟩
  unfold normF at k3 k4
  unfold sameF
  cases h1 : okF f
  · rw [h1] at k1
    simp only [Fct.ds] at *
    refine callsF_of (T := tb) tab_ok mixed Tryz.func16 rfl (by decide) (Nat.le_of_ble_eq_true rfl) rfl ?_; unfold St.init
    simp (config := { maxSteps := 2000000 }) -implicitDefEqProofs [-List.map_set, set_u16, -Int.natCast_add, -Int.natCast_mul, -Int.natCast_emod, -Int.natCast_ediv, -Int.natCast_pow, nn_add, nn_addl, nn_ladd, nn_mul, nn_mull, nn_lmul, nn_mod, nn_modl, nn_tmod, nn_tmodl, nn_tdiv, nn_tdivl, nn_div, nn_divl, nn_shr, nn_sub1, nn_lel, nn_lle, nn_ltl, nn_llt, nn_eql, nn_leq, nn_eq, nn_neg, nn_pos]
    refine wpDraw_by [[], [0], [0, 1], [0, 1, 2], [0, 1, 2, 3], [0, 1, 2, 3, 4], [0, 1, 2, 3, 4, 5], [0, 1, 2, 3, 4, 5, 6], [0, 1, 2, 3, 4, 5, 6, 7], [0, 1, 2, 3, 4, 5, 6], [0, 1, 2, 3, 4, 5, 6, 7, 8, 9], [0, 1, 2, 3, 4, 5, 6, 7, 8, 9, 10], [0, 1, 2, 3, 4, 5, 6, 7, 8, 9, 10, 11], [0, 1, 2, 3, 4, 5, 6, 7, 8, 9, 10, 11, 12]] [.one, .one, .one, .one, .one, .one, .one, .any [] [] [⟨0, [2, 11], [], [], []⟩, ⟨0, [12, 11], [], [], []⟩, ⟨0, [3, 11], [], [], []⟩], .one, .one, .one, .one] (by rfl) ?_
    simp (config := { maxSteps := 2000000 }) -implicitDefEqProofs [-List.map_set, set_u16, -Int.natCast_add, -Int.natCast_mul, -Int.natCast_emod, -Int.natCast_ediv, -Int.natCast_pow, nn_add, nn_addl, nn_ladd, nn_mul, nn_mull, nn_lmul, nn_mod, nn_modl, nn_tmod, nn_tmodl, nn_tdiv, nn_tdivl, nn_div, nn_divl, nn_shr, nn_sub1, nn_lel, nn_lle, nn_ltl, nn_llt, nn_eql, nn_leq, nn_eq, nn_neg, nn_pos]
    (first | refine .inl ⟨_, k1, ?_⟩ | refine ⟨_, k1, ?_⟩)
    simp (config := { maxSteps := 2000000 }) -implicitDefEqProofs [-List.map_set, set_u16, -Int.natCast_add, -Int.natCast_mul, -Int.natCast_emod, -Int.natCast_ediv, -Int.natCast_pow, nn_add, nn_addl, nn_ladd, nn_mul, nn_mull, nn_lmul, nn_mod, nn_modl, nn_tmod, nn_tmodl, nn_tdiv, nn_tdivl, nn_div, nn_divl, nn_shr, nn_sub1, nn_lel, nn_lle, nn_ltl, nn_llt, nn_eql, nn_leq, nn_eq, nn_neg, nn_pos]
  · cases h2 : okF g
    · rw [h1] at k1
      rw [h2] at k2
      simp only [Fct.ds] at *
      refine callsF_of (T := tb) tab_ok mixed Tryz.func16 rfl (by decide) (Nat.le_of_ble_eq_true rfl) rfl ?_; unfold St.init
      simp (config := { maxSteps := 2000000 }) -implicitDefEqProofs [-List.map_set, set_u16, -Int.natCast_add, -Int.natCast_mul, -Int.natCast_emod, -Int.natCast_ediv, -Int.natCast_pow, nn_add, nn_addl, nn_ladd, nn_mul, nn_mull, nn_lmul, nn_mod, nn_modl, nn_tmod, nn_tmodl, nn_tdiv, nn_tdivl, nn_div, nn_divl, nn_shr, nn_sub1, nn_lel, nn_lle, nn_ltl, nn_llt, nn_eql, nn_leq, nn_eq, nn_neg, nn_pos]
      refine wpDraw_by [[], [0], [0, 1], [0, 1, 2], [0, 1, 2, 3], [0, 1, 2, 3, 4], [0, 1, 2, 3, 4, 5], [0, 1, 2, 3, 4, 5, 6], [0, 1, 2, 3, 4, 5, 6, 7], [0, 1, 2, 3, 4, 5, 6], [0, 1, 2, 3, 4, 5, 6, 7, 8, 9], [0, 1, 2, 3, 4, 5, 6, 7, 8, 9, 10], [0, 1, 2, 3, 4, 5, 6, 7, 8, 9, 10, 11], [0, 1, 2, 3, 4, 5, 6, 7, 8, 9, 10, 11, 12]] [.one, .one, .one, .one, .one, .one, .one, .any [] [] [⟨0, [2, 11], [], [], []⟩, ⟨0, [12, 11], [], [], []⟩, ⟨0, [3, 11], [], [], []⟩], .one, .one, .one, .one] (by rfl) ?_
      simp (config := { maxSteps := 2000000 }) -implicitDefEqProofs [-List.map_set, set_u16, -Int.natCast_add, -Int.natCast_mul, -Int.natCast_emod, -Int.natCast_ediv, -Int.natCast_pow, nn_add, nn_addl, nn_ladd, nn_mul, nn_mull, nn_lmul, nn_mod, nn_modl, nn_tmod, nn_tmodl, nn_tdiv, nn_tdivl, nn_div, nn_divl, nn_shr, nn_sub1, nn_lel, nn_lle, nn_ltl, nn_llt, nn_eql, nn_leq, nn_eq, nn_neg, nn_pos]
      (first | refine .inl ⟨_, k1, ?_⟩ | refine ⟨_, k1, ?_⟩)
      simp (config := { maxSteps := 2000000 }) -implicitDefEqProofs [-List.map_set, set_u16, -Int.natCast_add, -Int.natCast_mul, -Int.natCast_emod, -Int.natCast_ediv, -Int.natCast_pow, nn_add, nn_addl, nn_ladd, nn_mul, nn_mull, nn_lmul, nn_mod, nn_modl, nn_tmod, nn_tmodl, nn_tdiv, nn_tdivl, nn_div, nn_divl, nn_shr, nn_sub1, nn_lel, nn_lle, nn_ltl, nn_llt, nn_eql, nn_leq, nn_eq, nn_neg, nn_pos]
      (first | refine .inl ⟨_, k2, ?_⟩ | refine ⟨_, k2, ?_⟩)
      simp (config := { maxSteps := 2000000 }) -implicitDefEqProofs [-List.map_set, set_u16, -Int.natCast_add, -Int.natCast_mul, -Int.natCast_emod, -Int.natCast_ediv, -Int.natCast_pow, nn_add, nn_addl, nn_ladd, nn_mul, nn_mull, nn_lmul, nn_mod, nn_modl, nn_tmod, nn_tmodl, nn_tdiv, nn_tdivl, nn_div, nn_divl, nn_shr, nn_sub1, nn_lel, nn_lle, nn_ltl, nn_llt, nn_eql, nn_leq, nn_eq, nn_neg, nn_pos]
    · have n1 := n1 h1
      have n2 := n2 h2
      have k5 := refEqualF_c (normG f) (normG g) n1.mild n2.mild n1.val n2.val
      rw [h1] at k1 k3
      rw [h2] at k2 k4
      rw [if_pos rfl] at k3 k4
      generalize normG f = x at *
      generalize normG g = y at *
      simp only [Fct.ds, Fct.res] at *
      refine callsF_of (T := tb) tab_ok mixed Tryz.func16 rfl (by decide) (Nat.le_of_ble_eq_true rfl) rfl ?_; unfold St.init
      simp (config := { maxSteps := 2000000 }) -implicitDefEqProofs [-List.map_set, set_u16, -Int.natCast_add, -Int.natCast_mul, -Int.natCast_emod, -Int.natCast_ediv, -Int.natCast_pow, nn_add, nn_addl, nn_ladd, nn_mul, nn_mull, nn_lmul, nn_mod, nn_modl, nn_tmod, nn_tmodl, nn_tdiv, nn_tdivl, nn_div, nn_divl, nn_shr, nn_sub1, nn_lel, nn_lle, nn_ltl, nn_llt, nn_eql, nn_leq, nn_eq, nn_neg, nn_pos]
      refine wpDraw_by [[], [0], [0, 1], [0, 1, 2], [0, 1, 2, 3], [0, 1, 2, 3, 4], [0, 1, 2, 3, 4, 5], [0, 1, 2, 3, 4, 5, 6], [0, 1, 2, 3, 4, 5, 6, 7], [0, 1, 2, 3, 4, 5, 6], [0, 1, 2, 3, 4, 5, 6, 7, 8, 9], [0, 1, 2, 3, 4, 5, 6, 7, 8, 9, 10], [0, 1, 2, 3, 4, 5, 6, 7, 8, 9, 10, 11], [0, 1, 2, 3, 4, 5, 6, 7, 8, 9, 10, 11, 12]] [.one, .one, .one, .one, .one, .one, .one, .any [] [] [⟨0, [2, 11], [], [], []⟩, ⟨0, [12, 11], [], [], []⟩, ⟨0, [3, 11], [], [], []⟩], .one, .one, .one, .one] (by rfl) ?_
      simp (config := { maxSteps := 2000000 }) -implicitDefEqProofs [-List.map_set, set_u16, -Int.natCast_add, -Int.natCast_mul, -Int.natCast_emod, -Int.natCast_ediv, -Int.natCast_pow, nn_add, nn_addl, nn_ladd, nn_mul, nn_mull, nn_lmul, nn_mod, nn_modl, nn_tmod, nn_tmodl, nn_tdiv, nn_tdivl, nn_div, nn_divl, nn_shr, nn_sub1, nn_lel, nn_lle, nn_ltl, nn_llt, nn_eql, nn_leq, nn_eq, nn_neg, nn_pos]
      (first | refine .inl ⟨_, k1, ?_⟩ | refine ⟨_, k1, ?_⟩)
      simp (config := { maxSteps := 2000000 }) -implicitDefEqProofs [-List.map_set, set_u16, -Int.natCast_add, -Int.natCast_mul, -Int.natCast_emod, -Int.natCast_ediv, -Int.natCast_pow, nn_add, nn_addl, nn_ladd, nn_mul, nn_mull, nn_lmul, nn_mod, nn_modl, nn_tmod, nn_tmodl, nn_tdiv, nn_tdivl, nn_div, nn_divl, nn_shr, nn_sub1, nn_lel, nn_lle, nn_ltl, nn_llt, nn_eql, nn_leq, nn_eq, nn_neg, nn_pos]
      (first | refine .inl ⟨_, k2, ?_⟩ | refine ⟨_, k2, ?_⟩)
      simp (config := { maxSteps := 2000000 }) -implicitDefEqProofs [-List.map_set, set_u16, -Int.natCast_add, -Int.natCast_mul, -Int.natCast_emod, -Int.natCast_ediv, -Int.natCast_pow, nn_add, nn_addl, nn_ladd, nn_mul, nn_mull, nn_lmul, nn_mod, nn_modl, nn_tmod, nn_tmodl, nn_tdiv, nn_tdivl, nn_div, nn_divl, nn_shr, nn_sub1, nn_lel, nn_lle, nn_ltl, nn_llt, nn_eql, nn_leq, nn_eq, nn_neg, nn_pos]
      (first | refine .inl ⟨_, k3, ?_⟩ | refine ⟨_, k3, ?_⟩)
      simp (config := { maxSteps := 2000000 }) -implicitDefEqProofs [-List.map_set, set_u16, -Int.natCast_add, -Int.natCast_mul, -Int.natCast_emod, -Int.natCast_ediv, -Int.natCast_pow, nn_add, nn_addl, nn_ladd, nn_mul, nn_mull, nn_lmul, nn_mod, nn_modl, nn_tmod, nn_tmodl, nn_tdiv, nn_tdivl, nn_div, nn_divl, nn_shr, nn_sub1, nn_lel, nn_lle, nn_ltl, nn_llt, nn_eql, nn_leq, nn_eq, nn_neg, nn_pos]
      (first | refine .inl ⟨_, k4, ?_⟩ | refine ⟨_, k4, ?_⟩)
      simp (config := { maxSteps := 2000000 }) -implicitDefEqProofs [-List.map_set, set_u16, -Int.natCast_add, -Int.natCast_mul, -Int.natCast_emod, -Int.natCast_ediv, -Int.natCast_pow, nn_add, nn_addl, nn_ladd, nn_mul, nn_mull, nn_lmul, nn_mod, nn_modl, nn_tmod, nn_tmodl, nn_tdiv, nn_tdivl, nn_div, nn_divl, nn_shr, nn_sub1, nn_lel, nn_lle, nn_ltl, nn_llt, nn_eql, nn_leq, nn_eq, nn_neg, nn_pos]
      (first | refine .inl ⟨_, k5, ?_⟩ | refine ⟨_, k5, ?_⟩)
      simp (config := { maxSteps := 2000000 }) -implicitDefEqProofs [-List.map_set, set_u16, -Int.natCast_add, -Int.natCast_mul, -Int.natCast_emod, -Int.natCast_ediv, -Int.natCast_pow, nn_add, nn_addl, nn_ladd, nn_mul, nn_mull, nn_lmul, nn_mod, nn_modl, nn_tmod, nn_tmodl, nn_tdiv, nn_tdivl, nn_div, nn_divl, nn_shr, nn_sub1, nn_lel, nn_lle, nn_ltl, nn_llt, nn_eql, nn_leq, nn_eq, nn_neg, nn_pos]

end Go.Va

/-
  Contracts: the document's facts: Trivial.
-/
namespace Go.Va
open Go.Proofs
set_option maxHeartbeats 4000000
set_option maxRecDepth 10000
set_option linter.unusedSimpArgs false
set_option linter.unusedVariables false

theorem nodup_iff (l : List Int) : l.Nodup ↔ ∀ p q (hq : q < l.length) (hp : p < q), l[p] ≠ l[q] := by
  unfold List.Nodup
  rw [List.pairwise_iff_getElem]
  exact ⟨fun h p q hq hp => h p q (by omega) hq hp, fun h p q _ hq hp => h p q hq hp⟩

theorem refRepeats_c (l : List Int) (hl : l.length ≤ 1099511627776) : CallsF Tryz.prog 40 [.c (intsD l)] (.u (.c (.d (.bool (!decide l.Nodup))))) := by
  refine callsF_of (T := tb) tab_ok mixed Tryz.func40 rfl (by decide) (Nat.le_of_ble_eq_true rfl) rfl ?_; unfold St.init
  simp (config := { maxSteps := 2000000 }) -implicitDefEqProofs [-List.map_set, set_u16, -Int.natCast_add, -Int.natCast_mul, -Int.natCast_emod, -Int.natCast_ediv, -Int.natCast_pow, nn_add, nn_addl, nn_ladd, nn_mul, nn_mull, nn_lmul, nn_mod, nn_modl, nn_tmod, nn_tmodl, nn_tdiv, nn_tdivl, nn_div, nn_divl, nn_shr, nn_sub1, nn_lel, nn_lle, nn_ltl, nn_llt, nn_eql, nn_leq, nn_eq, nn_neg, nn_pos]
  refine wpLoop_of (fun i : Nat => ⟨[(3, vI .i64 i), (0, vC (.d (intsD l)))], []⟩) (fun i => i ≤ l.length ∧ ∀ p q (hq : q < l.length) (hp : p < q), p < i → l[p] ≠ l[q]) (fun i => l.length - i) 0 (by simp) (by simp) ?_
  rintro i ⟨h1, h2⟩
  by_cases h : i < l.length
  · simp (config := { maxSteps := 2000000 }) -implicitDefEqProofs [-List.map_set, set_u16, -Int.natCast_add, -Int.natCast_mul, -Int.natCast_emod, -Int.natCast_ediv, -Int.natCast_pow, nn_add, nn_addl, nn_ladd, nn_mul, nn_mull, nn_lmul, nn_mod, nn_modl, nn_tmod, nn_tmodl, nn_tdiv, nn_tdivl, nn_div, nn_divl, nn_shr, nn_sub1, nn_lel, nn_lle, nn_ltl, nn_llt, nn_eql, nn_leq, nn_eq, nn_neg, nn_pos, h]
    refine ⟨by omega, ?_⟩
    refine wpLoop_of (fun k : Nat => ⟨[(4, vI .i64 k), (3, vI .i64 i), (0, vC (.d (intsD l)))], []⟩) (fun k => i < k ∧ k ≤ l.length ∧ ∀ q (hq : q < l.length) (hp : i < q), q < k → l[i] ≠ l[q]) (fun k => l.length - k) (i + 1) (by simp) (And.intro (Nat.lt_succ_self i) (And.intro h fun q hq a b => absurd b (by omega))) ?_
    rintro k ⟨j1, j2, j3⟩
    by_cases g : k < l.length
    · simp (config := { maxSteps := 2000000 }) -implicitDefEqProofs [-List.map_set, set_u16, -Int.natCast_add, -Int.natCast_mul, -Int.natCast_emod, -Int.natCast_ediv, -Int.natCast_pow, nn_add, nn_addl, nn_ladd, nn_mul, nn_mull, nn_lmul, nn_mod, nn_modl, nn_tmod, nn_tmodl, nn_tdiv, nn_tdivl, nn_div, nn_divl, nn_shr, nn_sub1, nn_lel, nn_lle, nn_ltl, nn_llt, nn_eql, nn_leq, nn_eq, nn_neg, nn_pos, g]
      refine wpDraw_by [[], [], [0, 1], [0, 1, 2], [], [], [4, 5], [4, 5, 6], [0, 1, 2, 3, 4, 5, 6, 7]] [.any [] [] [⟨0, [0], [], [], []⟩, ⟨0, [3], [], [], []⟩, ⟨0, [19, 20], [], [], []⟩, ⟨0, [21], [], [], []⟩, ⟨0, [0], [], [], []⟩, ⟨0, [4], [], [], []⟩, ⟨0, [23, 24], [], [], []⟩, ⟨0, [25], [], [], []⟩], .one] (by rfl) ?_
      simp (config := { maxSteps := 2000000 }) -implicitDefEqProofs [-List.map_set, set_u16, -Int.natCast_add, -Int.natCast_mul, -Int.natCast_emod, -Int.natCast_ediv, -Int.natCast_pow, nn_add, nn_addl, nn_ladd, nn_mul, nn_mull, nn_lmul, nn_mod, nn_modl, nn_tmod, nn_tmodl, nn_tdiv, nn_tdivl, nn_div, nn_divl, nn_shr, nn_sub1, nn_lel, nn_lle, nn_ltl, nn_llt, nn_eql, nn_leq, nn_eq, nn_neg, nn_pos, h, g, i64]
      by_cases e : l[i] = l[k]
      · simp (config := { maxSteps := 2000000 }) -implicitDefEqProofs [-List.map_set, set_u16, -Int.natCast_add, -Int.natCast_mul, -Int.natCast_emod, -Int.natCast_ediv, -Int.natCast_pow, nn_add, nn_addl, nn_ladd, nn_mul, nn_mull, nn_lmul, nn_mod, nn_modl, nn_tmod, nn_tmodl, nn_tdiv, nn_tdivl, nn_div, nn_divl, nn_shr, nn_sub1, nn_lel, nn_lle, nn_ltl, nn_llt, nn_eql, nn_leq, nn_eq, nn_neg, nn_pos, e]
        rw [nodup_iff]
        exact fun q => q i k g j1 e
      · simp (config := { maxSteps := 2000000 }) -implicitDefEqProofs [-List.map_set, set_u16, -Int.natCast_add, -Int.natCast_mul, -Int.natCast_emod, -Int.natCast_ediv, -Int.natCast_pow, nn_add, nn_addl, nn_ladd, nn_mul, nn_mull, nn_lmul, nn_mod, nn_modl, nn_tmod, nn_tmodl, nn_tdiv, nn_tdivl, nn_div, nn_divl, nn_shr, nn_sub1, nn_lel, nn_lle, nn_ltl, nn_llt, nn_eql, nn_leq, nn_eq, nn_neg, nn_pos, e]
        exact ⟨by omega, ⟨by omega, by omega, fun q hq a b => if c : q = k then by subst c; exact e else j3 q hq a (by omega)⟩, by omega⟩
    · have : k = l.length := by omega
      subst this
      simp (config := { maxSteps := 2000000 }) -implicitDefEqProofs [-List.map_set, set_u16, -Int.natCast_add, -Int.natCast_mul, -Int.natCast_emod, -Int.natCast_ediv, -Int.natCast_pow, nn_add, nn_addl, nn_ladd, nn_mul, nn_mull, nn_lmul, nn_mod, nn_modl, nn_tmod, nn_tmodl, nn_tdiv, nn_tdivl, nn_div, nn_divl, nn_shr, nn_sub1, nn_lel, nn_lle, nn_ltl, nn_llt, nn_eql, nn_leq, nn_eq, nn_neg, nn_pos]
      exact ⟨by omega, ⟨by omega, fun p q hq hp a => if c : p = i then by subst c; exact j3 q hq hp hq else h2 p q hq hp (by omega)⟩, by omega⟩
  · have : i = l.length := by omega
    subst this
    simp (config := { maxSteps := 2000000 }) -implicitDefEqProofs [-List.map_set, set_u16, -Int.natCast_add, -Int.natCast_mul, -Int.natCast_emod, -Int.natCast_ediv, -Int.natCast_pow, nn_add, nn_addl, nn_ladd, nn_mul, nn_mull, nn_lmul, nn_mod, nn_modl, nn_tmod, nn_tmodl, nn_tdiv, nn_tdivl, nn_div, nn_divl, nn_shr, nn_sub1, nn_lel, nn_lle, nn_ltl, nn_llt, nn_eql, nn_leq, nn_eq, nn_neg, nn_pos]
    rw [nodup_iff]
    exact fun p q hq hp => h2 p q hq hp (by omega)

theorem refEven_c (a1 b1 c1 d1 e1 f1 g1 h1 : Int) : CallsF Tryz.prog 41 [.agg [.int .i64 a1, .int .i64 b1], .agg [.int .i64 c1, .int .i64 d1], .agg [.int .i64 e1, .int .i64 f1], .agg [.int .i64 g1, .int .i64 h1]]
    (.u (.c (.d (.bool (trivAng (a1, b1) (c1, d1) (e1, f1) (g1, h1)))))) := by
  unfold trivAng
  refine callsF_of (T := tb) tab_ok mixed Tryz.func41 rfl (by decide) (Nat.le_of_ble_eq_true rfl) rfl ?_; unfold St.init
  simp (config := { maxSteps := 2000000 }) -implicitDefEqProofs [-List.map_set, set_u16, -Int.natCast_add, -Int.natCast_mul, -Int.natCast_emod, -Int.natCast_ediv, -Int.natCast_pow, nn_add, nn_addl, nn_ladd, nn_mul, nn_mull, nn_lmul, nn_mod, nn_modl, nn_tmod, nn_tmodl, nn_tdiv, nn_tdivl, nn_div, nn_divl, nn_shr, nn_sub1, nn_lel, nn_lle, nn_ltl, nn_llt, nn_eql, nn_leq, nn_eq, nn_neg, nn_pos]
  by_cases q1 : a1 = b1
  · simp (config := { maxSteps := 2000000 }) -implicitDefEqProofs [-List.map_set, set_u16, -Int.natCast_add, -Int.natCast_mul, -Int.natCast_emod, -Int.natCast_ediv, -Int.natCast_pow, nn_add, nn_addl, nn_ladd, nn_mul, nn_mull, nn_lmul, nn_mod, nn_modl, nn_tmod, nn_tmodl, nn_tdiv, nn_tdivl, nn_div, nn_divl, nn_shr, nn_sub1, nn_lel, nn_lle, nn_ltl, nn_llt, nn_eql, nn_leq, nn_eq, nn_neg, nn_pos, q1]
  by_cases q2 : c1 = d1
  · simp (config := { maxSteps := 2000000 }) -implicitDefEqProofs [-List.map_set, set_u16, -Int.natCast_add, -Int.natCast_mul, -Int.natCast_emod, -Int.natCast_ediv, -Int.natCast_pow, nn_add, nn_addl, nn_ladd, nn_mul, nn_mull, nn_lmul, nn_mod, nn_modl, nn_tmod, nn_tmodl, nn_tdiv, nn_tdivl, nn_div, nn_divl, nn_shr, nn_sub1, nn_lel, nn_lle, nn_ltl, nn_llt, nn_eql, nn_leq, nn_eq, nn_neg, nn_pos, q1, q2]
  by_cases q3 : e1 = f1
  · simp (config := { maxSteps := 2000000 }) -implicitDefEqProofs [-List.map_set, set_u16, -Int.natCast_add, -Int.natCast_mul, -Int.natCast_emod, -Int.natCast_ediv, -Int.natCast_pow, nn_add, nn_addl, nn_ladd, nn_mul, nn_mull, nn_lmul, nn_mod, nn_modl, nn_tmod, nn_tmodl, nn_tdiv, nn_tdivl, nn_div, nn_divl, nn_shr, nn_sub1, nn_lel, nn_lle, nn_ltl, nn_llt, nn_eql, nn_leq, nn_eq, nn_neg, nn_pos, q1, q2, q3]
  by_cases q4 : g1 = h1
  · simp (config := { maxSteps := 2000000 }) -implicitDefEqProofs [-List.map_set, set_u16, -Int.natCast_add, -Int.natCast_mul, -Int.natCast_emod, -Int.natCast_ediv, -Int.natCast_pow, nn_add, nn_addl, nn_ladd, nn_mul, nn_mull, nn_lmul, nn_mod, nn_modl, nn_tmod, nn_tmodl, nn_tdiv, nn_tdivl, nn_div, nn_divl, nn_shr, nn_sub1, nn_lel, nn_lle, nn_ltl, nn_llt, nn_eql, nn_leq, nn_eq, nn_neg, nn_pos, q1, q2, q3, q4]
  simp (config := { maxSteps := 2000000 }) -implicitDefEqProofs [-List.map_set, set_u16, -Int.natCast_add, -Int.natCast_mul, -Int.natCast_emod, -Int.natCast_ediv, -Int.natCast_pow, nn_add, nn_addl, nn_ladd, nn_mul, nn_mull, nn_lmul, nn_mod, nn_modl, nn_tmod, nn_tmodl, nn_tdiv, nn_tdivl, nn_div, nn_divl, nn_shr, nn_sub1, nn_lel, nn_lle, nn_ltl, nn_llt, nn_eql, nn_leq, nn_eq, nn_neg, nn_pos, q1, q2, q3, q4]
  clear q1 q2 q3 q4
  have E : ∀ x y : Int, (x = y) = (y = x) := fun x y => propext eq_comm
  simp only [E c1 a1, E d1 b1, E e1 g1, E f1 h1, E c1 g1, E d1 h1, E e1 a1, E f1 b1]
  clear E
  rcases Classical.propComplete (a1 = c1) with x1 | x1 <;> rcases Classical.propComplete (b1 = d1) with x2 | x2 <;>
    rcases Classical.propComplete (g1 = e1) with x3 | x3 <;> rcases Classical.propComplete (h1 = f1) with x4 | x4 <;>
    simp only [x1, x2, x3, x4, decide_true, decide_false, Bool.true_and, Bool.and_true, Bool.false_and, Bool.and_false, Bool.or_false, Bool.false_or, Bool.or_true, Bool.true_or, true_and, and_true, false_and, and_false, or_false, or_true, true_or, false_or, not_true_eq_false, not_false_eq_true, true_implies, false_implies, implies_true] <;>
    rcases Classical.propComplete (a1 = e1) with x5 | x5 <;> rcases Classical.propComplete (b1 = f1) with x6 | x6 <;>
    rcases Classical.propComplete (g1 = c1) with x7 | x7 <;> rcases Classical.propComplete (h1 = d1) with x8 | x8 <;>
    simp [x5, x6, x7, x8]

theorem refTrivial_c (f : Fct) (hf : f.Mild) : CallsF Tryz.prog 14 [.agg f.ds] (.u (.c (.d (.bool (trivF f))))) := by
  have k1 := ref37Right_c f hf
  have k2 := fun h => (Fct.Rt.mk h hf).parts
  unfold trivF
  obtain ⟨k, l, n, m, d⟩ := f
  obtain ⟨la, ld, oa, od, ln⟩ := hf
  simp only [Fct.ds] at *
  cases h : okF ⟨k, l, n, m, d⟩
  · rw [h] at k1
    refine callsF_of (T := tb) tab_ok mixed Tryz.func14 rfl (by decide) (Nat.le_of_ble_eq_true rfl) rfl ?_; unfold St.init
    simp (config := { maxSteps := 2000000 }) -implicitDefEqProofs [-List.map_set, set_u16, -Int.natCast_add, -Int.natCast_mul, -Int.natCast_emod, -Int.natCast_ediv, -Int.natCast_pow, nn_add, nn_addl, nn_ladd, nn_mul, nn_mull, nn_lmul, nn_mod, nn_modl, nn_tmod, nn_tmodl, nn_tdiv, nn_tdivl, nn_div, nn_divl, nn_shr, nn_sub1, nn_lel, nn_lle, nn_ltl, nn_llt, nn_eql, nn_leq, nn_eq, nn_neg, nn_pos]
    (first | refine .inl ⟨_, k1, ?_⟩ | refine ⟨_, k1, ?_⟩)
    simp (config := { maxSteps := 2000000 }) -implicitDefEqProofs [-List.map_set, set_u16, -Int.natCast_add, -Int.natCast_mul, -Int.natCast_emod, -Int.natCast_ediv, -Int.natCast_pow, nn_add, nn_addl, nn_ladd, nn_mul, nn_mull, nn_lmul, nn_mod, nn_modl, nn_tmod, nn_tmodl, nn_tdiv, nn_tdivl, nn_div, nn_divl, nn_shr, nn_sub1, nn_lel, nn_lle, nn_ltl, nn_llt, nn_eql, nn_leq, nn_eq, nn_neg, nn_pos]
  · rw [h] at k1
    obtain ⟨h1, h2, h3, h4⟩ := k2 h
    clear k2 h
    unfold trivG
    simp only
    rw [Bool.true_and]
    by_cases i1 : k = 1 ∨ k = 6 ∨ k = 8
    · rw [if_pos i1]
      have r := refRepeats_c l ln
      clear h1 h2 h3 h4
      refine callsF_of (T := tb) tab_ok mixed Tryz.func14 rfl (by decide) (Nat.le_of_ble_eq_true rfl) rfl ?_; unfold St.init
      simp (config := { maxSteps := 2000000 }) -implicitDefEqProofs [-List.map_set, set_u16, -Int.natCast_add, -Int.natCast_mul, -Int.natCast_emod, -Int.natCast_ediv, -Int.natCast_pow, nn_add, nn_addl, nn_ladd, nn_mul, nn_mull, nn_lmul, nn_mod, nn_modl, nn_tmod, nn_tmodl, nn_tdiv, nn_tdivl, nn_div, nn_divl, nn_shr, nn_sub1, nn_lel, nn_lle, nn_ltl, nn_llt, nn_eql, nn_leq, nn_eq, nn_neg, nn_pos]
      (first | refine .inl ⟨_, k1, ?_⟩ | refine ⟨_, k1, ?_⟩)
      rcases i1 with rfl | rfl | rfl <;> simp (config := { maxSteps := 2000000 }) -implicitDefEqProofs [-List.map_set, set_u16, -Int.natCast_add, -Int.natCast_mul, -Int.natCast_emod, -Int.natCast_ediv, -Int.natCast_pow, nn_add, nn_addl, nn_ladd, nn_mul, nn_mull, nn_lmul, nn_mod, nn_modl, nn_tmod, nn_tmodl, nn_tdiv, nn_tdivl, nn_div, nn_divl, nn_shr, nn_sub1, nn_lel, nn_lle, nn_ltl, nn_llt, nn_eql, nn_leq, nn_eq, nn_neg, nn_pos] <;> (first | refine .inl ⟨_, r, ?_⟩ | refine ⟨_, r, ?_⟩) <;> simp (config := { maxSteps := 2000000 }) -implicitDefEqProofs [-List.map_set, set_u16, -Int.natCast_add, -Int.natCast_mul, -Int.natCast_emod, -Int.natCast_ediv, -Int.natCast_pow, nn_add, nn_addl, nn_ladd, nn_mul, nn_mull, nn_lmul, nn_mod, nn_modl, nn_tmod, nn_tmodl, nn_tdiv, nn_tdivl, nn_div, nn_divl, nn_shr, nn_sub1, nn_lel, nn_lle, nn_ltl, nn_llt, nn_eql, nn_leq, nn_eq, nn_neg, nn_pos]
    rw [if_neg i1]
    by_cases i2 : k = 5
    · subst i2
      obtain ⟨a, b, c, rfl⟩ := list3 (by simpa [arity] using h2)
      rw [if_pos rfl]
      clear h1 h2 h3 h4
      refine callsF_of (T := tb) tab_ok mixed Tryz.func14 rfl (by decide) (Nat.le_of_ble_eq_true rfl) rfl ?_; unfold St.init
      simp (config := { maxSteps := 2000000 }) -implicitDefEqProofs [-List.map_set, set_u16, -Int.natCast_add, -Int.natCast_mul, -Int.natCast_emod, -Int.natCast_ediv, -Int.natCast_pow, nn_add, nn_addl, nn_ladd, nn_mul, nn_mull, nn_lmul, nn_mod, nn_modl, nn_tmod, nn_tmodl, nn_tdiv, nn_tdivl, nn_div, nn_divl, nn_shr, nn_sub1, nn_lel, nn_lle, nn_ltl, nn_llt, nn_eql, nn_leq, nn_eq, nn_neg, nn_pos]
      (first | refine .inl ⟨_, k1, ?_⟩ | refine ⟨_, k1, ?_⟩)
      simp (config := { maxSteps := 2000000 }) -implicitDefEqProofs [-List.map_set, set_u16, -Int.natCast_add, -Int.natCast_mul, -Int.natCast_emod, -Int.natCast_ediv, -Int.natCast_pow, nn_add, nn_addl, nn_ladd, nn_mul, nn_mull, nn_lmul, nn_mod, nn_modl, nn_tmod, nn_tmodl, nn_tdiv, nn_tdivl, nn_div, nn_divl, nn_shr, nn_sub1, nn_lel, nn_lle, nn_ltl, nn_llt, nn_eql, nn_leq, nn_eq, nn_neg, nn_pos]
      refine wpDraw_by [[], [0], [0, 1], [], [3], [3, 4], [0, 1, 2, 3, 4, 5], [0, 1, 2, 3, 4, 5, 6], [0, 1, 2, 3, 4, 5, 6, 7], [0, 1, 2, 3, 4, 5, 6, 7, 8], [0, 1, 2, 3, 4, 5, 6, 7, 8, 9], [0, 1, 2, 3, 4, 5, 6, 7], [0, 1, 2, 3, 4, 5, 6, 7, 11], [0, 1, 2, 3, 4, 5, 6, 7, 11, 12], [0, 1, 2, 3, 4, 5, 6, 7, 8, 9, 10, 11, 12, 13], [0, 1, 2, 3, 4, 5, 6, 7, 8, 9, 10, 11, 12, 13, 14], [0, 1, 2, 3, 4, 5, 6, 7, 8, 9, 10, 11, 12, 13, 14, 15]] [.any [] [] [⟨0, [3], [], [], []⟩, ⟨0, [21], [], [], []⟩, ⟨0, [22], [], [], []⟩, ⟨0, [3], [], [], []⟩, ⟨0, [24], [], [], []⟩, ⟨0, [25], [], [], []⟩], .one, .one, .any [] [] [⟨0, [3, 28], [], [], []⟩, ⟨0, [29, 28], [], [], []⟩, ⟨0, [30, 28], [], [], []⟩, ⟨0, [3, 28], [], [], []⟩, ⟨0, [32, 28], [], [], []⟩, ⟨0, [33, 28], [], [], []⟩], .one, .one, .one] (by rfl) ?_
      by_cases j : a = b <;> simp (config := { maxSteps := 2000000 }) -implicitDefEqProofs [-List.map_set, set_u16, -Int.natCast_add, -Int.natCast_mul, -Int.natCast_emod, -Int.natCast_ediv, -Int.natCast_pow, nn_add, nn_addl, nn_ladd, nn_mul, nn_mull, nn_lmul, nn_mod, nn_modl, nn_tmod, nn_tmodl, nn_tdiv, nn_tdivl, nn_div, nn_divl, nn_shr, nn_sub1, nn_lel, nn_lle, nn_ltl, nn_llt, nn_eql, nn_leq, nn_eq, nn_neg, nn_pos, j, i64]
    rw [if_neg i2]
    by_cases i4 : k = 7
    · subst i4
      obtain ⟨a, b, c, e, a', b', c', e', rfl⟩ := list8 (by simpa [arity] using h2)
      rw [if_neg (by omega), if_pos rfl]
      have r1 := refTwo_c a b
      have r2 := refTwo_c c e
      have r3 := refTwo_c a' b'
      have r4 := refTwo_c c' e'
      have r5 := refEven_c (lo a b) (hi a b) (lo c e) (hi c e) (lo a' b') (hi a' b') (lo c' e') (hi c' e')
      simp only [two]
      clear h1 h2 h3 h4
      refine callsF_of (T := tb) tab_ok mixed Tryz.func14 rfl (by decide) (Nat.le_of_ble_eq_true rfl) rfl ?_; unfold St.init
      simp (config := { maxSteps := 2000000 }) -implicitDefEqProofs [-List.map_set, set_u16, -Int.natCast_add, -Int.natCast_mul, -Int.natCast_emod, -Int.natCast_ediv, -Int.natCast_pow, nn_add, nn_addl, nn_ladd, nn_mul, nn_mull, nn_lmul, nn_mod, nn_modl, nn_tmod, nn_tmodl, nn_tdiv, nn_tdivl, nn_div, nn_divl, nn_shr, nn_sub1, nn_lel, nn_lle, nn_ltl, nn_llt, nn_eql, nn_leq, nn_eq, nn_neg, nn_pos]
      (first | refine .inl ⟨_, k1, ?_⟩ | refine ⟨_, k1, ?_⟩)
      simp (config := { maxSteps := 2000000 }) -implicitDefEqProofs [-List.map_set, set_u16, -Int.natCast_add, -Int.natCast_mul, -Int.natCast_emod, -Int.natCast_ediv, -Int.natCast_pow, nn_add, nn_addl, nn_ladd, nn_mul, nn_mull, nn_lmul, nn_mod, nn_modl, nn_tmod, nn_tmodl, nn_tdiv, nn_tdivl, nn_div, nn_divl, nn_shr, nn_sub1, nn_lel, nn_lle, nn_ltl, nn_llt, nn_eql, nn_leq, nn_eq, nn_neg, nn_pos]
      refine wpDraw_by [[], [0], [0, 1], [], [3], [3, 4], [0, 1, 2, 3, 4, 5], [], [7], [7, 8], [], [10], [10, 11], [0, 1, 2, 3, 4, 5, 6, 7, 8, 9, 10, 11, 12], [], [14], [14, 15], [], [17], [17, 18], [0, 1, 2, 3, 4, 5, 6, 7, 8, 9, 10, 11, 12, 13, 14, 15, 16, 17, 18, 19], [], [21], [21, 22], [], [24], [24, 25], [0, 1, 2, 3, 4, 5, 6, 7, 8, 9, 10, 11, 12, 13, 14, 15, 16, 17, 18, 19, 20, 21, 22, 23, 24, 25, 26], [0, 1, 2, 3, 4, 5, 6, 7, 8, 9, 10, 11, 12, 13, 14, 15, 16, 17, 18, 19, 20, 21, 22, 23, 24, 25, 26, 27], [0, 1, 2, 3, 4, 5, 6, 7, 8, 9, 10, 11, 12, 13, 14, 15, 16, 17, 18, 19, 20, 21, 22, 23, 24, 25, 26, 27, 28]] [.any [] [] [⟨0, [3], [], [], []⟩, ⟨0, [39], [], [], []⟩, ⟨0, [40], [], [], []⟩, ⟨0, [3], [], [], []⟩, ⟨0, [42], [], [], []⟩, ⟨0, [43], [], [], []⟩, ⟨0, [41, 44], [], [], []⟩, ⟨0, [3], [], [], []⟩, ⟨0, [46], [], [], []⟩, ⟨0, [47], [], [], []⟩, ⟨0, [3], [], [], []⟩, ⟨0, [49], [], [], []⟩, ⟨0, [50], [], [], []⟩, ⟨0, [48, 51], [], [], []⟩, ⟨0, [3], [], [], []⟩, ⟨0, [53], [], [], []⟩, ⟨0, [54], [], [], []⟩, ⟨0, [3], [], [], []⟩, ⟨0, [56], [], [], []⟩, ⟨0, [57], [], [], []⟩, ⟨0, [55, 58], [], [], []⟩, ⟨0, [3], [], [], []⟩, ⟨0, [60], [], [], []⟩, ⟨0, [61], [], [], []⟩, ⟨0, [3], [], [], []⟩, ⟨0, [63], [], [], []⟩, ⟨0, [64], [], [], []⟩], .one, .one, .one] (by rfl) ?_
      simp (config := { maxSteps := 2000000 }) -implicitDefEqProofs [-List.map_set, set_u16, -Int.natCast_add, -Int.natCast_mul, -Int.natCast_emod, -Int.natCast_ediv, -Int.natCast_pow, nn_add, nn_addl, nn_ladd, nn_mul, nn_mull, nn_lmul, nn_mod, nn_modl, nn_tmod, nn_tmodl, nn_tdiv, nn_tdivl, nn_div, nn_divl, nn_shr, nn_sub1, nn_lel, nn_lle, nn_ltl, nn_llt, nn_eql, nn_leq, nn_eq, nn_neg, nn_pos, i64]
      (first | refine .inl ⟨_, r1, ?_⟩ | refine ⟨_, r1, ?_⟩)
      simp (config := { maxSteps := 2000000 }) -implicitDefEqProofs [-List.map_set, set_u16, -Int.natCast_add, -Int.natCast_mul, -Int.natCast_emod, -Int.natCast_ediv, -Int.natCast_pow, nn_add, nn_addl, nn_ladd, nn_mul, nn_mull, nn_lmul, nn_mod, nn_modl, nn_tmod, nn_tmodl, nn_tdiv, nn_tdivl, nn_div, nn_divl, nn_shr, nn_sub1, nn_lel, nn_lle, nn_ltl, nn_llt, nn_eql, nn_leq, nn_eq, nn_neg, nn_pos]
      (first | refine .inl ⟨_, r2, ?_⟩ | refine ⟨_, r2, ?_⟩)
      simp (config := { maxSteps := 2000000 }) -implicitDefEqProofs [-List.map_set, set_u16, -Int.natCast_add, -Int.natCast_mul, -Int.natCast_emod, -Int.natCast_ediv, -Int.natCast_pow, nn_add, nn_addl, nn_ladd, nn_mul, nn_mull, nn_lmul, nn_mod, nn_modl, nn_tmod, nn_tmodl, nn_tdiv, nn_tdivl, nn_div, nn_divl, nn_shr, nn_sub1, nn_lel, nn_lle, nn_ltl, nn_llt, nn_eql, nn_leq, nn_eq, nn_neg, nn_pos]
      (first | refine .inl ⟨_, r3, ?_⟩ | refine ⟨_, r3, ?_⟩)
      simp (config := { maxSteps := 2000000 }) -implicitDefEqProofs [-List.map_set, set_u16, -Int.natCast_add, -Int.natCast_mul, -Int.natCast_emod, -Int.natCast_ediv, -Int.natCast_pow, nn_add, nn_addl, nn_ladd, nn_mul, nn_mull, nn_lmul, nn_mod, nn_modl, nn_tmod, nn_tmodl, nn_tdiv, nn_tdivl, nn_div, nn_divl, nn_shr, nn_sub1, nn_lel, nn_lle, nn_ltl, nn_llt, nn_eql, nn_leq, nn_eq, nn_neg, nn_pos]
      (first | refine .inl ⟨_, r4, ?_⟩ | refine ⟨_, r4, ?_⟩)
      simp (config := { maxSteps := 2000000 }) -implicitDefEqProofs [-List.map_set, set_u16, -Int.natCast_add, -Int.natCast_mul, -Int.natCast_emod, -Int.natCast_ediv, -Int.natCast_pow, nn_add, nn_addl, nn_ladd, nn_mul, nn_mull, nn_lmul, nn_mod, nn_modl, nn_tmod, nn_tmodl, nn_tdiv, nn_tdivl, nn_div, nn_divl, nn_shr, nn_sub1, nn_lel, nn_lle, nn_ltl, nn_llt, nn_eql, nn_leq, nn_eq, nn_neg, nn_pos]
      (first | refine .inl ⟨_, r5, ?_⟩ | refine ⟨_, r5, ?_⟩)
      simp (config := { maxSteps := 2000000 }) -implicitDefEqProofs [-List.map_set, set_u16, -Int.natCast_add, -Int.natCast_mul, -Int.natCast_emod, -Int.natCast_ediv, -Int.natCast_pow, nn_add, nn_addl, nn_ladd, nn_mul, nn_mull, nn_lmul, nn_mod, nn_modl, nn_tmod, nn_tmodl, nn_tdiv, nn_tdivl, nn_div, nn_divl, nn_shr, nn_sub1, nn_lel, nn_lle, nn_ltl, nn_llt, nn_eql, nn_leq, nn_eq, nn_neg, nn_pos]
    have hk := arity_kinds h1
    have h22 : l.length = 4 := by
      rw [h2]
      rcases hk with rfl | rfl | rfl | rfl | rfl | rfl | rfl | rfl | rfl <;> simp [arity] at * 
    obtain ⟨a, b, c, e, rfl⟩ := list4 h22
    have r1 := refTwo_c a b
    have r2 := refTwo_c c e
    by_cases i3 : k = 9
    · subst i3
      rw [if_pos rfl] at h4 ⊢
      obtain ⟨e1, e2, d0, g, _⟩ := ratOk_spec h4 oa od
      have k4 := refIsOne_c n (val m) (val d) (oa.lt32 la) (od.lt32 ld) d0 g
      have k5 := refRatOf_c 1 (by omega)
      have k7 := refSign_c n (val m) (val d) (by have := oa.lt32 la; omega) (by have := od.lt32 ld; omega) d0 g
      rw [← e1, ← e2] at k4 k7
      unfold trivRat two
      simp only
      clear h1 h2 h3 h4 e1 e2
      generalize lo c e = x at *
      generalize hi c e = y at *
      generalize lo a b = z at *
      generalize hi a b = t at *
      simp only [Prod.mk.injEq]
      refine callsF_of (T := tb) tab_ok mixed Tryz.func14 rfl (by decide) (Nat.le_of_ble_eq_true rfl) rfl ?_; unfold St.init
      simp (config := { maxSteps := 2000000 }) -implicitDefEqProofs [-List.map_set, set_u16, -Int.natCast_add, -Int.natCast_mul, -Int.natCast_emod, -Int.natCast_ediv, -Int.natCast_pow, nn_add, nn_addl, nn_ladd, nn_mul, nn_mull, nn_lmul, nn_mod, nn_modl, nn_tmod, nn_tmodl, nn_tdiv, nn_tdivl, nn_div, nn_divl, nn_shr, nn_sub1, nn_lel, nn_lle, nn_ltl, nn_llt, nn_eql, nn_leq, nn_eq, nn_neg, nn_pos]
      (first | refine .inl ⟨_, k1, ?_⟩ | refine ⟨_, k1, ?_⟩)
      simp (config := { maxSteps := 2000000 }) -implicitDefEqProofs [-List.map_set, set_u16, -Int.natCast_add, -Int.natCast_mul, -Int.natCast_emod, -Int.natCast_ediv, -Int.natCast_pow, nn_add, nn_addl, nn_ladd, nn_mul, nn_mull, nn_lmul, nn_mod, nn_modl, nn_tmod, nn_tmodl, nn_tdiv, nn_tdivl, nn_div, nn_divl, nn_shr, nn_sub1, nn_lel, nn_lle, nn_ltl, nn_llt, nn_eql, nn_leq, nn_eq, nn_neg, nn_pos]
      refine wpDraw_by [[], [0], [0, 1], [], [3], [3, 4], [0, 1, 2, 3, 4, 5], [], [7], [7, 8], [], [10], [10, 11], [0, 1, 2, 3, 4, 5, 6, 7, 8, 9, 10, 11, 12], [], [], [0, 1, 2, 3, 4, 5, 6, 7, 8, 9, 10, 11, 12, 13, 14, 15], [0, 1, 2, 3, 4, 5, 6, 7, 8, 9, 10, 11, 12, 13, 14, 15, 16]] [.any [] [4, 5] [⟨0, [3], [4, 5], [4, 5], []⟩, ⟨0, [68], [4, 5], [4, 5], []⟩, ⟨0, [69], [4, 5], [4, 5], []⟩, ⟨0, [3], [4, 5], [4, 5], []⟩, ⟨0, [71], [4, 5], [4, 5], []⟩, ⟨0, [72], [4, 5], [4, 5], []⟩, ⟨0, [70, 73], [4, 5], [4, 5], []⟩, ⟨0, [3], [4, 5], [4, 5], []⟩, ⟨0, [75], [4, 5], [4, 5], []⟩, ⟨0, [76], [4, 5], [4, 5], []⟩, ⟨0, [3], [4, 5], [4, 5], []⟩, ⟨0, [78], [4, 5], [4, 5], []⟩, ⟨0, [79], [4, 5], [4, 5], []⟩, ⟨0, [77, 80], [4, 5], [4, 5], []⟩, ⟨1, [], [5], [5], []⟩, ⟨1, [], [4], [4], []⟩], .one, .one] (by rfl) ?_
      simp (config := { maxSteps := 2000000 }) -implicitDefEqProofs [-List.map_set, set_u16, -Int.natCast_add, -Int.natCast_mul, -Int.natCast_emod, -Int.natCast_ediv, -Int.natCast_pow, nn_add, nn_addl, nn_ladd, nn_mul, nn_mull, nn_lmul, nn_mod, nn_modl, nn_tmod, nn_tmodl, nn_tdiv, nn_tdivl, nn_div, nn_divl, nn_shr, nn_sub1, nn_lel, nn_lle, nn_ltl, nn_llt, nn_eql, nn_leq, nn_eq, nn_neg, nn_pos, i64]
      (first | refine .inl ⟨_, r1, ?_⟩ | refine ⟨_, r1, ?_⟩)
      simp (config := { maxSteps := 2000000 }) -implicitDefEqProofs [-List.map_set, set_u16, -Int.natCast_add, -Int.natCast_mul, -Int.natCast_emod, -Int.natCast_ediv, -Int.natCast_pow, nn_add, nn_addl, nn_ladd, nn_mul, nn_mull, nn_lmul, nn_mod, nn_modl, nn_tmod, nn_tmodl, nn_tdiv, nn_tdivl, nn_div, nn_divl, nn_shr, nn_sub1, nn_lel, nn_lle, nn_ltl, nn_llt, nn_eql, nn_leq, nn_eq, nn_neg, nn_pos]
      (first | refine .inl ⟨_, r2, ?_⟩ | refine ⟨_, r2, ?_⟩)
      simp (config := { maxSteps := 2000000 }) -implicitDefEqProofs [-List.map_set, set_u16, -Int.natCast_add, -Int.natCast_mul, -Int.natCast_emod, -Int.natCast_ediv, -Int.natCast_pow, nn_add, nn_addl, nn_ladd, nn_mul, nn_mull, nn_lmul, nn_mod, nn_modl, nn_tmod, nn_tmodl, nn_tdiv, nn_tdivl, nn_div, nn_divl, nn_shr, nn_sub1, nn_lel, nn_lle, nn_ltl, nn_llt, nn_eql, nn_leq, nn_eq, nn_neg, nn_pos]
      refine wpDraw_by [[], [], [0, 1], [0, 1, 2], [0, 1, 2, 3], [0, 1, 2, 3, 4], [0, 1, 2, 3], [0, 1, 2, 3, 4, 5, 6], [0, 1, 2, 3, 4, 5, 6, 7], [0, 1, 2, 3, 4, 5, 6, 7, 8], [0, 1, 2, 3, 4, 5, 6, 7, 8, 9], [0, 1, 2, 3, 4, 5, 6, 7, 8, 9, 10], [0, 1, 2, 3, 4, 5, 6, 7, 8, 9], [0, 1, 2, 3, 4, 5, 6, 7, 8, 9, 12], [0, 1, 2, 3, 4, 5, 6, 7, 8, 9, 10, 11, 12, 13], [0, 1, 2, 3, 4, 5, 6, 7, 8, 9, 10, 11, 12, 13, 14], [0, 1, 2, 3, 4, 5, 6, 7, 8, 9, 10, 11, 12, 13, 14, 15], [0, 1, 2, 3, 4, 5, 6, 7, 8, 9, 10, 11, 12, 13, 14, 15, 16], [0, 1, 2, 3, 4, 5, 6, 7, 8, 9, 10, 11, 12, 13, 14, 15], [0, 1, 2, 3, 4, 5, 6, 7, 8, 9, 10, 11, 12, 13, 14, 15, 18], [0, 1, 2, 3, 4, 5, 6, 7, 8, 9, 10, 11, 12, 13, 14, 15, 16, 17, 18, 19], [0, 1, 2, 3, 4, 5, 6, 7, 8, 9, 10, 11, 12, 13, 14, 15, 16, 17, 18, 19, 20], [0, 1, 2, 3, 4, 5, 6, 7, 8, 9, 10, 11, 12, 13, 14, 15, 16, 17, 18, 19, 20, 21], [0, 1, 2, 3, 4, 5, 6, 7, 8, 9, 10, 11, 12, 13, 14, 15, 16, 17, 18, 19, 20, 21, 22], [0, 1, 2, 3, 4, 5, 6, 7, 8, 9, 10, 11, 12, 13, 14, 15, 16, 17, 18, 19, 20, 21, 22, 23], [0, 1, 2, 3, 4, 5, 6, 7, 8, 9, 10, 11, 12, 13, 14, 15, 16, 17, 18, 19, 20, 21, 22, 23, 24], [0, 1, 2, 3, 4, 5, 6, 7, 8, 9, 10, 11, 12, 13, 14, 15, 16, 17, 18, 19, 20, 21, 22, 23, 24, 25], [0, 1, 2, 3, 4, 5, 6, 7, 8, 9, 10, 11, 12, 13, 14, 15, 16, 17, 18, 19, 20, 21, 22, 23, 24, 25, 26], [0, 1, 2, 3, 4, 5, 6, 7, 8, 9, 10, 11, 12, 13, 14, 15, 16, 17, 18, 19, 20, 21, 22, 23, 24, 25, 26, 27], [0, 1, 2, 3, 4, 5, 6, 7, 8, 9, 10, 11, 12, 13, 14, 15, 16, 17, 18, 19, 20, 21, 22, 23, 24, 25, 26, 27, 28]] [.any [] [] [⟨0, [4], [], [], []⟩, ⟨0, [5], [], [], []⟩], .one, .one, .any [] [] [⟨0, [1, 139], [], [], []⟩, ⟨0, [140, 139], [], [], []⟩, ⟨0, [139], [], [], []⟩], .one, .one, .one, .any [] [] [⟨0, [4, 145], [], [], []⟩, ⟨0, [146, 145], [], [], []⟩, ⟨0, [4, 145], [], [], []⟩, ⟨0, [148, 145], [], [], []⟩], .one, .one, .any [] [] [⟨0, [5, 151], [], [], []⟩, ⟨0, [152, 151], [], [], []⟩, ⟨0, [5, 151], [], [], []⟩, ⟨0, [154, 151], [], [], []⟩], .one, .one, .one, .one, .one, .one, .one, .one, .one, .one] (by rfl) ?_
      by_cases j1 : z = x ∧ t = y
      · obtain ⟨rfl, rfl⟩ := j1
        simp (config := { maxSteps := 2000000 }) -implicitDefEqProofs [-List.map_set, set_u16, -Int.natCast_add, -Int.natCast_mul, -Int.natCast_emod, -Int.natCast_ediv, -Int.natCast_pow, nn_add, nn_addl, nn_ladd, nn_mul, nn_mull, nn_lmul, nn_mod, nn_modl, nn_tmod, nn_tmodl, nn_tdiv, nn_tdivl, nn_div, nn_divl, nn_shr, nn_sub1, nn_lel, nn_lle, nn_ltl, nn_llt, nn_eql, nn_leq, nn_eq, nn_neg, nn_pos]
        (first | refine .inl ⟨_, k5, ?_⟩ | refine ⟨_, k5, ?_⟩)
        simp (config := { maxSteps := 2000000 }) -implicitDefEqProofs [-List.map_set, set_u16, -Int.natCast_add, -Int.natCast_mul, -Int.natCast_emod, -Int.natCast_ediv, -Int.natCast_pow, nn_add, nn_addl, nn_ladd, nn_mul, nn_mull, nn_lmul, nn_mod, nn_modl, nn_tmod, nn_tmodl, nn_tdiv, nn_tdivl, nn_div, nn_divl, nn_shr, nn_sub1, nn_lel, nn_lle, nn_ltl, nn_llt, nn_eql, nn_leq, nn_eq, nn_neg, nn_pos]
        (first | refine .inl ⟨_, k4, ?_⟩ | refine ⟨_, k4, ?_⟩)
        by_cases j2 : toZ n (val m) = val d
        · simp (config := { maxSteps := 2000000 }) -implicitDefEqProofs [-List.map_set, set_u16, -Int.natCast_add, -Int.natCast_mul, -Int.natCast_emod, -Int.natCast_ediv, -Int.natCast_pow, nn_add, nn_addl, nn_ladd, nn_mul, nn_mull, nn_lmul, nn_mod, nn_modl, nn_tmod, nn_tmodl, nn_tdiv, nn_tdivl, nn_div, nn_divl, nn_shr, nn_sub1, nn_lel, nn_lle, nn_ltl, nn_llt, nn_eql, nn_leq, nn_eq, nn_neg, nn_pos, j2]
        · simp (config := { maxSteps := 2000000 }) -implicitDefEqProofs [-List.map_set, set_u16, -Int.natCast_add, -Int.natCast_mul, -Int.natCast_emod, -Int.natCast_ediv, -Int.natCast_pow, nn_add, nn_addl, nn_ladd, nn_mul, nn_mull, nn_lmul, nn_mod, nn_modl, nn_tmod, nn_tmodl, nn_tdiv, nn_tdivl, nn_div, nn_divl, nn_shr, nn_sub1, nn_lel, nn_lle, nn_ltl, nn_llt, nn_eql, nn_leq, nn_eq, nn_neg, nn_pos, j2]
          by_cases j3 : z = t
          · simp (config := { maxSteps := 2000000 }) -implicitDefEqProofs [-List.map_set, set_u16, -Int.natCast_add, -Int.natCast_mul, -Int.natCast_emod, -Int.natCast_ediv, -Int.natCast_pow, nn_add, nn_addl, nn_ladd, nn_mul, nn_mull, nn_lmul, nn_mod, nn_modl, nn_tmod, nn_tmodl, nn_tdiv, nn_tdivl, nn_div, nn_divl, nn_shr, nn_sub1, nn_lel, nn_lle, nn_ltl, nn_llt, nn_eql, nn_leq, nn_eq, nn_neg, nn_pos, j3]
          · simp (config := { maxSteps := 2000000 }) -implicitDefEqProofs [-List.map_set, set_u16, -Int.natCast_add, -Int.natCast_mul, -Int.natCast_emod, -Int.natCast_ediv, -Int.natCast_pow, nn_add, nn_addl, nn_ladd, nn_mul, nn_mull, nn_lmul, nn_mod, nn_modl, nn_tmod, nn_tmodl, nn_tdiv, nn_tdivl, nn_div, nn_divl, nn_shr, nn_sub1, nn_lel, nn_lle, nn_ltl, nn_llt, nn_eql, nn_leq, nn_eq, nn_neg, nn_pos, j3]
      · have j1' : (decide (z = x) && decide (t = y)) = false := by simpa using j1
        simp (config := { maxSteps := 2000000 }) -implicitDefEqProofs [-List.map_set, set_u16, -Int.natCast_add, -Int.natCast_mul, -Int.natCast_emod, -Int.natCast_ediv, -Int.natCast_pow, nn_add, nn_addl, nn_ladd, nn_mul, nn_mull, nn_lmul, nn_mod, nn_modl, nn_tmod, nn_tmodl, nn_tdiv, nn_tdivl, nn_div, nn_divl, nn_shr, nn_sub1, nn_lel, nn_lle, nn_ltl, nn_llt, nn_eql, nn_leq, nn_eq, nn_neg, nn_pos, j1, j1']
        by_cases j3 : z = t
        · subst j3
          simp (config := { maxSteps := 2000000 }) -implicitDefEqProofs [-List.map_set, set_u16, -Int.natCast_add, -Int.natCast_mul, -Int.natCast_emod, -Int.natCast_ediv, -Int.natCast_pow, nn_add, nn_addl, nn_ladd, nn_mul, nn_mull, nn_lmul, nn_mod, nn_modl, nn_tmod, nn_tmodl, nn_tdiv, nn_tdivl, nn_div, nn_divl, nn_shr, nn_sub1, nn_lel, nn_lle, nn_ltl, nn_llt, nn_eql, nn_leq, nn_eq, nn_neg, nn_pos]
          by_cases j4 : x = y
          · simp (config := { maxSteps := 2000000 }) -implicitDefEqProofs [-List.map_set, set_u16, -Int.natCast_add, -Int.natCast_mul, -Int.natCast_emod, -Int.natCast_ediv, -Int.natCast_pow, nn_add, nn_addl, nn_ladd, nn_mul, nn_mull, nn_lmul, nn_mod, nn_modl, nn_tmod, nn_tmodl, nn_tdiv, nn_tdivl, nn_div, nn_divl, nn_shr, nn_sub1, nn_lel, nn_lle, nn_ltl, nn_llt, nn_eql, nn_leq, nn_eq, nn_neg, nn_pos, j4]
          · simp (config := { maxSteps := 2000000 }) -implicitDefEqProofs [-List.map_set, set_u16, -Int.natCast_add, -Int.natCast_mul, -Int.natCast_emod, -Int.natCast_ediv, -Int.natCast_pow, nn_add, nn_addl, nn_ladd, nn_mul, nn_mull, nn_lmul, nn_mod, nn_modl, nn_tmod, nn_tmodl, nn_tdiv, nn_tdivl, nn_div, nn_divl, nn_shr, nn_sub1, nn_lel, nn_lle, nn_ltl, nn_llt, nn_eql, nn_leq, nn_eq, nn_neg, nn_pos, j4]
            (first | refine .inl ⟨_, k7, ?_⟩ | refine ⟨_, k7, ?_⟩)
            simp (config := { maxSteps := 2000000 }) -implicitDefEqProofs [-List.map_set, set_u16, -Int.natCast_add, -Int.natCast_mul, -Int.natCast_emod, -Int.natCast_ediv, -Int.natCast_pow, nn_add, nn_addl, nn_ladd, nn_mul, nn_mull, nn_lmul, nn_mod, nn_modl, nn_tmod, nn_tmodl, nn_tdiv, nn_tdivl, nn_div, nn_divl, nn_shr, nn_sub1, nn_lel, nn_lle, nn_ltl, nn_llt, nn_eql, nn_leq, nn_eq, nn_neg, nn_pos, sgnI_zero, j1']
        · simp (config := { maxSteps := 2000000 }) -implicitDefEqProofs [-List.map_set, set_u16, -Int.natCast_add, -Int.natCast_mul, -Int.natCast_emod, -Int.natCast_ediv, -Int.natCast_pow, nn_add, nn_addl, nn_ladd, nn_mul, nn_mull, nn_lmul, nn_mod, nn_modl, nn_tmod, nn_tmodl, nn_tdiv, nn_tdivl, nn_div, nn_divl, nn_shr, nn_sub1, nn_lel, nn_lle, nn_ltl, nn_llt, nn_eql, nn_leq, nn_eq, nn_neg, nn_pos, j3, j1']
    rw [if_neg i3, if_neg i4]
    have hk : k = 2 ∨ k = 3 ∨ k = 4 := by omega
    simp only
    unfold two
    clear h1 h2 h3 h4 i1 i2 i3 i4
    generalize lo c e = x at *
    generalize hi c e = y at *
    generalize lo a b = z at *
    generalize hi a b = t at *
    clear la ld oa od ln
    simp only [Prod.mk.injEq]
    rcases hk with rfl | rfl | rfl
    · refine callsF_of (T := tb) tab_ok mixed Tryz.func14 rfl (by decide) (Nat.le_of_ble_eq_true rfl) rfl ?_; unfold St.init
      simp (config := { maxSteps := 2000000 }) -implicitDefEqProofs [-List.map_set, set_u16, -Int.natCast_add, -Int.natCast_mul, -Int.natCast_emod, -Int.natCast_ediv, -Int.natCast_pow, nn_add, nn_addl, nn_ladd, nn_mul, nn_mull, nn_lmul, nn_mod, nn_modl, nn_tmod, nn_tmodl, nn_tdiv, nn_tdivl, nn_div, nn_divl, nn_shr, nn_sub1, nn_lel, nn_lle, nn_ltl, nn_llt, nn_eql, nn_leq, nn_eq, nn_neg, nn_pos]
      (first | refine .inl ⟨_, k1, ?_⟩ | refine ⟨_, k1, ?_⟩)
      simp (config := { maxSteps := 2000000 }) -implicitDefEqProofs [-List.map_set, set_u16, -Int.natCast_add, -Int.natCast_mul, -Int.natCast_emod, -Int.natCast_ediv, -Int.natCast_pow, nn_add, nn_addl, nn_ladd, nn_mul, nn_mull, nn_lmul, nn_mod, nn_modl, nn_tmod, nn_tmodl, nn_tdiv, nn_tdivl, nn_div, nn_divl, nn_shr, nn_sub1, nn_lel, nn_lle, nn_ltl, nn_llt, nn_eql, nn_leq, nn_eq, nn_neg, nn_pos]
      refine wpDraw_by [[], [0], [0, 1], [], [3], [3, 4], [0, 1, 2, 3, 4, 5], [], [7], [7, 8], [], [10], [10, 11], [0, 1, 2, 3, 4, 5, 6, 7, 8, 9, 10, 11, 12], [], [], [0, 1, 2, 3, 4, 5, 6, 7, 8, 9, 10, 11, 12, 13, 14, 15], [0, 1, 2, 3, 4, 5, 6, 7, 8, 9, 10, 11, 12, 13, 14, 15, 16]] [.any [] [4, 5] [⟨0, [3], [4, 5], [4, 5], []⟩, ⟨0, [68], [4, 5], [4, 5], []⟩, ⟨0, [69], [4, 5], [4, 5], []⟩, ⟨0, [3], [4, 5], [4, 5], []⟩, ⟨0, [71], [4, 5], [4, 5], []⟩, ⟨0, [72], [4, 5], [4, 5], []⟩, ⟨0, [70, 73], [4, 5], [4, 5], []⟩, ⟨0, [3], [4, 5], [4, 5], []⟩, ⟨0, [75], [4, 5], [4, 5], []⟩, ⟨0, [76], [4, 5], [4, 5], []⟩, ⟨0, [3], [4, 5], [4, 5], []⟩, ⟨0, [78], [4, 5], [4, 5], []⟩, ⟨0, [79], [4, 5], [4, 5], []⟩, ⟨0, [77, 80], [4, 5], [4, 5], []⟩, ⟨1, [], [5], [5], []⟩, ⟨1, [], [4], [4], []⟩], .one, .one] (by rfl) ?_
      simp (config := { maxSteps := 2000000 }) -implicitDefEqProofs [-List.map_set, set_u16, -Int.natCast_add, -Int.natCast_mul, -Int.natCast_emod, -Int.natCast_ediv, -Int.natCast_pow, nn_add, nn_addl, nn_ladd, nn_mul, nn_mull, nn_lmul, nn_mod, nn_modl, nn_tmod, nn_tmodl, nn_tdiv, nn_tdivl, nn_div, nn_divl, nn_shr, nn_sub1, nn_lel, nn_lle, nn_ltl, nn_llt, nn_eql, nn_leq, nn_eq, nn_neg, nn_pos, i64]
      (first | refine .inl ⟨_, r1, ?_⟩ | refine ⟨_, r1, ?_⟩)
      simp (config := { maxSteps := 2000000 }) -implicitDefEqProofs [-List.map_set, set_u16, -Int.natCast_add, -Int.natCast_mul, -Int.natCast_emod, -Int.natCast_ediv, -Int.natCast_pow, nn_add, nn_addl, nn_ladd, nn_mul, nn_mull, nn_lmul, nn_mod, nn_modl, nn_tmod, nn_tmodl, nn_tdiv, nn_tdivl, nn_div, nn_divl, nn_shr, nn_sub1, nn_lel, nn_lle, nn_ltl, nn_llt, nn_eql, nn_leq, nn_eq, nn_neg, nn_pos]
      (first | refine .inl ⟨_, r2, ?_⟩ | refine ⟨_, r2, ?_⟩)
      simp (config := { maxSteps := 2000000 }) -implicitDefEqProofs [-List.map_set, set_u16, -Int.natCast_add, -Int.natCast_mul, -Int.natCast_emod, -Int.natCast_ediv, -Int.natCast_pow, nn_add, nn_addl, nn_ladd, nn_mul, nn_mull, nn_lmul, nn_mod, nn_modl, nn_tmod, nn_tmodl, nn_tdiv, nn_tdivl, nn_div, nn_divl, nn_shr, nn_sub1, nn_lel, nn_lle, nn_ltl, nn_llt, nn_eql, nn_leq, nn_eq, nn_neg, nn_pos]
      by_cases j1 : z = t <;> by_cases j2 : x = y <;> simp [j1, j2]
    · refine callsF_of (T := tb) tab_ok mixed Tryz.func14 rfl (by decide) (Nat.le_of_ble_eq_true rfl) rfl ?_; unfold St.init
      simp (config := { maxSteps := 2000000 }) -implicitDefEqProofs [-List.map_set, set_u16, -Int.natCast_add, -Int.natCast_mul, -Int.natCast_emod, -Int.natCast_ediv, -Int.natCast_pow, nn_add, nn_addl, nn_ladd, nn_mul, nn_mull, nn_lmul, nn_mod, nn_modl, nn_tmod, nn_tmodl, nn_tdiv, nn_tdivl, nn_div, nn_divl, nn_shr, nn_sub1, nn_lel, nn_lle, nn_ltl, nn_llt, nn_eql, nn_leq, nn_eq, nn_neg, nn_pos]
      (first | refine .inl ⟨_, k1, ?_⟩ | refine ⟨_, k1, ?_⟩)
      simp (config := { maxSteps := 2000000 }) -implicitDefEqProofs [-List.map_set, set_u16, -Int.natCast_add, -Int.natCast_mul, -Int.natCast_emod, -Int.natCast_ediv, -Int.natCast_pow, nn_add, nn_addl, nn_ladd, nn_mul, nn_mull, nn_lmul, nn_mod, nn_modl, nn_tmod, nn_tmodl, nn_tdiv, nn_tdivl, nn_div, nn_divl, nn_shr, nn_sub1, nn_lel, nn_lle, nn_ltl, nn_llt, nn_eql, nn_leq, nn_eq, nn_neg, nn_pos]
      refine wpDraw_by [[], [0], [0, 1], [], [3], [3, 4], [0, 1, 2, 3, 4, 5], [], [7], [7, 8], [], [10], [10, 11], [0, 1, 2, 3, 4, 5, 6, 7, 8, 9, 10, 11, 12], [], [], [0, 1, 2, 3, 4, 5, 6, 7, 8, 9, 10, 11, 12, 13, 14, 15], [0, 1, 2, 3, 4, 5, 6, 7, 8, 9, 10, 11, 12, 13, 14, 15, 16]] [.any [] [4, 5] [⟨0, [3], [4, 5], [4, 5], []⟩, ⟨0, [68], [4, 5], [4, 5], []⟩, ⟨0, [69], [4, 5], [4, 5], []⟩, ⟨0, [3], [4, 5], [4, 5], []⟩, ⟨0, [71], [4, 5], [4, 5], []⟩, ⟨0, [72], [4, 5], [4, 5], []⟩, ⟨0, [70, 73], [4, 5], [4, 5], []⟩, ⟨0, [3], [4, 5], [4, 5], []⟩, ⟨0, [75], [4, 5], [4, 5], []⟩, ⟨0, [76], [4, 5], [4, 5], []⟩, ⟨0, [3], [4, 5], [4, 5], []⟩, ⟨0, [78], [4, 5], [4, 5], []⟩, ⟨0, [79], [4, 5], [4, 5], []⟩, ⟨0, [77, 80], [4, 5], [4, 5], []⟩, ⟨1, [], [5], [5], []⟩, ⟨1, [], [4], [4], []⟩], .one, .one] (by rfl) ?_
      simp (config := { maxSteps := 2000000 }) -implicitDefEqProofs [-List.map_set, set_u16, -Int.natCast_add, -Int.natCast_mul, -Int.natCast_emod, -Int.natCast_ediv, -Int.natCast_pow, nn_add, nn_addl, nn_ladd, nn_mul, nn_mull, nn_lmul, nn_mod, nn_modl, nn_tmod, nn_tmodl, nn_tdiv, nn_tdivl, nn_div, nn_divl, nn_shr, nn_sub1, nn_lel, nn_lle, nn_ltl, nn_llt, nn_eql, nn_leq, nn_eq, nn_neg, nn_pos, i64]
      (first | refine .inl ⟨_, r1, ?_⟩ | refine ⟨_, r1, ?_⟩)
      simp (config := { maxSteps := 2000000 }) -implicitDefEqProofs [-List.map_set, set_u16, -Int.natCast_add, -Int.natCast_mul, -Int.natCast_emod, -Int.natCast_ediv, -Int.natCast_pow, nn_add, nn_addl, nn_ladd, nn_mul, nn_mull, nn_lmul, nn_mod, nn_modl, nn_tmod, nn_tmodl, nn_tdiv, nn_tdivl, nn_div, nn_divl, nn_shr, nn_sub1, nn_lel, nn_lle, nn_ltl, nn_llt, nn_eql, nn_leq, nn_eq, nn_neg, nn_pos]
      (first | refine .inl ⟨_, r2, ?_⟩ | refine ⟨_, r2, ?_⟩)
      simp (config := { maxSteps := 2000000 }) -implicitDefEqProofs [-List.map_set, set_u16, -Int.natCast_add, -Int.natCast_mul, -Int.natCast_emod, -Int.natCast_ediv, -Int.natCast_pow, nn_add, nn_addl, nn_ladd, nn_mul, nn_mull, nn_lmul, nn_mod, nn_modl, nn_tmod, nn_tmodl, nn_tdiv, nn_tdivl, nn_div, nn_divl, nn_shr, nn_sub1, nn_lel, nn_lle, nn_ltl, nn_llt, nn_eql, nn_leq, nn_eq, nn_neg, nn_pos]
      by_cases j1 : z = t <;> by_cases j2 : x = y <;> simp [j1, j2]
    · refine callsF_of (T := tb) tab_ok mixed Tryz.func14 rfl (by decide) (Nat.le_of_ble_eq_true rfl) rfl ?_; unfold St.init
      simp (config := { maxSteps := 2000000 }) -implicitDefEqProofs [-List.map_set, set_u16, -Int.natCast_add, -Int.natCast_mul, -Int.natCast_emod, -Int.natCast_ediv, -Int.natCast_pow, nn_add, nn_addl, nn_ladd, nn_mul, nn_mull, nn_lmul, nn_mod, nn_modl, nn_tmod, nn_tmodl, nn_tdiv, nn_tdivl, nn_div, nn_divl, nn_shr, nn_sub1, nn_lel, nn_lle, nn_ltl, nn_llt, nn_eql, nn_leq, nn_eq, nn_neg, nn_pos]
      (first | refine .inl ⟨_, k1, ?_⟩ | refine ⟨_, k1, ?_⟩)
      simp (config := { maxSteps := 2000000 }) -implicitDefEqProofs [-List.map_set, set_u16, -Int.natCast_add, -Int.natCast_mul, -Int.natCast_emod, -Int.natCast_ediv, -Int.natCast_pow, nn_add, nn_addl, nn_ladd, nn_mul, nn_mull, nn_lmul, nn_mod, nn_modl, nn_tmod, nn_tmodl, nn_tdiv, nn_tdivl, nn_div, nn_divl, nn_shr, nn_sub1, nn_lel, nn_lle, nn_ltl, nn_llt, nn_eql, nn_leq, nn_eq, nn_neg, nn_pos]
      refine wpDraw_by [[], [0], [0, 1], [], [3], [3, 4], [0, 1, 2, 3, 4, 5], [], [7], [7, 8], [], [10], [10, 11], [0, 1, 2, 3, 4, 5, 6, 7, 8, 9, 10, 11, 12], [], [], [0, 1, 2, 3, 4, 5, 6, 7, 8, 9, 10, 11, 12, 13, 14, 15], [0, 1, 2, 3, 4, 5, 6, 7, 8, 9, 10, 11, 12, 13, 14, 15, 16]] [.any [] [4, 5] [⟨0, [3], [4, 5], [4, 5], []⟩, ⟨0, [68], [4, 5], [4, 5], []⟩, ⟨0, [69], [4, 5], [4, 5], []⟩, ⟨0, [3], [4, 5], [4, 5], []⟩, ⟨0, [71], [4, 5], [4, 5], []⟩, ⟨0, [72], [4, 5], [4, 5], []⟩, ⟨0, [70, 73], [4, 5], [4, 5], []⟩, ⟨0, [3], [4, 5], [4, 5], []⟩, ⟨0, [75], [4, 5], [4, 5], []⟩, ⟨0, [76], [4, 5], [4, 5], []⟩, ⟨0, [3], [4, 5], [4, 5], []⟩, ⟨0, [78], [4, 5], [4, 5], []⟩, ⟨0, [79], [4, 5], [4, 5], []⟩, ⟨0, [77, 80], [4, 5], [4, 5], []⟩, ⟨1, [], [5], [5], []⟩, ⟨1, [], [4], [4], []⟩], .one, .one] (by rfl) ?_
      simp (config := { maxSteps := 2000000 }) -implicitDefEqProofs [-List.map_set, set_u16, -Int.natCast_add, -Int.natCast_mul, -Int.natCast_emod, -Int.natCast_ediv, -Int.natCast_pow, nn_add, nn_addl, nn_ladd, nn_mul, nn_mull, nn_lmul, nn_mod, nn_modl, nn_tmod, nn_tmodl, nn_tdiv, nn_tdivl, nn_div, nn_divl, nn_shr, nn_sub1, nn_lel, nn_lle, nn_ltl, nn_llt, nn_eql, nn_leq, nn_eq, nn_neg, nn_pos, i64]
      (first | refine .inl ⟨_, r1, ?_⟩ | refine ⟨_, r1, ?_⟩)
      simp (config := { maxSteps := 2000000 }) -implicitDefEqProofs [-List.map_set, set_u16, -Int.natCast_add, -Int.natCast_mul, -Int.natCast_emod, -Int.natCast_ediv, -Int.natCast_pow, nn_add, nn_addl, nn_ladd, nn_mul, nn_mull, nn_lmul, nn_mod, nn_modl, nn_tmod, nn_tmodl, nn_tdiv, nn_tdivl, nn_div, nn_divl, nn_shr, nn_sub1, nn_lel, nn_lle, nn_ltl, nn_llt, nn_eql, nn_leq, nn_eq, nn_neg, nn_pos]
      (first | refine .inl ⟨_, r2, ?_⟩ | refine ⟨_, r2, ?_⟩)
      simp (config := { maxSteps := 2000000 }) -implicitDefEqProofs [-List.map_set, set_u16, -Int.natCast_add, -Int.natCast_mul, -Int.natCast_emod, -Int.natCast_ediv, -Int.natCast_pow, nn_add, nn_addl, nn_ladd, nn_mul, nn_mull, nn_lmul, nn_mod, nn_modl, nn_tmod, nn_tmodl, nn_tdiv, nn_tdivl, nn_div, nn_divl, nn_shr, nn_sub1, nn_lel, nn_lle, nn_ltl, nn_llt, nn_eql, nn_leq, nn_eq, nn_neg, nn_pos]
      by_cases j1 : z = t <;> by_cases j2 : x = y <;> simp [j1, j2] <;> exact fun a b => ⟨a, b⟩

end Go.Va
