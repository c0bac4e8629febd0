/-
  The law of variants.
-/
import Derived.Test.YtdjgdhbeikdojaaGreatXa
import Derived.Test.YtdjgdhbeikdojaaGreatWn
set_option linter.all false

namespace Go.Va
open Go.Proofs
set_option maxHeartbeats 4000000
set_option maxRecDepth 100000
set_option linter.unusedSimpArgs false
set_option linter.unusedVariables false

theorem ours0_c (f : Fct) (hf : f.Mild) (h : okF f = false) : CallsF Tryz.prog 22 [.agg f.ds] (.u (.c (.d (fctsD [])))) := by
  have k1 := right_c f hf
  rw [h] at k1
  obtain ⟨k, l, n, m, d⟩ := f
  simp only [Fct.ds] at *
  refine callsF_of (T := tb) tab_ok mixed Tryz.func22 rfl (by decide) (Nat.le_of_ble_eq_true rfl) rfl ?_; unfold St.init
  simp (config := { maxSteps := 2000000 }) -implicitDefEqProofs [-List.map_set, set_u16, -Int.natCast_add, -Int.natCast_mul, -Int.natCast_emod, -Int.natCast_ediv, -Int.natCast_pow, nn_add, nn_addl, nn_ladd, nn_mul, nn_mull, nn_lmul, nn_mod, nn_modl, nn_tmod, nn_tmodl, nn_tdiv, nn_tdivl, nn_div, nn_divl, nn_shr, nn_sub1, nn_lel, nn_lle, nn_ltl, nn_llt, nn_eql, nn_leq, nn_eq, nn_neg, nn_pos]
  (first | refine .inl ⟨_, k1, ?_⟩ | refine ⟨_, k1, ?_⟩)
  simp (config := { maxSteps := 2000000 }) -implicitDefEqProofs [-List.map_set, set_u16, -Int.natCast_add, -Int.natCast_mul, -Int.natCast_emod, -Int.natCast_ediv, -Int.natCast_pow, nn_add, nn_addl, nn_ladd, nn_mul, nn_mull, nn_lmul, nn_mod, nn_modl, nn_tmod, nn_tmodl, nn_tdiv, nn_tdivl, nn_div, nn_divl, nn_shr, nn_sub1, nn_lel, nn_lle, nn_ltl, nn_llt, nn_eql, nn_leq, nn_eq, nn_neg, nn_pos]
  rfl

theorem lists_c (f : Fct) (hf : f.Mild) : ∃ E : List Fct, (∀ e ∈ E, e.Rt) ∧ E.length ≤ 1000 ∧ CallsF Tryz.prog 22 [.agg f.ds] (.u (.c (.d (fctsD E)))) ∧ CallsF Tryz.prog 23 [.agg f.ds] (.u (.c (.d (fctsD E)))) := by
  cases h : okF f
  · exact ⟨[], by simp, by simp, ours0_c f hf h, variants0_c f hf h⟩
  · obtain ⟨E, b⟩ := both_c f ⟨h, hf⟩
    exact ⟨E, b.rt, b.small, b.ours, b.theirs⟩

theorem variantsLaw_c (f : Fct) (hf : InF f) : CallsF Tryz.prog 5 [.agg f.ds] (.u (.c (.d (.bool true)))) := by
  have aw := awake_c
  have m1 := mild_c f
  cases b1 : mildB f
  · rw [b1] at m1
    simp only [Fct.ds] at *
    refine callsF_of (T := tb) tab_ok mixed Tryz.func5 rfl (by decide) (Nat.le_of_ble_eq_true rfl) rfl ?_; unfold St.init
    simp (config := { maxSteps := 2000000 }) -implicitDefEqProofs [-List.map_set, set_u16, -Int.natCast_add, -Int.natCast_mul, -Int.natCast_emod, -Int.natCast_ediv, -Int.natCast_pow, nn_add, nn_addl, nn_ladd, nn_mul, nn_mull, nn_lmul, nn_mod, nn_modl, nn_tmod, nn_tmodl, nn_tdiv, nn_tdivl, nn_div, nn_divl, nn_shr, nn_sub1, nn_lel, nn_lle, nn_ltl, nn_llt, nn_eql, nn_leq, nn_eq, nn_neg, nn_pos]
    (first | refine .inl ⟨_, m1, ?_⟩ | refine ⟨_, m1, ?_⟩)
    simp (config := { maxSteps := 2000000 }) -implicitDefEqProofs [-List.map_set, set_u16, -Int.natCast_add, -Int.natCast_mul, -Int.natCast_emod, -Int.natCast_ediv, -Int.natCast_pow, nn_add, nn_addl, nn_ladd, nn_mul, nn_mull, nn_lmul, nn_mod, nn_modl, nn_tmod, nn_tmodl, nn_tdiv, nn_tdivl, nn_div, nn_divl, nn_shr, nn_sub1, nn_lel, nn_lle, nn_ltl, nn_llt, nn_eql, nn_leq, nn_eq, nn_neg, nn_pos]
    (first | refine .inl ⟨_, aw, ?_⟩ | refine ⟨_, aw, ?_⟩)
    simp (config := { maxSteps := 2000000 }) -implicitDefEqProofs [-List.map_set, set_u16, -Int.natCast_add, -Int.natCast_mul, -Int.natCast_emod, -Int.natCast_ediv, -Int.natCast_pow, nn_add, nn_addl, nn_ladd, nn_mul, nn_mull, nn_lmul, nn_mod, nn_modl, nn_tmod, nn_tmodl, nn_tdiv, nn_tdivl, nn_div, nn_divl, nn_shr, nn_sub1, nn_lel, nn_lle, nn_ltl, nn_llt, nn_eql, nn_leq, nn_eq, nn_neg, nn_pos]
  rw [b1] at m1
  have p1 := mildB_mild b1 hf.oa hf.od
  obtain ⟨E, e1, e2, c1, c2⟩ := lists_c f p1
  have c3 := sameL_c E (fun e he => (e1 e he).mild) (fun e he => (e1 e he).val) (by omega)
  clear hf b1 p1 e1 e2
  simp only [Fct.ds] at *
  refine callsF_of (T := tb) tab_ok mixed Tryz.func5 rfl (by decide) (Nat.le_of_ble_eq_true rfl) rfl ?_; unfold St.init
  simp (config := { maxSteps := 2000000 }) -implicitDefEqProofs [-List.map_set, set_u16, -Int.natCast_add, -Int.natCast_mul, -Int.natCast_emod, -Int.natCast_ediv, -Int.natCast_pow, nn_add, nn_addl, nn_ladd, nn_mul, nn_mull, nn_lmul, nn_mod, nn_modl, nn_tmod, nn_tmodl, nn_tdiv, nn_tdivl, nn_div, nn_divl, nn_shr, nn_sub1, nn_lel, nn_lle, nn_ltl, nn_llt, nn_eql, nn_leq, nn_eq, nn_neg, nn_pos]
  (first | refine .inl ⟨_, m1, ?_⟩ | refine ⟨_, m1, ?_⟩)
  simp (config := { maxSteps := 2000000 }) -implicitDefEqProofs [-List.map_set, set_u16, -Int.natCast_add, -Int.natCast_mul, -Int.natCast_emod, -Int.natCast_ediv, -Int.natCast_pow, nn_add, nn_addl, nn_ladd, nn_mul, nn_mull, nn_lmul, nn_mod, nn_modl, nn_tmod, nn_tmodl, nn_tdiv, nn_tdivl, nn_div, nn_divl, nn_shr, nn_sub1, nn_lel, nn_lle, nn_ltl, nn_llt, nn_eql, nn_leq, nn_eq, nn_neg, nn_pos]
  refine wpDraw_by [[], [0], [], [0, 1, 2], [0, 1, 2, 3], [0, 1, 2, 3, 4], [0, 1, 2, 3, 4, 5], [0, 1, 2, 3, 4, 5, 6], [0, 1, 2, 3, 4, 5, 6, 7]] [.any [] [] [⟨0, [1], [], [], []⟩, ⟨0, [7], [], [], []⟩, ⟨0, [1], [], [], []⟩], .one, .one, .one, .one, .one, .one] (by rfl) ?_
  simp (config := { maxSteps := 2000000 }) -implicitDefEqProofs [-List.map_set, set_u16, -Int.natCast_add, -Int.natCast_mul, -Int.natCast_emod, -Int.natCast_ediv, -Int.natCast_pow, nn_add, nn_addl, nn_ladd, nn_mul, nn_mull, nn_lmul, nn_mod, nn_modl, nn_tmod, nn_tmodl, nn_tdiv, nn_tdivl, nn_div, nn_divl, nn_shr, nn_sub1, nn_lel, nn_lle, nn_ltl, nn_llt, nn_eql, nn_leq, nn_eq, nn_neg, nn_pos]
  (first | refine .inl ⟨_, c1, ?_⟩ | refine ⟨_, c1, ?_⟩)
  simp (config := { maxSteps := 2000000 }) -implicitDefEqProofs [-List.map_set, set_u16, -Int.natCast_add, -Int.natCast_mul, -Int.natCast_emod, -Int.natCast_ediv, -Int.natCast_pow, nn_add, nn_addl, nn_ladd, nn_mul, nn_mull, nn_lmul, nn_mod, nn_modl, nn_tmod, nn_tmodl, nn_tdiv, nn_tdivl, nn_div, nn_divl, nn_shr, nn_sub1, nn_lel, nn_lle, nn_ltl, nn_llt, nn_eql, nn_leq, nn_eq, nn_neg, nn_pos]
  (first | refine .inl ⟨_, c2, ?_⟩ | refine ⟨_, c2, ?_⟩)
  simp (config := { maxSteps := 2000000 }) -implicitDefEqProofs [-List.map_set, set_u16, -Int.natCast_add, -Int.natCast_mul, -Int.natCast_emod, -Int.natCast_ediv, -Int.natCast_pow, nn_add, nn_addl, nn_ladd, nn_mul, nn_mull, nn_lmul, nn_mod, nn_modl, nn_tmod, nn_tmodl, nn_tdiv, nn_tdivl, nn_div, nn_divl, nn_shr, nn_sub1, nn_lel, nn_lle, nn_ltl, nn_llt, nn_eql, nn_leq, nn_eq, nn_neg, nn_pos]
  (first | refine .inl ⟨_, c3, ?_⟩ | refine ⟨_, c3, ?_⟩)
  simp (config := { maxSteps := 2000000 }) -implicitDefEqProofs [-List.map_set, set_u16, -Int.natCast_add, -Int.natCast_mul, -Int.natCast_emod, -Int.natCast_ediv, -Int.natCast_pow, nn_add, nn_addl, nn_ladd, nn_mul, nn_mull, nn_lmul, nn_mod, nn_modl, nn_tmod, nn_tmodl, nn_tdiv, nn_tdivl, nn_div, nn_divl, nn_shr, nn_sub1, nn_lel, nn_lle, nn_ltl, nn_llt, nn_eql, nn_leq, nn_eq, nn_neg, nn_pos]
  (first | refine .inl ⟨_, aw, ?_⟩ | refine ⟨_, aw, ?_⟩)
  simp (config := { maxSteps := 2000000 }) -implicitDefEqProofs [-List.map_set, set_u16, -Int.natCast_add, -Int.natCast_mul, -Int.natCast_emod, -Int.natCast_ediv, -Int.natCast_pow, nn_add, nn_addl, nn_ladd, nn_mul, nn_mull, nn_lmul, nn_mod, nn_modl, nn_tmod, nn_tmodl, nn_tdiv, nn_tdivl, nn_div, nn_divl, nn_shr, nn_sub1, nn_lel, nn_lle, nn_ltl, nn_llt, nn_eql, nn_leq, nn_eq, nn_neg, nn_pos]

end Go.Va
