/-
  Contracts: the document's facts: the variants of a fact; are two lists of facts the same?
-/
import Derived.Test.YtdjgdhbeikdojaaGreatWz
set_option linter.all false

namespace Go.Va
open Go.Proofs
set_option maxHeartbeats 4000000
set_option maxRecDepth 10000
set_option linter.unusedSimpArgs false
set_option linter.unusedVariables false

theorem variants0_c (f : Fct) (hf : f.Mild) (h : okF f = false) : CallsF Tryz.prog 23 [.agg f.ds] (.u (.c (.d (fctsD [])))) := by
  have k1 := ref37Right_c f hf
  rw [h] at k1
  obtain ⟨k, l, n, m, d⟩ := f
  simp only [Fct.ds] at *
  refine callsF_of (T := tb) tab_ok mixed Tryz.func23 rfl (by decide) (Nat.le_of_ble_eq_true rfl) rfl ?_; unfold St.init
  simp (config := { maxSteps := 2000000 }) -implicitDefEqProofs [-List.map_set, set_u16, -Int.natCast_add, -Int.natCast_mul, -Int.natCast_emod, -Int.natCast_ediv, -Int.natCast_pow, nn_add, nn_addl, nn_ladd, nn_mul, nn_mull, nn_lmul, nn_mod, nn_modl, nn_tmod, nn_tmodl, nn_tdiv, nn_tdivl, nn_div, nn_divl, nn_shr, nn_sub1, nn_lel, nn_lle, nn_ltl, nn_llt, nn_eql, nn_leq, nn_eq, nn_neg, nn_pos]
  (first | refine .inl ⟨_, k1, ?_⟩ | refine ⟨_, k1, ?_⟩)
  simp (config := { maxSteps := 2000000 }) -implicitDefEqProofs [-List.map_set, set_u16, -Int.natCast_add, -Int.natCast_mul, -Int.natCast_emod, -Int.natCast_ediv, -Int.natCast_pow, nn_add, nn_addl, nn_ladd, nn_mul, nn_mull, nn_lmul, nn_mod, nn_modl, nn_tmod, nn_tmodl, nn_tdiv, nn_tdivl, nn_div, nn_divl, nn_shr, nn_sub1, nn_lel, nn_lle, nn_ltl, nn_llt, nn_eql, nn_leq, nn_eq, nn_neg, nn_pos]
  rfl

theorem variantsO_c (k : Int) (hk : k = 1 ∨ k = 6 ∨ k = 8) (l : List Int) (n : Bool) (m d : List Nat) (hr : okF ⟨k, l, n, m, d⟩ = true) (hm : (Fct.mk k l n m d).Mild) (hl : l.length ≤ 8) :
    CallsF Tryz.prog 23 [.agg [.int .i64 k, intsD l, .bool n, natD m, natD d]] (.u (.c (.d (fctsD (ordF k l.length [] l))))) := by
  have k1 := ref37Right_c ⟨k, l, n, m, d⟩ hm
  rw [hr] at k1
  have k2 := ordersR_c k (by omega) l.length [] l rfl (by simpa using hl)
  rw [show intsD ([] : List Int) = D.slice 0 [] from rfl] at k2
  clear hr hm
  simp only [Fct.ds] at *
  refine callsF_of (T := tb) tab_ok mixed Tryz.func23 rfl (by decide) (Nat.le_of_ble_eq_true rfl) rfl ?_; unfold St.init
  simp (config := { maxSteps := 2000000 }) -implicitDefEqProofs [-List.map_set, set_u16, -Int.natCast_add, -Int.natCast_mul, -Int.natCast_emod, -Int.natCast_ediv, -Int.natCast_pow, nn_add, nn_addl, nn_ladd, nn_mul, nn_mull, nn_lmul, nn_mod, nn_modl, nn_tmod, nn_tmodl, nn_tdiv, nn_tdivl, nn_div, nn_divl, nn_shr, nn_sub1, nn_lel, nn_lle, nn_ltl, nn_llt, nn_eql, nn_leq, nn_eq, nn_neg, nn_pos]
  (first | refine .inl ⟨_, k1, ?_⟩ | refine ⟨_, k1, ?_⟩)
  rcases hk with rfl | rfl | rfl <;> simp (config := { maxSteps := 2000000 }) -implicitDefEqProofs [-List.map_set, set_u16, -Int.natCast_add, -Int.natCast_mul, -Int.natCast_emod, -Int.natCast_ediv, -Int.natCast_pow, nn_add, nn_addl, nn_ladd, nn_mul, nn_mull, nn_lmul, nn_mod, nn_modl, nn_tmod, nn_tmodl, nn_tdiv, nn_tdivl, nn_div, nn_divl, nn_shr, nn_sub1, nn_lel, nn_lle, nn_ltl, nn_llt, nn_eql, nn_leq, nn_eq, nn_neg, nn_pos] <;> (first | refine .inl ⟨_, k2, ?_⟩ | refine ⟨_, k2, ?_⟩) <;> simp (config := { maxSteps := 2000000 }) -implicitDefEqProofs [-List.map_set, set_u16, -Int.natCast_add, -Int.natCast_mul, -Int.natCast_emod, -Int.natCast_ediv, -Int.natCast_pow, nn_add, nn_addl, nn_ladd, nn_mul, nn_mull, nn_lmul, nn_mod, nn_modl, nn_tmod, nn_tmodl, nn_tdiv, nn_tdivl, nn_div, nn_divl, nn_shr, nn_sub1, nn_lel, nn_lle, nn_ltl, nn_llt, nn_eql, nn_leq, nn_eq, nn_neg, nn_pos]

theorem variants7_c (l : List Int) (hl : l.length = 8) (hr : okF ⟨7, l, false, [], []⟩ = true) (hm : (Fct.mk 7 l false [] []).Mild) :
    CallsF Tryz.prog 23 [.agg [.int .i64 7, intsD l, .bool false, natD [], natD []]] (.u (.c (.d (fctsD (allA l 8))))) := by
  have k1 := ref37Right_c ⟨7, l, false, [], []⟩ hm
  rw [hr] at k1
  have k2 := angles_c l hl
  clear hr hm
  simp only [Fct.ds] at *
  refine callsF_of (T := tb) tab_ok mixed Tryz.func23 rfl (by decide) (Nat.le_of_ble_eq_true rfl) rfl ?_; unfold St.init
  simp (config := { maxSteps := 2000000 }) -implicitDefEqProofs [-List.map_set, set_u16, -Int.natCast_add, -Int.natCast_mul, -Int.natCast_emod, -Int.natCast_ediv, -Int.natCast_pow, nn_add, nn_addl, nn_ladd, nn_mul, nn_mull, nn_lmul, nn_mod, nn_modl, nn_tmod, nn_tmodl, nn_tdiv, nn_tdivl, nn_div, nn_divl, nn_shr, nn_sub1, nn_lel, nn_lle, nn_ltl, nn_llt, nn_eql, nn_leq, nn_eq, nn_neg, nn_pos]
  (first | refine .inl ⟨_, k1, ?_⟩ | refine ⟨_, k1, ?_⟩)
  simp (config := { maxSteps := 2000000 }) -implicitDefEqProofs [-List.map_set, set_u16, -Int.natCast_add, -Int.natCast_mul, -Int.natCast_emod, -Int.natCast_ediv, -Int.natCast_pow, nn_add, nn_addl, nn_ladd, nn_mul, nn_mull, nn_lmul, nn_mod, nn_modl, nn_tmod, nn_tmodl, nn_tdiv, nn_tdivl, nn_div, nn_divl, nn_shr, nn_sub1, nn_lel, nn_lle, nn_ltl, nn_llt, nn_eql, nn_leq, nn_eq, nn_neg, nn_pos]
  (first | refine .inl ⟨_, k2, ?_⟩ | refine ⟨_, k2, ?_⟩)
  simp (config := { maxSteps := 2000000 }) -implicitDefEqProofs [-List.map_set, set_u16, -Int.natCast_add, -Int.natCast_mul, -Int.natCast_emod, -Int.natCast_ediv, -Int.natCast_pow, nn_add, nn_addl, nn_ladd, nn_mul, nn_mull, nn_lmul, nn_mod, nn_modl, nn_tmod, nn_tmodl, nn_tdiv, nn_tdivl, nn_div, nn_divl, nn_shr, nn_sub1, nn_lel, nn_lle, nn_ltl, nn_llt, nn_eql, nn_leq, nn_eq, nn_neg, nn_pos]

theorem variants5_c (a b c : Int) (hr : okF ⟨5, [a, b, c], false, [], []⟩ = true) (hm : (Fct.mk 5 [a, b, c] false [] []).Mild) :
    CallsF Tryz.prog 23 [.agg [.int .i64 5, intsD [a, b, c], .bool false, natD [], natD []]] (.u (.c (.d (fctsD (putsF [] [⟨5, [a, b, c], false, [], []⟩, ⟨5, [a, c, b], false, [], []⟩]))))) := by
  have k1 := ref37Right_c ⟨5, [a, b, c], false, [], []⟩ hm
  rw [hr] at k1
  have x1 : (Fct.mk 5 [a, b, c] false [] []).Mild := plain_mild 5 [a, b, c] (by simp)
  have x2 : (Fct.mk 5 [a, c, b] false [] []).Mild := plain_mild 5 [a, c, b] (by simp)
  have y1 : (Fct.mk 5 [a, b, c] false [] []).Val := fun h => absurd h (by simp)
  have y2 : (Fct.mk 5 [a, c, b] false [] []).Val := fun h => absurd h (by simp)
  have F1 := fact_c ⟨5, [a, b, c], false, [], []⟩ [a, b, c] (by simp)
  have F2 := fact_c ⟨5, [a, b, c], false, [], []⟩ [a, c, b] (by simp)
  have P1 := put_c ⟨5, [a, b, c], false, [], []⟩ [] x1 y1 (by simp) (by simp) (by simp)
  have P2 := put_c ⟨5, [a, c, b], false, [], []⟩ [⟨5, [a, b, c], false, [], []⟩] x2 y2 (by simpa using x1) (by simpa using y1) (by simp)
  rw [show putF [] (Fct.mk 5 [a, b, c] false [] []) = [⟨5, [a, b, c], false, [], []⟩] from rfl] at P1
  rw [show putsF [] [Fct.mk 5 [a, b, c] false [] [], ⟨5, [a, c, b], false, [], []⟩] = putF [⟨5, [a, b, c], false, [], []⟩] ⟨5, [a, c, b], false, [], []⟩ from rfl]
  rw [show fctsD [] = D.slice 0 [] from rfl] at P1
  generalize putF [Fct.mk 5 [a, b, c] false [] []] ⟨5, [a, c, b], false, [], []⟩ = R at *
  generalize [Fct.mk 5 [a, b, c] false [] []] = Q at *
  clear hr hm x1 x2 y1 y2
  simp only [Fct.ds, Fct.res] at *
  refine callsF_of (T := tb) tab_ok mixed Tryz.func23 rfl (by decide) (Nat.le_of_ble_eq_true rfl) rfl ?_; unfold St.init
  simp (config := { maxSteps := 2000000 }) -implicitDefEqProofs [-List.map_set, set_u16, -Int.natCast_add, -Int.natCast_mul, -Int.natCast_emod, -Int.natCast_ediv, -Int.natCast_pow, nn_add, nn_addl, nn_ladd, nn_mul, nn_mull, nn_lmul, nn_mod, nn_modl, nn_tmod, nn_tmodl, nn_tdiv, nn_tdivl, nn_div, nn_divl, nn_shr, nn_sub1, nn_lel, nn_lle, nn_ltl, nn_llt, nn_eql, nn_leq, nn_eq, nn_neg, nn_pos]
  (first | refine .inl ⟨_, k1, ?_⟩ | refine ⟨_, k1, ?_⟩)
  simp (config := { maxSteps := 2000000 }) -implicitDefEqProofs [-List.map_set, set_u16, -Int.natCast_add, -Int.natCast_mul, -Int.natCast_emod, -Int.natCast_ediv, -Int.natCast_pow, nn_add, nn_addl, nn_ladd, nn_mul, nn_mull, nn_lmul, nn_mod, nn_modl, nn_tmod, nn_tmodl, nn_tdiv, nn_tdivl, nn_div, nn_divl, nn_shr, nn_sub1, nn_lel, nn_lle, nn_ltl, nn_llt, nn_eql, nn_leq, nn_eq, nn_neg, nn_pos]
  refine wpDraw_by [[], [], [1], [1, 2], [], [4], [4, 5], [], [7], [7, 8], [1, 2, 3, 4, 5, 6, 7, 8, 9], [0, 1, 2, 3, 4, 5, 6, 7, 8, 9, 10], [0, 1, 2, 3, 4, 5, 6, 7, 8, 9, 10, 11], [0, 1, 2, 3, 4, 5, 6, 7, 8, 9, 10, 11, 12]] [.any [] [37] [⟨0, [1], [], [37], []⟩, ⟨0, [3], [], [37], []⟩, ⟨0, [28], [], [37], []⟩, ⟨0, [29], [], [37], []⟩, ⟨0, [3], [], [37], []⟩, ⟨0, [31], [], [37], []⟩, ⟨0, [32], [], [37], []⟩, ⟨0, [3], [], [37], []⟩, ⟨0, [34], [], [37], []⟩, ⟨0, [35], [], [37], []⟩, ⟨4, [30, 33, 36], [], [], []⟩], .one, .one, .one] (by rfl) ?_
  simp (config := { maxSteps := 2000000 }) -implicitDefEqProofs [-List.map_set, set_u16, -Int.natCast_add, -Int.natCast_mul, -Int.natCast_emod, -Int.natCast_ediv, -Int.natCast_pow, nn_add, nn_addl, nn_ladd, nn_mul, nn_mull, nn_lmul, nn_mod, nn_modl, nn_tmod, nn_tmodl, nn_tdiv, nn_tdivl, nn_div, nn_divl, nn_shr, nn_sub1, nn_lel, nn_lle, nn_ltl, nn_llt, nn_eql, nn_leq, nn_eq, nn_neg, nn_pos, i64]
  (first | refine .inl ⟨_, F1, ?_⟩ | refine ⟨_, F1, ?_⟩)
  simp (config := { maxSteps := 2000000 }) -implicitDefEqProofs [-List.map_set, set_u16, -Int.natCast_add, -Int.natCast_mul, -Int.natCast_emod, -Int.natCast_ediv, -Int.natCast_pow, nn_add, nn_addl, nn_ladd, nn_mul, nn_mull, nn_lmul, nn_mod, nn_modl, nn_tmod, nn_tmodl, nn_tdiv, nn_tdivl, nn_div, nn_divl, nn_shr, nn_sub1, nn_lel, nn_lle, nn_ltl, nn_llt, nn_eql, nn_leq, nn_eq, nn_neg, nn_pos]
  (first | refine .inl ⟨_, P1, ?_⟩ | refine ⟨_, P1, ?_⟩)
  simp (config := { maxSteps := 2000000 }) -implicitDefEqProofs [-List.map_set, set_u16, -Int.natCast_add, -Int.natCast_mul, -Int.natCast_emod, -Int.natCast_ediv, -Int.natCast_pow, nn_add, nn_addl, nn_ladd, nn_mul, nn_mull, nn_lmul, nn_mod, nn_modl, nn_tmod, nn_tmodl, nn_tdiv, nn_tdivl, nn_div, nn_divl, nn_shr, nn_sub1, nn_lel, nn_lle, nn_ltl, nn_llt, nn_eql, nn_leq, nn_eq, nn_neg, nn_pos]
  refine wpDraw_by [[], [], [], [2], [2, 3], [], [5], [5, 6], [], [8], [8, 9], [2, 3, 4, 5, 6, 7, 8, 9, 10], [1, 2, 3, 4, 5, 6, 7, 8, 9, 10, 11], [0, 1, 2, 3, 4, 5, 6, 7, 8, 9, 10, 11, 12], [0, 1, 2, 3, 4, 5, 6, 7, 8, 9, 10, 11, 12, 13]] [.any [] [51] [⟨0, [4], [], [51], []⟩, ⟨0, [1], [], [51], []⟩, ⟨0, [3], [], [51], []⟩, ⟨0, [42], [], [51], []⟩, ⟨0, [43], [], [51], []⟩, ⟨0, [3], [], [51], []⟩, ⟨0, [45], [], [51], []⟩, ⟨0, [46], [], [51], []⟩, ⟨0, [3], [], [51], []⟩, ⟨0, [48], [], [51], []⟩, ⟨0, [49], [], [51], []⟩, ⟨4, [44, 47, 50], [], [], []⟩, ⟨0, [41, 51], [], [], []⟩], .one, .one] (by rfl) ?_
  simp (config := { maxSteps := 2000000 }) -implicitDefEqProofs [-List.map_set, set_u16, -Int.natCast_add, -Int.natCast_mul, -Int.natCast_emod, -Int.natCast_ediv, -Int.natCast_pow, nn_add, nn_addl, nn_ladd, nn_mul, nn_mull, nn_lmul, nn_mod, nn_modl, nn_tmod, nn_tmodl, nn_tdiv, nn_tdivl, nn_div, nn_divl, nn_shr, nn_sub1, nn_lel, nn_lle, nn_ltl, nn_llt, nn_eql, nn_leq, nn_eq, nn_neg, nn_pos, i64]
  (first | refine .inl ⟨_, F2, ?_⟩ | refine ⟨_, F2, ?_⟩)
  simp (config := { maxSteps := 2000000 }) -implicitDefEqProofs [-List.map_set, set_u16, -Int.natCast_add, -Int.natCast_mul, -Int.natCast_emod, -Int.natCast_ediv, -Int.natCast_pow, nn_add, nn_addl, nn_ladd, nn_mul, nn_mull, nn_lmul, nn_mod, nn_modl, nn_tmod, nn_tmodl, nn_tdiv, nn_tdivl, nn_div, nn_divl, nn_shr, nn_sub1, nn_lel, nn_lle, nn_ltl, nn_llt, nn_eql, nn_leq, nn_eq, nn_neg, nn_pos]
  (first | refine .inl ⟨_, P2, ?_⟩ | refine ⟨_, P2, ?_⟩)
  simp (config := { maxSteps := 2000000 }) -implicitDefEqProofs [-List.map_set, set_u16, -Int.natCast_add, -Int.natCast_mul, -Int.natCast_emod, -Int.natCast_ediv, -Int.natCast_pow, nn_add, nn_addl, nn_ladd, nn_mul, nn_mull, nn_lmul, nn_mod, nn_modl, nn_tmod, nn_tmodl, nn_tdiv, nn_tdivl, nn_div, nn_divl, nn_shr, nn_sub1, nn_lel, nn_lle, nn_ltl, nn_llt, nn_eql, nn_leq, nn_eq, nn_neg, nn_pos]

theorem sameL_c (l : List Fct) (h1 : ∀ f ∈ l, f.Mild) (h2 : ∀ f ∈ l, f.Val) (hl : l.length ≤ 1000000) : CallsF Tryz.prog 21 [.c (fctsD l), .c (fctsD l)] (.u (.c (.d (.bool true)))) := by
  have k := fun f hf => refEqualF_c f f (h1 f hf) (h1 f hf) (h2 f hf) (h2 f hf)
  have e : ∀ f ∈ l, cmpF f f = 0 := fun f hf => isCmp_F.self ((h2 f hf).num (h1 f hf))
  clear h1 h2
  simp only [Fct.ds] at k
  refine callsF_of (T := tb) tab_ok mixed Tryz.func21 rfl (by decide) (Nat.le_of_ble_eq_true rfl) rfl ?_; unfold St.init
  simp (config := { maxSteps := 2000000 }) -implicitDefEqProofs [-List.map_set, set_u16, -Int.natCast_add, -Int.natCast_mul, -Int.natCast_emod, -Int.natCast_ediv, -Int.natCast_pow, nn_add, nn_addl, nn_ladd, nn_mul, nn_mull, nn_lmul, nn_mod, nn_modl, nn_tmod, nn_tmodl, nn_tdiv, nn_tdivl, nn_div, nn_divl, nn_shr, nn_sub1, nn_lel, nn_lle, nn_ltl, nn_llt, nn_eql, nn_leq, nn_eq, nn_neg, nn_pos]
  refine wpLoop_of (fun i : Nat => ⟨[(5, vI .i64 i), (0, vC (.d (fctsD l))), (1, vC (.d (fctsD l)))], []⟩) (fun i => i ≤ l.length) (fun i => l.length - i) 0 (by simp) (by simp) ?_
  rintro i h1
  by_cases h : i < l.length
  · have k := k l[i] (List.getElem_mem h)
    rw [e l[i] (List.getElem_mem h)] at k
    have e2 := fct_drop h
    simp (config := { maxSteps := 2000000 }) -implicitDefEqProofs [-List.map_set, set_u16, -Int.natCast_add, -Int.natCast_mul, -Int.natCast_emod, -Int.natCast_ediv, -Int.natCast_pow, nn_add, nn_addl, nn_ladd, nn_mul, nn_mull, nn_lmul, nn_mod, nn_modl, nn_tmod, nn_tmodl, nn_tdiv, nn_tdivl, nn_div, nn_divl, nn_shr, nn_sub1, nn_lel, nn_lle, nn_ltl, nn_llt, nn_eql, nn_leq, nn_eq, nn_neg, nn_pos, h]
    refine wpDraw_by [[], [], [0, 1], [0, 1, 2], [], [], [4, 5], [4, 5, 6], [0, 1, 2, 3, 4, 5, 6, 7], [0, 1, 2, 3, 4, 5, 6, 7, 8]] [.any [] [] [⟨0, [0], [], [], []⟩, ⟨0, [5], [], [], []⟩, ⟨0, [17, 18], [], [], []⟩, ⟨0, [19], [], [], []⟩, ⟨0, [1], [], [], []⟩, ⟨0, [5], [], [], []⟩, ⟨0, [21, 22], [], [], []⟩, ⟨0, [23], [], [], []⟩], .one, .one] (by rfl) ?_
    simp (config := { maxSteps := 2000000 }) -implicitDefEqProofs [-List.map_set, set_u16, -Int.natCast_add, -Int.natCast_mul, -Int.natCast_emod, -Int.natCast_ediv, -Int.natCast_pow, nn_add, nn_addl, nn_ladd, nn_mul, nn_mull, nn_lmul, nn_mod, nn_modl, nn_tmod, nn_tmodl, nn_tdiv, nn_tdivl, nn_div, nn_divl, nn_shr, nn_sub1, nn_lel, nn_lle, nn_ltl, nn_llt, nn_eql, nn_leq, nn_eq, nn_neg, nn_pos, h, e2]
    (first | refine .inl ⟨_, k, ?_⟩ | refine ⟨_, k, ?_⟩)
    simp (config := { maxSteps := 2000000 }) -implicitDefEqProofs [-List.map_set, set_u16, -Int.natCast_add, -Int.natCast_mul, -Int.natCast_emod, -Int.natCast_ediv, -Int.natCast_pow, nn_add, nn_addl, nn_ladd, nn_mul, nn_mull, nn_lmul, nn_mod, nn_modl, nn_tmod, nn_tmodl, nn_tdiv, nn_tdivl, nn_div, nn_divl, nn_shr, nn_sub1, nn_lel, nn_lle, nn_ltl, nn_llt, nn_eql, nn_leq, nn_eq, nn_neg, nn_pos]
    exact ⟨by omega, by omega, by omega⟩
  · have : i = l.length := by omega
    subst this
    simp (config := { maxSteps := 2000000 }) -implicitDefEqProofs [-List.map_set, set_u16, -Int.natCast_add, -Int.natCast_mul, -Int.natCast_emod, -Int.natCast_ediv, -Int.natCast_pow, nn_add, nn_addl, nn_ladd, nn_mul, nn_mull, nn_lmul, nn_mod, nn_modl, nn_tmod, nn_tmodl, nn_tdiv, nn_tdivl, nn_div, nn_divl, nn_shr, nn_sub1, nn_lel, nn_lle, nn_ltl, nn_llt, nn_eql, nn_leq, nn_eq, nn_neg, nn_pos]

end Go.Va

/-
  The variants of a fact: the document's list is the code's.
-/
namespace Go.Va
open Go.Proofs
set_option maxHeartbeats 4000000
set_option maxRecDepth 100000
set_option linter.unusedSimpArgs false
set_option linter.unusedVariables false

theorem foldl_flat : ∀ (Ls : List (List Fct)) (A : List Fct), Ls.foldl putsF A = putsF A Ls.flatten
  | [], A => rfl
  | L :: Ls, A => by
    rw [List.foldl_cons, foldl_flat Ls, List.flatten_cons]
    unfold putsF
    rw [List.foldl_append]

/-- May a fact's arguments be put in these orders? -/
def OkA (f : Fct) (A : List Ord) : Prop := ∀ g ∈ A, okS f.args.length g = true ∧ (g.2 = true → f.kind = 9 ∧ val f.abs ≠ 0)
theorem rt_of {f : Fct} (h : f.Rt) {A : List Ord} (hA : OkA f A) : ∀ x ∈ A.map (appF f), x.Rt := fun x hx => by
  obtain ⟨g, hg, rfl⟩ := List.mem_map.1 hx
  exact appF_rt h (hA g hg).1 (hA g hg).2
theorem varL_mem {f : Fct} (h : f.Rt) {A : List Ord} (hA : OkA f A) (x : Fct) : x ∈ varL f A ↔ x ∈ A.map (appF f) := by
  unfold varL
  rw [putsF_mem (by simp) (rt_of h hA)]
  simp
theorem varL_ord {f : Fct} (h : f.Rt) {A : List Ord} (hA : OkA f A) : (varL f A).Pairwise (fun a b => cmpF a b < 0) := putsF_sorted (by simp) (rt_of h hA) List.Pairwise.nil
theorem varL_ext {f : Fct} (h : f.Rt) {A : List Ord} (hA : OkA f A) {L : List Fct} (hL : ∀ x, x ∈ L ↔ x ∈ A.map (appF f)) (sL : L.Pairwise (fun a b => cmpF a b < 0)) : L = varL f A :=
  strict_ext (fun x hx => rt_of h hA x ((hL x).1 hx)) (fun x hx => rt_of h hA x ((varL_mem h hA x).1 hx)) sL (varL_ord h hA) fun x => by rw [hL, varL_mem h hA]
theorem varL_sub {f : Fct} (h : f.Rt) {A G : List Ord} (hA : OkA f A) (h1 : ∀ g ∈ A, g ∈ G) (h2 : ∀ g ∈ G, g ∈ A) : varL f A = varL f G := by
  have hG : OkA f G := fun g hg => hA g (h2 g hg)
  refine varL_ext h hG (fun x => ?_) (varL_ord h hA)
  rw [varL_mem h hA]
  simp only [List.mem_map]
  exact ⟨fun ⟨g, hg, e⟩ => ⟨g, h1 g hg, e⟩, fun ⟨g, hg, e⟩ => ⟨g, h2 g hg, e⟩⟩

def A2 : List Ord := [([0, 1, 2, 3], false), ([2, 3, 0, 1], false), ([1, 0, 2, 3], false), ([2, 3, 1, 0], false), ([0, 1, 3, 2], false), ([3, 2, 0, 1], false), ([1, 0, 3, 2], false), ([3, 2, 1, 0], false)]
def A9 : List Ord := [([0, 1, 2, 3], false), ([2, 3, 0, 1], true), ([1, 0, 2, 3], false), ([2, 3, 1, 0], true), ([0, 1, 3, 2], false), ([3, 2, 0, 1], true), ([1, 0, 3, 2], false), ([3, 2, 1, 0], true)]
def A10 : List Ord := [([0, 1, 2, 3], false), ([1, 0, 2, 3], false), ([0, 1, 3, 2], false), ([1, 0, 3, 2], false)]
theorem list2A (k : Int) (n : Bool) (m d : List Nat) (a b c e : Int) : accS (stp4 k n m d m d a b c e) 4 = varL ⟨k, [a, b, c, e], n, m, d⟩ A2 := by
  unfold accS varL
  rw [foldl_flat]
  rfl
theorem list9A (n : Bool) (m d : List Nat) (a b c e : Int) : accS (stp4 9 n m d d m a b c e) 4 = varL ⟨9, [a, b, c, e], n, m, d⟩ A9 := by
  unfold accS varL
  rw [foldl_flat]
  rfl
theorem list10A (n : Bool) (m d : List Nat) (a b c e : Int) : accS (one4 n m d a b c e) 4 = varL ⟨9, [a, b, c, e], n, m, d⟩ A10 := by
  unfold accS varL
  rw [foldl_flat]
  rfl
def A5 : List Ord := [([0, 1, 2], false), ([0, 2, 1], false)]
theorem list5A (a b c : Int) : putsF [] [⟨5, [a, b, c], false, [], []⟩, ⟨5, [a, c, b], false, [], []⟩] = varL ⟨5, [a, b, c], false, [], []⟩ A5 := rfl

def ix8 : List Int := [0, 1, 2, 3, 4, 5, 6, 7]
def A7 : List Ord := ((List.range 8).map fun t => (List.range 16).map fun s => (argA ix8 t s 4, false)).flatten
theorem seA_ix (l : List Int) (t s i : Nat) : ((toAt l (seA ix8 t s i).1), (toAt l (seA ix8 t s i).2)) = seA l t s i := by
  have h := tbN_lt t i
  have key : ∀ n, n < 8 → ix8.getD n 0 = (n : Int) := by decide
  unfold seA
  rw [key _ (by omega), key _ h]
  have e : ∀ n : Nat, toAt l (n : Int) = l.getD n 0 := fun n => rfl
  unfold trn
  split
  · rw [← e, ← e]
  · rw [← e, ← e]
theorem argA_ix (l : List Int) (t s : Nat) : ∀ i, (argA ix8 t s i).map (toAt l) = argA l t s i
  | 0 => rfl
  | i + 1 => by
    rw [argA, argA, List.map_append, argA_ix l t s i, ← seA_ix l t s i]
    rfl
theorem list7A (l : List Int) : allA l 8 = varL ⟨7, l, false, [], []⟩ A7 := by
  unfold allA varL A7
  rw [foldl_flat, List.map_flatten, List.map_map]
  congr 2

/-- All orders, one behind the other. -/
def ordP : Nat → List Int → List Int → List (List Int)
  | 0, d, _ => [d]
  | n + 1, d, r => ((List.range (n + 1)).map fun i => ordP n (d ++ [r.getD i 0]) (r.take i ++ r.drop (i + 1))).flatten
theorem ordF_spec (k : Int) : ∀ (n : Nat) (d r : List Int), (∀ p ∈ ordP n d r, (Fct.mk k p false [] []).Rt) → (∀ x, x ∈ ordF k n d r ↔ ∃ p ∈ ordP n d r, x = ⟨k, p, false, [], []⟩) ∧ (ordF k n d r).Pairwise (fun a b => cmpF a b < 0)
  | 0, d, r, _ => by simp [ordF, ordP]
  | n + 1, d, r, h => by
    have sub : ∀ i, i < n + 1 → ∀ p ∈ ordP n (d ++ [r.getD i 0]) (r.take i ++ r.drop (i + 1)), p ∈ ordP (n + 1) d r := fun i hi p hp => by
      rw [ordP, List.mem_flatten]
      exact ⟨_, List.mem_map.2 ⟨i, List.mem_range.2 hi, rfl⟩, hp⟩
    have ih := fun i (hi : i < n + 1) => ordF_spec k n (d ++ [r.getD i 0]) (r.take i ++ r.drop (i + 1)) (fun p hp => h p (sub i hi p hp))
    have hrt : ∀ x ∈ ((List.range (n + 1)).map fun i => ordF k n (d ++ [r.getD i 0]) (r.take i ++ r.drop (i + 1))).flatten, x.Rt := fun x hx => by
      obtain ⟨L, hL, hx⟩ := List.mem_flatten.1 hx
      obtain ⟨i, hi, rfl⟩ := List.mem_map.1 hL
      have hi := List.mem_range.1 hi
      obtain ⟨p, hp, rfl⟩ := ((ih i hi).1 x).1 hx
      exact h p (sub i hi p hp)
    rw [ordF_succ, foldl_flat]
    refine ⟨fun x => ?_, putsF_sorted (by simp) hrt List.Pairwise.nil⟩
    rw [putsF_mem (by simp) hrt, ordP]
    simp only [List.not_mem_nil, false_or, List.mem_flatten, List.mem_map]
    constructor
    · rintro ⟨L, ⟨i, hi, rfl⟩, hx⟩
      obtain ⟨p, hp, e⟩ := ((ih i (List.mem_range.1 hi)).1 x).1 hx
      exact ⟨p, ⟨_, ⟨i, hi, rfl⟩, hp⟩, e⟩
    · rintro ⟨p, ⟨L, ⟨i, hi, rfl⟩, hp⟩, e⟩
      exact ⟨_, ⟨i, hi, rfl⟩, ((ih i (List.mem_range.1 hi)).1 x).2 ⟨p, hp, e⟩⟩

def AP (n : Nat) : List Ord := (ordP n [] (idS n).1).map fun p => (p, false)
theorem listPA {k : Int} {l : List Int} (h : (Fct.mk k l false [] []).Rt) (hA : OkA ⟨k, l, false, [], []⟩ (AP l.length))
    (hp : ordP l.length [] l = (ordP l.length [] (idS l.length).1).map (List.map (toAt l))) : ordF k l.length [] l = varL ⟨k, l, false, [], []⟩ (AP l.length) := by
  have hm : ∀ x : Fct, (∃ p ∈ ordP l.length [] l, x = ⟨k, p, false, [], []⟩) ↔ x ∈ (AP l.length).map (appF ⟨k, l, false, [], []⟩) := fun x => by
    rw [hp]
    unfold AP
    rw [List.map_map]
    simp only [List.mem_map, Function.comp]
    constructor
    · rintro ⟨p, ⟨q, hq, rfl⟩, rfl⟩
      exact ⟨q, hq, rfl⟩
    · rintro ⟨q, hq, rfl⟩
      exact ⟨_, ⟨q, hq, rfl⟩, rfl⟩
  have s := ordF_spec k l.length [] l (fun p hp => rt_of h hA _ ((hm _).1 ⟨p, hp, rfl⟩))
  exact varL_ext h hA (fun x => by rw [s.1 x, hm x]) s.2

theorem okA_of {f : Fct} {A : List Ord} {n : Nat} (hn : f.args.length = n) (hb : (A.all fun g => okS n g && !g.2) = true) : OkA f A := fun g hg => by
  have := List.all_eq_true.1 hb g hg
  simp only [Bool.and_eq_true, Bool.not_eq_true'] at this
  exact ⟨hn ▸ this.1, fun h2 => by rw [this.2] at h2; cases h2⟩
theorem okA_of9 {f : Fct} {A : List Ord} {n : Nat} (hn : f.args.length = n) (hk : f.kind = 9) (h0 : val f.abs ≠ 0) (hb : (A.all fun g => okS n g) = true) : OkA f A := fun g hg => by
  have := List.all_eq_true.1 hb g hg
  exact ⟨hn ▸ this, fun _ => ⟨hk, h0⟩⟩

theorem kinds_of {k : Int} (h : arity k ≠ 0) : k = 1 ∨ k = 2 ∨ k = 3 ∨ k = 4 ∨ k = 5 ∨ k = 6 ∨ k = 7 ∨ k = 8 ∨ k = 9 := by
  unfold arity at h
  by_cases q1 : k = 1 ∨ k = 5
  · omega
  rw [if_neg q1] at h
  by_cases q2 : k = 2 ∨ k = 3 ∨ k = 4 ∨ k = 6 ∨ k = 9
  · omega
  rw [if_neg q2] at h
  by_cases q3 : k = 7
  · omega
  rw [if_neg q3] at h
  by_cases q4 : k = 8
  · omega
  rw [if_neg q4] at h
  exact absurd rfl h

theorem noX {xs : List Ord} {P : Prop} (h : (xs.all fun x => !x.2) = true) : ∀ x ∈ xs, x.2 = true → P := fun x hx h2 => by
  have := List.all_eq_true.1 h x hx
  rw [h2] at this
  cases this
/-- One list, by the code and by the document. -/
structure Both (f : Fct) (E : List Fct) : Prop where
  rt : ∀ e ∈ E, e.Rt
  small : E.length ≤ 1000
  ours : CallsF Tryz.prog 22 [.agg f.ds] (.u (.c (.d (fctsD E))))
  theirs : CallsF Tryz.prog 23 [.agg f.ds] (.u (.c (.d (fctsD E))))
theorem both_of {f : Fct} (h : f.Rt) {n : Nat} (hn : f.args.length = n) {A G xs : List Ord} {st : List (Nat × Nat)} (hx : exchL f.kind (decide (val f.abs ≠ 0)) = xs) (hG : grpB n xs G st = true) (hA : OkA f A) (hX : ∀ x ∈ xs, x.2 = true → f.kind = 9 ∧ val f.abs ≠ 0)
    (h1 : ∀ g ∈ A, g ∈ G) (h2 : ∀ g ∈ G, g ∈ A) (hr : CallsF Tryz.prog 23 [.agg f.ds] (.u (.c (.d (fctsD (varL f A)))))) : Both f (varL f A) := by
  have e := varL_sub h hA h1 h2
  subst hn
  have v := varL_ok h hG (fun g hg => (hA g (h2 g hg)).2) hX
  have o := variants_c f h (varL f G) (hx ▸ v)
  rw [← e] at v o
  exact ⟨v.rt, v.small, o, hr⟩
theorem both_c (f : Fct) (h : f.Rt) : ∃ E, Both f E := by
  obtain ⟨h1, h2, h3, h4⟩ := h.parts
  obtain ⟨k, l, n, m, d⟩ := f
  simp only at h1 h2 h3 h4
  have hk := kinds_of h1
  by_cases k9 : k = 9
  · subst k9
    obtain ⟨a, b, c, e, rfl⟩ := list4 (by simpa [arity] using h2)
    rw [if_pos rfl] at h4
    by_cases m0 : val m = 0
    · refine ⟨_, both_of h rfl (xs := exchL 9 false) (by simp [m0]) grp10 (okA_of (n := 4) rfl (by decide +kernel)) (noX (by decide)) (A := A10) (by decide +kernel) (by decide +kernel) ?_⟩
      rw [← list10A]
      exact variantsC_c a b c e n m d h.ok h.mild h4 m0
    · refine ⟨_, both_of h rfl (xs := exchL 9 true) (by simp [m0]) grp9 (okA_of9 (n := 4) rfl rfl m0 (by decide +kernel)) (fun _ _ _ => ⟨rfl, m0⟩) (A := A9) (by decide +kernel) (by decide +kernel) ?_⟩
      rw [← list9A]
      obtain ⟨e1, e2, d0, g, hn⟩ := ratOk_spec h4 h.mild.oa h.mild.od
      have h5 : ratOk n d m = true := by
        have g' : Nat.gcd (val d) (val m) = 1 := by rw [Nat.gcd_comm]; exact g
        rw [e1, e2]
        unfold ratOk
        rw [lastOk_limbs, lastOk_limbs, val_limbs, val_limbs]
        simp [limbs_nil, m0, d0, g']
      exact variantsB_c a b c e n m d h.ok h.mild h4 h5 m0
  rw [if_neg k9] at h4
  obtain ⟨rfl, rfl, rfl⟩ := h4
  rcases hk with rfl | rfl | rfl | rfl | rfl | rfl | rfl | rfl | rfl
  · obtain ⟨a, b, c, rfl⟩ := list3 (by simpa [arity] using h2)
    have ok : OkA ⟨1, [a, b, c], false, [], []⟩ (AP 3) := okA_of (n := 3) rfl (by decide +kernel)
    refine ⟨_, both_of h rfl (xs := exchL 1 true) rfl grp1 ok (noX (by decide)) (by decide +kernel) (by decide +kernel) ?_⟩
    have e := listPA h ok rfl
    have r := variantsO_c 1 (by omega) [a, b, c] false [] [] h.ok h.mild (by simp)
    rw [e] at r
    exact r
  · obtain ⟨a, b, c, e, rfl⟩ := list4 (by simpa [arity] using h2)
    refine ⟨_, both_of h rfl (xs := exchL 2 true) rfl grp2 (okA_of (n := 4) rfl (by decide +kernel)) (noX (by decide)) (A := A2) (by decide +kernel) (by decide +kernel) ?_⟩
    rw [← list2A]
    exact variantsA_c 2 (by omega) a b c e false [] [] h.ok h.mild
  · obtain ⟨a, b, c, e, rfl⟩ := list4 (by simpa [arity] using h2)
    refine ⟨_, both_of h rfl (xs := exchL 2 true) rfl grp2 (okA_of (n := 4) rfl (by decide +kernel)) (noX (by decide)) (A := A2) (by decide +kernel) (by decide +kernel) ?_⟩
    rw [← list2A]
    exact variantsA_c 3 (by omega) a b c e false [] [] h.ok h.mild
  · obtain ⟨a, b, c, e, rfl⟩ := list4 (by simpa [arity] using h2)
    refine ⟨_, both_of h rfl (xs := exchL 2 true) rfl grp2 (okA_of (n := 4) rfl (by decide +kernel)) (noX (by decide)) (A := A2) (by decide +kernel) (by decide +kernel) ?_⟩
    rw [← list2A]
    exact variantsA_c 4 (by omega) a b c e false [] [] h.ok h.mild
  · obtain ⟨a, b, c, rfl⟩ := list3 (by simpa [arity] using h2)
    refine ⟨_, both_of h rfl (xs := exchL 5 true) rfl grp5 (okA_of (n := 3) rfl (by decide +kernel)) (noX (by decide)) (A := A5) (by decide +kernel) (by decide +kernel) ?_⟩
    rw [← list5A]
    exact variants5_c a b c h.ok h.mild
  · obtain ⟨a, b, c, e, rfl⟩ := list4 (by simpa [arity] using h2)
    have ok : OkA ⟨6, [a, b, c, e], false, [], []⟩ (AP 4) := okA_of (n := 4) rfl (by decide +kernel)
    refine ⟨_, both_of h rfl (xs := exchL 6 true) rfl grp6 ok (noX (by decide)) (by decide +kernel) (by decide +kernel) ?_⟩
    have e' := listPA h ok rfl
    have r := variantsO_c 6 (by omega) [a, b, c, e] false [] [] h.ok h.mild (by simp)
    rw [e'] at r
    exact r
  · have hl : l.length = 8 := by simpa [arity] using h2
    refine ⟨_, both_of h hl (xs := exchL 7 true) rfl grp7 (okA_of hl (by decide +kernel)) (noX (by decide)) (A := A7) (by decide +kernel) (by decide +kernel) ?_⟩
    rw [← list7A]
    exact variants7_c l hl h.ok h.mild
  · obtain ⟨a, b, rfl⟩ : ∃ a b, l = [a, b] := by
      match l, (by simpa [arity] using h2 : l.length = 2) with
      | [a, b], _ => exact ⟨a, b, rfl⟩
    have ok : OkA ⟨8, [a, b], false, [], []⟩ (AP 2) := okA_of (n := 2) rfl (by decide +kernel)
    refine ⟨_, both_of h rfl (xs := exchL 8 true) rfl grp8 ok (noX (by decide)) (by decide +kernel) (by decide +kernel) ?_⟩
    have e' := listPA h ok rfl
    have r := variantsO_c 8 (by omega) [a, b] false [] [] h.ok h.mild (by simp)
    rw [e'] at r
    exact r
  · exact absurd rfl k9

end Go.Va
