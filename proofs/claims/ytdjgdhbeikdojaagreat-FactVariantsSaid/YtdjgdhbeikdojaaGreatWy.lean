/-
  Contracts: the document's facts: Put.
-/
import Derived.Test.YtdjgdhbeikdojaaGreatWl
set_option linter.all false

namespace Go.Va
open Go.Proofs
set_option maxHeartbeats 4000000
set_option maxRecDepth 10000
set_option linter.unusedSimpArgs false
set_option linter.unusedVariables false

@[simp] theorem sliceV_fhi (h : List (Nat × Blk)) (l : List Fct) (k : Int) : sliceV h (.d (fctsD l)) none (some k) 5 = if 0 ≤ k ∧ k ≤ l.length then some (.d (fctsD (l.take k.toNat))) else none := by
  unfold fctsD sliceV sliceN
  simp only [fct_len, if_true, Option.getD_none, Option.getD_some, Int.toNat_zero, Nat.sub_zero]
  by_cases hk : 0 ≤ k ∧ k ≤ l.length
  · rw [if_pos hk, if_pos (by omega)]
    simp only [cut, Nat.zero_mul, List.drop_zero, fm_take Fct.ds_len, List.length_take]
    rw [Nat.min_eq_left (by omega)]
  · rw [if_neg hk, if_neg (by omega)]
@[simp] theorem sliceV_flo (h : List (Nat × Blk)) (l : List Fct) (k : Int) : sliceV h (.d (fctsD l)) (some k) none 5 = if 0 ≤ k ∧ k ≤ l.length then some (.d (fctsD (l.drop k.toNat))) else none := by
  unfold fctsD sliceV sliceN
  simp only [fct_len, if_true, Option.getD_none, Option.getD_some]
  by_cases hk : 0 ≤ k ∧ k ≤ l.length
  · rw [if_pos hk, if_pos (by omega)]
    simp only [cut, fm_drop Fct.ds_len, List.length_drop]
    rw [List.take_of_length_le (by rw [fct_len, List.length_drop]; omega)]
    have e : (l.length : Int).toNat - k.toNat = l.length - k.toNat := by simp
    rw [e]
  · rw [if_neg hk, if_neg (by omega)]
@[simp] theorem src_fcts (j : TI) (l : List Fct) (st : St) (hj : j.size = 5) : st.src j (.d (fctsD l)) = some (l.length, l.flatMap Fct.ds) := by
  unfold fctsD St.src
  simp [hj]

theorem slice_fcts {m : List Fct} {n : Nat} {cs : List D} (hn : n = m.length) (hc : cs = m.flatMap Fct.ds) : D.slice n (List.take (n * 5) cs) = fctsD m := by
  subst hn hc
  rw [fct_take]
  rfl

theorem putF_at (f : Fct) : ∀ (p : Nat) (l : List Fct), p ≤ l.length → (∀ j (hj : j < l.length), j < p → cmpF l[j] f < 0) → putF l f = l.take p ++ putF (l.drop p) f
  | 0, l, _, _ => rfl
  | p + 1, [], h, _ => by simp at h
  | p + 1, a :: l, h, hc => by
    have h0 := hc 0 (by simp) (by omega)
    have ih := putF_at f p l (by simpa using h) (fun j hj hp => hc (j + 1) (by simpa using hj) (by omega))
    simp only [List.getElem_cons_zero] at h0
    rw [putF, if_pos h0, List.take_succ_cons, List.drop_succ_cons, ih]
    rfl
theorem putF_end {f : Fct} {l : List Fct} (hc : ∀ j (hj : j < l.length), cmpF l[j] f < 0) : putF l f = l ++ [f] := by
  rw [putF_at f l.length l (Nat.le_refl _) (fun j hj _ => hc j hj), List.take_length, List.drop_length]
  rfl
theorem putF_there {f : Fct} {l : List Fct} {p : Nat} (h : p < l.length) (hc : ∀ j (hj : j < l.length), j < p → cmpF l[j] f < 0) (h0 : cmpF l[p] f = 0) : putF l f = l := by
  rw [putF_at f p l (by omega) hc, List.drop_eq_getElem_cons h, putF, if_neg (by omega), if_pos h0, ← List.drop_eq_getElem_cons h, List.take_append_drop]
theorem putF_new {f : Fct} {l : List Fct} {p : Nat} (h : p < l.length) (hc : ∀ j (hj : j < l.length), j < p → cmpF l[j] f < 0) (h0 : ¬ cmpF l[p] f < 0) (h1 : ¬ cmpF l[p] f = 0) : putF l f = l.take p ++ f :: l.drop p := by
  rw [putF_at f p l (by omega) hc, List.drop_eq_getElem_cons h, putF, if_neg h0, if_neg h1]

theorem put_c (f : Fct) (l : List Fct) (hf : f.Mild) (vf : f.Val) (hm : ∀ g ∈ l, g.Mild) (hv : ∀ g ∈ l, g.Val) (hn : l.length ≤ 1000000) : CallsF Tryz.prog 59 [.c (fctsD l), .agg f.ds] (.u (.c (.d (fctsD (putF l f))))) := by
  have k := fun g hg => refCmpF_c g f (hm g hg) hf (hv g hg) vf
  clear hm hv hf vf
  simp only [Fct.ds] at k ⊢
  refine callsF_of (T := tb) tab_ok mixed Tryz.func59 rfl (by decide) (Nat.le_of_ble_eq_true rfl) rfl ?_; unfold St.init
  simp (config := { maxSteps := 2000000 }) -implicitDefEqProofs [-List.map_set, set_u16, -Int.natCast_add, -Int.natCast_mul, -Int.natCast_emod, -Int.natCast_ediv, -Int.natCast_pow, nn_add, nn_addl, nn_ladd, nn_mul, nn_mull, nn_lmul, nn_mod, nn_modl, nn_tmod, nn_tmodl, nn_tdiv, nn_tdivl, nn_div, nn_divl, nn_shr, nn_sub1, nn_lel, nn_lle, nn_ltl, nn_llt, nn_eql, nn_leq, nn_eq, nn_neg, nn_pos]
  refine wpLoop_of (fun i : Nat => ⟨[(5, vI .i64 i), (3, vC (.ptr 3 0)), (0, vC (.d (fctsD l)))], [(3, .box [.d (.int .i64 f.kind), .d (intsD f.args), .d (.bool f.neg), .d (natD f.abs), .d (natD f.den)])]⟩) (fun i => i ≤ l.length ∧ ∀ j (hj : j < l.length), j < i → cmpF l[j] f < 0) (fun i => l.length - i) 0 (by simp) (by simp) ?_
  rintro i ⟨h1, h2⟩
  by_cases h : i < l.length
  · have k := k l[i] (List.getElem_mem h)
    have e2 := fct_drop h
    by_cases g : cmpF l[i] f < 0
    · simp (config := { maxSteps := 2000000 }) -implicitDefEqProofs [-List.map_set, set_u16, -Int.natCast_add, -Int.natCast_mul, -Int.natCast_emod, -Int.natCast_ediv, -Int.natCast_pow, nn_add, nn_addl, nn_ladd, nn_mul, nn_mull, nn_lmul, nn_mod, nn_modl, nn_tmod, nn_tmodl, nn_tdiv, nn_tdivl, nn_div, nn_divl, nn_shr, nn_sub1, nn_lel, nn_lle, nn_ltl, nn_llt, nn_eql, nn_leq, nn_eq, nn_neg, nn_pos, h]
      refine wpDraw_by [[], [], [1], [0, 1, 2], [0, 1, 2, 3], [0, 1, 2, 3, 4], [0, 1, 2, 3, 4], [0, 1, 2, 3, 4, 5, 6], [0, 1, 2, 3, 4, 5, 6, 7], [0, 1, 2, 3, 4], [0, 1, 2, 3, 4, 5, 6, 7, 8, 9], [0, 1, 2, 3, 4, 5, 6, 7, 8, 9, 10], [0, 1, 2, 3, 4, 5, 6, 7, 8, 9, 10, 11]] [.any [] [] [⟨0, [5], [], [], []⟩, ⟨0, [0], [], [], []⟩, ⟨0, [7], [], [], []⟩], .one, .one, .any [] [] [⟨0, [0, 10], [], [], []⟩, ⟨0, [5, 10], [], [], []⟩, ⟨0, [11, 12, 10], [], [], []⟩, ⟨0, [13, 10], [], [], []⟩, ⟨0, [3, 10], [], [], []⟩], .one, .one, .one] (by rfl) ?_
      simp (config := { maxSteps := 2000000 }) -implicitDefEqProofs [-List.map_set, set_u16, -Int.natCast_add, -Int.natCast_mul, -Int.natCast_emod, -Int.natCast_ediv, -Int.natCast_pow, nn_add, nn_addl, nn_ladd, nn_mul, nn_mull, nn_lmul, nn_mod, nn_modl, nn_tmod, nn_tmodl, nn_tdiv, nn_tdivl, nn_div, nn_divl, nn_shr, nn_sub1, nn_lel, nn_lle, nn_ltl, nn_llt, nn_eql, nn_leq, nn_eq, nn_neg, nn_pos, h, e2]
      (first | refine .inl ⟨_, k, ?_⟩ | refine ⟨_, k, ?_⟩)
      simp (config := { maxSteps := 2000000 }) -implicitDefEqProofs [-List.map_set, set_u16, -Int.natCast_add, -Int.natCast_mul, -Int.natCast_emod, -Int.natCast_ediv, -Int.natCast_pow, nn_add, nn_addl, nn_ladd, nn_mul, nn_mull, nn_lmul, nn_mod, nn_modl, nn_tmod, nn_tmodl, nn_tdiv, nn_tdivl, nn_div, nn_divl, nn_shr, nn_sub1, nn_lel, nn_lle, nn_ltl, nn_llt, nn_eql, nn_leq, nn_eq, nn_neg, nn_pos, g]
      exact ⟨by omega, ⟨by omega, fun j hj hp => if e : j = i then by subst e; exact g else h2 j hj (by omega)⟩, by omega⟩
    · simp (config := { maxSteps := 2000000 }) -implicitDefEqProofs [-List.map_set, set_u16, -Int.natCast_add, -Int.natCast_mul, -Int.natCast_emod, -Int.natCast_ediv, -Int.natCast_pow, nn_add, nn_addl, nn_ladd, nn_mul, nn_mull, nn_lmul, nn_mod, nn_modl, nn_tmod, nn_tmodl, nn_tdiv, nn_tdivl, nn_div, nn_divl, nn_shr, nn_sub1, nn_lel, nn_lle, nn_ltl, nn_llt, nn_eql, nn_leq, nn_eq, nn_neg, nn_pos, h]
      refine wpDraw_by [[], [], [1], [0, 1, 2], [0, 1, 2, 3], [0, 1, 2, 3, 4], [0, 1, 2, 3, 4], [0, 1, 2, 3, 4, 5, 6], [0, 1, 2, 3, 4, 5, 6, 7], [0, 1, 2, 3, 4], [0, 1, 2, 3, 4, 5, 6, 7, 8, 9], [0, 1, 2, 3, 4, 5, 6, 7, 8, 9, 10], [0, 1, 2, 3, 4, 5, 6, 7, 8, 9, 10, 11]] [.any [] [] [⟨0, [5], [], [], []⟩, ⟨0, [0], [], [], []⟩, ⟨0, [7], [], [], []⟩], .one, .one, .any [] [] [⟨0, [0, 10], [], [], []⟩, ⟨0, [5, 10], [], [], []⟩, ⟨0, [11, 12, 10], [], [], []⟩, ⟨0, [13, 10], [], [], []⟩, ⟨0, [3, 10], [], [], []⟩], .one, .one, .one] (by rfl) ?_
      simp (config := { maxSteps := 2000000 }) -implicitDefEqProofs [-List.map_set, set_u16, -Int.natCast_add, -Int.natCast_mul, -Int.natCast_emod, -Int.natCast_ediv, -Int.natCast_pow, nn_add, nn_addl, nn_ladd, nn_mul, nn_mull, nn_lmul, nn_mod, nn_modl, nn_tmod, nn_tmodl, nn_tdiv, nn_tdivl, nn_div, nn_divl, nn_shr, nn_sub1, nn_lel, nn_lle, nn_ltl, nn_llt, nn_eql, nn_leq, nn_eq, nn_neg, nn_pos, h, e2]
      (first | refine .inl ⟨_, k, ?_⟩ | refine ⟨_, k, ?_⟩)
      simp (config := { maxSteps := 2000000 }) -implicitDefEqProofs [-List.map_set, set_u16, -Int.natCast_add, -Int.natCast_mul, -Int.natCast_emod, -Int.natCast_ediv, -Int.natCast_pow, nn_add, nn_addl, nn_ladd, nn_mul, nn_mull, nn_lmul, nn_mod, nn_modl, nn_tmod, nn_tmodl, nn_tdiv, nn_tdivl, nn_div, nn_divl, nn_shr, nn_sub1, nn_lel, nn_lle, nn_ltl, nn_llt, nn_eql, nn_leq, nn_eq, nn_neg, nn_pos, g]
      refine wpDraw_by [[], [], [1], [0, 1, 2], [0, 1, 2, 3], [0, 1, 2, 3, 4], [0, 1, 2, 3, 4], [0, 1, 2, 3, 4, 5, 6], [0, 1, 2, 3, 4, 5, 6, 7], [0, 1, 2, 3, 4], [0, 1, 2, 3, 4, 5, 6, 7, 8, 9], [0, 1, 2, 3, 4, 5, 6, 7, 8, 9, 10], [0, 1, 2, 3, 4, 5, 6, 7, 8, 9, 10, 11]] [.any [] [] [⟨0, [5], [], [], []⟩, ⟨0, [0], [], [], []⟩, ⟨0, [22], [], [], []⟩], .one, .one, .any [] [] [⟨0, [0, 25], [], [], []⟩, ⟨0, [5, 25], [], [], []⟩, ⟨0, [26, 27, 25], [], [], []⟩, ⟨0, [28, 25], [], [], []⟩, ⟨0, [3, 25], [], [], []⟩], .one, .one, .one] (by rfl) ?_
      simp (config := { maxSteps := 2000000 }) -implicitDefEqProofs [-List.map_set, set_u16, -Int.natCast_add, -Int.natCast_mul, -Int.natCast_emod, -Int.natCast_ediv, -Int.natCast_pow, nn_add, nn_addl, nn_ladd, nn_mul, nn_mull, nn_lmul, nn_mod, nn_modl, nn_tmod, nn_tmodl, nn_tdiv, nn_tdivl, nn_div, nn_divl, nn_shr, nn_sub1, nn_lel, nn_lle, nn_ltl, nn_llt, nn_eql, nn_leq, nn_eq, nn_neg, nn_pos, h, e2]
      (first | refine .inl ⟨_, k, ?_⟩ | refine ⟨_, k, ?_⟩)
      by_cases g0 : cmpF l[i] f = 0
      · simp (config := { maxSteps := 2000000 }) -implicitDefEqProofs [-List.map_set, set_u16, -Int.natCast_add, -Int.natCast_mul, -Int.natCast_emod, -Int.natCast_ediv, -Int.natCast_pow, nn_add, nn_addl, nn_ladd, nn_mul, nn_mull, nn_lmul, nn_mod, nn_modl, nn_tmod, nn_tmodl, nn_tdiv, nn_tdivl, nn_div, nn_divl, nn_shr, nn_sub1, nn_lel, nn_lle, nn_ltl, nn_llt, nn_eql, nn_leq, nn_eq, nn_neg, nn_pos, g0]
        rw [putF_there h h2 g0]
      · simp (config := { maxSteps := 2000000 }) -implicitDefEqProofs [-List.map_set, set_u16, -Int.natCast_add, -Int.natCast_mul, -Int.natCast_emod, -Int.natCast_ediv, -Int.natCast_pow, nn_add, nn_addl, nn_ladd, nn_mul, nn_mull, nn_lmul, nn_mod, nn_modl, nn_tmod, nn_tmodl, nn_tdiv, nn_tdivl, nn_div, nn_divl, nn_shr, nn_sub1, nn_lel, nn_lle, nn_ltl, nn_llt, nn_eql, nn_leq, nn_eq, nn_neg, nn_pos, g0]
        refine wpDraw_by [[], [], [], [1, 2], [0, 1, 2, 3], [], [5], [0, 1, 2, 3, 4, 5, 6], [], [], [8, 9], [0, 1, 2, 3, 4, 5, 6, 7, 8, 9, 10], [0, 1, 2, 3, 4, 5, 6, 7, 8, 9, 10, 11]] [.any [] [35, 39, 41, 42] [⟨1, [], [41], [39, 41, 42], []⟩, ⟨0, [0], [35, 41], [35, 39, 41, 42], []⟩, ⟨0, [5], [35, 41], [35, 39, 41, 42], []⟩, ⟨0, [36, 37], [35, 41], [35, 39, 41, 42], []⟩, ⟨3, [35, 38], [41], [41, 42], [35]⟩, ⟨0, [3], [35, 39], [35, 39, 41, 42], []⟩, ⟨1, [40], [35, 39], [35, 39, 42], []⟩, ⟨3, [39, 41], [], [], [39]⟩, ⟨0, [0], [35, 39, 41, 42], [35, 39, 41, 42], []⟩, ⟨0, [5], [35, 39, 41, 42], [35, 39, 41, 42], []⟩, ⟨0, [43, 44], [35, 39, 41, 42], [35, 39, 41, 42], []⟩], .one, .one] (by rfl) ?_
        simp (config := { maxSteps := 2000000 }) -implicitDefEqProofs [-List.map_set, set_u16, -Int.natCast_add, -Int.natCast_mul, -Int.natCast_emod, -Int.natCast_ediv, -Int.natCast_pow, nn_add, nn_addl, nn_ladd, nn_mul, nn_mull, nn_lmul, nn_mod, nn_modl, nn_tmod, nn_tmodl, nn_tdiv, nn_tdivl, nn_div, nn_divl, nn_shr, nn_sub1, nn_lel, nn_lle, nn_ltl, nn_llt, nn_eql, nn_leq, nn_eq, nn_neg, nn_pos, h]
        have hmin : min i l.length = i := by omega
        rw [hmin, putF_new h h2 g g0]
        refine ⟨by omega, by omega, by omega, by omega, by omega, by omega, by omega, slice_fcts ?_ ?_⟩
        · simp
          omega
        · simp [Fct.ds]
  · have : i = l.length := by omega
    subst this
    simp (config := { maxSteps := 2000000 }) -implicitDefEqProofs [-List.map_set, set_u16, -Int.natCast_add, -Int.natCast_mul, -Int.natCast_emod, -Int.natCast_ediv, -Int.natCast_pow, nn_add, nn_addl, nn_ladd, nn_mul, nn_mull, nn_lmul, nn_mod, nn_modl, nn_tmod, nn_tmodl, nn_tdiv, nn_tdivl, nn_div, nn_divl, nn_shr, nn_sub1, nn_lel, nn_lle, nn_ltl, nn_llt, nn_eql, nn_leq, nn_eq, nn_neg, nn_pos]
    refine wpDraw_by [[], [], [1], [0, 1, 2], [0, 1, 2, 3], [0, 1, 2, 3, 4], [0, 1, 2, 3, 4], [0, 1, 2, 3, 4, 5, 6], [0, 1, 2, 3, 4, 5, 6, 7], [0, 1, 2, 3, 4], [0, 1, 2, 3, 4, 5, 6, 7, 8, 9], [0, 1, 2, 3, 4, 5, 6, 7, 8, 9, 10], [0, 1, 2, 3, 4, 5, 6, 7, 8, 9, 10, 11]] [.any [] [] [⟨0, [5], [], [], []⟩, ⟨0, [0], [], [], []⟩, ⟨0, [7], [], [], []⟩], .one, .one, .any [] [] [⟨0, [0, 10], [], [], []⟩, ⟨0, [5, 10], [], [], []⟩, ⟨0, [11, 12, 10], [], [], []⟩, ⟨0, [13, 10], [], [], []⟩, ⟨0, [3, 10], [], [], []⟩], .one, .one, .one] (by rfl) ?_
    simp (config := { maxSteps := 2000000 }) -implicitDefEqProofs [-List.map_set, set_u16, -Int.natCast_add, -Int.natCast_mul, -Int.natCast_emod, -Int.natCast_ediv, -Int.natCast_pow, nn_add, nn_addl, nn_ladd, nn_mul, nn_mull, nn_lmul, nn_mod, nn_modl, nn_tmod, nn_tmodl, nn_tdiv, nn_tdivl, nn_div, nn_divl, nn_shr, nn_sub1, nn_lel, nn_lle, nn_ltl, nn_llt, nn_eql, nn_leq, nn_eq, nn_neg, nn_pos, h]
    refine wpDraw_by [[], [], [1], [0, 1, 2], [0, 1, 2, 3], [0, 1, 2, 3, 4], [0, 1, 2, 3, 4], [0, 1, 2, 3, 4, 5, 6], [0, 1, 2, 3, 4, 5, 6, 7], [0, 1, 2, 3, 4], [0, 1, 2, 3, 4, 5, 6, 7, 8, 9], [0, 1, 2, 3, 4, 5, 6, 7, 8, 9, 10], [0, 1, 2, 3, 4, 5, 6, 7, 8, 9, 10, 11]] [.any [] [] [⟨0, [5], [], [], []⟩, ⟨0, [0], [], [], []⟩, ⟨0, [22], [], [], []⟩], .one, .one, .any [] [] [⟨0, [0, 25], [], [], []⟩, ⟨0, [5, 25], [], [], []⟩, ⟨0, [26, 27, 25], [], [], []⟩, ⟨0, [28, 25], [], [], []⟩, ⟨0, [3, 25], [], [], []⟩], .one, .one, .one] (by rfl) ?_
    simp (config := { maxSteps := 2000000 }) -implicitDefEqProofs [-List.map_set, set_u16, -Int.natCast_add, -Int.natCast_mul, -Int.natCast_emod, -Int.natCast_ediv, -Int.natCast_pow, nn_add, nn_addl, nn_ladd, nn_mul, nn_mull, nn_lmul, nn_mod, nn_modl, nn_tmod, nn_tmodl, nn_tdiv, nn_tdivl, nn_div, nn_divl, nn_shr, nn_sub1, nn_lel, nn_lle, nn_ltl, nn_llt, nn_eql, nn_leq, nn_eq, nn_neg, nn_pos, h]
    refine wpDraw_by [[], [], [], [1, 2], [0, 1, 2, 3], [], [5], [0, 1, 2, 3, 4, 5, 6], [], [], [8, 9], [0, 1, 2, 3, 4, 5, 6, 7, 8, 9, 10], [0, 1, 2, 3, 4, 5, 6, 7, 8, 9, 10, 11]] [.any [] [35, 39, 41, 42] [⟨1, [], [41], [39, 41, 42], []⟩, ⟨0, [0], [35, 41], [35, 39, 41, 42], []⟩, ⟨0, [5], [35, 41], [35, 39, 41, 42], []⟩, ⟨0, [36, 37], [35, 41], [35, 39, 41, 42], []⟩, ⟨3, [35, 38], [41], [41, 42], [35]⟩, ⟨0, [3], [35, 39], [35, 39, 41, 42], []⟩, ⟨1, [40], [35, 39], [35, 39, 42], []⟩, ⟨3, [39, 41], [], [], [39]⟩, ⟨0, [0], [35, 39, 41, 42], [35, 39, 41, 42], []⟩, ⟨0, [5], [35, 39, 41, 42], [35, 39, 41, 42], []⟩, ⟨0, [43, 44], [35, 39, 41, 42], [35, 39, 41, 42], []⟩], .one, .one] (by rfl) ?_
    simp (config := { maxSteps := 2000000 }) -implicitDefEqProofs [-List.map_set, set_u16, -Int.natCast_add, -Int.natCast_mul, -Int.natCast_emod, -Int.natCast_ediv, -Int.natCast_pow, nn_add, nn_addl, nn_ladd, nn_mul, nn_mull, nn_lmul, nn_mod, nn_modl, nn_tmod, nn_tmodl, nn_tdiv, nn_tdivl, nn_div, nn_divl, nn_shr, nn_sub1, nn_lel, nn_lle, nn_ltl, nn_llt, nn_eql, nn_leq, nn_eq, nn_neg, nn_pos, h]
    rw [putF_end (fun j hj => h2 j hj hj)]
    refine ⟨by omega, by omega, by omega, by omega, by omega, slice_fcts ?_ ?_⟩
    · simp
    · simp [Fct.ds]

end Go.Va

/-
  Contracts: the document's facts: all orders of a list; a fact with other arguments.
-/
namespace Go.Va
open Go.Proofs
set_option maxHeartbeats 4000000
set_option maxRecDepth 10000
set_option linter.unusedSimpArgs false
set_option linter.unusedVariables false

theorem fact_c (f : Fct) (l : List Int) (hl : l.length ≤ 1000000) : CallsF Tryz.prog 60 [.agg f.ds, .c (intsD l)] (Fct.res ⟨f.kind, l, f.neg, f.abs, f.den⟩) := by
  simp only [Fct.ds]
  refine callsF_of (T := tb) tab_ok mixed Tryz.func60 rfl (by decide) (Nat.le_of_ble_eq_true rfl) rfl ?_; unfold St.init
  simp (config := { maxSteps := 2000000 }) -implicitDefEqProofs [-List.map_set, set_u16, -Int.natCast_add, -Int.natCast_mul, -Int.natCast_emod, -Int.natCast_ediv, -Int.natCast_pow, nn_add, nn_addl, nn_ladd, nn_mul, nn_mull, nn_lmul, nn_mod, nn_modl, nn_tmod, nn_tmodl, nn_tdiv, nn_tdivl, nn_div, nn_divl, nn_shr, nn_sub1, nn_lel, nn_lle, nn_ltl, nn_llt, nn_eql, nn_leq, nn_eq, nn_neg, nn_pos]
  refine wpDraw_by [[], [0], [], [], [2, 3], [], [5], [0, 1, 2, 3, 4, 5, 6], [0, 1, 2, 3, 4, 5, 6, 7]] [.any [] [7, 9] [⟨0, [2], [7, 9], [7, 9], []⟩, ⟨0, [5], [7, 9], [7, 9], []⟩, ⟨1, [], [], [9], []⟩, ⟨0, [1], [7], [7, 9], []⟩, ⟨3, [7, 8], [], [], [7]⟩, ⟨0, [2], [7, 9], [7, 9], []⟩, ⟨0, [10], [7, 9], [7, 9], []⟩], .one, .one] (by rfl) ?_
  simp (config := { maxSteps := 2000000 }) -implicitDefEqProofs [-List.map_set, set_u16, -Int.natCast_add, -Int.natCast_mul, -Int.natCast_emod, -Int.natCast_ediv, -Int.natCast_pow, nn_add, nn_addl, nn_ladd, nn_mul, nn_mull, nn_lmul, nn_mod, nn_modl, nn_tmod, nn_tmodl, nn_tdiv, nn_tdivl, nn_div, nn_divl, nn_shr, nn_sub1, nn_lel, nn_lle, nn_ltl, nn_llt, nn_eql, nn_leq, nn_eq, nn_neg, nn_pos, Fct.res]
  exact ⟨by omega, by omega⟩

/-- Two numbers, turned or not. -/
def trn (a b c : Int) : Int × Int := if c = 1 then (b, a) else (a, b)
theorem turned_c (a b c : Int) : CallsF Tryz.prog 62 [.c (.int .i64 a), .c (.int .i64 b), .c (.int .i64 c)] (.u (.agg [.d (.int .i64 (trn a b c).1), .d (.int .i64 (trn a b c).2)])) := by
  unfold trn
  refine callsF_of (T := tb) tab_ok mixed Tryz.func62 rfl (by decide) (Nat.le_of_ble_eq_true rfl) rfl ?_; unfold St.init
  by_cases h : c = 1
  · simp (config := { maxSteps := 2000000 }) -implicitDefEqProofs [-List.map_set, set_u16, -Int.natCast_add, -Int.natCast_mul, -Int.natCast_emod, -Int.natCast_ediv, -Int.natCast_pow, nn_add, nn_addl, nn_ladd, nn_mul, nn_mull, nn_lmul, nn_mod, nn_modl, nn_tmod, nn_tmodl, nn_tdiv, nn_tdivl, nn_div, nn_divl, nn_shr, nn_sub1, nn_lel, nn_lle, nn_ltl, nn_llt, nn_eql, nn_leq, nn_eq, nn_neg, nn_pos, h]
  · simp (config := { maxSteps := 2000000 }) -implicitDefEqProofs [-List.map_set, set_u16, -Int.natCast_add, -Int.natCast_mul, -Int.natCast_emod, -Int.natCast_ediv, -Int.natCast_pow, nn_add, nn_addl, nn_ladd, nn_mul, nn_mull, nn_lmul, nn_mod, nn_modl, nn_tmod, nn_tmodl, nn_tdiv, nn_tdivl, nn_div, nn_divl, nn_shr, nn_sub1, nn_lel, nn_lle, nn_ltl, nn_llt, nn_eql, nn_leq, nn_eq, nn_neg, nn_pos, h]

/-- All orders, each put to what is there. -/
def ordF (k : Int) : Nat → List Int → List Int → List Fct
  | 0, d, _ => [⟨k, d, false, [], []⟩]
  | n + 1, d, r => ((List.range (n + 1)).map fun i => ordF k n (d ++ [r.getD i 0]) (r.take i ++ r.drop (i + 1))).foldl putsF []

theorem orders0_c (k : Int) (d : List Int) (hd : d.length ≤ 8) : CallsF Tryz.prog 58 [.c (.int .i64 k), .c (intsD d), .c (intsD [])] (.u (.c (.d (fctsD (ordF k 0 d []))))) := by
  unfold ordF
  refine callsF_of (T := tb) tab_ok mixed Tryz.func58 rfl (by decide) (Nat.le_of_ble_eq_true rfl) rfl ?_; unfold St.init
  simp (config := { maxSteps := 2000000 }) -implicitDefEqProofs [-List.map_set, set_u16, -Int.natCast_add, -Int.natCast_mul, -Int.natCast_emod, -Int.natCast_ediv, -Int.natCast_pow, nn_add, nn_addl, nn_ladd, nn_mul, nn_mull, nn_lmul, nn_mod, nn_modl, nn_tmod, nn_tmodl, nn_tdiv, nn_tdivl, nn_div, nn_divl, nn_shr, nn_sub1, nn_lel, nn_lle, nn_ltl, nn_llt, nn_eql, nn_leq, nn_eq, nn_neg, nn_pos]
  rfl

theorem putF_sub {f x : Fct} : ∀ {l : List Fct}, x ∈ putF l f → x = f ∨ x ∈ l
  | [], h => by simpa [putF] using h
  | a :: l, h => by
    unfold putF at h
    split at h
    · rcases List.mem_cons.1 h with h | h
      · simp [h]
      · rcases putF_sub h with h | h <;> simp [h]
    · split at h
      · exact .inr h
      · simpa using h
theorem putsF_sub {x : Fct} : ∀ {m l : List Fct}, x ∈ putsF l m → x ∈ l ∨ x ∈ m
  | [], l, h => .inl h
  | f :: m, l, h => by
    rcases putsF_sub (m := m) (l := putF l f) h with h | h
    · rcases putF_sub h with h | h <;> simp [h]
    · simp [h]
theorem foldl_sub {x : Fct} : ∀ {Ls : List (List Fct)} {A : List Fct}, x ∈ Ls.foldl putsF A → x ∈ A ∨ ∃ L ∈ Ls, x ∈ L
  | [], A, h => .inl h
  | L :: Ls, A, h => by
    rcases foldl_sub (Ls := Ls) (A := putsF A L) h with h | ⟨L', h1, h2⟩
    · rcases putsF_sub h with h | h
      · exact .inl h
      · exact .inr ⟨L, by simp, h⟩
    · exact .inr ⟨L', by simp [h1], h2⟩
theorem foldl_len {b : Nat} : ∀ {Ls : List (List Fct)} {A : List Fct}, (∀ L ∈ Ls, L.length ≤ b) → (Ls.foldl putsF A).length ≤ A.length + Ls.length * b
  | [], A, _ => by simp
  | L :: Ls, A, h => by
    have h1 := foldl_len (Ls := Ls) (A := putsF A L) (fun L' h' => h L' (by simp [h']))
    have h2 := putsF_len L A
    have h3 := h L (by simp)
    simp only [List.foldl_cons, List.length_cons, Nat.add_mul]
    omega
theorem putF_ne (l : List Fct) (f : Fct) : putF l f ≠ [] := by
  cases l with
  | nil => simp [putF]
  | cons a l =>
    unfold putF
    split
    · simp
    · split <;> simp
theorem putsF_ne : ∀ {m l : List Fct}, (l ≠ [] ∨ m ≠ []) → putsF l m ≠ []
  | [], l, h => by simpa [putsF] using h
  | f :: m, l, _ => putsF_ne (m := m) (l := putF l f) (.inl (putF_ne l f))

theorem ordF_succ (k : Int) (n : Nat) (d r : List Int) : ordF k (n + 1) d r = ((List.range (n + 1)).map fun i => ordF k n (d ++ [r.getD i 0]) (r.take i ++ r.drop (i + 1))).foldl putsF [] := rfl
theorem fold_next (M : Nat → List Fct) (i : Nat) : ((List.range (i + 1)).map M).foldl putsF [] = putsF (((List.range i).map M).foldl putsF []) (M i) := by
  rw [List.range_succ, List.map_append, List.foldl_append]
  rfl
theorem ordF_ne (k : Int) : ∀ (n : Nat) (d r : List Int), ordF k n d r ≠ []
  | 0, d, r => by simp [ordF]
  | n + 1, d, r => by
    rw [ordF_succ, fold_next (fun i => ordF k n (d ++ [r.getD i 0]) (r.take i ++ r.drop (i + 1))) n]
    exact putsF_ne (.inr (ordF_ne k n _ _))
/-- What the orders of a list are. -/
def Pln (k : Int) (m : Nat) (x : Fct) : Prop := ∃ p : List Int, p.length = m ∧ x = ⟨k, p, false, [], []⟩
theorem Pln.mild {k : Int} {m : Nat} {x : Fct} (h : Pln k m x) (hm : m ≤ 8) : x.Mild := by
  obtain ⟨p, h1, rfl⟩ := h
  exact plain_mild k p (by omega)
theorem Pln.val {k : Int} {m : Nat} {x : Fct} (h : Pln k m x) (hk : k ≠ 9) : x.Val := by
  obtain ⟨p, h1, rfl⟩ := h
  exact fun h9 => absurd h9 hk
theorem ordF_all (k : Int) : ∀ (n : Nat) (d r : List Int), r.length = n → ∀ x ∈ ordF k n d r, Pln k (n + d.length) x
  | 0, d, r, hr, x, hx => ⟨d, by simp, by simpa [ordF] using hx⟩
  | n + 1, d, r, hr, x, hx => by
    rw [ordF_succ] at hx
    rcases foldl_sub hx with h | ⟨L, h1, h2⟩
    · cases h
    · obtain ⟨i, hi, rfl⟩ := List.mem_map.1 h1
      have hi := List.mem_range.1 hi
      obtain ⟨p, e1, e2⟩ := ordF_all k n _ _ (by simp; omega) x h2
      exact ⟨p, by rw [e1]; simp; omega, e2⟩
def fac : Nat → Nat | 0 => 1 | n + 1 => (n + 1) * fac n
theorem ordF_len (k : Int) : ∀ (n : Nat) (d r : List Int), (ordF k n d r).length ≤ fac n
  | 0, d, r => by simp [ordF, fac]
  | n + 1, d, r => by
    rw [ordF_succ]
    have := foldl_len (b := fac n) (A := []) (Ls := (List.range (n + 1)).map fun i => ordF k n (d ++ [r.getD i 0]) (r.take i ++ r.drop (i + 1))) (fun L hL => by
      obtain ⟨i, _, rfl⟩ := List.mem_map.1 hL
      exact ordF_len k n _ _)
    simpa [fac] using this
theorem fac_le : ∀ n : Nat, n ≤ 8 → fac n ≤ 40320 := by decide

theorem ordersR_c (k : Int) (k9 : k ≠ 9) : ∀ (n : Nat) (d r : List Int), r.length = n → n + d.length ≤ 8 → CallsF Tryz.prog 58 [.c (.int .i64 k), .c (intsD d), .c (intsD r)] (.u (.c (.d (fctsD (ordF k n d r)))))
  | 0, d, r, hr, hd => by
    obtain rfl : r = [] := List.length_eq_zero_iff.1 hr
    exact orders0_c k d (by omega)
  | n + 1, d, r, hr, hd => by
    have ih := fun i (hi : i < n + 1) => ordersR_c k k9 n (d ++ [r.getD i 0]) (r.take i ++ r.drop (i + 1)) (by simp; omega) (by simp; omega)
    have all := fun i (hi : i < n + 1) => ordF_all k n (d ++ [r.getD i 0]) (r.take i ++ r.drop (i + 1)) (by simp; omega)
    have len := fun i => Nat.le_trans (ordF_len k n (d ++ [r.getD i 0]) (r.take i ++ r.drop (i + 1))) (fac_le n (by omega))
    have ne := fun i => ordF_ne k n (d ++ [r.getD i 0]) (r.take i ++ r.drop (i + 1))
    generalize hM : (fun i => ordF k n (d ++ [r.getD i 0]) (r.take i ++ r.drop (i + 1))) = M at *
    have hMi : ∀ i, ordF k n (d ++ [r.getD i 0]) (r.take i ++ r.drop (i + 1)) = M i := fun i => congrFun hM i
    rw [ordF, hM]
    simp only [hMi] at ih ne all len
    simp only [List.length_append, List.length_singleton] at all
    clear hM hMi
    refine callsF_of (T := tb) tab_ok mixed Tryz.func58 rfl (by decide) (Nat.le_of_ble_eq_true rfl) rfl ?_; unfold St.init
    simp (config := { maxSteps := 2000000 }) -implicitDefEqProofs [-List.map_set, set_u16, -Int.natCast_add, -Int.natCast_mul, -Int.natCast_emod, -Int.natCast_ediv, -Int.natCast_pow, nn_add, nn_addl, nn_ladd, nn_mul, nn_mull, nn_lmul, nn_mod, nn_modl, nn_tmod, nn_tmodl, nn_tdiv, nn_tdivl, nn_div, nn_divl, nn_shr, nn_sub1, nn_lel, nn_lle, nn_ltl, nn_llt, nn_eql, nn_leq, nn_eq, nn_neg, nn_pos, hr]
    refine wpLoop_of (fun x : Nat × Option (List Fct) => match x with
        | (i, none) => ⟨[(8, vI .i64 i), (7, vC (.sl 7 0 0)), (0, vI .i64 k), (1, vC (.d (intsD d))), (2, vC (.d (intsD r)))], [(7, .row 5 [] true)]⟩
        | (i, some L) => ⟨[(8, vI .i64 i), (7, vC (.d (fctsD L))), (0, vI .i64 k), (1, vC (.d (intsD d))), (2, vC (.d (intsD r)))], []⟩)
      (fun x => x.1 ≤ n + 1 ∧ (x.2 = none ∧ x.1 = 0 ∨ x.1 ≠ 0 ∧ x.2 = some (((List.range x.1).map M).foldl putsF []))) (fun x => n + 1 - x.1) (0, none) (by simp) (by simp) ?_
    rintro ⟨i, o⟩ ⟨h1, h2⟩
    simp only at h1 h2
    by_cases h : i < n + 1
    · have ih := ih i h
      have hmin : min i (n + 1) = i := by omega
      have a1 : D.slice (d.length + 1) (List.take (d.length + 1) (d.map i64 ++ [.int .i64 r[i]])) = intsD (d ++ [r.getD i 0]) := by
        rw [List.take_of_length_le (by simp), List.getD_eq_getElem?_getD, List.getElem?_eq_getElem (by omega)]
        show _ = D.slice _ _
        simp [i64]
      have a2 : D.slice (i + (n - i)) (List.take (i + (n - i)) (List.take i (r.map i64) ++ List.drop (i + 1) (r.map i64))) = intsD (r.take i ++ r.drop (i + 1)) := by
        rw [List.take_of_length_le (by simp; omega)]
        show _ = D.slice _ _
        simp
        omega
      rcases h2 with ⟨rfl, h2⟩ | ⟨h2, rfl⟩
      · simp (config := { maxSteps := 2000000 }) -implicitDefEqProofs [-List.map_set, set_u16, -Int.natCast_add, -Int.natCast_mul, -Int.natCast_emod, -Int.natCast_ediv, -Int.natCast_pow, nn_add, nn_addl, nn_ladd, nn_mul, nn_mull, nn_lmul, nn_mod, nn_modl, nn_tmod, nn_tmodl, nn_tdiv, nn_tdivl, nn_div, nn_divl, nn_shr, nn_sub1, nn_lel, nn_lle, nn_ltl, nn_llt, nn_eql, nn_leq, nn_eq, nn_neg, nn_pos, hr, h]
        refine wpDraw_by [[], [], [], [1, 2], [0, 1, 2, 3], [], [], [6], [5, 6, 7], [0, 1, 2, 3, 4, 5, 6, 7, 8], [0, 1, 2, 3, 4, 5, 6, 7, 8, 9]] [.any [] [25, 29] [⟨1, [], [], [29], []⟩, ⟨0, [2], [25], [25, 29], []⟩, ⟨0, [8], [25], [25, 29], []⟩, ⟨0, [26, 27], [25], [25, 29], []⟩, ⟨3, [25, 28], [], [], [25]⟩, ⟨0, [2], [25, 29], [25, 29], []⟩, ⟨0, [8], [25, 29], [25, 29], []⟩, ⟨0, [31], [25, 29], [25, 29], []⟩, ⟨0, [30, 32], [25, 29], [25, 29], []⟩], .one, .one] (by rfl) ?_
        simp (config := { maxSteps := 2000000 }) -implicitDefEqProofs [-List.map_set, set_u16, -Int.natCast_add, -Int.natCast_mul, -Int.natCast_emod, -Int.natCast_ediv, -Int.natCast_pow, nn_add, nn_addl, nn_ladd, nn_mul, nn_mull, nn_lmul, nn_mod, nn_modl, nn_tmod, nn_tmodl, nn_tdiv, nn_tdivl, nn_div, nn_divl, nn_shr, nn_sub1, nn_lel, nn_lle, nn_ltl, nn_llt, nn_eql, nn_leq, nn_eq, nn_neg, nn_pos, hr, h]
        refine ⟨by omega, by omega, by omega, by omega, by omega, ?_⟩
        refine wpDraw_by [[], [], [], [1, 2], [], [], [4, 5], [4, 5, 6], [4, 5, 6, 7], [1, 2, 3, 4, 5, 6, 7, 8], [], [0, 1, 2, 3, 4, 5, 6, 7, 8, 9, 10], [0, 1, 2, 3, 4, 5, 6, 7, 8, 9, 10, 11]] [.any [] [36, 38, 43, 44] [⟨0, [0], [36, 38, 43, 44], [36, 38, 43, 44], []⟩, ⟨1, [], [43], [38, 43, 44], []⟩, ⟨0, [1], [36, 43], [36, 38, 43, 44], []⟩, ⟨3, [36, 37], [43], [43, 44], [36]⟩, ⟨0, [2], [36, 38], [36, 38, 43, 44], []⟩, ⟨0, [8], [36, 38], [36, 38, 43, 44], []⟩, ⟨0, [39, 40], [36, 38], [36, 38, 43, 44], []⟩, ⟨0, [41], [36, 38], [36, 38, 43, 44], []⟩, ⟨1, [42], [36, 38], [36, 38, 44], []⟩, ⟨3, [38, 43], [], [], [38]⟩, ⟨0, [9], [36, 38, 43, 44], [36, 38, 43, 44], []⟩], .one, .one] (by rfl) ?_
        simp (config := { maxSteps := 2000000 }) -implicitDefEqProofs [-List.map_set, set_u16, -Int.natCast_add, -Int.natCast_mul, -Int.natCast_emod, -Int.natCast_ediv, -Int.natCast_pow, nn_add, nn_addl, nn_ladd, nn_mul, nn_mull, nn_lmul, nn_mod, nn_modl, nn_tmod, nn_tmodl, nn_tdiv, nn_tdivl, nn_div, nn_divl, nn_shr, nn_sub1, nn_lel, nn_lle, nn_ltl, nn_llt, nn_eql, nn_leq, nn_eq, nn_neg, nn_pos, hr, h, hmin, i64]
        refine ⟨by omega, by omega, ?_⟩
        rw [a1, a2]
        (first | refine .inl ⟨_, ih, ?_⟩ | refine ⟨_, ih, ?_⟩)
        simp (config := { maxSteps := 2000000 }) -implicitDefEqProofs [-List.map_set, set_u16, -Int.natCast_add, -Int.natCast_mul, -Int.natCast_emod, -Int.natCast_ediv, -Int.natCast_pow, nn_add, nn_addl, nn_ladd, nn_mul, nn_mull, nn_lmul, nn_mod, nn_modl, nn_tmod, nn_tmodl, nn_tdiv, nn_tdivl, nn_div, nn_divl, nn_shr, nn_sub1, nn_lel, nn_lle, nn_ltl, nn_llt, nn_eql, nn_leq, nn_eq, nn_neg, nn_pos]
        have alli := all i h
        have leni := len i
        have nei := ne i
        refine wpLoop_of (fun x : Nat × Option (List Fct) => match x with
            | (j, none) => ⟨[(11, vI .i64 j), (10, vC (.d (fctsD (M i)))), (8, vI .i64 i), (7, vC (.sl 7 0 0)), (0, vI .i64 k), (1, vC (.d (intsD d))), (2, vC (.d (intsD r)))], [(7, .row 5 [] true)]⟩
            | (j, some L) => ⟨[(11, vI .i64 j), (10, vC (.d (fctsD (M i)))), (8, vI .i64 i), (7, vC (.d (fctsD L))), (0, vI .i64 k), (1, vC (.d (intsD d))), (2, vC (.d (intsD r)))], []⟩)
          (fun x => x.1 ≤ (M i).length ∧ (x.2 = none ∧ x.1 = 0 ∨ x.1 ≠ 0 ∧ x.2 = some (putsF [] ((M i).take x.1)))) (fun x => (M i).length - x.1) (0, none) (by simp) (by simp) ?_
        rintro ⟨j, o⟩ ⟨g1, g2⟩
        simp only at g1 g2
        by_cases g : j < (M i).length
        · have hall : ∀ y ∈ putsF [] ((M i).take j), Pln k (n + (d.length + 1)) y := fun y hy => by
            rcases putsF_sub hy with hy | hy
            · cases hy
            · exact alli y (List.mem_of_mem_take hy)
          have hln := putsF_len ((M i).take j) []
          simp only [List.length_nil, List.length_take] at hln
          have q := put_c (M i)[j] (putsF [] ((M i).take j)) ((alli _ (List.getElem_mem g)).mild (by omega)) ((alli _ (List.getElem_mem g)).val k9) (fun y hy => (hall y hy).mild (by omega)) (fun y hy => (hall y hy).val k9) (by omega)
          have e2 := fct_drop g
          have e3 : putF (putsF [] ((M i).take j)) (M i)[j] = putsF [] ((M i).take (j + 1)) := by
            rw [List.take_succ_eq_append_getElem g]
            unfold putsF
            rw [List.foldl_append]
            rfl
          rw [e3] at q
          simp only [Fct.ds] at q
          rcases g2 with ⟨rfl, g2⟩ | ⟨g2, rfl⟩
          · rw [show fctsD (putsF [] ((M i).take j)) = D.slice 0 [] from by rw [g2]; rfl] at q
            simp (config := { maxSteps := 2000000 }) -implicitDefEqProofs [-List.map_set, set_u16, -Int.natCast_add, -Int.natCast_mul, -Int.natCast_emod, -Int.natCast_ediv, -Int.natCast_pow, nn_add, nn_addl, nn_ladd, nn_mul, nn_mull, nn_lmul, nn_mod, nn_modl, nn_tmod, nn_tmodl, nn_tdiv, nn_tdivl, nn_div, nn_divl, nn_shr, nn_sub1, nn_lel, nn_lle, nn_ltl, nn_llt, nn_eql, nn_leq, nn_eq, nn_neg, nn_pos, g, e2]
            (first | refine .inl ⟨_, q, ?_⟩ | refine ⟨_, q, ?_⟩)
            simp (config := { maxSteps := 2000000 }) -implicitDefEqProofs [-List.map_set, set_u16, -Int.natCast_add, -Int.natCast_mul, -Int.natCast_emod, -Int.natCast_ediv, -Int.natCast_pow, nn_add, nn_addl, nn_ladd, nn_mul, nn_mull, nn_lmul, nn_mod, nn_modl, nn_tmod, nn_tmodl, nn_tdiv, nn_tdivl, nn_div, nn_divl, nn_shr, nn_sub1, nn_lel, nn_lle, nn_ltl, nn_llt, nn_eql, nn_leq, nn_eq, nn_neg, nn_pos]
            exact ⟨by omega, j + 1, some (putsF [] ((M i).take (j + 1))), by simp [leL, lk], ⟨by omega, .inr ⟨by omega, rfl⟩⟩, by omega⟩
          · simp (config := { maxSteps := 2000000 }) -implicitDefEqProofs [-List.map_set, set_u16, -Int.natCast_add, -Int.natCast_mul, -Int.natCast_emod, -Int.natCast_ediv, -Int.natCast_pow, nn_add, nn_addl, nn_ladd, nn_mul, nn_mull, nn_lmul, nn_mod, nn_modl, nn_tmod, nn_tmodl, nn_tdiv, nn_tdivl, nn_div, nn_divl, nn_shr, nn_sub1, nn_lel, nn_lle, nn_ltl, nn_llt, nn_eql, nn_leq, nn_eq, nn_neg, nn_pos, g, e2]
            (first | refine .inl ⟨_, q, ?_⟩ | refine ⟨_, q, ?_⟩)
            simp (config := { maxSteps := 2000000 }) -implicitDefEqProofs [-List.map_set, set_u16, -Int.natCast_add, -Int.natCast_mul, -Int.natCast_emod, -Int.natCast_ediv, -Int.natCast_pow, nn_add, nn_addl, nn_ladd, nn_mul, nn_mull, nn_lmul, nn_mod, nn_modl, nn_tmod, nn_tmodl, nn_tdiv, nn_tdivl, nn_div, nn_divl, nn_shr, nn_sub1, nn_lel, nn_lle, nn_ltl, nn_llt, nn_eql, nn_leq, nn_eq, nn_neg, nn_pos]
            exact ⟨by omega, j + 1, some (putsF [] ((M i).take (j + 1))), by simp [leL, lk], ⟨by omega, .inr ⟨by omega, rfl⟩⟩, by omega⟩
        · have : j = (M i).length := by omega
          subst this
          rcases g2 with ⟨rfl, g2⟩ | ⟨_, rfl⟩
          · exact absurd (List.length_eq_zero_iff.1 g2) nei
          · have e5 : putsF [] (M i) = ((List.range (i + 1)).map M).foldl putsF [] := by
              rw [fold_next, h2]
              rfl
            rw [List.take_length, e5]
            simp (config := { maxSteps := 2000000 }) -implicitDefEqProofs [-List.map_set, set_u16, -Int.natCast_add, -Int.natCast_mul, -Int.natCast_emod, -Int.natCast_ediv, -Int.natCast_pow, nn_add, nn_addl, nn_ladd, nn_mul, nn_mull, nn_lmul, nn_mod, nn_modl, nn_tmod, nn_tmodl, nn_tdiv, nn_tdivl, nn_div, nn_divl, nn_shr, nn_sub1, nn_lel, nn_lle, nn_ltl, nn_llt, nn_eql, nn_leq, nn_eq, nn_neg, nn_pos]
            exact ⟨by omega, i + 1, some _, by simp [leL, lk], ⟨by omega, .inr ⟨by omega, rfl⟩⟩, by omega⟩
      · simp (config := { maxSteps := 2000000 }) -implicitDefEqProofs [-List.map_set, set_u16, -Int.natCast_add, -Int.natCast_mul, -Int.natCast_emod, -Int.natCast_ediv, -Int.natCast_pow, nn_add, nn_addl, nn_ladd, nn_mul, nn_mull, nn_lmul, nn_mod, nn_modl, nn_tmod, nn_tmodl, nn_tdiv, nn_tdivl, nn_div, nn_divl, nn_shr, nn_sub1, nn_lel, nn_lle, nn_ltl, nn_llt, nn_eql, nn_leq, nn_eq, nn_neg, nn_pos, hr, h]
        refine wpDraw_by [[], [], [], [1, 2], [0, 1, 2, 3], [], [], [6], [5, 6, 7], [0, 1, 2, 3, 4, 5, 6, 7, 8], [0, 1, 2, 3, 4, 5, 6, 7, 8, 9]] [.any [] [25, 29] [⟨1, [], [], [29], []⟩, ⟨0, [2], [25], [25, 29], []⟩, ⟨0, [8], [25], [25, 29], []⟩, ⟨0, [26, 27], [25], [25, 29], []⟩, ⟨3, [25, 28], [], [], [25]⟩, ⟨0, [2], [25, 29], [25, 29], []⟩, ⟨0, [8], [25, 29], [25, 29], []⟩, ⟨0, [31], [25, 29], [25, 29], []⟩, ⟨0, [30, 32], [25, 29], [25, 29], []⟩], .one, .one] (by rfl) ?_
        simp (config := { maxSteps := 2000000 }) -implicitDefEqProofs [-List.map_set, set_u16, -Int.natCast_add, -Int.natCast_mul, -Int.natCast_emod, -Int.natCast_ediv, -Int.natCast_pow, nn_add, nn_addl, nn_ladd, nn_mul, nn_mull, nn_lmul, nn_mod, nn_modl, nn_tmod, nn_tmodl, nn_tdiv, nn_tdivl, nn_div, nn_divl, nn_shr, nn_sub1, nn_lel, nn_lle, nn_ltl, nn_llt, nn_eql, nn_leq, nn_eq, nn_neg, nn_pos, hr, h]
        refine ⟨by omega, by omega, by omega, by omega, by omega, ?_⟩
        refine wpDraw_by [[], [], [], [1, 2], [], [], [4, 5], [4, 5, 6], [4, 5, 6, 7], [1, 2, 3, 4, 5, 6, 7, 8], [], [0, 1, 2, 3, 4, 5, 6, 7, 8, 9, 10], [0, 1, 2, 3, 4, 5, 6, 7, 8, 9, 10, 11]] [.any [] [36, 38, 43, 44] [⟨0, [0], [36, 38, 43, 44], [36, 38, 43, 44], []⟩, ⟨1, [], [43], [38, 43, 44], []⟩, ⟨0, [1], [36, 43], [36, 38, 43, 44], []⟩, ⟨3, [36, 37], [43], [43, 44], [36]⟩, ⟨0, [2], [36, 38], [36, 38, 43, 44], []⟩, ⟨0, [8], [36, 38], [36, 38, 43, 44], []⟩, ⟨0, [39, 40], [36, 38], [36, 38, 43, 44], []⟩, ⟨0, [41], [36, 38], [36, 38, 43, 44], []⟩, ⟨1, [42], [36, 38], [36, 38, 44], []⟩, ⟨3, [38, 43], [], [], [38]⟩, ⟨0, [9], [36, 38, 43, 44], [36, 38, 43, 44], []⟩], .one, .one] (by rfl) ?_
        simp (config := { maxSteps := 2000000 }) -implicitDefEqProofs [-List.map_set, set_u16, -Int.natCast_add, -Int.natCast_mul, -Int.natCast_emod, -Int.natCast_ediv, -Int.natCast_pow, nn_add, nn_addl, nn_ladd, nn_mul, nn_mull, nn_lmul, nn_mod, nn_modl, nn_tmod, nn_tmodl, nn_tdiv, nn_tdivl, nn_div, nn_divl, nn_shr, nn_sub1, nn_lel, nn_lle, nn_ltl, nn_llt, nn_eql, nn_leq, nn_eq, nn_neg, nn_pos, hr, h, hmin, i64]
        refine ⟨by omega, by omega, ?_⟩
        rw [a1, a2]
        (first | refine .inl ⟨_, ih, ?_⟩ | refine ⟨_, ih, ?_⟩)
        simp (config := { maxSteps := 2000000 }) -implicitDefEqProofs [-List.map_set, set_u16, -Int.natCast_add, -Int.natCast_mul, -Int.natCast_emod, -Int.natCast_ediv, -Int.natCast_pow, nn_add, nn_addl, nn_ladd, nn_mul, nn_mull, nn_lmul, nn_mod, nn_modl, nn_tmod, nn_tmodl, nn_tdiv, nn_tdivl, nn_div, nn_divl, nn_shr, nn_sub1, nn_lel, nn_lle, nn_ltl, nn_llt, nn_eql, nn_leq, nn_eq, nn_neg, nn_pos]
        have alli := all i h
        have leni := len i
        have hA : ∀ y ∈ ((List.range i).map M).foldl putsF [], Pln k (n + (d.length + 1)) y := fun y hy => by
          rcases foldl_sub hy with hy | ⟨L, h3, h4⟩
          · cases hy
          · obtain ⟨i', h5, rfl⟩ := List.mem_map.1 h3
            exact all i' (by have := List.mem_range.1 h5; omega) y h4
        have hAl := foldl_len (b := 40320) (A := []) (Ls := (List.range i).map M) (fun L hL => by
          obtain ⟨i', _, rfl⟩ := List.mem_map.1 hL
          exact len i')
        have e5 := fold_next M i
        simp only [List.length_nil, List.length_map, List.length_range] at hAl
        generalize hAA : ((List.range i).map M).foldl putsF [] = A at *
        have hAl : A.length ≤ 400000 := by omega
        refine wpLoop_of (fun j : Nat => ⟨[(11, vI .i64 j), (10, vC (.d (fctsD (M i)))), (8, vI .i64 i), (7, vC (.d (fctsD (putsF A ((M i).take j))))), (0, vI .i64 k), (1, vC (.d (intsD d))), (2, vC (.d (intsD r)))], []⟩)
          (fun j => j ≤ (M i).length) (fun j => (M i).length - j) 0 (by simp [putsF]) (by simp) ?_
        rintro j g1
        by_cases g : j < (M i).length
        · have hall : ∀ y ∈ putsF A ((M i).take j), Pln k (n + (d.length + 1)) y := fun y hy => by
            rcases putsF_sub hy with hy | hy
            · exact hA y hy
            · exact alli y (List.mem_of_mem_take hy)
          have hln := putsF_len ((M i).take j) A
          simp only [List.length_take] at hln
          have q := put_c (M i)[j] (putsF A ((M i).take j)) ((alli _ (List.getElem_mem g)).mild (by omega)) ((alli _ (List.getElem_mem g)).val k9) (fun y hy => (hall y hy).mild (by omega)) (fun y hy => (hall y hy).val k9) (by omega)
          have e2 := fct_drop g
          have e3 : putF (putsF A ((M i).take j)) (M i)[j] = putsF A ((M i).take (j + 1)) := by
            rw [List.take_succ_eq_append_getElem g]
            unfold putsF
            rw [List.foldl_append]
            rfl
          rw [e3] at q
          simp only [Fct.ds] at q
          simp (config := { maxSteps := 2000000 }) -implicitDefEqProofs [-List.map_set, set_u16, -Int.natCast_add, -Int.natCast_mul, -Int.natCast_emod, -Int.natCast_ediv, -Int.natCast_pow, nn_add, nn_addl, nn_ladd, nn_mul, nn_mull, nn_lmul, nn_mod, nn_modl, nn_tmod, nn_tmodl, nn_tdiv, nn_tdivl, nn_div, nn_divl, nn_shr, nn_sub1, nn_lel, nn_lle, nn_ltl, nn_llt, nn_eql, nn_leq, nn_eq, nn_neg, nn_pos, g, e2]
          (first | refine .inl ⟨_, q, ?_⟩ | refine ⟨_, q, ?_⟩)
          simp (config := { maxSteps := 2000000 }) -implicitDefEqProofs [-List.map_set, set_u16, -Int.natCast_add, -Int.natCast_mul, -Int.natCast_emod, -Int.natCast_ediv, -Int.natCast_pow, nn_add, nn_addl, nn_ladd, nn_mul, nn_mull, nn_lmul, nn_mod, nn_modl, nn_tmod, nn_tmodl, nn_tdiv, nn_tdivl, nn_div, nn_divl, nn_shr, nn_sub1, nn_lel, nn_lle, nn_ltl, nn_llt, nn_eql, nn_leq, nn_eq, nn_neg, nn_pos]
          exact ⟨by omega, j + 1, ⟨rfl, rfl⟩, by omega, by omega⟩
        · have : j = (M i).length := by omega
          subst this
          rw [List.take_length, ← e5]
          simp (config := { maxSteps := 2000000 }) -implicitDefEqProofs [-List.map_set, set_u16, -Int.natCast_add, -Int.natCast_mul, -Int.natCast_emod, -Int.natCast_ediv, -Int.natCast_pow, nn_add, nn_addl, nn_ladd, nn_mul, nn_mull, nn_lmul, nn_mod, nn_modl, nn_tmod, nn_tmodl, nn_tdiv, nn_tdivl, nn_div, nn_divl, nn_shr, nn_sub1, nn_lel, nn_lle, nn_ltl, nn_llt, nn_eql, nn_leq, nn_eq, nn_neg, nn_pos]
          exact ⟨by omega, i + 1, some _, by simp [leL, lk], ⟨by omega, .inr ⟨by omega, rfl⟩⟩, by omega⟩
    · have : i = n + 1 := by omega
      subst this
      rcases h2 with ⟨rfl, h2⟩ | ⟨_, rfl⟩
      · omega
      · simp (config := { maxSteps := 2000000 }) -implicitDefEqProofs [-List.map_set, set_u16, -Int.natCast_add, -Int.natCast_mul, -Int.natCast_emod, -Int.natCast_ediv, -Int.natCast_pow, nn_add, nn_addl, nn_ladd, nn_mul, nn_mull, nn_lmul, nn_mod, nn_modl, nn_tmod, nn_tmodl, nn_tdiv, nn_tdivl, nn_div, nn_divl, nn_shr, nn_sub1, nn_lel, nn_lle, nn_ltl, nn_llt, nn_eql, nn_leq, nn_eq, nn_neg, nn_pos, hr]

end Go.Va

/-
  Contracts: the document's facts: the variants of an angle.
-/
namespace Go.Va
open Go.Proofs
set_option maxHeartbeats 4000000
set_option maxRecDepth 10000
set_option linter.unusedSimpArgs false
set_option linter.unusedVariables false

/-- The orders of an angle's four segments: where each begins. -/
def tbR : List Nat := [0, 2, 4, 6, 0, 4, 2, 6, 6, 2, 4, 0, 6, 4, 2, 0, 2, 0, 6, 4, 2, 6, 0, 4, 4, 0, 6, 2, 4, 6, 0, 2]
def tbC : List C := tbR.map fun n : Nat => C.d (.int .i64 (n : Int))
def tbN (t i : Nat) : Nat := tbR.getD (t * 4 + i) 0
@[simp] theorem tbC_len : tbC.length = 32 := rfl
theorem tbN_lt (t i : Nat) : tbN t i + 1 < 8 := by
  unfold tbN
  rw [List.getD_eq_getElem?_getD]
  by_cases h : t * 4 + i < tbR.length
  · rw [List.getElem?_eq_getElem h, Option.getD_some]
    have : ∀ x ∈ tbR, x + 1 < 8 := by decide
    exact this _ (List.getElem_mem h)
  · rw [List.getElem?_eq_none (by omega)]
    decide
@[simp] theorem tbC_on (f : C → C) (hf : ∀ d, f (.d d) = .d d) : tbC.map f = tbC := by
  unfold tbC
  rw [List.map_map]
  exact List.map_congr_left fun n _ => hf _
theorem tbC_at {t i : Nat} (ht : t < 8) (hi : i < 4) : tbC[t * 4 + i]'(by show t * 4 + i < 32; omega) = .d (.int .i64 (tbN t i)) := by
  have h : t * 4 + i < tbR.length := by show t * 4 + i < 32; omega
  unfold tbC tbN
  rw [List.getElem_map, List.getD_eq_getElem?_getD, List.getElem?_eq_getElem h]
  rfl

def seA (l : List Int) (t s i : Nat) : Int × Int := trn (l.getD (tbN t i) 0) (l.getD (tbN t i + 1) 0) ((s / 2 ^ i % 2 : Nat) : Int)
def argA (l : List Int) (t s : Nat) : Nat → List Int
  | 0 => []
  | i + 1 => argA l t s i ++ [(seA l t s i).1, (seA l t s i).2]
theorem argA_len (l : List Int) (t s i : Nat) : (argA l t s i).length = 2 * i := by
  induction i with
  | zero => rfl
  | succ i ih => simp [argA, ih]; omega
def rowA (l : List Int) (t s i : Nat) : List D := (argA l t s i).map i64
theorem rowA_len (l : List Int) (t s i : Nat) : (rowA l t s i).length = 2 * i := by simp [rowA, argA_len]
theorem rowA_succ (l : List Int) (t s i : Nat) : rowA l t s (i + 1) = rowA l t s i ++ [.int .i64 (seA l t s i).1, .int .i64 (seA l t s i).2] := by simp [rowA, argA, i64]
def facA (l : List Int) (t s : Nat) : Fct := ⟨7, argA l t s 4, false, [], []⟩
def facsA (l : List Int) (t : Nat) (n : Nat) : List Fct := (List.range n).map (facA l t)
def allA (l : List Int) (n : Nat) : List Fct := ((List.range n).map fun t => facsA l t 16).foldl putsF []
theorem facsA_succ (l : List Int) (t n : Nat) (A : List Fct) : putsF A (facsA l t (n + 1)) = putF (putsF A (facsA l t n)) (facA l t n) := by
  unfold facsA putsF
  rw [List.range_succ, List.map_append, List.foldl_append]
  rfl
theorem allA_succ (l : List Int) (n : Nat) : allA l (n + 1) = putsF (allA l n) (facsA l n 16) := fold_next (fun t => facsA l t 16) n
theorem facA_pln (l : List Int) (t s : Nat) : Pln 7 8 (facA l t s) := ⟨argA l t s 4, by rw [argA_len], rfl⟩
theorem facsA_all {l : List Int} {t n : Nat} {x : Fct} (h : x ∈ facsA l t n) : Pln 7 8 x := by
  obtain ⟨s, _, rfl⟩ := List.mem_map.1 h
  exact facA_pln l t s
theorem allA_all {l : List Int} {n : Nat} {x : Fct} (h : x ∈ allA l n) : Pln 7 8 x := by
  rcases foldl_sub h with h | ⟨L, h1, h2⟩
  · cases h
  · obtain ⟨t, _, rfl⟩ := List.mem_map.1 h1
    exact facsA_all h2
theorem allA_len (l : List Int) (n : Nat) : (allA l n).length ≤ n * 16 := by
  have := foldl_len (b := 16) (A := []) (Ls := (List.range n).map fun t => facsA l t 16) (fun L hL => by
    obtain ⟨t, _, rfl⟩ := List.mem_map.1 hL
    simp [facsA])
  simpa [allA] using this

/-- One fact more is put. -/
theorem put1 (l : List Int) (t s : Nat) (ht : t ≤ 8) (hs : s ≤ 16) : CallsF Tryz.prog 59 [.c (fctsD (putsF (allA l t) (facsA l t s))), .agg [.int .i64 7, intsD (argA l t s 4), .bool false, natD [], natD []]] (.u (.c (.d (fctsD (putsF (allA l t) (facsA l t (s + 1))))))) := by
  have hall : ∀ y ∈ putsF (allA l t) (facsA l t s), Pln 7 8 y := fun y hy => by
    rcases putsF_sub hy with hy | hy
    · exact allA_all hy
    · exact facsA_all hy
  have h1 := putsF_len (facsA l t s) (allA l t)
  have h2 := allA_len l t
  have h3 : (facsA l t s).length = s := by simp [facsA]
  have := put_c (facA l t s) (putsF (allA l t) (facsA l t s)) ((facA_pln l t s).mild (by omega)) ((facA_pln l t s).val (by omega)) (fun y hy => (hall y hy).mild (by omega)) (fun y hy => (hall y hy).val (by omega)) (by omega)
  rw [facsA_succ]
  exact this

theorem angles_c (l : List Int) (hl : l.length = 8) : CallsF Tryz.prog 61 [.agg [.int .i64 7, intsD l, .bool false, natD [], natD []]] (.u (.c (.d (fctsD (allA l 8))))) := by
  refine callsF_of (T := tb) tab_ok mixed Tryz.func61 rfl (by decide) (Nat.le_of_ble_eq_true rfl) rfl ?_; unfold St.init
  simp (config := { maxSteps := 2000000 }) -implicitDefEqProofs [-List.map_set, set_u16, -Int.natCast_add, -Int.natCast_mul, -Int.natCast_emod, -Int.natCast_ediv, -Int.natCast_pow, nn_add, nn_addl, nn_ladd, nn_mul, nn_mull, nn_lmul, nn_mod, nn_modl, nn_tmod, nn_tmodl, nn_tdiv, nn_tdivl, nn_div, nn_divl, nn_shr, nn_sub1, nn_lel, nn_lle, nn_ltl, nn_llt, nn_eql, nn_leq, nn_eq, nn_neg, nn_pos]
  refine wpLoop_of (fun x : Nat × Option (List Fct) => match x with
        | (t, none) => ⟨[(6, vI .i64 t), (5, vC (.sl 5 0 0)), (4, vC (.ptr 4 0)), (3, vC (.d (intsD l))), (1, vC (.ptr 1 0))], [(5, .row 5 [] true), (4, .box tbC), (1, .box [.d (.int .i64 7), .d (intsD l), .d (.bool false), .d (natD []), .d (natD [])])]⟩
        | (t, some L) => ⟨[(6, vI .i64 t), (5, vC (.d (fctsD L))), (4, vC (.ptr 4 0)), (3, vC (.d (intsD l))), (1, vC (.ptr 1 0))], [(4, .box tbC), (1, .box [.d (.int .i64 7), .d (intsD l), .d (.bool false), .d (natD []), .d (natD [])])]⟩)
      (fun x => x.1 ≤ 8 ∧ (x.2 = none ∧ x.1 = 0 ∨ x.1 ≠ 0 ∧ x.2 = some (allA l x.1))) (fun x => 8 - x.1) (0, none) (by simp [tbC, tbR]) (by simp) ?_
  rintro ⟨t, o⟩ ⟨h1, h2⟩
  simp only at h1 h2
  by_cases h : t < 8
  · have q0 := fun s (hs : s < 16) => put1 l t s (by omega) (by omega)
    rcases h2 with ⟨rfl, h2⟩ | ⟨h2, rfl⟩
    · simp (config := { maxSteps := 2000000 }) -implicitDefEqProofs [-List.map_set, set_u16, -Int.natCast_add, -Int.natCast_mul, -Int.natCast_emod, -Int.natCast_ediv, -Int.natCast_pow, nn_add, nn_addl, nn_ladd, nn_mul, nn_mull, nn_lmul, nn_mod, nn_modl, nn_tmod, nn_tmodl, nn_tdiv, nn_tdivl, nn_div, nn_divl, nn_shr, nn_sub1, nn_lel, nn_lle, nn_ltl, nn_llt, nn_eql, nn_leq, nn_eq, nn_neg, nn_pos, h]
      refine wpLoop_of (fun x : Nat × Option (List Fct) => match x with
        | (s, none) => ⟨[(7, vI .i64 s), (6, vI .i64 t), (5, vC (.sl 5 0 0)), (4, vC (.ptr 4 0)), (3, vC (.d (intsD l))), (1, vC (.ptr 1 0))], [(5, .row 5 [] true), (4, .box tbC), (1, .box [.d (.int .i64 7), .d (intsD l), .d (.bool false), .d (natD []), .d (natD [])])]⟩
        | (s, some L) => ⟨[(7, vI .i64 s), (6, vI .i64 t), (5, vC (.d (fctsD L))), (4, vC (.ptr 4 0)), (3, vC (.d (intsD l))), (1, vC (.ptr 1 0))], [(4, .box tbC), (1, .box [.d (.int .i64 7), .d (intsD l), .d (.bool false), .d (natD []), .d (natD [])])]⟩)
          (fun x => x.1 ≤ 16 ∧ (x.2 = none ∧ x.1 = 0 ∨ x.1 ≠ 0 ∧ x.2 = some (putsF (allA l t) (facsA l t x.1)))) (fun x => 16 - x.1) (0, none) (by simp) (by simp) ?_
      rintro ⟨s, o⟩ ⟨g1, g2⟩
      simp only at g1 g2
      by_cases g : s < 16
      · have q := q0 s g
        rcases g2 with ⟨rfl, g2⟩ | ⟨g2, rfl⟩
        · rw [show fctsD (putsF (allA l t) (facsA l t s)) = D.slice 0 [] from by rw [g2, h2]; rfl] at q
          simp (config := { maxSteps := 2000000 }) -implicitDefEqProofs [-List.map_set, set_u16, -Int.natCast_add, -Int.natCast_mul, -Int.natCast_emod, -Int.natCast_ediv, -Int.natCast_pow, nn_add, nn_addl, nn_ladd, nn_mul, nn_mull, nn_lmul, nn_mod, nn_modl, nn_tmod, nn_tmodl, nn_tdiv, nn_tdivl, nn_div, nn_divl, nn_shr, nn_sub1, nn_lel, nn_lle, nn_ltl, nn_llt, nn_eql, nn_leq, nn_eq, nn_neg, nn_pos, g, h]
          have hb := argA_len l t s 4
          refine wpLoop_by [(8, 60)] (fun i : Nat => ⟨[(9, vI .i64 i), (8, vC (.sl 8 0 (2 * i))), (7, vI .i64 s), (6, vI .i64 t), (5, vC (.sl 5 0 0)), (4, vC (.ptr 4 0)), (3, vC (.d (intsD l))), (1, vC (.ptr 1 0))], [(8, .row 1 (rowA l t s i) true), (5, .row 5 [] true), (4, .box tbC), (1, .box [.d (.int .i64 7), .d (intsD l), .d (.bool false), .d (natD []), .d (natD [])])]⟩)
            (fun i => i ≤ 4) (fun i => 4 - i) 0 (by simp [rowA, argA]) (by simp) ?_
          rintro i g3
          by_cases g4 : i < 4
          · have b1 := tbC_at h g4
            have b2 := tbN_lt t i
            have b3 : t * 4 + i < 32 := by omega
            have b4 := turned_c (l.getD (tbN t i) 0) (l.getD (tbN t i + 1) 0) ((s / 2 ^ i % 2 : Nat) : Int)
            have b5 := rowA_len l t s i
            have b6 := rowA_succ l t s i
            have b7 : seA l t s i = trn (l.getD (tbN t i) 0) (l.getD (tbN t i + 1) 0) ((s / 2 ^ i % 2 : Nat) : Int) := rfl
            rw [← b7] at b4
            generalize seA l t s i = z at *
            clear b7
            have b8 : l[tbN t i]'(by omega) = l.getD (tbN t i) 0 := by rw [List.getD_eq_getElem?_getD, List.getElem?_eq_getElem (by omega)]; rfl
            have b9 : l[tbN t i + 1]'(by omega) = l.getD (tbN t i + 1) 0 := by rw [List.getD_eq_getElem?_getD, List.getElem?_eq_getElem (by omega)]; rfl
            have c3 : min i 64 = i := by omega
            have c1 : tbN t i < 8 := by omega
            generalize l.getD (tbN t i) 0 = x at *
            generalize l.getD (tbN t i + 1) 0 = y at *
            simp (config := { maxSteps := 2000000 }) -implicitDefEqProofs [-List.map_set, set_u16, -Int.natCast_add, -Int.natCast_mul, -Int.natCast_emod, -Int.natCast_ediv, -Int.natCast_pow, nn_add, nn_addl, nn_ladd, nn_mul, nn_mull, nn_lmul, nn_mod, nn_modl, nn_tmod, nn_tmodl, nn_tdiv, nn_tdivl, nn_div, nn_divl, nn_shr, nn_sub1, nn_lel, nn_lle, nn_ltl, nn_llt, nn_eql, nn_leq, nn_eq, nn_neg, nn_pos, g4, h, b1, b3]
            refine wpDraw_by [[], [], [0, 1], [0, 1, 2], [], [], [5], [4, 5, 6], [4, 5, 6, 7], [], [], [9, 10], [9, 10, 11], [0, 1, 2, 3, 4, 5, 6, 7, 8, 9, 10, 11, 12], [], [0, 1, 2, 3, 4, 5, 6, 7, 8, 9, 10, 11, 12, 13, 14]] [.any [] [11] [⟨0, [3], [11], [11], []⟩, ⟨0, [10], [11], [11], []⟩, ⟨0, [40, 41], [11], [11], []⟩, ⟨0, [42], [11], [11], []⟩, ⟨0, [3], [11], [11], []⟩, ⟨0, [10], [11], [11], []⟩, ⟨0, [45], [11], [11], []⟩, ⟨0, [44, 46], [11], [11], []⟩, ⟨0, [47], [11], [11], []⟩, ⟨0, [7], [11], [11], []⟩, ⟨0, [9], [11], [11], []⟩, ⟨0, [49, 50], [11], [11], []⟩, ⟨0, [51], [11], [11], []⟩, ⟨0, [43, 48, 52], [11], [11], []⟩, ⟨1, [], [], [], []⟩], .one] (by rfl) ?_
            simp (config := { maxSteps := 2000000 }) -implicitDefEqProofs [-List.map_set, set_u16, -Int.natCast_add, -Int.natCast_mul, -Int.natCast_emod, -Int.natCast_ediv, -Int.natCast_pow, nn_add, nn_addl, nn_ladd, nn_mul, nn_mull, nn_lmul, nn_mod, nn_modl, nn_tmod, nn_tmodl, nn_tdiv, nn_tdivl, nn_div, nn_divl, nn_shr, nn_sub1, nn_lel, nn_lle, nn_ltl, nn_llt, nn_eql, nn_leq, nn_eq, nn_neg, nn_pos, h, hl, b2, b8, b9, c1, c3, i64]
            refine ⟨by omega, ?_⟩
            (first | refine .inl ⟨_, b4, ?_⟩ | refine ⟨_, b4, ?_⟩)
            simp (config := { maxSteps := 2000000 }) -implicitDefEqProofs [-List.map_set, set_u16, -Int.natCast_add, -Int.natCast_mul, -Int.natCast_emod, -Int.natCast_ediv, -Int.natCast_pow, nn_add, nn_addl, nn_ladd, nn_mul, nn_mull, nn_lmul, nn_mod, nn_modl, nn_tmod, nn_tmodl, nn_tdiv, nn_tdivl, nn_div, nn_divl, nn_shr, nn_sub1, nn_lel, nn_lle, nn_ltl, nn_llt, nn_eql, nn_leq, nn_eq, nn_neg, nn_pos, b5]
            exact ⟨by omega, by omega, i + 1, ⟨⟨rfl, by omega⟩, b6.symm⟩, by omega, by omega⟩
          · have : i = 4 := by omega
            subst this
            have e8 : D.slice 8 (List.take 8 (rowA l t s 4)) = intsD (argA l t s 4) := by
              rw [List.take_of_length_le (by rw [rowA_len]; omega)]
              show _ = D.slice _ _
              rw [argA_len]
              rfl
            simp (config := { maxSteps := 2000000 }) -implicitDefEqProofs [-List.map_set, set_u16, -Int.natCast_add, -Int.natCast_mul, -Int.natCast_emod, -Int.natCast_ediv, -Int.natCast_pow, nn_add, nn_addl, nn_ladd, nn_mul, nn_mull, nn_lmul, nn_mod, nn_modl, nn_tmod, nn_tmodl, nn_tdiv, nn_tdivl, nn_div, nn_divl, nn_shr, nn_sub1, nn_lel, nn_lle, nn_ltl, nn_llt, nn_eql, nn_leq, nn_eq, nn_neg, nn_pos, rowA_len, e8]
            (first | refine .inl ⟨_, q, ?_⟩ | refine ⟨_, q, ?_⟩)
            simp (config := { maxSteps := 2000000 }) -implicitDefEqProofs [-List.map_set, set_u16, -Int.natCast_add, -Int.natCast_mul, -Int.natCast_emod, -Int.natCast_ediv, -Int.natCast_pow, nn_add, nn_addl, nn_ladd, nn_mul, nn_mull, nn_lmul, nn_mod, nn_modl, nn_tmod, nn_tmodl, nn_tdiv, nn_tdivl, nn_div, nn_divl, nn_shr, nn_sub1, nn_lel, nn_lle, nn_ltl, nn_llt, nn_eql, nn_leq, nn_eq, nn_neg, nn_pos]
            exact ⟨by omega, s + 1, some _, by simp [leL, lk], ⟨by omega, .inr ⟨by omega, rfl⟩⟩, by omega⟩
        · simp (config := { maxSteps := 2000000 }) -implicitDefEqProofs [-List.map_set, set_u16, -Int.natCast_add, -Int.natCast_mul, -Int.natCast_emod, -Int.natCast_ediv, -Int.natCast_pow, nn_add, nn_addl, nn_ladd, nn_mul, nn_mull, nn_lmul, nn_mod, nn_modl, nn_tmod, nn_tmodl, nn_tdiv, nn_tdivl, nn_div, nn_divl, nn_shr, nn_sub1, nn_lel, nn_lle, nn_ltl, nn_llt, nn_eql, nn_leq, nn_eq, nn_neg, nn_pos, g, h]
          have hb := argA_len l t s 4
          refine wpLoop_by [(8, 60)] (fun i : Nat => ⟨[(9, vI .i64 i), (8, vC (.sl 8 0 (2 * i))), (7, vI .i64 s), (6, vI .i64 t), (5, vC (.d (fctsD (putsF (allA l t) (facsA l t s))))), (4, vC (.ptr 4 0)), (3, vC (.d (intsD l))), (1, vC (.ptr 1 0))], [(8, .row 1 (rowA l t s i) true), (4, .box tbC), (1, .box [.d (.int .i64 7), .d (intsD l), .d (.bool false), .d (natD []), .d (natD [])])]⟩)
            (fun i => i ≤ 4) (fun i => 4 - i) 0 (by simp [rowA, argA]) (by simp) ?_
          rintro i g3
          by_cases g4 : i < 4
          · have b1 := tbC_at h g4
            have b2 := tbN_lt t i
            have b3 : t * 4 + i < 32 := by omega
            have b4 := turned_c (l.getD (tbN t i) 0) (l.getD (tbN t i + 1) 0) ((s / 2 ^ i % 2 : Nat) : Int)
            have b5 := rowA_len l t s i
            have b6 := rowA_succ l t s i
            have b7 : seA l t s i = trn (l.getD (tbN t i) 0) (l.getD (tbN t i + 1) 0) ((s / 2 ^ i % 2 : Nat) : Int) := rfl
            rw [← b7] at b4
            generalize seA l t s i = z at *
            clear b7
            have b8 : l[tbN t i]'(by omega) = l.getD (tbN t i) 0 := by rw [List.getD_eq_getElem?_getD, List.getElem?_eq_getElem (by omega)]; rfl
            have b9 : l[tbN t i + 1]'(by omega) = l.getD (tbN t i + 1) 0 := by rw [List.getD_eq_getElem?_getD, List.getElem?_eq_getElem (by omega)]; rfl
            have c3 : min i 64 = i := by omega
            have c1 : tbN t i < 8 := by omega
            generalize l.getD (tbN t i) 0 = x at *
            generalize l.getD (tbN t i + 1) 0 = y at *
            simp (config := { maxSteps := 2000000 }) -implicitDefEqProofs [-List.map_set, set_u16, -Int.natCast_add, -Int.natCast_mul, -Int.natCast_emod, -Int.natCast_ediv, -Int.natCast_pow, nn_add, nn_addl, nn_ladd, nn_mul, nn_mull, nn_lmul, nn_mod, nn_modl, nn_tmod, nn_tmodl, nn_tdiv, nn_tdivl, nn_div, nn_divl, nn_shr, nn_sub1, nn_lel, nn_lle, nn_ltl, nn_llt, nn_eql, nn_leq, nn_eq, nn_neg, nn_pos, g4, h, b1, b3]
            refine wpDraw_by [[], [], [0, 1], [0, 1, 2], [], [], [5], [4, 5, 6], [4, 5, 6, 7], [], [], [9, 10], [9, 10, 11], [0, 1, 2, 3, 4, 5, 6, 7, 8, 9, 10, 11, 12], [], [0, 1, 2, 3, 4, 5, 6, 7, 8, 9, 10, 11, 12, 13, 14]] [.any [] [11] [⟨0, [3], [11], [11], []⟩, ⟨0, [10], [11], [11], []⟩, ⟨0, [40, 41], [11], [11], []⟩, ⟨0, [42], [11], [11], []⟩, ⟨0, [3], [11], [11], []⟩, ⟨0, [10], [11], [11], []⟩, ⟨0, [45], [11], [11], []⟩, ⟨0, [44, 46], [11], [11], []⟩, ⟨0, [47], [11], [11], []⟩, ⟨0, [7], [11], [11], []⟩, ⟨0, [9], [11], [11], []⟩, ⟨0, [49, 50], [11], [11], []⟩, ⟨0, [51], [11], [11], []⟩, ⟨0, [43, 48, 52], [11], [11], []⟩, ⟨1, [], [], [], []⟩], .one] (by rfl) ?_
            simp (config := { maxSteps := 2000000 }) -implicitDefEqProofs [-List.map_set, set_u16, -Int.natCast_add, -Int.natCast_mul, -Int.natCast_emod, -Int.natCast_ediv, -Int.natCast_pow, nn_add, nn_addl, nn_ladd, nn_mul, nn_mull, nn_lmul, nn_mod, nn_modl, nn_tmod, nn_tmodl, nn_tdiv, nn_tdivl, nn_div, nn_divl, nn_shr, nn_sub1, nn_lel, nn_lle, nn_ltl, nn_llt, nn_eql, nn_leq, nn_eq, nn_neg, nn_pos, h, hl, b2, b8, b9, c1, c3, i64]
            refine ⟨by omega, ?_⟩
            (first | refine .inl ⟨_, b4, ?_⟩ | refine ⟨_, b4, ?_⟩)
            simp (config := { maxSteps := 2000000 }) -implicitDefEqProofs [-List.map_set, set_u16, -Int.natCast_add, -Int.natCast_mul, -Int.natCast_emod, -Int.natCast_ediv, -Int.natCast_pow, nn_add, nn_addl, nn_ladd, nn_mul, nn_mull, nn_lmul, nn_mod, nn_modl, nn_tmod, nn_tmodl, nn_tdiv, nn_tdivl, nn_div, nn_divl, nn_shr, nn_sub1, nn_lel, nn_lle, nn_ltl, nn_llt, nn_eql, nn_leq, nn_eq, nn_neg, nn_pos, b5]
            exact ⟨by omega, by omega, i + 1, ⟨⟨rfl, by omega⟩, b6.symm⟩, by omega, by omega⟩
          · have : i = 4 := by omega
            subst this
            have e8 : D.slice 8 (List.take 8 (rowA l t s 4)) = intsD (argA l t s 4) := by
              rw [List.take_of_length_le (by rw [rowA_len]; omega)]
              show _ = D.slice _ _
              rw [argA_len]
              rfl
            simp (config := { maxSteps := 2000000 }) -implicitDefEqProofs [-List.map_set, set_u16, -Int.natCast_add, -Int.natCast_mul, -Int.natCast_emod, -Int.natCast_ediv, -Int.natCast_pow, nn_add, nn_addl, nn_ladd, nn_mul, nn_mull, nn_lmul, nn_mod, nn_modl, nn_tmod, nn_tmodl, nn_tdiv, nn_tdivl, nn_div, nn_divl, nn_shr, nn_sub1, nn_lel, nn_lle, nn_ltl, nn_llt, nn_eql, nn_leq, nn_eq, nn_neg, nn_pos, rowA_len, e8]
            (first | refine .inl ⟨_, q, ?_⟩ | refine ⟨_, q, ?_⟩)
            simp (config := { maxSteps := 2000000 }) -implicitDefEqProofs [-List.map_set, set_u16, -Int.natCast_add, -Int.natCast_mul, -Int.natCast_emod, -Int.natCast_ediv, -Int.natCast_pow, nn_add, nn_addl, nn_ladd, nn_mul, nn_mull, nn_lmul, nn_mod, nn_modl, nn_tmod, nn_tmodl, nn_tdiv, nn_tdivl, nn_div, nn_divl, nn_shr, nn_sub1, nn_lel, nn_lle, nn_ltl, nn_llt, nn_eql, nn_leq, nn_eq, nn_neg, nn_pos]
            exact ⟨by omega, s + 1, some _, by simp [leL, lk], ⟨by omega, .inr ⟨by omega, rfl⟩⟩, by omega⟩
      · have : s = 16 := by omega
        subst this
        rcases g2 with ⟨rfl, g2⟩ | ⟨g2, rfl⟩
        · omega
        · rw [← allA_succ]
          simp (config := { maxSteps := 2000000 }) -implicitDefEqProofs [-List.map_set, set_u16, -Int.natCast_add, -Int.natCast_mul, -Int.natCast_emod, -Int.natCast_ediv, -Int.natCast_pow, nn_add, nn_addl, nn_ladd, nn_mul, nn_mull, nn_lmul, nn_mod, nn_modl, nn_tmod, nn_tmodl, nn_tdiv, nn_tdivl, nn_div, nn_divl, nn_shr, nn_sub1, nn_lel, nn_lle, nn_ltl, nn_llt, nn_eql, nn_leq, nn_eq, nn_neg, nn_pos]
          exact ⟨by omega, t + 1, some _, by simp [leL, lk], ⟨by omega, .inr ⟨by omega, rfl⟩⟩, by omega⟩
    · simp (config := { maxSteps := 2000000 }) -implicitDefEqProofs [-List.map_set, set_u16, -Int.natCast_add, -Int.natCast_mul, -Int.natCast_emod, -Int.natCast_ediv, -Int.natCast_pow, nn_add, nn_addl, nn_ladd, nn_mul, nn_mull, nn_lmul, nn_mod, nn_modl, nn_tmod, nn_tmodl, nn_tdiv, nn_tdivl, nn_div, nn_divl, nn_shr, nn_sub1, nn_lel, nn_lle, nn_ltl, nn_llt, nn_eql, nn_leq, nn_eq, nn_neg, nn_pos, h]
      refine wpLoop_of (fun s : Nat => ⟨[(7, vI .i64 s), (6, vI .i64 t), (5, vC (.d (fctsD (putsF (allA l t) (facsA l t s))))), (4, vC (.ptr 4 0)), (3, vC (.d (intsD l))), (1, vC (.ptr 1 0))], [(4, .box tbC), (1, .box [.d (.int .i64 7), .d (intsD l), .d (.bool false), .d (natD []), .d (natD [])])]⟩)
          (fun s => s ≤ 16) (fun s => 16 - s) 0 (by simp [facsA, putsF]) (by simp) ?_
      rintro s g1
      by_cases g : s < 16
      · have q := q0 s g
        simp (config := { maxSteps := 2000000 }) -implicitDefEqProofs [-List.map_set, set_u16, -Int.natCast_add, -Int.natCast_mul, -Int.natCast_emod, -Int.natCast_ediv, -Int.natCast_pow, nn_add, nn_addl, nn_ladd, nn_mul, nn_mull, nn_lmul, nn_mod, nn_modl, nn_tmod, nn_tmodl, nn_tdiv, nn_tdivl, nn_div, nn_divl, nn_shr, nn_sub1, nn_lel, nn_lle, nn_ltl, nn_llt, nn_eql, nn_leq, nn_eq, nn_neg, nn_pos, g, h]
        have hb := argA_len l t s 4
        refine wpLoop_by [(8, 60)] (fun i : Nat => ⟨[(9, vI .i64 i), (8, vC (.sl 8 0 (2 * i))), (7, vI .i64 s), (6, vI .i64 t), (5, vC (.d (fctsD (putsF (allA l t) (facsA l t s))))), (4, vC (.ptr 4 0)), (3, vC (.d (intsD l))), (1, vC (.ptr 1 0))], [(8, .row 1 (rowA l t s i) true), (4, .box tbC), (1, .box [.d (.int .i64 7), .d (intsD l), .d (.bool false), .d (natD []), .d (natD [])])]⟩)
          (fun i => i ≤ 4) (fun i => 4 - i) 0 (by simp [rowA, argA]) (by simp) ?_
        rintro i g3
        by_cases g4 : i < 4
        · have b1 := tbC_at h g4
          have b2 := tbN_lt t i
          have b3 : t * 4 + i < 32 := by omega
          have b4 := turned_c (l.getD (tbN t i) 0) (l.getD (tbN t i + 1) 0) ((s / 2 ^ i % 2 : Nat) : Int)
          have b5 := rowA_len l t s i
          have b6 := rowA_succ l t s i
          have b7 : seA l t s i = trn (l.getD (tbN t i) 0) (l.getD (tbN t i + 1) 0) ((s / 2 ^ i % 2 : Nat) : Int) := rfl
          rw [← b7] at b4
          generalize seA l t s i = z at *
          clear b7
          have b8 : l[tbN t i]'(by omega) = l.getD (tbN t i) 0 := by rw [List.getD_eq_getElem?_getD, List.getElem?_eq_getElem (by omega)]; rfl
          have b9 : l[tbN t i + 1]'(by omega) = l.getD (tbN t i + 1) 0 := by rw [List.getD_eq_getElem?_getD, List.getElem?_eq_getElem (by omega)]; rfl
          have c3 : min i 64 = i := by omega
          have c1 : tbN t i < 8 := by omega
          generalize l.getD (tbN t i) 0 = x at *
          generalize l.getD (tbN t i + 1) 0 = y at *
          simp (config := { maxSteps := 2000000 }) -implicitDefEqProofs [-List.map_set, set_u16, -Int.natCast_add, -Int.natCast_mul, -Int.natCast_emod, -Int.natCast_ediv, -Int.natCast_pow, nn_add, nn_addl, nn_ladd, nn_mul, nn_mull, nn_lmul, nn_mod, nn_modl, nn_tmod, nn_tmodl, nn_tdiv, nn_tdivl, nn_div, nn_divl, nn_shr, nn_sub1, nn_lel, nn_lle, nn_ltl, nn_llt, nn_eql, nn_leq, nn_eq, nn_neg, nn_pos, g4, h, b1, b3]
          refine wpDraw_by [[], [], [0, 1], [0, 1, 2], [], [], [5], [4, 5, 6], [4, 5, 6, 7], [], [], [9, 10], [9, 10, 11], [0, 1, 2, 3, 4, 5, 6, 7, 8, 9, 10, 11, 12], [], [0, 1, 2, 3, 4, 5, 6, 7, 8, 9, 10, 11, 12, 13, 14]] [.any [] [11] [⟨0, [3], [11], [11], []⟩, ⟨0, [10], [11], [11], []⟩, ⟨0, [40, 41], [11], [11], []⟩, ⟨0, [42], [11], [11], []⟩, ⟨0, [3], [11], [11], []⟩, ⟨0, [10], [11], [11], []⟩, ⟨0, [45], [11], [11], []⟩, ⟨0, [44, 46], [11], [11], []⟩, ⟨0, [47], [11], [11], []⟩, ⟨0, [7], [11], [11], []⟩, ⟨0, [9], [11], [11], []⟩, ⟨0, [49, 50], [11], [11], []⟩, ⟨0, [51], [11], [11], []⟩, ⟨0, [43, 48, 52], [11], [11], []⟩, ⟨1, [], [], [], []⟩], .one] (by rfl) ?_
          simp (config := { maxSteps := 2000000 }) -implicitDefEqProofs [-List.map_set, set_u16, -Int.natCast_add, -Int.natCast_mul, -Int.natCast_emod, -Int.natCast_ediv, -Int.natCast_pow, nn_add, nn_addl, nn_ladd, nn_mul, nn_mull, nn_lmul, nn_mod, nn_modl, nn_tmod, nn_tmodl, nn_tdiv, nn_tdivl, nn_div, nn_divl, nn_shr, nn_sub1, nn_lel, nn_lle, nn_ltl, nn_llt, nn_eql, nn_leq, nn_eq, nn_neg, nn_pos, h, hl, b2, b8, b9, c1, c3, i64]
          refine ⟨by omega, ?_⟩
          (first | refine .inl ⟨_, b4, ?_⟩ | refine ⟨_, b4, ?_⟩)
          simp (config := { maxSteps := 2000000 }) -implicitDefEqProofs [-List.map_set, set_u16, -Int.natCast_add, -Int.natCast_mul, -Int.natCast_emod, -Int.natCast_ediv, -Int.natCast_pow, nn_add, nn_addl, nn_ladd, nn_mul, nn_mull, nn_lmul, nn_mod, nn_modl, nn_tmod, nn_tmodl, nn_tdiv, nn_tdivl, nn_div, nn_divl, nn_shr, nn_sub1, nn_lel, nn_lle, nn_ltl, nn_llt, nn_eql, nn_leq, nn_eq, nn_neg, nn_pos, b5]
          exact ⟨by omega, by omega, i + 1, ⟨⟨rfl, by omega⟩, b6.symm⟩, by omega, by omega⟩
        · have : i = 4 := by omega
          subst this
          have e8 : D.slice 8 (List.take 8 (rowA l t s 4)) = intsD (argA l t s 4) := by
            rw [List.take_of_length_le (by rw [rowA_len]; omega)]
            show _ = D.slice _ _
            rw [argA_len]
            rfl
          simp (config := { maxSteps := 2000000 }) -implicitDefEqProofs [-List.map_set, set_u16, -Int.natCast_add, -Int.natCast_mul, -Int.natCast_emod, -Int.natCast_ediv, -Int.natCast_pow, nn_add, nn_addl, nn_ladd, nn_mul, nn_mull, nn_lmul, nn_mod, nn_modl, nn_tmod, nn_tmodl, nn_tdiv, nn_tdivl, nn_div, nn_divl, nn_shr, nn_sub1, nn_lel, nn_lle, nn_ltl, nn_llt, nn_eql, nn_leq, nn_eq, nn_neg, nn_pos, rowA_len, e8]
          (first | refine .inl ⟨_, q, ?_⟩ | refine ⟨_, q, ?_⟩)
          simp (config := { maxSteps := 2000000 }) -implicitDefEqProofs [-List.map_set, set_u16, -Int.natCast_add, -Int.natCast_mul, -Int.natCast_emod, -Int.natCast_ediv, -Int.natCast_pow, nn_add, nn_addl, nn_ladd, nn_mul, nn_mull, nn_lmul, nn_mod, nn_modl, nn_tmod, nn_tmodl, nn_tdiv, nn_tdivl, nn_div, nn_divl, nn_shr, nn_sub1, nn_lel, nn_lle, nn_ltl, nn_llt, nn_eql, nn_leq, nn_eq, nn_neg, nn_pos]
          exact ⟨by omega, s + 1, ⟨rfl, rfl⟩, by omega, by omega⟩
      · have : s = 16 := by omega
        subst this
        rw [← allA_succ]
        simp (config := { maxSteps := 2000000 }) -implicitDefEqProofs [-List.map_set, set_u16, -Int.natCast_add, -Int.natCast_mul, -Int.natCast_emod, -Int.natCast_ediv, -Int.natCast_pow, nn_add, nn_addl, nn_ladd, nn_mul, nn_mull, nn_lmul, nn_mod, nn_modl, nn_tmod, nn_tmodl, nn_tdiv, nn_tdivl, nn_div, nn_divl, nn_shr, nn_sub1, nn_lel, nn_lle, nn_ltl, nn_llt, nn_eql, nn_leq, nn_eq, nn_neg, nn_pos]
        exact ⟨by omega, t + 1, some _, by simp [leL, lk], ⟨by omega, .inr ⟨by omega, rfl⟩⟩, by omega⟩
  · have : t = 8 := by omega
    subst this
    rcases h2 with ⟨rfl, h2⟩ | ⟨h2, rfl⟩
    · omega
    · simp (config := { maxSteps := 2000000 }) -implicitDefEqProofs [-List.map_set, set_u16, -Int.natCast_add, -Int.natCast_mul, -Int.natCast_emod, -Int.natCast_ediv, -Int.natCast_pow, nn_add, nn_addl, nn_ladd, nn_mul, nn_mull, nn_lmul, nn_mod, nn_modl, nn_tmod, nn_tmodl, nn_tdiv, nn_tdivl, nn_div, nn_divl, nn_shr, nn_sub1, nn_lel, nn_lle, nn_ltl, nn_llt, nn_eql, nn_leq, nn_eq, nn_neg, nn_pos]

end Go.Va
