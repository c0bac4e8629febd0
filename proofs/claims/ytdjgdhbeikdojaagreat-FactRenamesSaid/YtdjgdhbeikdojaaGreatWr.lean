/-
  Contracts: the document's facts: sorting, pairs.
-/
import Derived.Test.YtdjgdhbeikdojaaGreatWk
set_option linter.all false

namespace Go.Va
open Go.Proofs
set_option maxHeartbeats 4000000
set_option maxRecDepth 10000
set_option linter.unusedSimpArgs false
set_option linter.unusedVariables false

theorem ins_sorted {o : List Int} {x : Int} {p : Nat} (hs : o.Pairwise (· ≤ ·)) (hlo : ∀ j (hj : j < o.length), j < p → o[j] ≤ x) (hhi : ∀ j (hj : j < o.length), p ≤ j → x < o[j]) : (o.take p ++ x :: o.drop p).Pairwise (· ≤ ·) := by
  have ht : ∀ a ∈ o.take p, a ≤ x := fun a ha => by
    obtain ⟨j, hj, rfl⟩ := List.mem_iff_getElem.1 ha
    rw [List.length_take] at hj
    rw [List.getElem_take]
    exact hlo j (by omega) (by omega)
  have hd : ∀ a ∈ o.drop p, x < a := fun a ha => by
    obtain ⟨j, hj, rfl⟩ := List.mem_iff_getElem.1 ha
    rw [List.length_drop] at hj
    rw [List.getElem_drop]
    exact hhi _ (by omega) (by omega)
  rw [List.pairwise_append, List.pairwise_cons]
  refine ⟨hs.sublist (List.take_sublist _ _), ⟨fun b hb => Int.le_of_lt (hd b hb), hs.sublist (List.drop_sublist _ _)⟩, fun a ha b hb => ?_⟩
  rcases List.mem_cons.1 hb with rfl | hb
  · exact ht a ha
  · have := ht a ha
    have := hd b hb
    omega
theorem ins_perm {o l : List Int} {i p : Nat} (h : i < l.length) (hp : o.Perm (l.take i)) : (o.take p ++ l[i] :: o.drop p).Perm (l.take (i + 1)) := by
  rw [List.take_succ_eq_append_getElem h]
  refine List.perm_middle.trans ?_
  rw [List.take_append_drop]
  exact (hp.cons _).trans (List.perm_append_comm (l₁ := [l[i]])).symm.symm

theorem refSorted_c (l : List Int) (hl : l.length ≤ 1099511627776) : CallsF Tryz.prog 31 [.c (intsD l)] (.u (.c (.d (intsD (sortL l))))) := by
  refine callsF_of (T := tb) tab_ok mixed Tryz.func31 rfl (by decide) (Nat.le_of_ble_eq_true rfl) rfl ?_; unfold St.init
  simp (config := { maxSteps := 2000000 }) -implicitDefEqProofs [-List.map_set, set_u16, -Int.natCast_add, -Int.natCast_mul, -Int.natCast_emod, -Int.natCast_ediv, -Int.natCast_pow, nn_add, nn_addl, nn_ladd, nn_mul, nn_mull, nn_lmul, nn_mod, nn_modl, nn_tmod, nn_tmodl, nn_tdiv, nn_tdivl, nn_div, nn_divl, nn_shr, nn_sub1, nn_lel, nn_lle, nn_ltl, nn_llt, nn_eql, nn_leq, nn_eq, nn_neg, nn_pos]
  refine wpLoop_by [(3, 44)] (fun x : Nat × Nat × List D => ⟨[(4, vI .i64 x.1), (3, vC (.sl 3 0 x.2.1)), (0, vC (.d (intsD l)))], [(3, .row 1 x.2.2 true)]⟩)
    (fun x => ∃ o : List Int, x.2.1 = o.length ∧ x.2.2 = o.map i64 ∧ x.1 ≤ l.length ∧ o.Perm (l.take x.1) ∧ o.Pairwise (· ≤ ·)) (fun x => l.length - x.1) (0, 0, []) (by simp) ⟨[], by simp⟩ ?_
  rintro ⟨i, n, cs⟩ ⟨o, hn, hc, h1, h2, h3⟩
  simp only at hn hc h1 h2 h3
  subst hn hc
  have hlen := h2.length_eq
  rw [List.length_take, Nat.min_eq_left h1] at hlen
  by_cases h : i < l.length
  · simp (config := { maxSteps := 2000000 }) -implicitDefEqProofs [-List.map_set, set_u16, -Int.natCast_add, -Int.natCast_mul, -Int.natCast_emod, -Int.natCast_ediv, -Int.natCast_pow, nn_add, nn_addl, nn_ladd, nn_mul, nn_mull, nn_lmul, nn_mod, nn_modl, nn_tmod, nn_tmodl, nn_tdiv, nn_tdivl, nn_div, nn_divl, nn_shr, nn_sub1, nn_lel, nn_lle, nn_ltl, nn_llt, nn_eql, nn_leq, nn_eq, nn_neg, nn_pos, h]
    refine wpLoop_of (fun k : Nat => ⟨[(5, vI .i64 k), (4, vI .i64 i), (3, vC (.sl 3 0 o.length)), (0, vC (.d (intsD l)))], [(3, .row 1 (o.map i64) true)]⟩)
      (fun k => k ≤ o.length ∧ ∀ j (hj : j < o.length), k ≤ j → l[i] < o[j]) (fun k => k) o.length (by simp) ⟨Nat.le_refl _, fun j hj hk => by omega⟩ ?_
    rintro k ⟨g1, g2⟩
    cases k with
    | zero =>
      simp (config := { maxSteps := 2000000 }) -implicitDefEqProofs [-List.map_set, set_u16, -Int.natCast_add, -Int.natCast_mul, -Int.natCast_emod, -Int.natCast_ediv, -Int.natCast_pow, nn_add, nn_addl, nn_ladd, nn_mul, nn_mull, nn_lmul, nn_mod, nn_modl, nn_tmod, nn_tmodl, nn_tdiv, nn_tdivl, nn_div, nn_divl, nn_shr, nn_sub1, nn_lel, nn_lle, nn_ltl, nn_llt, nn_eql, nn_leq, nn_eq, nn_neg, nn_pos]
      refine wpDraw_by [[], [0], [0, 1], [0, 1, 2], [0, 1, 2], [0, 1, 2, 4], [0, 1, 2, 3, 4, 5], [0, 1, 2, 3, 4, 5, 6], [0, 1, 2], [0, 1, 2], [0, 1, 2, 8, 9], [0, 1, 2, 8, 9, 10], [0, 1, 2, 3, 4, 5, 6, 7, 8, 9, 10, 11], [0, 1, 2, 3, 4, 5, 6, 7, 8, 9, 10, 11, 12]] [.one, .one, .one, .any [] [] [⟨0, [3, 16], [], [], []⟩, ⟨0, [5, 16], [], [], []⟩, ⟨0, [18, 16], [], [], []⟩, ⟨0, [17, 19, 16], [], [], []⟩, ⟨0, [20, 16], [], [], []⟩, ⟨0, [0, 16], [], [], []⟩, ⟨0, [4, 16], [], [], []⟩, ⟨0, [22, 23, 16], [], [], []⟩, ⟨0, [24, 16], [], [], []⟩], .one, .one] (by rfl) ?_
      simp (config := { maxSteps := 2000000 }) -implicitDefEqProofs [-List.map_set, set_u16, -Int.natCast_add, -Int.natCast_mul, -Int.natCast_emod, -Int.natCast_ediv, -Int.natCast_pow, nn_add, nn_addl, nn_ladd, nn_mul, nn_mull, nn_lmul, nn_mod, nn_modl, nn_tmod, nn_tmodl, nn_tdiv, nn_tdivl, nn_div, nn_divl, nn_shr, nn_sub1, nn_lel, nn_lle, nn_ltl, nn_llt, nn_eql, nn_leq, nn_eq, nn_neg, nn_pos]
      refine wpDraw_by [[], [], [], [1, 2], [0, 1, 2, 3], [], [], [5, 6], [5, 6, 7], [5, 6, 7, 8], [0, 1, 2, 3, 4, 5, 6, 7, 8, 9], [], [], [11, 12], [0, 1, 2, 3, 4, 5, 6, 7, 8, 9, 10, 11, 12, 13], [0, 1, 2, 3, 4, 5, 6, 7, 8, 9, 10, 11, 12, 13, 14]] [.any [] [30, 34, 39, 40] [⟨1, [], [39], [34, 39, 40], []⟩, ⟨0, [3], [30, 39], [30, 34, 39, 40], []⟩, ⟨0, [5], [30, 39], [30, 34, 39, 40], []⟩, ⟨0, [31, 32], [30, 39], [30, 34, 39, 40], []⟩, ⟨3, [30, 33], [39], [39, 40], [30]⟩, ⟨0, [0], [30, 34], [30, 34, 39, 40], []⟩, ⟨0, [4], [30, 34], [30, 34, 39, 40], []⟩, ⟨0, [35, 36], [30, 34], [30, 34, 39, 40], []⟩, ⟨0, [37], [30, 34], [30, 34, 39, 40], []⟩, ⟨1, [38], [30, 34], [30, 34, 40], []⟩, ⟨3, [34, 39], [], [], [34]⟩, ⟨0, [3], [30, 34, 39, 40], [30, 34, 39, 40], []⟩, ⟨0, [5], [30, 34, 39, 40], [30, 34, 39, 40], []⟩, ⟨0, [41, 42], [30, 34, 39, 40], [30, 34, 39, 40], []⟩], .one, .one] (by rfl) ?_
      simp (config := { maxSteps := 2000000 }) -implicitDefEqProofs [-List.map_set, set_u16, -Int.natCast_add, -Int.natCast_mul, -Int.natCast_emod, -Int.natCast_ediv, -Int.natCast_pow, nn_add, nn_addl, nn_ladd, nn_mul, nn_mull, nn_lmul, nn_mod, nn_modl, nn_tmod, nn_tmodl, nn_tdiv, nn_tdivl, nn_div, nn_divl, nn_shr, nn_sub1, nn_lel, nn_lle, nn_ltl, nn_llt, nn_eql, nn_leq, nn_eq, nn_neg, nn_pos, h, i64]
      refine ⟨by omega, by omega, i + 1, 1 + o.length, _, ⟨⟨rfl, rfl⟩, rfl⟩, ⟨l[i] :: o, by simp; omega, rfl, by omega, ?_, ?_⟩, by omega⟩
      · have := ins_perm (p := 0) h h2
        simpa using this
      · have := ins_sorted (x := l[i]) (p := 0) h3 (fun j hj hlt => by omega) (fun j hj hle => g2 j hj hle)
        simpa using this
    | succ k =>
      have hk : k < o.length := by omega
      have hb : k ≤ 9223372036854775806 := by omega
      by_cases hgt : l[i] < o[k]
      · simp (config := { maxSteps := 2000000 }) -implicitDefEqProofs [-List.map_set, set_u16, -Int.natCast_add, -Int.natCast_mul, -Int.natCast_emod, -Int.natCast_ediv, -Int.natCast_pow, nn_add, nn_addl, nn_ladd, nn_mul, nn_mull, nn_lmul, nn_mod, nn_modl, nn_tmod, nn_tmodl, nn_tdiv, nn_tdivl, nn_div, nn_divl, nn_shr, nn_sub1, nn_lel, nn_lle, nn_ltl, nn_llt, nn_eql, nn_leq, nn_eq, nn_neg, nn_pos, hb]
        refine wpDraw_by [[], [0], [0, 1], [0, 1, 2], [0, 1, 2], [0, 1, 2, 4], [0, 1, 2, 3, 4, 5], [0, 1, 2, 3, 4, 5, 6], [0, 1, 2], [0, 1, 2], [0, 1, 2, 8, 9], [0, 1, 2, 8, 9, 10], [0, 1, 2, 3, 4, 5, 6, 7, 8, 9, 10, 11], [0, 1, 2, 3, 4, 5, 6, 7, 8, 9, 10, 11, 12]] [.one, .one, .one, .any [] [] [⟨0, [3, 16], [], [], []⟩, ⟨0, [5, 16], [], [], []⟩, ⟨0, [18, 16], [], [], []⟩, ⟨0, [17, 19, 16], [], [], []⟩, ⟨0, [20, 16], [], [], []⟩, ⟨0, [0, 16], [], [], []⟩, ⟨0, [4, 16], [], [], []⟩, ⟨0, [22, 23, 16], [], [], []⟩, ⟨0, [24, 16], [], [], []⟩], .one, .one] (by rfl) ?_
        simp (config := { maxSteps := 2000000 }) -implicitDefEqProofs [-List.map_set, set_u16, -Int.natCast_add, -Int.natCast_mul, -Int.natCast_emod, -Int.natCast_ediv, -Int.natCast_pow, nn_add, nn_addl, nn_ladd, nn_mul, nn_mull, nn_lmul, nn_mod, nn_modl, nn_tmod, nn_tmodl, nn_tdiv, nn_tdivl, nn_div, nn_divl, nn_shr, nn_sub1, nn_lel, nn_lle, nn_ltl, nn_llt, nn_eql, nn_leq, nn_eq, nn_neg, nn_pos, h, hk, i64, hgt, hb]
        refine ⟨by omega, by omega, fun j hj hkj => ?_⟩
        by_cases e : j = k
        · subst e; exact hgt
        · exact g2 j hj (by omega)
      · simp (config := { maxSteps := 2000000 }) -implicitDefEqProofs [-List.map_set, set_u16, -Int.natCast_add, -Int.natCast_mul, -Int.natCast_emod, -Int.natCast_ediv, -Int.natCast_pow, nn_add, nn_addl, nn_ladd, nn_mul, nn_mull, nn_lmul, nn_mod, nn_modl, nn_tmod, nn_tmodl, nn_tdiv, nn_tdivl, nn_div, nn_divl, nn_shr, nn_sub1, nn_lel, nn_lle, nn_ltl, nn_llt, nn_eql, nn_leq, nn_eq, nn_neg, nn_pos, hb]
        refine wpDraw_by [[], [0], [0, 1], [0, 1, 2], [0, 1, 2], [0, 1, 2, 4], [0, 1, 2, 3, 4, 5], [0, 1, 2, 3, 4, 5, 6], [0, 1, 2], [0, 1, 2], [0, 1, 2, 8, 9], [0, 1, 2, 8, 9, 10], [0, 1, 2, 3, 4, 5, 6, 7, 8, 9, 10, 11], [0, 1, 2, 3, 4, 5, 6, 7, 8, 9, 10, 11, 12]] [.one, .one, .one, .any [] [] [⟨0, [3, 16], [], [], []⟩, ⟨0, [5, 16], [], [], []⟩, ⟨0, [18, 16], [], [], []⟩, ⟨0, [17, 19, 16], [], [], []⟩, ⟨0, [20, 16], [], [], []⟩, ⟨0, [0, 16], [], [], []⟩, ⟨0, [4, 16], [], [], []⟩, ⟨0, [22, 23, 16], [], [], []⟩, ⟨0, [24, 16], [], [], []⟩], .one, .one] (by rfl) ?_
        simp (config := { maxSteps := 2000000 }) -implicitDefEqProofs [-List.map_set, set_u16, -Int.natCast_add, -Int.natCast_mul, -Int.natCast_emod, -Int.natCast_ediv, -Int.natCast_pow, nn_add, nn_addl, nn_ladd, nn_mul, nn_mull, nn_lmul, nn_mod, nn_modl, nn_tmod, nn_tmodl, nn_tdiv, nn_tdivl, nn_div, nn_divl, nn_shr, nn_sub1, nn_lel, nn_lle, nn_ltl, nn_llt, nn_eql, nn_leq, nn_eq, nn_neg, nn_pos, h, hk, i64, hgt, hb]
        refine ⟨by omega, ?_⟩
        refine wpDraw_by [[], [], [], [1, 2], [0, 1, 2, 3], [], [], [5, 6], [5, 6, 7], [5, 6, 7, 8], [0, 1, 2, 3, 4, 5, 6, 7, 8, 9], [], [], [11, 12], [0, 1, 2, 3, 4, 5, 6, 7, 8, 9, 10, 11, 12, 13], [0, 1, 2, 3, 4, 5, 6, 7, 8, 9, 10, 11, 12, 13, 14]] [.any [] [30, 34, 39, 40] [⟨1, [], [39], [34, 39, 40], []⟩, ⟨0, [3], [30, 39], [30, 34, 39, 40], []⟩, ⟨0, [5], [30, 39], [30, 34, 39, 40], []⟩, ⟨0, [31, 32], [30, 39], [30, 34, 39, 40], []⟩, ⟨3, [30, 33], [39], [39, 40], [30]⟩, ⟨0, [0], [30, 34], [30, 34, 39, 40], []⟩, ⟨0, [4], [30, 34], [30, 34, 39, 40], []⟩, ⟨0, [35, 36], [30, 34], [30, 34, 39, 40], []⟩, ⟨0, [37], [30, 34], [30, 34, 39, 40], []⟩, ⟨1, [38], [30, 34], [30, 34, 40], []⟩, ⟨3, [34, 39], [], [], [34]⟩, ⟨0, [3], [30, 34, 39, 40], [30, 34, 39, 40], []⟩, ⟨0, [5], [30, 34, 39, 40], [30, 34, 39, 40], []⟩, ⟨0, [41, 42], [30, 34, 39, 40], [30, 34, 39, 40], []⟩], .one, .one] (by rfl) ?_
        simp (config := { maxSteps := 2000000 }) -implicitDefEqProofs [-List.map_set, set_u16, -Int.natCast_add, -Int.natCast_mul, -Int.natCast_emod, -Int.natCast_ediv, -Int.natCast_pow, nn_add, nn_addl, nn_ladd, nn_mul, nn_mull, nn_lmul, nn_mod, nn_modl, nn_tmod, nn_tmodl, nn_tdiv, nn_tdivl, nn_div, nn_divl, nn_shr, nn_sub1, nn_lel, nn_lle, nn_ltl, nn_llt, nn_eql, nn_leq, nn_eq, nn_neg, nn_pos, h, hk, i64, hgt, hb]
        have hd : (o.drop (k + 1)).length = o.length - (k + 1) := List.length_drop
        have hlo : ∀ j (hj : j < o.length), j < k + 1 → o[j] ≤ l[i] := fun j hj hlt => by
          by_cases e : j = k
          · subst e; omega
          · have := List.pairwise_iff_getElem.1 h3 j k hj hk (by omega)
            omega
        refine ⟨g1, by omega, by omega, by omega, g1, by omega, by omega, by omega, by omega, i + 1, k + 1 + 1 + (o.length - (k + 1)), _, ⟨⟨rfl, rfl⟩, rfl⟩, ⟨o.take (k + 1) ++ l[i] :: o.drop (k + 1), ?_, ?_, by omega, ins_perm h h2, ins_sorted h3 hlo g2⟩, by omega⟩
        · simp
          omega
        · rw [List.map_append, List.map_cons, List.map_take, List.map_drop, List.take_of_length_le (i := o.length - (k + 1)) (by simp)]
          rfl
  · have hi : i = l.length := by omega
    subst hi
    rw [List.take_length] at h2
    have e := sortL_of h2 h3
    simp (config := { maxSteps := 2000000 }) -implicitDefEqProofs [-List.map_set, set_u16, -Int.natCast_add, -Int.natCast_mul, -Int.natCast_emod, -Int.natCast_ediv, -Int.natCast_pow, nn_add, nn_addl, nn_ladd, nn_mul, nn_mull, nn_lmul, nn_mod, nn_modl, nn_tmod, nn_tmodl, nn_tdiv, nn_tdivl, nn_div, nn_divl, nn_shr, nn_sub1, nn_lel, nn_lle, nn_ltl, nn_llt, nn_eql, nn_leq, nn_eq, nn_neg, nn_pos]
    rw [e]

theorem joinArgs_take {l : List (Int × Int)} {i : Nat} (h : i < l.length) : (joinArgs (l.take (i + 1))).map i64 = (joinArgs (l.take i)).map i64 ++ [.int .i64 l[i].1, .int .i64 l[i].2] := by
  rw [List.take_succ_eq_append_getElem h]; unfold joinArgs; rw [List.flatMap_append, List.map_append]; rfl

theorem args_c (l : List (Int × Int)) (hl : l.length ≤ 1099511627776) : CallsF Tryz.prog 76 [.c (segsD l)] (.u (.c (.d (intsD (joinArgs l))))) := by
  refine callsF_of (T := tb) tab_ok mixed Tryz.func76 rfl (by decide) (Nat.le_of_ble_eq_true rfl) rfl ?_; unfold St.init
  simp (config := { maxSteps := 2000000 }) -implicitDefEqProofs [-List.map_set, set_u16, -Int.natCast_add, -Int.natCast_mul, -Int.natCast_emod, -Int.natCast_ediv, -Int.natCast_pow, nn_add, nn_addl, nn_ladd, nn_mul, nn_mull, nn_lmul, nn_mod, nn_modl, nn_tmod, nn_tmodl, nn_tdiv, nn_tdivl, nn_div, nn_divl, nn_shr, nn_sub1, nn_lel, nn_lle, nn_ltl, nn_llt, nn_eql, nn_leq, nn_eq, nn_neg, nn_pos]
  refine wpLoop_by [(3, 23)] (fun x : Nat × Nat × List D => ⟨[(4, vI .i64 x.1), (3, vC (.sl 3 0 x.2.1)), (0, vC (.d (segsD l)))], [(3, .row 1 x.2.2 true)]⟩)
    (fun x => x.1 ≤ l.length ∧ x.2.1 = x.1 * 2 ∧ x.2.2 = (joinArgs (l.take x.1)).map i64) (fun x => l.length - x.1) (0, 0, []) (by simp) (by simp [joinArgs]) ?_
  rintro ⟨i, n, cs⟩ ⟨h1, h2, h3⟩
  simp only at h1 h2 h3
  subst h2 h3
  have e3 := joinArgs_len (l.take i)
  rw [List.length_take, Nat.min_eq_left h1] at e3
  by_cases h : i < l.length
  · have e := joinArgs_take h
    have e2 := seg_drop h
    simp (config := { maxSteps := 2000000 }) -implicitDefEqProofs [-List.map_set, set_u16, -Int.natCast_add, -Int.natCast_mul, -Int.natCast_emod, -Int.natCast_ediv, -Int.natCast_pow, nn_add, nn_addl, nn_ladd, nn_mul, nn_mull, nn_lmul, nn_mod, nn_modl, nn_tmod, nn_tmodl, nn_tdiv, nn_tdivl, nn_div, nn_divl, nn_shr, nn_sub1, nn_lel, nn_lle, nn_ltl, nn_llt, nn_eql, nn_leq, nn_eq, nn_neg, nn_pos, h]
    refine wpDraw_by [[], [], [], [1, 2], [1, 2, 3], [1, 2, 3, 4], [], [], [6, 7], [6, 7, 8], [6, 7, 8, 9], [1, 2, 3, 4, 5, 6, 7, 8, 9, 10], [0, 1, 2, 3, 4, 5, 6, 7, 8, 9, 10, 11], [0, 1, 2, 3, 4, 5, 6, 7, 8, 9, 10, 11, 12]] [.any [] [22] [⟨0, [3], [22], [22], []⟩, ⟨0, [0], [], [22], []⟩, ⟨0, [4], [], [22], []⟩, ⟨0, [12, 13], [], [22], []⟩, ⟨0, [14], [], [22], []⟩, ⟨0, [15], [], [22], []⟩, ⟨0, [0], [], [22], []⟩, ⟨0, [4], [], [22], []⟩, ⟨0, [17, 18], [], [22], []⟩, ⟨0, [19], [], [22], []⟩, ⟨0, [20], [], [22], []⟩, ⟨1, [16, 21], [], [], []⟩], .one, .one] (by rfl) ?_
    simp (config := { maxSteps := 2000000 }) -implicitDefEqProofs [-List.map_set, set_u16, -Int.natCast_add, -Int.natCast_mul, -Int.natCast_emod, -Int.natCast_ediv, -Int.natCast_pow, nn_add, nn_addl, nn_ladd, nn_mul, nn_mull, nn_lmul, nn_mod, nn_modl, nn_tmod, nn_tmodl, nn_tdiv, nn_tdivl, nn_div, nn_divl, nn_shr, nn_sub1, nn_lel, nn_lle, nn_ltl, nn_llt, nn_eql, nn_leq, nn_eq, nn_neg, nn_pos, h, e2, e3]
    exact ⟨⟨by omega, by omega⟩, by omega, i + 1, i * 2 + 2, _, ⟨⟨rfl, rfl⟩, rfl⟩, ⟨by omega, by omega, by rw [e]⟩, by omega⟩
  · have hi : i = l.length := by omega
    subst hi
    rw [List.take_length] at e3 ⊢
    simp (config := { maxSteps := 2000000 }) -implicitDefEqProofs [-List.map_set, set_u16, -Int.natCast_add, -Int.natCast_mul, -Int.natCast_emod, -Int.natCast_ediv, -Int.natCast_pow, nn_add, nn_addl, nn_ladd, nn_mul, nn_mull, nn_lmul, nn_mod, nn_modl, nn_tmod, nn_tmodl, nn_tdiv, nn_tdivl, nn_div, nn_divl, nn_shr, nn_sub1, nn_lel, nn_lle, nn_ltl, nn_llt, nn_eql, nn_leq, nn_eq, nn_neg, nn_pos]
    rw [← e3, List.take_of_length_le (by simp)]
    exact ⟨by simp, by show D.slice _ _ = D.slice _ _; simp⟩

theorem args2_c (a b c d : Int) : CallsF Tryz.prog 76 [.c (.slice 2 [.int .i64 a, .int .i64 b, .int .i64 c, .int .i64 d])] (.u (.c (.d (intsD [a, b, c, d])))) := args_c [(a, b), (c, d)] (by simp)
theorem args4_c (a b c d e f g h : Int) : CallsF Tryz.prog 76 [.c (.slice 4 [.int .i64 a, .int .i64 b, .int .i64 c, .int .i64 d, .int .i64 e, .int .i64 f, .int .i64 g, .int .i64 h])] (.u (.c (.d (intsD [a, b, c, d, e, f, g, h])))) := args_c [(a, b), (c, d), (e, f), (g, h)] (by simp)

theorem cmpP_lt (a b c d : Int) : cmpP (a, b) (c, d) < 0 ↔ a < c ∨ (a = c ∧ b < d) := by
  unfold cmpP orL orL orL
  simp only
  rcases cmpZ_cases a c with ⟨h, e⟩ | ⟨h, e⟩ | ⟨h, e⟩ <;> rcases cmpZ_cases b d with ⟨h', e'⟩ | ⟨h', e'⟩ | ⟨h', e'⟩ <;> rw [e, e'] <;> simp <;> omega
theorem cmpP_zero (p q : Int × Int) : cmpP p q = 0 ↔ p = q := by
  obtain ⟨a, b⟩ := p
  obtain ⟨c, d⟩ := q
  unfold cmpP orL orL orL
  simp only [Prod.mk.injEq]
  rcases cmpZ_cases a c with ⟨h, e⟩ | ⟨h, e⟩ | ⟨h, e⟩ <;> rcases cmpZ_cases b d with ⟨h', e'⟩ | ⟨h', e'⟩ | ⟨h', e'⟩ <;> rw [e, e'] <;> simp <;> omega
theorem orP_lt (p q r s : Int × Int) : orL [cmpP p q, cmpP r s] < 0 ↔ cmpP p q < 0 ∨ (p = q ∧ cmpP r s < 0) := by
  have := cmpP_zero p q
  unfold orL orL orL
  by_cases h : cmpP p q = 0
  · rw [if_pos h]
    have e := this.1 h
    by_cases h2 : cmpP r s = 0
    · rw [if_pos h2, h2, h]; simp
    · rw [if_neg h2, h]; simp [e]
  · rw [if_neg h]
    have e : ¬ p = q := fun e => h (this.2 e)
    simp [e]

theorem below_c (a b c d : Int) : CallsF Tryz.prog 75 [.agg [.int .i64 a, .int .i64 b], .agg [.int .i64 c, .int .i64 d]] (.u (.c (.d (.bool (decide (cmpP (a, b) (c, d) < 0)))))) := by
  have e := cmpP_lt a b c d
  simp only [e]
  clear e
  refine callsF_of (T := tb) tab_ok mixed Tryz.func75 rfl (by decide) (Nat.le_of_ble_eq_true rfl) rfl ?_; unfold St.init
  by_cases h1 : a < c
  · simp (config := { maxSteps := 2000000 }) -implicitDefEqProofs [-List.map_set, set_u16, -Int.natCast_add, -Int.natCast_mul, -Int.natCast_emod, -Int.natCast_ediv, -Int.natCast_pow, nn_add, nn_addl, nn_ladd, nn_mul, nn_mull, nn_lmul, nn_mod, nn_modl, nn_tmod, nn_tmodl, nn_tdiv, nn_tdivl, nn_div, nn_divl, nn_shr, nn_sub1, nn_lel, nn_lle, nn_ltl, nn_llt, nn_eql, nn_leq, nn_eq, nn_neg, nn_pos, h1]
  · by_cases h2 : a = c
    · subst h2
      simp (config := { maxSteps := 2000000 }) -implicitDefEqProofs [-List.map_set, set_u16, -Int.natCast_add, -Int.natCast_mul, -Int.natCast_emod, -Int.natCast_ediv, -Int.natCast_pow, nn_add, nn_addl, nn_ladd, nn_mul, nn_mull, nn_lmul, nn_mod, nn_modl, nn_tmod, nn_tmodl, nn_tdiv, nn_tdivl, nn_div, nn_divl, nn_shr, nn_sub1, nn_lel, nn_lle, nn_ltl, nn_llt, nn_eql, nn_leq, nn_eq, nn_neg, nn_pos]
    · simp (config := { maxSteps := 2000000 }) -implicitDefEqProofs [-List.map_set, set_u16, -Int.natCast_add, -Int.natCast_mul, -Int.natCast_emod, -Int.natCast_ediv, -Int.natCast_pow, nn_add, nn_addl, nn_ladd, nn_mul, nn_mull, nn_lmul, nn_mod, nn_modl, nn_tmod, nn_tmodl, nn_tdiv, nn_tdivl, nn_div, nn_divl, nn_shr, nn_sub1, nn_lel, nn_lle, nn_ltl, nn_llt, nn_eql, nn_leq, nn_eq, nn_neg, nn_pos, h1, h2]

/-- The least point that both have. -/
def comF (p q : Int × Int) : Int × Bool := if p.1 = q.1 ∨ p.1 = q.2 then (p.1, true) else if p.2 = q.1 ∨ p.2 = q.2 then (p.2, true) else (0, false)
theorem common_c (a b c d : Int) : CallsF Tryz.prog 77 [.agg [.int .i64 a, .int .i64 b], .agg [.int .i64 c, .int .i64 d]] (.tup [.c (.d (.int .i64 (comF (a, b) (c, d)).1)), .c (.d (.bool (comF (a, b) (c, d)).2))]) := by
  unfold comF
  refine callsF_of (T := tb) tab_ok mixed Tryz.func77 rfl (by decide) (Nat.le_of_ble_eq_true rfl) rfl ?_; unfold St.init
  by_cases h1 : a = c
  · simp (config := { maxSteps := 2000000 }) -implicitDefEqProofs [-List.map_set, set_u16, -Int.natCast_add, -Int.natCast_mul, -Int.natCast_emod, -Int.natCast_ediv, -Int.natCast_pow, nn_add, nn_addl, nn_ladd, nn_mul, nn_mull, nn_lmul, nn_mod, nn_modl, nn_tmod, nn_tmodl, nn_tdiv, nn_tdivl, nn_div, nn_divl, nn_shr, nn_sub1, nn_lel, nn_lle, nn_ltl, nn_llt, nn_eql, nn_leq, nn_eq, nn_neg, nn_pos, h1]
  · by_cases h2 : a = d
    · simp (config := { maxSteps := 2000000 }) -implicitDefEqProofs [-List.map_set, set_u16, -Int.natCast_add, -Int.natCast_mul, -Int.natCast_emod, -Int.natCast_ediv, -Int.natCast_pow, nn_add, nn_addl, nn_ladd, nn_mul, nn_mull, nn_lmul, nn_mod, nn_modl, nn_tmod, nn_tmodl, nn_tdiv, nn_tdivl, nn_div, nn_divl, nn_shr, nn_sub1, nn_lel, nn_lle, nn_ltl, nn_llt, nn_eql, nn_leq, nn_eq, nn_neg, nn_pos, h1, h2]
    · by_cases h3 : b = c
      · simp (config := { maxSteps := 2000000 }) -implicitDefEqProofs [-List.map_set, set_u16, -Int.natCast_add, -Int.natCast_mul, -Int.natCast_emod, -Int.natCast_ediv, -Int.natCast_pow, nn_add, nn_addl, nn_ladd, nn_mul, nn_mull, nn_lmul, nn_mod, nn_modl, nn_tmod, nn_tmodl, nn_tdiv, nn_tdivl, nn_div, nn_divl, nn_shr, nn_sub1, nn_lel, nn_lle, nn_ltl, nn_llt, nn_eql, nn_leq, nn_eq, nn_neg, nn_pos, h1, h2, h3]
      · by_cases h4 : b = d
        · simp (config := { maxSteps := 2000000 }) -implicitDefEqProofs [-List.map_set, set_u16, -Int.natCast_add, -Int.natCast_mul, -Int.natCast_emod, -Int.natCast_ediv, -Int.natCast_pow, nn_add, nn_addl, nn_ladd, nn_mul, nn_mull, nn_lmul, nn_mod, nn_modl, nn_tmod, nn_tmodl, nn_tdiv, nn_tdivl, nn_div, nn_divl, nn_shr, nn_sub1, nn_lel, nn_lle, nn_ltl, nn_llt, nn_eql, nn_leq, nn_eq, nn_neg, nn_pos, h1, h2, h3, h4]
        · simp (config := { maxSteps := 2000000 }) -implicitDefEqProofs [-List.map_set, set_u16, -Int.natCast_add, -Int.natCast_mul, -Int.natCast_emod, -Int.natCast_ediv, -Int.natCast_pow, nn_add, nn_addl, nn_ladd, nn_mul, nn_mull, nn_lmul, nn_mod, nn_modl, nn_tmod, nn_tmodl, nn_tdiv, nn_tdivl, nn_div, nn_divl, nn_shr, nn_sub1, nn_lel, nn_lle, nn_ltl, nn_llt, nn_eql, nn_leq, nn_eq, nn_neg, nn_pos, h1, h2, h3, h4]

theorem lesser_c (neg : Bool) (m e : Nat) (hm : m < 4294967296) (he : e < 4294967296) (e0 : e ≠ 0) (hg : Nat.gcd m e = 1) (same : Bool) :
    CallsF Tryz.prog 78 [.agg [.bool neg, natD (limbs m), natD (limbs e)], .c (.bool same)]
      (if same = true ∧ m ≠ 0 ∧ cmpZ (toZ neg e * e) (toZ neg m * m) < 0 then .u (.agg [.d (.bool neg), .d (natD (limbs e)), .d (natD (limbs m))]) else .u (.agg [.d (.bool neg), .d (natD (limbs m)), .d (natD (limbs e))])) := by
  have k1 := refSign_c neg m e (by omega) (by omega) e0 hg
  have k2 := refRatOf_c 1 (by omega)
  have k3 := refRatDiv_c neg m e (by omega) (by omega) e0 hg
  have k4 := fun m0 => refRatCmp_c neg neg e m m e (by omega) (by omega) m0 (by rw [Nat.gcd_comm]; exact hg) (by omega) (by omega) e0 hg
  cases same
  · rw [if_neg (by simp)]
    refine callsF_of (T := tb) tab_ok mixed Tryz.func78 rfl (by decide) (Nat.le_of_ble_eq_true rfl) rfl ?_; unfold St.init
    simp (config := { maxSteps := 2000000 }) -implicitDefEqProofs [-List.map_set, set_u16, -Int.natCast_add, -Int.natCast_mul, -Int.natCast_emod, -Int.natCast_ediv, -Int.natCast_pow, nn_add, nn_addl, nn_ladd, nn_mul, nn_mull, nn_lmul, nn_mod, nn_modl, nn_tmod, nn_tmodl, nn_tdiv, nn_tdivl, nn_div, nn_divl, nn_shr, nn_sub1, nn_lel, nn_lle, nn_ltl, nn_llt, nn_eql, nn_leq, nn_eq, nn_neg, nn_pos]
  · by_cases m0 : m = 0
    · rw [if_neg (by simp [m0])]
      refine callsF_of (T := tb) tab_ok mixed Tryz.func78 rfl (by decide) (Nat.le_of_ble_eq_true rfl) rfl ?_; unfold St.init
      simp (config := { maxSteps := 2000000 }) -implicitDefEqProofs [-List.map_set, set_u16, -Int.natCast_add, -Int.natCast_mul, -Int.natCast_emod, -Int.natCast_ediv, -Int.natCast_pow, nn_add, nn_addl, nn_ladd, nn_mul, nn_mull, nn_lmul, nn_mod, nn_modl, nn_tmod, nn_tmodl, nn_tdiv, nn_tdivl, nn_div, nn_divl, nn_shr, nn_sub1, nn_lel, nn_lle, nn_ltl, nn_llt, nn_eql, nn_leq, nn_eq, nn_neg, nn_pos]
      (first | refine .inl ⟨_, k1, ?_⟩ | refine ⟨_, k1, ?_⟩)
      simp (config := { maxSteps := 2000000 }) -implicitDefEqProofs [-List.map_set, set_u16, -Int.natCast_add, -Int.natCast_mul, -Int.natCast_emod, -Int.natCast_ediv, -Int.natCast_pow, nn_add, nn_addl, nn_ladd, nn_mul, nn_mull, nn_lmul, nn_mod, nn_modl, nn_tmod, nn_tmodl, nn_tdiv, nn_tdivl, nn_div, nn_divl, nn_shr, nn_sub1, nn_lel, nn_lle, nn_ltl, nn_llt, nn_eql, nn_leq, nn_eq, nn_neg, nn_pos, sgnI_zero, m0]
    · rw [if_neg m0] at k3
      have k4 := k4 m0
      by_cases hc : cmpZ (toZ neg e * e) (toZ neg m * m) < 0
      · rw [if_pos ⟨rfl, m0, hc⟩]
        refine callsF_of (T := tb) tab_ok mixed Tryz.func78 rfl (by decide) (Nat.le_of_ble_eq_true rfl) rfl ?_; unfold St.init
        simp (config := { maxSteps := 2000000 }) -implicitDefEqProofs [-List.map_set, set_u16, -Int.natCast_add, -Int.natCast_mul, -Int.natCast_emod, -Int.natCast_ediv, -Int.natCast_pow, nn_add, nn_addl, nn_ladd, nn_mul, nn_mull, nn_lmul, nn_mod, nn_modl, nn_tmod, nn_tmodl, nn_tdiv, nn_tdivl, nn_div, nn_divl, nn_shr, nn_sub1, nn_lel, nn_lle, nn_ltl, nn_llt, nn_eql, nn_leq, nn_eq, nn_neg, nn_pos]
        (first | refine .inl ⟨_, k1, ?_⟩ | refine ⟨_, k1, ?_⟩)
        simp (config := { maxSteps := 2000000 }) -implicitDefEqProofs [-List.map_set, set_u16, -Int.natCast_add, -Int.natCast_mul, -Int.natCast_emod, -Int.natCast_ediv, -Int.natCast_pow, nn_add, nn_addl, nn_ladd, nn_mul, nn_mull, nn_lmul, nn_mod, nn_modl, nn_tmod, nn_tmodl, nn_tdiv, nn_tdivl, nn_div, nn_divl, nn_shr, nn_sub1, nn_lel, nn_lle, nn_ltl, nn_llt, nn_eql, nn_leq, nn_eq, nn_neg, nn_pos, sgnI_zero, m0]
        refine wpDraw_by [[], [], [0, 1], [0, 1, 2], [0, 1, 2, 3], [0, 1, 2, 3], [], [0, 1, 2, 3, 4, 6], [0, 1, 2, 3, 4, 5, 6, 7]] [.any [] [5] [⟨0, [], [5], [5], []⟩, ⟨0, [2], [5], [5], []⟩, ⟨0, [16, 17], [5], [5], []⟩, ⟨0, [18], [5], [5], []⟩, ⟨0, [15], [5], [5], []⟩, ⟨0, [15], [5], [5], []⟩, ⟨1, [], [], [], []⟩, ⟨2, [5, 19], [], [], [5]⟩], .one] (by rfl) ?_
        simp (config := { maxSteps := 2000000 }) -implicitDefEqProofs [-List.map_set, set_u16, -Int.natCast_add, -Int.natCast_mul, -Int.natCast_emod, -Int.natCast_ediv, -Int.natCast_pow, nn_add, nn_addl, nn_ladd, nn_mul, nn_mull, nn_lmul, nn_mod, nn_modl, nn_tmod, nn_tmodl, nn_tdiv, nn_tdivl, nn_div, nn_divl, nn_shr, nn_sub1, nn_lel, nn_lle, nn_ltl, nn_llt, nn_eql, nn_leq, nn_eq, nn_neg, nn_pos]
        (first | refine .inl ⟨_, k2, ?_⟩ | refine ⟨_, k2, ?_⟩)
        simp (config := { maxSteps := 2000000 }) -implicitDefEqProofs [-List.map_set, set_u16, -Int.natCast_add, -Int.natCast_mul, -Int.natCast_emod, -Int.natCast_ediv, -Int.natCast_pow, nn_add, nn_addl, nn_ladd, nn_mul, nn_mull, nn_lmul, nn_mod, nn_modl, nn_tmod, nn_tmodl, nn_tdiv, nn_tdivl, nn_div, nn_divl, nn_shr, nn_sub1, nn_lel, nn_lle, nn_ltl, nn_llt, nn_eql, nn_leq, nn_eq, nn_neg, nn_pos]
        (first | refine .inl ⟨_, k3, ?_⟩ | refine ⟨_, k3, ?_⟩)
        simp (config := { maxSteps := 2000000 }) -implicitDefEqProofs [-List.map_set, set_u16, -Int.natCast_add, -Int.natCast_mul, -Int.natCast_emod, -Int.natCast_ediv, -Int.natCast_pow, nn_add, nn_addl, nn_ladd, nn_mul, nn_mull, nn_lmul, nn_mod, nn_modl, nn_tmod, nn_tmodl, nn_tdiv, nn_tdivl, nn_div, nn_divl, nn_shr, nn_sub1, nn_lel, nn_lle, nn_ltl, nn_llt, nn_eql, nn_leq, nn_eq, nn_neg, nn_pos]
        (first | refine .inl ⟨_, k4, ?_⟩ | refine ⟨_, k4, ?_⟩)
        simp (config := { maxSteps := 2000000 }) -implicitDefEqProofs [-List.map_set, set_u16, -Int.natCast_add, -Int.natCast_mul, -Int.natCast_emod, -Int.natCast_ediv, -Int.natCast_pow, nn_add, nn_addl, nn_ladd, nn_mul, nn_mull, nn_lmul, nn_mod, nn_modl, nn_tmod, nn_tmodl, nn_tdiv, nn_tdivl, nn_div, nn_divl, nn_shr, nn_sub1, nn_lel, nn_lle, nn_ltl, nn_llt, nn_eql, nn_leq, nn_eq, nn_neg, nn_pos, hc]
      · rw [if_neg (fun h => hc h.2.2)]
        refine callsF_of (T := tb) tab_ok mixed Tryz.func78 rfl (by decide) (Nat.le_of_ble_eq_true rfl) rfl ?_; unfold St.init
        simp (config := { maxSteps := 2000000 }) -implicitDefEqProofs [-List.map_set, set_u16, -Int.natCast_add, -Int.natCast_mul, -Int.natCast_emod, -Int.natCast_ediv, -Int.natCast_pow, nn_add, nn_addl, nn_ladd, nn_mul, nn_mull, nn_lmul, nn_mod, nn_modl, nn_tmod, nn_tmodl, nn_tdiv, nn_tdivl, nn_div, nn_divl, nn_shr, nn_sub1, nn_lel, nn_lle, nn_ltl, nn_llt, nn_eql, nn_leq, nn_eq, nn_neg, nn_pos]
        (first | refine .inl ⟨_, k1, ?_⟩ | refine ⟨_, k1, ?_⟩)
        simp (config := { maxSteps := 2000000 }) -implicitDefEqProofs [-List.map_set, set_u16, -Int.natCast_add, -Int.natCast_mul, -Int.natCast_emod, -Int.natCast_ediv, -Int.natCast_pow, nn_add, nn_addl, nn_ladd, nn_mul, nn_mull, nn_lmul, nn_mod, nn_modl, nn_tmod, nn_tmodl, nn_tdiv, nn_tdivl, nn_div, nn_divl, nn_shr, nn_sub1, nn_lel, nn_lle, nn_ltl, nn_llt, nn_eql, nn_leq, nn_eq, nn_neg, nn_pos, sgnI_zero, m0]
        refine wpDraw_by [[], [], [0, 1], [0, 1, 2], [0, 1, 2, 3], [0, 1, 2, 3], [], [0, 1, 2, 3, 4, 6], [0, 1, 2, 3, 4, 5, 6, 7]] [.any [] [5] [⟨0, [], [5], [5], []⟩, ⟨0, [2], [5], [5], []⟩, ⟨0, [16, 17], [5], [5], []⟩, ⟨0, [18], [5], [5], []⟩, ⟨0, [15], [5], [5], []⟩, ⟨0, [15], [5], [5], []⟩, ⟨1, [], [], [], []⟩, ⟨2, [5, 19], [], [], [5]⟩], .one] (by rfl) ?_
        simp (config := { maxSteps := 2000000 }) -implicitDefEqProofs [-List.map_set, set_u16, -Int.natCast_add, -Int.natCast_mul, -Int.natCast_emod, -Int.natCast_ediv, -Int.natCast_pow, nn_add, nn_addl, nn_ladd, nn_mul, nn_mull, nn_lmul, nn_mod, nn_modl, nn_tmod, nn_tmodl, nn_tdiv, nn_tdivl, nn_div, nn_divl, nn_shr, nn_sub1, nn_lel, nn_lle, nn_ltl, nn_llt, nn_eql, nn_leq, nn_eq, nn_neg, nn_pos]
        (first | refine .inl ⟨_, k2, ?_⟩ | refine ⟨_, k2, ?_⟩)
        simp (config := { maxSteps := 2000000 }) -implicitDefEqProofs [-List.map_set, set_u16, -Int.natCast_add, -Int.natCast_mul, -Int.natCast_emod, -Int.natCast_ediv, -Int.natCast_pow, nn_add, nn_addl, nn_ladd, nn_mul, nn_mull, nn_lmul, nn_mod, nn_modl, nn_tmod, nn_tmodl, nn_tdiv, nn_tdivl, nn_div, nn_divl, nn_shr, nn_sub1, nn_lel, nn_lle, nn_ltl, nn_llt, nn_eql, nn_leq, nn_eq, nn_neg, nn_pos]
        (first | refine .inl ⟨_, k3, ?_⟩ | refine ⟨_, k3, ?_⟩)
        simp (config := { maxSteps := 2000000 }) -implicitDefEqProofs [-List.map_set, set_u16, -Int.natCast_add, -Int.natCast_mul, -Int.natCast_emod, -Int.natCast_ediv, -Int.natCast_pow, nn_add, nn_addl, nn_ladd, nn_mul, nn_mull, nn_lmul, nn_mod, nn_modl, nn_tmod, nn_tmodl, nn_tdiv, nn_tdivl, nn_div, nn_divl, nn_shr, nn_sub1, nn_lel, nn_lle, nn_ltl, nn_llt, nn_eql, nn_leq, nn_eq, nn_neg, nn_pos]
        (first | refine .inl ⟨_, k4, ?_⟩ | refine ⟨_, k4, ?_⟩)
        simp (config := { maxSteps := 2000000 }) -implicitDefEqProofs [-List.map_set, set_u16, -Int.natCast_add, -Int.natCast_mul, -Int.natCast_emod, -Int.natCast_ediv, -Int.natCast_pow, nn_add, nn_addl, nn_ladd, nn_mul, nn_mull, nn_lmul, nn_mod, nn_modl, nn_tmod, nn_tmodl, nn_tdiv, nn_tdivl, nn_div, nn_divl, nn_shr, nn_sub1, nn_lel, nn_lle, nn_ltl, nn_llt, nn_eql, nn_leq, nn_eq, nn_neg, nn_pos, hc]

end Go.Va

/-
  Contracts: the document's facts: normal forms.
-/
namespace Go.Va
open Go.Proofs
set_option maxHeartbeats 4000000
set_option maxRecDepth 10000
set_option linter.unusedSimpArgs false
set_option linter.unusedVariables false

theorem pairsK_c (k : Int) (l : List Int) (neg : Bool) (abs den : List Nat) (a b c d : Int) (hk : k = 3 ∨ k = 4) : CallsF Tryz.prog 34 [.agg [.int .i64 k, intsD l, .bool neg, natD abs, natD den], .agg [.int .i64 a, .int .i64 b], .agg [.int .i64 c, .int .i64 d]] (normPairF k (a, b) (c, d)).res := by
  have k1 := below_c c d a b
  have k2 := args2_c c d a b
  have k3 := args2_c a b c d
  have h2 : ¬ k = 2 := by omega
  have h9 : ¬ k = 9 := by omega
  unfold normPairF
  simp only
  refine callsF_of (T := tb) tab_ok mixed Tryz.func34 rfl (by decide) (Nat.le_of_ble_eq_true rfl) rfl ?_; unfold St.init
  by_cases h : cmpP (c, d) (a, b) < 0
  · simp (config := { maxSteps := 2000000 }) -implicitDefEqProofs [-List.map_set, set_u16, -Int.natCast_add, -Int.natCast_mul, -Int.natCast_emod, -Int.natCast_ediv, -Int.natCast_pow, nn_add, nn_addl, nn_ladd, nn_mul, nn_mull, nn_lmul, nn_mod, nn_modl, nn_tmod, nn_tmodl, nn_tdiv, nn_tdivl, nn_div, nn_divl, nn_shr, nn_sub1, nn_lel, nn_lle, nn_ltl, nn_llt, nn_eql, nn_leq, nn_eq, nn_neg, nn_pos, h2, h9]
    (first | refine .inl ⟨_, k1, ?_⟩ | refine ⟨_, k1, ?_⟩)
    simp (config := { maxSteps := 2000000 }) -implicitDefEqProofs [-List.map_set, set_u16, -Int.natCast_add, -Int.natCast_mul, -Int.natCast_emod, -Int.natCast_ediv, -Int.natCast_pow, nn_add, nn_addl, nn_ladd, nn_mul, nn_mull, nn_lmul, nn_mod, nn_modl, nn_tmod, nn_tmodl, nn_tdiv, nn_tdivl, nn_div, nn_divl, nn_shr, nn_sub1, nn_lel, nn_lle, nn_ltl, nn_llt, nn_eql, nn_leq, nn_eq, nn_neg, nn_pos, h]
    refine wpDraw_by [[], [0], [], [], [2, 3], [2, 3, 4], [0, 1, 2, 3, 4, 5], [0, 1, 2, 3, 4, 5, 6]] [.any [] [94] [⟨0, [3], [], [94], []⟩, ⟨0, [90], [], [94], []⟩, ⟨0, [5], [], [94], []⟩, ⟨0, [4], [], [94], []⟩, ⟨4, [92, 93], [], [], []⟩, ⟨0, [94], [], [], []⟩], .one, .one] (by rfl) ?_
    simp (config := { maxSteps := 2000000 }) -implicitDefEqProofs [-List.map_set, set_u16, -Int.natCast_add, -Int.natCast_mul, -Int.natCast_emod, -Int.natCast_ediv, -Int.natCast_pow, nn_add, nn_addl, nn_ladd, nn_mul, nn_mull, nn_lmul, nn_mod, nn_modl, nn_tmod, nn_tmodl, nn_tdiv, nn_tdivl, nn_div, nn_divl, nn_shr, nn_sub1, nn_lel, nn_lle, nn_ltl, nn_llt, nn_eql, nn_leq, nn_eq, nn_neg, nn_pos]
    (first | refine .inl ⟨_, k2, ?_⟩ | refine ⟨_, k2, ?_⟩)
    simp (config := { maxSteps := 2000000 }) -implicitDefEqProofs [-List.map_set, set_u16, -Int.natCast_add, -Int.natCast_mul, -Int.natCast_emod, -Int.natCast_ediv, -Int.natCast_pow, nn_add, nn_addl, nn_ladd, nn_mul, nn_mull, nn_lmul, nn_mod, nn_modl, nn_tmod, nn_tmodl, nn_tdiv, nn_tdivl, nn_div, nn_divl, nn_shr, nn_sub1, nn_lel, nn_lle, nn_ltl, nn_llt, nn_eql, nn_leq, nn_eq, nn_neg, nn_pos, Fct.res]
  · simp (config := { maxSteps := 2000000 }) -implicitDefEqProofs [-List.map_set, set_u16, -Int.natCast_add, -Int.natCast_mul, -Int.natCast_emod, -Int.natCast_ediv, -Int.natCast_pow, nn_add, nn_addl, nn_ladd, nn_mul, nn_mull, nn_lmul, nn_mod, nn_modl, nn_tmod, nn_tmodl, nn_tdiv, nn_tdivl, nn_div, nn_divl, nn_shr, nn_sub1, nn_lel, nn_lle, nn_ltl, nn_llt, nn_eql, nn_leq, nn_eq, nn_neg, nn_pos, h2, h9]
    (first | refine .inl ⟨_, k1, ?_⟩ | refine ⟨_, k1, ?_⟩)
    simp (config := { maxSteps := 2000000 }) -implicitDefEqProofs [-List.map_set, set_u16, -Int.natCast_add, -Int.natCast_mul, -Int.natCast_emod, -Int.natCast_ediv, -Int.natCast_pow, nn_add, nn_addl, nn_ladd, nn_mul, nn_mull, nn_lmul, nn_mod, nn_modl, nn_tmod, nn_tmodl, nn_tdiv, nn_tdivl, nn_div, nn_divl, nn_shr, nn_sub1, nn_lel, nn_lle, nn_ltl, nn_llt, nn_eql, nn_leq, nn_eq, nn_neg, nn_pos, h]
    refine wpDraw_by [[], [0], [], [], [2, 3], [2, 3, 4], [0, 1, 2, 3, 4, 5], [0, 1, 2, 3, 4, 5, 6]] [.any [] [101] [⟨0, [3], [], [101], []⟩, ⟨0, [97], [], [101], []⟩, ⟨0, [4], [], [101], []⟩, ⟨0, [5], [], [101], []⟩, ⟨4, [99, 100], [], [], []⟩, ⟨0, [101], [], [], []⟩], .one, .one] (by rfl) ?_
    simp (config := { maxSteps := 2000000 }) -implicitDefEqProofs [-List.map_set, set_u16, -Int.natCast_add, -Int.natCast_mul, -Int.natCast_emod, -Int.natCast_ediv, -Int.natCast_pow, nn_add, nn_addl, nn_ladd, nn_mul, nn_mull, nn_lmul, nn_mod, nn_modl, nn_tmod, nn_tmodl, nn_tdiv, nn_tdivl, nn_div, nn_divl, nn_shr, nn_sub1, nn_lel, nn_lle, nn_ltl, nn_llt, nn_eql, nn_leq, nn_eq, nn_neg, nn_pos]
    (first | refine .inl ⟨_, k3, ?_⟩ | refine ⟨_, k3, ?_⟩)
    simp (config := { maxSteps := 2000000 }) -implicitDefEqProofs [-List.map_set, set_u16, -Int.natCast_add, -Int.natCast_mul, -Int.natCast_emod, -Int.natCast_ediv, -Int.natCast_pow, nn_add, nn_addl, nn_ladd, nn_mul, nn_mull, nn_lmul, nn_mod, nn_modl, nn_tmod, nn_tmodl, nn_tdiv, nn_tdivl, nn_div, nn_divl, nn_shr, nn_sub1, nn_lel, nn_lle, nn_ltl, nn_llt, nn_eql, nn_leq, nn_eq, nn_neg, nn_pos, Fct.res]

theorem pairs2_c (l : List Int) (neg : Bool) (abs den : List Nat) (a b c d : Int) (ha : 0 ≤ a ∧ a < 40) (hb : 0 ≤ b ∧ b < 40) (hc : 0 ≤ c ∧ c < 40) (hd : 0 ≤ d ∧ d < 40) :
    CallsF Tryz.prog 34 [.agg [.int .i64 2, intsD l, .bool neg, natD abs, natD den], .agg [.int .i64 a, .int .i64 b], .agg [.int .i64 c, .int .i64 d]] (normParF (a, b) (c, d)).res := by
  have k0 := common_c a b c d
  have k1 := below_c c d a b
  have k2 := args2_c c d a b
  have k3 := args2_c a b c d
  have srt := fun x y z => refSorted_c [x, y, z] (by simp)
  unfold normParF
  unfold comF at k0
  simp only at k0 ⊢
  by_cases h1 : c = a ∨ d = a
  · have h1' : a = c ∨ a = d := by omega
    rw [if_pos h1]
    rw [if_pos h1'] at k0
    have s : CallsF Tryz.prog 31 [.c (.slice 3 [.int .i64 a, .int .i64 (a + b - a), .int .i64 (c + d - a)])] _ := srt a (a + b - a) (c + d - a)
    refine callsF_of (T := tb) tab_ok mixed Tryz.func34 rfl (by decide) (Nat.le_of_ble_eq_true rfl) rfl ?_; unfold St.init
    simp (config := { maxSteps := 2000000 }) -implicitDefEqProofs [-List.map_set, set_u16, -Int.natCast_add, -Int.natCast_mul, -Int.natCast_emod, -Int.natCast_ediv, -Int.natCast_pow, nn_add, nn_addl, nn_ladd, nn_mul, nn_mull, nn_lmul, nn_mod, nn_modl, nn_tmod, nn_tmodl, nn_tdiv, nn_tdivl, nn_div, nn_divl, nn_shr, nn_sub1, nn_lel, nn_lle, nn_ltl, nn_llt, nn_eql, nn_leq, nn_eq, nn_neg, nn_pos]
    (first | refine .inl ⟨_, k0, ?_⟩ | refine ⟨_, k0, ?_⟩)
    simp (config := { maxSteps := 2000000 }) -implicitDefEqProofs [-List.map_set, set_u16, -Int.natCast_add, -Int.natCast_mul, -Int.natCast_emod, -Int.natCast_ediv, -Int.natCast_pow, nn_add, nn_addl, nn_ladd, nn_mul, nn_mull, nn_lmul, nn_mod, nn_modl, nn_tmod, nn_tmodl, nn_tdiv, nn_tdivl, nn_div, nn_divl, nn_shr, nn_sub1, nn_lel, nn_lle, nn_ltl, nn_llt, nn_eql, nn_leq, nn_eq, nn_neg, nn_pos]
    refine ⟨by omega, by omega, by omega, by omega, ?_⟩
    (first | refine .inl ⟨_, s, ?_⟩ | refine ⟨_, s, ?_⟩)
    simp (config := { maxSteps := 2000000 }) -implicitDefEqProofs [-List.map_set, set_u16, -Int.natCast_add, -Int.natCast_mul, -Int.natCast_emod, -Int.natCast_ediv, -Int.natCast_pow, nn_add, nn_addl, nn_ladd, nn_mul, nn_mull, nn_lmul, nn_mod, nn_modl, nn_tmod, nn_tmodl, nn_tdiv, nn_tdivl, nn_div, nn_divl, nn_shr, nn_sub1, nn_lel, nn_lle, nn_ltl, nn_llt, nn_eql, nn_leq, nn_eq, nn_neg, nn_pos, Fct.res, oth]
  · have h1' : ¬ (a = c ∨ a = d) := by omega
    rw [if_neg h1]
    rw [if_neg h1'] at k0
    by_cases h2 : c = b ∨ d = b
    · have h2' : b = c ∨ b = d := by omega
      rw [if_pos h2]
      rw [if_pos h2'] at k0
      have s : CallsF Tryz.prog 31 [.c (.slice 3 [.int .i64 b, .int .i64 a, .int .i64 (c + d - b)])] _ := srt b a (c + d - b)
      rw [oth_2]
      refine callsF_of (T := tb) tab_ok mixed Tryz.func34 rfl (by decide) (Nat.le_of_ble_eq_true rfl) rfl ?_; unfold St.init
      simp (config := { maxSteps := 2000000 }) -implicitDefEqProofs [-List.map_set, set_u16, -Int.natCast_add, -Int.natCast_mul, -Int.natCast_emod, -Int.natCast_ediv, -Int.natCast_pow, nn_add, nn_addl, nn_ladd, nn_mul, nn_mull, nn_lmul, nn_mod, nn_modl, nn_tmod, nn_tmodl, nn_tdiv, nn_tdivl, nn_div, nn_divl, nn_shr, nn_sub1, nn_lel, nn_lle, nn_ltl, nn_llt, nn_eql, nn_leq, nn_eq, nn_neg, nn_pos]
      (first | refine .inl ⟨_, k0, ?_⟩ | refine ⟨_, k0, ?_⟩)
      simp (config := { maxSteps := 2000000 }) -implicitDefEqProofs [-List.map_set, set_u16, -Int.natCast_add, -Int.natCast_mul, -Int.natCast_emod, -Int.natCast_ediv, -Int.natCast_pow, nn_add, nn_addl, nn_ladd, nn_mul, nn_mull, nn_lmul, nn_mod, nn_modl, nn_tmod, nn_tmodl, nn_tdiv, nn_tdivl, nn_div, nn_divl, nn_shr, nn_sub1, nn_lel, nn_lle, nn_ltl, nn_llt, nn_eql, nn_leq, nn_eq, nn_neg, nn_pos]
      refine ⟨by omega, by omega, by omega, by omega, ?_⟩
      (first | refine .inl ⟨_, s, ?_⟩ | refine ⟨_, s, ?_⟩)
      simp (config := { maxSteps := 2000000 }) -implicitDefEqProofs [-List.map_set, set_u16, -Int.natCast_add, -Int.natCast_mul, -Int.natCast_emod, -Int.natCast_ediv, -Int.natCast_pow, nn_add, nn_addl, nn_ladd, nn_mul, nn_mull, nn_lmul, nn_mod, nn_modl, nn_tmod, nn_tmodl, nn_tdiv, nn_tdivl, nn_div, nn_divl, nn_shr, nn_sub1, nn_lel, nn_lle, nn_ltl, nn_llt, nn_eql, nn_leq, nn_eq, nn_neg, nn_pos, Fct.res, oth]
    · have h2' : ¬ (b = c ∨ b = d) := by omega
      rw [if_neg h2]
      rw [if_neg h2'] at k0
      unfold normPairF
      refine callsF_of (T := tb) tab_ok mixed Tryz.func34 rfl (by decide) (Nat.le_of_ble_eq_true rfl) rfl ?_; unfold St.init
      by_cases h : cmpP (c, d) (a, b) < 0
      · simp (config := { maxSteps := 2000000 }) -implicitDefEqProofs [-List.map_set, set_u16, -Int.natCast_add, -Int.natCast_mul, -Int.natCast_emod, -Int.natCast_ediv, -Int.natCast_pow, nn_add, nn_addl, nn_ladd, nn_mul, nn_mull, nn_lmul, nn_mod, nn_modl, nn_tmod, nn_tmodl, nn_tdiv, nn_tdivl, nn_div, nn_divl, nn_shr, nn_sub1, nn_lel, nn_lle, nn_ltl, nn_llt, nn_eql, nn_leq, nn_eq, nn_neg, nn_pos]
        (first | refine .inl ⟨_, k0, ?_⟩ | refine ⟨_, k0, ?_⟩)
        simp (config := { maxSteps := 2000000 }) -implicitDefEqProofs [-List.map_set, set_u16, -Int.natCast_add, -Int.natCast_mul, -Int.natCast_emod, -Int.natCast_ediv, -Int.natCast_pow, nn_add, nn_addl, nn_ladd, nn_mul, nn_mull, nn_lmul, nn_mod, nn_modl, nn_tmod, nn_tmodl, nn_tdiv, nn_tdivl, nn_div, nn_divl, nn_shr, nn_sub1, nn_lel, nn_lle, nn_ltl, nn_llt, nn_eql, nn_leq, nn_eq, nn_neg, nn_pos]
        (first | refine .inl ⟨_, k1, ?_⟩ | refine ⟨_, k1, ?_⟩)
        simp (config := { maxSteps := 2000000 }) -implicitDefEqProofs [-List.map_set, set_u16, -Int.natCast_add, -Int.natCast_mul, -Int.natCast_emod, -Int.natCast_ediv, -Int.natCast_pow, nn_add, nn_addl, nn_ladd, nn_mul, nn_mull, nn_lmul, nn_mod, nn_modl, nn_tmod, nn_tmodl, nn_tdiv, nn_tdivl, nn_div, nn_divl, nn_shr, nn_sub1, nn_lel, nn_lle, nn_ltl, nn_llt, nn_eql, nn_leq, nn_eq, nn_neg, nn_pos, h]
        refine wpDraw_by [[], [0], [], [], [2, 3], [2, 3, 4], [0, 1, 2, 3, 4, 5], [0, 1, 2, 3, 4, 5, 6]] [.any [] [94] [⟨0, [3], [], [94], []⟩, ⟨0, [90], [], [94], []⟩, ⟨0, [5], [], [94], []⟩, ⟨0, [4], [], [94], []⟩, ⟨4, [92, 93], [], [], []⟩, ⟨0, [94], [], [], []⟩], .one, .one] (by rfl) ?_
        simp (config := { maxSteps := 2000000 }) -implicitDefEqProofs [-List.map_set, set_u16, -Int.natCast_add, -Int.natCast_mul, -Int.natCast_emod, -Int.natCast_ediv, -Int.natCast_pow, nn_add, nn_addl, nn_ladd, nn_mul, nn_mull, nn_lmul, nn_mod, nn_modl, nn_tmod, nn_tmodl, nn_tdiv, nn_tdivl, nn_div, nn_divl, nn_shr, nn_sub1, nn_lel, nn_lle, nn_ltl, nn_llt, nn_eql, nn_leq, nn_eq, nn_neg, nn_pos]
        (first | refine .inl ⟨_, k2, ?_⟩ | refine ⟨_, k2, ?_⟩)
        simp (config := { maxSteps := 2000000 }) -implicitDefEqProofs [-List.map_set, set_u16, -Int.natCast_add, -Int.natCast_mul, -Int.natCast_emod, -Int.natCast_ediv, -Int.natCast_pow, nn_add, nn_addl, nn_ladd, nn_mul, nn_mull, nn_lmul, nn_mod, nn_modl, nn_tmod, nn_tmodl, nn_tdiv, nn_tdivl, nn_div, nn_divl, nn_shr, nn_sub1, nn_lel, nn_lle, nn_ltl, nn_llt, nn_eql, nn_leq, nn_eq, nn_neg, nn_pos, Fct.res]
      · simp (config := { maxSteps := 2000000 }) -implicitDefEqProofs [-List.map_set, set_u16, -Int.natCast_add, -Int.natCast_mul, -Int.natCast_emod, -Int.natCast_ediv, -Int.natCast_pow, nn_add, nn_addl, nn_ladd, nn_mul, nn_mull, nn_lmul, nn_mod, nn_modl, nn_tmod, nn_tmodl, nn_tdiv, nn_tdivl, nn_div, nn_divl, nn_shr, nn_sub1, nn_lel, nn_lle, nn_ltl, nn_llt, nn_eql, nn_leq, nn_eq, nn_neg, nn_pos]
        (first | refine .inl ⟨_, k0, ?_⟩ | refine ⟨_, k0, ?_⟩)
        simp (config := { maxSteps := 2000000 }) -implicitDefEqProofs [-List.map_set, set_u16, -Int.natCast_add, -Int.natCast_mul, -Int.natCast_emod, -Int.natCast_ediv, -Int.natCast_pow, nn_add, nn_addl, nn_ladd, nn_mul, nn_mull, nn_lmul, nn_mod, nn_modl, nn_tmod, nn_tmodl, nn_tdiv, nn_tdivl, nn_div, nn_divl, nn_shr, nn_sub1, nn_lel, nn_lle, nn_ltl, nn_llt, nn_eql, nn_leq, nn_eq, nn_neg, nn_pos]
        (first | refine .inl ⟨_, k1, ?_⟩ | refine ⟨_, k1, ?_⟩)
        simp (config := { maxSteps := 2000000 }) -implicitDefEqProofs [-List.map_set, set_u16, -Int.natCast_add, -Int.natCast_mul, -Int.natCast_emod, -Int.natCast_ediv, -Int.natCast_pow, nn_add, nn_addl, nn_ladd, nn_mul, nn_mull, nn_lmul, nn_mod, nn_modl, nn_tmod, nn_tmodl, nn_tdiv, nn_tdivl, nn_div, nn_divl, nn_shr, nn_sub1, nn_lel, nn_lle, nn_ltl, nn_llt, nn_eql, nn_leq, nn_eq, nn_neg, nn_pos, h]
        refine wpDraw_by [[], [0], [], [], [2, 3], [2, 3, 4], [0, 1, 2, 3, 4, 5], [0, 1, 2, 3, 4, 5, 6]] [.any [] [101] [⟨0, [3], [], [101], []⟩, ⟨0, [97], [], [101], []⟩, ⟨0, [4], [], [101], []⟩, ⟨0, [5], [], [101], []⟩, ⟨4, [99, 100], [], [], []⟩, ⟨0, [101], [], [], []⟩], .one, .one] (by rfl) ?_
        simp (config := { maxSteps := 2000000 }) -implicitDefEqProofs [-List.map_set, set_u16, -Int.natCast_add, -Int.natCast_mul, -Int.natCast_emod, -Int.natCast_ediv, -Int.natCast_pow, nn_add, nn_addl, nn_ladd, nn_mul, nn_mull, nn_lmul, nn_mod, nn_modl, nn_tmod, nn_tmodl, nn_tdiv, nn_tdivl, nn_div, nn_divl, nn_shr, nn_sub1, nn_lel, nn_lle, nn_ltl, nn_llt, nn_eql, nn_leq, nn_eq, nn_neg, nn_pos]
        (first | refine .inl ⟨_, k3, ?_⟩ | refine ⟨_, k3, ?_⟩)
        simp (config := { maxSteps := 2000000 }) -implicitDefEqProofs [-List.map_set, set_u16, -Int.natCast_add, -Int.natCast_mul, -Int.natCast_emod, -Int.natCast_ediv, -Int.natCast_pow, nn_add, nn_addl, nn_ladd, nn_mul, nn_mull, nn_lmul, nn_mod, nn_modl, nn_tmod, nn_tmodl, nn_tdiv, nn_tdivl, nn_div, nn_divl, nn_shr, nn_sub1, nn_lel, nn_lle, nn_ltl, nn_llt, nn_eql, nn_leq, nn_eq, nn_neg, nn_pos, Fct.res]

theorem refIsOne_c (neg : Bool) (m e : Nat) (hm : m < 4294967296) (he : e < 4294967296) (e0 : e ≠ 0) (hg : Nat.gcd m e = 1) : CallsF Tryz.prog 42 [.agg [.bool neg, natD (limbs m), natD (limbs e)], .agg [.bool false, natD (limbs 1), natD (limbs 1)]] (.u (.c (.d (.bool (decide (toZ neg m = e)))))) := by
  have k := refRatEqual_c neg false m e 1 1 (by omega) (by omega) e0 hg (by omega) (by omega) (by omega) (by decide)
  have e1 : (toZ neg m * (1 : Nat) = toZ false 1 * (e : Int)) = (toZ neg m = e) := by simp [toZ]
  simpa only [e1] using k

theorem pairs9_c (l : List Int) (neg : Bool) (m e : Nat) (a b c d : Int) (hm : m < 4294967296) (he : e < 4294967296) (e0 : e ≠ 0) (hg : Nat.gcd m e = 1) :
    CallsF Tryz.prog 34 [.agg [.int .i64 9, intsD l, .bool neg, natD (limbs m), natD (limbs e)], .agg [.int .i64 a, .int .i64 b], .agg [.int .i64 c, .int .i64 d]] (normRatF neg m e (a, b) (c, d)).res := by
  have k1 := below_c c d a b
  have k2 := args2_c c d a b
  have k3 := args2_c a b c d
  have k4 := refIsOne_c neg m e hm he e0 hg
  have k5 := refRatOf_c 1 (by omega)
  have k6 := pairsK_c 4 [] false [] [] a b c d (.inr rfl)
  have k7 := refSign_c neg m e (by omega) (by omega) e0 hg
  have k8 := refRatDiv_c neg m e (by omega) (by omega) e0 hg
  have k9 := lesser_c neg m e hm he e0 hg (decide (a = c) && decide (b = d))
  unfold normRatF
  simp only [Prod.mk.injEq]
  clear hm he e0 hg
  refine callsF_of (T := tb) tab_ok mixed Tryz.func34 rfl (by decide) (Nat.le_of_ble_eq_true rfl) rfl ?_; unfold St.init
  by_cases h1 : toZ neg m = e
  · rw [if_pos h1]
    simp (config := { maxSteps := 2000000 }) -implicitDefEqProofs [-List.map_set, set_u16, -Int.natCast_add, -Int.natCast_mul, -Int.natCast_emod, -Int.natCast_ediv, -Int.natCast_pow, nn_add, nn_addl, nn_ladd, nn_mul, nn_mull, nn_lmul, nn_mod, nn_modl, nn_tmod, nn_tmodl, nn_tdiv, nn_tdivl, nn_div, nn_divl, nn_shr, nn_sub1, nn_lel, nn_lle, nn_ltl, nn_llt, nn_eql, nn_leq, nn_eq, nn_neg, nn_pos]
    refine wpDraw_by [[], [0], [], [0, 1, 2]] [.any [] [] [⟨0, [3], [], [], []⟩, ⟨0, [42], [], [], []⟩, ⟨0, [], [], [], []⟩], .one] (by rfl) ?_
    simp (config := { maxSteps := 2000000 }) -implicitDefEqProofs [-List.map_set, set_u16, -Int.natCast_add, -Int.natCast_mul, -Int.natCast_emod, -Int.natCast_ediv, -Int.natCast_pow, nn_add, nn_addl, nn_ladd, nn_mul, nn_mull, nn_lmul, nn_mod, nn_modl, nn_tmod, nn_tmodl, nn_tdiv, nn_tdivl, nn_div, nn_divl, nn_shr, nn_sub1, nn_lel, nn_lle, nn_ltl, nn_llt, nn_eql, nn_leq, nn_eq, nn_neg, nn_pos]
    (first | refine .inl ⟨_, k5, ?_⟩ | refine ⟨_, k5, ?_⟩)
    simp (config := { maxSteps := 2000000 }) -implicitDefEqProofs [-List.map_set, set_u16, -Int.natCast_add, -Int.natCast_mul, -Int.natCast_emod, -Int.natCast_ediv, -Int.natCast_pow, nn_add, nn_addl, nn_ladd, nn_mul, nn_mull, nn_lmul, nn_mod, nn_modl, nn_tmod, nn_tmodl, nn_tdiv, nn_tdivl, nn_div, nn_divl, nn_shr, nn_sub1, nn_lel, nn_lle, nn_ltl, nn_llt, nn_eql, nn_leq, nn_eq, nn_neg, nn_pos]
    (first | refine .inl ⟨_, k4, ?_⟩ | refine ⟨_, k4, ?_⟩)
    simp (config := { maxSteps := 2000000 }) -implicitDefEqProofs [-List.map_set, set_u16, -Int.natCast_add, -Int.natCast_mul, -Int.natCast_emod, -Int.natCast_ediv, -Int.natCast_pow, nn_add, nn_addl, nn_ladd, nn_mul, nn_mull, nn_lmul, nn_mod, nn_modl, nn_tmod, nn_tmodl, nn_tdiv, nn_tdivl, nn_div, nn_divl, nn_shr, nn_sub1, nn_lel, nn_lle, nn_ltl, nn_llt, nn_eql, nn_leq, nn_eq, nn_neg, nn_pos, h1]
    (first | refine .inl ⟨_, k6, ?_⟩ | refine ⟨_, k6, ?_⟩)
    simp (config := { maxSteps := 2000000 }) -implicitDefEqProofs [-List.map_set, set_u16, -Int.natCast_add, -Int.natCast_mul, -Int.natCast_emod, -Int.natCast_ediv, -Int.natCast_pow, nn_add, nn_addl, nn_ladd, nn_mul, nn_mull, nn_lmul, nn_mod, nn_modl, nn_tmod, nn_tmodl, nn_tdiv, nn_tdivl, nn_div, nn_divl, nn_shr, nn_sub1, nn_lel, nn_lle, nn_ltl, nn_llt, nn_eql, nn_leq, nn_eq, nn_neg, nn_pos, Fct.res]
  · rw [if_neg h1]
    by_cases h2 : cmpP (c, d) (a, b) < 0
    · by_cases m0 : m = 0
      · subst m0
        rw [if_neg (by simp)] at k9
        simp (config := { maxSteps := 2000000 }) -implicitDefEqProofs [-List.map_set, set_u16, -Int.natCast_add, -Int.natCast_mul, -Int.natCast_emod, -Int.natCast_ediv, -Int.natCast_pow, nn_add, nn_addl, nn_ladd, nn_mul, nn_mull, nn_lmul, nn_mod, nn_modl, nn_tmod, nn_tmodl, nn_tdiv, nn_tdivl, nn_div, nn_divl, nn_shr, nn_sub1, nn_lel, nn_lle, nn_ltl, nn_llt, nn_eql, nn_leq, nn_eq, nn_neg, nn_pos]
        refine wpDraw_by [[], [0], [], [0, 1, 2]] [.any [] [] [⟨0, [3], [], [], []⟩, ⟨0, [42], [], [], []⟩, ⟨0, [], [], [], []⟩], .one] (by rfl) ?_
        simp (config := { maxSteps := 2000000 }) -implicitDefEqProofs [-List.map_set, set_u16, -Int.natCast_add, -Int.natCast_mul, -Int.natCast_emod, -Int.natCast_ediv, -Int.natCast_pow, nn_add, nn_addl, nn_ladd, nn_mul, nn_mull, nn_lmul, nn_mod, nn_modl, nn_tmod, nn_tmodl, nn_tdiv, nn_tdivl, nn_div, nn_divl, nn_shr, nn_sub1, nn_lel, nn_lle, nn_ltl, nn_llt, nn_eql, nn_leq, nn_eq, nn_neg, nn_pos]
        (first | refine .inl ⟨_, k5, ?_⟩ | refine ⟨_, k5, ?_⟩)
        simp (config := { maxSteps := 2000000 }) -implicitDefEqProofs [-List.map_set, set_u16, -Int.natCast_add, -Int.natCast_mul, -Int.natCast_emod, -Int.natCast_ediv, -Int.natCast_pow, nn_add, nn_addl, nn_ladd, nn_mul, nn_mull, nn_lmul, nn_mod, nn_modl, nn_tmod, nn_tmodl, nn_tdiv, nn_tdivl, nn_div, nn_divl, nn_shr, nn_sub1, nn_lel, nn_lle, nn_ltl, nn_llt, nn_eql, nn_leq, nn_eq, nn_neg, nn_pos]
        (first | refine .inl ⟨_, k4, ?_⟩ | refine ⟨_, k4, ?_⟩)
        simp (config := { maxSteps := 2000000 }) -implicitDefEqProofs [-List.map_set, set_u16, -Int.natCast_add, -Int.natCast_mul, -Int.natCast_emod, -Int.natCast_ediv, -Int.natCast_pow, nn_add, nn_addl, nn_ladd, nn_mul, nn_mull, nn_lmul, nn_mod, nn_modl, nn_tmod, nn_tmodl, nn_tdiv, nn_tdivl, nn_div, nn_divl, nn_shr, nn_sub1, nn_lel, nn_lle, nn_ltl, nn_llt, nn_eql, nn_leq, nn_eq, nn_neg, nn_pos, h1]
        (first | refine .inl ⟨_, k1, ?_⟩ | refine ⟨_, k1, ?_⟩)
        simp (config := { maxSteps := 2000000 }) -implicitDefEqProofs [-List.map_set, set_u16, -Int.natCast_add, -Int.natCast_mul, -Int.natCast_emod, -Int.natCast_ediv, -Int.natCast_pow, nn_add, nn_addl, nn_ladd, nn_mul, nn_mull, nn_lmul, nn_mod, nn_modl, nn_tmod, nn_tmodl, nn_tdiv, nn_tdivl, nn_div, nn_divl, nn_shr, nn_sub1, nn_lel, nn_lle, nn_ltl, nn_llt, nn_eql, nn_leq, nn_eq, nn_neg, nn_pos, h2]
        (first | refine .inl ⟨_, k7, ?_⟩ | refine ⟨_, k7, ?_⟩)
        simp (config := { maxSteps := 2000000 }) -implicitDefEqProofs [-List.map_set, set_u16, -Int.natCast_add, -Int.natCast_mul, -Int.natCast_emod, -Int.natCast_ediv, -Int.natCast_pow, nn_add, nn_addl, nn_ladd, nn_mul, nn_mull, nn_lmul, nn_mod, nn_modl, nn_tmod, nn_tmodl, nn_tdiv, nn_tdivl, nn_div, nn_divl, nn_shr, nn_sub1, nn_lel, nn_lle, nn_ltl, nn_llt, nn_eql, nn_leq, nn_eq, nn_neg, nn_pos, sgnI_zero]
        refine wpDraw_by [[], [0], [], [], [2, 3], [2, 3, 4], [], [6], [], [], [8, 9], [2, 3, 4, 5, 6, 7, 8, 9, 10], [0, 1, 2, 3, 4, 5, 6, 7, 8, 9, 10, 11], [0, 1, 2, 3, 4, 5, 6, 7, 8, 9, 10, 11, 12]] [.any [] [78] [⟨0, [3], [], [78], []⟩, ⟨0, [74], [], [78], []⟩, ⟨0, [4], [], [78], []⟩, ⟨0, [5], [], [78], []⟩, ⟨4, [76, 77], [], [], []⟩, ⟨0, [78], [], [], []⟩, ⟨0, [3], [], [78], []⟩, ⟨0, [80], [], [78], []⟩, ⟨0, [4], [], [78], []⟩, ⟨0, [5], [], [78], []⟩, ⟨0, [82, 83], [], [78], []⟩, ⟨0, [81, 84], [], [], []⟩], .one, .one] (by rfl) ?_
        simp (config := { maxSteps := 2000000 }) -implicitDefEqProofs [-List.map_set, set_u16, -Int.natCast_add, -Int.natCast_mul, -Int.natCast_emod, -Int.natCast_ediv, -Int.natCast_pow, nn_add, nn_addl, nn_ladd, nn_mul, nn_mull, nn_lmul, nn_mod, nn_modl, nn_tmod, nn_tmodl, nn_tdiv, nn_tdivl, nn_div, nn_divl, nn_shr, nn_sub1, nn_lel, nn_lle, nn_ltl, nn_llt, nn_eql, nn_leq, nn_eq, nn_neg, nn_pos]
        (first | refine .inl ⟨_, k3, ?_⟩ | refine ⟨_, k3, ?_⟩)
        simp (config := { maxSteps := 2000000 }) -implicitDefEqProofs [-List.map_set, set_u16, -Int.natCast_add, -Int.natCast_mul, -Int.natCast_emod, -Int.natCast_ediv, -Int.natCast_pow, nn_add, nn_addl, nn_ladd, nn_mul, nn_mull, nn_lmul, nn_mod, nn_modl, nn_tmod, nn_tmodl, nn_tdiv, nn_tdivl, nn_div, nn_divl, nn_shr, nn_sub1, nn_lel, nn_lle, nn_ltl, nn_llt, nn_eql, nn_leq, nn_eq, nn_neg, nn_pos]
        (first | refine .inl ⟨_, k9, ?_⟩ | refine ⟨_, k9, ?_⟩)
        simp (config := { maxSteps := 2000000 }) -implicitDefEqProofs [-List.map_set, set_u16, -Int.natCast_add, -Int.natCast_mul, -Int.natCast_emod, -Int.natCast_ediv, -Int.natCast_pow, nn_add, nn_addl, nn_ladd, nn_mul, nn_mull, nn_lmul, nn_mod, nn_modl, nn_tmod, nn_tmodl, nn_tdiv, nn_tdivl, nn_div, nn_divl, nn_shr, nn_sub1, nn_lel, nn_lle, nn_ltl, nn_llt, nn_eql, nn_leq, nn_eq, nn_neg, nn_pos, Fct.res]
      · rw [if_neg m0] at k8
        simp (config := { maxSteps := 2000000 }) -implicitDefEqProofs [-List.map_set, set_u16, -Int.natCast_add, -Int.natCast_mul, -Int.natCast_emod, -Int.natCast_ediv, -Int.natCast_pow, nn_add, nn_addl, nn_ladd, nn_mul, nn_mull, nn_lmul, nn_mod, nn_modl, nn_tmod, nn_tmodl, nn_tdiv, nn_tdivl, nn_div, nn_divl, nn_shr, nn_sub1, nn_lel, nn_lle, nn_ltl, nn_llt, nn_eql, nn_leq, nn_eq, nn_neg, nn_pos]
        refine wpDraw_by [[], [0], [], [0, 1, 2]] [.any [] [] [⟨0, [3], [], [], []⟩, ⟨0, [42], [], [], []⟩, ⟨0, [], [], [], []⟩], .one] (by rfl) ?_
        simp (config := { maxSteps := 2000000 }) -implicitDefEqProofs [-List.map_set, set_u16, -Int.natCast_add, -Int.natCast_mul, -Int.natCast_emod, -Int.natCast_ediv, -Int.natCast_pow, nn_add, nn_addl, nn_ladd, nn_mul, nn_mull, nn_lmul, nn_mod, nn_modl, nn_tmod, nn_tmodl, nn_tdiv, nn_tdivl, nn_div, nn_divl, nn_shr, nn_sub1, nn_lel, nn_lle, nn_ltl, nn_llt, nn_eql, nn_leq, nn_eq, nn_neg, nn_pos]
        (first | refine .inl ⟨_, k5, ?_⟩ | refine ⟨_, k5, ?_⟩)
        simp (config := { maxSteps := 2000000 }) -implicitDefEqProofs [-List.map_set, set_u16, -Int.natCast_add, -Int.natCast_mul, -Int.natCast_emod, -Int.natCast_ediv, -Int.natCast_pow, nn_add, nn_addl, nn_ladd, nn_mul, nn_mull, nn_lmul, nn_mod, nn_modl, nn_tmod, nn_tmodl, nn_tdiv, nn_tdivl, nn_div, nn_divl, nn_shr, nn_sub1, nn_lel, nn_lle, nn_ltl, nn_llt, nn_eql, nn_leq, nn_eq, nn_neg, nn_pos]
        (first | refine .inl ⟨_, k4, ?_⟩ | refine ⟨_, k4, ?_⟩)
        simp (config := { maxSteps := 2000000 }) -implicitDefEqProofs [-List.map_set, set_u16, -Int.natCast_add, -Int.natCast_mul, -Int.natCast_emod, -Int.natCast_ediv, -Int.natCast_pow, nn_add, nn_addl, nn_ladd, nn_mul, nn_mull, nn_lmul, nn_mod, nn_modl, nn_tmod, nn_tmodl, nn_tdiv, nn_tdivl, nn_div, nn_divl, nn_shr, nn_sub1, nn_lel, nn_lle, nn_ltl, nn_llt, nn_eql, nn_leq, nn_eq, nn_neg, nn_pos, h1]
        (first | refine .inl ⟨_, k1, ?_⟩ | refine ⟨_, k1, ?_⟩)
        simp (config := { maxSteps := 2000000 }) -implicitDefEqProofs [-List.map_set, set_u16, -Int.natCast_add, -Int.natCast_mul, -Int.natCast_emod, -Int.natCast_ediv, -Int.natCast_pow, nn_add, nn_addl, nn_ladd, nn_mul, nn_mull, nn_lmul, nn_mod, nn_modl, nn_tmod, nn_tmodl, nn_tdiv, nn_tdivl, nn_div, nn_divl, nn_shr, nn_sub1, nn_lel, nn_lle, nn_ltl, nn_llt, nn_eql, nn_leq, nn_eq, nn_neg, nn_pos, h2]
        (first | refine .inl ⟨_, k7, ?_⟩ | refine ⟨_, k7, ?_⟩)
        simp (config := { maxSteps := 2000000 }) -implicitDefEqProofs [-List.map_set, set_u16, -Int.natCast_add, -Int.natCast_mul, -Int.natCast_emod, -Int.natCast_ediv, -Int.natCast_pow, nn_add, nn_addl, nn_ladd, nn_mul, nn_mull, nn_lmul, nn_mod, nn_modl, nn_tmod, nn_tmodl, nn_tdiv, nn_tdivl, nn_div, nn_divl, nn_shr, nn_sub1, nn_lel, nn_lle, nn_ltl, nn_llt, nn_eql, nn_leq, nn_eq, nn_neg, nn_pos, sgnI_zero, m0]
        refine wpDraw_by [[], [], [1], [0, 1, 2], [0, 1, 2, 3], [0, 1, 2, 3, 4], [0, 1, 2, 3, 4], [], [0, 1, 2, 3, 4, 5, 7], [0, 1, 2, 3, 4, 5, 6, 7, 8]] [.any [] [9] [⟨0, [], [9], [9], []⟩, ⟨0, [3], [9], [9], []⟩, ⟨0, [61], [9], [9], []⟩, ⟨0, [60, 62], [9], [9], []⟩, ⟨0, [63], [9], [9], []⟩, ⟨0, [59], [9], [9], []⟩, ⟨0, [59], [9], [9], []⟩, ⟨1, [], [], [], []⟩, ⟨2, [9, 64], [], [], [9]⟩], .one] (by rfl) ?_
        simp (config := { maxSteps := 2000000 }) -implicitDefEqProofs [-List.map_set, set_u16, -Int.natCast_add, -Int.natCast_mul, -Int.natCast_emod, -Int.natCast_ediv, -Int.natCast_pow, nn_add, nn_addl, nn_ladd, nn_mul, nn_mull, nn_lmul, nn_mod, nn_modl, nn_tmod, nn_tmodl, nn_tdiv, nn_tdivl, nn_div, nn_divl, nn_shr, nn_sub1, nn_lel, nn_lle, nn_ltl, nn_llt, nn_eql, nn_leq, nn_eq, nn_neg, nn_pos]
        (first | refine .inl ⟨_, k5, ?_⟩ | refine ⟨_, k5, ?_⟩)
        simp (config := { maxSteps := 2000000 }) -implicitDefEqProofs [-List.map_set, set_u16, -Int.natCast_add, -Int.natCast_mul, -Int.natCast_emod, -Int.natCast_ediv, -Int.natCast_pow, nn_add, nn_addl, nn_ladd, nn_mul, nn_mull, nn_lmul, nn_mod, nn_modl, nn_tmod, nn_tmodl, nn_tdiv, nn_tdivl, nn_div, nn_divl, nn_shr, nn_sub1, nn_lel, nn_lle, nn_ltl, nn_llt, nn_eql, nn_leq, nn_eq, nn_neg, nn_pos]
        (first | refine .inl ⟨_, k8, ?_⟩ | refine ⟨_, k8, ?_⟩)
        simp (config := { maxSteps := 2000000 }) -implicitDefEqProofs [-List.map_set, set_u16, -Int.natCast_add, -Int.natCast_mul, -Int.natCast_emod, -Int.natCast_ediv, -Int.natCast_pow, nn_add, nn_addl, nn_ladd, nn_mul, nn_mull, nn_lmul, nn_mod, nn_modl, nn_tmod, nn_tmodl, nn_tdiv, nn_tdivl, nn_div, nn_divl, nn_shr, nn_sub1, nn_lel, nn_lle, nn_ltl, nn_llt, nn_eql, nn_leq, nn_eq, nn_neg, nn_pos]
        refine wpDraw_by [[], [0], [], [], [2, 3], [2, 3, 4], [], [0, 1, 2, 3, 4, 5, 6], [0, 1, 2, 3, 4, 5, 6, 7]] [.any [] [70] [⟨0, [3], [], [70], []⟩, ⟨0, [66], [], [70], []⟩, ⟨0, [5], [], [70], []⟩, ⟨0, [4], [], [70], []⟩, ⟨4, [68, 69], [], [], []⟩, ⟨0, [70], [], [], []⟩, ⟨0, [9], [], [70], []⟩], .one, .one] (by rfl) ?_
        simp (config := { maxSteps := 2000000 }) -implicitDefEqProofs [-List.map_set, set_u16, -Int.natCast_add, -Int.natCast_mul, -Int.natCast_emod, -Int.natCast_ediv, -Int.natCast_pow, nn_add, nn_addl, nn_ladd, nn_mul, nn_mull, nn_lmul, nn_mod, nn_modl, nn_tmod, nn_tmodl, nn_tdiv, nn_tdivl, nn_div, nn_divl, nn_shr, nn_sub1, nn_lel, nn_lle, nn_ltl, nn_llt, nn_eql, nn_leq, nn_eq, nn_neg, nn_pos]
        (first | refine .inl ⟨_, k2, ?_⟩ | refine ⟨_, k2, ?_⟩)
        simp (config := { maxSteps := 2000000 }) -implicitDefEqProofs [-List.map_set, set_u16, -Int.natCast_add, -Int.natCast_mul, -Int.natCast_emod, -Int.natCast_ediv, -Int.natCast_pow, nn_add, nn_addl, nn_ladd, nn_mul, nn_mull, nn_lmul, nn_mod, nn_modl, nn_tmod, nn_tmodl, nn_tdiv, nn_tdivl, nn_div, nn_divl, nn_shr, nn_sub1, nn_lel, nn_lle, nn_ltl, nn_llt, nn_eql, nn_leq, nn_eq, nn_neg, nn_pos, Fct.res]
    · rw [if_neg (fun h => h2 h.2)]
      by_cases h3 : m ≠ 0 ∧ (a = c ∧ b = d) ∧ cmpZ (toZ neg e * e) (toZ neg m * m) < 0
      · obtain ⟨m0, ⟨rfl, rfl⟩, h4⟩ := h3
        rw [if_pos ⟨m0, ⟨rfl, rfl⟩, h4⟩]
        rw [if_pos ⟨by simp, m0, h4⟩] at k9
        simp (config := { maxSteps := 2000000 }) -implicitDefEqProofs [-List.map_set, set_u16, -Int.natCast_add, -Int.natCast_mul, -Int.natCast_emod, -Int.natCast_ediv, -Int.natCast_pow, nn_add, nn_addl, nn_ladd, nn_mul, nn_mull, nn_lmul, nn_mod, nn_modl, nn_tmod, nn_tmodl, nn_tdiv, nn_tdivl, nn_div, nn_divl, nn_shr, nn_sub1, nn_lel, nn_lle, nn_ltl, nn_llt, nn_eql, nn_leq, nn_eq, nn_neg, nn_pos]
        refine wpDraw_by [[], [0], [], [0, 1, 2]] [.any [] [] [⟨0, [3], [], [], []⟩, ⟨0, [42], [], [], []⟩, ⟨0, [], [], [], []⟩], .one] (by rfl) ?_
        simp (config := { maxSteps := 2000000 }) -implicitDefEqProofs [-List.map_set, set_u16, -Int.natCast_add, -Int.natCast_mul, -Int.natCast_emod, -Int.natCast_ediv, -Int.natCast_pow, nn_add, nn_addl, nn_ladd, nn_mul, nn_mull, nn_lmul, nn_mod, nn_modl, nn_tmod, nn_tmodl, nn_tdiv, nn_tdivl, nn_div, nn_divl, nn_shr, nn_sub1, nn_lel, nn_lle, nn_ltl, nn_llt, nn_eql, nn_leq, nn_eq, nn_neg, nn_pos]
        (first | refine .inl ⟨_, k5, ?_⟩ | refine ⟨_, k5, ?_⟩)
        simp (config := { maxSteps := 2000000 }) -implicitDefEqProofs [-List.map_set, set_u16, -Int.natCast_add, -Int.natCast_mul, -Int.natCast_emod, -Int.natCast_ediv, -Int.natCast_pow, nn_add, nn_addl, nn_ladd, nn_mul, nn_mull, nn_lmul, nn_mod, nn_modl, nn_tmod, nn_tmodl, nn_tdiv, nn_tdivl, nn_div, nn_divl, nn_shr, nn_sub1, nn_lel, nn_lle, nn_ltl, nn_llt, nn_eql, nn_leq, nn_eq, nn_neg, nn_pos]
        (first | refine .inl ⟨_, k4, ?_⟩ | refine ⟨_, k4, ?_⟩)
        simp (config := { maxSteps := 2000000 }) -implicitDefEqProofs [-List.map_set, set_u16, -Int.natCast_add, -Int.natCast_mul, -Int.natCast_emod, -Int.natCast_ediv, -Int.natCast_pow, nn_add, nn_addl, nn_ladd, nn_mul, nn_mull, nn_lmul, nn_mod, nn_modl, nn_tmod, nn_tmodl, nn_tdiv, nn_tdivl, nn_div, nn_divl, nn_shr, nn_sub1, nn_lel, nn_lle, nn_ltl, nn_llt, nn_eql, nn_leq, nn_eq, nn_neg, nn_pos, h1]
        (first | refine .inl ⟨_, k1, ?_⟩ | refine ⟨_, k1, ?_⟩)
        simp (config := { maxSteps := 2000000 }) -implicitDefEqProofs [-List.map_set, set_u16, -Int.natCast_add, -Int.natCast_mul, -Int.natCast_emod, -Int.natCast_ediv, -Int.natCast_pow, nn_add, nn_addl, nn_ladd, nn_mul, nn_mull, nn_lmul, nn_mod, nn_modl, nn_tmod, nn_tmodl, nn_tdiv, nn_tdivl, nn_div, nn_divl, nn_shr, nn_sub1, nn_lel, nn_lle, nn_ltl, nn_llt, nn_eql, nn_leq, nn_eq, nn_neg, nn_pos, h2]
        refine wpDraw_by [[], [0], [], [], [2, 3], [2, 3, 4], [], [6], [], [], [8, 9], [2, 3, 4, 5, 6, 7, 8, 9, 10], [0, 1, 2, 3, 4, 5, 6, 7, 8, 9, 10, 11], [0, 1, 2, 3, 4, 5, 6, 7, 8, 9, 10, 11, 12]] [.any [] [78] [⟨0, [3], [], [78], []⟩, ⟨0, [74], [], [78], []⟩, ⟨0, [4], [], [78], []⟩, ⟨0, [5], [], [78], []⟩, ⟨4, [76, 77], [], [], []⟩, ⟨0, [78], [], [], []⟩, ⟨0, [3], [], [78], []⟩, ⟨0, [80], [], [78], []⟩, ⟨0, [4], [], [78], []⟩, ⟨0, [5], [], [78], []⟩, ⟨0, [82, 83], [], [78], []⟩, ⟨0, [81, 84], [], [], []⟩], .one, .one] (by rfl) ?_
        simp (config := { maxSteps := 2000000 }) -implicitDefEqProofs [-List.map_set, set_u16, -Int.natCast_add, -Int.natCast_mul, -Int.natCast_emod, -Int.natCast_ediv, -Int.natCast_pow, nn_add, nn_addl, nn_ladd, nn_mul, nn_mull, nn_lmul, nn_mod, nn_modl, nn_tmod, nn_tmodl, nn_tdiv, nn_tdivl, nn_div, nn_divl, nn_shr, nn_sub1, nn_lel, nn_lle, nn_ltl, nn_llt, nn_eql, nn_leq, nn_eq, nn_neg, nn_pos]
        (first | refine .inl ⟨_, k3, ?_⟩ | refine ⟨_, k3, ?_⟩)
        simp (config := { maxSteps := 2000000 }) -implicitDefEqProofs [-List.map_set, set_u16, -Int.natCast_add, -Int.natCast_mul, -Int.natCast_emod, -Int.natCast_ediv, -Int.natCast_pow, nn_add, nn_addl, nn_ladd, nn_mul, nn_mull, nn_lmul, nn_mod, nn_modl, nn_tmod, nn_tmodl, nn_tdiv, nn_tdivl, nn_div, nn_divl, nn_shr, nn_sub1, nn_lel, nn_lle, nn_ltl, nn_llt, nn_eql, nn_leq, nn_eq, nn_neg, nn_pos]
        simp only [decide_true, Bool.and_true] at k9
        (first | refine .inl ⟨_, k9, ?_⟩ | refine ⟨_, k9, ?_⟩)
        simp (config := { maxSteps := 2000000 }) -implicitDefEqProofs [-List.map_set, set_u16, -Int.natCast_add, -Int.natCast_mul, -Int.natCast_emod, -Int.natCast_ediv, -Int.natCast_pow, nn_add, nn_addl, nn_ladd, nn_mul, nn_mull, nn_lmul, nn_mod, nn_modl, nn_tmod, nn_tmodl, nn_tdiv, nn_tdivl, nn_div, nn_divl, nn_shr, nn_sub1, nn_lel, nn_lle, nn_ltl, nn_llt, nn_eql, nn_leq, nn_eq, nn_neg, nn_pos, Fct.res]
      · rw [if_neg h3]
        rw [if_neg (fun h => h3 ⟨h.2.1, by simpa using h.1, h.2.2⟩)] at k9
        simp (config := { maxSteps := 2000000 }) -implicitDefEqProofs [-List.map_set, set_u16, -Int.natCast_add, -Int.natCast_mul, -Int.natCast_emod, -Int.natCast_ediv, -Int.natCast_pow, nn_add, nn_addl, nn_ladd, nn_mul, nn_mull, nn_lmul, nn_mod, nn_modl, nn_tmod, nn_tmodl, nn_tdiv, nn_tdivl, nn_div, nn_divl, nn_shr, nn_sub1, nn_lel, nn_lle, nn_ltl, nn_llt, nn_eql, nn_leq, nn_eq, nn_neg, nn_pos]
        refine wpDraw_by [[], [0], [], [0, 1, 2]] [.any [] [] [⟨0, [3], [], [], []⟩, ⟨0, [42], [], [], []⟩, ⟨0, [], [], [], []⟩], .one] (by rfl) ?_
        simp (config := { maxSteps := 2000000 }) -implicitDefEqProofs [-List.map_set, set_u16, -Int.natCast_add, -Int.natCast_mul, -Int.natCast_emod, -Int.natCast_ediv, -Int.natCast_pow, nn_add, nn_addl, nn_ladd, nn_mul, nn_mull, nn_lmul, nn_mod, nn_modl, nn_tmod, nn_tmodl, nn_tdiv, nn_tdivl, nn_div, nn_divl, nn_shr, nn_sub1, nn_lel, nn_lle, nn_ltl, nn_llt, nn_eql, nn_leq, nn_eq, nn_neg, nn_pos]
        (first | refine .inl ⟨_, k5, ?_⟩ | refine ⟨_, k5, ?_⟩)
        simp (config := { maxSteps := 2000000 }) -implicitDefEqProofs [-List.map_set, set_u16, -Int.natCast_add, -Int.natCast_mul, -Int.natCast_emod, -Int.natCast_ediv, -Int.natCast_pow, nn_add, nn_addl, nn_ladd, nn_mul, nn_mull, nn_lmul, nn_mod, nn_modl, nn_tmod, nn_tmodl, nn_tdiv, nn_tdivl, nn_div, nn_divl, nn_shr, nn_sub1, nn_lel, nn_lle, nn_ltl, nn_llt, nn_eql, nn_leq, nn_eq, nn_neg, nn_pos]
        (first | refine .inl ⟨_, k4, ?_⟩ | refine ⟨_, k4, ?_⟩)
        simp (config := { maxSteps := 2000000 }) -implicitDefEqProofs [-List.map_set, set_u16, -Int.natCast_add, -Int.natCast_mul, -Int.natCast_emod, -Int.natCast_ediv, -Int.natCast_pow, nn_add, nn_addl, nn_ladd, nn_mul, nn_mull, nn_lmul, nn_mod, nn_modl, nn_tmod, nn_tmodl, nn_tdiv, nn_tdivl, nn_div, nn_divl, nn_shr, nn_sub1, nn_lel, nn_lle, nn_ltl, nn_llt, nn_eql, nn_leq, nn_eq, nn_neg, nn_pos, h1]
        (first | refine .inl ⟨_, k1, ?_⟩ | refine ⟨_, k1, ?_⟩)
        simp (config := { maxSteps := 2000000 }) -implicitDefEqProofs [-List.map_set, set_u16, -Int.natCast_add, -Int.natCast_mul, -Int.natCast_emod, -Int.natCast_ediv, -Int.natCast_pow, nn_add, nn_addl, nn_ladd, nn_mul, nn_mull, nn_lmul, nn_mod, nn_modl, nn_tmod, nn_tmodl, nn_tdiv, nn_tdivl, nn_div, nn_divl, nn_shr, nn_sub1, nn_lel, nn_lle, nn_ltl, nn_llt, nn_eql, nn_leq, nn_eq, nn_neg, nn_pos, h2]
        refine wpDraw_by [[], [0], [], [], [2, 3], [2, 3, 4], [], [6], [], [], [8, 9], [2, 3, 4, 5, 6, 7, 8, 9, 10], [0, 1, 2, 3, 4, 5, 6, 7, 8, 9, 10, 11], [0, 1, 2, 3, 4, 5, 6, 7, 8, 9, 10, 11, 12]] [.any [] [78] [⟨0, [3], [], [78], []⟩, ⟨0, [74], [], [78], []⟩, ⟨0, [4], [], [78], []⟩, ⟨0, [5], [], [78], []⟩, ⟨4, [76, 77], [], [], []⟩, ⟨0, [78], [], [], []⟩, ⟨0, [3], [], [78], []⟩, ⟨0, [80], [], [78], []⟩, ⟨0, [4], [], [78], []⟩, ⟨0, [5], [], [78], []⟩, ⟨0, [82, 83], [], [78], []⟩, ⟨0, [81, 84], [], [], []⟩], .one, .one] (by rfl) ?_
        simp (config := { maxSteps := 2000000 }) -implicitDefEqProofs [-List.map_set, set_u16, -Int.natCast_add, -Int.natCast_mul, -Int.natCast_emod, -Int.natCast_ediv, -Int.natCast_pow, nn_add, nn_addl, nn_ladd, nn_mul, nn_mull, nn_lmul, nn_mod, nn_modl, nn_tmod, nn_tmodl, nn_tdiv, nn_tdivl, nn_div, nn_divl, nn_shr, nn_sub1, nn_lel, nn_lle, nn_ltl, nn_llt, nn_eql, nn_leq, nn_eq, nn_neg, nn_pos]
        (first | refine .inl ⟨_, k3, ?_⟩ | refine ⟨_, k3, ?_⟩)
        simp (config := { maxSteps := 2000000 }) -implicitDefEqProofs [-List.map_set, set_u16, -Int.natCast_add, -Int.natCast_mul, -Int.natCast_emod, -Int.natCast_ediv, -Int.natCast_pow, nn_add, nn_addl, nn_ladd, nn_mul, nn_mull, nn_lmul, nn_mod, nn_modl, nn_tmod, nn_tmodl, nn_tdiv, nn_tdivl, nn_div, nn_divl, nn_shr, nn_sub1, nn_lel, nn_lle, nn_ltl, nn_llt, nn_eql, nn_leq, nn_eq, nn_neg, nn_pos]
        (first | refine .inl ⟨_, k9, ?_⟩ | refine ⟨_, k9, ?_⟩)
        simp (config := { maxSteps := 2000000 }) -implicitDefEqProofs [-List.map_set, set_u16, -Int.natCast_add, -Int.natCast_mul, -Int.natCast_emod, -Int.natCast_ediv, -Int.natCast_pow, nn_add, nn_addl, nn_ladd, nn_mul, nn_mull, nn_lmul, nn_mod, nn_modl, nn_tmod, nn_tmodl, nn_tdiv, nn_tdivl, nn_div, nn_divl, nn_shr, nn_sub1, nn_lel, nn_lle, nn_ltl, nn_llt, nn_eql, nn_leq, nn_eq, nn_neg, nn_pos, Fct.res]

end Go.Va

/-
  Contracts: the document's facts: angles, Norm, Same.
-/
namespace Go.Va
open Go.Proofs
set_option maxHeartbeats 4000000
set_option maxRecDepth 10000
set_option linter.unusedSimpArgs false
set_option linter.unusedVariables false

theorem refAngle11 (a b c d e f g h : Int) (h1 : cmpP (g, h) (a, b) < 0) (h2 : cmpP (e, f) (c, d) < 0) :
    CallsF Tryz.prog 33 [.agg [.int .i64 a, .int .i64 b], .agg [.int .i64 c, .int .i64 d], .agg [.int .i64 e, .int .i64 f], .agg [.int .i64 g, .int .i64 h]] (normAngF (a, b) (c, d) (e, f) (g, h)).res := by
  have b1 := below_c g h a b
  have b2 := below_c e f c d
  have s1 : srt2 (a, b) (g, h) = ((g, h), (a, b)) := by unfold srt2; rw [if_pos h1]
  have s2 : srt2 (c, d) (e, f) = ((e, f), (c, d)) := by unfold srt2; rw [if_pos h2]
  have b3 := below_c e f g h
  have b4 := below_c c d a b
  have r1 := args4_c e f g h a b c d
  have r2 := args4_c g h e f c d a b
  unfold normAngF
  rw [s1, s2]
  simp only [orP_lt]
  clear s1 s2
  refine callsF_of (T := tb) tab_ok mixed Tryz.func33 rfl (by decide) (Nat.le_of_ble_eq_true rfl) rfl ?_; unfold St.init
  by_cases h3 : cmpP (e, f) (g, h) < 0
  · rw [if_pos (.inl h3)]
    simp (config := { maxSteps := 2000000 }) -implicitDefEqProofs [-List.map_set, set_u16, -Int.natCast_add, -Int.natCast_mul, -Int.natCast_emod, -Int.natCast_ediv, -Int.natCast_pow, nn_add, nn_addl, nn_ladd, nn_mul, nn_mull, nn_lmul, nn_mod, nn_modl, nn_tmod, nn_tmodl, nn_tdiv, nn_tdivl, nn_div, nn_divl, nn_shr, nn_sub1, nn_lel, nn_lle, nn_ltl, nn_llt, nn_eql, nn_leq, nn_eq, nn_neg, nn_pos]
    (first | refine .inl ⟨_, b1, ?_⟩ | refine ⟨_, b1, ?_⟩)
    simp (config := { maxSteps := 2000000 }) -implicitDefEqProofs [-List.map_set, set_u16, -Int.natCast_add, -Int.natCast_mul, -Int.natCast_emod, -Int.natCast_ediv, -Int.natCast_pow, nn_add, nn_addl, nn_ladd, nn_mul, nn_mull, nn_lmul, nn_mod, nn_modl, nn_tmod, nn_tmodl, nn_tdiv, nn_tdivl, nn_div, nn_divl, nn_shr, nn_sub1, nn_lel, nn_lle, nn_ltl, nn_llt, nn_eql, nn_leq, nn_eq, nn_neg, nn_pos, h1]
    (first | refine .inl ⟨_, b2, ?_⟩ | refine ⟨_, b2, ?_⟩)
    simp (config := { maxSteps := 2000000 }) -implicitDefEqProofs [-List.map_set, set_u16, -Int.natCast_add, -Int.natCast_mul, -Int.natCast_emod, -Int.natCast_ediv, -Int.natCast_pow, nn_add, nn_addl, nn_ladd, nn_mul, nn_mull, nn_lmul, nn_mod, nn_modl, nn_tmod, nn_tmodl, nn_tdiv, nn_tdivl, nn_div, nn_divl, nn_shr, nn_sub1, nn_lel, nn_lle, nn_ltl, nn_llt, nn_eql, nn_leq, nn_eq, nn_neg, nn_pos, h2]
    (first | refine .inl ⟨_, b3, ?_⟩ | refine ⟨_, b3, ?_⟩)
    simp (config := { maxSteps := 2000000 }) -implicitDefEqProofs [-List.map_set, set_u16, -Int.natCast_add, -Int.natCast_mul, -Int.natCast_emod, -Int.natCast_ediv, -Int.natCast_pow, nn_add, nn_addl, nn_ladd, nn_mul, nn_mull, nn_lmul, nn_mod, nn_modl, nn_tmod, nn_tmodl, nn_tdiv, nn_tdivl, nn_div, nn_divl, nn_shr, nn_sub1, nn_lel, nn_lle, nn_ltl, nn_llt, nn_eql, nn_leq, nn_eq, nn_neg, nn_pos, h3]
    (first | refine .inl ⟨_, r1, ?_⟩ | refine ⟨_, r1, ?_⟩)
    simp (config := { maxSteps := 2000000 }) -implicitDefEqProofs [-List.map_set, set_u16, -Int.natCast_add, -Int.natCast_mul, -Int.natCast_emod, -Int.natCast_ediv, -Int.natCast_pow, nn_add, nn_addl, nn_ladd, nn_mul, nn_mull, nn_lmul, nn_mod, nn_modl, nn_tmod, nn_tmodl, nn_tdiv, nn_tdivl, nn_div, nn_divl, nn_shr, nn_sub1, nn_lel, nn_lle, nn_ltl, nn_llt, nn_eql, nn_leq, nn_eq, nn_neg, nn_pos, Fct.res]
  · by_cases h4 : e = g ∧ f = h
    · obtain ⟨h4, h5⟩ := h4
      have hB : (decide (g = e) && decide (h = f)) = true := by simp [h4, h5]
      by_cases h6 : cmpP (c, d) (a, b) < 0
      · rw [if_pos (.inr ⟨by rw [h4, h5], h6⟩)]
        simp (config := { maxSteps := 2000000 }) -implicitDefEqProofs [-List.map_set, set_u16, -Int.natCast_add, -Int.natCast_mul, -Int.natCast_emod, -Int.natCast_ediv, -Int.natCast_pow, nn_add, nn_addl, nn_ladd, nn_mul, nn_mull, nn_lmul, nn_mod, nn_modl, nn_tmod, nn_tmodl, nn_tdiv, nn_tdivl, nn_div, nn_divl, nn_shr, nn_sub1, nn_lel, nn_lle, nn_ltl, nn_llt, nn_eql, nn_leq, nn_eq, nn_neg, nn_pos]
        (first | refine .inl ⟨_, b1, ?_⟩ | refine ⟨_, b1, ?_⟩)
        simp (config := { maxSteps := 2000000 }) -implicitDefEqProofs [-List.map_set, set_u16, -Int.natCast_add, -Int.natCast_mul, -Int.natCast_emod, -Int.natCast_ediv, -Int.natCast_pow, nn_add, nn_addl, nn_ladd, nn_mul, nn_mull, nn_lmul, nn_mod, nn_modl, nn_tmod, nn_tmodl, nn_tdiv, nn_tdivl, nn_div, nn_divl, nn_shr, nn_sub1, nn_lel, nn_lle, nn_ltl, nn_llt, nn_eql, nn_leq, nn_eq, nn_neg, nn_pos, h1]
        (first | refine .inl ⟨_, b2, ?_⟩ | refine ⟨_, b2, ?_⟩)
        simp (config := { maxSteps := 2000000 }) -implicitDefEqProofs [-List.map_set, set_u16, -Int.natCast_add, -Int.natCast_mul, -Int.natCast_emod, -Int.natCast_ediv, -Int.natCast_pow, nn_add, nn_addl, nn_ladd, nn_mul, nn_mull, nn_lmul, nn_mod, nn_modl, nn_tmod, nn_tmodl, nn_tdiv, nn_tdivl, nn_div, nn_divl, nn_shr, nn_sub1, nn_lel, nn_lle, nn_ltl, nn_llt, nn_eql, nn_leq, nn_eq, nn_neg, nn_pos, h2]
        (first | refine .inl ⟨_, b3, ?_⟩ | refine ⟨_, b3, ?_⟩)
        simp (config := { maxSteps := 2000000 }) -implicitDefEqProofs [-List.map_set, set_u16, -Int.natCast_add, -Int.natCast_mul, -Int.natCast_emod, -Int.natCast_ediv, -Int.natCast_pow, nn_add, nn_addl, nn_ladd, nn_mul, nn_mull, nn_lmul, nn_mod, nn_modl, nn_tmod, nn_tmodl, nn_tdiv, nn_tdivl, nn_div, nn_divl, nn_shr, nn_sub1, nn_lel, nn_lle, nn_ltl, nn_llt, nn_eql, nn_leq, nn_eq, nn_neg, nn_pos, h3, hB]
        (first | refine .inl ⟨_, b4, ?_⟩ | refine ⟨_, b4, ?_⟩)
        simp (config := { maxSteps := 2000000 }) -implicitDefEqProofs [-List.map_set, set_u16, -Int.natCast_add, -Int.natCast_mul, -Int.natCast_emod, -Int.natCast_ediv, -Int.natCast_pow, nn_add, nn_addl, nn_ladd, nn_mul, nn_mull, nn_lmul, nn_mod, nn_modl, nn_tmod, nn_tmodl, nn_tdiv, nn_tdivl, nn_div, nn_divl, nn_shr, nn_sub1, nn_lel, nn_lle, nn_ltl, nn_llt, nn_eql, nn_leq, nn_eq, nn_neg, nn_pos, h6]
        (first | refine .inl ⟨_, r1, ?_⟩ | refine ⟨_, r1, ?_⟩)
        simp (config := { maxSteps := 2000000 }) -implicitDefEqProofs [-List.map_set, set_u16, -Int.natCast_add, -Int.natCast_mul, -Int.natCast_emod, -Int.natCast_ediv, -Int.natCast_pow, nn_add, nn_addl, nn_ladd, nn_mul, nn_mull, nn_lmul, nn_mod, nn_modl, nn_tmod, nn_tmodl, nn_tdiv, nn_tdivl, nn_div, nn_divl, nn_shr, nn_sub1, nn_lel, nn_lle, nn_ltl, nn_llt, nn_eql, nn_leq, nn_eq, nn_neg, nn_pos, Fct.res]
      · rw [if_neg (fun q => q.elim h3 fun q => h6 q.2)]
        simp (config := { maxSteps := 2000000 }) -implicitDefEqProofs [-List.map_set, set_u16, -Int.natCast_add, -Int.natCast_mul, -Int.natCast_emod, -Int.natCast_ediv, -Int.natCast_pow, nn_add, nn_addl, nn_ladd, nn_mul, nn_mull, nn_lmul, nn_mod, nn_modl, nn_tmod, nn_tmodl, nn_tdiv, nn_tdivl, nn_div, nn_divl, nn_shr, nn_sub1, nn_lel, nn_lle, nn_ltl, nn_llt, nn_eql, nn_leq, nn_eq, nn_neg, nn_pos]
        (first | refine .inl ⟨_, b1, ?_⟩ | refine ⟨_, b1, ?_⟩)
        simp (config := { maxSteps := 2000000 }) -implicitDefEqProofs [-List.map_set, set_u16, -Int.natCast_add, -Int.natCast_mul, -Int.natCast_emod, -Int.natCast_ediv, -Int.natCast_pow, nn_add, nn_addl, nn_ladd, nn_mul, nn_mull, nn_lmul, nn_mod, nn_modl, nn_tmod, nn_tmodl, nn_tdiv, nn_tdivl, nn_div, nn_divl, nn_shr, nn_sub1, nn_lel, nn_lle, nn_ltl, nn_llt, nn_eql, nn_leq, nn_eq, nn_neg, nn_pos, h1]
        (first | refine .inl ⟨_, b2, ?_⟩ | refine ⟨_, b2, ?_⟩)
        simp (config := { maxSteps := 2000000 }) -implicitDefEqProofs [-List.map_set, set_u16, -Int.natCast_add, -Int.natCast_mul, -Int.natCast_emod, -Int.natCast_ediv, -Int.natCast_pow, nn_add, nn_addl, nn_ladd, nn_mul, nn_mull, nn_lmul, nn_mod, nn_modl, nn_tmod, nn_tmodl, nn_tdiv, nn_tdivl, nn_div, nn_divl, nn_shr, nn_sub1, nn_lel, nn_lle, nn_ltl, nn_llt, nn_eql, nn_leq, nn_eq, nn_neg, nn_pos, h2]
        (first | refine .inl ⟨_, b3, ?_⟩ | refine ⟨_, b3, ?_⟩)
        simp (config := { maxSteps := 2000000 }) -implicitDefEqProofs [-List.map_set, set_u16, -Int.natCast_add, -Int.natCast_mul, -Int.natCast_emod, -Int.natCast_ediv, -Int.natCast_pow, nn_add, nn_addl, nn_ladd, nn_mul, nn_mull, nn_lmul, nn_mod, nn_modl, nn_tmod, nn_tmodl, nn_tdiv, nn_tdivl, nn_div, nn_divl, nn_shr, nn_sub1, nn_lel, nn_lle, nn_ltl, nn_llt, nn_eql, nn_leq, nn_eq, nn_neg, nn_pos, h3, hB]
        (first | refine .inl ⟨_, b4, ?_⟩ | refine ⟨_, b4, ?_⟩)
        simp (config := { maxSteps := 2000000 }) -implicitDefEqProofs [-List.map_set, set_u16, -Int.natCast_add, -Int.natCast_mul, -Int.natCast_emod, -Int.natCast_ediv, -Int.natCast_pow, nn_add, nn_addl, nn_ladd, nn_mul, nn_mull, nn_lmul, nn_mod, nn_modl, nn_tmod, nn_tmodl, nn_tdiv, nn_tdivl, nn_div, nn_divl, nn_shr, nn_sub1, nn_lel, nn_lle, nn_ltl, nn_llt, nn_eql, nn_leq, nn_eq, nn_neg, nn_pos, h6]
        (first | refine .inl ⟨_, r2, ?_⟩ | refine ⟨_, r2, ?_⟩)
        simp (config := { maxSteps := 2000000 }) -implicitDefEqProofs [-List.map_set, set_u16, -Int.natCast_add, -Int.natCast_mul, -Int.natCast_emod, -Int.natCast_ediv, -Int.natCast_pow, nn_add, nn_addl, nn_ladd, nn_mul, nn_mull, nn_lmul, nn_mod, nn_modl, nn_tmod, nn_tmodl, nn_tdiv, nn_tdivl, nn_div, nn_divl, nn_shr, nn_sub1, nn_lel, nn_lle, nn_ltl, nn_llt, nn_eql, nn_leq, nn_eq, nn_neg, nn_pos, Fct.res]
    · have h5 : (decide (g = e) && decide (h = f)) = false := by
        simp only [Bool.and_eq_false_iff, decide_eq_false_iff_not]
        by_cases q : g = e
        · exact .inr fun q2 => h4 ⟨q.symm, q2.symm⟩
        · exact .inl q
      rw [if_neg (fun q => q.elim h3 fun q => h4 (by simpa using q.1))]
      simp (config := { maxSteps := 2000000 }) -implicitDefEqProofs [-List.map_set, set_u16, -Int.natCast_add, -Int.natCast_mul, -Int.natCast_emod, -Int.natCast_ediv, -Int.natCast_pow, nn_add, nn_addl, nn_ladd, nn_mul, nn_mull, nn_lmul, nn_mod, nn_modl, nn_tmod, nn_tmodl, nn_tdiv, nn_tdivl, nn_div, nn_divl, nn_shr, nn_sub1, nn_lel, nn_lle, nn_ltl, nn_llt, nn_eql, nn_leq, nn_eq, nn_neg, nn_pos]
      (first | refine .inl ⟨_, b1, ?_⟩ | refine ⟨_, b1, ?_⟩)
      simp (config := { maxSteps := 2000000 }) -implicitDefEqProofs [-List.map_set, set_u16, -Int.natCast_add, -Int.natCast_mul, -Int.natCast_emod, -Int.natCast_ediv, -Int.natCast_pow, nn_add, nn_addl, nn_ladd, nn_mul, nn_mull, nn_lmul, nn_mod, nn_modl, nn_tmod, nn_tmodl, nn_tdiv, nn_tdivl, nn_div, nn_divl, nn_shr, nn_sub1, nn_lel, nn_lle, nn_ltl, nn_llt, nn_eql, nn_leq, nn_eq, nn_neg, nn_pos, h1]
      (first | refine .inl ⟨_, b2, ?_⟩ | refine ⟨_, b2, ?_⟩)
      simp (config := { maxSteps := 2000000 }) -implicitDefEqProofs [-List.map_set, set_u16, -Int.natCast_add, -Int.natCast_mul, -Int.natCast_emod, -Int.natCast_ediv, -Int.natCast_pow, nn_add, nn_addl, nn_ladd, nn_mul, nn_mull, nn_lmul, nn_mod, nn_modl, nn_tmod, nn_tmodl, nn_tdiv, nn_tdivl, nn_div, nn_divl, nn_shr, nn_sub1, nn_lel, nn_lle, nn_ltl, nn_llt, nn_eql, nn_leq, nn_eq, nn_neg, nn_pos, h2]
      (first | refine .inl ⟨_, b3, ?_⟩ | refine ⟨_, b3, ?_⟩)
      simp (config := { maxSteps := 2000000 }) -implicitDefEqProofs [-List.map_set, set_u16, -Int.natCast_add, -Int.natCast_mul, -Int.natCast_emod, -Int.natCast_ediv, -Int.natCast_pow, nn_add, nn_addl, nn_ladd, nn_mul, nn_mull, nn_lmul, nn_mod, nn_modl, nn_tmod, nn_tmodl, nn_tdiv, nn_tdivl, nn_div, nn_divl, nn_shr, nn_sub1, nn_lel, nn_lle, nn_ltl, nn_llt, nn_eql, nn_leq, nn_eq, nn_neg, nn_pos, h3, h5]
      (first | refine .inl ⟨_, r2, ?_⟩ | refine ⟨_, r2, ?_⟩)
      simp (config := { maxSteps := 2000000 }) -implicitDefEqProofs [-List.map_set, set_u16, -Int.natCast_add, -Int.natCast_mul, -Int.natCast_emod, -Int.natCast_ediv, -Int.natCast_pow, nn_add, nn_addl, nn_ladd, nn_mul, nn_mull, nn_lmul, nn_mod, nn_modl, nn_tmod, nn_tmodl, nn_tdiv, nn_tdivl, nn_div, nn_divl, nn_shr, nn_sub1, nn_lel, nn_lle, nn_ltl, nn_llt, nn_eql, nn_leq, nn_eq, nn_neg, nn_pos, Fct.res]

theorem refAngle10 (a b c d e f g h : Int) (h1 : cmpP (g, h) (a, b) < 0) (h2 : ¬ cmpP (e, f) (c, d) < 0) :
    CallsF Tryz.prog 33 [.agg [.int .i64 a, .int .i64 b], .agg [.int .i64 c, .int .i64 d], .agg [.int .i64 e, .int .i64 f], .agg [.int .i64 g, .int .i64 h]] (normAngF (a, b) (c, d) (e, f) (g, h)).res := by
  have b1 := below_c g h a b
  have b2 := below_c e f c d
  have s1 : srt2 (a, b) (g, h) = ((g, h), (a, b)) := by unfold srt2; rw [if_pos h1]
  have s2 : srt2 (c, d) (e, f) = ((c, d), (e, f)) := by unfold srt2; rw [if_neg h2]
  have b3 := below_c c d g h
  have b4 := below_c e f a b
  have r1 := args4_c c d g h a b e f
  have r2 := args4_c g h c d e f a b
  unfold normAngF
  rw [s1, s2]
  simp only [orP_lt]
  clear s1 s2
  refine callsF_of (T := tb) tab_ok mixed Tryz.func33 rfl (by decide) (Nat.le_of_ble_eq_true rfl) rfl ?_; unfold St.init
  by_cases h3 : cmpP (c, d) (g, h) < 0
  · rw [if_pos (.inl h3)]
    simp (config := { maxSteps := 2000000 }) -implicitDefEqProofs [-List.map_set, set_u16, -Int.natCast_add, -Int.natCast_mul, -Int.natCast_emod, -Int.natCast_ediv, -Int.natCast_pow, nn_add, nn_addl, nn_ladd, nn_mul, nn_mull, nn_lmul, nn_mod, nn_modl, nn_tmod, nn_tmodl, nn_tdiv, nn_tdivl, nn_div, nn_divl, nn_shr, nn_sub1, nn_lel, nn_lle, nn_ltl, nn_llt, nn_eql, nn_leq, nn_eq, nn_neg, nn_pos]
    (first | refine .inl ⟨_, b1, ?_⟩ | refine ⟨_, b1, ?_⟩)
    simp (config := { maxSteps := 2000000 }) -implicitDefEqProofs [-List.map_set, set_u16, -Int.natCast_add, -Int.natCast_mul, -Int.natCast_emod, -Int.natCast_ediv, -Int.natCast_pow, nn_add, nn_addl, nn_ladd, nn_mul, nn_mull, nn_lmul, nn_mod, nn_modl, nn_tmod, nn_tmodl, nn_tdiv, nn_tdivl, nn_div, nn_divl, nn_shr, nn_sub1, nn_lel, nn_lle, nn_ltl, nn_llt, nn_eql, nn_leq, nn_eq, nn_neg, nn_pos, h1]
    (first | refine .inl ⟨_, b2, ?_⟩ | refine ⟨_, b2, ?_⟩)
    simp (config := { maxSteps := 2000000 }) -implicitDefEqProofs [-List.map_set, set_u16, -Int.natCast_add, -Int.natCast_mul, -Int.natCast_emod, -Int.natCast_ediv, -Int.natCast_pow, nn_add, nn_addl, nn_ladd, nn_mul, nn_mull, nn_lmul, nn_mod, nn_modl, nn_tmod, nn_tmodl, nn_tdiv, nn_tdivl, nn_div, nn_divl, nn_shr, nn_sub1, nn_lel, nn_lle, nn_ltl, nn_llt, nn_eql, nn_leq, nn_eq, nn_neg, nn_pos, h2]
    (first | refine .inl ⟨_, b3, ?_⟩ | refine ⟨_, b3, ?_⟩)
    simp (config := { maxSteps := 2000000 }) -implicitDefEqProofs [-List.map_set, set_u16, -Int.natCast_add, -Int.natCast_mul, -Int.natCast_emod, -Int.natCast_ediv, -Int.natCast_pow, nn_add, nn_addl, nn_ladd, nn_mul, nn_mull, nn_lmul, nn_mod, nn_modl, nn_tmod, nn_tmodl, nn_tdiv, nn_tdivl, nn_div, nn_divl, nn_shr, nn_sub1, nn_lel, nn_lle, nn_ltl, nn_llt, nn_eql, nn_leq, nn_eq, nn_neg, nn_pos, h3]
    (first | refine .inl ⟨_, r1, ?_⟩ | refine ⟨_, r1, ?_⟩)
    simp (config := { maxSteps := 2000000 }) -implicitDefEqProofs [-List.map_set, set_u16, -Int.natCast_add, -Int.natCast_mul, -Int.natCast_emod, -Int.natCast_ediv, -Int.natCast_pow, nn_add, nn_addl, nn_ladd, nn_mul, nn_mull, nn_lmul, nn_mod, nn_modl, nn_tmod, nn_tmodl, nn_tdiv, nn_tdivl, nn_div, nn_divl, nn_shr, nn_sub1, nn_lel, nn_lle, nn_ltl, nn_llt, nn_eql, nn_leq, nn_eq, nn_neg, nn_pos, Fct.res]
  · by_cases h4 : c = g ∧ d = h
    · obtain ⟨h4, h5⟩ := h4
      have hB : (decide (g = c) && decide (h = d)) = true := by simp [h4, h5]
      by_cases h6 : cmpP (e, f) (a, b) < 0
      · rw [if_pos (.inr ⟨by rw [h4, h5], h6⟩)]
        simp (config := { maxSteps := 2000000 }) -implicitDefEqProofs [-List.map_set, set_u16, -Int.natCast_add, -Int.natCast_mul, -Int.natCast_emod, -Int.natCast_ediv, -Int.natCast_pow, nn_add, nn_addl, nn_ladd, nn_mul, nn_mull, nn_lmul, nn_mod, nn_modl, nn_tmod, nn_tmodl, nn_tdiv, nn_tdivl, nn_div, nn_divl, nn_shr, nn_sub1, nn_lel, nn_lle, nn_ltl, nn_llt, nn_eql, nn_leq, nn_eq, nn_neg, nn_pos]
        (first | refine .inl ⟨_, b1, ?_⟩ | refine ⟨_, b1, ?_⟩)
        simp (config := { maxSteps := 2000000 }) -implicitDefEqProofs [-List.map_set, set_u16, -Int.natCast_add, -Int.natCast_mul, -Int.natCast_emod, -Int.natCast_ediv, -Int.natCast_pow, nn_add, nn_addl, nn_ladd, nn_mul, nn_mull, nn_lmul, nn_mod, nn_modl, nn_tmod, nn_tmodl, nn_tdiv, nn_tdivl, nn_div, nn_divl, nn_shr, nn_sub1, nn_lel, nn_lle, nn_ltl, nn_llt, nn_eql, nn_leq, nn_eq, nn_neg, nn_pos, h1]
        (first | refine .inl ⟨_, b2, ?_⟩ | refine ⟨_, b2, ?_⟩)
        simp (config := { maxSteps := 2000000 }) -implicitDefEqProofs [-List.map_set, set_u16, -Int.natCast_add, -Int.natCast_mul, -Int.natCast_emod, -Int.natCast_ediv, -Int.natCast_pow, nn_add, nn_addl, nn_ladd, nn_mul, nn_mull, nn_lmul, nn_mod, nn_modl, nn_tmod, nn_tmodl, nn_tdiv, nn_tdivl, nn_div, nn_divl, nn_shr, nn_sub1, nn_lel, nn_lle, nn_ltl, nn_llt, nn_eql, nn_leq, nn_eq, nn_neg, nn_pos, h2]
        (first | refine .inl ⟨_, b3, ?_⟩ | refine ⟨_, b3, ?_⟩)
        simp (config := { maxSteps := 2000000 }) -implicitDefEqProofs [-List.map_set, set_u16, -Int.natCast_add, -Int.natCast_mul, -Int.natCast_emod, -Int.natCast_ediv, -Int.natCast_pow, nn_add, nn_addl, nn_ladd, nn_mul, nn_mull, nn_lmul, nn_mod, nn_modl, nn_tmod, nn_tmodl, nn_tdiv, nn_tdivl, nn_div, nn_divl, nn_shr, nn_sub1, nn_lel, nn_lle, nn_ltl, nn_llt, nn_eql, nn_leq, nn_eq, nn_neg, nn_pos, h3, hB]
        (first | refine .inl ⟨_, b4, ?_⟩ | refine ⟨_, b4, ?_⟩)
        simp (config := { maxSteps := 2000000 }) -implicitDefEqProofs [-List.map_set, set_u16, -Int.natCast_add, -Int.natCast_mul, -Int.natCast_emod, -Int.natCast_ediv, -Int.natCast_pow, nn_add, nn_addl, nn_ladd, nn_mul, nn_mull, nn_lmul, nn_mod, nn_modl, nn_tmod, nn_tmodl, nn_tdiv, nn_tdivl, nn_div, nn_divl, nn_shr, nn_sub1, nn_lel, nn_lle, nn_ltl, nn_llt, nn_eql, nn_leq, nn_eq, nn_neg, nn_pos, h6]
        (first | refine .inl ⟨_, r1, ?_⟩ | refine ⟨_, r1, ?_⟩)
        simp (config := { maxSteps := 2000000 }) -implicitDefEqProofs [-List.map_set, set_u16, -Int.natCast_add, -Int.natCast_mul, -Int.natCast_emod, -Int.natCast_ediv, -Int.natCast_pow, nn_add, nn_addl, nn_ladd, nn_mul, nn_mull, nn_lmul, nn_mod, nn_modl, nn_tmod, nn_tmodl, nn_tdiv, nn_tdivl, nn_div, nn_divl, nn_shr, nn_sub1, nn_lel, nn_lle, nn_ltl, nn_llt, nn_eql, nn_leq, nn_eq, nn_neg, nn_pos, Fct.res]
      · rw [if_neg (fun q => q.elim h3 fun q => h6 q.2)]
        simp (config := { maxSteps := 2000000 }) -implicitDefEqProofs [-List.map_set, set_u16, -Int.natCast_add, -Int.natCast_mul, -Int.natCast_emod, -Int.natCast_ediv, -Int.natCast_pow, nn_add, nn_addl, nn_ladd, nn_mul, nn_mull, nn_lmul, nn_mod, nn_modl, nn_tmod, nn_tmodl, nn_tdiv, nn_tdivl, nn_div, nn_divl, nn_shr, nn_sub1, nn_lel, nn_lle, nn_ltl, nn_llt, nn_eql, nn_leq, nn_eq, nn_neg, nn_pos]
        (first | refine .inl ⟨_, b1, ?_⟩ | refine ⟨_, b1, ?_⟩)
        simp (config := { maxSteps := 2000000 }) -implicitDefEqProofs [-List.map_set, set_u16, -Int.natCast_add, -Int.natCast_mul, -Int.natCast_emod, -Int.natCast_ediv, -Int.natCast_pow, nn_add, nn_addl, nn_ladd, nn_mul, nn_mull, nn_lmul, nn_mod, nn_modl, nn_tmod, nn_tmodl, nn_tdiv, nn_tdivl, nn_div, nn_divl, nn_shr, nn_sub1, nn_lel, nn_lle, nn_ltl, nn_llt, nn_eql, nn_leq, nn_eq, nn_neg, nn_pos, h1]
        (first | refine .inl ⟨_, b2, ?_⟩ | refine ⟨_, b2, ?_⟩)
        simp (config := { maxSteps := 2000000 }) -implicitDefEqProofs [-List.map_set, set_u16, -Int.natCast_add, -Int.natCast_mul, -Int.natCast_emod, -Int.natCast_ediv, -Int.natCast_pow, nn_add, nn_addl, nn_ladd, nn_mul, nn_mull, nn_lmul, nn_mod, nn_modl, nn_tmod, nn_tmodl, nn_tdiv, nn_tdivl, nn_div, nn_divl, nn_shr, nn_sub1, nn_lel, nn_lle, nn_ltl, nn_llt, nn_eql, nn_leq, nn_eq, nn_neg, nn_pos, h2]
        (first | refine .inl ⟨_, b3, ?_⟩ | refine ⟨_, b3, ?_⟩)
        simp (config := { maxSteps := 2000000 }) -implicitDefEqProofs [-List.map_set, set_u16, -Int.natCast_add, -Int.natCast_mul, -Int.natCast_emod, -Int.natCast_ediv, -Int.natCast_pow, nn_add, nn_addl, nn_ladd, nn_mul, nn_mull, nn_lmul, nn_mod, nn_modl, nn_tmod, nn_tmodl, nn_tdiv, nn_tdivl, nn_div, nn_divl, nn_shr, nn_sub1, nn_lel, nn_lle, nn_ltl, nn_llt, nn_eql, nn_leq, nn_eq, nn_neg, nn_pos, h3, hB]
        (first | refine .inl ⟨_, b4, ?_⟩ | refine ⟨_, b4, ?_⟩)
        simp (config := { maxSteps := 2000000 }) -implicitDefEqProofs [-List.map_set, set_u16, -Int.natCast_add, -Int.natCast_mul, -Int.natCast_emod, -Int.natCast_ediv, -Int.natCast_pow, nn_add, nn_addl, nn_ladd, nn_mul, nn_mull, nn_lmul, nn_mod, nn_modl, nn_tmod, nn_tmodl, nn_tdiv, nn_tdivl, nn_div, nn_divl, nn_shr, nn_sub1, nn_lel, nn_lle, nn_ltl, nn_llt, nn_eql, nn_leq, nn_eq, nn_neg, nn_pos, h6]
        (first | refine .inl ⟨_, r2, ?_⟩ | refine ⟨_, r2, ?_⟩)
        simp (config := { maxSteps := 2000000 }) -implicitDefEqProofs [-List.map_set, set_u16, -Int.natCast_add, -Int.natCast_mul, -Int.natCast_emod, -Int.natCast_ediv, -Int.natCast_pow, nn_add, nn_addl, nn_ladd, nn_mul, nn_mull, nn_lmul, nn_mod, nn_modl, nn_tmod, nn_tmodl, nn_tdiv, nn_tdivl, nn_div, nn_divl, nn_shr, nn_sub1, nn_lel, nn_lle, nn_ltl, nn_llt, nn_eql, nn_leq, nn_eq, nn_neg, nn_pos, Fct.res]
    · have h5 : (decide (g = c) && decide (h = d)) = false := by
        simp only [Bool.and_eq_false_iff, decide_eq_false_iff_not]
        by_cases q : g = c
        · exact .inr fun q2 => h4 ⟨q.symm, q2.symm⟩
        · exact .inl q
      rw [if_neg (fun q => q.elim h3 fun q => h4 (by simpa using q.1))]
      simp (config := { maxSteps := 2000000 }) -implicitDefEqProofs [-List.map_set, set_u16, -Int.natCast_add, -Int.natCast_mul, -Int.natCast_emod, -Int.natCast_ediv, -Int.natCast_pow, nn_add, nn_addl, nn_ladd, nn_mul, nn_mull, nn_lmul, nn_mod, nn_modl, nn_tmod, nn_tmodl, nn_tdiv, nn_tdivl, nn_div, nn_divl, nn_shr, nn_sub1, nn_lel, nn_lle, nn_ltl, nn_llt, nn_eql, nn_leq, nn_eq, nn_neg, nn_pos]
      (first | refine .inl ⟨_, b1, ?_⟩ | refine ⟨_, b1, ?_⟩)
      simp (config := { maxSteps := 2000000 }) -implicitDefEqProofs [-List.map_set, set_u16, -Int.natCast_add, -Int.natCast_mul, -Int.natCast_emod, -Int.natCast_ediv, -Int.natCast_pow, nn_add, nn_addl, nn_ladd, nn_mul, nn_mull, nn_lmul, nn_mod, nn_modl, nn_tmod, nn_tmodl, nn_tdiv, nn_tdivl, nn_div, nn_divl, nn_shr, nn_sub1, nn_lel, nn_lle, nn_ltl, nn_llt, nn_eql, nn_leq, nn_eq, nn_neg, nn_pos, h1]
      (first | refine .inl ⟨_, b2, ?_⟩ | refine ⟨_, b2, ?_⟩)
      simp (config := { maxSteps := 2000000 }) -implicitDefEqProofs [-List.map_set, set_u16, -Int.natCast_add, -Int.natCast_mul, -Int.natCast_emod, -Int.natCast_ediv, -Int.natCast_pow, nn_add, nn_addl, nn_ladd, nn_mul, nn_mull, nn_lmul, nn_mod, nn_modl, nn_tmod, nn_tmodl, nn_tdiv, nn_tdivl, nn_div, nn_divl, nn_shr, nn_sub1, nn_lel, nn_lle, nn_ltl, nn_llt, nn_eql, nn_leq, nn_eq, nn_neg, nn_pos, h2]
      (first | refine .inl ⟨_, b3, ?_⟩ | refine ⟨_, b3, ?_⟩)
      simp (config := { maxSteps := 2000000 }) -implicitDefEqProofs [-List.map_set, set_u16, -Int.natCast_add, -Int.natCast_mul, -Int.natCast_emod, -Int.natCast_ediv, -Int.natCast_pow, nn_add, nn_addl, nn_ladd, nn_mul, nn_mull, nn_lmul, nn_mod, nn_modl, nn_tmod, nn_tmodl, nn_tdiv, nn_tdivl, nn_div, nn_divl, nn_shr, nn_sub1, nn_lel, nn_lle, nn_ltl, nn_llt, nn_eql, nn_leq, nn_eq, nn_neg, nn_pos, h3, h5]
      (first | refine .inl ⟨_, r2, ?_⟩ | refine ⟨_, r2, ?_⟩)
      simp (config := { maxSteps := 2000000 }) -implicitDefEqProofs [-List.map_set, set_u16, -Int.natCast_add, -Int.natCast_mul, -Int.natCast_emod, -Int.natCast_ediv, -Int.natCast_pow, nn_add, nn_addl, nn_ladd, nn_mul, nn_mull, nn_lmul, nn_mod, nn_modl, nn_tmod, nn_tmodl, nn_tdiv, nn_tdivl, nn_div, nn_divl, nn_shr, nn_sub1, nn_lel, nn_lle, nn_ltl, nn_llt, nn_eql, nn_leq, nn_eq, nn_neg, nn_pos, Fct.res]

theorem refAngle01 (a b c d e f g h : Int) (h1 : ¬ cmpP (g, h) (a, b) < 0) (h2 : cmpP (e, f) (c, d) < 0) :
    CallsF Tryz.prog 33 [.agg [.int .i64 a, .int .i64 b], .agg [.int .i64 c, .int .i64 d], .agg [.int .i64 e, .int .i64 f], .agg [.int .i64 g, .int .i64 h]] (normAngF (a, b) (c, d) (e, f) (g, h)).res := by
  have b1 := below_c g h a b
  have b2 := below_c e f c d
  have s1 : srt2 (a, b) (g, h) = ((a, b), (g, h)) := by unfold srt2; rw [if_neg h1]
  have s2 : srt2 (c, d) (e, f) = ((e, f), (c, d)) := by unfold srt2; rw [if_pos h2]
  have b3 := below_c e f a b
  have b4 := below_c c d g h
  have r1 := args4_c e f a b g h c d
  have r2 := args4_c a b e f c d g h
  unfold normAngF
  rw [s1, s2]
  simp only [orP_lt]
  clear s1 s2
  refine callsF_of (T := tb) tab_ok mixed Tryz.func33 rfl (by decide) (Nat.le_of_ble_eq_true rfl) rfl ?_; unfold St.init
  by_cases h3 : cmpP (e, f) (a, b) < 0
  · rw [if_pos (.inl h3)]
    simp (config := { maxSteps := 2000000 }) -implicitDefEqProofs [-List.map_set, set_u16, -Int.natCast_add, -Int.natCast_mul, -Int.natCast_emod, -Int.natCast_ediv, -Int.natCast_pow, nn_add, nn_addl, nn_ladd, nn_mul, nn_mull, nn_lmul, nn_mod, nn_modl, nn_tmod, nn_tmodl, nn_tdiv, nn_tdivl, nn_div, nn_divl, nn_shr, nn_sub1, nn_lel, nn_lle, nn_ltl, nn_llt, nn_eql, nn_leq, nn_eq, nn_neg, nn_pos]
    (first | refine .inl ⟨_, b1, ?_⟩ | refine ⟨_, b1, ?_⟩)
    simp (config := { maxSteps := 2000000 }) -implicitDefEqProofs [-List.map_set, set_u16, -Int.natCast_add, -Int.natCast_mul, -Int.natCast_emod, -Int.natCast_ediv, -Int.natCast_pow, nn_add, nn_addl, nn_ladd, nn_mul, nn_mull, nn_lmul, nn_mod, nn_modl, nn_tmod, nn_tmodl, nn_tdiv, nn_tdivl, nn_div, nn_divl, nn_shr, nn_sub1, nn_lel, nn_lle, nn_ltl, nn_llt, nn_eql, nn_leq, nn_eq, nn_neg, nn_pos, h1]
    (first | refine .inl ⟨_, b2, ?_⟩ | refine ⟨_, b2, ?_⟩)
    simp (config := { maxSteps := 2000000 }) -implicitDefEqProofs [-List.map_set, set_u16, -Int.natCast_add, -Int.natCast_mul, -Int.natCast_emod, -Int.natCast_ediv, -Int.natCast_pow, nn_add, nn_addl, nn_ladd, nn_mul, nn_mull, nn_lmul, nn_mod, nn_modl, nn_tmod, nn_tmodl, nn_tdiv, nn_tdivl, nn_div, nn_divl, nn_shr, nn_sub1, nn_lel, nn_lle, nn_ltl, nn_llt, nn_eql, nn_leq, nn_eq, nn_neg, nn_pos, h2]
    (first | refine .inl ⟨_, b3, ?_⟩ | refine ⟨_, b3, ?_⟩)
    simp (config := { maxSteps := 2000000 }) -implicitDefEqProofs [-List.map_set, set_u16, -Int.natCast_add, -Int.natCast_mul, -Int.natCast_emod, -Int.natCast_ediv, -Int.natCast_pow, nn_add, nn_addl, nn_ladd, nn_mul, nn_mull, nn_lmul, nn_mod, nn_modl, nn_tmod, nn_tmodl, nn_tdiv, nn_tdivl, nn_div, nn_divl, nn_shr, nn_sub1, nn_lel, nn_lle, nn_ltl, nn_llt, nn_eql, nn_leq, nn_eq, nn_neg, nn_pos, h3]
    (first | refine .inl ⟨_, r1, ?_⟩ | refine ⟨_, r1, ?_⟩)
    simp (config := { maxSteps := 2000000 }) -implicitDefEqProofs [-List.map_set, set_u16, -Int.natCast_add, -Int.natCast_mul, -Int.natCast_emod, -Int.natCast_ediv, -Int.natCast_pow, nn_add, nn_addl, nn_ladd, nn_mul, nn_mull, nn_lmul, nn_mod, nn_modl, nn_tmod, nn_tmodl, nn_tdiv, nn_tdivl, nn_div, nn_divl, nn_shr, nn_sub1, nn_lel, nn_lle, nn_ltl, nn_llt, nn_eql, nn_leq, nn_eq, nn_neg, nn_pos, Fct.res]
  · by_cases h4 : e = a ∧ f = b
    · obtain ⟨h4, h5⟩ := h4
      have hB : (decide (a = e) && decide (b = f)) = true := by simp [h4, h5]
      by_cases h6 : cmpP (c, d) (g, h) < 0
      · rw [if_pos (.inr ⟨by rw [h4, h5], h6⟩)]
        simp (config := { maxSteps := 2000000 }) -implicitDefEqProofs [-List.map_set, set_u16, -Int.natCast_add, -Int.natCast_mul, -Int.natCast_emod, -Int.natCast_ediv, -Int.natCast_pow, nn_add, nn_addl, nn_ladd, nn_mul, nn_mull, nn_lmul, nn_mod, nn_modl, nn_tmod, nn_tmodl, nn_tdiv, nn_tdivl, nn_div, nn_divl, nn_shr, nn_sub1, nn_lel, nn_lle, nn_ltl, nn_llt, nn_eql, nn_leq, nn_eq, nn_neg, nn_pos]
        (first | refine .inl ⟨_, b1, ?_⟩ | refine ⟨_, b1, ?_⟩)
        simp (config := { maxSteps := 2000000 }) -implicitDefEqProofs [-List.map_set, set_u16, -Int.natCast_add, -Int.natCast_mul, -Int.natCast_emod, -Int.natCast_ediv, -Int.natCast_pow, nn_add, nn_addl, nn_ladd, nn_mul, nn_mull, nn_lmul, nn_mod, nn_modl, nn_tmod, nn_tmodl, nn_tdiv, nn_tdivl, nn_div, nn_divl, nn_shr, nn_sub1, nn_lel, nn_lle, nn_ltl, nn_llt, nn_eql, nn_leq, nn_eq, nn_neg, nn_pos, h1]
        (first | refine .inl ⟨_, b2, ?_⟩ | refine ⟨_, b2, ?_⟩)
        simp (config := { maxSteps := 2000000 }) -implicitDefEqProofs [-List.map_set, set_u16, -Int.natCast_add, -Int.natCast_mul, -Int.natCast_emod, -Int.natCast_ediv, -Int.natCast_pow, nn_add, nn_addl, nn_ladd, nn_mul, nn_mull, nn_lmul, nn_mod, nn_modl, nn_tmod, nn_tmodl, nn_tdiv, nn_tdivl, nn_div, nn_divl, nn_shr, nn_sub1, nn_lel, nn_lle, nn_ltl, nn_llt, nn_eql, nn_leq, nn_eq, nn_neg, nn_pos, h2]
        (first | refine .inl ⟨_, b3, ?_⟩ | refine ⟨_, b3, ?_⟩)
        simp (config := { maxSteps := 2000000 }) -implicitDefEqProofs [-List.map_set, set_u16, -Int.natCast_add, -Int.natCast_mul, -Int.natCast_emod, -Int.natCast_ediv, -Int.natCast_pow, nn_add, nn_addl, nn_ladd, nn_mul, nn_mull, nn_lmul, nn_mod, nn_modl, nn_tmod, nn_tmodl, nn_tdiv, nn_tdivl, nn_div, nn_divl, nn_shr, nn_sub1, nn_lel, nn_lle, nn_ltl, nn_llt, nn_eql, nn_leq, nn_eq, nn_neg, nn_pos, h3, hB]
        (first | refine .inl ⟨_, b4, ?_⟩ | refine ⟨_, b4, ?_⟩)
        simp (config := { maxSteps := 2000000 }) -implicitDefEqProofs [-List.map_set, set_u16, -Int.natCast_add, -Int.natCast_mul, -Int.natCast_emod, -Int.natCast_ediv, -Int.natCast_pow, nn_add, nn_addl, nn_ladd, nn_mul, nn_mull, nn_lmul, nn_mod, nn_modl, nn_tmod, nn_tmodl, nn_tdiv, nn_tdivl, nn_div, nn_divl, nn_shr, nn_sub1, nn_lel, nn_lle, nn_ltl, nn_llt, nn_eql, nn_leq, nn_eq, nn_neg, nn_pos, h6]
        (first | refine .inl ⟨_, r1, ?_⟩ | refine ⟨_, r1, ?_⟩)
        simp (config := { maxSteps := 2000000 }) -implicitDefEqProofs [-List.map_set, set_u16, -Int.natCast_add, -Int.natCast_mul, -Int.natCast_emod, -Int.natCast_ediv, -Int.natCast_pow, nn_add, nn_addl, nn_ladd, nn_mul, nn_mull, nn_lmul, nn_mod, nn_modl, nn_tmod, nn_tmodl, nn_tdiv, nn_tdivl, nn_div, nn_divl, nn_shr, nn_sub1, nn_lel, nn_lle, nn_ltl, nn_llt, nn_eql, nn_leq, nn_eq, nn_neg, nn_pos, Fct.res]
      · rw [if_neg (fun q => q.elim h3 fun q => h6 q.2)]
        simp (config := { maxSteps := 2000000 }) -implicitDefEqProofs [-List.map_set, set_u16, -Int.natCast_add, -Int.natCast_mul, -Int.natCast_emod, -Int.natCast_ediv, -Int.natCast_pow, nn_add, nn_addl, nn_ladd, nn_mul, nn_mull, nn_lmul, nn_mod, nn_modl, nn_tmod, nn_tmodl, nn_tdiv, nn_tdivl, nn_div, nn_divl, nn_shr, nn_sub1, nn_lel, nn_lle, nn_ltl, nn_llt, nn_eql, nn_leq, nn_eq, nn_neg, nn_pos]
        (first | refine .inl ⟨_, b1, ?_⟩ | refine ⟨_, b1, ?_⟩)
        simp (config := { maxSteps := 2000000 }) -implicitDefEqProofs [-List.map_set, set_u16, -Int.natCast_add, -Int.natCast_mul, -Int.natCast_emod, -Int.natCast_ediv, -Int.natCast_pow, nn_add, nn_addl, nn_ladd, nn_mul, nn_mull, nn_lmul, nn_mod, nn_modl, nn_tmod, nn_tmodl, nn_tdiv, nn_tdivl, nn_div, nn_divl, nn_shr, nn_sub1, nn_lel, nn_lle, nn_ltl, nn_llt, nn_eql, nn_leq, nn_eq, nn_neg, nn_pos, h1]
        (first | refine .inl ⟨_, b2, ?_⟩ | refine ⟨_, b2, ?_⟩)
        simp (config := { maxSteps := 2000000 }) -implicitDefEqProofs [-List.map_set, set_u16, -Int.natCast_add, -Int.natCast_mul, -Int.natCast_emod, -Int.natCast_ediv, -Int.natCast_pow, nn_add, nn_addl, nn_ladd, nn_mul, nn_mull, nn_lmul, nn_mod, nn_modl, nn_tmod, nn_tmodl, nn_tdiv, nn_tdivl, nn_div, nn_divl, nn_shr, nn_sub1, nn_lel, nn_lle, nn_ltl, nn_llt, nn_eql, nn_leq, nn_eq, nn_neg, nn_pos, h2]
        (first | refine .inl ⟨_, b3, ?_⟩ | refine ⟨_, b3, ?_⟩)
        simp (config := { maxSteps := 2000000 }) -implicitDefEqProofs [-List.map_set, set_u16, -Int.natCast_add, -Int.natCast_mul, -Int.natCast_emod, -Int.natCast_ediv, -Int.natCast_pow, nn_add, nn_addl, nn_ladd, nn_mul, nn_mull, nn_lmul, nn_mod, nn_modl, nn_tmod, nn_tmodl, nn_tdiv, nn_tdivl, nn_div, nn_divl, nn_shr, nn_sub1, nn_lel, nn_lle, nn_ltl, nn_llt, nn_eql, nn_leq, nn_eq, nn_neg, nn_pos, h3, hB]
        (first | refine .inl ⟨_, b4, ?_⟩ | refine ⟨_, b4, ?_⟩)
        simp (config := { maxSteps := 2000000 }) -implicitDefEqProofs [-List.map_set, set_u16, -Int.natCast_add, -Int.natCast_mul, -Int.natCast_emod, -Int.natCast_ediv, -Int.natCast_pow, nn_add, nn_addl, nn_ladd, nn_mul, nn_mull, nn_lmul, nn_mod, nn_modl, nn_tmod, nn_tmodl, nn_tdiv, nn_tdivl, nn_div, nn_divl, nn_shr, nn_sub1, nn_lel, nn_lle, nn_ltl, nn_llt, nn_eql, nn_leq, nn_eq, nn_neg, nn_pos, h6]
        (first | refine .inl ⟨_, r2, ?_⟩ | refine ⟨_, r2, ?_⟩)
        simp (config := { maxSteps := 2000000 }) -implicitDefEqProofs [-List.map_set, set_u16, -Int.natCast_add, -Int.natCast_mul, -Int.natCast_emod, -Int.natCast_ediv, -Int.natCast_pow, nn_add, nn_addl, nn_ladd, nn_mul, nn_mull, nn_lmul, nn_mod, nn_modl, nn_tmod, nn_tmodl, nn_tdiv, nn_tdivl, nn_div, nn_divl, nn_shr, nn_sub1, nn_lel, nn_lle, nn_ltl, nn_llt, nn_eql, nn_leq, nn_eq, nn_neg, nn_pos, Fct.res]
    · have h5 : (decide (a = e) && decide (b = f)) = false := by
        simp only [Bool.and_eq_false_iff, decide_eq_false_iff_not]
        by_cases q : a = e
        · exact .inr fun q2 => h4 ⟨q.symm, q2.symm⟩
        · exact .inl q
      rw [if_neg (fun q => q.elim h3 fun q => h4 (by simpa using q.1))]
      simp (config := { maxSteps := 2000000 }) -implicitDefEqProofs [-List.map_set, set_u16, -Int.natCast_add, -Int.natCast_mul, -Int.natCast_emod, -Int.natCast_ediv, -Int.natCast_pow, nn_add, nn_addl, nn_ladd, nn_mul, nn_mull, nn_lmul, nn_mod, nn_modl, nn_tmod, nn_tmodl, nn_tdiv, nn_tdivl, nn_div, nn_divl, nn_shr, nn_sub1, nn_lel, nn_lle, nn_ltl, nn_llt, nn_eql, nn_leq, nn_eq, nn_neg, nn_pos]
      (first | refine .inl ⟨_, b1, ?_⟩ | refine ⟨_, b1, ?_⟩)
      simp (config := { maxSteps := 2000000 }) -implicitDefEqProofs [-List.map_set, set_u16, -Int.natCast_add, -Int.natCast_mul, -Int.natCast_emod, -Int.natCast_ediv, -Int.natCast_pow, nn_add, nn_addl, nn_ladd, nn_mul, nn_mull, nn_lmul, nn_mod, nn_modl, nn_tmod, nn_tmodl, nn_tdiv, nn_tdivl, nn_div, nn_divl, nn_shr, nn_sub1, nn_lel, nn_lle, nn_ltl, nn_llt, nn_eql, nn_leq, nn_eq, nn_neg, nn_pos, h1]
      (first | refine .inl ⟨_, b2, ?_⟩ | refine ⟨_, b2, ?_⟩)
      simp (config := { maxSteps := 2000000 }) -implicitDefEqProofs [-List.map_set, set_u16, -Int.natCast_add, -Int.natCast_mul, -Int.natCast_emod, -Int.natCast_ediv, -Int.natCast_pow, nn_add, nn_addl, nn_ladd, nn_mul, nn_mull, nn_lmul, nn_mod, nn_modl, nn_tmod, nn_tmodl, nn_tdiv, nn_tdivl, nn_div, nn_divl, nn_shr, nn_sub1, nn_lel, nn_lle, nn_ltl, nn_llt, nn_eql, nn_leq, nn_eq, nn_neg, nn_pos, h2]
      (first | refine .inl ⟨_, b3, ?_⟩ | refine ⟨_, b3, ?_⟩)
      simp (config := { maxSteps := 2000000 }) -implicitDefEqProofs [-List.map_set, set_u16, -Int.natCast_add, -Int.natCast_mul, -Int.natCast_emod, -Int.natCast_ediv, -Int.natCast_pow, nn_add, nn_addl, nn_ladd, nn_mul, nn_mull, nn_lmul, nn_mod, nn_modl, nn_tmod, nn_tmodl, nn_tdiv, nn_tdivl, nn_div, nn_divl, nn_shr, nn_sub1, nn_lel, nn_lle, nn_ltl, nn_llt, nn_eql, nn_leq, nn_eq, nn_neg, nn_pos, h3, h5]
      (first | refine .inl ⟨_, r2, ?_⟩ | refine ⟨_, r2, ?_⟩)
      simp (config := { maxSteps := 2000000 }) -implicitDefEqProofs [-List.map_set, set_u16, -Int.natCast_add, -Int.natCast_mul, -Int.natCast_emod, -Int.natCast_ediv, -Int.natCast_pow, nn_add, nn_addl, nn_ladd, nn_mul, nn_mull, nn_lmul, nn_mod, nn_modl, nn_tmod, nn_tmodl, nn_tdiv, nn_tdivl, nn_div, nn_divl, nn_shr, nn_sub1, nn_lel, nn_lle, nn_ltl, nn_llt, nn_eql, nn_leq, nn_eq, nn_neg, nn_pos, Fct.res]

theorem refAngle00 (a b c d e f g h : Int) (h1 : ¬ cmpP (g, h) (a, b) < 0) (h2 : ¬ cmpP (e, f) (c, d) < 0) :
    CallsF Tryz.prog 33 [.agg [.int .i64 a, .int .i64 b], .agg [.int .i64 c, .int .i64 d], .agg [.int .i64 e, .int .i64 f], .agg [.int .i64 g, .int .i64 h]] (normAngF (a, b) (c, d) (e, f) (g, h)).res := by
  have b1 := below_c g h a b
  have b2 := below_c e f c d
  have s1 : srt2 (a, b) (g, h) = ((a, b), (g, h)) := by unfold srt2; rw [if_neg h1]
  have s2 : srt2 (c, d) (e, f) = ((c, d), (e, f)) := by unfold srt2; rw [if_neg h2]
  have b3 := below_c c d a b
  have b4 := below_c e f g h
  have r1 := args4_c c d a b g h e f
  have r2 := args4_c a b c d e f g h
  unfold normAngF
  rw [s1, s2]
  simp only [orP_lt]
  clear s1 s2
  refine callsF_of (T := tb) tab_ok mixed Tryz.func33 rfl (by decide) (Nat.le_of_ble_eq_true rfl) rfl ?_; unfold St.init
  by_cases h3 : cmpP (c, d) (a, b) < 0
  · rw [if_pos (.inl h3)]
    simp (config := { maxSteps := 2000000 }) -implicitDefEqProofs [-List.map_set, set_u16, -Int.natCast_add, -Int.natCast_mul, -Int.natCast_emod, -Int.natCast_ediv, -Int.natCast_pow, nn_add, nn_addl, nn_ladd, nn_mul, nn_mull, nn_lmul, nn_mod, nn_modl, nn_tmod, nn_tmodl, nn_tdiv, nn_tdivl, nn_div, nn_divl, nn_shr, nn_sub1, nn_lel, nn_lle, nn_ltl, nn_llt, nn_eql, nn_leq, nn_eq, nn_neg, nn_pos]
    (first | refine .inl ⟨_, b1, ?_⟩ | refine ⟨_, b1, ?_⟩)
    simp (config := { maxSteps := 2000000 }) -implicitDefEqProofs [-List.map_set, set_u16, -Int.natCast_add, -Int.natCast_mul, -Int.natCast_emod, -Int.natCast_ediv, -Int.natCast_pow, nn_add, nn_addl, nn_ladd, nn_mul, nn_mull, nn_lmul, nn_mod, nn_modl, nn_tmod, nn_tmodl, nn_tdiv, nn_tdivl, nn_div, nn_divl, nn_shr, nn_sub1, nn_lel, nn_lle, nn_ltl, nn_llt, nn_eql, nn_leq, nn_eq, nn_neg, nn_pos, h1]
    (first | refine .inl ⟨_, b2, ?_⟩ | refine ⟨_, b2, ?_⟩)
    simp (config := { maxSteps := 2000000 }) -implicitDefEqProofs [-List.map_set, set_u16, -Int.natCast_add, -Int.natCast_mul, -Int.natCast_emod, -Int.natCast_ediv, -Int.natCast_pow, nn_add, nn_addl, nn_ladd, nn_mul, nn_mull, nn_lmul, nn_mod, nn_modl, nn_tmod, nn_tmodl, nn_tdiv, nn_tdivl, nn_div, nn_divl, nn_shr, nn_sub1, nn_lel, nn_lle, nn_ltl, nn_llt, nn_eql, nn_leq, nn_eq, nn_neg, nn_pos, h2]
    (first | refine .inl ⟨_, b3, ?_⟩ | refine ⟨_, b3, ?_⟩)
    simp (config := { maxSteps := 2000000 }) -implicitDefEqProofs [-List.map_set, set_u16, -Int.natCast_add, -Int.natCast_mul, -Int.natCast_emod, -Int.natCast_ediv, -Int.natCast_pow, nn_add, nn_addl, nn_ladd, nn_mul, nn_mull, nn_lmul, nn_mod, nn_modl, nn_tmod, nn_tmodl, nn_tdiv, nn_tdivl, nn_div, nn_divl, nn_shr, nn_sub1, nn_lel, nn_lle, nn_ltl, nn_llt, nn_eql, nn_leq, nn_eq, nn_neg, nn_pos, h3]
    (first | refine .inl ⟨_, r1, ?_⟩ | refine ⟨_, r1, ?_⟩)
    simp (config := { maxSteps := 2000000 }) -implicitDefEqProofs [-List.map_set, set_u16, -Int.natCast_add, -Int.natCast_mul, -Int.natCast_emod, -Int.natCast_ediv, -Int.natCast_pow, nn_add, nn_addl, nn_ladd, nn_mul, nn_mull, nn_lmul, nn_mod, nn_modl, nn_tmod, nn_tmodl, nn_tdiv, nn_tdivl, nn_div, nn_divl, nn_shr, nn_sub1, nn_lel, nn_lle, nn_ltl, nn_llt, nn_eql, nn_leq, nn_eq, nn_neg, nn_pos, Fct.res]
  · by_cases h4 : c = a ∧ d = b
    · obtain ⟨h4, h5⟩ := h4
      have hB : (decide (a = c) && decide (b = d)) = true := by simp [h4, h5]
      by_cases h6 : cmpP (e, f) (g, h) < 0
      · rw [if_pos (.inr ⟨by rw [h4, h5], h6⟩)]
        simp (config := { maxSteps := 2000000 }) -implicitDefEqProofs [-List.map_set, set_u16, -Int.natCast_add, -Int.natCast_mul, -Int.natCast_emod, -Int.natCast_ediv, -Int.natCast_pow, nn_add, nn_addl, nn_ladd, nn_mul, nn_mull, nn_lmul, nn_mod, nn_modl, nn_tmod, nn_tmodl, nn_tdiv, nn_tdivl, nn_div, nn_divl, nn_shr, nn_sub1, nn_lel, nn_lle, nn_ltl, nn_llt, nn_eql, nn_leq, nn_eq, nn_neg, nn_pos]
        (first | refine .inl ⟨_, b1, ?_⟩ | refine ⟨_, b1, ?_⟩)
        simp (config := { maxSteps := 2000000 }) -implicitDefEqProofs [-List.map_set, set_u16, -Int.natCast_add, -Int.natCast_mul, -Int.natCast_emod, -Int.natCast_ediv, -Int.natCast_pow, nn_add, nn_addl, nn_ladd, nn_mul, nn_mull, nn_lmul, nn_mod, nn_modl, nn_tmod, nn_tmodl, nn_tdiv, nn_tdivl, nn_div, nn_divl, nn_shr, nn_sub1, nn_lel, nn_lle, nn_ltl, nn_llt, nn_eql, nn_leq, nn_eq, nn_neg, nn_pos, h1]
        (first | refine .inl ⟨_, b2, ?_⟩ | refine ⟨_, b2, ?_⟩)
        simp (config := { maxSteps := 2000000 }) -implicitDefEqProofs [-List.map_set, set_u16, -Int.natCast_add, -Int.natCast_mul, -Int.natCast_emod, -Int.natCast_ediv, -Int.natCast_pow, nn_add, nn_addl, nn_ladd, nn_mul, nn_mull, nn_lmul, nn_mod, nn_modl, nn_tmod, nn_tmodl, nn_tdiv, nn_tdivl, nn_div, nn_divl, nn_shr, nn_sub1, nn_lel, nn_lle, nn_ltl, nn_llt, nn_eql, nn_leq, nn_eq, nn_neg, nn_pos, h2]
        (first | refine .inl ⟨_, b3, ?_⟩ | refine ⟨_, b3, ?_⟩)
        simp (config := { maxSteps := 2000000 }) -implicitDefEqProofs [-List.map_set, set_u16, -Int.natCast_add, -Int.natCast_mul, -Int.natCast_emod, -Int.natCast_ediv, -Int.natCast_pow, nn_add, nn_addl, nn_ladd, nn_mul, nn_mull, nn_lmul, nn_mod, nn_modl, nn_tmod, nn_tmodl, nn_tdiv, nn_tdivl, nn_div, nn_divl, nn_shr, nn_sub1, nn_lel, nn_lle, nn_ltl, nn_llt, nn_eql, nn_leq, nn_eq, nn_neg, nn_pos, h3, hB]
        (first | refine .inl ⟨_, b4, ?_⟩ | refine ⟨_, b4, ?_⟩)
        simp (config := { maxSteps := 2000000 }) -implicitDefEqProofs [-List.map_set, set_u16, -Int.natCast_add, -Int.natCast_mul, -Int.natCast_emod, -Int.natCast_ediv, -Int.natCast_pow, nn_add, nn_addl, nn_ladd, nn_mul, nn_mull, nn_lmul, nn_mod, nn_modl, nn_tmod, nn_tmodl, nn_tdiv, nn_tdivl, nn_div, nn_divl, nn_shr, nn_sub1, nn_lel, nn_lle, nn_ltl, nn_llt, nn_eql, nn_leq, nn_eq, nn_neg, nn_pos, h6]
        (first | refine .inl ⟨_, r1, ?_⟩ | refine ⟨_, r1, ?_⟩)
        simp (config := { maxSteps := 2000000 }) -implicitDefEqProofs [-List.map_set, set_u16, -Int.natCast_add, -Int.natCast_mul, -Int.natCast_emod, -Int.natCast_ediv, -Int.natCast_pow, nn_add, nn_addl, nn_ladd, nn_mul, nn_mull, nn_lmul, nn_mod, nn_modl, nn_tmod, nn_tmodl, nn_tdiv, nn_tdivl, nn_div, nn_divl, nn_shr, nn_sub1, nn_lel, nn_lle, nn_ltl, nn_llt, nn_eql, nn_leq, nn_eq, nn_neg, nn_pos, Fct.res]
      · rw [if_neg (fun q => q.elim h3 fun q => h6 q.2)]
        simp (config := { maxSteps := 2000000 }) -implicitDefEqProofs [-List.map_set, set_u16, -Int.natCast_add, -Int.natCast_mul, -Int.natCast_emod, -Int.natCast_ediv, -Int.natCast_pow, nn_add, nn_addl, nn_ladd, nn_mul, nn_mull, nn_lmul, nn_mod, nn_modl, nn_tmod, nn_tmodl, nn_tdiv, nn_tdivl, nn_div, nn_divl, nn_shr, nn_sub1, nn_lel, nn_lle, nn_ltl, nn_llt, nn_eql, nn_leq, nn_eq, nn_neg, nn_pos]
        (first | refine .inl ⟨_, b1, ?_⟩ | refine ⟨_, b1, ?_⟩)
        simp (config := { maxSteps := 2000000 }) -implicitDefEqProofs [-List.map_set, set_u16, -Int.natCast_add, -Int.natCast_mul, -Int.natCast_emod, -Int.natCast_ediv, -Int.natCast_pow, nn_add, nn_addl, nn_ladd, nn_mul, nn_mull, nn_lmul, nn_mod, nn_modl, nn_tmod, nn_tmodl, nn_tdiv, nn_tdivl, nn_div, nn_divl, nn_shr, nn_sub1, nn_lel, nn_lle, nn_ltl, nn_llt, nn_eql, nn_leq, nn_eq, nn_neg, nn_pos, h1]
        (first | refine .inl ⟨_, b2, ?_⟩ | refine ⟨_, b2, ?_⟩)
        simp (config := { maxSteps := 2000000 }) -implicitDefEqProofs [-List.map_set, set_u16, -Int.natCast_add, -Int.natCast_mul, -Int.natCast_emod, -Int.natCast_ediv, -Int.natCast_pow, nn_add, nn_addl, nn_ladd, nn_mul, nn_mull, nn_lmul, nn_mod, nn_modl, nn_tmod, nn_tmodl, nn_tdiv, nn_tdivl, nn_div, nn_divl, nn_shr, nn_sub1, nn_lel, nn_lle, nn_ltl, nn_llt, nn_eql, nn_leq, nn_eq, nn_neg, nn_pos, h2]
        (first | refine .inl ⟨_, b3, ?_⟩ | refine ⟨_, b3, ?_⟩)
        simp (config := { maxSteps := 2000000 }) -implicitDefEqProofs [-List.map_set, set_u16, -Int.natCast_add, -Int.natCast_mul, -Int.natCast_emod, -Int.natCast_ediv, -Int.natCast_pow, nn_add, nn_addl, nn_ladd, nn_mul, nn_mull, nn_lmul, nn_mod, nn_modl, nn_tmod, nn_tmodl, nn_tdiv, nn_tdivl, nn_div, nn_divl, nn_shr, nn_sub1, nn_lel, nn_lle, nn_ltl, nn_llt, nn_eql, nn_leq, nn_eq, nn_neg, nn_pos, h3, hB]
        (first | refine .inl ⟨_, b4, ?_⟩ | refine ⟨_, b4, ?_⟩)
        simp (config := { maxSteps := 2000000 }) -implicitDefEqProofs [-List.map_set, set_u16, -Int.natCast_add, -Int.natCast_mul, -Int.natCast_emod, -Int.natCast_ediv, -Int.natCast_pow, nn_add, nn_addl, nn_ladd, nn_mul, nn_mull, nn_lmul, nn_mod, nn_modl, nn_tmod, nn_tmodl, nn_tdiv, nn_tdivl, nn_div, nn_divl, nn_shr, nn_sub1, nn_lel, nn_lle, nn_ltl, nn_llt, nn_eql, nn_leq, nn_eq, nn_neg, nn_pos, h6]
        (first | refine .inl ⟨_, r2, ?_⟩ | refine ⟨_, r2, ?_⟩)
        simp (config := { maxSteps := 2000000 }) -implicitDefEqProofs [-List.map_set, set_u16, -Int.natCast_add, -Int.natCast_mul, -Int.natCast_emod, -Int.natCast_ediv, -Int.natCast_pow, nn_add, nn_addl, nn_ladd, nn_mul, nn_mull, nn_lmul, nn_mod, nn_modl, nn_tmod, nn_tmodl, nn_tdiv, nn_tdivl, nn_div, nn_divl, nn_shr, nn_sub1, nn_lel, nn_lle, nn_ltl, nn_llt, nn_eql, nn_leq, nn_eq, nn_neg, nn_pos, Fct.res]
    · have h5 : (decide (a = c) && decide (b = d)) = false := by
        simp only [Bool.and_eq_false_iff, decide_eq_false_iff_not]
        by_cases q : a = c
        · exact .inr fun q2 => h4 ⟨q.symm, q2.symm⟩
        · exact .inl q
      rw [if_neg (fun q => q.elim h3 fun q => h4 (by simpa using q.1))]
      simp (config := { maxSteps := 2000000 }) -implicitDefEqProofs [-List.map_set, set_u16, -Int.natCast_add, -Int.natCast_mul, -Int.natCast_emod, -Int.natCast_ediv, -Int.natCast_pow, nn_add, nn_addl, nn_ladd, nn_mul, nn_mull, nn_lmul, nn_mod, nn_modl, nn_tmod, nn_tmodl, nn_tdiv, nn_tdivl, nn_div, nn_divl, nn_shr, nn_sub1, nn_lel, nn_lle, nn_ltl, nn_llt, nn_eql, nn_leq, nn_eq, nn_neg, nn_pos]
      (first | refine .inl ⟨_, b1, ?_⟩ | refine ⟨_, b1, ?_⟩)
      simp (config := { maxSteps := 2000000 }) -implicitDefEqProofs [-List.map_set, set_u16, -Int.natCast_add, -Int.natCast_mul, -Int.natCast_emod, -Int.natCast_ediv, -Int.natCast_pow, nn_add, nn_addl, nn_ladd, nn_mul, nn_mull, nn_lmul, nn_mod, nn_modl, nn_tmod, nn_tmodl, nn_tdiv, nn_tdivl, nn_div, nn_divl, nn_shr, nn_sub1, nn_lel, nn_lle, nn_ltl, nn_llt, nn_eql, nn_leq, nn_eq, nn_neg, nn_pos, h1]
      (first | refine .inl ⟨_, b2, ?_⟩ | refine ⟨_, b2, ?_⟩)
      simp (config := { maxSteps := 2000000 }) -implicitDefEqProofs [-List.map_set, set_u16, -Int.natCast_add, -Int.natCast_mul, -Int.natCast_emod, -Int.natCast_ediv, -Int.natCast_pow, nn_add, nn_addl, nn_ladd, nn_mul, nn_mull, nn_lmul, nn_mod, nn_modl, nn_tmod, nn_tmodl, nn_tdiv, nn_tdivl, nn_div, nn_divl, nn_shr, nn_sub1, nn_lel, nn_lle, nn_ltl, nn_llt, nn_eql, nn_leq, nn_eq, nn_neg, nn_pos, h2]
      (first | refine .inl ⟨_, b3, ?_⟩ | refine ⟨_, b3, ?_⟩)
      simp (config := { maxSteps := 2000000 }) -implicitDefEqProofs [-List.map_set, set_u16, -Int.natCast_add, -Int.natCast_mul, -Int.natCast_emod, -Int.natCast_ediv, -Int.natCast_pow, nn_add, nn_addl, nn_ladd, nn_mul, nn_mull, nn_lmul, nn_mod, nn_modl, nn_tmod, nn_tmodl, nn_tdiv, nn_tdivl, nn_div, nn_divl, nn_shr, nn_sub1, nn_lel, nn_lle, nn_ltl, nn_llt, nn_eql, nn_leq, nn_eq, nn_neg, nn_pos, h3, h5]
      (first | refine .inl ⟨_, r2, ?_⟩ | refine ⟨_, r2, ?_⟩)
      simp (config := { maxSteps := 2000000 }) -implicitDefEqProofs [-List.map_set, set_u16, -Int.natCast_add, -Int.natCast_mul, -Int.natCast_emod, -Int.natCast_ediv, -Int.natCast_pow, nn_add, nn_addl, nn_ladd, nn_mul, nn_mull, nn_lmul, nn_mod, nn_modl, nn_tmod, nn_tmodl, nn_tdiv, nn_tdivl, nn_div, nn_divl, nn_shr, nn_sub1, nn_lel, nn_lle, nn_ltl, nn_llt, nn_eql, nn_leq, nn_eq, nn_neg, nn_pos, Fct.res]

theorem refAngle_c (a b c d e f g h : Int) :
    CallsF Tryz.prog 33 [.agg [.int .i64 a, .int .i64 b], .agg [.int .i64 c, .int .i64 d], .agg [.int .i64 e, .int .i64 f], .agg [.int .i64 g, .int .i64 h]] (normAngF (a, b) (c, d) (e, f) (g, h)).res := by
  by_cases h1 : cmpP (g, h) (a, b) < 0
  · by_cases h2 : cmpP (e, f) (c, d) < 0
    · exact refAngle11 a b c d e f g h h1 h2
    · exact refAngle10 a b c d e f g h h1 h2
  · by_cases h2 : cmpP (e, f) (c, d) < 0
    · exact refAngle01 a b c d e f g h h1 h2
    · exact refAngle00 a b c d e f g h h1 h2

end Go.Va
