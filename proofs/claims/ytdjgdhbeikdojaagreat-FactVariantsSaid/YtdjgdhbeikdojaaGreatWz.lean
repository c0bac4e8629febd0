/-
  Contracts: the document's facts: the variants of a fact of two segments.
-/
import Derived.Test.YtdjgdhbeikdojaaGreatWy
set_option linter.all false

namespace Go.Va
open Go.Proofs
set_option maxHeartbeats 4000000
set_option maxRecDepth 10000
set_option linter.unusedSimpArgs false
set_option linter.unusedVariables false

def pzF (a b : Int) (i : Nat) : Int × Int := trn a b ((i % 2 : Nat) : Int)
def qzF (c e : Int) (i : Nat) : Int × Int := trn c e ((i / 2 : Nat) : Int)
def vArg (a b c e : Int) (i : Nat) : List Int := [(pzF a b i).1, (pzF a b i).2, (qzF c e i).1, (qzF c e i).2]
def wArg (a b c e : Int) (i : Nat) : List Int := [(qzF c e i).1, (qzF c e i).2, (pzF a b i).1, (pzF a b i).2]
def stp4 (k : Int) (n : Bool) (m d m2 d2 : List Nat) (a b c e : Int) (i : Nat) : List Fct := [⟨k, vArg a b c e i, n, m, d⟩, ⟨k, wArg a b c e i, n, m2, d2⟩]
def one4 (n : Bool) (m d : List Nat) (a b c e : Int) (i : Nat) : List Fct := [⟨9, vArg a b c e i, n, m, d⟩]
def accS (S : Nat → List Fct) (n : Nat) : List Fct := ((List.range n).map S).foldl putsF []
theorem accS_succ (S : Nat → List Fct) (n : Nat) : accS S (n + 1) = putsF (accS S n) (S n) := fold_next S n
theorem accS_ok {S : Nat → List Fct} (h : ∀ i, ∀ x ∈ S i, x.Mild ∧ x.Val) {n : Nat} {x : Fct} (hx : x ∈ accS S n) : x.Mild ∧ x.Val := by
  rcases foldl_sub hx with h' | ⟨L, h1, h2⟩
  · cases h'
  · obtain ⟨t, _, rfl⟩ := List.mem_map.1 h1
    exact h t x h2
theorem accS_len {S : Nat → List Fct} (h : ∀ i, (S i).length ≤ 2) (n : Nat) : (accS S n).length ≤ n * 2 := by
  have := foldl_len (b := 2) (A := []) (Ls := (List.range n).map S) (fun L hL => by
    obtain ⟨t, _, rfl⟩ := List.mem_map.1 hL
    exact h t)
  simpa [accS] using this
theorem putOk {A : List Fct} {f : Fct} (hA : ∀ x ∈ A, x.Mild ∧ x.Val) (hf : f.Mild ∧ f.Val) : ∀ x ∈ putF A f, x.Mild ∧ x.Val := fun x hx => by
  rcases putF_sub hx with rfl | hx
  · exact hf
  · exact hA x hx

theorem variantsA_c (k : Int) (hk : k = 2 ∨ k = 3 ∨ k = 4) (a b c e : Int) (n : Bool) (m d : List Nat)
    (hr : okF ⟨k, [a, b, c, e], n, m, d⟩ = true) (hm : (Fct.mk k [a, b, c, e] n m d).Mild) :
    CallsF Tryz.prog 23 [.agg [.int .i64 k, intsD [a, b, c, e], .bool n, natD m, natD d]] (.u (.c (.d (fctsD (accS (stp4 k n m d m d a b c e) 4))))) := by
  have k1 := ref37Right_c ⟨k, [a, b, c, e], n, m, d⟩ hm
  rw [hr] at k1
  have ok : ∀ i, ∀ x ∈ stp4 k n m d m d a b c e i, x.Mild ∧ x.Val := fun i x hx => by
    have h9 : k ≠ 9 := by omega
    rcases List.mem_cons.1 hx with rfl | hx
    · exact ⟨⟨hm.la, hm.ld, hm.oa, hm.od, by simp [vArg]⟩, fun h => absurd h h9⟩
    · rcases List.mem_cons.1 hx with rfl | hx
      · exact ⟨⟨hm.la, hm.ld, hm.oa, hm.od, by simp [wArg]⟩, fun h => absurd h h9⟩
      · cases hx
  have okA := fun t x (hx : x ∈ accS (stp4 k n m d m d a b c e) t) => accS_ok ok hx
  have lnA := accS_len (S := stp4 k n m d m d a b c e) (fun i => by simp [stp4])
  have P1 := fun t (ht : t < 4) => put_c ⟨k, vArg a b c e t, n, m, d⟩ (accS (stp4 k n m d m d a b c e) t) (ok t _ (by simp [stp4])).1 (ok t _ (by simp [stp4])).2 (fun y hy => (okA t y hy).1) (fun y hy => (okA t y hy).2) (by have := lnA t; omega)
  have P2 := fun t (ht : t < 4) => put_c ⟨k, wArg a b c e t, n, m, d⟩ (putF (accS (stp4 k n m d m d a b c e) t) ⟨k, vArg a b c e t, n, m, d⟩) (ok t _ (by simp [stp4])).1 (ok t _ (by simp [stp4])).2
    (fun y hy => (putOk (okA t) (ok t _ (by simp [stp4])) y hy).1) (fun y hy => (putOk (okA t) (ok t _ (by simp [stp4])) y hy).2) (by have := lnA t; have := putF_len ⟨k, vArg a b c e t, n, m, d⟩ (accS (stp4 k n m d m d a b c e) t); omega)
  have E2 : ∀ t, putF (putF (accS (stp4 k n m d m d a b c e) t) ⟨k, vArg a b c e t, n, m, d⟩) ⟨k, wArg a b c e t, n, m, d⟩ = accS (stp4 k n m d m d a b c e) (t + 1) := fun t => by
    rw [accS_succ]; rfl
  simp only [E2] at P2
  generalize hS : accS (stp4 k n m d m d a b c e) = S at *
  have S0 : S 0 = [] := by rw [← hS]; rfl
  have F1 := fun t => fact_c ⟨k, [a, b, c, e], n, m, d⟩ (vArg a b c e t) (by simp [vArg])
  have F2 := fun t => fact_c ⟨k, [a, b, c, e], n, m, d⟩ (wArg a b c e t) (by simp [wArg])
  have T1 := fun t : Nat => turned_c a b ((t % 2 : Nat) : Int)
  have T2 := fun t : Nat => turned_c c e ((t / 2 : Nat) : Int)
  clear ok okA lnA E2 hS hm hr
  have i1 : ¬ k = 1 := by omega
  have i5 : ¬ k = 5 := by omega
  have i6 : ¬ k = 6 := by omega
  have i7 : ¬ k = 7 := by omega
  have i8 : ¬ k = 8 := by omega
  have i9 : ¬ k = 9 := by omega
  simp only [Fct.ds, Fct.res] at *
  refine callsF_of (T := tb) tab_ok mixed Tryz.func23 rfl (by decide) (Nat.le_of_ble_eq_true rfl) rfl ?_; unfold St.init
  simp (config := { maxSteps := 2000000 }) -implicitDefEqProofs [-List.map_set, set_u16, -Int.natCast_add, -Int.natCast_mul, -Int.natCast_emod, -Int.natCast_ediv, -Int.natCast_pow, nn_add, nn_addl, nn_ladd, nn_mul, nn_mull, nn_lmul, nn_mod, nn_modl, nn_tmod, nn_tmodl, nn_tdiv, nn_tdivl, nn_div, nn_divl, nn_shr, nn_sub1, nn_lel, nn_lle, nn_ltl, nn_llt, nn_eql, nn_leq, nn_eq, nn_neg, nn_pos]
  (first | refine .inl ⟨_, k1, ?_⟩ | refine ⟨_, k1, ?_⟩)
  simp (config := { maxSteps := 2000000 }) -implicitDefEqProofs [-List.map_set, set_u16, -Int.natCast_add, -Int.natCast_mul, -Int.natCast_emod, -Int.natCast_ediv, -Int.natCast_pow, nn_add, nn_addl, nn_ladd, nn_mul, nn_mull, nn_lmul, nn_mod, nn_modl, nn_tmod, nn_tmodl, nn_tdiv, nn_tdivl, nn_div, nn_divl, nn_shr, nn_sub1, nn_lel, nn_lle, nn_ltl, nn_llt, nn_eql, nn_leq, nn_eq, nn_neg, nn_pos, i1, i5, i6, i7, i8]
  refine wpLoop_of (fun x : Nat × Bool => match x with
        | (i, false) => ⟨[(6, vI .i64 i), (5, vC (.sl 5 0 0)), (3, vC (.d (intsD [a, b, c, e]))), (1, vC (.ptr 1 0))], [(5, .row 5 [] true), (1, .box [.d (.int .i64 k), .d (intsD [a, b, c, e]), .d (.bool n), .d (natD m), .d (natD d)])]⟩
        | (i, true) => ⟨[(6, vI .i64 i), (5, vC (.d (fctsD (S i)))), (3, vC (.d (intsD [a, b, c, e]))), (1, vC (.ptr 1 0))], [(1, .box [.d (.int .i64 k), .d (intsD [a, b, c, e]), .d (.bool n), .d (natD m), .d (natD d)])]⟩)
      (fun x => x.1 ≤ 4 ∧ (x.2 = false ∧ x.1 = 0 ∨ x.1 ≠ 0 ∧ x.2 = true)) (fun x => 4 - x.1) (0, false) (by simp) (by simp) ?_
  rintro ⟨t, o⟩ ⟨h1, h2⟩
  simp only at h1 h2
  by_cases h : t < 4
  · have P1 := P1 t h
    have P2 := P2 t h
    have F1 := F1 t
    have F2 := F2 t
    have T1 := T1 t
    have T2 := T2 t
    have e1 : pzF a b t = trn a b ((t % 2 : Nat) : Int) := rfl
    have e2 : qzF c e t = trn c e ((t / 2 : Nat) : Int) := rfl
    unfold vArg wArg at *
    rw [← e1] at T1
    rw [← e2] at T2
    generalize pzF a b t = x at *
    generalize qzF c e t = y at *
    clear e1 e2
    rcases h2 with ⟨rfl, h2⟩ | ⟨h2, rfl⟩
    · rw [show fctsD (S t) = D.slice 0 [] from by rw [h2, S0]; rfl] at P1
      simp (config := { maxSteps := 2000000 }) -implicitDefEqProofs [-List.map_set, set_u16, -Int.natCast_add, -Int.natCast_mul, -Int.natCast_emod, -Int.natCast_ediv, -Int.natCast_pow, nn_add, nn_addl, nn_ladd, nn_mul, nn_mull, nn_lmul, nn_mod, nn_modl, nn_tmod, nn_tmodl, nn_tdiv, nn_tdivl, nn_div, nn_divl, nn_shr, nn_sub1, nn_lel, nn_lle, nn_ltl, nn_llt, nn_eql, nn_leq, nn_eq, nn_neg, nn_pos, h]
      refine wpDraw_by [[], [0], [0, 1], [], [3], [3, 4], [], [6], [0, 1, 2, 3, 4, 5, 6, 7], [], [9], [9, 10], [], [12], [12, 13], [], [15], [0, 1, 2, 3, 4, 5, 6, 7, 8, 9, 10, 11, 12, 13, 14, 15, 16], [], [], [0, 1, 2, 3, 4, 5, 6, 7, 8, 9, 10, 11, 12, 13, 14, 15, 16, 17, 18, 19], [0, 1, 2, 3, 4, 5, 6, 7, 8, 9, 10, 11, 12, 13, 14, 15, 16, 17, 18, 19, 20]] [.any [] [7, 8] [⟨0, [3], [7, 8], [7, 8], []⟩, ⟨0, [62], [7, 8], [7, 8], []⟩, ⟨0, [63], [7, 8], [7, 8], []⟩, ⟨0, [3], [7, 8], [7, 8], []⟩, ⟨0, [65], [7, 8], [7, 8], []⟩, ⟨0, [66], [7, 8], [7, 8], []⟩, ⟨0, [6], [7, 8], [7, 8], []⟩, ⟨0, [68], [7, 8], [7, 8], []⟩, ⟨0, [64, 67, 69], [7, 8], [7, 8], []⟩, ⟨0, [3], [7, 8], [7, 8], []⟩, ⟨0, [71], [7, 8], [7, 8], []⟩, ⟨0, [72], [7, 8], [7, 8], []⟩, ⟨0, [3], [7, 8], [7, 8], []⟩, ⟨0, [74], [7, 8], [7, 8], []⟩, ⟨0, [75], [7, 8], [7, 8], []⟩, ⟨0, [6], [7, 8], [7, 8], []⟩, ⟨0, [77], [7, 8], [7, 8], []⟩, ⟨0, [73, 76, 78], [7, 8], [7, 8], []⟩, ⟨1, [], [8], [8], []⟩, ⟨1, [], [7], [7], []⟩], .one, .one] (by rfl) ?_
      simp (config := { maxSteps := 2000000 }) -implicitDefEqProofs [-List.map_set, set_u16, -Int.natCast_add, -Int.natCast_mul, -Int.natCast_emod, -Int.natCast_ediv, -Int.natCast_pow, nn_add, nn_addl, nn_ladd, nn_mul, nn_mull, nn_lmul, nn_mod, nn_modl, nn_tmod, nn_tmodl, nn_tdiv, nn_tdivl, nn_div, nn_divl, nn_shr, nn_sub1, nn_lel, nn_lle, nn_ltl, nn_llt, nn_eql, nn_leq, nn_eq, nn_neg, nn_pos, h, i64]
      (first | refine .inl ⟨_, T1, ?_⟩ | refine ⟨_, T1, ?_⟩)
      simp (config := { maxSteps := 2000000 }) -implicitDefEqProofs [-List.map_set, set_u16, -Int.natCast_add, -Int.natCast_mul, -Int.natCast_emod, -Int.natCast_ediv, -Int.natCast_pow, nn_add, nn_addl, nn_ladd, nn_mul, nn_mull, nn_lmul, nn_mod, nn_modl, nn_tmod, nn_tmodl, nn_tdiv, nn_tdivl, nn_div, nn_divl, nn_shr, nn_sub1, nn_lel, nn_lle, nn_ltl, nn_llt, nn_eql, nn_leq, nn_eq, nn_neg, nn_pos, i64]
      refine ⟨by omega, ?_⟩
      (first | refine .inl ⟨_, T2, ?_⟩ | refine ⟨_, T2, ?_⟩)
      simp (config := { maxSteps := 2000000 }) -implicitDefEqProofs [-List.map_set, set_u16, -Int.natCast_add, -Int.natCast_mul, -Int.natCast_emod, -Int.natCast_ediv, -Int.natCast_pow, nn_add, nn_addl, nn_ladd, nn_mul, nn_mull, nn_lmul, nn_mod, nn_modl, nn_tmod, nn_tmodl, nn_tdiv, nn_tdivl, nn_div, nn_divl, nn_shr, nn_sub1, nn_lel, nn_lle, nn_ltl, nn_llt, nn_eql, nn_leq, nn_eq, nn_neg, nn_pos]
      (first | refine .inl ⟨_, F1, ?_⟩ | refine ⟨_, F1, ?_⟩)
      simp (config := { maxSteps := 2000000 }) -implicitDefEqProofs [-List.map_set, set_u16, -Int.natCast_add, -Int.natCast_mul, -Int.natCast_emod, -Int.natCast_ediv, -Int.natCast_pow, nn_add, nn_addl, nn_ladd, nn_mul, nn_mull, nn_lmul, nn_mod, nn_modl, nn_tmod, nn_tmodl, nn_tdiv, nn_tdivl, nn_div, nn_divl, nn_shr, nn_sub1, nn_lel, nn_lle, nn_ltl, nn_llt, nn_eql, nn_leq, nn_eq, nn_neg, nn_pos]
      (first | refine .inl ⟨_, P1, ?_⟩ | refine ⟨_, P1, ?_⟩)
      simp (config := { maxSteps := 2000000 }) -implicitDefEqProofs [-List.map_set, set_u16, -Int.natCast_add, -Int.natCast_mul, -Int.natCast_emod, -Int.natCast_ediv, -Int.natCast_pow, nn_add, nn_addl, nn_ladd, nn_mul, nn_mull, nn_lmul, nn_mod, nn_modl, nn_tmod, nn_tmodl, nn_tdiv, nn_tdivl, nn_div, nn_divl, nn_shr, nn_sub1, nn_lel, nn_lle, nn_ltl, nn_llt, nn_eql, nn_leq, nn_eq, nn_neg, nn_pos, i9]
      (first | refine .inl ⟨_, F2, ?_⟩ | refine ⟨_, F2, ?_⟩)
      simp (config := { maxSteps := 2000000 }) -implicitDefEqProofs [-List.map_set, set_u16, -Int.natCast_add, -Int.natCast_mul, -Int.natCast_emod, -Int.natCast_ediv, -Int.natCast_pow, nn_add, nn_addl, nn_ladd, nn_mul, nn_mull, nn_lmul, nn_mod, nn_modl, nn_tmod, nn_tmodl, nn_tdiv, nn_tdivl, nn_div, nn_divl, nn_shr, nn_sub1, nn_lel, nn_lle, nn_ltl, nn_llt, nn_eql, nn_leq, nn_eq, nn_neg, nn_pos]
      (first | refine .inl ⟨_, P2, ?_⟩ | refine ⟨_, P2, ?_⟩)
      simp (config := { maxSteps := 2000000 }) -implicitDefEqProofs [-List.map_set, set_u16, -Int.natCast_add, -Int.natCast_mul, -Int.natCast_emod, -Int.natCast_ediv, -Int.natCast_pow, nn_add, nn_addl, nn_ladd, nn_mul, nn_mull, nn_lmul, nn_mod, nn_modl, nn_tmod, nn_tmodl, nn_tdiv, nn_tdivl, nn_div, nn_divl, nn_shr, nn_sub1, nn_lel, nn_lle, nn_ltl, nn_llt, nn_eql, nn_leq, nn_eq, nn_neg, nn_pos]
      exact ⟨by omega, t + 1, ⟨rfl, rfl⟩, ⟨by omega, by omega⟩, by omega⟩
    · simp (config := { maxSteps := 2000000 }) -implicitDefEqProofs [-List.map_set, set_u16, -Int.natCast_add, -Int.natCast_mul, -Int.natCast_emod, -Int.natCast_ediv, -Int.natCast_pow, nn_add, nn_addl, nn_ladd, nn_mul, nn_mull, nn_lmul, nn_mod, nn_modl, nn_tmod, nn_tmodl, nn_tdiv, nn_tdivl, nn_div, nn_divl, nn_shr, nn_sub1, nn_lel, nn_lle, nn_ltl, nn_llt, nn_eql, nn_leq, nn_eq, nn_neg, nn_pos, h]
      refine wpDraw_by [[], [0], [0, 1], [], [3], [3, 4], [], [6], [0, 1, 2, 3, 4, 5, 6, 7], [], [9], [9, 10], [], [12], [12, 13], [], [15], [0, 1, 2, 3, 4, 5, 6, 7, 8, 9, 10, 11, 12, 13, 14, 15, 16], [], [], [0, 1, 2, 3, 4, 5, 6, 7, 8, 9, 10, 11, 12, 13, 14, 15, 16, 17, 18, 19], [0, 1, 2, 3, 4, 5, 6, 7, 8, 9, 10, 11, 12, 13, 14, 15, 16, 17, 18, 19, 20]] [.any [] [7, 8] [⟨0, [3], [7, 8], [7, 8], []⟩, ⟨0, [62], [7, 8], [7, 8], []⟩, ⟨0, [63], [7, 8], [7, 8], []⟩, ⟨0, [3], [7, 8], [7, 8], []⟩, ⟨0, [65], [7, 8], [7, 8], []⟩, ⟨0, [66], [7, 8], [7, 8], []⟩, ⟨0, [6], [7, 8], [7, 8], []⟩, ⟨0, [68], [7, 8], [7, 8], []⟩, ⟨0, [64, 67, 69], [7, 8], [7, 8], []⟩, ⟨0, [3], [7, 8], [7, 8], []⟩, ⟨0, [71], [7, 8], [7, 8], []⟩, ⟨0, [72], [7, 8], [7, 8], []⟩, ⟨0, [3], [7, 8], [7, 8], []⟩, ⟨0, [74], [7, 8], [7, 8], []⟩, ⟨0, [75], [7, 8], [7, 8], []⟩, ⟨0, [6], [7, 8], [7, 8], []⟩, ⟨0, [77], [7, 8], [7, 8], []⟩, ⟨0, [73, 76, 78], [7, 8], [7, 8], []⟩, ⟨1, [], [8], [8], []⟩, ⟨1, [], [7], [7], []⟩], .one, .one] (by rfl) ?_
      simp (config := { maxSteps := 2000000 }) -implicitDefEqProofs [-List.map_set, set_u16, -Int.natCast_add, -Int.natCast_mul, -Int.natCast_emod, -Int.natCast_ediv, -Int.natCast_pow, nn_add, nn_addl, nn_ladd, nn_mul, nn_mull, nn_lmul, nn_mod, nn_modl, nn_tmod, nn_tmodl, nn_tdiv, nn_tdivl, nn_div, nn_divl, nn_shr, nn_sub1, nn_lel, nn_lle, nn_ltl, nn_llt, nn_eql, nn_leq, nn_eq, nn_neg, nn_pos, h, i64]
      (first | refine .inl ⟨_, T1, ?_⟩ | refine ⟨_, T1, ?_⟩)
      simp (config := { maxSteps := 2000000 }) -implicitDefEqProofs [-List.map_set, set_u16, -Int.natCast_add, -Int.natCast_mul, -Int.natCast_emod, -Int.natCast_ediv, -Int.natCast_pow, nn_add, nn_addl, nn_ladd, nn_mul, nn_mull, nn_lmul, nn_mod, nn_modl, nn_tmod, nn_tmodl, nn_tdiv, nn_tdivl, nn_div, nn_divl, nn_shr, nn_sub1, nn_lel, nn_lle, nn_ltl, nn_llt, nn_eql, nn_leq, nn_eq, nn_neg, nn_pos, i64]
      refine ⟨by omega, ?_⟩
      (first | refine .inl ⟨_, T2, ?_⟩ | refine ⟨_, T2, ?_⟩)
      simp (config := { maxSteps := 2000000 }) -implicitDefEqProofs [-List.map_set, set_u16, -Int.natCast_add, -Int.natCast_mul, -Int.natCast_emod, -Int.natCast_ediv, -Int.natCast_pow, nn_add, nn_addl, nn_ladd, nn_mul, nn_mull, nn_lmul, nn_mod, nn_modl, nn_tmod, nn_tmodl, nn_tdiv, nn_tdivl, nn_div, nn_divl, nn_shr, nn_sub1, nn_lel, nn_lle, nn_ltl, nn_llt, nn_eql, nn_leq, nn_eq, nn_neg, nn_pos]
      (first | refine .inl ⟨_, F1, ?_⟩ | refine ⟨_, F1, ?_⟩)
      simp (config := { maxSteps := 2000000 }) -implicitDefEqProofs [-List.map_set, set_u16, -Int.natCast_add, -Int.natCast_mul, -Int.natCast_emod, -Int.natCast_ediv, -Int.natCast_pow, nn_add, nn_addl, nn_ladd, nn_mul, nn_mull, nn_lmul, nn_mod, nn_modl, nn_tmod, nn_tmodl, nn_tdiv, nn_tdivl, nn_div, nn_divl, nn_shr, nn_sub1, nn_lel, nn_lle, nn_ltl, nn_llt, nn_eql, nn_leq, nn_eq, nn_neg, nn_pos]
      (first | refine .inl ⟨_, P1, ?_⟩ | refine ⟨_, P1, ?_⟩)
      simp (config := { maxSteps := 2000000 }) -implicitDefEqProofs [-List.map_set, set_u16, -Int.natCast_add, -Int.natCast_mul, -Int.natCast_emod, -Int.natCast_ediv, -Int.natCast_pow, nn_add, nn_addl, nn_ladd, nn_mul, nn_mull, nn_lmul, nn_mod, nn_modl, nn_tmod, nn_tmodl, nn_tdiv, nn_tdivl, nn_div, nn_divl, nn_shr, nn_sub1, nn_lel, nn_lle, nn_ltl, nn_llt, nn_eql, nn_leq, nn_eq, nn_neg, nn_pos, i9]
      (first | refine .inl ⟨_, F2, ?_⟩ | refine ⟨_, F2, ?_⟩)
      simp (config := { maxSteps := 2000000 }) -implicitDefEqProofs [-List.map_set, set_u16, -Int.natCast_add, -Int.natCast_mul, -Int.natCast_emod, -Int.natCast_ediv, -Int.natCast_pow, nn_add, nn_addl, nn_ladd, nn_mul, nn_mull, nn_lmul, nn_mod, nn_modl, nn_tmod, nn_tmodl, nn_tdiv, nn_tdivl, nn_div, nn_divl, nn_shr, nn_sub1, nn_lel, nn_lle, nn_ltl, nn_llt, nn_eql, nn_leq, nn_eq, nn_neg, nn_pos]
      (first | refine .inl ⟨_, P2, ?_⟩ | refine ⟨_, P2, ?_⟩)
      simp (config := { maxSteps := 2000000 }) -implicitDefEqProofs [-List.map_set, set_u16, -Int.natCast_add, -Int.natCast_mul, -Int.natCast_emod, -Int.natCast_ediv, -Int.natCast_pow, nn_add, nn_addl, nn_ladd, nn_mul, nn_mull, nn_lmul, nn_mod, nn_modl, nn_tmod, nn_tmodl, nn_tdiv, nn_tdivl, nn_div, nn_divl, nn_shr, nn_sub1, nn_lel, nn_lle, nn_ltl, nn_llt, nn_eql, nn_leq, nn_eq, nn_neg, nn_pos]
      exact ⟨by omega, t + 1, ⟨rfl, rfl⟩, ⟨by omega, by omega⟩, by omega⟩
  · have : t = 4 := by omega
    subst this
    rcases h2 with ⟨rfl, h2⟩ | ⟨h2, rfl⟩
    · omega
    · simp (config := { maxSteps := 2000000 }) -implicitDefEqProofs [-List.map_set, set_u16, -Int.natCast_add, -Int.natCast_mul, -Int.natCast_emod, -Int.natCast_ediv, -Int.natCast_pow, nn_add, nn_addl, nn_ladd, nn_mul, nn_mull, nn_lmul, nn_mod, nn_modl, nn_tmod, nn_tmodl, nn_tdiv, nn_tdivl, nn_div, nn_divl, nn_shr, nn_sub1, nn_lel, nn_lle, nn_ltl, nn_llt, nn_eql, nn_leq, nn_eq, nn_neg, nn_pos]

theorem variantsB_c (a b c e : Int) (n : Bool) (m d : List Nat)
    (hr : okF ⟨9, [a, b, c, e], n, m, d⟩ = true) (hm : (Fct.mk 9 [a, b, c, e] n m d).Mild) (h4 : ratOk n m d = true) (h5 : ratOk n d m = true) (m0 : val m ≠ 0) :
    CallsF Tryz.prog 23 [.agg [.int .i64 9, intsD [a, b, c, e], .bool n, natD m, natD d]] (.u (.c (.d (fctsD (accS (stp4 9 n m d d m a b c e) 4))))) := by
  have k1 := ref37Right_c ⟨9, [a, b, c, e], n, m, d⟩ hm
  rw [hr] at k1
  have ok : ∀ i, ∀ x ∈ stp4 9 n m d d m a b c e i, x.Mild ∧ x.Val := fun i x hx => by
    rcases List.mem_cons.1 hx with rfl | hx
    · exact ⟨⟨hm.la, hm.ld, hm.oa, hm.od, by simp [vArg]⟩, fun _ => h4⟩
    · rcases List.mem_cons.1 hx with rfl | hx
      · exact ⟨⟨hm.ld, hm.la, hm.od, hm.oa, by simp [wArg]⟩, fun _ => h5⟩
      · cases hx
  have okA := fun t x (hx : x ∈ accS (stp4 9 n m d d m a b c e) t) => accS_ok ok hx
  have lnA := accS_len (S := stp4 9 n m d d m a b c e) (fun i => by simp [stp4])
  have P1 := fun t (ht : t < 4) => put_c ⟨9, vArg a b c e t, n, m, d⟩ (accS (stp4 9 n m d d m a b c e) t) (ok t _ (by simp [stp4])).1 (ok t _ (by simp [stp4])).2 (fun y hy => (okA t y hy).1) (fun y hy => (okA t y hy).2) (by have := lnA t; omega)
  have P2 := fun t (ht : t < 4) => put_c ⟨9, wArg a b c e t, n, d, m⟩ (putF (accS (stp4 9 n m d d m a b c e) t) ⟨9, vArg a b c e t, n, m, d⟩) (ok t _ (by simp [stp4])).1 (ok t _ (by simp [stp4])).2
    (fun y hy => (putOk (okA t) (ok t _ (by simp [stp4])) y hy).1) (fun y hy => (putOk (okA t) (ok t _ (by simp [stp4])) y hy).2) (by have := lnA t; have := putF_len ⟨9, vArg a b c e t, n, m, d⟩ (accS (stp4 9 n m d d m a b c e) t); omega)
  have E2 : ∀ t, putF (putF (accS (stp4 9 n m d d m a b c e) t) ⟨9, vArg a b c e t, n, m, d⟩) ⟨9, wArg a b c e t, n, d, m⟩ = accS (stp4 9 n m d d m a b c e) (t + 1) := fun t => by
    rw [accS_succ]; rfl
  simp only [E2] at P2
  generalize hS : accS (stp4 9 n m d d m a b c e) = S at *
  have S0 : S 0 = [] := by rw [← hS]; rfl
  have F1 := fun t => fact_c ⟨9, [a, b, c, e], n, m, d⟩ (vArg a b c e t) (by simp [vArg])
  have F2 := fun t => fact_c ⟨9, [a, b, c, e], n, m, d⟩ (wArg a b c e t) (by simp [wArg])
  have T1 := fun t : Nat => turned_c a b ((t % 2 : Nat) : Int)
  have T2 := fun t : Nat => turned_c c e ((t / 2 : Nat) : Int)
  have bm : val m < 4294967296 := hm.oa.lt32 hm.la
  have bd : val d < 4294967296 := hm.od.lt32 hm.ld
  obtain ⟨z1, z2, d0, gg, _⟩ := ratOk_spec h4 hm.oa hm.od
  have R1 := refSign_c n (val m) (val d) (by omega) (by omega) d0 gg
  have R2 := refRatOf_c 1 (by omega)
  have R3 := refRatDiv_c n (val m) (val d) (by omega) (by omega) d0 gg
  rw [if_neg m0] at R3
  rw [← z1, ← z2] at R1 R3
  clear z1 z2 d0 gg bm bd
  clear ok okA lnA E2 hS hm hr
  simp only [Fct.ds, Fct.res] at *
  refine callsF_of (T := tb) tab_ok mixed Tryz.func23 rfl (by decide) (Nat.le_of_ble_eq_true rfl) rfl ?_; unfold St.init
  simp (config := { maxSteps := 2000000 }) -implicitDefEqProofs [-List.map_set, set_u16, -Int.natCast_add, -Int.natCast_mul, -Int.natCast_emod, -Int.natCast_ediv, -Int.natCast_pow, nn_add, nn_addl, nn_ladd, nn_mul, nn_mull, nn_lmul, nn_mod, nn_modl, nn_tmod, nn_tmodl, nn_tdiv, nn_tdivl, nn_div, nn_divl, nn_shr, nn_sub1, nn_lel, nn_lle, nn_ltl, nn_llt, nn_eql, nn_leq, nn_eq, nn_neg, nn_pos]
  (first | refine .inl ⟨_, k1, ?_⟩ | refine ⟨_, k1, ?_⟩)
  simp (config := { maxSteps := 2000000 }) -implicitDefEqProofs [-List.map_set, set_u16, -Int.natCast_add, -Int.natCast_mul, -Int.natCast_emod, -Int.natCast_ediv, -Int.natCast_pow, nn_add, nn_addl, nn_ladd, nn_mul, nn_mull, nn_lmul, nn_mod, nn_modl, nn_tmod, nn_tmodl, nn_tdiv, nn_tdivl, nn_div, nn_divl, nn_shr, nn_sub1, nn_lel, nn_lle, nn_ltl, nn_llt, nn_eql, nn_leq, nn_eq, nn_neg, nn_pos]
  refine wpLoop_of (fun x : Nat × Bool => match x with
        | (i, false) => ⟨[(6, vI .i64 i), (5, vC (.sl 5 0 0)), (3, vC (.d (intsD [a, b, c, e]))), (1, vC (.ptr 1 0))], [(5, .row 5 [] true), (1, .box [.d (.int .i64 9), .d (intsD [a, b, c, e]), .d (.bool n), .d (natD m), .d (natD d)])]⟩
        | (i, true) => ⟨[(6, vI .i64 i), (5, vC (.d (fctsD (S i)))), (3, vC (.d (intsD [a, b, c, e]))), (1, vC (.ptr 1 0))], [(1, .box [.d (.int .i64 9), .d (intsD [a, b, c, e]), .d (.bool n), .d (natD m), .d (natD d)])]⟩)
      (fun x => x.1 ≤ 4 ∧ (x.2 = false ∧ x.1 = 0 ∨ x.1 ≠ 0 ∧ x.2 = true)) (fun x => 4 - x.1) (0, false) (by simp) (by simp) ?_
  rintro ⟨t, o⟩ ⟨h1, h2⟩
  simp only at h1 h2
  by_cases h : t < 4
  · have P1 := P1 t h
    have P2 := P2 t h
    have F1 := F1 t
    have F2 := F2 t
    have T1 := T1 t
    have T2 := T2 t
    have e1 : pzF a b t = trn a b ((t % 2 : Nat) : Int) := rfl
    have e2 : qzF c e t = trn c e ((t / 2 : Nat) : Int) := rfl
    unfold vArg wArg at *
    rw [← e1] at T1
    rw [← e2] at T2
    generalize pzF a b t = x at *
    generalize qzF c e t = y at *
    clear e1 e2
    rcases h2 with ⟨rfl, h2⟩ | ⟨h2, rfl⟩
    · rw [show fctsD (S t) = D.slice 0 [] from by rw [h2, S0]; rfl] at P1
      simp (config := { maxSteps := 2000000 }) -implicitDefEqProofs [-List.map_set, set_u16, -Int.natCast_add, -Int.natCast_mul, -Int.natCast_emod, -Int.natCast_ediv, -Int.natCast_pow, nn_add, nn_addl, nn_ladd, nn_mul, nn_mull, nn_lmul, nn_mod, nn_modl, nn_tmod, nn_tmodl, nn_tdiv, nn_tdivl, nn_div, nn_divl, nn_shr, nn_sub1, nn_lel, nn_lle, nn_ltl, nn_llt, nn_eql, nn_leq, nn_eq, nn_neg, nn_pos, h]
      refine wpDraw_by [[], [0], [0, 1], [], [3], [3, 4], [], [6], [0, 1, 2, 3, 4, 5, 6, 7], [], [9], [9, 10], [], [12], [12, 13], [], [15], [0, 1, 2, 3, 4, 5, 6, 7, 8, 9, 10, 11, 12, 13, 14, 15, 16], [], [], [0, 1, 2, 3, 4, 5, 6, 7, 8, 9, 10, 11, 12, 13, 14, 15, 16, 17, 18, 19], [0, 1, 2, 3, 4, 5, 6, 7, 8, 9, 10, 11, 12, 13, 14, 15, 16, 17, 18, 19, 20]] [.any [] [7, 8] [⟨0, [3], [7, 8], [7, 8], []⟩, ⟨0, [62], [7, 8], [7, 8], []⟩, ⟨0, [63], [7, 8], [7, 8], []⟩, ⟨0, [3], [7, 8], [7, 8], []⟩, ⟨0, [65], [7, 8], [7, 8], []⟩, ⟨0, [66], [7, 8], [7, 8], []⟩, ⟨0, [6], [7, 8], [7, 8], []⟩, ⟨0, [68], [7, 8], [7, 8], []⟩, ⟨0, [64, 67, 69], [7, 8], [7, 8], []⟩, ⟨0, [3], [7, 8], [7, 8], []⟩, ⟨0, [71], [7, 8], [7, 8], []⟩, ⟨0, [72], [7, 8], [7, 8], []⟩, ⟨0, [3], [7, 8], [7, 8], []⟩, ⟨0, [74], [7, 8], [7, 8], []⟩, ⟨0, [75], [7, 8], [7, 8], []⟩, ⟨0, [6], [7, 8], [7, 8], []⟩, ⟨0, [77], [7, 8], [7, 8], []⟩, ⟨0, [73, 76, 78], [7, 8], [7, 8], []⟩, ⟨1, [], [8], [8], []⟩, ⟨1, [], [7], [7], []⟩], .one, .one] (by rfl) ?_
      simp (config := { maxSteps := 2000000 }) -implicitDefEqProofs [-List.map_set, set_u16, -Int.natCast_add, -Int.natCast_mul, -Int.natCast_emod, -Int.natCast_ediv, -Int.natCast_pow, nn_add, nn_addl, nn_ladd, nn_mul, nn_mull, nn_lmul, nn_mod, nn_modl, nn_tmod, nn_tmodl, nn_tdiv, nn_tdivl, nn_div, nn_divl, nn_shr, nn_sub1, nn_lel, nn_lle, nn_ltl, nn_llt, nn_eql, nn_leq, nn_eq, nn_neg, nn_pos, h, i64]
      (first | refine .inl ⟨_, T1, ?_⟩ | refine ⟨_, T1, ?_⟩)
      simp (config := { maxSteps := 2000000 }) -implicitDefEqProofs [-List.map_set, set_u16, -Int.natCast_add, -Int.natCast_mul, -Int.natCast_emod, -Int.natCast_ediv, -Int.natCast_pow, nn_add, nn_addl, nn_ladd, nn_mul, nn_mull, nn_lmul, nn_mod, nn_modl, nn_tmod, nn_tmodl, nn_tdiv, nn_tdivl, nn_div, nn_divl, nn_shr, nn_sub1, nn_lel, nn_lle, nn_ltl, nn_llt, nn_eql, nn_leq, nn_eq, nn_neg, nn_pos, i64]
      refine ⟨by omega, ?_⟩
      (first | refine .inl ⟨_, T2, ?_⟩ | refine ⟨_, T2, ?_⟩)
      simp (config := { maxSteps := 2000000 }) -implicitDefEqProofs [-List.map_set, set_u16, -Int.natCast_add, -Int.natCast_mul, -Int.natCast_emod, -Int.natCast_ediv, -Int.natCast_pow, nn_add, nn_addl, nn_ladd, nn_mul, nn_mull, nn_lmul, nn_mod, nn_modl, nn_tmod, nn_tmodl, nn_tdiv, nn_tdivl, nn_div, nn_divl, nn_shr, nn_sub1, nn_lel, nn_lle, nn_ltl, nn_llt, nn_eql, nn_leq, nn_eq, nn_neg, nn_pos]
      (first | refine .inl ⟨_, F1, ?_⟩ | refine ⟨_, F1, ?_⟩)
      simp (config := { maxSteps := 2000000 }) -implicitDefEqProofs [-List.map_set, set_u16, -Int.natCast_add, -Int.natCast_mul, -Int.natCast_emod, -Int.natCast_ediv, -Int.natCast_pow, nn_add, nn_addl, nn_ladd, nn_mul, nn_mull, nn_lmul, nn_mod, nn_modl, nn_tmod, nn_tmodl, nn_tdiv, nn_tdivl, nn_div, nn_divl, nn_shr, nn_sub1, nn_lel, nn_lle, nn_ltl, nn_llt, nn_eql, nn_leq, nn_eq, nn_neg, nn_pos]
      (first | refine .inl ⟨_, P1, ?_⟩ | refine ⟨_, P1, ?_⟩)
      simp (config := { maxSteps := 2000000 }) -implicitDefEqProofs [-List.map_set, set_u16, -Int.natCast_add, -Int.natCast_mul, -Int.natCast_emod, -Int.natCast_ediv, -Int.natCast_pow, nn_add, nn_addl, nn_ladd, nn_mul, nn_mull, nn_lmul, nn_mod, nn_modl, nn_tmod, nn_tmodl, nn_tdiv, nn_tdivl, nn_div, nn_divl, nn_shr, nn_sub1, nn_lel, nn_lle, nn_ltl, nn_llt, nn_eql, nn_leq, nn_eq, nn_neg, nn_pos]
      (first | refine .inl ⟨_, R1, ?_⟩ | refine ⟨_, R1, ?_⟩)
      simp (config := { maxSteps := 2000000 }) -implicitDefEqProofs [-List.map_set, set_u16, -Int.natCast_add, -Int.natCast_mul, -Int.natCast_emod, -Int.natCast_ediv, -Int.natCast_pow, nn_add, nn_addl, nn_ladd, nn_mul, nn_mull, nn_lmul, nn_mod, nn_modl, nn_tmod, nn_tmodl, nn_tdiv, nn_tdivl, nn_div, nn_divl, nn_shr, nn_sub1, nn_lel, nn_lle, nn_ltl, nn_llt, nn_eql, nn_leq, nn_eq, nn_neg, nn_pos, sgnI_zero, m0]
      (first | refine .inl ⟨_, F2, ?_⟩ | refine ⟨_, F2, ?_⟩)
      simp (config := { maxSteps := 2000000 }) -implicitDefEqProofs [-List.map_set, set_u16, -Int.natCast_add, -Int.natCast_mul, -Int.natCast_emod, -Int.natCast_ediv, -Int.natCast_pow, nn_add, nn_addl, nn_ladd, nn_mul, nn_mull, nn_lmul, nn_mod, nn_modl, nn_tmod, nn_tmodl, nn_tdiv, nn_tdivl, nn_div, nn_divl, nn_shr, nn_sub1, nn_lel, nn_lle, nn_ltl, nn_llt, nn_eql, nn_leq, nn_eq, nn_neg, nn_pos]
      refine wpDraw_by [[], [], [1], [0, 1, 2], [0, 1, 2, 3], [0, 1, 2, 3, 4], [0, 1, 2, 3, 4], [0, 1, 2, 3, 4, 5], [0, 1, 2, 3, 4, 5, 7]] [.any [] [] [⟨0, [], [], [], []⟩, ⟨0, [1], [], [], []⟩, ⟨0, [126], [], [], []⟩], .one, .one, .any [] [] [⟨0, [124], [], [], []⟩, ⟨0, [124], [9], [], []⟩, ⟨0, [9], [], [], []⟩, ⟨2, [129, 131], [], [], [9]⟩]] (by rfl) ?_
      simp (config := { maxSteps := 2000000 }) -implicitDefEqProofs [-List.map_set, set_u16, -Int.natCast_add, -Int.natCast_mul, -Int.natCast_emod, -Int.natCast_ediv, -Int.natCast_pow, nn_add, nn_addl, nn_ladd, nn_mul, nn_mull, nn_lmul, nn_mod, nn_modl, nn_tmod, nn_tmodl, nn_tdiv, nn_tdivl, nn_div, nn_divl, nn_shr, nn_sub1, nn_lel, nn_lle, nn_ltl, nn_llt, nn_eql, nn_leq, nn_eq, nn_neg, nn_pos]
      (first | refine .inl ⟨_, R2, ?_⟩ | refine ⟨_, R2, ?_⟩)
      simp (config := { maxSteps := 2000000 }) -implicitDefEqProofs [-List.map_set, set_u16, -Int.natCast_add, -Int.natCast_mul, -Int.natCast_emod, -Int.natCast_ediv, -Int.natCast_pow, nn_add, nn_addl, nn_ladd, nn_mul, nn_mull, nn_lmul, nn_mod, nn_modl, nn_tmod, nn_tmodl, nn_tdiv, nn_tdivl, nn_div, nn_divl, nn_shr, nn_sub1, nn_lel, nn_lle, nn_ltl, nn_llt, nn_eql, nn_leq, nn_eq, nn_neg, nn_pos]
      (first | refine .inl ⟨_, R3, ?_⟩ | refine ⟨_, R3, ?_⟩)
      simp (config := { maxSteps := 2000000 }) -implicitDefEqProofs [-List.map_set, set_u16, -Int.natCast_add, -Int.natCast_mul, -Int.natCast_emod, -Int.natCast_ediv, -Int.natCast_pow, nn_add, nn_addl, nn_ladd, nn_mul, nn_mull, nn_lmul, nn_mod, nn_modl, nn_tmod, nn_tmodl, nn_tdiv, nn_tdivl, nn_div, nn_divl, nn_shr, nn_sub1, nn_lel, nn_lle, nn_ltl, nn_llt, nn_eql, nn_leq, nn_eq, nn_neg, nn_pos]
      (first | refine .inl ⟨_, P2, ?_⟩ | refine ⟨_, P2, ?_⟩)
      simp (config := { maxSteps := 2000000 }) -implicitDefEqProofs [-List.map_set, set_u16, -Int.natCast_add, -Int.natCast_mul, -Int.natCast_emod, -Int.natCast_ediv, -Int.natCast_pow, nn_add, nn_addl, nn_ladd, nn_mul, nn_mull, nn_lmul, nn_mod, nn_modl, nn_tmod, nn_tmodl, nn_tdiv, nn_tdivl, nn_div, nn_divl, nn_shr, nn_sub1, nn_lel, nn_lle, nn_ltl, nn_llt, nn_eql, nn_leq, nn_eq, nn_neg, nn_pos]
      exact ⟨by omega, t + 1, ⟨rfl, rfl⟩, ⟨by omega, by omega⟩, by omega⟩
    · simp (config := { maxSteps := 2000000 }) -implicitDefEqProofs [-List.map_set, set_u16, -Int.natCast_add, -Int.natCast_mul, -Int.natCast_emod, -Int.natCast_ediv, -Int.natCast_pow, nn_add, nn_addl, nn_ladd, nn_mul, nn_mull, nn_lmul, nn_mod, nn_modl, nn_tmod, nn_tmodl, nn_tdiv, nn_tdivl, nn_div, nn_divl, nn_shr, nn_sub1, nn_lel, nn_lle, nn_ltl, nn_llt, nn_eql, nn_leq, nn_eq, nn_neg, nn_pos, h]
      refine wpDraw_by [[], [0], [0, 1], [], [3], [3, 4], [], [6], [0, 1, 2, 3, 4, 5, 6, 7], [], [9], [9, 10], [], [12], [12, 13], [], [15], [0, 1, 2, 3, 4, 5, 6, 7, 8, 9, 10, 11, 12, 13, 14, 15, 16], [], [], [0, 1, 2, 3, 4, 5, 6, 7, 8, 9, 10, 11, 12, 13, 14, 15, 16, 17, 18, 19], [0, 1, 2, 3, 4, 5, 6, 7, 8, 9, 10, 11, 12, 13, 14, 15, 16, 17, 18, 19, 20]] [.any [] [7, 8] [⟨0, [3], [7, 8], [7, 8], []⟩, ⟨0, [62], [7, 8], [7, 8], []⟩, ⟨0, [63], [7, 8], [7, 8], []⟩, ⟨0, [3], [7, 8], [7, 8], []⟩, ⟨0, [65], [7, 8], [7, 8], []⟩, ⟨0, [66], [7, 8], [7, 8], []⟩, ⟨0, [6], [7, 8], [7, 8], []⟩, ⟨0, [68], [7, 8], [7, 8], []⟩, ⟨0, [64, 67, 69], [7, 8], [7, 8], []⟩, ⟨0, [3], [7, 8], [7, 8], []⟩, ⟨0, [71], [7, 8], [7, 8], []⟩, ⟨0, [72], [7, 8], [7, 8], []⟩, ⟨0, [3], [7, 8], [7, 8], []⟩, ⟨0, [74], [7, 8], [7, 8], []⟩, ⟨0, [75], [7, 8], [7, 8], []⟩, ⟨0, [6], [7, 8], [7, 8], []⟩, ⟨0, [77], [7, 8], [7, 8], []⟩, ⟨0, [73, 76, 78], [7, 8], [7, 8], []⟩, ⟨1, [], [8], [8], []⟩, ⟨1, [], [7], [7], []⟩], .one, .one] (by rfl) ?_
      simp (config := { maxSteps := 2000000 }) -implicitDefEqProofs [-List.map_set, set_u16, -Int.natCast_add, -Int.natCast_mul, -Int.natCast_emod, -Int.natCast_ediv, -Int.natCast_pow, nn_add, nn_addl, nn_ladd, nn_mul, nn_mull, nn_lmul, nn_mod, nn_modl, nn_tmod, nn_tmodl, nn_tdiv, nn_tdivl, nn_div, nn_divl, nn_shr, nn_sub1, nn_lel, nn_lle, nn_ltl, nn_llt, nn_eql, nn_leq, nn_eq, nn_neg, nn_pos, h, i64]
      (first | refine .inl ⟨_, T1, ?_⟩ | refine ⟨_, T1, ?_⟩)
      simp (config := { maxSteps := 2000000 }) -implicitDefEqProofs [-List.map_set, set_u16, -Int.natCast_add, -Int.natCast_mul, -Int.natCast_emod, -Int.natCast_ediv, -Int.natCast_pow, nn_add, nn_addl, nn_ladd, nn_mul, nn_mull, nn_lmul, nn_mod, nn_modl, nn_tmod, nn_tmodl, nn_tdiv, nn_tdivl, nn_div, nn_divl, nn_shr, nn_sub1, nn_lel, nn_lle, nn_ltl, nn_llt, nn_eql, nn_leq, nn_eq, nn_neg, nn_pos, i64]
      refine ⟨by omega, ?_⟩
      (first | refine .inl ⟨_, T2, ?_⟩ | refine ⟨_, T2, ?_⟩)
      simp (config := { maxSteps := 2000000 }) -implicitDefEqProofs [-List.map_set, set_u16, -Int.natCast_add, -Int.natCast_mul, -Int.natCast_emod, -Int.natCast_ediv, -Int.natCast_pow, nn_add, nn_addl, nn_ladd, nn_mul, nn_mull, nn_lmul, nn_mod, nn_modl, nn_tmod, nn_tmodl, nn_tdiv, nn_tdivl, nn_div, nn_divl, nn_shr, nn_sub1, nn_lel, nn_lle, nn_ltl, nn_llt, nn_eql, nn_leq, nn_eq, nn_neg, nn_pos]
      (first | refine .inl ⟨_, F1, ?_⟩ | refine ⟨_, F1, ?_⟩)
      simp (config := { maxSteps := 2000000 }) -implicitDefEqProofs [-List.map_set, set_u16, -Int.natCast_add, -Int.natCast_mul, -Int.natCast_emod, -Int.natCast_ediv, -Int.natCast_pow, nn_add, nn_addl, nn_ladd, nn_mul, nn_mull, nn_lmul, nn_mod, nn_modl, nn_tmod, nn_tmodl, nn_tdiv, nn_tdivl, nn_div, nn_divl, nn_shr, nn_sub1, nn_lel, nn_lle, nn_ltl, nn_llt, nn_eql, nn_leq, nn_eq, nn_neg, nn_pos]
      (first | refine .inl ⟨_, P1, ?_⟩ | refine ⟨_, P1, ?_⟩)
      simp (config := { maxSteps := 2000000 }) -implicitDefEqProofs [-List.map_set, set_u16, -Int.natCast_add, -Int.natCast_mul, -Int.natCast_emod, -Int.natCast_ediv, -Int.natCast_pow, nn_add, nn_addl, nn_ladd, nn_mul, nn_mull, nn_lmul, nn_mod, nn_modl, nn_tmod, nn_tmodl, nn_tdiv, nn_tdivl, nn_div, nn_divl, nn_shr, nn_sub1, nn_lel, nn_lle, nn_ltl, nn_llt, nn_eql, nn_leq, nn_eq, nn_neg, nn_pos]
      (first | refine .inl ⟨_, R1, ?_⟩ | refine ⟨_, R1, ?_⟩)
      simp (config := { maxSteps := 2000000 }) -implicitDefEqProofs [-List.map_set, set_u16, -Int.natCast_add, -Int.natCast_mul, -Int.natCast_emod, -Int.natCast_ediv, -Int.natCast_pow, nn_add, nn_addl, nn_ladd, nn_mul, nn_mull, nn_lmul, nn_mod, nn_modl, nn_tmod, nn_tmodl, nn_tdiv, nn_tdivl, nn_div, nn_divl, nn_shr, nn_sub1, nn_lel, nn_lle, nn_ltl, nn_llt, nn_eql, nn_leq, nn_eq, nn_neg, nn_pos, sgnI_zero, m0]
      (first | refine .inl ⟨_, F2, ?_⟩ | refine ⟨_, F2, ?_⟩)
      simp (config := { maxSteps := 2000000 }) -implicitDefEqProofs [-List.map_set, set_u16, -Int.natCast_add, -Int.natCast_mul, -Int.natCast_emod, -Int.natCast_ediv, -Int.natCast_pow, nn_add, nn_addl, nn_ladd, nn_mul, nn_mull, nn_lmul, nn_mod, nn_modl, nn_tmod, nn_tmodl, nn_tdiv, nn_tdivl, nn_div, nn_divl, nn_shr, nn_sub1, nn_lel, nn_lle, nn_ltl, nn_llt, nn_eql, nn_leq, nn_eq, nn_neg, nn_pos]
      refine wpDraw_by [[], [], [1], [0, 1, 2], [0, 1, 2, 3], [0, 1, 2, 3, 4], [0, 1, 2, 3, 4], [0, 1, 2, 3, 4, 5], [0, 1, 2, 3, 4, 5, 7]] [.any [] [] [⟨0, [], [], [], []⟩, ⟨0, [1], [], [], []⟩, ⟨0, [126], [], [], []⟩], .one, .one, .any [] [] [⟨0, [124], [], [], []⟩, ⟨0, [124], [9], [], []⟩, ⟨0, [9], [], [], []⟩, ⟨2, [129, 131], [], [], [9]⟩]] (by rfl) ?_
      simp (config := { maxSteps := 2000000 }) -implicitDefEqProofs [-List.map_set, set_u16, -Int.natCast_add, -Int.natCast_mul, -Int.natCast_emod, -Int.natCast_ediv, -Int.natCast_pow, nn_add, nn_addl, nn_ladd, nn_mul, nn_mull, nn_lmul, nn_mod, nn_modl, nn_tmod, nn_tmodl, nn_tdiv, nn_tdivl, nn_div, nn_divl, nn_shr, nn_sub1, nn_lel, nn_lle, nn_ltl, nn_llt, nn_eql, nn_leq, nn_eq, nn_neg, nn_pos]
      (first | refine .inl ⟨_, R2, ?_⟩ | refine ⟨_, R2, ?_⟩)
      simp (config := { maxSteps := 2000000 }) -implicitDefEqProofs [-List.map_set, set_u16, -Int.natCast_add, -Int.natCast_mul, -Int.natCast_emod, -Int.natCast_ediv, -Int.natCast_pow, nn_add, nn_addl, nn_ladd, nn_mul, nn_mull, nn_lmul, nn_mod, nn_modl, nn_tmod, nn_tmodl, nn_tdiv, nn_tdivl, nn_div, nn_divl, nn_shr, nn_sub1, nn_lel, nn_lle, nn_ltl, nn_llt, nn_eql, nn_leq, nn_eq, nn_neg, nn_pos]
      (first | refine .inl ⟨_, R3, ?_⟩ | refine ⟨_, R3, ?_⟩)
      simp (config := { maxSteps := 2000000 }) -implicitDefEqProofs [-List.map_set, set_u16, -Int.natCast_add, -Int.natCast_mul, -Int.natCast_emod, -Int.natCast_ediv, -Int.natCast_pow, nn_add, nn_addl, nn_ladd, nn_mul, nn_mull, nn_lmul, nn_mod, nn_modl, nn_tmod, nn_tmodl, nn_tdiv, nn_tdivl, nn_div, nn_divl, nn_shr, nn_sub1, nn_lel, nn_lle, nn_ltl, nn_llt, nn_eql, nn_leq, nn_eq, nn_neg, nn_pos]
      (first | refine .inl ⟨_, P2, ?_⟩ | refine ⟨_, P2, ?_⟩)
      simp (config := { maxSteps := 2000000 }) -implicitDefEqProofs [-List.map_set, set_u16, -Int.natCast_add, -Int.natCast_mul, -Int.natCast_emod, -Int.natCast_ediv, -Int.natCast_pow, nn_add, nn_addl, nn_ladd, nn_mul, nn_mull, nn_lmul, nn_mod, nn_modl, nn_tmod, nn_tmodl, nn_tdiv, nn_tdivl, nn_div, nn_divl, nn_shr, nn_sub1, nn_lel, nn_lle, nn_ltl, nn_llt, nn_eql, nn_leq, nn_eq, nn_neg, nn_pos]
      exact ⟨by omega, t + 1, ⟨rfl, rfl⟩, ⟨by omega, by omega⟩, by omega⟩
  · have : t = 4 := by omega
    subst this
    rcases h2 with ⟨rfl, h2⟩ | ⟨h2, rfl⟩
    · omega
    · simp (config := { maxSteps := 2000000 }) -implicitDefEqProofs [-List.map_set, set_u16, -Int.natCast_add, -Int.natCast_mul, -Int.natCast_emod, -Int.natCast_ediv, -Int.natCast_pow, nn_add, nn_addl, nn_ladd, nn_mul, nn_mull, nn_lmul, nn_mod, nn_modl, nn_tmod, nn_tmodl, nn_tdiv, nn_tdivl, nn_div, nn_divl, nn_shr, nn_sub1, nn_lel, nn_lle, nn_ltl, nn_llt, nn_eql, nn_leq, nn_eq, nn_neg, nn_pos]

theorem variantsC_c (a b c e : Int) (n : Bool) (m d : List Nat)
    (hr : okF ⟨9, [a, b, c, e], n, m, d⟩ = true) (hm : (Fct.mk 9 [a, b, c, e] n m d).Mild) (h4 : ratOk n m d = true) (m0 : val m = 0) :
    CallsF Tryz.prog 23 [.agg [.int .i64 9, intsD [a, b, c, e], .bool n, natD m, natD d]] (.u (.c (.d (fctsD (accS (one4 n m d a b c e) 4))))) := by
  have k1 := ref37Right_c ⟨9, [a, b, c, e], n, m, d⟩ hm
  rw [hr] at k1
  have ok : ∀ i, ∀ x ∈ one4 n m d a b c e i, x.Mild ∧ x.Val := fun i x hx => by
    rcases List.mem_cons.1 hx with rfl | hx
    · exact ⟨⟨hm.la, hm.ld, hm.oa, hm.od, by simp [vArg]⟩, fun _ => h4⟩
    · cases hx
  have okA := fun t x (hx : x ∈ accS (one4 n m d a b c e) t) => accS_ok ok hx
  have lnA := accS_len (S := one4 n m d a b c e) (fun i => by simp [one4])
  have P1 := fun t (ht : t < 4) => put_c ⟨9, vArg a b c e t, n, m, d⟩ (accS (one4 n m d a b c e) t) (ok t _ (by simp [one4])).1 (ok t _ (by simp [one4])).2 (fun y hy => (okA t y hy).1) (fun y hy => (okA t y hy).2) (by have := lnA t; omega)
  have E2 : ∀ t, putF (accS (one4 n m d a b c e) t) ⟨9, vArg a b c e t, n, m, d⟩ = accS (one4 n m d a b c e) (t + 1) := fun t => by
    rw [accS_succ]; rfl
  simp only [E2] at P1
  generalize hS : accS (one4 n m d a b c e) = S at *
  have S0 : S 0 = [] := by rw [← hS]; rfl
  have F1 := fun t => fact_c ⟨9, [a, b, c, e], n, m, d⟩ (vArg a b c e t) (by simp [vArg])
  have T1 := fun t : Nat => turned_c a b ((t % 2 : Nat) : Int)
  have T2 := fun t : Nat => turned_c c e ((t / 2 : Nat) : Int)
  have bm : val m < 4294967296 := hm.oa.lt32 hm.la
  have bd : val d < 4294967296 := hm.od.lt32 hm.ld
  obtain ⟨z1, z2, d0, gg, _⟩ := ratOk_spec h4 hm.oa hm.od
  have R1 := refSign_c n (val m) (val d) (by omega) (by omega) d0 gg
  rw [← z1, ← z2] at R1
  clear z1 z2 d0 gg bm bd
  clear ok okA lnA E2 hS hm hr
  simp only [Fct.ds, Fct.res] at *
  refine callsF_of (T := tb) tab_ok mixed Tryz.func23 rfl (by decide) (Nat.le_of_ble_eq_true rfl) rfl ?_; unfold St.init
  simp (config := { maxSteps := 2000000 }) -implicitDefEqProofs [-List.map_set, set_u16, -Int.natCast_add, -Int.natCast_mul, -Int.natCast_emod, -Int.natCast_ediv, -Int.natCast_pow, nn_add, nn_addl, nn_ladd, nn_mul, nn_mull, nn_lmul, nn_mod, nn_modl, nn_tmod, nn_tmodl, nn_tdiv, nn_tdivl, nn_div, nn_divl, nn_shr, nn_sub1, nn_lel, nn_lle, nn_ltl, nn_llt, nn_eql, nn_leq, nn_eq, nn_neg, nn_pos]
  (first | refine .inl ⟨_, k1, ?_⟩ | refine ⟨_, k1, ?_⟩)
  simp (config := { maxSteps := 2000000 }) -implicitDefEqProofs [-List.map_set, set_u16, -Int.natCast_add, -Int.natCast_mul, -Int.natCast_emod, -Int.natCast_ediv, -Int.natCast_pow, nn_add, nn_addl, nn_ladd, nn_mul, nn_mull, nn_lmul, nn_mod, nn_modl, nn_tmod, nn_tmodl, nn_tdiv, nn_tdivl, nn_div, nn_divl, nn_shr, nn_sub1, nn_lel, nn_lle, nn_ltl, nn_llt, nn_eql, nn_leq, nn_eq, nn_neg, nn_pos]
  refine wpLoop_of (fun x : Nat × Bool => match x with
        | (i, false) => ⟨[(6, vI .i64 i), (5, vC (.sl 5 0 0)), (3, vC (.d (intsD [a, b, c, e]))), (1, vC (.ptr 1 0))], [(5, .row 5 [] true), (1, .box [.d (.int .i64 9), .d (intsD [a, b, c, e]), .d (.bool n), .d (natD m), .d (natD d)])]⟩
        | (i, true) => ⟨[(6, vI .i64 i), (5, vC (.d (fctsD (S i)))), (3, vC (.d (intsD [a, b, c, e]))), (1, vC (.ptr 1 0))], [(1, .box [.d (.int .i64 9), .d (intsD [a, b, c, e]), .d (.bool n), .d (natD m), .d (natD d)])]⟩)
      (fun x => x.1 ≤ 4 ∧ (x.2 = false ∧ x.1 = 0 ∨ x.1 ≠ 0 ∧ x.2 = true)) (fun x => 4 - x.1) (0, false) (by simp) (by simp) ?_
  rintro ⟨t, o⟩ ⟨h1, h2⟩
  simp only at h1 h2
  by_cases h : t < 4
  · have P1 := P1 t h
    have F1 := F1 t
    have T1 := T1 t
    have T2 := T2 t
    have e1 : pzF a b t = trn a b ((t % 2 : Nat) : Int) := rfl
    have e2 : qzF c e t = trn c e ((t / 2 : Nat) : Int) := rfl
    unfold vArg at *
    rw [← e1] at T1
    rw [← e2] at T2
    generalize pzF a b t = x at *
    generalize qzF c e t = y at *
    clear e1 e2
    rcases h2 with ⟨rfl, h2⟩ | ⟨h2, rfl⟩
    · rw [show fctsD (S t) = D.slice 0 [] from by rw [h2, S0]; rfl] at P1
      simp (config := { maxSteps := 2000000 }) -implicitDefEqProofs [-List.map_set, set_u16, -Int.natCast_add, -Int.natCast_mul, -Int.natCast_emod, -Int.natCast_ediv, -Int.natCast_pow, nn_add, nn_addl, nn_ladd, nn_mul, nn_mull, nn_lmul, nn_mod, nn_modl, nn_tmod, nn_tmodl, nn_tdiv, nn_tdivl, nn_div, nn_divl, nn_shr, nn_sub1, nn_lel, nn_lle, nn_ltl, nn_llt, nn_eql, nn_leq, nn_eq, nn_neg, nn_pos, h]
      refine wpDraw_by [[], [0], [0, 1], [], [3], [3, 4], [], [6], [0, 1, 2, 3, 4, 5, 6, 7], [], [9], [9, 10], [], [12], [12, 13], [], [15], [0, 1, 2, 3, 4, 5, 6, 7, 8, 9, 10, 11, 12, 13, 14, 15, 16], [], [], [0, 1, 2, 3, 4, 5, 6, 7, 8, 9, 10, 11, 12, 13, 14, 15, 16, 17, 18, 19], [0, 1, 2, 3, 4, 5, 6, 7, 8, 9, 10, 11, 12, 13, 14, 15, 16, 17, 18, 19, 20]] [.any [] [7, 8] [⟨0, [3], [7, 8], [7, 8], []⟩, ⟨0, [62], [7, 8], [7, 8], []⟩, ⟨0, [63], [7, 8], [7, 8], []⟩, ⟨0, [3], [7, 8], [7, 8], []⟩, ⟨0, [65], [7, 8], [7, 8], []⟩, ⟨0, [66], [7, 8], [7, 8], []⟩, ⟨0, [6], [7, 8], [7, 8], []⟩, ⟨0, [68], [7, 8], [7, 8], []⟩, ⟨0, [64, 67, 69], [7, 8], [7, 8], []⟩, ⟨0, [3], [7, 8], [7, 8], []⟩, ⟨0, [71], [7, 8], [7, 8], []⟩, ⟨0, [72], [7, 8], [7, 8], []⟩, ⟨0, [3], [7, 8], [7, 8], []⟩, ⟨0, [74], [7, 8], [7, 8], []⟩, ⟨0, [75], [7, 8], [7, 8], []⟩, ⟨0, [6], [7, 8], [7, 8], []⟩, ⟨0, [77], [7, 8], [7, 8], []⟩, ⟨0, [73, 76, 78], [7, 8], [7, 8], []⟩, ⟨1, [], [8], [8], []⟩, ⟨1, [], [7], [7], []⟩], .one, .one] (by rfl) ?_
      simp (config := { maxSteps := 2000000 }) -implicitDefEqProofs [-List.map_set, set_u16, -Int.natCast_add, -Int.natCast_mul, -Int.natCast_emod, -Int.natCast_ediv, -Int.natCast_pow, nn_add, nn_addl, nn_ladd, nn_mul, nn_mull, nn_lmul, nn_mod, nn_modl, nn_tmod, nn_tmodl, nn_tdiv, nn_tdivl, nn_div, nn_divl, nn_shr, nn_sub1, nn_lel, nn_lle, nn_ltl, nn_llt, nn_eql, nn_leq, nn_eq, nn_neg, nn_pos, h, i64]
      (first | refine .inl ⟨_, T1, ?_⟩ | refine ⟨_, T1, ?_⟩)
      simp (config := { maxSteps := 2000000 }) -implicitDefEqProofs [-List.map_set, set_u16, -Int.natCast_add, -Int.natCast_mul, -Int.natCast_emod, -Int.natCast_ediv, -Int.natCast_pow, nn_add, nn_addl, nn_ladd, nn_mul, nn_mull, nn_lmul, nn_mod, nn_modl, nn_tmod, nn_tmodl, nn_tdiv, nn_tdivl, nn_div, nn_divl, nn_shr, nn_sub1, nn_lel, nn_lle, nn_ltl, nn_llt, nn_eql, nn_leq, nn_eq, nn_neg, nn_pos, i64]
      refine ⟨by omega, ?_⟩
      (first | refine .inl ⟨_, T2, ?_⟩ | refine ⟨_, T2, ?_⟩)
      simp (config := { maxSteps := 2000000 }) -implicitDefEqProofs [-List.map_set, set_u16, -Int.natCast_add, -Int.natCast_mul, -Int.natCast_emod, -Int.natCast_ediv, -Int.natCast_pow, nn_add, nn_addl, nn_ladd, nn_mul, nn_mull, nn_lmul, nn_mod, nn_modl, nn_tmod, nn_tmodl, nn_tdiv, nn_tdivl, nn_div, nn_divl, nn_shr, nn_sub1, nn_lel, nn_lle, nn_ltl, nn_llt, nn_eql, nn_leq, nn_eq, nn_neg, nn_pos]
      (first | refine .inl ⟨_, F1, ?_⟩ | refine ⟨_, F1, ?_⟩)
      simp (config := { maxSteps := 2000000 }) -implicitDefEqProofs [-List.map_set, set_u16, -Int.natCast_add, -Int.natCast_mul, -Int.natCast_emod, -Int.natCast_ediv, -Int.natCast_pow, nn_add, nn_addl, nn_ladd, nn_mul, nn_mull, nn_lmul, nn_mod, nn_modl, nn_tmod, nn_tmodl, nn_tdiv, nn_tdivl, nn_div, nn_divl, nn_shr, nn_sub1, nn_lel, nn_lle, nn_ltl, nn_llt, nn_eql, nn_leq, nn_eq, nn_neg, nn_pos]
      (first | refine .inl ⟨_, P1, ?_⟩ | refine ⟨_, P1, ?_⟩)
      simp (config := { maxSteps := 2000000 }) -implicitDefEqProofs [-List.map_set, set_u16, -Int.natCast_add, -Int.natCast_mul, -Int.natCast_emod, -Int.natCast_ediv, -Int.natCast_pow, nn_add, nn_addl, nn_ladd, nn_mul, nn_mull, nn_lmul, nn_mod, nn_modl, nn_tmod, nn_tmodl, nn_tdiv, nn_tdivl, nn_div, nn_divl, nn_shr, nn_sub1, nn_lel, nn_lle, nn_ltl, nn_llt, nn_eql, nn_leq, nn_eq, nn_neg, nn_pos]
      (first | refine .inl ⟨_, R1, ?_⟩ | refine ⟨_, R1, ?_⟩)
      simp (config := { maxSteps := 2000000 }) -implicitDefEqProofs [-List.map_set, set_u16, -Int.natCast_add, -Int.natCast_mul, -Int.natCast_emod, -Int.natCast_ediv, -Int.natCast_pow, nn_add, nn_addl, nn_ladd, nn_mul, nn_mull, nn_lmul, nn_mod, nn_modl, nn_tmod, nn_tmodl, nn_tdiv, nn_tdivl, nn_div, nn_divl, nn_shr, nn_sub1, nn_lel, nn_lle, nn_ltl, nn_llt, nn_eql, nn_leq, nn_eq, nn_neg, nn_pos, sgnI_zero, m0]
      exact ⟨by omega, t + 1, ⟨rfl, rfl⟩, ⟨by omega, by omega⟩, by omega⟩
    · simp (config := { maxSteps := 2000000 }) -implicitDefEqProofs [-List.map_set, set_u16, -Int.natCast_add, -Int.natCast_mul, -Int.natCast_emod, -Int.natCast_ediv, -Int.natCast_pow, nn_add, nn_addl, nn_ladd, nn_mul, nn_mull, nn_lmul, nn_mod, nn_modl, nn_tmod, nn_tmodl, nn_tdiv, nn_tdivl, nn_div, nn_divl, nn_shr, nn_sub1, nn_lel, nn_lle, nn_ltl, nn_llt, nn_eql, nn_leq, nn_eq, nn_neg, nn_pos, h]
      refine wpDraw_by [[], [0], [0, 1], [], [3], [3, 4], [], [6], [0, 1, 2, 3, 4, 5, 6, 7], [], [9], [9, 10], [], [12], [12, 13], [], [15], [0, 1, 2, 3, 4, 5, 6, 7, 8, 9, 10, 11, 12, 13, 14, 15, 16], [], [], [0, 1, 2, 3, 4, 5, 6, 7, 8, 9, 10, 11, 12, 13, 14, 15, 16, 17, 18, 19], [0, 1, 2, 3, 4, 5, 6, 7, 8, 9, 10, 11, 12, 13, 14, 15, 16, 17, 18, 19, 20]] [.any [] [7, 8] [⟨0, [3], [7, 8], [7, 8], []⟩, ⟨0, [62], [7, 8], [7, 8], []⟩, ⟨0, [63], [7, 8], [7, 8], []⟩, ⟨0, [3], [7, 8], [7, 8], []⟩, ⟨0, [65], [7, 8], [7, 8], []⟩, ⟨0, [66], [7, 8], [7, 8], []⟩, ⟨0, [6], [7, 8], [7, 8], []⟩, ⟨0, [68], [7, 8], [7, 8], []⟩, ⟨0, [64, 67, 69], [7, 8], [7, 8], []⟩, ⟨0, [3], [7, 8], [7, 8], []⟩, ⟨0, [71], [7, 8], [7, 8], []⟩, ⟨0, [72], [7, 8], [7, 8], []⟩, ⟨0, [3], [7, 8], [7, 8], []⟩, ⟨0, [74], [7, 8], [7, 8], []⟩, ⟨0, [75], [7, 8], [7, 8], []⟩, ⟨0, [6], [7, 8], [7, 8], []⟩, ⟨0, [77], [7, 8], [7, 8], []⟩, ⟨0, [73, 76, 78], [7, 8], [7, 8], []⟩, ⟨1, [], [8], [8], []⟩, ⟨1, [], [7], [7], []⟩], .one, .one] (by rfl) ?_
      simp (config := { maxSteps := 2000000 }) -implicitDefEqProofs [-List.map_set, set_u16, -Int.natCast_add, -Int.natCast_mul, -Int.natCast_emod, -Int.natCast_ediv, -Int.natCast_pow, nn_add, nn_addl, nn_ladd, nn_mul, nn_mull, nn_lmul, nn_mod, nn_modl, nn_tmod, nn_tmodl, nn_tdiv, nn_tdivl, nn_div, nn_divl, nn_shr, nn_sub1, nn_lel, nn_lle, nn_ltl, nn_llt, nn_eql, nn_leq, nn_eq, nn_neg, nn_pos, h, i64]
      (first | refine .inl ⟨_, T1, ?_⟩ | refine ⟨_, T1, ?_⟩)
      simp (config := { maxSteps := 2000000 }) -implicitDefEqProofs [-List.map_set, set_u16, -Int.natCast_add, -Int.natCast_mul, -Int.natCast_emod, -Int.natCast_ediv, -Int.natCast_pow, nn_add, nn_addl, nn_ladd, nn_mul, nn_mull, nn_lmul, nn_mod, nn_modl, nn_tmod, nn_tmodl, nn_tdiv, nn_tdivl, nn_div, nn_divl, nn_shr, nn_sub1, nn_lel, nn_lle, nn_ltl, nn_llt, nn_eql, nn_leq, nn_eq, nn_neg, nn_pos, i64]
      refine ⟨by omega, ?_⟩
      (first | refine .inl ⟨_, T2, ?_⟩ | refine ⟨_, T2, ?_⟩)
      simp (config := { maxSteps := 2000000 }) -implicitDefEqProofs [-List.map_set, set_u16, -Int.natCast_add, -Int.natCast_mul, -Int.natCast_emod, -Int.natCast_ediv, -Int.natCast_pow, nn_add, nn_addl, nn_ladd, nn_mul, nn_mull, nn_lmul, nn_mod, nn_modl, nn_tmod, nn_tmodl, nn_tdiv, nn_tdivl, nn_div, nn_divl, nn_shr, nn_sub1, nn_lel, nn_lle, nn_ltl, nn_llt, nn_eql, nn_leq, nn_eq, nn_neg, nn_pos]
      (first | refine .inl ⟨_, F1, ?_⟩ | refine ⟨_, F1, ?_⟩)
      simp (config := { maxSteps := 2000000 }) -implicitDefEqProofs [-List.map_set, set_u16, -Int.natCast_add, -Int.natCast_mul, -Int.natCast_emod, -Int.natCast_ediv, -Int.natCast_pow, nn_add, nn_addl, nn_ladd, nn_mul, nn_mull, nn_lmul, nn_mod, nn_modl, nn_tmod, nn_tmodl, nn_tdiv, nn_tdivl, nn_div, nn_divl, nn_shr, nn_sub1, nn_lel, nn_lle, nn_ltl, nn_llt, nn_eql, nn_leq, nn_eq, nn_neg, nn_pos]
      (first | refine .inl ⟨_, P1, ?_⟩ | refine ⟨_, P1, ?_⟩)
      simp (config := { maxSteps := 2000000 }) -implicitDefEqProofs [-List.map_set, set_u16, -Int.natCast_add, -Int.natCast_mul, -Int.natCast_emod, -Int.natCast_ediv, -Int.natCast_pow, nn_add, nn_addl, nn_ladd, nn_mul, nn_mull, nn_lmul, nn_mod, nn_modl, nn_tmod, nn_tmodl, nn_tdiv, nn_tdivl, nn_div, nn_divl, nn_shr, nn_sub1, nn_lel, nn_lle, nn_ltl, nn_llt, nn_eql, nn_leq, nn_eq, nn_neg, nn_pos]
      (first | refine .inl ⟨_, R1, ?_⟩ | refine ⟨_, R1, ?_⟩)
      simp (config := { maxSteps := 2000000 }) -implicitDefEqProofs [-List.map_set, set_u16, -Int.natCast_add, -Int.natCast_mul, -Int.natCast_emod, -Int.natCast_ediv, -Int.natCast_pow, nn_add, nn_addl, nn_ladd, nn_mul, nn_mull, nn_lmul, nn_mod, nn_modl, nn_tmod, nn_tmodl, nn_tdiv, nn_tdivl, nn_div, nn_divl, nn_shr, nn_sub1, nn_lel, nn_lle, nn_ltl, nn_llt, nn_eql, nn_leq, nn_eq, nn_neg, nn_pos, sgnI_zero, m0]
      exact ⟨by omega, t + 1, ⟨rfl, rfl⟩, ⟨by omega, by omega⟩, by omega⟩
  · have : t = 4 := by omega
    subst this
    rcases h2 with ⟨rfl, h2⟩ | ⟨h2, rfl⟩
    · omega
    · simp (config := { maxSteps := 2000000 }) -implicitDefEqProofs [-List.map_set, set_u16, -Int.natCast_add, -Int.natCast_mul, -Int.natCast_emod, -Int.natCast_ediv, -Int.natCast_pow, nn_add, nn_addl, nn_ladd, nn_mul, nn_mull, nn_lmul, nn_mod, nn_modl, nn_tmod, nn_tmodl, nn_tdiv, nn_tdivl, nn_div, nn_divl, nn_shr, nn_sub1, nn_lel, nn_lle, nn_ltl, nn_llt, nn_eql, nn_leq, nn_eq, nn_neg, nn_pos]

end Go.Va
