/-
  Contracts: normal forms of facts, their other kinds.
-/
import Derived.Test.YtkfdniccmcolgaaGreatWh
set_option linter.all false

namespace Go.Va
open Go.Proofs
set_option maxHeartbeats 4000000
set_option maxRecDepth 10000
set_option linter.unusedSimpArgs false
set_option linter.unusedVariables false

theorem ioK_one {P : Program} {dst : Option Nat} {st : St} {K : St → Prop} {g : FuncId} {caps : List D} {us : List U} {i sz sz' : Nat} {cs cs' : List D} {app app' : Bool} {r : R}
    (hc : CallsW P g (us ++ caps.map fun d => .c (.d d)) [(i, .row sz cs app)] [(i, .row sz' cs' app')] r) (hu : ∀ u ∈ us, inIds [i] u.all) (hb : lk i st.h = some (.row sz cs app)) (hk : K (st.backW dst [i] [(i, .row sz' cs' app')] r)) : ioK P dst st K g caps us := by
  refine ⟨[i], r, _, _, hc, hu, fun j b h => ?_, fun j hj => ?_, hk⟩
  · simp only [lk] at h
    split at h
    · rename_i e
      cases h
      subst e
      exact ⟨by simp, hb, trivial⟩
    · cases h
  · have : j = i := by simpa using hj
    subst this
    simp [lk]

theorem sorted_c (k : Int) (l : List Int) (neg : Bool) (abs den : List Nat) (h0 : l ≠ []) (hl : l.length ≤ 1099511627776) : CallsF Tryz.prog 133 [.agg [.int .i64 k, intsD l, .bool neg, natD abs, natD den]] (Fct.res ⟨k, sortL l, false, [], []⟩) := by
  refine callsF_of (T := tb) tab_ok mixed Tryz.func133 rfl (by decide) (Nat.le_of_ble_eq_true rfl) rfl ?_; unfold St.init
  have k1 := clone_c l hl h0
  have k2 := sort_c 6 l true h0 hl
  have e := sortL_len l
  simp (maxSteps := 2000000) -implicitDefEqProofs [-List.map_set, Ja, -Int.natCast_add, -Int.natCast_mul, -Int.natCast_emod, -Int.natCast_ediv, -Int.natCast_pow, Jb, Jc, Jd, Je, Jf, Jg, Jh, Ji, Jj, Jk, Jl, Jm, Jn, Jo, Jp, Jq, Jr, Js, Jt, Ju, Jv, Jw, Jx, Jy, Jz]
  (first | refine .inl ⟨_, k1, ?_⟩ | refine ⟨_, k1, ?_⟩)
  simp (maxSteps := 2000000) -implicitDefEqProofs [-List.map_set, Ja, -Int.natCast_add, -Int.natCast_mul, -Int.natCast_emod, -Int.natCast_ediv, -Int.natCast_pow, Jb, Jc, Jd, Je, Jf, Jg, Jh, Ji, Jj, Jk, Jl, Jm, Jn, Jo, Jp, Jq, Jr, Js, Jt, Ju, Jv, Jw, Jx, Jy, Jz]
  refine .inr (.inl (ioK_one k2 (by simp [inIds, U.all, C.id?]) (by simp [lk]) ?_))
  simp (maxSteps := 2000000) -implicitDefEqProofs [-List.map_set, Ja, -Int.natCast_add, -Int.natCast_mul, -Int.natCast_emod, -Int.natCast_ediv, -Int.natCast_pow, Jb, Jc, Jd, Je, Jf, Jg, Jh, Ji, Jj, Jk, Jl, Jm, Jn, Jo, Jp, Jq, Jr, Js, Jt, Ju, Jv, Jw, Jx, Jy, Jz, St.backW, Fct.res, e]
  rw [← e, List.take_of_length_le (by simp)]
  exact ⟨rfl, rfl⟩

theorem normMidpoint_c (k a b c : Int) (neg : Bool) (abs den : List Nat) : CallsF Tryz.prog 128 [.agg [.int .i64 k, intsD [a, b, c], .bool neg, natD abs, natD den]] (Fct.res ⟨k, [a, lo b c, hi b c], false, [], []⟩) := by
  refine callsF_of (T := tb) tab_ok mixed Tryz.func128 rfl (by decide) (Nat.le_of_ble_eq_true rfl) rfl ?_; unfold St.init
  have k1 := between_c b c
  simp (maxSteps := 2000000) -implicitDefEqProofs [-List.map_set, Ja, -Int.natCast_add, -Int.natCast_mul, -Int.natCast_emod, -Int.natCast_ediv, -Int.natCast_pow, Jb, Jc, Jd, Je, Jf, Jg, Jh, Ji, Jj, Jk, Jl, Jm, Jn, Jo, Jp, Jq, Jr, Js, Jt, Ju, Jv, Jw, Jx, Jy, Jz]
  refine wpDraw_by [[], [0], [0, 1], [0, 1, 2], [], [4], [4, 5], [4, 5, 6], [0, 1, 2, 3, 4, 5, 6, 7], [], [0, 1, 2, 3, 4, 5, 6, 7, 8, 9]] [.any [] [3] [⟨0, [1], [3], [3], []⟩, ⟨0, [4], [3], [3], []⟩, ⟨0, [5], [3], [3], []⟩, ⟨0, [6], [3], [3], []⟩, ⟨0, [1], [3], [3], []⟩, ⟨0, [8], [3], [3], []⟩, ⟨0, [9], [3], [3], []⟩, ⟨0, [10], [3], [3], []⟩, ⟨0, [7, 11], [3], [3], []⟩, ⟨1, [], [], [], []⟩], .one] (by rfl) ?_
  simp (maxSteps := 2000000) -implicitDefEqProofs [-List.map_set, Ja, -Int.natCast_add, -Int.natCast_mul, -Int.natCast_emod, -Int.natCast_ediv, -Int.natCast_pow, Jb, Jc, Jd, Je, Jf, Jg, Jh, Ji, Jj, Jk, Jl, Jm, Jn, Jo, Jp, Jq, Jr, Js, Jt, Ju, Jv, Jw, Jx, Jy, Jz, i64]
  (first | refine .inl ⟨_, k1, ?_⟩ | refine ⟨_, k1, ?_⟩)
  simp (maxSteps := 2000000) -implicitDefEqProofs [-List.map_set, Ja, -Int.natCast_add, -Int.natCast_mul, -Int.natCast_emod, -Int.natCast_ediv, -Int.natCast_pow, Jb, Jc, Jd, Je, Jf, Jg, Jh, Ji, Jj, Jk, Jl, Jm, Jn, Jo, Jp, Jq, Jr, Js, Jt, Ju, Jv, Jw, Jx, Jy, Jz]
  refine wpDraw_by [[], [0], [], [2], [2, 3], [2, 3, 4], [], [6], [], [8], [2, 3, 4, 5, 6, 7, 8, 9], [0, 1, 2, 3, 4, 5, 6, 7, 8, 9, 10], [0, 1, 2, 3, 4, 5, 6, 7, 8, 9, 10, 11]] [.any [] [23] [⟨0, [1], [23], [23], []⟩, ⟨0, [13], [23], [23], []⟩, ⟨0, [1], [], [23], []⟩, ⟨0, [15], [], [23], []⟩, ⟨0, [16], [], [23], []⟩, ⟨0, [17], [], [23], []⟩, ⟨0, [3], [], [23], []⟩, ⟨0, [19], [], [23], []⟩, ⟨0, [3], [], [23], []⟩, ⟨0, [21], [], [23], []⟩, ⟨1, [18, 20, 22], [], [], []⟩], .one, .one] (by rfl) ?_
  simp (maxSteps := 2000000) -implicitDefEqProofs [-List.map_set, Ja, -Int.natCast_add, -Int.natCast_mul, -Int.natCast_emod, -Int.natCast_ediv, -Int.natCast_pow, Jb, Jc, Jd, Je, Jf, Jg, Jh, Ji, Jj, Jk, Jl, Jm, Jn, Jo, Jp, Jq, Jr, Js, Jt, Ju, Jv, Jw, Jx, Jy, Jz, i64, Fct.res]
  exact ⟨rfl, rfl⟩

/-- The normal form of parallel segments. -/
def normParF (p q : Int × Int) : Fct :=
  if q.1 = p.1 ∨ q.2 = p.1 then ⟨1, sortL [p.1, oth p.1 p.2 p.1, oth q.1 q.2 p.1], false, [], []⟩
  else if q.1 = p.2 ∨ q.2 = p.2 then ⟨1, sortL [p.2, oth p.1 p.2 p.2, oth q.1 q.2 p.2], false, [], []⟩
  else normPairF 2 p q

theorem normParallel_c (a b c d : Int) (neg : Bool) (abs den : List Nat) (ha : 0 ≤ a ∧ a < 40) (hb : 0 ≤ b ∧ b < 40) (hc : 0 ≤ c ∧ c < 40) (hd : 0 ≤ d ∧ d < 40) :
    CallsF Tryz.prog 129 [.agg [.int .i64 2, intsD [a, b, c, d], .bool neg, natD abs, natD den]] (normParF (two a b) (two c d)).res := by
  refine callsF_of (T := tb) tab_ok mixed Tryz.func129 rfl (by decide) (Nat.le_of_ble_eq_true rfl) rfl ?_; unfold St.init
  have k1 := segments4_c 2 a b c d neg abs den
  have k2 := normPair_c 2 a b c d neg abs den
  have l1 : 0 ≤ lo a b ∧ lo a b < 40 := by unfold lo; split <;> omega
  have l2 : 0 ≤ hi a b ∧ hi a b < 40 := by unfold hi; split <;> omega
  have l3 : 0 ≤ lo c d ∧ lo c d < 40 := by unfold lo; split <;> omega
  have l4 : 0 ≤ hi c d ∧ hi c d < 40 := by unfold hi; split <;> omega
  unfold normParF
  unfold two at k2 ⊢
  simp only
  generalize intsD [a, b, c, d] = l at *
  generalize lo c d = x at *
  generalize hi c d = y at *
  generalize lo a b = z at *
  generalize hi a b = t at *
  have h1 := has_c x y z
  have h2 := has_c x y t
  have o1 := fun p (hp : 0 ≤ p ∧ p < 40) => other_c z t p (by omega) (by omega) (by omega)
  have o2 := fun p (hp : 0 ≤ p ∧ p < 40) => other_c x y p (by omega) (by omega) (by omega)
  simp (maxSteps := 2000000) -implicitDefEqProofs [-List.map_set, Ja, -Int.natCast_add, -Int.natCast_mul, -Int.natCast_emod, -Int.natCast_ediv, -Int.natCast_pow, Jb, Jc, Jd, Je, Jf, Jg, Jh, Ji, Jj, Jk, Jl, Jm, Jn, Jo, Jp, Jq, Jr, Js, Jt, Ju, Jv, Jw, Jx, Jy, Jz]
  (first | refine .inl ⟨_, k1, ?_⟩ | refine ⟨_, k1, ?_⟩)
  simp (maxSteps := 2000000) -implicitDefEqProofs [-List.map_set, Ja, -Int.natCast_add, -Int.natCast_mul, -Int.natCast_emod, -Int.natCast_ediv, -Int.natCast_pow, Jb, Jc, Jd, Je, Jf, Jg, Jh, Ji, Jj, Jk, Jl, Jm, Jn, Jo, Jp, Jq, Jr, Js, Jt, Ju, Jv, Jw, Jx, Jy, Jz]
  refine wpLoop_of (fun i : Nat => ⟨[(11, vI .i64 i), (10, .u (.agg [.d (.int .i64 z), .d (.int .i64 t)])), (3, vC (.sl 7 0 2)), (2, vC (.ptr 2 0)), (1, vC (.ptr 1 0))], [(7, .row 2 [.int .i64 z, .int .i64 t, .int .i64 x, .int .i64 y] true), (2, .box [.d (.int .i64 0), .nl, .d (.bool false), .nl, .nl]), (1, .box [.d (.int .i64 2), .d l, .d (.bool neg), .d (natD abs), .d (natD den)])]⟩)
    (fun i => i ≤ 2 ∧ (0 < i → ¬ (x = z ∨ y = z)) ∧ (1 < i → ¬ (x = t ∨ y = t))) (fun i => 2 - i) 0 (by simp) (by simp) ?_
  rintro i ⟨hi, g1, g2⟩
  match i, hi with
  | 0, _ =>
    by_cases h : x = z ∨ y = z
    · have hh : (decide (x = z) || decide (y = z)) = true := by simpa using h
      rw [hh] at h1
      rw [if_pos h]
      have k3 := sorted_c 1 [z, oth z t z, oth x y z] false [] [] (by simp) (by simp)
      simp (maxSteps := 2000000) -implicitDefEqProofs [-List.map_set, Ja, -Int.natCast_add, -Int.natCast_mul, -Int.natCast_emod, -Int.natCast_ediv, -Int.natCast_pow, Jb, Jc, Jd, Je, Jf, Jg, Jh, Ji, Jj, Jk, Jl, Jm, Jn, Jo, Jp, Jq, Jr, Js, Jt, Ju, Jv, Jw, Jx, Jy, Jz]
      (first | refine .inl ⟨_, h1, ?_⟩ | refine ⟨_, h1, ?_⟩)
      simp (maxSteps := 2000000) -implicitDefEqProofs [-List.map_set, Ja, -Int.natCast_add, -Int.natCast_mul, -Int.natCast_emod, -Int.natCast_ediv, -Int.natCast_pow, Jb, Jc, Jd, Je, Jf, Jg, Jh, Ji, Jj, Jk, Jl, Jm, Jn, Jo, Jp, Jq, Jr, Js, Jt, Ju, Jv, Jw, Jx, Jy, Jz]
      refine wpDraw_by [[], [], [1], [1, 2], [], [1, 2, 3, 4], [], [6], [6, 7], [], [1, 2, 3, 4, 5, 6, 7, 8, 9], [0, 1, 2, 3, 4, 5, 6, 7, 8, 9, 10], [0, 1, 2, 3, 4, 5, 6, 7, 8, 9, 10, 11], [0, 1, 2, 3, 4, 5, 6, 7, 8, 9, 10, 11, 12], [0, 1, 2, 3, 4, 5, 6, 7, 8, 9, 10, 11, 12, 13]] [.any [] [] [⟨0, [5], [], [], []⟩, ⟨0, [3], [], [], []⟩, ⟨0, [20], [], [], []⟩, ⟨0, [21], [], [], []⟩, ⟨0, [5], [], [], []⟩, ⟨0, [22, 23], [], [], []⟩, ⟨0, [3], [], [], []⟩, ⟨0, [25], [], [], []⟩, ⟨0, [26], [], [], []⟩, ⟨0, [5], [], [], []⟩, ⟨0, [27, 28], [], [], []⟩], .one, .one, .one, .one] (by rfl) ?_
      simp (maxSteps := 2000000) -implicitDefEqProofs [-List.map_set, Ja, -Int.natCast_add, -Int.natCast_mul, -Int.natCast_emod, -Int.natCast_ediv, -Int.natCast_pow, Jb, Jc, Jd, Je, Jf, Jg, Jh, Ji, Jj, Jk, Jl, Jm, Jn, Jo, Jp, Jq, Jr, Js, Jt, Ju, Jv, Jw, Jx, Jy, Jz]
      (first | refine .inl ⟨_, o1 z l1, ?_⟩ | refine ⟨_, o1 z l1, ?_⟩)
      simp (maxSteps := 2000000) -implicitDefEqProofs [-List.map_set, Ja, -Int.natCast_add, -Int.natCast_mul, -Int.natCast_emod, -Int.natCast_ediv, -Int.natCast_pow, Jb, Jc, Jd, Je, Jf, Jg, Jh, Ji, Jj, Jk, Jl, Jm, Jn, Jo, Jp, Jq, Jr, Js, Jt, Ju, Jv, Jw, Jx, Jy, Jz]
      (first | refine .inl ⟨_, o2 z l1, ?_⟩ | refine ⟨_, o2 z l1, ?_⟩)
      simp (maxSteps := 2000000) -implicitDefEqProofs [-List.map_set, Ja, -Int.natCast_add, -Int.natCast_mul, -Int.natCast_emod, -Int.natCast_ediv, -Int.natCast_pow, Jb, Jc, Jd, Je, Jf, Jg, Jh, Ji, Jj, Jk, Jl, Jm, Jn, Jo, Jp, Jq, Jr, Js, Jt, Ju, Jv, Jw, Jx, Jy, Jz]
      (first | refine .inl ⟨_, k3, ?_⟩ | refine ⟨_, k3, ?_⟩)
      simp (maxSteps := 2000000) -implicitDefEqProofs [-List.map_set, Ja, -Int.natCast_add, -Int.natCast_mul, -Int.natCast_emod, -Int.natCast_ediv, -Int.natCast_pow, Jb, Jc, Jd, Je, Jf, Jg, Jh, Ji, Jj, Jk, Jl, Jm, Jn, Jo, Jp, Jq, Jr, Js, Jt, Ju, Jv, Jw, Jx, Jy, Jz, Fct.res]
    · have hh : (decide (x = z) || decide (y = z)) = false := by simpa using h
      rw [hh] at h1
      rw [if_neg h]
      simp (maxSteps := 2000000) -implicitDefEqProofs [-List.map_set, Ja, -Int.natCast_add, -Int.natCast_mul, -Int.natCast_emod, -Int.natCast_ediv, -Int.natCast_pow, Jb, Jc, Jd, Je, Jf, Jg, Jh, Ji, Jj, Jk, Jl, Jm, Jn, Jo, Jp, Jq, Jr, Js, Jt, Ju, Jv, Jw, Jx, Jy, Jz]
      (first | refine .inl ⟨_, h1, ?_⟩ | refine ⟨_, h1, ?_⟩)
      simp (maxSteps := 2000000) -implicitDefEqProofs [-List.map_set, Ja, -Int.natCast_add, -Int.natCast_mul, -Int.natCast_emod, -Int.natCast_ediv, -Int.natCast_pow, Jb, Jc, Jd, Je, Jf, Jg, Jh, Ji, Jj, Jk, Jl, Jm, Jn, Jo, Jp, Jq, Jr, Js, Jt, Ju, Jv, Jw, Jx, Jy, Jz]
      simpa using h
  | 1, _ =>
    have g1 := g1 (by omega)
    rw [if_neg g1]
    by_cases h : x = t ∨ y = t
    · have hh : (decide (x = t) || decide (y = t)) = true := by simpa using h
      rw [hh] at h2
      rw [if_pos h]
      have k3 := sorted_c 1 [t, oth z t t, oth x y t] false [] [] (by simp) (by simp)
      simp (maxSteps := 2000000) -implicitDefEqProofs [-List.map_set, Ja, -Int.natCast_add, -Int.natCast_mul, -Int.natCast_emod, -Int.natCast_ediv, -Int.natCast_pow, Jb, Jc, Jd, Je, Jf, Jg, Jh, Ji, Jj, Jk, Jl, Jm, Jn, Jo, Jp, Jq, Jr, Js, Jt, Ju, Jv, Jw, Jx, Jy, Jz]
      (first | refine .inl ⟨_, h2, ?_⟩ | refine ⟨_, h2, ?_⟩)
      simp (maxSteps := 2000000) -implicitDefEqProofs [-List.map_set, Ja, -Int.natCast_add, -Int.natCast_mul, -Int.natCast_emod, -Int.natCast_ediv, -Int.natCast_pow, Jb, Jc, Jd, Je, Jf, Jg, Jh, Ji, Jj, Jk, Jl, Jm, Jn, Jo, Jp, Jq, Jr, Js, Jt, Ju, Jv, Jw, Jx, Jy, Jz]
      refine wpDraw_by [[], [], [1], [1, 2], [], [1, 2, 3, 4], [], [6], [6, 7], [], [1, 2, 3, 4, 5, 6, 7, 8, 9], [0, 1, 2, 3, 4, 5, 6, 7, 8, 9, 10], [0, 1, 2, 3, 4, 5, 6, 7, 8, 9, 10, 11], [0, 1, 2, 3, 4, 5, 6, 7, 8, 9, 10, 11, 12], [0, 1, 2, 3, 4, 5, 6, 7, 8, 9, 10, 11, 12, 13]] [.any [] [] [⟨0, [5], [], [], []⟩, ⟨0, [3], [], [], []⟩, ⟨0, [20], [], [], []⟩, ⟨0, [21], [], [], []⟩, ⟨0, [5], [], [], []⟩, ⟨0, [22, 23], [], [], []⟩, ⟨0, [3], [], [], []⟩, ⟨0, [25], [], [], []⟩, ⟨0, [26], [], [], []⟩, ⟨0, [5], [], [], []⟩, ⟨0, [27, 28], [], [], []⟩], .one, .one, .one, .one] (by rfl) ?_
      simp (maxSteps := 2000000) -implicitDefEqProofs [-List.map_set, Ja, -Int.natCast_add, -Int.natCast_mul, -Int.natCast_emod, -Int.natCast_ediv, -Int.natCast_pow, Jb, Jc, Jd, Je, Jf, Jg, Jh, Ji, Jj, Jk, Jl, Jm, Jn, Jo, Jp, Jq, Jr, Js, Jt, Ju, Jv, Jw, Jx, Jy, Jz]
      (first | refine .inl ⟨_, o1 t l2, ?_⟩ | refine ⟨_, o1 t l2, ?_⟩)
      simp (maxSteps := 2000000) -implicitDefEqProofs [-List.map_set, Ja, -Int.natCast_add, -Int.natCast_mul, -Int.natCast_emod, -Int.natCast_ediv, -Int.natCast_pow, Jb, Jc, Jd, Je, Jf, Jg, Jh, Ji, Jj, Jk, Jl, Jm, Jn, Jo, Jp, Jq, Jr, Js, Jt, Ju, Jv, Jw, Jx, Jy, Jz]
      (first | refine .inl ⟨_, o2 t l2, ?_⟩ | refine ⟨_, o2 t l2, ?_⟩)
      simp (maxSteps := 2000000) -implicitDefEqProofs [-List.map_set, Ja, -Int.natCast_add, -Int.natCast_mul, -Int.natCast_emod, -Int.natCast_ediv, -Int.natCast_pow, Jb, Jc, Jd, Je, Jf, Jg, Jh, Ji, Jj, Jk, Jl, Jm, Jn, Jo, Jp, Jq, Jr, Js, Jt, Ju, Jv, Jw, Jx, Jy, Jz]
      (first | refine .inl ⟨_, k3, ?_⟩ | refine ⟨_, k3, ?_⟩)
      simp (maxSteps := 2000000) -implicitDefEqProofs [-List.map_set, Ja, -Int.natCast_add, -Int.natCast_mul, -Int.natCast_emod, -Int.natCast_ediv, -Int.natCast_pow, Jb, Jc, Jd, Je, Jf, Jg, Jh, Ji, Jj, Jk, Jl, Jm, Jn, Jo, Jp, Jq, Jr, Js, Jt, Ju, Jv, Jw, Jx, Jy, Jz, Fct.res]
    · have hh : (decide (x = t) || decide (y = t)) = false := by simpa using h
      rw [hh] at h2
      rw [if_neg h]
      simp (maxSteps := 2000000) -implicitDefEqProofs [-List.map_set, Ja, -Int.natCast_add, -Int.natCast_mul, -Int.natCast_emod, -Int.natCast_ediv, -Int.natCast_pow, Jb, Jc, Jd, Je, Jf, Jg, Jh, Ji, Jj, Jk, Jl, Jm, Jn, Jo, Jp, Jq, Jr, Js, Jt, Ju, Jv, Jw, Jx, Jy, Jz]
      (first | refine .inl ⟨_, h2, ?_⟩ | refine ⟨_, h2, ?_⟩)
      simp (maxSteps := 2000000) -implicitDefEqProofs [-List.map_set, Ja, -Int.natCast_add, -Int.natCast_mul, -Int.natCast_emod, -Int.natCast_ediv, -Int.natCast_pow, Jb, Jc, Jd, Je, Jf, Jg, Jh, Ji, Jj, Jk, Jl, Jm, Jn, Jo, Jp, Jq, Jr, Js, Jt, Ju, Jv, Jw, Jx, Jy, Jz]
      exact ⟨by simpa using g1, by simpa using h⟩
  | 2, _ =>
    rw [if_neg (g1 (by omega)), if_neg (g2 (by omega))]
    simp (maxSteps := 2000000) -implicitDefEqProofs [-List.map_set, Ja, -Int.natCast_add, -Int.natCast_mul, -Int.natCast_emod, -Int.natCast_ediv, -Int.natCast_pow, Jb, Jc, Jd, Je, Jf, Jg, Jh, Ji, Jj, Jk, Jl, Jm, Jn, Jo, Jp, Jq, Jr, Js, Jt, Ju, Jv, Jw, Jx, Jy, Jz]
    (first | refine .inl ⟨_, k2, ?_⟩ | refine ⟨_, k2, ?_⟩)
    simp (maxSteps := 2000000) -implicitDefEqProofs [-List.map_set, Ja, -Int.natCast_add, -Int.natCast_mul, -Int.natCast_emod, -Int.natCast_ediv, -Int.natCast_pow, Jb, Jc, Jd, Je, Jf, Jg, Jh, Ji, Jj, Jk, Jl, Jm, Jn, Jo, Jp, Jq, Jr, Js, Jt, Ju, Jv, Jw, Jx, Jy, Jz, Fct.res]

/-- The normal form of segments with a ratio. -/
def normRatF (neg : Bool) (m e : Nat) (p q : Int × Int) : Fct :=
  if toZ neg m = e then normPairF 4 p q
  else if m ≠ 0 ∧ cmpP q p < 0 then ⟨9, [q.1, q.2, p.1, p.2], neg, limbs e, limbs m⟩
  else if m ≠ 0 ∧ p = q ∧ cmpZ (toZ neg e * e) (toZ neg m * m) < 0 then ⟨9, [p.1, p.2, q.1, q.2], neg, limbs e, limbs m⟩
  else ⟨9, [p.1, p.2, q.1, q.2], neg, limbs m, limbs e⟩

theorem isOne_c (neg : Bool) (m e : Nat) (hm : m < 4294967296) (he : e < 4294967296) (e0 : e ≠ 0) : CallsF Tryz.prog 172 [.agg [.bool neg, natD (limbs m), natD (limbs e)], .agg [.bool false, natD (limbs 1), natD (limbs 1)]] (.u (.c (.d (.bool (decide (toZ neg m = e)))))) := by
  have lm := limbs_small (n := m) (by omega)
  have le := limbs_small (n := e) (by omega)
  have k := ratEqual_c neg false (limbs m) (limbs e) (limbs 1) (limbs 1) (ok_limbs _) (by omega) (ok_limbs _) (by omega) (ok_limbs _) (by decide) (ok_limbs _) (by decide) (by rw [val_limbs]; exact e0) (by rw [val_limbs]; omega)
  rw [val_limbs, val_limbs, val_limbs] at k
  have e1 : (toZ neg m * (1 : Nat) = toZ false 1 * (e : Int)) = (toZ neg m = e) := by simp [toZ]
  simpa only [e1] using k

theorem ratCmp2_c (neg : Bool) (m e : Nat) (hm : m < 4294967296) (he : e < 4294967296) (m0 : m ≠ 0) (e0 : e ≠ 0) : CallsF Tryz.prog 74 [.agg [.bool neg, natD (limbs e), natD (limbs m)], .agg [.bool neg, natD (limbs m), natD (limbs e)]] (.u (.c (.d (.int .i64 (cmpZ (toZ neg e * e) (toZ neg m * m)))))) := by
  have lm := limbs_small (n := m) (by omega)
  have le := limbs_small (n := e) (by omega)
  have k := ratCmp_c neg neg (limbs e) (limbs m) (limbs m) (limbs e) (ok_limbs _) (by omega) (ok_limbs _) (by omega) (ok_limbs _) (by omega) (ok_limbs _) (by omega) (by rw [val_limbs]; exact m0) (by rw [val_limbs]; exact e0)
  rw [val_limbs, val_limbs] at k
  exact k

theorem normRatio_c (a b c d : Int) (neg : Bool) (m e : Nat) (hm : m < 4294967296) (he : e < 4294967296) (e0 : e ≠ 0) (hg : Nat.gcd m e = 1) :
    CallsF Tryz.prog 131 [.agg [.int .i64 9, intsD [a, b, c, d], .bool neg, natD (limbs m), natD (limbs e)]] (normRatF neg m e (two a b) (two c d)).res := by
  refine callsF_of (T := tb) tab_ok mixed Tryz.func131 rfl (by decide) (Nat.le_of_ble_eq_true rfl) rfl ?_; unfold St.init
  have k1 := segments4_c 9 a b c d neg (limbs m) (limbs e)
  have k2 := normPair_c 4 a b c d false [] []
  have k3 := isOne_c neg m e hm he e0
  have k4 := ratOf_c 1 (by omega)
  have k5 := ratDiv_c neg m e (by omega) (by omega) e0 hg
  have k6 := fun m0 => ratCmp2_c neg m e hm he m0 e0
  unfold normRatF
  unfold two at k2 ⊢
  simp only
  generalize intsD [a, b, c, d] = l at *
  generalize lo c d = x at *
  generalize hi c d = y at *
  generalize lo a b = z at *
  generalize hi a b = t at *
  have k7 := segCompare_c x y z t
  have k8 := joined2_c 9 x y z t neg (limbs e) (limbs m)
  have k9 := joined2_c 9 z t x y neg (limbs e) (limbs m)
  have k10 := joined2_c 9 z t x y neg (limbs m) (limbs e)
  simp (maxSteps := 2000000) -implicitDefEqProofs [-List.map_set, Ja, -Int.natCast_add, -Int.natCast_mul, -Int.natCast_emod, -Int.natCast_ediv, -Int.natCast_pow, Jb, Jc, Jd, Je, Jf, Jg, Jh, Ji, Jj, Jk, Jl, Jm, Jn, Jo, Jp, Jq, Jr, Js, Jt, Ju, Jv, Jw, Jx, Jy, Jz]
  refine wpDraw_by [[], [0], [], [0, 1, 2]] [.any [] [] [⟨0, [1], [], [], []⟩, ⟨0, [6], [], [], []⟩, ⟨0, [], [], [], []⟩], .one] (by rfl) ?_
  simp (maxSteps := 2000000) -implicitDefEqProofs [-List.map_set, Ja, -Int.natCast_add, -Int.natCast_mul, -Int.natCast_emod, -Int.natCast_ediv, -Int.natCast_pow, Jb, Jc, Jd, Je, Jf, Jg, Jh, Ji, Jj, Jk, Jl, Jm, Jn, Jo, Jp, Jq, Jr, Js, Jt, Ju, Jv, Jw, Jx, Jy, Jz]
  (first | refine .inl ⟨_, k4, ?_⟩ | refine ⟨_, k4, ?_⟩)
  simp (maxSteps := 2000000) -implicitDefEqProofs [-List.map_set, Ja, -Int.natCast_add, -Int.natCast_mul, -Int.natCast_emod, -Int.natCast_ediv, -Int.natCast_pow, Jb, Jc, Jd, Je, Jf, Jg, Jh, Ji, Jj, Jk, Jl, Jm, Jn, Jo, Jp, Jq, Jr, Js, Jt, Ju, Jv, Jw, Jx, Jy, Jz]
  (first | refine .inl ⟨_, k3, ?_⟩ | refine ⟨_, k3, ?_⟩)
  by_cases h1 : toZ neg m = e
  · rw [if_pos h1]
    simp (maxSteps := 2000000) -implicitDefEqProofs [-List.map_set, Ja, -Int.natCast_add, -Int.natCast_mul, -Int.natCast_emod, -Int.natCast_ediv, -Int.natCast_pow, Jb, Jc, Jd, Je, Jf, Jg, Jh, Ji, Jj, Jk, Jl, Jm, Jn, Jo, Jp, Jq, Jr, Js, Jt, Ju, Jv, Jw, Jx, Jy, Jz, h1]
    (first | refine .inl ⟨_, k2, ?_⟩ | refine ⟨_, k2, ?_⟩)
    simp (maxSteps := 2000000) -implicitDefEqProofs [-List.map_set, Ja, -Int.natCast_add, -Int.natCast_mul, -Int.natCast_emod, -Int.natCast_ediv, -Int.natCast_pow, Jb, Jc, Jd, Je, Jf, Jg, Jh, Ji, Jj, Jk, Jl, Jm, Jn, Jo, Jp, Jq, Jr, Js, Jt, Ju, Jv, Jw, Jx, Jy, Jz, Fct.res]
  · rw [if_neg h1]
    simp (maxSteps := 2000000) -implicitDefEqProofs [-List.map_set, Ja, -Int.natCast_add, -Int.natCast_mul, -Int.natCast_emod, -Int.natCast_ediv, -Int.natCast_pow, Jb, Jc, Jd, Je, Jf, Jg, Jh, Ji, Jj, Jk, Jl, Jm, Jn, Jo, Jp, Jq, Jr, Js, Jt, Ju, Jv, Jw, Jx, Jy, Jz, h1]
    (first | refine .inl ⟨_, k1, ?_⟩ | refine ⟨_, k1, ?_⟩)
    simp (maxSteps := 2000000) -implicitDefEqProofs [-List.map_set, Ja, -Int.natCast_add, -Int.natCast_mul, -Int.natCast_emod, -Int.natCast_ediv, -Int.natCast_pow, Jb, Jc, Jd, Je, Jf, Jg, Jh, Ji, Jj, Jk, Jl, Jm, Jn, Jo, Jp, Jq, Jr, Js, Jt, Ju, Jv, Jw, Jx, Jy, Jz]
    refine wpDraw_by [[], [], [1], [0, 1, 2], [0, 1, 2, 3], [0, 1, 2, 3, 4], [0, 1, 2, 3, 4], [], [0, 1, 2, 3, 4, 5, 7], [0, 1, 2, 3, 4, 5, 6, 7, 8]] [.any [] [4] [⟨0, [], [4], [4], []⟩, ⟨0, [1], [4], [4], []⟩, ⟨0, [18], [4], [4], []⟩, ⟨0, [17, 19], [4], [4], []⟩, ⟨0, [20], [4], [4], []⟩, ⟨0, [16], [4], [4], []⟩, ⟨0, [16], [4], [4], []⟩, ⟨1, [], [], [], []⟩, ⟨2, [4, 21], [], [], [4]⟩], .one] (by rfl) ?_
    simp (maxSteps := 2000000) -implicitDefEqProofs [-List.map_set, Ja, -Int.natCast_add, -Int.natCast_mul, -Int.natCast_emod, -Int.natCast_ediv, -Int.natCast_pow, Jb, Jc, Jd, Je, Jf, Jg, Jh, Ji, Jj, Jk, Jl, Jm, Jn, Jo, Jp, Jq, Jr, Js, Jt, Ju, Jv, Jw, Jx, Jy, Jz]
    (first | refine .inl ⟨_, k4, ?_⟩ | refine ⟨_, k4, ?_⟩)
    simp (maxSteps := 2000000) -implicitDefEqProofs [-List.map_set, Ja, -Int.natCast_add, -Int.natCast_mul, -Int.natCast_emod, -Int.natCast_ediv, -Int.natCast_pow, Jb, Jc, Jd, Je, Jf, Jg, Jh, Ji, Jj, Jk, Jl, Jm, Jn, Jo, Jp, Jq, Jr, Js, Jt, Ju, Jv, Jw, Jx, Jy, Jz]
    (first | refine .inl ⟨_, k5, ?_⟩ | refine ⟨_, k5, ?_⟩)
    by_cases m0 : m = 0
    · simp (maxSteps := 2000000) -implicitDefEqProofs [-List.map_set, Ja, -Int.natCast_add, -Int.natCast_mul, -Int.natCast_emod, -Int.natCast_ediv, -Int.natCast_pow, Jb, Jc, Jd, Je, Jf, Jg, Jh, Ji, Jj, Jk, Jl, Jm, Jn, Jo, Jp, Jq, Jr, Js, Jt, Ju, Jv, Jw, Jx, Jy, Jz, m0]
      refine wpDraw_by [[], [0], [0, 1], [0, 1, 2], [0, 1, 2, 3], [0, 1, 2, 3, 4], [0, 1, 2], [0, 1, 2, 6], [0, 1, 2, 6, 7], [0, 1, 2, 3, 4, 5, 6, 7, 8], [0, 1, 2, 3, 4, 5, 6, 7, 8, 9], [0, 1, 2, 3, 4, 5, 6, 7, 8, 9, 10]] [.one, .one, .one, .any [] [] [⟨0, [3, 25], [], [], []⟩, ⟨0, [26, 25], [], [], []⟩, ⟨0, [27, 25], [], [], []⟩, ⟨0, [3, 25], [], [], []⟩, ⟨0, [29, 25], [], [], []⟩, ⟨0, [30, 25], [], [], []⟩], .one, .one, .one] (by rfl) ?_
      simp (maxSteps := 2000000) -implicitDefEqProofs [-List.map_set, Ja, -Int.natCast_add, -Int.natCast_mul, -Int.natCast_emod, -Int.natCast_ediv, -Int.natCast_pow, Jb, Jc, Jd, Je, Jf, Jg, Jh, Ji, Jj, Jk, Jl, Jm, Jn, Jo, Jp, Jq, Jr, Js, Jt, Ju, Jv, Jw, Jx, Jy, Jz]
      refine wpDraw_by [[], [0], [0, 1], [0, 1, 2], [0, 1, 2, 3], [0, 1, 2, 3, 4], [0, 1, 2], [0, 1, 2, 6], [0, 1, 2, 6, 7], [0, 1, 2, 3, 4, 5, 6, 7, 8], [0, 1, 2, 3, 4, 5, 6, 7, 8, 9], [0, 1, 2, 3, 4, 5, 6, 7, 8, 9, 10], [0, 1, 2, 3, 4, 5, 6, 7, 8, 9, 10, 11], [0, 1, 2, 3, 4, 5, 6, 7, 8, 9, 10, 11], [0, 1, 2, 3, 4, 5, 6, 7, 8, 9, 10, 11, 13], [0, 1, 2, 3, 4, 5, 6, 7, 8, 9, 10, 11, 12, 13, 14], [0, 1, 2, 3, 4, 5, 6, 7, 8, 9, 10, 11, 12, 13, 14, 15], [0, 1, 2, 3, 4, 5, 6, 7, 8, 9, 10, 11, 12, 13, 14, 15, 16]] [.one, .one, .one, .any [] [] [⟨0, [3, 48], [], [], []⟩, ⟨0, [49, 48], [], [], []⟩, ⟨0, [50, 48], [], [], []⟩, ⟨0, [3, 48], [], [], []⟩, ⟨0, [52, 48], [], [], []⟩, ⟨0, [53, 48], [], [], []⟩], .one, .one, .one, .any [] [] [⟨0, [4, 57], [], [], []⟩, ⟨0, [1, 57], [], [], []⟩, ⟨0, [59, 57], [], [], []⟩], .one, .one, .one] (by rfl) ?_
      simp (maxSteps := 2000000) -implicitDefEqProofs [-List.map_set, Ja, -Int.natCast_add, -Int.natCast_mul, -Int.natCast_emod, -Int.natCast_ediv, -Int.natCast_pow, Jb, Jc, Jd, Je, Jf, Jg, Jh, Ji, Jj, Jk, Jl, Jm, Jn, Jo, Jp, Jq, Jr, Js, Jt, Ju, Jv, Jw, Jx, Jy, Jz]
      subst m0
      (first | refine .inl ⟨_, k10, ?_⟩ | refine ⟨_, k10, ?_⟩)
      simp (maxSteps := 2000000) -implicitDefEqProofs [-List.map_set, Ja, -Int.natCast_add, -Int.natCast_mul, -Int.natCast_emod, -Int.natCast_ediv, -Int.natCast_pow, Jb, Jc, Jd, Je, Jf, Jg, Jh, Ji, Jj, Jk, Jl, Jm, Jn, Jo, Jp, Jq, Jr, Js, Jt, Ju, Jv, Jw, Jx, Jy, Jz, Fct.res]
    · have k6 := k6 m0
      simp (maxSteps := 2000000) -implicitDefEqProofs [-List.map_set, Ja, -Int.natCast_add, -Int.natCast_mul, -Int.natCast_emod, -Int.natCast_ediv, -Int.natCast_pow, Jb, Jc, Jd, Je, Jf, Jg, Jh, Ji, Jj, Jk, Jl, Jm, Jn, Jo, Jp, Jq, Jr, Js, Jt, Ju, Jv, Jw, Jx, Jy, Jz, m0]
      refine wpDraw_by [[], [0], [0, 1], [0, 1, 2], [0, 1, 2, 3], [0, 1, 2, 3, 4], [0, 1, 2], [0, 1, 2, 6], [0, 1, 2, 6, 7], [0, 1, 2, 3, 4, 5, 6, 7, 8], [0, 1, 2, 3, 4, 5, 6, 7, 8, 9], [0, 1, 2, 3, 4, 5, 6, 7, 8, 9, 10]] [.one, .one, .one, .any [] [] [⟨0, [3, 25], [], [], []⟩, ⟨0, [26, 25], [], [], []⟩, ⟨0, [27, 25], [], [], []⟩, ⟨0, [3, 25], [], [], []⟩, ⟨0, [29, 25], [], [], []⟩, ⟨0, [30, 25], [], [], []⟩], .one, .one, .one] (by rfl) ?_
      simp (maxSteps := 2000000) -implicitDefEqProofs [-List.map_set, Ja, -Int.natCast_add, -Int.natCast_mul, -Int.natCast_emod, -Int.natCast_ediv, -Int.natCast_pow, Jb, Jc, Jd, Je, Jf, Jg, Jh, Ji, Jj, Jk, Jl, Jm, Jn, Jo, Jp, Jq, Jr, Js, Jt, Ju, Jv, Jw, Jx, Jy, Jz]
      (first | refine .inl ⟨_, k7, ?_⟩ | refine ⟨_, k7, ?_⟩)
      by_cases h2 : cmpP (x, y) (z, t) < 0
      · simp (maxSteps := 2000000) -implicitDefEqProofs [-List.map_set, Ja, -Int.natCast_add, -Int.natCast_mul, -Int.natCast_emod, -Int.natCast_ediv, -Int.natCast_pow, Jb, Jc, Jd, Je, Jf, Jg, Jh, Ji, Jj, Jk, Jl, Jm, Jn, Jo, Jp, Jq, Jr, Js, Jt, Ju, Jv, Jw, Jx, Jy, Jz, h2]
        refine wpDraw_by [[], [0], [], [], [3], [3, 4], [], [6], [6, 7], [3, 4, 5, 6, 7, 8], [0, 1, 2, 3, 4, 5, 6, 7, 8, 9], [0, 1, 2, 3, 4, 5, 6, 7, 8, 9, 10]] [.any [] [44] [⟨0, [1], [44], [44], []⟩, ⟨0, [35], [44], [44], []⟩, ⟨0, [4], [44], [44], []⟩, ⟨0, [3], [], [44], []⟩, ⟨0, [38], [], [44], []⟩, ⟨0, [39], [], [44], []⟩, ⟨0, [3], [], [44], []⟩, ⟨0, [41], [], [44], []⟩, ⟨0, [42], [], [44], []⟩, ⟨1, [40, 43], [], [], []⟩], .one, .one] (by rfl) ?_
        simp (maxSteps := 2000000) -implicitDefEqProofs [-List.map_set, Ja, -Int.natCast_add, -Int.natCast_mul, -Int.natCast_emod, -Int.natCast_ediv, -Int.natCast_pow, Jb, Jc, Jd, Je, Jf, Jg, Jh, Ji, Jj, Jk, Jl, Jm, Jn, Jo, Jp, Jq, Jr, Js, Jt, Ju, Jv, Jw, Jx, Jy, Jz]
        (first | refine .inl ⟨_, k8, ?_⟩ | refine ⟨_, k8, ?_⟩)
        simp (maxSteps := 2000000) -implicitDefEqProofs [-List.map_set, Ja, -Int.natCast_add, -Int.natCast_mul, -Int.natCast_emod, -Int.natCast_ediv, -Int.natCast_pow, Jb, Jc, Jd, Je, Jf, Jg, Jh, Ji, Jj, Jk, Jl, Jm, Jn, Jo, Jp, Jq, Jr, Js, Jt, Ju, Jv, Jw, Jx, Jy, Jz, Fct.res]
      · simp (maxSteps := 2000000) -implicitDefEqProofs [-List.map_set, Ja, -Int.natCast_add, -Int.natCast_mul, -Int.natCast_emod, -Int.natCast_ediv, -Int.natCast_pow, Jb, Jc, Jd, Je, Jf, Jg, Jh, Ji, Jj, Jk, Jl, Jm, Jn, Jo, Jp, Jq, Jr, Js, Jt, Ju, Jv, Jw, Jx, Jy, Jz, h2]
        refine wpDraw_by [[], [0], [0, 1], [0, 1, 2], [0, 1, 2, 3], [0, 1, 2, 3, 4], [0, 1, 2], [0, 1, 2, 6], [0, 1, 2, 6, 7], [0, 1, 2, 3, 4, 5, 6, 7, 8], [0, 1, 2, 3, 4, 5, 6, 7, 8, 9], [0, 1, 2, 3, 4, 5, 6, 7, 8, 9, 10], [0, 1, 2, 3, 4, 5, 6, 7, 8, 9, 10, 11], [0, 1, 2, 3, 4, 5, 6, 7, 8, 9, 10, 11], [0, 1, 2, 3, 4, 5, 6, 7, 8, 9, 10, 11, 13], [0, 1, 2, 3, 4, 5, 6, 7, 8, 9, 10, 11, 12, 13, 14], [0, 1, 2, 3, 4, 5, 6, 7, 8, 9, 10, 11, 12, 13, 14, 15], [0, 1, 2, 3, 4, 5, 6, 7, 8, 9, 10, 11, 12, 13, 14, 15, 16]] [.one, .one, .one, .any [] [] [⟨0, [3, 48], [], [], []⟩, ⟨0, [49, 48], [], [], []⟩, ⟨0, [50, 48], [], [], []⟩, ⟨0, [3, 48], [], [], []⟩, ⟨0, [52, 48], [], [], []⟩, ⟨0, [53, 48], [], [], []⟩], .one, .one, .one, .any [] [] [⟨0, [4, 57], [], [], []⟩, ⟨0, [1, 57], [], [], []⟩, ⟨0, [59, 57], [], [], []⟩], .one, .one, .one] (by rfl) ?_
        by_cases h3 : z = x
        · by_cases h4 : t = y
          · by_cases h5 : cmpZ (toZ neg e * e) (toZ neg m * m) < 0
            · simp (maxSteps := 2000000) -implicitDefEqProofs [-List.map_set, Ja, -Int.natCast_add, -Int.natCast_mul, -Int.natCast_emod, -Int.natCast_ediv, -Int.natCast_pow, Jb, Jc, Jd, Je, Jf, Jg, Jh, Ji, Jj, Jk, Jl, Jm, Jn, Jo, Jp, Jq, Jr, Js, Jt, Ju, Jv, Jw, Jx, Jy, Jz, h3, h4]
              (first | refine .inl ⟨_, k6, ?_⟩ | refine ⟨_, k6, ?_⟩)
              simp (maxSteps := 2000000) -implicitDefEqProofs [-List.map_set, Ja, -Int.natCast_add, -Int.natCast_mul, -Int.natCast_emod, -Int.natCast_ediv, -Int.natCast_pow, Jb, Jc, Jd, Je, Jf, Jg, Jh, Ji, Jj, Jk, Jl, Jm, Jn, Jo, Jp, Jq, Jr, Js, Jt, Ju, Jv, Jw, Jx, Jy, Jz, h5]
              subst h3 h4
              (first | refine .inl ⟨_, k9, ?_⟩ | refine ⟨_, k9, ?_⟩)
              simp (maxSteps := 2000000) -implicitDefEqProofs [-List.map_set, Ja, -Int.natCast_add, -Int.natCast_mul, -Int.natCast_emod, -Int.natCast_ediv, -Int.natCast_pow, Jb, Jc, Jd, Je, Jf, Jg, Jh, Ji, Jj, Jk, Jl, Jm, Jn, Jo, Jp, Jq, Jr, Js, Jt, Ju, Jv, Jw, Jx, Jy, Jz, Fct.res]
            · simp (maxSteps := 2000000) -implicitDefEqProofs [-List.map_set, Ja, -Int.natCast_add, -Int.natCast_mul, -Int.natCast_emod, -Int.natCast_ediv, -Int.natCast_pow, Jb, Jc, Jd, Je, Jf, Jg, Jh, Ji, Jj, Jk, Jl, Jm, Jn, Jo, Jp, Jq, Jr, Js, Jt, Ju, Jv, Jw, Jx, Jy, Jz, h3, h4]
              (first | refine .inl ⟨_, k6, ?_⟩ | refine ⟨_, k6, ?_⟩)
              simp (maxSteps := 2000000) -implicitDefEqProofs [-List.map_set, Ja, -Int.natCast_add, -Int.natCast_mul, -Int.natCast_emod, -Int.natCast_ediv, -Int.natCast_pow, Jb, Jc, Jd, Je, Jf, Jg, Jh, Ji, Jj, Jk, Jl, Jm, Jn, Jo, Jp, Jq, Jr, Js, Jt, Ju, Jv, Jw, Jx, Jy, Jz, h5]
              subst h3 h4
              (first | refine .inl ⟨_, k10, ?_⟩ | refine ⟨_, k10, ?_⟩)
              simp (maxSteps := 2000000) -implicitDefEqProofs [-List.map_set, Ja, -Int.natCast_add, -Int.natCast_mul, -Int.natCast_emod, -Int.natCast_ediv, -Int.natCast_pow, Jb, Jc, Jd, Je, Jf, Jg, Jh, Ji, Jj, Jk, Jl, Jm, Jn, Jo, Jp, Jq, Jr, Js, Jt, Ju, Jv, Jw, Jx, Jy, Jz, Fct.res]
          · simp (maxSteps := 2000000) -implicitDefEqProofs [-List.map_set, Ja, -Int.natCast_add, -Int.natCast_mul, -Int.natCast_emod, -Int.natCast_ediv, -Int.natCast_pow, Jb, Jc, Jd, Je, Jf, Jg, Jh, Ji, Jj, Jk, Jl, Jm, Jn, Jo, Jp, Jq, Jr, Js, Jt, Ju, Jv, Jw, Jx, Jy, Jz, h3, h4]
            subst h3
            (first | refine .inl ⟨_, k10, ?_⟩ | refine ⟨_, k10, ?_⟩)
            simp (maxSteps := 2000000) -implicitDefEqProofs [-List.map_set, Ja, -Int.natCast_add, -Int.natCast_mul, -Int.natCast_emod, -Int.natCast_ediv, -Int.natCast_pow, Jb, Jc, Jd, Je, Jf, Jg, Jh, Ji, Jj, Jk, Jl, Jm, Jn, Jo, Jp, Jq, Jr, Js, Jt, Ju, Jv, Jw, Jx, Jy, Jz, Fct.res]
        · simp (maxSteps := 2000000) -implicitDefEqProofs [-List.map_set, Ja, -Int.natCast_add, -Int.natCast_mul, -Int.natCast_emod, -Int.natCast_ediv, -Int.natCast_pow, Jb, Jc, Jd, Je, Jf, Jg, Jh, Ji, Jj, Jk, Jl, Jm, Jn, Jo, Jp, Jq, Jr, Js, Jt, Ju, Jv, Jw, Jx, Jy, Jz, h3]
          (first | refine .inl ⟨_, k10, ?_⟩ | refine ⟨_, k10, ?_⟩)
          simp (maxSteps := 2000000) -implicitDefEqProofs [-List.map_set, Ja, -Int.natCast_add, -Int.natCast_mul, -Int.natCast_emod, -Int.natCast_ediv, -Int.natCast_pow, Jb, Jc, Jd, Je, Jf, Jg, Jh, Ji, Jj, Jk, Jl, Jm, Jn, Jo, Jp, Jq, Jr, Js, Jt, Ju, Jv, Jw, Jx, Jy, Jz, Fct.res]

end Go.Va

/-
  Contracts: the normal form of angles; Norm, Same.
-/
namespace Go.Va
open Go.Proofs
set_option maxHeartbeats 4000000
set_option maxRecDepth 10000
set_option linter.unusedSimpArgs false
set_option linter.unusedVariables false

/-- Two segments in order. -/
def srt2 (p q : Int × Int) : (Int × Int) × (Int × Int) := if cmpP q p < 0 then (q, p) else (p, q)
/-- The normal form of an angle. -/
def normAngF (u v w z : Int × Int) : Fct :=
  if orL [cmpP (srt2 v w).1 (srt2 u z).1, cmpP (srt2 v w).2 (srt2 u z).2] < 0 then ⟨7, [(srt2 v w).1.1, (srt2 v w).1.2, (srt2 u z).1.1, (srt2 u z).1.2, (srt2 u z).2.1, (srt2 u z).2.2, (srt2 v w).2.1, (srt2 v w).2.2], false, [], []⟩
  else ⟨7, [(srt2 u z).1.1, (srt2 u z).1.2, (srt2 v w).1.1, (srt2 v w).1.2, (srt2 v w).2.1, (srt2 v w).2.2, (srt2 u z).2.1, (srt2 u z).2.2], false, [], []⟩

def quadC (p : (Int × Int) × (Int × Int)) : List C := [.d (.int .i64 p.1.1), .d (.int .i64 p.1.2), .d (.int .i64 p.2.1), .d (.int .i64 p.2.2)]

theorem normAngle_c (a b c d e f g h : Int) (neg : Bool) (abs den : List Nat) :
    CallsF Tryz.prog 132 [.agg [.int .i64 7, intsD [a, b, c, d, e, f, g, h], .bool neg, natD abs, natD den]] (normAngF (two a b) (two c d) (two e f) (two g h)).res := by
  refine callsF_of (T := tb) tab_ok mixed Tryz.func132 rfl (by decide) (Nat.le_of_ble_eq_true rfl) rfl ?_; unfold St.init
  have k1 := segments8_c 7 a b c d e f g h neg abs den
  unfold normAngF two
  generalize intsD [a, b, c, d, e, f, g, h] = l at *
  generalize lo a b = a1 at *
  generalize hi a b = b1 at *
  generalize lo c d = c1 at *
  generalize hi c d = d1 at *
  generalize lo e f = e1 at *
  generalize hi e f = f1 at *
  generalize lo g h = g1 at *
  generalize hi g h = h1 at *
  clear a b c d e f g h
  have m1 := segCompare_c g1 h1 a1 b1
  have m2 := segCompare_c e1 f1 c1 d1
  have s1 : srt2 (a1, b1) (g1, h1) = if cmpP (g1, h1) (a1, b1) < 0 then ((g1, h1), (a1, b1)) else ((a1, b1), (g1, h1)) := rfl
  have s2 : srt2 (c1, d1) (e1, f1) = if cmpP (e1, f1) (c1, d1) < 0 then ((e1, f1), (c1, d1)) else ((c1, d1), (e1, f1)) := rfl
  generalize srt2 (a1, b1) (g1, h1) = ou at *
  generalize srt2 (c1, d1) (e1, f1) = iu at *
  simp (maxSteps := 2000000) -implicitDefEqProofs [-List.map_set, Ja, -Int.natCast_add, -Int.natCast_mul, -Int.natCast_emod, -Int.natCast_ediv, -Int.natCast_pow, Jb, Jc, Jd, Je, Jf, Jg, Jh, Ji, Jj, Jk, Jl, Jm, Jn, Jo, Jp, Jq, Jr, Js, Jt, Ju, Jv, Jw, Jx, Jy, Jz]
  (first | refine .inl ⟨_, k1, ?_⟩ | refine ⟨_, k1, ?_⟩)
  simp (maxSteps := 2000000) -implicitDefEqProofs [-List.map_set, Ja, -Int.natCast_add, -Int.natCast_mul, -Int.natCast_emod, -Int.natCast_ediv, -Int.natCast_pow, Jb, Jc, Jd, Je, Jf, Jg, Jh, Ji, Jj, Jk, Jl, Jm, Jn, Jo, Jp, Jq, Jr, Js, Jt, Ju, Jv, Jw, Jx, Jy, Jz]
  refine wpDraw_by [[], [0], [0, 1], [], [3], [3, 4], [0, 1, 2, 3, 4, 5], [], [7], [7, 8], [], [10], [10, 11], [7, 8, 9, 10, 11, 12], [], [], [0, 1, 2, 3, 4, 5, 6, 7, 8, 9, 10, 11, 12, 14, 15], [0, 1, 2, 3, 4, 5, 6, 7, 8, 9, 10, 11, 12, 13, 14, 15, 16]] [.any [] [4, 5] [⟨0, [3], [4, 5], [4, 5], []⟩, ⟨0, [10], [4, 5], [4, 5], []⟩, ⟨0, [11], [4, 5], [4, 5], []⟩, ⟨0, [3], [4, 5], [4, 5], []⟩, ⟨0, [13], [4, 5], [4, 5], []⟩, ⟨0, [14], [4, 5], [4, 5], []⟩, ⟨0, [12, 15], [4, 5], [4, 5], []⟩, ⟨0, [3], [4, 5], [4, 5], []⟩, ⟨0, [17], [4, 5], [4, 5], []⟩, ⟨0, [18], [4, 5], [4, 5], []⟩, ⟨0, [3], [4, 5], [4, 5], []⟩, ⟨0, [20], [4, 5], [4, 5], []⟩, ⟨0, [21], [4, 5], [4, 5], []⟩, ⟨0, [19, 22], [4, 5], [4, 5], []⟩, ⟨1, [], [5], [5], []⟩, ⟨1, [], [4], [4], []⟩, ⟨2, [4, 16], [], [], [4]⟩], .one] (by rfl) ?_
  simp (maxSteps := 2000000) -implicitDefEqProofs [-List.map_set, Ja, -Int.natCast_add, -Int.natCast_mul, -Int.natCast_emod, -Int.natCast_ediv, -Int.natCast_pow, Jb, Jc, Jd, Je, Jf, Jg, Jh, Ji, Jj, Jk, Jl, Jm, Jn, Jo, Jp, Jq, Jr, Js, Jt, Ju, Jv, Jw, Jx, Jy, Jz]
  refine wpLoop_of (fun i : Nat => ⟨[(26, vI .i64 i), (25, vI .i64 2), (24, vC (.sl 24 0 2)), (5, vC (.ptr 5 0)), (4, vC (.ptr 4 0)), (2, vC (.ptr 2 0)), (1, vC (.ptr 1 0))],
    [(24, .box [.ptr 4 0, .ptr 5 0]), (5, .box (match i with | 0 => quadC ((c1, d1), (e1, f1)) | 1 => quadC ((c1, d1), (e1, f1)) | _ => quadC iu)), (4, .box (match i with | 0 => quadC ((a1, b1), (g1, h1)) | _ => quadC ou)),
      (2, .box [.d (.int .i64 0), .nl, .d (.bool false), .nl, .nl]), (1, .box [.d (.int .i64 7), .d l, .d (.bool neg), .d (natD abs), .d (natD den)])]⟩)
    (fun i => i ≤ 2) (fun i => 2 - i) 0 (by simp [quadC]) (by simp) ?_
  rintro i hi
  match i, hi with
  | 0, _ =>
    by_cases h : cmpP (g1, h1) (a1, b1) < 0
    · rw [if_pos h] at s1
      subst s1
      simp (maxSteps := 2000000) -implicitDefEqProofs [-List.map_set, Ja, -Int.natCast_add, -Int.natCast_mul, -Int.natCast_emod, -Int.natCast_ediv, -Int.natCast_pow, Jb, Jc, Jd, Je, Jf, Jg, Jh, Ji, Jj, Jk, Jl, Jm, Jn, Jo, Jp, Jq, Jr, Js, Jt, Ju, Jv, Jw, Jx, Jy, Jz, quadC]
      refine wpDraw_by [[], [0], [0, 1], [0, 1, 2], [], [4], [4, 5], [4, 5, 6], [0, 1, 2, 3, 4, 5, 6, 7], [0, 1, 2, 3, 4, 5, 6, 7, 8]] [.any [] [] [⟨0, [7], [], [], []⟩, ⟨0, [30], [], [], []⟩, ⟨0, [31], [], [], []⟩, ⟨0, [32], [], [], []⟩, ⟨0, [7], [], [], []⟩, ⟨0, [34], [], [], []⟩, ⟨0, [35], [], [], []⟩, ⟨0, [36], [], [], []⟩], .one, .one] (by rfl) ?_
      simp (maxSteps := 2000000) -implicitDefEqProofs [-List.map_set, Ja, -Int.natCast_add, -Int.natCast_mul, -Int.natCast_emod, -Int.natCast_ediv, -Int.natCast_pow, Jb, Jc, Jd, Je, Jf, Jg, Jh, Ji, Jj, Jk, Jl, Jm, Jn, Jo, Jp, Jq, Jr, Js, Jt, Ju, Jv, Jw, Jx, Jy, Jz]
      (first | refine .inl ⟨_, m1, ?_⟩ | refine ⟨_, m1, ?_⟩)
      simp (maxSteps := 2000000) -implicitDefEqProofs [-List.map_set, Ja, -Int.natCast_add, -Int.natCast_mul, -Int.natCast_emod, -Int.natCast_ediv, -Int.natCast_pow, Jb, Jc, Jd, Je, Jf, Jg, Jh, Ji, Jj, Jk, Jl, Jm, Jn, Jo, Jp, Jq, Jr, Js, Jt, Ju, Jv, Jw, Jx, Jy, Jz, h]
      refine wpDraw_by [[], [], [], [2], [2, 3], [2, 3, 4], [], [6], [6, 7], [6, 7, 8], [0], [0, 2, 3, 4, 5, 6, 7, 8, 9, 10], [0, 2, 3, 4, 5, 6, 7, 8, 9, 10, 11], [1], [0, 1, 2, 3, 4, 5, 6, 7, 8, 9, 10, 11, 12, 13], [0, 1, 2, 3, 4, 5, 6, 7, 8, 9, 10, 11, 12, 13, 14]] [.any [] [] [⟨0, [7], [], [], []⟩, ⟨0, [7], [4], [], []⟩, ⟨0, [7], [], [], []⟩, ⟨0, [42], [], [], []⟩, ⟨0, [43], [], [], []⟩, ⟨0, [44], [], [], []⟩, ⟨0, [7], [], [], []⟩, ⟨0, [46], [], [], []⟩, ⟨0, [47], [], [], []⟩, ⟨0, [48], [], [], []⟩, ⟨0, [40], [], [], []⟩, ⟨0, [50], [], [], []⟩, ⟨2, [45, 51], [], [], [4]⟩, ⟨0, [41], [4], [], []⟩], .one, .one] (by rfl) ?_
      simp (maxSteps := 2000000) -implicitDefEqProofs [-List.map_set, Ja, -Int.natCast_add, -Int.natCast_mul, -Int.natCast_emod, -Int.natCast_ediv, -Int.natCast_pow, Jb, Jc, Jd, Je, Jf, Jg, Jh, Ji, Jj, Jk, Jl, Jm, Jn, Jo, Jp, Jq, Jr, Js, Jt, Ju, Jv, Jw, Jx, Jy, Jz]
      exact ⟨1, ⟨rfl, rfl, rfl⟩, by omega, by omega⟩
    · rw [if_neg h] at s1
      subst s1
      simp (maxSteps := 2000000) -implicitDefEqProofs [-List.map_set, Ja, -Int.natCast_add, -Int.natCast_mul, -Int.natCast_emod, -Int.natCast_ediv, -Int.natCast_pow, Jb, Jc, Jd, Je, Jf, Jg, Jh, Ji, Jj, Jk, Jl, Jm, Jn, Jo, Jp, Jq, Jr, Js, Jt, Ju, Jv, Jw, Jx, Jy, Jz, quadC]
      refine wpDraw_by [[], [0], [0, 1], [0, 1, 2], [], [4], [4, 5], [4, 5, 6], [0, 1, 2, 3, 4, 5, 6, 7], [0, 1, 2, 3, 4, 5, 6, 7, 8]] [.any [] [] [⟨0, [7], [], [], []⟩, ⟨0, [30], [], [], []⟩, ⟨0, [31], [], [], []⟩, ⟨0, [32], [], [], []⟩, ⟨0, [7], [], [], []⟩, ⟨0, [34], [], [], []⟩, ⟨0, [35], [], [], []⟩, ⟨0, [36], [], [], []⟩], .one, .one] (by rfl) ?_
      simp (maxSteps := 2000000) -implicitDefEqProofs [-List.map_set, Ja, -Int.natCast_add, -Int.natCast_mul, -Int.natCast_emod, -Int.natCast_ediv, -Int.natCast_pow, Jb, Jc, Jd, Je, Jf, Jg, Jh, Ji, Jj, Jk, Jl, Jm, Jn, Jo, Jp, Jq, Jr, Js, Jt, Ju, Jv, Jw, Jx, Jy, Jz]
      (first | refine .inl ⟨_, m1, ?_⟩ | refine ⟨_, m1, ?_⟩)
      simp (maxSteps := 2000000) -implicitDefEqProofs [-List.map_set, Ja, -Int.natCast_add, -Int.natCast_mul, -Int.natCast_emod, -Int.natCast_ediv, -Int.natCast_pow, Jb, Jc, Jd, Je, Jf, Jg, Jh, Ji, Jj, Jk, Jl, Jm, Jn, Jo, Jp, Jq, Jr, Js, Jt, Ju, Jv, Jw, Jx, Jy, Jz, h]
      exact ⟨1, ⟨rfl, rfl, rfl⟩, by omega, by omega⟩
  | 1, _ =>
    by_cases h : cmpP (e1, f1) (c1, d1) < 0
    · rw [if_pos h] at s2
      subst s2
      simp (maxSteps := 2000000) -implicitDefEqProofs [-List.map_set, Ja, -Int.natCast_add, -Int.natCast_mul, -Int.natCast_emod, -Int.natCast_ediv, -Int.natCast_pow, Jb, Jc, Jd, Je, Jf, Jg, Jh, Ji, Jj, Jk, Jl, Jm, Jn, Jo, Jp, Jq, Jr, Js, Jt, Ju, Jv, Jw, Jx, Jy, Jz, quadC]
      refine wpDraw_by [[], [0], [0, 1], [0, 1, 2], [], [4], [4, 5], [4, 5, 6], [0, 1, 2, 3, 4, 5, 6, 7], [0, 1, 2, 3, 4, 5, 6, 7, 8]] [.any [] [] [⟨0, [7], [], [], []⟩, ⟨0, [30], [], [], []⟩, ⟨0, [31], [], [], []⟩, ⟨0, [32], [], [], []⟩, ⟨0, [7], [], [], []⟩, ⟨0, [34], [], [], []⟩, ⟨0, [35], [], [], []⟩, ⟨0, [36], [], [], []⟩], .one, .one] (by rfl) ?_
      simp (maxSteps := 2000000) -implicitDefEqProofs [-List.map_set, Ja, -Int.natCast_add, -Int.natCast_mul, -Int.natCast_emod, -Int.natCast_ediv, -Int.natCast_pow, Jb, Jc, Jd, Je, Jf, Jg, Jh, Ji, Jj, Jk, Jl, Jm, Jn, Jo, Jp, Jq, Jr, Js, Jt, Ju, Jv, Jw, Jx, Jy, Jz]
      (first | refine .inl ⟨_, m2, ?_⟩ | refine ⟨_, m2, ?_⟩)
      simp (maxSteps := 2000000) -implicitDefEqProofs [-List.map_set, Ja, -Int.natCast_add, -Int.natCast_mul, -Int.natCast_emod, -Int.natCast_ediv, -Int.natCast_pow, Jb, Jc, Jd, Je, Jf, Jg, Jh, Ji, Jj, Jk, Jl, Jm, Jn, Jo, Jp, Jq, Jr, Js, Jt, Ju, Jv, Jw, Jx, Jy, Jz, h]
      refine wpDraw_by [[], [], [], [2], [2, 3], [2, 3, 4], [], [6], [6, 7], [6, 7, 8], [0], [0, 2, 3, 4, 5, 6, 7, 8, 9, 10], [0, 2, 3, 4, 5, 6, 7, 8, 9, 10, 11], [1], [0, 1, 2, 3, 4, 5, 6, 7, 8, 9, 10, 11, 12, 13], [0, 1, 2, 3, 4, 5, 6, 7, 8, 9, 10, 11, 12, 13, 14]] [.any [] [] [⟨0, [7], [], [], []⟩, ⟨0, [7], [5], [], []⟩, ⟨0, [7], [], [], []⟩, ⟨0, [42], [], [], []⟩, ⟨0, [43], [], [], []⟩, ⟨0, [44], [], [], []⟩, ⟨0, [7], [], [], []⟩, ⟨0, [46], [], [], []⟩, ⟨0, [47], [], [], []⟩, ⟨0, [48], [], [], []⟩, ⟨0, [40], [], [], []⟩, ⟨0, [50], [], [], []⟩, ⟨2, [45, 51], [], [], [5]⟩, ⟨0, [41], [5], [], []⟩], .one, .one] (by rfl) ?_
      simp (maxSteps := 2000000) -implicitDefEqProofs [-List.map_set, Ja, -Int.natCast_add, -Int.natCast_mul, -Int.natCast_emod, -Int.natCast_ediv, -Int.natCast_pow, Jb, Jc, Jd, Je, Jf, Jg, Jh, Ji, Jj, Jk, Jl, Jm, Jn, Jo, Jp, Jq, Jr, Js, Jt, Ju, Jv, Jw, Jx, Jy, Jz]
      exact ⟨2, ⟨rfl, rfl, rfl⟩, by omega, by omega⟩
    · rw [if_neg h] at s2
      subst s2
      simp (maxSteps := 2000000) -implicitDefEqProofs [-List.map_set, Ja, -Int.natCast_add, -Int.natCast_mul, -Int.natCast_emod, -Int.natCast_ediv, -Int.natCast_pow, Jb, Jc, Jd, Je, Jf, Jg, Jh, Ji, Jj, Jk, Jl, Jm, Jn, Jo, Jp, Jq, Jr, Js, Jt, Ju, Jv, Jw, Jx, Jy, Jz, quadC]
      refine wpDraw_by [[], [0], [0, 1], [0, 1, 2], [], [4], [4, 5], [4, 5, 6], [0, 1, 2, 3, 4, 5, 6, 7], [0, 1, 2, 3, 4, 5, 6, 7, 8]] [.any [] [] [⟨0, [7], [], [], []⟩, ⟨0, [30], [], [], []⟩, ⟨0, [31], [], [], []⟩, ⟨0, [32], [], [], []⟩, ⟨0, [7], [], [], []⟩, ⟨0, [34], [], [], []⟩, ⟨0, [35], [], [], []⟩, ⟨0, [36], [], [], []⟩], .one, .one] (by rfl) ?_
      simp (maxSteps := 2000000) -implicitDefEqProofs [-List.map_set, Ja, -Int.natCast_add, -Int.natCast_mul, -Int.natCast_emod, -Int.natCast_ediv, -Int.natCast_pow, Jb, Jc, Jd, Je, Jf, Jg, Jh, Ji, Jj, Jk, Jl, Jm, Jn, Jo, Jp, Jq, Jr, Js, Jt, Ju, Jv, Jw, Jx, Jy, Jz]
      (first | refine .inl ⟨_, m2, ?_⟩ | refine ⟨_, m2, ?_⟩)
      simp (maxSteps := 2000000) -implicitDefEqProofs [-List.map_set, Ja, -Int.natCast_add, -Int.natCast_mul, -Int.natCast_emod, -Int.natCast_ediv, -Int.natCast_pow, Jb, Jc, Jd, Je, Jf, Jg, Jh, Ji, Jj, Jk, Jl, Jm, Jn, Jo, Jp, Jq, Jr, Js, Jt, Ju, Jv, Jw, Jx, Jy, Jz, h]
      exact ⟨2, ⟨rfl, rfl, rfl⟩, by omega, by omega⟩
  | 2, _ =>
    obtain ⟨⟨o1, o2⟩, ⟨o3, o4⟩⟩ := ou
    obtain ⟨⟨i1, i2⟩, ⟨i3, i4⟩⟩ := iu
    clear s1 s2 m1 m2 k1
    have n1 := segCompare_c i1 i2 o1 o2
    have n2 := segCompare_c i3 i4 o3 o4
    have k3 : CallsF Tryz.prog 71 [.c (.slice 2 [.int .i64 (cmpP (i1, i2) (o1, o2)), .int .i64 (cmpP (i3, i4) (o3, o4))])] _ := or_c [cmpP (i1, i2) (o1, o2), cmpP (i3, i4) (o3, o4)] (by simp)
    have j1 := joined4_c 7 i1 i2 o1 o2 o3 o4 i3 i4 false [] []
    have j2 := joined4_c 7 o1 o2 i1 i2 i3 i4 o3 o4 false [] []
    simp (maxSteps := 2000000) -implicitDefEqProofs [-List.map_set, Ja, -Int.natCast_add, -Int.natCast_mul, -Int.natCast_emod, -Int.natCast_ediv, -Int.natCast_pow, Jb, Jc, Jd, Je, Jf, Jg, Jh, Ji, Jj, Jk, Jl, Jm, Jn, Jo, Jp, Jq, Jr, Js, Jt, Ju, Jv, Jw, Jx, Jy, Jz, quadC]
    refine wpDraw_by [[], [0], [], [2], [0, 1, 2, 3], [], [5], [], [7], [0, 1, 2, 3, 4, 5, 6, 7, 8], [0, 1, 2, 3, 4, 5, 6, 7, 8, 9], [0, 1, 2, 3, 4, 5, 6, 7, 8, 9, 10], [0, 1, 2, 3, 4, 5, 6, 7, 8, 9, 10, 11]] [.any [] [] [⟨0, [5], [], [], []⟩, ⟨0, [55], [], [], []⟩, ⟨0, [4], [], [], []⟩, ⟨0, [57], [], [], []⟩, ⟨0, [56, 58], [], [], []⟩, ⟨0, [5], [], [], []⟩, ⟨0, [60], [], [], []⟩, ⟨0, [4], [], [], []⟩, ⟨0, [62], [], [], []⟩], .one, .one, .one, .one] (by rfl) ?_
    simp (maxSteps := 2000000) -implicitDefEqProofs [-List.map_set, Ja, -Int.natCast_add, -Int.natCast_mul, -Int.natCast_emod, -Int.natCast_ediv, -Int.natCast_pow, Jb, Jc, Jd, Je, Jf, Jg, Jh, Ji, Jj, Jk, Jl, Jm, Jn, Jo, Jp, Jq, Jr, Js, Jt, Ju, Jv, Jw, Jx, Jy, Jz]
    (first | refine .inl ⟨_, n1, ?_⟩ | refine ⟨_, n1, ?_⟩)
    simp (maxSteps := 2000000) -implicitDefEqProofs [-List.map_set, Ja, -Int.natCast_add, -Int.natCast_mul, -Int.natCast_emod, -Int.natCast_ediv, -Int.natCast_pow, Jb, Jc, Jd, Je, Jf, Jg, Jh, Ji, Jj, Jk, Jl, Jm, Jn, Jo, Jp, Jq, Jr, Js, Jt, Ju, Jv, Jw, Jx, Jy, Jz]
    (first | refine .inl ⟨_, n2, ?_⟩ | refine ⟨_, n2, ?_⟩)
    simp (maxSteps := 2000000) -implicitDefEqProofs [-List.map_set, Ja, -Int.natCast_add, -Int.natCast_mul, -Int.natCast_emod, -Int.natCast_ediv, -Int.natCast_pow, Jb, Jc, Jd, Je, Jf, Jg, Jh, Ji, Jj, Jk, Jl, Jm, Jn, Jo, Jp, Jq, Jr, Js, Jt, Ju, Jv, Jw, Jx, Jy, Jz]
    (first | refine .inl ⟨_, k3, ?_⟩ | refine ⟨_, k3, ?_⟩)
    by_cases h : orL [cmpP (i1, i2) (o1, o2), cmpP (i3, i4) (o3, o4)] < 0
    · simp (maxSteps := 2000000) -implicitDefEqProofs [-List.map_set, Ja, -Int.natCast_add, -Int.natCast_mul, -Int.natCast_emod, -Int.natCast_ediv, -Int.natCast_pow, Jb, Jc, Jd, Je, Jf, Jg, Jh, Ji, Jj, Jk, Jl, Jm, Jn, Jo, Jp, Jq, Jr, Js, Jt, Ju, Jv, Jw, Jx, Jy, Jz, h]
      (first | refine .inl ⟨_, j1, ?_⟩ | refine ⟨_, j1, ?_⟩)
      simp (maxSteps := 2000000) -implicitDefEqProofs [-List.map_set, Ja, -Int.natCast_add, -Int.natCast_mul, -Int.natCast_emod, -Int.natCast_ediv, -Int.natCast_pow, Jb, Jc, Jd, Je, Jf, Jg, Jh, Ji, Jj, Jk, Jl, Jm, Jn, Jo, Jp, Jq, Jr, Js, Jt, Ju, Jv, Jw, Jx, Jy, Jz, Fct.res]
    · simp (maxSteps := 2000000) -implicitDefEqProofs [-List.map_set, Ja, -Int.natCast_add, -Int.natCast_mul, -Int.natCast_emod, -Int.natCast_ediv, -Int.natCast_pow, Jb, Jc, Jd, Je, Jf, Jg, Jh, Ji, Jj, Jk, Jl, Jm, Jn, Jo, Jp, Jq, Jr, Js, Jt, Ju, Jv, Jw, Jx, Jy, Jz, h]
      (first | refine .inl ⟨_, j2, ?_⟩ | refine ⟨_, j2, ?_⟩)
      simp (maxSteps := 2000000) -implicitDefEqProofs [-List.map_set, Ja, -Int.natCast_add, -Int.natCast_mul, -Int.natCast_emod, -Int.natCast_ediv, -Int.natCast_pow, Jb, Jc, Jd, Je, Jf, Jg, Jh, Ji, Jj, Jk, Jl, Jm, Jn, Jo, Jp, Jq, Jr, Js, Jt, Ju, Jv, Jw, Jx, Jy, Jz, Fct.res]

/-- How the facts of a kind are brought into normal form. -/
def formFn (k : Int) : FuncId := if k = 5 then 128 else if k = 2 then 129 else if k = 3 ∨ k = 4 then 130 else if k = 9 then 131 else if k = 7 then 132 else 133
theorem formOf_c (k : Int) : CallsF Tryz.prog 70 [.c (.int .i64 k)] (.u (.agg [.d (.fn (formFn k) [])])) := by
  refine callsF_of (T := tb) tab_ok mixed Tryz.func70 rfl (by decide) (Nat.le_of_ble_eq_true rfl) rfl ?_; unfold St.init
  unfold formFn
  by_cases h5 : k = 5
  · simp (maxSteps := 2000000) -implicitDefEqProofs [-List.map_set, Ja, -Int.natCast_add, -Int.natCast_mul, -Int.natCast_emod, -Int.natCast_ediv, -Int.natCast_pow, Jb, Jc, Jd, Je, Jf, Jg, Jh, Ji, Jj, Jk, Jl, Jm, Jn, Jo, Jp, Jq, Jr, Js, Jt, Ju, Jv, Jw, Jx, Jy, Jz, h5]
  by_cases h2 : k = 2
  · simp (maxSteps := 2000000) -implicitDefEqProofs [-List.map_set, Ja, -Int.natCast_add, -Int.natCast_mul, -Int.natCast_emod, -Int.natCast_ediv, -Int.natCast_pow, Jb, Jc, Jd, Je, Jf, Jg, Jh, Ji, Jj, Jk, Jl, Jm, Jn, Jo, Jp, Jq, Jr, Js, Jt, Ju, Jv, Jw, Jx, Jy, Jz, h2]
  by_cases h3 : k = 3
  · simp (maxSteps := 2000000) -implicitDefEqProofs [-List.map_set, Ja, -Int.natCast_add, -Int.natCast_mul, -Int.natCast_emod, -Int.natCast_ediv, -Int.natCast_pow, Jb, Jc, Jd, Je, Jf, Jg, Jh, Ji, Jj, Jk, Jl, Jm, Jn, Jo, Jp, Jq, Jr, Js, Jt, Ju, Jv, Jw, Jx, Jy, Jz, h3]
  by_cases h4 : k = 4
  · simp (maxSteps := 2000000) -implicitDefEqProofs [-List.map_set, Ja, -Int.natCast_add, -Int.natCast_mul, -Int.natCast_emod, -Int.natCast_ediv, -Int.natCast_pow, Jb, Jc, Jd, Je, Jf, Jg, Jh, Ji, Jj, Jk, Jl, Jm, Jn, Jo, Jp, Jq, Jr, Js, Jt, Ju, Jv, Jw, Jx, Jy, Jz, h4]
  by_cases h9 : k = 9
  · simp (maxSteps := 2000000) -implicitDefEqProofs [-List.map_set, Ja, -Int.natCast_add, -Int.natCast_mul, -Int.natCast_emod, -Int.natCast_ediv, -Int.natCast_pow, Jb, Jc, Jd, Je, Jf, Jg, Jh, Ji, Jj, Jk, Jl, Jm, Jn, Jo, Jp, Jq, Jr, Js, Jt, Ju, Jv, Jw, Jx, Jy, Jz, h9]
  by_cases h7 : k = 7
  · simp (maxSteps := 2000000) -implicitDefEqProofs [-List.map_set, Ja, -Int.natCast_add, -Int.natCast_mul, -Int.natCast_emod, -Int.natCast_ediv, -Int.natCast_pow, Jb, Jc, Jd, Je, Jf, Jg, Jh, Ji, Jj, Jk, Jl, Jm, Jn, Jo, Jp, Jq, Jr, Js, Jt, Ju, Jv, Jw, Jx, Jy, Jz, h7]
  simp (maxSteps := 2000000) -implicitDefEqProofs [-List.map_set, Ja, -Int.natCast_add, -Int.natCast_mul, -Int.natCast_emod, -Int.natCast_ediv, -Int.natCast_pow, Jb, Jc, Jd, Je, Jf, Jg, Jh, Ji, Jj, Jk, Jl, Jm, Jn, Jo, Jp, Jq, Jr, Js, Jt, Ju, Jv, Jw, Jx, Jy, Jz, h5, h2, h3, h4, h9, h7]

def Fct.zero : Fct := ⟨0, [], false, [], []⟩
/-- The normal form of a right fact. -/
def normG (f : Fct) : Fct :=
  if f.kind = 5 then (match f.args with | [a, b, c] => ⟨5, [a, lo b c, hi b c], false, [], []⟩ | _ => .zero)
  else if f.kind = 2 then (match f.args with | [a, b, c, d] => normParF (two a b) (two c d) | _ => .zero)
  else if f.kind = 3 ∨ f.kind = 4 then (match f.args with | [a, b, c, d] => normPairF f.kind (two a b) (two c d) | _ => .zero)
  else if f.kind = 9 then (match f.args with | [a, b, c, d] => normRatF f.neg (val f.abs) (val f.den) (two a b) (two c d) | _ => .zero)
  else if f.kind = 7 then (match f.args with | [a, b, c, d, e, f, g, h] => normAngF (two a b) (two c d) (two e f) (two g h) | _ => .zero)
  else ⟨f.kind, sortL f.args, false, [], []⟩
def normF (f : Fct) : Fct := if okF f = true then normG f else .zero

theorem list3 {α : Type} {l : List α} (h : l.length = 3) : ∃ a b c, l = [a, b, c] := by
  match l, h with
  | [a, b, c], _ => exact ⟨a, b, c, rfl⟩
theorem list4 {α : Type} {l : List α} (h : l.length = 4) : ∃ a b c d, l = [a, b, c, d] := by
  match l, h with
  | [a, b, c, d], _ => exact ⟨a, b, c, d, rfl⟩
theorem list8 {α : Type} {l : List α} (h : l.length = 8) : ∃ a b c d e f g i, l = [a, b, c, d, e, f, g, i] := by
  match l, h with
  | [a, b, c, d, e, f, g, i], _ => exact ⟨a, b, c, d, e, f, g, i, rfl⟩
theorem Ok.lt32 {a : List Nat} (h : Ok a) (hl : a.length ≤ 2) : val a < 4294967296 := by
  have := val_lt_pow a h
  have h2 : 65536 ^ a.length ≤ 65536 ^ 2 := Nat.pow_le_pow_right (by omega) hl
  omega

/-- The function that 'formOf' gives brings a right fact into normal form. -/
theorem form_c (f : Fct) (h : f.Rt) : CallsF Tryz.prog (formFn f.kind) [.agg f.ds] (normG f).res := by
  obtain ⟨h1, h2, h3, h4⟩ := h.parts
  obtain ⟨la, ld, oa, od, ln⟩ := h.mild
  obtain ⟨k, l, n, m, d⟩ := f
  simp only [Fct.ds] at *
  unfold formFn normG
  simp only
  by_cases h5 : k = 5
  · subst h5
    obtain ⟨a, b, c, rfl⟩ := list3 (by simpa [arity] using h2)
    simp only [if_true]
    exact normMidpoint_c 5 a b c n m d
  by_cases h6 : k = 2
  · subst h6
    obtain ⟨a, b, c, e, rfl⟩ := list4 (by simpa [arity] using h2)
    simp only [if_true]
    rw [if_neg (by omega), if_neg (by omega)]
    exact normParallel_c a b c e n m d (h3 a (by simp)) (h3 b (by simp)) (h3 c (by simp)) (h3 e (by simp))
  by_cases h7 : k = 3 ∨ k = 4
  · obtain ⟨a, b, c, e, rfl⟩ := list4 (l := l) (by rcases h7 with rfl | rfl <;> simpa [arity] using h2)
    rw [if_neg h5, if_neg h6, if_pos h7, if_neg h5, if_neg h6, if_pos h7]
    exact normPair_c k a b c e n m d
  by_cases h8 : k = 9
  · subst h8
    obtain ⟨a, b, c, e, rfl⟩ := list4 (by simpa [arity] using h2)
    rw [if_pos rfl] at h4
    obtain ⟨e1, e2, d0, g, _⟩ := ratOk_spec h4 oa od
    rw [if_neg (by omega), if_neg (by omega), if_neg (by omega), if_pos rfl, if_neg (by omega), if_neg (by omega), if_neg (by omega), if_pos rfl]
    simp only
    have := normRatio_c a b c e n (val m) (val d) (oa.lt32 la) (od.lt32 ld) d0 g
    rwa [← e1, ← e2] at this
  by_cases h9 : k = 7
  · subst h9
    obtain ⟨a, b, c, e, a', b', c', e', rfl⟩ := list8 (by simpa [arity] using h2)
    rw [if_neg (by omega), if_neg (by omega), if_neg (by omega), if_neg (by omega), if_pos rfl, if_neg (by omega), if_neg (by omega), if_neg (by omega), if_neg (by omega), if_pos rfl]
    exact normAngle_c a b c e a' b' c' e' n m d
  · rw [if_neg h5, if_neg h6, if_neg h7, if_neg h8, if_neg h9, if_neg h5, if_neg h6, if_neg h7, if_neg h8, if_neg h9]
    exact sorted_c k l n m d (fun h => h1 (by rw [← h2, h]; rfl)) ln

theorem norm_c (f : Fct) (hf : f.Mild) : CallsF Tryz.prog 34 [.agg f.ds] (normF f).res := by
  refine callsF_of (T := tb) tab_ok mixed Tryz.func34 rfl (by decide) (Nat.le_of_ble_eq_true rfl) rfl ?_; unfold St.init
  have k1 := right_c f hf
  have k2 := formOf_c f.kind
  have k3 := fun h => form_c f ⟨h, hf⟩
  unfold normF
  clear hf
  obtain ⟨k, l, n, m, d⟩ := f
  simp only [Fct.ds] at *
  cases h : okF ⟨k, l, n, m, d⟩
  · rw [h] at k1
    simp (maxSteps := 2000000) -implicitDefEqProofs [-List.map_set, Ja, -Int.natCast_add, -Int.natCast_mul, -Int.natCast_emod, -Int.natCast_ediv, -Int.natCast_pow, Jb, Jc, Jd, Je, Jf, Jg, Jh, Ji, Jj, Jk, Jl, Jm, Jn, Jo, Jp, Jq, Jr, Js, Jt, Ju, Jv, Jw, Jx, Jy, Jz]
    (first | refine .inl ⟨_, k1, ?_⟩ | refine ⟨_, k1, ?_⟩)
    simp (maxSteps := 2000000) -implicitDefEqProofs [-List.map_set, Ja, -Int.natCast_add, -Int.natCast_mul, -Int.natCast_emod, -Int.natCast_ediv, -Int.natCast_pow, Jb, Jc, Jd, Je, Jf, Jg, Jh, Ji, Jj, Jk, Jl, Jm, Jn, Jo, Jp, Jq, Jr, Js, Jt, Ju, Jv, Jw, Jx, Jy, Jz, Fct.res, Fct.zero]
    exact ⟨rfl, rfl⟩
  · rw [h] at k1
    have k3 := k3 h
    generalize normG ⟨k, l, n, m, d⟩ = g at *
    simp (maxSteps := 2000000) -implicitDefEqProofs [-List.map_set, Ja, -Int.natCast_add, -Int.natCast_mul, -Int.natCast_emod, -Int.natCast_ediv, -Int.natCast_pow, Jb, Jc, Jd, Je, Jf, Jg, Jh, Ji, Jj, Jk, Jl, Jm, Jn, Jo, Jp, Jq, Jr, Js, Jt, Ju, Jv, Jw, Jx, Jy, Jz]
    (first | refine .inl ⟨_, k1, ?_⟩ | refine ⟨_, k1, ?_⟩)
    simp (maxSteps := 2000000) -implicitDefEqProofs [-List.map_set, Ja, -Int.natCast_add, -Int.natCast_mul, -Int.natCast_emod, -Int.natCast_ediv, -Int.natCast_pow, Jb, Jc, Jd, Je, Jf, Jg, Jh, Ji, Jj, Jk, Jl, Jm, Jn, Jo, Jp, Jq, Jr, Js, Jt, Ju, Jv, Jw, Jx, Jy, Jz]
    refine wpDraw_by [[], [0], [0, 1], [0, 1, 2], [], [0, 1, 2, 3, 4], [0, 1, 2, 3, 4, 5]] [.any [] [] [⟨0, [1], [], [], []⟩, ⟨0, [7], [], [], []⟩, ⟨0, [8], [], [], []⟩, ⟨0, [9], [], [], []⟩, ⟨0, [1], [], [], []⟩], .one, .one] (by rfl) ?_
    simp (maxSteps := 2000000) -implicitDefEqProofs [-List.map_set, Ja, -Int.natCast_add, -Int.natCast_mul, -Int.natCast_emod, -Int.natCast_ediv, -Int.natCast_pow, Jb, Jc, Jd, Je, Jf, Jg, Jh, Ji, Jj, Jk, Jl, Jm, Jn, Jo, Jp, Jq, Jr, Js, Jt, Ju, Jv, Jw, Jx, Jy, Jz]
    (first | refine .inl ⟨_, k2, ?_⟩ | refine ⟨_, k2, ?_⟩)
    simp (maxSteps := 2000000) -implicitDefEqProofs [-List.map_set, Ja, -Int.natCast_add, -Int.natCast_mul, -Int.natCast_emod, -Int.natCast_ediv, -Int.natCast_pow, Jb, Jc, Jd, Je, Jf, Jg, Jh, Ji, Jj, Jk, Jl, Jm, Jn, Jo, Jp, Jq, Jr, Js, Jt, Ju, Jv, Jw, Jx, Jy, Jz]
    (first | refine .inl ⟨_, k3, ?_⟩ | refine ⟨_, k3, ?_⟩)
    simp (maxSteps := 2000000) -implicitDefEqProofs [-List.map_set, Ja, -Int.natCast_add, -Int.natCast_mul, -Int.natCast_emod, -Int.natCast_ediv, -Int.natCast_pow, Jb, Jc, Jd, Je, Jf, Jg, Jh, Ji, Jj, Jk, Jl, Jm, Jn, Jo, Jp, Jq, Jr, Js, Jt, Ju, Jv, Jw, Jx, Jy, Jz, Fct.res]

end Go.Va
