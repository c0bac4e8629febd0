/-
  Contracts: facts that hold for all points.
-/
import Derived.Test.YtkfdniccmcolgaaGreatWi
set_option linter.all false

namespace Go.Va
open Go.Proofs
set_option maxHeartbeats 4000000
set_option maxRecDepth 10000
set_option linter.unusedSimpArgs false
set_option linter.unusedVariables false

theorem repeated_c (l : List Int) (hl : l.length ≤ 1099511627776) : CallsF Tryz.prog 99 [.c (intsD l)] (.u (.c (.d (.bool (!decide l.Nodup))))) := by
  refine callsF_of (T := tb) tab_ok mixed Tryz.func99 rfl (by decide) (Nat.le_of_ble_eq_true rfl) rfl ?_; unfold St.init
  simp (maxSteps := 2000000) -implicitDefEqProofs [-List.map_set, Ja, -Int.natCast_add, -Int.natCast_mul, -Int.natCast_emod, -Int.natCast_ediv, -Int.natCast_pow, Jb, Jc, Jd, Je, Jf, Jg, Jh, Ji, Jj, Jk, Jl, Jm, Jn, Jo, Jp, Jq, Jr, Js, Jt, Ju, Jv, Jw, Jx, Jy, Jz]
  refine wpLoop_of (fun i : Nat => ⟨[(6, vI .i64 i), (5, vI .i64 l.length), (0, vC (.d (intsD l)))], []⟩) (fun i => i ≤ l.length ∧ (l.take i).Nodup) (fun i => l.length - i) 0 (by simp) (by simp) ?_
  rintro i ⟨h1, h2⟩
  by_cases h : i < l.length
  · have hk := contains_c (l.take i) l[i] (by rw [List.length_take]; omega)
    have e := List.take_succ_eq_append_getElem h
    simp (maxSteps := 2000000) -implicitDefEqProofs [-List.map_set, Ja, -Int.natCast_add, -Int.natCast_mul, -Int.natCast_emod, -Int.natCast_ediv, -Int.natCast_pow, Jb, Jc, Jd, Je, Jf, Jg, Jh, Ji, Jj, Jk, Jl, Jm, Jn, Jo, Jp, Jq, Jr, Js, Jt, Ju, Jv, Jw, Jx, Jy, Jz, h]
    refine wpDraw_by [[], [], [0, 1], [], [], [3, 4], [3, 4, 5], [0, 1, 2, 3, 4, 5, 6]] [.any [] [] [⟨0, [0], [], [], []⟩, ⟨0, [3], [], [], []⟩, ⟨0, [9, 10], [], [], []⟩, ⟨0, [0], [], [], []⟩, ⟨0, [3], [], [], []⟩, ⟨0, [12, 13], [], [], []⟩, ⟨0, [14], [], [], []⟩], .one] (by rfl) ?_
    simp (maxSteps := 2000000) -implicitDefEqProofs [-List.map_set, Ja, -Int.natCast_add, -Int.natCast_mul, -Int.natCast_emod, -Int.natCast_ediv, -Int.natCast_pow, Jb, Jc, Jd, Je, Jf, Jg, Jh, Ji, Jj, Jk, Jl, Jm, Jn, Jo, Jp, Jq, Jr, Js, Jt, Ju, Jv, Jw, Jx, Jy, Jz, h, i64]
    refine ⟨by omega, ?_⟩
    (first | refine .inl ⟨_, hk, ?_⟩ | refine ⟨_, hk, ?_⟩)
    by_cases hm : l[i] ∈ l.take i
    · simp (maxSteps := 2000000) -implicitDefEqProofs [-List.map_set, Ja, -Int.natCast_add, -Int.natCast_mul, -Int.natCast_emod, -Int.natCast_ediv, -Int.natCast_pow, Jb, Jc, Jd, Je, Jf, Jg, Jh, Ji, Jj, Jk, Jl, Jm, Jn, Jo, Jp, Jq, Jr, Js, Jt, Ju, Jv, Jw, Jx, Jy, Jz, hm]
      intro hn
      have : (l.take (i + 1)).Nodup := hn.sublist (List.take_sublist _ _)
      rw [e, List.nodup_append] at this
      exact this.2.2 _ hm _ (by simp) rfl
    · simp (maxSteps := 2000000) -implicitDefEqProofs [-List.map_set, Ja, -Int.natCast_add, -Int.natCast_mul, -Int.natCast_emod, -Int.natCast_ediv, -Int.natCast_pow, Jb, Jc, Jd, Je, Jf, Jg, Jh, Ji, Jj, Jk, Jl, Jm, Jn, Jo, Jp, Jq, Jr, Js, Jt, Ju, Jv, Jw, Jx, Jy, Jz, hm]
      refine ⟨by omega, ⟨by omega, ?_⟩, by omega⟩
      rw [e, List.nodup_append]
      exact ⟨h2, by simp, fun a ha b hb => by
        have : b = l[i] := by simpa using hb
        subst this
        intro hab
        exact hm (hab ▸ ha)⟩
  · have : i = l.length := by omega
    subst this
    rw [List.take_length] at h2
    simp (maxSteps := 2000000) -implicitDefEqProofs [-List.map_set, Ja, -Int.natCast_add, -Int.natCast_mul, -Int.natCast_emod, -Int.natCast_ediv, -Int.natCast_pow, Jb, Jc, Jd, Je, Jf, Jg, Jh, Ji, Jj, Jk, Jl, Jm, Jn, Jo, Jp, Jq, Jr, Js, Jt, Ju, Jv, Jw, Jx, Jy, Jz]
    exact h2

/-- Does a fact of segments with a ratio hold for all points? -/
def trivRat (neg : Bool) (m e : Nat) (p q : Int × Int) : Bool := decide (p = q) && decide (toZ neg m = e) || decide (p.1 = p.2) && (decide (q.1 = q.2) || decide (m = 0))

theorem trivialRatio_c (a b c d : Int) (neg : Bool) (m e : Nat) (hm : m < 4294967296) (he : e < 4294967296) (e0 : e ≠ 0) :
    CallsF Tryz.prog 100 [.agg [.int .i64 9, intsD [a, b, c, d], .bool neg, natD (limbs m), natD (limbs e)]] (.u (.c (.d (.bool (trivRat neg m e (two a b) (two c d)))))) := by
  refine callsF_of (T := tb) tab_ok mixed Tryz.func100 rfl (by decide) (Nat.le_of_ble_eq_true rfl) rfl ?_; unfold St.init
  have lm := limbs_small (n := m) (by omega)
  have le := limbs_small (n := e) (by omega)
  have k1 := segments4_c 9 a b c d neg (limbs m) (limbs e)
  have k3 := isOne_c neg m e hm he e0
  have k4 := ratOf_c 1 (by omega)
  have k5 := ratSign_c neg (limbs m) (limbs e) (ok_limbs _) (by omega) (ok_limbs _) (by omega) (by rw [val_limbs]; exact e0)
  rw [val_limbs] at k5
  clear lm le
  unfold trivRat two
  generalize intsD [a, b, c, d] = l at *
  generalize lo c d = x at *
  generalize hi c d = y at *
  generalize lo a b = z at *
  generalize hi a b = t at *
  have s1 := single_c z t
  have s2 := single_c x y
  simp (maxSteps := 2000000) -implicitDefEqProofs [-List.map_set, Ja, -Int.natCast_add, -Int.natCast_mul, -Int.natCast_emod, -Int.natCast_ediv, -Int.natCast_pow, Jb, Jc, Jd, Je, Jf, Jg, Jh, Ji, Jj, Jk, Jl, Jm, Jn, Jo, Jp, Jq, Jr, Js, Jt, Ju, Jv, Jw, Jx, Jy, Jz]
  (first | refine .inl ⟨_, k1, ?_⟩ | refine ⟨_, k1, ?_⟩)
  simp (maxSteps := 2000000) -implicitDefEqProofs [-List.map_set, Ja, -Int.natCast_add, -Int.natCast_mul, -Int.natCast_emod, -Int.natCast_ediv, -Int.natCast_pow, Jb, Jc, Jd, Je, Jf, Jg, Jh, Ji, Jj, Jk, Jl, Jm, Jn, Jo, Jp, Jq, Jr, Js, Jt, Ju, Jv, Jw, Jx, Jy, Jz]
  refine wpDraw_by [[], [0], [0, 1], [], [3], [3, 4], [0, 1, 2, 3, 4, 5], [0, 1, 2, 3, 4, 5, 6], [0, 1, 2, 3, 4, 5, 6, 7], [0, 1, 2, 3, 4, 5, 6, 7, 8], [0, 1, 2, 3, 4, 5, 6, 7], [0, 1, 2, 3, 4, 5, 6, 7, 8, 9, 10], [0, 1, 2, 3, 4, 5, 6, 7, 8, 9, 10, 11]] [.any [] [] [⟨0, [3], [], [], []⟩, ⟨0, [6], [], [], []⟩, ⟨0, [7], [], [], []⟩, ⟨0, [3], [], [], []⟩, ⟨0, [9], [], [], []⟩, ⟨0, [10], [], [], []⟩], .one, .one, .any [] [] [⟨0, [1, 13], [], [], []⟩, ⟨0, [14, 13], [], [], []⟩, ⟨0, [13], [], [], []⟩], .one, .one] (by rfl) ?_
  by_cases h1 : z = x ∧ t = y
  · obtain ⟨rfl, rfl⟩ := h1
    simp (maxSteps := 2000000) -implicitDefEqProofs [-List.map_set, Ja, -Int.natCast_add, -Int.natCast_mul, -Int.natCast_emod, -Int.natCast_ediv, -Int.natCast_pow, Jb, Jc, Jd, Je, Jf, Jg, Jh, Ji, Jj, Jk, Jl, Jm, Jn, Jo, Jp, Jq, Jr, Js, Jt, Ju, Jv, Jw, Jx, Jy, Jz]
    (first | refine .inl ⟨_, k4, ?_⟩ | refine ⟨_, k4, ?_⟩)
    simp (maxSteps := 2000000) -implicitDefEqProofs [-List.map_set, Ja, -Int.natCast_add, -Int.natCast_mul, -Int.natCast_emod, -Int.natCast_ediv, -Int.natCast_pow, Jb, Jc, Jd, Je, Jf, Jg, Jh, Ji, Jj, Jk, Jl, Jm, Jn, Jo, Jp, Jq, Jr, Js, Jt, Ju, Jv, Jw, Jx, Jy, Jz]
    (first | refine .inl ⟨_, k3, ?_⟩ | refine ⟨_, k3, ?_⟩)
    by_cases h2 : toZ neg m = e
    · simp (maxSteps := 2000000) -implicitDefEqProofs [-List.map_set, Ja, -Int.natCast_add, -Int.natCast_mul, -Int.natCast_emod, -Int.natCast_ediv, -Int.natCast_pow, Jb, Jc, Jd, Je, Jf, Jg, Jh, Ji, Jj, Jk, Jl, Jm, Jn, Jo, Jp, Jq, Jr, Js, Jt, Ju, Jv, Jw, Jx, Jy, Jz, h2]
    · simp (maxSteps := 2000000) -implicitDefEqProofs [-List.map_set, Ja, -Int.natCast_add, -Int.natCast_mul, -Int.natCast_emod, -Int.natCast_ediv, -Int.natCast_pow, Jb, Jc, Jd, Je, Jf, Jg, Jh, Ji, Jj, Jk, Jl, Jm, Jn, Jo, Jp, Jq, Jr, Js, Jt, Ju, Jv, Jw, Jx, Jy, Jz, h2]
      (first | refine .inl ⟨_, s1, ?_⟩ | refine ⟨_, s1, ?_⟩)
      by_cases h3 : z = t
      · subst h3
        simp (maxSteps := 2000000) -implicitDefEqProofs [-List.map_set, Ja, -Int.natCast_add, -Int.natCast_mul, -Int.natCast_emod, -Int.natCast_ediv, -Int.natCast_pow, Jb, Jc, Jd, Je, Jf, Jg, Jh, Ji, Jj, Jk, Jl, Jm, Jn, Jo, Jp, Jq, Jr, Js, Jt, Ju, Jv, Jw, Jx, Jy, Jz]
        (first | refine .inl ⟨_, s2, ?_⟩ | refine ⟨_, s2, ?_⟩)
        simp (maxSteps := 2000000) -implicitDefEqProofs [-List.map_set, Ja, -Int.natCast_add, -Int.natCast_mul, -Int.natCast_emod, -Int.natCast_ediv, -Int.natCast_pow, Jb, Jc, Jd, Je, Jf, Jg, Jh, Ji, Jj, Jk, Jl, Jm, Jn, Jo, Jp, Jq, Jr, Js, Jt, Ju, Jv, Jw, Jx, Jy, Jz]
      · simp (maxSteps := 2000000) -implicitDefEqProofs [-List.map_set, Ja, -Int.natCast_add, -Int.natCast_mul, -Int.natCast_emod, -Int.natCast_ediv, -Int.natCast_pow, Jb, Jc, Jd, Je, Jf, Jg, Jh, Ji, Jj, Jk, Jl, Jm, Jn, Jo, Jp, Jq, Jr, Js, Jt, Ju, Jv, Jw, Jx, Jy, Jz, h3]
  · have h1' : (decide (z = x) && decide (t = y)) = false := by simpa using h1
    simp (maxSteps := 2000000) -implicitDefEqProofs [-List.map_set, Ja, -Int.natCast_add, -Int.natCast_mul, -Int.natCast_emod, -Int.natCast_ediv, -Int.natCast_pow, Jb, Jc, Jd, Je, Jf, Jg, Jh, Ji, Jj, Jk, Jl, Jm, Jn, Jo, Jp, Jq, Jr, Js, Jt, Ju, Jv, Jw, Jx, Jy, Jz, h1, h1']
    (first | refine .inl ⟨_, s1, ?_⟩ | refine ⟨_, s1, ?_⟩)
    by_cases h3 : z = t
    · subst h3
      simp (maxSteps := 2000000) -implicitDefEqProofs [-List.map_set, Ja, -Int.natCast_add, -Int.natCast_mul, -Int.natCast_emod, -Int.natCast_ediv, -Int.natCast_pow, Jb, Jc, Jd, Je, Jf, Jg, Jh, Ji, Jj, Jk, Jl, Jm, Jn, Jo, Jp, Jq, Jr, Js, Jt, Ju, Jv, Jw, Jx, Jy, Jz]
      (first | refine .inl ⟨_, s2, ?_⟩ | refine ⟨_, s2, ?_⟩)
      by_cases h4 : x = y
      · simp (maxSteps := 2000000) -implicitDefEqProofs [-List.map_set, Ja, -Int.natCast_add, -Int.natCast_mul, -Int.natCast_emod, -Int.natCast_ediv, -Int.natCast_pow, Jb, Jc, Jd, Je, Jf, Jg, Jh, Ji, Jj, Jk, Jl, Jm, Jn, Jo, Jp, Jq, Jr, Js, Jt, Ju, Jv, Jw, Jx, Jy, Jz, h4]
      · simp (maxSteps := 2000000) -implicitDefEqProofs [-List.map_set, Ja, -Int.natCast_add, -Int.natCast_mul, -Int.natCast_emod, -Int.natCast_ediv, -Int.natCast_pow, Jb, Jc, Jd, Je, Jf, Jg, Jh, Ji, Jj, Jk, Jl, Jm, Jn, Jo, Jp, Jq, Jr, Js, Jt, Ju, Jv, Jw, Jx, Jy, Jz, h4]
        (first | refine .inl ⟨_, k5, ?_⟩ | refine ⟨_, k5, ?_⟩)
        simp (maxSteps := 2000000) -implicitDefEqProofs [-List.map_set, Ja, -Int.natCast_add, -Int.natCast_mul, -Int.natCast_emod, -Int.natCast_ediv, -Int.natCast_pow, Jb, Jc, Jd, Je, Jf, Jg, Jh, Ji, Jj, Jk, Jl, Jm, Jn, Jo, Jp, Jq, Jr, Js, Jt, Ju, Jv, Jw, Jx, Jy, Jz, sgnI_zero, h1']
    · simp (maxSteps := 2000000) -implicitDefEqProofs [-List.map_set, Ja, -Int.natCast_add, -Int.natCast_mul, -Int.natCast_emod, -Int.natCast_ediv, -Int.natCast_pow, Jb, Jc, Jd, Je, Jf, Jg, Jh, Ji, Jj, Jk, Jl, Jm, Jn, Jo, Jp, Jq, Jr, Js, Jt, Ju, Jv, Jw, Jx, Jy, Jz, h3, h1']

/-- Does an angle hold for all points? -/
def trivAng (u v w z : Int × Int) : Bool := decide (u.1 = u.2) || decide (v.1 = v.2) || decide (w.1 = w.2) || decide (z.1 = z.2) || (decide (v = u) && decide (w = z)) || (decide (v = z) && decide (w = u))

theorem trivialAngle_c (a b c d e f g h : Int) (neg : Bool) (abs den : List Nat) :
    CallsF Tryz.prog 101 [.agg [.int .i64 7, intsD [a, b, c, d, e, f, g, h], .bool neg, natD abs, natD den]] (.u (.c (.d (.bool (trivAng (two a b) (two c d) (two e f) (two g h)))))) := by
  refine callsF_of (T := tb) tab_ok mixed Tryz.func101 rfl (by decide) (Nat.le_of_ble_eq_true rfl) rfl ?_; unfold St.init
  have k1 := segments8_c 7 a b c d e f g h neg abs den
  unfold trivAng two
  generalize intsD [a, b, c, d, e, f, g, h] = l at *
  generalize lo a b = a1 at *
  generalize hi a b = b1 at *
  generalize lo c d = c1 at *
  generalize hi c d = d1 at *
  generalize lo e f = e1 at *
  generalize hi e f = f1 at *
  generalize lo g h = g1 at *
  generalize hi g h = h1 at *
  clear a b c d e f g h
  have m1 := single_c a1 b1
  have m2 := single_c c1 d1
  have m3 := single_c e1 f1
  have m4 := single_c g1 h1
  simp (maxSteps := 2000000) -implicitDefEqProofs [-List.map_set, Ja, -Int.natCast_add, -Int.natCast_mul, -Int.natCast_emod, -Int.natCast_ediv, -Int.natCast_pow, Jb, Jc, Jd, Je, Jf, Jg, Jh, Ji, Jj, Jk, Jl, Jm, Jn, Jo, Jp, Jq, Jr, Js, Jt, Ju, Jv, Jw, Jx, Jy, Jz]
  (first | refine .inl ⟨_, k1, ?_⟩ | refine ⟨_, k1, ?_⟩)
  simp (maxSteps := 2000000) -implicitDefEqProofs [-List.map_set, Ja, -Int.natCast_add, -Int.natCast_mul, -Int.natCast_emod, -Int.natCast_ediv, -Int.natCast_pow, Jb, Jc, Jd, Je, Jf, Jg, Jh, Ji, Jj, Jk, Jl, Jm, Jn, Jo, Jp, Jq, Jr, Js, Jt, Ju, Jv, Jw, Jx, Jy, Jz]
  refine wpLoop_of (fun i : Nat => ⟨[(10, vI .i64 i), (9, vI .i64 4), (8, vC (.sl 7 0 4)), (3, vC (.sl 7 0 4)), (1, vC (.ptr 1 0))], [(7, .row 2 [.int .i64 a1, .int .i64 b1, .int .i64 c1, .int .i64 d1, .int .i64 e1, .int .i64 f1, .int .i64 g1, .int .i64 h1] true), (1, .box [.d (.int .i64 7), .d l, .d (.bool neg), .d (natD abs), .d (natD den)])]⟩)
    (fun i => i ≤ 4 ∧ (0 < i → a1 ≠ b1) ∧ (1 < i → c1 ≠ d1) ∧ (2 < i → e1 ≠ f1) ∧ (3 < i → g1 ≠ h1)) (fun i => 4 - i) 0 (by simp) (by simp) ?_
  rintro i ⟨hi, q1, q2, q3, q4⟩
  match i, hi with
  | 0, _ =>
    by_cases h : a1 = b1
    · simp (maxSteps := 2000000) -implicitDefEqProofs [-List.map_set, Ja, -Int.natCast_add, -Int.natCast_mul, -Int.natCast_emod, -Int.natCast_ediv, -Int.natCast_pow, Jb, Jc, Jd, Je, Jf, Jg, Jh, Ji, Jj, Jk, Jl, Jm, Jn, Jo, Jp, Jq, Jr, Js, Jt, Ju, Jv, Jw, Jx, Jy, Jz]
      (first | refine .inl ⟨_, m1, ?_⟩ | refine ⟨_, m1, ?_⟩)
      simp (maxSteps := 2000000) -implicitDefEqProofs [-List.map_set, Ja, -Int.natCast_add, -Int.natCast_mul, -Int.natCast_emod, -Int.natCast_ediv, -Int.natCast_pow, Jb, Jc, Jd, Je, Jf, Jg, Jh, Ji, Jj, Jk, Jl, Jm, Jn, Jo, Jp, Jq, Jr, Js, Jt, Ju, Jv, Jw, Jx, Jy, Jz, h]
    · simp (maxSteps := 2000000) -implicitDefEqProofs [-List.map_set, Ja, -Int.natCast_add, -Int.natCast_mul, -Int.natCast_emod, -Int.natCast_ediv, -Int.natCast_pow, Jb, Jc, Jd, Je, Jf, Jg, Jh, Ji, Jj, Jk, Jl, Jm, Jn, Jo, Jp, Jq, Jr, Js, Jt, Ju, Jv, Jw, Jx, Jy, Jz]
      (first | refine .inl ⟨_, m1, ?_⟩ | refine ⟨_, m1, ?_⟩)
      simp (maxSteps := 2000000) -implicitDefEqProofs [-List.map_set, Ja, -Int.natCast_add, -Int.natCast_mul, -Int.natCast_emod, -Int.natCast_ediv, -Int.natCast_pow, Jb, Jc, Jd, Je, Jf, Jg, Jh, Ji, Jj, Jk, Jl, Jm, Jn, Jo, Jp, Jq, Jr, Js, Jt, Ju, Jv, Jw, Jx, Jy, Jz, h]
  | 1, _ =>
    have q1 := q1 (by omega)
    by_cases h : c1 = d1
    · simp (maxSteps := 2000000) -implicitDefEqProofs [-List.map_set, Ja, -Int.natCast_add, -Int.natCast_mul, -Int.natCast_emod, -Int.natCast_ediv, -Int.natCast_pow, Jb, Jc, Jd, Je, Jf, Jg, Jh, Ji, Jj, Jk, Jl, Jm, Jn, Jo, Jp, Jq, Jr, Js, Jt, Ju, Jv, Jw, Jx, Jy, Jz]
      (first | refine .inl ⟨_, m2, ?_⟩ | refine ⟨_, m2, ?_⟩)
      simp (maxSteps := 2000000) -implicitDefEqProofs [-List.map_set, Ja, -Int.natCast_add, -Int.natCast_mul, -Int.natCast_emod, -Int.natCast_ediv, -Int.natCast_pow, Jb, Jc, Jd, Je, Jf, Jg, Jh, Ji, Jj, Jk, Jl, Jm, Jn, Jo, Jp, Jq, Jr, Js, Jt, Ju, Jv, Jw, Jx, Jy, Jz, h]
    · simp (maxSteps := 2000000) -implicitDefEqProofs [-List.map_set, Ja, -Int.natCast_add, -Int.natCast_mul, -Int.natCast_emod, -Int.natCast_ediv, -Int.natCast_pow, Jb, Jc, Jd, Je, Jf, Jg, Jh, Ji, Jj, Jk, Jl, Jm, Jn, Jo, Jp, Jq, Jr, Js, Jt, Ju, Jv, Jw, Jx, Jy, Jz]
      (first | refine .inl ⟨_, m2, ?_⟩ | refine ⟨_, m2, ?_⟩)
      simp (maxSteps := 2000000) -implicitDefEqProofs [-List.map_set, Ja, -Int.natCast_add, -Int.natCast_mul, -Int.natCast_emod, -Int.natCast_ediv, -Int.natCast_pow, Jb, Jc, Jd, Je, Jf, Jg, Jh, Ji, Jj, Jk, Jl, Jm, Jn, Jo, Jp, Jq, Jr, Js, Jt, Ju, Jv, Jw, Jx, Jy, Jz, h, q1]
  | 2, _ =>
    have q1 := q1 (by omega)
    have q2 := q2 (by omega)
    by_cases h : e1 = f1
    · simp (maxSteps := 2000000) -implicitDefEqProofs [-List.map_set, Ja, -Int.natCast_add, -Int.natCast_mul, -Int.natCast_emod, -Int.natCast_ediv, -Int.natCast_pow, Jb, Jc, Jd, Je, Jf, Jg, Jh, Ji, Jj, Jk, Jl, Jm, Jn, Jo, Jp, Jq, Jr, Js, Jt, Ju, Jv, Jw, Jx, Jy, Jz]
      (first | refine .inl ⟨_, m3, ?_⟩ | refine ⟨_, m3, ?_⟩)
      simp (maxSteps := 2000000) -implicitDefEqProofs [-List.map_set, Ja, -Int.natCast_add, -Int.natCast_mul, -Int.natCast_emod, -Int.natCast_ediv, -Int.natCast_pow, Jb, Jc, Jd, Je, Jf, Jg, Jh, Ji, Jj, Jk, Jl, Jm, Jn, Jo, Jp, Jq, Jr, Js, Jt, Ju, Jv, Jw, Jx, Jy, Jz, h]
    · simp (maxSteps := 2000000) -implicitDefEqProofs [-List.map_set, Ja, -Int.natCast_add, -Int.natCast_mul, -Int.natCast_emod, -Int.natCast_ediv, -Int.natCast_pow, Jb, Jc, Jd, Je, Jf, Jg, Jh, Ji, Jj, Jk, Jl, Jm, Jn, Jo, Jp, Jq, Jr, Js, Jt, Ju, Jv, Jw, Jx, Jy, Jz]
      (first | refine .inl ⟨_, m3, ?_⟩ | refine ⟨_, m3, ?_⟩)
      simp (maxSteps := 2000000) -implicitDefEqProofs [-List.map_set, Ja, -Int.natCast_add, -Int.natCast_mul, -Int.natCast_emod, -Int.natCast_ediv, -Int.natCast_pow, Jb, Jc, Jd, Je, Jf, Jg, Jh, Ji, Jj, Jk, Jl, Jm, Jn, Jo, Jp, Jq, Jr, Js, Jt, Ju, Jv, Jw, Jx, Jy, Jz, h, q1, q2]
  | 3, _ =>
    have q1 := q1 (by omega)
    have q2 := q2 (by omega)
    have q3 := q3 (by omega)
    by_cases h : g1 = h1
    · simp (maxSteps := 2000000) -implicitDefEqProofs [-List.map_set, Ja, -Int.natCast_add, -Int.natCast_mul, -Int.natCast_emod, -Int.natCast_ediv, -Int.natCast_pow, Jb, Jc, Jd, Je, Jf, Jg, Jh, Ji, Jj, Jk, Jl, Jm, Jn, Jo, Jp, Jq, Jr, Js, Jt, Ju, Jv, Jw, Jx, Jy, Jz]
      (first | refine .inl ⟨_, m4, ?_⟩ | refine ⟨_, m4, ?_⟩)
      simp (maxSteps := 2000000) -implicitDefEqProofs [-List.map_set, Ja, -Int.natCast_add, -Int.natCast_mul, -Int.natCast_emod, -Int.natCast_ediv, -Int.natCast_pow, Jb, Jc, Jd, Je, Jf, Jg, Jh, Ji, Jj, Jk, Jl, Jm, Jn, Jo, Jp, Jq, Jr, Js, Jt, Ju, Jv, Jw, Jx, Jy, Jz, h]
    · simp (maxSteps := 2000000) -implicitDefEqProofs [-List.map_set, Ja, -Int.natCast_add, -Int.natCast_mul, -Int.natCast_emod, -Int.natCast_ediv, -Int.natCast_pow, Jb, Jc, Jd, Je, Jf, Jg, Jh, Ji, Jj, Jk, Jl, Jm, Jn, Jo, Jp, Jq, Jr, Js, Jt, Ju, Jv, Jw, Jx, Jy, Jz]
      (first | refine .inl ⟨_, m4, ?_⟩ | refine ⟨_, m4, ?_⟩)
      simp (maxSteps := 2000000) -implicitDefEqProofs [-List.map_set, Ja, -Int.natCast_add, -Int.natCast_mul, -Int.natCast_emod, -Int.natCast_ediv, -Int.natCast_pow, Jb, Jc, Jd, Je, Jf, Jg, Jh, Ji, Jj, Jk, Jl, Jm, Jn, Jo, Jp, Jq, Jr, Js, Jt, Ju, Jv, Jw, Jx, Jy, Jz, h, q1, q2, q3]
  | 4, _ =>
    have q1 := q1 (by omega)
    have q2 := q2 (by omega)
    have q3 := q3 (by omega)
    have q4 := q4 (by omega)
    clear m1 m2 m3 m4 k1
    simp (maxSteps := 2000000) -implicitDefEqProofs [-List.map_set, Ja, -Int.natCast_add, -Int.natCast_mul, -Int.natCast_emod, -Int.natCast_ediv, -Int.natCast_pow, Jb, Jc, Jd, Je, Jf, Jg, Jh, Ji, Jj, Jk, Jl, Jm, Jn, Jo, Jp, Jq, Jr, Js, Jt, Ju, Jv, Jw, Jx, Jy, Jz, q1, q2, q3, q4]
    refine wpDraw_by [[], [0], [0, 1], [], [3], [3, 4], [0, 1, 2, 3, 4, 5], [0, 1, 2, 3, 4, 5, 6], [0, 1, 2, 3, 4, 5, 6, 7], [0, 1, 2, 3, 4, 5, 6, 7, 8], [0, 1, 2, 3, 4, 5, 6, 7, 8, 9], [0, 1, 2, 3, 4, 5, 6, 7], [0, 1, 2, 3, 4, 5, 6, 7, 11], [0, 1, 2, 3, 4, 5, 6, 7, 11, 12], [0, 1, 2, 3, 4, 5, 6, 7, 8, 9, 10, 11, 12, 13], [0, 1, 2, 3, 4, 5, 6, 7, 8, 9, 10, 11, 12, 13, 14], [0, 1, 2, 3, 4, 5, 6, 7, 8, 9, 10, 11, 12, 13, 14, 15], [0, 1, 2, 3, 4, 5, 6, 7, 8, 9, 10, 11, 12, 13, 14, 15, 16], [0, 1, 2, 3, 4, 5, 6, 7, 8, 9, 10, 11, 12, 13, 14, 15, 16, 17], [0, 1, 2, 3, 4, 5, 6, 7, 8, 9, 10, 11, 12, 13, 14, 15, 16, 17, 18], [0, 1, 2, 3, 4, 5, 6, 7, 8, 9, 10, 11, 12, 13, 14, 15, 16], [0, 1, 2, 3, 4, 5, 6, 7, 8, 9, 10, 11, 12, 13, 14, 15, 16, 20], [0, 1, 2, 3, 4, 5, 6, 7, 8, 9, 10, 11, 12, 13, 14, 15, 16, 20, 21], [0, 1, 2, 3, 4, 5, 6, 7, 8, 9, 10, 11, 12, 13, 14, 15, 16, 17, 18, 19, 20, 21, 22], [0, 1, 2, 3, 4, 5, 6, 7, 8, 9, 10, 11, 12, 13, 14, 15, 16, 17, 18, 19, 20, 21, 22, 23], [0, 1, 2, 3, 4, 5, 6, 7, 8, 9, 10, 11, 12, 13, 14, 15, 16, 17, 18, 19, 20, 21, 22, 23, 24], [0, 1, 2, 3, 4, 5, 6, 7, 8, 9, 10, 11, 12, 13, 14, 15, 16, 17, 18, 19, 20, 21, 22, 23, 24, 25], [0, 1, 2, 3, 4, 5, 6, 7, 8, 9, 10, 11, 12, 13, 14, 15, 16, 17, 18, 19, 20, 21, 22, 23, 24, 25, 26], [0, 1, 2, 3, 4, 5, 6, 7, 8, 9, 10, 11, 12, 13, 14, 15, 16, 17, 18, 19, 20, 21, 22, 23, 24], [0, 1, 2, 3, 4, 5, 6, 7, 8, 9, 10, 11, 12, 13, 14, 15, 16, 17, 18, 19, 20, 21, 22, 23, 24, 28], [0, 1, 2, 3, 4, 5, 6, 7, 8, 9, 10, 11, 12, 13, 14, 15, 16, 17, 18, 19, 20, 21, 22, 23, 24, 28, 29], [0, 1, 2, 3, 4, 5, 6, 7, 8, 9, 10, 11, 12, 13, 14, 15, 16, 17, 18, 19, 20, 21, 22, 23, 24, 25, 26, 27, 28, 29, 30], [0, 1, 2, 3, 4, 5, 6, 7, 8, 9, 10, 11, 12, 13, 14, 15, 16, 17, 18, 19, 20, 21, 22, 23, 24, 25, 26, 27, 28, 29, 30, 31], [0, 1, 2, 3, 4, 5, 6, 7, 8, 9, 10, 11, 12, 13, 14, 15, 16, 17, 18, 19, 20, 21, 22, 23, 24, 25, 26, 27, 28, 29, 30, 31, 32], [0, 1, 2, 3, 4, 5, 6, 7, 8, 9, 10, 11, 12, 13, 14, 15, 16, 17, 18, 19, 20, 21, 22, 23, 24, 25, 26, 27, 28, 29, 30, 31, 32, 33]] [.any [] [] [⟨0, [3], [], [], []⟩, ⟨0, [17], [], [], []⟩, ⟨0, [18], [], [], []⟩, ⟨0, [3], [], [], []⟩, ⟨0, [20], [], [], []⟩, ⟨0, [21], [], [], []⟩], .one, .one, .any [] [] [⟨0, [3, 24], [], [], []⟩, ⟨0, [25, 24], [], [], []⟩, ⟨0, [26, 24], [], [], []⟩, ⟨0, [3, 24], [], [], []⟩, ⟨0, [28, 24], [], [], []⟩, ⟨0, [29, 24], [], [], []⟩], .one, .one, .one, .any [] [] [⟨0, [3, 33], [], [], []⟩, ⟨0, [34, 33], [], [], []⟩, ⟨0, [35, 33], [], [], []⟩, ⟨0, [3, 33], [], [], []⟩, ⟨0, [37, 33], [], [], []⟩, ⟨0, [38, 33], [], [], []⟩], .one, .one, .any [] [] [⟨0, [3, 41], [], [], []⟩, ⟨0, [42, 41], [], [], []⟩, ⟨0, [43, 41], [], [], []⟩, ⟨0, [3, 41], [], [], []⟩, ⟨0, [45, 41], [], [], []⟩, ⟨0, [46, 41], [], [], []⟩], .one, .one, .one, .one] (by rfl) ?_
    have A : ∀ x y : Bool, (x || y) = true → x = false → y = true := by decide
    generalize hA : (decide (c1 = a1) && decide (d1 = b1)) = A1
    generalize hB : (decide (e1 = g1) && decide (f1 = h1)) = A2
    generalize hC : (decide (c1 = g1) && decide (d1 = h1)) = A3
    generalize hD : (decide (e1 = a1) && decide (f1 = b1)) = A4
    cases A1
    · cases A3
      · simp (maxSteps := 2000000) -implicitDefEqProofs [-List.map_set, Ja, -Int.natCast_add, -Int.natCast_mul, -Int.natCast_emod, -Int.natCast_ediv, -Int.natCast_pow, Jb, Jc, Jd, Je, Jf, Jg, Jh, Ji, Jj, Jk, Jl, Jm, Jn, Jo, Jp, Jq, Jr, Js, Jt, Ju, Jv, Jw, Jx, Jy, Jz, hA, hB, hC, hD]
      · simp (maxSteps := 2000000) -implicitDefEqProofs [-List.map_set, Ja, -Int.natCast_add, -Int.natCast_mul, -Int.natCast_emod, -Int.natCast_ediv, -Int.natCast_pow, Jb, Jc, Jd, Je, Jf, Jg, Jh, Ji, Jj, Jk, Jl, Jm, Jn, Jo, Jp, Jq, Jr, Js, Jt, Ju, Jv, Jw, Jx, Jy, Jz, hA, hB, hC, hD]
    · cases A2
      · cases A3
        · simp (maxSteps := 2000000) -implicitDefEqProofs [-List.map_set, Ja, -Int.natCast_add, -Int.natCast_mul, -Int.natCast_emod, -Int.natCast_ediv, -Int.natCast_pow, Jb, Jc, Jd, Je, Jf, Jg, Jh, Ji, Jj, Jk, Jl, Jm, Jn, Jo, Jp, Jq, Jr, Js, Jt, Ju, Jv, Jw, Jx, Jy, Jz, hA, hB, hC, hD]
        · simp (maxSteps := 2000000) -implicitDefEqProofs [-List.map_set, Ja, -Int.natCast_add, -Int.natCast_mul, -Int.natCast_emod, -Int.natCast_ediv, -Int.natCast_pow, Jb, Jc, Jd, Je, Jf, Jg, Jh, Ji, Jj, Jk, Jl, Jm, Jn, Jo, Jp, Jq, Jr, Js, Jt, Ju, Jv, Jw, Jx, Jy, Jz, hA, hB, hC, hD]
      · simp (maxSteps := 2000000) -implicitDefEqProofs [-List.map_set, Ja, -Int.natCast_add, -Int.natCast_mul, -Int.natCast_emod, -Int.natCast_ediv, -Int.natCast_pow, Jb, Jc, Jd, Je, Jf, Jg, Jh, Ji, Jj, Jk, Jl, Jm, Jn, Jo, Jp, Jq, Jr, Js, Jt, Ju, Jv, Jw, Jx, Jy, Jz, hA, hB, hC, hD]

end Go.Va

/-
  Contracts: Trivial, Same, Rename.
-/
namespace Go.Va
open Go.Proofs
set_option maxHeartbeats 4000000
set_option maxRecDepth 10000
set_option linter.unusedSimpArgs false
set_option linter.unusedVariables false

/-- Does a right fact hold for all points? -/
def trivG (f : Fct) : Bool :=
  if f.kind = 1 ∨ f.kind = 6 ∨ f.kind = 8 then !decide f.args.Nodup
  else if f.kind = 5 then (match f.args with | [a, b, c] => decide (a = b) && decide (b = c) | _ => false)
  else if f.kind = 9 then (match f.args with | [a, b, c, d] => trivRat f.neg (val f.abs) (val f.den) (two a b) (two c d) | _ => false)
  else if f.kind = 7 then (match f.args with | [a, b, c, d, e, f, g, h] => trivAng (two a b) (two c d) (two e f) (two g h) | _ => false)
  else (match f.args with
    | [a, b, c, d] => if f.kind = 2 then decide (lo a b = hi a b) || decide (lo c d = hi c d) || decide (two a b = two c d)
      else if f.kind = 3 then decide (lo a b = hi a b) || decide (lo c d = hi c d)
      else decide (lo a b = hi a b) && decide (lo c d = hi c d) || decide (two a b = two c d)
    | _ => false)
def trivF (f : Fct) : Bool := okF f && trivG f

theorem trivial_c (f : Fct) (hf : f.Mild) : CallsF Tryz.prog 50 [.agg f.ds] (.u (.c (.d (.bool (trivF f))))) := by
  have k1 := right_c f hf
  have k2 := fun h => (Fct.Rt.mk h hf).parts
  unfold trivF
  obtain ⟨k, l, n, m, d⟩ := f
  obtain ⟨la, ld, oa, od, ln⟩ := hf
  simp only [Fct.ds] at *
  cases h : okF ⟨k, l, n, m, d⟩
  · rw [h] at k1
    refine callsF_of (T := tb) tab_ok mixed Tryz.func50 rfl (by decide) (Nat.le_of_ble_eq_true rfl) rfl ?_; unfold St.init
    simp (maxSteps := 2000000) -implicitDefEqProofs [-List.map_set, Ja, -Int.natCast_add, -Int.natCast_mul, -Int.natCast_emod, -Int.natCast_ediv, -Int.natCast_pow, Jb, Jc, Jd, Je, Jf, Jg, Jh, Ji, Jj, Jk, Jl, Jm, Jn, Jo, Jp, Jq, Jr, Js, Jt, Ju, Jv, Jw, Jx, Jy, Jz]
    (first | refine .inl ⟨_, k1, ?_⟩ | refine ⟨_, k1, ?_⟩)
    simp (maxSteps := 2000000) -implicitDefEqProofs [-List.map_set, Ja, -Int.natCast_add, -Int.natCast_mul, -Int.natCast_emod, -Int.natCast_ediv, -Int.natCast_pow, Jb, Jc, Jd, Je, Jf, Jg, Jh, Ji, Jj, Jk, Jl, Jm, Jn, Jo, Jp, Jq, Jr, Js, Jt, Ju, Jv, Jw, Jx, Jy, Jz]
  · rw [h] at k1
    obtain ⟨h1, h2, h3, h4⟩ := k2 h
    clear k2 h
    unfold trivG
    simp only
    rw [Bool.true_and]
    by_cases i1 : k = 1 ∨ k = 6 ∨ k = 8
    · rw [if_pos i1]
      have r := repeated_c l ln
      clear h1 h2 h3 h4
      refine callsF_of (T := tb) tab_ok mixed Tryz.func50 rfl (by decide) (Nat.le_of_ble_eq_true rfl) rfl ?_; unfold St.init
      simp (maxSteps := 2000000) -implicitDefEqProofs [-List.map_set, Ja, -Int.natCast_add, -Int.natCast_mul, -Int.natCast_emod, -Int.natCast_ediv, -Int.natCast_pow, Jb, Jc, Jd, Je, Jf, Jg, Jh, Ji, Jj, Jk, Jl, Jm, Jn, Jo, Jp, Jq, Jr, Js, Jt, Ju, Jv, Jw, Jx, Jy, Jz]
      (first | refine .inl ⟨_, k1, ?_⟩ | refine ⟨_, k1, ?_⟩)
      rcases i1 with rfl | rfl | rfl <;> simp (maxSteps := 2000000) -implicitDefEqProofs [-List.map_set, Ja, -Int.natCast_add, -Int.natCast_mul, -Int.natCast_emod, -Int.natCast_ediv, -Int.natCast_pow, Jb, Jc, Jd, Je, Jf, Jg, Jh, Ji, Jj, Jk, Jl, Jm, Jn, Jo, Jp, Jq, Jr, Js, Jt, Ju, Jv, Jw, Jx, Jy, Jz] <;> (first | refine .inl ⟨_, r, ?_⟩ | refine ⟨_, r, ?_⟩) <;> simp (maxSteps := 2000000) -implicitDefEqProofs [-List.map_set, Ja, -Int.natCast_add, -Int.natCast_mul, -Int.natCast_emod, -Int.natCast_ediv, -Int.natCast_pow, Jb, Jc, Jd, Je, Jf, Jg, Jh, Ji, Jj, Jk, Jl, Jm, Jn, Jo, Jp, Jq, Jr, Js, Jt, Ju, Jv, Jw, Jx, Jy, Jz]
    rw [if_neg i1]
    by_cases i2 : k = 5
    · subst i2
      obtain ⟨a, b, c, rfl⟩ := list3 (by simpa [arity] using h2)
      rw [if_pos rfl]
      clear h1 h2 h3 h4
      refine callsF_of (T := tb) tab_ok mixed Tryz.func50 rfl (by decide) (Nat.le_of_ble_eq_true rfl) rfl ?_; unfold St.init
      simp (maxSteps := 2000000) -implicitDefEqProofs [-List.map_set, Ja, -Int.natCast_add, -Int.natCast_mul, -Int.natCast_emod, -Int.natCast_ediv, -Int.natCast_pow, Jb, Jc, Jd, Je, Jf, Jg, Jh, Ji, Jj, Jk, Jl, Jm, Jn, Jo, Jp, Jq, Jr, Js, Jt, Ju, Jv, Jw, Jx, Jy, Jz]
      (first | refine .inl ⟨_, k1, ?_⟩ | refine ⟨_, k1, ?_⟩)
      simp (maxSteps := 2000000) -implicitDefEqProofs [-List.map_set, Ja, -Int.natCast_add, -Int.natCast_mul, -Int.natCast_emod, -Int.natCast_ediv, -Int.natCast_pow, Jb, Jc, Jd, Je, Jf, Jg, Jh, Ji, Jj, Jk, Jl, Jm, Jn, Jo, Jp, Jq, Jr, Js, Jt, Ju, Jv, Jw, Jx, Jy, Jz]
      refine wpDraw_by [[], [0], [0, 1], [0, 1, 2], [], [4], [4, 5], [4, 5, 6], [0, 1, 2, 3, 4, 5, 6, 7], [0, 1, 2, 3, 4, 5, 6, 7, 8], [0, 1, 2, 3, 4, 5, 6, 7, 8, 9], [0, 1, 2, 3, 4, 5, 6, 7, 8, 9, 10], [0, 1, 2, 3, 4, 5, 6, 7, 8, 9, 10, 11], [0, 1, 2, 3, 4, 5, 6, 7, 8, 9, 10, 11, 12], [0, 1, 2, 3, 4, 5, 6, 7, 8, 9], [0, 1, 2, 3, 4, 5, 6, 7, 8, 9, 14], [0, 1, 2, 3, 4, 5, 6, 7, 8, 9, 14, 15], [0, 1, 2, 3, 4, 5, 6, 7, 8, 9, 14, 15, 16], [0, 1, 2, 3, 4, 5, 6, 7, 8, 9, 10, 11, 12, 13, 14, 15, 16, 17], [0, 1, 2, 3, 4, 5, 6, 7, 8, 9, 10, 11, 12, 13, 14, 15, 16, 17, 18], [0, 1, 2, 3, 4, 5, 6, 7, 8, 9, 10, 11, 12, 13, 14, 15, 16, 17, 18, 19]] [.any [] [] [⟨0, [1], [], [], []⟩, ⟨0, [18], [], [], []⟩, ⟨0, [19], [], [], []⟩, ⟨0, [20], [], [], []⟩, ⟨0, [1], [], [], []⟩, ⟨0, [22], [], [], []⟩, ⟨0, [23], [], [], []⟩, ⟨0, [24], [], [], []⟩], .one, .one, .any [] [] [⟨0, [1, 27], [], [], []⟩, ⟨0, [28, 27], [], [], []⟩, ⟨0, [29, 27], [], [], []⟩, ⟨0, [30, 27], [], [], []⟩, ⟨0, [1, 27], [], [], []⟩, ⟨0, [32, 27], [], [], []⟩, ⟨0, [33, 27], [], [], []⟩, ⟨0, [34, 27], [], [], []⟩], .one, .one, .one] (by rfl) ?_
      by_cases j : a = b <;> simp (maxSteps := 2000000) -implicitDefEqProofs [-List.map_set, Ja, -Int.natCast_add, -Int.natCast_mul, -Int.natCast_emod, -Int.natCast_ediv, -Int.natCast_pow, Jb, Jc, Jd, Je, Jf, Jg, Jh, Ji, Jj, Jk, Jl, Jm, Jn, Jo, Jp, Jq, Jr, Js, Jt, Ju, Jv, Jw, Jx, Jy, Jz, j, i64]
    rw [if_neg i2]
    by_cases i3 : k = 9
    · subst i3
      obtain ⟨a, b, c, e, rfl⟩ := list4 (by simpa [arity] using h2)
      rw [if_pos rfl] at h4 ⊢
      obtain ⟨e1, e2, d0, g, _⟩ := ratOk_spec h4 oa od
      have r := trivialRatio_c a b c e n (val m) (val d) (oa.lt32 la) (od.lt32 ld) d0
      rw [← e1, ← e2] at r
      simp only
      clear h1 h2 h3 h4 e1 e2
      refine callsF_of (T := tb) tab_ok mixed Tryz.func50 rfl (by decide) (Nat.le_of_ble_eq_true rfl) rfl ?_; unfold St.init
      simp (maxSteps := 2000000) -implicitDefEqProofs [-List.map_set, Ja, -Int.natCast_add, -Int.natCast_mul, -Int.natCast_emod, -Int.natCast_ediv, -Int.natCast_pow, Jb, Jc, Jd, Je, Jf, Jg, Jh, Ji, Jj, Jk, Jl, Jm, Jn, Jo, Jp, Jq, Jr, Js, Jt, Ju, Jv, Jw, Jx, Jy, Jz]
      (first | refine .inl ⟨_, k1, ?_⟩ | refine ⟨_, k1, ?_⟩)
      simp (maxSteps := 2000000) -implicitDefEqProofs [-List.map_set, Ja, -Int.natCast_add, -Int.natCast_mul, -Int.natCast_emod, -Int.natCast_ediv, -Int.natCast_pow, Jb, Jc, Jd, Je, Jf, Jg, Jh, Ji, Jj, Jk, Jl, Jm, Jn, Jo, Jp, Jq, Jr, Js, Jt, Ju, Jv, Jw, Jx, Jy, Jz]
      (first | refine .inl ⟨_, r, ?_⟩ | refine ⟨_, r, ?_⟩)
      simp (maxSteps := 2000000) -implicitDefEqProofs [-List.map_set, Ja, -Int.natCast_add, -Int.natCast_mul, -Int.natCast_emod, -Int.natCast_ediv, -Int.natCast_pow, Jb, Jc, Jd, Je, Jf, Jg, Jh, Ji, Jj, Jk, Jl, Jm, Jn, Jo, Jp, Jq, Jr, Js, Jt, Ju, Jv, Jw, Jx, Jy, Jz]
    rw [if_neg i3]
    by_cases i4 : k = 7
    · subst i4
      obtain ⟨a, b, c, e, a', b', c', e', rfl⟩ := list8 (by simpa [arity] using h2)
      rw [if_pos rfl]
      have r := trivialAngle_c a b c e a' b' c' e' n m d
      clear h1 h2 h3 h4
      refine callsF_of (T := tb) tab_ok mixed Tryz.func50 rfl (by decide) (Nat.le_of_ble_eq_true rfl) rfl ?_; unfold St.init
      simp (maxSteps := 2000000) -implicitDefEqProofs [-List.map_set, Ja, -Int.natCast_add, -Int.natCast_mul, -Int.natCast_emod, -Int.natCast_ediv, -Int.natCast_pow, Jb, Jc, Jd, Je, Jf, Jg, Jh, Ji, Jj, Jk, Jl, Jm, Jn, Jo, Jp, Jq, Jr, Js, Jt, Ju, Jv, Jw, Jx, Jy, Jz]
      (first | refine .inl ⟨_, k1, ?_⟩ | refine ⟨_, k1, ?_⟩)
      simp (maxSteps := 2000000) -implicitDefEqProofs [-List.map_set, Ja, -Int.natCast_add, -Int.natCast_mul, -Int.natCast_emod, -Int.natCast_ediv, -Int.natCast_pow, Jb, Jc, Jd, Je, Jf, Jg, Jh, Ji, Jj, Jk, Jl, Jm, Jn, Jo, Jp, Jq, Jr, Js, Jt, Ju, Jv, Jw, Jx, Jy, Jz]
      (first | refine .inl ⟨_, r, ?_⟩ | refine ⟨_, r, ?_⟩)
      simp (maxSteps := 2000000) -implicitDefEqProofs [-List.map_set, Ja, -Int.natCast_add, -Int.natCast_mul, -Int.natCast_emod, -Int.natCast_ediv, -Int.natCast_pow, Jb, Jc, Jd, Je, Jf, Jg, Jh, Ji, Jj, Jk, Jl, Jm, Jn, Jo, Jp, Jq, Jr, Js, Jt, Ju, Jv, Jw, Jx, Jy, Jz]
    rw [if_neg i4]
    have hk : k = 2 ∨ k = 3 ∨ k = 4 := by
      unfold arity at h1
      by_cases q1 : k = 1 ∨ k = 5
      · omega
      rw [if_neg q1] at h1
      by_cases q2 : k = 2 ∨ k = 3 ∨ k = 4 ∨ k = 6 ∨ k = 9
      · omega
      rw [if_neg q2, if_neg i4, if_neg (by omega)] at h1
      exact absurd rfl h1
    obtain ⟨a, b, c, e, rfl⟩ := list4 (l := l) (by rcases hk with rfl | rfl | rfl <;> simpa [arity] using h2)
    have r := segments4_c k a b c e n m d
    simp only
    unfold two
    clear h1 h2 h3 h4 i1 i2 i3 i4
    generalize intsD [a, b, c, e] = l at *
    generalize lo c e = x at *
    generalize hi c e = y at *
    generalize lo a b = z at *
    generalize hi a b = t at *
    have s1 := single_c z t
    have s2 := single_c x y
    clear la ld oa od ln
    rcases hk with rfl | rfl | rfl
    · refine callsF_of (T := tb) tab_ok mixed Tryz.func50 rfl (by decide) (Nat.le_of_ble_eq_true rfl) rfl ?_; unfold St.init
      simp (maxSteps := 2000000) -implicitDefEqProofs [-List.map_set, Ja, -Int.natCast_add, -Int.natCast_mul, -Int.natCast_emod, -Int.natCast_ediv, -Int.natCast_pow, Jb, Jc, Jd, Je, Jf, Jg, Jh, Ji, Jj, Jk, Jl, Jm, Jn, Jo, Jp, Jq, Jr, Js, Jt, Ju, Jv, Jw, Jx, Jy, Jz]
      (first | refine .inl ⟨_, k1, ?_⟩ | refine ⟨_, k1, ?_⟩)
      simp (maxSteps := 2000000) -implicitDefEqProofs [-List.map_set, Ja, -Int.natCast_add, -Int.natCast_mul, -Int.natCast_emod, -Int.natCast_ediv, -Int.natCast_pow, Jb, Jc, Jd, Je, Jf, Jg, Jh, Ji, Jj, Jk, Jl, Jm, Jn, Jo, Jp, Jq, Jr, Js, Jt, Ju, Jv, Jw, Jx, Jy, Jz]
      (first | refine .inl ⟨_, r, ?_⟩ | refine ⟨_, r, ?_⟩)
      simp (maxSteps := 2000000) -implicitDefEqProofs [-List.map_set, Ja, -Int.natCast_add, -Int.natCast_mul, -Int.natCast_emod, -Int.natCast_ediv, -Int.natCast_pow, Jb, Jc, Jd, Je, Jf, Jg, Jh, Ji, Jj, Jk, Jl, Jm, Jn, Jo, Jp, Jq, Jr, Js, Jt, Ju, Jv, Jw, Jx, Jy, Jz]
      refine wpDraw_by [[], [0], [0, 1], [0, 1, 2], [0, 1, 2, 3], [0, 1, 2, 3, 4], [0, 1, 2, 3, 4, 5], [0, 1, 2, 3, 4, 5, 6], [0, 1, 2, 3, 4, 5, 6, 7], [0, 1, 2, 3, 4, 5, 6, 7, 8], [0, 1, 2, 3, 4, 5, 6, 7, 8, 9], [0, 1, 2, 3, 4, 5, 6, 7, 8, 9, 10], [0, 1, 2, 3, 4, 5, 6, 7, 8, 9, 10, 11], [0, 1, 2, 3, 4, 5, 6, 7, 8, 9, 10, 11, 12], [0, 1, 2, 3, 4, 5, 6, 7, 8, 9, 10], [0, 1, 2, 3, 4, 5, 6, 7, 8, 9, 10, 14], [0, 1, 2, 3, 4, 5, 6, 7, 8, 9, 10, 14, 15], [0, 1, 2, 3, 4, 5, 6, 7, 8, 9, 10, 11, 12, 13, 14, 15, 16], [0, 1, 2, 3, 4, 5, 6, 7, 8, 9, 10, 11, 12, 13, 14, 15, 16, 17], [0, 1, 2, 3, 4, 5, 6, 7, 8, 9, 10, 11, 12, 13, 14, 15, 16, 17, 18]] [.one, .one, .one, .one, .one, .one, .one, .one, .one, .one, .one, .any [] [] [⟨0, [3, 62], [], [], []⟩, ⟨0, [63, 62], [], [], []⟩, ⟨0, [64, 62], [], [], []⟩, ⟨0, [3, 62], [], [], []⟩, ⟨0, [66, 62], [], [], []⟩, ⟨0, [67, 62], [], [], []⟩], .one, .one, .one] (by rfl) ?_
      simp (maxSteps := 2000000) -implicitDefEqProofs [-List.map_set, Ja, -Int.natCast_add, -Int.natCast_mul, -Int.natCast_emod, -Int.natCast_ediv, -Int.natCast_pow, Jb, Jc, Jd, Je, Jf, Jg, Jh, Ji, Jj, Jk, Jl, Jm, Jn, Jo, Jp, Jq, Jr, Js, Jt, Ju, Jv, Jw, Jx, Jy, Jz]
      (first | refine .inl ⟨_, s1, ?_⟩ | refine ⟨_, s1, ?_⟩)
      by_cases j1 : z = t
      · simp (maxSteps := 2000000) -implicitDefEqProofs [-List.map_set, Ja, -Int.natCast_add, -Int.natCast_mul, -Int.natCast_emod, -Int.natCast_ediv, -Int.natCast_pow, Jb, Jc, Jd, Je, Jf, Jg, Jh, Ji, Jj, Jk, Jl, Jm, Jn, Jo, Jp, Jq, Jr, Js, Jt, Ju, Jv, Jw, Jx, Jy, Jz, j1]
      · simp (maxSteps := 2000000) -implicitDefEqProofs [-List.map_set, Ja, -Int.natCast_add, -Int.natCast_mul, -Int.natCast_emod, -Int.natCast_ediv, -Int.natCast_pow, Jb, Jc, Jd, Je, Jf, Jg, Jh, Ji, Jj, Jk, Jl, Jm, Jn, Jo, Jp, Jq, Jr, Js, Jt, Ju, Jv, Jw, Jx, Jy, Jz, j1]
        (first | refine .inl ⟨_, s2, ?_⟩ | refine ⟨_, s2, ?_⟩)
        by_cases j2 : x = y
        · simp (maxSteps := 2000000) -implicitDefEqProofs [-List.map_set, Ja, -Int.natCast_add, -Int.natCast_mul, -Int.natCast_emod, -Int.natCast_ediv, -Int.natCast_pow, Jb, Jc, Jd, Je, Jf, Jg, Jh, Ji, Jj, Jk, Jl, Jm, Jn, Jo, Jp, Jq, Jr, Js, Jt, Ju, Jv, Jw, Jx, Jy, Jz, j2]
        · simp (maxSteps := 2000000) -implicitDefEqProofs [-List.map_set, Ja, -Int.natCast_add, -Int.natCast_mul, -Int.natCast_emod, -Int.natCast_ediv, -Int.natCast_pow, Jb, Jc, Jd, Je, Jf, Jg, Jh, Ji, Jj, Jk, Jl, Jm, Jn, Jo, Jp, Jq, Jr, Js, Jt, Ju, Jv, Jw, Jx, Jy, Jz, j1, j2]
    · refine callsF_of (T := tb) tab_ok mixed Tryz.func50 rfl (by decide) (Nat.le_of_ble_eq_true rfl) rfl ?_; unfold St.init
      simp (maxSteps := 2000000) -implicitDefEqProofs [-List.map_set, Ja, -Int.natCast_add, -Int.natCast_mul, -Int.natCast_emod, -Int.natCast_ediv, -Int.natCast_pow, Jb, Jc, Jd, Je, Jf, Jg, Jh, Ji, Jj, Jk, Jl, Jm, Jn, Jo, Jp, Jq, Jr, Js, Jt, Ju, Jv, Jw, Jx, Jy, Jz]
      (first | refine .inl ⟨_, k1, ?_⟩ | refine ⟨_, k1, ?_⟩)
      simp (maxSteps := 2000000) -implicitDefEqProofs [-List.map_set, Ja, -Int.natCast_add, -Int.natCast_mul, -Int.natCast_emod, -Int.natCast_ediv, -Int.natCast_pow, Jb, Jc, Jd, Je, Jf, Jg, Jh, Ji, Jj, Jk, Jl, Jm, Jn, Jo, Jp, Jq, Jr, Js, Jt, Ju, Jv, Jw, Jx, Jy, Jz]
      (first | refine .inl ⟨_, r, ?_⟩ | refine ⟨_, r, ?_⟩)
      simp (maxSteps := 2000000) -implicitDefEqProofs [-List.map_set, Ja, -Int.natCast_add, -Int.natCast_mul, -Int.natCast_emod, -Int.natCast_ediv, -Int.natCast_pow, Jb, Jc, Jd, Je, Jf, Jg, Jh, Ji, Jj, Jk, Jl, Jm, Jn, Jo, Jp, Jq, Jr, Js, Jt, Ju, Jv, Jw, Jx, Jy, Jz]
      (first | refine .inl ⟨_, s1, ?_⟩ | refine ⟨_, s1, ?_⟩)
      by_cases j1 : z = t
      · simp (maxSteps := 2000000) -implicitDefEqProofs [-List.map_set, Ja, -Int.natCast_add, -Int.natCast_mul, -Int.natCast_emod, -Int.natCast_ediv, -Int.natCast_pow, Jb, Jc, Jd, Je, Jf, Jg, Jh, Ji, Jj, Jk, Jl, Jm, Jn, Jo, Jp, Jq, Jr, Js, Jt, Ju, Jv, Jw, Jx, Jy, Jz, j1]
      · simp (maxSteps := 2000000) -implicitDefEqProofs [-List.map_set, Ja, -Int.natCast_add, -Int.natCast_mul, -Int.natCast_emod, -Int.natCast_ediv, -Int.natCast_pow, Jb, Jc, Jd, Je, Jf, Jg, Jh, Ji, Jj, Jk, Jl, Jm, Jn, Jo, Jp, Jq, Jr, Js, Jt, Ju, Jv, Jw, Jx, Jy, Jz, j1]
        (first | refine .inl ⟨_, s2, ?_⟩ | refine ⟨_, s2, ?_⟩)
        simp (maxSteps := 2000000) -implicitDefEqProofs [-List.map_set, Ja, -Int.natCast_add, -Int.natCast_mul, -Int.natCast_emod, -Int.natCast_ediv, -Int.natCast_pow, Jb, Jc, Jd, Je, Jf, Jg, Jh, Ji, Jj, Jk, Jl, Jm, Jn, Jo, Jp, Jq, Jr, Js, Jt, Ju, Jv, Jw, Jx, Jy, Jz]
    · refine callsF_of (T := tb) tab_ok mixed Tryz.func50 rfl (by decide) (Nat.le_of_ble_eq_true rfl) rfl ?_; unfold St.init
      simp (maxSteps := 2000000) -implicitDefEqProofs [-List.map_set, Ja, -Int.natCast_add, -Int.natCast_mul, -Int.natCast_emod, -Int.natCast_ediv, -Int.natCast_pow, Jb, Jc, Jd, Je, Jf, Jg, Jh, Ji, Jj, Jk, Jl, Jm, Jn, Jo, Jp, Jq, Jr, Js, Jt, Ju, Jv, Jw, Jx, Jy, Jz]
      (first | refine .inl ⟨_, k1, ?_⟩ | refine ⟨_, k1, ?_⟩)
      simp (maxSteps := 2000000) -implicitDefEqProofs [-List.map_set, Ja, -Int.natCast_add, -Int.natCast_mul, -Int.natCast_emod, -Int.natCast_ediv, -Int.natCast_pow, Jb, Jc, Jd, Je, Jf, Jg, Jh, Ji, Jj, Jk, Jl, Jm, Jn, Jo, Jp, Jq, Jr, Js, Jt, Ju, Jv, Jw, Jx, Jy, Jz]
      (first | refine .inl ⟨_, r, ?_⟩ | refine ⟨_, r, ?_⟩)
      simp (maxSteps := 2000000) -implicitDefEqProofs [-List.map_set, Ja, -Int.natCast_add, -Int.natCast_mul, -Int.natCast_emod, -Int.natCast_ediv, -Int.natCast_pow, Jb, Jc, Jd, Je, Jf, Jg, Jh, Ji, Jj, Jk, Jl, Jm, Jn, Jo, Jp, Jq, Jr, Js, Jt, Ju, Jv, Jw, Jx, Jy, Jz]
      refine wpDraw_by [[], [0], [0, 1], [0, 1, 2], [0, 1, 2, 3], [0, 1, 2, 3, 4], [0, 1, 2, 3, 4, 5], [0, 1, 2, 3, 4, 5, 6], [0, 1, 2, 3, 4, 5, 6, 7], [0, 1, 2, 3, 4, 5, 6, 7, 8], [0, 1, 2, 3, 4, 5, 6, 7, 8, 9], [0, 1, 2, 3, 4, 5, 6, 7, 8, 9, 10], [0, 1, 2, 3, 4, 5, 6, 7, 8, 9, 10, 11], [0, 1, 2, 3, 4, 5, 6, 7, 8, 9, 10, 11, 12], [0, 1, 2, 3, 4, 5, 6, 7, 8, 9, 10], [0, 1, 2, 3, 4, 5, 6, 7, 8, 9, 10, 14], [0, 1, 2, 3, 4, 5, 6, 7, 8, 9, 10, 14, 15], [0, 1, 2, 3, 4, 5, 6, 7, 8, 9, 10, 11, 12, 13, 14, 15, 16], [0, 1, 2, 3, 4, 5, 6, 7, 8, 9, 10, 11, 12, 13, 14, 15, 16, 17], [0, 1, 2, 3, 4, 5, 6, 7, 8, 9, 10, 11, 12, 13, 14, 15, 16, 17, 18]] [.one, .one, .one, .one, .one, .one, .one, .one, .one, .one, .one, .any [] [] [⟨0, [3, 93], [], [], []⟩, ⟨0, [94, 93], [], [], []⟩, ⟨0, [95, 93], [], [], []⟩, ⟨0, [3, 93], [], [], []⟩, ⟨0, [97, 93], [], [], []⟩, ⟨0, [98, 93], [], [], []⟩], .one, .one, .one] (by rfl) ?_
      simp (maxSteps := 2000000) -implicitDefEqProofs [-List.map_set, Ja, -Int.natCast_add, -Int.natCast_mul, -Int.natCast_emod, -Int.natCast_ediv, -Int.natCast_pow, Jb, Jc, Jd, Je, Jf, Jg, Jh, Ji, Jj, Jk, Jl, Jm, Jn, Jo, Jp, Jq, Jr, Js, Jt, Ju, Jv, Jw, Jx, Jy, Jz]
      (first | refine .inl ⟨_, s1, ?_⟩ | refine ⟨_, s1, ?_⟩)
      by_cases j1 : z = t
      · simp (maxSteps := 2000000) -implicitDefEqProofs [-List.map_set, Ja, -Int.natCast_add, -Int.natCast_mul, -Int.natCast_emod, -Int.natCast_ediv, -Int.natCast_pow, Jb, Jc, Jd, Je, Jf, Jg, Jh, Ji, Jj, Jk, Jl, Jm, Jn, Jo, Jp, Jq, Jr, Js, Jt, Ju, Jv, Jw, Jx, Jy, Jz, j1]
        (first | refine .inl ⟨_, s2, ?_⟩ | refine ⟨_, s2, ?_⟩)
        by_cases j2 : x = y
        · simp (maxSteps := 2000000) -implicitDefEqProofs [-List.map_set, Ja, -Int.natCast_add, -Int.natCast_mul, -Int.natCast_emod, -Int.natCast_ediv, -Int.natCast_pow, Jb, Jc, Jd, Je, Jf, Jg, Jh, Ji, Jj, Jk, Jl, Jm, Jn, Jo, Jp, Jq, Jr, Js, Jt, Ju, Jv, Jw, Jx, Jy, Jz, j2]
        · simp (maxSteps := 2000000) -implicitDefEqProofs [-List.map_set, Ja, -Int.natCast_add, -Int.natCast_mul, -Int.natCast_emod, -Int.natCast_ediv, -Int.natCast_pow, Jb, Jc, Jd, Je, Jf, Jg, Jh, Ji, Jj, Jk, Jl, Jm, Jn, Jo, Jp, Jq, Jr, Js, Jt, Ju, Jv, Jw, Jx, Jy, Jz, j2]
      · simp (maxSteps := 2000000) -implicitDefEqProofs [-List.map_set, Ja, -Int.natCast_add, -Int.natCast_mul, -Int.natCast_emod, -Int.natCast_ediv, -Int.natCast_pow, Jb, Jc, Jd, Je, Jf, Jg, Jh, Ji, Jj, Jk, Jl, Jm, Jn, Jo, Jp, Jq, Jr, Js, Jt, Ju, Jv, Jw, Jx, Jy, Jz, j1]

theorem Fct.Rt.of {f : Fct} (hm : f.Mild) (h1 : arity f.kind ≠ 0) (h2 : f.args.length = arity f.kind) (h3 : ∀ a ∈ f.args, 0 ≤ a ∧ a < 40)
    (h4 : if f.kind = 9 then ratOk f.neg f.abs f.den = true else f.neg = false ∧ f.abs = [] ∧ f.den = []) : f.Rt := by
  refine ⟨?_, hm⟩
  unfold okF wrong
  rw [if_neg h1, if_neg (by omega), if_neg (by
    simp only [List.any_eq_true, not_exists, Bool.or_eq_true, decide_eq_true_eq, not_and, not_or]
    intro a ha
    have := h3 a ha
    omega)]
  by_cases h9 : f.kind = 9
  · rw [if_pos h9] at h4 ⊢
    simp [h4]
  · rw [if_neg h9] at h4 ⊢
    simp [noRat, h4.1, h4.2.1, h4.2.2]

theorem plain_mild (k : Int) (l : List Int) (hl : l.length ≤ 1099511627776) : (Fct.mk k l false [] []).Mild := ⟨by simp, by simp, Ok.nil, Ok.nil, hl⟩

theorem lastOk_limbs (n : Nat) : lastOk (limbs n) = true := by
  unfold lastOk
  simp only [decide_eq_true_eq]
  intro h
  have e := take_trim (limbs n) (ok_limbs n)
  rw [val_limbs] at e
  obtain ⟨k, hk⟩ : ∃ k, (limbs n).length = k + 1 := by
    refine ⟨(limbs n).length - 1, ?_⟩
    have : limbs n ≠ [] := fun h0 => by rw [h0] at h; simp at h
    have := List.length_pos_iff.2 this
    omega
  rw [List.getLast?_eq_getElem?, hk] at h
  simp only [Nat.add_sub_cancel] at h
  have h2 : (limbs n).getD k 0 = 0 := by rw [List.getD_eq_getElem?_getD, h]; rfl
  have h3 : trimL (limbs n) (limbs n).length ≤ k := by
    rw [hk]
    unfold trimL
    rw [if_pos h2]
    exact trimL_le _ _
  have h4 := congrArg List.length e
  rw [List.length_take] at h4
  omega

theorem lo_rng {a b : Int} (ha : 0 ≤ a ∧ a < 40) (hb : 0 ≤ b ∧ b < 40) : 0 ≤ lo a b ∧ lo a b < 40 := by unfold lo; split <;> omega
theorem hi_rng {a b : Int} (ha : 0 ≤ a ∧ a < 40) (hb : 0 ≤ b ∧ b < 40) : 0 ≤ hi a b ∧ hi a b < 40 := by unfold hi; split <;> omega
theorem oth_1 (a b : Int) : oth a b a = b := by unfold oth; omega
theorem oth_2 (a b : Int) : oth a b b = a := by unfold oth; omega

theorem plain_rt {k : Int} {l : List Int} (h1 : arity k ≠ 0) (h2 : l.length = arity k) (h9 : k ≠ 9) (h3 : ∀ a ∈ l, 0 ≤ a ∧ a < 40) : (Fct.mk k l false [] []).Rt := by
  have hl : l.length ≤ 8 := by
    rw [h2]; unfold arity; split
    · omega
    · split
      · omega
      · split
        · omega
        · split <;> omega
  refine Fct.Rt.of (plain_mild k l (by omega)) h1 h2 h3 ?_
  rw [if_neg h9]
  exact ⟨rfl, rfl, rfl⟩

theorem normPairF_rt {k : Int} {p q : Int × Int} (hk : k = 2 ∨ k = 3 ∨ k = 4) (p1 : 0 ≤ p.1 ∧ p.1 < 40) (p2 : 0 ≤ p.2 ∧ p.2 < 40) (q1 : 0 ≤ q.1 ∧ q.1 < 40) (q2 : 0 ≤ q.2 ∧ q.2 < 40) : (normPairF k p q).Rt := by
  unfold normPairF
  split
  · refine plain_rt (by rcases hk with rfl | rfl | rfl <;> decide) (by rcases hk with rfl | rfl | rfl <;> rfl) (by omega) ?_
    simp [p1, p2, q1, q2]
  · refine plain_rt (by rcases hk with rfl | rfl | rfl <;> decide) (by rcases hk with rfl | rfl | rfl <;> rfl) (by omega) ?_
    simp [p1, p2, q1, q2]

/-- A normal form is right. -/
theorem normG_rt {f : Fct} (h : f.Rt) : (normG f).Rt := by
  obtain ⟨h1, h2, h3, h4⟩ := h.parts
  obtain ⟨la, ld, oa, od, ln⟩ := h.mild
  obtain ⟨k, l, n, m, d⟩ := f
  simp only at *
  unfold normG
  simp only
  by_cases h5 : k = 5
  · subst h5
    obtain ⟨a, b, c, rfl⟩ := list3 (by simpa [arity] using h2)
    simp only [if_true]
    refine plain_rt (by decide) rfl (by decide) ?_
    have a1 := lo_rng (h3 b (by simp)) (h3 c (by simp))
    have a2 := hi_rng (h3 b (by simp)) (h3 c (by simp))
    have a3 := h3 a (by simp)
    simp [a1, a2, a3]
  rw [if_neg h5]
  by_cases h6 : k = 2
  · subst h6
    obtain ⟨a, b, c, e, rfl⟩ := list4 (by simpa [arity] using h2)
    simp only [if_true]
    have a1 := lo_rng (h3 a (by simp)) (h3 b (by simp))
    have a2 := hi_rng (h3 a (by simp)) (h3 b (by simp))
    have a3 := lo_rng (h3 c (by simp)) (h3 e (by simp))
    have a4 := hi_rng (h3 c (by simp)) (h3 e (by simp))
    unfold normParF two
    simp only [oth_1, oth_2]
    generalize lo a b = x at *
    generalize hi a b = y at *
    generalize lo c e = z at *
    generalize hi c e = t at *
    have key : ∀ l : List Int, l.length = 3 → (∀ a ∈ l, 0 ≤ a ∧ a < 40) → (Fct.mk 1 (sortL l) false [] []).Rt := fun l hl hr => by
      refine plain_rt (by decide) (by rw [sortL_len, hl]; rfl) (by decide) fun a ha => hr a ?_
      exact (List.mergeSort_perm _ _).mem_iff.1 ha
    by_cases g1 : z = x ∨ t = x
    · rw [if_pos g1]
      refine key _ rfl ?_
      rcases g1 with rfl | rfl
      · simp [oth_1, a1, a2, a4]
      · simp [oth_2, a1, a2, a3]
    · rw [if_neg g1]
      by_cases g2 : z = y ∨ t = y
      · rw [if_pos g2]
        refine key _ rfl ?_
        rcases g2 with rfl | rfl
        · simp [oth_1, a1, a2, a4]
        · simp [oth_2, a1, a2, a3]
      · rw [if_neg g2]
        exact normPairF_rt (by omega) a1 a2 a3 a4
  rw [if_neg h6]
  by_cases h7 : k = 3 ∨ k = 4
  · obtain ⟨a, b, c, e, rfl⟩ := list4 (l := l) (by rcases h7 with rfl | rfl <;> simpa [arity] using h2)
    rw [if_pos h7]
    exact normPairF_rt (by omega) (lo_rng (h3 a (by simp)) (h3 b (by simp))) (hi_rng (h3 a (by simp)) (h3 b (by simp))) (lo_rng (h3 c (by simp)) (h3 e (by simp))) (hi_rng (h3 c (by simp)) (h3 e (by simp)))
  rw [if_neg h7]
  by_cases h8 : k = 9
  · subst h8
    obtain ⟨a, b, c, e, rfl⟩ := list4 (by simpa [arity] using h2)
    rw [if_pos rfl] at h4 ⊢
    simp only
    obtain ⟨e1, e2, d0, g, hn⟩ := ratOk_spec h4 oa od
    have a1 := lo_rng (h3 a (by simp)) (h3 b (by simp))
    have a2 := hi_rng (h3 a (by simp)) (h3 b (by simp))
    have a3 := lo_rng (h3 c (by simp)) (h3 e (by simp))
    have a4 := hi_rng (h3 c (by simp)) (h3 e (by simp))
    have lm : (limbs (val m)).length ≤ 2 := by rw [← e1]; exact la
    have le : (limbs (val d)).length ≤ 2 := by rw [← e2]; exact ld
    have r1 : ratOk n (limbs (val m)) (limbs (val d)) = true := by rw [← e1, ← e2]; exact h4
    have r2 : val m ≠ 0 → ratOk n (limbs (val d)) (limbs (val m)) = true := fun m0 => by
      unfold ratOk
      rw [lastOk_limbs, lastOk_limbs, val_limbs, val_limbs]
      have g' : Nat.gcd (val d) (val m) = 1 := by rw [Nat.gcd_comm]; exact g
      simp [limbs_nil, m0, d0, g']
    have key : ∀ (l : List Int) (A B : List Nat), l.length = 4 → (∀ a ∈ l, 0 ≤ a ∧ a < 40) → A.length ≤ 2 → B.length ≤ 2 → Ok A → Ok B → ratOk n A B = true → (Fct.mk 9 l n A B).Rt := fun l A B hl hr hA hB oA oB hR =>
      Fct.Rt.of ⟨hA, hB, oA, oB, by simp only; omega⟩ (by simp [arity]) hl hr (by rw [if_pos rfl]; exact hR)
    unfold normRatF two
    by_cases g1 : toZ n (val m) = val d
    · rw [if_pos g1]
      exact normPairF_rt (by omega) a1 a2 a3 a4
    rw [if_neg g1]
    by_cases g2 : val m ≠ 0 ∧ cmpP (lo c e, hi c e) (lo a b, hi a b) < 0
    · rw [if_pos g2]
      exact key _ _ _ rfl (by simp [a1, a2, a3, a4]) le lm (ok_limbs _) (ok_limbs _) (r2 g2.1)
    rw [if_neg g2]
    by_cases g3 : val m ≠ 0 ∧ (lo a b, hi a b) = (lo c e, hi c e) ∧ cmpZ (toZ n (val d) * (val d : Int)) (toZ n (val m) * (val m : Int)) < 0
    · rw [if_pos g3]
      exact key _ _ _ rfl (by simp [a1, a2, a3, a4]) le lm (ok_limbs _) (ok_limbs _) (r2 g3.1)
    · rw [if_neg g3]
      exact key _ _ _ rfl (by simp [a1, a2, a3, a4]) lm le (ok_limbs _) (ok_limbs _) r1
  rw [if_neg h8]
  by_cases h9 : k = 7
  · subst h9
    obtain ⟨a, b, c, e, a', b', c', e', rfl⟩ := list8 (by simpa [arity] using h2)
    rw [if_pos rfl]
    simp only
    have a1 := lo_rng (h3 a (by simp)) (h3 b (by simp))
    have a2 := hi_rng (h3 a (by simp)) (h3 b (by simp))
    have a3 := lo_rng (h3 c (by simp)) (h3 e (by simp))
    have a4 := hi_rng (h3 c (by simp)) (h3 e (by simp))
    have b1 := lo_rng (h3 a' (by simp)) (h3 b' (by simp))
    have b2 := hi_rng (h3 a' (by simp)) (h3 b' (by simp))
    have b3 := lo_rng (h3 c' (by simp)) (h3 e' (by simp))
    have b4 := hi_rng (h3 c' (by simp)) (h3 e' (by simp))
    have s1 : ∀ p q : Int × Int, srt2 p q = (p, q) ∨ srt2 p q = (q, p) := fun p q => by unfold srt2; split <;> simp
    unfold normAngF two
    rcases s1 (lo a b, hi a b) (lo c' e', hi c' e') with x1 | x1 <;> rcases s1 (lo c e, hi c e) (lo a' b', hi a' b') with x2 | x2 <;> rw [x1, x2] <;> split <;> exact plain_rt (by decide) rfl (by decide) (by simp [a1, a2, a3, a4, b1, b2, b3, b4])
  · rw [if_neg h9]
    rw [if_neg h8] at h4
    refine plain_rt h1 (by rw [sortL_len, h2]) h8 fun a ha => h3 a ((List.mergeSort_perm _ _).mem_iff.1 ha)

/-- Are two facts right and equivalent? -/
def sameF (f g : Fct) : Bool := okF f && (okF g && decide (cmpF (normG f) (normG g) = 0))

end Go.Va
