/-
  Contracts: the document's facts (geoproverref37): comparing.
-/
import Derived.Test.YtkfdniccmcolgaaGreatWj
set_option linter.all false

namespace Go.Va
open Go.Proofs
set_option maxHeartbeats 4000000
set_option maxRecDepth 10000
set_option linter.unusedSimpArgs false
set_option linter.unusedVariables false

theorem order_c (a b : Int) : CallsF Tryz.prog 88 [.c (.int .i64 a), .c (.int .i64 b)] (.u (.c (.d (.int .i64 (cmpZ a b))))) := by
  refine callsF_of (T := tb) tab_ok mixed Tryz.func88 rfl (by decide) (Nat.le_of_ble_eq_true rfl) rfl ?_; unfold St.init
  unfold cmpZ
  by_cases h : a < b
  · simp (maxSteps := 2000000) -implicitDefEqProofs [-List.map_set, Ja, -Int.natCast_add, -Int.natCast_mul, -Int.natCast_emod, -Int.natCast_ediv, -Int.natCast_pow, Jb, Jc, Jd, Je, Jf, Jg, Jh, Ji, Jj, Jk, Jl, Jm, Jn, Jo, Jp, Jq, Jr, Js, Jt, Ju, Jv, Jw, Jx, Jy, Jz, h]
  · by_cases h2 : b < a
    · simp (maxSteps := 2000000) -implicitDefEqProofs [-List.map_set, Ja, -Int.natCast_add, -Int.natCast_mul, -Int.natCast_emod, -Int.natCast_ediv, -Int.natCast_pow, Jb, Jc, Jd, Je, Jf, Jg, Jh, Ji, Jj, Jk, Jl, Jm, Jn, Jo, Jp, Jq, Jr, Js, Jt, Ju, Jv, Jw, Jx, Jy, Jz, h, h2]
    · simp (maxSteps := 2000000) -implicitDefEqProofs [-List.map_set, Ja, -Int.natCast_add, -Int.natCast_mul, -Int.natCast_emod, -Int.natCast_ediv, -Int.natCast_pow, Jb, Jc, Jd, Je, Jf, Jg, Jh, Ji, Jj, Jk, Jl, Jm, Jn, Jo, Jp, Jq, Jr, Js, Jt, Ju, Jv, Jw, Jx, Jy, Jz, h, h2]

/-- Is the ratio valid, where it counts? -/
def Fct.Val (f : Fct) : Prop := f.kind = 9 → ratOk f.neg f.abs f.den = true
theorem Fct.Val.num {f : Fct} (h : f.Val) (hm : f.Mild) : f.Num := fun h9 => (ratOk_spec (h h9) hm.oa hm.od).2.2.1
theorem Fct.Rt.val {f : Fct} (h : f.Rt) : f.Val := fun h9 => by
  have := h.parts.2.2.2
  rwa [if_pos h9] at this

theorem lexI_len {x y : List Int} {i : Nat} (hx : i ≤ x.length) (hy : i ≤ y.length) (h : i = x.length ∨ i = y.length) : lexI (x.drop i) (y.drop i) = cmpZ x.length y.length := by
  unfold cmpZ
  rcases h with h | h
  · subst h
    rw [List.drop_length, lexI_nil, List.length_drop]
    by_cases h2 : x.length < y.length
    · rw [if_pos (by omega), if_pos (by omega)]
    · rw [if_neg (by omega), if_neg (by omega), if_neg (by omega)]
  · subst h
    by_cases h2 : y.length < x.length
    · rw [if_neg (by omega), if_pos (by omega), List.drop_eq_getElem_cons h2, List.drop_length]
      rfl
    · rw [if_neg (by omega), if_neg (by omega), List.drop_length, List.drop_of_length_le (by omega)]
      rfl

theorem refCmpF_c (f g : Fct) (hf : f.Mild) (hg : g.Mild) (nf : f.Val) (ng : g.Val) : CallsF Tryz.prog 43 [.agg f.ds, .agg g.ds] (.u (.c (.d (.int .i64 (cmpF f g))))) := by
  have z := cmpK_zero (a := f) (b := g)
  have e1 := cmpK_eq f g
  have e2 := cmpZ_zero f.kind g.kind
  have e3 := lexI_eq f.args g.args
  rw [cmpF_eq]
  obtain ⟨k, a, n, m, d⟩ := f
  obtain ⟨k', a', n', m', d'⟩ := g
  obtain ⟨la, ld, oa, od, ln⟩ := hf
  obtain ⟨la', ld', oa', od', ln'⟩ := hg
  simp only [Fct.Val, Fct.ds, cmpR] at *
  generalize cmpK ⟨k, a, n, m, d⟩ ⟨k', a', n', m', d'⟩ = c at *
  refine callsF_of (T := tb) tab_ok mixed Tryz.func43 rfl (by decide) (Nat.le_of_ble_eq_true rfl) rfl ?_; unfold St.init
  by_cases hk : k = k'
  · rw [if_neg (by simp [e2.2 hk])] at e1
    subst e1
    simp (maxSteps := 2000000) -implicitDefEqProofs [-List.map_set, Ja, -Int.natCast_add, -Int.natCast_mul, -Int.natCast_emod, -Int.natCast_ediv, -Int.natCast_pow, Jb, Jc, Jd, Je, Jf, Jg, Jh, Ji, Jj, Jk, Jl, Jm, Jn, Jo, Jp, Jq, Jr, Js, Jt, Ju, Jv, Jw, Jx, Jy, Jz, hk]
    refine wpLoop_of (fun i : Nat => ⟨[(5, vI .i64 i), (2, vC (.ptr 2 0)), (3, vC (.ptr 3 0))], [(3, .box [.d (.int .i64 k'), .d (intsD a'), .d (.bool n'), .d (natD m'), .d (natD d')]), (2, .box [.d (.int .i64 k), .d (intsD a), .d (.bool n), .d (natD m), .d (natD d)])]⟩)
      (fun i => i ≤ a.length ∧ i ≤ a'.length ∧ lexI (a.drop i) (a'.drop i) = lexI a a') (fun i => a.length - i) 0 (by simp [hk]) ⟨by omega, by omega, rfl⟩ ?_
    rintro i ⟨h1, h2, h3⟩
    by_cases h : i < a.length
    · by_cases h' : i < a'.length
      · have e4 := lexI_drop h h'
        have e5 := cmpZ_zero a[i] a'[i]
        have o := order_c a[i] a'[i]
        by_cases h0 : a[i] = a'[i]
        · rw [if_pos (e5.2 h0)] at e4
          simp (maxSteps := 2000000) -implicitDefEqProofs [-List.map_set, Ja, -Int.natCast_add, -Int.natCast_mul, -Int.natCast_emod, -Int.natCast_ediv, -Int.natCast_pow, Jb, Jc, Jd, Je, Jf, Jg, Jh, Ji, Jj, Jk, Jl, Jm, Jn, Jo, Jp, Jq, Jr, Js, Jt, Ju, Jv, Jw, Jx, Jy, Jz, h, h']
          refine wpDraw_by [[], [0], [], [0, 1, 2], [0, 1, 2, 3], [], [5], [], [5, 6, 7], [5, 6, 7, 8], [0, 1, 2, 3, 4, 5, 6, 7, 8, 9]] [.any [] [] [⟨0, [2], [], [], []⟩, ⟨0, [30], [], [], []⟩, ⟨0, [5], [], [], []⟩, ⟨0, [31, 32], [], [], []⟩, ⟨0, [33], [], [], []⟩, ⟨0, [3], [], [], []⟩, ⟨0, [35], [], [], []⟩, ⟨0, [5], [], [], []⟩, ⟨0, [36, 37], [], [], []⟩, ⟨0, [38], [], [], []⟩], .one] (by rfl) ?_
          simp (maxSteps := 2000000) -implicitDefEqProofs [-List.map_set, Ja, -Int.natCast_add, -Int.natCast_mul, -Int.natCast_emod, -Int.natCast_ediv, -Int.natCast_pow, Jb, Jc, Jd, Je, Jf, Jg, Jh, Ji, Jj, Jk, Jl, Jm, Jn, Jo, Jp, Jq, Jr, Js, Jt, Ju, Jv, Jw, Jx, Jy, Jz, h, h', i64, h0]
          exact ⟨by omega, ⟨by omega, by omega, by rw [← e4, h3]⟩, by omega⟩
        · have h5 : cmpZ a[i] a'[i] ≠ 0 := fun q => h0 (e5.1 q)
          rw [if_neg h5, h3] at e4
          simp (maxSteps := 2000000) -implicitDefEqProofs [-List.map_set, Ja, -Int.natCast_add, -Int.natCast_mul, -Int.natCast_emod, -Int.natCast_ediv, -Int.natCast_pow, Jb, Jc, Jd, Je, Jf, Jg, Jh, Ji, Jj, Jk, Jl, Jm, Jn, Jo, Jp, Jq, Jr, Js, Jt, Ju, Jv, Jw, Jx, Jy, Jz, h, h']
          refine wpDraw_by [[], [0], [], [0, 1, 2], [0, 1, 2, 3], [], [5], [], [5, 6, 7], [5, 6, 7, 8], [0, 1, 2, 3, 4, 5, 6, 7, 8, 9]] [.any [] [] [⟨0, [2], [], [], []⟩, ⟨0, [30], [], [], []⟩, ⟨0, [5], [], [], []⟩, ⟨0, [31, 32], [], [], []⟩, ⟨0, [33], [], [], []⟩, ⟨0, [3], [], [], []⟩, ⟨0, [35], [], [], []⟩, ⟨0, [5], [], [], []⟩, ⟨0, [36, 37], [], [], []⟩, ⟨0, [38], [], [], []⟩], .one] (by rfl) ?_
          simp (maxSteps := 2000000) -implicitDefEqProofs [-List.map_set, Ja, -Int.natCast_add, -Int.natCast_mul, -Int.natCast_emod, -Int.natCast_ediv, -Int.natCast_pow, Jb, Jc, Jd, Je, Jf, Jg, Jh, Ji, Jj, Jk, Jl, Jm, Jn, Jo, Jp, Jq, Jr, Js, Jt, Ju, Jv, Jw, Jx, Jy, Jz, h, h', i64, h0]
          refine wpDraw_by [[], [0], [], [0, 1, 2], [0, 1, 2, 3], [], [5], [], [5, 6, 7], [5, 6, 7, 8], [0, 1, 2, 3, 4, 5, 6, 7, 8, 9], [0, 1, 2, 3, 4, 5, 6, 7, 8, 9, 10]] [.any [] [] [⟨0, [2], [], [], []⟩, ⟨0, [41], [], [], []⟩, ⟨0, [5], [], [], []⟩, ⟨0, [42, 43], [], [], []⟩, ⟨0, [44], [], [], []⟩, ⟨0, [3], [], [], []⟩, ⟨0, [46], [], [], []⟩, ⟨0, [5], [], [], []⟩, ⟨0, [47, 48], [], [], []⟩, ⟨0, [49], [], [], []⟩], .one, .one] (by rfl) ?_
          simp (maxSteps := 2000000) -implicitDefEqProofs [-List.map_set, Ja, -Int.natCast_add, -Int.natCast_mul, -Int.natCast_emod, -Int.natCast_ediv, -Int.natCast_pow, Jb, Jc, Jd, Je, Jf, Jg, Jh, Ji, Jj, Jk, Jl, Jm, Jn, Jo, Jp, Jq, Jr, Js, Jt, Ju, Jv, Jw, Jx, Jy, Jz, h, h', i64, h0]
          (first | refine .inl ⟨_, o, ?_⟩ | refine ⟨_, o, ?_⟩)
          simp (maxSteps := 2000000) -implicitDefEqProofs [-List.map_set, Ja, -Int.natCast_add, -Int.natCast_mul, -Int.natCast_emod, -Int.natCast_ediv, -Int.natCast_pow, Jb, Jc, Jd, Je, Jf, Jg, Jh, Ji, Jj, Jk, Jl, Jm, Jn, Jo, Jp, Jq, Jr, Js, Jt, Ju, Jv, Jw, Jx, Jy, Jz, e4, h5]
      · have e4 := lexI_len h1 h2 (.inr (by omega))
        rw [h3] at e4
        have o := order_c a.length a'.length
        have hn : ¬ a.length = a'.length := by omega
        have h5 : cmpZ (a.length : Int) a'.length ≠ 0 := fun q => hn (by have := (cmpZ_zero _ _).1 q; omega)
        simp (maxSteps := 2000000) -implicitDefEqProofs [-List.map_set, Ja, -Int.natCast_add, -Int.natCast_mul, -Int.natCast_emod, -Int.natCast_ediv, -Int.natCast_pow, Jb, Jc, Jd, Je, Jf, Jg, Jh, Ji, Jj, Jk, Jl, Jm, Jn, Jo, Jp, Jq, Jr, Js, Jt, Ju, Jv, Jw, Jx, Jy, Jz, h, h', hn]
        (first | refine .inl ⟨_, o, ?_⟩ | refine ⟨_, o, ?_⟩)
        simp (maxSteps := 2000000) -implicitDefEqProofs [-List.map_set, Ja, -Int.natCast_add, -Int.natCast_mul, -Int.natCast_emod, -Int.natCast_ediv, -Int.natCast_pow, Jb, Jc, Jd, Je, Jf, Jg, Jh, Ji, Jj, Jk, Jl, Jm, Jn, Jo, Jp, Jq, Jr, Js, Jt, Ju, Jv, Jw, Jx, Jy, Jz, e4, h5]
    · have e4 := lexI_len h1 h2 (.inl (by omega))
      rw [h3] at e4
      by_cases hn : a.length = a'.length
      · have h5 : cmpZ (a.length : Int) a'.length = 0 := (cmpZ_zero _ _).2 (by omega)
        rw [h5] at e4
        have h'' : ¬ i < a'.length := by omega
        by_cases h9 : k = 9
        · have h9' : k' = 9 := by omega
          obtain ⟨p1, p2, p3, p4, p5⟩ := ratOk_spec (nf h9) oa od
          obtain ⟨q1, q2, q3, q4, q5⟩ := ratOk_spec (ng h9') oa' od'
          have l1 := oa.lt32 la
          have l2 := od.lt32 ld
          have l3 := oa'.lt32 la'
          have l4 := od'.lt32 ld'
          have r := refRatCmp_c n n' (val m) (val d) (val m') (val d') (by omega) (by omega) p3 p4 (by omega) (by omega) q3 q4
          rw [← p1, ← p2, ← q1, ← q2] at r
          simp (maxSteps := 2000000) -implicitDefEqProofs [-List.map_set, Ja, -Int.natCast_add, -Int.natCast_mul, -Int.natCast_emod, -Int.natCast_ediv, -Int.natCast_pow, Jb, Jc, Jd, Je, Jf, Jg, Jh, Ji, Jj, Jk, Jl, Jm, Jn, Jo, Jp, Jq, Jr, Js, Jt, Ju, Jv, Jw, Jx, Jy, Jz, h, h'', hn, h9, h9']
          (first | refine .inl ⟨_, r, ?_⟩ | refine ⟨_, r, ?_⟩)
          simp (maxSteps := 2000000) -implicitDefEqProofs [-List.map_set, Ja, -Int.natCast_add, -Int.natCast_mul, -Int.natCast_emod, -Int.natCast_ediv, -Int.natCast_pow, Jb, Jc, Jd, Je, Jf, Jg, Jh, Ji, Jj, Jk, Jl, Jm, Jn, Jo, Jp, Jq, Jr, Js, Jt, Ju, Jv, Jw, Jx, Jy, Jz, e4, h9]
        · have h9' : ¬ k' = 9 := by omega
          simp (maxSteps := 2000000) -implicitDefEqProofs [-List.map_set, Ja, -Int.natCast_add, -Int.natCast_mul, -Int.natCast_emod, -Int.natCast_ediv, -Int.natCast_pow, Jb, Jc, Jd, Je, Jf, Jg, Jh, Ji, Jj, Jk, Jl, Jm, Jn, Jo, Jp, Jq, Jr, Js, Jt, Ju, Jv, Jw, Jx, Jy, Jz, h, h'', hn, h9, h9', e4, hk]
      · have o := order_c a.length a'.length
        have h5 : cmpZ (a.length : Int) a'.length ≠ 0 := fun q => hn (by have := (cmpZ_zero _ _).1 q; omega)
        simp (maxSteps := 2000000) -implicitDefEqProofs [-List.map_set, Ja, -Int.natCast_add, -Int.natCast_mul, -Int.natCast_emod, -Int.natCast_ediv, -Int.natCast_pow, Jb, Jc, Jd, Je, Jf, Jg, Jh, Ji, Jj, Jk, Jl, Jm, Jn, Jo, Jp, Jq, Jr, Js, Jt, Ju, Jv, Jw, Jx, Jy, Jz, h, hn]
        (first | refine .inl ⟨_, o, ?_⟩ | refine ⟨_, o, ?_⟩)
        simp (maxSteps := 2000000) -implicitDefEqProofs [-List.map_set, Ja, -Int.natCast_add, -Int.natCast_mul, -Int.natCast_emod, -Int.natCast_ediv, -Int.natCast_pow, Jb, Jc, Jd, Je, Jf, Jg, Jh, Ji, Jj, Jk, Jl, Jm, Jn, Jo, Jp, Jq, Jr, Js, Jt, Ju, Jv, Jw, Jx, Jy, Jz, e4, h5]
  · have hz : cmpZ k k' ≠ 0 := fun q => hk (e2.1 q)
    rw [if_pos hz] at e1
    subst e1
    have o := order_c k k'
    simp (maxSteps := 2000000) -implicitDefEqProofs [-List.map_set, Ja, -Int.natCast_add, -Int.natCast_mul, -Int.natCast_emod, -Int.natCast_ediv, -Int.natCast_pow, Jb, Jc, Jd, Je, Jf, Jg, Jh, Ji, Jj, Jk, Jl, Jm, Jn, Jo, Jp, Jq, Jr, Js, Jt, Ju, Jv, Jw, Jx, Jy, Jz, hk]
    (first | refine .inl ⟨_, o, ?_⟩ | refine ⟨_, o, ?_⟩)
    simp (maxSteps := 2000000) -implicitDefEqProofs [-List.map_set, Ja, -Int.natCast_add, -Int.natCast_mul, -Int.natCast_emod, -Int.natCast_ediv, -Int.natCast_pow, Jb, Jc, Jd, Je, Jf, Jg, Jh, Ji, Jj, Jk, Jl, Jm, Jn, Jo, Jp, Jq, Jr, Js, Jt, Ju, Jv, Jw, Jx, Jy, Jz, hz]

theorem refEqualF_c (f g : Fct) (hf : f.Mild) (hg : g.Mild) (nf : f.Val) (ng : g.Val) : CallsF Tryz.prog 26 [.agg f.ds, .agg g.ds] (.u (.c (.d (.bool (decide (cmpF f g = 0)))))) := by
  have k := refCmpF_c f g hf hg nf ng
  clear hf hg nf ng
  simp only [Fct.ds] at *
  refine callsF_of (T := tb) tab_ok mixed Tryz.func26 rfl (by decide) (Nat.le_of_ble_eq_true rfl) rfl ?_; unfold St.init
  simp (maxSteps := 2000000) -implicitDefEqProofs [-List.map_set, Ja, -Int.natCast_add, -Int.natCast_mul, -Int.natCast_emod, -Int.natCast_ediv, -Int.natCast_pow, Jb, Jc, Jd, Je, Jf, Jg, Jh, Ji, Jj, Jk, Jl, Jm, Jn, Jo, Jp, Jq, Jr, Js, Jt, Ju, Jv, Jw, Jx, Jy, Jz]
  (first | refine .inl ⟨_, k, ?_⟩ | refine ⟨_, k, ?_⟩)
  simp (maxSteps := 2000000) -implicitDefEqProofs [-List.map_set, Ja, -Int.natCast_add, -Int.natCast_mul, -Int.natCast_emod, -Int.natCast_ediv, -Int.natCast_pow, Jb, Jc, Jd, Je, Jf, Jg, Jh, Ji, Jj, Jk, Jl, Jm, Jn, Jo, Jp, Jq, Jr, Js, Jt, Ju, Jv, Jw, Jx, Jy, Jz]

end Go.Va
