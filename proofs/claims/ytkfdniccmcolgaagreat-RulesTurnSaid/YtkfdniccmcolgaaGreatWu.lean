/-
  Contracts: lists of facts and of guards held against each other; which premises are mild.
-/
import Derived.Test.YtkfdniccmcolgaaGreatWr
set_option linter.all false

namespace Go.Va
open Go.Proofs
set_option maxHeartbeats 4000000
set_option maxRecDepth 10000
set_option linter.unusedSimpArgs false
set_option linter.unusedVariables false

/-- The document's order of lists of numbers. -/
def cmpLL : List Int → List Int → Int
  | [], b => 0 - (b.length : Int)
  | a :: x, [] => ((a :: x).length : Int)
  | a :: x, b :: y => if a < b then -1 else if b < a then 1 else cmpLL x y
theorem cmpLL_step {a b : List Int} {i : Nat} (ha : i < a.length) (hb : i < b.length) : cmpLL (a.drop i) (b.drop i) = if a[i] < b[i] then -1 else if b[i] < a[i] then 1 else cmpLL (a.drop (i + 1)) (b.drop (i + 1)) := by
  rw [List.drop_eq_getElem_cons ha, List.drop_eq_getElem_cons hb, cmpLL]
theorem cmpLL_end {a b : List Int} {i : Nat} (ha : i ≤ a.length) (hb : i ≤ b.length) (h : i = a.length ∨ i = b.length) : cmpLL (a.drop i) (b.drop i) = (a.length : Int) - b.length := by
  rcases Nat.lt_or_ge i a.length with h1 | h1
  · have h2 : i = b.length := by omega
    rw [List.drop_of_length_le (by omega : b.length ≤ i)]
    have hl : (a.drop i).length = a.length - i := List.length_drop
    cases hd : a.drop i with
    | nil => rw [hd] at hl; simp at hl; omega
    | cons x l => rw [cmpLL, ← hd, hl]; omega
  · rw [List.drop_of_length_le h1, cmpLL, List.length_drop]; omega
theorem cmpLL_zero : ∀ a b : List Int, cmpLL a b = 0 ↔ a = b
  | [], [] => by simp [cmpLL]
  | [], b :: y => by simp [cmpLL]; omega
  | a :: x, [] => by simp [cmpLL]; omega
  | a :: x, b :: y => by
    have := cmpLL_zero x y
    rw [cmpLL]
    split
    · simp; omega
    · split
      · simp; omega
      · rw [this]; simp; omega

theorem cmp38_c (a b : List Int) (ha : a.length ≤ 1000000) (hb : b.length ≤ 1000000) : CallsF Tryz.prog 68 [.c (intsD a), .c (intsD b)] (.u (.c (.d (.int .i64 (cmpLL a b))))) := by
  refine callsF_of (T := tb) tab_ok mixed Tryz.func68 rfl (by decide) (Nat.le_of_ble_eq_true rfl) rfl ?_; unfold St.init
  simp (maxSteps := 2000000) -implicitDefEqProofs [-List.map_set, Ja, -Int.natCast_add, -Int.natCast_mul, -Int.natCast_emod, -Int.natCast_ediv, -Int.natCast_pow, Jb, Jc, Jd, Je, Jf, Jg, Jh, Ji, Jj, Jk, Jl, Jm, Jn, Jo, Jp, Jq, Jr, Js, Jt, Ju, Jv, Jw, Jx, Jy, Jz]
  refine wpLoop_of (fun i : Nat => ⟨[(5, vI .i64 i), (0, vC (.d (intsD a))), (1, vC (.d (intsD b)))], []⟩) (fun i => i ≤ a.length ∧ i ≤ b.length ∧ cmpLL (a.drop i) (b.drop i) = cmpLL a b) (fun i => a.length - i) 0 (by simp [leL, lk, St.le, vI, vC]) ⟨by omega, by omega, rfl⟩ ?_
  rintro i ⟨h1, h2, h3⟩
  by_cases hA : i < a.length
  · by_cases hB : i < b.length
    · rw [cmpLL_step hA hB] at h3
      by_cases c1 : a[i] < b[i]
      · rw [if_pos c1] at h3
        rw [← h3]
        simp (maxSteps := 2000000) -implicitDefEqProofs [-List.map_set, Ja, -Int.natCast_add, -Int.natCast_mul, -Int.natCast_emod, -Int.natCast_ediv, -Int.natCast_pow, Jb, Jc, Jd, Je, Jf, Jg, Jh, Ji, Jj, Jk, Jl, Jm, Jn, Jo, Jp, Jq, Jr, Js, Jt, Ju, Jv, Jw, Jx, Jy, Jz, hA, hB]
        refine wpDraw_by [[], [], [0, 1], [0, 1, 2], [], [], [4, 5], [4, 5, 6], [0, 1, 2, 3, 4, 5, 6, 7]] [.any [] [] [⟨0, [0], [], [], []⟩, ⟨0, [5], [], [], []⟩, ⟨0, [18, 19], [], [], []⟩, ⟨0, [20], [], [], []⟩, ⟨0, [1], [], [], []⟩, ⟨0, [5], [], [], []⟩, ⟨0, [22, 23], [], [], []⟩, ⟨0, [24], [], [], []⟩], .one] (by rfl) ?_
        simp (maxSteps := 2000000) -implicitDefEqProofs [-List.map_set, Ja, -Int.natCast_add, -Int.natCast_mul, -Int.natCast_emod, -Int.natCast_ediv, -Int.natCast_pow, Jb, Jc, Jd, Je, Jf, Jg, Jh, Ji, Jj, Jk, Jl, Jm, Jn, Jo, Jp, Jq, Jr, Js, Jt, Ju, Jv, Jw, Jx, Jy, Jz, hA, hB, c1, i64]
      · rw [if_neg c1] at h3
        by_cases c2 : b[i] < a[i]
        · rw [if_pos c2] at h3
          rw [← h3]
          simp (maxSteps := 2000000) -implicitDefEqProofs [-List.map_set, Ja, -Int.natCast_add, -Int.natCast_mul, -Int.natCast_emod, -Int.natCast_ediv, -Int.natCast_pow, Jb, Jc, Jd, Je, Jf, Jg, Jh, Ji, Jj, Jk, Jl, Jm, Jn, Jo, Jp, Jq, Jr, Js, Jt, Ju, Jv, Jw, Jx, Jy, Jz, hA, hB]
          refine wpDraw_by [[], [], [0, 1], [0, 1, 2], [], [], [4, 5], [4, 5, 6], [0, 1, 2, 3, 4, 5, 6, 7]] [.any [] [] [⟨0, [0], [], [], []⟩, ⟨0, [5], [], [], []⟩, ⟨0, [18, 19], [], [], []⟩, ⟨0, [20], [], [], []⟩, ⟨0, [1], [], [], []⟩, ⟨0, [5], [], [], []⟩, ⟨0, [22, 23], [], [], []⟩, ⟨0, [24], [], [], []⟩], .one] (by rfl) ?_
          simp (maxSteps := 2000000) -implicitDefEqProofs [-List.map_set, Ja, -Int.natCast_add, -Int.natCast_mul, -Int.natCast_emod, -Int.natCast_ediv, -Int.natCast_pow, Jb, Jc, Jd, Je, Jf, Jg, Jh, Ji, Jj, Jk, Jl, Jm, Jn, Jo, Jp, Jq, Jr, Js, Jt, Ju, Jv, Jw, Jx, Jy, Jz, hA, hB, c1, i64]
          refine wpDraw_by [[], [], [0, 1], [0, 1, 2], [], [], [4, 5], [4, 5, 6], [0, 1, 2, 3, 4, 5, 6, 7]] [.any [] [] [⟨0, [0], [], [], []⟩, ⟨0, [5], [], [], []⟩, ⟨0, [27, 28], [], [], []⟩, ⟨0, [29], [], [], []⟩, ⟨0, [1], [], [], []⟩, ⟨0, [5], [], [], []⟩, ⟨0, [31, 32], [], [], []⟩, ⟨0, [33], [], [], []⟩], .one] (by rfl) ?_
          simp (maxSteps := 2000000) -implicitDefEqProofs [-List.map_set, Ja, -Int.natCast_add, -Int.natCast_mul, -Int.natCast_emod, -Int.natCast_ediv, -Int.natCast_pow, Jb, Jc, Jd, Je, Jf, Jg, Jh, Ji, Jj, Jk, Jl, Jm, Jn, Jo, Jp, Jq, Jr, Js, Jt, Ju, Jv, Jw, Jx, Jy, Jz, hA, hB, c2, i64]
        · rw [if_neg c2] at h3
          simp (maxSteps := 2000000) -implicitDefEqProofs [-List.map_set, Ja, -Int.natCast_add, -Int.natCast_mul, -Int.natCast_emod, -Int.natCast_ediv, -Int.natCast_pow, Jb, Jc, Jd, Je, Jf, Jg, Jh, Ji, Jj, Jk, Jl, Jm, Jn, Jo, Jp, Jq, Jr, Js, Jt, Ju, Jv, Jw, Jx, Jy, Jz, hA, hB]
          refine wpDraw_by [[], [], [0, 1], [0, 1, 2], [], [], [4, 5], [4, 5, 6], [0, 1, 2, 3, 4, 5, 6, 7]] [.any [] [] [⟨0, [0], [], [], []⟩, ⟨0, [5], [], [], []⟩, ⟨0, [18, 19], [], [], []⟩, ⟨0, [20], [], [], []⟩, ⟨0, [1], [], [], []⟩, ⟨0, [5], [], [], []⟩, ⟨0, [22, 23], [], [], []⟩, ⟨0, [24], [], [], []⟩], .one] (by rfl) ?_
          simp (maxSteps := 2000000) -implicitDefEqProofs [-List.map_set, Ja, -Int.natCast_add, -Int.natCast_mul, -Int.natCast_emod, -Int.natCast_ediv, -Int.natCast_pow, Jb, Jc, Jd, Je, Jf, Jg, Jh, Ji, Jj, Jk, Jl, Jm, Jn, Jo, Jp, Jq, Jr, Js, Jt, Ju, Jv, Jw, Jx, Jy, Jz, hA, hB, c1, i64]
          refine wpDraw_by [[], [], [0, 1], [0, 1, 2], [], [], [4, 5], [4, 5, 6], [0, 1, 2, 3, 4, 5, 6, 7]] [.any [] [] [⟨0, [0], [], [], []⟩, ⟨0, [5], [], [], []⟩, ⟨0, [27, 28], [], [], []⟩, ⟨0, [29], [], [], []⟩, ⟨0, [1], [], [], []⟩, ⟨0, [5], [], [], []⟩, ⟨0, [31, 32], [], [], []⟩, ⟨0, [33], [], [], []⟩], .one] (by rfl) ?_
          simp (maxSteps := 2000000) -implicitDefEqProofs [-List.map_set, Ja, -Int.natCast_add, -Int.natCast_mul, -Int.natCast_emod, -Int.natCast_ediv, -Int.natCast_pow, Jb, Jc, Jd, Je, Jf, Jg, Jh, Ji, Jj, Jk, Jl, Jm, Jn, Jo, Jp, Jq, Jr, Js, Jt, Ju, Jv, Jw, Jx, Jy, Jz, hA, hB, c2, i64]
          exact ⟨by omega, ⟨by omega, by omega, h3⟩, by omega⟩
    · rw [cmpLL_end h1 h2 (by omega)] at h3
      simp (maxSteps := 2000000) -implicitDefEqProofs [-List.map_set, Ja, -Int.natCast_add, -Int.natCast_mul, -Int.natCast_emod, -Int.natCast_ediv, -Int.natCast_pow, Jb, Jc, Jd, Je, Jf, Jg, Jh, Ji, Jj, Jk, Jl, Jm, Jn, Jo, Jp, Jq, Jr, Js, Jt, Ju, Jv, Jw, Jx, Jy, Jz, hA, hB]
      omega
  · rw [cmpLL_end h1 h2 (by omega)] at h3
    simp (maxSteps := 2000000) -implicitDefEqProofs [-List.map_set, Ja, -Int.natCast_add, -Int.natCast_mul, -Int.natCast_emod, -Int.natCast_ediv, -Int.natCast_pow, Jb, Jc, Jd, Je, Jf, Jg, Jh, Ji, Jj, Jk, Jl, Jm, Jn, Jo, Jp, Jq, Jr, Js, Jt, Ju, Jv, Jw, Jx, Jy, Jz, hA]
    omega

/-- The document's order of guards. -/
def cmpGd (a b : Grd) : Int := if a.kind ≠ b.kind then a.kind - b.kind else cmpLL a.args b.args
theorem cmpGd_zero {a b : Grd} : cmpGd a b = 0 ↔ a = b := by
  unfold cmpGd
  obtain ⟨k, l⟩ := a
  obtain ⟨k', l'⟩ := b
  simp only [Grd.mk.injEq]
  by_cases h : k = k'
  · rw [if_neg (by simp [h]), cmpLL_zero]; simp [h]
  · rw [if_pos h]
    constructor
    · intro h2; omega
    · intro h2; exact absurd h2.1 h
theorem cmpGuard_c (a b : Grd) (ha : a.Short) (hb : b.Short) (hk : a.kind = b.kind ∨ (-1000 ≤ a.kind ∧ a.kind ≤ 1000 ∧ -1000 ≤ b.kind ∧ b.kind ≤ 1000)) : CallsF Tryz.prog 33 [.agg a.ds, .agg b.ds] (.u (.c (.d (.int .i64 (cmpGd a b))))) := by
  have k := cmp38_c a.args b.args ha hb
  unfold cmpGd
  simp only [Grd.ds]
  generalize cmpLL a.args b.args = r at *
  refine callsF_of (T := tb) tab_ok mixed Tryz.func33 rfl (by decide) (Nat.le_of_ble_eq_true rfl) rfl ?_; unfold St.init
  by_cases h : a.kind = b.kind
  · simp (maxSteps := 2000000) -implicitDefEqProofs [-List.map_set, Ja, -Int.natCast_add, -Int.natCast_mul, -Int.natCast_emod, -Int.natCast_ediv, -Int.natCast_pow, Jb, Jc, Jd, Je, Jf, Jg, Jh, Ji, Jj, Jk, Jl, Jm, Jn, Jo, Jp, Jq, Jr, Js, Jt, Ju, Jv, Jw, Jx, Jy, Jz, h]
    (first | refine .inl ⟨_, k, ?_⟩ | refine ⟨_, k, ?_⟩)
    simp (maxSteps := 2000000) -implicitDefEqProofs [-List.map_set, Ja, -Int.natCast_add, -Int.natCast_mul, -Int.natCast_emod, -Int.natCast_ediv, -Int.natCast_pow, Jb, Jc, Jd, Je, Jf, Jg, Jh, Ji, Jj, Jk, Jl, Jm, Jn, Jo, Jp, Jq, Jr, Js, Jt, Ju, Jv, Jw, Jx, Jy, Jz]
  · have hk : -1000 ≤ a.kind ∧ a.kind ≤ 1000 ∧ -1000 ≤ b.kind ∧ b.kind ≤ 1000 := by rcases hk with hk | hk; exact absurd hk h; exact hk
    simp (maxSteps := 2000000) -implicitDefEqProofs [-List.map_set, Ja, -Int.natCast_add, -Int.natCast_mul, -Int.natCast_emod, -Int.natCast_ediv, -Int.natCast_pow, Jb, Jc, Jd, Je, Jf, Jg, Jh, Ji, Jj, Jk, Jl, Jm, Jn, Jo, Jp, Jq, Jr, Js, Jt, Ju, Jv, Jw, Jx, Jy, Jz, h]
    omega

theorem sameGuards_c (a b : List Grd) (ha : ∀ g ∈ a, g.Short) (hb : ∀ g ∈ b, g.Short) (hal : a.length ≤ 1099511627776) (hk : ∀ g ∈ a, ∀ h ∈ b, g.kind = h.kind ∨ (-1000 ≤ g.kind ∧ g.kind ≤ 1000 ∧ -1000 ≤ h.kind ∧ h.kind ≤ 1000) ∨ a = b) :
    CallsF Tryz.prog 13 [.c (grdsD a), .c (grdsD b)] (.u (.c (.d (.bool (decide (a = b)))))) := by
  have k : ∀ i (h1 : i < a.length) (h2 : i < b.length), CallsF Tryz.prog 33 [.agg a[i].ds, .agg b[i].ds] (.u (.c (.d (.int .i64 (cmpGd a[i] b[i]))))) := fun i h1 h2 => by
    refine cmpGuard_c _ _ (ha _ (List.getElem_mem h1)) (hb _ (List.getElem_mem h2)) ?_
    rcases hk _ (List.getElem_mem h1) _ (List.getElem_mem h2) with h | h | h
    · exact .inl h
    · exact .inr h
    · subst h; exact .inl rfl
  simp only [Grd.ds] at k
  clear ha hb hk
  refine callsF_of (T := tb) tab_ok mixed Tryz.func13 rfl (by decide) (Nat.le_of_ble_eq_true rfl) rfl ?_; unfold St.init
  by_cases hl : a.length = b.length
  · simp (maxSteps := 2000000) -implicitDefEqProofs [-List.map_set, Ja, -Int.natCast_add, -Int.natCast_mul, -Int.natCast_emod, -Int.natCast_ediv, -Int.natCast_pow, Jb, Jc, Jd, Je, Jf, Jg, Jh, Ji, Jj, Jk, Jl, Jm, Jn, Jo, Jp, Jq, Jr, Js, Jt, Ju, Jv, Jw, Jx, Jy, Jz, hl]
    refine wpLoop_of (fun i : Nat => ⟨[(5, vI .i64 i), (0, vC (.d (grdsD a))), (1, vC (.d (grdsD b)))], []⟩) (fun i => i ≤ a.length ∧ a.take i = b.take i) (fun i => a.length - i) 0 (by simp [leL, lk, St.le, vI, vC]) ⟨by omega, by simp⟩ ?_
    rintro i ⟨hi, he⟩
    by_cases h : i < a.length
    · have hB : i < b.length := by omega
      have ea := grd_drop h
      have eb := grd_drop hB
      have k := k i h hB
      have hz := @cmpGd_zero a[i] b[i]
      generalize cmpGd a[i] b[i] = r at *
      by_cases h0 : r = 0
      · simp (maxSteps := 2000000) -implicitDefEqProofs [-List.map_set, Ja, -Int.natCast_add, -Int.natCast_mul, -Int.natCast_emod, -Int.natCast_ediv, -Int.natCast_pow, Jb, Jc, Jd, Je, Jf, Jg, Jh, Ji, Jj, Jk, Jl, Jm, Jn, Jo, Jp, Jq, Jr, Js, Jt, Ju, Jv, Jw, Jx, Jy, Jz, h, hB]
        refine wpDraw_by [[], [], [0, 1], [0, 1, 2], [], [], [4, 5], [4, 5, 6], [0, 1, 2, 3, 4, 5, 6, 7], [0, 1, 2, 3, 4, 5, 6, 7, 8]] [.any [] [] [⟨0, [0], [], [], []⟩, ⟨0, [5], [], [], []⟩, ⟨0, [17, 18], [], [], []⟩, ⟨0, [19], [], [], []⟩, ⟨0, [1], [], [], []⟩, ⟨0, [5], [], [], []⟩, ⟨0, [21, 22], [], [], []⟩, ⟨0, [23], [], [], []⟩], .one, .one] (by rfl) ?_
        simp (maxSteps := 2000000) -implicitDefEqProofs [-List.map_set, Ja, -Int.natCast_add, -Int.natCast_mul, -Int.natCast_emod, -Int.natCast_ediv, -Int.natCast_pow, Jb, Jc, Jd, Je, Jf, Jg, Jh, Ji, Jj, Jk, Jl, Jm, Jn, Jo, Jp, Jq, Jr, Js, Jt, Ju, Jv, Jw, Jx, Jy, Jz, h, hB, ea, eb]
        (first | refine .inl ⟨_, k, ?_⟩ | refine ⟨_, k, ?_⟩)
        simp (maxSteps := 2000000) -implicitDefEqProofs [-List.map_set, Ja, -Int.natCast_add, -Int.natCast_mul, -Int.natCast_emod, -Int.natCast_ediv, -Int.natCast_pow, Jb, Jc, Jd, Je, Jf, Jg, Jh, Ji, Jj, Jk, Jl, Jm, Jn, Jo, Jp, Jq, Jr, Js, Jt, Ju, Jv, Jw, Jx, Jy, Jz, h0]
        refine ⟨by omega, ⟨by omega, ?_⟩, by omega⟩
        rw [List.take_succ_eq_append_getElem h, List.take_succ_eq_append_getElem hB, he, hz.1 h0]
      · have hne : ¬ a = b := fun e => h0 (hz.2 (by subst e; rfl))
        simp (maxSteps := 2000000) -implicitDefEqProofs [-List.map_set, Ja, -Int.natCast_add, -Int.natCast_mul, -Int.natCast_emod, -Int.natCast_ediv, -Int.natCast_pow, Jb, Jc, Jd, Je, Jf, Jg, Jh, Ji, Jj, Jk, Jl, Jm, Jn, Jo, Jp, Jq, Jr, Js, Jt, Ju, Jv, Jw, Jx, Jy, Jz, h, hB]
        refine wpDraw_by [[], [], [0, 1], [0, 1, 2], [], [], [4, 5], [4, 5, 6], [0, 1, 2, 3, 4, 5, 6, 7], [0, 1, 2, 3, 4, 5, 6, 7, 8]] [.any [] [] [⟨0, [0], [], [], []⟩, ⟨0, [5], [], [], []⟩, ⟨0, [17, 18], [], [], []⟩, ⟨0, [19], [], [], []⟩, ⟨0, [1], [], [], []⟩, ⟨0, [5], [], [], []⟩, ⟨0, [21, 22], [], [], []⟩, ⟨0, [23], [], [], []⟩], .one, .one] (by rfl) ?_
        simp (maxSteps := 2000000) -implicitDefEqProofs [-List.map_set, Ja, -Int.natCast_add, -Int.natCast_mul, -Int.natCast_emod, -Int.natCast_ediv, -Int.natCast_pow, Jb, Jc, Jd, Je, Jf, Jg, Jh, Ji, Jj, Jk, Jl, Jm, Jn, Jo, Jp, Jq, Jr, Js, Jt, Ju, Jv, Jw, Jx, Jy, Jz, h, hB, ea, eb]
        (first | refine .inl ⟨_, k, ?_⟩ | refine ⟨_, k, ?_⟩)
        simp (maxSteps := 2000000) -implicitDefEqProofs [-List.map_set, Ja, -Int.natCast_add, -Int.natCast_mul, -Int.natCast_emod, -Int.natCast_ediv, -Int.natCast_pow, Jb, Jc, Jd, Je, Jf, Jg, Jh, Ji, Jj, Jk, Jl, Jm, Jn, Jo, Jp, Jq, Jr, Js, Jt, Ju, Jv, Jw, Jx, Jy, Jz, h0, hne]
    · have hi2 : i = a.length := by omega
      subst hi2
      rw [List.take_length, hl, List.take_length] at he
      simp (maxSteps := 2000000) -implicitDefEqProofs [-List.map_set, Ja, -Int.natCast_add, -Int.natCast_mul, -Int.natCast_emod, -Int.natCast_ediv, -Int.natCast_pow, Jb, Jc, Jd, Je, Jf, Jg, Jh, Ji, Jj, Jk, Jl, Jm, Jn, Jo, Jp, Jq, Jr, Js, Jt, Ju, Jv, Jw, Jx, Jy, Jz, h, he]
  · have hne : ¬ a = b := fun e => hl (by rw [e])
    simp (maxSteps := 2000000) -implicitDefEqProofs [-List.map_set, Ja, -Int.natCast_add, -Int.natCast_mul, -Int.natCast_emod, -Int.natCast_ediv, -Int.natCast_pow, Jb, Jc, Jd, Je, Jf, Jg, Jh, Ji, Jj, Jk, Jl, Jm, Jn, Jo, Jp, Jq, Jr, Js, Jt, Ju, Jv, Jw, Jx, Jy, Jz, hl, hne]

theorem same38_c (a b : List Fct) (ha : ∀ f ∈ a, f.Rt) (hb : ∀ f ∈ b, f.Rt) (hal : a.length ≤ 1099511627776) :
    CallsF Tryz.prog 12 [.c (fctsD a), .c (fctsD b)] (.u (.c (.d (.bool (decide (a = b)))))) := by
  have k : ∀ i (h1 : i < a.length) (h2 : i < b.length), CallsF Tryz.prog 26 [.agg a[i].ds, .agg b[i].ds] (.u (.c (.d (.bool (decide (a[i] = b[i])))))) := fun i h1 h2 => by
    have r1 := ha _ (List.getElem_mem h1)
    have r2 := hb _ (List.getElem_mem h2)
    have := refEqualF_c a[i] b[i] r1.mild r2.mild r1.val r2.val
    rw [show decide (cmpF a[i] b[i] = 0) = decide (a[i] = b[i]) from decide_eq_decide.2 (cmpF_zero r1 r2)] at this
    exact this
  simp only [Fct.ds] at k
  clear ha hb
  refine callsF_of (T := tb) tab_ok mixed Tryz.func12 rfl (by decide) (Nat.le_of_ble_eq_true rfl) rfl ?_; unfold St.init
  by_cases hl : a.length = b.length
  · simp (maxSteps := 2000000) -implicitDefEqProofs [-List.map_set, Ja, -Int.natCast_add, -Int.natCast_mul, -Int.natCast_emod, -Int.natCast_ediv, -Int.natCast_pow, Jb, Jc, Jd, Je, Jf, Jg, Jh, Ji, Jj, Jk, Jl, Jm, Jn, Jo, Jp, Jq, Jr, Js, Jt, Ju, Jv, Jw, Jx, Jy, Jz, hl]
    refine wpLoop_of (fun i : Nat => ⟨[(5, vI .i64 i), (0, vC (.d (fctsD a))), (1, vC (.d (fctsD b)))], []⟩) (fun i => i ≤ a.length ∧ a.take i = b.take i) (fun i => a.length - i) 0 (by simp [leL, lk, St.le, vI, vC]) ⟨by omega, by simp⟩ ?_
    rintro i ⟨hi, he⟩
    by_cases h : i < a.length
    · have hB : i < b.length := by omega
      have ea := fct_drop h
      have eb := fct_drop hB
      have k := k i h hB
      by_cases h0 : a[i] = b[i]
      · rw [decide_eq_true h0] at k
        simp (maxSteps := 2000000) -implicitDefEqProofs [-List.map_set, Ja, -Int.natCast_add, -Int.natCast_mul, -Int.natCast_emod, -Int.natCast_ediv, -Int.natCast_pow, Jb, Jc, Jd, Je, Jf, Jg, Jh, Ji, Jj, Jk, Jl, Jm, Jn, Jo, Jp, Jq, Jr, Js, Jt, Ju, Jv, Jw, Jx, Jy, Jz, h, hB]
        refine wpDraw_by [[], [], [0, 1], [0, 1, 2], [], [], [4, 5], [4, 5, 6], [0, 1, 2, 3, 4, 5, 6, 7], [0, 1, 2, 3, 4, 5, 6, 7, 8]] [.any [] [] [⟨0, [0], [], [], []⟩, ⟨0, [5], [], [], []⟩, ⟨0, [17, 18], [], [], []⟩, ⟨0, [19], [], [], []⟩, ⟨0, [1], [], [], []⟩, ⟨0, [5], [], [], []⟩, ⟨0, [21, 22], [], [], []⟩, ⟨0, [23], [], [], []⟩], .one, .one] (by rfl) ?_
        simp (maxSteps := 2000000) -implicitDefEqProofs [-List.map_set, Ja, -Int.natCast_add, -Int.natCast_mul, -Int.natCast_emod, -Int.natCast_ediv, -Int.natCast_pow, Jb, Jc, Jd, Je, Jf, Jg, Jh, Ji, Jj, Jk, Jl, Jm, Jn, Jo, Jp, Jq, Jr, Js, Jt, Ju, Jv, Jw, Jx, Jy, Jz, h, hB, ea, eb]
        (first | refine .inl ⟨_, k, ?_⟩ | refine ⟨_, k, ?_⟩)
        simp (maxSteps := 2000000) -implicitDefEqProofs [-List.map_set, Ja, -Int.natCast_add, -Int.natCast_mul, -Int.natCast_emod, -Int.natCast_ediv, -Int.natCast_pow, Jb, Jc, Jd, Je, Jf, Jg, Jh, Ji, Jj, Jk, Jl, Jm, Jn, Jo, Jp, Jq, Jr, Js, Jt, Ju, Jv, Jw, Jx, Jy, Jz]
        refine ⟨by omega, ⟨by omega, ?_⟩, by omega⟩
        rw [List.take_succ_eq_append_getElem h, List.take_succ_eq_append_getElem hB, he, h0]
      · rw [decide_eq_false h0] at k
        have hne : ¬ a = b := fun e => h0 (by subst e; rfl)
        simp (maxSteps := 2000000) -implicitDefEqProofs [-List.map_set, Ja, -Int.natCast_add, -Int.natCast_mul, -Int.natCast_emod, -Int.natCast_ediv, -Int.natCast_pow, Jb, Jc, Jd, Je, Jf, Jg, Jh, Ji, Jj, Jk, Jl, Jm, Jn, Jo, Jp, Jq, Jr, Js, Jt, Ju, Jv, Jw, Jx, Jy, Jz, h, hB]
        refine wpDraw_by [[], [], [0, 1], [0, 1, 2], [], [], [4, 5], [4, 5, 6], [0, 1, 2, 3, 4, 5, 6, 7], [0, 1, 2, 3, 4, 5, 6, 7, 8]] [.any [] [] [⟨0, [0], [], [], []⟩, ⟨0, [5], [], [], []⟩, ⟨0, [17, 18], [], [], []⟩, ⟨0, [19], [], [], []⟩, ⟨0, [1], [], [], []⟩, ⟨0, [5], [], [], []⟩, ⟨0, [21, 22], [], [], []⟩, ⟨0, [23], [], [], []⟩], .one, .one] (by rfl) ?_
        simp (maxSteps := 2000000) -implicitDefEqProofs [-List.map_set, Ja, -Int.natCast_add, -Int.natCast_mul, -Int.natCast_emod, -Int.natCast_ediv, -Int.natCast_pow, Jb, Jc, Jd, Je, Jf, Jg, Jh, Ji, Jj, Jk, Jl, Jm, Jn, Jo, Jp, Jq, Jr, Js, Jt, Ju, Jv, Jw, Jx, Jy, Jz, h, hB, ea, eb]
        (first | refine .inl ⟨_, k, ?_⟩ | refine ⟨_, k, ?_⟩)
        simp (maxSteps := 2000000) -implicitDefEqProofs [-List.map_set, Ja, -Int.natCast_add, -Int.natCast_mul, -Int.natCast_emod, -Int.natCast_ediv, -Int.natCast_pow, Jb, Jc, Jd, Je, Jf, Jg, Jh, Ji, Jj, Jk, Jl, Jm, Jn, Jo, Jp, Jq, Jr, Js, Jt, Ju, Jv, Jw, Jx, Jy, Jz, hne]
    · have hi2 : i = a.length := by omega
      subst hi2
      rw [List.take_length, hl, List.take_length] at he
      simp (maxSteps := 2000000) -implicitDefEqProofs [-List.map_set, Ja, -Int.natCast_add, -Int.natCast_mul, -Int.natCast_emod, -Int.natCast_ediv, -Int.natCast_pow, Jb, Jc, Jd, Je, Jf, Jg, Jh, Ji, Jj, Jk, Jl, Jm, Jn, Jo, Jp, Jq, Jr, Js, Jt, Ju, Jv, Jw, Jx, Jy, Jz, h, he]
  · have hne : ¬ a = b := fun e => hl (by rw [e])
    simp (maxSteps := 2000000) -implicitDefEqProofs [-List.map_set, Ja, -Int.natCast_add, -Int.natCast_mul, -Int.natCast_emod, -Int.natCast_ediv, -Int.natCast_pow, Jb, Jc, Jd, Je, Jf, Jg, Jh, Ji, Jj, Jk, Jl, Jm, Jn, Jo, Jp, Jq, Jr, Js, Jt, Ju, Jv, Jw, Jx, Jy, Jz, hl, hne]

/-- Are premises mild, one behind the other? -/
def milF (f : Fct) : Bool := decide (f.args.length ≤ 20) && decide (f.abs.length ≤ 2) && decide (f.den.length ≤ 2)
def milL (l : List Fct) : Bool := decide (l.length ≤ 4) && l.all milF
theorem mild38_c (l : List Fct) (hl : l.length ≤ 1099511627776) : CallsF Tryz.prog 8 [.c (fctsD l)] (.u (.c (.d (.bool (milL l))))) := by
  unfold milL
  refine callsF_of (T := tb) tab_ok mixed Tryz.func8 rfl (by decide) (Nat.le_of_ble_eq_true rfl) rfl ?_; unfold St.init
  by_cases h4 : l.length ≤ 4
  · rw [decide_eq_true h4, Bool.true_and]
    have h4' : ¬ 4 < l.length := by omega
    simp (maxSteps := 2000000) -implicitDefEqProofs [-List.map_set, Ja, -Int.natCast_add, -Int.natCast_mul, -Int.natCast_emod, -Int.natCast_ediv, -Int.natCast_pow, Jb, Jc, Jd, Je, Jf, Jg, Jh, Ji, Jj, Jk, Jl, Jm, Jn, Jo, Jp, Jq, Jr, Js, Jt, Ju, Jv, Jw, Jx, Jy, Jz, h4, h4']
    refine wpLoop_of (fun i : Nat => ⟨[(3, vI .i64 i), (0, vC (.d (fctsD l)))], []⟩) (fun i => i ≤ l.length ∧ (l.take i).all milF = true) (fun i => l.length - i) 0 (by simp [leL, lk, St.le, vI, vC]) ⟨by omega, by simp⟩ ?_
    rintro i ⟨hi, he⟩
    by_cases h : i < l.length
    · have ea := fct_drop h
      have hm : milF l[i] = (decide (l[i].args.length ≤ 20) && decide (l[i].abs.length ≤ 2) && decide (l[i].den.length ≤ 2)) := rfl
      have hno : milF l[i] = false → l.all milF = false := fun h0 => by
        rw [Bool.eq_false_iff]
        intro hc
        rw [List.all_eq_true] at hc
        rw [hc _ (List.getElem_mem h)] at h0
        cases h0
      by_cases c1 : l[i].args.length ≤ 20
      · by_cases c2 : l[i].abs.length ≤ 2
        · by_cases c3 : l[i].den.length ≤ 2
          · rw [decide_eq_true c1, decide_eq_true c2, decide_eq_true c3] at hm
            have d1 : ¬ 20 < l[i].args.length := by omega
            have d2 : ¬ 2 < l[i].abs.length := by omega
            have d3 : ¬ 2 < l[i].den.length := by omega
            simp (maxSteps := 2000000) -implicitDefEqProofs [-List.map_set, Ja, -Int.natCast_add, -Int.natCast_mul, -Int.natCast_emod, -Int.natCast_ediv, -Int.natCast_pow, Jb, Jc, Jd, Je, Jf, Jg, Jh, Ji, Jj, Jk, Jl, Jm, Jn, Jo, Jp, Jq, Jr, Js, Jt, Ju, Jv, Jw, Jx, Jy, Jz, h, ea, d1, d2, d3]
            refine ⟨by omega, ⟨by omega, ?_⟩, by omega⟩
            have e : (l.take (i + 1)).all milF = true := by
              rw [List.take_succ_eq_append_getElem h, List.all_append, he]
              simp [hm]
            simpa using e
          · rw [decide_eq_false c3, Bool.and_false] at hm
            rw [hno hm]
            have d1 : ¬ 20 < l[i].args.length := by omega
            have d2 : ¬ 2 < l[i].abs.length := by omega
            have d3 : 2 < l[i].den.length := by omega
            simp (maxSteps := 2000000) -implicitDefEqProofs [-List.map_set, Ja, -Int.natCast_add, -Int.natCast_mul, -Int.natCast_emod, -Int.natCast_ediv, -Int.natCast_pow, Jb, Jc, Jd, Je, Jf, Jg, Jh, Ji, Jj, Jk, Jl, Jm, Jn, Jo, Jp, Jq, Jr, Js, Jt, Ju, Jv, Jw, Jx, Jy, Jz, h, ea, d1, d2, d3]
        · rw [decide_eq_false c2, Bool.and_false, Bool.false_and] at hm
          rw [hno hm]
          have d1 : ¬ 20 < l[i].args.length := by omega
          have d2 : 2 < l[i].abs.length := by omega
          simp (maxSteps := 2000000) -implicitDefEqProofs [-List.map_set, Ja, -Int.natCast_add, -Int.natCast_mul, -Int.natCast_emod, -Int.natCast_ediv, -Int.natCast_pow, Jb, Jc, Jd, Je, Jf, Jg, Jh, Ji, Jj, Jk, Jl, Jm, Jn, Jo, Jp, Jq, Jr, Js, Jt, Ju, Jv, Jw, Jx, Jy, Jz, h, ea, d1, d2]
      · rw [decide_eq_false c1, Bool.false_and, Bool.false_and] at hm
        rw [hno hm]
        have d1 : 20 < l[i].args.length := by omega
        simp (maxSteps := 2000000) -implicitDefEqProofs [-List.map_set, Ja, -Int.natCast_add, -Int.natCast_mul, -Int.natCast_emod, -Int.natCast_ediv, -Int.natCast_pow, Jb, Jc, Jd, Je, Jf, Jg, Jh, Ji, Jj, Jk, Jl, Jm, Jn, Jo, Jp, Jq, Jr, Js, Jt, Ju, Jv, Jw, Jx, Jy, Jz, h, ea, d1]
    · have hi2 : i = l.length := by omega
      subst hi2
      rw [List.take_length] at he
      rw [he]
      simp (maxSteps := 2000000) -implicitDefEqProofs [-List.map_set, Ja, -Int.natCast_add, -Int.natCast_mul, -Int.natCast_emod, -Int.natCast_ediv, -Int.natCast_pow, Jb, Jc, Jd, Je, Jf, Jg, Jh, Ji, Jj, Jk, Jl, Jm, Jn, Jo, Jp, Jq, Jr, Js, Jt, Ju, Jv, Jw, Jx, Jy, Jz, h]
  · rw [decide_eq_false h4, Bool.false_and]
    have h4' : 4 < l.length := by omega
    simp (maxSteps := 2000000) -implicitDefEqProofs [-List.map_set, Ja, -Int.natCast_add, -Int.natCast_mul, -Int.natCast_emod, -Int.natCast_ediv, -Int.natCast_pow, Jb, Jc, Jd, Je, Jf, Jg, Jh, Ji, Jj, Jk, Jl, Jm, Jn, Jo, Jp, Jq, Jr, Js, Jt, Ju, Jv, Jw, Jx, Jy, Jz, h4']

end Go.Va
