/-
  RulesTurn: the walk of the law.
-/
import Derived.Test.YtkfdniccmcolgaaGreatWtt
import Derived.Test.YtkfdniccmcolgaaGreatWu
set_option linter.all false

namespace Go.Va
open Go.Proofs
set_option maxHeartbeats 4000000
set_option maxRecDepth 100000
set_option linter.unusedSimpArgs false
set_option linter.unusedVariables false

theorem factsL_rt {L : List Fnd} (h : FndOk L) : ∀ f ∈ factsL L, f.Rt := fun f hf => by
  obtain ⟨x, hx, rfl⟩ := List.mem_map.1 hf
  exact h.rt x hx

/-- What Apply gives, and that the two orders give the same. -/
theorem turn_apply {n : Int} (h : isTurn n) {f g : Fct} (hf : f.Mild) (hg : g.Mild) : ∃ (l : List Fct) (a : List Grd),
    CallsF Tryz.prog 10 [.c (.int .i64 n), .c (fctsD [f, g])] (.tup [.c (.d (fctsD l)), .c (.d (grdsD a))]) ∧
    CallsF Tryz.prog 10 [.c (.int .i64 n), .c (fctsD [g, f])] (.tup [.c (.d (fctsD l)), .c (.d (grdsD a))]) ∧
    CallsF Tryz.prog 12 [.c (fctsD l), .c (fctsD l)] (.u (.c (.d (.bool true)))) ∧
    CallsF Tryz.prog 13 [.c (grdsD a), .c (grdsD a)] (.u (.c (.d (.bool true)))) := by
  have hd : (rulT n).derive = .nilFn := by rcases h with rfl | rfl | rfl | rfl | rfl | rfl | rfl | rfl | rfl <;> rfl
  have hc : (rulT n).count = ((rulT n).prem.length : Int) := by rcases h with rfl | rfl | rfl | rfl | rfl | rfl | rfl | rfl | rfl <;> rfl
  have m2 : ∀ {A B : Fct}, A.Mild → B.Mild → ∀ x ∈ [A, B], x.Mild := fun hA hB x hx => by
    simp only [List.mem_cons, List.not_mem_nil, or_false] at hx
    rcases hx with rfl | rfl <;> assumption
  have f1 := follD_c n [f, g] (m2 hf hg) hd hc (by simp)
  have f2 := follD_c n [g, f] (m2 hg hf) hd hc (by simp)
  have o1 := foll_ok n [f, g] (m2 hf hg) (by simp)
  rw [← turn_eq h hf hg] at f2
  refine ⟨_, _, apply_c n [f, g] _ o1.1 o1.2 f1, apply_c n [g, f] _ o1.1 o1.2 f2, ?_, ?_⟩
  · have := same38_c (factsL (follT n [f, g])) (factsL (follT n [f, g])) (factsL_rt o1.1) (factsL_rt o1.1) (by simp only [factsL, List.length_map]; have := o1.2; omega)
    rwa [decide_eq_true rfl] at this
  · have hs : ∀ g' ∈ uniqG (allG (follT n [f, g])), g'.Short := fun g' hg' => allG_sh o1.1 g' (uniqG_mem hg')
    have hl := uniqG_len (allG (follT n [f, g]))
    have hl2 := allG_len o1.1
    have := sameGuards_c (uniqG (allG (follT n [f, g]))) (uniqG (allG (follT n [f, g]))) hs hs (by have := o1.2; omega) (fun _ _ _ _ => .inr (.inr rfl))
    rwa [decide_eq_true rfl] at this

theorem turn_c (n : Int) (f g : Fct) (hf : Ok f.abs ∧ Ok f.den) (hg : Ok g.abs ∧ Ok g.den) : CallsF Tryz.prog 5 [.c (.int .i64 n), .agg f.ds, .agg g.ds] (.u (.c (.d (.bool true)))) := by
  have km := mild38_c [f, g] (by simp)
  have aw := awake_c
  have key : milL [f, g] = true → isTurn n → _ := fun h hn => by
    have hm : f.Mild ∧ g.Mild := by
      simp [milL, milF] at h
      exact ⟨⟨by omega, by omega, hf.1, hf.2, by omega⟩, ⟨by omega, by omega, hg.1, hg.2, by omega⟩⟩
    exact turn_apply hn hm.1 hm.2
  clear hf hg
  simp only [fctsD, List.flatMap_cons, List.flatMap_nil, List.append_nil, Fct.ds, List.cons_append, List.nil_append, List.length_cons, List.length_nil, Nat.zero_add, Nat.reduceAdd] at km key
  refine callsF_of (T := tb) tab_ok mixed Tryz.func5 rfl (by decide) (Nat.le_of_ble_eq_true rfl) rfl ?_; unfold St.init
  simp only [Fct.ds]
  simp (maxSteps := 2000000) -implicitDefEqProofs [-List.map_set, Ja, -Int.natCast_add, -Int.natCast_mul, -Int.natCast_emod, -Int.natCast_ediv, -Int.natCast_pow, Jb, Jc, Jd, Je, Jf, Jg, Jh, Ji, Jj, Jk, Jl, Jm, Jn, Jo, Jp, Jq, Jr, Js, Jt, Ju, Jv, Jw, Jx, Jy, Jz]
  (first | refine .inl ⟨_, km, ?_⟩ | refine ⟨_, km, ?_⟩)
  cases hm : milL [f, g] with
  | false =>
    simp (maxSteps := 2000000) -implicitDefEqProofs [-List.map_set, Ja, -Int.natCast_add, -Int.natCast_mul, -Int.natCast_emod, -Int.natCast_ediv, -Int.natCast_pow, Jb, Jc, Jd, Je, Jf, Jg, Jh, Ji, Jj, Jk, Jl, Jm, Jn, Jo, Jp, Jq, Jr, Js, Jt, Ju, Jv, Jw, Jx, Jy, Jz]
    (first | refine .inl ⟨_, aw, ?_⟩ | refine ⟨_, aw, ?_⟩)
    simp (maxSteps := 2000000) -implicitDefEqProofs [-List.map_set, Ja, -Int.natCast_add, -Int.natCast_mul, -Int.natCast_emod, -Int.natCast_ediv, -Int.natCast_pow, Jb, Jc, Jd, Je, Jf, Jg, Jh, Ji, Jj, Jk, Jl, Jm, Jn, Jo, Jp, Jq, Jr, Js, Jt, Ju, Jv, Jw, Jx, Jy, Jz]
  | true =>
    have key := key hm
    by_cases hn : isTurn n
    · obtain ⟨l, a, h1, h2, h3, h4⟩ := key hn
      clear key km
      generalize fctsD l = dl at *
      generalize grdsD a = da at *
      rcases hn with rfl | rfl | rfl | rfl | rfl | rfl | rfl | rfl | rfl
      all_goals
        simp (maxSteps := 2000000) -implicitDefEqProofs [-List.map_set, Ja, -Int.natCast_add, -Int.natCast_mul, -Int.natCast_emod, -Int.natCast_ediv, -Int.natCast_pow, Jb, Jc, Jd, Je, Jf, Jg, Jh, Ji, Jj, Jk, Jl, Jm, Jn, Jo, Jp, Jq, Jr, Js, Jt, Ju, Jv, Jw, Jx, Jy, Jz]
        (first | refine .inl ⟨_, h1, ?_⟩ | refine ⟨_, h1, ?_⟩)
        simp (maxSteps := 2000000) -implicitDefEqProofs [-List.map_set, Ja, -Int.natCast_add, -Int.natCast_mul, -Int.natCast_emod, -Int.natCast_ediv, -Int.natCast_pow, Jb, Jc, Jd, Je, Jf, Jg, Jh, Ji, Jj, Jk, Jl, Jm, Jn, Jo, Jp, Jq, Jr, Js, Jt, Ju, Jv, Jw, Jx, Jy, Jz]
        (first | refine .inl ⟨_, h2, ?_⟩ | refine ⟨_, h2, ?_⟩)
        simp (maxSteps := 2000000) -implicitDefEqProofs [-List.map_set, Ja, -Int.natCast_add, -Int.natCast_mul, -Int.natCast_emod, -Int.natCast_ediv, -Int.natCast_pow, Jb, Jc, Jd, Je, Jf, Jg, Jh, Ji, Jj, Jk, Jl, Jm, Jn, Jo, Jp, Jq, Jr, Js, Jt, Ju, Jv, Jw, Jx, Jy, Jz]
        (first | refine .inl ⟨_, h3, ?_⟩ | refine ⟨_, h3, ?_⟩)
        simp (maxSteps := 2000000) -implicitDefEqProofs [-List.map_set, Ja, -Int.natCast_add, -Int.natCast_mul, -Int.natCast_emod, -Int.natCast_ediv, -Int.natCast_pow, Jb, Jc, Jd, Je, Jf, Jg, Jh, Ji, Jj, Jk, Jl, Jm, Jn, Jo, Jp, Jq, Jr, Js, Jt, Ju, Jv, Jw, Jx, Jy, Jz]
        (first | refine .inl ⟨_, h4, ?_⟩ | refine ⟨_, h4, ?_⟩)
        simp (maxSteps := 2000000) -implicitDefEqProofs [-List.map_set, Ja, -Int.natCast_add, -Int.natCast_mul, -Int.natCast_emod, -Int.natCast_ediv, -Int.natCast_pow, Jb, Jc, Jd, Je, Jf, Jg, Jh, Ji, Jj, Jk, Jl, Jm, Jn, Jo, Jp, Jq, Jr, Js, Jt, Ju, Jv, Jw, Jx, Jy, Jz]
        (first | refine .inl ⟨_, aw, ?_⟩ | refine ⟨_, aw, ?_⟩)
        simp (maxSteps := 2000000) -implicitDefEqProofs [-List.map_set, Ja, -Int.natCast_add, -Int.natCast_mul, -Int.natCast_emod, -Int.natCast_ediv, -Int.natCast_pow, Jb, Jc, Jd, Je, Jf, Jg, Jh, Ji, Jj, Jk, Jl, Jm, Jn, Jo, Jp, Jq, Jr, Js, Jt, Ju, Jv, Jw, Jx, Jy, Jz]
    · clear key km
      unfold isTurn at hn
      simp only [not_or] at hn
      obtain ⟨n1, n2, n3, n4, n5, n6, n7, n8, n9⟩ := hn
      simp (maxSteps := 2000000) -implicitDefEqProofs [-List.map_set, Ja, -Int.natCast_add, -Int.natCast_mul, -Int.natCast_emod, -Int.natCast_ediv, -Int.natCast_pow, Jb, Jc, Jd, Je, Jf, Jg, Jh, Ji, Jj, Jk, Jl, Jm, Jn, Jo, Jp, Jq, Jr, Js, Jt, Ju, Jv, Jw, Jx, Jy, Jz, n1, n2, n3, n4, n5, n6, n7, n8, n9]
      (first | refine .inl ⟨_, aw, ?_⟩ | refine ⟨_, aw, ?_⟩)
      simp (maxSteps := 2000000) -implicitDefEqProofs [-List.map_set, Ja, -Int.natCast_add, -Int.natCast_mul, -Int.natCast_emod, -Int.natCast_ediv, -Int.natCast_pow, Jb, Jc, Jd, Je, Jf, Jg, Jh, Ji, Jj, Jk, Jl, Jm, Jn, Jo, Jp, Jq, Jr, Js, Jt, Ju, Jv, Jw, Jx, Jy, Jz]

end Go.Va
