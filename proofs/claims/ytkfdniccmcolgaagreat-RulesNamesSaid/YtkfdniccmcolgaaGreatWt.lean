/-
  RulesNames: the walk of the law.
-/
import Derived.Test.YtkfdniccmcolgaaGreatWr
set_option linter.all false

namespace Go.Va
open Go.Proofs
set_option maxHeartbeats 4000000
set_option maxRecDepth 100000
set_option linter.unusedSimpArgs false
set_option linter.unusedVariables false

theorem binS_eql_refl (s : ByteArray) : binS .eql s s = some (vB true) := by
  unfold binS
  simp

theorem names_c (n : Int) : CallsF Tryz.prog 6 [.c (.int .i64 n)] (.u (.c (.d (.bool true)))) := by
  have q1 := name_c n
  have q2 := refName_c n
  have q3 := premises_c n
  have q4 := refPremises_c n
  have q5 := count_c
  have q6 := refCount_c
  have q7 := awake_c
  rw [← names_eq] at q2
  rw [← prems_eq] at q4
  generalize (if n = 0 then [103, 105, 118, 101, 110] else (rulT n).name) = s at *
  generalize (if n = 0 then 0 else if (rulT n).name = [] then -1 else (rulT n).count) = k at *
  have e := binS_eql_refl (bs s)
  refine callsF_of (T := tb) tab_ok mixed Tryz.func6 rfl (by decide) (Nat.le_of_ble_eq_true rfl) rfl ?_; unfold St.init
  simp (config := { maxSteps := 2000000 }) -implicitDefEqProofs [-List.map_set, Ja, -Int.natCast_add, -Int.natCast_mul, -Int.natCast_emod, -Int.natCast_ediv, -Int.natCast_pow, Jb, Jc, Jd, Je, Jf, Jg, Jh, Ji, Jj, Jk, Jl, Jm, Jn, Jo, Jp, Jq, Jr, Js, Jt, Ju, Jv, Jw, Jx, Jy, Jz]
  (first | refine .inl ⟨_, q1, ?_⟩ | refine ⟨_, q1, ?_⟩)
  simp (config := { maxSteps := 2000000 }) -implicitDefEqProofs [-List.map_set, Ja, -Int.natCast_add, -Int.natCast_mul, -Int.natCast_emod, -Int.natCast_ediv, -Int.natCast_pow, Jb, Jc, Jd, Je, Jf, Jg, Jh, Ji, Jj, Jk, Jl, Jm, Jn, Jo, Jp, Jq, Jr, Js, Jt, Ju, Jv, Jw, Jx, Jy, Jz]
  (first | refine .inl ⟨_, q2, ?_⟩ | refine ⟨_, q2, ?_⟩)
  simp (config := { maxSteps := 2000000 }) -implicitDefEqProofs [-List.map_set, Ja, -Int.natCast_add, -Int.natCast_mul, -Int.natCast_emod, -Int.natCast_ediv, -Int.natCast_pow, Jb, Jc, Jd, Je, Jf, Jg, Jh, Ji, Jj, Jk, Jl, Jm, Jn, Jo, Jp, Jq, Jr, Js, Jt, Ju, Jv, Jw, Jx, Jy, Jz, e]
  (first | refine .inl ⟨_, q3, ?_⟩ | refine ⟨_, q3, ?_⟩)
  simp (config := { maxSteps := 2000000 }) -implicitDefEqProofs [-List.map_set, Ja, -Int.natCast_add, -Int.natCast_mul, -Int.natCast_emod, -Int.natCast_ediv, -Int.natCast_pow, Jb, Jc, Jd, Je, Jf, Jg, Jh, Ji, Jj, Jk, Jl, Jm, Jn, Jo, Jp, Jq, Jr, Js, Jt, Ju, Jv, Jw, Jx, Jy, Jz]
  (first | refine .inl ⟨_, q4, ?_⟩ | refine ⟨_, q4, ?_⟩)
  simp (config := { maxSteps := 2000000 }) -implicitDefEqProofs [-List.map_set, Ja, -Int.natCast_add, -Int.natCast_mul, -Int.natCast_emod, -Int.natCast_ediv, -Int.natCast_pow, Jb, Jc, Jd, Je, Jf, Jg, Jh, Ji, Jj, Jk, Jl, Jm, Jn, Jo, Jp, Jq, Jr, Js, Jt, Ju, Jv, Jw, Jx, Jy, Jz]
  (first | refine .inl ⟨_, q5, ?_⟩ | refine ⟨_, q5, ?_⟩)
  simp (config := { maxSteps := 2000000 }) -implicitDefEqProofs [-List.map_set, Ja, -Int.natCast_add, -Int.natCast_mul, -Int.natCast_emod, -Int.natCast_ediv, -Int.natCast_pow, Jb, Jc, Jd, Je, Jf, Jg, Jh, Ji, Jj, Jk, Jl, Jm, Jn, Jo, Jp, Jq, Jr, Js, Jt, Ju, Jv, Jw, Jx, Jy, Jz]
  (first | refine .inl ⟨_, q6, ?_⟩ | refine ⟨_, q6, ?_⟩)
  simp (config := { maxSteps := 2000000 }) -implicitDefEqProofs [-List.map_set, Ja, -Int.natCast_add, -Int.natCast_mul, -Int.natCast_emod, -Int.natCast_ediv, -Int.natCast_pow, Jb, Jc, Jd, Je, Jf, Jg, Jh, Ji, Jj, Jk, Jl, Jm, Jn, Jo, Jp, Jq, Jr, Js, Jt, Ju, Jv, Jw, Jx, Jy, Jz]
  (first | refine .inl ⟨_, q7, ?_⟩ | refine ⟨_, q7, ?_⟩)
  simp (config := { maxSteps := 2000000 }) -implicitDefEqProofs [-List.map_set, Ja, -Int.natCast_add, -Int.natCast_mul, -Int.natCast_emod, -Int.natCast_ediv, -Int.natCast_pow, Jb, Jc, Jd, Je, Jf, Jg, Jh, Ji, Jj, Jk, Jl, Jm, Jn, Jo, Jp, Jq, Jr, Js, Jt, Ju, Jv, Jw, Jx, Jy, Jz]

end Go.Va
