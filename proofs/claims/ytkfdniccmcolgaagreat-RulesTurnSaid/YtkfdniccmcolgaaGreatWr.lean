/-
  The examples of the chapter.
-/
import Derived.Test.YtkfdniccmcolgaaGreatWp
import Derived.Test.YtkfdniccmcolgaaGreatWq
set_option linter.all false

namespace Go.Va
open Go.Proofs
set_option maxHeartbeats 4000000
set_option maxRecDepth 100000
set_option linter.unusedSimpArgs false
set_option linter.unusedVariables false

theorem of38_c (k : Int) (l : List Int) : CallsF Tryz.prog 25 [.c (.int .i64 k), .c (intsD l)] (Fct.mk k l false [] []).res := by
  refine callsF_of (T := tb) tab_ok mixed Tryz.func25 rfl (by decide) (Nat.le_of_ble_eq_true rfl) rfl ?_; unfold St.init
  simp (maxSteps := 2000000) -implicitDefEqProofs [-List.map_set, Ja, -Int.natCast_add, -Int.natCast_mul, -Int.natCast_emod, -Int.natCast_ediv, -Int.natCast_pow, Jb, Jc, Jd, Je, Jf, Jg, Jh, Ji, Jj, Jk, Jl, Jm, Jn, Jo, Jp, Jq, Jr, Js, Jt, Ju, Jv, Jw, Jx, Jy, Jz, Fct.res]
  rfl

deriving instance DecidableEq for Fnd
def ex1 : Fct := ⟨5, [3, 1, 2], false, [], []⟩
def ex2 : Fct := ⟨5, [4, 0, 2], false, [], []⟩
def ex3 : Fct := ⟨1, [0, 1, 2], false, [], []⟩
def ex4 : Fct := ⟨4, [0, 1, 0, 2], false, [], []⟩
def ex5 : Fct := ⟨5, [0, 2, 1], false, [], []⟩
def ex5' : Fct := ⟨5, [0, 1, 2], false, [], []⟩
def exP : Fct := ⟨2, [0, 1, 3, 4], false, [], []⟩
def exR : Fct := ⟨9, [0, 1, 3, 4], false, limbs 4, limbs 1⟩
theorem ex1_rt : ex1.Rt := plain_rt (by decide) (by decide) (by decide) (by decide)
theorem ex2_rt : ex2.Rt := plain_rt (by decide) (by decide) (by decide) (by decide)
theorem ex3_rt : ex3.Rt := plain_rt (by decide) (by decide) (by decide) (by decide)
theorem ex4_rt : ex4.Rt := plain_rt (by decide) (by decide) (by decide) (by decide)
theorem ex5_rt : ex5.Rt := plain_rt (by decide) (by decide) (by decide) (by decide)
theorem exP_rt : exP.Rt := plain_rt (by decide) (by decide) (by decide) (by decide)
theorem normF_of {f : Fct} (h : f.Rt) : normF f = normG f := by unfold normF; rw [if_pos h.ok]
theorem nrm1 : normF ex1 = ex1 := by rw [normF_of ex1_rt]; decide
theorem nrm2 : normF ex2 = ex2 := by rw [normF_of ex2_rt]; decide
theorem nrm3 : normF ex3 = ex3 := by
  have h : normF ex3 = ⟨1, sortL [0, 1, 2], false, [], []⟩ := by
    rw [normF_of ex3_rt]; rfl
  rw [h, sortL_eq]; rfl
theorem nrm4 : normF ex4 = ex4 := by rw [normF_of ex4_rt]; decide
theorem nrm5 : normF ex5 = ex5' := by rw [normF_of ex5_rt]; decide

theorem out6 : outF (rulT 6) [ex1, ex2] = [⟨exP, []⟩, ⟨exR, []⟩] := by
  rw [outF_eq]
  decide +kernel
theorem out28 : outF (rulT 28) [ex3, ex4] = [⟨ex5', [⟨1, [1, 2]⟩]⟩] := by
  rw [outF_eq]
  decide +kernel
theorem foll6 : follT 6 [ex1, ex2] = [⟨exP, []⟩, ⟨exR, []⟩] := by
  unfold follT
  rw [if_neg (by decide)]
  simp only [List.map_cons, List.map_nil, nrm1, nrm2]
  rw [if_neg (by decide)]
  exact out6
theorem foll28 : follT 28 [ex3, ex4] = [⟨ex5', [⟨1, [1, 2]⟩]⟩] := by
  unfold follT
  rw [if_neg (by decide)]
  simp only [List.map_cons, List.map_nil, nrm3, nrm4]
  rw [if_neg (by decide)]
  exact out28

end Go.Va

/-
  The examples of the chapter: their walk.
-/
namespace Go.Va
open Go.Proofs
set_option maxHeartbeats 4000000
set_option maxRecDepth 100000
set_option linter.unusedSimpArgs false
set_option linter.unusedVariables false

theorem foll_ok (n : Int) (ps : List Fct) (hps : ∀ f ∈ ps, f.Mild) (h3 : ps.length ≤ 3) : FndOk (follT n ps) ∧ (follT n ps).length ≤ 100000000000 := by
  unfold follT
  split
  · exact ⟨.nil, by simp⟩
  split
  · exact ⟨.nil, by simp⟩
  · rename_i h0 hz
    have hrt : ∀ f ∈ ps.map normF, f.Rt := fun f hf => by
      obtain ⟨g, hg, rfl⟩ := List.mem_map.1 hf
      refine normF_rt (hps g hg) fun hk => hz (List.any_eq_true.2 ⟨_, hf, by simpa using hk⟩)
    have hP := saysP_ok _ (rulT_good n) _ hrt
    have hl := saysP_len _ (rulT_good n) _ hrt (by simpa using h3)
    have hok := runF_ok (nl := ps.map normF) _ [] .nil hP
    have hlen := runF_len (ps.map normF) (saysP (rulT n) (ps.map normF)) []
    unfold outF
    refine ⟨⟨fun x hx => hok.rt x ((sortBy_perm _).mem_iff.1 hx), fun x hx => hok.sh x ((sortBy_perm _).mem_iff.1 hx), ?_⟩, ?_⟩
    · exact ((sortBy_perm _).pairwise_iff (fun h => Ne.symm h)).2 hok.nd
    · rw [sortBy_len]
      simp at hlen
      omega

theorem follD_c (n : Int) (ps : List Fct) (hps : ∀ f ∈ ps, f.Mild) (hd : (rulT n).derive = .nilFn) (hcn : (rulT n).count = ((rulT n).prem.length : Int)) (hl : ps.length ≤ 1099511627776) :
    CallsF Tryz.prog 29 [.c (.int .i64 n), .c (fctsD ps)] (.u (.c (.d (fndsD (follT n ps))))) := by
  have q := (follows_c n ps hps hd hcn hl).dat
  simp only [R.dat, RU.dat, RC.dat] at q
  rw [fnd_take] at q
  exact q


theorem awake_c : CallsF Tryz.prog 9 [] (.u (.c (.d (.bool true)))) := by
  have o1 : CallsF Tryz.prog 25 [.c (.int .i64 5), .c (.slice 3 [.int .i64 3, .int .i64 1, .int .i64 2])] ex1.res := of38_c 5 [3, 1, 2]
  have o2 : CallsF Tryz.prog 25 [.c (.int .i64 5), .c (.slice 3 [.int .i64 4, .int .i64 0, .int .i64 2])] ex2.res := of38_c 5 [4, 0, 2]
  have o3 : CallsF Tryz.prog 25 [.c (.int .i64 1), .c (.slice 3 [.int .i64 0, .int .i64 1, .int .i64 2])] ex3.res := of38_c 1 [0, 1, 2]
  have o4 : CallsF Tryz.prog 25 [.c (.int .i64 4), .c (.slice 4 [.int .i64 0, .int .i64 1, .int .i64 0, .int .i64 2])] ex4.res := of38_c 4 [0, 1, 0, 2]
  have o5 : CallsF Tryz.prog 25 [.c (.int .i64 5), .c (.slice 3 [.int .i64 0, .int .i64 2, .int .i64 1])] ex5.res := of38_c 5 [0, 2, 1]
  have oP : CallsF Tryz.prog 25 [.c (.int .i64 2), .c (.slice 4 [.int .i64 0, .int .i64 1, .int .i64 3, .int .i64 4])] exP.res := of38_c 2 [0, 1, 3, 4]
  have hm6 : ∀ f ∈ [ex1, ex2], f.Mild := by intro f hf; simp at hf; rcases hf with rfl | rfl; exact ex1_rt.mild; exact ex2_rt.mild
  have hm28 : ∀ f ∈ [ex3, ex4], f.Mild := by intro f hf; simp at hf; rcases hf with rfl | rfl; exact ex3_rt.mild; exact ex4_rt.mild
  have f6 := follD_c 6 [ex1, ex2] hm6 rfl rfl (by decide)
  have f28 := follD_c 28 [ex3, ex4] hm28 rfl rfl (by decide)
  have k6 := foll_ok 6 [ex1, ex2] hm6 (by decide)
  have k28 := foll_ok 28 [ex3, ex4] hm28 (by decide)
  have a6 := apply_c 6 [ex1, ex2] _ k6.1 k6.2 f6
  have a28 := follows2_c 28 [ex3, ex4] ex5 ex5_rt.mild _ k28.1 k28.2 f28
  rw [foll6] at a6
  rw [foll28, nrm5] at a28
  have u : uniqG (allG [⟨exP, []⟩, ⟨exR, []⟩]) = [] := by decide
  have v : folG [⟨ex5', [⟨1, [1, 2]⟩]⟩] ex5' = ([⟨1, [1, 2]⟩], true) := by decide
  rw [u] at a6
  rw [if_neg (by decide), v] at a28
  have eP := refEqualF_c exP exP exP_rt.mild exP_rt.mild exP_rt.val exP_rt.val
  rw [(cmpF_zero exP_rt exP_rt).2 rfl] at eP
  have f4 := refRatOf_c 4 (by omega)
  have e4 := refRatEqual_c false false 4 1 4 1 (by omega) (by omega) (by omega) (by decide) (by omega) (by omega) (by omega) (by decide)
  have cc := count_c
  clear u v k6 k28 f6 f28 hm6 hm28
  simp only [ex1, ex2, ex3, ex4, ex5, exP, exR, Fct.ds, Fct.res, fctsD, grdsD, factsL, List.map_cons, List.map_nil, List.flatMap_cons, List.flatMap_nil, List.append_nil, List.cons_append, List.nil_append, List.length_cons, List.length_nil, Grd.ds, Nat.zero_add, Nat.reduceAdd] at *
  refine callsF_of (T := tb) tab_ok mixed Tryz.func9 rfl (by decide) (Nat.le_of_ble_eq_true rfl) rfl ?_; unfold St.init
  simp (maxSteps := 2000000) -implicitDefEqProofs [-List.map_set, Ja, -Int.natCast_add, -Int.natCast_mul, -Int.natCast_emod, -Int.natCast_ediv, -Int.natCast_pow, Jb, Jc, Jd, Je, Jf, Jg, Jh, Ji, Jj, Jk, Jl, Jm, Jn, Jo, Jp, Jq, Jr, Js, Jt, Ju, Jv, Jw, Jx, Jy, Jz]
  (first | refine .inl ⟨_, o1, ?_⟩ | refine ⟨_, o1, ?_⟩)
  simp (maxSteps := 2000000) -implicitDefEqProofs [-List.map_set, Ja, -Int.natCast_add, -Int.natCast_mul, -Int.natCast_emod, -Int.natCast_ediv, -Int.natCast_pow, Jb, Jc, Jd, Je, Jf, Jg, Jh, Ji, Jj, Jk, Jl, Jm, Jn, Jo, Jp, Jq, Jr, Js, Jt, Ju, Jv, Jw, Jx, Jy, Jz]
  (first | refine .inl ⟨_, o2, ?_⟩ | refine ⟨_, o2, ?_⟩)
  simp (maxSteps := 2000000) -implicitDefEqProofs [-List.map_set, Ja, -Int.natCast_add, -Int.natCast_mul, -Int.natCast_emod, -Int.natCast_ediv, -Int.natCast_pow, Jb, Jc, Jd, Je, Jf, Jg, Jh, Ji, Jj, Jk, Jl, Jm, Jn, Jo, Jp, Jq, Jr, Js, Jt, Ju, Jv, Jw, Jx, Jy, Jz]
  (first | refine .inl ⟨_, a6, ?_⟩ | refine ⟨_, a6, ?_⟩)
  simp (maxSteps := 2000000) -implicitDefEqProofs [-List.map_set, Ja, -Int.natCast_add, -Int.natCast_mul, -Int.natCast_emod, -Int.natCast_ediv, -Int.natCast_pow, Jb, Jc, Jd, Je, Jf, Jg, Jh, Ji, Jj, Jk, Jl, Jm, Jn, Jo, Jp, Jq, Jr, Js, Jt, Ju, Jv, Jw, Jx, Jy, Jz]
  refine wpDraw_by [[], [0], [0, 1], [0, 1, 2], [0, 1, 2, 3], [0, 1, 2, 3, 4], [0, 1, 2, 3, 4, 5], [0, 1, 2, 3, 4, 5, 6], [0, 1, 2, 3, 4, 5, 6, 7], [0, 1, 2, 3, 4, 5, 6, 7, 8], [0, 1, 2, 3, 4, 5, 6, 7, 8, 9], [0, 1, 2, 3, 4, 5, 6, 7, 8, 9, 10], [0, 1, 2, 3, 4, 5, 6, 7, 8, 9, 10, 11], [0, 1, 2, 3, 4, 5, 6, 7, 8, 9, 10, 11, 12], [0, 1, 2, 3, 4, 5, 6, 7, 8, 9, 10, 11, 12, 13], [0, 1, 2, 3, 4, 5, 6, 7, 8, 9, 10, 11, 12, 13, 14], [0, 1, 2, 3, 4, 5, 6, 7, 8, 9, 10, 11, 12], [0, 1, 2, 3, 4, 5, 6, 7, 8, 9, 10, 11, 12, 16], [0, 1, 2, 3, 4, 5, 6, 7, 8, 9, 10, 11, 12, 13, 14, 15, 16, 17], [0, 1, 2, 3, 4, 5, 6, 7, 8, 9, 10, 11, 12, 13, 14, 15, 16, 17, 18], [0, 1, 2, 3, 4, 5, 6, 7, 8, 9, 10, 11, 12, 13, 14, 15, 16, 17, 18, 19], [0, 1, 2, 3, 4, 5, 6, 7, 8, 9, 10, 11, 12, 13, 14, 15, 16, 17, 18, 19, 20], [0, 1, 2, 3, 4, 5, 6, 7, 8, 9, 10, 11, 12, 13, 14, 15, 16, 17, 18, 19, 20, 21], [0, 1, 2, 3, 4, 5, 6, 7, 8, 9, 10, 11, 12, 13, 14, 15, 16, 17, 18, 19, 20, 21, 22], [0, 1, 2, 3, 4, 5, 6, 7, 8, 9, 10, 11, 12, 13, 14, 15, 16, 17, 18, 19, 20, 21, 22, 23], [0, 1, 2, 3, 4, 5, 6, 7, 8, 9, 10, 11, 12, 13, 14, 15, 16, 17, 18, 19, 20, 21, 22, 23, 24], [0, 1, 2, 3, 4, 5, 6, 7, 8, 9, 10, 11, 12, 13, 14, 15, 16, 17, 18, 19, 20, 21, 22, 23, 24, 25], [0, 1, 2, 3, 4, 5, 6, 7, 8, 9, 10, 11, 12, 13, 14, 15, 16, 17, 18, 19, 20, 21, 22, 23, 24, 25, 26], [0, 1, 2, 3, 4, 5, 6, 7, 8, 9, 10, 11, 12, 13, 14, 15, 16, 17, 18, 19, 20, 21, 22, 23, 24, 25, 26, 27], [0, 1, 2, 3, 4, 5, 6, 7, 8, 9, 10, 11, 12, 13, 14, 15, 16, 17, 18, 19, 20, 21, 22, 23, 24, 25, 26, 27, 28], [0, 1, 2, 3, 4, 5, 6, 7, 8, 9, 10, 11, 12, 13, 14, 15, 16, 17, 18, 19, 20, 21, 22, 23, 24, 25, 26, 27, 28, 29], [0, 1, 2, 3, 4, 5, 6, 7, 8, 9, 10, 11, 12, 13, 14, 15, 16, 17, 18, 19, 20, 21, 22, 23, 24, 25, 26, 27, 28, 29, 30], [0, 1, 2, 3, 4, 5, 6, 7, 8, 9, 10, 11, 12, 13, 14, 15, 16, 17, 18, 19, 20, 21, 22, 23, 24, 25, 26, 27, 28, 29, 30, 31], [0, 1, 2, 3, 4, 5, 6, 7, 8, 9, 10, 11, 12, 13, 14, 15, 16, 17, 18, 19, 20, 21, 22, 23, 24, 25, 26, 27, 28], [0, 1, 2, 3, 4, 5, 6, 7, 8, 9, 10, 11, 12, 13, 14, 15, 16, 17, 18, 19, 20, 21, 22, 23, 24, 25, 26, 27, 28, 29, 30, 31, 32, 33], [0, 1, 2, 3, 4, 5, 6, 7, 8, 9, 10, 11, 12, 13, 14, 15, 16, 17, 18, 19, 20, 21, 22, 23, 24, 25, 26, 27, 28, 29, 30, 31, 32, 33, 34], [0, 1, 2, 3, 4, 5, 6, 7, 8, 9, 10, 11, 12, 13, 14, 15, 16, 17, 18, 19, 20, 21, 22, 23, 24, 25, 26, 27, 28, 29, 30, 31, 32, 33, 34, 35]] [.one, .one, .one, .one, .one, .one, .one, .one, .one, .one, .one, .one, .one, .any [] [30] [⟨0, [1, 26], [], [30], []⟩, ⟨0, [27, 26], [], [30], []⟩, ⟨0, [28, 26], [], [30], []⟩, ⟨4, [26], [], [], []⟩, ⟨0, [30, 26], [], [], []⟩], .one, .one, .one, .one, .one, .one, .one, .one, .one, .one, .one, .any [] [] [⟨0, [1, 42], [], [], []⟩, ⟨0, [43, 42], [], [], []⟩, ⟨0, [44, 42], [], [], []⟩, ⟨0, [45, 42], [], [], []⟩, ⟨0, [42], [], [], []⟩], .one, .one, .one] (by rfl) ?_
  simp (maxSteps := 2000000) -implicitDefEqProofs [-List.map_set, Ja, -Int.natCast_add, -Int.natCast_mul, -Int.natCast_emod, -Int.natCast_ediv, -Int.natCast_pow, Jb, Jc, Jd, Je, Jf, Jg, Jh, Ji, Jj, Jk, Jl, Jm, Jn, Jo, Jp, Jq, Jr, Js, Jt, Ju, Jv, Jw, Jx, Jy, Jz]
  (first | refine .inl ⟨_, cc, ?_⟩ | refine ⟨_, cc, ?_⟩)
  simp (maxSteps := 2000000) -implicitDefEqProofs [-List.map_set, Ja, -Int.natCast_add, -Int.natCast_mul, -Int.natCast_emod, -Int.natCast_ediv, -Int.natCast_pow, Jb, Jc, Jd, Je, Jf, Jg, Jh, Ji, Jj, Jk, Jl, Jm, Jn, Jo, Jp, Jq, Jr, Js, Jt, Ju, Jv, Jw, Jx, Jy, Jz]
  (first | refine .inl ⟨_, oP, ?_⟩ | refine ⟨_, oP, ?_⟩)
  simp (maxSteps := 2000000) -implicitDefEqProofs [-List.map_set, Ja, -Int.natCast_add, -Int.natCast_mul, -Int.natCast_emod, -Int.natCast_ediv, -Int.natCast_pow, Jb, Jc, Jd, Je, Jf, Jg, Jh, Ji, Jj, Jk, Jl, Jm, Jn, Jo, Jp, Jq, Jr, Js, Jt, Ju, Jv, Jw, Jx, Jy, Jz]
  (first | refine .inl ⟨_, eP, ?_⟩ | refine ⟨_, eP, ?_⟩)
  simp (maxSteps := 2000000) -implicitDefEqProofs [-List.map_set, Ja, -Int.natCast_add, -Int.natCast_mul, -Int.natCast_emod, -Int.natCast_ediv, -Int.natCast_pow, Jb, Jc, Jd, Je, Jf, Jg, Jh, Ji, Jj, Jk, Jl, Jm, Jn, Jo, Jp, Jq, Jr, Js, Jt, Ju, Jv, Jw, Jx, Jy, Jz]
  (first | refine .inl ⟨_, f4, ?_⟩ | refine ⟨_, f4, ?_⟩)
  simp (maxSteps := 2000000) -implicitDefEqProofs [-List.map_set, Ja, -Int.natCast_add, -Int.natCast_mul, -Int.natCast_emod, -Int.natCast_ediv, -Int.natCast_pow, Jb, Jc, Jd, Je, Jf, Jg, Jh, Ji, Jj, Jk, Jl, Jm, Jn, Jo, Jp, Jq, Jr, Js, Jt, Ju, Jv, Jw, Jx, Jy, Jz]
  (first | refine .inl ⟨_, e4, ?_⟩ | refine ⟨_, e4, ?_⟩)
  simp (maxSteps := 2000000) -implicitDefEqProofs [-List.map_set, Ja, -Int.natCast_add, -Int.natCast_mul, -Int.natCast_emod, -Int.natCast_ediv, -Int.natCast_pow, Jb, Jc, Jd, Je, Jf, Jg, Jh, Ji, Jj, Jk, Jl, Jm, Jn, Jo, Jp, Jq, Jr, Js, Jt, Ju, Jv, Jw, Jx, Jy, Jz]
  (first | refine .inl ⟨_, o3, ?_⟩ | refine ⟨_, o3, ?_⟩)
  simp (maxSteps := 2000000) -implicitDefEqProofs [-List.map_set, Ja, -Int.natCast_add, -Int.natCast_mul, -Int.natCast_emod, -Int.natCast_ediv, -Int.natCast_pow, Jb, Jc, Jd, Je, Jf, Jg, Jh, Ji, Jj, Jk, Jl, Jm, Jn, Jo, Jp, Jq, Jr, Js, Jt, Ju, Jv, Jw, Jx, Jy, Jz]
  (first | refine .inl ⟨_, o4, ?_⟩ | refine ⟨_, o4, ?_⟩)
  simp (maxSteps := 2000000) -implicitDefEqProofs [-List.map_set, Ja, -Int.natCast_add, -Int.natCast_mul, -Int.natCast_emod, -Int.natCast_ediv, -Int.natCast_pow, Jb, Jc, Jd, Je, Jf, Jg, Jh, Ji, Jj, Jk, Jl, Jm, Jn, Jo, Jp, Jq, Jr, Js, Jt, Ju, Jv, Jw, Jx, Jy, Jz]
  (first | refine .inl ⟨_, o5, ?_⟩ | refine ⟨_, o5, ?_⟩)
  simp (maxSteps := 2000000) -implicitDefEqProofs [-List.map_set, Ja, -Int.natCast_add, -Int.natCast_mul, -Int.natCast_emod, -Int.natCast_ediv, -Int.natCast_pow, Jb, Jc, Jd, Je, Jf, Jg, Jh, Ji, Jj, Jk, Jl, Jm, Jn, Jo, Jp, Jq, Jr, Js, Jt, Ju, Jv, Jw, Jx, Jy, Jz]
  (first | refine .inl ⟨_, a28, ?_⟩ | refine ⟨_, a28, ?_⟩)
  simp (maxSteps := 2000000) -implicitDefEqProofs [-List.map_set, Ja, -Int.natCast_add, -Int.natCast_mul, -Int.natCast_emod, -Int.natCast_ediv, -Int.natCast_pow, Jb, Jc, Jd, Je, Jf, Jg, Jh, Ji, Jj, Jk, Jl, Jm, Jn, Jo, Jp, Jq, Jr, Js, Jt, Ju, Jv, Jw, Jx, Jy, Jz, i64]

end Go.Va
