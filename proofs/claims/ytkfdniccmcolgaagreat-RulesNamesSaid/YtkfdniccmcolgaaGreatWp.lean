/-
  Contracts: Apply and Follows, Name and Premises.
-/
import Derived.Test.YtkfdniccmcolgaaGreatWo
set_option linter.all false

namespace Go.Va
open Go.Proofs
set_option maxHeartbeats 4000000
set_option maxRecDepth 10000
set_option linter.unusedSimpArgs false
set_option linter.unusedVariables false

def factsL (L : List Fnd) : List Fct := L.map Fnd.fact
def allG (L : List Fnd) : List Grd := L.flatMap Fnd.grds
theorem allG_len {L : List Fnd} (h : FndOk L) : (allG L).length ≤ L.length * 10 := flat_le fun x hx => (h.sh x hx).1
theorem allG_sh {L : List Fnd} (h : FndOk L) : ∀ g ∈ allG L, g.Short := fun g hg => by
  obtain ⟨x, hx, hg⟩ := List.mem_flatMap.1 hg
  exact (h.sh x hx).2 g hg
@[simp] theorem grd_take (l : List Grd) : (l.flatMap Grd.ds).take (l.length * 2) = l.flatMap Grd.ds := List.take_of_length_le (by rw [grd_len]; omega)
@[simp] theorem grds_fold (l : List Grd) : D.slice l.length (l.flatMap Grd.ds) = grdsD l := rfl

@[simp] theorem src_grds (j : TI) (st : St) (l : List Grd) : St.src j (.d (grdsD l)) st = if l.length * 2 = l.length * j.size then some (l.length, l.flatMap Grd.ds) else none := by
  unfold grdsD St.src
  simp only [grd_len]

theorem FndOk.sub {L M : List Fnd} (h : FndOk L) (hs : M.Sublist L) : FndOk M := ⟨fun x hx => h.rt x (hs.subset hx), fun x hx => h.sh x (hs.subset hx), h.nd.sublist hs⟩

theorem apply_c (n : Int) (ps : List Fct) (L : List Fnd) (hL : FndOk L) (hln : L.length ≤ 100000000000) (hF : CallsF Tryz.prog 29 [.c (.int .i64 n), .c (fctsD ps)] (.u (.c (.d (fndsD L))))) :
    CallsF Tryz.prog 10 [.c (.int .i64 n), .c (fctsD ps)] (.tup [.c (.d (fctsD (factsL L))), .c (.d (grdsD (uniqG (allG L))))]) := by
  refine callsF_of (T := tb) tab_ok mixed Tryz.func10 rfl (by decide) (Nat.le_of_ble_eq_true rfl) rfl ?_; unfold St.init
  simp (config := { maxSteps := 2000000 }) -implicitDefEqProofs [-List.map_set, Ja, -Int.natCast_add, -Int.natCast_mul, -Int.natCast_emod, -Int.natCast_ediv, -Int.natCast_pow, Jb, Jc, Jd, Je, Jf, Jg, Jh, Ji, Jj, Jk, Jl, Jm, Jn, Jo, Jp, Jq, Jr, Js, Jt, Ju, Jv, Jw, Jx, Jy, Jz, -List.reduceReplicate]
  (first | refine .inl ⟨_, hF, ?_⟩ | refine ⟨_, hF, ?_⟩)
  simp (config := { maxSteps := 2000000 }) -implicitDefEqProofs [-List.map_set, Ja, -Int.natCast_add, -Int.natCast_mul, -Int.natCast_emod, -Int.natCast_ediv, -Int.natCast_pow, Jb, Jc, Jd, Je, Jf, Jg, Jh, Ji, Jj, Jk, Jl, Jm, Jn, Jo, Jp, Jq, Jr, Js, Jt, Ju, Jv, Jw, Jx, Jy, Jz, -List.reduceReplicate]
  refine wpLoop_by [(4, 20), (5, 24)] (fun i : Nat => ⟨[(12, vI .i64 i), (11, vI .i64 L.length), (10, vC (.d (fndsD L))), (4, vC (.sl 4 0 i)), (5, vC (.sl 5 0 (allG (L.take i)).length))],
    [(4, .row 5 ((factsL (L.take i)).flatMap Fct.ds) true), (5, .row 2 ((allG (L.take i)).flatMap Grd.ds) true)]⟩) (fun i => i ≤ L.length) (fun i => L.length - i) 0 (by simp [leL, lk, St.le, vI, vC, factsL, allG]) (by omega) ?_
  rintro i hi
  by_cases h : i < L.length
  · have e2 := fnd_drop h
    have hsub := allG_len (hL.sub (List.take_sublist (i + 1) L))
    rw [List.length_take] at hsub
    have e3 : allG (L.take (i + 1)) = allG (L.take i) ++ L[i].grds := by
      unfold allG
      rw [List.take_succ_eq_append_getElem h, List.flatMap_append]; simp
    have e4 : factsL (L.take (i + 1)) = factsL (L.take i) ++ [L[i].fact] := by
      unfold factsL
      rw [List.take_succ_eq_append_getElem h, List.map_append]; rfl
    have e5 : (factsL (L.take i)).length = i := by simp [factsL]; omega
    rw [e3, List.length_append] at hsub
    simp (config := { maxSteps := 2000000 }) -implicitDefEqProofs [-List.map_set, Ja, -Int.natCast_add, -Int.natCast_mul, -Int.natCast_emod, -Int.natCast_ediv, -Int.natCast_pow, Jb, Jc, Jd, Je, Jf, Jg, Jh, Ji, Jj, Jk, Jl, Jm, Jn, Jo, Jp, Jq, Jr, Js, Jt, Ju, Jv, Jw, Jx, Jy, Jz, -List.reduceReplicate, h, e2, e5]
    refine ⟨by omega, by omega, by omega, i + 1, ?_, by omega, by omega⟩
    simp (config := { maxSteps := 2000000 }) -implicitDefEqProofs [-List.map_set, Ja, -Int.natCast_add, -Int.natCast_mul, -Int.natCast_emod, -Int.natCast_ediv, -Int.natCast_pow, Jb, Jc, Jd, Je, Jf, Jg, Jh, Ji, Jj, Jk, Jl, Jm, Jn, Jo, Jp, Jq, Jr, Js, Jt, Ju, Jv, Jw, Jx, Jy, Jz, -List.reduceReplicate, leL, lk, e3, e4]
  · have hi2 : i = L.length := by omega
    subst hi2
    rw [List.take_length]
    have hl1 := allG_len hL
    have q := unique_c (allG L) (by omega) (allG_sh hL)
    simp (config := { maxSteps := 2000000 }) -implicitDefEqProofs [-List.map_set, Ja, -Int.natCast_add, -Int.natCast_mul, -Int.natCast_emod, -Int.natCast_ediv, -Int.natCast_pow, Jb, Jc, Jd, Je, Jf, Jg, Jh, Ji, Jj, Jk, Jl, Jm, Jn, Jo, Jp, Jq, Jr, Js, Jt, Ju, Jv, Jw, Jx, Jy, Jz, -List.reduceReplicate, h]
    refine .inr (.inr (.inr (.inr (.inr ⟨rfl, 5, (allG L).length, 2, _, _, (allG L).flatMap Grd.ds, _, _, [], rfl, by simp [lk], rfl, rfl, q, ?_⟩))))
    simp (config := { maxSteps := 2000000 }) -implicitDefEqProofs [-List.map_set, Ja, -Int.natCast_add, -Int.natCast_mul, -Int.natCast_emod, -Int.natCast_ediv, -Int.natCast_pow, Jb, Jc, Jd, Je, Jf, Jg, Jh, Ji, Jj, Jk, Jl, Jm, Jn, Jo, Jp, Jq, Jr, Js, Jt, Ju, Jv, Jw, Jx, Jy, Jz, -List.reduceReplicate, St.drop]
    have e : (factsL L).length = L.length := by simp [factsL]
    rw [← e, fct_take]
    exact ⟨Nat.le_refl _, rfl⟩

/-- The guards of the first fact that is not parted from 'F'. -/
def folG (L : List Fnd) (F : Fct) : List Grd × Bool := match L.find? (fun x => decide (cmpF x.fact F = 0)) with | some x => (x.grds, true) | none => ([], false)

theorem follows2_c (n : Int) (ps : List Fct) (f : Fct) (hf : f.Mild) (L : List Fnd) (hL : FndOk L) (hln : L.length ≤ 100000000000) (hF : CallsF Tryz.prog 29 [.c (.int .i64 n), .c (fctsD ps)] (.u (.c (.d (fndsD L))))) :
    CallsF Tryz.prog 14 [.c (.int .i64 n), .c (fctsD ps), .agg f.ds] (.tup (if (normF f).kind = 0 then [.c (.d (.slice 0 [])), .c (.d (.bool false))] else [.c (.d (grdsD (folG L (normF f)).1)), .c (.d (.bool (folG L (normF f)).2))])) := by
  have k1 := norm_c f hf
  have hrt := normF_rt (f := f) hf
  simp only [Fct.ds] at k1
  generalize normF f = F at *
  refine callsF_of (T := tb) tab_ok mixed Tryz.func14 rfl (by decide) (Nat.le_of_ble_eq_true rfl) rfl ?_; unfold St.init
  simp (config := { maxSteps := 2000000 }) -implicitDefEqProofs [-List.map_set, Ja, -Int.natCast_add, -Int.natCast_mul, -Int.natCast_emod, -Int.natCast_ediv, -Int.natCast_pow, Jb, Jc, Jd, Je, Jf, Jg, Jh, Ji, Jj, Jk, Jl, Jm, Jn, Jo, Jp, Jq, Jr, Js, Jt, Ju, Jv, Jw, Jx, Jy, Jz, -List.reduceReplicate]
  (first | refine .inl ⟨_, k1, ?_⟩ | refine ⟨_, k1, ?_⟩)
  simp (config := { maxSteps := 2000000 }) -implicitDefEqProofs [-List.map_set, Ja, -Int.natCast_add, -Int.natCast_mul, -Int.natCast_emod, -Int.natCast_ediv, -Int.natCast_pow, Jb, Jc, Jd, Je, Jf, Jg, Jh, Ji, Jj, Jk, Jl, Jm, Jn, Jo, Jp, Jq, Jr, Js, Jt, Ju, Jv, Jw, Jx, Jy, Jz, -List.reduceReplicate, Fct.res]
  refine ⟨fun hk => ?_, fun hk => ?_⟩
  · rw [if_pos hk]
    simp (config := { maxSteps := 2000000 }) -implicitDefEqProofs [-List.map_set, Ja, -Int.natCast_add, -Int.natCast_mul, -Int.natCast_emod, -Int.natCast_ediv, -Int.natCast_pow, Jb, Jc, Jd, Je, Jf, Jg, Jh, Ji, Jj, Jk, Jl, Jm, Jn, Jo, Jp, Jq, Jr, Js, Jt, Ju, Jv, Jw, Jx, Jy, Jz, -List.reduceReplicate]
  · have hrt := hrt hk
    rw [if_neg hk]
    (first | refine .inl ⟨_, hF, ?_⟩ | refine ⟨_, hF, ?_⟩)
    simp (config := { maxSteps := 2000000 }) -implicitDefEqProofs [-List.map_set, Ja, -Int.natCast_add, -Int.natCast_mul, -Int.natCast_emod, -Int.natCast_ediv, -Int.natCast_pow, Jb, Jc, Jd, Je, Jf, Jg, Jh, Ji, Jj, Jk, Jl, Jm, Jn, Jo, Jp, Jq, Jr, Js, Jt, Ju, Jv, Jw, Jx, Jy, Jz, -List.reduceReplicate]
    refine wpLoop_of (fun i : Nat => ⟨[(20, vI .i64 i), (19, vI .i64 L.length), (18, vC (.d (fndsD L))), (8, vC (.ptr 8 0))], [(8, .box [.d (.int .i64 F.kind), .d (intsD F.args), .d (.bool F.neg), .d (natD F.abs), .d (natD F.den)])]⟩)
      (fun i => i ≤ L.length ∧ folG (L.drop i) F = folG L F) (fun i => L.length - i) 0 (by simp [leL, lk, St.le, vI, vC]) ⟨by omega, rfl⟩ ?_
    rintro i ⟨hi, hg⟩
    by_cases h : i < L.length
    · have e2 := fnd_drop h
      have hx := hL.rt L[i] (List.getElem_mem h)
      have k2 := cmp_c L[i].fact F hx.mild hrt.mild hx.num hrt.num
      have e : folG (L.drop i) F = if cmpF L[i].fact F = 0 then (L[i].grds, true) else folG (L.drop (i + 1)) F := by
        unfold folG
        rw [List.drop_eq_getElem_cons h, List.find?_cons]
        by_cases h0 : cmpF L[i].fact F = 0 <;> simp [h0]
      simp only [Fct.ds] at k2
      rw [e] at hg
      by_cases h0 : cmpF L[i].fact F = 0
      · rw [if_pos h0] at hg
        rw [← hg]
        simp (config := { maxSteps := 2000000 }) -implicitDefEqProofs [-List.map_set, Ja, -Int.natCast_add, -Int.natCast_mul, -Int.natCast_emod, -Int.natCast_ediv, -Int.natCast_pow, Jb, Jc, Jd, Je, Jf, Jg, Jh, Ji, Jj, Jk, Jl, Jm, Jn, Jo, Jp, Jq, Jr, Js, Jt, Ju, Jv, Jw, Jx, Jy, Jz, -List.reduceReplicate, h, e2]
        (first | refine .inl ⟨_, k2, ?_⟩ | refine ⟨_, k2, ?_⟩)
        simp (config := { maxSteps := 2000000 }) -implicitDefEqProofs [-List.map_set, Ja, -Int.natCast_add, -Int.natCast_mul, -Int.natCast_emod, -Int.natCast_ediv, -Int.natCast_pow, Jb, Jc, Jd, Je, Jf, Jg, Jh, Ji, Jj, Jk, Jl, Jm, Jn, Jo, Jp, Jq, Jr, Js, Jt, Ju, Jv, Jw, Jx, Jy, Jz, -List.reduceReplicate, h0]
      · rw [if_neg h0] at hg
        simp (config := { maxSteps := 2000000 }) -implicitDefEqProofs [-List.map_set, Ja, -Int.natCast_add, -Int.natCast_mul, -Int.natCast_emod, -Int.natCast_ediv, -Int.natCast_pow, Jb, Jc, Jd, Je, Jf, Jg, Jh, Ji, Jj, Jk, Jl, Jm, Jn, Jo, Jp, Jq, Jr, Js, Jt, Ju, Jv, Jw, Jx, Jy, Jz, -List.reduceReplicate, h, e2]
        (first | refine .inl ⟨_, k2, ?_⟩ | refine ⟨_, k2, ?_⟩)
        simp (config := { maxSteps := 2000000 }) -implicitDefEqProofs [-List.map_set, Ja, -Int.natCast_add, -Int.natCast_mul, -Int.natCast_emod, -Int.natCast_ediv, -Int.natCast_pow, Jb, Jc, Jd, Je, Jf, Jg, Jh, Ji, Jj, Jk, Jl, Jm, Jn, Jo, Jp, Jq, Jr, Js, Jt, Ju, Jv, Jw, Jx, Jy, Jz, -List.reduceReplicate, h0]
        exact ⟨by omega, ⟨by omega, hg⟩, by omega⟩
    · have hi2 : i = L.length := by omega
      subst hi2
      have e : folG L F = ([], false) := by rw [← hg, List.drop_length]; rfl
      rw [e]
      simp (config := { maxSteps := 2000000 }) -implicitDefEqProofs [-List.map_set, Ja, -Int.natCast_add, -Int.natCast_mul, -Int.natCast_emod, -Int.natCast_ediv, -Int.natCast_pow, Jb, Jc, Jd, Je, Jf, Jg, Jh, Ji, Jj, Jk, Jl, Jm, Jn, Jo, Jp, Jq, Jr, Js, Jt, Ju, Jv, Jw, Jx, Jy, Jz, -List.reduceReplicate, h]
      rfl

theorem name_c (n : Int) : CallsF Tryz.prog 16 [.c (.int .i64 n)] (.u (.c (.d (.str (bs (if n = 0 then [103, 105, 118, 101, 110] else (rulT n).name)))))) := by
  have k1 := ruleOf_c n
  generalize rulT n = r at *
  simp only [Rul.res, Rul.ds, patsD] at k1
  refine callsF_of (T := tb) tab_ok mixed Tryz.func16 rfl (by decide) (Nat.le_of_ble_eq_true rfl) rfl ?_; unfold St.init
  by_cases h : n = 0
  · simp (config := { maxSteps := 2000000 }) -implicitDefEqProofs [-List.map_set, Ja, -Int.natCast_add, -Int.natCast_mul, -Int.natCast_emod, -Int.natCast_ediv, -Int.natCast_pow, Jb, Jc, Jd, Je, Jf, Jg, Jh, Ji, Jj, Jk, Jl, Jm, Jn, Jo, Jp, Jq, Jr, Js, Jt, Ju, Jv, Jw, Jx, Jy, Jz, -List.reduceReplicate, h]
    rfl
  · simp (config := { maxSteps := 2000000 }) -implicitDefEqProofs [-List.map_set, Ja, -Int.natCast_add, -Int.natCast_mul, -Int.natCast_emod, -Int.natCast_ediv, -Int.natCast_pow, Jb, Jc, Jd, Je, Jf, Jg, Jh, Ji, Jj, Jk, Jl, Jm, Jn, Jo, Jp, Jq, Jr, Js, Jt, Ju, Jv, Jw, Jx, Jy, Jz, -List.reduceReplicate, h]
    (first | refine .inl ⟨_, k1, ?_⟩ | refine ⟨_, k1, ?_⟩)
    simp (config := { maxSteps := 2000000 }) -implicitDefEqProofs [-List.map_set, Ja, -Int.natCast_add, -Int.natCast_mul, -Int.natCast_emod, -Int.natCast_ediv, -Int.natCast_pow, Jb, Jc, Jd, Je, Jf, Jg, Jh, Ji, Jj, Jk, Jl, Jm, Jn, Jo, Jp, Jq, Jr, Js, Jt, Ju, Jv, Jw, Jx, Jy, Jz, -List.reduceReplicate]

theorem premises_c (n : Int) : CallsF Tryz.prog 18 [.c (.int .i64 n)] (.u (.c (.d (.int .i64 (if n = 0 then 0 else if (rulT n).name = [] then -1 else (rulT n).count))))) := by
  have k1 := ruleOf_c n
  generalize rulT n = r at *
  simp only [Rul.res, Rul.ds, patsD] at k1
  refine callsF_of (T := tb) tab_ok mixed Tryz.func18 rfl (by decide) (Nat.le_of_ble_eq_true rfl) rfl ?_; unfold St.init
  by_cases h : n = 0
  · simp (config := { maxSteps := 2000000 }) -implicitDefEqProofs [-List.map_set, Ja, -Int.natCast_add, -Int.natCast_mul, -Int.natCast_emod, -Int.natCast_ediv, -Int.natCast_pow, Jb, Jc, Jd, Je, Jf, Jg, Jh, Ji, Jj, Jk, Jl, Jm, Jn, Jo, Jp, Jq, Jr, Js, Jt, Ju, Jv, Jw, Jx, Jy, Jz, -List.reduceReplicate, h]
  · simp (config := { maxSteps := 2000000 }) -implicitDefEqProofs [-List.map_set, Ja, -Int.natCast_add, -Int.natCast_mul, -Int.natCast_emod, -Int.natCast_ediv, -Int.natCast_pow, Jb, Jc, Jd, Je, Jf, Jg, Jh, Ji, Jj, Jk, Jl, Jm, Jn, Jo, Jp, Jq, Jr, Js, Jt, Ju, Jv, Jw, Jx, Jy, Jz, -List.reduceReplicate, h]
    (first | refine .inl ⟨_, k1, ?_⟩ | refine ⟨_, k1, ?_⟩)
    by_cases h1 : r.name = []
    · simp (config := { maxSteps := 2000000 }) -implicitDefEqProofs [-List.map_set, Ja, -Int.natCast_add, -Int.natCast_mul, -Int.natCast_emod, -Int.natCast_ediv, -Int.natCast_pow, Jb, Jc, Jd, Je, Jf, Jg, Jh, Ji, Jj, Jk, Jl, Jm, Jn, Jo, Jp, Jq, Jr, Js, Jt, Ju, Jv, Jw, Jx, Jy, Jz, -List.reduceReplicate, h1]
    · simp (config := { maxSteps := 2000000 }) -implicitDefEqProofs [-List.map_set, Ja, -Int.natCast_add, -Int.natCast_mul, -Int.natCast_emod, -Int.natCast_ediv, -Int.natCast_pow, Jb, Jc, Jd, Je, Jf, Jg, Jh, Ji, Jj, Jk, Jl, Jm, Jn, Jo, Jp, Jq, Jr, Js, Jt, Ju, Jv, Jw, Jx, Jy, Jz, -List.reduceReplicate, h1]

theorem count_c : CallsF Tryz.prog 20 [] (.u (.c (.d (.int .i64 28)))) := by
  refine callsF_of (T := tb) tab_ok mixed Tryz.func20 rfl (by decide) (Nat.le_of_ble_eq_true rfl) rfl ?_; unfold St.init
  simp (config := { maxSteps := 2000000 }) -implicitDefEqProofs [-List.map_set, Ja, -Int.natCast_add, -Int.natCast_mul, -Int.natCast_emod, -Int.natCast_ediv, -Int.natCast_pow, Jb, Jc, Jd, Je, Jf, Jg, Jh, Ji, Jj, Jk, Jl, Jm, Jn, Jo, Jp, Jq, Jr, Js, Jt, Ju, Jv, Jw, Jx, Jy, Jz, -List.reduceReplicate]
theorem refCount_c : CallsF Tryz.prog 21 [] (.u (.c (.d (.int .i64 28)))) := by
  refine callsF_of (T := tb) tab_ok mixed Tryz.func21 rfl (by decide) (Nat.le_of_ble_eq_true rfl) rfl ?_; unfold St.init
  simp (config := { maxSteps := 2000000 }) -implicitDefEqProofs [-List.map_set, Ja, -Int.natCast_add, -Int.natCast_mul, -Int.natCast_emod, -Int.natCast_ediv, -Int.natCast_pow, Jb, Jc, Jd, Je, Jf, Jg, Jh, Ji, Jj, Jk, Jl, Jm, Jn, Jo, Jp, Jq, Jr, Js, Jt, Ju, Jv, Jw, Jx, Jy, Jz, -List.reduceReplicate]

end Go.Va

/-
  Contracts: the document's table of rules. (printed by dev/rtab.py)
-/
namespace Go.Va
open Go.Proofs
set_option maxHeartbeats 4000000
set_option maxRecDepth 10000
set_option linter.unusedSimpArgs false
set_option linter.unusedVariables false

structure RPat where
  kind : Int
  letters : List UInt8
  seg : Bool
  num : Int
def RPat.ds (p : RPat) : List D := [.int .i64 p.kind, .str (bs p.letters), .bool p.seg, .int .i64 p.num]
theorem RPat.ds_len (p : RPat) : p.ds.length = 4 := rfl
def rpatsD (l : List RPat) : D := .slice l.length (l.flatMap RPat.ds)
structure RRul where
  name : List UInt8
  frm : List RPat
  to : List RPat
  guards : List RPat
def RRul.ds (r : RRul) : List D := [.str (bs r.name), rpatsD r.frm, rpatsD r.to, rpatsD r.guards]
def RRul.zero : RRul := ⟨[], [], [], []⟩
def RRul.res (r : RRul) : R := .u (.agg (r.ds.map .d))
def refN : Nat → RRul
  | 1 => ⟨[112, 97, 114, 97, 108, 108, 101, 108], [⟨2, [115, 116], true, 0⟩, ⟨2, [115, 117], true, 0⟩], [⟨2, [116, 117], true, 0⟩], [⟨1, [115], true, 0⟩]⟩
  | 2 => ⟨[112, 101, 114, 112, 101, 110, 100, 105, 99, 117, 108, 97, 114], [⟨2, [115, 116], true, 0⟩, ⟨3, [115, 117], true, 0⟩], [⟨3, [116, 117], true, 0⟩], [⟨1, [115], true, 0⟩]⟩
  | 3 => ⟨[110, 111, 114, 109, 97, 108, 115], [⟨3, [115, 116], true, 0⟩, ⟨3, [115, 117], true, 0⟩], [⟨2, [116, 117], true, 0⟩], [⟨1, [115], true, 0⟩]⟩
  | 4 => ⟨[108, 101, 110, 103, 116, 104, 115], [⟨9, [115, 116], true, 0⟩, ⟨9, [116, 117], true, 0⟩], [], []⟩
  | 5 => ⟨[109, 105, 100, 112, 111, 105, 110, 116], [⟨5, [109, 97, 98], false, 0⟩], [⟨1, [109, 97, 98], false, 0⟩, ⟨4, [109, 97, 109, 98], false, 0⟩, ⟨9, [97, 98, 109, 97], false, 4⟩], []⟩
  | 6 => ⟨[109, 105, 100, 108, 105, 110, 101], [⟨5, [109, 97, 98], false, 0⟩, ⟨5, [110, 97, 99], false, 0⟩], [⟨2, [109, 110, 98, 99], false, 0⟩, ⟨9, [98, 99, 109, 110], false, 4⟩], []⟩
  | 7 => ⟨[100, 105, 97, 103, 111, 110, 97, 108, 115], [⟨5, [109, 97, 98], false, 0⟩, ⟨5, [109, 99, 100], false, 0⟩], [⟨2, [97, 99, 98, 100], false, 0⟩, ⟨4, [97, 99, 98, 100], false, 0⟩], []⟩
  | 8 => ⟨[117, 110, 105, 113, 117, 101], [⟨5, [109, 97, 98], false, 0⟩, ⟨5, [110, 97, 98], false, 0⟩], [⟨8, [109, 110], false, 0⟩], []⟩
  | 9 => ⟨[115, 117, 98, 115, 116, 105, 116, 117, 116, 105, 111, 110], [⟨8, [97, 98], false, 0⟩, ⟨0, [], false, 0⟩], [], []⟩
  | 10 => ⟨[101, 113, 117, 105, 100, 105, 115, 116, 97, 110, 116], [⟨4, [112, 97, 112, 98], false, 0⟩, ⟨4, [113, 97, 113, 98], false, 0⟩], [⟨3, [97, 98, 112, 113], false, 0⟩], []⟩
  | 11 => ⟨[99, 105, 114, 99, 108, 101], [⟨4, [111, 97, 111, 98], false, 0⟩, ⟨4, [111, 97, 111, 99], false, 0⟩, ⟨4, [111, 97, 111, 100], false, 0⟩], [⟨6, [97, 98, 99, 100], false, 0⟩], []⟩
  | 12 => ⟨[99, 111, 110, 99, 121, 99, 108, 105, 99], [⟨6, [97, 98, 99, 100], false, 0⟩, ⟨6, [97, 98, 99, 101], false, 0⟩], [⟨6, [97, 98, 100, 101], false, 0⟩], [⟨2, [97, 98, 99], false, 0⟩]⟩
  | 13 => ⟨[105, 110, 115, 99, 114, 105, 98, 101, 100], [⟨6, [97, 98, 99, 100], false, 0⟩], [⟨7, [99, 97, 99, 98, 100, 97, 100, 98], false, 0⟩], []⟩
  | 14 => ⟨[97, 114, 99], [⟨7, [99, 97, 99, 98, 100, 97, 100, 98], false, 0⟩], [⟨6, [97, 98, 99, 100], false, 0⟩], []⟩
  | 15 => ⟨[115, 117, 109, 115], [⟨7, [117, 115, 116, 118], true, 0⟩, ⟨7, [115, 119, 120, 116], true, 0⟩], [⟨7, [117, 119, 120, 118], true, 0⟩], [⟨1, [115], true, 0⟩, ⟨1, [116], true, 0⟩]⟩
  | 16 => ⟨[100, 105, 102, 102, 101, 114, 101, 110, 99, 101, 115], [⟨7, [115, 116, 117, 118], true, 0⟩, ⟨7, [115, 116, 119, 120], true, 0⟩], [⟨7, [119, 117, 120, 118], true, 0⟩], [⟨1, [115], true, 0⟩, ⟨1, [116], true, 0⟩]⟩
  | 17 => ⟨[100, 105, 114, 101, 99, 116, 105, 111, 110, 115], [⟨7, [115, 117, 118, 119], true, 0⟩, ⟨2, [115, 116], true, 0⟩], [⟨7, [116, 117, 118, 119], true, 0⟩], [⟨1, [115], true, 0⟩]⟩
  | 18 => ⟨[100, 105, 97, 109, 101, 116, 101, 114], [⟨3, [99, 97, 99, 98], false, 0⟩, ⟨3, [100, 97, 100, 98], false, 0⟩], [⟨6, [97, 98, 99, 100], false, 0⟩], []⟩
  | 19 => ⟨[99, 97, 110, 99, 101, 108], [⟨7, [115, 115, 116, 117], true, 0⟩], [⟨2, [116, 117], true, 0⟩], [⟨1, [115], true, 0⟩]⟩
  | 20 => ⟨[114, 105, 103, 104, 116], [⟨7, [115, 116, 117, 118], true, 0⟩, ⟨3, [115, 116], true, 0⟩], [⟨3, [117, 118], true, 0⟩], [⟨1, [115], true, 0⟩, ⟨1, [116], true, 0⟩]⟩
  | 21 => ⟨[105, 115, 111, 115, 99, 101, 108, 101, 115], [⟨4, [111, 97, 111, 98], false, 0⟩], [⟨7, [111, 97, 97, 98, 97, 98, 111, 98], false, 0⟩], []⟩
  | 22 => ⟨[98, 97, 115, 101], [⟨7, [111, 97, 97, 98, 97, 98, 111, 98], false, 0⟩], [⟨4, [111, 97, 111, 98], false, 0⟩], [⟨2, [111, 97, 98], false, 0⟩]⟩
  | 23 => ⟨[116, 104, 97, 108, 101, 115], [⟨5, [111, 97, 98], false, 0⟩, ⟨4, [111, 97, 111, 99], false, 0⟩], [⟨3, [99, 97, 99, 98], false, 0⟩], []⟩
  | 24 => ⟨[104, 121, 112, 111, 116, 101, 110, 117, 115, 101], [⟨5, [109, 97, 98], false, 0⟩, ⟨3, [99, 97, 99, 98], false, 0⟩], [⟨4, [109, 97, 109, 99], false, 0⟩], []⟩
  | 25 => ⟨[98, 105, 115, 101, 99, 116, 111, 114], [⟨5, [109, 97, 98], false, 0⟩, ⟨3, [109, 99, 97, 98], false, 0⟩], [⟨4, [99, 97, 99, 98], false, 0⟩], []⟩
  | 26 => ⟨[115, 105, 100, 101], [⟨5, [109, 97, 98], false, 0⟩, ⟨2, [109, 110, 98, 99], false, 0⟩, ⟨1, [97, 110, 99], false, 0⟩], [⟨5, [110, 97, 99], false, 0⟩], [⟨2, [97, 98, 99], false, 0⟩]⟩
  | 27 => ⟨[112, 97, 114, 97, 108, 108, 101, 108, 111, 103, 114, 97, 109], [⟨2, [97, 98, 99, 100], false, 0⟩, ⟨2, [97, 99, 98, 100], false, 0⟩], [⟨4, [97, 98, 99, 100], false, 0⟩, ⟨4, [97, 99, 98, 100], false, 0⟩], [⟨2, [97, 98, 99], false, 0⟩]⟩
  | 28 => ⟨[109, 105, 100, 100, 108, 101], [⟨1, [109, 97, 98], false, 0⟩, ⟨4, [109, 97, 109, 98], false, 0⟩], [⟨5, [109, 97, 98], false, 0⟩], [⟨1, [97, 98], false, 0⟩]⟩
  | _ => .zero

theorem seg_c (k : Int) (s : ByteArray) : CallsF Tryz.prog 152 [.c (.int .i64 k), .c (.str s)] (.u (.agg [.d (.int .i64 k), .d (.str s), .d (.bool true), .d (.int .i64 0)])) := by
  refine callsF_of (T := tb) tab_ok mixed Tryz.func152 rfl (by decide) (Nat.le_of_ble_eq_true rfl) rfl ?_; unfold St.init
  simp (config := { maxSteps := 2000000 }) -implicitDefEqProofs [-List.map_set, Ja, -Int.natCast_add, -Int.natCast_mul, -Int.natCast_emod, -Int.natCast_ediv, -Int.natCast_pow, Jb, Jc, Jd, Je, Jf, Jg, Jh, Ji, Jj, Jk, Jl, Jm, Jn, Jo, Jp, Jq, Jr, Js, Jt, Ju, Jv, Jw, Jx, Jy, Jz]
theorem pts_c (k : Int) (s : ByteArray) : CallsF Tryz.prog 153 [.c (.int .i64 k), .c (.str s)] (.u (.agg [.d (.int .i64 k), .d (.str s), .d (.bool false), .d (.int .i64 0)])) := by
  refine callsF_of (T := tb) tab_ok mixed Tryz.func153 rfl (by decide) (Nat.le_of_ble_eq_true rfl) rfl ?_; unfold St.init
  simp (config := { maxSteps := 2000000 }) -implicitDefEqProofs [-List.map_set, Ja, -Int.natCast_add, -Int.natCast_mul, -Int.natCast_emod, -Int.natCast_ediv, -Int.natCast_pow, Jb, Jc, Jd, Je, Jf, Jg, Jh, Ji, Jj, Jk, Jl, Jm, Jn, Jo, Jp, Jq, Jr, Js, Jt, Ju, Jv, Jw, Jx, Jy, Jz]
theorem four_c (s : ByteArray) : CallsF Tryz.prog 154 [.c (.str s)] (.u (.agg [.d (.int .i64 9), .d (.str s), .d (.bool false), .d (.int .i64 4)])) := by
  refine callsF_of (T := tb) tab_ok mixed Tryz.func154 rfl (by decide) (Nat.le_of_ble_eq_true rfl) rfl ?_; unfold St.init
  simp (config := { maxSteps := 2000000 }) -implicitDefEqProofs [-List.map_set, Ja, -Int.natCast_add, -Int.natCast_mul, -Int.natCast_emod, -Int.natCast_ediv, -Int.natCast_pow, Jb, Jc, Jd, Je, Jf, Jg, Jh, Ji, Jj, Jk, Jl, Jm, Jn, Jo, Jp, Jq, Jr, Js, Jt, Ju, Jv, Jw, Jx, Jy, Jz]

theorem lower_c (n : Int) : CallsF Tryz.prog 78 [.c (.int .i64 n)] (RRul.res (if 1 ≤ n ∧ n ≤ 14 then refN n.toNat else .zero)) := by
  refine callsF_of (T := tb) tab_ok mixed Tryz.func78 rfl (by decide) (Nat.le_of_ble_eq_true rfl) rfl ?_; unfold St.init
  simp (config := { maxSteps := 2000000 }) -implicitDefEqProofs [-List.map_set, Ja, -Int.natCast_add, -Int.natCast_mul, -Int.natCast_emod, -Int.natCast_ediv, -Int.natCast_pow, Jb, Jc, Jd, Je, Jf, Jg, Jh, Ji, Jj, Jk, Jl, Jm, Jn, Jo, Jp, Jq, Jr, Js, Jt, Ju, Jv, Jw, Jx, Jy, Jz]
  repeat ((first | refine .inl ⟨_, seg_c _ _, ?_⟩ | refine .inl ⟨_, pts_c _ _, ?_⟩); simp (config := { maxSteps := 2000000 }) -implicitDefEqProofs [-List.map_set, Ja, -Int.natCast_add, -Int.natCast_mul, -Int.natCast_emod, -Int.natCast_ediv, -Int.natCast_pow, Jb, Jc, Jd, Je, Jf, Jg, Jh, Ji, Jj, Jk, Jl, Jm, Jn, Jo, Jp, Jq, Jr, Js, Jt, Ju, Jv, Jw, Jx, Jy, Jz])
  by_cases h1 : n = 1
  · subst h1
    simp (config := { maxSteps := 2000000 }) -implicitDefEqProofs [-List.map_set, Ja, -Int.natCast_add, -Int.natCast_mul, -Int.natCast_emod, -Int.natCast_ediv, -Int.natCast_pow, Jb, Jc, Jd, Je, Jf, Jg, Jh, Ji, Jj, Jk, Jl, Jm, Jn, Jo, Jp, Jq, Jr, Js, Jt, Ju, Jv, Jw, Jx, Jy, Jz]
    repeat ((first | refine .inl ⟨_, seg_c _ _, ?_⟩ | refine .inl ⟨_, pts_c _ _, ?_⟩ | refine .inl ⟨_, four_c _, ?_⟩); simp (config := { maxSteps := 2000000 }) -implicitDefEqProofs [-List.map_set, Ja, -Int.natCast_add, -Int.natCast_mul, -Int.natCast_emod, -Int.natCast_ediv, -Int.natCast_pow, Jb, Jc, Jd, Je, Jf, Jg, Jh, Ji, Jj, Jk, Jl, Jm, Jn, Jo, Jp, Jq, Jr, Js, Jt, Ju, Jv, Jw, Jx, Jy, Jz])
    try simp [RRul.res, RRul.ds, refN, rpatsD, RPat.ds, bs]
    try rfl
  by_cases h2 : n = 2
  · subst h2
    simp (config := { maxSteps := 2000000 }) -implicitDefEqProofs [-List.map_set, Ja, -Int.natCast_add, -Int.natCast_mul, -Int.natCast_emod, -Int.natCast_ediv, -Int.natCast_pow, Jb, Jc, Jd, Je, Jf, Jg, Jh, Ji, Jj, Jk, Jl, Jm, Jn, Jo, Jp, Jq, Jr, Js, Jt, Ju, Jv, Jw, Jx, Jy, Jz]
    repeat ((first | refine .inl ⟨_, seg_c _ _, ?_⟩ | refine .inl ⟨_, pts_c _ _, ?_⟩ | refine .inl ⟨_, four_c _, ?_⟩); simp (config := { maxSteps := 2000000 }) -implicitDefEqProofs [-List.map_set, Ja, -Int.natCast_add, -Int.natCast_mul, -Int.natCast_emod, -Int.natCast_ediv, -Int.natCast_pow, Jb, Jc, Jd, Je, Jf, Jg, Jh, Ji, Jj, Jk, Jl, Jm, Jn, Jo, Jp, Jq, Jr, Js, Jt, Ju, Jv, Jw, Jx, Jy, Jz])
    try simp [RRul.res, RRul.ds, refN, rpatsD, RPat.ds, bs]
    try rfl
  by_cases h3 : n = 3
  · subst h3
    simp (config := { maxSteps := 2000000 }) -implicitDefEqProofs [-List.map_set, Ja, -Int.natCast_add, -Int.natCast_mul, -Int.natCast_emod, -Int.natCast_ediv, -Int.natCast_pow, Jb, Jc, Jd, Je, Jf, Jg, Jh, Ji, Jj, Jk, Jl, Jm, Jn, Jo, Jp, Jq, Jr, Js, Jt, Ju, Jv, Jw, Jx, Jy, Jz]
    repeat ((first | refine .inl ⟨_, seg_c _ _, ?_⟩ | refine .inl ⟨_, pts_c _ _, ?_⟩ | refine .inl ⟨_, four_c _, ?_⟩); simp (config := { maxSteps := 2000000 }) -implicitDefEqProofs [-List.map_set, Ja, -Int.natCast_add, -Int.natCast_mul, -Int.natCast_emod, -Int.natCast_ediv, -Int.natCast_pow, Jb, Jc, Jd, Je, Jf, Jg, Jh, Ji, Jj, Jk, Jl, Jm, Jn, Jo, Jp, Jq, Jr, Js, Jt, Ju, Jv, Jw, Jx, Jy, Jz])
    try simp [RRul.res, RRul.ds, refN, rpatsD, RPat.ds, bs]
    try rfl
  by_cases h4 : n = 4
  · subst h4
    simp (config := { maxSteps := 2000000 }) -implicitDefEqProofs [-List.map_set, Ja, -Int.natCast_add, -Int.natCast_mul, -Int.natCast_emod, -Int.natCast_ediv, -Int.natCast_pow, Jb, Jc, Jd, Je, Jf, Jg, Jh, Ji, Jj, Jk, Jl, Jm, Jn, Jo, Jp, Jq, Jr, Js, Jt, Ju, Jv, Jw, Jx, Jy, Jz]
    repeat ((first | refine .inl ⟨_, seg_c _ _, ?_⟩ | refine .inl ⟨_, pts_c _ _, ?_⟩ | refine .inl ⟨_, four_c _, ?_⟩); simp (config := { maxSteps := 2000000 }) -implicitDefEqProofs [-List.map_set, Ja, -Int.natCast_add, -Int.natCast_mul, -Int.natCast_emod, -Int.natCast_ediv, -Int.natCast_pow, Jb, Jc, Jd, Je, Jf, Jg, Jh, Ji, Jj, Jk, Jl, Jm, Jn, Jo, Jp, Jq, Jr, Js, Jt, Ju, Jv, Jw, Jx, Jy, Jz])
    try simp [RRul.res, RRul.ds, refN, rpatsD, RPat.ds, bs]
    try rfl
  by_cases h5 : n = 5
  · subst h5
    simp (config := { maxSteps := 2000000 }) -implicitDefEqProofs [-List.map_set, Ja, -Int.natCast_add, -Int.natCast_mul, -Int.natCast_emod, -Int.natCast_ediv, -Int.natCast_pow, Jb, Jc, Jd, Je, Jf, Jg, Jh, Ji, Jj, Jk, Jl, Jm, Jn, Jo, Jp, Jq, Jr, Js, Jt, Ju, Jv, Jw, Jx, Jy, Jz]
    repeat ((first | refine .inl ⟨_, seg_c _ _, ?_⟩ | refine .inl ⟨_, pts_c _ _, ?_⟩ | refine .inl ⟨_, four_c _, ?_⟩); simp (config := { maxSteps := 2000000 }) -implicitDefEqProofs [-List.map_set, Ja, -Int.natCast_add, -Int.natCast_mul, -Int.natCast_emod, -Int.natCast_ediv, -Int.natCast_pow, Jb, Jc, Jd, Je, Jf, Jg, Jh, Ji, Jj, Jk, Jl, Jm, Jn, Jo, Jp, Jq, Jr, Js, Jt, Ju, Jv, Jw, Jx, Jy, Jz])
    try simp [RRul.res, RRul.ds, refN, rpatsD, RPat.ds, bs]
    try rfl
  by_cases h6 : n = 6
  · subst h6
    simp (config := { maxSteps := 2000000 }) -implicitDefEqProofs [-List.map_set, Ja, -Int.natCast_add, -Int.natCast_mul, -Int.natCast_emod, -Int.natCast_ediv, -Int.natCast_pow, Jb, Jc, Jd, Je, Jf, Jg, Jh, Ji, Jj, Jk, Jl, Jm, Jn, Jo, Jp, Jq, Jr, Js, Jt, Ju, Jv, Jw, Jx, Jy, Jz]
    repeat ((first | refine .inl ⟨_, seg_c _ _, ?_⟩ | refine .inl ⟨_, pts_c _ _, ?_⟩ | refine .inl ⟨_, four_c _, ?_⟩); simp (config := { maxSteps := 2000000 }) -implicitDefEqProofs [-List.map_set, Ja, -Int.natCast_add, -Int.natCast_mul, -Int.natCast_emod, -Int.natCast_ediv, -Int.natCast_pow, Jb, Jc, Jd, Je, Jf, Jg, Jh, Ji, Jj, Jk, Jl, Jm, Jn, Jo, Jp, Jq, Jr, Js, Jt, Ju, Jv, Jw, Jx, Jy, Jz])
    try simp [RRul.res, RRul.ds, refN, rpatsD, RPat.ds, bs]
    try rfl
  by_cases h7 : n = 7
  · subst h7
    simp (config := { maxSteps := 2000000 }) -implicitDefEqProofs [-List.map_set, Ja, -Int.natCast_add, -Int.natCast_mul, -Int.natCast_emod, -Int.natCast_ediv, -Int.natCast_pow, Jb, Jc, Jd, Je, Jf, Jg, Jh, Ji, Jj, Jk, Jl, Jm, Jn, Jo, Jp, Jq, Jr, Js, Jt, Ju, Jv, Jw, Jx, Jy, Jz]
    repeat ((first | refine .inl ⟨_, seg_c _ _, ?_⟩ | refine .inl ⟨_, pts_c _ _, ?_⟩ | refine .inl ⟨_, four_c _, ?_⟩); simp (config := { maxSteps := 2000000 }) -implicitDefEqProofs [-List.map_set, Ja, -Int.natCast_add, -Int.natCast_mul, -Int.natCast_emod, -Int.natCast_ediv, -Int.natCast_pow, Jb, Jc, Jd, Je, Jf, Jg, Jh, Ji, Jj, Jk, Jl, Jm, Jn, Jo, Jp, Jq, Jr, Js, Jt, Ju, Jv, Jw, Jx, Jy, Jz])
    try simp [RRul.res, RRul.ds, refN, rpatsD, RPat.ds, bs]
    try rfl
  by_cases h8 : n = 8
  · subst h8
    simp (config := { maxSteps := 2000000 }) -implicitDefEqProofs [-List.map_set, Ja, -Int.natCast_add, -Int.natCast_mul, -Int.natCast_emod, -Int.natCast_ediv, -Int.natCast_pow, Jb, Jc, Jd, Je, Jf, Jg, Jh, Ji, Jj, Jk, Jl, Jm, Jn, Jo, Jp, Jq, Jr, Js, Jt, Ju, Jv, Jw, Jx, Jy, Jz]
    repeat ((first | refine .inl ⟨_, seg_c _ _, ?_⟩ | refine .inl ⟨_, pts_c _ _, ?_⟩ | refine .inl ⟨_, four_c _, ?_⟩); simp (config := { maxSteps := 2000000 }) -implicitDefEqProofs [-List.map_set, Ja, -Int.natCast_add, -Int.natCast_mul, -Int.natCast_emod, -Int.natCast_ediv, -Int.natCast_pow, Jb, Jc, Jd, Je, Jf, Jg, Jh, Ji, Jj, Jk, Jl, Jm, Jn, Jo, Jp, Jq, Jr, Js, Jt, Ju, Jv, Jw, Jx, Jy, Jz])
    try simp [RRul.res, RRul.ds, refN, rpatsD, RPat.ds, bs]
    try rfl
  by_cases h9 : n = 9
  · subst h9
    simp (config := { maxSteps := 2000000 }) -implicitDefEqProofs [-List.map_set, Ja, -Int.natCast_add, -Int.natCast_mul, -Int.natCast_emod, -Int.natCast_ediv, -Int.natCast_pow, Jb, Jc, Jd, Je, Jf, Jg, Jh, Ji, Jj, Jk, Jl, Jm, Jn, Jo, Jp, Jq, Jr, Js, Jt, Ju, Jv, Jw, Jx, Jy, Jz]
    repeat ((first | refine .inl ⟨_, seg_c _ _, ?_⟩ | refine .inl ⟨_, pts_c _ _, ?_⟩ | refine .inl ⟨_, four_c _, ?_⟩); simp (config := { maxSteps := 2000000 }) -implicitDefEqProofs [-List.map_set, Ja, -Int.natCast_add, -Int.natCast_mul, -Int.natCast_emod, -Int.natCast_ediv, -Int.natCast_pow, Jb, Jc, Jd, Je, Jf, Jg, Jh, Ji, Jj, Jk, Jl, Jm, Jn, Jo, Jp, Jq, Jr, Js, Jt, Ju, Jv, Jw, Jx, Jy, Jz])
    try simp [RRul.res, RRul.ds, refN, rpatsD, RPat.ds, bs]
    try rfl
  by_cases h10 : n = 10
  · subst h10
    simp (config := { maxSteps := 2000000 }) -implicitDefEqProofs [-List.map_set, Ja, -Int.natCast_add, -Int.natCast_mul, -Int.natCast_emod, -Int.natCast_ediv, -Int.natCast_pow, Jb, Jc, Jd, Je, Jf, Jg, Jh, Ji, Jj, Jk, Jl, Jm, Jn, Jo, Jp, Jq, Jr, Js, Jt, Ju, Jv, Jw, Jx, Jy, Jz]
    repeat ((first | refine .inl ⟨_, seg_c _ _, ?_⟩ | refine .inl ⟨_, pts_c _ _, ?_⟩ | refine .inl ⟨_, four_c _, ?_⟩); simp (config := { maxSteps := 2000000 }) -implicitDefEqProofs [-List.map_set, Ja, -Int.natCast_add, -Int.natCast_mul, -Int.natCast_emod, -Int.natCast_ediv, -Int.natCast_pow, Jb, Jc, Jd, Je, Jf, Jg, Jh, Ji, Jj, Jk, Jl, Jm, Jn, Jo, Jp, Jq, Jr, Js, Jt, Ju, Jv, Jw, Jx, Jy, Jz])
    try simp [RRul.res, RRul.ds, refN, rpatsD, RPat.ds, bs]
    try rfl
  by_cases h11 : n = 11
  · subst h11
    simp (config := { maxSteps := 2000000 }) -implicitDefEqProofs [-List.map_set, Ja, -Int.natCast_add, -Int.natCast_mul, -Int.natCast_emod, -Int.natCast_ediv, -Int.natCast_pow, Jb, Jc, Jd, Je, Jf, Jg, Jh, Ji, Jj, Jk, Jl, Jm, Jn, Jo, Jp, Jq, Jr, Js, Jt, Ju, Jv, Jw, Jx, Jy, Jz]
    repeat ((first | refine .inl ⟨_, seg_c _ _, ?_⟩ | refine .inl ⟨_, pts_c _ _, ?_⟩ | refine .inl ⟨_, four_c _, ?_⟩); simp (config := { maxSteps := 2000000 }) -implicitDefEqProofs [-List.map_set, Ja, -Int.natCast_add, -Int.natCast_mul, -Int.natCast_emod, -Int.natCast_ediv, -Int.natCast_pow, Jb, Jc, Jd, Je, Jf, Jg, Jh, Ji, Jj, Jk, Jl, Jm, Jn, Jo, Jp, Jq, Jr, Js, Jt, Ju, Jv, Jw, Jx, Jy, Jz])
    try simp [RRul.res, RRul.ds, refN, rpatsD, RPat.ds, bs]
    try rfl
  by_cases h12 : n = 12
  · subst h12
    simp (config := { maxSteps := 2000000 }) -implicitDefEqProofs [-List.map_set, Ja, -Int.natCast_add, -Int.natCast_mul, -Int.natCast_emod, -Int.natCast_ediv, -Int.natCast_pow, Jb, Jc, Jd, Je, Jf, Jg, Jh, Ji, Jj, Jk, Jl, Jm, Jn, Jo, Jp, Jq, Jr, Js, Jt, Ju, Jv, Jw, Jx, Jy, Jz]
    repeat ((first | refine .inl ⟨_, seg_c _ _, ?_⟩ | refine .inl ⟨_, pts_c _ _, ?_⟩ | refine .inl ⟨_, four_c _, ?_⟩); simp (config := { maxSteps := 2000000 }) -implicitDefEqProofs [-List.map_set, Ja, -Int.natCast_add, -Int.natCast_mul, -Int.natCast_emod, -Int.natCast_ediv, -Int.natCast_pow, Jb, Jc, Jd, Je, Jf, Jg, Jh, Ji, Jj, Jk, Jl, Jm, Jn, Jo, Jp, Jq, Jr, Js, Jt, Ju, Jv, Jw, Jx, Jy, Jz])
    try simp [RRul.res, RRul.ds, refN, rpatsD, RPat.ds, bs]
    try rfl
  by_cases h13 : n = 13
  · subst h13
    simp (config := { maxSteps := 2000000 }) -implicitDefEqProofs [-List.map_set, Ja, -Int.natCast_add, -Int.natCast_mul, -Int.natCast_emod, -Int.natCast_ediv, -Int.natCast_pow, Jb, Jc, Jd, Je, Jf, Jg, Jh, Ji, Jj, Jk, Jl, Jm, Jn, Jo, Jp, Jq, Jr, Js, Jt, Ju, Jv, Jw, Jx, Jy, Jz]
    repeat ((first | refine .inl ⟨_, seg_c _ _, ?_⟩ | refine .inl ⟨_, pts_c _ _, ?_⟩ | refine .inl ⟨_, four_c _, ?_⟩); simp (config := { maxSteps := 2000000 }) -implicitDefEqProofs [-List.map_set, Ja, -Int.natCast_add, -Int.natCast_mul, -Int.natCast_emod, -Int.natCast_ediv, -Int.natCast_pow, Jb, Jc, Jd, Je, Jf, Jg, Jh, Ji, Jj, Jk, Jl, Jm, Jn, Jo, Jp, Jq, Jr, Js, Jt, Ju, Jv, Jw, Jx, Jy, Jz])
    try simp [RRul.res, RRul.ds, refN, rpatsD, RPat.ds, bs]
    try rfl
  by_cases h14 : n = 14
  · subst h14
    simp (config := { maxSteps := 2000000 }) -implicitDefEqProofs [-List.map_set, Ja, -Int.natCast_add, -Int.natCast_mul, -Int.natCast_emod, -Int.natCast_ediv, -Int.natCast_pow, Jb, Jc, Jd, Je, Jf, Jg, Jh, Ji, Jj, Jk, Jl, Jm, Jn, Jo, Jp, Jq, Jr, Js, Jt, Ju, Jv, Jw, Jx, Jy, Jz]
    repeat ((first | refine .inl ⟨_, seg_c _ _, ?_⟩ | refine .inl ⟨_, pts_c _ _, ?_⟩ | refine .inl ⟨_, four_c _, ?_⟩); simp (config := { maxSteps := 2000000 }) -implicitDefEqProofs [-List.map_set, Ja, -Int.natCast_add, -Int.natCast_mul, -Int.natCast_emod, -Int.natCast_ediv, -Int.natCast_pow, Jb, Jc, Jd, Je, Jf, Jg, Jh, Ji, Jj, Jk, Jl, Jm, Jn, Jo, Jp, Jq, Jr, Js, Jt, Ju, Jv, Jw, Jx, Jy, Jz])
    try simp [RRul.res, RRul.ds, refN, rpatsD, RPat.ds, bs]
    try rfl
  have hz : ¬ (1 ≤ n ∧ n ≤ 14) := by omega
  rw [if_neg hz]
  simp (config := { maxSteps := 2000000 }) -implicitDefEqProofs [-List.map_set, Ja, -Int.natCast_add, -Int.natCast_mul, -Int.natCast_emod, -Int.natCast_ediv, -Int.natCast_pow, Jb, Jc, Jd, Je, Jf, Jg, Jh, Ji, Jj, Jk, Jl, Jm, Jn, Jo, Jp, Jq, Jr, Js, Jt, Ju, Jv, Jw, Jx, Jy, Jz, h1, h2, h3, h4, h5, h6, h7, h8, h9, h10, h11, h12, h13, h14]
  try simp [RRul.res, RRul.ds, RRul.zero, rpatsD, bs]
  try rfl

end Go.Va

/-
  Contracts: the document's table of rules, second half; names and numbers of premises.
-/
namespace Go.Va
open Go.Proofs
set_option maxHeartbeats 4000000
set_option maxRecDepth 10000
set_option linter.unusedSimpArgs false
set_option linter.unusedVariables false

theorem upper_c (n : Int) : CallsF Tryz.prog 79 [.c (.int .i64 n)] (RRul.res (if 15 ≤ n ∧ n ≤ 28 then refN n.toNat else .zero)) := by
  refine callsF_of (T := tb) tab_ok mixed Tryz.func79 rfl (by decide) (Nat.le_of_ble_eq_true rfl) rfl ?_; unfold St.init
  simp (config := { maxSteps := 2000000 }) -implicitDefEqProofs [-List.map_set, Ja, -Int.natCast_add, -Int.natCast_mul, -Int.natCast_emod, -Int.natCast_ediv, -Int.natCast_pow, Jb, Jc, Jd, Je, Jf, Jg, Jh, Ji, Jj, Jk, Jl, Jm, Jn, Jo, Jp, Jq, Jr, Js, Jt, Ju, Jv, Jw, Jx, Jy, Jz]
  repeat ((first | refine .inl ⟨_, seg_c _ _, ?_⟩ | refine .inl ⟨_, pts_c _ _, ?_⟩); simp (config := { maxSteps := 2000000 }) -implicitDefEqProofs [-List.map_set, Ja, -Int.natCast_add, -Int.natCast_mul, -Int.natCast_emod, -Int.natCast_ediv, -Int.natCast_pow, Jb, Jc, Jd, Je, Jf, Jg, Jh, Ji, Jj, Jk, Jl, Jm, Jn, Jo, Jp, Jq, Jr, Js, Jt, Ju, Jv, Jw, Jx, Jy, Jz])
  by_cases h15 : n = 15
  · subst h15
    simp (config := { maxSteps := 2000000 }) -implicitDefEqProofs [-List.map_set, Ja, -Int.natCast_add, -Int.natCast_mul, -Int.natCast_emod, -Int.natCast_ediv, -Int.natCast_pow, Jb, Jc, Jd, Je, Jf, Jg, Jh, Ji, Jj, Jk, Jl, Jm, Jn, Jo, Jp, Jq, Jr, Js, Jt, Ju, Jv, Jw, Jx, Jy, Jz]
    repeat ((first | refine .inl ⟨_, seg_c _ _, ?_⟩ | refine .inl ⟨_, pts_c _ _, ?_⟩ | refine .inl ⟨_, four_c _, ?_⟩ | refine ⟨_, seg_c _ _, ?_⟩ | refine ⟨_, pts_c _ _, ?_⟩); simp (config := { maxSteps := 2000000 }) -implicitDefEqProofs [-List.map_set, Ja, -Int.natCast_add, -Int.natCast_mul, -Int.natCast_emod, -Int.natCast_ediv, -Int.natCast_pow, Jb, Jc, Jd, Je, Jf, Jg, Jh, Ji, Jj, Jk, Jl, Jm, Jn, Jo, Jp, Jq, Jr, Js, Jt, Ju, Jv, Jw, Jx, Jy, Jz])
    try simp [RRul.res, RRul.ds, refN, rpatsD, RPat.ds, bs]
    try rfl
  by_cases h16 : n = 16
  · subst h16
    simp (config := { maxSteps := 2000000 }) -implicitDefEqProofs [-List.map_set, Ja, -Int.natCast_add, -Int.natCast_mul, -Int.natCast_emod, -Int.natCast_ediv, -Int.natCast_pow, Jb, Jc, Jd, Je, Jf, Jg, Jh, Ji, Jj, Jk, Jl, Jm, Jn, Jo, Jp, Jq, Jr, Js, Jt, Ju, Jv, Jw, Jx, Jy, Jz]
    repeat ((first | refine .inl ⟨_, seg_c _ _, ?_⟩ | refine .inl ⟨_, pts_c _ _, ?_⟩ | refine .inl ⟨_, four_c _, ?_⟩ | refine ⟨_, seg_c _ _, ?_⟩ | refine ⟨_, pts_c _ _, ?_⟩); simp (config := { maxSteps := 2000000 }) -implicitDefEqProofs [-List.map_set, Ja, -Int.natCast_add, -Int.natCast_mul, -Int.natCast_emod, -Int.natCast_ediv, -Int.natCast_pow, Jb, Jc, Jd, Je, Jf, Jg, Jh, Ji, Jj, Jk, Jl, Jm, Jn, Jo, Jp, Jq, Jr, Js, Jt, Ju, Jv, Jw, Jx, Jy, Jz])
    try simp [RRul.res, RRul.ds, refN, rpatsD, RPat.ds, bs]
    try rfl
  by_cases h17 : n = 17
  · subst h17
    simp (config := { maxSteps := 2000000 }) -implicitDefEqProofs [-List.map_set, Ja, -Int.natCast_add, -Int.natCast_mul, -Int.natCast_emod, -Int.natCast_ediv, -Int.natCast_pow, Jb, Jc, Jd, Je, Jf, Jg, Jh, Ji, Jj, Jk, Jl, Jm, Jn, Jo, Jp, Jq, Jr, Js, Jt, Ju, Jv, Jw, Jx, Jy, Jz]
    refine wpDraw_by [[], [0], [0, 1], [0, 1], [0, 1, 3], [], [5], [0, 1, 2, 3, 4, 5, 6], [0, 1, 2, 3, 4, 5, 6, 7]] [.any [] [30, 32] [⟨0, [], [], [30, 32], []⟩, ⟨0, [], [], [30, 32], []⟩, ⟨1, [28, 29], [32], [32], []⟩, ⟨0, [], [30], [30, 32], []⟩, ⟨1, [31], [30], [30], []⟩, ⟨0, [3], [30, 32], [30, 32], []⟩, ⟨0, [33], [30, 32], [30, 32], []⟩], .one, .one] (by rfl) ?_
    simp (config := { maxSteps := 2000000 }) -implicitDefEqProofs [-List.map_set, Ja, -Int.natCast_add, -Int.natCast_mul, -Int.natCast_emod, -Int.natCast_ediv, -Int.natCast_pow, Jb, Jc, Jd, Je, Jf, Jg, Jh, Ji, Jj, Jk, Jl, Jm, Jn, Jo, Jp, Jq, Jr, Js, Jt, Ju, Jv, Jw, Jx, Jy, Jz]
    repeat ((first | refine .inl ⟨_, seg_c _ _, ?_⟩ | refine .inl ⟨_, pts_c _ _, ?_⟩ | refine .inl ⟨_, four_c _, ?_⟩ | refine ⟨_, seg_c _ _, ?_⟩ | refine ⟨_, pts_c _ _, ?_⟩); simp (config := { maxSteps := 2000000 }) -implicitDefEqProofs [-List.map_set, Ja, -Int.natCast_add, -Int.natCast_mul, -Int.natCast_emod, -Int.natCast_ediv, -Int.natCast_pow, Jb, Jc, Jd, Je, Jf, Jg, Jh, Ji, Jj, Jk, Jl, Jm, Jn, Jo, Jp, Jq, Jr, Js, Jt, Ju, Jv, Jw, Jx, Jy, Jz])
    try simp [RRul.res, RRul.ds, refN, rpatsD, RPat.ds, bs]
    try rfl
  by_cases h18 : n = 18
  · subst h18
    simp (config := { maxSteps := 2000000 }) -implicitDefEqProofs [-List.map_set, Ja, -Int.natCast_add, -Int.natCast_mul, -Int.natCast_emod, -Int.natCast_ediv, -Int.natCast_pow, Jb, Jc, Jd, Je, Jf, Jg, Jh, Ji, Jj, Jk, Jl, Jm, Jn, Jo, Jp, Jq, Jr, Js, Jt, Ju, Jv, Jw, Jx, Jy, Jz]
    repeat ((first | refine .inl ⟨_, seg_c _ _, ?_⟩ | refine .inl ⟨_, pts_c _ _, ?_⟩ | refine .inl ⟨_, four_c _, ?_⟩ | refine ⟨_, seg_c _ _, ?_⟩ | refine ⟨_, pts_c _ _, ?_⟩); simp (config := { maxSteps := 2000000 }) -implicitDefEqProofs [-List.map_set, Ja, -Int.natCast_add, -Int.natCast_mul, -Int.natCast_emod, -Int.natCast_ediv, -Int.natCast_pow, Jb, Jc, Jd, Je, Jf, Jg, Jh, Ji, Jj, Jk, Jl, Jm, Jn, Jo, Jp, Jq, Jr, Js, Jt, Ju, Jv, Jw, Jx, Jy, Jz])
    try simp [RRul.res, RRul.ds, refN, rpatsD, RPat.ds, bs]
    try rfl
  by_cases h19 : n = 19
  · subst h19
    simp (config := { maxSteps := 2000000 }) -implicitDefEqProofs [-List.map_set, Ja, -Int.natCast_add, -Int.natCast_mul, -Int.natCast_emod, -Int.natCast_ediv, -Int.natCast_pow, Jb, Jc, Jd, Je, Jf, Jg, Jh, Ji, Jj, Jk, Jl, Jm, Jn, Jo, Jp, Jq, Jr, Js, Jt, Ju, Jv, Jw, Jx, Jy, Jz]
    refine wpDraw_by [[], [0], [0], [0, 2], [], [4], [0, 1, 2, 3, 4, 5], [0, 1, 2, 3, 4, 5, 6]] [.any [] [47, 49] [⟨0, [], [], [47, 49], []⟩, ⟨1, [46], [49], [49], []⟩, ⟨0, [], [47], [47, 49], []⟩, ⟨1, [48], [47], [47], []⟩, ⟨0, [3], [47, 49], [47, 49], []⟩, ⟨0, [50], [47, 49], [47, 49], []⟩], .one, .one] (by rfl) ?_
    simp (config := { maxSteps := 2000000 }) -implicitDefEqProofs [-List.map_set, Ja, -Int.natCast_add, -Int.natCast_mul, -Int.natCast_emod, -Int.natCast_ediv, -Int.natCast_pow, Jb, Jc, Jd, Je, Jf, Jg, Jh, Ji, Jj, Jk, Jl, Jm, Jn, Jo, Jp, Jq, Jr, Js, Jt, Ju, Jv, Jw, Jx, Jy, Jz]
    repeat ((first | refine .inl ⟨_, seg_c _ _, ?_⟩ | refine .inl ⟨_, pts_c _ _, ?_⟩ | refine .inl ⟨_, four_c _, ?_⟩ | refine ⟨_, seg_c _ _, ?_⟩ | refine ⟨_, pts_c _ _, ?_⟩); simp (config := { maxSteps := 2000000 }) -implicitDefEqProofs [-List.map_set, Ja, -Int.natCast_add, -Int.natCast_mul, -Int.natCast_emod, -Int.natCast_ediv, -Int.natCast_pow, Jb, Jc, Jd, Je, Jf, Jg, Jh, Ji, Jj, Jk, Jl, Jm, Jn, Jo, Jp, Jq, Jr, Js, Jt, Ju, Jv, Jw, Jx, Jy, Jz])
    try simp [RRul.res, RRul.ds, refN, rpatsD, RPat.ds, bs]
    try rfl
  by_cases h20 : n = 20
  · subst h20
    simp (config := { maxSteps := 2000000 }) -implicitDefEqProofs [-List.map_set, Ja, -Int.natCast_add, -Int.natCast_mul, -Int.natCast_emod, -Int.natCast_ediv, -Int.natCast_pow, Jb, Jc, Jd, Je, Jf, Jg, Jh, Ji, Jj, Jk, Jl, Jm, Jn, Jo, Jp, Jq, Jr, Js, Jt, Ju, Jv, Jw, Jx, Jy, Jz]
    repeat ((first | refine .inl ⟨_, seg_c _ _, ?_⟩ | refine .inl ⟨_, pts_c _ _, ?_⟩ | refine .inl ⟨_, four_c _, ?_⟩ | refine ⟨_, seg_c _ _, ?_⟩ | refine ⟨_, pts_c _ _, ?_⟩); simp (config := { maxSteps := 2000000 }) -implicitDefEqProofs [-List.map_set, Ja, -Int.natCast_add, -Int.natCast_mul, -Int.natCast_emod, -Int.natCast_ediv, -Int.natCast_pow, Jb, Jc, Jd, Je, Jf, Jg, Jh, Ji, Jj, Jk, Jl, Jm, Jn, Jo, Jp, Jq, Jr, Js, Jt, Ju, Jv, Jw, Jx, Jy, Jz])
    try simp [RRul.res, RRul.ds, refN, rpatsD, RPat.ds, bs]
    try rfl
  by_cases h21 : n = 21
  · subst h21
    simp (config := { maxSteps := 2000000 }) -implicitDefEqProofs [-List.map_set, Ja, -Int.natCast_add, -Int.natCast_mul, -Int.natCast_emod, -Int.natCast_ediv, -Int.natCast_pow, Jb, Jc, Jd, Je, Jf, Jg, Jh, Ji, Jj, Jk, Jl, Jm, Jn, Jo, Jp, Jq, Jr, Js, Jt, Ju, Jv, Jw, Jx, Jy, Jz]
    repeat ((first | refine .inl ⟨_, seg_c _ _, ?_⟩ | refine .inl ⟨_, pts_c _ _, ?_⟩ | refine .inl ⟨_, four_c _, ?_⟩ | refine ⟨_, seg_c _ _, ?_⟩ | refine ⟨_, pts_c _ _, ?_⟩); simp (config := { maxSteps := 2000000 }) -implicitDefEqProofs [-List.map_set, Ja, -Int.natCast_add, -Int.natCast_mul, -Int.natCast_emod, -Int.natCast_ediv, -Int.natCast_pow, Jb, Jc, Jd, Je, Jf, Jg, Jh, Ji, Jj, Jk, Jl, Jm, Jn, Jo, Jp, Jq, Jr, Js, Jt, Ju, Jv, Jw, Jx, Jy, Jz])
    try simp [RRul.res, RRul.ds, refN, rpatsD, RPat.ds, bs]
    try rfl
  by_cases h22 : n = 22
  · subst h22
    simp (config := { maxSteps := 2000000 }) -implicitDefEqProofs [-List.map_set, Ja, -Int.natCast_add, -Int.natCast_mul, -Int.natCast_emod, -Int.natCast_ediv, -Int.natCast_pow, Jb, Jc, Jd, Je, Jf, Jg, Jh, Ji, Jj, Jk, Jl, Jm, Jn, Jo, Jp, Jq, Jr, Js, Jt, Ju, Jv, Jw, Jx, Jy, Jz]
    repeat ((first | refine .inl ⟨_, seg_c _ _, ?_⟩ | refine .inl ⟨_, pts_c _ _, ?_⟩ | refine .inl ⟨_, four_c _, ?_⟩ | refine ⟨_, seg_c _ _, ?_⟩ | refine ⟨_, pts_c _ _, ?_⟩); simp (config := { maxSteps := 2000000 }) -implicitDefEqProofs [-List.map_set, Ja, -Int.natCast_add, -Int.natCast_mul, -Int.natCast_emod, -Int.natCast_ediv, -Int.natCast_pow, Jb, Jc, Jd, Je, Jf, Jg, Jh, Ji, Jj, Jk, Jl, Jm, Jn, Jo, Jp, Jq, Jr, Js, Jt, Ju, Jv, Jw, Jx, Jy, Jz])
    try simp [RRul.res, RRul.ds, refN, rpatsD, RPat.ds, bs]
    try rfl
  by_cases h23 : n = 23
  · subst h23
    simp (config := { maxSteps := 2000000 }) -implicitDefEqProofs [-List.map_set, Ja, -Int.natCast_add, -Int.natCast_mul, -Int.natCast_emod, -Int.natCast_ediv, -Int.natCast_pow, Jb, Jc, Jd, Je, Jf, Jg, Jh, Ji, Jj, Jk, Jl, Jm, Jn, Jo, Jp, Jq, Jr, Js, Jt, Ju, Jv, Jw, Jx, Jy, Jz]
    repeat ((first | refine .inl ⟨_, seg_c _ _, ?_⟩ | refine .inl ⟨_, pts_c _ _, ?_⟩ | refine .inl ⟨_, four_c _, ?_⟩ | refine ⟨_, seg_c _ _, ?_⟩ | refine ⟨_, pts_c _ _, ?_⟩); simp (config := { maxSteps := 2000000 }) -implicitDefEqProofs [-List.map_set, Ja, -Int.natCast_add, -Int.natCast_mul, -Int.natCast_emod, -Int.natCast_ediv, -Int.natCast_pow, Jb, Jc, Jd, Je, Jf, Jg, Jh, Ji, Jj, Jk, Jl, Jm, Jn, Jo, Jp, Jq, Jr, Js, Jt, Ju, Jv, Jw, Jx, Jy, Jz])
    try simp [RRul.res, RRul.ds, refN, rpatsD, RPat.ds, bs]
    try rfl
  by_cases h24 : n = 24
  · subst h24
    simp (config := { maxSteps := 2000000 }) -implicitDefEqProofs [-List.map_set, Ja, -Int.natCast_add, -Int.natCast_mul, -Int.natCast_emod, -Int.natCast_ediv, -Int.natCast_pow, Jb, Jc, Jd, Je, Jf, Jg, Jh, Ji, Jj, Jk, Jl, Jm, Jn, Jo, Jp, Jq, Jr, Js, Jt, Ju, Jv, Jw, Jx, Jy, Jz]
    repeat ((first | refine .inl ⟨_, seg_c _ _, ?_⟩ | refine .inl ⟨_, pts_c _ _, ?_⟩ | refine .inl ⟨_, four_c _, ?_⟩ | refine ⟨_, seg_c _ _, ?_⟩ | refine ⟨_, pts_c _ _, ?_⟩); simp (config := { maxSteps := 2000000 }) -implicitDefEqProofs [-List.map_set, Ja, -Int.natCast_add, -Int.natCast_mul, -Int.natCast_emod, -Int.natCast_ediv, -Int.natCast_pow, Jb, Jc, Jd, Je, Jf, Jg, Jh, Ji, Jj, Jk, Jl, Jm, Jn, Jo, Jp, Jq, Jr, Js, Jt, Ju, Jv, Jw, Jx, Jy, Jz])
    try simp [RRul.res, RRul.ds, refN, rpatsD, RPat.ds, bs]
    try rfl
  by_cases h25 : n = 25
  · subst h25
    simp (config := { maxSteps := 2000000 }) -implicitDefEqProofs [-List.map_set, Ja, -Int.natCast_add, -Int.natCast_mul, -Int.natCast_emod, -Int.natCast_ediv, -Int.natCast_pow, Jb, Jc, Jd, Je, Jf, Jg, Jh, Ji, Jj, Jk, Jl, Jm, Jn, Jo, Jp, Jq, Jr, Js, Jt, Ju, Jv, Jw, Jx, Jy, Jz]
    repeat ((first | refine .inl ⟨_, seg_c _ _, ?_⟩ | refine .inl ⟨_, pts_c _ _, ?_⟩ | refine .inl ⟨_, four_c _, ?_⟩ | refine ⟨_, seg_c _ _, ?_⟩ | refine ⟨_, pts_c _ _, ?_⟩); simp (config := { maxSteps := 2000000 }) -implicitDefEqProofs [-List.map_set, Ja, -Int.natCast_add, -Int.natCast_mul, -Int.natCast_emod, -Int.natCast_ediv, -Int.natCast_pow, Jb, Jc, Jd, Je, Jf, Jg, Jh, Ji, Jj, Jk, Jl, Jm, Jn, Jo, Jp, Jq, Jr, Js, Jt, Ju, Jv, Jw, Jx, Jy, Jz])
    try simp [RRul.res, RRul.ds, refN, rpatsD, RPat.ds, bs]
    try rfl
  by_cases h26 : n = 26
  · subst h26
    simp (config := { maxSteps := 2000000 }) -implicitDefEqProofs [-List.map_set, Ja, -Int.natCast_add, -Int.natCast_mul, -Int.natCast_emod, -Int.natCast_ediv, -Int.natCast_pow, Jb, Jc, Jd, Je, Jf, Jg, Jh, Ji, Jj, Jk, Jl, Jm, Jn, Jo, Jp, Jq, Jr, Js, Jt, Ju, Jv, Jw, Jx, Jy, Jz]
    repeat ((first | refine .inl ⟨_, seg_c _ _, ?_⟩ | refine .inl ⟨_, pts_c _ _, ?_⟩ | refine .inl ⟨_, four_c _, ?_⟩ | refine ⟨_, seg_c _ _, ?_⟩ | refine ⟨_, pts_c _ _, ?_⟩); simp (config := { maxSteps := 2000000 }) -implicitDefEqProofs [-List.map_set, Ja, -Int.natCast_add, -Int.natCast_mul, -Int.natCast_emod, -Int.natCast_ediv, -Int.natCast_pow, Jb, Jc, Jd, Je, Jf, Jg, Jh, Ji, Jj, Jk, Jl, Jm, Jn, Jo, Jp, Jq, Jr, Js, Jt, Ju, Jv, Jw, Jx, Jy, Jz])
    try simp [RRul.res, RRul.ds, refN, rpatsD, RPat.ds, bs]
    try rfl
  by_cases h27 : n = 27
  · subst h27
    simp (config := { maxSteps := 2000000 }) -implicitDefEqProofs [-List.map_set, Ja, -Int.natCast_add, -Int.natCast_mul, -Int.natCast_emod, -Int.natCast_ediv, -Int.natCast_pow, Jb, Jc, Jd, Je, Jf, Jg, Jh, Ji, Jj, Jk, Jl, Jm, Jn, Jo, Jp, Jq, Jr, Js, Jt, Ju, Jv, Jw, Jx, Jy, Jz]
    repeat ((first | refine .inl ⟨_, seg_c _ _, ?_⟩ | refine .inl ⟨_, pts_c _ _, ?_⟩ | refine .inl ⟨_, four_c _, ?_⟩ | refine ⟨_, seg_c _ _, ?_⟩ | refine ⟨_, pts_c _ _, ?_⟩); simp (config := { maxSteps := 2000000 }) -implicitDefEqProofs [-List.map_set, Ja, -Int.natCast_add, -Int.natCast_mul, -Int.natCast_emod, -Int.natCast_ediv, -Int.natCast_pow, Jb, Jc, Jd, Je, Jf, Jg, Jh, Ji, Jj, Jk, Jl, Jm, Jn, Jo, Jp, Jq, Jr, Js, Jt, Ju, Jv, Jw, Jx, Jy, Jz])
    try simp [RRul.res, RRul.ds, refN, rpatsD, RPat.ds, bs]
    try rfl
  by_cases h28 : n = 28
  · subst h28
    simp (config := { maxSteps := 2000000 }) -implicitDefEqProofs [-List.map_set, Ja, -Int.natCast_add, -Int.natCast_mul, -Int.natCast_emod, -Int.natCast_ediv, -Int.natCast_pow, Jb, Jc, Jd, Je, Jf, Jg, Jh, Ji, Jj, Jk, Jl, Jm, Jn, Jo, Jp, Jq, Jr, Js, Jt, Ju, Jv, Jw, Jx, Jy, Jz]
    repeat ((first | refine .inl ⟨_, seg_c _ _, ?_⟩ | refine .inl ⟨_, pts_c _ _, ?_⟩ | refine .inl ⟨_, four_c _, ?_⟩ | refine ⟨_, seg_c _ _, ?_⟩ | refine ⟨_, pts_c _ _, ?_⟩); simp (config := { maxSteps := 2000000 }) -implicitDefEqProofs [-List.map_set, Ja, -Int.natCast_add, -Int.natCast_mul, -Int.natCast_emod, -Int.natCast_ediv, -Int.natCast_pow, Jb, Jc, Jd, Je, Jf, Jg, Jh, Ji, Jj, Jk, Jl, Jm, Jn, Jo, Jp, Jq, Jr, Js, Jt, Ju, Jv, Jw, Jx, Jy, Jz])
    try simp [RRul.res, RRul.ds, refN, rpatsD, RPat.ds, bs]
    try rfl
  have hz : ¬ (15 ≤ n ∧ n ≤ 28) := by omega
  rw [if_neg hz]
  simp (config := { maxSteps := 2000000 }) -implicitDefEqProofs [-List.map_set, Ja, -Int.natCast_add, -Int.natCast_mul, -Int.natCast_emod, -Int.natCast_ediv, -Int.natCast_pow, Jb, Jc, Jd, Je, Jf, Jg, Jh, Ji, Jj, Jk, Jl, Jm, Jn, Jo, Jp, Jq, Jr, Js, Jt, Ju, Jv, Jw, Jx, Jy, Jz, h15, h16, h17, h18, h19, h20, h21, h22, h23, h24, h25, h26, h27, h28]
  try simp [RRul.res, RRul.ds, RRul.zero, rpatsD, bs]
  try rfl

end Go.Va
