/-
  Contracts: Apply and Follows, Name and Premises.
-/
import Derived.Test.YtkfdniccmcolgaaGreatWo
set_option linter.all false

namespace Go.Va
open Go.Proofs
set_option maxHeartbeats 4000000
set_option maxRecDepth 10000
set_option linter.unusedSimpArgs false
set_option linter.unusedVariables false

def factsL (L : List Fnd) : List Fct := L.map Fnd.fact
def allG (L : List Fnd) : List Grd := L.flatMap Fnd.grds
theorem allG_len {L : List Fnd} (h : FndOk L) : (allG L).length ≤ L.length * 10 := flat_le fun x hx => (h.sh x hx).1
theorem allG_sh {L : List Fnd} (h : FndOk L) : ∀ g ∈ allG L, g.Short := fun g hg => by
  obtain ⟨x, hx, hg⟩ := List.mem_flatMap.1 hg
  exact (h.sh x hx).2 g hg
@[simp] theorem grd_take (l : List Grd) : (l.flatMap Grd.ds).take (l.length * 2) = l.flatMap Grd.ds := List.take_of_length_le (by rw [grd_len]; omega)
@[simp] theorem grds_fold (l : List Grd) : D.slice l.length (l.flatMap Grd.ds) = grdsD l := rfl

@[simp] theorem src_grds (j : TI) (st : St) (l : List Grd) : St.src j (.d (grdsD l)) st = if l.length * 2 = l.length * j.size then some (l.length, l.flatMap Grd.ds) else none := by
  unfold grdsD St.src
  simp only [grd_len]

theorem FndOk.sub {L M : List Fnd} (h : FndOk L) (hs : M.Sublist L) : FndOk M := ⟨fun x hx => h.rt x (hs.subset hx), fun x hx => h.sh x (hs.subset hx), h.nd.sublist hs⟩

theorem apply_c (n : Int) (ps : List Fct) (L : List Fnd) (hL : FndOk L) (hln : L.length ≤ 100000000000) (hF : CallsF Tryz.prog 29 [.c (.int .i64 n), .c (fctsD ps)] (.u (.c (.d (fndsD L))))) :
    CallsF Tryz.prog 10 [.c (.int .i64 n), .c (fctsD ps)] (.tup [.c (.d (fctsD (factsL L))), .c (.d (grdsD (uniqG (allG L))))]) := by
  refine callsF_of (T := tb) tab_ok mixed Tryz.func10 rfl (by decide) (Nat.le_of_ble_eq_true rfl) rfl ?_; unfold St.init
  simp (maxSteps := 2000000) -implicitDefEqProofs [-List.map_set, Ja, -Int.natCast_add, -Int.natCast_mul, -Int.natCast_emod, -Int.natCast_ediv, -Int.natCast_pow, Jb, Jc, Jd, Je, Jf, Jg, Jh, Ji, Jj, Jk, Jl, Jm, Jn, Jo, Jp, Jq, Jr, Js, Jt, Ju, Jv, Jw, Jx, Jy, Jz, -List.reduceReplicate]
  (first | refine .inl ⟨_, hF, ?_⟩ | refine ⟨_, hF, ?_⟩)
  simp (maxSteps := 2000000) -implicitDefEqProofs [-List.map_set, Ja, -Int.natCast_add, -Int.natCast_mul, -Int.natCast_emod, -Int.natCast_ediv, -Int.natCast_pow, Jb, Jc, Jd, Je, Jf, Jg, Jh, Ji, Jj, Jk, Jl, Jm, Jn, Jo, Jp, Jq, Jr, Js, Jt, Ju, Jv, Jw, Jx, Jy, Jz, -List.reduceReplicate]
  refine wpLoop_by [(4, 20), (5, 24)] (fun i : Nat => ⟨[(12, vI .i64 i), (11, vI .i64 L.length), (10, vC (.d (fndsD L))), (4, vC (.sl 4 0 i)), (5, vC (.sl 5 0 (allG (L.take i)).length))],
    [(4, .row 5 ((factsL (L.take i)).flatMap Fct.ds) true), (5, .row 2 ((allG (L.take i)).flatMap Grd.ds) true)]⟩) (fun i => i ≤ L.length) (fun i => L.length - i) 0 (by simp [leL, lk, St.le, vI, vC, factsL, allG]) (by omega) ?_
  rintro i hi
  by_cases h : i < L.length
  · have e2 := fnd_drop h
    have hsub := allG_len (hL.sub (List.take_sublist (i + 1) L))
    rw [List.length_take] at hsub
    have e3 : allG (L.take (i + 1)) = allG (L.take i) ++ L[i].grds := by
      unfold allG
      rw [List.take_succ_eq_append_getElem h, List.flatMap_append]; simp
    have e4 : factsL (L.take (i + 1)) = factsL (L.take i) ++ [L[i].fact] := by
      unfold factsL
      rw [List.take_succ_eq_append_getElem h, List.map_append]; rfl
    have e5 : (factsL (L.take i)).length = i := by simp [factsL]; omega
    rw [e3, List.length_append] at hsub
    simp (maxSteps := 2000000) -implicitDefEqProofs [-List.map_set, Ja, -Int.natCast_add, -Int.natCast_mul, -Int.natCast_emod, -Int.natCast_ediv, -Int.natCast_pow, Jb, Jc, Jd, Je, Jf, Jg, Jh, Ji, Jj, Jk, Jl, Jm, Jn, Jo, Jp, Jq, Jr, Js, Jt, Ju, Jv, Jw, Jx, Jy, Jz, -List.reduceReplicate, h, e2, e5]
    refine ⟨by omega, by omega, by omega, i + 1, ?_, by omega, by omega⟩
    simp (maxSteps := 2000000) -implicitDefEqProofs [-List.map_set, Ja, -Int.natCast_add, -Int.natCast_mul, -Int.natCast_emod, -Int.natCast_ediv, -Int.natCast_pow, Jb, Jc, Jd, Je, Jf, Jg, Jh, Ji, Jj, Jk, Jl, Jm, Jn, Jo, Jp, Jq, Jr, Js, Jt, Ju, Jv, Jw, Jx, Jy, Jz, -List.reduceReplicate, leL, lk, e3, e4]
  · have hi2 : i = L.length := by omega
    subst hi2
    rw [List.take_length]
    have hl1 := allG_len hL
    have q := unique_c (allG L) (by omega) (allG_sh hL)
    simp (maxSteps := 2000000) -implicitDefEqProofs [-List.map_set, Ja, -Int.natCast_add, -Int.natCast_mul, -Int.natCast_emod, -Int.natCast_ediv, -Int.natCast_pow, Jb, Jc, Jd, Je, Jf, Jg, Jh, Ji, Jj, Jk, Jl, Jm, Jn, Jo, Jp, Jq, Jr, Js, Jt, Ju, Jv, Jw, Jx, Jy, Jz, -List.reduceReplicate, h]
    refine .inr (.inr (.inr (.inr (.inr ⟨rfl, 5, (allG L).length, 2, _, _, (allG L).flatMap Grd.ds, _, _, [], rfl, by simp [lk], rfl, rfl, q, ?_⟩))))
    simp (maxSteps := 2000000) -implicitDefEqProofs [-List.map_set, Ja, -Int.natCast_add, -Int.natCast_mul, -Int.natCast_emod, -Int.natCast_ediv, -Int.natCast_pow, Jb, Jc, Jd, Je, Jf, Jg, Jh, Ji, Jj, Jk, Jl, Jm, Jn, Jo, Jp, Jq, Jr, Js, Jt, Ju, Jv, Jw, Jx, Jy, Jz, -List.reduceReplicate, St.drop]
    have e : (factsL L).length = L.length := by simp [factsL]
    rw [← e, fct_take]
    exact ⟨Nat.le_refl _, rfl⟩

/-- The guards of the first fact that is not parted from 'F'. -/
def folG (L : List Fnd) (F : Fct) : List Grd × Bool := match L.find? (fun x => decide (cmpF x.fact F = 0)) with | some x => (x.grds, true) | none => ([], false)

theorem follows2_c (n : Int) (ps : List Fct) (f : Fct) (hf : f.Mild) (L : List Fnd) (hL : FndOk L) (hln : L.length ≤ 100000000000) (hF : CallsF Tryz.prog 29 [.c (.int .i64 n), .c (fctsD ps)] (.u (.c (.d (fndsD L))))) :
    CallsF Tryz.prog 14 [.c (.int .i64 n), .c (fctsD ps), .agg f.ds] (.tup (if (normF f).kind = 0 then [.c (.d (.slice 0 [])), .c (.d (.bool false))] else [.c (.d (grdsD (folG L (normF f)).1)), .c (.d (.bool (folG L (normF f)).2))])) := by
  have k1 := norm_c f hf
  have hrt := normF_rt (f := f) hf
  simp only [Fct.ds] at k1
  generalize normF f = F at *
  refine callsF_of (T := tb) tab_ok mixed Tryz.func14 rfl (by decide) (Nat.le_of_ble_eq_true rfl) rfl ?_; unfold St.init
  simp (maxSteps := 2000000) -implicitDefEqProofs [-List.map_set, Ja, -Int.natCast_add, -Int.natCast_mul, -Int.natCast_emod, -Int.natCast_ediv, -Int.natCast_pow, Jb, Jc, Jd, Je, Jf, Jg, Jh, Ji, Jj, Jk, Jl, Jm, Jn, Jo, Jp, Jq, Jr, Js, Jt, Ju, Jv, Jw, Jx, Jy, Jz, -List.reduceReplicate]
  (first | refine .inl ⟨_, k1, ?_⟩ | refine ⟨_, k1, ?_⟩)
  simp (maxSteps := 2000000) -implicitDefEqProofs [-List.map_set, Ja, -Int.natCast_add, -Int.natCast_mul, -Int.natCast_emod, -Int.natCast_ediv, -Int.natCast_pow, Jb, Jc, Jd, Je, Jf, Jg, Jh, Ji, Jj, Jk, Jl, Jm, Jn, Jo, Jp, Jq, Jr, Js, Jt, Ju, Jv, Jw, Jx, Jy, Jz, -List.reduceReplicate, Fct.res]
  refine ⟨fun hk => ?_, fun hk => ?_⟩
  · rw [if_pos hk]
    simp (maxSteps := 2000000) -implicitDefEqProofs [-List.map_set, Ja, -Int.natCast_add, -Int.natCast_mul, -Int.natCast_emod, -Int.natCast_ediv, -Int.natCast_pow, Jb, Jc, Jd, Je, Jf, Jg, Jh, Ji, Jj, Jk, Jl, Jm, Jn, Jo, Jp, Jq, Jr, Js, Jt, Ju, Jv, Jw, Jx, Jy, Jz, -List.reduceReplicate]
  · have hrt := hrt hk
    rw [if_neg hk]
    (first | refine .inl ⟨_, hF, ?_⟩ | refine ⟨_, hF, ?_⟩)
    simp (maxSteps := 2000000) -implicitDefEqProofs [-List.map_set, Ja, -Int.natCast_add, -Int.natCast_mul, -Int.natCast_emod, -Int.natCast_ediv, -Int.natCast_pow, Jb, Jc, Jd, Je, Jf, Jg, Jh, Ji, Jj, Jk, Jl, Jm, Jn, Jo, Jp, Jq, Jr, Js, Jt, Ju, Jv, Jw, Jx, Jy, Jz, -List.reduceReplicate]
    refine wpLoop_of (fun i : Nat => ⟨[(20, vI .i64 i), (19, vI .i64 L.length), (18, vC (.d (fndsD L))), (8, vC (.ptr 8 0))], [(8, .box [.d (.int .i64 F.kind), .d (intsD F.args), .d (.bool F.neg), .d (natD F.abs), .d (natD F.den)])]⟩)
      (fun i => i ≤ L.length ∧ folG (L.drop i) F = folG L F) (fun i => L.length - i) 0 (by simp [leL, lk, St.le, vI, vC]) ⟨by omega, rfl⟩ ?_
    rintro i ⟨hi, hg⟩
    by_cases h : i < L.length
    · have e2 := fnd_drop h
      have hx := hL.rt L[i] (List.getElem_mem h)
      have k2 := cmp_c L[i].fact F hx.mild hrt.mild hx.num hrt.num
      have e : folG (L.drop i) F = if cmpF L[i].fact F = 0 then (L[i].grds, true) else folG (L.drop (i + 1)) F := by
        unfold folG
        rw [List.drop_eq_getElem_cons h, List.find?_cons]
        by_cases h0 : cmpF L[i].fact F = 0 <;> simp [h0]
      simp only [Fct.ds] at k2
      rw [e] at hg
      by_cases h0 : cmpF L[i].fact F = 0
      · rw [if_pos h0] at hg
        rw [← hg]
        simp (maxSteps := 2000000) -implicitDefEqProofs [-List.map_set, Ja, -Int.natCast_add, -Int.natCast_mul, -Int.natCast_emod, -Int.natCast_ediv, -Int.natCast_pow, Jb, Jc, Jd, Je, Jf, Jg, Jh, Ji, Jj, Jk, Jl, Jm, Jn, Jo, Jp, Jq, Jr, Js, Jt, Ju, Jv, Jw, Jx, Jy, Jz, -List.reduceReplicate, h, e2]
        (first | refine .inl ⟨_, k2, ?_⟩ | refine ⟨_, k2, ?_⟩)
        simp (maxSteps := 2000000) -implicitDefEqProofs [-List.map_set, Ja, -Int.natCast_add, -Int.natCast_mul, -Int.natCast_emod, -Int.natCast_ediv, -Int.natCast_pow, Jb, Jc, Jd, Je, Jf, Jg, Jh, Ji, Jj, Jk, Jl, Jm, Jn, Jo, Jp, Jq, Jr, Js, Jt, Ju, Jv, Jw, Jx, Jy, Jz, -List.reduceReplicate, h0]
      · rw [if_neg h0] at hg
        simp (maxSteps := 2000000) -implicitDefEqProofs [-List.map_set, Ja, -Int.natCast_add, -Int.natCast_mul, -Int.natCast_emod, -Int.natCast_ediv, -Int.natCast_pow, Jb, Jc, Jd, Je, Jf, Jg, Jh, Ji, Jj, Jk, Jl, Jm, Jn, Jo, Jp, Jq, Jr, Js, Jt, Ju, Jv, Jw, Jx, Jy, Jz, -List.reduceReplicate, h, e2]
        (first | refine .inl ⟨_, k2, ?_⟩ | refine ⟨_, k2, ?_⟩)
        simp (maxSteps := 2000000) -implicitDefEqProofs [-List.map_set, Ja, -Int.natCast_add, -Int.natCast_mul, -Int.natCast_emod, -Int.natCast_ediv, -Int.natCast_pow, Jb, Jc, Jd, Je, Jf, Jg, Jh, Ji, Jj, Jk, Jl, Jm, Jn, Jo, Jp, Jq, Jr, Js, Jt, Ju, Jv, Jw, Jx, Jy, Jz, -List.reduceReplicate, h0]
        exact ⟨by omega, ⟨by omega, hg⟩, by omega⟩
    · have hi2 : i = L.length := by omega
      subst hi2
      have e : folG L F = ([], false) := by rw [← hg, List.drop_length]; rfl
      rw [e]
      simp (maxSteps := 2000000) -implicitDefEqProofs [-List.map_set, Ja, -Int.natCast_add, -Int.natCast_mul, -Int.natCast_emod, -Int.natCast_ediv, -Int.natCast_pow, Jb, Jc, Jd, Je, Jf, Jg, Jh, Ji, Jj, Jk, Jl, Jm, Jn, Jo, Jp, Jq, Jr, Js, Jt, Ju, Jv, Jw, Jx, Jy, Jz, -List.reduceReplicate, h]
      rfl

theorem count_c : CallsF Tryz.prog 20 [] (.u (.c (.d (.int .i64 28)))) := by
  refine callsF_of (T := tb) tab_ok mixed Tryz.func20 rfl (by decide) (Nat.le_of_ble_eq_true rfl) rfl ?_; unfold St.init
  simp (maxSteps := 2000000) -implicitDefEqProofs [-List.map_set, Ja, -Int.natCast_add, -Int.natCast_mul, -Int.natCast_emod, -Int.natCast_ediv, -Int.natCast_pow, Jb, Jc, Jd, Je, Jf, Jg, Jh, Ji, Jj, Jk, Jl, Jm, Jn, Jo, Jp, Jq, Jr, Js, Jt, Ju, Jv, Jw, Jx, Jy, Jz, -List.reduceReplicate]
end Go.Va

/-
  Numbers sorted, in a way that can be computed.
-/
namespace Go.Va
open Go.Proofs
set_option maxHeartbeats 4000000
set_option maxRecDepth 10000
set_option linter.unusedSimpArgs false
set_option linter.unusedVariables false

def insI (a : Int) : List Int → List Int
  | [] => [a]
  | b :: l => if a ≤ b then a :: b :: l else b :: insI a l
def sortI : List Int → List Int
  | [] => []
  | a :: l => insI a (sortI l)
theorem insI_perm (a : Int) : ∀ l, (insI a l).Perm (a :: l)
  | [] => List.Perm.refl _
  | b :: l => by
    unfold insI
    split
    · exact List.Perm.refl _
    · exact ((insI_perm a l).cons b).trans (List.Perm.swap a b l)
theorem sortI_perm : ∀ l, (sortI l).Perm l
  | [] => List.Perm.refl _
  | a :: l => (insI_perm a _).trans ((sortI_perm l).cons a)
theorem insI_sorted (a : Int) : ∀ l : List Int, l.Pairwise (· ≤ ·) → (insI a l).Pairwise (· ≤ ·)
  | [], _ => by simp [insI]
  | b :: l, h => by
    rw [List.pairwise_cons] at h
    unfold insI
    split
    · rename_i hab
      rw [List.pairwise_cons, List.pairwise_cons]
      refine ⟨fun x hx => ?_, h.1, h.2⟩
      rcases List.mem_cons.1 hx with rfl | hx
      · exact hab
      · have := h.1 x hx; omega
    · rename_i hab
      rw [List.pairwise_cons]
      refine ⟨fun x hx => ?_, insI_sorted a l h.2⟩
      rcases List.mem_cons.1 ((insI_perm a l).mem_iff.1 hx) with rfl | hx
      · omega
      · exact h.1 x hx
theorem sortI_sorted : ∀ l : List Int, (sortI l).Pairwise (· ≤ ·)
  | [] => .nil
  | a :: l => insI_sorted a _ (sortI_sorted l)
theorem sortL_eq (l : List Int) : sortL l = sortI l := (sortL_of (sortI_perm l) (sortI_sorted l)).symm

def ptsI (b : Bnd) (p : Pat) : List Int := sortI (valsB b p.letters)
def guardsI (b : Bnd) (ps : List Pat) : List Grd := if ps.any (fun p => twice (ptsI b p)) then [] else uniqG (ps.map fun p => ⟨p.kind, ptsI b p⟩)
def endI (r : Rul) (b : Bnd) : List Fnew := if !r.guards.any (fun p => twice (ptsI b p)) then r.concl.map fun p => (conF b p, guardsI b r.guards) else []
theorem endP_eq (r : Rul) : endP r = endI r := by
  funext b
  have e : ptsOf b = ptsI b := funext fun p => sortL_eq _
  unfold endP endI guardsB guardsL guardsI guardOf
  rw [e]
theorem outF_eq (r : Rul) (nl : List Fct) : outF r nl = sortBy cmpN (runF nl [] (foundP (endI r) (ruleM r nl) nl.length 0 Bnd.zero)) := by
  unfold outF saysP
  rw [endP_eq]

end Go.Va
