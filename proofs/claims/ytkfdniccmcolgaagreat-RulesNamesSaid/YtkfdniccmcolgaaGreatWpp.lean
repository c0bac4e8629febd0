/-
  Contracts: the document's names and numbers of premises.
-/
import Derived.Test.YtkfdniccmcolgaaGreatWp
set_option linter.all false

namespace Go.Va
open Go.Proofs
set_option maxHeartbeats 4000000
set_option maxRecDepth 10000
set_option linter.unusedSimpArgs false
set_option linter.unusedVariables false

theorem refN_ge (n : Nat) (h : 28 < n) : refN n = .zero := by
  unfold refN
  split <;> first | omega | rfl
theorem get_c (n : Int) : CallsF Tryz.prog 38 [.c (.int .i64 n)] (refN n.toNat).res := by
  refine callsF_of (T := tb) tab_ok mixed Tryz.func38 rfl (by decide) (Nat.le_of_ble_eq_true rfl) rfl ?_; unfold St.init
  by_cases h : n ≤ 14
  · have k := lower_c n
    have e : (if 1 ≤ n ∧ n ≤ 14 then refN n.toNat else RRul.zero) = refN n.toNat := by
      split
      · rfl
      · rw [show n.toNat = 0 by omega]; rfl
    rw [e] at k
    generalize refN n.toNat = r at *
    simp only [RRul.res, RRul.ds, rpatsD] at *
    simp (config := { maxSteps := 2000000 }) -implicitDefEqProofs [-List.map_set, Ja, -Int.natCast_add, -Int.natCast_mul, -Int.natCast_emod, -Int.natCast_ediv, -Int.natCast_pow, Jb, Jc, Jd, Je, Jf, Jg, Jh, Ji, Jj, Jk, Jl, Jm, Jn, Jo, Jp, Jq, Jr, Js, Jt, Ju, Jv, Jw, Jx, Jy, Jz, h]
    (first | refine .inl ⟨_, k, ?_⟩ | refine ⟨_, k, ?_⟩)
    simp (config := { maxSteps := 2000000 }) -implicitDefEqProofs [-List.map_set, Ja, -Int.natCast_add, -Int.natCast_mul, -Int.natCast_emod, -Int.natCast_ediv, -Int.natCast_pow, Jb, Jc, Jd, Je, Jf, Jg, Jh, Ji, Jj, Jk, Jl, Jm, Jn, Jo, Jp, Jq, Jr, Js, Jt, Ju, Jv, Jw, Jx, Jy, Jz]
  · have k := upper_c n
    have e : (if 15 ≤ n ∧ n ≤ 28 then refN n.toNat else RRul.zero) = refN n.toNat := by
      split
      · rfl
      · rw [refN_ge n.toNat (by omega)]
    rw [e] at k
    generalize refN n.toNat = r at *
    simp only [RRul.res, RRul.ds, rpatsD] at *
    simp (config := { maxSteps := 2000000 }) -implicitDefEqProofs [-List.map_set, Ja, -Int.natCast_add, -Int.natCast_mul, -Int.natCast_emod, -Int.natCast_ediv, -Int.natCast_pow, Jb, Jc, Jd, Je, Jf, Jg, Jh, Ji, Jj, Jk, Jl, Jm, Jn, Jo, Jp, Jq, Jr, Js, Jt, Ju, Jv, Jw, Jx, Jy, Jz, h]
    (first | refine .inl ⟨_, k, ?_⟩ | refine ⟨_, k, ?_⟩)
    simp (config := { maxSteps := 2000000 }) -implicitDefEqProofs [-List.map_set, Ja, -Int.natCast_add, -Int.natCast_mul, -Int.natCast_emod, -Int.natCast_ediv, -Int.natCast_pow, Jb, Jc, Jd, Je, Jf, Jg, Jh, Ji, Jj, Jk, Jl, Jm, Jn, Jo, Jp, Jq, Jr, Js, Jt, Ju, Jv, Jw, Jx, Jy, Jz]

theorem refName_c (n : Int) : CallsF Tryz.prog 17 [.c (.int .i64 n)] (.u (.c (.d (.str (bs (if n = 0 then [103, 105, 118, 101, 110] else (refN n.toNat).name)))))) := by
  have k1 := get_c n
  generalize refN n.toNat = r at *
  simp only [RRul.res, RRul.ds, rpatsD] at k1
  refine callsF_of (T := tb) tab_ok mixed Tryz.func17 rfl (by decide) (Nat.le_of_ble_eq_true rfl) rfl ?_; unfold St.init
  by_cases h : n = 0
  · simp (config := { maxSteps := 2000000 }) -implicitDefEqProofs [-List.map_set, Ja, -Int.natCast_add, -Int.natCast_mul, -Int.natCast_emod, -Int.natCast_ediv, -Int.natCast_pow, Jb, Jc, Jd, Je, Jf, Jg, Jh, Ji, Jj, Jk, Jl, Jm, Jn, Jo, Jp, Jq, Jr, Js, Jt, Ju, Jv, Jw, Jx, Jy, Jz, -List.reduceReplicate, h]
    rfl
  · simp (config := { maxSteps := 2000000 }) -implicitDefEqProofs [-List.map_set, Ja, -Int.natCast_add, -Int.natCast_mul, -Int.natCast_emod, -Int.natCast_ediv, -Int.natCast_pow, Jb, Jc, Jd, Je, Jf, Jg, Jh, Ji, Jj, Jk, Jl, Jm, Jn, Jo, Jp, Jq, Jr, Js, Jt, Ju, Jv, Jw, Jx, Jy, Jz, -List.reduceReplicate, h]
    (first | refine .inl ⟨_, k1, ?_⟩ | refine ⟨_, k1, ?_⟩)
    simp (config := { maxSteps := 2000000 }) -implicitDefEqProofs [-List.map_set, Ja, -Int.natCast_add, -Int.natCast_mul, -Int.natCast_emod, -Int.natCast_ediv, -Int.natCast_pow, Jb, Jc, Jd, Je, Jf, Jg, Jh, Ji, Jj, Jk, Jl, Jm, Jn, Jo, Jp, Jq, Jr, Js, Jt, Ju, Jv, Jw, Jx, Jy, Jz, -List.reduceReplicate]

theorem refPremises_c (n : Int) : CallsF Tryz.prog 19 [.c (.int .i64 n)] (.u (.c (.d (.int .i64 (if n < 0 ∨ 28 < n then -1 else ((refN n.toNat).frm.length : Int)))))) := by
  have k1 := get_c n
  generalize refN n.toNat = r at *
  simp only [RRul.res, RRul.ds, rpatsD] at k1
  refine callsF_of (T := tb) tab_ok mixed Tryz.func19 rfl (by decide) (Nat.le_of_ble_eq_true rfl) rfl ?_; unfold St.init
  by_cases h : n < 0
  · simp (config := { maxSteps := 2000000 }) -implicitDefEqProofs [-List.map_set, Ja, -Int.natCast_add, -Int.natCast_mul, -Int.natCast_emod, -Int.natCast_ediv, -Int.natCast_pow, Jb, Jc, Jd, Je, Jf, Jg, Jh, Ji, Jj, Jk, Jl, Jm, Jn, Jo, Jp, Jq, Jr, Js, Jt, Ju, Jv, Jw, Jx, Jy, Jz, -List.reduceReplicate, h]
  · by_cases h2 : 28 < n
    · simp (config := { maxSteps := 2000000 }) -implicitDefEqProofs [-List.map_set, Ja, -Int.natCast_add, -Int.natCast_mul, -Int.natCast_emod, -Int.natCast_ediv, -Int.natCast_pow, Jb, Jc, Jd, Je, Jf, Jg, Jh, Ji, Jj, Jk, Jl, Jm, Jn, Jo, Jp, Jq, Jr, Js, Jt, Ju, Jv, Jw, Jx, Jy, Jz, -List.reduceReplicate, h, h2]
    · simp (config := { maxSteps := 2000000 }) -implicitDefEqProofs [-List.map_set, Ja, -Int.natCast_add, -Int.natCast_mul, -Int.natCast_emod, -Int.natCast_ediv, -Int.natCast_pow, Jb, Jc, Jd, Je, Jf, Jg, Jh, Ji, Jj, Jk, Jl, Jm, Jn, Jo, Jp, Jq, Jr, Js, Jt, Ju, Jv, Jw, Jx, Jy, Jz, -List.reduceReplicate, h, h2]
      (first | refine .inl ⟨_, k1, ?_⟩ | refine ⟨_, k1, ?_⟩)
      simp (config := { maxSteps := 2000000 }) -implicitDefEqProofs [-List.map_set, Ja, -Int.natCast_add, -Int.natCast_mul, -Int.natCast_emod, -Int.natCast_ediv, -Int.natCast_pow, Jb, Jc, Jd, Je, Jf, Jg, Jh, Ji, Jj, Jk, Jl, Jm, Jn, Jo, Jp, Jq, Jr, Js, Jt, Ju, Jv, Jw, Jx, Jy, Jz, -List.reduceReplicate]

theorem names_fin : ∀ n : Fin 29, (rulN n).name = (refN n).name ∧ (n ≠ 0 → (rulN n).name ≠ [] ∧ (rulN n).count + (rulN n).prem.length = (refN n).frm.length) := by decide +kernel
theorem names_eq (n : Int) : (rulT n).name = (refN n.toNat).name := by
  show (rulN n.toNat).name = _
  by_cases h : n.toNat < 29
  · exact (names_fin ⟨n.toNat, h⟩).1
  · rw [rulN_ge _ (by omega), refN_ge _ (by omega)]; rfl
theorem prems_eq (n : Int) : (if n = 0 then 0 else if (rulT n).name = [] then -1 else (rulT n).count) = (if n < 0 ∨ 28 < n then -1 else ((refN n.toNat).frm.length : Int)) := by
  by_cases h0 : n = 0
  · subst h0; rfl
  rw [if_neg h0]
  by_cases h1 : n < 0 ∨ 28 < n
  · rw [if_pos h1]
    have : (rulT n).name = [] := by
      show (rulN n.toNat).name = []
      rcases h1 with h1 | h1
      · rw [show n.toNat = 0 by omega]; rfl
      · rw [rulN_ge _ (by omega)]; rfl
    rw [if_pos this]
  · have h := names_fin ⟨n.toNat, by omega⟩
    have h2 := h.2 (by
      intro e
      have := congrArg Fin.val e
      simp at this
      omega)
    have h3 : (rulT n).name ≠ [] := h2.1
    rw [if_neg h1, if_neg h3]
    exact h2.2

/-! ### numbers sorted, in a way that can be computed -/
def insI (a : Int) : List Int → List Int
  | [] => [a]
  | b :: l => if a ≤ b then a :: b :: l else b :: insI a l
def sortI : List Int → List Int
  | [] => []
  | a :: l => insI a (sortI l)
theorem insI_perm (a : Int) : ∀ l, (insI a l).Perm (a :: l)
  | [] => List.Perm.refl _
  | b :: l => by
    unfold insI
    split
    · exact List.Perm.refl _
    · exact ((insI_perm a l).cons b).trans (List.Perm.swap a b l)
theorem sortI_perm : ∀ l, (sortI l).Perm l
  | [] => List.Perm.refl _
  | a :: l => (insI_perm a _).trans ((sortI_perm l).cons a)
theorem insI_sorted (a : Int) : ∀ l : List Int, l.Pairwise (· ≤ ·) → (insI a l).Pairwise (· ≤ ·)
  | [], _ => by simp [insI]
  | b :: l, h => by
    rw [List.pairwise_cons] at h
    unfold insI
    split
    · rename_i hab
      rw [List.pairwise_cons, List.pairwise_cons]
      refine ⟨fun x hx => ?_, h.1, h.2⟩
      rcases List.mem_cons.1 hx with rfl | hx
      · exact hab
      · have := h.1 x hx; omega
    · rename_i hab
      rw [List.pairwise_cons]
      refine ⟨fun x hx => ?_, insI_sorted a l h.2⟩
      rcases List.mem_cons.1 ((insI_perm a l).mem_iff.1 hx) with rfl | hx
      · omega
      · exact h.1 x hx
theorem sortI_sorted : ∀ l : List Int, (sortI l).Pairwise (· ≤ ·)
  | [] => .nil
  | a :: l => insI_sorted a _ (sortI_sorted l)
theorem sortL_eq (l : List Int) : sortL l = sortI l := (sortL_of (sortI_perm l) (sortI_sorted l)).symm

def ptsI (b : Bnd) (p : Pat) : List Int := sortI (valsB b p.letters)
def guardsI (b : Bnd) (ps : List Pat) : List Grd := if ps.any (fun p => twice (ptsI b p)) then [] else uniqG (ps.map fun p => ⟨p.kind, ptsI b p⟩)
def endI (r : Rul) (b : Bnd) : List Fnew := if !r.guards.any (fun p => twice (ptsI b p)) then r.concl.map fun p => (conF b p, guardsI b r.guards) else []
theorem endP_eq (r : Rul) : endP r = endI r := by
  funext b
  have e : ptsOf b = ptsI b := funext fun p => sortL_eq _
  unfold endP endI guardsB guardsL guardsI guardOf
  rw [e]
theorem outF_eq (r : Rul) (nl : List Fct) : outF r nl = sortBy cmpN (runF nl [] (foundP (endI r) (ruleM r nl) nl.length 0 Bnd.zero)) := by
  unfold outF saysP
  rw [endP_eq]

end Go.Va
