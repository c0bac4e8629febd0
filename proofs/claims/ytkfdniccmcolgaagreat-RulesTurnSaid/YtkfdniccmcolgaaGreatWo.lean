/-
  Contracts: what follows: the closures of 'follows', and the searches with them.
-/
import Derived.Test.YtkfdniccmcolgaaGreatWn
import Derived.Test.YtkfdniccmcolgaaGreatWc
set_option linter.all false

namespace Go.Va
open Go.Proofs
set_option maxHeartbeats 4000000
set_option maxRecDepth 10000
set_option linter.unusedSimpArgs false
set_option linter.unusedVariables false

def fndsD (l : List Fnd) : D := .slice l.length (l.flatMap Fnd.ds)
@[simp] theorem lenC_fnds (l : List Fnd) : lenC (.d (fndsD l)) = some l.length := rfl
@[simp] theorem flat_fnds (l : List Fnd) : D.flat (fndsD l) = false := rfl
@[simp] theorem flat_grds (l : List Grd) : D.flat (grdsD l) = false := rfl
@[simp] theorem lenC_grds (l : List Grd) : lenC (.d (grdsD l)) = some l.length := rfl
@[simp] theorem idxSl_fnds (h : List (Nat × Blk)) (i : Int) (l : List Fnd) : idxSl h 6 i (.d (fndsD l)) = if 0 ≤ i ∧ i < l.length then some (.d (.ref ((l.drop i.toNat).flatMap Fnd.ds))) else none := by
  unfold fndsD idxSl
  simp only [fnd_len, and_true, fm_drop Fnd.ds_len]
@[simp] theorem idxSl_grds (h : List (Nat × Blk)) (i : Int) (l : List Grd) : idxSl h 2 i (.d (grdsD l)) = if 0 ≤ i ∧ i < l.length then some (.d (.ref ((l.drop i.toNat).flatMap Grd.ds))) else none := by
  unfold grdsD idxSl
  simp only [grd_len, and_true, fm_drop Grd.ds_len]
theorem fnd_drop {l : List Fnd} {i : Nat} (h : i < l.length) : (l.drop i).flatMap Fnd.ds = .int .i64 l[i].fact.kind :: intsD l[i].fact.args :: .bool l[i].fact.neg :: natD l[i].fact.abs :: natD l[i].fact.den :: grdsD l[i].grds :: (l.drop (i + 1)).flatMap Fnd.ds := by
  rw [List.drop_eq_getElem_cons h]; rfl
theorem grd_drop {l : List Grd} {i : Nat} (h : i < l.length) : (l.drop i).flatMap Grd.ds = .int .i64 l[i].kind :: intsD l[i].args :: (l.drop (i + 1)).flatMap Grd.ds := by
  rw [List.drop_eq_getElem_cons h]; rfl

theorem is_c (g f : Fct) (hg : g.Rt) (hf : f.Rt) : CallsF Tryz.prog 49 [.agg f.ds, .c (.ref g.ds)] (.u (.c (.d (.bool (decide (cmpF g f = 0)))))) := by
  have k1 := cmp_c g f hg.mild hf.mild hg.num hf.num
  clear hg hf
  simp only [Fct.ds] at *
  refine callsF_of (T := tb) tab_ok mixed Tryz.func49 rfl (by decide) (Nat.le_of_ble_eq_true rfl) rfl ?_; unfold St.init
  simp (maxSteps := 2000000) -implicitDefEqProofs [-List.map_set, Ja, -Int.natCast_add, -Int.natCast_mul, -Int.natCast_emod, -Int.natCast_ediv, -Int.natCast_pow, Jb, Jc, Jd, Je, Jf, Jg, Jh, Ji, Jj, Jk, Jl, Jm, Jn, Jo, Jp, Jq, Jr, Js, Jt, Ju, Jv, Jw, Jx, Jy, Jz]
  (first | refine .inl ⟨_, k1, ?_⟩ | refine ⟨_, k1, ?_⟩)
  simp (maxSteps := 2000000) -implicitDefEqProofs [-List.map_set, Ja, -Int.natCast_add, -Int.natCast_mul, -Int.natCast_emod, -Int.natCast_ediv, -Int.natCast_pow, Jb, Jc, Jd, Je, Jf, Jg, Jh, Ji, Jj, Jk, Jl, Jm, Jn, Jo, Jp, Jq, Jr, Js, Jt, Ju, Jv, Jw, Jx, Jy, Jz]

theorem indexFct_c (g : Fct) (l : List Fct) (hg : g.Rt) (hl : ∀ f ∈ l, f.Rt) (hn : l.length ≤ 1099511627776) : CallsF Tryz.prog 104 [.c (fctsD l), .c (.fn 49 [.ref g.ds])] (.u (.c (.d (.int .i64 (idxE g l 0))))) := by
  have k := fun f hf => is_c g f hg (hl f hf)
  clear hg hl
  generalize hr : D.ref g.ds = rg at *
  clear hr
  refine callsF_of (T := tb) tab_ok mixed Tryz.func104 rfl (by decide) (Nat.le_of_ble_eq_true rfl) rfl ?_; unfold St.init
  simp (maxSteps := 2000000) -implicitDefEqProofs [-List.map_set, Ja, -Int.natCast_add, -Int.natCast_mul, -Int.natCast_emod, -Int.natCast_ediv, -Int.natCast_pow, Jb, Jc, Jd, Je, Jf, Jg, Jh, Ji, Jj, Jk, Jl, Jm, Jn, Jo, Jp, Jq, Jr, Js, Jt, Ju, Jv, Jw, Jx, Jy, Jz]
  refine wpLoop_of (fun i : Nat => ⟨[(8, vI .i64 i), (7, vI .i64 l.length), (0, vC (.d (fctsD l))), (1, vC (.d (.fn 49 [rg])))], []⟩) (fun i => i ≤ l.length ∧ idxE g (l.drop i) i = idxE g l 0) (fun i => l.length - i) 0 (by simp) ⟨by omega, rfl⟩ ?_
  rintro i ⟨h1, h2⟩
  by_cases h : i < l.length
  · have e := idxE_drop (g := g) h
    have k := k l[i] (List.getElem_mem h)
    have e2 := fct_drop h
    simp only [Fct.ds] at k
    by_cases h0 : cmpF g l[i] = 0
    · rw [if_pos h0] at e
      simp (maxSteps := 2000000) -implicitDefEqProofs [-List.map_set, Ja, -Int.natCast_add, -Int.natCast_mul, -Int.natCast_emod, -Int.natCast_ediv, -Int.natCast_pow, Jb, Jc, Jd, Je, Jf, Jg, Jh, Ji, Jj, Jk, Jl, Jm, Jn, Jo, Jp, Jq, Jr, Js, Jt, Ju, Jv, Jw, Jx, Jy, Jz, h, e2]
      (first | refine .inl ⟨_, k, ?_⟩ | refine ⟨_, k, ?_⟩)
      simp (maxSteps := 2000000) -implicitDefEqProofs [-List.map_set, Ja, -Int.natCast_add, -Int.natCast_mul, -Int.natCast_emod, -Int.natCast_ediv, -Int.natCast_pow, Jb, Jc, Jd, Je, Jf, Jg, Jh, Ji, Jj, Jk, Jl, Jm, Jn, Jo, Jp, Jq, Jr, Js, Jt, Ju, Jv, Jw, Jx, Jy, Jz, h0]
      rw [← h2, e]
    · rw [if_neg h0] at e
      simp (maxSteps := 2000000) -implicitDefEqProofs [-List.map_set, Ja, -Int.natCast_add, -Int.natCast_mul, -Int.natCast_emod, -Int.natCast_ediv, -Int.natCast_pow, Jb, Jc, Jd, Je, Jf, Jg, Jh, Ji, Jj, Jk, Jl, Jm, Jn, Jo, Jp, Jq, Jr, Js, Jt, Ju, Jv, Jw, Jx, Jy, Jz, h, e2]
      (first | refine .inl ⟨_, k, ?_⟩ | refine ⟨_, k, ?_⟩)
      simp (maxSteps := 2000000) -implicitDefEqProofs [-List.map_set, Ja, -Int.natCast_add, -Int.natCast_mul, -Int.natCast_emod, -Int.natCast_ediv, -Int.natCast_pow, Jb, Jc, Jd, Je, Jf, Jg, Jh, Ji, Jj, Jk, Jl, Jm, Jn, Jo, Jp, Jq, Jr, Js, Jt, Ju, Jv, Jw, Jx, Jy, Jz, h0]
      exact ⟨by omega, ⟨by omega, by rw [← e, h2]⟩, by omega⟩
  · have : i = l.length := by omega
    subst this
    rw [List.drop_length] at h2
    simp (maxSteps := 2000000) -implicitDefEqProofs [-List.map_set, Ja, -Int.natCast_add, -Int.natCast_mul, -Int.natCast_emod, -Int.natCast_ediv, -Int.natCast_pow, Jb, Jc, Jd, Je, Jf, Jg, Jh, Ji, Jj, Jk, Jl, Jm, Jn, Jo, Jp, Jq, Jr, Js, Jt, Ju, Jv, Jw, Jx, Jy, Jz]
    exact h2

theorem containsFct_c (g : Fct) (l : List Fct) (hg : g.Rt) (hl : ∀ f ∈ l, f.Rt) (hn : l.length ≤ 1099511627776) : CallsF Tryz.prog 51 [.c (fctsD l), .c (.fn 49 [.ref g.ds])] (.u (.c (.d (.bool (anyE g l))))) := by
  have k := indexFct_c g l hg hl hn
  have e := idxE_any g l 0
  clear hg hl
  generalize hr : D.ref g.ds = rg at *
  clear hr
  refine callsF_of (T := tb) tab_ok mixed Tryz.func51 rfl (by decide) (Nat.le_of_ble_eq_true rfl) rfl ?_; unfold St.init
  simp (maxSteps := 2000000) -implicitDefEqProofs [-List.map_set, Ja, -Int.natCast_add, -Int.natCast_mul, -Int.natCast_emod, -Int.natCast_ediv, -Int.natCast_pow, Jb, Jc, Jd, Je, Jf, Jg, Jh, Ji, Jj, Jk, Jl, Jm, Jn, Jo, Jp, Jq, Jr, Js, Jt, Ju, Jv, Jw, Jx, Jy, Jz]
  (first | refine .inl ⟨_, k, ?_⟩ | refine ⟨_, k, ?_⟩)
  simp (maxSteps := 2000000) -implicitDefEqProofs [-List.map_set, Ja, -Int.natCast_add, -Int.natCast_mul, -Int.natCast_emod, -Int.natCast_ediv, -Int.natCast_pow, Jb, Jc, Jd, Je, Jf, Jg, Jh, Ji, Jj, Jk, Jl, Jm, Jn, Jo, Jp, Jq, Jr, Js, Jt, Ju, Jv, Jw, Jx, Jy, Jz, e]

theorem isX_c (g : Fct) (x : Fnd) (hg : g.Rt) (hx : x.fact.Rt) : CallsF Tryz.prog 53 [.agg x.ds, .c (.ref [.fn 49 [.ref g.ds]])] (.u (.c (.d (.bool (decide (cmpF g x.fact = 0)))))) := by
  have k1 := is_c g x.fact hg hx
  clear hg hx
  generalize hr : D.ref g.ds = rg at *
  clear hr
  simp only [Fct.ds, Fnd.ds] at *
  refine callsF_of (T := tb) tab_ok mixed Tryz.func53 rfl (by decide) (Nat.le_of_ble_eq_true rfl) rfl ?_; unfold St.init
  simp (maxSteps := 2000000) -implicitDefEqProofs [-List.map_set, Ja, -Int.natCast_add, -Int.natCast_mul, -Int.natCast_emod, -Int.natCast_ediv, -Int.natCast_pow, Jb, Jc, Jd, Je, Jf, Jg, Jh, Ji, Jj, Jk, Jl, Jm, Jn, Jo, Jp, Jq, Jr, Js, Jt, Ju, Jv, Jw, Jx, Jy, Jz]
  (first | refine .inl ⟨_, k1, ?_⟩ | refine ⟨_, k1, ?_⟩)
  simp (maxSteps := 2000000) -implicitDefEqProofs [-List.map_set, Ja, -Int.natCast_add, -Int.natCast_mul, -Int.natCast_emod, -Int.natCast_ediv, -Int.natCast_pow, Jb, Jc, Jd, Je, Jf, Jg, Jh, Ji, Jj, Jk, Jl, Jm, Jn, Jo, Jp, Jq, Jr, Js, Jt, Ju, Jv, Jw, Jx, Jy, Jz]

theorem indexFnd_c (g : Fct) (l : List Fnd) (hg : g.Rt) (hl : ∀ x ∈ l, x.fact.Rt) (hn : l.length ≤ 1099511627776) : CallsF Tryz.prog 52 [.c (fndsD l), .c (.fn 53 [.ref [.fn 49 [.ref g.ds]]])] (.u (.c (.d (.int .i64 (idxE g (l.map Fnd.fact) 0))))) := by
  have k := fun f hf => isX_c g f hg (hl f hf)
  clear hg hl
  generalize hr : D.ref [D.fn 49 [.ref g.ds]] = rg at *
  clear hr
  refine callsF_of (T := tb) tab_ok mixed Tryz.func52 rfl (by decide) (Nat.le_of_ble_eq_true rfl) rfl ?_; unfold St.init
  simp (maxSteps := 2000000) -implicitDefEqProofs [-List.map_set, Ja, -Int.natCast_add, -Int.natCast_mul, -Int.natCast_emod, -Int.natCast_ediv, -Int.natCast_pow, Jb, Jc, Jd, Je, Jf, Jg, Jh, Ji, Jj, Jk, Jl, Jm, Jn, Jo, Jp, Jq, Jr, Js, Jt, Ju, Jv, Jw, Jx, Jy, Jz]
  refine wpLoop_of (fun i : Nat => ⟨[(8, vI .i64 i), (7, vI .i64 l.length), (0, vC (.d (fndsD l))), (1, vC (.d (.fn 53 [rg])))], []⟩) (fun i => i ≤ l.length ∧ idxE g ((l.map Fnd.fact).drop i) i = idxE g (l.map Fnd.fact) 0) (fun i => l.length - i) 0 (by simp) ⟨by omega, rfl⟩ ?_
  rintro i ⟨h1, h2⟩
  by_cases h : i < l.length
  · have e := idxE_drop (g := g) (l := l.map Fnd.fact) (i := i) (by simpa using h)
    rw [List.getElem_map] at e
    have k := k l[i] (List.getElem_mem h)
    have e2 := fnd_drop h
    simp only [Fnd.ds] at k
    by_cases h0 : cmpF g l[i].fact = 0
    · rw [if_pos h0] at e
      simp (maxSteps := 2000000) -implicitDefEqProofs [-List.map_set, Ja, -Int.natCast_add, -Int.natCast_mul, -Int.natCast_emod, -Int.natCast_ediv, -Int.natCast_pow, Jb, Jc, Jd, Je, Jf, Jg, Jh, Ji, Jj, Jk, Jl, Jm, Jn, Jo, Jp, Jq, Jr, Js, Jt, Ju, Jv, Jw, Jx, Jy, Jz, h, e2]
      (first | refine .inl ⟨_, k, ?_⟩ | refine ⟨_, k, ?_⟩)
      simp (maxSteps := 2000000) -implicitDefEqProofs [-List.map_set, Ja, -Int.natCast_add, -Int.natCast_mul, -Int.natCast_emod, -Int.natCast_ediv, -Int.natCast_pow, Jb, Jc, Jd, Je, Jf, Jg, Jh, Ji, Jj, Jk, Jl, Jm, Jn, Jo, Jp, Jq, Jr, Js, Jt, Ju, Jv, Jw, Jx, Jy, Jz, h0]
      rw [← h2, e]
    · rw [if_neg h0] at e
      simp (maxSteps := 2000000) -implicitDefEqProofs [-List.map_set, Ja, -Int.natCast_add, -Int.natCast_mul, -Int.natCast_emod, -Int.natCast_ediv, -Int.natCast_pow, Jb, Jc, Jd, Je, Jf, Jg, Jh, Ji, Jj, Jk, Jl, Jm, Jn, Jo, Jp, Jq, Jr, Js, Jt, Ju, Jv, Jw, Jx, Jy, Jz, h, e2]
      (first | refine .inl ⟨_, k, ?_⟩ | refine ⟨_, k, ?_⟩)
      simp (maxSteps := 2000000) -implicitDefEqProofs [-List.map_set, Ja, -Int.natCast_add, -Int.natCast_mul, -Int.natCast_emod, -Int.natCast_ediv, -Int.natCast_pow, Jb, Jc, Jd, Je, Jf, Jg, Jh, Ji, Jj, Jk, Jl, Jm, Jn, Jo, Jp, Jq, Jr, Js, Jt, Ju, Jv, Jw, Jx, Jy, Jz, h0]
      exact ⟨by omega, ⟨by omega, by rw [← e, h2]⟩, by omega⟩
  · have : i = l.length := by omega
    subst this
    rw [List.drop_of_length_le (by simp)] at h2
    simp (maxSteps := 2000000) -implicitDefEqProofs [-List.map_set, Ja, -Int.natCast_add, -Int.natCast_mul, -Int.natCast_emod, -Int.natCast_ediv, -Int.natCast_pow, Jb, Jc, Jd, Je, Jf, Jg, Jh, Ji, Jj, Jk, Jl, Jm, Jn, Jo, Jp, Jq, Jr, Js, Jt, Ju, Jv, Jw, Jx, Jy, Jz]
    exact h2

theorem compareG_c (a b : List Grd) (ha : ∀ g ∈ a, g.Short) (hb : ∀ g ∈ b, g.Short) (hal : a.length ≤ 1000) (hbl : b.length ≤ 1000) :
    CallsF Tryz.prog 105 [.c (grdsD a), .c (grdsD b), .c (.fn 60 [])] (.u (.c (.d (.int .i64 (lexG a b))))) := by
  have k := fun x hx y hy => cmpGuards_c x y (ha x hx) (hb y hy)
  simp only [Grd.ds] at k
  clear ha hb
  refine callsF_of (T := tb) tab_ok mixed Tryz.func105 rfl (by decide) (Nat.le_of_ble_eq_true rfl) rfl ?_; unfold St.init
  simp (maxSteps := 2000000) -implicitDefEqProofs [-List.map_set, Ja, -Int.natCast_add, -Int.natCast_mul, -Int.natCast_emod, -Int.natCast_ediv, -Int.natCast_pow, Jb, Jc, Jd, Je, Jf, Jg, Jh, Ji, Jj, Jk, Jl, Jm, Jn, Jo, Jp, Jq, Jr, Js, Jt, Ju, Jv, Jw, Jx, Jy, Jz]
  refine wpLoop_of (fun i : Nat => ⟨[(13, vI .i64 i), (12, vI .i64 a.length), (11, vC (.d (grdsD a))), (0, vC (.d (grdsD a))), (1, vC (.d (grdsD b))), (2, vC (.d (.fn 60 [])))], []⟩) (fun i => i ≤ a.length ∧ i ≤ b.length ∧ lexG (a.drop i) (b.drop i) = lexG a b) (fun i => a.length - i) 0 (by simp) ⟨by omega, by omega, rfl⟩ ?_
  rintro i ⟨h1, h1b, h2⟩
  by_cases h : i < a.length
  · have ea := grd_drop h
    by_cases hB : i < b.length
    · have eb := grd_drop hB
      have k := k a[i] (List.getElem_mem h) b[i] (List.getElem_mem hB)
      have e : lexG (a.drop i) (b.drop i) = if cmpG a[i] b[i] ≠ 0 then cmpG a[i] b[i] else lexG (a.drop (i + 1)) (b.drop (i + 1)) := by
        rw [List.drop_eq_getElem_cons h, List.drop_eq_getElem_cons hB]; rfl
      rw [e] at h2
      have nb : ¬ b.length ≤ i := by omega
      generalize cmpG a[i] b[i] = r at *
      by_cases h0 : r = 0
      · rw [if_neg (by simp [h0])] at h2
        simp (maxSteps := 2000000) -implicitDefEqProofs [-List.map_set, Ja, -Int.natCast_add, -Int.natCast_mul, -Int.natCast_emod, -Int.natCast_ediv, -Int.natCast_pow, Jb, Jc, Jd, Je, Jf, Jg, Jh, Ji, Jj, Jk, Jl, Jm, Jn, Jo, Jp, Jq, Jr, Js, Jt, Ju, Jv, Jw, Jx, Jy, Jz, h, ea, hB, eb, nb]
        (first | refine .inl ⟨_, k, ?_⟩ | refine ⟨_, k, ?_⟩)
        simp (maxSteps := 2000000) -implicitDefEqProofs [-List.map_set, Ja, -Int.natCast_add, -Int.natCast_mul, -Int.natCast_emod, -Int.natCast_ediv, -Int.natCast_pow, Jb, Jc, Jd, Je, Jf, Jg, Jh, Ji, Jj, Jk, Jl, Jm, Jn, Jo, Jp, Jq, Jr, Js, Jt, Ju, Jv, Jw, Jx, Jy, Jz, h0]
        exact ⟨by omega, ⟨by omega, by omega, h2⟩, by omega⟩
      · rw [if_pos h0] at h2
        subst h2
        simp (maxSteps := 2000000) -implicitDefEqProofs [-List.map_set, Ja, -Int.natCast_add, -Int.natCast_mul, -Int.natCast_emod, -Int.natCast_ediv, -Int.natCast_pow, Jb, Jc, Jd, Je, Jf, Jg, Jh, Ji, Jj, Jk, Jl, Jm, Jn, Jo, Jp, Jq, Jr, Js, Jt, Ju, Jv, Jw, Jx, Jy, Jz, h, ea, hB, eb, nb]
        (first | refine .inl ⟨_, k, ?_⟩ | refine ⟨_, k, ?_⟩)
        simp (maxSteps := 2000000) -implicitDefEqProofs [-List.map_set, Ja, -Int.natCast_add, -Int.natCast_mul, -Int.natCast_emod, -Int.natCast_ediv, -Int.natCast_pow, Jb, Jc, Jd, Je, Jf, Jg, Jh, Ji, Jj, Jk, Jl, Jm, Jn, Jo, Jp, Jq, Jr, Js, Jt, Ju, Jv, Jw, Jx, Jy, Jz, h0]
    · have hbi : b.length = i := by omega
      have e : lexG a b = 1 := by
        rw [← h2, List.drop_eq_getElem_cons h, List.drop_of_length_le (by omega : b.length ≤ i)]; rfl
      have nb : b.length ≤ i := by omega
      simp (maxSteps := 2000000) -implicitDefEqProofs [-List.map_set, Ja, -Int.natCast_add, -Int.natCast_mul, -Int.natCast_emod, -Int.natCast_ediv, -Int.natCast_pow, Jb, Jc, Jd, Je, Jf, Jg, Jh, Ji, Jj, Jk, Jl, Jm, Jn, Jo, Jp, Jq, Jr, Js, Jt, Ju, Jv, Jw, Jx, Jy, Jz, h, ea, nb, e]
  · have hi : i = a.length := by omega
    by_cases hB : a.length < b.length
    · have e : lexG a b = -1 := by
        rw [← h2, List.drop_of_length_le (by omega : a.length ≤ i), List.drop_eq_getElem_cons (by omega : i < b.length)]; rfl
      simp (maxSteps := 2000000) -implicitDefEqProofs [-List.map_set, Ja, -Int.natCast_add, -Int.natCast_mul, -Int.natCast_emod, -Int.natCast_ediv, -Int.natCast_pow, Jb, Jc, Jd, Je, Jf, Jg, Jh, Ji, Jj, Jk, Jl, Jm, Jn, Jo, Jp, Jq, Jr, Js, Jt, Ju, Jv, Jw, Jx, Jy, Jz, h, hB, e]
    · have e : lexG a b = 0 := by
        rw [← h2, List.drop_of_length_le (by omega : a.length ≤ i), List.drop_of_length_le (by omega : b.length ≤ i)]; rfl
      simp (maxSteps := 2000000) -implicitDefEqProofs [-List.map_set, Ja, -Int.natCast_add, -Int.natCast_mul, -Int.natCast_emod, -Int.natCast_ediv, -Int.natCast_pow, Jb, Jc, Jd, Je, Jf, Jg, Jh, Ji, Jj, Jk, Jl, Jm, Jn, Jo, Jp, Jq, Jr, Js, Jt, Ju, Jv, Jw, Jx, Jy, Jz, h, hB, e]

theorem earlier_c (a b : List Grd) (ha : ∀ g ∈ a, g.Short) (hb : ∀ g ∈ b, g.Short) (hal : a.length ≤ 1000) (hbl : b.length ≤ 1000) :
    CallsF Tryz.prog 54 [.c (grdsD a), .c (grdsD b)] (.u (.c (.d (.bool (earlyG a b))))) := by
  have k := compareG_c a b ha hb hal hbl
  unfold earlyG
  refine callsF_of (T := tb) tab_ok mixed Tryz.func54 rfl (by decide) (Nat.le_of_ble_eq_true rfl) rfl ?_; unfold St.init
  by_cases h : a.length = b.length
  · simp (maxSteps := 2000000) -implicitDefEqProofs [-List.map_set, Ja, -Int.natCast_add, -Int.natCast_mul, -Int.natCast_emod, -Int.natCast_ediv, -Int.natCast_pow, Jb, Jc, Jd, Je, Jf, Jg, Jh, Ji, Jj, Jk, Jl, Jm, Jn, Jo, Jp, Jq, Jr, Js, Jt, Ju, Jv, Jw, Jx, Jy, Jz, h]
    (first | refine .inl ⟨_, k, ?_⟩ | refine ⟨_, k, ?_⟩)
    simp (maxSteps := 2000000) -implicitDefEqProofs [-List.map_set, Ja, -Int.natCast_add, -Int.natCast_mul, -Int.natCast_emod, -Int.natCast_ediv, -Int.natCast_pow, Jb, Jc, Jd, Je, Jf, Jg, Jh, Ji, Jj, Jk, Jl, Jm, Jn, Jo, Jp, Jq, Jr, Js, Jt, Ju, Jv, Jw, Jx, Jy, Jz]
  · simp (maxSteps := 2000000) -implicitDefEqProofs [-List.map_set, Ja, -Int.natCast_add, -Int.natCast_mul, -Int.natCast_emod, -Int.natCast_ediv, -Int.natCast_pow, Jb, Jc, Jd, Je, Jf, Jg, Jh, Ji, Jj, Jk, Jl, Jm, Jn, Jo, Jp, Jq, Jr, Js, Jt, Ju, Jv, Jw, Jx, Jy, Jz, h]

end Go.Va

/-
  Contracts: what follows: a fact is added.
-/
namespace Go.Va
open Go.Proofs
set_option maxHeartbeats 4000000
set_option maxRecDepth 10000
set_option linter.unusedSimpArgs false
set_option linter.unusedVariables false

/-- The blocks of 'follows' that its closure 'add' knows. -/
def addH (nl : List Fct) (l : List Fnd) : List (Nat × Blk) :=
  if l = [] then [(9, .box [.nl]), (6, .box [.d (fctsD nl)])]
  else [(9, .box [.sl 80 0 l.length]), (80, .row 6 (l.flatMap Fnd.ds) true), (6, .box [.d (fctsD nl)])]
theorem addH_nil (nl : List Fct) : addH nl [] = [(9, .box [.nl]), (6, .box [.d (fctsD nl)])] := rfl
theorem addH_ne (nl : List Fct) {l : List Fnd} (h : l ≠ []) : addH nl l = [(9, .box [.sl 80 0 l.length]), (80, .row 6 (l.flatMap Fnd.ds) true), (6, .box [.d (fctsD nl)])] := if_neg h

theorem add_fin (nl : List Fct) (l : List Fnd) (e : Exit) (he : e = .ret ∨ e = .normal) (st : St) (rs : List (Nat × Nat)) (h1 : leL (rns rs st).t (initC 2 [.ptr 6 0, .ptr 9 0])) (h2 : leL (rns rs st).h (addH nl l)) : finX 2 [.ptr 6 0, .ptr 9 0] (addH nl l) e st := by
  refine ⟨he, rs, h1, h2, ?_, ?_⟩
  · intro c hc i hi
    unfold addH
    simp only [List.mem_cons, List.not_mem_nil, or_false] at hc
    rcases hc with rfl | rfl <;> (simp [C.id?] at hi; subst hi; split <;> simp)
  · intro i b hb
    unfold addH at hb ⊢
    split at hb
    · rename_i h0
      rw [if_pos h0]
      simp only [lk] at hb
      split at hb
      · cases hb; intro c hc j hj; simp at hc; subst hc; simp [C.id?] at hj
      · split at hb
        · cases hb; intro c hc j hj; simp at hc; subst hc; simp [C.id?] at hj
        · cases hb
    · rename_i h0
      rw [if_neg h0]
      simp only [lk] at hb
      split at hb
      · cases hb; intro c hc j hj; simp at hc; subst hc; simp [C.id?] at hj; subst hj; simp
      · split at hb
        · cases hb; trivial
        · split at hb
          · cases hb; intro c hc j hj; simp at hc; subst hc; simp [C.id?] at hj
          · cases hb

@[simp] theorem fnd_take (l : List Fnd) : (l.flatMap Fnd.ds).take (l.length * 6) = l.flatMap Fnd.ds := List.take_of_length_le (by rw [fnd_len]; omega)
@[simp] theorem fnds_fold (l : List Fnd) : D.slice l.length (l.flatMap Fnd.ds) = fndsD l := rfl
theorem addN_skip {nl : List Fct} {l : List Fnd} {F : Fct} {g : List Grd} (h : F.kind = 0 ∨ trivF F = true ∨ anyE F nl = true) : addN nl l F g = l := if_pos h
theorem addN_new {nl : List Fct} {l : List Fnd} {F : Fct} {g : List Grd} (h : ¬ (F.kind = 0 ∨ trivF F = true ∨ anyE F nl = true)) (hi : idxE F (l.map Fnd.fact) 0 = -1) : addN nl l F g = l ++ [⟨F, g⟩] := by
  unfold addN
  rw [if_neg h]
  simp only [hi]
  rw [if_pos (by omega)]
theorem addN_old {nl : List Fct} {l : List Fnd} {F : Fct} {g : List Grd} {k : Nat} (h : ¬ (F.kind = 0 ∨ trivF F = true ∨ anyE F nl = true)) (hk : k < l.length) (hi : idxE F (l.map Fnd.fact) 0 = k) : addN nl l F g = if earlyG g l[k].grds then l.set k ⟨l[k].fact, g⟩ else l := by
  unfold addN
  rw [if_neg h]
  simp only [hi]
  rw [if_neg (by omega), Int.toNat_natCast, List.getElem?_eq_getElem hk]

theorem fnd_get (l : List Fnd) (k t : Nat) (hk : k < l.length) (ht : t < 6) : (l.flatMap Fnd.ds)[k * 6 + t]? = l[k].ds[t]? := by
  have h : ((l.flatMap Fnd.ds).drop (k * 6)).take 6 = l[k].ds := fm_at Fnd.ds_len l k hk
  rw [← h, List.getElem?_take, if_pos ht, List.getElem?_drop]
theorem fnd_set (l : List Fnd) (k : Nat) (g : List Grd) (hk : k < l.length) : splice (k * 6 + 5) [grdsD g] (l.flatMap Fnd.ds) = (l.set k ⟨l[k].fact, g⟩).flatMap Fnd.ds := by
  have hlen := fnd_len l
  rw [← fm_splice Fnd.ds_len l k ⟨l[k].fact, g⟩ hk]
  apply List.ext_getElem?
  intro j
  rw [splice_get _ _ _ (by simp; omega), splice_get _ _ _ (by rw [Fnd.ds_len]; omega)]
  by_cases h1 : k * 6 ≤ j ∧ j < k * 6 + 6
  · obtain ⟨t, rfl⟩ : ∃ t, j = k * 6 + t := ⟨j - k * 6, by omega⟩
    have hg := fnd_get l k t hk (by omega)
    rw [if_pos (show k * 6 ≤ k * 6 + t ∧ k * 6 + t < k * 6 + (Fnd.ds ⟨l[k].fact, g⟩).length by rw [Fnd.ds_len]; omega)]
    by_cases h5 : t = 5
    · subst h5
      rw [if_pos (by simp)]
      simp [Fnd.ds]
    · rw [if_neg (by simp; omega), hg, Nat.add_sub_cancel_left]
      match t, h1, h5 with
      | 0, _, _ => rfl
      | 1, _, _ => rfl
      | 2, _, _ => rfl
      | 3, _, _ => rfl
      | 4, _, _ => rfl
      | 5, _, h => exact absurd rfl h
      | t + 6, h, _ => omega
  · rw [if_neg (by simp; omega), if_neg (by rw [Fnd.ds_len]; omega)]

theorem add_c (nl : List Fct) (l : List Fnd) (f : Fct) (g : List Grd) (hm : f.Mild) (hn : ∀ x ∈ nl, x.Rt) (hnl : nl.length ≤ 1000) (hl : FndOk l) (hll : l.length ≤ 100000000000) (hg : g.length ≤ 10 ∧ ∀ x ∈ g, x.Short) :
    CallsX Tryz.prog 48 [.agg f.ds, .c (grdsD g)] [.ptr 6 0, .ptr 9 0] (addH nl l) (addH nl (addF nl l f g)) := by
  have k1 := norm_c f hm
  have hrt := normF_rt (f := f) hm
  unfold addF
  simp only [Fct.ds] at k1
  generalize hF : normF f = F at *
  clear hF
  generalize hH : addH nl (addN nl l F g) = H
  by_cases h0 : l = []
  · subst h0
    rw [addH_nil]
    refine callsX_ofR [(1000006, 6), (1000009, 9)] (T := tb) tab_ok mixed Tryz.func48 rfl (by decide) (Nat.le_of_ble_eq_true rfl) (Nat.le_of_ble_eq_true rfl) rfl rfl ?_; unfold St.initX
    simp (maxSteps := 2000000) -implicitDefEqProofs [-List.map_set, Ja, -Int.natCast_add, -Int.natCast_mul, -Int.natCast_emod, -Int.natCast_ediv, -Int.natCast_pow, Jb, Jc, Jd, Je, Jf, Jg, Jh, Ji, Jj, Jk, Jl, Jm, Jn, Jo, Jp, Jq, Jr, Js, Jt, Ju, Jv, Jw, Jx, Jy, Jz, -List.reduceReplicate, initC]
    (first | refine .inl ⟨_, k1, ?_⟩ | refine ⟨_, k1, ?_⟩)
    simp (maxSteps := 2000000) -implicitDefEqProofs [-List.map_set, Ja, -Int.natCast_add, -Int.natCast_mul, -Int.natCast_emod, -Int.natCast_ediv, -Int.natCast_pow, Jb, Jc, Jd, Je, Jf, Jg, Jh, Ji, Jj, Jk, Jl, Jm, Jn, Jo, Jp, Jq, Jr, Js, Jt, Ju, Jv, Jw, Jx, Jy, Jz, -List.reduceReplicate, Fct.res]
    refine ⟨fun hk => ?_, fun hk => ?_⟩
    · have hrt := hrt hk
      have k2 := trivial_c F hrt.mild
      have k3 := containsFct_c F nl hrt hn (by omega)
      have k4 := indexFnd_c F [] hrt (by simp) (by simp)
      simp only [Fct.ds] at k2 k3 k4
      (first | refine .inl ⟨_, k2, ?_⟩ | refine ⟨_, k2, ?_⟩)
      cases ht : trivF F with
      | true =>
        simp (maxSteps := 2000000) -implicitDefEqProofs [-List.map_set, Ja, -Int.natCast_add, -Int.natCast_mul, -Int.natCast_emod, -Int.natCast_ediv, -Int.natCast_pow, Jb, Jc, Jd, Je, Jf, Jg, Jh, Ji, Jj, Jk, Jl, Jm, Jn, Jo, Jp, Jq, Jr, Js, Jt, Ju, Jv, Jw, Jx, Jy, Jz, -List.reduceReplicate]
        rw [addN_skip (.inr (.inl ht))] at hH
        subst hH
        refine add_fin nl [] _ (by simp) _ [(6, 1000006), (9, 1000009)] ?_ ?_
        · simp (maxSteps := 2000000) -implicitDefEqProofs [-List.map_set, Ja, -Int.natCast_add, -Int.natCast_mul, -Int.natCast_emod, -Int.natCast_ediv, -Int.natCast_pow, Jb, Jc, Jd, Je, Jf, Jg, Jh, Ji, Jj, Jk, Jl, Jm, Jn, Jo, Jp, Jq, Jr, Js, Jt, Ju, Jv, Jw, Jx, Jy, Jz, -List.reduceReplicate, leL, lk, initC]
        · simp (maxSteps := 2000000) -implicitDefEqProofs [-List.map_set, Ja, -Int.natCast_add, -Int.natCast_mul, -Int.natCast_emod, -Int.natCast_ediv, -Int.natCast_pow, Jb, Jc, Jd, Je, Jf, Jg, Jh, Ji, Jj, Jk, Jl, Jm, Jn, Jo, Jp, Jq, Jr, Js, Jt, Ju, Jv, Jw, Jx, Jy, Jz, -List.reduceReplicate, leL, lk, addH_nil]
      | false =>
        simp (maxSteps := 2000000) -implicitDefEqProofs [-List.map_set, Ja, -Int.natCast_add, -Int.natCast_mul, -Int.natCast_emod, -Int.natCast_ediv, -Int.natCast_pow, Jb, Jc, Jd, Je, Jf, Jg, Jh, Ji, Jj, Jk, Jl, Jm, Jn, Jo, Jp, Jq, Jr, Js, Jt, Ju, Jv, Jw, Jx, Jy, Jz, -List.reduceReplicate]
        (first | refine .inl ⟨_, k3, ?_⟩ | refine ⟨_, k3, ?_⟩)
        cases ha : anyE F nl with
        | true =>
          simp (maxSteps := 2000000) -implicitDefEqProofs [-List.map_set, Ja, -Int.natCast_add, -Int.natCast_mul, -Int.natCast_emod, -Int.natCast_ediv, -Int.natCast_pow, Jb, Jc, Jd, Je, Jf, Jg, Jh, Ji, Jj, Jk, Jl, Jm, Jn, Jo, Jp, Jq, Jr, Js, Jt, Ju, Jv, Jw, Jx, Jy, Jz, -List.reduceReplicate]
          rw [addN_skip (.inr (.inr ha))] at hH
          subst hH
          refine add_fin nl [] _ (by simp) _ [(6, 1000006), (9, 1000009)] ?_ ?_
          · simp (maxSteps := 2000000) -implicitDefEqProofs [-List.map_set, Ja, -Int.natCast_add, -Int.natCast_mul, -Int.natCast_emod, -Int.natCast_ediv, -Int.natCast_pow, Jb, Jc, Jd, Je, Jf, Jg, Jh, Ji, Jj, Jk, Jl, Jm, Jn, Jo, Jp, Jq, Jr, Js, Jt, Ju, Jv, Jw, Jx, Jy, Jz, -List.reduceReplicate, leL, lk, initC]
          · simp (maxSteps := 2000000) -implicitDefEqProofs [-List.map_set, Ja, -Int.natCast_add, -Int.natCast_mul, -Int.natCast_emod, -Int.natCast_ediv, -Int.natCast_pow, Jb, Jc, Jd, Je, Jf, Jg, Jh, Ji, Jj, Jk, Jl, Jm, Jn, Jo, Jp, Jq, Jr, Js, Jt, Ju, Jv, Jw, Jx, Jy, Jz, -List.reduceReplicate, leL, lk, addH_nil]
        | false =>
          simp (maxSteps := 2000000) -implicitDefEqProofs [-List.map_set, Ja, -Int.natCast_add, -Int.natCast_mul, -Int.natCast_emod, -Int.natCast_ediv, -Int.natCast_pow, Jb, Jc, Jd, Je, Jf, Jg, Jh, Ji, Jj, Jk, Jl, Jm, Jn, Jo, Jp, Jq, Jr, Js, Jt, Ju, Jv, Jw, Jx, Jy, Jz, -List.reduceReplicate]
          simp only [fndsD, List.length_nil, List.flatMap_nil] at k4
          (first | refine .inl ⟨_, k4, ?_⟩ | refine ⟨_, k4, ?_⟩)
          simp (maxSteps := 2000000) -implicitDefEqProofs [-List.map_set, Ja, -Int.natCast_add, -Int.natCast_mul, -Int.natCast_emod, -Int.natCast_ediv, -Int.natCast_pow, Jb, Jc, Jd, Je, Jf, Jg, Jh, Ji, Jj, Jk, Jl, Jm, Jn, Jo, Jp, Jq, Jr, Js, Jt, Ju, Jv, Jw, Jx, Jy, Jz, -List.reduceReplicate, idxE]
          rw [addN_new (by simp [hk, ht, ha]) rfl] at hH
          subst hH
          refine add_fin nl _ _ (by simp) _ [(6, 1000006), (9, 1000009), (80, 33)] ?_ ?_
          · simp (maxSteps := 2000000) -implicitDefEqProofs [-List.map_set, Ja, -Int.natCast_add, -Int.natCast_mul, -Int.natCast_emod, -Int.natCast_ediv, -Int.natCast_pow, Jb, Jc, Jd, Je, Jf, Jg, Jh, Ji, Jj, Jk, Jl, Jm, Jn, Jo, Jp, Jq, Jr, Js, Jt, Ju, Jv, Jw, Jx, Jy, Jz, -List.reduceReplicate, leL, lk, initC]
          · simp (maxSteps := 2000000) -implicitDefEqProofs [-List.map_set, Ja, -Int.natCast_add, -Int.natCast_mul, -Int.natCast_emod, -Int.natCast_ediv, -Int.natCast_pow, Jb, Jc, Jd, Je, Jf, Jg, Jh, Ji, Jj, Jk, Jl, Jm, Jn, Jo, Jp, Jq, Jr, Js, Jt, Ju, Jv, Jw, Jx, Jy, Jz, -List.reduceReplicate, leL, lk, addH, Fnd.ds]
    · rw [addN_skip (.inl hk)] at hH
      subst hH
      refine add_fin nl [] _ (by simp) _ [(6, 1000006), (9, 1000009)] ?_ ?_
      · simp (maxSteps := 2000000) -implicitDefEqProofs [-List.map_set, Ja, -Int.natCast_add, -Int.natCast_mul, -Int.natCast_emod, -Int.natCast_ediv, -Int.natCast_pow, Jb, Jc, Jd, Je, Jf, Jg, Jh, Ji, Jj, Jk, Jl, Jm, Jn, Jo, Jp, Jq, Jr, Js, Jt, Ju, Jv, Jw, Jx, Jy, Jz, -List.reduceReplicate, leL, lk, initC]
      · simp (maxSteps := 2000000) -implicitDefEqProofs [-List.map_set, Ja, -Int.natCast_add, -Int.natCast_mul, -Int.natCast_emod, -Int.natCast_ediv, -Int.natCast_pow, Jb, Jc, Jd, Je, Jf, Jg, Jh, Ji, Jj, Jk, Jl, Jm, Jn, Jo, Jp, Jq, Jr, Js, Jt, Ju, Jv, Jw, Jx, Jy, Jz, -List.reduceReplicate, leL, lk, addH_nil]
  · rw [addH_ne nl h0]
    refine callsX_ofR [(1000006, 6), (1000009, 9), (1000080, 80)] (T := tb) tab_ok mixed Tryz.func48 rfl (by decide) (Nat.le_of_ble_eq_true rfl) (Nat.le_of_ble_eq_true rfl) rfl rfl ?_; unfold St.initX
    simp (maxSteps := 2000000) -implicitDefEqProofs [-List.map_set, Ja, -Int.natCast_add, -Int.natCast_mul, -Int.natCast_emod, -Int.natCast_ediv, -Int.natCast_pow, Jb, Jc, Jd, Je, Jf, Jg, Jh, Ji, Jj, Jk, Jl, Jm, Jn, Jo, Jp, Jq, Jr, Js, Jt, Ju, Jv, Jw, Jx, Jy, Jz, -List.reduceReplicate, initC]
    (first | refine .inl ⟨_, k1, ?_⟩ | refine ⟨_, k1, ?_⟩)
    simp (maxSteps := 2000000) -implicitDefEqProofs [-List.map_set, Ja, -Int.natCast_add, -Int.natCast_mul, -Int.natCast_emod, -Int.natCast_ediv, -Int.natCast_pow, Jb, Jc, Jd, Je, Jf, Jg, Jh, Ji, Jj, Jk, Jl, Jm, Jn, Jo, Jp, Jq, Jr, Js, Jt, Ju, Jv, Jw, Jx, Jy, Jz, -List.reduceReplicate, Fct.res]
    refine ⟨fun hk => ?_, fun hk => ?_⟩
    · have hrt := hrt hk
      have k2 := trivial_c F hrt.mild
      have k3 := containsFct_c F nl hrt hn (by omega)
      have k4 := indexFnd_c F l hrt hl.rt (by omega)
      simp only [Fct.ds] at k2 k3 k4
      (first | refine .inl ⟨_, k2, ?_⟩ | refine ⟨_, k2, ?_⟩)
      cases ht : trivF F with
      | true =>
        simp (maxSteps := 2000000) -implicitDefEqProofs [-List.map_set, Ja, -Int.natCast_add, -Int.natCast_mul, -Int.natCast_emod, -Int.natCast_ediv, -Int.natCast_pow, Jb, Jc, Jd, Je, Jf, Jg, Jh, Ji, Jj, Jk, Jl, Jm, Jn, Jo, Jp, Jq, Jr, Js, Jt, Ju, Jv, Jw, Jx, Jy, Jz, -List.reduceReplicate]
        rw [addN_skip (.inr (.inl ht))] at hH
        subst hH
        refine add_fin nl l _ (by simp) _ [(6, 1000006), (9, 1000009), (80, 1000080)] ?_ ?_
        · simp (maxSteps := 2000000) -implicitDefEqProofs [-List.map_set, Ja, -Int.natCast_add, -Int.natCast_mul, -Int.natCast_emod, -Int.natCast_ediv, -Int.natCast_pow, Jb, Jc, Jd, Je, Jf, Jg, Jh, Ji, Jj, Jk, Jl, Jm, Jn, Jo, Jp, Jq, Jr, Js, Jt, Ju, Jv, Jw, Jx, Jy, Jz, -List.reduceReplicate, leL, lk, initC]
        · simp (maxSteps := 2000000) -implicitDefEqProofs [-List.map_set, Ja, -Int.natCast_add, -Int.natCast_mul, -Int.natCast_emod, -Int.natCast_ediv, -Int.natCast_pow, Jb, Jc, Jd, Je, Jf, Jg, Jh, Ji, Jj, Jk, Jl, Jm, Jn, Jo, Jp, Jq, Jr, Js, Jt, Ju, Jv, Jw, Jx, Jy, Jz, -List.reduceReplicate, leL, lk, addH_ne nl h0]
      | false =>
        simp (maxSteps := 2000000) -implicitDefEqProofs [-List.map_set, Ja, -Int.natCast_add, -Int.natCast_mul, -Int.natCast_emod, -Int.natCast_ediv, -Int.natCast_pow, Jb, Jc, Jd, Je, Jf, Jg, Jh, Ji, Jj, Jk, Jl, Jm, Jn, Jo, Jp, Jq, Jr, Js, Jt, Ju, Jv, Jw, Jx, Jy, Jz, -List.reduceReplicate]
        (first | refine .inl ⟨_, k3, ?_⟩ | refine ⟨_, k3, ?_⟩)
        cases ha : anyE F nl with
        | true =>
          simp (maxSteps := 2000000) -implicitDefEqProofs [-List.map_set, Ja, -Int.natCast_add, -Int.natCast_mul, -Int.natCast_emod, -Int.natCast_ediv, -Int.natCast_pow, Jb, Jc, Jd, Je, Jf, Jg, Jh, Ji, Jj, Jk, Jl, Jm, Jn, Jo, Jp, Jq, Jr, Js, Jt, Ju, Jv, Jw, Jx, Jy, Jz, -List.reduceReplicate]
          rw [addN_skip (.inr (.inr ha))] at hH
          subst hH
          refine add_fin nl l _ (by simp) _ [(6, 1000006), (9, 1000009), (80, 1000080)] ?_ ?_
          · simp (maxSteps := 2000000) -implicitDefEqProofs [-List.map_set, Ja, -Int.natCast_add, -Int.natCast_mul, -Int.natCast_emod, -Int.natCast_ediv, -Int.natCast_pow, Jb, Jc, Jd, Je, Jf, Jg, Jh, Ji, Jj, Jk, Jl, Jm, Jn, Jo, Jp, Jq, Jr, Js, Jt, Ju, Jv, Jw, Jx, Jy, Jz, -List.reduceReplicate, leL, lk, initC]
          · simp (maxSteps := 2000000) -implicitDefEqProofs [-List.map_set, Ja, -Int.natCast_add, -Int.natCast_mul, -Int.natCast_emod, -Int.natCast_ediv, -Int.natCast_pow, Jb, Jc, Jd, Je, Jf, Jg, Jh, Ji, Jj, Jk, Jl, Jm, Jn, Jo, Jp, Jq, Jr, Js, Jt, Ju, Jv, Jw, Jx, Jy, Jz, -List.reduceReplicate, leL, lk, addH_ne nl h0]
        | false =>
          simp (maxSteps := 2000000) -implicitDefEqProofs [-List.map_set, Ja, -Int.natCast_add, -Int.natCast_mul, -Int.natCast_emod, -Int.natCast_ediv, -Int.natCast_pow, Jb, Jc, Jd, Je, Jf, Jg, Jh, Ji, Jj, Jk, Jl, Jm, Jn, Jo, Jp, Jq, Jr, Js, Jt, Ju, Jv, Jw, Jx, Jy, Jz, -List.reduceReplicate]
          (first | refine .inl ⟨_, k4, ?_⟩ | refine ⟨_, k4, ?_⟩)
          rcases idxE_spec F (l.map Fnd.fact) 0 with ⟨hi, _⟩ | ⟨k, hkl, hi, _⟩
          · rw [addN_new (by simp [hk, ht, ha]) hi] at hH
            subst hH
            simp (maxSteps := 2000000) -implicitDefEqProofs [-List.map_set, Ja, -Int.natCast_add, -Int.natCast_mul, -Int.natCast_emod, -Int.natCast_ediv, -Int.natCast_pow, Jb, Jc, Jd, Je, Jf, Jg, Jh, Ji, Jj, Jk, Jl, Jm, Jn, Jo, Jp, Jq, Jr, Js, Jt, Ju, Jv, Jw, Jx, Jy, Jz, -List.reduceReplicate, hi]
            refine ⟨⟨by omega, by omega⟩, ?_⟩
            refine add_fin nl _ _ (by simp) _ [(6, 1000006), (9, 1000009), (80, 33)] ?_ ?_
            · simp (maxSteps := 2000000) -implicitDefEqProofs [-List.map_set, Ja, -Int.natCast_add, -Int.natCast_mul, -Int.natCast_emod, -Int.natCast_ediv, -Int.natCast_pow, Jb, Jc, Jd, Je, Jf, Jg, Jh, Ji, Jj, Jk, Jl, Jm, Jn, Jo, Jp, Jq, Jr, Js, Jt, Ju, Jv, Jw, Jx, Jy, Jz, -List.reduceReplicate, leL, lk, initC]
            · simp (maxSteps := 2000000) -implicitDefEqProofs [-List.map_set, Ja, -Int.natCast_add, -Int.natCast_mul, -Int.natCast_emod, -Int.natCast_ediv, -Int.natCast_pow, Jb, Jc, Jd, Je, Jf, Jg, Jh, Ji, Jj, Jk, Jl, Jm, Jn, Jo, Jp, Jq, Jr, Js, Jt, Ju, Jv, Jw, Jx, Jy, Jz, -List.reduceReplicate, leL, lk, addH, Fnd.ds]
          · rw [List.length_map] at hkl
            rw [Nat.zero_add] at hi
            rw [addN_old (by simp [hk, ht, ha]) hkl hi] at hH
            have g5 := fnd_get l k 5 hkl (by omega)
            simp only [Fnd.ds, List.getElem?_cons_succ, List.getElem?_cons_zero] at g5
            have hsh := hl.sh l[k] (List.getElem_mem hkl)
            have k5 := earlier_c g l[k].grds hg.2 hsh.2 (by omega) (by omega)
            simp (maxSteps := 2000000) -implicitDefEqProofs [-List.map_set, Ja, -Int.natCast_add, -Int.natCast_mul, -Int.natCast_emod, -Int.natCast_ediv, -Int.natCast_pow, Jb, Jc, Jd, Je, Jf, Jg, Jh, Ji, Jj, Jk, Jl, Jm, Jn, Jo, Jp, Jq, Jr, Js, Jt, Ju, Jv, Jw, Jx, Jy, Jz, -List.reduceReplicate, hi, hkl, g5]
            (first | refine .inl ⟨_, k5, ?_⟩ | refine ⟨_, k5, ?_⟩)
            cases he : earlyG g l[k].grds with
            | false =>
              rw [he, if_neg (by simp)] at hH
              subst hH
              simp (maxSteps := 2000000) -implicitDefEqProofs [-List.map_set, Ja, -Int.natCast_add, -Int.natCast_mul, -Int.natCast_emod, -Int.natCast_ediv, -Int.natCast_pow, Jb, Jc, Jd, Je, Jf, Jg, Jh, Ji, Jj, Jk, Jl, Jm, Jn, Jo, Jp, Jq, Jr, Js, Jt, Ju, Jv, Jw, Jx, Jy, Jz, -List.reduceReplicate]
              refine add_fin nl _ _ (by simp) _ [(6, 1000006), (9, 1000009), (80, 1000080)] ?_ ?_
              · simp (maxSteps := 2000000) -implicitDefEqProofs [-List.map_set, Ja, -Int.natCast_add, -Int.natCast_mul, -Int.natCast_emod, -Int.natCast_ediv, -Int.natCast_pow, Jb, Jc, Jd, Je, Jf, Jg, Jh, Ji, Jj, Jk, Jl, Jm, Jn, Jo, Jp, Jq, Jr, Js, Jt, Ju, Jv, Jw, Jx, Jy, Jz, -List.reduceReplicate, leL, lk, initC]
              · simp (maxSteps := 2000000) -implicitDefEqProofs [-List.map_set, Ja, -Int.natCast_add, -Int.natCast_mul, -Int.natCast_emod, -Int.natCast_ediv, -Int.natCast_pow, Jb, Jc, Jd, Je, Jf, Jg, Jh, Ji, Jj, Jk, Jl, Jm, Jn, Jo, Jp, Jq, Jr, Js, Jt, Ju, Jv, Jw, Jx, Jy, Jz, -List.reduceReplicate, leL, lk, addH_ne nl h0]
            | true =>
              rw [he, if_pos rfl] at hH
              subst hH
              simp (maxSteps := 2000000) -implicitDefEqProofs [-List.map_set, Ja, -Int.natCast_add, -Int.natCast_mul, -Int.natCast_emod, -Int.natCast_ediv, -Int.natCast_pow, Jb, Jc, Jd, Je, Jf, Jg, Jh, Ji, Jj, Jk, Jl, Jm, Jn, Jo, Jp, Jq, Jr, Js, Jt, Ju, Jv, Jw, Jx, Jy, Jz, -List.reduceReplicate, hkl]
              have hset : l.set k ⟨l[k].fact, g⟩ ≠ [] := by
                intro e
                have := congrArg List.length e
                simp at this
                exact h0 this
              refine ⟨by omega, ?_⟩
              refine add_fin nl _ _ (by simp) _ [(6, 1000006), (9, 1000009), (80, 1000080)] ?_ ?_
              · simp (maxSteps := 2000000) -implicitDefEqProofs [-List.map_set, Ja, -Int.natCast_add, -Int.natCast_mul, -Int.natCast_emod, -Int.natCast_ediv, -Int.natCast_pow, Jb, Jc, Jd, Je, Jf, Jg, Jh, Ji, Jj, Jk, Jl, Jm, Jn, Jo, Jp, Jq, Jr, Js, Jt, Ju, Jv, Jw, Jx, Jy, Jz, -List.reduceReplicate, leL, lk, initC]
              · rw [addH_ne nl hset]
                simp (maxSteps := 2000000) -implicitDefEqProofs [-List.map_set, Ja, -Int.natCast_add, -Int.natCast_mul, -Int.natCast_emod, -Int.natCast_ediv, -Int.natCast_pow, Jb, Jc, Jd, Je, Jf, Jg, Jh, Ji, Jj, Jk, Jl, Jm, Jn, Jo, Jp, Jq, Jr, Js, Jt, Ju, Jv, Jw, Jx, Jy, Jz, -List.reduceReplicate, leL, lk, fnd_set l k g hkl]
    · rw [addN_skip (.inl hk)] at hH
      subst hH
      refine add_fin nl l _ (by simp) _ [(6, 1000006), (9, 1000009), (80, 1000080)] ?_ ?_
      · simp (maxSteps := 2000000) -implicitDefEqProofs [-List.map_set, Ja, -Int.natCast_add, -Int.natCast_mul, -Int.natCast_emod, -Int.natCast_ediv, -Int.natCast_pow, Jb, Jc, Jd, Je, Jf, Jg, Jh, Ji, Jj, Jk, Jl, Jm, Jn, Jo, Jp, Jq, Jr, Js, Jt, Ju, Jv, Jw, Jx, Jy, Jz, -List.reduceReplicate, leL, lk, initC]
      · simp (maxSteps := 2000000) -implicitDefEqProofs [-List.map_set, Ja, -Int.natCast_add, -Int.natCast_mul, -Int.natCast_emod, -Int.natCast_ediv, -Int.natCast_pow, Jb, Jc, Jd, Je, Jf, Jg, Jh, Ji, Jj, Jk, Jl, Jm, Jn, Jo, Jp, Jq, Jr, Js, Jt, Ju, Jv, Jw, Jx, Jy, Jz, -List.reduceReplicate, leL, lk, addH_ne nl h0]

end Go.Va

/-
  What follows by a rule, in plain words.
-/
namespace Go.Va
open Go.Proofs
set_option maxHeartbeats 4000000
set_option maxRecDepth 10000
set_option linter.unusedSimpArgs false
set_option linter.unusedVariables false

abbrev Fnew := Fct × List Grd
def newY (x : Fnew) : List A := [.agg x.1.ds, .c (grdsD x.2)]
/-- The conclusions for a binding. -/
def endP (r : Rul) (b : Bnd) : List Fnew := if guardsB b r.guards then r.concl.map fun p => (conF b p, guardsL b r.guards) else []
def foundP (E : Bnd → List Fnew) (M : Nat → Bnd → List Bnd) : Nat → Nat → Bnd → List Fnew
  | 0, _, b => E b
  | k + 1, i, b => (M i b).flatMap (foundP E M k (i + 1))
def ruleM (r : Rul) (nl : List Fct) (i : Nat) (b : Bnd) : List Bnd := match r.prem[i]?, nl[i]? with | some p, some f => matchB p f b | _, _ => []
/-- All that a rule says of premises. -/
def saysP (r : Rul) (nl : List Fct) : List Fnew := foundP (endP r) (ruleM r nl) nl.length 0 Bnd.zero
def runF (nl : List Fct) (l : List Fnd) (P : List Fnew) : List Fnd := P.foldl (fun l x => addF nl l x.1 x.2) l
def cmpN (a b : Fnd) : Int := cmpF a.fact b.fact
/-- What follows from premises in normal form. -/
def outF (r : Rul) (nl : List Fct) : List Fnd := sortBy cmpN (runF nl [] (saysP r nl))

theorem endY_map (r : Rul) (b : Bnd) : endY r b = (endP r b).map newY := by
  unfold endY endP conY2
  split
  · rw [List.drop_zero, List.map_map]; rfl
  · rfl
theorem found1_map (r : Rul) (M : Nat → Bnd → List Bnd) : ∀ (k i : Nat) (b : Bnd), found1 (endY r) M k i b = (foundP (endP r) M k i b).map newY
  | 0, i, b => endY_map r b
  | k + 1, i, b => by
    show (M i b).flatMap (found1 (endY r) M k (i + 1)) = ((M i b).flatMap (foundP (endP r) M k (i + 1))).map newY
    rw [List.map_flatMap]
    exact congrArg (fun g => (M i b).flatMap g) (funext fun c => found1_map r M k (i + 1) c)

/-! ### how many -/
theorem flat_le {α β : Type} {f : α → List β} {m : Nat} : ∀ {l : List α}, (∀ a ∈ l, (f a).length ≤ m) → (l.flatMap f).length ≤ l.length * m
  | [], _ => by simp
  | a :: l, h => by
    rw [List.flatMap_cons, List.length_append, List.length_cons, Nat.succ_mul]
    have h1 := h a (by simp)
    have h2 := flat_le (l := l) fun b hb => h b (by simp [hb])
    omega
def fac : Nat → Nat
  | 0 => 1
  | n + 1 => (n + 1) * fac n
theorem fac_pos : ∀ n, 1 ≤ fac n
  | 0 => Nat.le_refl _
  | n + 1 => Nat.mul_pos (Nat.succ_pos n) (fac_pos n)
theorem mp_len : ∀ (l : List UInt8) (pts : List Int) (b : Bnd), (mp l pts b).length ≤ fac pts.length
  | [], pts, b => by rw [mp]; exact fac_pos _
  | c :: r, pts, b => by
    rw [mp]
    cases hn : pts.length with
    | zero => simp [fac]
    | succ n =>
      have := flat_le (l := List.range (n + 1)) (m := fac n) (f := fun i => match b.point (c.toNat - 65) (pts.getD i 0) with | none => [] | some b' => mp r (pts.eraseIdx i) b') fun i hi => by
        rw [List.mem_range] at hi
        split
        · exact Nat.zero_le _
        · rename_i b' _
          have h := mp_len r (pts.eraseIdx i) b'
          rw [List.length_eraseIdx, if_pos (by omega), hn, Nat.add_sub_cancel] at h
          exact h
      rw [List.length_range] at this
      exact this
theorem ms_len : ∀ (n : Nat) (ls : List UInt8) (l : List (Int × Int)) (b : Bnd), ls.length ≤ n → (ms ls l b).length ≤ 2 ^ n
  | n, [], l, b, _ => by cases l <;> (rw [ms]; exact Nat.one_le_two_pow)
  | n, x :: r, [], b, _ => by simp [ms]
  | 0, x :: r, s :: l, b, hn => by simp at hn
  | n + 1, x :: r, s :: l, b, hn => by
    simp only [List.length_cons, Nat.add_le_add_iff_right] at hn
    by_cases h97 : 97 ≤ x.toNat
    · rw [ms_sml h97]
      split
      · exact Nat.zero_le _
      · rename_i b' _
        have := ms_len n r l b' hn
        rw [Nat.pow_succ]; omega
    · cases r with
      | nil => simp only [ms, if_neg h97]; exact Nat.zero_le _
      | cons d r =>
        have aux : ∀ p q : Int, (msA x d r l b p q).length ≤ 2 ^ n := by
          intro p q
          unfold msA
          split
          · exact Nat.zero_le _
          · split
            · exact Nat.zero_le _
            · rename_i b2 _
              exact ms_len n r l b2 (by simp at hn; omega)
        have h1 := aux s.1 s.2
        have h2 := aux s.2 s.1
        rw [ms_cap h97, List.length_append, Nat.pow_succ]
        split
        · simp; omega
        · omega
theorem rdg_len (k : Int) (f : Fct) : (rdg k f).length ≤ 8 := by
  unfold rdg
  split
  · simp
  · split
    · simp
    · split <;> simp
theorem mid1_len (x y z : Nat) (b : Bnd) (m p q : Int) : (mid1 x y z b m p q).length ≤ 1 := by
  unfold mid1
  split
  · simp
  · split
    · simp
    · split <;> simp
theorem matchB_len (p : Pat) (f : Fct) (hf : f.Rt) (hp : p.letters.length ≤ 8) (b : Bnd) : (matchB p f b).length ≤ 2048 := by
  obtain ⟨h1, h2, h3, h4⟩ := hf.parts
  unfold matchB
  split
  · rename_i hk
    split
    · rename_i he
      have := mp_len p.letters f.args b
      have e : f.args.length ≤ 4 := by
        rw [h2, he]
        rcases hk with h | h | h <;> rw [h] <;> decide
      have : fac f.args.length ≤ 24 := by
        generalize f.args.length = n at e
        match n, e with
        | 0, _ => decide
        | 1, _ => decide
        | 2, _ => decide
        | 3, _ => decide
        | 4, _ => decide
      omega
    · simp
  · split
    · split
      · rw [List.length_append]
        have h1 := mid1_len ((p.letters.getD 0 0).toNat - 65) ((p.letters.getD 1 0).toNat - 65) ((p.letters.getD 2 0).toNat - 65) b (f.args.getD 0 0) (f.args.getD 1 0) (f.args.getD 2 0)
        have h2 := mid1_len ((p.letters.getD 0 0).toNat - 65) ((p.letters.getD 1 0).toNat - 65) ((p.letters.getD 2 0).toNat - 65) b (f.args.getD 0 0) (f.args.getD 2 0) (f.args.getD 1 0)
        omega
      · simp
    · have h1 := flat_le (l := rdg p.kind f) (m := 256) (f := fun l => ms p.letters l b) fun l _ => ms_len 8 p.letters l b hp
      have h2 := rdg_len p.kind f
      have : (rdg p.kind f).length * 256 ≤ 8 * 256 := Nat.mul_le_mul_right _ h2
      omega

/-- What is asked of a row of the table. -/
structure Rul.Good (r : Rul) : Prop where
  fit : ∀ p ∈ r.prem, p.Fit ∧ p.letters.length ≤ 8
  hg : ∀ p ∈ r.guards, p.Ok ∧ p.letters.length ≤ 8
  hc : ∀ p ∈ r.concl, p.Ok ∧ 0 ≤ p.n ∧ p.n ≤ 1000
  lp : r.prem.length ≤ 3
  lc : r.concl.length ≤ 10
  lg : r.guards.length ≤ 10

theorem ruleM_len (r : Rul) (hr : r.Good) (nl : List Fct) (hn : ∀ f ∈ nl, f.Rt) (i : Nat) (b : Bnd) : (ruleM r nl i b).length ≤ 2048 := by
  unfold ruleM
  split
  · rename_i p f h1 h2
    exact matchB_len p f (hn f (List.mem_of_getElem? h2)) (hr.fit p (List.mem_of_getElem? h1)).2 b
  · simp
theorem ruleM_ok (r : Rul) (nl : List Fct) (hn : ∀ f ∈ nl, f.Rt) (i : Nat) (b : Bnd) (hb : b.Ok) : ∀ c ∈ ruleM r nl i b, c.Ok := by
  intro c hc
  unfold ruleM at hc
  split at hc
  · rename_i p f h1 h2
    exact matchB_ok p f (hn f (List.mem_of_getElem? h2)) b hb c hc
  · cases hc
theorem endP_len (r : Rul) (hr : r.Good) (b : Bnd) : (endP r b).length ≤ 10 := by
  unfold endP
  split
  · rw [List.length_map]; exact hr.lc
  · simp
theorem foundP_len (r : Rul) (hr : r.Good) (nl : List Fct) (hn : ∀ f ∈ nl, f.Rt) : ∀ (k i : Nat) (b : Bnd), (foundP (endP r) (ruleM r nl) k i b).length ≤ 2048 ^ k * 10
  | 0, i, b => by simpa [foundP] using endP_len r hr b
  | k + 1, i, b => by
    have := flat_le (l := ruleM r nl i b) (m := 2048 ^ k * 10) (f := foundP (endP r) (ruleM r nl) k (i + 1)) fun c _ => foundP_len r hr nl hn k (i + 1) c
    have h2 := Nat.mul_le_mul_right (2048 ^ k * 10) (ruleM_len r hr nl hn i b)
    have e : 2048 ^ (k + 1) * 10 = 2048 * (2048 ^ k * 10) := by rw [Nat.pow_succ, Nat.mul_comm (2048 ^ k) 2048, Nat.mul_assoc]
    rw [e]
    exact Nat.le_trans this h2
theorem Bnd.zero_ok : Bnd.zero.Ok := by
  intro y hy
  have := List.eq_of_mem_replicate hy
  omega
theorem saysP_len (r : Rul) (hr : r.Good) (nl : List Fct) (hn : ∀ f ∈ nl, f.Rt) (hl : nl.length ≤ 3) : (saysP r nl).length ≤ 90000000000 := by
  have h := foundP_len r hr nl hn nl.length 0 Bnd.zero
  have h2 : 2048 ^ nl.length ≤ 2048 ^ 3 := Nat.pow_le_pow_right (by omega) hl
  unfold saysP
  omega

theorem foundP_all {E : Bnd → List Fnew} {M : Nat → Bnd → List Bnd} (hM : ∀ i b, b.Ok → ∀ c ∈ M i b, c.Ok) {Q : Fnew → Prop} (hE : ∀ b, b.Ok → ∀ x ∈ E b, Q x) : ∀ (k i : Nat) (b : Bnd), b.Ok → ∀ x ∈ foundP E M k i b, Q x
  | 0, i, b, hb, x, hx => hE b hb x hx
  | k + 1, i, b, hb, x, hx => by
    rw [foundP, List.mem_flatMap] at hx
    obtain ⟨c, hc, hx⟩ := hx
    exact foundP_all hM hE k (i + 1) c (hM i b hb c hc) x hx

/-- What the rules say is of short parts. -/
def newOk (x : Fnew) : Prop := x.1.Mild ∧ x.2.length ≤ 10 ∧ ∀ g ∈ x.2, g.Short
theorem conF_mild (b : Bnd) (p : Pat) (hp : p.Ok ∧ 0 ≤ p.n ∧ p.n ≤ 1000) : (conF b p).Mild := by
  have hl := valsB_len b p.letters
  have h2 := hp.1.2.1
  obtain ⟨n, hn⟩ : ∃ n : Nat, p.n = (n : Int) := ⟨p.n.toNat, by omega⟩
  have hs : ∀ m : Nat, m ≤ 1000 → (limbs m).length ≤ 2 ∧ Ok (limbs m) := fun m hm => by
    refine ⟨?_, ok_limbs m⟩
    rw [limbs_eq]
    split
    · simp
    · rw [show m / 65536 = 0 by omega, limbs_zero]; simp
  have e1 : p.n.toNat ≤ 1000 := by omega
  unfold conF
  refine ⟨?_, ?_, ?_, ?_, ?_⟩
  · show (if p.kind = 9 then limbs p.n.toNat else []).length ≤ 2
    split
    · exact (hs _ e1).1
    · simp
  · show (if p.kind = 9 then limbs 1 else []).length ≤ 2
    split
    · exact (hs 1 (by omega)).1
    · simp
  · show Ok (if p.kind = 9 then limbs p.n.toNat else [])
    split
    · exact (hs _ e1).2
    · exact Ok.nil
  · show Ok (if p.kind = 9 then limbs 1 else [])
    split
    · exact (hs 1 (by omega)).2
    · exact Ok.nil
  · show (valsB b p.letters).length ≤ _
    omega
theorem guardsL_ok (b : Bnd) (ps : List Pat) (hp : ∀ p ∈ ps, p.Ok ∧ p.letters.length ≤ 8) (hl : ps.length ≤ 10) : (guardsL b ps).length ≤ 10 ∧ ∀ g ∈ guardsL b ps, g.Short := by
  unfold guardsL
  split
  · simp
  · refine ⟨?_, fun g hg => ?_⟩
    · have := uniqG_len (ps.map (guardOf b))
      rw [List.length_map] at this
      omega
    · obtain ⟨p, hp2, rfl⟩ := List.mem_map.1 (uniqG_mem hg)
      have h1 := valsB_len b p.letters
      have h2 := (hp p hp2).2
      show (ptsOf b p).length ≤ _
      unfold ptsOf
      rw [sortL_len]
      omega
theorem saysP_ok (r : Rul) (hr : r.Good) (nl : List Fct) (hn : ∀ f ∈ nl, f.Rt) : ∀ x ∈ saysP r nl, newOk x := by
  refine foundP_all (fun i b hb => ruleM_ok r nl hn i b hb) (fun b hb x hx => ?_) _ _ _ Bnd.zero_ok
  unfold endP at hx
  split at hx
  · obtain ⟨p, hp, rfl⟩ := List.mem_map.1 hx
    exact ⟨conF_mild b p (hr.hc p hp), guardsL_ok b r.guards hr.hg hr.lg⟩
  · cases hx

theorem runF_len (nl : List Fct) : ∀ (P : List Fnew) (l : List Fnd), (runF nl l P).length ≤ l.length + P.length
  | [], l => by simp [runF]
  | x :: P, l => by
    have h1 := runF_len nl P (addF nl l x.1 x.2)
    have h2 := addN_len nl l (normF x.1) x.2
    show (runF nl (addF nl l x.1 x.2) P).length ≤ _
    unfold addF at h1 ⊢
    simp only [List.length_cons]
    omega
theorem runF_ok {nl : List Fct} : ∀ (P : List Fnew) (l : List Fnd), FndOk l → (∀ x ∈ P, newOk x) → FndOk (runF nl l P)
  | [], l, h, _ => h
  | x :: P, l, h, hP => by
    have hx := hP x (by simp)
    exact runF_ok P _ (addN_ok h (normF_rt hx.1) hx.2) fun y hy => hP y (by simp [hy])

/-! ### the table -/
def capB (c : UInt8) : Bool := decide (65 ≤ c.toNat) && decide (c.toNat < 91)
def ltrB (c : UInt8) : Bool := capB c || decide (97 ≤ c.toNat) && decide (c.toNat < 123)
def msB : List UInt8 → Nat → Bool
  | [], _ => true
  | _ :: _, 0 => false
  | c :: r, n + 1 => if 97 ≤ c.toNat then decide (c.toNat < 123) && msB r n else
    match r with
    | [] => false
    | d :: r => capB c && capB d && msB r n
theorem capB_iff {c : UInt8} (h : capB c = true) : cap c := by
  unfold capB at h
  simpa [cap] using h
theorem ltrB_iff {c : UInt8} (h : ltrB c = true) : ltr c := by
  unfold ltrB at h
  simp only [Bool.or_eq_true, Bool.and_eq_true, decide_eq_true_eq] at h
  exact h.imp (fun h => capB_iff h) id
theorem msB_ok : ∀ (n : Nat) (ls : List UInt8) (l : List (Int × Int)), ls.length ≤ n → msB ls l.length = true → msOk ls l
  | n, [], l, _, _ => by cases l <;> trivial
  | n, c :: r, [], _, h => by simp [msB] at h
  | 0, c :: r, s :: l, hn, _ => by simp at hn
  | n + 1, c :: r, s :: l, hn, h => by
    simp only [List.length_cons, Nat.add_le_add_iff_right] at hn
    by_cases h97 : 97 ≤ c.toNat
    · rw [msOk_sml h97]
      cases r with
      | nil =>
        simp only [msB, List.length_cons, if_pos h97, Bool.and_eq_true, decide_eq_true_eq] at h
        exact ⟨h.1, by cases l <;> trivial⟩
      | cons d r =>
        simp only [msB, List.length_cons, if_pos h97, Bool.and_eq_true, decide_eq_true_eq] at h
        exact ⟨h.1, msB_ok n _ l hn h.2⟩
    · cases r with
      | nil => simp [msB, h97] at h
      | cons d r =>
        simp only [msB, List.length_cons, if_neg h97, Bool.and_eq_true] at h
        simp only [msOk, if_neg h97]
        exact ⟨capB_iff h.1.1, capB_iff h.1.2, msB_ok n r l (by simp at hn; omega) h.2⟩
def fitB (p : Pat) : Bool := decide (p.letters.length ≤ 8) &&
  (decide (p.kind = 1 ∨ p.kind = 6 ∨ p.kind = 8) && p.letters.all capB ||
  (decide (p.kind = 5) && decide (p.letters.length = 3) && p.letters.all capB ||
  (decide (p.kind = 2 ∨ p.kind = 3 ∨ p.kind = 4) && msB p.letters 2 || decide (p.kind = 7) && msB p.letters 4)))
theorem fitB_ok {p : Pat} (h : fitB p = true) : p.Fit ∧ p.letters.length ≤ 8 := by
  unfold fitB at h
  simp only [Bool.or_eq_true, Bool.and_eq_true, decide_eq_true_eq, List.all_eq_true] at h
  obtain ⟨h8, h⟩ := h
  refine ⟨⟨by omega, ?_⟩, h8⟩
  rcases h with h | h | h | h
  · exact .inl ⟨h.1, fun c hc => capB_iff (h.2 c hc)⟩
  · obtain ⟨c1, c2, c3, e⟩ := list3 h.1.2
    exact .inr (.inl ⟨h.1.1, c1, c2, c3, e, capB_iff (h.2 c1 (by simp [e])), capB_iff (h.2 c2 (by simp [e])), capB_iff (h.2 c3 (by simp [e]))⟩)
  · exact .inr (.inr (.inl ⟨h.1, fun u v => msB_ok _ _ [u, v] (Nat.le_refl _) h.2⟩))
  · exact .inr (.inr (.inr ⟨h.1, fun u v w z => msB_ok _ _ [u, v, w, z] (Nat.le_refl _) h.2⟩))
def okB (p : Pat) : Bool := decide (p.letters ≠ []) && decide (p.letters.length ≤ 8) && p.letters.all ltrB && decide (0 ≤ p.n) && decide (p.n ≤ 1000)
theorem okB_ok {p : Pat} (h : okB p = true) : p.Ok ∧ p.letters.length ≤ 8 ∧ 0 ≤ p.n ∧ p.n ≤ 1000 := by
  unfold okB at h
  simp only [Bool.and_eq_true, decide_eq_true_eq, List.all_eq_true] at h
  obtain ⟨⟨⟨⟨h1, h2⟩, h3⟩, h4⟩, h5⟩ := h
  exact ⟨⟨h1, by omega, fun c hc => ltrB_iff (h3 c hc)⟩, h2, h4, h5⟩
def goodB (r : Rul) : Bool := r.prem.all fitB && r.guards.all okB && r.concl.all okB && decide (r.prem.length ≤ 3) && decide (r.concl.length ≤ 10) && decide (r.guards.length ≤ 10)
theorem goodB_ok {r : Rul} (h : goodB r = true) : r.Good := by
  unfold goodB at h
  simp only [Bool.and_eq_true, decide_eq_true_eq, List.all_eq_true] at h
  obtain ⟨⟨⟨⟨⟨h1, h2⟩, h3⟩, h4⟩, h5⟩, h6⟩ := h
  exact ⟨fun p hp => fitB_ok (h1 p hp), fun p hp => ⟨(okB_ok (h2 p hp)).1, (okB_ok (h2 p hp)).2.1⟩, fun p hp => ⟨(okB_ok (h3 p hp)).1, (okB_ok (h3 p hp)).2.2⟩, h4, h5, h6⟩
theorem rulN_goodB : ∀ n : Fin 29, goodB (rulN n) = true := by decide +kernel
theorem rulN_good (n : Nat) : (rulN n).Good := by
  by_cases h : n < 29
  · exact goodB_ok (rulN_goodB ⟨n, h⟩)
  · rw [rulN_ge n (by omega)]
    exact goodB_ok (by decide)
theorem rulT_good (n : Int) : (rulT n).Good := by
  obtain ⟨h1, h2, h3, h4, h5, h6⟩ := rulN_good n.toNat
  exact ⟨h1, h2, h3, h4, h5, h6⟩

end Go.Va

/-
  Contracts: what follows from premises by a rule.
-/
namespace Go.Va
open Go.Proofs Go.Shelf Go.RowKit Go.Lib Go.Sort
set_option maxHeartbeats 4000000
set_option maxRecDepth 10000
set_option linter.unusedSimpArgs false
set_option linter.unusedVariables false

theorem cmpN_c (a b : Fnd) (ha : a.fact.Rt) (hb : b.fact.Rt) : CallsF Tryz.prog 58 [.agg a.ds, .agg b.ds] (.u (.c (.d (.int .i64 (cmpN a b))))) := by
  have k := cmp_c a.fact b.fact ha.mild hb.mild ha.num hb.num
  unfold cmpN
  simp only [Fct.ds, Fnd.ds] at *
  refine callsF_of (T := tb) tab_ok mixed Tryz.func58 rfl (by decide) (Nat.le_of_ble_eq_true rfl) rfl ?_; unfold St.init
  simp (maxSteps := 2000000) -implicitDefEqProofs [-List.map_set, Ja, -Int.natCast_add, -Int.natCast_mul, -Int.natCast_emod, -Int.natCast_ediv, -Int.natCast_pow, Jb, Jc, Jd, Je, Jf, Jg, Jh, Ji, Jj, Jk, Jl, Jm, Jn, Jo, Jp, Jq, Jr, Js, Jt, Ju, Jv, Jw, Jx, Jy, Jz]
  (first | refine .inl ⟨_, k, ?_⟩ | refine ⟨_, k, ?_⟩)
  simp (maxSteps := 2000000) -implicitDefEqProofs [-List.map_set, Ja, -Int.natCast_add, -Int.natCast_mul, -Int.natCast_emod, -Int.natCast_ediv, -Int.natCast_pow, Jb, Jc, Jd, Je, Jf, Jg, Jh, Ji, Jj, Jk, Jl, Jm, Jn, Jo, Jp, Jq, Jr, Js, Jt, Ju, Jv, Jw, Jx, Jy, Jz]
theorem isCmp_N : IsCmp (fun x : Fnd => x.fact.Num) cmpN := ⟨fun x y hx hy => isCmp_F.rng _ _ hx hy, fun x y hx hy => isCmp_F.anti _ _ hx hy, fun x y z hx hy hz => isCmp_F.tr _ _ _ hx hy hz⟩

theorem sortN_c (i : Nat) (l : List Fnd) (app : Bool) (hl : l.length ≤ 1099511627776) (hr : FndOk l) :
    CallsW Tryz.prog 57 [.c (.sl i 0 l.length), .c (.d (.fn 58 []))] [(i, .row 6 (l.flatMap Fnd.ds) app)] [(i, .row 6 ((sortBy cmpN l).flatMap Fnd.ds) app)] (.tup []) := by
  have hnd : ∀ x y, x ∈ l → y ∈ l → cmpN x y = 0 → x = y := by
    intro x y hx hy h
    have e : x.fact = y.fact := (cmpF_zero (hr.rt x hx) (hr.rt y hy)).1 h
    obtain ⟨i, hi, rfl⟩ := List.mem_iff_getElem.1 hx
    obtain ⟨j, hj, rfl⟩ := List.mem_iff_getElem.1 hy
    have hp := List.pairwise_iff_getElem.1 hr.nd
    rcases Nat.lt_trichotomy i j with h1 | h1 | h1
    · exact absurd e (hp i j hi hj h1)
    · subst h1; rfl
    · exact absurd e.symm (hp j i hj hi h1)
  exact sortFunc_g (P := fun x => x ∈ l) (by omega) Fnd.ds_len ⟨fun x y hx hy => isCmp_N.rng x y (hr.rt x hx).num (hr.rt y hy).num, fun x y hx hy => isCmp_N.anti x y (hr.rt x hx).num (hr.rt y hy).num, fun x y z hx hy hz => isCmp_N.tr x y z (hr.rt x hx).num (hr.rt y hy).num (hr.rt z hz).num⟩
    (fun x hx => (cmpF_zero (hr.rt x hx) (hr.rt x hx)).2 rfl) hnd Tryz.laysSF rfl ⟨_, Tryz.func57, rfl, by decide⟩ Tryz.isAgg64 Tryz.sizeOf64 58
    (enters_of Tryz.func58 (by kernel_rfl) rfl) (fun x y hx hy => cmpN_c x y (hr.rt x hx) (hr.rt y hy)) i l app hl (fun f hf => hf)

theorem sortNNil_c : CallsF Tryz.prog 57 [.c (.slice 0 []), .c (.fn 58 [])] (.tup []) := by
  refine ⟨⟨_, Tryz.func57, rfl, by decide⟩, fun w Z vals hZ hv => ?_⟩
  obtain ⟨v, v2, rfl⟩ : ∃ v v2, vals = [v, v2] := by
    have := hv.1
    match vals, this with
    | [v, v2], _ => exact ⟨v, v2, rfl⟩
  obtain ⟨p, cap, rfl⟩ : ∃ p cap, v = .slice p 0 cap := by
    have h : RepD w Z (.slice 0 []) v := hv.2 0 _ v rfl rfl
    cases h with
    | slice n cs a c vs => exact ⟨some a, c, rfl⟩
    | snil => exact ⟨none, 0, rfl⟩
  have hcon := AnyF.slices_SortFunc_none Tryz.laysSF p cap v2 w
  refine Calls.mono hcon fun e w' ⟨he, hw⟩ => ?_
  subst hw
  refine ⟨_, he, Ext.refl _, by simp [R.rows], ⟨0, 0, 0, 0, true, true, true⟩, fun ad h => (by cases h.1), fun k => ?_⟩
  have hρ : ∀ i, single k [] (⟨0, 0, 0, 0, true, true, true⟩ : Own) i = none := fun i => rfl
  exact ⟨⟨[], rfl, by simp [R.imp], fun j x v hx => by simp [R.imp] at hx⟩, ⟨⟨fun j o hj => by (rw [R.rows, List.flatMap_nil, hρ] at hj; cases hj), fun j j' o o' hj => by (rw [R.rows, List.flatMap_nil, hρ] at hj; cases hj), fun j o hj => by (rw [R.rows, List.flatMap_nil, hρ] at hj; cases hj)⟩, fun i b hb => by cases hb⟩⟩

end Go.Va

/-
  Contracts: what follows from premises by a row of the table.
-/
namespace Go.Va
open Go.Proofs
set_option maxHeartbeats 4000000
set_option maxRecDepth 10000
set_option linter.unusedSimpArgs false
set_option linter.unusedVariables false

@[simp] theorem fct_take (l : List Fct) : (l.flatMap Fct.ds).take (l.length * 5) = l.flatMap Fct.ds := List.take_of_length_le (by rw [fct_len]; omega)
@[simp] theorem fcts_fold (l : List Fct) : D.slice l.length (l.flatMap Fct.ds) = fctsD l := rfl

/-- What follows by a rule that has premises. -/
def follT (n : Int) (ps : List Fct) : List Fnd :=
  if (rulT n).name = [] ∨ (ps.length : Int) ≠ (rulT n).count then [] else
  if (ps.map normF).any (fun f => decide (f.kind = 0)) then [] else outF (rulT n) (ps.map normF)

/-- The premises, so many of them in normal form. -/
def nrmT (ps : List Fct) (i : Nat) : List Fct := (ps.take i).map normF ++ List.replicate (ps.length - i) Fct.zero
theorem nrmT_len {ps : List Fct} {i : Nat} (h : i ≤ ps.length) : (nrmT ps i).length = ps.length := by
  simp [nrmT]; omega
theorem nrmT_set {ps : List Fct} {i : Nat} (h : i < ps.length) : (nrmT ps i).set i (normF ps[i]) = nrmT ps (i + 1) := by
  unfold nrmT
  rw [List.set_append_right _ _ (by simp; omega), List.take_succ_eq_append_getElem h, List.map_append, List.append_assoc]
  congr 1
  rw [show ps.length - i = (ps.length - (i + 1)) + 1 by omega, List.replicate_succ]
  simp [Nat.min_eq_left (Nat.le_of_lt h)]
theorem nrmT_end (ps : List Fct) : nrmT ps ps.length = ps.map normF := by simp [nrmT]
theorem rep_zero (n : Nat) : rep n [D.int .i64 0, D.slice 0 [], D.bool false, D.slice 0 [], D.slice 0 []] = (List.replicate n Fct.zero).flatMap Fct.ds := by
  induction n with
  | zero => rfl
  | succ n ih => rw [rep, ih, List.replicate_succ, List.flatMap_cons]; rfl
theorem nrmT_get {ps : List Fct} {i : Nat} (h : i < ps.length) : ((nrmT ps (i + 1)).flatMap Fct.ds)[i * 5]? = some (.int .i64 (normF ps[i]).kind) := by
  have hl : (nrmT ps (i + 1)).length = ps.length := nrmT_len h
  have h1 : (((nrmT ps (i + 1)).flatMap Fct.ds).drop (i * 5)).take 5 = (nrmT ps (i + 1))[i].ds := fm_at Fct.ds_len _ i (by omega)
  have h2 : (nrmT ps (i + 1))[i]'(by omega) = normF ps[i] := by
    simp [← nrmT_set h]
  rw [h2] at h1
  have h3 := congrArg (fun l => l[0]?) h1
  simpa [List.getElem?_take, List.getElem?_drop] using h3

theorem says_chain (nl : List Fct) (hn : ∀ x ∈ nl, x.Rt) (hnl : nl.length ≤ 1000) (P : List Fnew) (hP : ∀ x ∈ P, newOk x) (hPl : P.length ≤ 90000000000) (y : List A) (rest : List (List A)) (hs : (y :: rest) <:+ P.map newY) :
    CallsX Tryz.prog 48 y [.ptr 6 0, .ptr 9 0] (addH nl (runF nl [] (P.take (P.length - (y :: rest).length)))) (addH nl (runF nl [] (P.take (P.length - rest.length)))) := by
  obtain ⟨pre, hpre⟩ := hs
  have hlen := congrArg List.length hpre
  simp only [List.length_append, List.length_cons, List.length_map] at hlen
  have hk : pre.length < P.length := by omega
  have hy : newY P[pre.length] = y := by
    have h1 : (P.map newY)[pre.length]? = some (newY P[pre.length]) := by simp [hk]
    rw [← hpre] at h1
    simpa using h1.symm
  rw [show P.length - (y :: rest).length = pre.length by simp only [List.length_cons]; omega, show P.length - rest.length = pre.length + 1 by omega, List.take_succ_eq_append_getElem hk]
  have e : runF nl [] (P.take pre.length ++ [P[pre.length]]) = addF nl (runF nl [] (P.take pre.length)) P[pre.length].1 P[pre.length].2 := by
    unfold runF
    rw [List.foldl_append]; rfl
  rw [e, ← hy]
  have hx := hP _ (List.getElem_mem hk)
  have h1 := runF_len nl (P.take pre.length) []
  rw [List.length_take] at h1
  exact add_c nl _ _ _ hx.1 hn hnl (runF_ok _ [] .nil fun x hx => hP x (List.mem_of_mem_take hx)) (by simp at h1; omega) hx.2

theorem follows_c (n : Int) (ps : List Fct) (hps : ∀ f ∈ ps, f.Mild) (hd : (rulT n).derive = .nilFn) (hcn : (rulT n).count = ((rulT n).prem.length : Int)) (hl : ps.length ≤ 1099511627776) :
    CallsF Tryz.prog 29 [.c (.int .i64 n), .c (fctsD ps)] (.u (.c (.own 6 (follT n ps).length ((follT n ps).flatMap Fnd.ds)))) := by
  have k1 := ruleOf_c n
  have hgood := rulT_good n
  generalize hL : follT n ps = L
  unfold follT at hL
  generalize rulT n = r at *
  simp only [Rul.res, Rul.ds, patsD] at k1
  rw [hd] at k1
  refine callsF_of (T := tb) tab_ok mixed Tryz.func29 rfl (by decide) (Nat.le_of_ble_eq_true rfl) rfl ?_; unfold St.init
  simp (maxSteps := 2000000) -implicitDefEqProofs [-List.map_set, Ja, -Int.natCast_add, -Int.natCast_mul, -Int.natCast_emod, -Int.natCast_ediv, -Int.natCast_pow, Jb, Jc, Jd, Je, Jf, Jg, Jh, Ji, Jj, Jk, Jl, Jm, Jn, Jo, Jp, Jq, Jr, Js, Jt, Ju, Jv, Jw, Jx, Jy, Jz, -List.reduceReplicate]
  (first | refine .inl ⟨_, k1, ?_⟩ | refine ⟨_, k1, ?_⟩)
  simp (maxSteps := 2000000) -implicitDefEqProofs [-List.map_set, Ja, -Int.natCast_add, -Int.natCast_mul, -Int.natCast_emod, -Int.natCast_ediv, -Int.natCast_pow, Jb, Jc, Jd, Je, Jf, Jg, Jh, Ji, Jj, Jk, Jl, Jm, Jn, Jo, Jp, Jq, Jr, Js, Jt, Ju, Jv, Jw, Jx, Jy, Jz, -List.reduceReplicate]
  by_cases h0 : r.name = []
  · rw [if_pos (.inl h0)] at hL
    subst hL
    simp (maxSteps := 2000000) -implicitDefEqProofs [-List.map_set, Ja, -Int.natCast_add, -Int.natCast_mul, -Int.natCast_emod, -Int.natCast_ediv, -Int.natCast_pow, Jb, Jc, Jd, Je, Jf, Jg, Jh, Ji, Jj, Jk, Jl, Jm, Jn, Jo, Jp, Jq, Jr, Js, Jt, Ju, Jv, Jw, Jx, Jy, Jz, -List.reduceReplicate, h0]
  by_cases h1 : (ps.length : Int) = r.count
  · rw [if_neg (by simp [h0, h1])] at hL
    obtain ⟨nm, pr, cc, gg, cnt, dd⟩ := r
    simp only at *
    subst h1
    subst hd
    simp (maxSteps := 2000000) -implicitDefEqProofs [-List.map_set, Ja, -Int.natCast_add, -Int.natCast_mul, -Int.natCast_emod, -Int.natCast_ediv, -Int.natCast_pow, Jb, Jc, Jd, Je, Jf, Jg, Jh, Ji, Jj, Jk, Jl, Jm, Jn, Jo, Jp, Jq, Jr, Js, Jt, Ju, Jv, Jw, Jx, Jy, Jz, -List.reduceReplicate, h0]
    refine ⟨by omega, ?_⟩
    rw [rep_zero]
    refine wpLoop_of (fun i : Nat => ⟨[(28, vI .i64 i), (27, vI .i64 ps.length), (26, vC (.d (fctsD ps))), (6, vC (.ptr 6 0)), (5, vC (.ptr 5 0))],
      [(6, .box [.sl 25 0 ps.length]), (25, .row 5 ((nrmT ps i).flatMap Fct.ds) true), (5, .box [.d (.str (bs nm)), .d (.slice pr.length (pr.flatMap Pat.ds)), .d (.slice cc.length (cc.flatMap Pat.ds)), .d (.slice gg.length (gg.flatMap Pat.ds)), .d (.int .i64 ps.length), .d .nilFn])]⟩)
      (fun i => i ≤ ps.length ∧ ∀ f ∈ ps.take i, (normF f).kind ≠ 0) (fun i => ps.length - i) 0 (by simp [leL, lk, St.le, vI, vC, nrmT]) ⟨by omega, by simp⟩ ?_
    rintro i ⟨hi, hz⟩
    by_cases h : i < ps.length
    · have k2 := norm_c ps[i] (hps _ (List.getElem_mem h))
      have e2 := fct_drop h
      have g2 := nrmT_get h
      have st := fm_splice Fct.ds_len (nrmT ps i) i (normF ps[i]) (by rw [nrmT_len hi]; exact h)
      rw [nrmT_set h] at st
      simp only [Fct.ds] at k2 st
      simp (maxSteps := 2000000) -implicitDefEqProofs [-List.map_set, Ja, -Int.natCast_add, -Int.natCast_mul, -Int.natCast_emod, -Int.natCast_ediv, -Int.natCast_pow, Jb, Jc, Jd, Je, Jf, Jg, Jh, Ji, Jj, Jk, Jl, Jm, Jn, Jo, Jp, Jq, Jr, Js, Jt, Ju, Jv, Jw, Jx, Jy, Jz, -List.reduceReplicate, h, e2]
      refine wpDraw_by [[], [], [], [2], [0, 1, 2, 3], [0, 1, 2, 3, 4]] [.any [] [] [⟨0, [6], [], [], []⟩, ⟨0, [7], [], [], []⟩, ⟨0, [8], [], [], []⟩, ⟨0, [35], [], [], []⟩], .one, .one] (by rfl) ?_
      simp (maxSteps := 2000000) -implicitDefEqProofs [-List.map_set, Ja, -Int.natCast_add, -Int.natCast_mul, -Int.natCast_emod, -Int.natCast_ediv, -Int.natCast_pow, Jb, Jc, Jd, Je, Jf, Jg, Jh, Ji, Jj, Jk, Jl, Jm, Jn, Jo, Jp, Jq, Jr, Js, Jt, Ju, Jv, Jw, Jx, Jy, Jz, -List.reduceReplicate]
      (first | refine .inl ⟨_, k2, ?_⟩ | refine ⟨_, k2, ?_⟩)
      simp (maxSteps := 2000000) -implicitDefEqProofs [-List.map_set, Ja, -Int.natCast_add, -Int.natCast_mul, -Int.natCast_emod, -Int.natCast_ediv, -Int.natCast_pow, Jb, Jc, Jd, Je, Jf, Jg, Jh, Ji, Jj, Jk, Jl, Jm, Jn, Jo, Jp, Jq, Jr, Js, Jt, Ju, Jv, Jw, Jx, Jy, Jz, -List.reduceReplicate, Fct.res, h, st, g2]
      refine ⟨by rw [nrmT_len hi]; omega, fun hk => ?_, fun hk => ?_⟩
      · rw [if_pos (List.any_eq_true.2 ⟨normF ps[i], List.mem_map.2 ⟨_, List.getElem_mem h, rfl⟩, by simpa using hk⟩)] at hL
        subst hL
        simp
      · refine ⟨by omega, i + 1, ⟨rfl, rfl⟩, ⟨by omega, fun f hf => ?_⟩, by omega⟩
        rw [List.take_succ_eq_append_getElem h, List.mem_append, List.mem_singleton] at hf
        rcases hf with hf | rfl
        · exact hz f hf
        · exact hk
    · have hi2 : i = ps.length := by omega
      subst hi2
      rw [nrmT_end]
      rw [List.take_length] at hz
      have hrt : ∀ f ∈ ps.map normF, f.Rt := fun f hf => by
        obtain ⟨g, hg, rfl⟩ := List.mem_map.1 hf
        exact normF_rt (hps g hg) (hz g hg)
      rw [if_neg (by
        rw [List.any_eq_true]
        rintro ⟨f, hf, hk⟩
        obtain ⟨g, hg, rfl⟩ := List.mem_map.1 hf
        exact hz g hg (by simpa using hk))] at hL
      have hln : ps.length = (ps.map normF).length := by simp
      rw [hln] at hL hgood hcn ⊢
      generalize ps.map normF = nl at *
      have hn3 : nl.length ≤ pr.length := by omega
      have hP := saysP_ok _ hgood nl hrt
      have hPl := saysP_len _ hgood nl hrt (by have := hgood.lp; simp only at this; omega)
      have kS := fun x => search_c x nl ⟨nm, pr, cc, gg, (nl.length : Int), .nilFn⟩ (ruleM ⟨nm, pr, cc, gg, (nl.length : Int), .nilFn⟩ nl) hn3 (by have := hgood.lp; simp only at this; omega) (by have := hgood.lc; simp only at this ⊢; omega) (by have := hgood.lg; simp only at this ⊢; omega) (fun p hp => (hgood.hg p hp).1) hgood.hc (fun j hj b hb => ⟨fun x' => by
          have e : ruleM ⟨nm, pr, cc, gg, (nl.length : Int), .nilFn⟩ nl j b = matchB (pr[j]'(by omega)) nl[j] b := by
            unfold ruleM
            simp only [List.getElem?_eq_getElem hj, List.getElem?_eq_getElem (show j < pr.length by omega)]
          rw [e]
          exact match_c _ _ (hgood.fit _ (List.getElem_mem (show j < pr.length by omega))).1 (hrt _ (List.getElem_mem hj)) b x', fun c hc => ruleM_ok _ nl hrt j b hb c hc⟩) Bnd.zero rfl
      rw [show found1 (endY ⟨nm, pr, cc, gg, (nl.length : Int), .nilFn⟩) (ruleM ⟨nm, pr, cc, gg, (nl.length : Int), .nilFn⟩ nl) nl.length 0 Bnd.zero = (saysP ⟨nm, pr, cc, gg, (nl.length : Int), .nilFn⟩ nl).map newY from found1_map _ _ _ _ _] at kS
      unfold outF at hL
      generalize saysP ⟨nm, pr, cc, gg, (nl.length : Int), .nilFn⟩ nl = P at *
      have kC := says_chain nl hrt (by have := hgood.lp; simp only at this; omega) P hP (by omega)
      simp only [Rul.ds, patsD] at kS
      have hP0 : runF nl [] (P.take (P.length - (P.map newY).length)) = [] := by rw [List.length_map, Nat.sub_self]; rfl
      have hP1 : runF nl [] (P.take (P.length - ([] : List (List A)).length)) = runF nl [] P := by rw [List.length_nil, Nat.sub_zero, List.take_length]
      have hok := runF_ok (nl := nl) P [] .nil hP
      have hlen := runF_len nl P []
      simp (maxSteps := 2000000) -implicitDefEqProofs [-List.map_set, Ja, -Int.natCast_add, -Int.natCast_mul, -Int.natCast_emod, -Int.natCast_ediv, -Int.natCast_pow, Jb, Jc, Jd, Je, Jf, Jg, Jh, Ji, Jj, Jk, Jl, Jm, Jn, Jo, Jp, Jq, Jr, Js, Jt, Ju, Jv, Jw, Jx, Jy, Jz, -List.reduceReplicate]
      refine .inr (.inr (.inr (.inr (.inl (.inl ⟨rfl, [.agg [.d (.str (bs nm)), .d (.slice pr.length (pr.flatMap Pat.ds)), .d (.slice cc.length (cc.flatMap Pat.ds)), .d (.slice gg.length (gg.flatMap Pat.ds)), .d (.int .i64 nl.length), .d .nilFn], .c (.sl 25 0 nl.length)], 48, [.ptr 6 0, .ptr 9 0], [.agg [.str (bs nm), .slice pr.length (pr.flatMap Pat.ds), .slice cc.length (cc.flatMap Pat.ds), .slice gg.length (gg.flatMap Pat.ds), .int .i64 nl.length, .nilFn], .c (.slice nl.length (nl.flatMap Fct.ds))], P.map newY, fun rem => addH nl (runF nl [] (P.take (P.length - rem.length))), [25], [6, 9], [80], rfl, ?_, kS, kC, ?_, ?_⟩)))))
      · simp (maxSteps := 2000000) -implicitDefEqProofs [-List.map_set, Ja, -Int.natCast_add, -Int.natCast_mul, -Int.natCast_emod, -Int.natCast_ediv, -Int.natCast_pow, Jb, Jc, Jd, Je, Jf, Jg, Jh, Ji, Jj, Jk, Jl, Jm, Jn, Jo, Jp, Jq, Jr, Js, Jt, Ju, Jv, Jw, Jx, Jy, Jz, -List.reduceReplicate, U.toA, toD]
      · dsimp only
        rw [hP0, hP1, addH_nil]
        clear kC kS k1 hP0 hP1 hL hok hlen
        refine ⟨by simp, ?_, ?_, ?_, by simp, ?_⟩
        · intro c hc j hj
          simp only [List.mem_cons, List.not_mem_nil, or_false] at hc
          rcases hc with rfl | rfl <;> (simp [C.id?] at hj; subst hj; simp)
        · intro j b hb
          simp only [lk] at hb
          split at hb
          · rename_i e
            subst e
            cases hb
            refine ⟨by simp, by simp (maxSteps := 2000000) -implicitDefEqProofs [-List.map_set, Ja, -Int.natCast_add, -Int.natCast_mul, -Int.natCast_emod, -Int.natCast_ediv, -Int.natCast_pow, Jb, Jc, Jd, Je, Jf, Jg, Jh, Ji, Jj, Jk, Jl, Jm, Jn, Jo, Jp, Jq, Jr, Js, Jt, Ju, Jv, Jw, Jx, Jy, Jz, -List.reduceReplicate], ?_⟩
            intro c hc k hk
            simp at hc
            subst hc
            simp [C.id?] at hk
          · split at hb
            · rename_i e
              subst e
              cases hb
              refine ⟨by simp, by simp (maxSteps := 2000000) -implicitDefEqProofs [-List.map_set, Ja, -Int.natCast_add, -Int.natCast_mul, -Int.natCast_emod, -Int.natCast_ediv, -Int.natCast_pow, Jb, Jc, Jd, Je, Jf, Jg, Jh, Ji, Jj, Jk, Jl, Jm, Jn, Jo, Jp, Jq, Jr, Js, Jt, Ju, Jv, Jw, Jx, Jy, Jz, -List.reduceReplicate], ?_⟩
              intro c hc k hk
              simp at hc
              subst hc
              simp [C.id?] at hk
            · cases hb
        · intro j hj
          simp only [List.mem_cons, List.not_mem_nil, or_false] at hj
          rcases hj with rfl | rfl <;> simp [lk]
        · intro j b hb
          unfold addH at hb
          split at hb
          · simp only [lk] at hb
            split at hb
            · rename_i e; subst e; simp
            · split at hb
              · rename_i e; subst e; simp
              · cases hb
          · simp only [lk] at hb
            split at hb
            · rename_i e; subst e; simp
            · split at hb
              · rename_i e; subst e; simp
              · split at hb
                · rename_i e; subst e; simp
                · cases hb
      · dsimp only
        rw [hP1]
        generalize runF nl [] P = m at *
        by_cases hm : m = []
        · subst hm
          rw [addH_nil]
          have hL0 : L = [] := hL.symm
          subst hL0
          simp (maxSteps := 2000000) -implicitDefEqProofs [-List.map_set, Ja, -Int.natCast_add, -Int.natCast_mul, -Int.natCast_emod, -Int.natCast_ediv, -Int.natCast_pow, Jb, Jc, Jd, Je, Jf, Jg, Jh, Ji, Jj, Jk, Jl, Jm, Jn, Jo, Jp, Jq, Jr, Js, Jt, Ju, Jv, Jw, Jx, Jy, Jz, -List.reduceReplicate, St.backX, keepG]
          (first | refine .inl ⟨_, sortNNil_c, ?_⟩ | refine ⟨_, sortNNil_c, ?_⟩)
          simp (maxSteps := 2000000) -implicitDefEqProofs [-List.map_set, Ja, -Int.natCast_add, -Int.natCast_mul, -Int.natCast_emod, -Int.natCast_ediv, -Int.natCast_pow, Jb, Jc, Jd, Je, Jf, Jg, Jh, Ji, Jj, Jk, Jl, Jm, Jn, Jo, Jp, Jq, Jr, Js, Jt, Ju, Jv, Jw, Jx, Jy, Jz, -List.reduceReplicate]
        · rw [addH_ne nl hm]
          have q1 := fun i => sortN_c i m true (by simp at hlen; omega) hok
          have hlL : L.length = m.length := by rw [← hL]; exact sortBy_len m
          rw [hL] at q1
          simp (maxSteps := 2000000) -implicitDefEqProofs [-List.map_set, Ja, -Int.natCast_add, -Int.natCast_mul, -Int.natCast_emod, -Int.natCast_ediv, -Int.natCast_pow, Jb, Jc, Jd, Je, Jf, Jg, Jh, Ji, Jj, Jk, Jl, Jm, Jn, Jo, Jp, Jq, Jr, Js, Jt, Ju, Jv, Jw, Jx, Jy, Jz, -List.reduceReplicate, St.backX, keepG]
          refine .inr (.inl (ioK_one (q1 80) (by simp [inIds, U.all, C.id?]) (by simp [lk]) ?_))
          simp (maxSteps := 2000000) -implicitDefEqProofs [-List.map_set, Ja, -Int.natCast_add, -Int.natCast_mul, -Int.natCast_emod, -Int.natCast_ediv, -Int.natCast_pow, Jb, Jc, Jd, Je, Jf, Jg, Jh, Ji, Jj, Jk, Jl, Jm, Jn, Jo, Jp, Jq, Jr, Js, Jt, Ju, Jv, Jw, Jx, Jy, Jz, -List.reduceReplicate, St.backW, hlL]
  · rw [if_pos (.inr h1)] at hL
    subst hL
    simp (maxSteps := 2000000) -implicitDefEqProofs [-List.map_set, Ja, -Int.natCast_add, -Int.natCast_mul, -Int.natCast_emod, -Int.natCast_ediv, -Int.natCast_pow, Jb, Jc, Jd, Je, Jf, Jg, Jh, Ji, Jj, Jk, Jl, Jm, Jn, Jo, Jp, Jq, Jr, Js, Jt, Ju, Jv, Jw, Jx, Jy, Jz, -List.reduceReplicate, h0, h1]

end Go.Va
