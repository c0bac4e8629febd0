/-
  Contracts: guards compared, sorted, each kept once.
-/
import Derived.Test.YtkfdniccmcolgaaGreatWh
import Derived.Test.YtkfdniccmcolgaaGreatWk
import Derived.Test.YtkfdniccmcolgaaGreatWl
import Derived.Test.YtkfdniccmcolgaaGreatWj
set_option linter.all false

namespace Go.Va
open Go.Proofs Go.Shelf Go.RowKit Go.Lib Go.Sort
set_option maxHeartbeats 4000000
set_option maxRecDepth 10000
set_option linter.unusedSimpArgs false
set_option linter.unusedVariables false

/-- A guard. -/
structure Grd where
  kind : Int
  args : List Int
  deriving DecidableEq
def Grd.ds (g : Grd) : List D := [.int .i64 g.kind, intsD g.args]
theorem Grd.ds_len (g : Grd) : g.ds.length = 2 := rfl
def Grd.fct (g : Grd) : Fct := ⟨g.kind, g.args, false, [], []⟩
def cmpG (a b : Grd) : Int := cmpK a.fct b.fct
def Grd.Short (g : Grd) : Prop := g.args.length ≤ 1000000
theorem isCmp_G : IsCmp Grd.Short cmpG := ⟨fun x y _ _ => isCmp_K.rng _ _ trivial trivial, fun x y _ _ => isCmp_K.anti _ _ trivial trivial, fun x y z _ _ _ => isCmp_K.tr _ _ _ trivial trivial trivial⟩
theorem cmpG_zero {a b : Grd} : cmpG a b = 0 ↔ a = b := by
  unfold cmpG
  rw [cmpK_zero]
  cases a; cases b
  simp [Grd.fct]

theorem cmpGuards_c (a b : Grd) (ha : a.Short) (hb : b.Short) : CallsF Tryz.prog 60 [.agg a.ds, .agg b.ds] (.u (.c (.d (.int .i64 (cmpG a b))))) := by
  have k1 := compare_c a.kind b.kind
  have k2 := slCompare_c a.args b.args (by unfold Grd.Short at ha; omega) (by unfold Grd.Short at hb; omega)
  have k3 : CallsF Tryz.prog 71 [.c (.slice 2 [.int .i64 (cmpZ a.kind b.kind), .int .i64 (lexI a.args b.args)])] _ := or_c [cmpZ a.kind b.kind, lexI a.args b.args] (by simp)
  have e : cmpG a b = orL [cmpZ a.kind b.kind, lexI a.args b.args] := rfl
  rw [← e] at k3
  generalize cmpG a b = r at *
  refine callsF_of (T := tb) tab_ok mixed Tryz.func60 rfl (by decide) (Nat.le_of_ble_eq_true rfl) rfl ?_; unfold St.init
  simp only [Grd.ds]
  simp (maxSteps := 2000000) -implicitDefEqProofs [-List.map_set, Ja, -Int.natCast_add, -Int.natCast_mul, -Int.natCast_emod, -Int.natCast_ediv, -Int.natCast_pow, Jb, Jc, Jd, Je, Jf, Jg, Jh, Ji, Jj, Jk, Jl, Jm, Jn, Jo, Jp, Jq, Jr, Js, Jt, Ju, Jv, Jw, Jx, Jy, Jz]
  refine wpDraw_by [[], [0], [], [2], [0, 1, 2, 3], [], [5], [], [7], [0, 1, 2, 3, 4, 5, 6, 7, 8], [0, 1, 2, 3, 4, 5, 6, 7, 8, 9], [0, 1, 2, 3, 4, 5, 6, 7, 8, 9, 10], [0, 1, 2, 3, 4, 5, 6, 7, 8, 9, 10, 11]] [.any [] [] [⟨0, [2], [], [], []⟩, ⟨0, [5], [], [], []⟩, ⟨0, [3], [], [], []⟩, ⟨0, [7], [], [], []⟩, ⟨0, [6, 8], [], [], []⟩, ⟨0, [2], [], [], []⟩, ⟨0, [10], [], [], []⟩, ⟨0, [3], [], [], []⟩, ⟨0, [12], [], [], []⟩], .one, .one, .one, .one] (by rfl) ?_
  simp (maxSteps := 2000000) -implicitDefEqProofs [-List.map_set, Ja, -Int.natCast_add, -Int.natCast_mul, -Int.natCast_emod, -Int.natCast_ediv, -Int.natCast_pow, Jb, Jc, Jd, Je, Jf, Jg, Jh, Ji, Jj, Jk, Jl, Jm, Jn, Jo, Jp, Jq, Jr, Js, Jt, Ju, Jv, Jw, Jx, Jy, Jz]
  (first | refine .inl ⟨_, k1, ?_⟩ | refine ⟨_, k1, ?_⟩)
  simp (maxSteps := 2000000) -implicitDefEqProofs [-List.map_set, Ja, -Int.natCast_add, -Int.natCast_mul, -Int.natCast_emod, -Int.natCast_ediv, -Int.natCast_pow, Jb, Jc, Jd, Je, Jf, Jg, Jh, Ji, Jj, Jk, Jl, Jm, Jn, Jo, Jp, Jq, Jr, Js, Jt, Ju, Jv, Jw, Jx, Jy, Jz]
  (first | refine .inl ⟨_, k2, ?_⟩ | refine ⟨_, k2, ?_⟩)
  simp (maxSteps := 2000000) -implicitDefEqProofs [-List.map_set, Ja, -Int.natCast_add, -Int.natCast_mul, -Int.natCast_emod, -Int.natCast_ediv, -Int.natCast_pow, Jb, Jc, Jd, Je, Jf, Jg, Jh, Ji, Jj, Jk, Jl, Jm, Jn, Jo, Jp, Jq, Jr, Js, Jt, Ju, Jv, Jw, Jx, Jy, Jz]
  (first | refine .inl ⟨_, k3, ?_⟩ | refine ⟨_, k3, ?_⟩)
  simp (maxSteps := 2000000) -implicitDefEqProofs [-List.map_set, Ja, -Int.natCast_add, -Int.natCast_mul, -Int.natCast_emod, -Int.natCast_ediv, -Int.natCast_pow, Jb, Jc, Jd, Je, Jf, Jg, Jh, Ji, Jj, Jk, Jl, Jm, Jn, Jo, Jp, Jq, Jr, Js, Jt, Ju, Jv, Jw, Jx, Jy, Jz]

theorem sameGuard_c (a b : Grd) (ha : a.Short) (hb : b.Short) : CallsF Tryz.prog 62 [.agg a.ds, .agg b.ds] (.u (.c (.d (.bool (decide (cmpG a b = 0)))))) := by
  have k := cmpGuards_c a b ha hb
  simp only [Grd.ds] at k
  refine callsF_of (T := tb) tab_ok mixed Tryz.func62 rfl (by decide) (Nat.le_of_ble_eq_true rfl) rfl ?_; unfold St.init
  simp only [Grd.ds]
  simp (maxSteps := 2000000) -implicitDefEqProofs [-List.map_set, Ja, -Int.natCast_add, -Int.natCast_mul, -Int.natCast_emod, -Int.natCast_ediv, -Int.natCast_pow, Jb, Jc, Jd, Je, Jf, Jg, Jh, Ji, Jj, Jk, Jl, Jm, Jn, Jo, Jp, Jq, Jr, Js, Jt, Ju, Jv, Jw, Jx, Jy, Jz]
  (first | refine .inl ⟨_, k, ?_⟩ | refine ⟨_, k, ?_⟩)
  simp (maxSteps := 2000000) -implicitDefEqProofs [-List.map_set, Ja, -Int.natCast_add, -Int.natCast_mul, -Int.natCast_emod, -Int.natCast_ediv, -Int.natCast_pow, Jb, Jc, Jd, Je, Jf, Jg, Jh, Ji, Jj, Jk, Jl, Jm, Jn, Jo, Jp, Jq, Jr, Js, Jt, Ju, Jv, Jw, Jx, Jy, Jz]

def sortG (l : List Grd) : List Grd := sortBy cmpG l
theorem sortG_c (i : Nat) (l : List Grd) (app : Bool) (hl : l.length ≤ 1099511627776) (hr : ∀ g ∈ l, g.Short) :
    CallsW Tryz.prog 59 [.c (.sl i 0 l.length), .c (.d (.fn 60 []))] [(i, .row 2 (l.flatMap Grd.ds) app)] [(i, .row 2 ((sortG l).flatMap Grd.ds) app)] (.tup []) :=
  sortFunc_g (by omega) Grd.ds_len isCmp_G (fun x _ => cmpG_zero.2 rfl) (fun x y _ _ h => cmpG_zero.1 h) Tryz.laysSG rfl ⟨_, Tryz.func59, rfl, by decide⟩ Tryz.isAgg60 Tryz.sizeOf60 60
    (enters_of Tryz.func60 (by kernel_rfl) rfl) (fun x y hx hy => cmpGuards_c x y hx hy) i l app hl hr

end Go.Va

/-
  Contracts: guards, each kept once.
-/
namespace Go.Va
open Go.Proofs
set_option maxHeartbeats 4000000
set_option maxRecDepth 10000
set_option linter.unusedSimpArgs false
set_option linter.unusedVariables false

/-- Less is known of a row handed back. -/
theorem CallsA.less {P : Program} {f : FuncId} {sz n m : Nat} {cs cs' more : List D} {al : List A} (h : CallsA P f sz n cs al m (cs' ++ more)) : CallsA P f sz n cs al m cs' := by
  refine ⟨h.1, fun w Z ρ k v0 vals hZ hh hcz hone hv0 hv => (h.2 w Z ρ k v0 vals hZ hh hcz hone hv0 hv).mono fun e w' ⟨v, he, ρ', h1, h2, h3, h4, h5⟩ => ⟨v, he, ρ', h1, ⟨h2.owns, fun j b hjb => ?_⟩, h3, h4, h5⟩⟩
  by_cases e : j = k
  · subst e
    rw [lk_cons_same] at hjb
    cases hjb
    obtain ⟨o, ho, q1, q2, q3, q4, q5⟩ := h2.rep j _ (lk_cons_same _ _ _)
    refine ⟨o, ho, q1, q2, by simp at q3 ⊢; omega, q4, fun t x hx => q5 t x ?_⟩
    rw [List.getElem?_append_left (List.getElem?_eq_some_iff.1 hx).1]
    exact hx
  · rw [lk_cons_ne e] at hjb; cases hjb

/-- Of equal neighbours one is kept. -/
def cmpct : List Grd → List Grd
  | a :: b :: l => if a = b then cmpct (b :: l) else a :: cmpct (b :: l)
  | l => l
theorem cmpct_snoc : ∀ (m : List Grd) (y x : Grd), cmpct (m ++ [y] ++ [x]) = if y = x then cmpct (m ++ [y]) else cmpct (m ++ [y]) ++ [x]
  | [], y, x => by
    simp only [List.nil_append, List.cons_append, cmpct]
    split
    · rename_i h; subst h; rfl
    · rfl
  | [a], y, x => by
    by_cases h1 : a = y <;> by_cases h2 : y = x <;> simp [cmpct, h1, h2]
  | a :: b :: m, y, x => by
    have ih := cmpct_snoc (b :: m) y x
    simp only [List.cons_append] at ih ⊢
    rw [cmpct, cmpct, ih]
    split <;> split <;> rfl
theorem cmpct_take {l : List Grd} {i : Nat} (h1 : 1 ≤ i) (h : i < l.length) : cmpct (l.take (i + 1)) = if l[i - 1]'(by omega) = l[i] then cmpct (l.take i) else cmpct (l.take i) ++ [l[i]] := by
  obtain ⟨j, rfl⟩ : ∃ j, i = j + 1 := ⟨i - 1, by omega⟩
  rw [List.take_succ_eq_append_getElem h, List.take_succ_eq_append_getElem (by omega : j < l.length)]
  exact cmpct_snoc _ _ _
theorem cmpct_len : ∀ l : List Grd, (cmpct l).length ≤ l.length
  | a :: b :: l => by
    rw [cmpct]
    have := cmpct_len (b :: l)
    split
    · simp at *; omega
    · simp at *; omega
  | [a] => by simp [cmpct]
  | [] => by simp [cmpct]

theorem grd_at (l : List Grd) (i : Nat) (h : i < l.length) : ((l.flatMap Grd.ds).drop (i * 2)).take 2 = l[i].ds := fm_at Grd.ds_len l i h
@[simp high] theorem grd_len (l : List Grd) : (l.flatMap Grd.ds).length = l.length * 2 := fm_length Grd.ds_len l

theorem fm_splice {α : Type} {e : α → List D} {k : Nat} (he : ∀ a, (e a).length = k) (l : List α) (i : Nat) (v : α) (h : i < l.length) : splice (i * k) (e v) (l.flatMap e) = (l.set i v).flatMap e := by
  rw [splice, fm_take he, he, show i * k + k = (i + 1) * k by rw [Nat.succ_mul], fm_drop he, List.set_eq_take_append_cons_drop, if_pos h]
  simp
theorem grd_set (l : List Grd) (i : Nat) (v : Grd) (h : i < l.length) : splice (i * 2) [D.int .i64 v.kind, intsD v.args] (l.flatMap Grd.ds) = (l.set i v).flatMap Grd.ds := fm_splice Grd.ds_len l i v h
theorem fm_clear {α : Type} {e : α → List D} {k : Nat} (he : ∀ a, (e a).length = k) (z : List D) (hz : z.length = k) (l : List α) (i : Nat) (h : i ≤ l.length) : splice (i * k) (rep (l.length - i) z) (l.flatMap e) = (l.take i).flatMap e ++ (List.replicate (l.length - i) z).flatten := by
  have e2 : ∀ n, rep n z = (List.replicate n z).flatten := by
    intro n
    induction n with
    | zero => rfl
    | succ n ih => rw [rep, ih, List.replicate_succ, List.flatten_cons]
  have e3 : ((List.replicate (l.length - i) z).flatten).length = (l.length - i) * k := by
    simp [List.length_flatten, hz]
  rw [splice, fm_take he, e2, e3, ← Nat.add_mul, fm_drop he, show i + (l.length - i) = l.length by omega, List.drop_length]
  simp

theorem grd_atC (l : List Grd) (i : Nat) (h : i < l.length) : ((l.flatMap Grd.ds).map C.d |>.drop (i * 2)).take 2 = [.d (.int .i64 l[i].kind), .d (intsD l[i].args)] := by
  have := grd_at l i h
  rw [← List.map_drop, ← List.map_take, this]
  rfl

theorem compact_c (l : List Grd) (hl : l.length ≤ 1099511627776) (hr : ∀ g ∈ l, g.Short) :
    CallsA Tryz.prog 61 2 l.length (l.flatMap Grd.ds) [.c (.fn 62 [])] (cmpct l).length ((cmpct l).flatMap Grd.ds) := by
  have key : ∃ more, CallsA Tryz.prog 61 2 l.length (l.flatMap Grd.ds) [.c (.fn 62 [])] (cmpct l).length ((cmpct l).flatMap Grd.ds ++ more) := by
    by_cases h2 : l.length < 2
    · refine ⟨[], ?_⟩
      have e : cmpct l = l := by
        match l, h2 with
        | [], _ => rfl
        | [a], _ => rfl
        | a :: b :: l, h => simp at h; omega
      rw [e, List.append_nil]
      refine callsA_of (T := tb) tab_ok mixed Tryz.func61 rfl (by decide) (Nat.le_of_ble_eq_true rfl) rfl ?_; unfold St.initA
      simp (maxSteps := 2000000) -implicitDefEqProofs [-List.map_set, Ja, -Int.natCast_add, -Int.natCast_mul, -Int.natCast_emod, -Int.natCast_ediv, -Int.natCast_pow, Jb, Jc, Jd, Je, Jf, Jg, Jh, Ji, Jj, Jk, Jl, Jm, Jn, Jo, Jp, Jq, Jr, Js, Jt, Ju, Jv, Jw, Jx, Jy, Jz, h2, BK, finA]
    · have same : ∀ a b : Grd, a ∈ l → b ∈ l → CallsF Tryz.prog 62 [.agg a.ds, .agg b.ds] (.u (.c (.d (.bool (decide (a = b)))))) := fun a b ha hb => by
        have := sameGuard_c a b (hr a ha) (hr b hb)
        have e : decide (cmpG a b = 0) = decide (a = b) := by simp [cmpG_zero]
        rwa [e] at this
      refine ⟨(List.replicate (l.length - (cmpct l).length) [D.int .i64 0, .slice 0 []]).flatten, ?_⟩
      refine callsA_of (T := tb) tab_ok mixed Tryz.func61 rfl (by decide) (Nat.le_of_ble_eq_true rfl) rfl ?_; unfold St.initA
      simp (maxSteps := 2000000) -implicitDefEqProofs [-List.map_set, Ja, -Int.natCast_add, -Int.natCast_mul, -Int.natCast_emod, -Int.natCast_ediv, -Int.natCast_pow, Jb, Jc, Jd, Je, Jf, Jg, Jh, Ji, Jj, Jk, Jl, Jm, Jn, Jo, Jp, Jq, Jr, Js, Jt, Ju, Jv, Jw, Jx, Jy, Jz, h2, BK]
      refine wpLoop_of (fun j : Nat => ⟨[(5, vI .i64 (j + 1 : Nat)), (0, vC (.sl 2000000 0 l.length)), (1, vC (.d (.fn 62 [])))], [(2000000, .row 2 (l.flatMap Grd.ds) true)]⟩) (fun j => j + 1 ≤ l.length ∧ cmpct (l.take (j + 1)) = l.take (j + 1)) (fun j => l.length - j) 0 (by simp [leL, lk, St.le, vI, vC]) ⟨by omega, by
        match l, h2 with
        | a :: b :: l, _ => rfl
        | [a], _ => rfl
        | [], h => simp at h⟩ ?_
      rintro j ⟨hj, hc⟩
      by_cases h : j + 1 < l.length
      · have g1 := grd_atC l (j + 1) h
        have g0 := grd_atC l j (by omega)
        have q := same l[j + 1] (l[j]'(by omega)) (List.getElem_mem _) (List.getElem_mem _)
        have ct := cmpct_take (l := l) (i := j + 1) (by omega) h
        simp only [Nat.add_sub_cancel] at ct
        have b1 : (j + 1) * 2 + 2 ≤ l.length * 2 := by omega
        have b0 : j * 2 + 2 ≤ l.length * 2 := by omega
        simp only [Grd.ds] at q
        simp (maxSteps := 2000000) -implicitDefEqProofs [-List.map_set, Ja, -Int.natCast_add, -Int.natCast_mul, -Int.natCast_emod, -Int.natCast_ediv, -Int.natCast_pow, Jb, Jc, Jd, Je, Jf, Jg, Jh, Ji, Jj, Jk, Jl, Jm, Jn, Jo, Jp, Jq, Jr, Js, Jt, Ju, Jv, Jw, Jx, Jy, Jz, h]
        refine wpDraw_by [[], [], [], [1, 2], [1, 2, 3], [], [], [6], [5, 6, 7], [5, 6, 7, 8], [0, 1, 2, 3, 4, 5, 6, 7, 8, 9]] [.any [] [] [⟨0, [1], [], [], []⟩, ⟨0, [0], [], [], []⟩, ⟨0, [5], [], [], []⟩, ⟨0, [19, 20], [], [], []⟩, ⟨0, [21], [], [], []⟩, ⟨0, [0], [], [], []⟩, ⟨0, [5], [], [], []⟩, ⟨0, [24], [], [], []⟩, ⟨0, [23, 25], [], [], []⟩, ⟨0, [26], [], [], []⟩], .one] (by rfl) ?_
        simp (maxSteps := 2000000) -implicitDefEqProofs [-List.map_set, Ja, -Int.natCast_add, -Int.natCast_mul, -Int.natCast_emod, -Int.natCast_ediv, -Int.natCast_pow, Jb, Jc, Jd, Je, Jf, Jg, Jh, Ji, Jj, Jk, Jl, Jm, Jn, Jo, Jp, Jq, Jr, Js, Jt, Ju, Jv, Jw, Jx, Jy, Jz, g0, g1]
        refine ⟨h, b1, by omega, by omega, b0, ?_⟩
        (first | refine .inl ⟨_, q, ?_⟩ | refine ⟨_, q, ?_⟩)
        by_cases he : l[j + 1] = l[j]'(by omega)
        · simp (maxSteps := 2000000) -implicitDefEqProofs [-List.map_set, Ja, -Int.natCast_add, -Int.natCast_mul, -Int.natCast_emod, -Int.natCast_ediv, -Int.natCast_pow, Jb, Jc, Jd, Je, Jf, Jg, Jh, Ji, Jj, Jk, Jl, Jm, Jn, Jo, Jp, Jq, Jr, Js, Jt, Ju, Jv, Jw, Jx, Jy, Jz, he]
          refine ⟨by omega, ?_⟩
          have e1 : cmpct (l.take (j + 1 + 1)) = l.take (j + 1) := by rw [ct, if_pos he.symm, hc]
          refine wpLoop_of (fun x : Nat × Nat × List Grd => ⟨[(7, vI .i64 (x.1 + 1 : Nat)), (6, vC (.sl 2000000 (j + 1) (l.length - (j + 1)))), (5, vI .i64 (x.2.1 : Nat)), (0, vC (.sl 2000000 0 l.length)), (1, vC (.d (.fn 62 [])))], [(2000000, .row 2 (x.2.2.flatMap Grd.ds) true)]⟩)
            (fun x => j + 1 + x.1 + 1 ≤ l.length ∧ x.2.1 ≤ j + 1 + x.1 ∧ x.2.2.length = l.length ∧ x.2.2.take x.2.1 = cmpct (l.take (j + 1 + x.1 + 1)) ∧ x.2.1 = (cmpct (l.take (j + 1 + x.1 + 1))).length ∧ ∀ p, j + 1 + x.1 ≤ p → x.2.2[p]? = l[p]?) (fun x => l.length - x.1) (0, j + 1, l) (by simp [leL, lk, St.le, vI, vC]) (by
            refine ⟨by show j + 1 + 0 + 1 ≤ _; omega, by show j + 1 ≤ j + 1 + 0; omega, rfl, by show l.take (j + 1) = _; rw [Nat.add_zero, e1], ?_, fun p _ => rfl⟩
            show j + 1 = _
            rw [Nat.add_zero, e1, List.length_take]; omega) ?_
          rintro ⟨m, K, G⟩ ⟨h3, h4, h5, h6, h7, h8⟩
          simp only at h3 h4 h5 h6 h7 h8
          by_cases hm : m + 1 < l.length - (j + 1)
          · have hG : ∀ p (hp : j + 1 + m ≤ p) (hl : p < l.length), G[p]'(by omega) = l[p] := fun p hp hl => by
              have := h8 p hp
              rw [List.getElem?_eq_getElem (by omega), List.getElem?_eq_getElem hl] at this
              exact Option.some.inj this
            have q1 := grd_atC G (j + 1 + (m + 1)) (by omega)
            have q0 := grd_atC G (j + 1 + m) (by omega)
            rw [hG _ (by omega) (by omega)] at q1 q0
            have q := same (l[j + 1 + (m + 1)]'(by omega)) (l[j + 1 + m]'(by omega)) (List.getElem_mem _) (List.getElem_mem _)
            simp only [Grd.ds] at q
            have ct2 := cmpct_take (l := l) (i := j + 1 + m + 1) (by omega) (by omega)
            have c1 : (j + 1 + (m + 1)) * 2 + 2 ≤ l.length * 2 := by omega
            have c0 : (j + 1 + m) * 2 + 2 ≤ l.length * 2 := by omega
            simp (maxSteps := 2000000) -implicitDefEqProofs [-List.map_set, Ja, -Int.natCast_add, -Int.natCast_mul, -Int.natCast_emod, -Int.natCast_ediv, -Int.natCast_pow, Jb, Jc, Jd, Je, Jf, Jg, Jh, Ji, Jj, Jk, Jl, Jm, Jn, Jo, Jp, Jq, Jr, Js, Jt, Ju, Jv, Jw, Jx, Jy, Jz, hm]
            refine wpDraw_by [[], [], [], [1, 2], [1, 2, 3], [], [], [6], [5, 6, 7], [5, 6, 7, 8], [0, 1, 2, 3, 4, 5, 6, 7, 8, 9], [0, 1, 2, 3, 4, 5, 6, 7, 8, 9, 10]] [.any [] [] [⟨0, [1], [], [], []⟩, ⟨0, [6], [], [], []⟩, ⟨0, [7], [], [], []⟩, ⟨0, [39, 40], [], [], []⟩, ⟨0, [41], [], [], []⟩, ⟨0, [6], [], [], []⟩, ⟨0, [7], [], [], []⟩, ⟨0, [44], [], [], []⟩, ⟨0, [43, 45], [], [], []⟩, ⟨0, [46], [], [], []⟩], .one, .one] (by rfl) ?_
            simp (maxSteps := 2000000) -implicitDefEqProofs [-List.map_set, Ja, -Int.natCast_add, -Int.natCast_mul, -Int.natCast_emod, -Int.natCast_ediv, -Int.natCast_pow, Jb, Jc, Jd, Je, Jf, Jg, Jh, Ji, Jj, Jk, Jl, Jm, Jn, Jo, Jp, Jq, Jr, Js, Jt, Ju, Jv, Jw, Jx, Jy, Jz, q0, q1, h5]
            refine ⟨hm, c1, by omega, by omega, c0, ?_⟩
            (first | refine .inl ⟨_, q, ?_⟩ | refine ⟨_, q, ?_⟩)
            by_cases he2 : l[j + 1 + (m + 1)]'(by omega) = l[j + 1 + m]'(by omega)
            · have e2 : cmpct (l.take (j + 1 + (m + 1) + 1)) = cmpct (l.take (j + 1 + m + 1)) := by
                rw [show j + 1 + (m + 1) + 1 = j + 1 + m + 1 + 1 from rfl, ct2]
                exact if_pos he2.symm
              simp (maxSteps := 2000000) -implicitDefEqProofs [-List.map_set, Ja, -Int.natCast_add, -Int.natCast_mul, -Int.natCast_emod, -Int.natCast_ediv, -Int.natCast_pow, Jb, Jc, Jd, Je, Jf, Jg, Jh, Ji, Jj, Jk, Jl, Jm, Jn, Jo, Jp, Jq, Jr, Js, Jt, Ju, Jv, Jw, Jx, Jy, Jz, he2]
              exact ⟨by omega, m + 1, K, G, ⟨⟨rfl, rfl⟩, rfl⟩, ⟨by omega, by omega, h5, by rw [e2]; exact h6, by rw [e2]; exact h7, fun p hp => h8 p (by omega)⟩, by omega⟩
            · have e2 : cmpct (l.take (j + 1 + (m + 1) + 1)) = cmpct (l.take (j + 1 + m + 1)) ++ [l[j + 1 + (m + 1)]'(by omega)] := by
                rw [show j + 1 + (m + 1) + 1 = j + 1 + m + 1 + 1 from rfl, ct2]
                exact if_neg fun h => he2 h.symm
              simp (maxSteps := 2000000) -implicitDefEqProofs [-List.map_set, Ja, -Int.natCast_add, -Int.natCast_mul, -Int.natCast_emod, -Int.natCast_ediv, -Int.natCast_pow, Jb, Jc, Jd, Je, Jf, Jg, Jh, Ji, Jj, Jk, Jl, Jm, Jn, Jo, Jp, Jq, Jr, Js, Jt, Ju, Jv, Jw, Jx, Jy, Jz, he2, q1, h5]
              refine ⟨hm, c1, by omega, by omega, ?_⟩
              refine ⟨by omega, by omega, m + 1, K + 1, G.set K (l[j + 1 + (m + 1)]'(by omega)), ⟨⟨rfl, rfl⟩, grd_set G K _ (by omega)⟩, ⟨by omega, by omega, by simp [h5], ?_, by rw [e2, List.length_append, ← h7]; rfl, fun p hp => ?_⟩, by omega⟩
              · rw [e2, ← h6, List.take_succ_eq_append_getElem (by simp; omega), List.getElem_set_self, List.take_set_of_le (Nat.le_refl _)]
              · rw [List.getElem?_set_ne (by omega)]
                exact h8 p (by omega)
          · have e3 : j + 1 + m + 1 = l.length := by omega
            rw [e3, List.take_length] at h6 h7
            have e4 := fm_clear Grd.ds_len [D.int .i64 0, D.slice 0 []] rfl G K (by omega)
            rw [h5, h6] at e4
            simp (maxSteps := 2000000) -implicitDefEqProofs [-List.map_set, Ja, -Int.natCast_add, -Int.natCast_mul, -Int.natCast_emod, -Int.natCast_ediv, -Int.natCast_pow, Jb, Jc, Jd, Je, Jf, Jg, Jh, Ji, Jj, Jk, Jl, Jm, Jn, Jo, Jp, Jq, Jr, Js, Jt, Ju, Jv, Jw, Jx, Jy, Jz, hm, h5, clearTo]
            refine ⟨by omega, by omega, by omega, ?_⟩
            rw [e4]
            simp only [finA, h7]
            exact ⟨.inl trivial, 2000000, rfl, by simp [lk]⟩
        · simp (maxSteps := 2000000) -implicitDefEqProofs [-List.map_set, Ja, -Int.natCast_add, -Int.natCast_mul, -Int.natCast_emod, -Int.natCast_ediv, -Int.natCast_pow, Jb, Jc, Jd, Je, Jf, Jg, Jh, Ji, Jj, Jk, Jl, Jm, Jn, Jo, Jp, Jq, Jr, Js, Jt, Ju, Jv, Jw, Jx, Jy, Jz, he]
          exact ⟨by omega, ⟨by omega, by rw [ct, if_neg fun h => he h.symm, hc]; exact (List.take_succ_eq_append_getElem h).symm⟩, by omega⟩
      · have e : j + 1 = l.length := by omega
        rw [e, List.take_length] at hc
        simp (maxSteps := 2000000) -implicitDefEqProofs [-List.map_set, Ja, -Int.natCast_add, -Int.natCast_mul, -Int.natCast_emod, -Int.natCast_ediv, -Int.natCast_pow, Jb, Jc, Jd, Je, Jf, Jg, Jh, Ji, Jj, Jk, Jl, Jm, Jn, Jo, Jp, Jq, Jr, Js, Jt, Ju, Jv, Jw, Jx, Jy, Jz, h, finA]
        exact ⟨_, ⟨rfl, by rw [hc]⟩, by simp [hc]⟩
  obtain ⟨more, h⟩ := key
  exact h.less

end Go.Va

/-
  Contracts: guards sorted, each once.
-/
namespace Go.Va
open Go.Proofs
set_option maxHeartbeats 4000000
set_option maxRecDepth 10000
set_option linter.unusedSimpArgs false
set_option linter.unusedVariables false

def uniqG (l : List Grd) : List Grd := cmpct (sortG l)
theorem sortG_len (l : List Grd) : (sortG l).length = l.length := sortBy_len l
theorem sortG_mem {l : List Grd} {g : Grd} : g ∈ sortG l ↔ g ∈ l := (sortBy_perm l).mem_iff
theorem cmpct_sub : ∀ l : List Grd, (cmpct l).Sublist l
  | a :: b :: l => by
    rw [cmpct]
    split
    · exact .cons _ (cmpct_sub _)
    · exact .cons_cons _ (cmpct_sub _)
  | [a] => .refl _
  | [] => .refl _
theorem uniqG_mem {l : List Grd} {g : Grd} (h : g ∈ uniqG l) : g ∈ l := sortG_mem.1 ((cmpct_sub _).subset h)
theorem uniqG_len (l : List Grd) : (uniqG l).length ≤ l.length := by
  have := cmpct_len (sortG l)
  rwa [sortG_len] at this

theorem unique_c (l : List Grd) (hl : l.length ≤ 1099511627776) (hr : ∀ g ∈ l, g.Short) :
    CallsA Tryz.prog 30 2 l.length (l.flatMap Grd.ds) [] (uniqG l).length ((uniqG l).flatMap Grd.ds) := by
  have q1 := fun i => sortG_c i l true hl hr
  have q2 := compact_c (sortG l) (by rw [sortG_len]; omega) (fun g hg => hr g (sortG_mem.1 hg))
  rw [sortG_len] at q2
  refine callsA_of (T := tb) tab_ok mixed Tryz.func30 rfl (by decide) (Nat.le_of_ble_eq_true rfl) rfl ?_; unfold St.initA
  simp (maxSteps := 2000000) -implicitDefEqProofs [-List.map_set, Ja, -Int.natCast_add, -Int.natCast_mul, -Int.natCast_emod, -Int.natCast_ediv, -Int.natCast_pow, Jb, Jc, Jd, Je, Jf, Jg, Jh, Ji, Jj, Jk, Jl, Jm, Jn, Jo, Jp, Jq, Jr, Js, Jt, Ju, Jv, Jw, Jx, Jy, Jz, BK]
  refine .inr (.inl (ioK_one (q1 2000000) (by simp [inIds, U.all, C.id?]) (by simp [lk]) ?_))
  simp (maxSteps := 2000000) -implicitDefEqProofs [-List.map_set, Ja, -Int.natCast_add, -Int.natCast_mul, -Int.natCast_emod, -Int.natCast_ediv, -Int.natCast_pow, Jb, Jc, Jd, Je, Jf, Jg, Jh, Ji, Jj, Jk, Jl, Jm, Jn, Jo, Jp, Jq, Jr, Js, Jt, Ju, Jv, Jw, Jx, Jy, Jz, St.backW]
  refine .inr (.inr (.inr (.inr (.inr ⟨rfl, 2000000, l.length, 2, _, _, (sortG l).flatMap Grd.ds, _, _, [_], rfl, by simp [lk], rfl, rfl, q2, ?_⟩))))
  simp (maxSteps := 2000000) -implicitDefEqProofs [-List.map_set, Ja, -Int.natCast_add, -Int.natCast_mul, -Int.natCast_emod, -Int.natCast_ediv, -Int.natCast_pow, Jb, Jc, Jd, Je, Jf, Jg, Jh, Ji, Jj, Jk, Jl, Jm, Jn, Jo, Jp, Jq, Jr, Js, Jt, Ju, Jv, Jw, Jx, Jy, Jz, St.drop, finA, uniqG]
end Go.Va

/-
  Contracts: the guards of a derivation.
-/
namespace Go.Va
open Go.Proofs
set_option maxHeartbeats 4000000
set_option maxRecDepth 10000
set_option linter.unusedSimpArgs false
set_option linter.unusedVariables false

def Pat.Ok (p : Pat) : Prop := p.letters ≠ [] ∧ p.letters.length ≤ 1000 ∧ ∀ c ∈ p.letters, ltr c
def ptsOf (b : Bnd) (p : Pat) : List Int := sortL (valsB b p.letters)
def guardOf (b : Bnd) (p : Pat) : Grd := ⟨p.kind, ptsOf b p⟩
/-- Two neighbours are equal. -/
def twice : List Int → Bool
  | a :: b :: l => if a = b then true else twice (b :: l)
  | _ => false
def guardsL (b : Bnd) (ps : List Pat) : List Grd := if ps.any (fun p => twice (ptsOf b p)) then [] else uniqG (ps.map (guardOf b))
def guardsB (b : Bnd) (ps : List Pat) : Bool := !ps.any (fun p => twice (ptsOf b p))

theorem val1_ne (b : Bnd) (c : UInt8) : val1 b c ≠ [] := by unfold val1; split <;> simp
theorem valsB_ne (b : Bnd) {l : List UInt8} (h : l ≠ []) : valsB b l ≠ [] := by
  cases l with
  | nil => exact absurd rfl h
  | cons c r =>
    unfold valsB
    rw [List.flatMap_cons]
    simp [val1_ne]
theorem valsB_len (b : Bnd) (l : List UInt8) : (valsB b l).length ≤ 2 * l.length := by
  unfold valsB
  induction l with
  | nil => simp
  | cons c r ih =>
    have : (val1 b c).length ≤ 2 := by unfold val1; split <;> simp
    rw [List.flatMap_cons, List.length_append, List.length_cons]; omega
theorem twice_iff : ∀ {l : List Int}, twice l = true ↔ ∃ i, ∃ h : i + 1 < l.length, l[i + 1] = l[i]
  | [] => by simp [twice]
  | [a] => by simp [twice]
  | a :: b :: l => by
    rw [twice]
    by_cases h : a = b
    · rw [if_pos h]
      simp only [true_iff]
      exact ⟨0, by simp, by simp [h]⟩
    · rw [if_neg h, twice_iff]
      constructor
      · rintro ⟨i, hi, e⟩
        exact ⟨i + 1, by simp at hi ⊢; omega, by simpa using e⟩
      · rintro ⟨i, hi, e⟩
        cases i with
        | zero => exact absurd (by simpa using e.symm) h
        | succ i => exact ⟨i, by simp at hi ⊢; omega, by simpa using e⟩
theorem twice_no {l : List Int} (h : ∀ i (h : i + 1 < l.length), l[i + 1] ≠ l[i]) : twice l = false := by
  rw [Bool.eq_false_iff]
  intro h1
  obtain ⟨i, h2, h3⟩ := twice_iff.1 h1
  exact h i h2 h3

theorem pat_at (l : List Pat) (i : Nat) (h : i < l.length) : ((l.flatMap Pat.ds).drop (i * 3)).take 3 = l[i].ds := fm_at Pat.ds_len l i h
theorem pat_atC (l : List Pat) (i : Nat) (h : i < l.length) : ((l.flatMap Pat.ds).map C.d |>.drop (i * 3)).take 3 = [.d (.int .i64 l[i].kind), .d (.str (bs l[i].letters)), .d (.int .i64 l[i].n)] := by
  have := pat_at l i h
  rw [← List.map_drop, ← List.map_take, this]
  rfl
@[simp high] theorem pat_len (l : List Pat) : (l.flatMap Pat.ds).length = l.length * 3 := fm_length Pat.ds_len l

def grdsT (b : Bnd) (ps : List Pat) (i : Nat) : List Grd := (ps.take i).map (guardOf b)
theorem grdsT_len {b : Bnd} {ps : List Pat} {i : Nat} (h : i ≤ ps.length) : (grdsT b ps i).length = i := by simp [grdsT]; omega
theorem grdsT_succ {b : Bnd} {ps : List Pat} {i : Nat} (h : i < ps.length) : grdsT b ps (i + 1) = grdsT b ps i ++ [guardOf b ps[i]] := by
  unfold grdsT
  rw [List.take_succ_eq_append_getElem h, List.map_append]; rfl
theorem guardsOf_c (b : Bnd) (hb : b.Ok) (ps : List Pat) (hp : ∀ p ∈ ps, p.Ok) (hl : ps.length ≤ 1000) :
    CallsF Tryz.prog 109 [.c (patsD ps), .agg b.ds] (.tup [.c (.own 2 (guardsL b ps).length ((guardsL b ps).flatMap Grd.ds)), .c (.d (.bool (guardsB b ps)))]) := by
  refine callsF_of (T := tb) tab_ok mixed Tryz.func109 rfl (by decide) (Nat.le_of_ble_eq_true rfl) rfl ?_; unfold St.init
  simp only [patsD]
  simp (maxSteps := 2000000) -implicitDefEqProofs [-List.map_set, Ja, -Int.natCast_add, -Int.natCast_mul, -Int.natCast_emod, -Int.natCast_ediv, -Int.natCast_pow, Jb, Jc, Jd, Je, Jf, Jg, Jh, Ji, Jj, Jk, Jl, Jm, Jn, Jo, Jp, Jq, Jr, Js, Jt, Ju, Jv, Jw, Jx, Jy, Jz, -List.reduceReplicate]
  refine wpLoop_by [(6, 45)] (fun i : Nat => ⟨[(13, vI .i64 i), (12, vI .i64 ps.length), (11, vC (.d (.slice ps.length (ps.flatMap Pat.ds)))), (6, vC (.sl 6 0 i)), (3, vC (.ptr 3 0))], [(6, .row 2 ((grdsT b ps i).flatMap Grd.ds) true), (3, .box b.cs)]⟩)
    (fun i => i ≤ ps.length ∧ (ps.take i).any (fun p => twice (ptsOf b p)) = false) (fun i => ps.length - i) 0 (by simp [leL, lk, St.le, vI, vC, grdsT]) (by simp) ?_
  rintro i ⟨hi, hno⟩
  by_cases h : i < ps.length
  · have g := pat_atC ps i h
    have hpi := hp ps[i] (List.getElem_mem h)
    have b1 : i * 3 + 3 ≤ ps.length * 3 := by omega
    have q1 := values_c b hb ps[i].letters hpi.2.2 hpi.2.1
    have hv := valsB_ne b hpi.1
    have q2 := sort_c 20 (valsB b ps[i].letters) true hv (by have := valsB_len b ps[i].letters; have := hpi.2.1; omega)
    have hgl := grdsT_len (b := b) hi
    have hsl : (sortL (valsB b ps[i].letters)).length = (valsB b ps[i].letters).length := sortL_len _
    have hl2 : (valsB b ps[i].letters).length ≤ 2000 := by have := valsB_len b ps[i].letters; have := hpi.2.1; omega
    simp (maxSteps := 2000000) -implicitDefEqProofs [-List.map_set, Ja, -Int.natCast_add, -Int.natCast_mul, -Int.natCast_emod, -Int.natCast_ediv, -Int.natCast_pow, Jb, Jc, Jd, Je, Jf, Jg, Jh, Ji, Jj, Jk, Jl, Jm, Jn, Jo, Jp, Jq, Jr, Js, Jt, Ju, Jv, Jw, Jx, Jy, Jz, -List.reduceReplicate, h, g]
    refine ⟨by omega, ?_⟩
    (first | refine .inl ⟨_, q1, ?_⟩ | refine ⟨_, q1, ?_⟩)
    have fl : ∀ x : Int, (i64 x).flat = true := fun _ => rfl
    simp (maxSteps := 2000000) -implicitDefEqProofs [-List.map_set, Ja, -Int.natCast_add, -Int.natCast_mul, -Int.natCast_emod, -Int.natCast_ediv, -Int.natCast_pow, Jb, Jc, Jd, Je, Jf, Jg, Jh, Ji, Jj, Jk, Jl, Jm, Jn, Jo, Jp, Jq, Jr, Js, Jt, Ju, Jv, Jw, Jx, Jy, Jz, -List.reduceReplicate, fl]
    refine .inr (.inl (ioK_one q2 (by simp [inIds, U.all, C.id?]) (by simp [lk]) ?_))
    simp (maxSteps := 2000000) -implicitDefEqProofs [-List.map_set, Ja, -Int.natCast_add, -Int.natCast_mul, -Int.natCast_emod, -Int.natCast_ediv, -Int.natCast_pow, Jb, Jc, Jd, Je, Jf, Jg, Jh, Ji, Jj, Jk, Jl, Jm, Jn, Jo, Jp, Jq, Jr, Js, Jt, Ju, Jv, Jw, Jx, Jy, Jz, -List.reduceReplicate, St.backW]
    rw [← hsl]
    refine wpLoop_of (fun k : Nat => ⟨[(10, vI .i64 (k + 1 : Nat)), (9, vC (.sl 20 0 (ptsOf b ps[i]).length)), (8, vC (.ptr 8 0)), (13, vI .i64 i), (12, vI .i64 ps.length), (11, vC (.d (.slice ps.length (ps.flatMap Pat.ds)))), (6, vC (.sl 6 0 i)), (3, vC (.ptr 3 0))],
        [(20, .row 1 ((ptsOf b ps[i]).map i64) true), (8, .box [.d (.int .i64 ps[i].kind), .d (.str (bs ps[i].letters)), .d (.int .i64 ps[i].n)]), (6, .row 2 ((grdsT b ps i).flatMap Grd.ds) true), (3, .box b.cs)]⟩)
      (fun k => k + 1 ≤ (ptsOf b ps[i]).length ∧ ∀ j (h : j + 1 < (ptsOf b ps[i]).length), j < k → (ptsOf b ps[i])[j + 1] ≠ (ptsOf b ps[i])[j]) (fun k => (ptsOf b ps[i]).length - k) 0 (by simp [leL, lk, St.le, vI, vC, ptsOf]) ⟨by unfold ptsOf; have := List.length_pos_iff.2 hv; omega, fun j _ h => by omega⟩ ?_
    rintro k ⟨hk, hne⟩
    have hl3 : (ptsOf b ps[i]).length ≤ 2000 := by unfold ptsOf; omega
    have ept : guardOf b ps[i] = ⟨ps[i].kind, ptsOf b ps[i]⟩ := rfl
    by_cases hk2 : k + 1 < (ptsOf b ps[i]).length
    · have g1 : (ptsOf b ps[i])[k + 1]? = some (ptsOf b ps[i])[k + 1] := List.getElem?_eq_getElem hk2
      have g0 : (ptsOf b ps[i])[k]? = some ((ptsOf b ps[i])[k]'(by omega)) := List.getElem?_eq_getElem (by omega)
      simp (maxSteps := 2000000) -implicitDefEqProofs [-List.map_set, Ja, -Int.natCast_add, -Int.natCast_mul, -Int.natCast_emod, -Int.natCast_ediv, -Int.natCast_pow, Jb, Jc, Jd, Je, Jf, Jg, Jh, Ji, Jj, Jk, Jl, Jm, Jn, Jo, Jp, Jq, Jr, Js, Jt, Ju, Jv, Jw, Jx, Jy, Jz, -List.reduceReplicate, hk2]
      refine wpDraw_by [[], [], [0, 1], [0, 1, 2], [], [], [5], [4, 5, 6], [4, 5, 6, 7], [0, 1, 2, 3, 4, 5, 6, 7, 8]] [.any [] [] [⟨0, [9], [], [], []⟩, ⟨0, [10], [], [], []⟩, ⟨0, [29, 30], [], [], []⟩, ⟨0, [31], [], [], []⟩, ⟨0, [9], [], [], []⟩, ⟨0, [10], [], [], []⟩, ⟨0, [34], [], [], []⟩, ⟨0, [33, 35], [], [], []⟩, ⟨0, [36], [], [], []⟩], .one] (by rfl) ?_
      simp (maxSteps := 2000000) -implicitDefEqProofs [-List.map_set, Ja, -Int.natCast_add, -Int.natCast_mul, -Int.natCast_emod, -Int.natCast_ediv, -Int.natCast_pow, Jb, Jc, Jd, Je, Jf, Jg, Jh, Ji, Jj, Jk, Jl, Jm, Jn, Jo, Jp, Jq, Jr, Js, Jt, Ju, Jv, Jw, Jx, Jy, Jz, -List.reduceReplicate, g0, g1, i64]
      refine ⟨hk2, by omega, by omega, ?_⟩
      by_cases he : (ptsOf b ps[i])[k + 1] = (ptsOf b ps[i])[k]'(by omega)
      · have ht : twice (ptsOf b ps[i]) = true := twice_iff.2 ⟨k, hk2, he⟩
        have ha : ps.any (fun p => twice (ptsOf b p)) = true := List.any_eq_true.2 ⟨_, List.getElem_mem h, ht⟩
        simp (maxSteps := 2000000) -implicitDefEqProofs [-List.map_set, Ja, -Int.natCast_add, -Int.natCast_mul, -Int.natCast_emod, -Int.natCast_ediv, -Int.natCast_pow, Jb, Jc, Jd, Je, Jf, Jg, Jh, Ji, Jj, Jk, Jl, Jm, Jn, Jo, Jp, Jq, Jr, Js, Jt, Ju, Jv, Jw, Jx, Jy, Jz, -List.reduceReplicate, he, guardsL, guardsB, ha]
      · simp (maxSteps := 2000000) -implicitDefEqProofs [-List.map_set, Ja, -Int.natCast_add, -Int.natCast_mul, -Int.natCast_emod, -Int.natCast_ediv, -Int.natCast_pow, Jb, Jc, Jd, Je, Jf, Jg, Jh, Ji, Jj, Jk, Jl, Jm, Jn, Jo, Jp, Jq, Jr, Js, Jt, Ju, Jv, Jw, Jx, Jy, Jz, -List.reduceReplicate, he]
        refine ⟨by omega, ⟨by omega, fun j hj hjk => ?_⟩, by omega⟩
        rcases Nat.lt_succ_iff_lt_or_eq.1 hjk with h1 | h1
        · exact hne j hj h1
        · subst h1; exact he
    · have ht : twice (ptsOf b ps[i]) = false := twice_no fun j hj => hne j hj (by omega)
      simp (maxSteps := 2000000) -implicitDefEqProofs [-List.map_set, Ja, -Int.natCast_add, -Int.natCast_mul, -Int.natCast_emod, -Int.natCast_ediv, -Int.natCast_pow, Jb, Jc, Jd, Je, Jf, Jg, Jh, Ji, Jj, Jk, Jl, Jm, Jn, Jo, Jp, Jq, Jr, Js, Jt, Ju, Jv, Jw, Jx, Jy, Jz, -List.reduceReplicate, hk2]
      refine ⟨by omega, by omega, by omega, i + 1, ⟨rfl, by rw [grdsT_succ h, List.flatMap_append]; rfl⟩, ⟨by omega, fun x hx => ?_⟩, by omega⟩
      rw [List.take_succ_eq_append_getElem h, List.mem_append] at hx
      rcases hx with hx | hx
      · have := List.any_eq_false.1 hno x hx
        simpa using this
      · rw [List.mem_singleton.1 hx]; exact ht
  · have hi2 : i = ps.length := by omega
    subst hi2
    have hgl := grdsT_len (b := b) hi
    have hgt : grdsT b ps ps.length = ps.map (guardOf b) := by unfold grdsT; rw [List.take_length]
    rw [List.take_length] at hno
    have hs : ∀ g ∈ grdsT b ps ps.length, g.Short := fun g hg => by
      rw [hgt] at hg
      obtain ⟨p, hpm, rfl⟩ := List.mem_map.1 hg
      have := valsB_len b p.letters
      have := (hp p hpm).2.1
      show (ptsOf b p).length ≤ _
      unfold ptsOf
      rw [sortL_len]; omega
    have q3 := unique_c (grdsT b ps ps.length) (by omega) hs
    rw [hgl] at q3
    simp (maxSteps := 2000000) -implicitDefEqProofs [-List.map_set, Ja, -Int.natCast_add, -Int.natCast_mul, -Int.natCast_emod, -Int.natCast_ediv, -Int.natCast_pow, Jb, Jc, Jd, Je, Jf, Jg, Jh, Ji, Jj, Jk, Jl, Jm, Jn, Jo, Jp, Jq, Jr, Js, Jt, Ju, Jv, Jw, Jx, Jy, Jz, -List.reduceReplicate, h]
    refine .inr (.inr (.inr (.inr (.inr ⟨rfl, 6, ps.length, 2, _, _, (grdsT b ps ps.length).flatMap Grd.ds, _, _, [], rfl, by simp [lk], rfl, rfl, q3, ?_⟩))))
    simp (maxSteps := 2000000) -implicitDefEqProofs [-List.map_set, Ja, -Int.natCast_add, -Int.natCast_mul, -Int.natCast_emod, -Int.natCast_ediv, -Int.natCast_pow, Jb, Jc, Jd, Je, Jf, Jg, Jh, Ji, Jj, Jk, Jl, Jm, Jn, Jo, Jp, Jq, Jr, Js, Jt, Ju, Jv, Jw, Jx, Jy, Jz, -List.reduceReplicate, St.drop, guardsL, guardsB, hno, ← hgt]
end Go.Va
