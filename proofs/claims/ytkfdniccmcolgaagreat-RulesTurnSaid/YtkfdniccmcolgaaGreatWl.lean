/-
  Contracts: letters of points are matched in any order.
-/
import Derived.Test.YtkfdniccmcolgaaGreatWk
import Derived.Test.YtkfdniccmcolgaaGreatWh
set_option linter.all false

namespace Go.Va
open Go.Proofs
set_option maxHeartbeats 4000000
set_option maxRecDepth 10000
set_option linter.unusedSimpArgs false
set_option linter.unusedVariables false

def cap (c : UInt8) : Prop := 65 ≤ c.toNat ∧ c.toNat < 91
/-- All ways to bind the letters to the points. -/
def mp : List UInt8 → List Int → Bnd → List Bnd
  | [], _, b => [b]
  | c :: r, pts, b => (List.range pts.length).flatMap fun i => match b.point (c.toNat - 65) (pts.getD i 0) with
    | none => []
    | some b' => mp r (pts.eraseIdx i) b'
def mpAt (c : UInt8) (r : List UInt8) (pts : List Int) (b : Bnd) (i : Nat) : List Bnd := match b.point (c.toNat - 65) (pts.getD i 0) with
  | none => []
  | some b' => mp r (pts.eraseIdx i) b'
def bndY (b : Bnd) : List A := [.agg b.ds]
def mpY (c : UInt8) (r : List UInt8) (pts : List Int) (b : Bnd) (i : Nat) : List (List A) := ((List.range' i (pts.length - i)).flatMap (mpAt c r pts b)).map bndY
theorem mp_cons (c : UInt8) (r : List UInt8) (pts : List Int) (b : Bnd) : (mp (c :: r) pts b).map bndY = mpY c r pts b 0 := by
  unfold mpY
  rw [mp, List.range_eq_range']
  rfl
theorem mpY_step {c : UInt8} {r : List UInt8} {pts : List Int} {b : Bnd} {i : Nat} (h : i < pts.length) : mpY c r pts b i = (mpAt c r pts b i).map bndY ++ mpY c r pts b (i + 1) := by
  unfold mpY
  rw [show pts.length - i = (pts.length - (i + 1)) + 1 by omega, List.range'_succ, List.flatMap_cons, List.map_append]
theorem mpY_end {c : UInt8} {r : List UInt8} {pts : List Int} {b : Bnd} : mpY c r pts b pts.length = [] := by simp [mpY]

@[simp] theorem nil_toList : ({ data := #[] } : ByteArray).toList = [] := bs_toList []

@[simp] theorem binS_eql_nil (l : List UInt8) : binS .eql (bs l) { data := #[] } = some (vB (decide (l = []))) := by
  unfold binS
  simp only [bs_toList, nil_toList]
  cases l <;> rfl

theorem matchPoints_c (x : Value) : ∀ (l : List UInt8) (pts : List Int) (b : Bnd), (∀ c ∈ l, cap c) → (∀ p ∈ pts, -1 ≤ p ∧ p < 1000000) → pts.length ≤ 1000 → l.length ≤ 1000 →
    Emits Tryz.prog x 183 [.c (.str (bs l)), .c (intsD pts), .agg b.ds, .c (.lit x)] ((mp l pts b).map bndY)
  | [], pts, b, hl, hp, hn, hln => by
    refine emits_of (T := tb) tab_ok mixed Tryz.func183 rfl (by decide) (Nat.le_of_ble_eq_true rfl) rfl rfl ?_; intro rest; unfold St.initY
    simp (maxSteps := 2000000) -implicitDefEqProofs [-List.map_set, Ja, -Int.natCast_add, -Int.natCast_mul, -Int.natCast_emod, -Int.natCast_ediv, -Int.natCast_pow, Jb, Jc, Jd, Je, Jf, Jg, Jh, Ji, Jj, Jk, Jl, Jm, Jn, Jo, Jp, Jq, Jr, Js, Jt, Ju, Jv, Jw, Jx, Jy, Jz, -List.reduceReplicate]
    refine ⟨bndY b, rest, by simp [lk, mp], by simp [bndY, St.argsW, U.toA, lk], ?_⟩
    simp (maxSteps := 2000000) -implicitDefEqProofs [-List.map_set, Ja, -Int.natCast_add, -Int.natCast_mul, -Int.natCast_emod, -Int.natCast_ediv, -Int.natCast_pow, Jb, Jc, Jd, Je, Jf, Jg, Jh, Ji, Jj, Jk, Jl, Jm, Jn, Jo, Jp, Jq, Jr, Js, Jt, Ju, Jv, Jw, Jx, Jy, Jz, -List.reduceReplicate, St.backY, St.rest, finY]
  | c :: r, pts, b, hl, hp, hn, hln => by
    rw [mp_cons]
    have hc : cap c := hl c (by simp)
    obtain ⟨k, hk⟩ : ∃ k, c.toNat = 65 + k := ⟨c.toNat - 65, by unfold cap at hc; omega⟩
    have hk26 : k < 26 := by unfold cap at hc; omega
    refine emits_of (T := tb) tab_ok mixed Tryz.func183 rfl (by decide) (Nat.le_of_ble_eq_true rfl) rfl rfl ?_; intro rest; unfold St.initY
    simp (maxSteps := 2000000) -implicitDefEqProofs [-List.map_set, Ja, -Int.natCast_add, -Int.natCast_mul, -Int.natCast_emod, -Int.natCast_ediv, -Int.natCast_pow, Jb, Jc, Jd, Je, Jf, Jg, Jh, Ji, Jj, Jk, Jl, Jm, Jn, Jo, Jp, Jq, Jr, Js, Jt, Ju, Jv, Jw, Jx, Jy, Jz, -List.reduceReplicate]
    refine wpLoop_of (fun i : Nat => ⟨[(1000000, .tr x (mpY c r pts b i ++ rest)), (19, vI .i64 i), (18, vI .i64 pts.length), (17, vC (.d (intsD pts))), (6, vC (.ptr 6 0)), (0, vC (.d (.str (bs (c :: r))))), (1, vC (.d (intsD pts))), (3, vC (.d (.lit x)))], [(6, .box b.cs)]⟩)
      (fun i => i ≤ pts.length) (fun i => pts.length - i) 0 (by simp [leL, lk, St.le, vI, vC]) (by omega) ?_
    rintro i hi
    by_cases h : i < pts.length
    · have hpi := hp pts[i] (List.getElem_mem h)
      simp (maxSteps := 2000000) -implicitDefEqProofs [-List.map_set, Ja, -Int.natCast_add, -Int.natCast_mul, -Int.natCast_emod, -Int.natCast_ediv, -Int.natCast_pow, Jb, Jc, Jd, Je, Jf, Jg, Jh, Ji, Jj, Jk, Jl, Jm, Jn, Jo, Jp, Jq, Jr, Js, Jt, Ju, Jv, Jw, Jx, Jy, Jz, -List.reduceReplicate, h]
      refine wpDraw_by [[], [], [1], [], [0, 1, 2, 3], [0, 1, 2, 3, 4], [0, 1, 2, 3, 4, 5], [0, 1, 2, 3, 4, 5], [], [0, 1, 2, 3, 4, 5, 6, 8], [0, 1, 2, 3, 4, 5, 6, 7, 8, 9]] [.any [] [10] [⟨0, [6], [10], [10], []⟩, ⟨0, [0], [10], [10], []⟩, ⟨0, [26], [10], [10], []⟩, ⟨0, [9], [10], [10], []⟩, ⟨0, [25, 27, 28], [10], [10], []⟩, ⟨0, [29], [10], [10], []⟩, ⟨0, [24], [10], [10], []⟩, ⟨0, [24], [10], [10], []⟩, ⟨1, [], [], [], []⟩, ⟨2, [10, 30], [], [], [10]⟩], .one] (by rfl) ?_
      simp (maxSteps := 2000000) -implicitDefEqProofs [-List.map_set, Ja, -Int.natCast_add, -Int.natCast_mul, -Int.natCast_emod, -Int.natCast_ediv, -Int.natCast_pow, Jb, Jc, Jd, Je, Jf, Jg, Jh, Ji, Jj, Jk, Jl, Jm, Jn, Jo, Jp, Jq, Jr, Js, Jt, Ju, Jv, Jw, Jx, Jy, Jz, -List.reduceReplicate, h, hk]
      (first | refine .inl ⟨_, point_c b k hk26 pts[i] hpi, ?_⟩ | refine ⟨_, point_c b k hk26 pts[i] hpi, ?_⟩)
      have hm := mpY_step (c := c) (r := r) (b := b) h
      have hat : mpAt c r pts b i = match b.point k pts[i] with | none => [] | some b' => mp r (pts.eraseIdx i) b' := by
        unfold mpAt; rw [hk, Nat.add_sub_cancel_left, List.getD_eq_getElem?_getD, List.getElem?_eq_getElem h]; rfl
      generalize b.point k pts[i] = ob at *
      cases ob with
      | none =>
        simp only [List.map_nil, List.nil_append] at hat
        rw [hat] at hm
        simp (maxSteps := 2000000) -implicitDefEqProofs [-List.map_set, Ja, -Int.natCast_add, -Int.natCast_mul, -Int.natCast_emod, -Int.natCast_ediv, -Int.natCast_pow, Jb, Jc, Jd, Je, Jf, Jg, Jh, Ji, Jj, Jk, Jl, Jm, Jn, Jo, Jp, Jq, Jr, Js, Jt, Ju, Jv, Jw, Jx, Jy, Jz, -List.reduceReplicate, bndR, hm]
        exact ⟨by omega, i + 1, ⟨rfl, rfl⟩, by omega, by omega⟩
      | some b' =>
        simp only at hat
        rw [hat] at hm
        simp (maxSteps := 2000000) -implicitDefEqProofs [-List.map_set, Ja, -Int.natCast_add, -Int.natCast_mul, -Int.natCast_emod, -Int.natCast_ediv, -Int.natCast_pow, Jb, Jc, Jd, Je, Jf, Jg, Jh, Ji, Jj, Jk, Jl, Jm, Jn, Jo, Jp, Jq, Jr, Js, Jt, Ju, Jv, Jw, Jx, Jy, Jz, -List.reduceReplicate, bndR, hm]
        refine wpDraw_by [[], [0], [], [2], [], [], [5], [2, 3, 4, 5, 6], [], [], [0, 1, 2, 3, 4, 5, 6, 7, 8, 9]] [.any [] [36, 40] [⟨0, [0], [36, 40], [36, 40], []⟩, ⟨0, [33], [36, 40], [36, 40], []⟩, ⟨0, [1], [], [36, 40], []⟩, ⟨1, [35], [], [40], []⟩, ⟨0, [8], [36], [36, 40], []⟩, ⟨0, [8], [36], [36, 40], []⟩, ⟨0, [38], [36], [36, 40], []⟩, ⟨5, [36, 37, 39], [], [], [36]⟩, ⟨0, [10], [36, 40], [36, 40], []⟩, ⟨0, [3], [36, 40], [36, 40], []⟩], .one] (by rfl) ?_
        simp (maxSteps := 2000000) -implicitDefEqProofs [-List.map_set, Ja, -Int.natCast_add, -Int.natCast_mul, -Int.natCast_emod, -Int.natCast_ediv, -Int.natCast_pow, Jb, Jc, Jd, Je, Jf, Jg, Jh, Ji, Jj, Jk, Jl, Jm, Jn, Jo, Jp, Jq, Jr, Js, Jt, Ju, Jv, Jw, Jx, Jy, Jz, -List.reduceReplicate]
        have hne : pts ≠ [] := fun e => by subst e; simp at h
        (first | refine .inl ⟨_, clone_c pts (by omega) hne, ?_⟩ | refine ⟨_, clone_c pts (by omega) hne, ?_⟩)
        simp (maxSteps := 2000000) -implicitDefEqProofs [-List.map_set, Ja, -Int.natCast_add, -Int.natCast_mul, -Int.natCast_emod, -Int.natCast_ediv, -Int.natCast_pow, Jb, Jc, Jd, Je, Jf, Jg, Jh, Ji, Jj, Jk, Jl, Jm, Jn, Jo, Jp, Jq, Jr, Js, Jt, Ju, Jv, Jw, Jx, Jy, Jz, -List.reduceReplicate]
        refine ⟨by omega, 36, pts.length, 1, pts.length - 1, 40, pts.map i64, (pts.eraseIdx i).map i64, _, _, rfl, by simp [lk], by simp [U.toA, toD], rfl, delete_c pts i h (by omega), ?_⟩
        simp (maxSteps := 2000000) -implicitDefEqProofs [-List.map_set, Ja, -Int.natCast_add, -Int.natCast_mul, -Int.natCast_emod, -Int.natCast_ediv, -Int.natCast_pow, Jb, Jc, Jd, Je, Jf, Jg, Jh, Ji, Jj, Jk, Jl, Jm, Jn, Jo, Jp, Jq, Jr, Js, Jt, Ju, Jv, Jw, Jx, Jy, Jz, -List.reduceReplicate]
        have ih := matchPoints_c x r (pts.eraseIdx i) b' (fun c hc => hl c (by simp [hc])) (fun p hpp => hp p (List.mem_of_mem_eraseIdx hpp)) (by have := List.length_eraseIdx_le (l := pts) (i := i); omega) (by simp at hln; omega)
        have ex1 : (bs (c :: r)).extract 1 (1 + r.length) = bs r := by
          have := bs_drop (c :: r) 1 (by simp)
          simpa using this
        have ex2 : (pts.eraseIdx i).length = pts.length - 1 := List.length_eraseIdx_of_lt h
        have ex3 : List.take (pts.length - 1) ((pts.eraseIdx i).map i64) = (pts.eraseIdx i).map i64 := List.take_of_length_le (by simp [ex2])
        refine .inr (.inr (.inl ⟨x, (mp r (pts.eraseIdx i) b').map bndY, mpY c r pts b (i + 1) ++ rest, _, by simp [lk], ?_, ih, ?_⟩))
        · simp [St.argsW, U.toA, toD, St.reachU, reach, U.all, lk, C.id?, cut, ex1, ex2, ex3, intsD, lstD]
        · simp only [St.reachU, List.flatMap_cons, List.flatMap_nil, U.all, List.append_nil, List.cons_append, List.nil_append, reach_append, Bnd.reach_cs, reach_cons_d, reach_nil, reach_cons_row (show lk 40 [(40, Blk.row 1 ((pts.eraseIdx i).map i64) true), (10, Blk.box b'.cs), (6, Blk.box b.cs)] = some (Blk.row 1 ((pts.eraseIdx i).map i64) true) from rfl)]
          simp (maxSteps := 2000000) -implicitDefEqProofs [-List.map_set, Ja, -Int.natCast_add, -Int.natCast_mul, -Int.natCast_emod, -Int.natCast_ediv, -Int.natCast_pow, Jb, Jc, Jd, Je, Jf, Jg, Jh, Ji, Jj, Jk, Jl, Jm, Jn, Jo, Jp, Jq, Jr, Js, Jt, Ju, Jv, Jw, Jx, Jy, Jz, -List.reduceReplicate, St.backY, St.rest]
          exact ⟨by omega, i + 1, ⟨rfl, rfl⟩, by omega, by omega⟩
    · have hi2 : i = pts.length := by omega
      subst hi2
      rw [mpY_end]
      simp (maxSteps := 2000000) -implicitDefEqProofs [-List.map_set, Ja, -Int.natCast_add, -Int.natCast_mul, -Int.natCast_emod, -Int.natCast_ediv, -Int.natCast_pow, Jb, Jc, Jd, Je, Jf, Jg, Jh, Ji, Jj, Jk, Jl, Jm, Jn, Jo, Jp, Jq, Jr, Js, Jt, Ju, Jv, Jw, Jx, Jy, Jz, -List.reduceReplicate, finY]

end Go.Va

/-
  Contracts: letters of segments are matched in their order.
-/
namespace Go.Va
open Go.Proofs
set_option maxHeartbeats 4000000
set_option maxRecDepth 10000
set_option linter.unusedSimpArgs false
set_option linter.unusedVariables false

def sml (c : UInt8) : Prop := 97 ≤ c.toNat ∧ c.toNat < 123
/-- All ways to bind the letters to the segments. -/
def ms : List UInt8 → List (Int × Int) → Bnd → List Bnd
  | [], _, b => [b]
  | _ :: _, [], b => []
  | c :: r, s :: l, b => if 97 ≤ c.toNat then (match b.segment (c.toNat - 97) s with | none => [] | some b' => ms r l b') else
    match r with
    | [] => []
    | d :: r => (match b.point (c.toNat - 65) s.1 with | none => [] | some b1 => match b1.point (d.toNat - 65) s.2 with | none => [] | some b2 => ms r l b2) ++
      (if s.1 = s.2 then [] else match b.point (c.toNat - 65) s.2 with | none => [] | some b1 => match b1.point (d.toNat - 65) s.1 with | none => [] | some b2 => ms r l b2)
def msA (c d : UInt8) (r : List UInt8) (l : List (Int × Int)) (b : Bnd) (p q : Int) : List Bnd :=
  match b.point (c.toNat - 65) p with | none => [] | some b1 => match b1.point (d.toNat - 65) q with | none => [] | some b2 => ms r l b2
/-- The letters fit the segments. -/
def msOk : List UInt8 → List (Int × Int) → Prop
  | [], _ => True
  | _ :: _, [] => False
  | c :: r, _ :: l => if 97 ≤ c.toNat then c.toNat < 123 ∧ msOk r l else
    match r with
    | [] => False
    | d :: r => cap c ∧ cap d ∧ msOk r l
theorem ms_cap {c d : UInt8} {r : List UInt8} {s : Int × Int} {l : List (Int × Int)} {b : Bnd} (h : ¬ 97 ≤ c.toNat) : ms (c :: d :: r) (s :: l) b = msA c d r l b s.1 s.2 ++ (if s.1 = s.2 then [] else msA c d r l b s.2 s.1) := by
  simp only [ms, if_neg h]; rfl
theorem msOk_sml {c : UInt8} {r : List UInt8} {s : Int × Int} {l : List (Int × Int)} (h : 97 ≤ c.toNat) : msOk (c :: r) (s :: l) = (c.toNat < 123 ∧ msOk r l) := by
  cases r <;> simp only [msOk, if_pos h]
theorem ms_sml {c : UInt8} {r : List UInt8} {s : Int × Int} {l : List (Int × Int)} {b : Bnd} (h : 97 ≤ c.toNat) : ms (c :: r) (s :: l) b = match b.segment (c.toNat - 97) s with | none => [] | some b' => ms r l b' := by
  cases r <;> simp only [ms, if_pos h]
theorem msOk_cap {c : UInt8} {r : List UInt8} {s : Int × Int} {l : List (Int × Int)} (h : ¬ 97 ≤ c.toNat) (hk : msOk (c :: r) (s :: l)) : ∃ d r', r = d :: r' ∧ cap c ∧ cap d ∧ msOk r' l := by
  cases r with
  | nil => simp only [msOk, if_neg h] at hk
  | cons d r => simp only [msOk, if_neg h] at hk; exact ⟨d, r, rfl, hk⟩
def segIn (s : Int × Int) : Prop := (-1 ≤ s.1 ∧ s.1 < 1000000) ∧ (-1 ≤ s.2 ∧ s.2 < 1000000)

@[simp] theorem sliceV_segs_tail (h : List (Nat × Blk)) (s : Int × Int) (l : List (Int × Int)) : sliceV h (.d (segsD (s :: l))) (some 1) none 2 = some (.d (segsD l)) := by
  unfold segsD
  simp [sliceV, sliceN, cut, segD]
  constructor
  · omega
  · rw [List.take_of_length_le (by simp [Nat.mul_comm])]
    exact ⟨by omega, rfl⟩

theorem matchSegments_c (x : Value) : ∀ (n : Nat) (ls : List UInt8) (l : List (Int × Int)) (b : Bnd), ls.length ≤ n → msOk ls l → (∀ s ∈ l, segIn s) → l.length ≤ 1000 → ls.length ≤ 1000 →
    Emits Tryz.prog x 186 [.c (.str (bs ls)), .c (segsD l), .agg b.ds, .c (.lit x)] ((ms ls l b).map bndY) := by
  intro n
  induction n with
  | zero =>
    intro ls l b hn hok hl hll hls
    have : ls = [] := List.length_eq_zero_iff.1 (by omega)
    subst this
    refine emits_of (T := tb) tab_ok mixed Tryz.func186 rfl (by decide) (Nat.le_of_ble_eq_true rfl) rfl rfl ?_; intro rest; unfold St.initY
    simp (maxSteps := 2000000) -implicitDefEqProofs [-List.map_set, Ja, -Int.natCast_add, -Int.natCast_mul, -Int.natCast_emod, -Int.natCast_ediv, -Int.natCast_pow, Jb, Jc, Jd, Je, Jf, Jg, Jh, Ji, Jj, Jk, Jl, Jm, Jn, Jo, Jp, Jq, Jr, Js, Jt, Ju, Jv, Jw, Jx, Jy, Jz, -List.reduceReplicate]
    refine ⟨bndY b, rest, by simp [lk, ms], by simp [bndY, St.argsW, U.toA, lk], ?_⟩
    simp (maxSteps := 2000000) -implicitDefEqProofs [-List.map_set, Ja, -Int.natCast_add, -Int.natCast_mul, -Int.natCast_emod, -Int.natCast_ediv, -Int.natCast_pow, Jb, Jc, Jd, Je, Jf, Jg, Jh, Ji, Jj, Jk, Jl, Jm, Jn, Jo, Jp, Jq, Jr, Js, Jt, Ju, Jv, Jw, Jx, Jy, Jz, -List.reduceReplicate, St.backY, St.rest, finY]
  | succ n ih =>
    intro ls l b hn hok hl hll hls
    match ls, l, hok with
    | [], l, _ =>
      refine emits_of (T := tb) tab_ok mixed Tryz.func186 rfl (by decide) (Nat.le_of_ble_eq_true rfl) rfl rfl ?_; intro rest; unfold St.initY
      simp (maxSteps := 2000000) -implicitDefEqProofs [-List.map_set, Ja, -Int.natCast_add, -Int.natCast_mul, -Int.natCast_emod, -Int.natCast_ediv, -Int.natCast_pow, Jb, Jc, Jd, Je, Jf, Jg, Jh, Ji, Jj, Jk, Jl, Jm, Jn, Jo, Jp, Jq, Jr, Js, Jt, Ju, Jv, Jw, Jx, Jy, Jz, -List.reduceReplicate]
      refine ⟨bndY b, rest, by simp [lk, ms], by simp [bndY, St.argsW, U.toA, lk], ?_⟩
      simp (maxSteps := 2000000) -implicitDefEqProofs [-List.map_set, Ja, -Int.natCast_add, -Int.natCast_mul, -Int.natCast_emod, -Int.natCast_ediv, -Int.natCast_pow, Jb, Jc, Jd, Je, Jf, Jg, Jh, Ji, Jj, Jk, Jl, Jm, Jn, Jo, Jp, Jq, Jr, Js, Jt, Ju, Jv, Jw, Jx, Jy, Jz, -List.reduceReplicate, St.backY, St.rest, finY]
    | c :: r, s :: l, hok =>
      have hs : segIn s := hl s (by simp)
      by_cases h97 : 97 ≤ c.toNat
      · obtain ⟨k, hk⟩ : ∃ k, c.toNat = 97 + k := ⟨c.toNat - 97, by omega⟩
        rw [msOk_sml h97] at hok
        have hk26 : k < 26 := by omega
        have hms : ms (c :: r) (s :: l) b = match b.segment k s with | none => [] | some b' => ms r l b' := by
          rw [ms_sml h97, hk, Nat.add_sub_cancel_left]
        have ex1 : (bs (c :: r)).extract 1 (1 + r.length) = bs r := by
          have := bs_drop (c :: r) 1 (by simp)
          simpa using this
        refine emits_of (T := tb) tab_ok mixed Tryz.func186 rfl (by decide) (Nat.le_of_ble_eq_true rfl) rfl rfl ?_; intro rest; unfold St.initY
        simp (maxSteps := 2000000) -implicitDefEqProofs [-List.map_set, Ja, -Int.natCast_add, -Int.natCast_mul, -Int.natCast_emod, -Int.natCast_ediv, -Int.natCast_pow, Jb, Jc, Jd, Je, Jf, Jg, Jh, Ji, Jj, Jk, Jl, Jm, Jn, Jo, Jp, Jq, Jr, Js, Jt, Ju, Jv, Jw, Jx, Jy, Jz, -List.reduceReplicate]
        (first | refine .inl ⟨_, small_c c.toNat, ?_⟩ | refine ⟨_, small_c c.toNat, ?_⟩)
        simp (maxSteps := 2000000) -implicitDefEqProofs [-List.map_set, Ja, -Int.natCast_add, -Int.natCast_mul, -Int.natCast_emod, -Int.natCast_ediv, -Int.natCast_pow, Jb, Jc, Jd, Je, Jf, Jg, Jh, Ji, Jj, Jk, Jl, Jm, Jn, Jo, Jp, Jq, Jr, Js, Jt, Ju, Jv, Jw, Jx, Jy, Jz, -List.reduceReplicate, h97]
        refine wpDraw_by [[], [], [1], [], [3], [3, 4], [0, 1, 2, 3, 4, 5], [0, 1, 2, 3, 4, 5, 6], [0, 1, 2, 3, 4, 5, 6, 7], [0, 1, 2, 3, 4, 5, 6, 7], [], [0, 1, 2, 3, 4, 5, 6, 7, 8, 10], [0, 1, 2, 3, 4, 5, 6, 7, 8, 9, 10, 11]] [.any [] [8] [⟨0, [6], [8], [8], []⟩, ⟨0, [0], [8], [8], []⟩, ⟨0, [23], [8], [8], []⟩, ⟨0, [1], [8], [8], []⟩, ⟨0, [25], [8], [8], []⟩, ⟨0, [26], [8], [8], []⟩, ⟨0, [22, 24, 27], [8], [8], []⟩, ⟨0, [28], [8], [8], []⟩, ⟨0, [21], [8], [8], []⟩, ⟨0, [21], [8], [8], []⟩, ⟨1, [], [], [], []⟩, ⟨2, [8, 29], [], [], [8]⟩], .one] (by rfl) ?_
        simp (maxSteps := 2000000) -implicitDefEqProofs [-List.map_set, Ja, -Int.natCast_add, -Int.natCast_mul, -Int.natCast_emod, -Int.natCast_ediv, -Int.natCast_pow, Jb, Jc, Jd, Je, Jf, Jg, Jh, Ji, Jj, Jk, Jl, Jm, Jn, Jo, Jp, Jq, Jr, Js, Jt, Ju, Jv, Jw, Jx, Jy, Jz, -List.reduceReplicate, hk, segD]
        (first | refine .inl ⟨_, segment_c b k hk26 s.1 s.2 hs.1 hs.2, ?_⟩ | refine ⟨_, segment_c b k hk26 s.1 s.2 hs.1 hs.2, ?_⟩)
        generalize hob : b.segment k (s.1, s.2) = ob at *
        cases ob with
        | none =>
          simp only at hms
          rw [hms]
          simp (maxSteps := 2000000) -implicitDefEqProofs [-List.map_set, Ja, -Int.natCast_add, -Int.natCast_mul, -Int.natCast_emod, -Int.natCast_ediv, -Int.natCast_pow, Jb, Jc, Jd, Je, Jf, Jg, Jh, Ji, Jj, Jk, Jl, Jm, Jn, Jo, Jp, Jq, Jr, Js, Jt, Ju, Jv, Jw, Jx, Jy, Jz, -List.reduceReplicate, bndR, finY]
        | some b' =>
          simp only at hms
          rw [hms]
          simp (maxSteps := 2000000) -implicitDefEqProofs [-List.map_set, Ja, -Int.natCast_add, -Int.natCast_mul, -Int.natCast_emod, -Int.natCast_ediv, -Int.natCast_pow, Jb, Jc, Jd, Je, Jf, Jg, Jh, Ji, Jj, Jk, Jl, Jm, Jn, Jo, Jp, Jq, Jr, Js, Jt, Ju, Jv, Jw, Jx, Jy, Jz, -List.reduceReplicate, bndR]
          refine wpDraw_by [[], [0], [], [2], [], [], [0, 1, 2, 3, 4, 5]] [.any [] [] [⟨0, [0], [], [], []⟩, ⟨0, [32], [], [], []⟩, ⟨0, [1], [], [], []⟩, ⟨0, [34], [], [], []⟩, ⟨0, [8], [], [], []⟩, ⟨0, [3], [], [], []⟩], .one] (by rfl) ?_
          simp (maxSteps := 2000000) -implicitDefEqProofs [-List.map_set, Ja, -Int.natCast_add, -Int.natCast_mul, -Int.natCast_emod, -Int.natCast_ediv, -Int.natCast_pow, Jb, Jc, Jd, Je, Jf, Jg, Jh, Ji, Jj, Jk, Jl, Jm, Jn, Jo, Jp, Jq, Jr, Js, Jt, Ju, Jv, Jw, Jx, Jy, Jz, -List.reduceReplicate, ex1]
          have h1 := ih r l b' (by simp at hn; omega) hok.2 (fun s hs => hl s (by simp [hs])) (by simp at hll; omega) (by simp at hls; omega)
          refine .inr (.inr (.inl ⟨x, (ms r l b').map bndY, rest, _, by simp [lk], ?_, h1, ?_⟩))
          · simp [St.argsW, U.toA, toD]
          · simp only [St.reachU, List.flatMap_cons, List.flatMap_nil, U.all, List.append_nil, List.cons_append, List.nil_append, reach_append, Bnd.reach_cs, reach_cons_d, reach_nil]
            simp (maxSteps := 2000000) -implicitDefEqProofs [-List.map_set, Ja, -Int.natCast_add, -Int.natCast_mul, -Int.natCast_emod, -Int.natCast_ediv, -Int.natCast_pow, Jb, Jc, Jd, Je, Jf, Jg, Jh, Ji, Jj, Jk, Jl, Jm, Jn, Jo, Jp, Jq, Jr, Js, Jt, Ju, Jv, Jw, Jx, Jy, Jz, -List.reduceReplicate, St.backY, St.rest, finY]
      · obtain ⟨d, r, rfl, hc, hd, hok⟩ := msOk_cap h97 hok
        obtain ⟨k, hk⟩ : ∃ k, c.toNat = 65 + k := ⟨c.toNat - 65, by unfold cap at hc; omega⟩
        obtain ⟨j, hj⟩ : ∃ j, d.toNat = 65 + j := ⟨d.toNat - 65, by unfold cap at hd; omega⟩
        have hk26 : k < 26 := by unfold cap at hc; omega
        have hj26 : j < 26 := by unfold cap at hd; omega
        have e97 : (97 ≤ 65 + k) = False := by simp; omega
        have ex2 : (bs (c :: d :: r)).extract 2 (2 + r.length) = bs r := by
          have := bs_drop (c :: d :: r) 2 (by simp)
          simpa using this
        rw [ms_cap h97]
        have hA : ∀ p q, msA c d r l b p q = match b.point k p with | none => [] | some b1 => match b1.point j q with | none => [] | some b2 => ms r l b2 := fun p q => by
          unfold msA; rw [hk, hj, Nat.add_sub_cancel_left, Nat.add_sub_cancel_left]
        refine emits_of (T := tb) tab_ok mixed Tryz.func186 rfl (by decide) (Nat.le_of_ble_eq_true rfl) rfl rfl ?_; intro rest; unfold St.initY
        simp (maxSteps := 2000000) -implicitDefEqProofs [-List.map_set, Ja, -Int.natCast_add, -Int.natCast_mul, -Int.natCast_emod, -Int.natCast_ediv, -Int.natCast_pow, Jb, Jc, Jd, Je, Jf, Jg, Jh, Ji, Jj, Jk, Jl, Jm, Jn, Jo, Jp, Jq, Jr, Js, Jt, Ju, Jv, Jw, Jx, Jy, Jz, -List.reduceReplicate]
        (first | refine .inl ⟨_, small_c c.toNat, ?_⟩ | refine ⟨_, small_c c.toNat, ?_⟩)
        simp (maxSteps := 2000000) -implicitDefEqProofs [-List.map_set, Ja, -Int.natCast_add, -Int.natCast_mul, -Int.natCast_emod, -Int.natCast_ediv, -Int.natCast_pow, Jb, Jc, Jd, Je, Jf, Jg, Jh, Ji, Jj, Jk, Jl, Jm, Jn, Jo, Jp, Jq, Jr, Js, Jt, Ju, Jv, Jw, Jx, Jy, Jz, -List.reduceReplicate, hk, e97]
        refine wpLoop_of (fun i : Nat => ⟨[(1000000, .tr x ((match i with | 0 => (msA c d r l b s.1 s.2 ++ (if s.1 = s.2 then [] else msA c d r l b s.2 s.1)) | 1 => (if s.1 = s.2 then [] else msA c d r l b s.2 s.1) | _ => []).map bndY ++ rest)), (39, vI .i64 i), (6, vC (.ptr 6 0)), (0, vC (.d (.str (bs (c :: d :: r))))), (1, vC (.d (segsD (s :: l)))), (3, vC (.d (.lit x)))], [(6, .box b.cs)]⟩)
          (fun i => i ≤ 2 ∧ (i = 1 → s.1 = s.2 → b.point k s.1 = none)) (fun i => 2 - i) 0 (by simp [leL, lk, St.le, vI, vC]) (by simp) ?_
        rintro i hi
        match i, hi with
        | 0, _ =>
          simp (maxSteps := 2000000) -implicitDefEqProofs [-List.map_set, Ja, -Int.natCast_add, -Int.natCast_mul, -Int.natCast_emod, -Int.natCast_ediv, -Int.natCast_pow, Jb, Jc, Jd, Je, Jf, Jg, Jh, Ji, Jj, Jk, Jl, Jm, Jn, Jo, Jp, Jq, Jr, Js, Jt, Ju, Jv, Jw, Jx, Jy, Jz, -List.reduceReplicate]
          refine wpDraw_by [[], [], [1], [], [], [3], [3, 4, 5], [3, 4, 5, 6], [0, 1, 2, 3, 4, 5, 6, 7], [0, 1, 2, 3, 4, 5, 6, 7, 8], [0, 1, 2, 3, 4, 5, 6, 7, 8, 9], [0, 1, 2, 3, 4, 5, 6, 7, 8, 9], [], [0, 1, 2, 3, 4, 5, 6, 7, 8, 9, 10, 12], [0, 1, 2, 3, 4, 5, 6, 7, 8, 9, 10, 11, 12, 13]] [.any [] [11] [⟨0, [6], [11], [11], []⟩, ⟨0, [0], [11], [11], []⟩, ⟨0, [44], [11], [11], []⟩, ⟨0, [1], [11], [11], []⟩, ⟨0, [10], [11], [11], []⟩, ⟨0, [46], [11], [11], []⟩, ⟨0, [47, 48], [11], [11], []⟩, ⟨0, [49], [11], [11], []⟩, ⟨0, [43, 45, 50], [11], [11], []⟩, ⟨0, [51], [11], [11], []⟩, ⟨0, [42], [11], [11], []⟩, ⟨0, [42], [11], [11], []⟩, ⟨1, [], [], [], []⟩, ⟨2, [11, 52], [], [], [11]⟩], .one] (by rfl) ?_
          simp (maxSteps := 2000000) -implicitDefEqProofs [-List.map_set, Ja, -Int.natCast_add, -Int.natCast_mul, -Int.natCast_emod, -Int.natCast_ediv, -Int.natCast_pow, Jb, Jc, Jd, Je, Jf, Jg, Jh, Ji, Jj, Jk, Jl, Jm, Jn, Jo, Jp, Jq, Jr, Js, Jt, Ju, Jv, Jw, Jx, Jy, Jz, -List.reduceReplicate, hk, segD]
          (first | refine .inl ⟨_, point_c b k hk26 s.1 hs.1, ?_⟩ | refine ⟨_, point_c b k hk26 s.1 hs.1, ?_⟩)
          have h0 := hA s.1 s.2
          generalize b.point k s.1 = o1 at *
          cases o1 with
          | none =>
            simp only at h0
            simp (maxSteps := 2000000) -implicitDefEqProofs [-List.map_set, Ja, -Int.natCast_add, -Int.natCast_mul, -Int.natCast_emod, -Int.natCast_ediv, -Int.natCast_pow, Jb, Jc, Jd, Je, Jf, Jg, Jh, Ji, Jj, Jk, Jl, Jm, Jn, Jo, Jp, Jq, Jr, Js, Jt, Ju, Jv, Jw, Jx, Jy, Jz, -List.reduceReplicate, bndR, h0]
            exact ⟨1, ⟨by simp, rfl⟩, by simp, by omega⟩
          | some b1 =>
            simp only at h0
            simp (maxSteps := 2000000) -implicitDefEqProofs [-List.map_set, Ja, -Int.natCast_add, -Int.natCast_mul, -Int.natCast_emod, -Int.natCast_ediv, -Int.natCast_pow, Jb, Jc, Jd, Je, Jf, Jg, Jh, Ji, Jj, Jk, Jl, Jm, Jn, Jo, Jp, Jq, Jr, Js, Jt, Ju, Jv, Jw, Jx, Jy, Jz, -List.reduceReplicate, bndR]
            refine wpDraw_by [[], [], [1], [], [], [4], [3], [3, 4, 5, 6], [3, 4, 5, 6, 7], [0, 1, 2, 3, 4, 5, 6, 7, 8], [0, 1, 2, 3, 4, 5, 6, 7, 8, 9], [0, 1, 2, 3, 4, 5, 6, 7, 8, 9, 10], [0, 1, 2, 3, 4, 5, 6, 7, 8, 9, 10], [0, 1, 2, 3, 4, 5, 6, 7, 8, 9, 10, 11], [0, 1, 2, 3, 4, 5, 6, 7, 8, 9, 10, 11, 12, 13]] [.any [] [] [⟨0, [11], [], [], []⟩, ⟨0, [0], [], [], []⟩, ⟨0, [58], [], [], []⟩, ⟨0, [1], [], [], []⟩, ⟨0, [10], [], [], []⟩, ⟨0, [61], [], [], []⟩, ⟨0, [60], [], [], []⟩, ⟨0, [62, 63], [], [], []⟩, ⟨0, [64], [], [], []⟩], .one, .one, .any [] [] [⟨0, [56], [], [], []⟩, ⟨0, [56], [11], [], []⟩, ⟨2, [11, 67], [], [], [11]⟩], .one] (by rfl) ?_
            simp (maxSteps := 2000000) -implicitDefEqProofs [-List.map_set, Ja, -Int.natCast_add, -Int.natCast_mul, -Int.natCast_emod, -Int.natCast_ediv, -Int.natCast_pow, Jb, Jc, Jd, Je, Jf, Jg, Jh, Ji, Jj, Jk, Jl, Jm, Jn, Jo, Jp, Jq, Jr, Js, Jt, Ju, Jv, Jw, Jx, Jy, Jz, -List.reduceReplicate, hj, segD]
            (first | refine .inl ⟨_, point_c b1 j hj26 s.2 hs.2, ?_⟩ | refine ⟨_, point_c b1 j hj26 s.2 hs.2, ?_⟩)
            generalize b1.point j s.2 = o2 at *
            cases o2 with
            | none =>
              simp only at h0
              simp (maxSteps := 2000000) -implicitDefEqProofs [-List.map_set, Ja, -Int.natCast_add, -Int.natCast_mul, -Int.natCast_emod, -Int.natCast_ediv, -Int.natCast_pow, Jb, Jc, Jd, Je, Jf, Jg, Jh, Ji, Jj, Jk, Jl, Jm, Jn, Jo, Jp, Jq, Jr, Js, Jt, Ju, Jv, Jw, Jx, Jy, Jz, -List.reduceReplicate, bndR, h0]
              refine wpDraw_by [[], [0], [0, 1], [0, 1, 2], [], [4], [4, 5], [4, 5, 6], [0, 1, 2, 3, 4, 5, 6, 7]] [.any [] [] [⟨0, [1], [], [], []⟩, ⟨0, [77], [], [], []⟩, ⟨0, [78], [], [], []⟩, ⟨0, [79], [], [], []⟩, ⟨0, [1], [], [], []⟩, ⟨0, [81], [], [], []⟩, ⟨0, [82], [], [], []⟩, ⟨0, [83], [], [], []⟩], .one] (by rfl) ?_
              simp (maxSteps := 2000000) -implicitDefEqProofs [-List.map_set, Ja, -Int.natCast_add, -Int.natCast_mul, -Int.natCast_emod, -Int.natCast_ediv, -Int.natCast_pow, Jb, Jc, Jd, Je, Jf, Jg, Jh, Ji, Jj, Jk, Jl, Jm, Jn, Jo, Jp, Jq, Jr, Js, Jt, Ju, Jv, Jw, Jx, Jy, Jz, -List.reduceReplicate, segD]
              by_cases he : s.1 = s.2
              · simp (maxSteps := 2000000) -implicitDefEqProofs [-List.map_set, Ja, -Int.natCast_add, -Int.natCast_mul, -Int.natCast_emod, -Int.natCast_ediv, -Int.natCast_pow, Jb, Jc, Jd, Je, Jf, Jg, Jh, Ji, Jj, Jk, Jl, Jm, Jn, Jo, Jp, Jq, Jr, Js, Jt, Ju, Jv, Jw, Jx, Jy, Jz, -List.reduceReplicate, i64, he, finY]
              · simp (maxSteps := 2000000) -implicitDefEqProofs [-List.map_set, Ja, -Int.natCast_add, -Int.natCast_mul, -Int.natCast_emod, -Int.natCast_ediv, -Int.natCast_pow, Jb, Jc, Jd, Je, Jf, Jg, Jh, Ji, Jj, Jk, Jl, Jm, Jn, Jo, Jp, Jq, Jr, Js, Jt, Ju, Jv, Jw, Jx, Jy, Jz, -List.reduceReplicate, i64, he]
                exact ⟨1, ⟨by simp [he], rfl⟩, by simp [he], by omega⟩
            | some b2 =>
              simp only at h0
              simp (maxSteps := 2000000) -implicitDefEqProofs [-List.map_set, Ja, -Int.natCast_add, -Int.natCast_mul, -Int.natCast_emod, -Int.natCast_ediv, -Int.natCast_pow, Jb, Jc, Jd, Je, Jf, Jg, Jh, Ji, Jj, Jk, Jl, Jm, Jn, Jo, Jp, Jq, Jr, Js, Jt, Ju, Jv, Jw, Jx, Jy, Jz, -List.reduceReplicate, bndR, h0]
              refine wpDraw_by [[], [0], [], [2], [], [], [0, 1, 2, 3, 4, 5]] [.any [] [] [⟨0, [0], [], [], []⟩, ⟨0, [70], [], [], []⟩, ⟨0, [1], [], [], []⟩, ⟨0, [72], [], [], []⟩, ⟨0, [11], [], [], []⟩, ⟨0, [3], [], [], []⟩], .one] (by rfl) ?_
              simp (maxSteps := 2000000) -implicitDefEqProofs [-List.map_set, Ja, -Int.natCast_add, -Int.natCast_mul, -Int.natCast_emod, -Int.natCast_ediv, -Int.natCast_pow, Jb, Jc, Jd, Je, Jf, Jg, Jh, Ji, Jj, Jk, Jl, Jm, Jn, Jo, Jp, Jq, Jr, Js, Jt, Ju, Jv, Jw, Jx, Jy, Jz, -List.reduceReplicate, ex2]
              have h1 := ih r l b2 (by simp at hn; omega) hok (fun s hs => hl s (by simp [hs])) (by simp at hll; omega) (by simp at hls; omega)
              refine .inr (.inr (.inl ⟨x, (ms r l b2).map bndY, (if s.1 = s.2 then [] else msA c d r l b s.2 s.1).map bndY ++ rest, _, by simp [lk], ?_, h1, ?_⟩))
              · simp [St.argsW, U.toA, toD]
              · simp only [St.reachU, List.flatMap_cons, List.flatMap_nil, U.all, List.append_nil, List.cons_append, List.nil_append, reach_append, Bnd.reach_cs, reach_cons_d, reach_nil]
                simp (maxSteps := 2000000) -implicitDefEqProofs [-List.map_set, Ja, -Int.natCast_add, -Int.natCast_mul, -Int.natCast_emod, -Int.natCast_ediv, -Int.natCast_pow, Jb, Jc, Jd, Je, Jf, Jg, Jh, Ji, Jj, Jk, Jl, Jm, Jn, Jo, Jp, Jq, Jr, Js, Jt, Ju, Jv, Jw, Jx, Jy, Jz, -List.reduceReplicate, St.backY, St.rest]
                refine wpDraw_by [[], [0], [0, 1], [0, 1, 2], [], [4], [4, 5], [4, 5, 6], [0, 1, 2, 3, 4, 5, 6, 7]] [.any [] [] [⟨0, [1], [], [], []⟩, ⟨0, [77], [], [], []⟩, ⟨0, [78], [], [], []⟩, ⟨0, [79], [], [], []⟩, ⟨0, [1], [], [], []⟩, ⟨0, [81], [], [], []⟩, ⟨0, [82], [], [], []⟩, ⟨0, [83], [], [], []⟩], .one] (by rfl) ?_
                simp (maxSteps := 2000000) -implicitDefEqProofs [-List.map_set, Ja, -Int.natCast_add, -Int.natCast_mul, -Int.natCast_emod, -Int.natCast_ediv, -Int.natCast_pow, Jb, Jc, Jd, Je, Jf, Jg, Jh, Ji, Jj, Jk, Jl, Jm, Jn, Jo, Jp, Jq, Jr, Js, Jt, Ju, Jv, Jw, Jx, Jy, Jz, -List.reduceReplicate, segD]
                by_cases he : s.1 = s.2
                · simp (maxSteps := 2000000) -implicitDefEqProofs [-List.map_set, Ja, -Int.natCast_add, -Int.natCast_mul, -Int.natCast_emod, -Int.natCast_ediv, -Int.natCast_pow, Jb, Jc, Jd, Je, Jf, Jg, Jh, Ji, Jj, Jk, Jl, Jm, Jn, Jo, Jp, Jq, Jr, Js, Jt, Ju, Jv, Jw, Jx, Jy, Jz, -List.reduceReplicate, i64, he, finY]
                · simp (maxSteps := 2000000) -implicitDefEqProofs [-List.map_set, Ja, -Int.natCast_add, -Int.natCast_mul, -Int.natCast_emod, -Int.natCast_ediv, -Int.natCast_pow, Jb, Jc, Jd, Je, Jf, Jg, Jh, Ji, Jj, Jk, Jl, Jm, Jn, Jo, Jp, Jq, Jr, Js, Jt, Ju, Jv, Jw, Jx, Jy, Jz, -List.reduceReplicate, i64, he]
                  exact ⟨1, ⟨by simp [he], rfl⟩, by simp [he], by omega⟩
        | 1, hi =>
          by_cases he : s.1 = s.2
          · have hno := hi.2 rfl he
            rw [he] at hno
            simp (maxSteps := 2000000) -implicitDefEqProofs [-List.map_set, Ja, -Int.natCast_add, -Int.natCast_mul, -Int.natCast_emod, -Int.natCast_ediv, -Int.natCast_pow, Jb, Jc, Jd, Je, Jf, Jg, Jh, Ji, Jj, Jk, Jl, Jm, Jn, Jo, Jp, Jq, Jr, Js, Jt, Ju, Jv, Jw, Jx, Jy, Jz, -List.reduceReplicate, he]
            refine wpDraw_by [[], [], [1], [], [], [3], [3, 4, 5], [3, 4, 5, 6], [0, 1, 2, 3, 4, 5, 6, 7], [0, 1, 2, 3, 4, 5, 6, 7, 8], [0, 1, 2, 3, 4, 5, 6, 7, 8, 9], [0, 1, 2, 3, 4, 5, 6, 7, 8, 9], [], [0, 1, 2, 3, 4, 5, 6, 7, 8, 9, 10, 12], [0, 1, 2, 3, 4, 5, 6, 7, 8, 9, 10, 11, 12, 13]] [.any [] [11] [⟨0, [6], [11], [11], []⟩, ⟨0, [0], [11], [11], []⟩, ⟨0, [44], [11], [11], []⟩, ⟨0, [1], [11], [11], []⟩, ⟨0, [10], [11], [11], []⟩, ⟨0, [46], [11], [11], []⟩, ⟨0, [47, 48], [11], [11], []⟩, ⟨0, [49], [11], [11], []⟩, ⟨0, [43, 45, 50], [11], [11], []⟩, ⟨0, [51], [11], [11], []⟩, ⟨0, [42], [11], [11], []⟩, ⟨0, [42], [11], [11], []⟩, ⟨1, [], [], [], []⟩, ⟨2, [11, 52], [], [], [11]⟩], .one] (by rfl) ?_
            simp (maxSteps := 2000000) -implicitDefEqProofs [-List.map_set, Ja, -Int.natCast_add, -Int.natCast_mul, -Int.natCast_emod, -Int.natCast_ediv, -Int.natCast_pow, Jb, Jc, Jd, Je, Jf, Jg, Jh, Ji, Jj, Jk, Jl, Jm, Jn, Jo, Jp, Jq, Jr, Js, Jt, Ju, Jv, Jw, Jx, Jy, Jz, -List.reduceReplicate, hk, segD]
            (first | refine .inl ⟨_, point_c b k hk26 s.2 hs.2, ?_⟩ | refine ⟨_, point_c b k hk26 s.2 hs.2, ?_⟩)
            rw [hno]
            simp (maxSteps := 2000000) -implicitDefEqProofs [-List.map_set, Ja, -Int.natCast_add, -Int.natCast_mul, -Int.natCast_emod, -Int.natCast_ediv, -Int.natCast_pow, Jb, Jc, Jd, Je, Jf, Jg, Jh, Ji, Jj, Jk, Jl, Jm, Jn, Jo, Jp, Jq, Jr, Js, Jt, Ju, Jv, Jw, Jx, Jy, Jz, -List.reduceReplicate, bndR]
            exact ⟨2, ⟨by simp, rfl⟩, by simp, by omega⟩
          simp (maxSteps := 2000000) -implicitDefEqProofs [-List.map_set, Ja, -Int.natCast_add, -Int.natCast_mul, -Int.natCast_emod, -Int.natCast_ediv, -Int.natCast_pow, Jb, Jc, Jd, Je, Jf, Jg, Jh, Ji, Jj, Jk, Jl, Jm, Jn, Jo, Jp, Jq, Jr, Js, Jt, Ju, Jv, Jw, Jx, Jy, Jz, -List.reduceReplicate, he]
          refine wpDraw_by [[], [], [1], [], [], [3], [3, 4, 5], [3, 4, 5, 6], [0, 1, 2, 3, 4, 5, 6, 7], [0, 1, 2, 3, 4, 5, 6, 7, 8], [0, 1, 2, 3, 4, 5, 6, 7, 8, 9], [0, 1, 2, 3, 4, 5, 6, 7, 8, 9], [], [0, 1, 2, 3, 4, 5, 6, 7, 8, 9, 10, 12], [0, 1, 2, 3, 4, 5, 6, 7, 8, 9, 10, 11, 12, 13]] [.any [] [11] [⟨0, [6], [11], [11], []⟩, ⟨0, [0], [11], [11], []⟩, ⟨0, [44], [11], [11], []⟩, ⟨0, [1], [11], [11], []⟩, ⟨0, [10], [11], [11], []⟩, ⟨0, [46], [11], [11], []⟩, ⟨0, [47, 48], [11], [11], []⟩, ⟨0, [49], [11], [11], []⟩, ⟨0, [43, 45, 50], [11], [11], []⟩, ⟨0, [51], [11], [11], []⟩, ⟨0, [42], [11], [11], []⟩, ⟨0, [42], [11], [11], []⟩, ⟨1, [], [], [], []⟩, ⟨2, [11, 52], [], [], [11]⟩], .one] (by rfl) ?_
          simp (maxSteps := 2000000) -implicitDefEqProofs [-List.map_set, Ja, -Int.natCast_add, -Int.natCast_mul, -Int.natCast_emod, -Int.natCast_ediv, -Int.natCast_pow, Jb, Jc, Jd, Je, Jf, Jg, Jh, Ji, Jj, Jk, Jl, Jm, Jn, Jo, Jp, Jq, Jr, Js, Jt, Ju, Jv, Jw, Jx, Jy, Jz, -List.reduceReplicate, hk, segD]
          (first | refine .inl ⟨_, point_c b k hk26 s.2 hs.2, ?_⟩ | refine ⟨_, point_c b k hk26 s.2 hs.2, ?_⟩)
          have h0 := hA s.2 s.1
          generalize b.point k s.2 = o1 at *
          cases o1 with
          | none =>
            simp only at h0
            simp (maxSteps := 2000000) -implicitDefEqProofs [-List.map_set, Ja, -Int.natCast_add, -Int.natCast_mul, -Int.natCast_emod, -Int.natCast_ediv, -Int.natCast_pow, Jb, Jc, Jd, Je, Jf, Jg, Jh, Ji, Jj, Jk, Jl, Jm, Jn, Jo, Jp, Jq, Jr, Js, Jt, Ju, Jv, Jw, Jx, Jy, Jz, -List.reduceReplicate, bndR, h0]
            exact ⟨2, ⟨by simp, rfl⟩, by simp, by omega⟩
          | some b1 =>
            simp only at h0
            simp (maxSteps := 2000000) -implicitDefEqProofs [-List.map_set, Ja, -Int.natCast_add, -Int.natCast_mul, -Int.natCast_emod, -Int.natCast_ediv, -Int.natCast_pow, Jb, Jc, Jd, Je, Jf, Jg, Jh, Ji, Jj, Jk, Jl, Jm, Jn, Jo, Jp, Jq, Jr, Js, Jt, Ju, Jv, Jw, Jx, Jy, Jz, -List.reduceReplicate, bndR]
            refine wpDraw_by [[], [], [1], [], [], [4], [3], [3, 4, 5, 6], [3, 4, 5, 6, 7], [0, 1, 2, 3, 4, 5, 6, 7, 8], [0, 1, 2, 3, 4, 5, 6, 7, 8, 9], [0, 1, 2, 3, 4, 5, 6, 7, 8, 9, 10], [0, 1, 2, 3, 4, 5, 6, 7, 8, 9, 10], [0, 1, 2, 3, 4, 5, 6, 7, 8, 9, 10, 11], [0, 1, 2, 3, 4, 5, 6, 7, 8, 9, 10, 11, 12, 13]] [.any [] [] [⟨0, [11], [], [], []⟩, ⟨0, [0], [], [], []⟩, ⟨0, [58], [], [], []⟩, ⟨0, [1], [], [], []⟩, ⟨0, [10], [], [], []⟩, ⟨0, [61], [], [], []⟩, ⟨0, [60], [], [], []⟩, ⟨0, [62, 63], [], [], []⟩, ⟨0, [64], [], [], []⟩], .one, .one, .any [] [] [⟨0, [56], [], [], []⟩, ⟨0, [56], [11], [], []⟩, ⟨2, [11, 67], [], [], [11]⟩], .one] (by rfl) ?_
            simp (maxSteps := 2000000) -implicitDefEqProofs [-List.map_set, Ja, -Int.natCast_add, -Int.natCast_mul, -Int.natCast_emod, -Int.natCast_ediv, -Int.natCast_pow, Jb, Jc, Jd, Je, Jf, Jg, Jh, Ji, Jj, Jk, Jl, Jm, Jn, Jo, Jp, Jq, Jr, Js, Jt, Ju, Jv, Jw, Jx, Jy, Jz, -List.reduceReplicate, hj, segD]
            (first | refine .inl ⟨_, point_c b1 j hj26 s.1 hs.1, ?_⟩ | refine ⟨_, point_c b1 j hj26 s.1 hs.1, ?_⟩)
            generalize b1.point j s.1 = o2 at *
            cases o2 with
            | none =>
              simp only at h0
              simp (maxSteps := 2000000) -implicitDefEqProofs [-List.map_set, Ja, -Int.natCast_add, -Int.natCast_mul, -Int.natCast_emod, -Int.natCast_ediv, -Int.natCast_pow, Jb, Jc, Jd, Je, Jf, Jg, Jh, Ji, Jj, Jk, Jl, Jm, Jn, Jo, Jp, Jq, Jr, Js, Jt, Ju, Jv, Jw, Jx, Jy, Jz, -List.reduceReplicate, bndR, h0]
              refine wpDraw_by [[], [0], [0, 1], [0, 1, 2], [], [4], [4, 5], [4, 5, 6], [0, 1, 2, 3, 4, 5, 6, 7]] [.any [] [] [⟨0, [1], [], [], []⟩, ⟨0, [77], [], [], []⟩, ⟨0, [78], [], [], []⟩, ⟨0, [79], [], [], []⟩, ⟨0, [1], [], [], []⟩, ⟨0, [81], [], [], []⟩, ⟨0, [82], [], [], []⟩, ⟨0, [83], [], [], []⟩], .one] (by rfl) ?_
              simp (maxSteps := 2000000) -implicitDefEqProofs [-List.map_set, Ja, -Int.natCast_add, -Int.natCast_mul, -Int.natCast_emod, -Int.natCast_ediv, -Int.natCast_pow, Jb, Jc, Jd, Je, Jf, Jg, Jh, Ji, Jj, Jk, Jl, Jm, Jn, Jo, Jp, Jq, Jr, Js, Jt, Ju, Jv, Jw, Jx, Jy, Jz, -List.reduceReplicate, segD]
              simp (maxSteps := 2000000) -implicitDefEqProofs [-List.map_set, Ja, -Int.natCast_add, -Int.natCast_mul, -Int.natCast_emod, -Int.natCast_ediv, -Int.natCast_pow, Jb, Jc, Jd, Je, Jf, Jg, Jh, Ji, Jj, Jk, Jl, Jm, Jn, Jo, Jp, Jq, Jr, Js, Jt, Ju, Jv, Jw, Jx, Jy, Jz, -List.reduceReplicate, i64, he]
              exact ⟨2, ⟨by simp, rfl⟩, by simp, by omega⟩
            | some b2 =>
              simp only at h0
              simp (maxSteps := 2000000) -implicitDefEqProofs [-List.map_set, Ja, -Int.natCast_add, -Int.natCast_mul, -Int.natCast_emod, -Int.natCast_ediv, -Int.natCast_pow, Jb, Jc, Jd, Je, Jf, Jg, Jh, Ji, Jj, Jk, Jl, Jm, Jn, Jo, Jp, Jq, Jr, Js, Jt, Ju, Jv, Jw, Jx, Jy, Jz, -List.reduceReplicate, bndR, h0]
              refine wpDraw_by [[], [0], [], [2], [], [], [0, 1, 2, 3, 4, 5]] [.any [] [] [⟨0, [0], [], [], []⟩, ⟨0, [70], [], [], []⟩, ⟨0, [1], [], [], []⟩, ⟨0, [72], [], [], []⟩, ⟨0, [11], [], [], []⟩, ⟨0, [3], [], [], []⟩], .one] (by rfl) ?_
              simp (maxSteps := 2000000) -implicitDefEqProofs [-List.map_set, Ja, -Int.natCast_add, -Int.natCast_mul, -Int.natCast_emod, -Int.natCast_ediv, -Int.natCast_pow, Jb, Jc, Jd, Je, Jf, Jg, Jh, Ji, Jj, Jk, Jl, Jm, Jn, Jo, Jp, Jq, Jr, Js, Jt, Ju, Jv, Jw, Jx, Jy, Jz, -List.reduceReplicate, ex2]
              have h1 := ih r l b2 (by simp at hn; omega) hok (fun s hs => hl s (by simp [hs])) (by simp at hll; omega) (by simp at hls; omega)
              refine .inr (.inr (.inl ⟨x, (ms r l b2).map bndY, rest, _, by simp [lk], ?_, h1, ?_⟩))
              · simp [St.argsW, U.toA, toD]
              · simp only [St.reachU, List.flatMap_cons, List.flatMap_nil, U.all, List.append_nil, List.cons_append, List.nil_append, reach_append, Bnd.reach_cs, reach_cons_d, reach_nil]
                simp (maxSteps := 2000000) -implicitDefEqProofs [-List.map_set, Ja, -Int.natCast_add, -Int.natCast_mul, -Int.natCast_emod, -Int.natCast_ediv, -Int.natCast_pow, Jb, Jc, Jd, Je, Jf, Jg, Jh, Ji, Jj, Jk, Jl, Jm, Jn, Jo, Jp, Jq, Jr, Js, Jt, Ju, Jv, Jw, Jx, Jy, Jz, -List.reduceReplicate, St.backY, St.rest]
                refine wpDraw_by [[], [0], [0, 1], [0, 1, 2], [], [4], [4, 5], [4, 5, 6], [0, 1, 2, 3, 4, 5, 6, 7]] [.any [] [] [⟨0, [1], [], [], []⟩, ⟨0, [77], [], [], []⟩, ⟨0, [78], [], [], []⟩, ⟨0, [79], [], [], []⟩, ⟨0, [1], [], [], []⟩, ⟨0, [81], [], [], []⟩, ⟨0, [82], [], [], []⟩, ⟨0, [83], [], [], []⟩], .one] (by rfl) ?_
                simp (maxSteps := 2000000) -implicitDefEqProofs [-List.map_set, Ja, -Int.natCast_add, -Int.natCast_mul, -Int.natCast_emod, -Int.natCast_ediv, -Int.natCast_pow, Jb, Jc, Jd, Je, Jf, Jg, Jh, Ji, Jj, Jk, Jl, Jm, Jn, Jo, Jp, Jq, Jr, Js, Jt, Ju, Jv, Jw, Jx, Jy, Jz, -List.reduceReplicate, segD]
                simp (maxSteps := 2000000) -implicitDefEqProofs [-List.map_set, Ja, -Int.natCast_add, -Int.natCast_mul, -Int.natCast_emod, -Int.natCast_ediv, -Int.natCast_pow, Jb, Jc, Jd, Je, Jf, Jg, Jh, Ji, Jj, Jk, Jl, Jm, Jn, Jo, Jp, Jq, Jr, Js, Jt, Ju, Jv, Jw, Jx, Jy, Jz, -List.reduceReplicate, i64, he]
                exact ⟨2, ⟨by simp, rfl⟩, by simp, by omega⟩
        | 2, _ =>
          simp (maxSteps := 2000000) -implicitDefEqProofs [-List.map_set, Ja, -Int.natCast_add, -Int.natCast_mul, -Int.natCast_emod, -Int.natCast_ediv, -Int.natCast_pow, Jb, Jc, Jd, Je, Jf, Jg, Jh, Ji, Jj, Jk, Jl, Jm, Jn, Jo, Jp, Jq, Jr, Js, Jt, Ju, Jv, Jw, Jx, Jy, Jz, -List.reduceReplicate, finY]

end Go.Va

/-
  Contracts: the readings of facts as segments.
-/
namespace Go.Va
open Go.Proofs
set_option maxHeartbeats 4000000
set_option maxRecDepth 10000
set_option linter.unusedSimpArgs false
set_option linter.unusedVariables false

theorem segmentOf_c (a b : Int) : CallsF Tryz.prog 232 [.c (.int .i64 a), .c (.int .i64 b)] (.u (.agg [.d (.int .i64 (lo a b)), .d (.int .i64 (hi a b))])) := by
  refine callsF_of (T := tb) tab_ok mixed Tryz.func232 rfl (by decide) (Nat.le_of_ble_eq_true rfl) rfl ?_; unfold St.init
  simp (maxSteps := 2000000) -implicitDefEqProofs [-List.map_set, Ja, -Int.natCast_add, -Int.natCast_mul, -Int.natCast_emod, -Int.natCast_ediv, -Int.natCast_pow, Jb, Jc, Jd, Je, Jf, Jg, Jh, Ji, Jj, Jk, Jl, Jm, Jn, Jo, Jp, Jq, Jr, Js, Jt, Ju, Jv, Jw, Jx, Jy, Jz, lo, hi]

theorem pairs_c (f : Fct) (hl : f.args.length ≤ 1099511627776) : CallsF Tryz.prog 244 [.agg f.ds] (.u (.c (.own 2 (pairUp f.args).length ((pairUp f.args).flatMap segD)))) := by
  refine callsF_of (T := tb) tab_ok mixed Tryz.func244 rfl (by decide) (Nat.le_of_ble_eq_true rfl) rfl ?_; unfold St.init
  obtain ⟨kind, args, neg, abs, den⟩ := f
  simp only at hl
  simp (maxSteps := 2000000) -implicitDefEqProofs [-List.map_set, Ja, -Int.natCast_add, -Int.natCast_mul, -Int.natCast_emod, -Int.natCast_ediv, -Int.natCast_pow, Jb, Jc, Jd, Je, Jf, Jg, Jh, Ji, Jj, Jk, Jl, Jm, Jn, Jo, Jp, Jq, Jr, Js, Jt, Ju, Jv, Jw, Jx, Jy, Jz]
  refine wpLoop_by [(3, 27)] (fun x : Nat × Nat × List D => ⟨[(4, vI .i64 x.1), (3, vC (.sl 3 0 x.2.1)), (1, vC (.ptr 1 0))], [(3, .row 2 x.2.2 true), (1, .box [.d (.int .i64 kind), .d (intsD args), .d (.bool neg), .d (natD abs), .d (natD den)])]⟩) (fun x => x.1 = 2 * x.2.1 ∧ x.2.1 ≤ (pairUp args).length ∧ x.2.2 = ((pairUp args).take x.2.1).flatMap segD) (fun x => (pairUp args).length - x.2.1) (0, 0, []) (by simp) (by simp) ?_
  rintro ⟨i, m, cs⟩ ⟨hm2, hm, hc⟩
  simp only at hm2 hm hc
  subst hc
  have hlen := pairUp_len args
  by_cases h : i + 1 < args.length
  · have e := pairUp_take (l := args) (m := m) (by omega)
    have e1 : args[2 * m]'(by omega) = args[i] := by simp only [hm2]
    have e2 : args[2 * m + 1]'(by omega) = args[i + 1] := by simp only [hm2]
    rw [e1, e2] at e
    have hb : i ≤ 9223372036854775806 := by omega
    have h0 : i < args.length := by omega
    simp (maxSteps := 2000000) -implicitDefEqProofs [-List.map_set, Ja, -Int.natCast_add, -Int.natCast_mul, -Int.natCast_emod, -Int.natCast_ediv, -Int.natCast_pow, Jb, Jc, Jd, Je, Jf, Jg, Jh, Ji, Jj, Jk, Jl, Jm, Jn, Jo, Jp, Jq, Jr, Js, Jt, Ju, Jv, Jw, Jx, Jy, Jz, h, hb]
    refine wpDraw_by [[], [], [1], [], [1, 2, 3], [1, 2, 3, 4], [], [6], [], [8], [6, 7, 8, 9], [6, 7, 8, 9, 10], [1, 2, 3, 4, 5, 6, 7, 8, 9, 10, 11], [1, 2, 3, 4, 5, 6, 7, 8, 9, 10, 11, 12], [0, 1, 2, 3, 4, 5, 6, 7, 8, 9, 10, 11, 12, 13], [0, 1, 2, 3, 4, 5, 6, 7, 8, 9, 10, 11, 12, 13, 14]] [.any [] [26] [⟨0, [3], [26], [26], []⟩, ⟨0, [1], [], [26], []⟩, ⟨0, [14], [], [26], []⟩, ⟨0, [4], [], [26], []⟩, ⟨0, [15, 16], [], [26], []⟩, ⟨0, [17], [], [26], []⟩, ⟨0, [1], [], [26], []⟩, ⟨0, [19], [], [26], []⟩, ⟨0, [4], [], [26], []⟩, ⟨0, [21], [], [26], []⟩, ⟨0, [20, 22], [], [26], []⟩, ⟨0, [23], [], [26], []⟩, ⟨0, [18, 24], [], [26], []⟩, ⟨1, [25], [], [], []⟩], .one, .one] (by rfl) ?_
    simp (maxSteps := 2000000) -implicitDefEqProofs [-List.map_set, Ja, -Int.natCast_add, -Int.natCast_mul, -Int.natCast_emod, -Int.natCast_ediv, -Int.natCast_pow, Jb, Jc, Jd, Je, Jf, Jg, Jh, Ji, Jj, Jk, Jl, Jm, Jn, Jo, Jp, Jq, Jr, Js, Jt, Ju, Jv, Jw, Jx, Jy, Jz, h, h0, hb, i64]
    (first | refine .inl ⟨_, segmentOf_c args[i] args[i + 1], ?_⟩ | refine ⟨_, segmentOf_c args[i] args[i + 1], ?_⟩)
    simp (maxSteps := 2000000) -implicitDefEqProofs [-List.map_set, Ja, -Int.natCast_add, -Int.natCast_mul, -Int.natCast_emod, -Int.natCast_ediv, -Int.natCast_pow, Jb, Jc, Jd, Je, Jf, Jg, Jh, Ji, Jj, Jk, Jl, Jm, Jn, Jo, Jp, Jq, Jr, Js, Jt, Ju, Jv, Jw, Jx, Jy, Jz]
    rw [Nat.min_eq_left hm]
    exact ⟨rfl, ⟨by omega, by omega⟩, by omega, i + 2, m + 1, _, ⟨⟨rfl, rfl⟩, rfl⟩, ⟨by omega, by omega, e.symm⟩, by omega⟩
  · have hb : i ≤ 9223372036854775806 := by omega
    have e : m = (pairUp args).length := by omega
    subst e
    simp (maxSteps := 2000000) -implicitDefEqProofs [-List.map_set, Ja, -Int.natCast_add, -Int.natCast_mul, -Int.natCast_emod, -Int.natCast_ediv, -Int.natCast_pow, Jb, Jc, Jd, Je, Jf, Jg, Jh, Ji, Jj, Jk, Jl, Jm, Jn, Jo, Jp, Jq, Jr, Js, Jt, Ju, Jv, Jw, Jx, Jy, Jz, h, hb]

/-- The readings of a fact. -/
def rdg (kind : Int) (f : Fct) : List (List (Int × Int)) :=
  if kind = 2 ∧ f.kind = 1 then
    let s := two (f.args.getD 0 0) (f.args.getD 1 0)
    let t := two (f.args.getD 0 0) (f.args.getD 2 0)
    let u := two (f.args.getD 1 0) (f.args.getD 2 0)
    [[s, t], [s, u], [t, s], [t, u], [u, s], [u, t]]
  else if f.kind ≠ kind then [] else
    match pairUp f.args with
    | [a, b] => [[a, b], [b, a]]
    | [u, v, w, z] => [[u, v, w, z], [u, w, v, z], [z, v, w, u], [z, w, v, u], [v, u, z, w], [v, z, u, w], [w, u, z, v], [w, z, u, v]]
    | _ => []
def rdgD (l : List (List (Int × Int))) : List D := l.map segsD

theorem readings0_c (kind : Int) (f : Fct) (h1 : ¬ (kind = 2 ∧ f.kind = 1)) (h2 : f.kind ≠ kind) : CallsF Tryz.prog 185 [.c (.int .i64 kind), .agg f.ds] (.u (.c (.own 1 0 []))) := by
  refine callsF_of (T := tb) tab_ok mixed Tryz.func185 rfl (by decide) (Nat.le_of_ble_eq_true rfl) rfl ?_; unfold St.init
  by_cases h3 : kind = 2
  · have h4 : f.kind ≠ 1 := fun h => h1 ⟨h3, h⟩
    subst h3
    simp (maxSteps := 2000000) -implicitDefEqProofs [-List.map_set, Ja, -Int.natCast_add, -Int.natCast_mul, -Int.natCast_emod, -Int.natCast_ediv, -Int.natCast_pow, Jb, Jc, Jd, Je, Jf, Jg, Jh, Ji, Jj, Jk, Jl, Jm, Jn, Jo, Jp, Jq, Jr, Js, Jt, Ju, Jv, Jw, Jx, Jy, Jz, h4, h2]
  · simp (maxSteps := 2000000) -implicitDefEqProofs [-List.map_set, Ja, -Int.natCast_add, -Int.natCast_mul, -Int.natCast_emod, -Int.natCast_ediv, -Int.natCast_pow, Jb, Jc, Jd, Je, Jf, Jg, Jh, Ji, Jj, Jk, Jl, Jm, Jn, Jo, Jp, Jq, Jr, Js, Jt, Ju, Jv, Jw, Jx, Jy, Jz, h3, h2]

theorem readings2_c (kind : Int) (f : Fct) (hk : f.kind = kind) (h7 : kind ≠ 7) (a b : Int × Int) (hp : pairUp f.args = [a, b]) (hl : f.args.length ≤ 1000) :
    CallsF Tryz.prog 185 [.c (.int .i64 kind), .agg f.ds] (.u (.c (.own 1 2 (rdgD [[a, b], [b, a]])))) := by
  have hpc := pairs_c f (by omega)
  rw [hp] at hpc
  simp only [List.flatMap_cons, List.flatMap_nil, List.append_nil, segD, List.cons_append, List.nil_append, List.length_cons, List.length_nil, i64, Fct.ds, hk] at hpc
  refine callsF_of (T := tb) tab_ok mixed Tryz.func185 rfl (by decide) (Nat.le_of_ble_eq_true rfl) rfl ?_; unfold St.init
  by_cases h2 : kind = 2
  · subst h2
    simp (maxSteps := 2000000) -implicitDefEqProofs [-List.map_set, Ja, -Int.natCast_add, -Int.natCast_mul, -Int.natCast_emod, -Int.natCast_ediv, -Int.natCast_pow, Jb, Jc, Jd, Je, Jf, Jg, Jh, Ji, Jj, Jk, Jl, Jm, Jn, Jo, Jp, Jq, Jr, Js, Jt, Ju, Jv, Jw, Jx, Jy, Jz, hk]
    (first | refine .inl ⟨_, hpc, ?_⟩ | refine ⟨_, hpc, ?_⟩)
    simp (maxSteps := 2000000) -implicitDefEqProofs [-List.map_set, Ja, -Int.natCast_add, -Int.natCast_mul, -Int.natCast_emod, -Int.natCast_ediv, -Int.natCast_pow, Jb, Jc, Jd, Je, Jf, Jg, Jh, Ji, Jj, Jk, Jl, Jm, Jn, Jo, Jp, Jq, Jr, Js, Jt, Ju, Jv, Jw, Jx, Jy, Jz, h7]
    refine wpDraw_by [[], [], [1], [1, 2], [], [4], [4, 5], [1, 2, 3, 4, 5, 6], [0, 1, 2, 3, 4, 5, 6, 7], [0, 1, 2, 3, 4, 5, 6, 7, 8]] [.any [79] [89] [⟨0, [12], [], [89], []⟩, ⟨0, [12], [], [89], []⟩, ⟨0, [83], [], [89], []⟩, ⟨0, [84], [], [89], []⟩, ⟨0, [12], [], [89], []⟩, ⟨0, [86], [], [89], []⟩, ⟨0, [87], [], [89], []⟩, ⟨4, [85, 88], [], [], []⟩], .one, .one] (by rfl) ?_
    simp (maxSteps := 2000000) -implicitDefEqProofs [-List.map_set, Ja, -Int.natCast_add, -Int.natCast_mul, -Int.natCast_emod, -Int.natCast_ediv, -Int.natCast_pow, Jb, Jc, Jd, Je, Jf, Jg, Jh, Ji, Jj, Jk, Jl, Jm, Jn, Jo, Jp, Jq, Jr, Js, Jt, Ju, Jv, Jw, Jx, Jy, Jz]
    exact ⟨rfl, rfl⟩
  · simp (maxSteps := 2000000) -implicitDefEqProofs [-List.map_set, Ja, -Int.natCast_add, -Int.natCast_mul, -Int.natCast_emod, -Int.natCast_ediv, -Int.natCast_pow, Jb, Jc, Jd, Je, Jf, Jg, Jh, Ji, Jj, Jk, Jl, Jm, Jn, Jo, Jp, Jq, Jr, Js, Jt, Ju, Jv, Jw, Jx, Jy, Jz, h2, hk, h7]
    (first | refine .inl ⟨_, hpc, ?_⟩ | refine ⟨_, hpc, ?_⟩)
    simp (maxSteps := 2000000) -implicitDefEqProofs [-List.map_set, Ja, -Int.natCast_add, -Int.natCast_mul, -Int.natCast_emod, -Int.natCast_ediv, -Int.natCast_pow, Jb, Jc, Jd, Je, Jf, Jg, Jh, Ji, Jj, Jk, Jl, Jm, Jn, Jo, Jp, Jq, Jr, Js, Jt, Ju, Jv, Jw, Jx, Jy, Jz, h7]
    refine wpDraw_by [[], [], [1], [1, 2], [], [4], [4, 5], [1, 2, 3, 4, 5, 6], [0, 1, 2, 3, 4, 5, 6, 7], [0, 1, 2, 3, 4, 5, 6, 7, 8]] [.any [79] [89] [⟨0, [12], [], [89], []⟩, ⟨0, [12], [], [89], []⟩, ⟨0, [83], [], [89], []⟩, ⟨0, [84], [], [89], []⟩, ⟨0, [12], [], [89], []⟩, ⟨0, [86], [], [89], []⟩, ⟨0, [87], [], [89], []⟩, ⟨4, [85, 88], [], [], []⟩], .one, .one] (by rfl) ?_
    simp (maxSteps := 2000000) -implicitDefEqProofs [-List.map_set, Ja, -Int.natCast_add, -Int.natCast_mul, -Int.natCast_emod, -Int.natCast_ediv, -Int.natCast_pow, Jb, Jc, Jd, Je, Jf, Jg, Jh, Ji, Jj, Jk, Jl, Jm, Jn, Jo, Jp, Jq, Jr, Js, Jt, Ju, Jv, Jw, Jx, Jy, Jz]
    exact ⟨rfl, rfl⟩

theorem readings4_c (f : Fct) (hk : f.kind = 7) (u v w z : Int × Int) (hp : pairUp f.args = [u, v, w, z]) (hl : f.args.length ≤ 1000) :
    CallsF Tryz.prog 185 [.c (.int .i64 7), .agg f.ds] (.u (.c (.own 1 8 (rdgD [[u, v, w, z], [u, w, v, z], [z, v, w, u], [z, w, v, u], [v, u, z, w], [v, z, u, w], [w, u, z, v], [w, z, u, v]])))) := by
  have hpc := pairs_c f (by omega)
  rw [hp] at hpc
  simp only [List.flatMap_cons, List.flatMap_nil, List.append_nil, segD, List.cons_append, List.nil_append, List.length_cons, List.length_nil, i64, Fct.ds, hk] at hpc
  refine callsF_of (T := tb) tab_ok mixed Tryz.func185 rfl (by decide) (Nat.le_of_ble_eq_true rfl) rfl ?_; unfold St.init
  simp (maxSteps := 2000000) -implicitDefEqProofs [-List.map_set, Ja, -Int.natCast_add, -Int.natCast_mul, -Int.natCast_emod, -Int.natCast_ediv, -Int.natCast_pow, Jb, Jc, Jd, Je, Jf, Jg, Jh, Ji, Jj, Jk, Jl, Jm, Jn, Jo, Jp, Jq, Jr, Js, Jt, Ju, Jv, Jw, Jx, Jy, Jz, hk]
  (first | refine .inl ⟨_, hpc, ?_⟩ | refine ⟨_, hpc, ?_⟩)
  simp (maxSteps := 2000000) -implicitDefEqProofs [-List.map_set, Ja, -Int.natCast_add, -Int.natCast_mul, -Int.natCast_emod, -Int.natCast_ediv, -Int.natCast_pow, Jb, Jc, Jd, Je, Jf, Jg, Jh, Ji, Jj, Jk, Jl, Jm, Jn, Jo, Jp, Jq, Jr, Js, Jt, Ju, Jv, Jw, Jx, Jy, Jz]
  refine wpDraw_by [[], [0], [0, 1], [], [3], [3, 4], [], [6], [6, 7], [], [9], [9, 10], [], [], [], [], [0, 1, 2, 12, 13, 14, 15], [0, 1, 2, 3, 4, 5, 12, 13, 14, 15, 16], [0, 1, 2, 3, 4, 5, 6, 7, 8, 12, 13, 14, 15, 16, 17], [0, 1, 2, 3, 4, 5, 6, 7, 8, 9, 10, 11, 12, 13, 14, 15, 16, 17, 18]] [.any [] [13, 14, 15, 16] [⟨0, [12], [13, 14, 15, 16], [13, 14, 15, 16], []⟩, ⟨0, [91], [13, 14, 15, 16], [13, 14, 15, 16], []⟩, ⟨0, [92], [13, 14, 15, 16], [13, 14, 15, 16], []⟩, ⟨0, [12], [13, 14, 15, 16], [13, 14, 15, 16], []⟩, ⟨0, [94], [13, 14, 15, 16], [13, 14, 15, 16], []⟩, ⟨0, [95], [13, 14, 15, 16], [13, 14, 15, 16], []⟩, ⟨0, [12], [13, 14, 15, 16], [13, 14, 15, 16], []⟩, ⟨0, [97], [13, 14, 15, 16], [13, 14, 15, 16], []⟩, ⟨0, [98], [13, 14, 15, 16], [13, 14, 15, 16], []⟩, ⟨0, [12], [13, 14, 15, 16], [13, 14, 15, 16], []⟩, ⟨0, [100], [13, 14, 15, 16], [13, 14, 15, 16], []⟩, ⟨0, [101], [13, 14, 15, 16], [13, 14, 15, 16], []⟩, ⟨1, [], [14, 15, 16], [14, 15, 16], []⟩, ⟨1, [], [13, 15, 16], [13, 15, 16], []⟩, ⟨1, [], [13, 14, 16], [13, 14, 16], []⟩, ⟨1, [], [13, 14, 15], [13, 14, 15], []⟩, ⟨2, [13, 93], [], [], [13]⟩, ⟨2, [14, 96], [], [], [14]⟩, ⟨2, [15, 99], [], [], [15]⟩], .one] (by rfl) ?_
  simp (maxSteps := 2000000) -implicitDefEqProofs [-List.map_set, Ja, -Int.natCast_add, -Int.natCast_mul, -Int.natCast_emod, -Int.natCast_ediv, -Int.natCast_pow, Jb, Jc, Jd, Je, Jf, Jg, Jh, Ji, Jj, Jk, Jl, Jm, Jn, Jo, Jp, Jq, Jr, Js, Jt, Ju, Jv, Jw, Jx, Jy, Jz]
  exact ⟨rfl, rfl⟩

theorem readings1_c (f : Fct) (hk : f.kind = 1) (a b c : Int) (ha : f.args = [a, b, c]) :
    CallsF Tryz.prog 185 [.c (.int .i64 2), .agg f.ds] (.u (.c (.own 1 6 (rdgD [[two a b, two a c], [two a b, two b c], [two a c, two a b], [two a c, two b c], [two b c, two a b], [two b c, two a c]])))) := by
  have k1 := segmentOf_c a b
  have k2 := segmentOf_c a c
  have k3 := segmentOf_c b c
  simp only [two]
  generalize lo a b = s1 at *
  generalize hi a b = s2 at *
  generalize lo a c = t1 at *
  generalize hi a c = t2 at *
  generalize lo b c = u1 at *
  generalize hi b c = u2 at *
  refine callsF_of (T := tb) tab_ok mixed Tryz.func185 rfl (by decide) (Nat.le_of_ble_eq_true rfl) rfl ?_; unfold St.init
  simp only [Fct.ds, ha, hk]
  simp (maxSteps := 2000000) -implicitDefEqProofs [-List.map_set, Ja, -Int.natCast_add, -Int.natCast_mul, -Int.natCast_emod, -Int.natCast_ediv, -Int.natCast_pow, Jb, Jc, Jd, Je, Jf, Jg, Jh, Ji, Jj, Jk, Jl, Jm, Jn, Jo, Jp, Jq, Jr, Js, Jt, Ju, Jv, Jw, Jx, Jy, Jz, -List.reduceReplicate, i64]
  refine wpDraw_by [[], [0], [0, 1], [], [3], [3, 4], [0, 1, 2, 3, 4, 5], [], [7], [7, 8], [], [10], [10, 11], [0, 1, 2, 3, 4, 5, 6, 7, 8, 9, 10, 11, 12], [], [14], [14, 15], [], [17], [17, 18], [0, 1, 2, 3, 4, 5, 6, 7, 8, 9, 10, 11, 12, 13, 14, 15, 16, 17, 18, 19], [0, 1, 2, 3, 4, 5, 6, 7, 8, 9, 10, 11, 12, 13, 14, 15, 16, 17, 18, 19, 20], [0, 1, 2, 3, 4, 5, 6, 7, 8, 9, 10, 11, 12, 13, 14, 15, 16, 17, 18, 19, 20, 21]] [.any [] [] [⟨0, [5], [], [], []⟩, ⟨0, [26], [], [], []⟩, ⟨0, [27], [], [], []⟩, ⟨0, [5], [], [], []⟩, ⟨0, [29], [], [], []⟩, ⟨0, [30], [], [], []⟩, ⟨0, [28, 31], [], [], []⟩, ⟨0, [5], [], [], []⟩, ⟨0, [33], [], [], []⟩, ⟨0, [34], [], [], []⟩, ⟨0, [5], [], [], []⟩, ⟨0, [36], [], [], []⟩, ⟨0, [37], [], [], []⟩, ⟨0, [35, 38], [], [], []⟩, ⟨0, [5], [], [], []⟩, ⟨0, [40], [], [], []⟩, ⟨0, [41], [], [], []⟩, ⟨0, [5], [], [], []⟩, ⟨0, [43], [], [], []⟩, ⟨0, [44], [], [], []⟩], .one, .one, .one] (by rfl) ?_
  simp (maxSteps := 2000000) -implicitDefEqProofs [-List.map_set, Ja, -Int.natCast_add, -Int.natCast_mul, -Int.natCast_emod, -Int.natCast_ediv, -Int.natCast_pow, Jb, Jc, Jd, Je, Jf, Jg, Jh, Ji, Jj, Jk, Jl, Jm, Jn, Jo, Jp, Jq, Jr, Js, Jt, Ju, Jv, Jw, Jx, Jy, Jz, -List.reduceReplicate, i64]
  (first | refine .inl ⟨_, k1, ?_⟩ | refine ⟨_, k1, ?_⟩)
  simp (maxSteps := 2000000) -implicitDefEqProofs [-List.map_set, Ja, -Int.natCast_add, -Int.natCast_mul, -Int.natCast_emod, -Int.natCast_ediv, -Int.natCast_pow, Jb, Jc, Jd, Je, Jf, Jg, Jh, Ji, Jj, Jk, Jl, Jm, Jn, Jo, Jp, Jq, Jr, Js, Jt, Ju, Jv, Jw, Jx, Jy, Jz, -List.reduceReplicate]
  (first | refine .inl ⟨_, k2, ?_⟩ | refine ⟨_, k2, ?_⟩)
  simp (maxSteps := 2000000) -implicitDefEqProofs [-List.map_set, Ja, -Int.natCast_add, -Int.natCast_mul, -Int.natCast_emod, -Int.natCast_ediv, -Int.natCast_pow, Jb, Jc, Jd, Je, Jf, Jg, Jh, Ji, Jj, Jk, Jl, Jm, Jn, Jo, Jp, Jq, Jr, Js, Jt, Ju, Jv, Jw, Jx, Jy, Jz, -List.reduceReplicate]
  (first | refine .inl ⟨_, k3, ?_⟩ | refine ⟨_, k3, ?_⟩)
  simp (maxSteps := 2000000) -implicitDefEqProofs [-List.map_set, Ja, -Int.natCast_add, -Int.natCast_mul, -Int.natCast_emod, -Int.natCast_ediv, -Int.natCast_pow, Jb, Jc, Jd, Je, Jf, Jg, Jh, Ji, Jj, Jk, Jl, Jm, Jn, Jo, Jp, Jq, Jr, Js, Jt, Ju, Jv, Jw, Jx, Jy, Jz, -List.reduceReplicate]
  refine wpLoop_by [] (fun i : Nat => ⟨[(50, vI .i64 i), (49, vI .i64 3), (48, vC (.sl 47 0 3)), (7, vC (.sl 7 0 (match i with | 0 => 0 | 1 => 2 | 2 => 4 | _ => 6))), (6, vC (.sl 47 0 3))],
    [(7, .row 1 (match i with | 0 => [] | 1 => [.slice 2 [.int .i64 s1, .int .i64 s2, .int .i64 t1, .int .i64 t2], .slice 2 [.int .i64 s1, .int .i64 s2, .int .i64 u1, .int .i64 u2]] | 2 => [.slice 2 [.int .i64 s1, .int .i64 s2, .int .i64 t1, .int .i64 t2], .slice 2 [.int .i64 s1, .int .i64 s2, .int .i64 u1, .int .i64 u2], .slice 2 [.int .i64 t1, .int .i64 t2, .int .i64 s1, .int .i64 s2], .slice 2 [.int .i64 t1, .int .i64 t2, .int .i64 u1, .int .i64 u2]] | _ => [.slice 2 [.int .i64 s1, .int .i64 s2, .int .i64 t1, .int .i64 t2], .slice 2 [.int .i64 s1, .int .i64 s2, .int .i64 u1, .int .i64 u2], .slice 2 [.int .i64 t1, .int .i64 t2, .int .i64 s1, .int .i64 s2], .slice 2 [.int .i64 t1, .int .i64 t2, .int .i64 u1, .int .i64 u2], .slice 2 [.int .i64 u1, .int .i64 u2, .int .i64 s1, .int .i64 s2], .slice 2 [.int .i64 u1, .int .i64 u2, .int .i64 t1, .int .i64 t2]]) true), (47, .row 2 [.int .i64 s1, .int .i64 s2, .int .i64 t1, .int .i64 t2, .int .i64 u1, .int .i64 u2] true)]⟩) (fun i => i ≤ 3) (fun i => 3 - i) 0 (by simp [leL, lk, St.le, vI, vC]) (by omega) ?_
  rintro i hi
  match i, hi with
  | 0, _ =>
    simp (maxSteps := 2000000) -implicitDefEqProofs [-List.map_set, Ja, -Int.natCast_add, -Int.natCast_mul, -Int.natCast_emod, -Int.natCast_ediv, -Int.natCast_pow, Jb, Jc, Jd, Je, Jf, Jg, Jh, Ji, Jj, Jk, Jl, Jm, Jn, Jo, Jp, Jq, Jr, Js, Jt, Ju, Jv, Jw, Jx, Jy, Jz, -List.reduceReplicate]
    refine wpLoop_by [(7, 70)] (fun j : Nat => ⟨[(57, vI .i64 j), (56, vI .i64 3), (55, vC (.sl 47 0 3)), (50, vI .i64 0), (49, vI .i64 3), (48, vC (.sl 47 0 3)), (8, vI .i64 0), (9, vC (.ptr 9 0)), (7, vC (.sl 7 0 (match j with | 0 => 0 | 1 => 0 | 2 => 1 | _ => 2))), (6, vC (.sl 47 0 3))],
      [(7, .row 1 (match j with | 0 => [] | 1 => [] | 2 => [.slice 2 [.int .i64 s1, .int .i64 s2, .int .i64 t1, .int .i64 t2]] | _ => [.slice 2 [.int .i64 s1, .int .i64 s2, .int .i64 t1, .int .i64 t2], .slice 2 [.int .i64 s1, .int .i64 s2, .int .i64 u1, .int .i64 u2]]) true), (9, .box [.d (.int .i64 s1), .d (.int .i64 s2)]), (47, .row 2 [.int .i64 s1, .int .i64 s2, .int .i64 t1, .int .i64 t2, .int .i64 u1, .int .i64 u2] true)]⟩) (fun j => j ≤ 3) (fun j => 3 - j) 0 (by simp [leL, lk, St.le, vI, vC]) (by omega) ?_
    rintro j hj
    match j, hj with
    | 0, _ =>
      simp (maxSteps := 2000000) -implicitDefEqProofs [-List.map_set, Ja, -Int.natCast_add, -Int.natCast_mul, -Int.natCast_emod, -Int.natCast_ediv, -Int.natCast_pow, Jb, Jc, Jd, Je, Jf, Jg, Jh, Ji, Jj, Jk, Jl, Jm, Jn, Jo, Jp, Jq, Jr, Js, Jt, Ju, Jv, Jw, Jx, Jy, Jz, -List.reduceReplicate]
      exact ⟨1, by simp [leL, lk], by omega, by omega⟩
    | 1, _ =>
      simp (maxSteps := 2000000) -implicitDefEqProofs [-List.map_set, Ja, -Int.natCast_add, -Int.natCast_mul, -Int.natCast_emod, -Int.natCast_ediv, -Int.natCast_pow, Jb, Jc, Jd, Je, Jf, Jg, Jh, Ji, Jj, Jk, Jl, Jm, Jn, Jo, Jp, Jq, Jr, Js, Jt, Ju, Jv, Jw, Jx, Jy, Jz, -List.reduceReplicate]
      exact ⟨2, by simp [leL, lk], by omega, by omega⟩
    | 2, _ =>
      simp (maxSteps := 2000000) -implicitDefEqProofs [-List.map_set, Ja, -Int.natCast_add, -Int.natCast_mul, -Int.natCast_emod, -Int.natCast_ediv, -Int.natCast_pow, Jb, Jc, Jd, Je, Jf, Jg, Jh, Ji, Jj, Jk, Jl, Jm, Jn, Jo, Jp, Jq, Jr, Js, Jt, Ju, Jv, Jw, Jx, Jy, Jz, -List.reduceReplicate]
      exact ⟨3, by simp [leL, lk], by omega, by omega⟩
    | 3, _ =>
      simp (maxSteps := 2000000) -implicitDefEqProofs [-List.map_set, Ja, -Int.natCast_add, -Int.natCast_mul, -Int.natCast_emod, -Int.natCast_ediv, -Int.natCast_pow, Jb, Jc, Jd, Je, Jf, Jg, Jh, Ji, Jj, Jk, Jl, Jm, Jn, Jo, Jp, Jq, Jr, Js, Jt, Ju, Jv, Jw, Jx, Jy, Jz, -List.reduceReplicate]
      exact ⟨1, by simp [leL, lk], by omega, by omega⟩
  | 1, _ =>
    simp (maxSteps := 2000000) -implicitDefEqProofs [-List.map_set, Ja, -Int.natCast_add, -Int.natCast_mul, -Int.natCast_emod, -Int.natCast_ediv, -Int.natCast_pow, Jb, Jc, Jd, Je, Jf, Jg, Jh, Ji, Jj, Jk, Jl, Jm, Jn, Jo, Jp, Jq, Jr, Js, Jt, Ju, Jv, Jw, Jx, Jy, Jz, -List.reduceReplicate]
    refine wpLoop_by [(7, 70)] (fun j : Nat => ⟨[(57, vI .i64 j), (56, vI .i64 3), (55, vC (.sl 47 0 3)), (50, vI .i64 1), (49, vI .i64 3), (48, vC (.sl 47 0 3)), (8, vI .i64 1), (9, vC (.ptr 9 0)), (7, vC (.sl 7 0 (match j with | 0 => 2 | 1 => 3 | 2 => 3 | _ => 4))), (6, vC (.sl 47 0 3))],
      [(7, .row 1 (match j with | 0 => [.slice 2 [.int .i64 s1, .int .i64 s2, .int .i64 t1, .int .i64 t2], .slice 2 [.int .i64 s1, .int .i64 s2, .int .i64 u1, .int .i64 u2]] | 1 => [.slice 2 [.int .i64 s1, .int .i64 s2, .int .i64 t1, .int .i64 t2], .slice 2 [.int .i64 s1, .int .i64 s2, .int .i64 u1, .int .i64 u2], .slice 2 [.int .i64 t1, .int .i64 t2, .int .i64 s1, .int .i64 s2]] | 2 => [.slice 2 [.int .i64 s1, .int .i64 s2, .int .i64 t1, .int .i64 t2], .slice 2 [.int .i64 s1, .int .i64 s2, .int .i64 u1, .int .i64 u2], .slice 2 [.int .i64 t1, .int .i64 t2, .int .i64 s1, .int .i64 s2]] | _ => [.slice 2 [.int .i64 s1, .int .i64 s2, .int .i64 t1, .int .i64 t2], .slice 2 [.int .i64 s1, .int .i64 s2, .int .i64 u1, .int .i64 u2], .slice 2 [.int .i64 t1, .int .i64 t2, .int .i64 s1, .int .i64 s2], .slice 2 [.int .i64 t1, .int .i64 t2, .int .i64 u1, .int .i64 u2]]) true), (9, .box [.d (.int .i64 t1), .d (.int .i64 t2)]), (47, .row 2 [.int .i64 s1, .int .i64 s2, .int .i64 t1, .int .i64 t2, .int .i64 u1, .int .i64 u2] true)]⟩) (fun j => j ≤ 3) (fun j => 3 - j) 0 (by simp [leL, lk, St.le, vI, vC]) (by omega) ?_
    rintro j hj
    match j, hj with
    | 0, _ =>
      simp (maxSteps := 2000000) -implicitDefEqProofs [-List.map_set, Ja, -Int.natCast_add, -Int.natCast_mul, -Int.natCast_emod, -Int.natCast_ediv, -Int.natCast_pow, Jb, Jc, Jd, Je, Jf, Jg, Jh, Ji, Jj, Jk, Jl, Jm, Jn, Jo, Jp, Jq, Jr, Js, Jt, Ju, Jv, Jw, Jx, Jy, Jz, -List.reduceReplicate]
      exact ⟨1, by simp [leL, lk], by omega, by omega⟩
    | 1, _ =>
      simp (maxSteps := 2000000) -implicitDefEqProofs [-List.map_set, Ja, -Int.natCast_add, -Int.natCast_mul, -Int.natCast_emod, -Int.natCast_ediv, -Int.natCast_pow, Jb, Jc, Jd, Je, Jf, Jg, Jh, Ji, Jj, Jk, Jl, Jm, Jn, Jo, Jp, Jq, Jr, Js, Jt, Ju, Jv, Jw, Jx, Jy, Jz, -List.reduceReplicate]
      exact ⟨2, by simp [leL, lk], by omega, by omega⟩
    | 2, _ =>
      simp (maxSteps := 2000000) -implicitDefEqProofs [-List.map_set, Ja, -Int.natCast_add, -Int.natCast_mul, -Int.natCast_emod, -Int.natCast_ediv, -Int.natCast_pow, Jb, Jc, Jd, Je, Jf, Jg, Jh, Ji, Jj, Jk, Jl, Jm, Jn, Jo, Jp, Jq, Jr, Js, Jt, Ju, Jv, Jw, Jx, Jy, Jz, -List.reduceReplicate]
      exact ⟨3, by simp [leL, lk], by omega, by omega⟩
    | 3, _ =>
      simp (maxSteps := 2000000) -implicitDefEqProofs [-List.map_set, Ja, -Int.natCast_add, -Int.natCast_mul, -Int.natCast_emod, -Int.natCast_ediv, -Int.natCast_pow, Jb, Jc, Jd, Je, Jf, Jg, Jh, Ji, Jj, Jk, Jl, Jm, Jn, Jo, Jp, Jq, Jr, Js, Jt, Ju, Jv, Jw, Jx, Jy, Jz, -List.reduceReplicate]
      exact ⟨2, by simp [leL, lk], by omega, by omega⟩
  | 2, _ =>
    simp (maxSteps := 2000000) -implicitDefEqProofs [-List.map_set, Ja, -Int.natCast_add, -Int.natCast_mul, -Int.natCast_emod, -Int.natCast_ediv, -Int.natCast_pow, Jb, Jc, Jd, Je, Jf, Jg, Jh, Ji, Jj, Jk, Jl, Jm, Jn, Jo, Jp, Jq, Jr, Js, Jt, Ju, Jv, Jw, Jx, Jy, Jz, -List.reduceReplicate]
    refine wpLoop_by [(7, 70)] (fun j : Nat => ⟨[(57, vI .i64 j), (56, vI .i64 3), (55, vC (.sl 47 0 3)), (50, vI .i64 2), (49, vI .i64 3), (48, vC (.sl 47 0 3)), (8, vI .i64 2), (9, vC (.ptr 9 0)), (7, vC (.sl 7 0 (match j with | 0 => 4 | 1 => 5 | 2 => 6 | _ => 6))), (6, vC (.sl 47 0 3))],
      [(7, .row 1 (match j with | 0 => [.slice 2 [.int .i64 s1, .int .i64 s2, .int .i64 t1, .int .i64 t2], .slice 2 [.int .i64 s1, .int .i64 s2, .int .i64 u1, .int .i64 u2], .slice 2 [.int .i64 t1, .int .i64 t2, .int .i64 s1, .int .i64 s2], .slice 2 [.int .i64 t1, .int .i64 t2, .int .i64 u1, .int .i64 u2]] | 1 => [.slice 2 [.int .i64 s1, .int .i64 s2, .int .i64 t1, .int .i64 t2], .slice 2 [.int .i64 s1, .int .i64 s2, .int .i64 u1, .int .i64 u2], .slice 2 [.int .i64 t1, .int .i64 t2, .int .i64 s1, .int .i64 s2], .slice 2 [.int .i64 t1, .int .i64 t2, .int .i64 u1, .int .i64 u2], .slice 2 [.int .i64 u1, .int .i64 u2, .int .i64 s1, .int .i64 s2]] | 2 => [.slice 2 [.int .i64 s1, .int .i64 s2, .int .i64 t1, .int .i64 t2], .slice 2 [.int .i64 s1, .int .i64 s2, .int .i64 u1, .int .i64 u2], .slice 2 [.int .i64 t1, .int .i64 t2, .int .i64 s1, .int .i64 s2], .slice 2 [.int .i64 t1, .int .i64 t2, .int .i64 u1, .int .i64 u2], .slice 2 [.int .i64 u1, .int .i64 u2, .int .i64 s1, .int .i64 s2], .slice 2 [.int .i64 u1, .int .i64 u2, .int .i64 t1, .int .i64 t2]] | _ => [.slice 2 [.int .i64 s1, .int .i64 s2, .int .i64 t1, .int .i64 t2], .slice 2 [.int .i64 s1, .int .i64 s2, .int .i64 u1, .int .i64 u2], .slice 2 [.int .i64 t1, .int .i64 t2, .int .i64 s1, .int .i64 s2], .slice 2 [.int .i64 t1, .int .i64 t2, .int .i64 u1, .int .i64 u2], .slice 2 [.int .i64 u1, .int .i64 u2, .int .i64 s1, .int .i64 s2], .slice 2 [.int .i64 u1, .int .i64 u2, .int .i64 t1, .int .i64 t2]]) true), (9, .box [.d (.int .i64 u1), .d (.int .i64 u2)]), (47, .row 2 [.int .i64 s1, .int .i64 s2, .int .i64 t1, .int .i64 t2, .int .i64 u1, .int .i64 u2] true)]⟩) (fun j => j ≤ 3) (fun j => 3 - j) 0 (by simp [leL, lk, St.le, vI, vC]) (by omega) ?_
    rintro j hj
    match j, hj with
    | 0, _ =>
      simp (maxSteps := 2000000) -implicitDefEqProofs [-List.map_set, Ja, -Int.natCast_add, -Int.natCast_mul, -Int.natCast_emod, -Int.natCast_ediv, -Int.natCast_pow, Jb, Jc, Jd, Je, Jf, Jg, Jh, Ji, Jj, Jk, Jl, Jm, Jn, Jo, Jp, Jq, Jr, Js, Jt, Ju, Jv, Jw, Jx, Jy, Jz, -List.reduceReplicate]
      exact ⟨1, by simp [leL, lk], by omega, by omega⟩
    | 1, _ =>
      simp (maxSteps := 2000000) -implicitDefEqProofs [-List.map_set, Ja, -Int.natCast_add, -Int.natCast_mul, -Int.natCast_emod, -Int.natCast_ediv, -Int.natCast_pow, Jb, Jc, Jd, Je, Jf, Jg, Jh, Ji, Jj, Jk, Jl, Jm, Jn, Jo, Jp, Jq, Jr, Js, Jt, Ju, Jv, Jw, Jx, Jy, Jz, -List.reduceReplicate]
      exact ⟨2, by simp [leL, lk], by omega, by omega⟩
    | 2, _ =>
      simp (maxSteps := 2000000) -implicitDefEqProofs [-List.map_set, Ja, -Int.natCast_add, -Int.natCast_mul, -Int.natCast_emod, -Int.natCast_ediv, -Int.natCast_pow, Jb, Jc, Jd, Je, Jf, Jg, Jh, Ji, Jj, Jk, Jl, Jm, Jn, Jo, Jp, Jq, Jr, Js, Jt, Ju, Jv, Jw, Jx, Jy, Jz, -List.reduceReplicate]
      exact ⟨3, by simp [leL, lk], by omega, by omega⟩
    | 3, _ =>
      simp (maxSteps := 2000000) -implicitDefEqProofs [-List.map_set, Ja, -Int.natCast_add, -Int.natCast_mul, -Int.natCast_emod, -Int.natCast_ediv, -Int.natCast_pow, Jb, Jc, Jd, Je, Jf, Jg, Jh, Ji, Jj, Jk, Jl, Jm, Jn, Jo, Jp, Jq, Jr, Js, Jt, Ju, Jv, Jw, Jx, Jy, Jz, -List.reduceReplicate]
      exact ⟨3, by simp [leL, lk], by omega, by omega⟩
  | 3, _ =>
    simp (maxSteps := 2000000) -implicitDefEqProofs [-List.map_set, Ja, -Int.natCast_add, -Int.natCast_mul, -Int.natCast_emod, -Int.natCast_ediv, -Int.natCast_pow, Jb, Jc, Jd, Je, Jf, Jg, Jh, Ji, Jj, Jk, Jl, Jm, Jn, Jo, Jp, Jq, Jr, Js, Jt, Ju, Jv, Jw, Jx, Jy, Jz, -List.reduceReplicate]
    exact ⟨rfl, rfl⟩

end Go.Va

/-
  Contracts: a premise's letters are matched with a fact.
-/
namespace Go.Va
open Go.Proofs
set_option maxHeartbeats 4000000
set_option maxRecDepth 10000
set_option linter.unusedSimpArgs false
set_option linter.unusedVariables false

theorem matchP_c (x : Value) (p : Pat) (f : Fct) (b : Bnd) (hk : p.kind = 1 ∨ p.kind = 6 ∨ p.kind = 8) (hl : ∀ c ∈ p.letters, cap c) (hll : p.letters.length ≤ 1000) (ha : ∀ a ∈ f.args, -1 ≤ a ∧ a < 1000000) (hal : f.args.length ≤ 1000) :
    Emits Tryz.prog x 107 [.agg p.ds, .agg f.ds, .agg b.ds, .c (.lit x)] ((if f.kind = p.kind then mp p.letters f.args b else []).map bndY) := by
  have hm := matchPoints_c x p.letters f.args b hl ha hal hll
  by_cases he : f.kind = p.kind
  · rw [if_pos he]
    refine emits_of (T := tb) tab_ok mixed Tryz.func107 rfl (by decide) (Nat.le_of_ble_eq_true rfl) rfl rfl ?_; intro rest; unfold St.initY
    simp only [Pat.ds]
    rcases hk with hk | hk | hk
    all_goals
      simp (maxSteps := 2000000) -implicitDefEqProofs [-List.map_set, Ja, -Int.natCast_add, -Int.natCast_mul, -Int.natCast_emod, -Int.natCast_ediv, -Int.natCast_pow, Jb, Jc, Jd, Je, Jf, Jg, Jh, Ji, Jj, Jk, Jl, Jm, Jn, Jo, Jp, Jq, Jr, Js, Jt, Ju, Jv, Jw, Jx, Jy, Jz, -List.reduceReplicate, hk, he]
      refine .inr (.inr (.inl ⟨x, (mp p.letters f.args b).map bndY, rest, _, by simp [lk], ?_, hm, ?_⟩))
      · simp [St.argsW, U.toA, toD]
      · simp only [St.reachU, List.flatMap_cons, List.flatMap_nil, U.all, List.append_nil, List.cons_append, List.nil_append, reach_append, Bnd.reach_cs, reach_cons_d, reach_nil]
        simp (maxSteps := 2000000) -implicitDefEqProofs [-List.map_set, Ja, -Int.natCast_add, -Int.natCast_mul, -Int.natCast_emod, -Int.natCast_ediv, -Int.natCast_pow, Jb, Jc, Jd, Je, Jf, Jg, Jh, Ji, Jj, Jk, Jl, Jm, Jn, Jo, Jp, Jq, Jr, Js, Jt, Ju, Jv, Jw, Jx, Jy, Jz, -List.reduceReplicate, St.backY, St.rest, finY]
  · rw [if_neg he]
    refine emits_of (T := tb) tab_ok mixed Tryz.func107 rfl (by decide) (Nat.le_of_ble_eq_true rfl) rfl rfl ?_; intro rest; unfold St.initY
    simp only [Pat.ds]
    rcases hk with hk | hk | hk
    all_goals
      rw [hk] at he
      simp (maxSteps := 2000000) -implicitDefEqProofs [-List.map_set, Ja, -Int.natCast_add, -Int.natCast_mul, -Int.natCast_emod, -Int.natCast_ediv, -Int.natCast_pow, Jb, Jc, Jd, Je, Jf, Jg, Jh, Ji, Jj, Jk, Jl, Jm, Jn, Jo, Jp, Jq, Jr, Js, Jt, Ju, Jv, Jw, Jx, Jy, Jz, -List.reduceReplicate, hk, he, finY]

def msY (ls : List UInt8) (L : List (List (Int × Int))) (b : Bnd) (i : Nat) : List (List A) := ((L.drop i).flatMap fun l => ms ls l b).map bndY
theorem msY_step {ls : List UInt8} {L : List (List (Int × Int))} {b : Bnd} {i : Nat} (h : i < L.length) : msY ls L b i = (ms ls L[i] b).map bndY ++ msY ls L b (i + 1) := by
  unfold msY
  rw [List.drop_eq_getElem_cons h, List.flatMap_cons, List.map_append]
theorem msY_end {ls : List UInt8} {L : List (List (Int × Int))} {b : Bnd} : msY ls L b L.length = [] := by simp [msY]

theorem matchS_c (x : Value) (p : Pat) (f : Fct) (b : Bnd) (hk : p.kind ≠ 1 ∧ p.kind ≠ 6 ∧ p.kind ≠ 8 ∧ p.kind ≠ 5) (L : List (List (Int × Int))) (hL : L.length ≤ 1000) (hrd : CallsF Tryz.prog 185 [.c (.int .i64 p.kind), .agg f.ds] (.u (.c (.own 1 L.length (rdgD L)))))
    (hok : ∀ l ∈ L, msOk p.letters l ∧ (∀ s ∈ l, segIn s) ∧ l.length ≤ 1000) (hll : p.letters.length ≤ 1000) :
    Emits Tryz.prog x 107 [.agg p.ds, .agg f.ds, .agg b.ds, .c (.lit x)] ((L.flatMap fun l => ms p.letters l b).map bndY) := by
  obtain ⟨h1, h6, h8, h5⟩ := hk
  obtain ⟨k, ls, n⟩ := p
  simp only [Fct.ds] at *
  show Emits _ _ _ _ (msY ls L b 0)
  refine emits_of (T := tb) tab_ok mixed Tryz.func107 rfl (by decide) (Nat.le_of_ble_eq_true rfl) rfl rfl ?_; intro rest; unfold St.initY
  simp only [Pat.ds]
  simp (maxSteps := 2000000) -implicitDefEqProofs [-List.map_set, Ja, -Int.natCast_add, -Int.natCast_mul, -Int.natCast_emod, -Int.natCast_ediv, -Int.natCast_pow, Jb, Jc, Jd, Je, Jf, Jg, Jh, Ji, Jj, Jk, Jl, Jm, Jn, Jo, Jp, Jq, Jr, Js, Jt, Ju, Jv, Jw, Jx, Jy, Jz, -List.reduceReplicate, h1, h6, h8, h5]
  (first | refine .inl ⟨_, hrd, ?_⟩ | refine ⟨_, hrd, ?_⟩)
  simp (maxSteps := 2000000) -implicitDefEqProofs [-List.map_set, Ja, -Int.natCast_add, -Int.natCast_mul, -Int.natCast_emod, -Int.natCast_ediv, -Int.natCast_pow, Jb, Jc, Jd, Je, Jf, Jg, Jh, Ji, Jj, Jk, Jl, Jm, Jn, Jo, Jp, Jq, Jr, Js, Jt, Ju, Jv, Jw, Jx, Jy, Jz, -List.reduceReplicate]
  refine wpLoop_of (fun i : Nat => ⟨[(1000000, .tr x (msY ls L b i ++ rest)), (20, vI .i64 i), (19, vI .i64 L.length), (18, vC (.sl 18 0 L.length)), (6, vC (.ptr 6 0)), (4, vC (.ptr 4 0)), (3, vC (.d (.lit x)))],
    [(18, .row 1 (rdgD L) true), (6, .box b.cs), (4, .box [.d (.int .i64 k), .d (.str (bs ls)), .d (.int .i64 n)])]⟩) (fun i => i ≤ L.length) (fun i => L.length - i) 0 (by simp [leL, lk, St.le, vI, vC]) (by omega) ?_
  rintro i hi
  by_cases h : i < L.length
  · have g : (rdgD L)[i]? = some (segsD L[i]) := by simp [rdgD, h]
    have hl := hok L[i] (List.getElem_mem h)
    have hm := matchSegments_c x ls.length ls L[i] b (Nat.le_refl _) hl.1 hl.2.1 hl.2.2 hll
    have e := msY_step (ls := ls) (b := b) h
    simp (maxSteps := 2000000) -implicitDefEqProofs [-List.map_set, Ja, -Int.natCast_add, -Int.natCast_mul, -Int.natCast_emod, -Int.natCast_ediv, -Int.natCast_pow, Jb, Jc, Jd, Je, Jf, Jg, Jh, Ji, Jj, Jk, Jl, Jm, Jn, Jo, Jp, Jq, Jr, Js, Jt, Ju, Jv, Jw, Jx, Jy, Jz, -List.reduceReplicate, h, g, e]
    refine .inr (.inr (.inl ⟨x, (ms ls L[i] b).map bndY, msY ls L b (i + 1) ++ rest, _, by simp [lk], ?_, hm, ?_⟩))
    · simp [St.argsW, U.toA, toD]
    · simp only [St.reachU, List.flatMap_cons, List.flatMap_nil, U.all, List.append_nil, List.cons_append, List.nil_append, reach_append, Bnd.reach_cs, reach_cons_d, reach_nil]
      simp (maxSteps := 2000000) -implicitDefEqProofs [-List.map_set, Ja, -Int.natCast_add, -Int.natCast_mul, -Int.natCast_emod, -Int.natCast_ediv, -Int.natCast_pow, Jb, Jc, Jd, Je, Jf, Jg, Jh, Ji, Jj, Jk, Jl, Jm, Jn, Jo, Jp, Jq, Jr, Js, Jt, Ju, Jv, Jw, Jx, Jy, Jz, -List.reduceReplicate, St.backY, St.rest]
      exact ⟨by omega, i + 1, ⟨rfl, rfl⟩, by omega, by omega⟩
  · have hi2 : i = L.length := by omega
    subst hi2
    rw [msY_end]
    simp (maxSteps := 2000000) -implicitDefEqProofs [-List.map_set, Ja, -Int.natCast_add, -Int.natCast_mul, -Int.natCast_emod, -Int.natCast_ediv, -Int.natCast_pow, Jb, Jc, Jd, Je, Jf, Jg, Jh, Ji, Jj, Jk, Jl, Jm, Jn, Jo, Jp, Jq, Jr, Js, Jt, Ju, Jv, Jw, Jx, Jy, Jz, -List.reduceReplicate, finY]

def mid1 (x y z : Nat) (b : Bnd) (m p q : Int) : List Bnd :=
  match b.point x m with | none => [] | some b1 => match b1.point y p with | none => [] | some b2 => match b2.point z q with | none => [] | some b3 => [b3]

theorem matchM_c (x : Value) (p : Pat) (f : Fct) (b : Bnd) (hk : p.kind = 5) (c1 c2 c3 : UInt8) (hl : p.letters = [c1, c2, c3]) (k1 k2 k3 : Nat) (e1 : c1.toNat = 65 + k1) (e2 : c2.toNat = 65 + k2) (e3 : c3.toNat = 65 + k3) (l1 : k1 < 26) (l2 : k2 < 26) (l3 : k3 < 26)
    (m u v : Int) (ha : f.args = [m, u, v]) (hm : -1 ≤ m ∧ m < 1000000) (hu : -1 ≤ u ∧ u < 1000000) (hv : -1 ≤ v ∧ v < 1000000) (hf : f.kind = 5) :
    Emits Tryz.prog x 107 [.agg p.ds, .agg f.ds, .agg b.ds, .c (.lit x)] ((mid1 k1 k2 k3 b m u v ++ mid1 k1 k2 k3 b m v u).map bndY) := by
  obtain ⟨k, ls, n⟩ := p
  simp only at hk hl
  subst hk hl
  have g0 : (bs [c1, c2, c3]).size = 3 := rfl
  refine emits_of (T := tb) tab_ok mixed Tryz.func107 rfl (by decide) (Nat.le_of_ble_eq_true rfl) rfl rfl ?_; intro rest; unfold St.initY
  simp only [Pat.ds, Fct.ds, ha, hf]
  simp (maxSteps := 2000000) -implicitDefEqProofs [-List.map_set, Ja, -Int.natCast_add, -Int.natCast_mul, -Int.natCast_emod, -Int.natCast_ediv, -Int.natCast_pow, Jb, Jc, Jd, Je, Jf, Jg, Jh, Ji, Jj, Jk, Jl, Jm, Jn, Jo, Jp, Jq, Jr, Js, Jt, Ju, Jv, Jw, Jx, Jy, Jz, -List.reduceReplicate]
  refine wpLoop_of (fun i : Nat => ⟨[(1000000, .tr x ((match i with | 0 => mid1 k1 k2 k3 b m u v ++ mid1 k1 k2 k3 b m v u | 1 => mid1 k1 k2 k3 b m v u | _ => []).map bndY ++ rest)), (54, vI .i64 i), (6, vC (.ptr 6 0)), (5, vC (.ptr 5 0)), (4, vC (.ptr 4 0)), (3, vC (.d (.lit x)))],
    [(6, .box b.cs), (5, .box [.d (.int .i64 5), .d (intsD [m, u, v]), .d (.bool f.neg), .d (natD f.abs), .d (natD f.den)]), (4, .box [.d (.int .i64 5), .d (.str (bs [c1, c2, c3])), .d (.int .i64 n)])]⟩) (fun i => i ≤ 2) (fun i => 2 - i) 0 (by simp [leL, lk, St.le, vI, vC]) (by omega) ?_
  rintro i hi
  match i, hi with
  | 0, _ =>
    have h0 : mid1 k1 k2 k3 b m u v = match b.point k1 m with | none => [] | some b1 => match b1.point k2 u with | none => [] | some b2 => match b2.point k3 v with | none => [] | some b3 => [b3] := rfl
    simp (maxSteps := 2000000) -implicitDefEqProofs [-List.map_set, Ja, -Int.natCast_add, -Int.natCast_mul, -Int.natCast_emod, -Int.natCast_ediv, -Int.natCast_pow, Jb, Jc, Jd, Je, Jf, Jg, Jh, Ji, Jj, Jk, Jl, Jm, Jn, Jo, Jp, Jq, Jr, Js, Jt, Ju, Jv, Jw, Jx, Jy, Jz, -List.reduceReplicate]
    refine wpDraw_by [[], [], [1], [1, 2], [], [4], [4, 5], [4, 5, 6], [0, 1, 2, 3, 4, 5, 6, 7], [0, 1, 2, 3, 4, 5, 6, 7, 8], [0, 1, 2, 3, 4, 5, 6, 7, 8, 9], [0, 1, 2, 3, 4, 5, 6, 7, 8, 9], [], [0, 1, 2, 3, 4, 5, 6, 7, 8, 9, 10, 12], [0, 1, 2, 3, 4, 5, 6, 7, 8, 9, 10, 11, 12, 13]] [.any [] [9] [⟨0, [6], [9], [9], []⟩, ⟨0, [4], [9], [9], []⟩, ⟨0, [59], [9], [9], []⟩, ⟨0, [60], [9], [9], []⟩, ⟨0, [5], [9], [9], []⟩, ⟨0, [62], [9], [9], []⟩, ⟨0, [63], [9], [9], []⟩, ⟨0, [64], [9], [9], []⟩, ⟨0, [58, 61, 65], [9], [9], []⟩, ⟨0, [66], [9], [9], []⟩, ⟨0, [57], [9], [9], []⟩, ⟨0, [57], [9], [9], []⟩, ⟨1, [], [], [], []⟩, ⟨2, [9, 67], [], [], [9]⟩], .one] (by rfl) ?_
    simp (maxSteps := 2000000) -implicitDefEqProofs [-List.map_set, Ja, -Int.natCast_add, -Int.natCast_mul, -Int.natCast_emod, -Int.natCast_ediv, -Int.natCast_pow, Jb, Jc, Jd, Je, Jf, Jg, Jh, Ji, Jj, Jk, Jl, Jm, Jn, Jo, Jp, Jq, Jr, Js, Jt, Ju, Jv, Jw, Jx, Jy, Jz, -List.reduceReplicate, e1, i64]
    (first | refine .inl ⟨_, point_c b k1 l1 m hm, ?_⟩ | refine ⟨_, point_c b k1 l1 m hm, ?_⟩)
    generalize b.point k1 m = o1 at *
    cases o1 with
    | none =>
      simp only at h0
      simp (maxSteps := 2000000) -implicitDefEqProofs [-List.map_set, Ja, -Int.natCast_add, -Int.natCast_mul, -Int.natCast_emod, -Int.natCast_ediv, -Int.natCast_pow, Jb, Jc, Jd, Je, Jf, Jg, Jh, Ji, Jj, Jk, Jl, Jm, Jn, Jo, Jp, Jq, Jr, Js, Jt, Ju, Jv, Jw, Jx, Jy, Jz, -List.reduceReplicate, bndR, h0]
      exact ⟨1, ⟨by simp, rfl⟩, by omega, by omega⟩
    | some b1 =>
      simp only at h0
      simp (maxSteps := 2000000) -implicitDefEqProofs [-List.map_set, Ja, -Int.natCast_add, -Int.natCast_mul, -Int.natCast_emod, -Int.natCast_ediv, -Int.natCast_pow, Jb, Jc, Jd, Je, Jf, Jg, Jh, Ji, Jj, Jk, Jl, Jm, Jn, Jo, Jp, Jq, Jr, Js, Jt, Ju, Jv, Jw, Jx, Jy, Jz, -List.reduceReplicate, bndR]
      refine wpDraw_by [[], [], [1], [1, 2], [], [4], [], [6], [4, 5, 6, 7], [4, 5, 6, 7, 8], [0, 1, 2, 3, 4, 5, 6, 7, 8, 9], [0, 1, 2, 3, 4, 5, 6, 7, 8, 9, 10], [0, 1, 2, 3, 4, 5, 6, 7, 8, 9, 10, 11], [0, 1, 2, 3, 4, 5, 6, 7, 8, 9, 10, 11], [0, 1, 2, 3, 4, 5, 6, 7, 8, 9, 10, 11, 12], [0, 1, 2, 3, 4, 5, 6, 7, 8, 9, 10, 11, 12, 13, 14]] [.any [] [] [⟨0, [9], [], [], []⟩, ⟨0, [4], [], [], []⟩, ⟨0, [72], [], [], []⟩, ⟨0, [73], [], [], []⟩, ⟨0, [5], [], [], []⟩, ⟨0, [75], [], [], []⟩, ⟨0, [8], [], [], []⟩, ⟨0, [77], [], [], []⟩, ⟨0, [76, 78], [], [], []⟩, ⟨0, [79], [], [], []⟩], .one, .one, .any [] [] [⟨0, [70], [], [], []⟩, ⟨0, [70], [9], [], []⟩, ⟨2, [9, 82], [], [], [9]⟩], .one] (by rfl) ?_
      simp (maxSteps := 2000000) -implicitDefEqProofs [-List.map_set, Ja, -Int.natCast_add, -Int.natCast_mul, -Int.natCast_emod, -Int.natCast_ediv, -Int.natCast_pow, Jb, Jc, Jd, Je, Jf, Jg, Jh, Ji, Jj, Jk, Jl, Jm, Jn, Jo, Jp, Jq, Jr, Js, Jt, Ju, Jv, Jw, Jx, Jy, Jz, -List.reduceReplicate, e2, i64]
      (first | refine .inl ⟨_, point_c b1 k2 l2 u hu, ?_⟩ | refine ⟨_, point_c b1 k2 l2 u hu, ?_⟩)
      generalize b1.point k2 u = o2 at *
      cases o2 with
      | none =>
        simp only at h0
        simp (maxSteps := 2000000) -implicitDefEqProofs [-List.map_set, Ja, -Int.natCast_add, -Int.natCast_mul, -Int.natCast_emod, -Int.natCast_ediv, -Int.natCast_pow, Jb, Jc, Jd, Je, Jf, Jg, Jh, Ji, Jj, Jk, Jl, Jm, Jn, Jo, Jp, Jq, Jr, Js, Jt, Ju, Jv, Jw, Jx, Jy, Jz, -List.reduceReplicate, bndR, h0]
        exact ⟨1, ⟨by simp, rfl⟩, by omega, by omega⟩
      | some b2 =>
        simp only at h0
        simp (maxSteps := 2000000) -implicitDefEqProofs [-List.map_set, Ja, -Int.natCast_add, -Int.natCast_mul, -Int.natCast_emod, -Int.natCast_ediv, -Int.natCast_pow, Jb, Jc, Jd, Je, Jf, Jg, Jh, Ji, Jj, Jk, Jl, Jm, Jn, Jo, Jp, Jq, Jr, Js, Jt, Ju, Jv, Jw, Jx, Jy, Jz, -List.reduceReplicate, bndR]
        refine wpDraw_by [[], [], [1], [1, 2], [], [4], [], [6], [4, 5, 6, 7], [4, 5, 6, 7, 8], [0, 1, 2, 3, 4, 5, 6, 7, 8, 9], [0, 1, 2, 3, 4, 5, 6, 7, 8, 9, 10], [0, 1, 2, 3, 4, 5, 6, 7, 8, 9, 10, 11], [0, 1, 2, 3, 4, 5, 6, 7, 8, 9, 10, 11], [0, 1, 2, 3, 4, 5, 6, 7, 8, 9, 10, 11, 12], [0, 1, 2, 3, 4, 5, 6, 7, 8, 9, 10, 11, 12, 13, 14]] [.any [] [] [⟨0, [9], [], [], []⟩, ⟨0, [4], [], [], []⟩, ⟨0, [87], [], [], []⟩, ⟨0, [88], [], [], []⟩, ⟨0, [5], [], [], []⟩, ⟨0, [90], [], [], []⟩, ⟨0, [8], [], [], []⟩, ⟨0, [92], [], [], []⟩, ⟨0, [91, 93], [], [], []⟩, ⟨0, [94], [], [], []⟩], .one, .one, .any [] [] [⟨0, [85], [], [], []⟩, ⟨0, [85], [9], [], []⟩, ⟨2, [9, 97], [], [], [9]⟩], .one] (by rfl) ?_
        simp (maxSteps := 2000000) -implicitDefEqProofs [-List.map_set, Ja, -Int.natCast_add, -Int.natCast_mul, -Int.natCast_emod, -Int.natCast_ediv, -Int.natCast_pow, Jb, Jc, Jd, Je, Jf, Jg, Jh, Ji, Jj, Jk, Jl, Jm, Jn, Jo, Jp, Jq, Jr, Js, Jt, Ju, Jv, Jw, Jx, Jy, Jz, -List.reduceReplicate, e3, i64]
        (first | refine .inl ⟨_, point_c b2 k3 l3 v hv, ?_⟩ | refine ⟨_, point_c b2 k3 l3 v hv, ?_⟩)
        generalize b2.point k3 v = o3 at *
        cases o3 with
        | none =>
          simp only at h0
          simp (maxSteps := 2000000) -implicitDefEqProofs [-List.map_set, Ja, -Int.natCast_add, -Int.natCast_mul, -Int.natCast_emod, -Int.natCast_ediv, -Int.natCast_pow, Jb, Jc, Jd, Je, Jf, Jg, Jh, Ji, Jj, Jk, Jl, Jm, Jn, Jo, Jp, Jq, Jr, Js, Jt, Ju, Jv, Jw, Jx, Jy, Jz, -List.reduceReplicate, bndR, h0]
          exact ⟨1, ⟨by simp, rfl⟩, by omega, by omega⟩
        | some b3 =>
          simp only at h0
          simp (maxSteps := 2000000) -implicitDefEqProofs [-List.map_set, Ja, -Int.natCast_add, -Int.natCast_mul, -Int.natCast_emod, -Int.natCast_ediv, -Int.natCast_pow, Jb, Jc, Jd, Je, Jf, Jg, Jh, Ji, Jj, Jk, Jl, Jm, Jn, Jo, Jp, Jq, Jr, Js, Jt, Ju, Jv, Jw, Jx, Jy, Jz, -List.reduceReplicate, bndR, h0]
          refine ⟨bndY b3, _, by simp [lk]; rfl, by simp [bndY, St.argsW, U.toA, lk], ?_⟩
          simp only [St.reachU, List.flatMap_cons, List.flatMap_nil, U.all, List.append_nil, List.cons_append, List.nil_append, reach_append, Bnd.reach_cs, reach_cons_d, reach_nil]
          simp (maxSteps := 2000000) -implicitDefEqProofs [-List.map_set, Ja, -Int.natCast_add, -Int.natCast_mul, -Int.natCast_emod, -Int.natCast_ediv, -Int.natCast_pow, Jb, Jc, Jd, Je, Jf, Jg, Jh, Ji, Jj, Jk, Jl, Jm, Jn, Jo, Jp, Jq, Jr, Js, Jt, Ju, Jv, Jw, Jx, Jy, Jz, -List.reduceReplicate, St.backY, St.rest]
          exact ⟨1, ⟨by simp, rfl⟩, by omega, by omega⟩
  | 1, _ =>
    have h0 : mid1 k1 k2 k3 b m v u = match b.point k1 m with | none => [] | some b1 => match b1.point k2 v with | none => [] | some b2 => match b2.point k3 u with | none => [] | some b3 => [b3] := rfl
    simp (maxSteps := 2000000) -implicitDefEqProofs [-List.map_set, Ja, -Int.natCast_add, -Int.natCast_mul, -Int.natCast_emod, -Int.natCast_ediv, -Int.natCast_pow, Jb, Jc, Jd, Je, Jf, Jg, Jh, Ji, Jj, Jk, Jl, Jm, Jn, Jo, Jp, Jq, Jr, Js, Jt, Ju, Jv, Jw, Jx, Jy, Jz, -List.reduceReplicate]
    refine wpDraw_by [[], [], [1], [1, 2], [], [4], [4, 5], [4, 5, 6], [0, 1, 2, 3, 4, 5, 6, 7], [0, 1, 2, 3, 4, 5, 6, 7, 8], [0, 1, 2, 3, 4, 5, 6, 7, 8, 9], [0, 1, 2, 3, 4, 5, 6, 7, 8, 9], [], [0, 1, 2, 3, 4, 5, 6, 7, 8, 9, 10, 12], [0, 1, 2, 3, 4, 5, 6, 7, 8, 9, 10, 11, 12, 13]] [.any [] [9] [⟨0, [6], [9], [9], []⟩, ⟨0, [4], [9], [9], []⟩, ⟨0, [59], [9], [9], []⟩, ⟨0, [60], [9], [9], []⟩, ⟨0, [5], [9], [9], []⟩, ⟨0, [62], [9], [9], []⟩, ⟨0, [63], [9], [9], []⟩, ⟨0, [64], [9], [9], []⟩, ⟨0, [58, 61, 65], [9], [9], []⟩, ⟨0, [66], [9], [9], []⟩, ⟨0, [57], [9], [9], []⟩, ⟨0, [57], [9], [9], []⟩, ⟨1, [], [], [], []⟩, ⟨2, [9, 67], [], [], [9]⟩], .one] (by rfl) ?_
    simp (maxSteps := 2000000) -implicitDefEqProofs [-List.map_set, Ja, -Int.natCast_add, -Int.natCast_mul, -Int.natCast_emod, -Int.natCast_ediv, -Int.natCast_pow, Jb, Jc, Jd, Je, Jf, Jg, Jh, Ji, Jj, Jk, Jl, Jm, Jn, Jo, Jp, Jq, Jr, Js, Jt, Ju, Jv, Jw, Jx, Jy, Jz, -List.reduceReplicate, e1, i64]
    (first | refine .inl ⟨_, point_c b k1 l1 m hm, ?_⟩ | refine ⟨_, point_c b k1 l1 m hm, ?_⟩)
    generalize b.point k1 m = o1 at *
    cases o1 with
    | none =>
      simp only at h0
      simp (maxSteps := 2000000) -implicitDefEqProofs [-List.map_set, Ja, -Int.natCast_add, -Int.natCast_mul, -Int.natCast_emod, -Int.natCast_ediv, -Int.natCast_pow, Jb, Jc, Jd, Je, Jf, Jg, Jh, Ji, Jj, Jk, Jl, Jm, Jn, Jo, Jp, Jq, Jr, Js, Jt, Ju, Jv, Jw, Jx, Jy, Jz, -List.reduceReplicate, bndR, h0]
      exact ⟨2, ⟨by simp, rfl⟩, by omega, by omega⟩
    | some b1 =>
      simp only at h0
      simp (maxSteps := 2000000) -implicitDefEqProofs [-List.map_set, Ja, -Int.natCast_add, -Int.natCast_mul, -Int.natCast_emod, -Int.natCast_ediv, -Int.natCast_pow, Jb, Jc, Jd, Je, Jf, Jg, Jh, Ji, Jj, Jk, Jl, Jm, Jn, Jo, Jp, Jq, Jr, Js, Jt, Ju, Jv, Jw, Jx, Jy, Jz, -List.reduceReplicate, bndR]
      refine wpDraw_by [[], [], [1], [1, 2], [], [4], [], [6], [4, 5, 6, 7], [4, 5, 6, 7, 8], [0, 1, 2, 3, 4, 5, 6, 7, 8, 9], [0, 1, 2, 3, 4, 5, 6, 7, 8, 9, 10], [0, 1, 2, 3, 4, 5, 6, 7, 8, 9, 10, 11], [0, 1, 2, 3, 4, 5, 6, 7, 8, 9, 10, 11], [0, 1, 2, 3, 4, 5, 6, 7, 8, 9, 10, 11, 12], [0, 1, 2, 3, 4, 5, 6, 7, 8, 9, 10, 11, 12, 13, 14]] [.any [] [] [⟨0, [9], [], [], []⟩, ⟨0, [4], [], [], []⟩, ⟨0, [72], [], [], []⟩, ⟨0, [73], [], [], []⟩, ⟨0, [5], [], [], []⟩, ⟨0, [75], [], [], []⟩, ⟨0, [8], [], [], []⟩, ⟨0, [77], [], [], []⟩, ⟨0, [76, 78], [], [], []⟩, ⟨0, [79], [], [], []⟩], .one, .one, .any [] [] [⟨0, [70], [], [], []⟩, ⟨0, [70], [9], [], []⟩, ⟨2, [9, 82], [], [], [9]⟩], .one] (by rfl) ?_
      simp (maxSteps := 2000000) -implicitDefEqProofs [-List.map_set, Ja, -Int.natCast_add, -Int.natCast_mul, -Int.natCast_emod, -Int.natCast_ediv, -Int.natCast_pow, Jb, Jc, Jd, Je, Jf, Jg, Jh, Ji, Jj, Jk, Jl, Jm, Jn, Jo, Jp, Jq, Jr, Js, Jt, Ju, Jv, Jw, Jx, Jy, Jz, -List.reduceReplicate, e2, i64]
      (first | refine .inl ⟨_, point_c b1 k2 l2 v hv, ?_⟩ | refine ⟨_, point_c b1 k2 l2 v hv, ?_⟩)
      generalize b1.point k2 v = o2 at *
      cases o2 with
      | none =>
        simp only at h0
        simp (maxSteps := 2000000) -implicitDefEqProofs [-List.map_set, Ja, -Int.natCast_add, -Int.natCast_mul, -Int.natCast_emod, -Int.natCast_ediv, -Int.natCast_pow, Jb, Jc, Jd, Je, Jf, Jg, Jh, Ji, Jj, Jk, Jl, Jm, Jn, Jo, Jp, Jq, Jr, Js, Jt, Ju, Jv, Jw, Jx, Jy, Jz, -List.reduceReplicate, bndR, h0]
        exact ⟨2, ⟨by simp, rfl⟩, by omega, by omega⟩
      | some b2 =>
        simp only at h0
        simp (maxSteps := 2000000) -implicitDefEqProofs [-List.map_set, Ja, -Int.natCast_add, -Int.natCast_mul, -Int.natCast_emod, -Int.natCast_ediv, -Int.natCast_pow, Jb, Jc, Jd, Je, Jf, Jg, Jh, Ji, Jj, Jk, Jl, Jm, Jn, Jo, Jp, Jq, Jr, Js, Jt, Ju, Jv, Jw, Jx, Jy, Jz, -List.reduceReplicate, bndR]
        refine wpDraw_by [[], [], [1], [1, 2], [], [4], [], [6], [4, 5, 6, 7], [4, 5, 6, 7, 8], [0, 1, 2, 3, 4, 5, 6, 7, 8, 9], [0, 1, 2, 3, 4, 5, 6, 7, 8, 9, 10], [0, 1, 2, 3, 4, 5, 6, 7, 8, 9, 10, 11], [0, 1, 2, 3, 4, 5, 6, 7, 8, 9, 10, 11], [0, 1, 2, 3, 4, 5, 6, 7, 8, 9, 10, 11, 12], [0, 1, 2, 3, 4, 5, 6, 7, 8, 9, 10, 11, 12, 13, 14]] [.any [] [] [⟨0, [9], [], [], []⟩, ⟨0, [4], [], [], []⟩, ⟨0, [87], [], [], []⟩, ⟨0, [88], [], [], []⟩, ⟨0, [5], [], [], []⟩, ⟨0, [90], [], [], []⟩, ⟨0, [8], [], [], []⟩, ⟨0, [92], [], [], []⟩, ⟨0, [91, 93], [], [], []⟩, ⟨0, [94], [], [], []⟩], .one, .one, .any [] [] [⟨0, [85], [], [], []⟩, ⟨0, [85], [9], [], []⟩, ⟨2, [9, 97], [], [], [9]⟩], .one] (by rfl) ?_
        simp (maxSteps := 2000000) -implicitDefEqProofs [-List.map_set, Ja, -Int.natCast_add, -Int.natCast_mul, -Int.natCast_emod, -Int.natCast_ediv, -Int.natCast_pow, Jb, Jc, Jd, Je, Jf, Jg, Jh, Ji, Jj, Jk, Jl, Jm, Jn, Jo, Jp, Jq, Jr, Js, Jt, Ju, Jv, Jw, Jx, Jy, Jz, -List.reduceReplicate, e3, i64]
        (first | refine .inl ⟨_, point_c b2 k3 l3 u hu, ?_⟩ | refine ⟨_, point_c b2 k3 l3 u hu, ?_⟩)
        generalize b2.point k3 u = o3 at *
        cases o3 with
        | none =>
          simp only at h0
          simp (maxSteps := 2000000) -implicitDefEqProofs [-List.map_set, Ja, -Int.natCast_add, -Int.natCast_mul, -Int.natCast_emod, -Int.natCast_ediv, -Int.natCast_pow, Jb, Jc, Jd, Je, Jf, Jg, Jh, Ji, Jj, Jk, Jl, Jm, Jn, Jo, Jp, Jq, Jr, Js, Jt, Ju, Jv, Jw, Jx, Jy, Jz, -List.reduceReplicate, bndR, h0]
          exact ⟨2, ⟨by simp, rfl⟩, by omega, by omega⟩
        | some b3 =>
          simp only at h0
          simp (maxSteps := 2000000) -implicitDefEqProofs [-List.map_set, Ja, -Int.natCast_add, -Int.natCast_mul, -Int.natCast_emod, -Int.natCast_ediv, -Int.natCast_pow, Jb, Jc, Jd, Je, Jf, Jg, Jh, Ji, Jj, Jk, Jl, Jm, Jn, Jo, Jp, Jq, Jr, Js, Jt, Ju, Jv, Jw, Jx, Jy, Jz, -List.reduceReplicate, bndR, h0]
          refine ⟨bndY b3, _, by simp [lk]; rfl, by simp [bndY, St.argsW, U.toA, lk], ?_⟩
          simp only [St.reachU, List.flatMap_cons, List.flatMap_nil, U.all, List.append_nil, List.cons_append, List.nil_append, reach_append, Bnd.reach_cs, reach_cons_d, reach_nil]
          simp (maxSteps := 2000000) -implicitDefEqProofs [-List.map_set, Ja, -Int.natCast_add, -Int.natCast_mul, -Int.natCast_emod, -Int.natCast_ediv, -Int.natCast_pow, Jb, Jc, Jd, Je, Jf, Jg, Jh, Ji, Jj, Jk, Jl, Jm, Jn, Jo, Jp, Jq, Jr, Js, Jt, Ju, Jv, Jw, Jx, Jy, Jz, -List.reduceReplicate, St.backY, St.rest]
          exact ⟨2, ⟨by simp, rfl⟩, by omega, by omega⟩
  | 2, _ =>
    simp (maxSteps := 2000000) -implicitDefEqProofs [-List.map_set, Ja, -Int.natCast_add, -Int.natCast_mul, -Int.natCast_emod, -Int.natCast_ediv, -Int.natCast_pow, Jb, Jc, Jd, Je, Jf, Jg, Jh, Ji, Jj, Jk, Jl, Jm, Jn, Jo, Jp, Jq, Jr, Js, Jt, Ju, Jv, Jw, Jx, Jy, Jz, -List.reduceReplicate, finY]

theorem matchN_c (x : Value) (p : Pat) (f : Fct) (b : Bnd) (hk : p.kind = 5) (hf : f.kind ≠ 5) : Emits Tryz.prog x 107 [.agg p.ds, .agg f.ds, .agg b.ds, .c (.lit x)] [] := by
  refine emits_of (T := tb) tab_ok mixed Tryz.func107 rfl (by decide) (Nat.le_of_ble_eq_true rfl) rfl rfl ?_; intro rest; unfold St.initY
  simp only [Pat.ds, Fct.ds, hk]
  simp (maxSteps := 2000000) -implicitDefEqProofs [-List.map_set, Ja, -Int.natCast_add, -Int.natCast_mul, -Int.natCast_emod, -Int.natCast_ediv, -Int.natCast_pow, Jb, Jc, Jd, Je, Jf, Jg, Jh, Ji, Jj, Jk, Jl, Jm, Jn, Jo, Jp, Jq, Jr, Js, Jt, Ju, Jv, Jw, Jx, Jy, Jz, -List.reduceReplicate, hf, finY]

end Go.Va
