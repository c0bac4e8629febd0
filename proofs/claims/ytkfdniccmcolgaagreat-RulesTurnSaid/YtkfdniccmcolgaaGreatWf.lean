/-
  Contracts: ratios (package rational).
-/
import Derived.Test.YtkfdniccmcolgaaGreatWe
set_option linter.all false

namespace Go.Va
open Go.Proofs
set_option maxHeartbeats 4000000
set_option maxRecDepth 10000
set_option linter.unusedSimpArgs false

theorem limbs_mul_len (a b : List Nat) (ha : Ok a) (hb : Ok b) : (limbs (val a * val b)).length ≤ a.length + b.length := by
  apply limbs_len_lt_pow
  rw [Nat.pow_add]
  exact Nat.mul_lt_mul'' (val_lt_pow a ha) (val_lt_pow b hb)

theorem whole_c (a : List Nat) : CallsF Tryz.prog 137 [.c (natD a)] (.u (.agg [.d (.bool false), .d (natD a)])) := by
  refine callsF_of (T := tb) tab_ok mixed Tryz.func137 rfl (by decide) (Nat.le_of_ble_eq_true rfl) rfl ?_; unfold St.init
  simp (maxSteps := 2000000) -implicitDefEqProofs [-List.map_set, Ja, -Int.natCast_add, -Int.natCast_mul, -Int.natCast_emod, -Int.natCast_ediv, -Int.natCast_pow, Jb, Jc, Jd, Je, Jf, Jg, Jh, Ji, Jj, Jk, Jl, Jm, Jn, Jo, Jp, Jq, Jr, Js, Jt, Ju, Jv, Jw, Jx, Jy, Jz]

theorem parts_c (neg : Bool) (a b : List Nat) (hb : Ok b) (hm : b.length ≤ 1099511627776) (h0 : val b ≠ 0) :
    CallsF Tryz.prog 83 [.agg [.bool neg, natD a, natD b]] (.tup [.agg [.d (.bool neg), .d (natD a)], .c (.d (natD b))]) := by
  refine callsF_of (T := tb) tab_ok mixed Tryz.func83 rfl (by decide) (Nat.le_of_ble_eq_true rfl) rfl ?_; unfold St.init
  simp (maxSteps := 2000000) -implicitDefEqProofs [-List.map_set, Ja, -Int.natCast_add, -Int.natCast_mul, -Int.natCast_emod, -Int.natCast_ediv, -Int.natCast_pow, Jb, Jc, Jd, Je, Jf, Jg, Jh, Ji, Jj, Jk, Jl, Jm, Jn, Jo, Jp, Jq, Jr, Js, Jt, Ju, Jv, Jw, Jx, Jy, Jz]
  (first | refine .inl ⟨_, bits_c b hb hm, ?_⟩ | refine ⟨_, bits_c b hb hm, ?_⟩)
  have hz : bitsN (val b) ≠ 0 := fun h => h0 ((bitsN_zero _).1 h)
  simp (maxSteps := 2000000) -implicitDefEqProofs [-List.map_set, Ja, -Int.natCast_add, -Int.natCast_mul, -Int.natCast_emod, -Int.natCast_ediv, -Int.natCast_pow, Jb, Jc, Jd, Je, Jf, Jg, Jh, Ji, Jj, Jk, Jl, Jm, Jn, Jo, Jp, Jq, Jr, Js, Jt, Ju, Jv, Jw, Jx, Jy, Jz, hz]
  refine wpDraw_by [[], [0], [], [2], [0, 1], [0, 1, 2, 3, 4]] [.any [] [] [⟨0, [1], [], [], []⟩, ⟨0, [10], [], [], []⟩, ⟨0, [1], [2], [], []⟩, ⟨0, [12], [2], [], []⟩, ⟨2, [2, 11], [], [], [2]⟩], .one] (by rfl) ?_
  simp (maxSteps := 2000000) -implicitDefEqProofs [-List.map_set, Ja, -Int.natCast_add, -Int.natCast_mul, -Int.natCast_emod, -Int.natCast_ediv, -Int.natCast_pow, Jb, Jc, Jd, Je, Jf, Jg, Jh, Ji, Jj, Jk, Jl, Jm, Jn, Jo, Jp, Jq, Jr, Js, Jt, Ju, Jv, Jw, Jx, Jy, Jz]

theorem ratSign_c (neg : Bool) (a b : List Nat) (ha : Ok a) (hl : a.length ≤ 1099511627776) (hb : Ok b) (hm : b.length ≤ 1099511627776) (h0 : val b ≠ 0) :
    CallsF Tryz.prog 41 [.agg [.bool neg, natD a, natD b]] (.u (.c (.d (.int .i64 (sgnI neg (val a)))))) := by
  refine callsF_of (T := tb) tab_ok mixed Tryz.func41 rfl (by decide) (Nat.le_of_ble_eq_true rfl) rfl ?_; unfold St.init
  simp (maxSteps := 2000000) -implicitDefEqProofs [-List.map_set, Ja, -Int.natCast_add, -Int.natCast_mul, -Int.natCast_emod, -Int.natCast_ediv, -Int.natCast_pow, Jb, Jc, Jd, Je, Jf, Jg, Jh, Ji, Jj, Jk, Jl, Jm, Jn, Jo, Jp, Jq, Jr, Js, Jt, Ju, Jv, Jw, Jx, Jy, Jz]
  (first | refine .inl ⟨_, parts_c neg a b hb hm h0, ?_⟩ | refine ⟨_, parts_c neg a b hb hm h0, ?_⟩)
  simp (maxSteps := 2000000) -implicitDefEqProofs [-List.map_set, Ja, -Int.natCast_add, -Int.natCast_mul, -Int.natCast_emod, -Int.natCast_ediv, -Int.natCast_pow, Jb, Jc, Jd, Je, Jf, Jg, Jh, Ji, Jj, Jk, Jl, Jm, Jn, Jo, Jp, Jq, Jr, Js, Jt, Ju, Jv, Jw, Jx, Jy, Jz]
  (first | refine .inl ⟨_, intSign_c neg a ha hl, ?_⟩ | refine ⟨_, intSign_c neg a ha hl, ?_⟩)
  simp (maxSteps := 2000000) -implicitDefEqProofs [-List.map_set, Ja, -Int.natCast_add, -Int.natCast_mul, -Int.natCast_emod, -Int.natCast_ediv, -Int.natCast_pow, Jb, Jc, Jd, Je, Jf, Jg, Jh, Ji, Jj, Jk, Jl, Jm, Jn, Jo, Jp, Jq, Jr, Js, Jt, Ju, Jv, Jw, Jx, Jy, Jz]

theorem cmpZ_zero (a b : Int) : cmpZ a b = 0 ↔ a = b := by
  unfold cmpZ
  split
  · simp; omega
  · split
    · simp; omega
    · simp; omega
theorem toZ_mul (neg : Bool) (m d : Nat) : toZ neg (m * d) = toZ neg m * d := by
  unfold toZ
  split
  · rw [Int.neg_mul, Int.natCast_mul]
  · rw [Int.natCast_mul]
theorem sgnI_mul (neg : Bool) (m d : Nat) (h : d ≠ 0) : sgnI neg (m * d) = sgnI neg m := by
  unfold sgnI
  simp [Nat.mul_eq_zero, h]

theorem ratCmp_c (na nb : Bool) (a b c d : List Nat) (ha : Ok a) (la : a.length ≤ 1000000) (hb : Ok b) (lb : b.length ≤ 1000000) (hc : Ok c) (lc : c.length ≤ 1000000) (hd : Ok d) (ld : d.length ≤ 1000000) (b0 : val b ≠ 0) (d0 : val d ≠ 0) :
    CallsF Tryz.prog 74 [.agg [.bool na, natD a, natD b], .agg [.bool nb, natD c, natD d]] (.u (.c (.d (.int .i64 (cmpZ (toZ na (val a) * val d) (toZ nb (val c) * val b)))))) := by
  refine callsF_of (T := tb) tab_ok mixed Tryz.func74 rfl (by decide) (Nat.le_of_ble_eq_true rfl) rfl ?_; unfold St.init
  simp (maxSteps := 2000000) -implicitDefEqProofs [-List.map_set, Ja, -Int.natCast_add, -Int.natCast_mul, -Int.natCast_emod, -Int.natCast_ediv, -Int.natCast_pow, Jb, Jc, Jd, Je, Jf, Jg, Jh, Ji, Jj, Jk, Jl, Jm, Jn, Jo, Jp, Jq, Jr, Js, Jt, Ju, Jv, Jw, Jx, Jy, Jz]
  refine wpDraw_by [[], [0], [], [0, 1, 2], [0, 1, 2, 3], [0, 1, 2, 3, 4]] [.any [] [] [⟨0, [2], [], [], []⟩, ⟨0, [11], [], [], []⟩, ⟨0, [3], [], [], []⟩], .one, .one, .one] (by rfl) ?_
  simp (maxSteps := 2000000) -implicitDefEqProofs [-List.map_set, Ja, -Int.natCast_add, -Int.natCast_mul, -Int.natCast_emod, -Int.natCast_ediv, -Int.natCast_pow, Jb, Jc, Jd, Je, Jf, Jg, Jh, Ji, Jj, Jk, Jl, Jm, Jn, Jo, Jp, Jq, Jr, Js, Jt, Ju, Jv, Jw, Jx, Jy, Jz]
  (first | refine .inl ⟨_, ratSign_c na a b ha (by omega) hb (by omega) b0, ?_⟩ | refine ⟨_, ratSign_c na a b ha (by omega) hb (by omega) b0, ?_⟩)
  simp (maxSteps := 2000000) -implicitDefEqProofs [-List.map_set, Ja, -Int.natCast_add, -Int.natCast_mul, -Int.natCast_emod, -Int.natCast_ediv, -Int.natCast_pow, Jb, Jc, Jd, Je, Jf, Jg, Jh, Ji, Jj, Jk, Jl, Jm, Jn, Jo, Jp, Jq, Jr, Js, Jt, Ju, Jv, Jw, Jx, Jy, Jz]
  (first | refine .inl ⟨_, ratSign_c nb c d hc (by omega) hd (by omega) d0, ?_⟩ | refine ⟨_, ratSign_c nb c d hc (by omega) hd (by omega) d0, ?_⟩)
  have e1 := sgnI_mul na (val a) (val d) d0
  have e2 := sgnI_mul nb (val c) (val b) b0
  rw [← toZ_mul, ← toZ_mul]
  have L1 : sgnI na (val a) < sgnI nb (val c) → cmpZ (toZ na (val a * val d)) (toZ nb (val c * val b)) = -1 := fun h => sign_lt (by rw [e1, e2]; exact h)
  have L2 : sgnI nb (val c) < sgnI na (val a) → cmpZ (toZ na (val a * val d)) (toZ nb (val c * val b)) = 1 := fun h => sign_gt (by rw [e1, e2]; exact h)
  have m1 := intMul_c na false a d ha (by omega) hd (by omega)
  have m2 := intMul_c nb false c b hc (by omega) hb (by omega)
  have b1 := limbs_mul_len a d ha hd
  have b2 := limbs_mul_len c b hc hb
  have k := intCmp_c (sg na (val a * val d)) (sg nb (val c * val b)) (limbs (val a * val d)) (limbs (val c * val b)) (ok_limbs _) (by omega) (ok_limbs _) (by omega)
  rw [val_limbs, val_limbs, sg_toZ, sg_toZ] at k
  have p1 := parts_c na a b hb (by omega) b0
  have p2 := parts_c nb c d hd (by omega) d0
  have w1 := whole_c d
  have w2 := whole_c b
  clear ha la hb lb hc lc hd ld b0 d0 b1 b2 e1 e2
  rcases Int.lt_trichotomy (sgnI na (val a)) (sgnI nb (val c)) with h | h | h
  · rw [L1 h]
    have : sgnI na (val a) ≠ sgnI nb (val c) := by omega
    simp (maxSteps := 2000000) -implicitDefEqProofs [-List.map_set, Ja, -Int.natCast_add, -Int.natCast_mul, -Int.natCast_emod, -Int.natCast_ediv, -Int.natCast_pow, Jb, Jc, Jd, Je, Jf, Jg, Jh, Ji, Jj, Jk, Jl, Jm, Jn, Jo, Jp, Jq, Jr, Js, Jt, Ju, Jv, Jw, Jx, Jy, Jz, this, h]
  · simp (maxSteps := 2000000) -implicitDefEqProofs [-List.map_set, Ja, -Int.natCast_add, -Int.natCast_mul, -Int.natCast_emod, -Int.natCast_ediv, -Int.natCast_pow, Jb, Jc, Jd, Je, Jf, Jg, Jh, Ji, Jj, Jk, Jl, Jm, Jn, Jo, Jp, Jq, Jr, Js, Jt, Ju, Jv, Jw, Jx, Jy, Jz, h]
    (first | refine .inl ⟨_, p1, ?_⟩ | refine ⟨_, p1, ?_⟩)
    simp (maxSteps := 2000000) -implicitDefEqProofs [-List.map_set, Ja, -Int.natCast_add, -Int.natCast_mul, -Int.natCast_emod, -Int.natCast_ediv, -Int.natCast_pow, Jb, Jc, Jd, Je, Jf, Jg, Jh, Ji, Jj, Jk, Jl, Jm, Jn, Jo, Jp, Jq, Jr, Js, Jt, Ju, Jv, Jw, Jx, Jy, Jz]
    (first | refine .inl ⟨_, p2, ?_⟩ | refine ⟨_, p2, ?_⟩)
    simp (maxSteps := 2000000) -implicitDefEqProofs [-List.map_set, Ja, -Int.natCast_add, -Int.natCast_mul, -Int.natCast_emod, -Int.natCast_ediv, -Int.natCast_pow, Jb, Jc, Jd, Je, Jf, Jg, Jh, Ji, Jj, Jk, Jl, Jm, Jn, Jo, Jp, Jq, Jr, Js, Jt, Ju, Jv, Jw, Jx, Jy, Jz]
    refine wpDraw_by [[], [], [1], [0, 1, 2], [], [], [0, 1, 2, 3, 5], [0, 1, 2, 3, 4, 5, 6], [0, 1, 2, 3, 4, 5, 6, 7], [0, 1, 2, 3, 4, 5, 6, 7, 8]] [.any [] [] [⟨0, [7], [], [], []⟩, ⟨0, [10], [], [], []⟩, ⟨0, [32], [], [], []⟩, ⟨0, [31, 33], [], [], []⟩, ⟨0, [9], [], [], []⟩, ⟨0, [8], [], [], []⟩, ⟨0, [36], [], [], []⟩], .one, .one, .one] (by rfl) ?_
    simp (maxSteps := 2000000) -implicitDefEqProofs [-List.map_set, Ja, -Int.natCast_add, -Int.natCast_mul, -Int.natCast_emod, -Int.natCast_ediv, -Int.natCast_pow, Jb, Jc, Jd, Je, Jf, Jg, Jh, Ji, Jj, Jk, Jl, Jm, Jn, Jo, Jp, Jq, Jr, Js, Jt, Ju, Jv, Jw, Jx, Jy, Jz]
    (first | refine .inl ⟨_, w1, ?_⟩ | refine ⟨_, w1, ?_⟩)
    simp (maxSteps := 2000000) -implicitDefEqProofs [-List.map_set, Ja, -Int.natCast_add, -Int.natCast_mul, -Int.natCast_emod, -Int.natCast_ediv, -Int.natCast_pow, Jb, Jc, Jd, Je, Jf, Jg, Jh, Ji, Jj, Jk, Jl, Jm, Jn, Jo, Jp, Jq, Jr, Js, Jt, Ju, Jv, Jw, Jx, Jy, Jz]
    (first | refine .inl ⟨_, m1, ?_⟩ | refine ⟨_, m1, ?_⟩)
    simp (maxSteps := 2000000) -implicitDefEqProofs [-List.map_set, Ja, -Int.natCast_add, -Int.natCast_mul, -Int.natCast_emod, -Int.natCast_ediv, -Int.natCast_pow, Jb, Jc, Jd, Je, Jf, Jg, Jh, Ji, Jj, Jk, Jl, Jm, Jn, Jo, Jp, Jq, Jr, Js, Jt, Ju, Jv, Jw, Jx, Jy, Jz, intRC]
    (first | refine .inl ⟨_, w2, ?_⟩ | refine ⟨_, w2, ?_⟩)
    simp (maxSteps := 2000000) -implicitDefEqProofs [-List.map_set, Ja, -Int.natCast_add, -Int.natCast_mul, -Int.natCast_emod, -Int.natCast_ediv, -Int.natCast_pow, Jb, Jc, Jd, Je, Jf, Jg, Jh, Ji, Jj, Jk, Jl, Jm, Jn, Jo, Jp, Jq, Jr, Js, Jt, Ju, Jv, Jw, Jx, Jy, Jz]
    (first | refine .inl ⟨_, m2, ?_⟩ | refine ⟨_, m2, ?_⟩)
    simp (maxSteps := 2000000) -implicitDefEqProofs [-List.map_set, Ja, -Int.natCast_add, -Int.natCast_mul, -Int.natCast_emod, -Int.natCast_ediv, -Int.natCast_pow, Jb, Jc, Jd, Je, Jf, Jg, Jh, Ji, Jj, Jk, Jl, Jm, Jn, Jo, Jp, Jq, Jr, Js, Jt, Ju, Jv, Jw, Jx, Jy, Jz, intRC]
    (first | refine .inl ⟨_, k, ?_⟩ | refine ⟨_, k, ?_⟩)
    simp (maxSteps := 2000000) -implicitDefEqProofs [-List.map_set, Ja, -Int.natCast_add, -Int.natCast_mul, -Int.natCast_emod, -Int.natCast_ediv, -Int.natCast_pow, Jb, Jc, Jd, Je, Jf, Jg, Jh, Ji, Jj, Jk, Jl, Jm, Jn, Jo, Jp, Jq, Jr, Js, Jt, Ju, Jv, Jw, Jx, Jy, Jz]
  · rw [L2 h]
    have h2 : sgnI na (val a) ≠ sgnI nb (val c) := by omega
    have h3 : ¬ sgnI na (val a) < sgnI nb (val c) := by omega
    simp (maxSteps := 2000000) -implicitDefEqProofs [-List.map_set, Ja, -Int.natCast_add, -Int.natCast_mul, -Int.natCast_emod, -Int.natCast_ediv, -Int.natCast_pow, Jb, Jc, Jd, Je, Jf, Jg, Jh, Ji, Jj, Jk, Jl, Jm, Jn, Jo, Jp, Jq, Jr, Js, Jt, Ju, Jv, Jw, Jx, Jy, Jz, h2, h3]

theorem ratEqual_c (na nb : Bool) (a b c d : List Nat) (ha : Ok a) (la : a.length ≤ 1000000) (hb : Ok b) (lb : b.length ≤ 1000000) (hc : Ok c) (lc : c.length ≤ 1000000) (hd : Ok d) (ld : d.length ≤ 1000000) (b0 : val b ≠ 0) (d0 : val d ≠ 0) :
    CallsF Tryz.prog 172 [.agg [.bool na, natD a, natD b], .agg [.bool nb, natD c, natD d]] (.u (.c (.d (.bool (decide (toZ na (val a) * val d = toZ nb (val c) * val b)))))) := by
  refine callsF_of (T := tb) tab_ok mixed Tryz.func172 rfl (by decide) (Nat.le_of_ble_eq_true rfl) rfl ?_; unfold St.init
  have k := ratCmp_c na nb a b c d ha la hb lb hc lc hd ld b0 d0
  have e := cmpZ_zero (toZ na (val a) * val d) (toZ nb (val c) * val b)
  clear ha la hb lb hc lc hd ld b0 d0
  simp (maxSteps := 2000000) -implicitDefEqProofs [-List.map_set, Ja, -Int.natCast_add, -Int.natCast_mul, -Int.natCast_emod, -Int.natCast_ediv, -Int.natCast_pow, Jb, Jc, Jd, Je, Jf, Jg, Jh, Ji, Jj, Jk, Jl, Jm, Jn, Jo, Jp, Jq, Jr, Js, Jt, Ju, Jv, Jw, Jx, Jy, Jz]
  (first | refine .inl ⟨_, k, ?_⟩ | refine ⟨_, k, ?_⟩)
  simp (maxSteps := 2000000) -implicitDefEqProofs [-List.map_set, Ja, -Int.natCast_add, -Int.natCast_mul, -Int.natCast_emod, -Int.natCast_ediv, -Int.natCast_pow, Jb, Jc, Jd, Je, Jf, Jg, Jh, Ji, Jj, Jk, Jl, Jm, Jn, Jo, Jp, Jq, Jr, Js, Jt, Ju, Jv, Jw, Jx, Jy, Jz, e]

theorem limbs_one : limbs 1 = [1] := rfl
theorem ratOf_c (n : Nat) (hn : n < 9223372036854775808) : CallsF Tryz.prog 111 [.c (.int .i64 n)] (.u (.agg [.d (.bool false), .d (natD (limbs n)), .d (natD (limbs 1))])) := by
  refine callsF_of (T := tb) tab_ok mixed Tryz.func111 rfl (by decide) (Nat.le_of_ble_eq_true rfl) rfl ?_; unfold St.init
  simp (maxSteps := 2000000) -implicitDefEqProofs [-List.map_set, Ja, -Int.natCast_add, -Int.natCast_mul, -Int.natCast_emod, -Int.natCast_ediv, -Int.natCast_pow, Jb, Jc, Jd, Je, Jf, Jg, Jh, Ji, Jj, Jk, Jl, Jm, Jn, Jo, Jp, Jq, Jr, Js, Jt, Ju, Jv, Jw, Jx, Jy, Jz]
  (first | refine .inl ⟨_, intOf_c n hn, ?_⟩ | refine ⟨_, intOf_c n hn, ?_⟩)
  simp (maxSteps := 2000000) -implicitDefEqProofs [-List.map_set, Ja, -Int.natCast_add, -Int.natCast_mul, -Int.natCast_emod, -Int.natCast_ediv, -Int.natCast_pow, Jb, Jc, Jd, Je, Jf, Jg, Jh, Ji, Jj, Jk, Jl, Jm, Jn, Jo, Jp, Jq, Jr, Js, Jt, Ju, Jv, Jw, Jx, Jy, Jz]
  (first | refine .inl ⟨_, unit_c, ?_⟩ | refine ⟨_, unit_c, ?_⟩)
  simp (maxSteps := 2000000) -implicitDefEqProofs [-List.map_set, Ja, -Int.natCast_add, -Int.natCast_mul, -Int.natCast_emod, -Int.natCast_ediv, -Int.natCast_pow, Jb, Jc, Jd, Je, Jf, Jg, Jh, Ji, Jj, Jk, Jl, Jm, Jn, Jo, Jp, Jq, Jr, Js, Jt, Ju, Jv, Jw, Jx, Jy, Jz, intRC, sg, limbs_one]

/-- What a valid ratio is. -/
def ratOk (neg : Bool) (a b : List Nat) : Bool := lastOk a && !(neg && decide (a = [])) && !decide (b = []) && lastOk b && decide (Nat.gcd (val a) (val b) = 1)

theorem val_lt64 {a : List Nat} (ha : Ok a) (hl : a.length ≤ 4) : val a < 18446744073709551616 := by
  have := val_lt_pow a ha
  rw [← pow65536_4]
  exact Nat.lt_of_lt_of_le this (Nat.pow_le_pow_right (by omega) hl)

theorem limbs_is_one {n : Nat} : limbs n = [1] ↔ n = 1 := by
  constructor
  · intro h
    have := val_limbs n
    rw [h] at this
    simpa [val] using this.symm
  · rintro rfl; rfl

theorem ratRight_c (neg : Bool) (a b : List Nat) (ha : Ok a) (hl : a.length ≤ 4) (hb : Ok b) (hm : b.length ≤ 4) :
    CallsF Tryz.prog 159 [.agg [.bool neg, natD a, natD b]] (.u (.c (.d (.bool (ratOk neg a b))))) := by
  refine callsF_of (T := tb) tab_ok mixed Tryz.func159 rfl (by decide) (Nat.le_of_ble_eq_true rfl) rfl ?_; unfold St.init
  have k := intRight_c neg a (by omega)
  have g := natGcd_c a b ha (by omega) hb (by omega) (val_lt64 ha hl) (val_lt64 hb hm)
  unfold ratOk
  cases hr : (lastOk a && !(neg && decide (a = [])))
  · rw [hr] at k
    simp (maxSteps := 2000000) -implicitDefEqProofs [-List.map_set, Ja, -Int.natCast_add, -Int.natCast_mul, -Int.natCast_emod, -Int.natCast_ediv, -Int.natCast_pow, Jb, Jc, Jd, Je, Jf, Jg, Jh, Ji, Jj, Jk, Jl, Jm, Jn, Jo, Jp, Jq, Jr, Js, Jt, Ju, Jv, Jw, Jx, Jy, Jz]
    (first | refine .inl ⟨_, k, ?_⟩ | refine ⟨_, k, ?_⟩)
    simp (maxSteps := 2000000) -implicitDefEqProofs [-List.map_set, Ja, -Int.natCast_add, -Int.natCast_mul, -Int.natCast_emod, -Int.natCast_ediv, -Int.natCast_pow, Jb, Jc, Jd, Je, Jf, Jg, Jh, Ji, Jj, Jk, Jl, Jm, Jn, Jo, Jp, Jq, Jr, Js, Jt, Ju, Jv, Jw, Jx, Jy, Jz]
  · rw [hr] at k
    rcases Nat.eq_zero_or_pos b.length with h0 | h0
    · have : b = [] := List.length_eq_zero_iff.1 h0
      subst this
      simp (maxSteps := 2000000) -implicitDefEqProofs [-List.map_set, Ja, -Int.natCast_add, -Int.natCast_mul, -Int.natCast_emod, -Int.natCast_ediv, -Int.natCast_pow, Jb, Jc, Jd, Je, Jf, Jg, Jh, Ji, Jj, Jk, Jl, Jm, Jn, Jo, Jp, Jq, Jr, Js, Jt, Ju, Jv, Jw, Jx, Jy, Jz]
      (first | refine .inl ⟨_, k, ?_⟩ | refine ⟨_, k, ?_⟩)
      simp (maxSteps := 2000000) -implicitDefEqProofs [-List.map_set, Ja, -Int.natCast_add, -Int.natCast_mul, -Int.natCast_emod, -Int.natCast_ediv, -Int.natCast_pow, Jb, Jc, Jd, Je, Jf, Jg, Jh, Ji, Jj, Jk, Jl, Jm, Jn, Jo, Jp, Jq, Jr, Js, Jt, Ju, Jv, Jw, Jx, Jy, Jz]
    · obtain ⟨n, hn⟩ : ∃ n, b.length = n + 1 := ⟨b.length - 1, by omega⟩
      have hne : b ≠ [] := fun h => by rw [h] at hn; simp at hn
      obtain ⟨x, hx⟩ := get_some (a := b) (n := n) (by omega)
      have hg : b.getLast? = some x := by rw [List.getLast?_eq_getElem?, hn]; simpa using hx
      have e : b[n]'(by omega) = x := by
        have := List.getElem?_eq_getElem (l := b) (i := n) (by omega)
        rw [hx] at this
        exact (Option.some.inj this).symm
      have o1 := one_c b
      have o2 := one_c (limbs (Nat.gcd (val a) (val b)))
      have v1 : b = [1] → val b = 1 := fun h => by rw [h]; rfl
      have hlast : lastOk b = !decide (x = 0) := by unfold lastOk; rw [hg]; simp
      rw [hlast]
      simp (maxSteps := 2000000) -implicitDefEqProofs [-List.map_set, Ja, -Int.natCast_add, -Int.natCast_mul, -Int.natCast_emod, -Int.natCast_ediv, -Int.natCast_pow, Jb, Jc, Jd, Je, Jf, Jg, Jh, Ji, Jj, Jk, Jl, Jm, Jn, Jo, Jp, Jq, Jr, Js, Jt, Ju, Jv, Jw, Jx, Jy, Jz, hn]
      (first | refine .inl ⟨_, k, ?_⟩ | refine ⟨_, k, ?_⟩)
      simp (maxSteps := 2000000) -implicitDefEqProofs [-List.map_set, Ja, -Int.natCast_add, -Int.natCast_mul, -Int.natCast_emod, -Int.natCast_ediv, -Int.natCast_pow, Jb, Jc, Jd, Je, Jf, Jg, Jh, Ji, Jj, Jk, Jl, Jm, Jn, Jo, Jp, Jq, Jr, Js, Jt, Ju, Jv, Jw, Jx, Jy, Jz, hn, hx, u16, e, hne]
      refine ⟨by omega, fun h h' => absurd h h', fun hx0 => ?_⟩
      (first | refine .inl ⟨_, o1, ?_⟩ | refine ⟨_, o1, ?_⟩)
      by_cases hb1 : b = [1]
      · have e1 : Nat.gcd (val a) (val b) = 1 := by rw [v1 hb1, Nat.gcd_one_right]
        simp (maxSteps := 2000000) -implicitDefEqProofs [-List.map_set, Ja, -Int.natCast_add, -Int.natCast_mul, -Int.natCast_emod, -Int.natCast_ediv, -Int.natCast_pow, Jb, Jc, Jd, Je, Jf, Jg, Jh, Ji, Jj, Jk, Jl, Jm, Jn, Jo, Jp, Jq, Jr, Js, Jt, Ju, Jv, Jw, Jx, Jy, Jz, hb1, hx0]
        rw [← hb1, e1]
      · simp (maxSteps := 2000000) -implicitDefEqProofs [-List.map_set, Ja, -Int.natCast_add, -Int.natCast_mul, -Int.natCast_emod, -Int.natCast_ediv, -Int.natCast_pow, Jb, Jc, Jd, Je, Jf, Jg, Jh, Ji, Jj, Jk, Jl, Jm, Jn, Jo, Jp, Jq, Jr, Js, Jt, Ju, Jv, Jw, Jx, Jy, Jz, hb1, hx0]
        (first | refine .inl ⟨_, g, ?_⟩ | refine ⟨_, g, ?_⟩)
        simp (maxSteps := 2000000) -implicitDefEqProofs [-List.map_set, Ja, -Int.natCast_add, -Int.natCast_mul, -Int.natCast_emod, -Int.natCast_ediv, -Int.natCast_pow, Jb, Jc, Jd, Je, Jf, Jg, Jh, Ji, Jj, Jk, Jl, Jm, Jn, Jo, Jp, Jq, Jr, Js, Jt, Ju, Jv, Jw, Jx, Jy, Jz]
        (first | refine .inl ⟨_, o2, ?_⟩ | refine ⟨_, o2, ?_⟩)
        simp (maxSteps := 2000000) -implicitDefEqProofs [-List.map_set, Ja, -Int.natCast_add, -Int.natCast_mul, -Int.natCast_emod, -Int.natCast_ediv, -Int.natCast_pow, Jb, Jc, Jd, Je, Jf, Jg, Jh, Ji, Jj, Jk, Jl, Jm, Jn, Jo, Jp, Jq, Jr, Js, Jt, Ju, Jv, Jw, Jx, Jy, Jz, limbs_is_one]

/-- A quotient in lowest terms as it comes. -/
theorem reduced_c (neg : Bool) (m d : Nat) (hm : m < 18446744073709551616) (hd : d < 18446744073709551616) (h0 : d ≠ 0) (hg : Nat.gcd m d = 1) :
    CallsF Tryz.prog 238 [.agg [.bool neg, natD (limbs m)], .c (natD (limbs d))] (.u (.agg [.d (.bool (sg neg m)), .d (natD (limbs m)), .d (natD (limbs d))])) := by
  refine callsF_of (T := tb) tab_ok mixed Tryz.func238 rfl (by decide) (Nat.le_of_ble_eq_true rfl) rfl ?_; unfold St.init
  have lm := limbs_small hm
  have ld := limbs_small hd
  have n1 := natNorm_c (limbs d) (ok_limbs _) (by omega)
  have n2 := intNorm_c neg (limbs m) (ok_limbs _) (by omega)
  have g := natGcd_c (limbs m) (limbs d) (ok_limbs _) (by omega) (ok_limbs _) (by omega) (by rw [val_limbs]; exact hm) (by rw [val_limbs]; exact hd)
  have o1 := one_c (limbs d)
  have o2 := one_c (limbs 1)
  rw [val_limbs, val_limbs, hg] at g
  rw [val_limbs] at n1 n2
  simp only [limbs_is_one] at o1 o2
  have hne : limbs d ≠ [] := fun h => h0 (limbs_nil.1 h)
  simp (maxSteps := 2000000) -implicitDefEqProofs [-List.map_set, Ja, -Int.natCast_add, -Int.natCast_mul, -Int.natCast_emod, -Int.natCast_ediv, -Int.natCast_pow, Jb, Jc, Jd, Je, Jf, Jg, Jh, Ji, Jj, Jk, Jl, Jm, Jn, Jo, Jp, Jq, Jr, Js, Jt, Ju, Jv, Jw, Jx, Jy, Jz]
  (first | refine .inl ⟨_, n1, ?_⟩ | refine ⟨_, n1, ?_⟩)
  simp (maxSteps := 2000000) -implicitDefEqProofs [-List.map_set, Ja, -Int.natCast_add, -Int.natCast_mul, -Int.natCast_emod, -Int.natCast_ediv, -Int.natCast_pow, Jb, Jc, Jd, Je, Jf, Jg, Jh, Ji, Jj, Jk, Jl, Jm, Jn, Jo, Jp, Jq, Jr, Js, Jt, Ju, Jv, Jw, Jx, Jy, Jz]
  (first | refine .inl ⟨_, n2, ?_⟩ | refine ⟨_, n2, ?_⟩)
  simp (maxSteps := 2000000) -implicitDefEqProofs [-List.map_set, Ja, -Int.natCast_add, -Int.natCast_mul, -Int.natCast_emod, -Int.natCast_ediv, -Int.natCast_pow, Jb, Jc, Jd, Je, Jf, Jg, Jh, Ji, Jj, Jk, Jl, Jm, Jn, Jo, Jp, Jq, Jr, Js, Jt, Ju, Jv, Jw, Jx, Jy, Jz, intRC]
  by_cases hz : m = 0
  · subst hz
    have : d = 1 := by simpa using hg
    subst this
    simp (maxSteps := 2000000) -implicitDefEqProofs [-List.map_set, Ja, -Int.natCast_add, -Int.natCast_mul, -Int.natCast_emod, -Int.natCast_ediv, -Int.natCast_pow, Jb, Jc, Jd, Je, Jf, Jg, Jh, Ji, Jj, Jk, Jl, Jm, Jn, Jo, Jp, Jq, Jr, Js, Jt, Ju, Jv, Jw, Jx, Jy, Jz, limbs_zero, limbs_one]
    (first | refine .inl ⟨_, unit_c, ?_⟩ | refine ⟨_, unit_c, ?_⟩)
    simp (maxSteps := 2000000) -implicitDefEqProofs [-List.map_set, Ja, -Int.natCast_add, -Int.natCast_mul, -Int.natCast_emod, -Int.natCast_ediv, -Int.natCast_pow, Jb, Jc, Jd, Je, Jf, Jg, Jh, Ji, Jj, Jk, Jl, Jm, Jn, Jo, Jp, Jq, Jr, Js, Jt, Ju, Jv, Jw, Jx, Jy, Jz, sg]
    rfl
  · have hne2 : limbs m ≠ [] := fun h => hz (limbs_nil.1 h)
    simp (maxSteps := 2000000) -implicitDefEqProofs [-List.map_set, Ja, -Int.natCast_add, -Int.natCast_mul, -Int.natCast_emod, -Int.natCast_ediv, -Int.natCast_pow, Jb, Jc, Jd, Je, Jf, Jg, Jh, Ji, Jj, Jk, Jl, Jm, Jn, Jo, Jp, Jq, Jr, Js, Jt, Ju, Jv, Jw, Jx, Jy, Jz, hne, hne2]
    (first | refine .inl ⟨_, o1, ?_⟩ | refine ⟨_, o1, ?_⟩)
    by_cases h1 : d = 1
    · subst h1
      simp (maxSteps := 2000000) -implicitDefEqProofs [-List.map_set, Ja, -Int.natCast_add, -Int.natCast_mul, -Int.natCast_emod, -Int.natCast_ediv, -Int.natCast_pow, Jb, Jc, Jd, Je, Jf, Jg, Jh, Ji, Jj, Jk, Jl, Jm, Jn, Jo, Jp, Jq, Jr, Js, Jt, Ju, Jv, Jw, Jx, Jy, Jz]
    · simp (maxSteps := 2000000) -implicitDefEqProofs [-List.map_set, Ja, -Int.natCast_add, -Int.natCast_mul, -Int.natCast_emod, -Int.natCast_ediv, -Int.natCast_pow, Jb, Jc, Jd, Je, Jf, Jg, Jh, Ji, Jj, Jk, Jl, Jm, Jn, Jo, Jp, Jq, Jr, Js, Jt, Ju, Jv, Jw, Jx, Jy, Jz, h1]
      (first | refine .inl ⟨_, g, ?_⟩ | refine ⟨_, g, ?_⟩)
      simp (maxSteps := 2000000) -implicitDefEqProofs [-List.map_set, Ja, -Int.natCast_add, -Int.natCast_mul, -Int.natCast_emod, -Int.natCast_ediv, -Int.natCast_pow, Jb, Jc, Jd, Je, Jf, Jg, Jh, Ji, Jj, Jk, Jl, Jm, Jn, Jo, Jp, Jq, Jr, Js, Jt, Ju, Jv, Jw, Jx, Jy, Jz]
      (first | refine .inl ⟨_, o2, ?_⟩ | refine ⟨_, o2, ?_⟩)
      simp (maxSteps := 2000000) -implicitDefEqProofs [-List.map_set, Ja, -Int.natCast_add, -Int.natCast_mul, -Int.natCast_emod, -Int.natCast_ediv, -Int.natCast_pow, Jb, Jc, Jd, Je, Jf, Jg, Jh, Ji, Jj, Jk, Jl, Jm, Jn, Jo, Jp, Jq, Jr, Js, Jt, Ju, Jv, Jw, Jx, Jy, Jz]

theorem sgnI_zero {neg : Bool} {m : Nat} : sgnI neg m = 0 ↔ m = 0 := by
  unfold sgnI
  split
  · simp [*]
  · cases neg <;> simp [*]

/-- A quotient of coprime integers. -/
theorem make_c (na nb : Bool) (m d : Nat) (hm : m < 18446744073709551616) (hd : d < 18446744073709551616) (hg : Nat.gcd m d = 1) :
    CallsF Tryz.prog 265 [.agg [.bool na, natD (limbs m)], .agg [.bool nb, natD (limbs d)]]
      (if d = 0 then .tup [.agg [.d (.bool false), .d (natD []), .d (natD [])], .c (.d (.int .i64 3))]
       else .tup [.agg [.d (.bool (sg (!decide (na = nb)) m)), .d (natD (limbs m)), .d (natD (limbs d))], .c (.d (.int .i64 0))]) := by
  have ld := limbs_small hd
  have s1 := intSign_c nb (limbs d) (ok_limbs _) (by omega)
  rw [val_limbs] at s1
  by_cases h0 : d = 0
  · rw [if_pos h0]
    refine callsF_of (T := tb) tab_ok mixed Tryz.func265 rfl (by decide) (Nat.le_of_ble_eq_true rfl) rfl ?_; unfold St.init
    simp (maxSteps := 2000000) -implicitDefEqProofs [-List.map_set, Ja, -Int.natCast_add, -Int.natCast_mul, -Int.natCast_emod, -Int.natCast_ediv, -Int.natCast_pow, Jb, Jc, Jd, Je, Jf, Jg, Jh, Ji, Jj, Jk, Jl, Jm, Jn, Jo, Jp, Jq, Jr, Js, Jt, Ju, Jv, Jw, Jx, Jy, Jz]
    (first | refine .inl ⟨_, s1, ?_⟩ | refine ⟨_, s1, ?_⟩)
    simp (maxSteps := 2000000) -implicitDefEqProofs [-List.map_set, Ja, -Int.natCast_add, -Int.natCast_mul, -Int.natCast_emod, -Int.natCast_ediv, -Int.natCast_pow, Jb, Jc, Jd, Je, Jf, Jg, Jh, Ji, Jj, Jk, Jl, Jm, Jn, Jo, Jp, Jq, Jr, Js, Jt, Ju, Jv, Jw, Jx, Jy, Jz, sgnI_zero, h0]
    rfl
  · rw [if_neg h0]
    refine callsF_of (T := tb) tab_ok mixed Tryz.func265 rfl (by decide) (Nat.le_of_ble_eq_true rfl) rfl ?_; unfold St.init
    simp (maxSteps := 2000000) -implicitDefEqProofs [-List.map_set, Ja, -Int.natCast_add, -Int.natCast_mul, -Int.natCast_emod, -Int.natCast_ediv, -Int.natCast_pow, Jb, Jc, Jd, Je, Jf, Jg, Jh, Ji, Jj, Jk, Jl, Jm, Jn, Jo, Jp, Jq, Jr, Js, Jt, Ju, Jv, Jw, Jx, Jy, Jz]
    (first | refine .inl ⟨_, s1, ?_⟩ | refine ⟨_, s1, ?_⟩)
    simp (maxSteps := 2000000) -implicitDefEqProofs [-List.map_set, Ja, -Int.natCast_add, -Int.natCast_mul, -Int.natCast_emod, -Int.natCast_ediv, -Int.natCast_pow, Jb, Jc, Jd, Je, Jf, Jg, Jh, Ji, Jj, Jk, Jl, Jm, Jn, Jo, Jp, Jq, Jr, Js, Jt, Ju, Jv, Jw, Jx, Jy, Jz, sgnI_zero, h0]
    (first | refine .inl ⟨_, reduced_c (!decide (na = nb)) m d hm hd h0 hg, ?_⟩ | refine ⟨_, reduced_c (!decide (na = nb)) m d hm hd h0 hg, ?_⟩)
    simp (maxSteps := 2000000) -implicitDefEqProofs [-List.map_set, Ja, -Int.natCast_add, -Int.natCast_mul, -Int.natCast_emod, -Int.natCast_ediv, -Int.natCast_pow, Jb, Jc, Jd, Je, Jf, Jg, Jh, Ji, Jj, Jk, Jl, Jm, Jn, Jo, Jp, Jq, Jr, Js, Jt, Ju, Jv, Jw, Jx, Jy, Jz]

/-- 1 through a ratio in lowest terms. -/
theorem ratDiv_c (neg : Bool) (m d : Nat) (hm : m < 18446744073709551616) (hd : d < 18446744073709551616) (d0 : d ≠ 0) (hg : Nat.gcd m d = 1) :
    CallsF Tryz.prog 225 [.agg [.bool false, natD (limbs 1), natD (limbs 1)], .agg [.bool neg, natD (limbs m), natD (limbs d)]]
      (if m = 0 then .tup [.agg [.d (.bool false), .d (natD []), .d (natD [])], .c (.d (.int .i64 3))]
       else .tup [.agg [.d (.bool neg), .d (natD (limbs d)), .d (natD (limbs m))], .c (.d (.int .i64 0))]) := by
  have lm := limbs_small hm
  have ld := limbs_small hd
  have l1 : (limbs 1).length = 1 := rfl
  have p1 := parts_c false (limbs 1) (limbs 1) (ok_limbs _) (by omega) (by rw [val_limbs]; omega)
  have p2 := parts_c neg (limbs m) (limbs d) (ok_limbs _) (by omega) (by rw [val_limbs]; exact d0)
  have m1 := intMul_c false false (limbs 1) (limbs d) (ok_limbs _) (by omega) (ok_limbs _) (by omega)
  have m2 := intMul_c neg false (limbs m) (limbs 1) (ok_limbs _) (by omega) (ok_limbs _) (by omega)
  rw [val_limbs, val_limbs, Nat.one_mul] at m1
  rw [val_limbs, val_limbs, Nat.mul_one] at m2
  have k := make_c (sg false d) (sg neg m) d m hd hm (by rw [Nat.gcd_comm]; exact hg)
  have e1 : sg (!decide (sg false d = sg neg m)) d = (neg && decide (0 < m)) := by
    have : 0 < d := by omega
    cases neg <;> by_cases hz : m = 0 <;> simp [sg, this, hz] <;> omega
  rw [e1] at k
  refine callsF_of (T := tb) tab_ok mixed Tryz.func225 rfl (by decide) (Nat.le_of_ble_eq_true rfl) rfl ?_; unfold St.init
  simp (maxSteps := 2000000) -implicitDefEqProofs [-List.map_set, Ja, -Int.natCast_add, -Int.natCast_mul, -Int.natCast_emod, -Int.natCast_ediv, -Int.natCast_pow, Jb, Jc, Jd, Je, Jf, Jg, Jh, Ji, Jj, Jk, Jl, Jm, Jn, Jo, Jp, Jq, Jr, Js, Jt, Ju, Jv, Jw, Jx, Jy, Jz]
  (first | refine .inl ⟨_, p1, ?_⟩ | refine ⟨_, p1, ?_⟩)
  simp (maxSteps := 2000000) -implicitDefEqProofs [-List.map_set, Ja, -Int.natCast_add, -Int.natCast_mul, -Int.natCast_emod, -Int.natCast_ediv, -Int.natCast_pow, Jb, Jc, Jd, Je, Jf, Jg, Jh, Ji, Jj, Jk, Jl, Jm, Jn, Jo, Jp, Jq, Jr, Js, Jt, Ju, Jv, Jw, Jx, Jy, Jz]
  (first | refine .inl ⟨_, p2, ?_⟩ | refine ⟨_, p2, ?_⟩)
  simp (maxSteps := 2000000) -implicitDefEqProofs [-List.map_set, Ja, -Int.natCast_add, -Int.natCast_mul, -Int.natCast_emod, -Int.natCast_ediv, -Int.natCast_pow, Jb, Jc, Jd, Je, Jf, Jg, Jh, Ji, Jj, Jk, Jl, Jm, Jn, Jo, Jp, Jq, Jr, Js, Jt, Ju, Jv, Jw, Jx, Jy, Jz]
  refine wpDraw_by [[], [], [1], [0, 1, 2], [], [], [0, 1, 2, 3, 5], [0, 1, 2, 3, 4, 5, 6], [0, 1, 2, 3, 4, 5, 6, 7], [0, 1, 2, 3, 4, 5, 6, 7, 8], [0, 1, 2, 3, 4, 5, 6, 7, 8], [0, 1, 2, 3, 4, 5, 6, 7, 8, 9, 10], [0, 1, 2, 3, 4, 5, 6, 7, 8, 9, 10, 11]] [.any [] [] [⟨0, [6], [], [], []⟩, ⟨0, [9], [], [], []⟩, ⟨0, [21], [], [], []⟩, ⟨0, [20, 22], [], [], []⟩, ⟨0, [8], [], [], []⟩, ⟨0, [7], [], [], []⟩, ⟨0, [25], [], [], []⟩], .one, .one, .any [] [] [⟨0, [28], [], [], []⟩, ⟨0, [28], [], [], []⟩], .one, .one] (by rfl) ?_
  simp (maxSteps := 2000000) -implicitDefEqProofs [-List.map_set, Ja, -Int.natCast_add, -Int.natCast_mul, -Int.natCast_emod, -Int.natCast_ediv, -Int.natCast_pow, Jb, Jc, Jd, Je, Jf, Jg, Jh, Ji, Jj, Jk, Jl, Jm, Jn, Jo, Jp, Jq, Jr, Js, Jt, Ju, Jv, Jw, Jx, Jy, Jz]
  (first | refine .inl ⟨_, whole_c (limbs d), ?_⟩ | refine ⟨_, whole_c (limbs d), ?_⟩)
  simp (maxSteps := 2000000) -implicitDefEqProofs [-List.map_set, Ja, -Int.natCast_add, -Int.natCast_mul, -Int.natCast_emod, -Int.natCast_ediv, -Int.natCast_pow, Jb, Jc, Jd, Je, Jf, Jg, Jh, Ji, Jj, Jk, Jl, Jm, Jn, Jo, Jp, Jq, Jr, Js, Jt, Ju, Jv, Jw, Jx, Jy, Jz]
  (first | refine .inl ⟨_, m1, ?_⟩ | refine ⟨_, m1, ?_⟩)
  simp (maxSteps := 2000000) -implicitDefEqProofs [-List.map_set, Ja, -Int.natCast_add, -Int.natCast_mul, -Int.natCast_emod, -Int.natCast_ediv, -Int.natCast_pow, Jb, Jc, Jd, Je, Jf, Jg, Jh, Ji, Jj, Jk, Jl, Jm, Jn, Jo, Jp, Jq, Jr, Js, Jt, Ju, Jv, Jw, Jx, Jy, Jz, intRC]
  (first | refine .inl ⟨_, whole_c (limbs 1), ?_⟩ | refine ⟨_, whole_c (limbs 1), ?_⟩)
  simp (maxSteps := 2000000) -implicitDefEqProofs [-List.map_set, Ja, -Int.natCast_add, -Int.natCast_mul, -Int.natCast_emod, -Int.natCast_ediv, -Int.natCast_pow, Jb, Jc, Jd, Je, Jf, Jg, Jh, Ji, Jj, Jk, Jl, Jm, Jn, Jo, Jp, Jq, Jr, Js, Jt, Ju, Jv, Jw, Jx, Jy, Jz]
  (first | refine .inl ⟨_, m2, ?_⟩ | refine ⟨_, m2, ?_⟩)
  simp (maxSteps := 2000000) -implicitDefEqProofs [-List.map_set, Ja, -Int.natCast_add, -Int.natCast_mul, -Int.natCast_emod, -Int.natCast_ediv, -Int.natCast_pow, Jb, Jc, Jd, Je, Jf, Jg, Jh, Ji, Jj, Jk, Jl, Jm, Jn, Jo, Jp, Jq, Jr, Js, Jt, Ju, Jv, Jw, Jx, Jy, Jz, intRC]
  (first | refine .inl ⟨_, k, ?_⟩ | refine ⟨_, k, ?_⟩)
  by_cases h0 : m = 0
  · simp (maxSteps := 2000000) -implicitDefEqProofs [-List.map_set, Ja, -Int.natCast_add, -Int.natCast_mul, -Int.natCast_emod, -Int.natCast_ediv, -Int.natCast_pow, Jb, Jc, Jd, Je, Jf, Jg, Jh, Ji, Jj, Jk, Jl, Jm, Jn, Jo, Jp, Jq, Jr, Js, Jt, Ju, Jv, Jw, Jx, Jy, Jz, h0]
  · have : 0 < m := by omega
    simp (maxSteps := 2000000) -implicitDefEqProofs [-List.map_set, Ja, -Int.natCast_add, -Int.natCast_mul, -Int.natCast_emod, -Int.natCast_ediv, -Int.natCast_pow, Jb, Jc, Jd, Je, Jf, Jg, Jh, Ji, Jj, Jk, Jl, Jm, Jn, Jo, Jp, Jq, Jr, Js, Jt, Ju, Jv, Jw, Jx, Jy, Jz, h0, this]

end Go.Va

/-
  Contracts: ratios of the document (geoproverref03).
-/
namespace Go.Va
open Go.Proofs
set_option maxHeartbeats 4000000
set_option maxRecDepth 10000
set_option linter.unusedSimpArgs false
set_option linter.unusedVariables false

theorem refWhole_c (a : List Nat) : CallsF Tryz.prog 92 [.c (natD a)] (.u (.agg [.d (.bool false), .d (natD a)])) := by
  refine callsF_of (T := tb) tab_ok mixed Tryz.func92 rfl (by decide) (Nat.le_of_ble_eq_true rfl) rfl ?_; unfold St.init
  simp (maxSteps := 2000000) -implicitDefEqProofs [-List.map_set, Ja, -Int.natCast_add, -Int.natCast_mul, -Int.natCast_emod, -Int.natCast_ediv, -Int.natCast_pow, Jb, Jc, Jd, Je, Jf, Jg, Jh, Ji, Jj, Jk, Jl, Jm, Jn, Jo, Jp, Jq, Jr, Js, Jt, Ju, Jv, Jw, Jx, Jy, Jz]

theorem over_c (neg : Bool) (m d : Nat) (hm : m < 18446744073709551616) (hd : d < 18446744073709551616) (h0 : d ≠ 0) (hg : Nat.gcd m d = 1) :
    CallsF Tryz.prog 45 [.agg [.bool neg, natD (limbs m)], .c (natD (limbs d))] (.u (.agg [.d (.bool (sg neg m)), .d (natD (limbs m)), .d (natD (limbs d))])) := by
  refine callsF_of (T := tb) tab_ok mixed Tryz.func45 rfl (by decide) (Nat.le_of_ble_eq_true rfl) rfl ?_; unfold St.init
  have lm := limbs_small hm
  have ld := limbs_small hd
  have n1 := refNorm_c (limbs d) (ok_limbs _) (by omega)
  have g := refGcd_c (limbs m) (limbs d) (ok_limbs _) (by omega) (ok_limbs _) (by omega) (by rw [val_limbs]; exact hm) (by rw [val_limbs]; exact hd)
  have q1 := refDivMod_c (limbs m) (limbs 1) (ok_limbs _) (by omega) (ok_limbs _) (by decide) (by rw [val_limbs]; exact hm) (by rw [val_limbs]; omega) (by rw [val_limbs]; omega)
  have q2 := refDivMod_c (limbs d) (limbs 1) (ok_limbs _) (by omega) (ok_limbs _) (by decide) (by rw [val_limbs]; exact hd) (by rw [val_limbs]; omega) (by rw [val_limbs]; omega)
  have n2 := refIntNorm_c neg (limbs m) (ok_limbs _) (by omega)
  rw [val_limbs, val_limbs, hg] at g
  rw [val_limbs] at n1 n2
  rw [val_limbs, val_limbs, Nat.div_one, Nat.mod_one] at q1 q2
  have hne : limbs d ≠ [] := fun h => h0 (limbs_nil.1 h)
  simp (maxSteps := 2000000) -implicitDefEqProofs [-List.map_set, Ja, -Int.natCast_add, -Int.natCast_mul, -Int.natCast_emod, -Int.natCast_ediv, -Int.natCast_pow, Jb, Jc, Jd, Je, Jf, Jg, Jh, Ji, Jj, Jk, Jl, Jm, Jn, Jo, Jp, Jq, Jr, Js, Jt, Ju, Jv, Jw, Jx, Jy, Jz]
  (first | refine .inl ⟨_, n1, ?_⟩ | refine ⟨_, n1, ?_⟩)
  simp (maxSteps := 2000000) -implicitDefEqProofs [-List.map_set, Ja, -Int.natCast_add, -Int.natCast_mul, -Int.natCast_emod, -Int.natCast_ediv, -Int.natCast_pow, Jb, Jc, Jd, Je, Jf, Jg, Jh, Ji, Jj, Jk, Jl, Jm, Jn, Jo, Jp, Jq, Jr, Js, Jt, Ju, Jv, Jw, Jx, Jy, Jz, hne]
  (first | refine .inl ⟨_, g, ?_⟩ | refine ⟨_, g, ?_⟩)
  simp (maxSteps := 2000000) -implicitDefEqProofs [-List.map_set, Ja, -Int.natCast_add, -Int.natCast_mul, -Int.natCast_emod, -Int.natCast_ediv, -Int.natCast_pow, Jb, Jc, Jd, Je, Jf, Jg, Jh, Ji, Jj, Jk, Jl, Jm, Jn, Jo, Jp, Jq, Jr, Js, Jt, Ju, Jv, Jw, Jx, Jy, Jz]
  (first | refine .inl ⟨_, q1, ?_⟩ | refine ⟨_, q1, ?_⟩)
  simp (maxSteps := 2000000) -implicitDefEqProofs [-List.map_set, Ja, -Int.natCast_add, -Int.natCast_mul, -Int.natCast_emod, -Int.natCast_ediv, -Int.natCast_pow, Jb, Jc, Jd, Je, Jf, Jg, Jh, Ji, Jj, Jk, Jl, Jm, Jn, Jo, Jp, Jq, Jr, Js, Jt, Ju, Jv, Jw, Jx, Jy, Jz]
  (first | refine .inl ⟨_, q2, ?_⟩ | refine ⟨_, q2, ?_⟩)
  simp (maxSteps := 2000000) -implicitDefEqProofs [-List.map_set, Ja, -Int.natCast_add, -Int.natCast_mul, -Int.natCast_emod, -Int.natCast_ediv, -Int.natCast_pow, Jb, Jc, Jd, Je, Jf, Jg, Jh, Ji, Jj, Jk, Jl, Jm, Jn, Jo, Jp, Jq, Jr, Js, Jt, Ju, Jv, Jw, Jx, Jy, Jz]
  (first | refine .inl ⟨_, n2, ?_⟩ | refine ⟨_, n2, ?_⟩)
  simp (maxSteps := 2000000) -implicitDefEqProofs [-List.map_set, Ja, -Int.natCast_add, -Int.natCast_mul, -Int.natCast_emod, -Int.natCast_ediv, -Int.natCast_pow, Jb, Jc, Jd, Je, Jf, Jg, Jh, Ji, Jj, Jk, Jl, Jm, Jn, Jo, Jp, Jq, Jr, Js, Jt, Ju, Jv, Jw, Jx, Jy, Jz, intRC]

theorem ratNorm_c (neg : Bool) (m d : Nat) (hm : m < 18446744073709551616) (hd : d < 18446744073709551616) (h0 : d ≠ 0) (hg : Nat.gcd m d = 1) :
    CallsF Tryz.prog 89 [.agg [.bool neg, natD (limbs m), natD (limbs d)]] (.u (.agg [.d (.bool (sg neg m)), .d (natD (limbs m)), .d (natD (limbs d))])) := by
  refine callsF_of (T := tb) tab_ok mixed Tryz.func89 rfl (by decide) (Nat.le_of_ble_eq_true rfl) rfl ?_; unfold St.init
  simp (maxSteps := 2000000) -implicitDefEqProofs [-List.map_set, Ja, -Int.natCast_add, -Int.natCast_mul, -Int.natCast_emod, -Int.natCast_ediv, -Int.natCast_pow, Jb, Jc, Jd, Je, Jf, Jg, Jh, Ji, Jj, Jk, Jl, Jm, Jn, Jo, Jp, Jq, Jr, Js, Jt, Ju, Jv, Jw, Jx, Jy, Jz]
  (first | refine .inl ⟨_, over_c neg m d hm hd h0 hg, ?_⟩ | refine ⟨_, over_c neg m d hm hd h0 hg, ?_⟩)
  simp (maxSteps := 2000000) -implicitDefEqProofs [-List.map_set, Ja, -Int.natCast_add, -Int.natCast_mul, -Int.natCast_emod, -Int.natCast_ediv, -Int.natCast_pow, Jb, Jc, Jd, Je, Jf, Jg, Jh, Ji, Jj, Jk, Jl, Jm, Jn, Jo, Jp, Jq, Jr, Js, Jt, Ju, Jv, Jw, Jx, Jy, Jz]

theorem refRatCmp_c (na nb : Bool) (m d n e : Nat) (hm : m < 18446744073709551616) (hd : d < 18446744073709551616) (h0 : d ≠ 0) (hg : Nat.gcd m d = 1) (hn : n < 18446744073709551616) (he : e < 18446744073709551616) (e0 : e ≠ 0) (hh : Nat.gcd n e = 1) :
    CallsF Tryz.prog 44 [.agg [.bool na, natD (limbs m), natD (limbs d)], .agg [.bool nb, natD (limbs n), natD (limbs e)]] (.u (.c (.d (.int .i64 (cmpZ (toZ na m * e) (toZ nb n * d)))))) := by
  refine callsF_of (T := tb) tab_ok mixed Tryz.func44 rfl (by decide) (Nat.le_of_ble_eq_true rfl) rfl ?_; unfold St.init
  have lm := limbs_small hm
  have ld := limbs_small hd
  have ln := limbs_small hn
  have le := limbs_small he
  have b1 := limbs_mul_len (limbs m) (limbs e) (ok_limbs _) (ok_limbs _)
  have b2 := limbs_mul_len (limbs n) (limbs d) (ok_limbs _) (ok_limbs _)
  have m1 := refIntMul_c (sg na m) false (limbs m) (limbs e) (ok_limbs _) (by omega) (ok_limbs _) (by omega) (by omega)
  have m2 := refIntMul_c (sg nb n) false (limbs n) (limbs d) (ok_limbs _) (by omega) (ok_limbs _) (by omega) (by omega)
  rw [val_limbs, val_limbs] at m1 m2 b1 b2
  have k := refIntCmp_c (sg (sg na m) (m * e)) (sg (sg nb n) (n * d)) (limbs (m * e)) (limbs (n * d)) (ok_limbs _) (by omega) (ok_limbs _) (by omega)
  rw [val_limbs, val_limbs, sg_toZ, sg_toZ, toZ_mul, toZ_mul, sg_toZ, sg_toZ] at k
  simp (maxSteps := 2000000) -implicitDefEqProofs [-List.map_set, Ja, -Int.natCast_add, -Int.natCast_mul, -Int.natCast_emod, -Int.natCast_ediv, -Int.natCast_pow, Jb, Jc, Jd, Je, Jf, Jg, Jh, Ji, Jj, Jk, Jl, Jm, Jn, Jo, Jp, Jq, Jr, Js, Jt, Ju, Jv, Jw, Jx, Jy, Jz]
  refine wpDraw_by [[], [0], [], [0, 1, 2], [0, 1, 2, 3], [0, 1, 2, 3, 4]] [.any [] [] [⟨0, [2], [], [], []⟩, ⟨0, [5], [], [], []⟩, ⟨0, [3], [], [], []⟩], .one, .one, .one] (by rfl) ?_
  simp (maxSteps := 2000000) -implicitDefEqProofs [-List.map_set, Ja, -Int.natCast_add, -Int.natCast_mul, -Int.natCast_emod, -Int.natCast_ediv, -Int.natCast_pow, Jb, Jc, Jd, Je, Jf, Jg, Jh, Ji, Jj, Jk, Jl, Jm, Jn, Jo, Jp, Jq, Jr, Js, Jt, Ju, Jv, Jw, Jx, Jy, Jz]
  (first | refine .inl ⟨_, ratNorm_c na m d hm hd h0 hg, ?_⟩ | refine ⟨_, ratNorm_c na m d hm hd h0 hg, ?_⟩)
  simp (maxSteps := 2000000) -implicitDefEqProofs [-List.map_set, Ja, -Int.natCast_add, -Int.natCast_mul, -Int.natCast_emod, -Int.natCast_ediv, -Int.natCast_pow, Jb, Jc, Jd, Je, Jf, Jg, Jh, Ji, Jj, Jk, Jl, Jm, Jn, Jo, Jp, Jq, Jr, Js, Jt, Ju, Jv, Jw, Jx, Jy, Jz]
  (first | refine .inl ⟨_, ratNorm_c nb n e hn he e0 hh, ?_⟩ | refine ⟨_, ratNorm_c nb n e hn he e0 hh, ?_⟩)
  simp (maxSteps := 2000000) -implicitDefEqProofs [-List.map_set, Ja, -Int.natCast_add, -Int.natCast_mul, -Int.natCast_emod, -Int.natCast_ediv, -Int.natCast_pow, Jb, Jc, Jd, Je, Jf, Jg, Jh, Ji, Jj, Jk, Jl, Jm, Jn, Jo, Jp, Jq, Jr, Js, Jt, Ju, Jv, Jw, Jx, Jy, Jz]
  refine wpDraw_by [[], [0], [], [2], [2, 3], [0, 1, 2, 3, 4], [], [6], [], [8], [0, 1, 2, 3, 4, 5, 8, 9], [0, 1, 2, 3, 4, 5, 6, 7, 8, 9, 10], [0, 1, 2, 3, 4, 5, 6, 7, 8, 9, 10, 11], [0, 1, 2, 3, 4, 5, 6, 7, 8, 9, 10, 11, 12]] [.any [] [] [⟨0, [2], [], [], []⟩, ⟨0, [9], [], [], []⟩, ⟨0, [3], [], [], []⟩, ⟨0, [11], [], [], []⟩, ⟨0, [12], [], [], []⟩, ⟨0, [10, 13], [], [], []⟩, ⟨0, [3], [], [], []⟩, ⟨0, [15], [], [], []⟩, ⟨0, [2], [], [], []⟩, ⟨0, [17], [], [], []⟩, ⟨0, [18], [], [], []⟩], .one, .one, .one] (by rfl) ?_
  simp (maxSteps := 2000000) -implicitDefEqProofs [-List.map_set, Ja, -Int.natCast_add, -Int.natCast_mul, -Int.natCast_emod, -Int.natCast_ediv, -Int.natCast_pow, Jb, Jc, Jd, Je, Jf, Jg, Jh, Ji, Jj, Jk, Jl, Jm, Jn, Jo, Jp, Jq, Jr, Js, Jt, Ju, Jv, Jw, Jx, Jy, Jz]
  (first | refine .inl ⟨_, refWhole_c (limbs e), ?_⟩ | refine ⟨_, refWhole_c (limbs e), ?_⟩)
  simp (maxSteps := 2000000) -implicitDefEqProofs [-List.map_set, Ja, -Int.natCast_add, -Int.natCast_mul, -Int.natCast_emod, -Int.natCast_ediv, -Int.natCast_pow, Jb, Jc, Jd, Je, Jf, Jg, Jh, Ji, Jj, Jk, Jl, Jm, Jn, Jo, Jp, Jq, Jr, Js, Jt, Ju, Jv, Jw, Jx, Jy, Jz]
  (first | refine .inl ⟨_, m1, ?_⟩ | refine ⟨_, m1, ?_⟩)
  simp (maxSteps := 2000000) -implicitDefEqProofs [-List.map_set, Ja, -Int.natCast_add, -Int.natCast_mul, -Int.natCast_emod, -Int.natCast_ediv, -Int.natCast_pow, Jb, Jc, Jd, Je, Jf, Jg, Jh, Ji, Jj, Jk, Jl, Jm, Jn, Jo, Jp, Jq, Jr, Js, Jt, Ju, Jv, Jw, Jx, Jy, Jz, intRC]
  (first | refine .inl ⟨_, refWhole_c (limbs d), ?_⟩ | refine ⟨_, refWhole_c (limbs d), ?_⟩)
  simp (maxSteps := 2000000) -implicitDefEqProofs [-List.map_set, Ja, -Int.natCast_add, -Int.natCast_mul, -Int.natCast_emod, -Int.natCast_ediv, -Int.natCast_pow, Jb, Jc, Jd, Je, Jf, Jg, Jh, Ji, Jj, Jk, Jl, Jm, Jn, Jo, Jp, Jq, Jr, Js, Jt, Ju, Jv, Jw, Jx, Jy, Jz]
  (first | refine .inl ⟨_, m2, ?_⟩ | refine ⟨_, m2, ?_⟩)
  simp (maxSteps := 2000000) -implicitDefEqProofs [-List.map_set, Ja, -Int.natCast_add, -Int.natCast_mul, -Int.natCast_emod, -Int.natCast_ediv, -Int.natCast_pow, Jb, Jc, Jd, Je, Jf, Jg, Jh, Ji, Jj, Jk, Jl, Jm, Jn, Jo, Jp, Jq, Jr, Js, Jt, Ju, Jv, Jw, Jx, Jy, Jz, intRC]
  (first | refine .inl ⟨_, k, ?_⟩ | refine ⟨_, k, ?_⟩)
  simp (maxSteps := 2000000) -implicitDefEqProofs [-List.map_set, Ja, -Int.natCast_add, -Int.natCast_mul, -Int.natCast_emod, -Int.natCast_ediv, -Int.natCast_pow, Jb, Jc, Jd, Je, Jf, Jg, Jh, Ji, Jj, Jk, Jl, Jm, Jn, Jo, Jp, Jq, Jr, Js, Jt, Ju, Jv, Jw, Jx, Jy, Jz]

theorem refRatEqual_c (na nb : Bool) (m d n e : Nat) (hm : m < 18446744073709551616) (hd : d < 18446744073709551616) (h0 : d ≠ 0) (hg : Nat.gcd m d = 1) (hn : n < 18446744073709551616) (he : e < 18446744073709551616) (e0 : e ≠ 0) (hh : Nat.gcd n e = 1) :
    CallsF Tryz.prog 27 [.agg [.bool na, natD (limbs m), natD (limbs d)], .agg [.bool nb, natD (limbs n), natD (limbs e)]] (.u (.c (.d (.bool (decide (toZ na m * e = toZ nb n * d)))))) := by
  refine callsF_of (T := tb) tab_ok mixed Tryz.func27 rfl (by decide) (Nat.le_of_ble_eq_true rfl) rfl ?_; unfold St.init
  have k := refRatCmp_c na nb m d n e hm hd h0 hg hn he e0 hh
  have e := cmpZ_zero (toZ na m * e) (toZ nb n * d)
  simp (maxSteps := 2000000) -implicitDefEqProofs [-List.map_set, Ja, -Int.natCast_add, -Int.natCast_mul, -Int.natCast_emod, -Int.natCast_ediv, -Int.natCast_pow, Jb, Jc, Jd, Je, Jf, Jg, Jh, Ji, Jj, Jk, Jl, Jm, Jn, Jo, Jp, Jq, Jr, Js, Jt, Ju, Jv, Jw, Jx, Jy, Jz]
  (first | refine .inl ⟨_, k, ?_⟩ | refine ⟨_, k, ?_⟩)
  simp (maxSteps := 2000000) -implicitDefEqProofs [-List.map_set, Ja, -Int.natCast_add, -Int.natCast_mul, -Int.natCast_emod, -Int.natCast_ediv, -Int.natCast_pow, Jb, Jc, Jd, Je, Jf, Jg, Jh, Ji, Jj, Jk, Jl, Jm, Jn, Jo, Jp, Jq, Jr, Js, Jt, Ju, Jv, Jw, Jx, Jy, Jz, e]

theorem refRatOf_c (n : Nat) (hn : n < 9223372036854775808) : CallsF Tryz.prog 28 [.c (.int .i64 n)] (.u (.agg [.d (.bool false), .d (natD (limbs n)), .d (natD (limbs 1))])) := by
  refine callsF_of (T := tb) tab_ok mixed Tryz.func28 rfl (by decide) (Nat.le_of_ble_eq_true rfl) rfl ?_; unfold St.init
  simp (maxSteps := 2000000) -implicitDefEqProofs [-List.map_set, Ja, -Int.natCast_add, -Int.natCast_mul, -Int.natCast_emod, -Int.natCast_ediv, -Int.natCast_pow, Jb, Jc, Jd, Je, Jf, Jg, Jh, Ji, Jj, Jk, Jl, Jm, Jn, Jo, Jp, Jq, Jr, Js, Jt, Ju, Jv, Jw, Jx, Jy, Jz]
  (first | refine .inl ⟨_, refIntOf_c n hn, ?_⟩ | refine ⟨_, refIntOf_c n hn, ?_⟩)
  simp (maxSteps := 2000000) -implicitDefEqProofs [-List.map_set, Ja, -Int.natCast_add, -Int.natCast_mul, -Int.natCast_emod, -Int.natCast_ediv, -Int.natCast_pow, Jb, Jc, Jd, Je, Jf, Jg, Jh, Ji, Jj, Jk, Jl, Jm, Jn, Jo, Jp, Jq, Jr, Js, Jt, Ju, Jv, Jw, Jx, Jy, Jz, intRC]
  (first | refine .inl ⟨_, refOf_c 1 (by omega), ?_⟩ | refine ⟨_, refOf_c 1 (by omega), ?_⟩)
  simp (maxSteps := 2000000) -implicitDefEqProofs [-List.map_set, Ja, -Int.natCast_add, -Int.natCast_mul, -Int.natCast_emod, -Int.natCast_ediv, -Int.natCast_pow, Jb, Jc, Jd, Je, Jf, Jg, Jh, Ji, Jj, Jk, Jl, Jm, Jn, Jo, Jp, Jq, Jr, Js, Jt, Ju, Jv, Jw, Jx, Jy, Jz]
  have k := over_c (sg false n) n 1 (by omega) (by omega) (by omega) (Nat.gcd_one_right n)
  (first | refine .inl ⟨_, k, ?_⟩ | refine ⟨_, k, ?_⟩)
  simp (maxSteps := 2000000) -implicitDefEqProofs [-List.map_set, Ja, -Int.natCast_add, -Int.natCast_mul, -Int.natCast_emod, -Int.natCast_ediv, -Int.natCast_pow, Jb, Jc, Jd, Je, Jf, Jg, Jh, Ji, Jj, Jk, Jl, Jm, Jn, Jo, Jp, Jq, Jr, Js, Jt, Ju, Jv, Jw, Jx, Jy, Jz, sg]

end Go.Va

/-
  Contracts: functions of the packages cmp and slices at ints.
-/
namespace Go.Va
open Go.Proofs
set_option maxHeartbeats 4000000
set_option maxRecDepth 10000
set_option linter.unusedSimpArgs false
set_option linter.unusedVariables false

theorem isNaN_c (a : Int) : CallsF Tryz.prog 134 [.c (.int .i64 a)] (.u (.c (.d (.bool false)))) := by
  refine callsF_of (T := tb) tab_ok mixed Tryz.func134 rfl (by decide) (Nat.le_of_ble_eq_true rfl) rfl ?_; unfold St.init
  simp (maxSteps := 2000000) -implicitDefEqProofs [-List.map_set, Ja, -Int.natCast_add, -Int.natCast_mul, -Int.natCast_emod, -Int.natCast_ediv, -Int.natCast_pow, Jb, Jc, Jd, Je, Jf, Jg, Jh, Ji, Jj, Jk, Jl, Jm, Jn, Jo, Jp, Jq, Jr, Js, Jt, Ju, Jv, Jw, Jx, Jy, Jz]

theorem compare_c (a b : Int) : CallsF Tryz.prog 72 [.c (.int .i64 a), .c (.int .i64 b)] (.u (.c (.d (.int .i64 (cmpZ a b))))) := by
  refine callsF_of (T := tb) tab_ok mixed Tryz.func72 rfl (by decide) (Nat.le_of_ble_eq_true rfl) rfl ?_; unfold St.init
  simp (maxSteps := 2000000) -implicitDefEqProofs [-List.map_set, Ja, -Int.natCast_add, -Int.natCast_mul, -Int.natCast_emod, -Int.natCast_ediv, -Int.natCast_pow, Jb, Jc, Jd, Je, Jf, Jg, Jh, Ji, Jj, Jk, Jl, Jm, Jn, Jo, Jp, Jq, Jr, Js, Jt, Ju, Jv, Jw, Jx, Jy, Jz]
  (first | refine .inl ⟨_, isNaN_c a, ?_⟩ | refine ⟨_, isNaN_c a, ?_⟩)
  simp (maxSteps := 2000000) -implicitDefEqProofs [-List.map_set, Ja, -Int.natCast_add, -Int.natCast_mul, -Int.natCast_emod, -Int.natCast_ediv, -Int.natCast_pow, Jb, Jc, Jd, Je, Jf, Jg, Jh, Ji, Jj, Jk, Jl, Jm, Jn, Jo, Jp, Jq, Jr, Js, Jt, Ju, Jv, Jw, Jx, Jy, Jz]
  (first | refine .inl ⟨_, isNaN_c b, ?_⟩ | refine ⟨_, isNaN_c b, ?_⟩)
  simp (maxSteps := 2000000) -implicitDefEqProofs [-List.map_set, Ja, -Int.natCast_add, -Int.natCast_mul, -Int.natCast_emod, -Int.natCast_ediv, -Int.natCast_pow, Jb, Jc, Jd, Je, Jf, Jg, Jh, Ji, Jj, Jk, Jl, Jm, Jn, Jo, Jp, Jq, Jr, Js, Jt, Ju, Jv, Jw, Jx, Jy, Jz]
  unfold cmpZ
  refine ⟨fun h => by rw [if_pos h], fun h => ⟨fun h2 => by rw [if_neg (by omega), if_pos h2], fun h2 => by rw [if_neg (by omega), if_neg (by omega)]⟩⟩

/-- The first number other than 0. -/
def orL : List Int → Int
  | [] => 0
  | a :: l => if a = 0 then orL l else a

theorem orL_drop {l : List Int} {i : Nat} (h : i < l.length) : orL (l.drop i) = if l[i] = 0 then orL (l.drop (i + 1)) else l[i] := by
  rw [List.drop_eq_getElem_cons h]
  rfl

theorem or_c (l : List Int) (hl : l.length ≤ 1099511627776) : CallsF Tryz.prog 71 [.c (intsD l)] (.u (.c (.d (.int .i64 (orL l))))) := by
  refine callsF_of (T := tb) tab_ok mixed Tryz.func71 rfl (by decide) (Nat.le_of_ble_eq_true rfl) rfl ?_; unfold St.init
  simp (maxSteps := 2000000) -implicitDefEqProofs [-List.map_set, Ja, -Int.natCast_add, -Int.natCast_mul, -Int.natCast_emod, -Int.natCast_ediv, -Int.natCast_pow, Jb, Jc, Jd, Je, Jf, Jg, Jh, Ji, Jj, Jk, Jl, Jm, Jn, Jo, Jp, Jq, Jr, Js, Jt, Ju, Jv, Jw, Jx, Jy, Jz]
  refine wpLoop_of (fun i : Nat => ⟨[(8, vI .i64 i), (7, vI .i64 l.length), (6, vC (.d (intsD l))), (3, vI .i64 0)], []⟩) (fun i => i ≤ l.length ∧ orL (l.drop i) = orL l) (fun i => l.length - i) 0 (by simp) ⟨by omega, rfl⟩ ?_
  rintro i ⟨h1, h2⟩
  by_cases h : i < l.length
  · have e := orL_drop h
    by_cases h0 : l[i] = 0
    · rw [h0] at e
      simp (maxSteps := 2000000) -implicitDefEqProofs [-List.map_set, Ja, -Int.natCast_add, -Int.natCast_mul, -Int.natCast_emod, -Int.natCast_ediv, -Int.natCast_pow, Jb, Jc, Jd, Je, Jf, Jg, Jh, Ji, Jj, Jk, Jl, Jm, Jn, Jo, Jp, Jq, Jr, Js, Jt, Ju, Jv, Jw, Jx, Jy, Jz, h, h0, i64]
      rw [if_pos rfl] at e
      exact ⟨by omega, ⟨by omega, by rw [← e, h2]⟩, by omega⟩
    · simp (maxSteps := 2000000) -implicitDefEqProofs [-List.map_set, Ja, -Int.natCast_add, -Int.natCast_mul, -Int.natCast_emod, -Int.natCast_ediv, -Int.natCast_pow, Jb, Jc, Jd, Je, Jf, Jg, Jh, Ji, Jj, Jk, Jl, Jm, Jn, Jo, Jp, Jq, Jr, Js, Jt, Ju, Jv, Jw, Jx, Jy, Jz, h, h0, i64]
      rw [← h2, e, if_neg h0]
  · have : i = l.length := by omega
    subst this
    simp (maxSteps := 2000000) -implicitDefEqProofs [-List.map_set, Ja, -Int.natCast_add, -Int.natCast_mul, -Int.natCast_emod, -Int.natCast_ediv, -Int.natCast_pow, Jb, Jc, Jd, Je, Jf, Jg, Jh, Ji, Jj, Jk, Jl, Jm, Jn, Jo, Jp, Jq, Jr, Js, Jt, Ju, Jv, Jw, Jx, Jy, Jz]
    rw [List.drop_length] at h2
    exact h2

/-- The order of lists of numbers. -/
def lexI : List Int → List Int → Int
  | [], [] => 0
  | [], _ :: _ => -1
  | _ :: _, [] => 1
  | a :: x, b :: y => if cmpZ a b = 0 then lexI x y else cmpZ a b

theorem lexI_nil (y : List Int) : lexI [] y = if 0 < y.length then -1 else 0 := by cases y <;> simp [lexI]
theorem lexI_drop {x y : List Int} {i : Nat} (h : i < x.length) (hy : i < y.length) : lexI (x.drop i) (y.drop i) = if cmpZ x[i] y[i] = 0 then lexI (x.drop (i + 1)) (y.drop (i + 1)) else cmpZ x[i] y[i] := by
  rw [List.drop_eq_getElem_cons h, List.drop_eq_getElem_cons hy]
  rfl
theorem lexI_over {x y : List Int} {i : Nat} (h : i < x.length) (hy : i = y.length) : lexI (x.drop i) (y.drop i) = 1 := by
  subst hy
  rw [List.drop_eq_getElem_cons h, List.drop_length]
  rfl

theorem slCompare_c (x y : List Int) (hx : x.length ≤ 1099511627776) (hy : y.length ≤ 1099511627776) : CallsF Tryz.prog 73 [.c (intsD x), .c (intsD y)] (.u (.c (.d (.int .i64 (lexI x y))))) := by
  refine callsF_of (T := tb) tab_ok mixed Tryz.func73 rfl (by decide) (Nat.le_of_ble_eq_true rfl) rfl ?_; unfold St.init
  simp (maxSteps := 2000000) -implicitDefEqProofs [-List.map_set, Ja, -Int.natCast_add, -Int.natCast_mul, -Int.natCast_emod, -Int.natCast_ediv, -Int.natCast_pow, Jb, Jc, Jd, Je, Jf, Jg, Jh, Ji, Jj, Jk, Jl, Jm, Jn, Jo, Jp, Jq, Jr, Js, Jt, Ju, Jv, Jw, Jx, Jy, Jz]
  refine wpLoop_of (fun i : Nat => ⟨[(11, vI .i64 i), (10, vI .i64 x.length), (9, vC (.d (intsD x))), (0, vC (.d (intsD x))), (1, vC (.d (intsD y)))], []⟩) (fun i => i ≤ x.length ∧ i ≤ y.length ∧ lexI (x.drop i) (y.drop i) = lexI x y) (fun i => x.length - i) 0 (by simp) ⟨by omega, by omega, rfl⟩ ?_
  rintro i ⟨h1, h3, h2⟩
  by_cases h : i < x.length
  · by_cases hb : i < y.length
    · have e := lexI_drop h hb
      have hn : ¬ y.length ≤ i := by omega
      simp (maxSteps := 2000000) -implicitDefEqProofs [-List.map_set, Ja, -Int.natCast_add, -Int.natCast_mul, -Int.natCast_emod, -Int.natCast_ediv, -Int.natCast_pow, Jb, Jc, Jd, Je, Jf, Jg, Jh, Ji, Jj, Jk, Jl, Jm, Jn, Jo, Jp, Jq, Jr, Js, Jt, Ju, Jv, Jw, Jx, Jy, Jz, h, hb, hn, i64]
      (first | refine .inl ⟨_, compare_c x[i] y[i], ?_⟩ | refine ⟨_, compare_c x[i] y[i], ?_⟩)
      by_cases h0 : cmpZ x[i] y[i] = 0
      · rw [if_pos h0] at e
        simp (maxSteps := 2000000) -implicitDefEqProofs [-List.map_set, Ja, -Int.natCast_add, -Int.natCast_mul, -Int.natCast_emod, -Int.natCast_ediv, -Int.natCast_pow, Jb, Jc, Jd, Je, Jf, Jg, Jh, Ji, Jj, Jk, Jl, Jm, Jn, Jo, Jp, Jq, Jr, Js, Jt, Ju, Jv, Jw, Jx, Jy, Jz, h0]
        exact ⟨by omega, ⟨by omega, by omega, by rw [← e, h2]⟩, by omega⟩
      · rw [if_neg h0] at e
        simp (maxSteps := 2000000) -implicitDefEqProofs [-List.map_set, Ja, -Int.natCast_add, -Int.natCast_mul, -Int.natCast_emod, -Int.natCast_ediv, -Int.natCast_pow, Jb, Jc, Jd, Je, Jf, Jg, Jh, Ji, Jj, Jk, Jl, Jm, Jn, Jo, Jp, Jq, Jr, Js, Jt, Ju, Jv, Jw, Jx, Jy, Jz, h0]
        rw [← h2, e]
    · have e : i = y.length := by omega
      have e2 := lexI_over h e
      rw [h2] at e2
      have hn : y.length ≤ i := by omega
      simp (maxSteps := 2000000) -implicitDefEqProofs [-List.map_set, Ja, -Int.natCast_add, -Int.natCast_mul, -Int.natCast_emod, -Int.natCast_ediv, -Int.natCast_pow, Jb, Jc, Jd, Je, Jf, Jg, Jh, Ji, Jj, Jk, Jl, Jm, Jn, Jo, Jp, Jq, Jr, Js, Jt, Ju, Jv, Jw, Jx, Jy, Jz, h, hn, i64]
      rw [e2]
  · have : i = x.length := by omega
    subst this
    rw [List.drop_length, lexI_nil, List.length_drop] at h2
    rw [← h2]
    by_cases hb : x.length < y.length
    · rw [if_pos (by omega)]
      simp (maxSteps := 2000000) -implicitDefEqProofs [-List.map_set, Ja, -Int.natCast_add, -Int.natCast_mul, -Int.natCast_emod, -Int.natCast_ediv, -Int.natCast_pow, Jb, Jc, Jd, Je, Jf, Jg, Jh, Ji, Jj, Jk, Jl, Jm, Jn, Jo, Jp, Jq, Jr, Js, Jt, Ju, Jv, Jw, Jx, Jy, Jz, hb]
    · rw [if_neg (by omega)]
      simp (maxSteps := 2000000) -implicitDefEqProofs [-List.map_set, Ja, -Int.natCast_add, -Int.natCast_mul, -Int.natCast_emod, -Int.natCast_ediv, -Int.natCast_pow, Jb, Jc, Jd, Je, Jf, Jg, Jh, Ji, Jj, Jk, Jl, Jm, Jn, Jo, Jp, Jq, Jr, Js, Jt, Ju, Jv, Jw, Jx, Jy, Jz, hb]

/-- The index of the first place of a number, or -1. -/
def idxG : List Int → Int → Nat → Int
  | [], _, _ => -1
  | a :: l, v, i => if v = a then i else idxG l v (i + 1)
theorem idxG_mem : ∀ (l : List Int) (v : Int) (i : Nat), 0 ≤ idxG l v i ↔ v ∈ l
  | [], v, i => by simp [idxG]
  | a :: l, v, i => by
    unfold idxG
    by_cases h : v = a
    · rw [if_pos h]; simp [h]
    · rw [if_neg h, idxG_mem l v (i + 1)]; simp [h]
theorem idxG_drop {l : List Int} {v : Int} {i : Nat} (h : i < l.length) : idxG (l.drop i) v i = if v = l[i] then (i : Int) else idxG (l.drop (i + 1)) v (i + 1) := by
  rw [List.drop_eq_getElem_cons h]
  rfl

theorem index_c (l : List Int) (v : Int) (hl : l.length ≤ 1099511627776) : CallsF Tryz.prog 242 [.c (intsD l), .c (.int .i64 v)] (.u (.c (.d (.int .i64 (idxG l v 0))))) := by
  refine callsF_of (T := tb) tab_ok mixed Tryz.func242 rfl (by decide) (Nat.le_of_ble_eq_true rfl) rfl ?_; unfold St.init
  simp (maxSteps := 2000000) -implicitDefEqProofs [-List.map_set, Ja, -Int.natCast_add, -Int.natCast_mul, -Int.natCast_emod, -Int.natCast_ediv, -Int.natCast_pow, Jb, Jc, Jd, Je, Jf, Jg, Jh, Ji, Jj, Jk, Jl, Jm, Jn, Jo, Jp, Jq, Jr, Js, Jt, Ju, Jv, Jw, Jx, Jy, Jz]
  refine wpLoop_of (fun i : Nat => ⟨[(8, vI .i64 i), (7, vI .i64 l.length), (6, vC (.d (intsD l))), (0, vC (.d (intsD l))), (1, vI .i64 v)], []⟩) (fun i => i ≤ l.length ∧ idxG (l.drop i) v i = idxG l v 0) (fun i => l.length - i) 0 (by simp) ⟨by omega, rfl⟩ ?_
  rintro i ⟨h1, h2⟩
  by_cases h : i < l.length
  · have e := idxG_drop (v := v) h
    by_cases h0 : v = l[i]
    · rw [if_pos h0] at e
      simp (maxSteps := 2000000) -implicitDefEqProofs [-List.map_set, Ja, -Int.natCast_add, -Int.natCast_mul, -Int.natCast_emod, -Int.natCast_ediv, -Int.natCast_pow, Jb, Jc, Jd, Je, Jf, Jg, Jh, Ji, Jj, Jk, Jl, Jm, Jn, Jo, Jp, Jq, Jr, Js, Jt, Ju, Jv, Jw, Jx, Jy, Jz, h, ← h0, i64]
      rw [← h2, e]
    · rw [if_neg h0] at e
      simp (maxSteps := 2000000) -implicitDefEqProofs [-List.map_set, Ja, -Int.natCast_add, -Int.natCast_mul, -Int.natCast_emod, -Int.natCast_ediv, -Int.natCast_pow, Jb, Jc, Jd, Je, Jf, Jg, Jh, Ji, Jj, Jk, Jl, Jm, Jn, Jo, Jp, Jq, Jr, Js, Jt, Ju, Jv, Jw, Jx, Jy, Jz, h, h0, i64]
      exact ⟨by omega, ⟨by omega, by rw [← e, h2]⟩, by omega⟩
  · have : i = l.length := by omega
    subst this
    rw [List.drop_length] at h2
    simp (maxSteps := 2000000) -implicitDefEqProofs [-List.map_set, Ja, -Int.natCast_add, -Int.natCast_mul, -Int.natCast_emod, -Int.natCast_ediv, -Int.natCast_pow, Jb, Jc, Jd, Je, Jf, Jg, Jh, Ji, Jj, Jk, Jl, Jm, Jn, Jo, Jp, Jq, Jr, Js, Jt, Ju, Jv, Jw, Jx, Jy, Jz]
    exact h2

theorem contains_c (l : List Int) (v : Int) (hl : l.length ≤ 1099511627776) : CallsF Tryz.prog 181 [.c (intsD l), .c (.int .i64 v)] (.u (.c (.d (.bool (decide (v ∈ l)))))) := by
  refine callsF_of (T := tb) tab_ok mixed Tryz.func181 rfl (by decide) (Nat.le_of_ble_eq_true rfl) rfl ?_; unfold St.init
  have e := idxG_mem l v 0
  have k := index_c l v hl
  simp (maxSteps := 2000000) -implicitDefEqProofs [-List.map_set, Ja, -Int.natCast_add, -Int.natCast_mul, -Int.natCast_emod, -Int.natCast_ediv, -Int.natCast_pow, Jb, Jc, Jd, Je, Jf, Jg, Jh, Ji, Jj, Jk, Jl, Jm, Jn, Jo, Jp, Jq, Jr, Js, Jt, Ju, Jv, Jw, Jx, Jy, Jz]
  (first | refine .inl ⟨_, k, ?_⟩ | refine ⟨_, k, ?_⟩)
  simp (maxSteps := 2000000) -implicitDefEqProofs [-List.map_set, Ja, -Int.natCast_add, -Int.natCast_mul, -Int.natCast_emod, -Int.natCast_ediv, -Int.natCast_pow, Jb, Jc, Jd, Je, Jf, Jg, Jh, Ji, Jj, Jk, Jl, Jm, Jn, Jo, Jp, Jq, Jr, Js, Jt, Ju, Jv, Jw, Jx, Jy, Jz, e]

theorem binV_nl {α : Type} {T : Tab} {t : TypeId} {i : TI} (hT : T t = some i) (hz : i.zero = [.nl]) (ha : i.agg = false) (e : α → D) {l : List α} (hl : l ≠ []) : binV T .eql t (.u (.c (.d (lstD e l)))) (.u (.c .nl)) = some (vB false) := by
  have hn : l.length ≠ 0 := fun h => hl (List.length_eq_zero_iff.1 h)
  show (T t).bind _ = _
  rw [hT]
  simp only [Option.bind_some]
  have : eqV i (.u (.c (.d (lstD e l)))) (.u (.c .nl)) = some false := by
    unfold eqV lstD
    simp only [hz, ha]
    rw [if_neg (by simp), if_neg hn]
  rw [this]
  rfl

theorem clone_c (l : List Int) (hl : l.length ≤ 1099511627776) (h0 : l ≠ []) : CallsF Tryz.prog 226 [.c (intsD l)] (.u (.c (.own 1 l.length (l.map i64)))) := by
  refine callsF_of (T := tb) tab_ok mixed Tryz.func226 rfl (by decide) (Nat.le_of_ble_eq_true rfl) rfl ?_; unfold St.init
  have : l.length ≠ 0 := fun h => h0 (List.length_eq_zero_iff.1 h)
  have e := binV_nl (T := tb) (t := 31) rfl rfl rfl i64 h0
  simp (maxSteps := 2000000) -implicitDefEqProofs [-List.map_set, Ja, -Int.natCast_add, -Int.natCast_mul, -Int.natCast_emod, -Int.natCast_ediv, -Int.natCast_pow, Jb, Jc, Jd, Je, Jf, Jg, Jh, Ji, Jj, Jk, Jl, Jm, Jn, Jo, Jp, Jq, Jr, Js, Jt, Ju, Jv, Jw, Jx, Jy, Jz, e]
  exact ⟨by omega, by omega⟩

end Go.Va

/-
  Contracts: which facts are right.
-/
namespace Go.Va
open Go.Proofs
set_option maxHeartbeats 4000000
set_option maxRecDepth 10000
set_option linter.unusedSimpArgs false
set_option linter.unusedVariables false

/-- A fact. -/
structure Fct where
  kind : Int
  args : List Int
  neg : Bool
  abs : List Nat
  den : List Nat
  deriving DecidableEq
@[simp] def Fct.ds (f : Fct) : List D := [.int .i64 f.kind, intsD f.args, .bool f.neg, natD f.abs, natD f.den]

def arity (k : Int) : Nat := if k = 1 ∨ k = 5 then 3 else if k = 2 ∨ k = 3 ∨ k = 4 ∨ k = 6 ∨ k = 9 then 4 else if k = 7 then 8 else if k = 8 then 2 else 0

theorem arity_c (k : Int) : CallsF Tryz.prog 158 [.c (.int .i64 k)] (.u (.c (.d (.int .i64 (arity k))))) := by
  refine callsF_of (T := tb) tab_ok mixed Tryz.func158 rfl (by decide) (Nat.le_of_ble_eq_true rfl) rfl ?_; unfold St.init
  by_cases h1 : k = 1
  · subst h1; simp (maxSteps := 2000000) -implicitDefEqProofs [-List.map_set, Ja, -Int.natCast_add, -Int.natCast_mul, -Int.natCast_emod, -Int.natCast_ediv, -Int.natCast_pow, Jb, Jc, Jd, Je, Jf, Jg, Jh, Ji, Jj, Jk, Jl, Jm, Jn, Jo, Jp, Jq, Jr, Js, Jt, Ju, Jv, Jw, Jx, Jy, Jz, arity]
  by_cases h2 : k = 2
  · subst h2; simp (maxSteps := 2000000) -implicitDefEqProofs [-List.map_set, Ja, -Int.natCast_add, -Int.natCast_mul, -Int.natCast_emod, -Int.natCast_ediv, -Int.natCast_pow, Jb, Jc, Jd, Je, Jf, Jg, Jh, Ji, Jj, Jk, Jl, Jm, Jn, Jo, Jp, Jq, Jr, Js, Jt, Ju, Jv, Jw, Jx, Jy, Jz, arity]
  by_cases h3 : k = 3
  · subst h3; simp (maxSteps := 2000000) -implicitDefEqProofs [-List.map_set, Ja, -Int.natCast_add, -Int.natCast_mul, -Int.natCast_emod, -Int.natCast_ediv, -Int.natCast_pow, Jb, Jc, Jd, Je, Jf, Jg, Jh, Ji, Jj, Jk, Jl, Jm, Jn, Jo, Jp, Jq, Jr, Js, Jt, Ju, Jv, Jw, Jx, Jy, Jz, arity]
  by_cases h4 : k = 4
  · subst h4; simp (maxSteps := 2000000) -implicitDefEqProofs [-List.map_set, Ja, -Int.natCast_add, -Int.natCast_mul, -Int.natCast_emod, -Int.natCast_ediv, -Int.natCast_pow, Jb, Jc, Jd, Je, Jf, Jg, Jh, Ji, Jj, Jk, Jl, Jm, Jn, Jo, Jp, Jq, Jr, Js, Jt, Ju, Jv, Jw, Jx, Jy, Jz, arity]
  by_cases h5 : k = 5
  · subst h5; simp (maxSteps := 2000000) -implicitDefEqProofs [-List.map_set, Ja, -Int.natCast_add, -Int.natCast_mul, -Int.natCast_emod, -Int.natCast_ediv, -Int.natCast_pow, Jb, Jc, Jd, Je, Jf, Jg, Jh, Ji, Jj, Jk, Jl, Jm, Jn, Jo, Jp, Jq, Jr, Js, Jt, Ju, Jv, Jw, Jx, Jy, Jz, arity]
  by_cases h6 : k = 6
  · subst h6; simp (maxSteps := 2000000) -implicitDefEqProofs [-List.map_set, Ja, -Int.natCast_add, -Int.natCast_mul, -Int.natCast_emod, -Int.natCast_ediv, -Int.natCast_pow, Jb, Jc, Jd, Je, Jf, Jg, Jh, Ji, Jj, Jk, Jl, Jm, Jn, Jo, Jp, Jq, Jr, Js, Jt, Ju, Jv, Jw, Jx, Jy, Jz, arity]
  by_cases h7 : k = 7
  · subst h7; simp (maxSteps := 2000000) -implicitDefEqProofs [-List.map_set, Ja, -Int.natCast_add, -Int.natCast_mul, -Int.natCast_emod, -Int.natCast_ediv, -Int.natCast_pow, Jb, Jc, Jd, Je, Jf, Jg, Jh, Ji, Jj, Jk, Jl, Jm, Jn, Jo, Jp, Jq, Jr, Js, Jt, Ju, Jv, Jw, Jx, Jy, Jz, arity]
  by_cases h8 : k = 8
  · subst h8; simp (maxSteps := 2000000) -implicitDefEqProofs [-List.map_set, Ja, -Int.natCast_add, -Int.natCast_mul, -Int.natCast_emod, -Int.natCast_ediv, -Int.natCast_pow, Jb, Jc, Jd, Je, Jf, Jg, Jh, Ji, Jj, Jk, Jl, Jm, Jn, Jo, Jp, Jq, Jr, Js, Jt, Ju, Jv, Jw, Jx, Jy, Jz, arity]
  by_cases h9 : k = 9
  · subst h9; simp (maxSteps := 2000000) -implicitDefEqProofs [-List.map_set, Ja, -Int.natCast_add, -Int.natCast_mul, -Int.natCast_emod, -Int.natCast_ediv, -Int.natCast_pow, Jb, Jc, Jd, Je, Jf, Jg, Jh, Ji, Jj, Jk, Jl, Jm, Jn, Jo, Jp, Jq, Jr, Js, Jt, Ju, Jv, Jw, Jx, Jy, Jz, arity]
  simp (maxSteps := 2000000) -implicitDefEqProofs [-List.map_set, Ja, -Int.natCast_add, -Int.natCast_mul, -Int.natCast_emod, -Int.natCast_ediv, -Int.natCast_pow, Jb, Jc, Jd, Je, Jf, Jg, Jh, Ji, Jj, Jk, Jl, Jm, Jn, Jo, Jp, Jq, Jr, Js, Jt, Ju, Jv, Jw, Jx, Jy, Jz, arity, h1, h2, h3, h4, h5, h6, h7, h8, h9]

/-- The ratio of no fact. -/
def noRat (neg : Bool) (a b : List Nat) : Bool := !neg && decide (a = []) && decide (b = [])
theorem zero_c (neg : Bool) (a b : List Nat) : CallsF Tryz.prog 160 [.agg [.bool neg, natD a, natD b]] (.u (.c (.d (.bool (noRat neg a b))))) := by
  refine callsF_of (T := tb) tab_ok mixed Tryz.func160 rfl (by decide) (Nat.le_of_ble_eq_true rfl) rfl ?_; unfold St.init
  cases neg <;> cases a <;> cases b <;> simp (maxSteps := 2000000) -implicitDefEqProofs [-List.map_set, Ja, -Int.natCast_add, -Int.natCast_mul, -Int.natCast_emod, -Int.natCast_ediv, -Int.natCast_pow, Jb, Jc, Jd, Je, Jf, Jg, Jh, Ji, Jj, Jk, Jl, Jm, Jn, Jo, Jp, Jq, Jr, Js, Jt, Ju, Jv, Jw, Jx, Jy, Jz, noRat]
/-- What is wrong with a fact: 0 for nothing. -/
def wrong (f : Fct) (n : Int) : Int :=
  if arity f.kind = 0 then 8 else if f.args.length ≠ arity f.kind then 1 else if f.args.any (fun a => decide (a < 0) || decide (n ≤ a)) then 2
  else if (if f.kind = 9 then ratOk f.neg f.abs f.den else noRat f.neg f.abs f.den) then 0 else 1
/-- A fact whose parts are cells of short lists. -/
structure Fct.Mild (f : Fct) : Prop where
  la : f.abs.length ≤ 2
  ld : f.den.length ≤ 2
  oa : Ok f.abs
  od : Ok f.den
  ln : f.args.length ≤ 1099511627776

theorem any_drop {l : List Int} {p : Int → Bool} {i : Nat} (h : i < l.length) : (l.drop i).any p = (p l[i] || (l.drop (i + 1)).any p) := by
  rw [List.drop_eq_getElem_cons h, List.any_cons]

theorem predRight_c (f : Fct) (hf : f.Mild) (n : Int) : CallsF Tryz.prog 81 [.agg f.ds, .c (.int .i64 n)] (.u (.c (.d (.int .i64 (wrong f n))))) := by
  refine callsF_of (T := tb) tab_ok mixed Tryz.func81 rfl (by decide) (Nat.le_of_ble_eq_true rfl) rfl ?_; unfold St.init
  obtain ⟨kind, args, neg, abs, den⟩ := f
  obtain ⟨la, ld, oa, od, ln⟩ := hf
  simp only at la ld oa od ln
  simp only [Fct.ds, wrong]
  simp (maxSteps := 2000000) -implicitDefEqProofs [-List.map_set, Ja, -Int.natCast_add, -Int.natCast_mul, -Int.natCast_emod, -Int.natCast_ediv, -Int.natCast_pow, Jb, Jc, Jd, Je, Jf, Jg, Jh, Ji, Jj, Jk, Jl, Jm, Jn, Jo, Jp, Jq, Jr, Js, Jt, Ju, Jv, Jw, Jx, Jy, Jz]
  (first | refine .inl ⟨_, arity_c kind, ?_⟩ | refine ⟨_, arity_c kind, ?_⟩)
  generalize arity kind = ar at *
  by_cases h1 : ar = 0
  · simp (maxSteps := 2000000) -implicitDefEqProofs [-List.map_set, Ja, -Int.natCast_add, -Int.natCast_mul, -Int.natCast_emod, -Int.natCast_ediv, -Int.natCast_pow, Jb, Jc, Jd, Je, Jf, Jg, Jh, Ji, Jj, Jk, Jl, Jm, Jn, Jo, Jp, Jq, Jr, Js, Jt, Ju, Jv, Jw, Jx, Jy, Jz, h1]
  by_cases h2 : args.length = ar
  · simp (maxSteps := 2000000) -implicitDefEqProofs [-List.map_set, Ja, -Int.natCast_add, -Int.natCast_mul, -Int.natCast_emod, -Int.natCast_ediv, -Int.natCast_pow, Jb, Jc, Jd, Je, Jf, Jg, Jh, Ji, Jj, Jk, Jl, Jm, Jn, Jo, Jp, Jq, Jr, Js, Jt, Ju, Jv, Jw, Jx, Jy, Jz, h1, h2]
    refine wpLoop_of (fun i : Nat => ⟨[(21, vI .i64 i), (20, vI .i64 (ar : Nat)), (19, vC (.d (intsD args))), (2, vC (.ptr 2 0)), (1, vI .i64 n)], [(2, .box [.d (.int .i64 kind), .d (intsD args), .d (.bool neg), .d (natD abs), .d (natD den)])]⟩) (fun i => i ≤ args.length ∧ (args.drop i).any (fun a => decide (a < 0) || decide (n ≤ a)) = args.any (fun a => decide (a < 0) || decide (n ≤ a))) (fun i => args.length - i) 0 (by simp) ⟨by omega, rfl⟩ ?_
    rintro i ⟨h3, h4⟩
    by_cases h : i < args.length
    · have e := any_drop (p := fun a => decide (a < 0) || decide (n ≤ a)) h
      have hk : i < ar := by omega
      rw [e] at h4
      by_cases h5 : args[i] < 0
      · simp (maxSteps := 2000000) -implicitDefEqProofs [-List.map_set, Ja, -Int.natCast_add, -Int.natCast_mul, -Int.natCast_emod, -Int.natCast_ediv, -Int.natCast_pow, Jb, Jc, Jd, Je, Jf, Jg, Jh, Ji, Jj, Jk, Jl, Jm, Jn, Jo, Jp, Jq, Jr, Js, Jt, Ju, Jv, Jw, Jx, Jy, Jz, h, hk, h5, i64]
        intro hh
        have := hh _ (List.getElem_mem h)
        omega
      · by_cases h6 : n ≤ args[i]
        · simp (maxSteps := 2000000) -implicitDefEqProofs [-List.map_set, Ja, -Int.natCast_add, -Int.natCast_mul, -Int.natCast_emod, -Int.natCast_ediv, -Int.natCast_pow, Jb, Jc, Jd, Je, Jf, Jg, Jh, Ji, Jj, Jk, Jl, Jm, Jn, Jo, Jp, Jq, Jr, Js, Jt, Ju, Jv, Jw, Jx, Jy, Jz, h, hk, h5, h6, i64]
          intro hh
          have := hh _ (List.getElem_mem h)
          omega
        · simp (maxSteps := 2000000) -implicitDefEqProofs [-List.map_set, Ja, -Int.natCast_add, -Int.natCast_mul, -Int.natCast_emod, -Int.natCast_ediv, -Int.natCast_pow, Jb, Jc, Jd, Je, Jf, Jg, Jh, Ji, Jj, Jk, Jl, Jm, Jn, Jo, Jp, Jq, Jr, Js, Jt, Ju, Jv, Jw, Jx, Jy, Jz, h, hk, h5, h6, i64]
          simp only [decide_eq_false h5, decide_eq_false h6, Bool.false_or] at h4
          exact ⟨by omega, ⟨by omega, h4⟩, by omega⟩
    · have hk : ¬ i < ar := by omega
      have e : i = args.length := by omega
      rw [e, List.drop_length] at h4
      have h4' : ∀ x ∈ args, 0 ≤ x ∧ x < n := by simpa using h4.symm
      rw [← h4]
      have k1 := ratRight_c neg abs den oa (by omega) od (by omega)
      have k2 := zero_c neg abs den
      by_cases h9 : kind = 9
      · simp (maxSteps := 2000000) -implicitDefEqProofs [-List.map_set, Ja, -Int.natCast_add, -Int.natCast_mul, -Int.natCast_emod, -Int.natCast_ediv, -Int.natCast_pow, Jb, Jc, Jd, Je, Jf, Jg, Jh, Ji, Jj, Jk, Jl, Jm, Jn, Jo, Jp, Jq, Jr, Js, Jt, Ju, Jv, Jw, Jx, Jy, Jz, hk, h9]
        (first | refine .inl ⟨_, k1, ?_⟩ | refine ⟨_, k1, ?_⟩)
        cases ratOk neg abs den <;> simp (maxSteps := 2000000) -implicitDefEqProofs [-List.map_set, Ja, -Int.natCast_add, -Int.natCast_mul, -Int.natCast_emod, -Int.natCast_ediv, -Int.natCast_pow, Jb, Jc, Jd, Je, Jf, Jg, Jh, Ji, Jj, Jk, Jl, Jm, Jn, Jo, Jp, Jq, Jr, Js, Jt, Ju, Jv, Jw, Jx, Jy, Jz] <;> exact h4'
      · simp (maxSteps := 2000000) -implicitDefEqProofs [-List.map_set, Ja, -Int.natCast_add, -Int.natCast_mul, -Int.natCast_emod, -Int.natCast_ediv, -Int.natCast_pow, Jb, Jc, Jd, Je, Jf, Jg, Jh, Ji, Jj, Jk, Jl, Jm, Jn, Jo, Jp, Jq, Jr, Js, Jt, Ju, Jv, Jw, Jx, Jy, Jz, hk, h9]
        (first | refine .inl ⟨_, k2, ?_⟩ | refine ⟨_, k2, ?_⟩)
        cases noRat neg abs den <;> simp (maxSteps := 2000000) -implicitDefEqProofs [-List.map_set, Ja, -Int.natCast_add, -Int.natCast_mul, -Int.natCast_emod, -Int.natCast_ediv, -Int.natCast_pow, Jb, Jc, Jd, Je, Jf, Jg, Jh, Ji, Jj, Jk, Jl, Jm, Jn, Jo, Jp, Jq, Jr, Js, Jt, Ju, Jv, Jw, Jx, Jy, Jz] <;> exact h4'
  · simp (maxSteps := 2000000) -implicitDefEqProofs [-List.map_set, Ja, -Int.natCast_add, -Int.natCast_mul, -Int.natCast_emod, -Int.natCast_ediv, -Int.natCast_pow, Jb, Jc, Jd, Je, Jf, Jg, Jh, Ji, Jj, Jk, Jl, Jm, Jn, Jo, Jp, Jq, Jr, Js, Jt, Ju, Jv, Jw, Jx, Jy, Jz, h1, h2]

end Go.Va

/-
  A contract that hands over a row, read as one that hands over data.
-/
namespace Go.Va
open Go.Proofs

def RC.dat : RC → RC
  | .d x => .d x
  | .own sz n cs => .d (.slice n (cs.take (n * sz)))
def RU.dat : RU → RU
  | .c x => .c x.dat
  | .agg cs => .agg (cs.map RC.dat)
def R.dat : R → R
  | .u x => .u x.dat
  | .tup xs => .tup (xs.map RU.dat)

theorem RC.dat_rows (x : RC) : x.dat.rows = [] := by cases x <;> rfl
theorem RU.dat_rows (x : RU) : x.dat.rows = [] := by
  cases x with
  | c x => exact RC.dat_rows x
  | agg cs => exact List.flatMap_eq_nil_iff.2 fun y hy => by obtain ⟨z, _, rfl⟩ := List.mem_map.1 hy; exact RC.dat_rows z
theorem R.dat_rows (x : R) : x.dat.rows = [] := by
  cases x with
  | u x => exact RU.dat_rows x
  | tup cs => exact List.flatMap_eq_nil_iff.2 fun y hy => by obtain ⟨z, _, rfl⟩ := List.mem_map.1 hy; exact RU.dat_rows z

section
variable {w w' : World} {Z : Addr → Prop} {k : Nat} {o : Own} {bs : List Blk}

theorem RC.dat_rep (hZ : ∀ ad, Z ad → ad.block < w.heap.size) (ho : ∀ ad, o.has ad → w.heap.size ≤ ad.block)
    (hh : Heap (single k bs o) w' Z (match bs with | [] => [] | b :: _ => [(k, b)])) (hb : bs.length ≤ 1) {x : RC} {v : Value} (hx : ∀ b ∈ x.rows, b ∈ bs)
    (h : RepC (single k bs o) w' Z (x.imp k) v) (ρ : Rho) (hρ : ∀ i, ρ i = none) : RepC ρ w' Z (x.dat.imp k) v := by
  have hk : Keep w' w' (Out (single k bs o) Z) (Out ρ Z) := Keep.mono fun a ha => by
    rcases ha with ha | ⟨i, o', hi, _⟩
    · exact .inl ha
    · rw [hρ] at hi; cases hi
  cases x with
  | d x => exact RepD.keep hk h
  | own sz n cs =>
    have hm : (Blk.row sz cs true) ∈ bs := hx _ (by simp [RC.rows])
    obtain ⟨b, rfl⟩ : ∃ b, bs = [b] := by
      match bs, hb, hm with
      | [b], _, _ => exact ⟨b, rfl⟩
    have hbe : Blk.row sz cs true = b := by simpa using hm
    subst hbe
    obtain ⟨o1, h1, h2⟩ := hh.rep k _ (lk_cons_same k _ _)
    have e1 : o1 = o := by
      unfold single at h1
      simp only [if_true] at h1
      exact (Option.some.inj h1).symm
    subst e1
    obtain ⟨hs, happ, hl, ⟨hn1, hn2⟩, hc⟩ := h2
    obtain ⟨o2, h3, h4, h5⟩ := h
    have e2 : o2 = o1 := by
      unfold single at h3
      simp only [if_true] at h3
      exact (Option.some.inj h3).symm
    subst e2
    show RepD w' (Out ρ Z) (.slice n (cs.take (n * sz))) v
    rcases h5 with ⟨h6, rfl, _, rfl⟩ | ⟨h6, a, c, rfl, h7, h8, h9, h10⟩
    · have : (cs.take (0 * sz)) = [] := by simp
      rw [this]
      exact .snil
    · have key : ∀ (j : Nat) (x : D), (cs.take (n * sz))[j]? = some x → cs[j]? = some x ∧ a = o2.at 0 := by
        intro j x hj
        rw [List.getElem?_take] at hj
        split at hj
        · rename_i hlt
          refine ⟨hj, ?_⟩
          rcases h9 with h9 | h9
          · have : n = 0 := by omega
            subst this
            simp at hlt
          · simpa using h9
        · cases hj
      refine .slice n _ a c (fun j => (w'.cell? ⟨a.block, a.off + j, none⟩).getD undef) ?_ h7 h8 ?_ ?_ ?_
      · intro hne
        obtain ⟨x, hx⟩ := List.exists_mem_of_ne_nil _ hne
        obtain ⟨j, hj⟩ := List.getElem?_of_mem hx
        rw [(key j x hj).2]
      all_goals
        intro j x hj
        obtain ⟨k1, k2⟩ := key j x hj
        obtain ⟨u, hu, hr⟩ := hc j x k1
        subst k2
        have he : (⟨(o2.at 0).block, (o2.at 0).off + j, none⟩ : Addr) = o2.at j := by simp [Own.at]
      · rw [he, hu]; rfl
      · rw [he]
        have hin : o2.has (o2.at j) := by
          refine ⟨by rw [hn2]; exact h6, rfl, by simp [Own.at], ?_⟩
          have := (List.getElem?_eq_some_iff.1 k1).1
          simp only [Own.at]
          rw [hs]
          omega
        rintro (hz | ⟨i, o', hi, _⟩)
        · have := hZ _ hz; have := ho _ hin; omega
        · rw [hρ] at hi; cases hi
      · rw [he, hu]; exact RepD.keep hk hr
theorem RU.dat_rep (hZ : ∀ ad, Z ad → ad.block < w.heap.size) (ho : ∀ ad, o.has ad → w.heap.size ≤ ad.block)
    (hh : Heap (single k bs o) w' Z (match bs with | [] => [] | b :: _ => [(k, b)])) (hb : bs.length ≤ 1) {x : RU} {v : Value} (hx : ∀ b ∈ x.rows, b ∈ bs)
    (h : RepU (single k bs o) w' Z (x.imp k) v) (ρ : Rho) (hρ : ∀ i, ρ i = none) : RepU ρ w' Z (x.dat.imp k) v := by
  cases x with
  | c x => exact RC.dat_rep hZ ho hh hb hx h ρ hρ
  | agg cs =>
    obtain ⟨vs, h1, h2, h3⟩ := h
    refine ⟨vs, h1, by simpa using h2, fun j y u hy hu => ?_⟩
    simp only [List.getElem?_map, Option.map_eq_some_iff] at hy
    obtain ⟨z, ⟨z', hz', rfl⟩, rfl⟩ := hy
    exact RC.dat_rep hZ ho hh hb (fun b hbm => hx b (List.mem_flatMap.2 ⟨z', List.mem_of_getElem? hz', hbm⟩)) (h3 j _ u (by simp [hz']) hu) ρ hρ

theorem R.dat_rep (hZ : ∀ ad, Z ad → ad.block < w.heap.size) {r : R} {v : Value} (h : RepRes w w' Z r v) : RepRes w w' Z r.dat v := by
  obtain ⟨hb, o, ho, hr⟩ := h
  refine ⟨by rw [R.dat_rows]; simp, o, ho, fun k => ?_⟩
  obtain ⟨h1, hh⟩ := hr k
  rw [R.dat_rows]
  have hρ : ∀ i, single k [] o i = none := fun i => rfl
  refine ⟨?_, ⟨⟨fun j o hj => by (rw [hρ] at hj; cases hj), fun j j' o o' hj => by (rw [hρ] at hj; cases hj), fun j o hj => by (rw [hρ] at hj; cases hj)⟩, fun i b hb => by cases hb⟩⟩
  cases r with
  | u x => exact RU.dat_rep hZ ho hh hb (fun b h => h) h1 _ hρ
  | tup cs =>
    obtain ⟨vs, e1, h2, h3⟩ := h1
    refine ⟨vs, e1, by simpa [R.dat, R.imp] using h2, fun j y u hy hu => ?_⟩
    simp only [List.getElem?_map, Option.map_eq_some_iff] at hy
    obtain ⟨z, ⟨z', hz', rfl⟩, rfl⟩ := hy
    exact RU.dat_rep hZ ho hh hb (fun b hbm => List.mem_flatMap.2 ⟨z', List.mem_of_getElem? hz', hbm⟩) (h3 j _ u (by simp [hz']) hu) _ hρ

/-- What hands over a row also hands over data. -/
theorem CallsF.dat {P : Program} {f : FuncId} {xs : List A} {r : R} (h : CallsF P f xs r) : CallsF P f xs r.dat :=
  ⟨h.1, fun w Z vals hZ hv => (h.2 w Z vals hZ hv).mono fun e w' ⟨v, h1, h2, h3⟩ => ⟨v, h1, h2, R.dat_rep hZ h3⟩⟩
end
end Go.Va
