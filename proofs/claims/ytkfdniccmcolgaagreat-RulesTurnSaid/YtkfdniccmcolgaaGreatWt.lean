/-
  The order of two premises: what the letters are bound to, in plain words.
-/
import Derived.Test.YtkfdniccmcolgaaGreatWp
set_option linter.all false

namespace Go.Va
set_option maxHeartbeats 4000000
set_option maxRecDepth 10000
set_option linter.unusedSimpArgs false
set_option linter.unusedVariables false

/-! ### a letter's value -/
/-- What a letter is bound to, 1 added; (0, 0): nothing. -/
def Bnd.get (b : Bnd) (c : UInt8) : Int × Int := if 97 ≤ c.toNat then (b.S1 (c.toNat - 97), b.S2 (c.toNat - 97)) else (b.P (c.toNat - 65), 0)
def Bnd.put (b : Bnd) (c : UInt8) (v : Int × Int) : Option Bnd := if 97 ≤ c.toNat then b.segment (c.toNat - 97) (v.1 - 1, v.2 - 1) else b.point (c.toNat - 65) (v.1 - 1)
abbrev Stp := UInt8 × (Int × Int)
def stpOk (s : Stp) : Prop := ltr s.1 ∧ s.2.1 ≠ 0 ∧ (¬ 97 ≤ s.1.toNat → s.2.2 = 0)

theorem getD_set (l : List Int) (i j : Nat) (x : Int) (h : i < l.length) : (l.set i x).getD j 0 = if j = i then x else l.getD j 0 := by
  rw [List.getD_eq_getElem?_getD, List.getD_eq_getElem?_getD, List.getElem?_set]
  by_cases e : j = i
  · subst e; simp [h]
  · rw [if_neg (fun h => e h.symm), if_neg e]
section
variable (b : Bnd)
theorem Bnd.P_setP {k : Nat} (hk : k < 26) (x : Int) (j : Nat) : (b.setP k x).P j = if j = k then x else b.P j := getD_set b.v k j x (by rw [b.h]; omega)
theorem Bnd.S1_setP {k : Nat} (hk : k < 26) (x : Int) (j : Nat) : (b.setP k x).S1 j = b.S1 j := by
  have := getD_set b.v k (26 + j * 2) x (by rw [b.h]; omega)
  rw [if_neg (by omega)] at this
  exact this
theorem Bnd.S2_setP {k : Nat} (hk : k < 26) (x : Int) (j : Nat) : (b.setP k x).S2 j = b.S2 j := by
  have := getD_set b.v k (26 + j * 2 + 1) x (by rw [b.h]; omega)
  rw [if_neg (by omega)] at this
  exact this
theorem Bnd.v_setS {k : Nat} (hk : k < 26) (x y : Int) (j : Nat) : (b.setS k x y).v.getD j 0 = if j = 26 + k * 2 + 1 then y else if j = 26 + k * 2 then x else b.v.getD j 0 := by
  show ((b.v.set (26 + k * 2) x).set (26 + k * 2 + 1) y).getD j 0 = _
  rw [getD_set _ _ _ _ (by rw [List.length_set, b.h]; omega), getD_set _ _ _ _ (by rw [b.h]; omega)]
theorem Bnd.P_setS {k : Nat} (hk : k < 26) (x y : Int) {j : Nat} (hj : j < 26) : (b.setS k x y).P j = b.P j := by
  have := b.v_setS hk x y j
  rw [if_neg (by omega), if_neg (by omega)] at this
  exact this
theorem Bnd.S1_setS {k : Nat} (hk : k < 26) (x y : Int) (j : Nat) : (b.setS k x y).S1 j = if j = k then x else b.S1 j := by
  have := b.v_setS hk x y (26 + j * 2)
  rw [if_neg (by omega)] at this
  by_cases e : j = k
  · rw [if_pos (by omega)] at this; rw [if_pos e]; exact this
  · rw [if_neg (by omega)] at this; rw [if_neg e]; exact this
theorem Bnd.S2_setS {k : Nat} (hk : k < 26) (x y : Int) (j : Nat) : (b.setS k x y).S2 j = if j = k then y else b.S2 j := by
  have := b.v_setS hk x y (26 + j * 2 + 1)
  by_cases e : j = k
  · rw [if_pos (by omega)] at this; rw [if_pos e]; exact this
  · rw [if_neg (by omega), if_neg (by omega)] at this; rw [if_neg e]; exact this
end
theorem u8_inj {a b : UInt8} (h : a.toNat = b.toNat) : a = b := UInt8.toNat_inj.1 h

theorem put_some {b b' : Bnd} {s : Stp} (hs : stpOk s) (h : b.put s.1 s.2 = some b') : (b.get s.1 = (0, 0) ∨ b.get s.1 = s.2) ∧ b'.get s.1 = s.2 ∧ ∀ x, ltr x → x ≠ s.1 → b'.get x = b.get x := by
  obtain ⟨c, v, w⟩ := s
  obtain ⟨hl, h0, hw⟩ := hs
  simp only at *
  unfold ltr at hl
  unfold Bnd.put at h
  by_cases h97 : 97 ≤ c.toNat
  · rw [if_pos h97] at h
    have hk : c.toNat - 97 < 26 := by omega
    unfold Bnd.segment at h
    split at h
    · cases h
    · rename_i hc
      cases h
      unfold Bnd.get
      rw [if_pos h97, if_pos h97]
      refine ⟨?_, ?_, fun x hx hne => ?_⟩
      · simp only [Prod.mk.injEq]
        simp only at hc
        omega
      · rw [Bnd.S1_setS b hk, Bnd.S2_setS b hk, if_pos rfl, if_pos rfl]
        simp only [Prod.mk.injEq]
        omega
      · have hn : x.toNat ≠ c.toNat := fun e => hne (u8_inj e)
        unfold ltr at hx
        by_cases hx97 : 97 ≤ x.toNat
        · rw [if_pos hx97, if_pos hx97, Bnd.S1_setS b hk, Bnd.S2_setS b hk, if_neg (by omega), if_neg (by omega)]
        · rw [if_neg hx97, if_neg hx97, Bnd.P_setS b hk _ _ (by omega)]
  · rw [if_neg h97] at h
    have hk : c.toNat - 65 < 26 := by omega
    have hw := hw h97
    unfold Bnd.point at h
    split at h
    · cases h
    · rename_i hc
      cases h
      unfold Bnd.get
      rw [if_neg h97, if_neg h97]
      simp only at hc
      refine ⟨?_, ?_, fun x hx hne => ?_⟩
      · by_cases h00 : b.P (c.toNat - 65) = 0
        · exact .inl (by rw [h00])
        · refine .inr ?_
          have h11 : b.P (c.toNat - 65) = v := by
            apply Classical.byContradiction
            intro hn
            exact hc ⟨h00, fun e => hn (by omega)⟩
          rw [h11, hw]
      · rw [Bnd.P_setP b hk, if_pos rfl]
        simp only [Prod.mk.injEq]
        omega
      · have hn : x.toNat ≠ c.toNat := fun e => hne (u8_inj e)
        unfold ltr at hx
        by_cases hx97 : 97 ≤ x.toNat
        · rw [if_pos hx97, if_pos hx97, Bnd.S1_setP b hk, Bnd.S2_setP b hk]
        · rw [if_neg hx97, if_neg hx97, Bnd.P_setP b hk, if_neg (by omega)]
theorem put_of {b : Bnd} {s : Stp} (hs : stpOk s) (h : b.get s.1 = (0, 0) ∨ b.get s.1 = s.2) : ∃ b', b.put s.1 s.2 = some b' := by
  obtain ⟨c, v, w⟩ := s
  obtain ⟨hl, h0, hw⟩ := hs
  simp only at *
  unfold Bnd.get at h
  unfold Bnd.put
  by_cases h97 : 97 ≤ c.toNat
  · rw [if_pos h97] at h ⊢
    unfold Bnd.segment
    simp only [Prod.mk.injEq] at h
    rw [if_neg (by simp only; omega)]
    exact ⟨_, rfl⟩
  · rw [if_neg h97] at h ⊢
    unfold Bnd.point
    simp only [Prod.mk.injEq] at h
    rw [if_neg (by omega)]
    exact ⟨_, rfl⟩

/-! ### letters bound one behind the other -/
def run : List Stp → Bnd → Option Bnd
  | [], b => some b
  | s :: r, b => match b.put s.1 s.2 with | none => none | some b' => run r b'
theorem run_append : ∀ (a a' : List Stp) (b : Bnd), run (a ++ a') b = match run a b with | none => none | some c => run a' c
  | [], a', b => rfl
  | s :: a, a', b => by
    show (match b.put s.1 s.2 with | none => none | some b' => run (a ++ a') b') = (match (match b.put s.1 s.2 with | none => none | some b' => run a b') with | none => none | some c => run a' c)
    cases b.put s.1 s.2 with
    | none => rfl
    | some b' => exact run_append a a' b'
theorem run_spec : ∀ {a : List Stp} {b c : Bnd}, (∀ s ∈ a, stpOk s) → run a b = some c →
    (∀ s ∈ a, c.get s.1 = s.2) ∧ (∀ x, ltr x → b.get x ≠ (0, 0) → c.get x = b.get x) ∧ (∀ x, ltr x → (∀ s ∈ a, s.1 ≠ x) → c.get x = b.get x)
  | [], b, c, _, h => by cases h; exact ⟨by simp, fun _ _ _ => rfl, fun _ _ _ => rfl⟩
  | s :: a, b, c, ha, h => by
    have hs := ha s (by simp)
    unfold run at h
    cases hp : b.put s.1 s.2 with
    | none => rw [hp] at h; cases h
    | some b' =>
      rw [hp] at h
      obtain ⟨p1, p2, p3⟩ := put_some hs hp
      obtain ⟨r1, r2, r3⟩ := run_spec (fun t ht => ha t (by simp [ht])) h
      have hne : s.2 ≠ (0, 0) := fun e => hs.2.1 (by rw [e])
      refine ⟨fun t ht => ?_, fun x hx hb => ?_, fun x hx hn => ?_⟩
      · rcases List.mem_cons.1 ht with rfl | ht
        · rw [r2 t.1 hs.1 (by rw [p2]; exact hne), p2]
        · exact r1 t ht
      · by_cases e : x = s.1
        · subst e
          rw [r2 s.1 hs.1 (by rw [p2]; exact hne), p2]
          rcases p1 with p1 | p1
          · exact absurd p1 hb
          · exact p1.symm
        · rw [r2 x hx (by rw [p3 x hx e]; exact hb), p3 x hx e]
      · have e : x ≠ s.1 := fun e => hn s (by simp) e.symm
        rw [r3 x hx fun t ht => hn t (by simp [ht]), p3 x hx e]
theorem run_of (g : UInt8 → Int × Int) : ∀ {a : List Stp} {b : Bnd}, (∀ s ∈ a, stpOk s) → (∀ s ∈ a, g s.1 = s.2) → (∀ x, ltr x → b.get x ≠ (0, 0) → g x = b.get x) → ∃ c, run a b = some c
  | [], b, _, _, _ => ⟨b, rfl⟩
  | s :: a, b, ha, h1, h2 => by
    have hs := ha s (by simp)
    have hg := h1 s (by simp)
    obtain ⟨b', hb'⟩ := put_of (b := b) hs (by
      by_cases h0 : b.get s.1 = (0, 0)
      · exact .inl h0
      · exact .inr (by rw [← h2 s.1 hs.1 h0, hg]))
    obtain ⟨p1, p2, p3⟩ := put_some hs hb'
    obtain ⟨c, hc⟩ := run_of g (a := a) (b := b') (fun t ht => ha t (by simp [ht])) (fun t ht => h1 t (by simp [ht])) fun x hx hb => by
      by_cases e : x = s.1
      · subst e; rw [p2, hg]
      · rw [p3 x hx e] at hb ⊢
        exact h2 x hx hb
    refine ⟨c, ?_⟩
    unfold run
    rw [hb']
    exact hc

/-! ### the ways to bind a premise's letters -/
def mpG : List UInt8 → List Int → List (List Stp)
  | [], _ => [[]]
  | c :: r, pts => (List.range pts.length).flatMap fun i => (mpG r (pts.eraseIdx i)).map fun a => (c, (pts.getD i 0 + 1, 0)) :: a
def msG : List UInt8 → List (Int × Int) → List (List Stp)
  | [], _ => [[]]
  | _ :: _, [] => []
  | c :: r, s :: l => if 97 ≤ c.toNat then (msG r l).map (fun a => (c, (s.1 + 1, s.2 + 1)) :: a) else
    match r with
    | [] => []
    | d :: r => (msG r l).map (fun a => (c, (s.1 + 1, 0)) :: (d, (s.2 + 1, 0)) :: a) ++ (if s.1 = s.2 then [] else (msG r l).map (fun a => (c, (s.2 + 1, 0)) :: (d, (s.1 + 1, 0)) :: a))

theorem put_cap {b : Bnd} {c : UInt8} (hc : cap c) (v : Int) : b.put c (v + 1, 0) = b.point (c.toNat - 65) v := by
  unfold Bnd.put cap at *
  rw [if_neg (by omega)]
  simp
theorem put_sml {b : Bnd} {c : UInt8} (hc : 97 ≤ c.toNat) (v w : Int) : b.put c (v + 1, w + 1) = b.segment (c.toNat - 97) (v, w) := by
  unfold Bnd.put
  rw [if_pos hc]
  simp

theorem mem_mp : ∀ (l : List UInt8) (pts : List Int) (b c : Bnd), (∀ x ∈ l, cap x) → (c ∈ mp l pts b ↔ ∃ a ∈ mpG l pts, run a b = some c)
  | [], pts, b, c, _ => by
    simp only [mp, mpG, List.mem_singleton, exists_eq_left, run, Option.some.injEq]
    exact eq_comm
  | x :: r, pts, b, c, hl => by
    rw [mp, mpG]
    simp only [List.mem_flatMap, List.mem_map]
    have hx := hl x (by simp)
    constructor
    · rintro ⟨i, hi, h⟩
      split at h
      · cases h
      · rename_i b' e
        obtain ⟨a, ha, hr⟩ := (mem_mp r (pts.eraseIdx i) b' c fun y hy => hl y (by simp [hy])).1 h
        refine ⟨_, ⟨i, hi, a, ha, rfl⟩, ?_⟩
        unfold run
        rw [put_cap hx, e]
        exact hr
    · rintro ⟨_, ⟨i, hi, a, ha, rfl⟩, hr⟩
      refine ⟨i, hi, ?_⟩
      unfold run at hr
      rw [put_cap hx] at hr
      split at hr
      · cases hr
      · rename_i b' e
        rw [e]
        exact (mem_mp r (pts.eraseIdx i) b' c fun y hy => hl y (by simp [hy])).2 ⟨a, ha, hr⟩

theorem mem_ms : ∀ (n : Nat) (ls : List UInt8) (l : List (Int × Int)) (b c : Bnd), ls.length ≤ n → msOk ls l → (c ∈ ms ls l b ↔ ∃ a ∈ msG ls l, run a b = some c)
  | n, [], l, b, c, _, _ => by
    have e1 : ms [] l b = [b] := by cases l <;> rfl
    have e2 : msG [] l = [[]] := by cases l <;> rfl
    rw [e1, e2]
    simp only [List.mem_singleton, exists_eq_left, run, Option.some.injEq]
    exact eq_comm
  | n, x :: r, [], b, c, _, h => by simp [msOk] at h
  | 0, x :: r, s :: l, b, c, hn, _ => by simp at hn
  | n + 1, x :: r, s :: l, b, c, hn, hk => by
    simp only [List.length_cons, Nat.add_le_add_iff_right] at hn
    by_cases h97 : 97 ≤ x.toNat
    · rw [msOk_sml h97] at hk
      have e2 : msG (x :: r) (s :: l) = (msG r l).map (fun a => (x, (s.1 + 1, s.2 + 1)) :: a) := by
        cases r <;> simp only [msG, if_pos h97]
      rw [ms_sml h97, e2]
      simp only [List.mem_map]
      constructor
      · intro h
        split at h
        · cases h
        · rename_i b' e
          obtain ⟨a, ha, hr⟩ := (mem_ms n r l b' c hn hk.2).1 h
          refine ⟨_, ⟨a, ha, rfl⟩, ?_⟩
          unfold run
          rw [put_sml h97, e]
          exact hr
      · rintro ⟨_, ⟨a, ha, rfl⟩, hr⟩
        unfold run at hr
        rw [put_sml h97] at hr
        split at hr
        · cases hr
        · rename_i b' e
          rw [e]
          exact (mem_ms n r l b' c hn hk.2).2 ⟨a, ha, hr⟩
    · obtain ⟨d, r', rfl, hx, hd, hk2⟩ := msOk_cap h97 hk
      have aux : ∀ u v : Int, c ∈ msA x d r' l b u v ↔ ∃ a ∈ (msG r' l).map (fun a => ((x, (u + 1, 0)) :: (d, (v + 1, 0)) :: a : List Stp)), run a b = some c := by
        intro u v
        unfold msA
        simp only [List.mem_map]
        constructor
        · intro h
          split at h
          · cases h
          · rename_i b1 e1
            split at h
            · cases h
            · rename_i b2 e2
              obtain ⟨a, ha, hr⟩ := (mem_ms n r' l b2 c (by simp at hn; omega) hk2).1 h
              refine ⟨_, ⟨a, ha, rfl⟩, ?_⟩
              unfold run
              rw [put_cap hx, e1]
              show run ((d, (v + 1, 0)) :: a) b1 = some c
              unfold run
              rw [put_cap hd, e2]
              exact hr
        · rintro ⟨_, ⟨a, ha, rfl⟩, hr⟩
          unfold run at hr
          rw [put_cap hx] at hr
          split at hr
          · cases hr
          · rename_i b1 e1
            rw [e1]
            unfold run at hr
            rw [put_cap hd] at hr
            simp only
            split at hr
            · cases hr
            · rename_i b2 e2
              rw [e2]
              exact (mem_ms n r' l b2 c (by simp at hn; omega) hk2).2 ⟨a, ha, hr⟩
      have e2 : msG (x :: d :: r') (s :: l) = (msG r' l).map (fun a => (x, (s.1 + 1, 0)) :: (d, (s.2 + 1, 0)) :: a) ++ (if s.1 = s.2 then [] else (msG r' l).map (fun a => (x, (s.2 + 1, 0)) :: (d, (s.1 + 1, 0)) :: a)) := by
        simp only [msG, if_neg h97]
      rw [ms_cap h97, e2, List.mem_append, aux]
      by_cases hs : s.1 = s.2
      · simp only [if_pos hs, List.not_mem_nil, or_false, List.append_nil]
      · simp only [if_neg hs, aux, List.mem_append]
        constructor
        · rintro (⟨a, ha, hr⟩ | ⟨a, ha, hr⟩)
          · exact ⟨a, .inl ha, hr⟩
          · exact ⟨a, .inr ha, hr⟩
        · rintro ⟨a, ha | ha, hr⟩
          · exact .inl ⟨a, ha, hr⟩
          · exact .inr ⟨a, ha, hr⟩

end Go.Va

/-
  The order of two premises: letters renamed, in plain words.
-/
namespace Go.Va
set_option maxHeartbeats 4000000
set_option maxRecDepth 10000
set_option linter.unusedSimpArgs false
set_option linter.unusedVariables false

/-- All ways to bind a premise's letters, as lists of steps. -/
def asgB (p : Pat) (f : Fct) : List (List Stp) :=
  if p.kind = 1 ∨ p.kind = 6 ∨ p.kind = 8 then (if f.kind = p.kind then mpG p.letters f.args else [])
  else if p.kind = 5 then (if f.kind = 5 then [[(p.letters.getD 0 0, (f.args.getD 0 0 + 1, 0)), (p.letters.getD 1 0, (f.args.getD 1 0 + 1, 0)), (p.letters.getD 2 0, (f.args.getD 2 0 + 1, 0))], [(p.letters.getD 0 0, (f.args.getD 0 0 + 1, 0)), (p.letters.getD 1 0, (f.args.getD 2 0 + 1, 0)), (p.letters.getD 2 0, (f.args.getD 1 0 + 1, 0))]] else [])
  else (rdg p.kind f).flatMap (msG p.letters)

theorem mem_mid {c1 c2 c3 : UInt8} (h1 : cap c1) (h2 : cap c2) (h3 : cap c3) (b c : Bnd) (m u v : Int) : c ∈ mid1 (c1.toNat - 65) (c2.toNat - 65) (c3.toNat - 65) b m u v ↔ run [(c1, (m + 1, 0)), (c2, (u + 1, 0)), (c3, (v + 1, 0))] b = some c := by
  unfold mid1
  simp only [run, put_cap h1, put_cap h2, put_cap h3]
  cases b.point (c1.toNat - 65) m with
  | none => simp
  | some b1 =>
    simp only
    cases b1.point (c2.toNat - 65) u with
    | none => simp
    | some b2 =>
      simp only
      cases b2.point (c3.toNat - 65) v with
      | none => simp
      | some b3 => simp [eq_comm]

theorem rdg_shape (k : Int) (f : Fct) (hk : k = 2 ∨ k = 3 ∨ k = 4) (hf : f.Rt) : ∀ l ∈ rdg k f, ∃ u v, l = [u, v] := by
  intro l hl
  obtain ⟨h1, h2, h3, h4⟩ := hf.parts
  unfold rdg at hl
  split at hl
  · simp only [List.mem_cons, List.not_mem_nil, or_false] at hl
    rcases hl with rfl | rfl | rfl | rfl | rfl | rfl <;> exact ⟨_, _, rfl⟩
  · split at hl
    · cases hl
    · rename_i hke
      have hke : f.kind = k := Classical.byContradiction fun h => hke h
      obtain ⟨a, e, c, d, ha⟩ := list4 (by rw [h2, hke]; rcases hk with h | h | h <;> rw [h] <;> rfl : f.args.length = 4)
      have hpu : pairUp f.args = [two a e, two c d] := by rw [ha]; rfl
      rw [hpu] at hl
      simp only [List.mem_cons, List.not_mem_nil, or_false] at hl
      rcases hl with rfl | rfl <;> exact ⟨_, _, rfl⟩
theorem rdg_shape7 (f : Fct) (hf : f.Rt) : ∀ l ∈ rdg 7 f, ∃ u v w z, l = [u, v, w, z] := by
  intro l hl
  obtain ⟨h1, h2, h3, h4⟩ := hf.parts
  unfold rdg at hl
  split at hl
  · omega
  · split at hl
    · cases hl
    · rename_i hke
      have hke : f.kind = 7 := Classical.byContradiction fun h => hke h
      obtain ⟨a, e, c, d, a', e', c', d', ha⟩ := list8 (by rw [h2, hke]; rfl : f.args.length = 8)
      have hpu : pairUp f.args = [two a e, two c d, two a' e', two c' d'] := by rw [ha]; rfl
      rw [hpu] at hl
      simp only [List.mem_cons, List.not_mem_nil, or_false] at hl
      rcases hl with rfl | rfl | rfl | rfl | rfl | rfl | rfl | rfl <;> exact ⟨_, _, _, _, rfl⟩
theorem fit_ms {p : Pat} (hp : p.Fit) (hn : ¬ (p.kind = 1 ∨ p.kind = 6 ∨ p.kind = 8)) (h5 : p.kind ≠ 5) {f : Fct} (hf : f.Rt) : ∀ l ∈ rdg p.kind f, msOk p.letters l := by
  intro l hl
  obtain ⟨_, hp⟩ := hp
  rcases hp with ⟨hk, _⟩ | ⟨hk, _⟩ | ⟨hk, hm⟩ | ⟨hk, hm⟩
  · exact absurd hk hn
  · exact absurd hk h5
  · obtain ⟨u, v, rfl⟩ := rdg_shape _ f hk hf l hl
    exact hm u v
  · rw [hk] at hl
    obtain ⟨u, v, w, z, rfl⟩ := rdg_shape7 f hf l hl
    exact hm u v w z

theorem mem_matchB {p : Pat} (hp : p.Fit) {f : Fct} (hf : f.Rt) (b c : Bnd) : c ∈ matchB p f b ↔ ∃ a ∈ asgB p f, run a b = some c := by
  have hms := @fit_ms p hp
  unfold matchB asgB
  by_cases hk : p.kind = 1 ∨ p.kind = 6 ∨ p.kind = 8
  · rw [if_pos hk, if_pos hk]
    split
    · refine mem_mp _ _ _ _ ?_
      rcases hp.2 with ⟨_, h⟩ | ⟨h, _⟩ | ⟨h, _⟩ | ⟨h, _⟩
      · exact h
      all_goals omega
    · simp
  · rw [if_neg hk, if_neg hk]
    by_cases h5 : p.kind = 5
    · rw [if_pos h5, if_pos h5]
      split
      · obtain ⟨c1, c2, c3, hl, k1, k2, k3⟩ : ∃ c1 c2 c3, p.letters = [c1, c2, c3] ∧ cap c1 ∧ cap c2 ∧ cap c3 := by
          rcases hp.2 with ⟨h, _⟩ | ⟨_, h⟩ | ⟨h, _⟩ | ⟨h, _⟩
          · omega
          · exact h
          all_goals omega
        rw [hl]
        simp only [List.getD_cons_zero, List.getD_cons_succ, List.mem_append, mem_mid k1 k2 k3, List.mem_cons, List.not_mem_nil, or_false, exists_eq_or_imp, exists_eq_left]
      · simp
    · rw [if_neg h5, if_neg h5]
      simp only [List.mem_flatMap]
      constructor
      · rintro ⟨l, hl, hc⟩
        obtain ⟨a, ha, hr⟩ := (mem_ms _ _ l b c (Nat.le_refl _) (hms hk h5 hf l hl)).1 hc
        exact ⟨a, ⟨l, hl, ha⟩, hr⟩
      · rintro ⟨a, ⟨l, hl, ha⟩, hr⟩
        exact ⟨l, hl, (mem_ms _ _ l b c (Nat.le_refl _) (hms hk h5 hf l hl)).2 ⟨a, ha, hr⟩⟩

/-! ### the steps bind something -/
theorem stpOk_cap {c : UInt8} (h : cap c) {v : Int} (hv : 0 ≤ v) : stpOk (c, (v + 1, 0)) := ⟨.inl h, by simp only; omega, fun _ => rfl⟩
theorem mpG_ok : ∀ (l : List UInt8) (pts : List Int), (∀ x ∈ l, cap x) → (∀ p ∈ pts, 0 ≤ p) → ∀ a ∈ mpG l pts, ∀ s ∈ a, stpOk s
  | [], pts, _, _ => by simp [mpG]
  | c :: r, pts, hl, hp => by
    intro a ha s hs
    rw [mpG] at ha
    simp only [List.mem_flatMap, List.mem_map, List.mem_range] at ha
    obtain ⟨i, hi, a', ha', rfl⟩ := ha
    rcases List.mem_cons.1 hs with rfl | hs
    · exact stpOk_cap (hl c (by simp)) (by rw [getZ_lt _ hi]; exact hp _ (List.getElem_mem hi))
    · exact mpG_ok r _ (fun x hx => hl x (by simp [hx])) (fun p hp2 => hp p (List.mem_of_mem_eraseIdx hp2)) a' ha' s hs
theorem msG_ok : ∀ (n : Nat) (ls : List UInt8) (l : List (Int × Int)), ls.length ≤ n → msOk ls l → (∀ s ∈ l, 0 ≤ s.1 ∧ 0 ≤ s.2) → ∀ a ∈ msG ls l, ∀ s ∈ a, stpOk s
  | n, [], l, _, _, _ => by
    have e2 : msG [] l = [[]] := by cases l <;> rfl
    rw [e2]; simp
  | n, x :: r, [], _, h, _ => by simp [msOk] at h
  | 0, x :: r, s :: l, hn, _, _ => by simp at hn
  | n + 1, x :: r, s :: l, hn, hk, hp => by
    simp only [List.length_cons, Nat.add_le_add_iff_right] at hn
    have hs0 := hp s (by simp)
    have hp2 : ∀ t ∈ l, 0 ≤ t.1 ∧ 0 ≤ t.2 := fun t ht => hp t (by simp [ht])
    intro a ha t ht
    by_cases h97 : 97 ≤ x.toNat
    · rw [msOk_sml h97] at hk
      have e2 : msG (x :: r) (s :: l) = (msG r l).map (fun a => (x, (s.1 + 1, s.2 + 1)) :: a) := by
        cases r <;> simp only [msG, if_pos h97]
      rw [e2, List.mem_map] at ha
      obtain ⟨a', ha', rfl⟩ := ha
      rcases List.mem_cons.1 ht with rfl | ht
      · exact ⟨.inr ⟨h97, hk.1⟩, by simp only; omega, fun h => absurd h97 h⟩
      · exact msG_ok n r l hn hk.2 hp2 a' ha' t ht
    · obtain ⟨d, r', rfl, hx, hd, hk2⟩ := msOk_cap h97 hk
      have e2 : msG (x :: d :: r') (s :: l) = (msG r' l).map (fun a => (x, (s.1 + 1, 0)) :: (d, (s.2 + 1, 0)) :: a) ++ (if s.1 = s.2 then [] else (msG r' l).map (fun a => (x, (s.2 + 1, 0)) :: (d, (s.1 + 1, 0)) :: a)) := by
        simp only [msG, if_neg h97]
      have aux : ∀ u v : Int, 0 ≤ u → 0 ≤ v → a ∈ (msG r' l).map (fun a => ((x, (u + 1, 0)) :: (d, (v + 1, 0)) :: a : List Stp)) → stpOk t := by
        intro u v hu hv ha
        obtain ⟨a', ha', rfl⟩ := List.mem_map.1 ha
        rcases List.mem_cons.1 ht with rfl | ht
        · exact stpOk_cap hx hu
        · rcases List.mem_cons.1 ht with rfl | ht
          · exact stpOk_cap hd hv
          · exact msG_ok n r' l (by simp at hn; omega) hk2 hp2 a' ha' t ht
      rw [e2, List.mem_append] at ha
      rcases ha with ha | ha
      · exact aux _ _ hs0.1 hs0.2 ha
      · split at ha
        · cases ha
        · exact aux _ _ hs0.2 hs0.1 ha
theorem two_ge {a b : Int} (ha : 0 ≤ a) (hb : 0 ≤ b) : 0 ≤ (two a b).1 ∧ 0 ≤ (two a b).2 := by
  unfold two lo hi
  constructor <;> simp only <;> split <;> assumption
theorem pairUp_ge : ∀ (l : List Int), (∀ a ∈ l, 0 ≤ a) → ∀ s ∈ pairUp l, 0 ≤ s.1 ∧ 0 ≤ s.2
  | [], _ => by simp [pairUp]
  | [a], _ => by simp [pairUp]
  | a :: b :: l, h => by
    intro s hs
    rw [pairUp, List.mem_cons] at hs
    rcases hs with rfl | hs
    · exact two_ge (h a (by simp)) (h b (by simp))
    · exact pairUp_ge l (fun x hx => h x (by simp [hx])) s hs
theorem rdg_ge (k : Int) (f : Fct) (hf : f.Rt) : ∀ l ∈ rdg k f, ∀ s ∈ l, 0 ≤ s.1 ∧ 0 ≤ s.2 := by
  obtain ⟨h1, h2, h3, h4⟩ := hf.parts
  have hg : ∀ i, 0 ≤ f.args.getD i 0 := by
    intro i
    rcases Nat.lt_or_ge i f.args.length with h | h
    · rw [getZ_lt _ h]; exact (h3 _ (List.getElem_mem h)).1
    · rw [getZ_ge _ h]; omega
  have hp := pairUp_ge f.args fun a ha => (h3 a ha).1
  intro l hl s hs
  unfold rdg at hl
  split at hl
  · have t1 := two_ge (hg 0) (hg 1)
    have t2 := two_ge (hg 0) (hg 2)
    have t3 := two_ge (hg 1) (hg 2)
    simp only [List.mem_cons, List.not_mem_nil, or_false] at hl
    rcases hl with rfl | rfl | rfl | rfl | rfl | rfl <;> (simp only [List.mem_cons, List.not_mem_nil, or_false] at hs; rcases hs with rfl | rfl <;> assumption)
  · split at hl
    · cases hl
    · split at hl
      · rename_i a b e
        rw [e] at hp
        simp only [List.mem_cons, List.not_mem_nil, or_false] at hl hp
        rcases hl with rfl | rfl <;> (simp only [List.mem_cons, List.not_mem_nil, or_false] at hs; exact hp s (by rcases hs with h | h <;> simp [h]))
      · rename_i u v w z e
        rw [e] at hp
        simp only [List.mem_cons, List.not_mem_nil, or_false] at hl hp
        rcases hl with rfl | rfl | rfl | rfl | rfl | rfl | rfl | rfl <;> (simp only [List.mem_cons, List.not_mem_nil, or_false] at hs; exact hp s (by rcases hs with h | h | h | h <;> simp [h]))
      · cases hl

theorem asgB_ok {p : Pat} (hp : p.Fit) {f : Fct} (hf : f.Rt) : ∀ a ∈ asgB p f, ∀ s ∈ a, stpOk s := by
  obtain ⟨h1, h2, h3, h4⟩ := hf.parts
  have hg : ∀ i, 0 ≤ f.args.getD i 0 := by
    intro i
    rcases Nat.lt_or_ge i f.args.length with h | h
    · rw [getZ_lt _ h]; exact (h3 _ (List.getElem_mem h)).1
    · rw [getZ_ge _ h]; omega
  have hms := @fit_ms p hp
  intro a ha s hs
  unfold asgB at ha
  by_cases hk : p.kind = 1 ∨ p.kind = 6 ∨ p.kind = 8
  · rw [if_pos hk] at ha
    split at ha
    · refine mpG_ok _ _ ?_ (fun x hx => (h3 x hx).1) a ha s hs
      rcases hp.2 with ⟨_, h⟩ | ⟨h, _⟩ | ⟨h, _⟩ | ⟨h, _⟩
      · exact h
      all_goals omega
    · cases ha
  · rw [if_neg hk] at ha
    by_cases h5 : p.kind = 5
    · rw [if_pos h5] at ha
      split at ha
      · obtain ⟨c1, c2, c3, hl, k1, k2, k3⟩ : ∃ c1 c2 c3, p.letters = [c1, c2, c3] ∧ cap c1 ∧ cap c2 ∧ cap c3 := by
          rcases hp.2 with ⟨h, _⟩ | ⟨_, h⟩ | ⟨h, _⟩ | ⟨h, _⟩
          · omega
          · exact h
          all_goals omega
        rw [hl] at ha
        simp only [List.getD_cons_zero, List.getD_cons_succ, List.mem_cons, List.not_mem_nil, or_false] at ha
        rcases ha with rfl | rfl <;> (simp only [List.mem_cons, List.not_mem_nil, or_false] at hs; rcases hs with rfl | rfl | rfl)
        · exact stpOk_cap k1 (hg 0)
        · exact stpOk_cap k2 (hg 1)
        · exact stpOk_cap k3 (hg 2)
        · exact stpOk_cap k1 (hg 0)
        · exact stpOk_cap k2 (hg 2)
        · exact stpOk_cap k3 (hg 1)
      · cases ha
    · rw [if_neg h5, List.mem_flatMap] at ha
      obtain ⟨l, hl, ha⟩ := ha
      exact msG_ok _ _ l (Nat.le_refl _) (hms hk h5 hf l hl) (rdg_ge _ f hf l hl) a ha s hs

/-! ### letters renamed -/
section
variable (π : UInt8 → UInt8)
def rnS (s : Stp) : Stp := (π s.1, s.2)
theorem mpG_map : ∀ (l : List UInt8) (pts : List Int), mpG (l.map π) pts = (mpG l pts).map (List.map (rnS π))
  | [], pts => rfl
  | c :: r, pts => by
    rw [List.map_cons, mpG, mpG, List.map_flatMap]
    congr 1
    funext i
    rw [mpG_map r, List.map_map, List.map_map]
    rfl
theorem msG_map (hπ : ∀ c, 97 ≤ (π c).toNat ↔ 97 ≤ c.toNat) : ∀ (n : Nat) (ls : List UInt8) (l : List (Int × Int)), ls.length ≤ n → msG (ls.map π) l = (msG ls l).map (List.map (rnS π))
  | n, [], l, _ => by
    have e2 : msG [] l = [[]] := by cases l <;> rfl
    rw [List.map_nil, e2]; rfl
  | n, x :: r, [], _ => by simp [msG]
  | 0, x :: r, s :: l, hn => by simp at hn
  | n + 1, x :: r, s :: l, hn => by
    simp only [List.length_cons, Nat.add_le_add_iff_right] at hn
    by_cases h97 : 97 ≤ x.toNat
    · have h97' := (hπ x).2 h97
      have e2 : ∀ (y : UInt8) (r : List UInt8), 97 ≤ y.toNat → msG (y :: r) (s :: l) = (msG r l).map (fun a => (y, (s.1 + 1, s.2 + 1)) :: a) := by
        intro y r hy
        cases r <;> simp only [msG, if_pos hy]
      rw [List.map_cons, e2 _ _ h97', e2 _ _ h97, msG_map hπ n r l hn, List.map_map, List.map_map]
      rfl
    · have h97' : ¬ 97 ≤ (π x).toNat := fun h => h97 ((hπ x).1 h)
      cases r with
      | nil => simp only [List.map_cons, List.map_nil, msG, if_neg h97, if_neg h97']
      | cons d r =>
        simp only [List.map_cons, msG, if_neg h97, if_neg h97']
        rw [msG_map hπ n r l (by simp at hn; omega), List.map_append]
        congr 1
        · rw [List.map_map, List.map_map]; rfl
        · split
          · rfl
          · rw [List.map_map, List.map_map]; rfl
theorem asgB_map (hπ : ∀ c, 97 ≤ (π c).toNat ↔ 97 ≤ c.toNat) {p : Pat} (hp : p.Fit) (f : Fct) : asgB ⟨p.kind, p.letters.map π, p.n⟩ f = (asgB p f).map (List.map (rnS π)) := by
  unfold asgB
  simp only
  split
  · split
    · exact mpG_map π _ _
    · rfl
  · split
    · split
      · rename_i hk h5 _
        obtain ⟨c1, c2, c3, hl, k1, k2, k3⟩ : ∃ c1 c2 c3, p.letters = [c1, c2, c3] ∧ cap c1 ∧ cap c2 ∧ cap c3 := by
          rcases hp.2 with ⟨h, _⟩ | ⟨_, h⟩ | ⟨h, _⟩ | ⟨h, _⟩
          · omega
          · exact h
          all_goals omega
        rw [hl]
        rfl
      · rfl
    · rw [List.map_flatMap]
      congr 1
      funext l
      exact msG_map π hπ _ _ l (Nat.le_refl _)
end

theorem zero_get (x : UInt8) : Bnd.zero.get x = (0, 0) := by
  have h : ∀ k, Bnd.zero.v.getD k 0 = 0 := by
    intro k
    show (List.replicate 78 (0 : Int)).getD k 0 = 0
    rw [List.getD_eq_getElem?_getD, List.getElem?_replicate]
    split <;> rfl
  unfold Bnd.get Bnd.S1 Bnd.S2 Bnd.P
  split
  · rw [h, h]
  · rw [h]

/-- Two premises of one shape, their letters renamed into each other's: what is bound, with the facts exchanged. -/
theorem turn_match (π : UInt8 → UInt8) (hinv : ∀ c, π (π c) = c) (hπ : ∀ c, 97 ≤ (π c).toNat ↔ 97 ≤ c.toNat) (hlt : ∀ c, ltr c → ltr (π c)) {p q : Pat} (hp : p.Fit) (hq : q.Fit) (hk : q.kind = p.kind) (hn : q.n = p.n) (he : q.letters = p.letters.map π)
    {F G : Fct} (hF : F.Rt) (hG : G.Rt) {b c : Bnd} (hb : b ∈ matchB p F Bnd.zero) (hc : c ∈ matchB q G b) :
    ∃ b' ∈ matchB p G Bnd.zero, ∃ c' ∈ matchB q F b', ∀ x, ltr x → c'.get x = c.get (π x) := by
  obtain ⟨a0, ha0, r0⟩ := (mem_matchB hp hF _ _).1 hb
  obtain ⟨a1, ha1, r1⟩ := (mem_matchB hq hG _ _).1 hc
  have o0 := asgB_ok hp hF a0 ha0
  have o1 := asgB_ok hq hG a1 ha1
  have eq : q = ⟨p.kind, p.letters.map π, p.n⟩ := by
    obtain ⟨k, l, n⟩ := q
    simp only at hk hn he
    subst hk hn he; rfl
  have hr : run (a0 ++ a1) Bnd.zero = some c := by rw [run_append, r0]; exact r1
  obtain ⟨s1, s2, s3⟩ := run_spec (fun s hs => by rcases List.mem_append.1 hs with h | h; exact o0 s h; exact o1 s h) hr
  rw [eq, asgB_map π hπ hp, List.mem_map] at ha1
  obtain ⟨a1', ha1', rfl⟩ := ha1
  have o1' := asgB_ok hp hG a1' ha1'
  have ha0' : a0.map (rnS π) ∈ asgB q F := by
    rw [eq, asgB_map π hπ hp, List.mem_map]
    exact ⟨a0, ha0, rfl⟩
  have o0' := asgB_ok hq hF _ ha0'
  have ok : ∀ s ∈ a1' ++ a0.map (rnS π), stpOk s := fun s hs => by rcases List.mem_append.1 hs with h | h; exact o1' s h; exact o0' s h
  have hg : ∀ s ∈ a1' ++ a0.map (rnS π), c.get (π s.1) = s.2 := by
    intro s hs
    rcases List.mem_append.1 hs with h | h
    · exact s1 (rnS π s) (List.mem_append_right _ (List.mem_map.2 ⟨s, h, rfl⟩))
    · obtain ⟨t, ht, rfl⟩ := List.mem_map.1 h
      show c.get (π (π t.1)) = t.2
      rw [hinv]
      exact s1 t (List.mem_append_left _ ht)
  obtain ⟨c', hc'⟩ := run_of (fun x => c.get (π x)) ok hg (fun x _ h => absurd (zero_get x) h)
  obtain ⟨t1, t2, t3⟩ := run_spec ok hc'
  rw [run_append] at hc'
  cases hb' : run a1' Bnd.zero with
  | none => rw [hb'] at hc'; cases hc'
  | some b' =>
    rw [hb'] at hc'
    refine ⟨b', (mem_matchB hp hG _ _).2 ⟨a1', ha1', hb'⟩, c', (mem_matchB hq hF _ _).2 ⟨_, ha0', hc'⟩, fun x hx => ?_⟩
    by_cases hin : ∃ s ∈ a1' ++ a0.map (rnS π), s.1 = x
    · obtain ⟨s, hs, rfl⟩ := hin
      rw [t1 s hs, hg s hs]
    · rw [t3 x hx fun s hs e => hin ⟨s, hs, e⟩, zero_get]
      rw [s3 (π x) (hlt x hx) fun s hs e => ?_, zero_get]
      apply hin
      rcases List.mem_append.1 hs with h | h
      · exact ⟨rnS π s, List.mem_append_right _ (List.mem_map.2 ⟨s, h, rfl⟩), by show π s.1 = x; rw [e, hinv]⟩
      · obtain ⟨t, ht, rfl⟩ := List.mem_map.1 h
        refine ⟨t, List.mem_append_left _ ht, ?_⟩
        have e : π t.1 = π x := e
        rw [← hinv t.1, e, hinv]

end Go.Va

/-
  The order of two premises: what follows is the same.
-/
namespace Go.Va
set_option maxHeartbeats 4000000
set_option maxRecDepth 10000
set_option linter.unusedSimpArgs false
set_option linter.unusedVariables false

theorem val1_get (b : Bnd) (c : UInt8) : val1 b c = if 97 ≤ c.toNat then [(b.get c).1 - 1, (b.get c).2 - 1] else [(b.get c).1 - 1] := by
  unfold val1 Bnd.get
  split <;> rfl
theorem valsB_turn {π : UInt8 → UInt8} (hπ : ∀ c, 97 ≤ (π c).toNat ↔ 97 ≤ c.toNat) {c c' : Bnd} (h : ∀ x, ltr x → c'.get x = c.get (π x)) : ∀ l : List UInt8, (∀ x ∈ l, ltr x) → valsB c' l = valsB c (l.map π)
  | [], _ => rfl
  | x :: l, hl => by
    have ih := valsB_turn hπ h l fun y hy => hl y (by simp [hy])
    unfold valsB at ih ⊢
    rw [List.map_cons, List.flatMap_cons, List.flatMap_cons, ih, val1_get, val1_get, h x (hl x (by simp))]
    by_cases h97 : 97 ≤ x.toNat
    · rw [if_pos h97, if_pos ((hπ x).2 h97)]
    · rw [if_neg h97, if_neg fun h => h97 ((hπ x).1 h)]

/-- The two premises of a rule may be exchanged, with these letters. -/
structure Exch (r : Rul) (π : UInt8 → UInt8) : Prop where
  inv : ∀ c, π (π c) = c
  cls : ∀ c, 97 ≤ (π c).toNat ↔ 97 ≤ c.toNat
  lt : ∀ c, ltr c → ltr (π c)
  prem : ∃ p q, r.prem = [p, q] ∧ q.kind = p.kind ∧ q.n = p.n ∧ q.letters = p.letters.map π
  guards : ∀ P ∈ r.guards, P.letters.map π = P.letters
  concl : ∀ P ∈ r.concl, ∀ c : Bnd, normF (conF c ⟨P.kind, P.letters.map π, P.n⟩) = normF (conF c P)

theorem says_turn {r : Rul} (hr : r.Good) {π : UInt8 → UInt8} (ht : Exch r π) {F G : Fct} (hF : F.Rt) (hG : G.Rt) : ∀ x ∈ saysP r [F, G], ∃ y ∈ saysP r [G, F], normF y.1 = normF x.1 ∧ y.2 = x.2 := by
  obtain ⟨p, q, hpq, hk, hn, hl⟩ := ht.prem
  have hp := (hr.fit p (by simp [hpq])).1
  have hq := (hr.fit q (by simp [hpq])).1
  have key : ∀ (A B : Fct) (y : Fnew), y ∈ saysP r [A, B] ↔ ∃ b ∈ matchB p A Bnd.zero, ∃ c ∈ matchB q B b, y ∈ endP r c := by
    intro A B y
    unfold saysP
    simp only [List.length_cons, List.length_nil, foundP, List.mem_flatMap]
    have e0 : ∀ b, ruleM r [A, B] 0 b = matchB p A b := fun b => by unfold ruleM; rw [hpq]; rfl
    have e1 : ∀ b, ruleM r [A, B] (0 + 1) b = matchB q B b := fun b => by unfold ruleM; rw [hpq]; rfl
    simp only [e0, e1]
  intro x hx
  obtain ⟨b, hb, c, hc, hx⟩ := (key F G x).1 hx
  obtain ⟨b', hb', c', hc', hg⟩ := turn_match π ht.inv ht.cls ht.lt hp hq hk hn hl hF hG hb hc
  have hv : ∀ P : Pat, P.Ok → valsB c' P.letters = valsB c (P.letters.map π) := fun P hP => valsB_turn ht.cls hg _ hP.2.2
  have hpt : ∀ P ∈ r.guards, ptsOf c' P = ptsOf c P := fun P hP => by
    unfold ptsOf
    rw [hv P (hr.hg P hP).1, ht.guards P hP]
  have hB : guardsB c' r.guards = guardsB c r.guards := by
    unfold guardsB
    congr 1
    rw [Bool.eq_iff_iff, List.any_eq_true, List.any_eq_true]
    constructor
    · rintro ⟨P, hP, h⟩; exact ⟨P, hP, by rw [← hpt P hP]; exact h⟩
    · rintro ⟨P, hP, h⟩; exact ⟨P, hP, by rw [hpt P hP]; exact h⟩
  have hLL : guardsL c' r.guards = guardsL c r.guards := by
    unfold guardsB at hB
    unfold guardsL
    have h1 : (r.guards.any fun p => twice (ptsOf c' p)) = (r.guards.any fun p => twice (ptsOf c p)) := by simpa using hB
    have h2 : r.guards.map (guardOf c') = r.guards.map (guardOf c) := List.map_congr_left fun P hP => by
      unfold guardOf
      rw [hpt P hP]
    rw [h1, h2]
  unfold endP at hx
  split at hx
  · rename_i hgB
    obtain ⟨P, hP, rfl⟩ := List.mem_map.1 hx
    refine ⟨(conF c' P, guardsL c' r.guards), (key G F _).2 ⟨b', hb', c', hc', ?_⟩, ?_, hLL⟩
    · unfold endP
      rw [hB, if_pos hgB]
      exact List.mem_map.2 ⟨P, hP, rfl⟩
    · show normF (conF c' P) = normF (conF c P)
      rw [← ht.concl P hP c]
      unfold conF
      rw [hv P (hr.hc P hP).1]
  · cases hx

/-! ### the order of guards -/
theorem isCmp_G' : IsCmp (fun _ : Grd => True) cmpG := ⟨fun x y _ _ => isCmp_K.rng _ _ trivial trivial, fun x y _ _ => isCmp_K.anti _ _ trivial trivial, fun x y z _ _ _ => isCmp_K.tr _ _ _ trivial trivial trivial⟩
theorem isCmp_lexG : IsCmp (fun _ => True) lexG where
  rng := by
    intro x
    induction x with
    | nil => intro y _ _; cases y <;> simp [lexG]
    | cons a x ih =>
      intro y _ _
      cases y with
      | nil => simp [lexG]
      | cons b y =>
        have h := isCmp_G'.rng a b trivial trivial
        have h2 := ih y trivial trivial
        unfold lexG
        split <;> omega
  anti := by
    intro x
    induction x with
    | nil => intro y _ _; cases y <;> simp [lexG]
    | cons a x ih =>
      intro y _ _
      cases y with
      | nil => simp [lexG]
      | cons b y =>
        have h := isCmp_G'.anti a b trivial trivial
        have h2 := ih y trivial trivial
        unfold lexG
        split <;> split <;> omega
  tr := by
    intro x
    induction x with
    | nil => intro y z _ _ _; cases y <;> cases z <;> simp [lexG]
    | cons a x ih =>
      intro y z _ _ _
      cases y with
      | nil => cases z <;> simp [lexG]
      | cons b y =>
        cases z with
        | nil => simp [lexG]
        | cons c z =>
          have h2 := ih y z trivial trivial trivial
          have t := isCmp_G'.tr a b c trivial trivial trivial
          have t2 := isCmp_G'.tr c b a trivial trivial trivial
          have a1 := isCmp_G'.anti a b trivial trivial
          have a2 := isCmp_G'.anti b c trivial trivial
          have a3 := isCmp_G'.anti a c trivial trivial
          simp only [lexG]
          by_cases h1 : cmpG a b = 0 <;> by_cases h4 : cmpG b c = 0 <;> by_cases h3 : cmpG a c = 0 <;> simp only [h1, h4, h3, ne_eq, not_true_eq_false, not_false_eq_true, if_false, if_true] <;> intro k1 k2
          · exact h2 k1 k2
          all_goals first
            | (have := t (by omega) (by omega); exact ⟨by omega, fun h => by first | exact h.elim | omega⟩)
            | exact ⟨by omega, fun h => by first | exact h.elim | omega⟩
theorem lexG_eq : ∀ (x y : List Grd), lexG x y = 0 ↔ x = y
  | [], [] => by simp [lexG]
  | [], _ :: _ => by simp [lexG]
  | _ :: _, [] => by simp [lexG]
  | a :: x, b :: y => by
    have := lexG_eq x y
    unfold lexG
    split
    · rename_i h
      constructor
      · intro h2; exact absurd h2 h
      · intro h2; simp at h2; exact absurd (cmpG_zero.2 h2.1) h
    · rename_i h
      rw [this]
      have e : a = b := cmpG_zero.1 (Classical.byContradiction fun hn => h hn)
      simp [e]
theorem early_irr (a : List Grd) : earlyG a a = false := by
  unfold earlyG
  rw [if_neg (by simp), (lexG_eq a a).2 rfl]
  rfl
theorem early_tr {a b c : List Grd} (h1 : earlyG a b = true) (h2 : earlyG b c = true) : earlyG a c = true := by
  unfold earlyG at *
  have t := isCmp_lexG.tr a b c trivial trivial trivial
  by_cases e1 : a.length = b.length <;> by_cases e2 : b.length = c.length
  · rw [if_neg (by omega)] at h1 h2 ⊢
    simp only [decide_eq_true_eq] at *
    have := t (by omega) (by omega)
    omega
  · rw [if_neg (by omega)] at h1
    rw [if_pos (by omega)] at h2 ⊢
    simp only [decide_eq_true_eq] at *
    omega
  · rw [if_pos (by omega)] at h1
    rw [if_neg (by omega)] at h2
    rw [if_pos (by omega)]
    simp only [decide_eq_true_eq] at *
    omega
  · rw [if_pos (by omega)] at h1 h2
    simp only [decide_eq_true_eq] at *
    rw [if_pos (by omega), decide_eq_true_eq]
    omega
theorem early_tot {a b : List Grd} (h1 : earlyG a b = false) (h2 : earlyG b a = false) : a = b := by
  unfold earlyG at *
  have an := isCmp_lexG.anti a b trivial trivial
  by_cases e : a.length = b.length
  · rw [if_neg (by omega)] at h1 h2
    simp only [decide_eq_false_iff_not] at *
    exact (lexG_eq a b).1 (by omega)
  · rw [if_pos (by omega)] at h1 h2
    simp only [decide_eq_false_iff_not] at *
    omega

/-! ### what is found does not depend on the order in which it is found -/
def inS (nl : List Fct) (P : List Fnew) (f : Fct) (g : List Grd) : Prop := (∃ x ∈ P, normF x.1 = f ∧ x.2 = g) ∧ ¬ (f.kind = 0 ∨ trivF f = true ∨ anyE f nl = true)
structure Least (nl : List Fct) (P : List Fnew) (l : List Fnd) : Prop where
  sub : ∀ x ∈ l, inS nl P x.fact x.grds
  top : ∀ f g, inS nl P f g → ∃ x ∈ l, x.fact = f ∧ earlyG g x.grds = false

theorem least_step {nl : List Fct} {P : List Fnew} {l : List Fnd} (hl : FndOk l) (h : Least nl P l) (x : Fnew) (hx : (normF x.1).kind ≠ 0 → (normF x.1).Rt) : Least nl (P ++ [x]) (addN nl l (normF x.1) x.2) := by
  have up : ∀ {f g}, inS nl P f g → inS nl (P ++ [x]) f g := fun ⟨⟨y, hy, e⟩, h⟩ => ⟨⟨y, List.mem_append_left _ hy, e⟩, h⟩
  have dn : ∀ {f g}, inS nl (P ++ [x]) f g → inS nl P f g ∨ (normF x.1 = f ∧ x.2 = g) := fun ⟨⟨y, hy, e⟩, h⟩ => by
    rcases List.mem_append.1 hy with hy | hy
    · exact .inl ⟨⟨y, hy, e⟩, h⟩
    · rw [List.mem_singleton] at hy; subst hy; exact .inr e
  by_cases hs : (normF x.1).kind = 0 ∨ trivF (normF x.1) = true ∨ anyE (normF x.1) nl = true
  · rw [addN_skip hs]
    refine ⟨fun y hy => up (h.sub y hy), fun f g hf => ?_⟩
    rcases dn hf with hf' | ⟨rfl, rfl⟩
    · exact h.top f g hf'
    · exact absurd hs hf.2
  · have hrt := hx fun h => hs (.inl h)
    have hin : inS nl (P ++ [x]) (normF x.1) x.2 := ⟨⟨x, by simp, rfl, rfl⟩, hs⟩
    rcases idxE_spec (normF x.1) (l.map Fnd.fact) 0 with ⟨hi, hno⟩ | ⟨k, hkl, hi, hz⟩
    · rw [addN_new hs hi]
      refine ⟨fun y hy => ?_, fun f g hf => ?_⟩
      · rcases List.mem_append.1 hy with hy | hy
        · exact up (h.sub y hy)
        · rw [List.mem_singleton] at hy; subst hy; exact hin
      · rcases dn hf with hf' | ⟨rfl, rfl⟩
        · obtain ⟨y, hy, e, he⟩ := h.top f g hf'
          exact ⟨y, List.mem_append_left _ hy, e, he⟩
        · exact ⟨⟨normF x.1, x.2⟩, by simp, rfl, early_irr _⟩
    · rw [List.length_map] at hkl
      rw [Nat.zero_add] at hi
      rw [addN_old hs hkl hi]
      rw [List.getElem_map] at hz
      have hfk : normF x.1 = l[k].fact := (cmpF_zero hrt (hl.rt _ (List.getElem_mem hkl))).1 hz
      have uniq : ∀ y ∈ l, y.fact = normF x.1 → y = l[k] := fun y hy e => by
        obtain ⟨i, hi, rfl⟩ := List.mem_iff_getElem.1 hy
        have hp := List.pairwise_iff_getElem.1 hl.nd
        rcases Nat.lt_trichotomy i k with h1 | h1 | h1
        · exact absurd (e.trans hfk) (hp i k hi hkl h1)
        · subst h1; rfl
        · exact absurd (e.trans hfk).symm (hp k i hkl hi h1)
      by_cases he : earlyG x.2 l[k].grds = true
      · rw [if_pos he]
        refine ⟨fun y hy => ?_, fun f g hf => ?_⟩
        · rcases List.mem_or_eq_of_mem_set hy with hy | rfl
          · exact up (h.sub y hy)
          · rw [← hfk]; exact hin
        · have hmem : (⟨l[k].fact, x.2⟩ : Fnd) ∈ l.set k ⟨l[k].fact, x.2⟩ := List.mem_set hkl _
          rcases dn hf with hf' | ⟨rfl, rfl⟩
          · obtain ⟨y, hy, e, hee⟩ := h.top f g hf'
            by_cases hyk : y = l[k]
            · refine ⟨_, hmem, by rw [← hyk]; exact e, ?_⟩
              rw [Bool.eq_false_iff]
              intro hc
              have := early_tr hc he
              rw [hyk] at hee
              rw [hee] at this
              cases this
            · obtain ⟨i, hi2, rfl⟩ := List.mem_iff_getElem.1 hy
              have hik : k ≠ i := fun e => hyk (by subst e; rfl)
              refine ⟨l[i], ?_, e, hee⟩
              rw [List.mem_iff_getElem]
              exact ⟨i, by simpa using hi2, by rw [List.getElem_set_ne hik]⟩
          · exact ⟨_, hmem, hfk.symm, early_irr _⟩
      · rw [if_neg he]
        refine ⟨fun y hy => up (h.sub y hy), fun f g hf => ?_⟩
        rcases dn hf with hf' | ⟨rfl, rfl⟩
        · exact h.top f g hf'
        · exact ⟨l[k], List.getElem_mem hkl, hfk.symm, by simpa using he⟩

theorem least_run {nl : List Fct} : ∀ (Q P : List Fnew) (l : List Fnd), FndOk l → Least nl P l → (∀ x ∈ Q, newOk x) → Least nl (P ++ Q) (runF nl l Q)
  | [], P, l, _, h, _ => by rw [List.append_nil]; exact h
  | x :: Q, P, l, hl, h, hQ => by
    have hx := hQ x (by simp)
    have := least_run Q (P ++ [x]) (addN nl l (normF x.1) x.2) (addN_ok hl (normF_rt hx.1) hx.2) (least_step hl h x (normF_rt hx.1)) fun y hy => hQ y (by simp [hy])
    rw [List.append_assoc] at this
    exact this
theorem runF_least {nl : List Fct} {P : List Fnew} (hP : ∀ x ∈ P, newOk x) : Least nl P (runF nl [] P) := by
  have := least_run (nl := nl) P [] [] .nil ⟨by simp, fun f g h => by obtain ⟨⟨x, hx, _⟩, _⟩ := h; cases hx⟩ hP
  exact this

theorem least_sub {nl nl' : List Fct} {P P' : List Fnew} {l l' : List Fnd} (hl : FndOk l) (h : Least nl P l) (h' : Least nl' P' l') (hs : ∀ f g, inS nl P f g ↔ inS nl' P' f g) : ∀ x ∈ l, x ∈ l' := by
  intro x hx
  obtain ⟨y, hy, e, he⟩ := h'.top _ _ ((hs _ _).1 (h.sub x hx))
  obtain ⟨z, hz, e2, he2⟩ := h.top _ _ ((hs _ _).2 (h'.sub y hy))
  have hzx : z = x := by
    obtain ⟨i, hi, rfl⟩ := List.mem_iff_getElem.1 hx
    obtain ⟨j, hj, rfl⟩ := List.mem_iff_getElem.1 hz
    have hp := List.pairwise_iff_getElem.1 hl.nd
    rcases Nat.lt_trichotomy i j with h1 | h1 | h1
    · exact absurd (e2.trans e).symm (hp i j hi hj h1)
    · subst h1; rfl
    · exact absurd (e2.trans e) (hp j i hj hi h1)
  subst hzx
  have hg := early_tot he he2
  obtain ⟨f1, g1⟩ := z
  obtain ⟨f2, g2⟩ := y
  simp only at *
  subst hg
  subst e
  exact hy
theorem FndOk.nodup {l : List Fnd} (h : FndOk l) : l.Nodup := h.nd.imp fun hne e => hne (by rw [e])
theorem sort_least {nl nl' : List Fct} {P P' : List Fnew} {l l' : List Fnd} (hl : FndOk l) (hl' : FndOk l') (h : Least nl P l) (h' : Least nl' P' l') (hs : ∀ f g, inS nl P f g ↔ inS nl' P' f g) : sortBy cmpN l = sortBy cmpN l' := by
  have hp : l.Perm l' := (List.perm_ext_iff_of_nodup hl.nodup hl'.nodup).2 fun x => ⟨least_sub hl h h' hs x, least_sub hl' h' h (fun f g => (hs f g).symm) x⟩
  have hC : IsCmp (fun x => x ∈ l') cmpN := ⟨fun x y hx hy => isCmp_F.rng _ _ (hl'.rt x hx).num (hl'.rt y hy).num, fun x y hx hy => isCmp_F.anti _ _ (hl'.rt x hx).num (hl'.rt y hy).num, fun x y z hx hy hz => isCmp_F.tr _ _ _ (hl'.rt x hx).num (hl'.rt y hy).num (hl'.rt z hz).num⟩
  refine sortBy_of hC (fun x y hx hy h0 => ?_) (fun x hx => hx) ((sortBy_perm l).trans hp) ?_
  · have e : x.fact = y.fact := (cmpF_zero (hl'.rt x hx) (hl'.rt y hy)).1 h0
    obtain ⟨i, hi, rfl⟩ := List.mem_iff_getElem.1 hx
    obtain ⟨j, hj, rfl⟩ := List.mem_iff_getElem.1 hy
    have hp := List.pairwise_iff_getElem.1 hl'.nd
    rcases Nat.lt_trichotomy i j with h1 | h1 | h1
    · exact absurd e (hp i j hi hj h1)
    · subst h1; rfl
    · exact absurd e.symm (hp j i hj hi h1)
  · exact sortBy_sorted hC fun x hx => hp.mem_iff.1 hx

theorem outF_turn {r : Rul} (hr : r.Good) {π : UInt8 → UInt8} (ht : Exch r π) {F G : Fct} (hF : F.Rt) (hG : G.Rt) : outF r [F, G] = outF r [G, F] := by
  have rt2 : ∀ {A B : Fct}, A.Rt → B.Rt → ∀ f ∈ [A, B], f.Rt := fun hA hB f hf => by
    simp only [List.mem_cons, List.not_mem_nil, or_false] at hf
    rcases hf with rfl | rfl <;> assumption
  have ok1 := saysP_ok r hr [F, G] (rt2 hF hG)
  have ok2 := saysP_ok r hr [G, F] (rt2 hG hF)
  have any : ∀ A B f, anyE f [A, B] = anyE f [B, A] := fun A B f => by simp [anyE, Bool.or_comm]
  have one : ∀ {A B : Fct}, A.Rt → B.Rt → ∀ f g, inS [A, B] (saysP r [A, B]) f g → inS [B, A] (saysP r [B, A]) f g := by
    rintro A B hA hB f g ⟨⟨x, hx, rfl, rfl⟩, hn⟩
    obtain ⟨y, hy, e1, e2⟩ := says_turn hr ht hA hB x hx
    exact ⟨⟨y, hy, e1, e2⟩, by rw [any B A]; exact hn⟩
  exact sort_least (runF_ok _ [] .nil ok1) (runF_ok _ [] .nil ok2) (runF_least ok1) (runF_least ok2) fun f g => ⟨one hF hG f g, one hG hF f g⟩

theorem follT_turn {n : Int} {π : UInt8 → UInt8} (ht : Exch (rulT n) π) {f g : Fct} (hf : f.Mild) (hg : g.Mild) : follT n [f, g] = follT n [g, f] := by
  unfold follT
  have e1 : ([f, g].length : Int) = [g, f].length := rfl
  rw [e1]
  split
  · rfl
  · simp only [List.map_cons, List.map_nil, List.any_cons, List.any_nil, Bool.or_false]
    rw [Bool.or_comm]
    split
    · rfl
    · rename_i hz
      simp only [Bool.or_eq_true, decide_eq_true_eq, not_or] at hz
      exact outF_turn (rulT_good n) ht (normF_rt hf hz.2) (normF_rt hg hz.1)

end Go.Va
