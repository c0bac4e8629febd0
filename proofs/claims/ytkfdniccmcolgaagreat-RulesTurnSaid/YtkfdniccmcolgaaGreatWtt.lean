/-
  The order of two premises: nine rules.
-/
import Derived.Test.YtkfdniccmcolgaaGreatWt
set_option linter.all false

namespace Go.Va
set_option maxHeartbeats 4000000
set_option maxRecDepth 10000
set_option linter.unusedSimpArgs false
set_option linter.unusedVariables false

/-! ### normal forms -/
theorem lo_comm (a b : Int) : lo b a = lo a b := by unfold lo; split <;> split <;> omega
theorem hi_comm (a b : Int) : hi b a = hi a b := by unfold hi; split <;> split <;> omega
theorem two_comm (a b : Int) : two b a = two a b := by unfold two; rw [lo_comm, hi_comm]
theorem two_le (a b : Int) : (two a b).1 ≤ (two a b).2 := by unfold two lo hi; simp only; split <;> omega
theorem okF_perm {k : Int} {l l' : List Int} {n : Bool} {m d : List Nat} (h : l.Perm l') : okF ⟨k, l, n, m, d⟩ = okF ⟨k, l', n, m, d⟩ := by
  unfold okF wrong
  simp only
  rw [h.length_eq, h.any_eq]
theorem cmpP_lt (p q : Int × Int) : cmpP p q < 0 ↔ p.1 < q.1 ∨ p.1 = q.1 ∧ p.2 < q.2 := by
  unfold cmpP orL orL orL cmpZ
  by_cases h1 : p.1 < q.1
  · simp [h1]
  · by_cases h2 : q.1 < p.1
    · simp [h1, h2]; omega
    · by_cases h3 : p.2 < q.2
      · simp [h1, h2, h3]; omega
      · by_cases h4 : q.2 < p.2
        · simp [h1, h2, h3, h4]
        · simp [h1, h2, h3, h4]
theorem normPairF_comm (k : Int) (p q : Int × Int) : normPairF k q p = normPairF k p q := by
  unfold normPairF
  by_cases h1 : cmpP p q < 0
  · have h2 : ¬ cmpP q p < 0 := by rw [cmpP_lt] at h1 ⊢; omega
    rw [if_pos h1, if_neg h2]
  · by_cases h2 : cmpP q p < 0
    · rw [if_neg h1, if_pos h2]
    · rw [if_neg h1, if_neg h2]
      rw [cmpP_lt] at h1 h2
      rw [show q.1 = p.1 by omega, show q.2 = p.2 by omega]
theorem sortL_perm {l l' : List Int} (h : l.Perm l') : sortL l = sortL l' := by
  refine sortL_of ?_ ?_
  · rw [sortL_eq]; exact (sortI_perm l).trans h
  · rw [sortL_eq]; exact sortI_sorted l
theorem perm3 {a b c a' b' c' : Int} (h : (a = a' ∧ b = b' ∧ c = c') ∨ (a = a' ∧ b = c' ∧ c = b') ∨ (a = b' ∧ b = a' ∧ c = c') ∨ (a = b' ∧ b = c' ∧ c = a') ∨ (a = c' ∧ b = a' ∧ c = b') ∨ (a = c' ∧ b = b' ∧ c = a')) : [a, b, c].Perm [a', b', c'] := by
  rcases h with ⟨rfl, rfl, rfl⟩ | ⟨rfl, rfl, rfl⟩ | ⟨rfl, rfl, rfl⟩ | ⟨rfl, rfl, rfl⟩ | ⟨rfl, rfl, rfl⟩ | ⟨rfl, rfl, rfl⟩
  · exact .refl _
  · exact (List.Perm.swap _ _ _).cons a
  · exact List.Perm.swap _ _ _
  · exact List.perm_append_comm (l₁ := [_, _]) (l₂ := [_])
  · exact List.perm_append_comm (l₁ := [_]) (l₂ := [_, _])
  · exact (List.reverse_perm [_, _, _]).symm
theorem normParF_comm {p q : Int × Int} (hp : p.1 ≤ p.2) (hq : q.1 ≤ q.2) : normParF q p = normParF p q := by
  obtain ⟨a, b⟩ := p
  obtain ⟨c, d⟩ := q
  simp only at hp hq
  unfold normParF
  simp only
  have hs : ∀ x y z x' y' z' : Int, [x, y, z].Perm [x', y', z'] → (⟨1, sortL [x, y, z], false, [], []⟩ : Fct) = ⟨1, sortL [x', y', z'], false, [], []⟩ := fun _ _ _ _ _ _ h => by rw [sortL_perm h]
  by_cases h1 : c = a ∨ d = a
  · rw [if_pos h1]
    by_cases h2 : a = c ∨ b = c
    · rw [if_pos h2]
      refine hs _ _ _ _ _ _ (perm3 ?_)
      unfold oth
      omega
    · rw [if_neg h2, if_pos (by omega : a = d ∨ b = d)]
      refine hs _ _ _ _ _ _ (perm3 ?_)
      unfold oth
      omega
  · rw [if_neg h1]
    by_cases h3 : c = b ∨ d = b
    · rw [if_pos h3]
      by_cases h2 : a = c ∨ b = c
      · rw [if_pos h2]
        refine hs _ _ _ _ _ _ (perm3 ?_)
        unfold oth
        omega
      · rw [if_neg h2, if_pos (by omega : a = d ∨ b = d)]
        refine hs _ _ _ _ _ _ (perm3 ?_)
        unfold oth
        omega
    · rw [if_neg h3, if_neg (by omega : ¬ (a = c ∨ b = c)), if_neg (by omega : ¬ (a = d ∨ b = d))]
      exact normPairF_comm 2 _ _
theorem normAngF_comm (u v w z : Int × Int) : normAngF v u z w = normAngF u v w z := by
  unfold normAngF
  generalize srt2 v w = A
  generalize srt2 u z = B
  obtain ⟨⟨a1, a2⟩, ⟨a3, a4⟩⟩ := A
  obtain ⟨⟨b1, b2⟩, ⟨b3, b4⟩⟩ := B
  simp only
  have key : ∀ p q r s : Int × Int, orL [cmpP p q, cmpP r s] < 0 ↔ cmpP p q < 0 ∨ p = q ∧ cmpP r s < 0 := by
    intro p q r s
    have hz : cmpP p q = 0 ↔ p = q := by
      unfold cmpP orL orL orL cmpZ
      obtain ⟨p1, p2⟩ := p
      obtain ⟨q1, q2⟩ := q
      simp only [Prod.mk.injEq]
      split
      · simp; omega
      · split
        · simp; omega
        · simp; split
          · simp; omega
          · split
            · simp; omega
            · simp; omega
    unfold orL orL orL
    by_cases h : cmpP p q = 0
    · have hpq := hz.1 h
      subst hpq
      have h0 : ¬ cmpP p p < 0 := by omega
      simp only [h, h0, if_true, false_or, true_and, ne_eq, not_true_eq_false, if_false]
      split <;> omega
    · have : p ≠ q := fun e => h (hz.2 e)
      simp [h, this]
  by_cases h1 : orL [cmpP (b1, b2) (a1, a2), cmpP (b3, b4) (a3, a4)] < 0
  · have h2 : ¬ orL [cmpP (a1, a2) (b1, b2), cmpP (a3, a4) (b3, b4)] < 0 := by
      rw [key, cmpP_lt, cmpP_lt] at h1 ⊢
      simp only [Prod.mk.injEq] at *
      omega
    rw [if_pos h1, if_neg h2]
  · by_cases h2 : orL [cmpP (a1, a2) (b1, b2), cmpP (a3, a4) (b3, b4)] < 0
    · rw [if_neg h1, if_pos h2]
    · rw [if_neg h1, if_neg h2]
      rw [key, cmpP_lt, cmpP_lt] at h1 h2
      simp only [Prod.mk.injEq] at *
      have : a1 = b1 ∧ a2 = b2 ∧ a3 = b3 ∧ a4 = b4 := by omega
      obtain ⟨rfl, rfl, rfl, rfl⟩ := this
      rfl

theorem normF_cong {k : Int} {l l' : List Int} {n : Bool} {m d : List Nat} (h : l.Perm l') (hg : normG ⟨k, l, n, m, d⟩ = normG ⟨k, l', n, m, d⟩) : normF ⟨k, l, n, m, d⟩ = normF ⟨k, l', n, m, d⟩ := by
  unfold normF
  rw [okF_perm h, hg]
theorem normG_lists {k : Int} {a b c d a' b' c' d' : Int} {n : Bool} {m e : List Nat} (hk : k = 2 ∨ k = 3 ∨ k = 4 ∨ k = 9) (h1 : two a' b' = two a b) (h2 : two c' d' = two c d) : normG ⟨k, [a', b', c', d'], n, m, e⟩ = normG ⟨k, [a, b, c, d], n, m, e⟩ := by
  unfold normG
  rcases hk with rfl | rfl | rfl | rfl <;> simp [h1, h2]
theorem normF_both {k : Int} (a b c d : Int) {n : Bool} {m e : List Nat} (hk : k = 2 ∨ k = 3 ∨ k = 4 ∨ k = 9) : normF ⟨k, [b, a, d, c], n, m, e⟩ = normF ⟨k, [a, b, c, d], n, m, e⟩ :=
  normF_cong ((List.Perm.swap _ _ _).trans (((List.Perm.swap _ _ _).cons _).cons _)) (normG_lists hk (two_comm _ _) (two_comm _ _))
theorem normF_second {k : Int} (a b c d : Int) {n : Bool} {m e : List Nat} (hk : k = 2 ∨ k = 3 ∨ k = 4 ∨ k = 9) : normF ⟨k, [a, b, d, c], n, m, e⟩ = normF ⟨k, [a, b, c, d], n, m, e⟩ :=
  normF_cong (((List.Perm.swap _ _ _).cons _).cons _) (normG_lists hk rfl (two_comm _ _))
theorem perm_pairs (a b c d : Int) : [c, d, a, b].Perm [a, b, c, d] := List.perm_append_comm (l₁ := [c, d]) (l₂ := [a, b])
theorem normF_swap (a b c d : Int) {n : Bool} {m e : List Nat} : normF ⟨2, [c, d, a, b], n, m, e⟩ = normF ⟨2, [a, b, c, d], n, m, e⟩ := by
  refine normF_cong (perm_pairs a b c d) ?_
  unfold normG
  simp only
  exact normParF_comm (two_le a b) (two_le c d)
theorem normF_ang (a b c d e f g h : Int) {n : Bool} {m q : List Nat} : normF ⟨7, [c, d, a, b, g, h, e, f], n, m, q⟩ = normF ⟨7, [a, b, c, d, e, f, g, h], n, m, q⟩ := by
  refine normF_cong ?_ ?_
  · exact List.Perm.append (perm_pairs a b c d) (perm_pairs e f g h)
  · unfold normG
    simp
    exact normAngF_comm _ _ _ _
theorem normF_srt {k : Int} {l l' : List Int} {n : Bool} {m q : List Nat} (hk : k = 6 ∨ k = 8) (h : l.Perm l') : normF ⟨k, l, n, m, q⟩ = normF ⟨k, l', n, m, q⟩ := by
  refine normF_cong h ?_
  unfold normG
  rcases hk with rfl | rfl <;> simp [sortL_perm h]

/-! ### letters exchanged -/
def sw2 (a b c : UInt8) : UInt8 := if c = a then b else if c = b then a else c
theorem ltrB_of {c : UInt8} (h : ltr c) : ltrB c = true := by
  unfold ltrB capB
  unfold ltr at h
  simpa using h
def chkL (π : UInt8 → UInt8) (c : UInt8) : Bool := decide (π (π c) = c) && (decide (97 ≤ (π c).toNat) == decide (97 ≤ c.toNat)) && (!ltrB c || ltrB (π c))
theorem chk_all {π : UInt8 → UInt8} (h : ∀ n : Fin 256, chkL π (UInt8.ofNat n.val) = true) (c : UInt8) : π (π c) = c ∧ (97 ≤ (π c).toNat ↔ 97 ≤ c.toNat) ∧ (ltr c → ltr (π c)) := by
  have hc := h ⟨c.toNat, c.toNat_lt⟩
  simp only [UInt8.ofNat_toNat] at hc
  unfold chkL at hc
  simp only [Bool.and_eq_true, decide_eq_true_eq, beq_iff_eq, Bool.or_eq_true, Bool.not_eq_true'] at hc
  obtain ⟨⟨h1, h2⟩, h3⟩ := hc
  refine ⟨h1, by simpa using h2, fun hl => ?_⟩
  rcases h3 with h3 | h3
  · rw [ltrB_of hl] at h3; cases h3
  · exact ltrB_iff h3
theorem exch_of {r : Rul} {π : UInt8 → UInt8} (h : ∀ n : Fin 256, chkL π (UInt8.ofNat n.val) = true) (hp : ∃ p q, r.prem = [p, q] ∧ q.kind = p.kind ∧ q.n = p.n ∧ q.letters = p.letters.map π) (hg : ∀ P ∈ r.guards, P.letters.map π = P.letters)
    (hc : ∀ P ∈ r.concl, ∀ c : Bnd, normF (conF c ⟨P.kind, P.letters.map π, P.n⟩) = normF (conF c P)) : Exch r π :=
  ⟨fun c => (chk_all h c).1, fun c => (chk_all h c).2.1, fun c => (chk_all h c).2.2, hp, hg, hc⟩

theorem exch1 : Exch (rulT 1) (sw2 116 117) := by
  refine exch_of (by decide +kernel) ⟨_, _, rfl, rfl, rfl, by decide⟩ (by decide) fun P hP c => ?_
  obtain rfl : P = pPar [116, 117] := by simpa [rulT, rulN] using hP
  exact normF_swap _ _ _ _
theorem exch3 : Exch (rulT 3) (sw2 116 117) := by
  refine exch_of (by decide +kernel) ⟨_, _, rfl, rfl, rfl, by decide⟩ (by decide) fun P hP c => ?_
  obtain rfl : P = pPar [116, 117] := by simpa [rulT, rulN] using hP
  exact normF_swap _ _ _ _
theorem exch6 : Exch (rulT 6) (fun c => sw2 77 78 (sw2 66 67 c)) := by
  refine exch_of (by decide +kernel) ⟨_, _, rfl, rfl, rfl, by decide⟩ (by decide) fun P hP c => ?_
  obtain rfl | rfl : P = pPar [77, 78, 66, 67] ∨ P = pRat [66, 67, 77, 78] 4 := by simpa [rulT, rulN] using hP
  · exact normF_both _ _ _ _ (by decide)
  · exact normF_both _ _ _ _ (by decide)
theorem exch7 : Exch (rulT 7) (fun c => sw2 65 67 (sw2 66 68 c)) := by
  refine exch_of (by decide +kernel) ⟨_, _, rfl, rfl, rfl, by decide⟩ (by decide) fun P hP c => ?_
  obtain rfl | rfl : P = pPar [65, 67, 66, 68] ∨ P = pCong [65, 67, 66, 68] := by simpa [rulT, rulN] using hP
  · exact normF_both _ _ _ _ (by decide)
  · exact normF_both _ _ _ _ (by decide)
theorem exch8 : Exch (rulT 8) (sw2 77 78) := by
  refine exch_of (by decide +kernel) ⟨_, _, rfl, rfl, rfl, by decide⟩ (by decide) fun P hP c => ?_
  obtain rfl : P = pSame [77, 78] := by simpa [rulT, rulN] using hP
  exact normF_srt (l := [_, _]) (l' := [_, _]) (by decide) (List.Perm.swap _ _ _)
theorem exch10 : Exch (rulT 10) (sw2 80 81) := by
  refine exch_of (by decide +kernel) ⟨_, _, rfl, rfl, rfl, by decide⟩ (by decide) fun P hP c => ?_
  obtain rfl : P = pPerp [65, 66, 80, 81] := by simpa [rulT, rulN] using hP
  exact normF_second _ _ _ _ (by decide)
theorem exch12 : Exch (rulT 12) (sw2 68 69) := by
  refine exch_of (by decide +kernel) ⟨_, _, rfl, rfl, rfl, by decide⟩ (by decide) fun P hP c => ?_
  obtain rfl : P = pCirc [65, 66, 68, 69] := by simpa [rulT, rulN] using hP
  exact normF_srt (l := [_, _, _, _]) (l' := [_, _, _, _]) (by decide) (((List.Perm.swap _ _ _).cons _).cons _)
theorem exch16 : Exch (rulT 16) (fun c => sw2 117 119 (sw2 118 120 c)) := by
  refine exch_of (by decide +kernel) ⟨_, _, rfl, rfl, rfl, by decide⟩ (by decide) fun P hP c => ?_
  obtain rfl : P = pAng [119, 117, 120, 118] := by simpa [rulT, rulN] using hP
  exact normF_ang _ _ _ _ _ _ _ _
theorem exch18 : Exch (rulT 18) (sw2 67 68) := by
  refine exch_of (by decide +kernel) ⟨_, _, rfl, rfl, rfl, by decide⟩ (by decide) fun P hP c => ?_
  obtain rfl : P = pCirc [65, 66, 67, 68] := by simpa [rulT, rulN] using hP
  exact normF_srt (l := [_, _, _, _]) (l' := [_, _, _, _]) (by decide) (((List.Perm.swap _ _ _).cons _).cons _)

/-- The rules whose premises may be exchanged. -/
def isTurn (n : Int) : Prop := n = 1 ∨ n = 3 ∨ n = 6 ∨ n = 7 ∨ n = 8 ∨ n = 10 ∨ n = 12 ∨ n = 16 ∨ n = 18
theorem turn_eq {n : Int} (h : isTurn n) {f g : Fct} (hf : f.Mild) (hg : g.Mild) : follT n [f, g] = follT n [g, f] := by
  rcases h with rfl | rfl | rfl | rfl | rfl | rfl | rfl | rfl | rfl
  · exact follT_turn exch1 hf hg
  · exact follT_turn exch3 hf hg
  · exact follT_turn exch6 hf hg
  · exact follT_turn exch7 hf hg
  · exact follT_turn exch8 hf hg
  · exact follT_turn exch10 hf hg
  · exact follT_turn exch12 hf hg
  · exact follT_turn exch16 hf hg
  · exact follT_turn exch18 hf hg

end Go.Va
