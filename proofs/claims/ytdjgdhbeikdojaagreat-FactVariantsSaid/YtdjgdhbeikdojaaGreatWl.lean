/-
  The variants of a fact, in plain words: the orders of its arguments that the exchanges make.
-/
import Derived.Test.YtdjgdhbeikdojaaGreatWk
set_option linter.all false

namespace Go.Va
open Go.Proofs
set_option maxHeartbeats 4000000
set_option maxRecDepth 100000
set_option linter.unusedSimpArgs false
set_option linter.unusedVariables false

/-- An order of the arguments, and whether the ratio is turned. -/
abbrev Ord := List Int × Bool
def cmpS (g x : Ord) : Ord := (x.1.map (toAt g.1), g.2 != x.2)
def idS (n : Nat) : Ord := ((List.range n).map fun i : Nat => (i : Int), false)
def bld (n : Nat) (xs : List Ord) : List (Nat × Nat) → List Ord → List Ord
  | [], acc => acc
  | p :: r, acc => bld n xs r (acc ++ [cmpS (acc.getD p.1 (idS n)) (xs.getD p.2 (idS n))])
def stp1 : List (Nat × Nat) := [(0, 0), (0, 1), (1, 1), (2, 0), (3, 0)]
def stp6 : List (Nat × Nat) := [(0, 0), (0, 1), (0, 2), (1, 1), (1, 2), (2, 0), (2, 2), (3, 1), (4, 0), (4, 2), (5, 1), (6, 2), (7, 1), (8, 0), (9, 2), (10, 1), (11, 0), (12, 1), (13, 0), (15, 1), (16, 0), (18, 0), (20, 0)]
def stp8 : List (Nat × Nat) := [(0, 0)]
def stp5 : List (Nat × Nat) := [(0, 0)]
def stp7 : List (Nat × Nat) := [(0, 0), (0, 1), (0, 2), (0, 3), (1, 1), (1, 2), (1, 3), (2, 2), (2, 3), (3, 0), (3, 3), (4, 0), (5, 2), (5, 3), (6, 0), (6, 3), (7, 0), (8, 0), (8, 3), (9, 0), (10, 2), (10, 3), (11, 0), (12, 2), (12, 3), (13, 0), (13, 3), (14, 0), (15, 2), (15, 3), (16, 0), (17, 2), (17, 3), (18, 2), (18, 3), (19, 0), (20, 2), (20, 3), (21, 3), (22, 0), (23, 2), (23, 3), (24, 0), (24, 3), (26, 2), (26, 3), (27, 0), (28, 2), (28, 3), (29, 3), (30, 0), (31, 2), (31, 3), (32, 0), (32, 3), (34, 3), (35, 0), (36, 2), (36, 3), (37, 0), (37, 3), (39, 0), (40, 2), (40, 3), (41, 0), (41, 3), (43, 3), (45, 3), (46, 0), (47, 2), (47, 3), (48, 0), (48, 3), (50, 0), (51, 2), (51, 3), (52, 0), (52, 3), (54, 3), (56, 0), (57, 2), (57, 3), (58, 0), (58, 3), (60, 3), (62, 2), (62, 3), (63, 0), (63, 3), (65, 3), (68, 0), (69, 2), (69, 3), (70, 0), (70, 3), (72, 3), (74, 2), (74, 3), (75, 0), (75, 3), (77, 3), (80, 2), (80, 3), (81, 0), (81, 3), (83, 3), (86, 0), (86, 3), (88, 3), (91, 2), (91, 3), (92, 0), (92, 3), (94, 3), (97, 0), (97, 3), (99, 3), (102, 0), (102, 3), (104, 3), (107, 3), (110, 0), (110, 3), (112, 3), (115, 3), (118, 3), (122, 3)]
def stp2 : List (Nat × Nat) := [(0, 0), (0, 1), (0, 2), (1, 1), (1, 2), (2, 2), (4, 2)]
def stp9 : List (Nat × Nat) := [(0, 0), (0, 1), (0, 2), (1, 1), (1, 2), (2, 2), (4, 2)]
def stp10 : List (Nat × Nat) := [(0, 0), (0, 1), (1, 1)]

/-- A fact put where it belongs, unless it is there. -/
def putF : List Fct → Fct → List Fct
  | [], f => [f]
  | a :: l, f => if cmpF a f < 0 then a :: putF l f else if cmpF a f = 0 then a :: l else f :: a :: l

theorem putF_mem {f : Fct} (hf : f.Rt) : ∀ {l : List Fct}, (∀ x ∈ l, x.Rt) → ∀ x, x ∈ putF l f ↔ x = f ∨ x ∈ l
  | [], _, x => by simp [putF]
  | a :: l, h, x => by
    have ih := putF_mem hf (l := l) (fun x hx => h x (by simp [hx])) x
    unfold putF
    split
    · simp only [List.mem_cons, ih]
      constructor
      · rintro (h1 | h1 | h1) <;> simp [h1]
      · rintro (h1 | h1 | h1) <;> simp [h1]
    · split
      · rename_i h0
        have e := (cmpF_zero (h a (by simp)) hf).1 h0
        subst e
        simp only [List.mem_cons]
        constructor
        · intro h1; exact .inr h1
        · rintro (h1 | h1)
          · exact .inl h1
          · exact h1
      · simp
theorem putF_sorted {f : Fct} (hf : f.Rt) : ∀ {l : List Fct}, (∀ x ∈ l, x.Rt) → l.Pairwise (fun a b => cmpF a b < 0) → (putF l f).Pairwise (fun a b => cmpF a b < 0)
  | [], _, _ => by simp [putF]
  | a :: l, h, hp => by
    rw [List.pairwise_cons] at hp
    have ha := h a (by simp)
    have hl := fun x hx => h x (List.mem_cons_of_mem a hx)
    unfold putF
    split
    · rename_i hlt
      rw [List.pairwise_cons]
      refine ⟨fun b hb => ?_, putF_sorted hf hl hp.2⟩
      rcases (putF_mem hf hl b).1 hb with rfl | hb
      · exact hlt
      · exact hp.1 b hb
    · split
      · rw [List.pairwise_cons]; exact hp
      · rename_i h1 h2
        have hfa : cmpF f a < 0 := by have := isCmp_F.anti a f ha.num hf.num; omega
        rw [List.pairwise_cons, List.pairwise_cons]
        refine ⟨fun b hb => ?_, hp.1, hp.2⟩
        rcases List.mem_cons.1 hb with rfl | hb
        · exact hfa
        · have := isCmp_F.tr f a b hf.num ha.num (hl b hb).num (by omega) (by have := hp.1 b hb; omega)
          have := hp.1 b hb
          omega
def putsF (l : List Fct) (m : List Fct) : List Fct := m.foldl putF l
theorem putsF_mem : ∀ {m l : List Fct}, (∀ x ∈ l, x.Rt) → (∀ x ∈ m, x.Rt) → ∀ x, x ∈ putsF l m ↔ x ∈ l ∨ x ∈ m
  | [], l, _, _, x => by simp [putsF]
  | f :: m, l, hl, hm, x => by
    have hf := hm f (by simp)
    have ih := putsF_mem (m := m) (l := putF l f) (fun y hy => by
      rcases (putF_mem hf hl y).1 hy with rfl | hy
      · exact hf
      · exact hl y hy) (fun y hy => hm y (by simp [hy])) x
    show x ∈ putsF (putF l f) m ↔ _
    rw [ih, putF_mem hf hl]
    simp only [List.mem_cons]
    constructor
    · rintro ((h | h) | h) <;> simp [h]
    · rintro (h | h | h) <;> simp [h]
theorem putsF_sorted : ∀ {m l : List Fct}, (∀ x ∈ l, x.Rt) → (∀ x ∈ m, x.Rt) → l.Pairwise (fun a b => cmpF a b < 0) → (putsF l m).Pairwise (fun a b => cmpF a b < 0)
  | [], l, _, _, h => h
  | f :: m, l, hl, hm, h => by
    have hf := hm f (by simp)
    exact putsF_sorted (m := m) (l := putF l f) (fun y hy => by
      rcases (putF_mem hf hl y).1 hy with rfl | hy
      · exact hf
      · exact hl y hy) (fun y hy => hm y (by simp [hy])) (putF_sorted hf hl h)
theorem putF_len (f : Fct) : ∀ l : List Fct, (putF l f).length ≤ l.length + 1
  | [] => by simp [putF]
  | a :: l => by
    unfold putF
    split
    · have := putF_len f l; simp only [List.length_cons]; omega
    · split <;> simp
theorem putsF_len : ∀ (m l : List Fct), (putsF l m).length ≤ l.length + m.length
  | [], l => by simp [putsF]
  | f :: m, l => by
    have := putsF_len m (putF l f)
    have := putF_len f l
    show (putsF (putF l f) m).length ≤ _
    simp only [List.length_cons]
    omega

/-- Lists in strict order with the same facts are equal. -/
theorem strict_ext : ∀ {l m : List Fct}, (∀ x ∈ l, x.Rt) → (∀ x ∈ m, x.Rt) → l.Pairwise (fun a b => cmpF a b < 0) → m.Pairwise (fun a b => cmpF a b < 0) → (∀ x, x ∈ l ↔ x ∈ m) → l = m := by
  intro l m hl hm pl pm h
  have nd : ∀ {l : List Fct}, (∀ x ∈ l, x.Rt) → l.Pairwise (fun a b => cmpF a b < 0) → l.Nodup := fun {l} hl pl => by
    refine List.Pairwise.imp_of_mem (fun {a b} ha hb h he => ?_) pl
    subst he
    have := isCmp_F.self (hl a ha).num
    omega
  refine List.Perm.eq_of_pairwise (le := fun a b => cmpF a b < 0) (fun a b ha hb h1 h2 => ?_) pl pm ((List.perm_ext_iff_of_nodup (nd hl pl) (nd hm pm)).2 h)
  have := isCmp_F.anti a b (hl a ha).num (hm b hb).num
  omega

/-! ### orders -/
/-- A proper order of 'n' arguments. -/
def okS (n : Nat) (g : Ord) : Bool := decide (g.1.length = n) && g.1.all fun i => decide (0 ≤ i) && decide (i < n)
theorem okS_len {n : Nat} {g : Ord} (h : okS n g = true) : g.1.length = n := by
  unfold okS at h
  simp only [Bool.and_eq_true, decide_eq_true_eq] at h
  exact h.1
theorem okS_mem {n : Nat} {g : Ord} (h : okS n g = true) : ∀ i ∈ g.1, 0 ≤ i ∧ i < n := fun i hi => by
  unfold okS at h
  simp only [Bool.and_eq_true, decide_eq_true_eq] at h
  have := List.all_eq_true.1 h.2 i hi
  simpa using this
theorem toAt_map (l : List Int) (σ : List Int) (i : Int) (h : 0 ≤ i ∧ i < σ.length) : toAt (σ.map (toAt l)) i = toAt l (toAt σ i) := by
  unfold toAt
  have hi : i.toNat < σ.length := by omega
  rw [List.getD_eq_getElem?_getD, List.getElem?_map, List.getElem?_eq_getElem hi, List.getD_eq_getElem?_getD (l := σ), List.getElem?_eq_getElem hi]
  simp [List.getD_eq_getElem?_getD]
theorem appF_app (f : Fct) (g x : Ord) {n : Nat} (hg : okS n g = true) (hx : okS n x = true) : appF (appF f g) x = appF f (cmpS g x) := by
  have hl := okS_len hg
  have he : x.1.map (toAt (g.1.map (toAt f.args))) = (x.1.map (toAt g.1)).map (toAt f.args) := by
    rw [List.map_map]
    refine List.map_congr_left fun i hi => ?_
    have := okS_mem hx i hi
    exact toAt_map _ _ _ ⟨this.1, by omega⟩
  unfold appF cmpS
  simp only [he]
  cases g.2 <;> cases x.2 <;> rfl
theorem appF_id (f : Fct) {n : Nat} (h : f.args.length = n) : appF f (idS n) = f := by
  have : ((List.range n).map fun i : Nat => (i : Int)).map (toAt f.args) = f.args := by
    rw [List.map_map]
    apply List.ext_getElem?
    intro k
    rw [List.getElem?_map]
    by_cases hk : k < n
    · rw [List.getElem?_range hk, List.getElem?_eq_getElem (by omega)]
      simp only [Option.map_some, Function.comp_apply, toAt, Int.toNat_natCast]
      rw [List.getD_eq_getElem?_getD, List.getElem?_eq_getElem (by omega)]
      rfl
    · rw [List.getElem?_eq_none (by simp; omega), List.getElem?_eq_none (by omega)]
      rfl
  unfold appF idS
  simp only [this]
  rfl
theorem okS_cmp {n : Nat} {g x : Ord} (hg : okS n g = true) (hx : okS n x = true) : okS n (cmpS g x) = true := by
  have h1 := okS_len hg
  have h2 := okS_len hx
  have h3 := okS_mem hg
  have h4 := okS_mem hx
  unfold okS cmpS
  simp only [Bool.and_eq_true, decide_eq_true_eq, List.length_map, List.all_eq_true, List.mem_map]
  refine ⟨h2, ?_⟩
  rintro i ⟨k, hk, rfl⟩
  have hk' := h4 k hk
  have hl : k.toNat < g.1.length := by omega
  have hm : toAt g.1 k ∈ g.1 := by
    unfold toAt
    rw [List.getD_eq_getElem?_getD, List.getElem?_eq_getElem hl]
    exact List.getElem_mem hl
  exact h3 _ hm
theorem okS_id (n : Nat) : okS n (idS n) = true := by
  unfold okS idS
  simp only [Bool.and_eq_true, decide_eq_true_eq, List.length_map, List.length_range, List.all_eq_true, List.mem_map, List.mem_range]
  refine ⟨trivial, ?_⟩
  rintro i ⟨k, hk, rfl⟩
  omega

/-- All that is asked of a list of orders. -/
def grpB (n : Nat) (xs G : List Ord) (st : List (Nat × Nat)) : Bool :=
  xs.all (okS n) && xs.all (fun x => decide (x.1 ≠ [])) && st.all (fun p => decide (p.2 < xs.length)) && decide (G = bld n xs st [idS n]) && G.all (fun g => xs.all fun x => G.contains (cmpS g x)) && decide (G.length ≤ 128)

theorem bld_all {n : Nat} {xs : List Ord} {p : Ord → Prop} (hid : p (idS n)) (hs : ∀ g x, p g → x ∈ xs → p (cmpS g x)) : ∀ (st : List (Nat × Nat)) (acc : List Ord), (∀ q ∈ st, q.2 < xs.length) → (∀ g ∈ acc, p g) → ∀ g ∈ bld n xs st acc, p g
  | [], acc, _, h => h
  | q :: st, acc, hq, h => by
    refine bld_all hid hs st _ (fun r hr => hq r (by simp [hr])) fun g hg => ?_
    rcases List.mem_append.1 hg with hg | hg
    · exact h g hg
    · have e : g = cmpS (acc.getD q.1 (idS n)) (xs.getD q.2 (idS n)) := by simpa using hg
      rw [e]
      have hlt := hq q (by simp)
      refine hs _ _ ?_ ?_
      · rw [List.getD_eq_getElem?_getD]
        cases h1 : acc[q.1]? with
        | none => exact hid
        | some a => exact h a (List.mem_of_getElem? h1)
      · rw [List.getD_eq_getElem?_getD, List.getElem?_eq_getElem hlt]
        exact List.getElem_mem hlt

/-- The variants by a list of orders. -/
def varL (f : Fct) (G : List Ord) : List Fct := putsF [] (G.map (appF f))

theorem appF_rt {f : Fct} (h : f.Rt) {g : Ord} (hg : okS f.args.length g = true) (ht : g.2 = true → f.kind = 9 ∧ val f.abs ≠ 0) : (appF f g).Rt := by
  obtain ⟨h1, h2, h3, h4⟩ := h.parts
  obtain ⟨la, ld, oa, od, ln⟩ := h.mild
  have hl := okS_len hg
  refine Fct.Rt.of ⟨?_, ?_, ?_, ?_, ?_⟩ h1 ?_ ?_ ?_
  · unfold appF; simp only; split <;> assumption
  · unfold appF; simp only; split <;> assumption
  · unfold appF; simp only; split <;> assumption
  · unfold appF; simp only; split <;> assumption
  · unfold appF; simp only [List.length_map]; omega
  · unfold appF; simp only [List.length_map]; omega
  · unfold appF
    simp only [List.mem_map]
    rintro a ⟨i, hi, rfl⟩
    have := okS_mem hg i hi
    have hlt : i.toNat < f.args.length := by omega
    refine h3 _ ?_
    unfold toAt
    rw [List.getD_eq_getElem?_getD, List.getElem?_eq_getElem hlt]
    exact List.getElem_mem hlt
  · unfold appF
    simp only
    cases hb : g.2 with
    | false => simpa using h4
    | true =>
      obtain ⟨k9, m0⟩ := ht hb
      rw [if_pos k9] at h4 ⊢
      simp only [if_true]
      obtain ⟨a1, a2, a3, a4, a5⟩ := ratOk_spec h4 oa od
      unfold ratOk
      have g' : Nat.gcd (val f.den) (val f.abs) = 1 := by rw [Nat.gcd_comm]; exact a4
      have n1 : f.den ≠ [] := fun h => a3 (by rw [h]; rfl)
      have n2 : f.abs ≠ [] := fun h => m0 (by rw [h]; rfl)
      have e1 : lastOk f.den = true := by rw [a2]; exact lastOk_limbs _
      have e2 : lastOk f.abs = true := by rw [a1]; exact lastOk_limbs _
      simp [g', n1, n2, e1, e2]

theorem varL_ok {f : Fct} (h : f.Rt) {xs G : List Ord} {st : List (Nat × Nat)} (hG : grpB f.args.length xs G st = true) (ht : ∀ g ∈ G, g.2 = true → f.kind = 9 ∧ val f.abs ≠ 0) (hx : ∀ x ∈ xs, x.2 = true → f.kind = 9 ∧ val f.abs ≠ 0) :
    VarOk f xs (varL f G) := by
  unfold grpB at hG
  simp only [Bool.and_eq_true, decide_eq_true_eq] at hG
  obtain ⟨⟨⟨⟨⟨b1, b2⟩, b3⟩, b4⟩, b5⟩, b6⟩ := hG
  rw [List.all_eq_true] at b1 b2 b3 b5
  have okG : ∀ g ∈ G, okS f.args.length g = true := by
    rw [b4]
    exact bld_all (okS_id _) (fun g x hg hx => okS_cmp hg (b1 x hx)) _ _ (fun q hq => by simpa using b3 q hq) (fun g hg => by
      have : g = idS f.args.length := by simpa using hg
      rw [this]; exact okS_id _)
  have hrt : ∀ x ∈ G.map (appF f), x.Rt := fun x hx => by
    obtain ⟨g, hg, rfl⟩ := List.mem_map.1 hx
    exact appF_rt h (okG g hg) (ht g hg)
  have hmem : ∀ x, x ∈ varL f G ↔ ∃ g ∈ G, appF f g = x := fun x => by
    unfold varL
    rw [putsF_mem (by simp) hrt]
    simp
  have hE : ∀ e ∈ varL f G, e.Rt := fun e he => by
    obtain ⟨g, hg, rfl⟩ := (hmem e).1 he
    exact appF_rt h (okG g hg) (ht g hg)
  have hs : (varL f G).Pairwise fun a b => cmpF a b < 0 := putsF_sorted (by simp) hrt (by simp)
  have key : ∀ g ∈ G, ∀ x ∈ xs, appF (appF f g) x = appF f (cmpS g x) := fun g hg x hx => appF_app f g x (okG g hg) (b1 x hx)
  refine ⟨?_, hE, ?_, hs.imp fun h => by omega, ?_, ?_, ?_, ?_⟩
  · rw [hmem]
    refine ⟨idS f.args.length, ?_, appF_id f rfl⟩
    rw [b4]
    have : ∀ (st : List (Nat × Nat)) (acc : List Ord), idS f.args.length ∈ acc → idS f.args.length ∈ bld f.args.length xs st acc := by
      intro st
      induction st with
      | nil => intro acc h; exact h
      | cons q st ih => intro acc h; exact ih _ (List.mem_append_left _ h)
    exact this _ _ (by simp)
  · refine List.Pairwise.imp_of_mem (fun {a b} ha hb h he => ?_) hs
    subst he
    have := isCmp_F.self (hE a ha).num
    omega
  · intro e he x hx
    obtain ⟨g, hg, rfl⟩ := (hmem e).1 he
    rw [key g hg x hx, hmem]
    have := List.all_eq_true.1 (b5 g hg) x hx
    exact ⟨_, by simpa using this, rfl⟩
  · intro e he x hxx
    have hr := hE e he
    obtain ⟨g, hg, rfl⟩ := (hmem e).1 he
    have hlen : (appF f g).args.length = f.args.length := by
      show (g.1.map _).length = _
      rw [List.length_map]; exact okS_len (okG g hg)
    have hl8 : f.args.length ≤ 1099511627776 := h.mild.ln
    refine applied_c (appF f g) x (by rw [hlen]; exact hl8) (by rw [okS_len (b1 x hxx)]; exact hl8) (by simpa using b2 x hxx) (fun i hi => by rw [hlen]; exact okS_mem (b1 x hxx) i hi) fun hb => ?_
    obtain ⟨k9, m0⟩ := hx x hxx hb
    have hv := hr.val k9
    obtain ⟨a1, a2, a3, a4, a5⟩ := ratOk_spec hv hr.mild.oa hr.mild.od
    refine ⟨_, _, a1, a2, ?_, a3, hr.mild.oa.lt32 hr.mild.la, hr.mild.od.lt32 hr.mild.ld, a4⟩
    have h4 := h.parts.2.2.2
    rw [if_pos k9] at h4
    have d0 := (ratOk_spec h4 h.mild.oa h.mild.od).2.2.1
    unfold appF
    simp only
    split
    · exact d0
    · exact m0
  · intro S h0 hst e he
    obtain ⟨g, hg, rfl⟩ := (hmem e).1 he
    have : ∀ g ∈ G, okS f.args.length g = true ∧ S (appF f g) := by
      rw [b4]
      refine bld_all (p := fun g => okS f.args.length g = true ∧ S (appF f g)) ⟨okS_id _, by rw [appF_id f rfl]; exact h0⟩ (fun g x hg hx => ⟨okS_cmp hg.1 (b1 x hx), ?_⟩) _ _ (fun q hq => by simpa using b3 q hq) (fun g hg => ?_)
      · rw [← appF_app f g x hg.1 (b1 x hx)]
        exact hst _ hg.2 x hx
      · have : g = idS f.args.length := by simpa using hg
        rw [this]
        exact ⟨okS_id _, by rw [appF_id f rfl]; exact h0⟩
    exact (this g hg).2
  · have := putsF_len (G.map (appF f)) []
    unfold varL
    simp only [List.length_nil, List.length_map] at this
    omega

/-- The orders for a kind. -/
def grpL (k : Int) (r : Bool) : List Ord :=
  if k = 1 then bld 3 (exchL 1 r) stp1 [idS 3] else if k = 6 then bld 4 (exchL 6 r) stp6 [idS 4] else if k = 8 then bld 2 (exchL 8 r) stp8 [idS 2]
  else if k = 5 then bld 3 (exchL 5 r) stp5 [idS 3] else if k = 7 then bld 8 (exchL 7 r) stp7 [idS 8]
  else if k ≠ 9 then bld 4 (exchL 2 r) stp2 [idS 4] else if r then bld 4 (exchL 9 true) stp9 [idS 4] else bld 4 (exchL 9 false) stp10 [idS 4]

theorem grp1 : grpB 3 (exchL 1 true) (grpL 1 true) stp1 = true := by decide +kernel
theorem grp6 : grpB 4 (exchL 6 true) (grpL 6 true) stp6 = true := by decide +kernel
theorem grp8 : grpB 2 (exchL 8 true) (grpL 8 true) stp8 = true := by decide +kernel
theorem grp5 : grpB 3 (exchL 5 true) (grpL 5 true) stp5 = true := by decide +kernel
theorem grp7 : grpB 8 (exchL 7 true) (grpL 7 true) stp7 = true := by decide +kernel
theorem grp2 : grpB 4 (exchL 2 true) (grpL 2 true) stp2 = true := by decide +kernel
theorem grp9 : grpB 4 (exchL 9 true) (grpL 9 true) stp9 = true := by decide +kernel
theorem grp10 : grpB 4 (exchL 9 false) (grpL 9 false) stp10 = true := by decide +kernel

end Go.Va

/-
  The examples of the chapter (awake).
-/
namespace Go.Va
open Go.Proofs
set_option maxHeartbeats 4000000
set_option maxRecDepth 100000
set_option linter.unusedSimpArgs false
set_option linter.unusedVariables false

theorem of_c (k : Int) (l : List Int) : CallsF Tryz.prog 26 [.c (.int .i64 k), .c (intsD l)] (Fct.mk k l false [] []).res := by
  refine callsF_of (T := tb) tab_ok mixed Tryz.func26 rfl (by decide) (Nat.le_of_ble_eq_true rfl) rfl ?_; unfold St.init
  simp (config := { maxSteps := 2000000 }) -implicitDefEqProofs [-List.map_set, set_u16, -Int.natCast_add, -Int.natCast_mul, -Int.natCast_emod, -Int.natCast_ediv, -Int.natCast_pow, nn_add, nn_addl, nn_ladd, nn_mul, nn_mull, nn_lmul, nn_mod, nn_modl, nn_tmod, nn_tmodl, nn_tdiv, nn_tdivl, nn_div, nn_divl, nn_shr, nn_sub1, nn_lel, nn_lle, nn_ltl, nn_llt, nn_eql, nn_leq, nn_eq, nn_neg, nn_pos, Fct.res]

def exA : Fct := ⟨2, [3, 1, 1, 2], false, [], []⟩
def exA' : Fct := ⟨1, [1, 2, 3], false, [], []⟩
def exB : Fct := ⟨9, [2, 3, 0, 1], false, limbs 1, limbs 4⟩
def exC : Fct := ⟨9, [0, 1, 2, 3], false, limbs 4, limbs 1⟩
def exD' : Fct := ⟨9, [0, 1, 0, 1], false, limbs 2, limbs 1⟩
def exT : Fct := ⟨4, [0, 1, 1, 0], false, [], []⟩
def exM : Fct := ⟨5, [0, 1, 2], false, [], []⟩
def exN : Fct := ⟨7, [0, 1, 2, 3, 4, 5, 6, 7], false, [], []⟩

theorem ok_short (l : List Nat) (h : l.all (fun x => decide (x < 65536)) = true) : Ok l := fun x hx => by simpa using List.all_eq_true.1 h x hx
theorem exA_mild : exA.Mild := plain_mild _ _ (by decide)
theorem exA'_rt : exA'.Rt := plain_rt (by decide) (by decide) (by decide) (by decide)
theorem exB_rt : exB.Rt := Fct.Rt.of ⟨by decide, by decide, ok_short _ (by decide), ok_short _ (by decide), by decide⟩ (by decide) (by decide) (by decide) (by rw [if_pos (by decide)]; decide)
theorem exC_rt : exC.Rt := Fct.Rt.of ⟨by decide, by decide, ok_short _ (by decide), ok_short _ (by decide), by decide⟩ (by decide) (by decide) (by decide) (by rw [if_pos (by decide)]; decide)
theorem exD_rt : exD'.Rt := Fct.Rt.of ⟨by decide, by decide, ok_short _ (by decide), ok_short _ (by decide), by decide⟩ (by decide) (by decide) (by decide) (by rw [if_pos (by decide)]; decide)
theorem exA_rt : exA.Rt := plain_rt (by decide) (by decide) (by decide) (by decide)
theorem exT_rt : exT.Rt := plain_rt (by decide) (by decide) (by decide) (by decide)
theorem exM_rt : exM.Rt := plain_rt (by decide) (by decide) (by decide) (by decide)
theorem exN_rt : exN.Rt := plain_rt (by decide) (by decide) (by decide) (by decide)

theorem sort_123 : sortL [1, 3, 2] = [1, 2, 3] := (sortL_of (l := [1, 3, 2]) (m := [1, 2, 3]) (by decide) (by decide)).symm
theorem norm_A : normF exA = exA' := by
  have h : normF exA = ⟨1, sortL [1, 3, 2], false, [], []⟩ := by
    unfold normF
    rw [if_pos exA_rt.ok]
    rfl
  rw [h, sort_123]
  rfl
theorem norm_B : normF exB = exC := by
  unfold normF
  rw [if_pos exB_rt.ok]
  decide
theorem normG_B : normG exB = exC := by decide
theorem normG_C : normG exC = exC := by decide
theorem same_BC : sameF exB exC = true := by
  unfold sameF
  rw [exB_rt.ok, exC_rt.ok, normG_B, normG_C, (cmpF_zero exC_rt exC_rt).2 rfl]
  rfl
theorem triv_T : trivF exT = true := by
  unfold trivF
  rw [exT_rt.ok]
  decide
theorem triv_D : trivF exD' = false := by
  unfold trivF
  rw [exD_rt.ok]
  decide
theorem len_M : (varL exM (grpL 5 true)).length = 2 := by decide +kernel
theorem len_N : (varL exN (grpL 7 true)).length = 128 := by decide +kernel

theorem var_M : CallsF Tryz.prog 22 [.agg exM.ds] (.u (.c (.d (fctsD (varL exM (grpL 5 true)))))) :=
  variants_c exM exM_rt _ (by
    have e : exchL exM.kind (decide (val exM.abs ≠ 0)) = exchL 5 true := by decide
    rw [e]
    exact varL_ok exM_rt (st := stp5) grp5 (by decide) (by decide))
theorem var_N : CallsF Tryz.prog 22 [.agg exN.ds] (.u (.c (.d (fctsD (varL exN (grpL 7 true)))))) :=
  variants_c exN exN_rt _ (by
    have e : exchL exN.kind (decide (val exN.abs ≠ 0)) = exchL 7 true := by decide
    rw [e]
    exact varL_ok exN_rt (st := stp7) grp7 (by decide +kernel) (by decide +kernel))

end Go.Va

/-
  The examples of the chapter: their walk.
-/
namespace Go.Va
open Go.Proofs
set_option maxHeartbeats 4000000
set_option maxRecDepth 100000
set_option linter.unusedSimpArgs false
set_option linter.unusedVariables false

theorem awake_c : CallsF Tryz.prog 9 [] (.u (.c (.d (.bool true)))) := by
  have oA : CallsF Tryz.prog 26 [.c (.int .i64 2), .c (.slice 4 [.int .i64 3, .int .i64 1, .int .i64 1, .int .i64 2])] exA.res := of_c 2 [3, 1, 1, 2]
  have oB : CallsF Tryz.prog 26 [.c (.int .i64 9), .c (.slice 4 [.int .i64 2, .int .i64 3, .int .i64 0, .int .i64 1])] (Fct.mk 9 [2, 3, 0, 1] false [] []).res := of_c 9 [2, 3, 0, 1]
  have oC : CallsF Tryz.prog 26 [.c (.int .i64 9), .c (.slice 4 [.int .i64 0, .int .i64 1, .int .i64 2, .int .i64 3])] (Fct.mk 9 [0, 1, 2, 3] false [] []).res := of_c 9 [0, 1, 2, 3]
  have oD : CallsF Tryz.prog 26 [.c (.int .i64 9), .c (.slice 4 [.int .i64 0, .int .i64 1, .int .i64 0, .int .i64 1])] (Fct.mk 9 [0, 1, 0, 1] false [] []).res := of_c 9 [0, 1, 0, 1]
  have oE : CallsF Tryz.prog 26 [.c (.int .i64 1), .c (.slice 3 [.int .i64 1, .int .i64 2, .int .i64 3])] exA'.res := of_c 1 [1, 2, 3]
  have oT : CallsF Tryz.prog 26 [.c (.int .i64 4), .c (.slice 4 [.int .i64 0, .int .i64 1, .int .i64 1, .int .i64 0])] exT.res := of_c 4 [0, 1, 1, 0]
  have oM : CallsF Tryz.prog 26 [.c (.int .i64 5), .c (.slice 3 [.int .i64 0, .int .i64 1, .int .i64 2])] exM.res := of_c 5 [0, 1, 2]
  have oN : CallsF Tryz.prog 26 [.c (.int .i64 7), .c (.slice 8 [.int .i64 0, .int .i64 1, .int .i64 2, .int .i64 3, .int .i64 4, .int .i64 5, .int .i64 6, .int .i64 7])] exN.res := of_c 7 [0, 1, 2, 3, 4, 5, 6, 7]
  have fr := frac_c 1 4 (by omega) (by omega) (by omega) (by decide)
  have f4 := refRatOf_c 4 (by omega)
  have f2 := refRatOf_c 2 (by omega)
  have nA := norm_c exA exA_mild
  rw [norm_A] at nA
  have nB := norm_c exB exB_rt.mild
  rw [norm_B] at nB
  have eA := refEqualF_c exA' exA' exA'_rt.mild exA'_rt.mild exA'_rt.val exA'_rt.val
  rw [(cmpF_zero exA'_rt exA'_rt).2 rfl] at eA
  have eC := refEqualF_c exC exC exC_rt.mild exC_rt.mild exC_rt.val exC_rt.val
  rw [(cmpF_zero exC_rt exC_rt).2 rfl] at eC
  have sBC := same_c exB exC exB_rt.mild exC_rt.mild
  rw [same_BC] at sBC
  have tT := trivial_c exT exT_rt.mild
  rw [triv_T] at tT
  have tD := trivial_c exD' exD_rt.mild
  rw [triv_D] at tD
  have vM := var_M
  have vN := var_N
  have lM := len_M
  have lN := len_N
  generalize varL exM (grpL 5 true) = LM at *
  generalize varL exN (grpL 7 true) = LN at *
  simp only [exA, exA', exB, exC, exD', exT, exM, exN, Fct.ds, Fct.res] at *
  refine callsF_of (T := tb) tab_ok mixed Tryz.func9 rfl (by decide) (Nat.le_of_ble_eq_true rfl) rfl ?_; unfold St.init
  simp (config := { maxSteps := 2000000 }) -implicitDefEqProofs [-List.map_set, set_u16, -Int.natCast_add, -Int.natCast_mul, -Int.natCast_emod, -Int.natCast_ediv, -Int.natCast_pow, nn_add, nn_addl, nn_ladd, nn_mul, nn_mull, nn_lmul, nn_mod, nn_modl, nn_tmod, nn_tmodl, nn_tdiv, nn_tdivl, nn_div, nn_divl, nn_shr, nn_sub1, nn_lel, nn_lle, nn_ltl, nn_llt, nn_eql, nn_leq, nn_eq, nn_neg, nn_pos]
  (first | refine .inl ⟨_, oA, ?_⟩ | refine ⟨_, oA, ?_⟩)
  simp (config := { maxSteps := 2000000 }) -implicitDefEqProofs [-List.map_set, set_u16, -Int.natCast_add, -Int.natCast_mul, -Int.natCast_emod, -Int.natCast_ediv, -Int.natCast_pow, nn_add, nn_addl, nn_ladd, nn_mul, nn_mull, nn_lmul, nn_mod, nn_modl, nn_tmod, nn_tmodl, nn_tdiv, nn_tdivl, nn_div, nn_divl, nn_shr, nn_sub1, nn_lel, nn_lle, nn_ltl, nn_llt, nn_eql, nn_leq, nn_eq, nn_neg, nn_pos]
  (first | refine .inl ⟨_, nA, ?_⟩ | refine ⟨_, nA, ?_⟩)
  simp (config := { maxSteps := 2000000 }) -implicitDefEqProofs [-List.map_set, set_u16, -Int.natCast_add, -Int.natCast_mul, -Int.natCast_emod, -Int.natCast_ediv, -Int.natCast_pow, nn_add, nn_addl, nn_ladd, nn_mul, nn_mull, nn_lmul, nn_mod, nn_modl, nn_tmod, nn_tmodl, nn_tdiv, nn_tdivl, nn_div, nn_divl, nn_shr, nn_sub1, nn_lel, nn_lle, nn_ltl, nn_llt, nn_eql, nn_leq, nn_eq, nn_neg, nn_pos]
  (first | refine .inl ⟨_, oB, ?_⟩ | refine ⟨_, oB, ?_⟩)
  simp (config := { maxSteps := 2000000 }) -implicitDefEqProofs [-List.map_set, set_u16, -Int.natCast_add, -Int.natCast_mul, -Int.natCast_emod, -Int.natCast_ediv, -Int.natCast_pow, nn_add, nn_addl, nn_ladd, nn_mul, nn_mull, nn_lmul, nn_mod, nn_modl, nn_tmod, nn_tmodl, nn_tdiv, nn_tdivl, nn_div, nn_divl, nn_shr, nn_sub1, nn_lel, nn_lle, nn_ltl, nn_llt, nn_eql, nn_leq, nn_eq, nn_neg, nn_pos]
  (first | refine .inl ⟨_, fr, ?_⟩ | refine ⟨_, fr, ?_⟩)
  simp (config := { maxSteps := 2000000 }) -implicitDefEqProofs [-List.map_set, set_u16, -Int.natCast_add, -Int.natCast_mul, -Int.natCast_emod, -Int.natCast_ediv, -Int.natCast_pow, nn_add, nn_addl, nn_ladd, nn_mul, nn_mull, nn_lmul, nn_mod, nn_modl, nn_tmod, nn_tmodl, nn_tdiv, nn_tdivl, nn_div, nn_divl, nn_shr, nn_sub1, nn_lel, nn_lle, nn_ltl, nn_llt, nn_eql, nn_leq, nn_eq, nn_neg, nn_pos]
  (first | refine .inl ⟨_, oC, ?_⟩ | refine ⟨_, oC, ?_⟩)
  simp (config := { maxSteps := 2000000 }) -implicitDefEqProofs [-List.map_set, set_u16, -Int.natCast_add, -Int.natCast_mul, -Int.natCast_emod, -Int.natCast_ediv, -Int.natCast_pow, nn_add, nn_addl, nn_ladd, nn_mul, nn_mull, nn_lmul, nn_mod, nn_modl, nn_tmod, nn_tmodl, nn_tdiv, nn_tdivl, nn_div, nn_divl, nn_shr, nn_sub1, nn_lel, nn_lle, nn_ltl, nn_llt, nn_eql, nn_leq, nn_eq, nn_neg, nn_pos]
  (first | refine .inl ⟨_, f4, ?_⟩ | refine ⟨_, f4, ?_⟩)
  simp (config := { maxSteps := 2000000 }) -implicitDefEqProofs [-List.map_set, set_u16, -Int.natCast_add, -Int.natCast_mul, -Int.natCast_emod, -Int.natCast_ediv, -Int.natCast_pow, nn_add, nn_addl, nn_ladd, nn_mul, nn_mull, nn_lmul, nn_mod, nn_modl, nn_tmod, nn_tmodl, nn_tdiv, nn_tdivl, nn_div, nn_divl, nn_shr, nn_sub1, nn_lel, nn_lle, nn_ltl, nn_llt, nn_eql, nn_leq, nn_eq, nn_neg, nn_pos]
  (first | refine .inl ⟨_, oD, ?_⟩ | refine ⟨_, oD, ?_⟩)
  simp (config := { maxSteps := 2000000 }) -implicitDefEqProofs [-List.map_set, set_u16, -Int.natCast_add, -Int.natCast_mul, -Int.natCast_emod, -Int.natCast_ediv, -Int.natCast_pow, nn_add, nn_addl, nn_ladd, nn_mul, nn_mull, nn_lmul, nn_mod, nn_modl, nn_tmod, nn_tmodl, nn_tdiv, nn_tdivl, nn_div, nn_divl, nn_shr, nn_sub1, nn_lel, nn_lle, nn_ltl, nn_llt, nn_eql, nn_leq, nn_eq, nn_neg, nn_pos]
  (first | refine .inl ⟨_, f2, ?_⟩ | refine ⟨_, f2, ?_⟩)
  simp (config := { maxSteps := 2000000 }) -implicitDefEqProofs [-List.map_set, set_u16, -Int.natCast_add, -Int.natCast_mul, -Int.natCast_emod, -Int.natCast_ediv, -Int.natCast_pow, nn_add, nn_addl, nn_ladd, nn_mul, nn_mull, nn_lmul, nn_mod, nn_modl, nn_tmod, nn_tmodl, nn_tdiv, nn_tdivl, nn_div, nn_divl, nn_shr, nn_sub1, nn_lel, nn_lle, nn_ltl, nn_llt, nn_eql, nn_leq, nn_eq, nn_neg, nn_pos]
  refine wpDraw_by [[], [], [1], [0, 1, 2], [0, 1, 2, 3], [0, 1, 2, 3, 4], [0, 1, 2, 3, 4, 5], [0, 1, 2, 3, 4], [0, 1, 2, 3, 4, 5, 6, 7], [0, 1, 2, 3, 4, 5, 6, 7, 8], [0, 1, 2, 3, 4, 5, 6, 7, 8, 9], [0, 1, 2, 3, 4, 5, 6, 7, 8, 9, 10], [0, 1, 2, 3, 4, 5, 6, 7, 8, 9, 10], [0, 1, 2, 3, 4, 5, 6, 7, 8, 9, 10, 11, 12], [0, 1, 2, 3, 4, 5, 6, 7, 8, 9, 10, 11, 12, 13], [0, 1, 2, 3, 4, 5, 6, 7, 8, 9, 10, 11, 12, 13, 14], [0, 1, 2, 3, 4, 5, 6, 7, 8, 9, 10, 11, 12, 13, 14, 15], [0, 1, 2, 3, 4, 5, 6, 7, 8, 9, 10, 11, 12, 13, 14, 15, 16], [0, 1, 2, 3, 4, 5, 6, 7, 8, 9, 10, 11, 12, 13, 14, 15, 16, 17], [0, 1, 2, 3, 4, 5, 6, 7, 8, 9, 10, 11, 12, 13, 14, 15, 16, 17, 18], [0, 1, 2, 3, 4, 5, 6, 7, 8, 9, 10, 11, 12, 13, 14, 15, 16, 17, 18, 19], [0, 1, 2, 3, 4, 5, 6, 7, 8, 9, 10, 11, 12, 13, 14, 15, 16, 17, 18, 19, 20], [0, 1, 2, 3, 4, 5, 6, 7, 8, 9, 10, 11, 12, 13, 14, 15, 16, 17, 18, 19, 20, 21], [0, 1, 2, 3, 4, 5, 6, 7, 8, 9, 10, 11, 12, 13, 14, 15, 16, 17, 18, 19, 20, 21, 22], [0, 1, 2, 3, 4, 5, 6, 7, 8, 9, 10, 11, 12, 13, 14, 15, 16, 17, 18, 19, 20, 21, 22, 23], [0, 1, 2, 3, 4, 5, 6, 7, 8, 9, 10, 11, 12, 13, 14, 15, 16, 17, 18, 19, 20, 21, 22, 23, 24], [0, 1, 2, 3, 4, 5, 6, 7, 8, 9, 10, 11, 12, 13, 14, 15, 16, 17, 18, 19, 20, 21, 22, 23, 24, 25], [0, 1, 2, 3, 4, 5, 6, 7, 8, 9, 10, 11, 12, 13, 14, 15, 16, 17, 18, 19, 20, 21, 22, 23, 24, 25, 26], [0, 1, 2, 3, 4, 5, 6, 7, 8, 9, 10, 11, 12, 13, 14, 15, 16, 17, 18, 19, 20, 21, 22, 23, 24, 25, 26, 27], [0, 1, 2, 3, 4, 5, 6, 7, 8, 9, 10, 11, 12, 13, 14, 15, 16, 17, 18, 19, 20, 21, 22, 23, 24, 25, 26, 27, 28], [0, 1, 2, 3, 4, 5, 6, 7, 8, 9, 10, 11, 12, 13, 14, 15, 16, 17, 18, 19, 20, 21, 22, 23, 24, 25, 26, 27, 28, 29], [0, 1, 2, 3, 4, 5, 6, 7, 8, 9, 10, 11, 12, 13, 14, 15, 16, 17, 18, 19, 20, 21, 22, 23, 24, 25, 26, 27, 28, 29, 30], [0, 1, 2, 3, 4, 5, 6, 7, 8, 9, 10, 11, 12, 13, 14, 15, 16, 17, 18, 19, 20, 21, 22, 23, 24, 25, 26, 27, 28, 29, 30, 31], [0, 1, 2, 3, 4, 5, 6, 7, 8, 9, 10, 11, 12, 13, 14, 15, 16, 17, 18, 19, 20, 21, 22, 23, 24, 25, 26, 27, 28, 29, 30, 31, 32], [0, 1, 2, 3, 4, 5, 6, 7, 8, 9, 10, 11, 12, 13, 14, 15, 16, 17, 18, 19, 20, 21, 22, 23, 24, 25, 26, 27, 28, 29, 30, 31, 32, 33], [0, 1, 2, 3, 4, 5, 6, 7, 8, 9, 10, 11, 12, 13, 14, 15, 16, 17, 18, 19, 20, 21, 22, 23, 24, 25, 26, 27, 28, 29, 30, 31, 32, 33, 34], [0, 1, 2, 3, 4, 5, 6, 7, 8, 9, 10, 11, 12, 13, 14, 15, 16, 17, 18, 19, 20, 21, 22, 23, 24, 25, 26, 27, 28, 29, 30, 31, 32, 33, 34, 35], [0, 1, 2, 3, 4, 5, 6, 7, 8, 9, 10, 11, 12, 13, 14, 15, 16, 17, 18, 19, 20, 21, 22, 23, 24, 25, 26, 27, 28, 29, 30, 31, 32, 33, 34, 35, 36], [0, 1, 2, 3, 4, 5, 6, 7, 8, 9, 10, 11, 12, 13, 14, 15, 16, 17, 18, 19, 20, 21, 22, 23, 24, 25, 26, 27, 28, 29, 30, 31, 32, 33, 34, 35, 36, 37], [0, 1, 2, 3, 4, 5, 6, 7, 8, 9, 10, 11, 12, 13, 14, 15, 16, 17, 18, 19, 20, 21, 22, 23, 24, 25, 26, 27, 28, 29, 30, 31, 32, 33, 34, 35, 36, 37, 38]] [.any [] [21] [⟨0, [1], [], [21], []⟩, ⟨4, [], [], [], []⟩, ⟨0, [21], [], [], []⟩], .one, .one, .any [] [] [⟨0, [2, 24], [], [], []⟩, ⟨0, [25, 24], [], [], []⟩, ⟨0, [3, 24], [], [], []⟩], .one, .one, .one, .any [] [] [⟨0, [2, 30], [], [], []⟩, ⟨0, [3, 30], [], [], []⟩], .one, .one, .one, .one, .one, .one, .one, .one, .one, .one, .one, .one, .one, .one, .one, .one, .one, .one, .one, .one, .one, .one, .one, .one, .one, .one, .one] (by rfl) ?_
  simp (config := { maxSteps := 2000000 }) -implicitDefEqProofs [-List.map_set, set_u16, -Int.natCast_add, -Int.natCast_mul, -Int.natCast_emod, -Int.natCast_ediv, -Int.natCast_pow, nn_add, nn_addl, nn_ladd, nn_mul, nn_mull, nn_lmul, nn_mod, nn_modl, nn_tmod, nn_tmodl, nn_tdiv, nn_tdivl, nn_div, nn_divl, nn_shr, nn_sub1, nn_lel, nn_lle, nn_ltl, nn_llt, nn_eql, nn_leq, nn_eq, nn_neg, nn_pos]
  (first | refine .inl ⟨_, oE, ?_⟩ | refine ⟨_, oE, ?_⟩)
  simp (config := { maxSteps := 2000000 }) -implicitDefEqProofs [-List.map_set, set_u16, -Int.natCast_add, -Int.natCast_mul, -Int.natCast_emod, -Int.natCast_ediv, -Int.natCast_pow, nn_add, nn_addl, nn_ladd, nn_mul, nn_mull, nn_lmul, nn_mod, nn_modl, nn_tmod, nn_tmodl, nn_tdiv, nn_tdivl, nn_div, nn_divl, nn_shr, nn_sub1, nn_lel, nn_lle, nn_ltl, nn_llt, nn_eql, nn_leq, nn_eq, nn_neg, nn_pos]
  (first | refine .inl ⟨_, eA, ?_⟩ | refine ⟨_, eA, ?_⟩)
  simp (config := { maxSteps := 2000000 }) -implicitDefEqProofs [-List.map_set, set_u16, -Int.natCast_add, -Int.natCast_mul, -Int.natCast_emod, -Int.natCast_ediv, -Int.natCast_pow, nn_add, nn_addl, nn_ladd, nn_mul, nn_mull, nn_lmul, nn_mod, nn_modl, nn_tmod, nn_tmodl, nn_tdiv, nn_tdivl, nn_div, nn_divl, nn_shr, nn_sub1, nn_lel, nn_lle, nn_ltl, nn_llt, nn_eql, nn_leq, nn_eq, nn_neg, nn_pos]
  (first | refine .inl ⟨_, nB, ?_⟩ | refine ⟨_, nB, ?_⟩)
  simp (config := { maxSteps := 2000000 }) -implicitDefEqProofs [-List.map_set, set_u16, -Int.natCast_add, -Int.natCast_mul, -Int.natCast_emod, -Int.natCast_ediv, -Int.natCast_pow, nn_add, nn_addl, nn_ladd, nn_mul, nn_mull, nn_lmul, nn_mod, nn_modl, nn_tmod, nn_tmodl, nn_tdiv, nn_tdivl, nn_div, nn_divl, nn_shr, nn_sub1, nn_lel, nn_lle, nn_ltl, nn_llt, nn_eql, nn_leq, nn_eq, nn_neg, nn_pos]
  (first | refine .inl ⟨_, eC, ?_⟩ | refine ⟨_, eC, ?_⟩)
  simp (config := { maxSteps := 2000000 }) -implicitDefEqProofs [-List.map_set, set_u16, -Int.natCast_add, -Int.natCast_mul, -Int.natCast_emod, -Int.natCast_ediv, -Int.natCast_pow, nn_add, nn_addl, nn_ladd, nn_mul, nn_mull, nn_lmul, nn_mod, nn_modl, nn_tmod, nn_tmodl, nn_tdiv, nn_tdivl, nn_div, nn_divl, nn_shr, nn_sub1, nn_lel, nn_lle, nn_ltl, nn_llt, nn_eql, nn_leq, nn_eq, nn_neg, nn_pos]
  (first | refine .inl ⟨_, sBC, ?_⟩ | refine ⟨_, sBC, ?_⟩)
  simp (config := { maxSteps := 2000000 }) -implicitDefEqProofs [-List.map_set, set_u16, -Int.natCast_add, -Int.natCast_mul, -Int.natCast_emod, -Int.natCast_ediv, -Int.natCast_pow, nn_add, nn_addl, nn_ladd, nn_mul, nn_mull, nn_lmul, nn_mod, nn_modl, nn_tmod, nn_tmodl, nn_tdiv, nn_tdivl, nn_div, nn_divl, nn_shr, nn_sub1, nn_lel, nn_lle, nn_ltl, nn_llt, nn_eql, nn_leq, nn_eq, nn_neg, nn_pos]
  (first | refine .inl ⟨_, oT, ?_⟩ | refine ⟨_, oT, ?_⟩)
  simp (config := { maxSteps := 2000000 }) -implicitDefEqProofs [-List.map_set, set_u16, -Int.natCast_add, -Int.natCast_mul, -Int.natCast_emod, -Int.natCast_ediv, -Int.natCast_pow, nn_add, nn_addl, nn_ladd, nn_mul, nn_mull, nn_lmul, nn_mod, nn_modl, nn_tmod, nn_tmodl, nn_tdiv, nn_tdivl, nn_div, nn_divl, nn_shr, nn_sub1, nn_lel, nn_lle, nn_ltl, nn_llt, nn_eql, nn_leq, nn_eq, nn_neg, nn_pos]
  (first | refine .inl ⟨_, tT, ?_⟩ | refine ⟨_, tT, ?_⟩)
  simp (config := { maxSteps := 2000000 }) -implicitDefEqProofs [-List.map_set, set_u16, -Int.natCast_add, -Int.natCast_mul, -Int.natCast_emod, -Int.natCast_ediv, -Int.natCast_pow, nn_add, nn_addl, nn_ladd, nn_mul, nn_mull, nn_lmul, nn_mod, nn_modl, nn_tmod, nn_tmodl, nn_tdiv, nn_tdivl, nn_div, nn_divl, nn_shr, nn_sub1, nn_lel, nn_lle, nn_ltl, nn_llt, nn_eql, nn_leq, nn_eq, nn_neg, nn_pos]
  (first | refine .inl ⟨_, tD, ?_⟩ | refine ⟨_, tD, ?_⟩)
  simp (config := { maxSteps := 2000000 }) -implicitDefEqProofs [-List.map_set, set_u16, -Int.natCast_add, -Int.natCast_mul, -Int.natCast_emod, -Int.natCast_ediv, -Int.natCast_pow, nn_add, nn_addl, nn_ladd, nn_mul, nn_mull, nn_lmul, nn_mod, nn_modl, nn_tmod, nn_tmodl, nn_tdiv, nn_tdivl, nn_div, nn_divl, nn_shr, nn_sub1, nn_lel, nn_lle, nn_ltl, nn_llt, nn_eql, nn_leq, nn_eq, nn_neg, nn_pos]
  (first | refine .inl ⟨_, oM, ?_⟩ | refine ⟨_, oM, ?_⟩)
  simp (config := { maxSteps := 2000000 }) -implicitDefEqProofs [-List.map_set, set_u16, -Int.natCast_add, -Int.natCast_mul, -Int.natCast_emod, -Int.natCast_ediv, -Int.natCast_pow, nn_add, nn_addl, nn_ladd, nn_mul, nn_mull, nn_lmul, nn_mod, nn_modl, nn_tmod, nn_tmodl, nn_tdiv, nn_tdivl, nn_div, nn_divl, nn_shr, nn_sub1, nn_lel, nn_lle, nn_ltl, nn_llt, nn_eql, nn_leq, nn_eq, nn_neg, nn_pos]
  (first | refine .inl ⟨_, vM, ?_⟩ | refine ⟨_, vM, ?_⟩)
  simp (config := { maxSteps := 2000000 }) -implicitDefEqProofs [-List.map_set, set_u16, -Int.natCast_add, -Int.natCast_mul, -Int.natCast_emod, -Int.natCast_ediv, -Int.natCast_pow, nn_add, nn_addl, nn_ladd, nn_mul, nn_mull, nn_lmul, nn_mod, nn_modl, nn_tmod, nn_tmodl, nn_tdiv, nn_tdivl, nn_div, nn_divl, nn_shr, nn_sub1, nn_lel, nn_lle, nn_ltl, nn_llt, nn_eql, nn_leq, nn_eq, nn_neg, nn_pos, lM]
  (first | refine .inl ⟨_, oN, ?_⟩ | refine ⟨_, oN, ?_⟩)
  simp (config := { maxSteps := 2000000 }) -implicitDefEqProofs [-List.map_set, set_u16, -Int.natCast_add, -Int.natCast_mul, -Int.natCast_emod, -Int.natCast_ediv, -Int.natCast_pow, nn_add, nn_addl, nn_ladd, nn_mul, nn_mull, nn_lmul, nn_mod, nn_modl, nn_tmod, nn_tmodl, nn_tdiv, nn_tdivl, nn_div, nn_divl, nn_shr, nn_sub1, nn_lel, nn_lle, nn_ltl, nn_llt, nn_eql, nn_leq, nn_eq, nn_neg, nn_pos]
  (first | refine .inl ⟨_, vN, ?_⟩ | refine ⟨_, vN, ?_⟩)
  simp (config := { maxSteps := 2000000 }) -implicitDefEqProofs [-List.map_set, set_u16, -Int.natCast_add, -Int.natCast_mul, -Int.natCast_emod, -Int.natCast_ediv, -Int.natCast_pow, nn_add, nn_addl, nn_ladd, nn_mul, nn_mull, nn_lmul, nn_mod, nn_modl, nn_tmod, nn_tmodl, nn_tdiv, nn_tdivl, nn_div, nn_divl, nn_shr, nn_sub1, nn_lel, nn_lle, nn_ltl, nn_llt, nn_eql, nn_leq, nn_eq, nn_neg, nn_pos, lN]

end Go.Va
