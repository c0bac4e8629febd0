/-
  Contracts: a premise's letters are matched with a right fact, whatever the kind.
-/
import Derived.Test.YtkfdniccmcolgaaGreatWl
import Derived.Test.YtkfdniccmcolgaaGreatWj
import Derived.Test.YtkfdniccmcolgaaGreatWm
import Derived.Test.YtkfdniccmcolgaaGreatWf
set_option linter.all false

namespace Go.Va
open Go.Proofs
set_option maxHeartbeats 4000000
set_option maxRecDepth 10000
set_option linter.unusedSimpArgs false
set_option linter.unusedVariables false

theorem getZ_lt (l : List Int) {i : Nat} (h : i < l.length) : l.getD i 0 = l[i] := by rw [List.getD_eq_getElem?_getD, List.getElem?_eq_getElem h]; rfl
theorem getZ_ge (l : List Int) {i : Nat} (h : l.length ≤ i) : l.getD i 0 = 0 := by rw [List.getD_eq_getElem?_getD, List.getElem?_eq_none h]; rfl
theorem Bnd.setP_ok {b : Bnd} (h : b.Ok) (k : Nat) {x : Int} (hx : 0 ≤ x ∧ x < 2000000) : (b.setP k x).Ok := by
  intro y hy
  rcases List.mem_or_eq_of_mem_set hy with h1 | h1
  · exact h y h1
  · rw [h1]; exact hx
theorem Bnd.setS_ok {b : Bnd} (h : b.Ok) (k : Nat) {x y : Int} (hx : 0 ≤ x ∧ x < 2000000) (hy : 0 ≤ y ∧ y < 2000000) : (b.setS k x y).Ok := by
  intro z hz
  rcases List.mem_or_eq_of_mem_set hz with h1 | h1
  · rcases List.mem_or_eq_of_mem_set h1 with h2 | h2
    · exact h z h2
    · rw [h2]; exact hx
  · rw [h1]; exact hy
theorem Bnd.point_ok {b b' : Bnd} (h : b.Ok) {k : Nat} {p : Int} (hp : -1 ≤ p ∧ p < 1000000) (e : b.point k p = some b') : b'.Ok := by
  unfold Bnd.point at e
  split at e
  · cases e
  · cases e; exact Bnd.setP_ok h k (by omega)
theorem Bnd.segment_ok {b b' : Bnd} (h : b.Ok) {k : Nat} {s : Int × Int} (hs : segIn s) (e : b.segment k s = some b') : b'.Ok := by
  obtain ⟨h1, h2⟩ := hs
  unfold Bnd.segment at e
  split at e
  · cases e
  · cases e; exact Bnd.setS_ok h k (by omega) (by omega)

theorem mp_ok : ∀ (l : List UInt8) (pts : List Int) (b : Bnd), (∀ p ∈ pts, -1 ≤ p ∧ p < 1000000) → b.Ok → ∀ c ∈ mp l pts b, c.Ok
  | [], _, b, _, hb => by
    intro c hc
    rw [mp, List.mem_singleton] at hc
    subst hc; exact hb
  | x :: r, pts, b, hp, hb => by
    intro c hc
    rw [mp, List.mem_flatMap] at hc
    obtain ⟨i, hi, hc⟩ := hc
    rw [List.mem_range] at hi
    split at hc
    · cases hc
    · rename_i b' e
      have hpi : -1 ≤ pts.getD i 0 ∧ pts.getD i 0 < 1000000 := by
        rw [getZ_lt _ hi]; exact hp _ (List.getElem_mem hi)
      exact mp_ok r (pts.eraseIdx i) b' (fun p h => hp p (List.mem_of_mem_eraseIdx h)) (Bnd.point_ok hb hpi e) c hc

theorem ms_ok : ∀ (n : Nat) (ls : List UInt8) (l : List (Int × Int)) (b : Bnd), ls.length ≤ n → (∀ s ∈ l, segIn s) → b.Ok → ∀ c ∈ ms ls l b, c.Ok
  | n, [], l, b, _, hl, hb => by
    intro c hc
    cases l <;> · rw [ms, List.mem_singleton] at hc; subst hc; exact hb
  | n, x :: r, [], b, _, hl, hb => by
    intro c hc
    simp [ms] at hc
  | 0, x :: r, s :: l, b, hn, _, _ => by simp at hn
  | n + 1, x :: r, s :: l, b, hn, hl, hb => by
    intro c hc
    have hs : segIn s := hl s (by simp)
    have hl2 : ∀ t ∈ l, segIn t := fun t ht => hl t (by simp [ht])
    by_cases h97 : 97 ≤ x.toNat
    · rw [ms_sml h97] at hc
      split at hc
      · cases hc
      · rename_i b' e
        exact ms_ok n r l b' (by simp at hn; omega) hl2 (Bnd.segment_ok hb hs e) c hc
    · cases r with
      | nil => simp only [ms, if_neg h97] at hc; cases hc
      | cons d r =>
        have aux : ∀ p q : Int, (-1 ≤ p ∧ p < 1000000) → (-1 ≤ q ∧ q < 1000000) → ∀ c ∈ msA x d r l b p q, c.Ok := by
          intro p q hp hq c hc
          unfold msA at hc
          split at hc
          · cases hc
          · rename_i b1 e1
            split at hc
            · cases hc
            · rename_i b2 e2
              exact ms_ok n r l b2 (by simp at hn; omega) hl2 (Bnd.point_ok (Bnd.point_ok hb hp e1) hq e2) c hc
        rw [ms_cap h97, List.mem_append] at hc
        rcases hc with hc | hc
        · exact aux _ _ hs.1 hs.2 c hc
        · split at hc
          · cases hc
          · exact aux _ _ hs.2 hs.1 c hc

theorem mid1_ok {x y z : Nat} {b : Bnd} (hb : b.Ok) {m p q : Int} (hm : -1 ≤ m ∧ m < 1000000) (hp : -1 ≤ p ∧ p < 1000000) (hq : -1 ≤ q ∧ q < 1000000) : ∀ c ∈ mid1 x y z b m p q, c.Ok := by
  intro c hc
  unfold mid1 at hc
  split at hc
  · cases hc
  · rename_i b1 e1
    split at hc
    · cases hc
    · rename_i b2 e2
      split at hc
      · cases hc
      · rename_i b3 e3
        rw [List.mem_singleton] at hc
        subst hc
        exact Bnd.point_ok (Bnd.point_ok (Bnd.point_ok hb hm e1) hp e2) hq e3

/-- All ways to bind a premise's letters. -/
def matchB (p : Pat) (f : Fct) (b : Bnd) : List Bnd :=
  if p.kind = 1 ∨ p.kind = 6 ∨ p.kind = 8 then (if f.kind = p.kind then mp p.letters f.args b else [])
  else if p.kind = 5 then (if f.kind = 5 then mid1 ((p.letters.getD 0 0).toNat - 65) ((p.letters.getD 1 0).toNat - 65) ((p.letters.getD 2 0).toNat - 65) b (f.args.getD 0 0) (f.args.getD 1 0) (f.args.getD 2 0) ++ mid1 ((p.letters.getD 0 0).toNat - 65) ((p.letters.getD 1 0).toNat - 65) ((p.letters.getD 2 0).toNat - 65) b (f.args.getD 0 0) (f.args.getD 2 0) (f.args.getD 1 0) else [])
  else (rdg p.kind f).flatMap fun l => ms p.letters l b

/-- The letters of a premise fit its kind. -/
def Pat.Fit (p : Pat) : Prop := p.letters.length ≤ 1000 ∧
  ((p.kind = 1 ∨ p.kind = 6 ∨ p.kind = 8) ∧ (∀ c ∈ p.letters, cap c) ∨
  p.kind = 5 ∧ (∃ c1 c2 c3, p.letters = [c1, c2, c3] ∧ cap c1 ∧ cap c2 ∧ cap c3) ∨
  (p.kind = 2 ∨ p.kind = 3 ∨ p.kind = 4) ∧ (∀ u v, msOk p.letters [u, v]) ∨
  p.kind = 7 ∧ ∀ u v w z, msOk p.letters [u, v, w, z])

theorem two_in {a b : Int} (ha : 0 ≤ a ∧ a < 40) (hb : 0 ≤ b ∧ b < 40) : segIn (two a b) := by
  unfold two segIn
  have h1 := lo_rng ha hb
  have h2 := hi_rng ha hb
  simp only
  omega

theorem match_c (p : Pat) (f : Fct) (hp : p.Fit) (hf : f.Rt) (b : Bnd) : ∀ x, Emits Tryz.prog x 107 [.agg p.ds, .agg f.ds, .agg b.ds, .c (.lit x)] ((matchB p f b).map bndY) := by
  intro x
  obtain ⟨h1, h2, h3, h4⟩ := hf.parts
  have h3' : ∀ a ∈ f.args, -1 ≤ a ∧ a < 1000000 := fun a ha => by have := h3 a ha; omega
  have hal : f.args.length ≤ 8 := by
    rw [h2]; unfold arity; split; omega; split; omega; split; omega; split <;> omega
  obtain ⟨hll, hp⟩ := hp
  unfold matchB
  rcases hp with ⟨hk, hc⟩ | ⟨hk, c1, c2, c3, hl, k1, k2, k3⟩ | ⟨hk, hm⟩ | ⟨hk, hm⟩
  · rw [if_pos hk]
    exact matchP_c x p f b hk hc hll h3' (by omega)
  · rw [if_neg (by omega), if_pos hk]
    by_cases h5 : f.kind = 5
    · rw [if_pos h5]
      obtain ⟨m, u, v, ha⟩ := list3 (by rw [h2, h5]; rfl : f.args.length = 3)
      have q1 := h3' m (by simp [ha])
      have q2 := h3' u (by simp [ha])
      have q3 := h3' v (by simp [ha])
      unfold cap at k1 k2 k3
      have := matchM_c x p f b hk c1 c2 c3 hl (c1.toNat - 65) (c2.toNat - 65) (c3.toNat - 65) (by omega) (by omega) (by omega) (by omega) (by omega) (by omega) m u v ha q1 q2 q3 h5
      simpa [hl, ha] using this
    · rw [if_neg h5]
      exact matchN_c x p f b hk h5
  · rw [if_neg (by omega), if_neg (by omega)]
    by_cases h21 : p.kind = 2 ∧ f.kind = 1
    · obtain ⟨a, e, c, ha⟩ := list3 (by rw [h2, h21.2]; rfl : f.args.length = 3)
      have q1 := h3 a (by simp [ha])
      have q2 := h3 e (by simp [ha])
      have q3 := h3 c (by simp [ha])
      have hr := readings1_c f h21.2 a e c ha
      rw [← h21.1] at hr
      have e1 : rdg p.kind f = [[two a e, two a c], [two a e, two e c], [two a c, two a e], [two a c, two e c], [two e c, two a e], [two e c, two a c]] := by
        unfold rdg; rw [if_pos h21]; simp [ha]
      rw [e1]
      refine matchS_c x p f b (by omega) _ (by simp) hr ?_ hll
      intro l hl
      simp only [List.mem_cons, List.not_mem_nil, or_false] at hl
      have t1 := two_in q1 q2
      have t2 := two_in q1 q3
      have t3 := two_in q2 q3
      rcases hl with rfl | rfl | rfl | rfl | rfl | rfl <;> exact ⟨hm _ _, by simp [t1, t2, t3], by simp⟩
    · by_cases hke : f.kind = p.kind
      · obtain ⟨a, e, c, d, ha⟩ := list4 (by rw [h2, hke]; rcases hk with h | h | h <;> rw [h] <;> rfl : f.args.length = 4)
        have q1 := h3 a (by simp [ha])
        have q2 := h3 e (by simp [ha])
        have q3 := h3 c (by simp [ha])
        have q4 := h3 d (by simp [ha])
        have hpu : pairUp f.args = [two a e, two c d] := by rw [ha]; rfl
        have e1 : rdg p.kind f = [[two a e, two c d], [two c d, two a e]] := by
          unfold rdg; rw [if_neg h21, if_neg (by simp [hke]), hpu]
        rw [e1]
        have t1 := two_in q1 q2
        have t2 := two_in q3 q4
        refine matchS_c x p f b (by omega) _ (by simp) (readings2_c p.kind f hke (by omega) _ _ hpu (by omega)) ?_ hll
        intro l hl
        simp only [List.mem_cons, List.not_mem_nil, or_false] at hl
        rcases hl with rfl | rfl <;> exact ⟨hm _ _, by simp [t1, t2], by simp⟩
      · have e1 : rdg p.kind f = [] := by unfold rdg; rw [if_neg h21, if_pos hke]
        rw [e1]
        exact matchS_c x p f b (by omega) [] (by simp) (readings0_c p.kind f h21 hke) (by simp) hll
  · rw [if_neg (by omega), if_neg (by omega)]
    by_cases hke : f.kind = p.kind
    · obtain ⟨a, e, c, d, a', e', c', d', ha⟩ := list8 (by rw [h2, hke, hk]; rfl : f.args.length = 8)
      have q1 := h3 a (by simp [ha])
      have q2 := h3 e (by simp [ha])
      have q3 := h3 c (by simp [ha])
      have q4 := h3 d (by simp [ha])
      have q5 := h3 a' (by simp [ha])
      have q6 := h3 e' (by simp [ha])
      have q7 := h3 c' (by simp [ha])
      have q8 := h3 d' (by simp [ha])
      have hpu : pairUp f.args = [two a e, two c d, two a' e', two c' d'] := by rw [ha]; rfl
      have t1 := two_in q1 q2
      have t2 := two_in q3 q4
      have t3 := two_in q5 q6
      have t4 := two_in q7 q8
      have hr := readings4_c f (by omega) _ _ _ _ hpu (by omega)
      rw [← hk] at hr
      have e1 : rdg p.kind f = [[two a e, two c d, two a' e', two c' d'], [two a e, two a' e', two c d, two c' d'], [two c' d', two c d, two a' e', two a e], [two c' d', two a' e', two c d, two a e], [two c d, two a e, two c' d', two a' e'], [two c d, two c' d', two a e, two a' e'], [two a' e', two a e, two c' d', two c d], [two a' e', two c' d', two a e, two c d]] := by
        unfold rdg; rw [if_neg (by omega), if_neg (by simp [hke]), hpu]
      rw [e1]
      refine matchS_c x p f b (by omega) _ (by simp) hr ?_ hll
      intro l hl
      simp only [List.mem_cons, List.not_mem_nil, or_false] at hl
      rcases hl with rfl | rfl | rfl | rfl | rfl | rfl | rfl | rfl <;> exact ⟨hm _ _ _ _, by simp [t1, t2, t3, t4], by simp⟩
    · have e1 : rdg p.kind f = [] := by unfold rdg; rw [if_neg (by omega), if_pos hke]
      rw [e1]
      exact matchS_c x p f b (by omega) [] (by simp) (readings0_c p.kind f (by omega) hke) (by simp) hll

theorem pairUp_in : ∀ (l : List Int), (∀ a ∈ l, 0 ≤ a ∧ a < 40) → ∀ s ∈ pairUp l, segIn s
  | [], _ => by simp [pairUp]
  | [a], _ => by simp [pairUp]
  | a :: b :: l, h => by
    intro s hs
    rw [pairUp, List.mem_cons] at hs
    rcases hs with rfl | hs
    · exact two_in (h a (by simp)) (h b (by simp))
    · exact pairUp_in l (fun x hx => h x (by simp [hx])) s hs
theorem rdg_in (k : Int) (f : Fct) (hf : f.Rt) : ∀ l ∈ rdg k f, ∀ s ∈ l, segIn s := by
  obtain ⟨h1, h2, h3, h4⟩ := hf.parts
  have hg : ∀ i, 0 ≤ f.args.getD i 0 ∧ f.args.getD i 0 < 40 := by
    intro i
    rcases Nat.lt_or_ge i f.args.length with h | h
    · rw [getZ_lt _ h]; exact h3 _ (List.getElem_mem h)
    · rw [getZ_ge _ h]; omega
  have hp := pairUp_in f.args h3
  intro l hl s hs
  unfold rdg at hl
  split at hl
  · have t1 := two_in (hg 0) (hg 1)
    have t2 := two_in (hg 0) (hg 2)
    have t3 := two_in (hg 1) (hg 2)
    simp only [List.mem_cons, List.not_mem_nil, or_false] at hl
    rcases hl with rfl | rfl | rfl | rfl | rfl | rfl <;> (simp only [List.mem_cons, List.not_mem_nil, or_false] at hs; rcases hs with rfl | rfl <;> assumption)
  · split at hl
    · cases hl
    · split at hl
      · rename_i a b e
        rw [e] at hp
        simp only [List.mem_cons, List.not_mem_nil, or_false] at hl hp
        rcases hl with rfl | rfl <;> (simp only [List.mem_cons, List.not_mem_nil, or_false] at hs; exact hp s (by rcases hs with h | h <;> simp [h]))
      · rename_i u v w z e
        rw [e] at hp
        simp only [List.mem_cons, List.not_mem_nil, or_false] at hl hp
        rcases hl with rfl | rfl | rfl | rfl | rfl | rfl | rfl | rfl <;> (simp only [List.mem_cons, List.not_mem_nil, or_false] at hs; exact hp s (by rcases hs with h | h | h | h <;> simp [h]))
      · cases hl

theorem matchB_ok (p : Pat) (f : Fct) (hf : f.Rt) (b : Bnd) (hb : b.Ok) : ∀ c ∈ matchB p f b, c.Ok := by
  obtain ⟨h1, h2, h3, h4⟩ := hf.parts
  have hg : ∀ i, -1 ≤ f.args.getD i 0 ∧ f.args.getD i 0 < 1000000 := by
    intro i
    rcases Nat.lt_or_ge i f.args.length with h | h
    · rw [getZ_lt _ h]; have := h3 _ (List.getElem_mem h); omega
    · rw [getZ_ge _ h]; omega
  intro c hc
  unfold matchB at hc
  split at hc
  · split at hc
    · exact mp_ok _ _ b (fun a ha => by have := h3 a ha; omega) hb c hc
    · cases hc
  · split at hc
    · split at hc
      · rw [List.mem_append] at hc
        rcases hc with hc | hc
        · exact mid1_ok hb (hg 0) (hg 1) (hg 2) c hc
        · exact mid1_ok hb (hg 0) (hg 2) (hg 1) c hc
      · cases hc
    · rw [List.mem_flatMap] at hc
      obtain ⟨l, hl, hc⟩ := hc
      exact ms_ok _ _ l b (Nat.le_refl _) (rdg_in p.kind f hf l hl) hb c hc

end Go.Va

/-
  Contracts: the search for derivations.
-/
namespace Go.Va
open Go.Proofs
set_option maxHeartbeats 4000000
set_option maxRecDepth 10000
set_option linter.unusedSimpArgs false
set_option linter.unusedVariables false

theorem step_c (x : Value) (b : Bnd) (i : Nat) (hi : i ≤ 1000) (cl : List D) (ys : List (List A)) (h : Emits Tryz.prog x 106 ([.c (.int .i64 (i + 1 : Nat)), .agg b.ds] ++ cl.map .c) ys) :
    Emits Tryz.prog x 108 [.agg b.ds, .c (.ref [.fn 106 cl]), .c (.ref [.int .i64 i])] ys := by
  refine emits_of (T := tb) tab_ok mixed Tryz.func108 rfl (by decide) (Nat.le_of_ble_eq_true rfl) rfl rfl ?_; intro rest; unfold St.initY
  simp (maxSteps := 2000000) -implicitDefEqProofs [-List.map_set, Ja, -Int.natCast_add, -Int.natCast_mul, -Int.natCast_emod, -Int.natCast_ediv, -Int.natCast_pow, Jb, Jc, Jd, Je, Jf, Jg, Jh, Ji, Jj, Jk, Jl, Jm, Jn, Jo, Jp, Jq, Jr, Js, Jt, Ju, Jv, Jw, Jx, Jy, Jz, -List.reduceReplicate]
  refine ⟨by omega, .inr (.inr (.inl ⟨x, ys, rest, _, by simp [lk], ?_, h, ?_⟩))⟩
  · simp [St.argsW, U.toA, toD]
  · simp only [St.reachU, List.flatMap_cons, List.flatMap_nil, U.all, List.append_nil, List.cons_append, List.nil_append, reach_append, Bnd.reach_cs, reach_cons_d, reach_nil]
    simp (maxSteps := 2000000) -implicitDefEqProofs [-List.map_set, Ja, -Int.natCast_add, -Int.natCast_mul, -Int.natCast_emod, -Int.natCast_ediv, -Int.natCast_pow, Jb, Jc, Jd, Je, Jf, Jg, Jh, Ji, Jj, Jk, Jl, Jm, Jn, Jo, Jp, Jq, Jr, Js, Jt, Ju, Jv, Jw, Jx, Jy, Jz, -List.reduceReplicate, St.backY, St.rest, finY]
theorem fct_atC (l : List Fct) (i : Nat) (h : i < l.length) : ((l.flatMap Fct.ds).map C.d |>.drop (i * 5)).take 5 = l[i].ds.map .d := by
  have : ((l.flatMap Fct.ds).drop (i * 5)).take 5 = l[i].ds := fm_at Fct.ds_len l i h
  rw [← List.map_drop, ← List.map_take, this]
/-- The captured function 'next', unrolled so often. -/
def nbox (nb prem r addb : D) : Nat → D
  | 0 => nb
  | k + 1 => .ref [.fn 106 [prem, r, nbox nb prem r addb k, addb]]

/-- What is found from here on. -/
def found1 (E : Bnd → List (List A)) (M : Nat → Bnd → List Bnd) : Nat → Nat → Bnd → List (List A)
  | 0, _, b => E b
  | k + 1, i, b => (M i b).flatMap (found1 E M k (i + 1))

theorem bndY_inj {a b : Bnd} (h : bndY a = bndY b) : a = b := by
  have h1 : a.ds = b.ds := by
    injection h with h _
    injection h
  have h2 : a.v = b.v := (List.map_inj_right (fun x y e => by injection e)).1 h1
  cases a; cases b; simp only at h2; subst h2; rfl
/-- What follows upon one binding. -/
noncomputable def onB (F : Bnd → List (List A)) (y : List A) : List (List A) := by
  classical
  exact if h : ∃ c, bndY c = y then F h.choose else []
theorem onB_of (F : Bnd → List (List A)) (c : Bnd) : onB F (bndY c) = F c := by
  have h : ∃ d, bndY d = bndY c := ⟨c, rfl⟩
  unfold onB
  rw [dif_pos h, bndY_inj h.choose_spec]
theorem onB_map (F : Bnd → List (List A)) (l : List Bnd) : (l.map bndY).flatMap (onB F) = l.flatMap F := by
  rw [List.flatMap_map]
  exact congrArg (fun g => l.flatMap g) (funext fun c => onB_of F c)

theorem nextS_c (x : Value) (prem : List Fct) (r : Rul) (nb addb : D) (E : Bnd → List (List A)) (M : Nat → Bnd → List Bnd) (hp : prem.length ≤ r.prem.length) (hl : prem.length ≤ 1000)
    (hM : ∀ i (h : i < prem.length) (b : Bnd), b.Ok → (∀ x', Emits Tryz.prog x' 107 [.agg (r.prem[i]'(by omega)).ds, .agg prem[i].ds, .agg b.ds, .c (.lit x')] ((M i b).map bndY)) ∧ ∀ c ∈ M i b, c.Ok)
    (k i : Nat) (b : Bnd) (hb : b.Ok) (hi : i + k + 1 = prem.length)
    (ih : ∀ c : Bnd, c.Ok → Emits Tryz.prog x 106 [.c (.int .i64 (i + 1 : Nat)), .agg c.ds, .c (.ref [.slice prem.length (prem.flatMap Fct.ds)]), .c (.ref r.ds), .c (nbox nb (.ref [.slice prem.length (prem.flatMap Fct.ds)]) (.ref r.ds) addb k), .c addb] (found1 E M k (i + 1) c)) :
    Emits Tryz.prog x 106 [.c (.int .i64 i), .agg b.ds, .c (.ref [.slice prem.length (prem.flatMap Fct.ds)]), .c (.ref r.ds), .c (nbox nb (.ref [.slice prem.length (prem.flatMap Fct.ds)]) (.ref r.ds) addb (k + 1)), .c addb] (found1 E M (k + 1) i b) := by
  have q := hM i (by omega) b hb
  have hi1 : i < prem.length := by omega
  have hi2 : i < r.prem.length := by omega
  have g0 := pat_atC r.prem i hi2
  have g1 := fct_atC prem i hi1
  refine emits_of (T := tb) tab_ok mixed Tryz.func106 rfl (by decide) (Nat.le_of_ble_eq_true rfl) rfl rfl ?_; intro rest; unfold St.initY
  simp only [Rul.ds, patsD]
  simp (maxSteps := 2000000) -implicitDefEqProofs [-List.map_set, Ja, -Int.natCast_add, -Int.natCast_mul, -Int.natCast_emod, -Int.natCast_ediv, -Int.natCast_pow, Jb, Jc, Jd, Je, Jf, Jg, Jh, Ji, Jj, Jk, Jl, Jm, Jn, Jo, Jp, Jq, Jr, Js, Jt, Ju, Jv, Jw, Jx, Jy, Jz, -List.reduceReplicate, hi1]
  refine wpDraw_by [[], [0], [], [0, 1, 2], [0, 1, 2, 3], [], [], [5, 6], [5, 6, 7], [], [], [0, 1, 2, 3, 4, 5, 6, 7, 8, 9, 10]] [.any [] [] [⟨0, [3], [], [], []⟩, ⟨0, [17], [], [], []⟩, ⟨0, [6], [], [], []⟩, ⟨0, [18, 19], [], [], []⟩, ⟨0, [20], [], [], []⟩, ⟨0, [2], [], [], []⟩, ⟨0, [6], [], [], []⟩, ⟨0, [22, 23], [], [], []⟩, ⟨0, [24], [], [], []⟩, ⟨0, [7], [], [], []⟩, ⟨0, [4, 6], [], [], []⟩], .one] (by rfl) ?_
  simp (maxSteps := 2000000) -implicitDefEqProofs [-List.map_set, Ja, -Int.natCast_add, -Int.natCast_mul, -Int.natCast_emod, -Int.natCast_ediv, -Int.natCast_pow, Jb, Jc, Jd, Je, Jf, Jg, Jh, Ji, Jj, Jk, Jl, Jm, Jn, Jo, Jp, Jq, Jr, Js, Jt, Ju, Jv, Jw, Jx, Jy, Jz, -List.reduceReplicate, g0, g1]
  refine ⟨hi2, by omega, hi1, by omega, .inr (.inr (.inr (.inl ⟨rfl, x, (M i b).map bndY, rest, [.agg (r.prem[i]).ds, .agg prem[i].ds, .agg b.ds], 108, [nbox nb (.ref [.slice prem.length (prem.flatMap Fct.ds)]) (.ref r.ds) addb (k + 1), .ref [.int .i64 i]], onB (found1 E M k (i + 1)), ?_, ?_, fun x' => q.1 x', ?_, ?_⟩)))⟩
  · rw [onB_map]; simp [lk, found1]
  · simp only [St.reachU, List.flatMap_cons, List.flatMap_nil, U.all, List.append_nil, List.cons_append, List.nil_append, reach_append, Bnd.reach_cs, reach_cons_d, reach_nil]
    simp (maxSteps := 2000000) -implicitDefEqProofs [-List.map_set, Ja, -Int.natCast_add, -Int.natCast_mul, -Int.natCast_emod, -Int.natCast_ediv, -Int.natCast_pow, Jb, Jc, Jd, Je, Jf, Jg, Jh, Ji, Jj, Jk, Jl, Jm, Jn, Jo, Jp, Jq, Jr, Js, Jt, Ju, Jv, Jw, Jx, Jy, Jz, -List.reduceReplicate, U.toA, toD, Rul.ds, patsD, reach, C.id?]
    rfl
  · intro y hy
    obtain ⟨c, hc, rfl⟩ := List.mem_map.1 hy
    rw [onB_of]
    exact step_c x c i (by omega) _ _ (ih c (q.2 c hc))
  · simp only [St.reachU, List.flatMap_cons, List.flatMap_nil, U.all, List.append_nil, List.cons_append, List.nil_append, reach_append, Bnd.reach_cs, reach_cons_d, reach_nil]
    simp (maxSteps := 2000000) -implicitDefEqProofs [-List.map_set, Ja, -Int.natCast_add, -Int.natCast_mul, -Int.natCast_emod, -Int.natCast_ediv, -Int.natCast_pow, Jb, Jc, Jd, Je, Jf, Jg, Jh, Ji, Jj, Jk, Jl, Jm, Jn, Jo, Jp, Jq, Jr, Js, Jt, Ju, Jv, Jw, Jx, Jy, Jz, -List.reduceReplicate, St.backY, St.rest, finY, reach, C.id?]
/-- A conclusion. -/
def conF (b : Bnd) (p : Pat) : Fct := ⟨p.kind, valsB b p.letters, false, if p.kind = 9 then limbs p.n.toNat else [], if p.kind = 9 then limbs 1 else []⟩
def grdsD (l : List Grd) : D := .slice l.length (l.flatMap Grd.ds)
def conY (b : Bnd) (gl : List Grd) (p : Pat) : List A := [.agg (conF b p).ds, .c (grdsD gl)]
def conY2 (b : Bnd) (gl : List Grd) (l : List Pat) (i : Nat) : List (List A) := (l.drop i).map (conY b gl)
theorem conY2_step (b : Bnd) (gl : List Grd) (l : List Pat) (i : Nat) (h : i < l.length) : conY2 b gl l i = conY b gl l[i] :: conY2 b gl l (i + 1) := by
  unfold conY2
  rw [List.drop_eq_getElem_cons h]; rfl
theorem conY2_end (b : Bnd) (gl : List Grd) (l : List Pat) : conY2 b gl l l.length = [] := by simp [conY2]
def endY (r : Rul) (b : Bnd) : List (List A) := if guardsB b r.guards then conY2 b (guardsL b r.guards) r.concl 0 else []

theorem nextE_c (x : Value) (prem : List Fct) (r : Rul) (nb : D) (hl : prem.length ≤ 1000) (hc : r.concl.length ≤ 1000) (hg : r.guards.length ≤ 1000) (hgo : ∀ p ∈ r.guards, p.Ok) (hco : ∀ p ∈ r.concl, p.Ok ∧ 0 ≤ p.n ∧ p.n ≤ 1000)
    (b : Bnd) (hb : b.Ok) :
    Emits Tryz.prog x 106 [.c (.int .i64 (prem.length : Nat)), .agg b.ds, .c (.ref [.slice prem.length (prem.flatMap Fct.ds)]), .c (.ref r.ds), .c nb, .c (.ref [.lit x])] (endY r b) := by
  have q0 := (guardsOf_c b hb r.guards hgo hg).dat
  simp only [patsD, R.dat, RU.dat, RC.dat, List.map_cons, List.map_nil] at q0
  rw [List.take_of_length_le (by simp)] at q0
  unfold endY
  refine emits_of (T := tb) tab_ok mixed Tryz.func106 rfl (by decide) (Nat.le_of_ble_eq_true rfl) rfl rfl ?_; intro rest; unfold St.initY
  simp only [Rul.ds, patsD]
  simp (maxSteps := 2000000) -implicitDefEqProofs [-List.map_set, Ja, -Int.natCast_add, -Int.natCast_mul, -Int.natCast_emod, -Int.natCast_ediv, -Int.natCast_pow, Jb, Jc, Jd, Je, Jf, Jg, Jh, Ji, Jj, Jk, Jl, Jm, Jn, Jo, Jp, Jq, Jr, Js, Jt, Ju, Jv, Jw, Jx, Jy, Jz, -List.reduceReplicate]
  (first | refine .inl ⟨_, q0, ?_⟩ | refine ⟨_, q0, ?_⟩)
  rw [Bnd.flatMap_reach b _ (fun c hc => by simp only [hc])]
  cases hgb : guardsB b r.guards with
  | false =>
    simp (maxSteps := 2000000) -implicitDefEqProofs [-List.map_set, Ja, -Int.natCast_add, -Int.natCast_mul, -Int.natCast_emod, -Int.natCast_ediv, -Int.natCast_pow, Jb, Jc, Jd, Je, Jf, Jg, Jh, Ji, Jj, Jk, Jl, Jm, Jn, Jo, Jp, Jq, Jr, Js, Jt, Ju, Jv, Jw, Jx, Jy, Jz, -List.reduceReplicate, finY]
  | true =>
    simp (maxSteps := 2000000) -implicitDefEqProofs [-List.map_set, Ja, -Int.natCast_add, -Int.natCast_mul, -Int.natCast_emod, -Int.natCast_ediv, -Int.natCast_pow, Jb, Jc, Jd, Je, Jf, Jg, Jh, Ji, Jj, Jk, Jl, Jm, Jn, Jo, Jp, Jq, Jr, Js, Jt, Ju, Jv, Jw, Jx, Jy, Jz, -List.reduceReplicate]
    generalize guardsL b r.guards = gl
    refine wpLoop_of (fun i : Nat => ⟨[(41, vI .i64 i), (40, vI .i64 r.concl.length), (39, vC (.d (.slice r.concl.length (r.concl.flatMap Pat.ds)))), (8, vC (.d (.slice gl.length (gl.flatMap Grd.ds)))), (7, vC (.ptr 7 0)), (5, vC (.d (.ref [.lit x]))), (YS, .tr x (conY2 b gl r.concl i ++ rest))], [(7, .box b.cs)]⟩)
      (fun i => i ≤ r.concl.length) (fun i => r.concl.length - i) 0 (by simp [leL, lk, St.le, vI, vC, YS]) (by omega) ?_
    rintro i hi
    by_cases h : i < r.concl.length
    · have g := pat_atC r.concl i h
      have hpi := hco r.concl[i] (List.getElem_mem h)
      have b1 : i * 3 + 3 ≤ r.concl.length * 3 := by omega
      have q1 := (values_c b hb r.concl[i].letters hpi.1.2.2 hpi.1.2.1).dat
      simp only [R.dat, RU.dat, RC.dat] at q1
      rw [List.take_of_length_le (by simp)] at q1
      rw [conY2_step b gl r.concl i h]
      simp (maxSteps := 2000000) -implicitDefEqProofs [-List.map_set, Ja, -Int.natCast_add, -Int.natCast_mul, -Int.natCast_emod, -Int.natCast_ediv, -Int.natCast_pow, Jb, Jc, Jd, Je, Jf, Jg, Jh, Ji, Jj, Jk, Jl, Jm, Jn, Jo, Jp, Jq, Jr, Js, Jt, Ju, Jv, Jw, Jx, Jy, Jz, -List.reduceReplicate, h, g]
      refine ⟨by omega, ?_⟩
      refine wpDraw_by [[], [0], [], [], [3], [2, 3, 4], [0, 1, 2, 3, 4, 5], [], [0, 1, 2, 3, 4, 5, 6, 7]] [.any [] [12] [⟨0, [11], [12], [12], []⟩, ⟨0, [45], [12], [12], []⟩, ⟨0, [7], [12], [12], []⟩, ⟨0, [11], [12], [12], []⟩, ⟨0, [48], [12], [12], []⟩, ⟨0, [47, 49], [12], [12], []⟩, ⟨0, [46, 50], [12], [12], []⟩, ⟨1, [], [], [], []⟩], .one] (by rfl) ?_
      simp (maxSteps := 2000000) -implicitDefEqProofs [-List.map_set, Ja, -Int.natCast_add, -Int.natCast_mul, -Int.natCast_emod, -Int.natCast_ediv, -Int.natCast_pow, Jb, Jc, Jd, Je, Jf, Jg, Jh, Ji, Jj, Jk, Jl, Jm, Jn, Jo, Jp, Jq, Jr, Js, Jt, Ju, Jv, Jw, Jx, Jy, Jz, -List.reduceReplicate]
      (first | refine .inl ⟨_, q1, ?_⟩ | refine ⟨_, q1, ?_⟩)
      simp (maxSteps := 2000000) -implicitDefEqProofs [-List.map_set, Ja, -Int.natCast_add, -Int.natCast_mul, -Int.natCast_emod, -Int.natCast_ediv, -Int.natCast_pow, Jb, Jc, Jd, Je, Jf, Jg, Jh, Ji, Jj, Jk, Jl, Jm, Jn, Jo, Jp, Jq, Jr, Js, Jt, Ju, Jv, Jw, Jx, Jy, Jz, -List.reduceReplicate]
      refine ⟨fun h9 => ?_, fun h9 => ?_⟩
      · obtain ⟨n, hn⟩ : ∃ n : Nat, r.concl[i].n = (n : Int) := ⟨r.concl[i].n.toNat, by omega⟩
        have q2 := ratOf_c n (by omega)
        rw [← hn] at q2
        (first | refine .inl ⟨_, q2, ?_⟩ | refine ⟨_, q2, ?_⟩)
        simp (maxSteps := 2000000) -implicitDefEqProofs [-List.map_set, Ja, -Int.natCast_add, -Int.natCast_mul, -Int.natCast_emod, -Int.natCast_ediv, -Int.natCast_pow, Jb, Jc, Jd, Je, Jf, Jg, Jh, Ji, Jj, Jk, Jl, Jm, Jn, Jo, Jp, Jq, Jr, Js, Jt, Ju, Jv, Jw, Jx, Jy, Jz, -List.reduceReplicate]
        refine ⟨conY b gl r.concl[i], conY2 b gl r.concl (i + 1) ++ rest, by simp [lk], ?_, ?_⟩
        · simp (maxSteps := 2000000) -implicitDefEqProofs [-List.map_set, Ja, -Int.natCast_add, -Int.natCast_mul, -Int.natCast_emod, -Int.natCast_ediv, -Int.natCast_pow, Jb, Jc, Jd, Je, Jf, Jg, Jh, Ji, Jj, Jk, Jl, Jm, Jn, Jo, Jp, Jq, Jr, Js, Jt, Ju, Jv, Jw, Jx, Jy, Jz, -List.reduceReplicate, St.argsW, U.toA, conY, conF, h9, hn, grdsD, toD]
        · simp (maxSteps := 2000000) -implicitDefEqProofs [-List.map_set, Ja, -Int.natCast_add, -Int.natCast_mul, -Int.natCast_emod, -Int.natCast_ediv, -Int.natCast_pow, Jb, Jc, Jd, Je, Jf, Jg, Jh, Ji, Jj, Jk, Jl, Jm, Jn, Jo, Jp, Jq, Jr, Js, Jt, Ju, Jv, Jw, Jx, Jy, Jz, -List.reduceReplicate, St.backY, St.rest]
          refine ⟨by omega, i + 1, ⟨rfl, rfl⟩, by omega, by omega⟩
      · refine ⟨conY b gl r.concl[i], conY2 b gl r.concl (i + 1) ++ rest, by simp [lk], ?_, ?_⟩
        · simp (maxSteps := 2000000) -implicitDefEqProofs [-List.map_set, Ja, -Int.natCast_add, -Int.natCast_mul, -Int.natCast_emod, -Int.natCast_ediv, -Int.natCast_pow, Jb, Jc, Jd, Je, Jf, Jg, Jh, Ji, Jj, Jk, Jl, Jm, Jn, Jo, Jp, Jq, Jr, Js, Jt, Ju, Jv, Jw, Jx, Jy, Jz, -List.reduceReplicate, St.argsW, U.toA, conY, conF, h9, grdsD, toD]
          rfl
        · simp (maxSteps := 2000000) -implicitDefEqProofs [-List.map_set, Ja, -Int.natCast_add, -Int.natCast_mul, -Int.natCast_emod, -Int.natCast_ediv, -Int.natCast_pow, Jb, Jc, Jd, Je, Jf, Jg, Jh, Ji, Jj, Jk, Jl, Jm, Jn, Jo, Jp, Jq, Jr, Js, Jt, Ju, Jv, Jw, Jx, Jy, Jz, -List.reduceReplicate, St.backY, St.rest]
          refine ⟨by omega, i + 1, ⟨rfl, rfl⟩, by omega, by omega⟩
    · have e : i = r.concl.length := by omega
      subst e
      rw [conY2_end]
      simp (maxSteps := 2000000) -implicitDefEqProofs [-List.map_set, Ja, -Int.natCast_add, -Int.natCast_mul, -Int.natCast_emod, -Int.natCast_ediv, -Int.natCast_pow, Jb, Jc, Jd, Je, Jf, Jg, Jh, Ji, Jj, Jk, Jl, Jm, Jn, Jo, Jp, Jq, Jr, Js, Jt, Ju, Jv, Jw, Jx, Jy, Jz, -List.reduceReplicate, h, finY]
theorem next_c (x : Value) (prem : List Fct) (r : Rul) (nb : D) (M : Nat → Bnd → List Bnd) (hp : prem.length ≤ r.prem.length) (hl : prem.length ≤ 1000) (hc : r.concl.length ≤ 1000) (hg : r.guards.length ≤ 1000) (hgo : ∀ p ∈ r.guards, p.Ok) (hco : ∀ p ∈ r.concl, p.Ok ∧ 0 ≤ p.n ∧ p.n ≤ 1000)
    (hM : ∀ i (h : i < prem.length) (b : Bnd), b.Ok → (∀ x', Emits Tryz.prog x' 107 [.agg (r.prem[i]'(by omega)).ds, .agg prem[i].ds, .agg b.ds, .c (.lit x')] ((M i b).map bndY)) ∧ ∀ c ∈ M i b, c.Ok) :
    ∀ (k i : Nat) (b : Bnd), b.Ok → i + k = prem.length →
    Emits Tryz.prog x 106 [.c (.int .i64 (i : Nat)), .agg b.ds, .c (.ref [.slice prem.length (prem.flatMap Fct.ds)]), .c (.ref r.ds), .c (nbox nb (.ref [.slice prem.length (prem.flatMap Fct.ds)]) (.ref r.ds) (.ref [.lit x]) k), .c (.ref [.lit x])] (found1 (endY r) M k i b)
  | 0, i, b, hb, hi => by
    obtain rfl : i = prem.length := by omega
    exact nextE_c x prem r nb hl hc hg hgo hco b hb
  | k + 1, i, b, hb, hi => nextS_c x prem r nb _ (endY r) M hp hl hM k i b hb (by omega) fun c hc2 => next_c x prem r nb M hp hl hc hg hgo hco hM k (i + 1) c hc2 (by omega)

theorem search_c (x : Value) (prem : List Fct) (r : Rul) (M : Nat → Bnd → List Bnd) (hp : prem.length ≤ r.prem.length) (hl : prem.length ≤ 3) (hc : r.concl.length ≤ 1000) (hg : r.guards.length ≤ 1000) (hgo : ∀ p ∈ r.guards, p.Ok) (hco : ∀ p ∈ r.concl, p.Ok ∧ 0 ≤ p.n ∧ p.n ≤ 1000)
    (hM : ∀ i (h : i < prem.length) (b : Bnd), b.Ok → (∀ x', Emits Tryz.prog x' 107 [.agg (r.prem[i]'(by omega)).ds, .agg prem[i].ds, .agg b.ds, .c (.lit x')] ((M i b).map bndY)) ∧ ∀ c ∈ M i b, c.Ok) (b0 : Bnd) (h0 : b0.v = List.replicate 78 0) :
    Emits Tryz.prog x 56 [.agg r.ds, .c (.slice prem.length (prem.flatMap Fct.ds)), .c (.lit x)] (found1 (endY r) M prem.length 0 b0) := by
  have q := fun nb => next_c x prem r nb M hp (by omega) hc hg hgo hco hM prem.length 0 b0 (by unfold Bnd.Ok; rw [h0]; intro y hy; have := List.eq_of_mem_replicate hy; omega) (by omega)
  have e : List.replicate 78 (C.d (D.int .i64 0)) = b0.cs := by unfold Bnd.cs; rw [h0]; rfl
  generalize found1 (endY r) M prem.length 0 b0 = ys at *
  clear hM hco hgo hp hc hg
  refine emits_of (T := tb) tab_ok mixed Tryz.func56 rfl (by decide) (Nat.le_of_ble_eq_true rfl) rfl rfl ?_; intro rest; unfold St.initY
  simp only [Rul.ds, patsD] at *
  simp (maxSteps := 2000000) -implicitDefEqProofs [-List.map_set, Ja, -Int.natCast_add, -Int.natCast_mul, -Int.natCast_emod, -Int.natCast_ediv, -Int.natCast_pow, Jb, Jc, Jd, Je, Jf, Jg, Jh, Ji, Jj, Jk, Jl, Jm, Jn, Jo, Jp, Jq, Jr, Js, Jt, Ju, Jv, Jw, Jx, Jy, Jz, -List.reduceReplicate, e]
  obtain hl0 | hl0 | hl0 | hl0 : prem.length = 0 ∨ prem.length = 1 ∨ prem.length = 2 ∨ prem.length = 3 := by omega
  all_goals
    rw [hl0] at q ⊢
    have q := q (nbox (.ref [.fn 106 [.any, .any, .any, .any]]) (.ref [.slice prem.length (prem.flatMap Fct.ds)]) (.ref [.str (bs r.name), .slice r.prem.length (r.prem.flatMap Pat.ds), .slice r.concl.length (r.concl.flatMap Pat.ds), .slice r.guards.length (r.guards.flatMap Pat.ds), .int .i64 r.count, r.derive]) (.ref [.lit x]) (3 - prem.length))
    rw [hl0] at q
    simp only [nbox, Nat.sub_zero, Nat.reduceSub] at q
    refine .inr (.inr (.inl ⟨x, _, rest, _, by simp [lk], ?_, q, ?_⟩))
    · simp (maxSteps := 2000000) -implicitDefEqProofs [-List.map_set, Ja, -Int.natCast_add, -Int.natCast_mul, -Int.natCast_emod, -Int.natCast_ediv, -Int.natCast_pow, Jb, Jc, Jd, Je, Jf, Jg, Jh, Ji, Jj, Jk, Jl, Jm, Jn, Jo, Jp, Jq, Jr, Js, Jt, Ju, Jv, Jw, Jx, Jy, Jz, -List.reduceReplicate, St.reachU, U.all, reach, C.id?, St.argsW, U.toA, toD, nbox]
    · simp (maxSteps := 2000000) -implicitDefEqProofs [-List.map_set, Ja, -Int.natCast_add, -Int.natCast_mul, -Int.natCast_emod, -Int.natCast_ediv, -Int.natCast_pow, Jb, Jc, Jd, Je, Jf, Jg, Jh, Ji, Jj, Jk, Jl, Jm, Jn, Jo, Jp, Jq, Jr, Js, Jt, Ju, Jv, Jw, Jx, Jy, Jz, -List.reduceReplicate, St.backY, St.rest, finY]
end Go.Va

/-
  What follows: a list of facts with their guards, in plain words.
-/
namespace Go.Va
open Go.Proofs
set_option maxHeartbeats 4000000
set_option maxRecDepth 10000
set_option linter.unusedSimpArgs false
set_option linter.unusedVariables false

/-- A fact that follows, and its guards. -/
structure Fnd where
  fact : Fct
  grds : List Grd
def Fnd.ds (x : Fnd) : List D := [.int .i64 x.fact.kind, intsD x.fact.args, .bool x.fact.neg, natD x.fact.abs, natD x.fact.den, grdsD x.grds]
theorem Fnd.ds_len (x : Fnd) : x.ds.length = 6 := rfl
@[simp high] theorem fnd_len (l : List Fnd) : (l.flatMap Fnd.ds).length = l.length * 6 := fm_length Fnd.ds_len l

/-- Is a fact there that is not parted from 'g'? -/
def anyE (g : Fct) (l : List Fct) : Bool := l.any fun a => decide (cmpF g a = 0)
/-- The index of the first fact that is not parted from 'g', or -1. -/
def idxE (g : Fct) : List Fct → Nat → Int
  | [], _ => -1
  | a :: l, i => if cmpF g a = 0 then i else idxE g l (i + 1)
theorem idxE_any (g : Fct) : ∀ (l : List Fct) (i : Nat), 0 ≤ idxE g l i ↔ anyE g l = true
  | [], i => by simp [idxE, anyE]
  | a :: l, i => by
    unfold idxE
    by_cases h : cmpF g a = 0
    · rw [if_pos h]; simp [h, anyE]
    · rw [if_neg h, idxE_any g l (i + 1)]; simp [h, anyE]
theorem idxE_drop {g : Fct} {l : List Fct} {i : Nat} (h : i < l.length) : idxE g (l.drop i) i = if cmpF g l[i] = 0 then (i : Int) else idxE g (l.drop (i + 1)) (i + 1) := by
  rw [List.drop_eq_getElem_cons h]
  rfl
theorem idxE_spec (g : Fct) : ∀ (l : List Fct) (i : Nat), idxE g l i = -1 ∧ (∀ a ∈ l, cmpF g a ≠ 0) ∨ ∃ k, ∃ h : k < l.length, idxE g l i = ((i + k : Nat) : Int) ∧ cmpF g l[k] = 0
  | [], i => .inl ⟨rfl, by simp⟩
  | a :: l, i => by
    unfold idxE
    by_cases h : cmpF g a = 0
    · rw [if_pos h]; exact .inr ⟨0, by simp, by simp, by simpa using h⟩
    · rw [if_neg h]
      rcases idxE_spec g l (i + 1) with ⟨h1, h2⟩ | ⟨k, hk, h1, h2⟩
      · exact .inl ⟨h1, fun b hb => by rcases List.mem_cons.1 hb with rfl | hb; exact h; exact h2 b hb⟩
      · exact .inr ⟨k + 1, by simpa using hk, by rw [h1]; omega, by simpa using h2⟩

/-- Guards in the order of lists. -/
def lexG : List Grd → List Grd → Int
  | [], [] => 0
  | [], _ :: _ => -1
  | _ :: _, [] => 1
  | a :: x, b :: y => if cmpG a b ≠ 0 then cmpG a b else lexG x y
def earlyG (a b : List Grd) : Bool := if a.length ≠ b.length then decide (a.length < b.length) else decide (lexG a b < 0)

/-- A fact is added. -/
def addN (nl : List Fct) (l : List Fnd) (f : Fct) (g : List Grd) : List Fnd :=
  if f.kind = 0 ∨ trivF f = true ∨ anyE f nl = true then l else
  let i := idxE f (l.map Fnd.fact) 0
  if i < 0 then l ++ [⟨f, g⟩] else
  match l[i.toNat]? with
  | none => l
  | some x => if earlyG g x.grds then l.set i.toNat ⟨x.fact, g⟩ else l
def addF (nl : List Fct) (l : List Fnd) (f : Fct) (g : List Grd) : List Fnd := addN nl l (normF f) g

/-- What is asked of what was found. -/
structure FndOk (l : List Fnd) : Prop where
  rt : ∀ x ∈ l, x.fact.Rt
  sh : ∀ x ∈ l, x.grds.length ≤ 10 ∧ ∀ g ∈ x.grds, g.Short
  nd : l.Pairwise fun x y => x.fact ≠ y.fact
theorem FndOk.nil : FndOk [] := ⟨by simp, by simp, .nil⟩

theorem normF_rt {f : Fct} (hm : f.Mild) (h : (normF f).kind ≠ 0) : (normF f).Rt := by
  unfold normF at h ⊢
  split
  · rename_i h1
    exact normG_rt ⟨h1, hm⟩
  · rename_i h1
    rw [if_neg h1] at h
    exact absurd rfl h

theorem addN_ok {nl : List Fct} {l : List Fnd} {f : Fct} {g : List Grd} (hl : FndOk l) (hf : f.kind ≠ 0 → f.Rt) (hg : g.length ≤ 10 ∧ ∀ x ∈ g, x.Short) : FndOk (addN nl l f g) := by
  unfold addN
  split
  · exact hl
  · rename_i h0
    have hrt : f.Rt := hf fun h => h0 (.inl h)
    rcases idxE_spec f (l.map Fnd.fact) 0 with ⟨h1, h2⟩ | ⟨k, hk, h1, h2⟩
    · simp only [h1]
      rw [if_pos (by omega)]
      refine ⟨fun x hx => ?_, fun x hx => ?_, ?_⟩
      · rcases List.mem_append.1 hx with hx | hx
        · exact hl.rt x hx
        · rw [List.mem_singleton] at hx; subst hx; exact hrt
      · rcases List.mem_append.1 hx with hx | hx
        · exact hl.sh x hx
        · rw [List.mem_singleton] at hx; subst hx; exact hg
      · rw [List.pairwise_append]
        refine ⟨hl.nd, List.pairwise_singleton _ _, fun x hx y hy => ?_⟩
        rw [List.mem_singleton] at hy
        subst hy
        intro e
        have := h2 x.fact (List.mem_map.2 ⟨x, hx, rfl⟩)
        rw [e] at this
        exact this ((cmpF_zero hrt hrt).2 rfl)
    · simp only [h1]
      rw [if_neg (by omega)]
      rw [List.length_map] at hk
      have e1 : ((0 + k : Nat) : Int).toNat = k := by omega
      rw [e1, List.getElem?_eq_getElem hk]
      simp only
      split
      · have hset : ∀ x ∈ l.set k ⟨l[k].fact, g⟩, x ∈ l ∨ x = ⟨l[k].fact, g⟩ := fun x hx => List.mem_or_eq_of_mem_set hx
        refine ⟨fun x hx => ?_, fun x hx => ?_, ?_⟩
        · rcases hset x hx with hx | rfl
          · exact hl.rt x hx
          · exact hl.rt l[k] (List.getElem_mem hk)
        · rcases hset x hx with hx | rfl
          · exact hl.sh x hx
          · exact hg
        · have h3 : (l.map Fnd.fact).Pairwise (· ≠ ·) := by rw [List.pairwise_map]; exact hl.nd
          have h4 : (l.set k ⟨l[k].fact, g⟩).map Fnd.fact = l.map Fnd.fact := by
            rw [List.map_set]
            apply List.ext_getElem (by simp)
            intro j h5 h6
            rw [List.getElem_set]
            split
            · rename_i e; subst e; simp
            · rfl
          rw [← h4, List.pairwise_map] at h3
          exact h3
      · exact hl
theorem addN_len (nl : List Fct) (l : List Fnd) (f : Fct) (g : List Grd) : (addN nl l f g).length ≤ l.length + 1 := by
  unfold addN
  split
  · omega
  · simp only
    split
    · simp
    · split
      · omega
      · split <;> simp

end Go.Va
