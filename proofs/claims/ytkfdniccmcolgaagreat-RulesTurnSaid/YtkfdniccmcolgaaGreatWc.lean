/-
  Soundness, eleventh part: regions in any order; code; functions.
-/
import Derived.Test.YtkfdniccmcolgaaGreatWbb
set_option linter.all false

namespace Go.Va
open Go.RowKit

section
variable {P : Program} {T : Tab} {X : Cx} {w : World} {n : Nat}

/-- All regions of a code: their places lie in the frame. -/
def codeOk (n : Nat) (pin : List Nat) : Code → Bool
  | .region _ ops _ => dstsOk n pin ops.toList
  | .seq x y => codeOk n pin x && codeOk n pin y
  | .cond _ x y => codeOk n pin x && codeOk n pin y
  | .block _ c => codeOk n pin c
  | .loop c => codeOk n pin c
  | _ => true

theorem _root_.Go.Code.wp.mono' {P : Program} {c : Code} {Q Q' : Exit → Act → World → Prop} {a : Act} {w : World} (h : c.wp P Q a w) (hq : ∀ e a w, Q e a w → Q' e a w) : c.wp P Q' a w := wp_mono h hq

/-- A way of ending, known at the level of values. -/
def GoesQ (X : Cx) (Q : Cont) : Exit → Act → World → Prop := fun e => Goes X (Q e)

theorem code_sound (hT : TabOk P T) (hY : ∀ Y, X.Y = some Y → YlOk P Y) (hm : P.follows .mixedOrders = true) : ∀ (c : Code) (Q : Cont) (a : Act) (w : World), codeOk X.n X.pin c = true → Goes X (fun st => wpV P T c st Q) a w → c.wp P (GoesQ X Q) a w
  | .skip, Q, a, w, _, h => wp_skip h
  | .region id ops draw, Q, a, w, hok, h => by
    have hl : ops = ops.toList.toArray := by simp
    cases draw with
    | false =>
      rw [hl]
      exact wp_region_lit (ops_sound hT hY (ops := ops.toList) hok (fun a w h => h) ops.toList a w (fun o ho => ho) h)
    | true =>
      refine wp_region_any hm ?_
      obtain ⟨M, Z, w0, ρ, st, hL, h1, h2, h3⟩ := h
      have := draw_sound (Q := GoesQ X Q) (K := normQ Q) hT hY (ops := ops.toList) hok (fun a w h => h) (a := a) (w := { w with drawn := w.drawn + 1 }) ⟨M, Z, w0, ρ, st, hL, h1.drew, h2, h3⟩
      simpa using this
  | .seq x y, Q, a, w, hok, h => by
    simp only [codeOk, Bool.and_eq_true] at hok
    refine wp_seq ((code_sound hT hY hm x (thenQ (wpV P T y) Q) a w hok.1 h).mono' fun e a' w' he => ?_)
    cases e <;> first | exact code_sound hT hY hm y Q a' w' hok.2 he | exact he
  | .cond c x y, Q, a, w, hok, ⟨M, Z, w0, ρ, st, hL, hrel, hn, hw⟩ => by
    simp only [codeOk, Bool.and_eq_true] at hok
    unfold wpV condV at hw
    split at hw
    · rename_i b hb
      refine wp_cond_split (hrel.evB hb) (fun ht => ?_) (fun hf => ?_)
      · exact code_sound hT hY hm x Q a w hok.1 ⟨M, Z, w0, ρ, st, hL, hrel, hn, hw.1 ht⟩
      · exact code_sound hT hY hm y Q a w hok.2 ⟨M, Z, w0, ρ, st, hL, hrel, hn, hw.2 hf⟩
    · exact hw.elim
  | .block id c, Q, a, w, hok, h => by
    refine wp_block ((code_sound hT hY hm c (blockQ id Q) a w hok h).mono' fun e a' w' he => ?_)
    cases e <;> try exact he
    rename_i j
    obtain ⟨M, Z, w0, ρ, st, hL, h1, h2, h3⟩ := he
    simp only [Exit.inBlock]
    simp only [blockQ] at h3
    split
    · rw [if_pos ‹_›] at h3; exact ⟨M, Z, w0, ρ, st, hL, h1, h2, h3⟩
    · rw [if_neg ‹_›] at h3; exact ⟨M, Z, w0, ρ, st, hL, h1, h2, h3⟩
  | .loop c, Q, a, w, hok, ⟨M, Z, w0, ρ, st, hL, hrel, hn, hw⟩ => by
    obtain ⟨I, rs, ⟨s, m0, hle, hI⟩, hround⟩ := hw
    intro b k cs
    have key : ∀ (m : Nat) (a : Act) (w : World), (∃ M Z w0 ρ s, Lk X M Z w0 s a ∧ Rel M Z w0 ρ s a w ∧ a.tmps.size = X.n ∧ I s m) →
        ∃ e a' w', GoesQ X Q e a' w' ∧ Arrives P (lone (b.at a (.code c :: .inLoop c :: k)) cs w) b k cs e a' w' := by
      intro m
      induction m using Nat.strongRecOn with
      | _ m ih =>
        rintro a w ⟨M, Z, w0, ρ, s, hL, h1, h2, h3⟩
        have hc := code_sound hT hY hm c (thenQ (againQ I rs m) Q) a w hok ⟨M, Z, w0, ρ, s, hL, h1, h2, hround s m h3⟩
        obtain ⟨e, a1, w1, hq, harr⟩ := hc b (.inLoop c :: k) cs
        cases e with
        | normal =>
          obtain ⟨M', Z', w0', ρ1, s1, gL, g1, g2, s2, m2, g3, g4, g5⟩ := hq
          obtain ⟨ρ2, g1'⟩ := Rel.rns rs g1
          obtain ⟨e2, a2, w2, hq2, harr2⟩ := ih m2 g5 a1 w1 ⟨M', Z', w0', ρ2, s2, (gL.of (TrLe.rns rs)).of (TrLe.le g3), g1'.weaken g3, g2, g4⟩
          exact ⟨e2, a2, w2, hq2, .of_steps (Steps.trans harr (.one step_inLoop)) harr2⟩
        | exit id => exact ⟨_, a1, w1, hq, .pass (x := .inLoop c) rfl (fun _ _ => .inl (by simp)) harr⟩
        | goto l => exact ⟨_, a1, w1, hq, .pass (x := .inLoop c) rfl (fun _ _ => .inl (by simp)) harr⟩
        | ret => exact ⟨_, a1, w1, hq, .pass (x := .inLoop c) rfl (fun _ _ => .inl (by simp)) harr⟩
        | panic ch => exact ⟨_, a1, w1, hq, .pass (x := .inLoop c) rfl (fun _ _ => .inl (by simp)) harr⟩
        | outgrown => exact ⟨_, a1, w1, hq, .pass (x := .inLoop c) rfl (fun _ _ => .inl (by simp)) harr⟩
    obtain ⟨ρ0, hrel'⟩ := Rel.rns rs hrel
    obtain ⟨e, a', w', hq, harr⟩ := key _ a w ⟨M, Z, w0, ρ0, s, (hL.of (TrLe.rns rs)).of (TrLe.le hle), hrel'.weaken hle, hn, hI⟩
    exact ⟨e, a', w', hq, .of_steps (.one step_loop) harr⟩
  | .exit id, Q, a, w, _, h => wp_exit h
  | .ret, Q, a, w, _, h => wp_ret h
  | .rangeFunc _ _ _ _, Q, a, w, _, ⟨_, _, _, _, _, _, _, _, hw⟩ => hw.elim
  | .scope _, Q, a, w, _, ⟨_, _, _, _, _, _, _, _, hw⟩ => hw.elim
  | .label _, Q, a, w, _, ⟨_, _, _, _, _, _, _, _, hw⟩ => hw.elim
  | .goto _, Q, a, w, _, ⟨_, _, _, _, _, _, _, _, hw⟩ => hw.elim
  | .refuse _, Q, a, w, _, ⟨_, _, _, _, _, _, _, _, hw⟩ => hw.elim

end
end Go.Va

/-
  Soundness, last part: functions.
-/
namespace Go.Va
open Go.RowKit

section
variable {P : Program} {T : Tab} {M Z : Addr → Prop} {w0 w : World} {ρ : Rho} {st : St} {a : Act}

def resF (tmps : Array Value) (r : ResultVar) : Sem Value :=
  match r with
  | .tmp t => pure (tmps.getD t undef)
  | .cell a' t => do loadVar t (← asAddr (tmps.getD a' undef))
def oneOrTuple (vs : Array Value) : Value := if h : vs.size = 1 then vs[0] else .tuple vs
theorem results_eq (fn : Func) (tmps : Array Value) : results fn tmps = (fn.results.mapM (resF tmps)).bind fun vs => pure (oneOrTuple vs) := by
  rfl
theorem resF_tmp (tmps : Array Value) (t : Nat) : resF tmps (.tmp t) = pure (tmps.getD t undef) := rfl

theorem resU_rep (hT : TabOk P T) (h : Rel M Z w0 ρ st a w) : ∀ {rs : List ResultVar} {us : List U}, rs.mapM (st.resU T) = some us →
    ∃ xs : List Value, (rs.mapM (resF a.tmps)).run P w = .ok xs w ∧ RepL (RepU ρ w Z) us xs
  | [], us, hu => by simp at hu; subst hu; exact ⟨[], by simp, rfl, fun j x v hx => by simp at hx⟩
  | r :: rs, us, hu => by
    simp only [List.mapM_cons, Option.pure_def, Option.bind_eq_bind, Option.bind_eq_some_iff, Option.some.injEq] at hu
    obtain ⟨u, hu1, us', hu2, rfl⟩ := hu
    obtain ⟨xs, hx, i1, i2⟩ := resU_rep hT h hu2
    cases r with
    | cell t ty =>
      simp only [St.resU, Option.bind_eq_some_iff] at hu1
      obtain ⟨i, hi, hu1⟩ := hu1
      split at hu1
      · rename_i c hl
        obtain ⟨info, d, ht⟩ := tyB_ok (hT ty i hi)
        obtain ⟨ad, v, he, hr, hv⟩ := load_rep (P := P) h ht (h.tmps t _ hl) hu1
        refine ⟨v :: xs, ?_, by simp [i1], fun j y v' hy hv' => ?_⟩
        · simp only [List.mapM_cons, resF, he, asAddr, Sem.run_bind, Sem.run_pure, Result.andThen_ok, hr, hx]
        · cases j with
          | zero => simp only [List.getElem?_cons_zero, Option.some.injEq] at hy hv'; subst hy; subst hv'; exact hv
          | succ j => exact i2 j y v' (by simpa using hy) (by simpa using hv')
      · cases hu1
    | tmp t =>
      simp only [St.resU] at hu1
      split at hu1 <;> cases hu1
      have hv := h.tmps t _ ‹_›
      refine ⟨a.tmps.getD t undef :: xs, ?_, by simp [i1], fun j y v hy hv' => ?_⟩
      · simp only [List.mapM_cons, resF_tmp, Sem.run_bind, Sem.run_pure, Result.andThen_ok, hx]
      · cases j with
        | zero => simp only [List.getElem?_cons_zero, Option.some.injEq] at hy hv'; subst hy; subst hv'; exact hv
        | succ j => exact i2 j y v (by simpa using hy) (by simpa using hv')

theorem res_rep (hT : TabOk P T) (h : Rel M Z w0 ρ st a w) {fn : Func} {v : V} (hv : st.res T fn.results.toList = some v) : ∃ x, (results fn a.tmps).run P w = .ok x w ∧ RepV ρ w Z v x := by
  rw [results_eq]
  have key : ∀ us, fn.results.toList.mapM (st.resU T) = some us → ∃ xs : List Value, (fn.results.mapM (resF a.tmps)).run P w = .ok xs.toArray w ∧ RepL (RepU ρ w Z) us xs := fun us hus => by
    obtain ⟨xs, h1, h2⟩ := resU_rep (P := P) hT h hus
    refine ⟨xs, ?_, h2⟩
    rw [Array.mapM_eq_mapM_toList]
    simp [h1]
  unfold St.res at hv
  split at hv
  · rename_i r hr
    rw [Option.map_eq_some_iff] at hv
    obtain ⟨u, hu, rfl⟩ := hv
    obtain ⟨xs, h1, h2, h3⟩ := key [u] (by rw [hr]; simp [hu])
    match xs, h2 with
    | [x], _ => exact ⟨x, by simp [Sem.run_bind', h1, oneOrTuple], h3 0 u x rfl rfl⟩
  · rename_i hne
    rw [Option.map_eq_some_iff] at hv
    obtain ⟨us, hu, rfl⟩ := hv
    obtain ⟨xs, h1, h2⟩ := key us hu
    refine ⟨.tuple xs.toArray, ?_, xs, rfl, h2⟩
    have hl : xs.length ≠ 1 := by
      rw [← h2.1, (mapM_some hu).1]
      intro h1
      obtain ⟨r, hr⟩ := List.length_eq_one_iff.1 h1
      exact hne r hr
    simp [Sem.run_bind', h1, hl, oneOrTuple]

/-! ### what is handed back -/

structure OwnOk (w0 w : World) (ρ : Rho) (Z : Addr → Prop) (o : Own) (b : Blk) : Prop where
  fresh : ∀ ad, o.has ad → w0.heap.size ≤ ad.block
  sub : ∀ ad, o.has ad → Out ρ Z ad
  cells : o.gone = false → ∀ j, j < o.room * o.sz → (∃ v, w.cell? (o.at j) = some v) ∧ w.frozen? (o.at j) = false
  lim : o.room ≤ maxLen
  rep : ∀ ρs : Rho, (∀ ad, Out ρs Z ad → Out ρ Z ad) → RepB ρs w Z o b

theorem fitC_rep (h : Rel (fun _ => False) Z w0 ρ st a w) {pure : Bool} {c : C} {r : RC} {v : Value} (hf : fitC st pure c r) (hc : RepC ρ w Z c v) (hp : pure = false → r.rows = []) :
    ∃ o : Own, (∀ b ∈ r.rows, OwnOk w0 w ρ Z o b) ∧ ∀ (ρs : Rho) (k : Nat), (∀ ad, Out ρs Z ad → Out ρ Z ad) → (pure = false → ∀ ad, Out ρs Z ad → Z ad) → (r.rows ≠ [] → ρs k = some o) → RepC ρs w Z (r.imp k) v := by
  cases r with
  | d x =>
    obtain ⟨h1, h2⟩ : (pure = true → c.id? = none) ∧ st.cD c = some x := by cases c <;> exact hf
    refine ⟨default_own, fun b hb => by simp [RC.rows] at hb, fun ρs k hs1 hs2 _ => ?_⟩
    cases pure with
    | false =>
      have := toD_rep h (fun _ => true) 4 c v x hc h2
      refine RepD.keep (Keep.mono fun ad ho => ?_) this
      exact .inl (hs2 rfl ad ho)
    | true =>
      have hid := h1 rfl
      cases c with
      | d y => simp [St.cD, toD] at h2; subst h2; exact RepD.keep (Keep.mono hs1) hc
      | nl => simp [St.cD, toD] at h2; subst h2; cases (show v = _ from hc); exact .snil
      | bad => simp [St.cD, toD] at h2
      | sl => cases hid
      | ptr => cases hid
  | own sz m cs =>
    cases c with
    | sl i off n =>
      cases off with
      | succ => exact hf.elim
      | zero =>
        obtain ⟨rfl, hlk, hlen⟩ := hf
        obtain ⟨o, ho, hroom, hcase⟩ := hc
        obtain ⟨o', ho', hb⟩ := h.heap.rep i _ hlk
        obtain rfl : o' = o := Option.some.inj (ho'.symm.trans ho)
        refine ⟨o', fun b hb' => ?_, fun ρs k hs1 hs2 hk => ?_⟩
        · simp only [RC.rows, List.mem_singleton] at hb'
          subst hb'
          exact ⟨fun ad hh => (h.mine i o' ad ho hh).resolve_left (fun h => h), fun ad hh => .inr ⟨i, o', ho, hh⟩, h.heap.owns.cells i o' ho, h.heap.owns.lim i o' ho, fun ρs hs => by
            obtain ⟨q1, q2, q3, q4, q5⟩ := hb
            exact ⟨q1, q2, q3, q4, fun j x hx => by obtain ⟨u, hu, hd⟩ := q5 j x hx; exact ⟨u, hu, hd.keep (Keep.mono hs)⟩⟩⟩
        · exact ⟨o', hk (by simp [RC.rows]), hroom, hcase⟩
    | nl =>
      obtain ⟨rfl, rfl⟩ := hf
      refine ⟨{ g := 0, o := 0, sz := sz, room := 0, app := true, nil := true }, fun b hb' => ?_, fun ρs k hs1 hs2 hk => ?_⟩
      · simp only [RC.rows, List.mem_singleton] at hb'
        subst hb'
        exact ⟨fun ad hh => (by cases hh.1), fun ad hh => (by cases hh.1), fun hh => (by cases hh), by simp [maxLen], fun ρs hs => ⟨rfl, rfl, by simp, ⟨fun _ => rfl, rfl⟩, fun j x hx => by simp at hx⟩⟩
      · exact ⟨_, hk (by simp [RC.rows]), by simp, .inl ⟨rfl, hc, rfl, rfl⟩⟩
    | d => exact hf.elim
    | ptr => exact hf.elim
    | bad => exact hf.elim
where default_own : Own := { g := 0, o := 0, sz := 0, room := 0, app := false, nil := true }

/-- What is asked of the numbering of the result's row. -/
structure SOk (ρ : Rho) (Z : Addr → Prop) (ρs : Rho) (pure : Bool) : Prop where
  sub : ∀ ad, Out ρs Z ad → Out ρ Z ad
  none : pure = false → ∀ ad, Out ρs Z ad → Z ad

def Fits (w0 w : World) (ρ : Rho) (Z : Addr → Prop) (pure : Bool) (rows : List Blk) (rep : Rho → Nat → Prop) : Prop :=
  ∃ o : Own, (∀ b ∈ rows, OwnOk w0 w ρ Z o b) ∧ ∀ (ρs : Rho) (k : Nat), SOk ρ Z ρs pure → (rows ≠ [] → ρs k = some o) → rep ρs k

theorem Fits.and {pure : Bool} {r1 r2 : List Blk} {p1 p2 : Rho → Nat → Prop} (h1 : Fits w0 w ρ Z pure r1 p1) (h2 : Fits w0 w ρ Z pure r2 p2) (hl : (r1 ++ r2).length ≤ 1) : Fits w0 w ρ Z pure (r1 ++ r2) fun ρs k => p1 ρs k ∧ p2 ρs k := by
  obtain ⟨o1, a1, b1⟩ := h1
  obtain ⟨o2, a2, b2⟩ := h2
  cases r1 with
  | nil => exact ⟨o2, a2, fun ρs k hs hk => ⟨b1 ρs k hs (fun h => absurd rfl h), b2 ρs k hs hk⟩⟩
  | cons x r1 =>
    have : r2 = [] := by
      simp at hl
      exact hl.2
    subst this
    simp only [List.append_nil] at *
    exact ⟨o1, a1, fun ρs k hs hk => ⟨b1 ρs k hs hk, b2 ρs k hs (fun h => absurd rfl h)⟩⟩

theorem fitL_rep {α β : Type} {pure : Bool} {fit : α → β → Prop} {rows : β → List Blk} {rep : α → Value → Prop} {imp : Nat → β → α} {repS : Rho → α → Value → Prop}
    (one : ∀ (x : α) (y : β) (v : Value), fit x y → rep x v → (rows y).length ≤ 1 → (pure = false → rows y = []) → Fits w0 w ρ Z pure (rows y) fun ρs k => repS ρs (imp k y) v) :
    ∀ (xs : List α) (ys : List β) (vs : List Value), fitL fit xs ys → RepL rep xs vs → (ys.flatMap rows).length ≤ 1 → (pure = false → ys.flatMap rows = []) →
      Fits w0 w ρ Z pure (ys.flatMap rows) fun ρs k => RepL (repS ρs) (ys.map (imp k)) vs
  | [], [], vs, _, h, _, _ => ⟨{ g := 0, o := 0, sz := 0, room := 0, app := false, nil := true }, fun b hb => by simp at hb, fun ρs k _ _ => ⟨by simpa using h.1, fun j x v hx => by simp at hx⟩⟩
  | [], _ :: _, _, hf, _, _, _ => hf.elim
  | _ :: _, [], _, hf, _, _, _ => hf.elim
  | x :: xs, y :: ys, [], hf, h, _, _ => by have := h.1; simp at this
  | x :: xs, y :: ys, v :: vs, hf, h, hl, hp => by
    obtain ⟨hf1, hf2⟩ := hf
    simp only [List.flatMap_cons] at hl hp ⊢
    have l1 : (rows y).length ≤ 1 := by simp at hl; omega
    have l2 : (ys.flatMap rows).length ≤ 1 := by simp only [List.length_append] at hl; omega
    have p1 : pure = false → rows y = [] := fun hh => (List.append_eq_nil_iff.1 (hp hh)).1
    have p2 : pure = false → ys.flatMap rows = [] := fun hh => (List.append_eq_nil_iff.1 (hp hh)).2
    have a1 := one x y v hf1 (h.2 0 x v rfl rfl) l1 p1
    have a2 := fitL_rep one xs ys vs hf2 ⟨by have := h.1; simpa using this, fun j q u hq hu => h.2 (j + 1) q u (by simpa using hq) (by simpa using hu)⟩ l2 p2
    obtain ⟨o, b1, b2⟩ := a1.and a2 hl
    refine ⟨o, b1, fun ρs k hs hk => ?_⟩
    obtain ⟨c1, c2, c3⟩ := b2 ρs k hs hk
    refine ⟨by simpa using c2, fun j q u hq hu => ?_⟩
    cases j with
    | zero => simp at hq hu; subst hq; subst hu; exact c1
    | succ j => exact c3 j q u (by simpa using hq) (by simpa using hu)

theorem fitC_fits (h : Rel (fun _ => False) Z w0 ρ st a w) {pure : Bool} {c : C} {r : RC} {v : Value} (hf : fitC st pure c r) (hc : RepC ρ w Z c v) (hp : pure = false → r.rows = []) :
    Fits w0 w ρ Z pure r.rows fun ρs k => RepC ρs w Z (r.imp k) v := by
  obtain ⟨o, h1, h2⟩ := fitC_rep h hf hc hp
  exact ⟨o, h1, fun ρs k hs hk => h2 ρs k hs.sub hs.none hk⟩

theorem fitU_fits (h : Rel (fun _ => False) Z w0 ρ st a w) {pure : Bool} {u : U} {r : RU} {v : Value} (hf : fitU st pure u r) (hc : RepU ρ w Z u v) (hl : r.rows.length ≤ 1) (hp : pure = false → r.rows = []) :
    Fits w0 w ρ Z pure r.rows fun ρs k => RepU ρs w Z (r.imp k) v := by
  cases u with
  | c x => cases r with
    | c y => exact fitC_fits h hf hc hp
    | agg => exact hf.elim
  | agg cs => cases r with
    | c => exact hf.elim
    | agg ds =>
      obtain ⟨vs, rfl, hvs⟩ := hc
      obtain ⟨o, h1, h2⟩ := fitL_rep (pure := pure) (fit := fitC st pure) (rep := RepC ρ w Z) (rows := RC.rows) (repS := fun ρs => RepC ρs w Z) (imp := RC.imp) (fun x y v hf hc _ hp => fitC_fits h hf hc hp) cs ds vs hf hvs hl hp
      exact ⟨o, h1, fun ρs k hs hk => ⟨vs, rfl, h2 ρs k hs hk⟩⟩
  | clo f cs => cases r <;> exact hf.elim

theorem fitV_fits (h : Rel (fun _ => False) Z w0 ρ st a w) {pure : Bool} {u : V} {r : R} {v : Value} (hf : fitV st pure u r) (hc : RepV ρ w Z u v) (hl : r.rows.length ≤ 1) (hp : pure = false → r.rows = []) :
    Fits w0 w ρ Z pure r.rows fun ρs k => RepV ρs w Z (r.imp k) v := by
  cases u with
  | u x => cases r with
    | u y => exact fitU_fits h hf hc hl hp
    | tup => exact hf.elim
  | tup xs => cases r with
    | u => exact hf.elim
    | tup ys =>
      obtain ⟨vs, rfl, hvs⟩ := hc
      obtain ⟨o, h1, h2⟩ := fitL_rep (pure := pure) (fit := fitU st pure) (rep := RepU ρ w Z) (rows := RU.rows) (repS := fun ρs => RepU ρs w Z) (imp := RU.imp) (fun x y v hf hc hl hp => fitU_fits h hf hc hl hp) xs ys vs hf hvs hl hp
      exact ⟨o, h1, fun ρs k hs hk => ⟨vs, rfl, h2 ρs k hs hk⟩⟩
  | tr x ys => cases r <;> exact hf.elim

theorem repRes_of (h : Rel (fun _ => False) Z w0 ρ st a w) {u : V} {r : R} {v : Value} (hl : r.rows.length ≤ 1) (hf : fitV st (!r.rows.isEmpty) u r) (hc : RepV ρ w Z u v) : RepRes w0 w Z r v := by
  obtain ⟨o, h1, h2⟩ := fitV_fits h hf hc hl (fun hh => by simpa using hh)
  refine ⟨hl, ?_⟩
  cases hr : r.rows with
  | nil =>
    rw [hr] at h2
    refine ⟨{ g := 0, o := 0, sz := 0, room := 0, app := false, nil := true }, fun ad hh => (by cases hh.1), fun k => ?_⟩
    have hout : ∀ (o' : Own) ad, Out (single k [] o') Z ad → Z ad := fun o' ad ho => by
      rcases ho with hz | ⟨j, oj, hj, _⟩
      · exact hz
      · cases hj
    refine ⟨h2 _ k ⟨fun ad ho => .inl (hout _ ad ho), fun _ ad ho => hout _ ad ho⟩ (fun hh => absurd rfl hh), ⟨⟨fun i o' hi => (by cases hi), fun i i' o1 o2 hi => (by cases hi), fun i o' hi => (by cases hi)⟩, fun i b hb => (by cases hb)⟩⟩
  | cons b rest =>
    have hrest : rest = [] := by rw [hr] at hl; simpa using hl
    subst hrest
    rw [hr] at h1 h2
    have ho := h1 b (by simp)
    refine ⟨o, ho.fresh, fun k => ?_⟩
    have hs : ∀ i o', single k [b] o i = some o' → i = k ∧ o' = o := fun i o' hi => by
      simp only [single] at hi
      split at hi
      · cases hi; exact ⟨‹_›, rfl⟩
      · cases hi
    have hsub : ∀ ad, Out (single k [b] o) Z ad → Out ρ Z ad := fun ad hh => by
      rcases hh with hz | ⟨j, oj, hj, hoj⟩
      · exact .inl hz
      · obtain ⟨rfl, rfl⟩ := hs j oj hj; exact ho.sub ad hoj
    refine ⟨h2 _ k ⟨hsub, fun hh => by simp [hr] at hh⟩ (fun _ => by simp [single]), ⟨⟨fun i o' hi => ?_, fun i i' o1 o2 hi hi' hne => ?_, fun i o' hi => ?_⟩, fun i b' hb' => ?_⟩⟩
    · obtain ⟨rfl, rfl⟩ := hs i o' hi; exact ho.cells
    · obtain ⟨rfl, rfl⟩ := hs i o1 hi; obtain ⟨rfl, rfl⟩ := hs i' o2 hi'; exact absurd rfl hne
    · obtain ⟨rfl, rfl⟩ := hs i o' hi; exact ho.lim
    · by_cases e : i = k
      · subst e
        rw [lk_cons_same] at hb'
        cases hb'
        exact ⟨o, by simp [single], ho.rep _ hsub⟩
      · rw [lk_cons_ne e] at hb'
        cases hb'

/-! ### functions -/

theorem lk_initT {w : World} {Z : Addr → Prop} : ∀ (as : List A) (vals : List Value) (k : Nat), RepL (A.rep w Z) as vals → ∀ (t : Nat) (v : V), lk t (initT k as) = some v → k ≤ t ∧ ∃ x, vals[t - k]? = some x ∧ RepV (fun _ => none) w Z v x
  | [], _, k, _, t, v, h => by cases h
  | A0 :: as, [], k, hr, t, v, h => by have := hr.1; simp at this
  | A0 :: as, x :: vals, k, hr, t, v, h => by
    have hout : ∀ ad, Out (fun _ => none) Z ad → Z ad := fun ad ho => by
      rcases ho with hz | ⟨j, oj, hj, _⟩
      · exact hz
      · cases hj
    simp only [initT, lk] at h
    split at h
    · rename_i e
      subst e
      cases h
      refine ⟨Nat.le_refl _, x, by simp, ?_⟩
      have h0 := hr.2 0 A0 x rfl rfl
      cases A0 with
      | c y => exact RepD.keep (Keep.mono hout) h0
      | agg cs =>
        obtain ⟨vs, rfl, hvs⟩ := h0
        exact ⟨vs, rfl, hvs.imp C.d fun y u _ hu => RepD.keep (Keep.mono hout) hu⟩
    · obtain ⟨h1, y, hy, hr'⟩ := lk_initT as vals (k + 1) ⟨by have := hr.1; simpa using this, fun j q u hq hu => hr.2 (j + 1) q u (by simpa using hq) (by simpa using hu)⟩ t v h
      exact ⟨by omega, y, by rw [show t - k = (t - (k + 1)) + 1 by omega]; simpa using hy, hr'⟩

theorem initT_tr : ∀ (as : List A) (k t : Nat) (x : Value) (r : List (List A)), lk t (initT k as) ≠ some (.tr x r)
  | [], _, _, _, _, h => by cases h
  | A0 :: as, k, t, x, r, h => by
    simp only [initT, lk] at h
    split at h
    · cases A0 <;> cases h
    · exact initT_tr as (k + 1) t x r h

/-- A function, by the walk of its code. -/
theorem callsF_of (hT : TabOk P T) (hm : P.follows .mixedOrders = true) {f : FuncId} {fn : Func} {c : Code} {as : List A} {res : R} (hf : P.funcs[f]? = some fn) (hb : fn.body = some c)
    (hname : (fn.name == "runtime.NumGoroutine") = false) (hn : as.length ≤ fn.ntmps) (hok : codeOk fn.ntmps [] c = true) (hw : wpV P T c (St.init as) (finV T fn.results.toList res)) : CallsF P f as res := by
  refine ⟨⟨fn, hf, by rw [hb]; rfl, hname⟩, fun w Z vals hZ hvals => ?_⟩
  have hlen : vals.length = as.length := hvals.1.symm
  refine calls_of_wp hf hb ?_
  have hsz : (vals.toArray ++ Array.replicate (fn.ntmps - vals.toArray.size) undef).size = fn.ntmps := by simp; omega
  have hrel : Rel (fun _ => False) Z w (fun _ => none) (St.init as) { tmps := vals.toArray ++ Array.replicate (fn.ntmps - vals.toArray.size) undef, defers := [] } w :=
    { fr := ⟨rfl, Nat.le_refl _, rfl, rfl, Nat.le_refl _, fun a v _ h => h, fun _ _ => rfl, fun _ _ _ => rfl⟩
      heap := ⟨⟨fun i o hi => (by cases hi), fun i i' o o' hi => (by cases hi), fun i o hi => (by cases hi)⟩, fun i b hb => (by cases hb)⟩
      mine := fun i o ad hi => (by cases hi)
      out := hZ
      mz := fun ad h => h.elim
      tmps := fun t v hv => by
        obtain ⟨_, x, hx, hr⟩ := lk_initT as vals 0 hvals t v hv
        have ht : t < vals.length := by simpa using (List.getElem?_eq_some_iff.1 hx).1
        simp only [Nat.sub_zero] at hx
        have : (vals.toArray ++ Array.replicate (fn.ntmps - vals.toArray.size) undef).getD t undef = x := by
          rw [Array.getD_eq_getD_getElem?, Array.getElem?_append_left (by simpa using ht)]
          simp [hx]
        rw [this]
        exact hr
      defers := rfl }
  have hc := code_sound (X := ⟨fun _ => False, Z, w, fn.ntmps, [], fun _ => undef, none, fun _ => False, fun _ => False⟩) hT (fun Y h => by cases h) hm c (finV T fn.results.toList res) _ w hok
    ⟨_, _, _, _, _, ⟨fun k hk => by simp at hk, fun _ => ⟨rfl, rfl, rfl⟩, hrel.fr.mono fun _ h => .inl h, fun _ h => h, fun _ h => .inl h, fun x r hh => absurd hh (initT_tr as 0 YS x r)⟩, hrel, hsz, hw⟩
  refine hc.mono' fun e a' w' hg => ?_
  obtain ⟨M1, Z1, w1, ρ, st, hL, h1, h2, hend, v, hv, hl, hfit⟩ := hg
  obtain ⟨rfl, rfl, rfl⟩ := hL.plain rfl
  obtain ⟨x, hx, hrx⟩ := res_rep (P := P) hT h1 hv
  have hres := repRes_of h1 hl hfit hrx
  have hbel : Ext w1 w' := ⟨⟨h1.fr.os, h1.fr.tape, h1.fr.output, h1.fr.size, fun k hk => h1.fr.blk k hk (fun _ _ h => h)⟩, h1.fr.drawn⟩
  rcases hend with rfl | rfl
  · exact ⟨h1.defers, x, hx, x, rfl, hbel, hres⟩
  · exact ⟨h1.defers, x, hx, x, rfl, hbel, hres⟩

end
end Go.Va

/-
  Soundness, last part: functions that hand on; function values with live captures.
-/
namespace Go.Va
open Go.RowKit

def St.initY (x : Value) (ys : List (List A)) (as : List A) : St := { t := (YS, .tr x ys) :: initT 0 as, h := [] }
def finY (x : Value) (rest : List (List A)) (e : Exit) (st : St) : Prop := (e = .ret ∨ e = .normal) ∧ lk YS st.t = some (.tr x rest)
def initC (k : Nat) : List C → List (Nat × V)
  | [] => []
  | c :: r => (k, .u (.c c)) :: initC (k + 1) r
def St.initX (y : List A) (cs : List C) (h : List (Nat × Blk)) : St := { t := initT 0 y ++ initC y.length cs, h := h }
def pinsOf (k n : Nat) : List Nat := (List.range n).map (k + ·)
/-- What is left of a call of a function value: its captures, and its blocks. -/
def finX (k : Nat) (cs : List C) (h' : List (Nat × Blk)) (e : Exit) (st : St) : Prop :=
  (e = .ret ∨ e = .normal) ∧ ∃ rs : List (Nat × Nat), leL (rns rs st).t (initC k cs) ∧ leL (rns rs st).h h' ∧ inIds (h'.map (·.1)) cs ∧ ∀ i b, lk i h' = some b → boxIds (h'.map (·.1)) b

section
variable {P : Program} {T : Tab}

theorem results_none {fn : Func} (h : fn.results = #[]) (tmps : Array Value) (w : World) : (results fn tmps).run P w = .ok (.tuple #[]) w := by
  rw [results_eq, h]
  simp [oneOrTuple, Sem.run_bind']

theorem lk_initC : ∀ (cs : List C) (k t : Nat) (v : V), lk t (initC k cs) = some v → k ≤ t ∧ ∃ c, cs[t - k]? = some c ∧ v = .u (.c c)
  | [], _, _, _, h => by cases h
  | c :: cs, k, t, v, h => by
    simp only [initC, lk] at h
    split at h
    · rename_i e; subst e; cases h; exact ⟨Nat.le_refl _, c, by simp, rfl⟩
    · obtain ⟨h1, c', h2, h3⟩ := lk_initC cs (k + 1) t v h
      exact ⟨by omega, c', by rw [show t - k = t - (k + 1) + 1 by omega]; simpa using h2, h3⟩
theorem lk_initC_at : ∀ (cs : List C) (k j : Nat) (c : C), cs[j]? = some c → lk (k + j) (initC k cs) = some (.u (.c c))
  | [], _, _, _, h => by simp at h
  | c0 :: cs, k, 0, c, h => by simp at h; subst h; exact lk_cons_same _ _ _
  | c0 :: cs, k, j + 1, c, h => by
    simp only [initC]
    rw [lk_cons_ne (by omega), show k + (j + 1) = (k + 1) + j by omega]
    exact lk_initC_at cs (k + 1) j c (by simpa using h)

/-- A function that hands on, by the walk of its code. -/
theorem emits_of (hT : TabOk P T) (hm : P.follows .mixedOrders = true) {f : FuncId} {fn : Func} {c : Code} {x : Value} {as : List A} {ys : List (List A)} (hf : P.funcs[f]? = some fn) (hb : fn.body = some c)
    (hname : (fn.name == "runtime.NumGoroutine") = false) (hn : as.length ≤ fn.ntmps) (hres : fn.results = #[]) (hok : codeOk fn.ntmps [] c = true) (hw : ∀ rest, wpV P T c (St.initY x (ys ++ rest) as) (finY x rest)) : Emits P x f as ys := by
  refine ⟨⟨fn, hf, by rw [hb]; rfl, hname⟩, fun Y hx hY w Z vals rest R D hJ hZ hRZ hvals => ?_⟩
  have hlen : vals.length = as.length := hvals.1.symm
  refine calls_of_wp hf hb ?_
  have hsz : (vals.toArray ++ Array.replicate (fn.ntmps - vals.toArray.size) undef).size = fn.ntmps := by simp; omega
  have hget : ∀ (t : Nat) (v : V), lk t (initT 0 as) = some v → RepV (fun _ => none) w Z v ((vals.toArray ++ Array.replicate (fn.ntmps - vals.toArray.size) undef).getD t undef) := fun t v hv => by
    obtain ⟨_, y, hy, hr⟩ := lk_initT as vals 0 hvals t v hv
    have ht : t < vals.length := by simpa using (List.getElem?_eq_some_iff.1 hy).1
    simp only [Nat.sub_zero] at hy
    have : (vals.toArray ++ Array.replicate (fn.ntmps - vals.toArray.size) undef).getD t undef = y := by
      rw [Array.getD_eq_getD_getElem?, Array.getElem?_append_left (by simpa using ht)]
      simp [hy]
    rw [this]
    exact hr
  have hrel : Rel (fun _ => False) Z w (fun _ => none) (St.initY x (ys ++ rest) as) { tmps := vals.toArray ++ Array.replicate (fn.ntmps - vals.toArray.size) undef, defers := [] } w :=
    { fr := ⟨rfl, Nat.le_refl _, rfl, rfl, Nat.le_refl _, fun a v _ h => h, fun _ _ => rfl, fun _ _ _ => rfl⟩
      heap := ⟨⟨fun i o hi => (by cases hi), fun i i' o o' hi => (by cases hi), fun i o hi => (by cases hi)⟩, fun i b hb => (by cases hb)⟩
      mine := fun i o ad hi => (by cases hi)
      out := hZ
      mz := fun ad h => h.elim
      tmps := fun t v hv => by
        simp only [St.initY, lk] at hv
        split at hv
        · cases hv; trivial
        · exact hget t v hv
      defers := rfl }
  have hsub := hY.sub _ R D w hJ
  have hc := code_sound (X := ⟨fun _ => False, Z, w, fn.ntmps, [], fun _ => undef, some Y, R, D⟩) hT (fun Y' h => by cases h; exact hY) hm c (finY x rest) _ w hok
    ⟨_, _, _, _, _, ⟨fun k hk => by simp at hk, fun h => (by cases h), hrel.fr.mono fun _ h => .inl h, fun _ h => h, fun _ h => .inl h, fun x' r hh => by
      simp only [St.initY, lk_cons_same, Option.some.injEq, V.tr.injEq] at hh
      obtain ⟨rfl, rfl⟩ := hh
      exact ⟨Y, R, D, rfl, hx.symm, hJ, hRZ, fun ad h => .inl h, fun ad _ h => h, fun ad h => .inl h, fun ad h => h⟩⟩, hrel, hsz, hw rest⟩
  refine hc.mono' fun e a' w' hg => ?_
  obtain ⟨M1, Z1, w1, ρ, st, hL, h1, h2, hend, hlk⟩ := hg
  obtain ⟨Y', R', D', hYY, hx', hJ', hRZ', hR0, hDM, hD0, hD00⟩ := hL.y _ _ hlk
  cases hYY
  have hpost : (Ending.returned (.tuple #[]) = .returned (.tuple #[])) ∧ ∃ R' D', Y.J rest R' D' w' ∧ Fr R w w' ∧ (∀ ad, R' ad → R ad ∨ w.heap.size ≤ ad.block) ∧ (∀ ad, D' ad → D ad ∨ ¬ Z ad ∨ w.heap.size ≤ ad.block) ∧ (∀ ad, D ad → D' ad) :=
    ⟨rfl, R', D', hY.stable _ _ _ w1 w' M1 hJ' (fun ad hm hd => hDM ad hd hm) h1.fr, (hL.fr.mono (M' := R) fun ad h => h.elim (fun h => h.elim) id).into h1.fr (fun ad hm => (hL.m ad hm).elim (fun h => h.elim) .inr), hR0, hD0, hD00⟩
  rcases hend with rfl | rfl
  · exact ⟨h1.defers, _, results_none hres _ _, hpost⟩
  · exact ⟨h1.defers, _, results_none hres _ _, hpost⟩

theorem lk_mem {α : Type} {i : Nat} {b : α} : ∀ {l : List (Nat × α)}, lk i l = some b → i ∈ l.map (·.1)
  | [], h => by cases h
  | (j, v) :: r, h => by
    unfold lk at h
    split at h
    · rename_i e; simp [e]
    · simp [lk_mem h]
theorem mem_lk {α : Type} {i : Nat} : ∀ {l : List (Nat × α)}, i ∈ l.map (·.1) → (lk i l).isSome = true
  | [], h => by simp at h
  | (j, v) :: r, h => by
    unfold lk
    split
    · rfl
    · rename_i e
      simp only [List.map_cons, List.mem_cons] at h
      exact mem_lk (h.resolve_left fun h => e h.symm)

/-- The number of the row that was given up, in the callee. -/
def BK : Nat := 2000000
def St.initA (n sz : Nat) (cs : List D) (as : List A) : St := { t := (0, vC (.sl BK 0 n)) :: initT 1 as, h := [(BK, .row sz cs true)] }
def finA (T : Tab) (rs : List ResultVar) (sz m : Nat) (cs : List D) (e : Exit) (st : St) : Prop := (e = .ret ∨ e = .normal) ∧ ∃ j, st.res T rs = some (vC (.sl j 0 m)) ∧ lk j st.h = some (.row sz cs true)

/-- A function to which a row is given up, by the walk of its code. -/
theorem callsA_of (hT : TabOk P T) (hm : P.follows .mixedOrders = true) {f : FuncId} {fn : Func} {c : Code} {sz n m : Nat} {cs cs' : List D} {as : List A} (hf : P.funcs[f]? = some fn) (hb : fn.body = some c)
    (hname : (fn.name == "runtime.NumGoroutine") = false) (hn : as.length + 1 ≤ fn.ntmps) (hok : codeOk fn.ntmps [] c = true) (hw : wpV P T c (St.initA n sz cs as) (finA T fn.results.toList sz m cs')) : CallsA P f sz n cs as m cs' := by
  refine ⟨⟨fn, hf, by rw [hb]; rfl, hname⟩, fun w Z ρ0 k v0 vals hZ hh hcz hone hv0 hvals => ?_⟩
  have hlen : vals.length = as.length := hvals.1.symm
  refine calls_of_wp hf hb ?_
  generalize htm : ((v0 :: vals).toArray ++ Array.replicate (fn.ntmps - (v0 :: vals).toArray.size) undef) = tm
  have hsz : tm.size = fn.ntmps := by rw [← htm]; simp; omega
  have hg : ∀ t, t < vals.length + 1 → tm.getD t undef = (v0 :: vals).getD t undef := fun t ht => by
    rw [← htm, Array.getD_eq_getD_getElem?, Array.getElem?_append_left (by simp; omega)]
    simp
  let ρB : Rho := fun i => if i = BK then ρ0 k else none
  have eB : ∀ i o, ρB i = some o → i = BK ∧ ρ0 k = some o := fun i o hi => by
    simp only [ρB] at hi
    split at hi
    · exact ⟨‹_›, hi⟩
    · cases hi
  have eB' : ∀ o, ρ0 k = some o → ρB BK = some o := fun o h => by simp [ρB, h]
  have hcell : ∀ ad, Cells ρB ad ↔ Cells ρ0 ad := fun ad => ⟨fun ⟨i, o, hi, ho⟩ => ⟨k, o, (eB i o hi).2, ho⟩, fun ⟨i, o, hi, ho⟩ => ⟨BK, o, eB' o (hone i o hi ▸ hi), ho⟩⟩
  have hout : ∀ ad, Out ρB Z ad → Out ρ0 Z ad := fun ad h => h.imp id fun h => (hcell ad).1 h
  have hout' : ∀ ad, Out ρ0 Z ad → Out ρB Z ad := fun ad h => h.imp id fun h => (hcell ad).2 h
  have hrel : Rel (Cells ρ0) Z w ρB (St.initA n sz cs as) { tmps := tm, defers := [] } w :=
    { fr := ⟨rfl, Nat.le_refl _, rfl, rfl, Nat.le_refl _, fun a v _ h => h, fun _ _ => rfl, fun _ _ _ => rfl⟩
      heap := ⟨⟨fun i o hi => hh.owns.cells k o (eB i o hi).2, fun i i' o o' hi hi' hne => absurd ((eB i o hi).1.trans (eB i' o' hi').1.symm) hne, fun i o hi => hh.owns.lim k o (eB i o hi).2⟩, fun i b hib => by
        by_cases e : i = BK
        · subst e
          simp only [St.initA] at hib
          rw [lk_cons_same] at hib
          cases hib
          obtain ⟨o, ho, q1, q2, q3, q4, q5⟩ := hh.rep k _ (lk_cons_same _ _ _)
          exact ⟨o, eB' o ho, q1, q2, q3, q4, fun j x hx => by obtain ⟨u, hu, hd⟩ := q5 j x hx; exact ⟨u, hu, hd.keep (Keep.mono hout)⟩⟩
        · simp only [St.initA] at hib
          rw [lk_cons_ne e] at hib
          cases hib⟩
      mine := fun i o ad hi ho => .inl ((hcell ad).1 ⟨i, o, hi, ho⟩)
      out := hZ
      mz := hcz
      tmps := fun t v hv => by
        simp only [St.initA, lk] at hv
        split at hv
        · rename_i e
          subst e
          cases hv
          rw [hg 0 (by omega)]
          obtain ⟨o, ho, r⟩ := hv0
          exact ⟨o, eB' o ho, r⟩
        · obtain ⟨hle, y, hy, hr⟩ := lk_initT as vals 1 hvals t v hv
          have hlt := (List.getElem?_eq_some_iff.1 hy).1
          rw [hg t (by omega)]
          have : (v0 :: vals).getD t undef = y := by
            rw [show t = (t - 1) + 1 by omega]
            simp [hy]
          rw [this]
          have key : ∀ (u : V) (x : Value), RepV (fun _ => none) w (Out ρ0 Z) u x → (∃ A0 : A, u = A0.toV) → RepV ρB w Z u x := fun u x hu ⟨A0, he⟩ => by
            subst he
            have hk : Keep w w (Out (fun _ => none) (Out ρ0 Z)) (Out ρB Z) := Keep.mono fun ad h => .inl (hout ad h)
            cases A0 with
            | c d => exact RepD.keep hk hu
            | agg ds => obtain ⟨vs, hvs, hl, hr⟩ := hu; exact ⟨vs, hvs, hl, fun j z y hz hy => by
                have := hr j z y hz hy
                simp only [List.getElem?_map, Option.map_eq_some_iff] at hz
                obtain ⟨q, _, rfl⟩ := hz
                exact RepD.keep hk this⟩
          refine key v y hr ?_
          have toV : ∀ (as : List A) (k : Nat), lk t (initT k as) = some v → ∃ A0 : A, v = A0.toV := by
            intro as
            induction as with
            | nil => intro k h; cases h
            | cons A0 as ih =>
              intro k h
              simp only [initT, lk] at h
              split at h
              · cases h; exact ⟨A0, rfl⟩
              · exact ih (k + 1) h
          exact toV as 1 hv
      defers := rfl }
  have hc := code_sound (X := ⟨Cells ρ0, Z, w, fn.ntmps, [], fun _ => undef, none, fun _ => False, fun _ => False⟩) hT (fun Y' h => by cases h) hm c (finA T fn.results.toList sz m cs') _ w hok
    ⟨_, _, _, _, _, ⟨fun k hk => by simp at hk, fun _ => ⟨rfl, rfl, rfl⟩, hrel.fr.mono fun _ h => .inl h, fun _ h => h, fun _ h => .inl h, fun x r hx => by
      simp only [St.initA, lk] at hx
      split at hx
      · cases hx
      · exact absurd hx (initT_tr as 1 YS x r)⟩, hrel, hsz, hw⟩
  refine hc.mono' fun e a' w' hg => ?_
  obtain ⟨M1, Z1, w1, ρ1, st, hL, h1, h2, hend, j, hres, hlk⟩ := hg
  obtain ⟨rfl, rfl, rfl⟩ := hL.plain rfl
  obtain ⟨x, hx, hrx⟩ := res_rep (P := P) hT h1 hres
  obtain ⟨oj, hoj, hb'⟩ := h1.heap.rep j _ hlk
  have hrx : RepC ρ1 w' Z1 (.sl j 0 m) x := hrx
  let ρ2 : Rho := fun i => if i = k then ρ1 j else none
  have e2 : ∀ i o, ρ2 i = some o → i = k ∧ ρ1 j = some o := fun i o hi => by
    simp only [ρ2] at hi
    split at hi
    · exact ⟨‹_›, hi⟩
    · cases hi
  have hsub : ∀ ad, Out ρ2 Z1 ad → Out ρ1 Z1 ad := fun ad h => h.imp id fun ⟨i, o, hi, ho⟩ => ⟨j, o, (e2 i o hi).2, ho⟩
  have hpost : Ending.returned x = .returned x ∧ ∃ ρ', Fr (Cells ρ0) w1 w' ∧ Heap ρ' w' Z1 [(k, .row sz cs' true)] ∧ (∀ i o, ρ' i = some o → i = k) ∧ (∀ ad, Cells ρ' ad → Cells ρ0 ad ∨ w1.heap.size ≤ ad.block) ∧ RepC ρ' w' Z1 (.sl k 0 m) x := by
    refine ⟨rfl, ρ2, h1.fr, ⟨⟨fun i o hi => h1.heap.owns.cells j o (e2 i o hi).2, fun i i' o o' hi hi' hne => absurd ((e2 i o hi).1.trans (e2 i' o' hi').1.symm) hne, fun i o hi => h1.heap.owns.lim j o (e2 i o hi).2⟩, fun i b hib => ?_⟩, fun i o hi => (e2 i o hi).1, fun ad ⟨i, o, hi, ho⟩ => h1.mine j o ad (e2 i o hi).2 ho, ?_⟩
    · by_cases e : i = k
      · subst e
        rw [lk_cons_same] at hib
        cases hib
        obtain ⟨q1, q2, q3, q4, q5⟩ := hb'
        exact ⟨oj, by simp [ρ2, hoj], q1, q2, q3, q4, fun t y hy => by obtain ⟨u, hu, hd⟩ := q5 t y hy; exact ⟨u, hu, hd.keep (Keep.mono hsub)⟩⟩
      · rw [lk_cons_ne e] at hib
        cases hib
    · obtain ⟨o, ho, r⟩ := hrx
      exact ⟨o, by simp [ρ2, ho], r⟩
  rcases hend with rfl | rfl
  · exact ⟨h1.defers, _, hx, _, hpost⟩
  · exact ⟨h1.defers, _, hx, _, hpost⟩

end
end Go.Va

/-
  Soundness: a function value with live captures, whose blocks get other numbers first.
-/
namespace Go.Va
open Go.RowKit
section
variable {P : Program} {T : Tab}

theorem callsX_ofR (rs0 : List (Nat × Nat)) (hT : TabOk P T) (hm : P.follows .mixedOrders = true) {f : FuncId} {fn : Func} {c : Code} {y : List A} {cs : List C} {h h' : List (Nat × Blk)} (hf : P.funcs[f]? = some fn) (hb : fn.body = some c)
    (hname : (fn.name == "runtime.NumGoroutine") = false) (hn : y.length + cs.length ≤ fn.ntmps) (hys : fn.ntmps ≤ YS) (hres : fn.results = #[]) (hok : codeOk fn.ntmps (pinsOf y.length cs.length) c = true)
    (hw : wpV P T c (rns rs0 (St.initX y cs h)) (finX y.length cs h')) : CallsX P f y cs h h' := by
  refine ⟨⟨fn, hf, by rw [hb]; rfl, hname⟩, fun w Z ρ0 vals cvals hZ hh hcz hl0 hvals hcv => ?_⟩
  have hlen : vals.length = y.length := hvals.1.symm
  have hclen : cvals.length = cs.length := hcv.1.symm
  refine calls_of_wp hf hb ?_
  generalize htm : ((vals ++ cvals).toArray ++ Array.replicate (fn.ntmps - (vals ++ cvals).toArray.size) undef) = tm
  have hsz : tm.size = fn.ntmps := by rw [← htm]; simp; omega
  have hgv : ∀ t, t < vals.length → tm.getD t undef = vals.getD t undef := fun t ht => by
    rw [← htm, Array.getD_eq_getD_getElem?, Array.getElem?_append_left (by simp; omega)]
    simp [List.getElem?_append_left ht]
  have hgc : ∀ j, j < cvals.length → tm.getD (y.length + j) undef = cvals.getD j undef := fun j hj => by
    rw [← htm, Array.getD_eq_getD_getElem?, Array.getElem?_append_left (by simp; omega)]
    simp [List.getElem?_append_right, hlen]
  have hrel : Rel (Cells ρ0) Z w ρ0 (St.initX y cs h) { tmps := tm, defers := [] } w :=
    { fr := ⟨rfl, Nat.le_refl _, rfl, rfl, Nat.le_refl _, fun a v _ h => h, fun _ _ => rfl, fun _ _ _ => rfl⟩
      heap := hh
      mine := fun i o ad hi ho => .inl ⟨i, o, hi, ho⟩
      out := hZ
      mz := hcz
      tmps := fun t v hv => by
        simp only [St.initX, lk_append] at hv
        cases h1 : lk t (initT 0 y) with
        | some v1 =>
          rw [h1] at hv
          have hv : v1 = v := Option.some.inj hv
          subst hv
          obtain ⟨A0, v2, hA, hv2, rfl⟩ : ∃ A0 v2, y[t]? = some A0 ∧ vals[t]? = some v2 ∧ v1 = A0.toV := by
            have key : ∀ (as : List A) (k : Nat), lk t (initT k as) = some v1 → k ≤ t ∧ ∃ A0, as[t - k]? = some A0 ∧ v1 = A0.toV := by
              intro as
              induction as with
              | nil => intro k h; cases h
              | cons A0 as ih =>
                intro k h
                simp only [initT, lk] at h
                split at h
                · rename_i e; subst e; cases h; exact ⟨Nat.le_refl _, A0, by simp, rfl⟩
                · obtain ⟨q1, A1, q2, q3⟩ := ih (k + 1) h
                  exact ⟨by omega, A1, by rw [show t - k = t - (k + 1) + 1 by omega]; simpa using q2, q3⟩
            obtain ⟨_, A0, hA, he⟩ := key y 0 h1
            simp only [Nat.sub_zero] at hA
            have ht : t < vals.length := by rw [hlen]; exact (List.getElem?_eq_some_iff.1 hA).1
            exact ⟨A0, vals[t], hA, List.getElem?_eq_getElem ht, he⟩
          have ht : t < vals.length := (List.getElem?_eq_some_iff.1 hv2).1
          rw [hgv t ht]
          have hd : vals.getD t undef = v2 := by simp [hv2]
          rw [hd]
          have hr := hvals.2 t A0 v2 hA hv2
          cases A0 with
          | c d => exact hr
          | agg ds =>
            obtain ⟨vs, rfl, hvs⟩ := hr
            exact ⟨vs, rfl, hvs.imp C.d fun y u _ hu => hu⟩
        | none =>
          rw [h1] at hv
          simp only [Option.none_or] at hv
          obtain ⟨hle, c0, hc0, rfl⟩ := lk_initC cs y.length t v hv
          have hj : t - y.length < cvals.length := by rw [hclen]; exact (List.getElem?_eq_some_iff.1 hc0).1
          have := hgc (t - y.length) hj
          rw [show y.length + (t - y.length) = t by omega] at this
          rw [this]
          exact hcv.2 (t - y.length) c0 _ hc0 (by simp [hj])
      defers := rfl }
  obtain ⟨ρi, hrel1⟩ := Rel.rns rs0 hrel
  have hc := code_sound (X := ⟨Cells ρ0, Z, w, fn.ntmps, pinsOf y.length cs.length, fun k => tm.getD k undef, none, fun _ => False, fun _ => False⟩) hT (fun Y' h => by cases h) hm c (finX y.length cs h') _ w hok
    ⟨_, _, _, _, _, ⟨fun k hk => rfl, fun _ => ⟨rfl, rfl, rfl⟩, hrel.fr.mono fun _ h => .inl h, fun _ h => h, fun _ h => .inl h, fun x r hx => by
      have hx := TrLe.rns rs0 (s := St.initX y cs h) _ _ hx
      simp only [St.initX, lk_append] at hx
      cases h1 : lk YS (initT 0 y) with
      | some v1 => rw [h1] at hx; have hx : v1 = .tr x r := Option.some.inj hx; exact absurd (hx ▸ h1) (initT_tr y 0 YS x r)
      | none =>
        rw [h1] at hx
        simp only [Option.none_or] at hx
        obtain ⟨_, _, _, he⟩ := lk_initC cs y.length YS _ hx
        cases he⟩, hrel1, hsz, hw⟩
  refine hc.mono' fun e a' w' hg => ?_
  obtain ⟨M1, Z1, w1, ρ1, st, hL, h1, h2, hend, rs, ht, hhp, hin, hbx⟩ := hg
  obtain ⟨rfl, rfl, rfl⟩ := hL.plain rfl
  obtain ⟨ρ, h3⟩ := Rel.rns rs h1
  have hrep : ∀ (c : C) (v : Value), (∀ i, c.id? = some i → i ∈ h'.map (·.1)) → RepC ρ w' Z1 c v → RepC (rhoR (h'.map (·.1)) ρ) w' Z1 c v := fun c v hi hr => RepC.keep (Keep.mono fun ad ho => ho.imp id fun ⟨i, o, hi, ho⟩ => ⟨i, o, (rhoR_some hi).2, ho⟩) (fun i hid => rhoR_mem (hi i hid)) hr
  have hout : ∀ ad, Out (rhoR (h'.map (·.1)) ρ) Z1 ad → Out ρ Z1 ad := fun ad ho => ho.imp id fun ⟨i, o, hi, ho⟩ => ⟨i, o, (rhoR_some hi).2, ho⟩
  have hpost : (Ending.returned (.tuple #[]) = .returned (.tuple #[])) ∧ ∃ ρ', Fr (Cells ρ0) w1 w' ∧ Heap ρ' w' Z1 h' ∧ (∀ i o, ρ' i = some o → (lk i h').isSome = true) ∧ (∀ ad, Cells ρ' ad → Cells ρ0 ad ∨ w1.heap.size ≤ ad.block) ∧ RepL (RepC ρ' w' Z1) cs cvals := by
    refine ⟨rfl, rhoR (h'.map (·.1)) ρ, h3.fr, ⟨⟨fun i o hi => h3.heap.owns.cells i o (rhoR_some hi).2, fun i i' o o' hi hi' => h3.heap.owns.apart i i' o o' (rhoR_some hi).2 (rhoR_some hi').2, fun i o hi => h3.heap.owns.lim i o (rhoR_some hi).2⟩, fun i b hb => ?_⟩, fun i o hi => mem_lk (rhoR_some hi).1, fun ad ⟨i, o, hi, ho⟩ => h3.mine i o ad (rhoR_some hi).2 ho, hcv.1, fun j c0 v hc0 hv => ?_⟩
    · obtain ⟨o, ho, hr⟩ := h3.heap.rep i b (leL_lk hhp i b hb)
      refine ⟨o, (rhoR_mem (lk_mem hb)).trans ho, ?_⟩
      have hi := hbx i b hb
      cases b with
      | row sz cs app => obtain ⟨q1, q2, q3, q4, q5⟩ := hr; exact ⟨q1, q2, q3, q4, fun j x hx => by obtain ⟨v, hv, hd⟩ := q5 j x hx; exact ⟨v, hv, hd.keep (Keep.mono hout)⟩⟩
      | box cs => obtain ⟨q1, q2, q3, q4⟩ := hr; exact ⟨q1, q2, q3, fun j x hx => by obtain ⟨v, hv, h1, hd⟩ := q4 j x hx; exact ⟨v, hv, h1, hrep x v (hi x (List.mem_of_getElem? hx)) hd⟩⟩
      | fbox f cs => obtain ⟨q1, q2, q3, v, hv, vs, hvs, hl, hd⟩ := hr; exact ⟨q1, q2, q3, v, hv, vs, hvs, hl, fun j x u hx hu => hrep x u (hi x (List.mem_of_getElem? hx)) (hd j x u hx hu)⟩
    · have hjc : j < cs.length := (List.getElem?_eq_some_iff.1 hc0).1
      have hjv : j < cvals.length := by omega
      have := h3.tmps (y.length + j) (.u (.c c0)) (leL_lk ht _ _ (lk_initC_at cs y.length j c0 hc0))
      have hp := hL.pins (y.length + j) (by simp [pinsOf]; exact hjc)
      simp only at hp
      rw [hp, hgc j hjv] at this
      have hd : cvals.getD j undef = v := by simp [hv]
      rw [hd] at this
      exact hrep c0 v (hin c0 (List.mem_of_getElem? hc0)) this
  rcases hend with rfl | rfl
  · exact ⟨h1.defers, _, results_none hres _ _, hpost⟩
  · exact ⟨h1.defers, _, results_none hres _ _, hpost⟩
end
end Go.Va

/-
  Regions that draw their order, sixth part: operations as steps.
-/
namespace Go.Va
open Go.RowKit

/-! ### what is named -/

def C.men (d : Nat) (c : C) : Bool := c.id? == some d
def U.men (d : Nat) : U → Bool
  | .c x => x.men d
  | .agg cs => cs.any (C.men d)
  | .clo _ cs => cs.any (C.men d)
def V.men (d : Nat) : V → Bool
  | .u x => x.men d
  | .tup us => us.any (U.men d)
  | .tr _ _ => false
def Blk.men (d : Nat) : Blk → Bool
  | .row _ _ _ => false
  | .box cs => cs.any (C.men d)
  | .fbox _ cs => cs.any (C.men d)

theorem C.on_men {d : Nat} {c : C} (h : c.men d = false) : c.on (purgeG d) = c := by
  unfold C.on purgeG
  unfold C.men at h
  split
  · rename_i i o n
    have : i ≠ d := fun he => by simp [C.id?, he] at h
    rw [if_neg this]
  · rename_i i o
    have : i ≠ d := fun he => by simp [C.id?, he] at h
    rw [if_neg this]
  · rfl
theorem on_men_list {d : Nat} : ∀ {cs : List C}, cs.any (C.men d) = false → cs.map (C.on (purgeG d)) = cs
  | [], _ => rfl
  | c :: r, h => by
    simp only [List.any_cons, Bool.or_eq_false_iff] at h
    rw [List.map_cons, C.on_men h.1, on_men_list h.2]
theorem U.on_men {d : Nat} : ∀ {u : U}, u.men d = false → u.on (purgeG d) = u
  | .c x, h => congrArg U.c (C.on_men h)
  | .agg cs, h => congrArg U.agg (on_men_list h)
  | .clo f cs, h => congrArg (U.clo f) (on_men_list h)
theorem on_men_us {d : Nat} : ∀ {us : List U}, us.any (U.men d) = false → us.map (U.on (purgeG d)) = us
  | [], _ => rfl
  | c :: r, h => by
    simp only [List.any_cons, Bool.or_eq_false_iff] at h
    rw [List.map_cons, U.on_men h.1, on_men_us h.2]
theorem V.on_men {d : Nat} : ∀ {v : V}, v.men d = false → v.on (purgeG d) = v
  | .u x, h => congrArg V.u (U.on_men h)
  | .tup us, h => congrArg V.tup (on_men_us h)
  | .tr _ _, _ => rfl
theorem Blk.on_men {d : Nat} : ∀ {b : Blk}, b.men d = false → b.on (purgeG d) = b
  | .row _ _ _, _ => rfl
  | .box cs, h => congrArg Blk.box (on_men_list h)
  | .fbox f cs, h => congrArg (Blk.fbox f) (on_men_list h)

/-- Nothing names 'd'. -/
structure FS.Clean (F : FS) (d : Nat) : Prop where
  t : ∀ t v, F.t t = some v → v.men d = false
  h : ∀ k b, F.h k = some b → k ≠ d ∧ b.men d = false

theorem lk_rm_if {α : Type} (k j : Nat) (l : List (Nat × α)) : lk j (rm k l) = if j = k then none else lk j l := by
  by_cases h : j = k
  · subst h; rw [lk_rm_same, if_pos rfl]
  · rw [lk_rm_ne h, if_neg h]
theorem lk_cons_if {α : Type} (k j : Nat) (v : α) (l : List (Nat × α)) : lk j ((k, v) :: l) = if k = j then some v else lk j l := rfl

theorem fs_put (s : St) (d : Option Nat) (v : V) : (s.put d v).fs = s.fs.upd ⟨d, .val v⟩ := by
  refine FS.ext' (fun t => ?_) fun k => ?_
  · cases d with
    | none => rfl
    | some d =>
      simp only [St.fs, St.put, FS.upd, lk_cons_if, lk_rm_if, Option.some.injEq, Eff.v]
      by_cases h : d = t
      · simp [h]
      · simp [h, Ne.symm h]
  · cases d <;> rfl

theorem fs_purge {s : St} {d : Nat} (h : s.fs.Clean d) : (s.purge d).fs = s.fs := by
  refine FS.ext' (fun t => ?_) fun k => ?_
  · show lk t (s.on (purgeG d)).t = lk t s.t
    simp only [St.on, lk_map]
    cases hl : lk t s.t with
    | none => rfl
    | some v => rw [Option.map_some, V.on_men (h.t t v hl)]
  · show lk k (rm d (s.on (purgeG d)).h) = lk k s.h
    simp only [St.on, lk_rm_if, lk_map]
    cases hl : lk k s.h with
    | none => simp
    | some b =>
      obtain ⟨h1, h2⟩ := h.h k b hl
      rw [if_neg h1, Option.map_some, Blk.on_men h2]

theorem fs_blk (s : St) (k : Nat) (b : Blk) : (s.blk k b).fs = ⟨s.fs.t, fun j => if k = j then some b else s.fs.h j⟩ := by
  refine FS.ext' (fun t => rfl) fun j => ?_
  simp only [St.fs, St.blk, lk_cons_if, lk_rm_if]
  by_cases h : k = j
  · simp [h]
  · simp [h, Ne.symm h]

theorem fs_drop (s : St) (k : Nat) : (s.drop k).fs = ⟨s.fs.t, fun j => if j = k then none else s.fs.h j⟩ := by
  refine FS.ext' (fun t => rfl) fun j => ?_
  simp only [St.fs, St.drop, lk_rm_if]

/-- Is the new number free, where a new block is made? -/
def Eff.Free (d : Option Nat) (F : FS) : Eff → Prop
  | .new b _ => F.Clean (d.getD 0) ∧ b.men (d.getD 0) = false
  | .app _ b _ => F.Clean (d.getD 0) ∧ b.men (d.getD 0) = false
  | .dat _ => F.Clean (d.getD 0)
  | _ => True

theorem fs_eff {s : St} {d : Option Nat} {x : Eff} (h : x.Free d s.fs) : (s.eff d x).fs = s.fs.upd ⟨d, x⟩ := by
  cases x with
  | val v => exact fs_put s d v
  | dat x => exact fs_put s d _
  | new b v =>
    obtain ⟨h1, h2⟩ := h
    show ((s.new (d.getD 0) b).put d v).fs = _
    rw [fs_put]
    unfold St.new
    rw [Blk.on_men h2, FS.upd, fs_blk, fs_purge h1]
    refine FS.ext' (fun t => rfl) fun k => ?_
    simp only [FS.upd, Eff.b, Option.getD_none]
    split <;> rfl
  | put i b =>
    show ((s.blk i b).put d (.tup [])).fs = _
    rw [fs_put, FS.upd, fs_blk]
    refine FS.ext' (fun t => rfl) fun k => ?_
    simp only [FS.upd, Eff.b, Option.getD_none]
    split <;> rfl
  | app i b v =>
    obtain ⟨h1, h2⟩ := h
    have hc : (s.drop i).fs.Clean (d.getD 0) := by
      rw [fs_drop]
      refine ⟨h1.t, fun k b hb => ?_⟩
      simp only at hb
      split at hb
      · cases hb
      · exact h1.h k b hb
    show (((s.drop i).new (d.getD 0) b).put d v).fs = _
    rw [fs_put]
    unfold St.new
    rw [Blk.on_men h2, FS.upd, fs_blk, fs_purge hc, fs_drop]
    refine FS.ext' (fun t => rfl) fun k => ?_
    simp only [FS.upd, Eff.b, Option.getD_none]
    by_cases e : d.getD 0 = k
    · rw [if_pos e, if_pos e]; rfl
    · rw [if_neg e, if_neg e]
      by_cases e2 : k = i
      · rw [if_pos e2, if_pos e2.symm]; rfl
      · rw [if_neg e2, if_neg (fun h => e2 h.symm)]; rfl

section
variable {P : Program} {T : Tab}

/-- What is asked of one operation: it does 'x' wherever 'E' is known. -/
def DoesOp (P : Program) (T : Tab) (o : Oper) (E : St) (x : Eff) : Prop :=
  ∀ s : St, E.Sub s → x.Free o.dst s.fs → ∀ K : St → Prop, (∀ s', s'.fs = s.fs.upd ⟨o.dst, x⟩ → K s') → wpOp P T o s (Frz K)

theorem does_eff {o : Oper} {E : St} {x : Eff} (h : effOp T o E = some x) : DoesOp P T o E x := by
  intro s hs hf K hK
  have h1 := eff_step (Sub.effOp hs T o x h)
  have h2 : wpo (stepOp T o s) (Frz K) := by rw [h1, wpo_some]; exact Frz.of (hK _ (fs_eff hf))
  unfold wpOp
  split
  · rename_i ho
    unfold effOp at h
    rw [ho] at h
    cases h
  · exact h2

theorem C.on_other {d : Nat} {g : Nat → C → C} (hg : ∀ i c, i ≠ d → g i c = c) {c : C} (h : c.men d = false) : c.on g = c := by
  unfold C.on
  unfold C.men at h
  split
  · rename_i i o n
    exact hg _ _ fun he => by simp [C.id?, he] at h
  · rename_i i o
    exact hg _ _ fun he => by simp [C.id?, he] at h
  · rfl
theorem on_other_list {d : Nat} {g : Nat → C → C} (hg : ∀ i c, i ≠ d → g i c = c) : ∀ {cs : List C}, cs.any (C.men d) = false → cs.map (C.on g) = cs
  | [], _ => rfl
  | c :: r, h => by
    simp only [List.any_cons, Bool.or_eq_false_iff] at h
    rw [List.map_cons, C.on_other hg h.1, on_other_list hg h.2]
theorem U.on_other {d : Nat} {g : Nat → C → C} (hg : ∀ i c, i ≠ d → g i c = c) : ∀ {u : U}, u.men d = false → u.on g = u
  | .c x, h => congrArg U.c (C.on_other hg h)
  | .agg cs, h => congrArg U.agg (on_other_list hg h)
  | .clo f cs, h => congrArg (U.clo f) (on_other_list hg h)
theorem on_other_us {d : Nat} {g : Nat → C → C} (hg : ∀ i c, i ≠ d → g i c = c) : ∀ {us : List U}, us.any (U.men d) = false → us.map (U.on g) = us
  | [], _ => rfl
  | c :: r, h => by
    simp only [List.any_cons, Bool.or_eq_false_iff] at h
    rw [List.map_cons, U.on_other hg h.1, on_other_us hg h.2]
theorem V.on_other {d : Nat} {g : Nat → C → C} (hg : ∀ i c, i ≠ d → g i c = c) : ∀ {v : V}, v.men d = false → v.on g = v
  | .u x, h => congrArg V.u (U.on_other hg h)
  | .tup us, h => congrArg V.tup (on_other_us hg h)
  | .tr _ _, _ => rfl
theorem Blk.on_other {d : Nat} {g : Nat → C → C} (hg : ∀ i c, i ≠ d → g i c = c) : ∀ {b : Blk}, b.men d = false → b.on g = b
  | .row _ _ _, _ => rfl
  | .box cs, h => congrArg Blk.box (on_other_list hg h)
  | .fbox f cs, h => congrArg (Blk.fbox f) (on_other_list hg h)

/-- A row that was just made, read as data. -/
theorem fs_frz {s : St} {d sz len : Nat} {ds : List D} (hl : ds.length = len * sz) (hc : s.fs.Clean d) :
    (((s.new d (.row sz ds true)).put (some d) (vC (.sl d 0 len))).freeze [d]).fs = s.fs.upd ⟨some d, .dat (.slice len ds)⟩ := by
  have h1 : ((s.new d (.row sz ds true)).put (some d) (vC (.sl d 0 len))).fs = s.fs.upd ⟨some d, .new (.row sz ds true) (vC (.sl d 0 len))⟩ :=
    fs_eff (d := some d) (x := .new (.row sz ds true) (vC (.sl d 0 len))) ⟨hc, rfl⟩
  generalize ((s.new d (.row sz ds true)).put (some d) (vC (.sl d 0 len))) = s1 at h1
  have ht : ∀ t, lk t s1.t = if d = t then some (vC (.sl d 0 len)) else lk t s.t := fun t => by
    have := congrArg (fun F => F.t t) h1
    simpa [St.fs, FS.upd, Eff.v] using this
  have hh : ∀ k, lk k s1.h = if d = k then some (.row sz ds true) else lk k s.h := fun k => by
    have := congrArg (fun F => F.h k) h1
    simp only [St.fs, FS.upd, Eff.b, Option.getD_some] at this
    rw [this]
    by_cases e : d = k <;> simp [e]
  have hd : lk d s1.h = some (.row sz ds true) := by rw [hh, if_pos rfl]
  have hg : ∀ i c, i ≠ d → freezeG s1.h ([d].contains ·) i c = c := fun i c hi => by
    unfold freezeG
    rw [if_neg (by simpa using hi)]
  have hdd : toD ([d].contains ·) s1.h 4 (.sl d 0 len) = some (.slice len ds) := by
    unfold toD
    rw [if_pos (by simp), hd]
    simp only
    rw [if_pos (by rw [Nat.zero_add, hl]; exact Nat.le_refl _)]
    unfold cut
    rw [Nat.zero_mul, List.drop_zero, ← hl, List.take_length]
  refine FS.ext' (fun t => ?_) fun k => ?_
  · show lk t (s1.on (freezeG s1.h ([d].contains ·))).t = _
    simp only [St.on, lk_map, ht, FS.upd, Eff.v, Option.some.injEq]
    by_cases e : d = t
    · rw [if_pos e, if_pos e, Option.map_some]
      show some (V.u (U.c (freezeG s1.h ([d].contains ·) d (.sl d 0 len)))) = _
      unfold freezeG
      rw [if_pos (by simp), hdd]
      rfl
    · rw [if_neg e, if_neg e]
      cases hl2 : lk t s.t with
      | none => simp [St.fs, hl2]
      | some v =>
        rw [Option.map_some, V.on_other hg (hc.t t v hl2)]
        exact hl2.symm
  · show lk k (rmAll ([d].contains ·) (s1.on (freezeG s1.h ([d].contains ·))).h) = _
    rw [lk_rmAll]
    simp only [St.on, lk_map, hh, FS.upd, Eff.b, Option.getD_none]
    by_cases e : k = d
    · rw [if_pos (by simpa using e)]
      cases hl2 : s.fs.h k with
      | none => rfl
      | some b => exact absurd e (hc.h k b hl2).1
    · rw [if_neg (by simpa using e), if_neg (fun h => e h.symm)]
      cases hl2 : lk k s.h with
      | none => simp [St.fs, hl2]
      | some b =>
        rw [Option.map_some, Blk.on_other hg (hc.h k b hl2).2]
        exact hl2.symm

theorem does_dat {o : Oper} {E : St} {x : Eff} (h : effDat T o E = some x) : DoesOp P T o E x := by
  intro s hs hf K hK
  unfold effDat at h
  split at h
  case h_2 => cases h
  case h_1 t len parts ho =>
    simp only [Option.bind_eq_some_iff] at h
    obtain ⟨d, hd, i, hi, e, he, j, hj, l, hl, h⟩ := h
    split at h
    case isFalse => cases h
    case isTrue hbig =>
      simp only [Option.bind_eq_some_iff] at h
      obtain ⟨cs, hcs, h⟩ := h
      split at h
      · cases h
      · rename_i hnp
        split at h
        case isFalse => cases h
        case isTrue hno =>
          simp only [Option.bind_eq_some_iff] at h
          obtain ⟨ds, hds, h⟩ := h
          split at h
          case isFalse => cases h
          case isTrue hlen =>
            cases h
            have hl' := Sub.evUs hs _ _ hl
            have hds' : cs.mapM (toD (fun _ => false) s.h 4) = some ds := Sub.mapD hs _ _ _ _ hds
            have hb : effBsl d j len s.h l = some (.new (.row j.size ds true) (vC (.sl d 0 len))) := by
              unfold effBsl
              rw [if_pos hbig, hcs, Option.bind_some, if_neg hnp, if_pos hno, hds']
              rfl
            have hst := effBsl_step hb
            have hstep : stepOp T o s = some (s.eff (some d) (.new (.row j.size ds true) (vC (.sl d 0 len)))) := by
              unfold stepOp
              rw [ho]
              simp only [hi, he, hj, hl', Option.bind_some, hd]
              exact hst
            have h2 : wpo (stepOp T o s) (Frz K) := by
              rw [hstep, wpo_some]
              refine ⟨[d], hK _ ?_⟩
              rw [hd]
              rw [hd] at hf
              exact fs_frz hlen hf
            unfold wpOp
            rw [ho]
            exact h2

/-- With its guard. -/
def DoesG (P : Program) (T : Tab) (ops : List Oper) (o : Oper) (E : St) (x : Eff) : Prop :=
  match o.guard with
  | none => DoesOp P T o E x
  | some (j, want) =>
    match (ops[j]?).bind (·.dst) with
    | some d => (∃ b, lk d E.t = some (vB b) ∧ ((b = want ∧ DoesOp P T o E x) ∨ (b = !want ∧ x = .val (.tup [])))) ∨ (lk d E.t = some (.tup []) ∧ x = .val (.tup []))
    | none => False

theorem fs_same {s : St} {d : Nat} {v : V} (h : lk d s.t = some v) : (s.put (some d) v).fs = s.fs := by
  rw [fs_put]
  refine FS.ext' (fun t => ?_) fun k => rfl
  simp only [FS.upd, Option.some.injEq, Eff.v]
  split
  · rename_i he; subst he; exact h.symm
  · rfl

theorem Sub.same {E s s' : St} (h : E.Sub s) (he : s'.fs = s.fs) : E.Sub s' := by
  have := sub_of_fs he.symm
  exact ⟨fun k x hx => this.t k x (h.t k x hx), fun k x hx => this.h k x (h.h k x hx)⟩

theorem does_turn {ops : List Oper} {o : Oper} {E : St} {x : Eff} (h : DoesG P T ops o E x) {s : St} (hs : E.Sub s) (hf : x.Free o.dst s.fs) {K : St → Prop}
    (hK : ∀ s', s'.fs = s.fs.upd ⟨o.dst, x⟩ → K s') : wpG P T ops o s (Frz K) := by
  unfold DoesG at h
  unfold wpG
  split at h
  · rename_i hg; rw [hg]; exact h s hs hf K hK
  · rename_i j want hg
    rw [hg]
    dsimp only
    split at h
    · rename_i d hd
      rw [hd]
      dsimp only
      rcases h with ⟨b, h1, h2⟩ | ⟨h1, h2⟩
      · have hl := hs.t d _ h1
        rw [hl]
        show gateV d want (some (.u (.c (.d (.bool b))))) s (wpOp P T o) (skipK o.dst) (Frz K)
        rw [gateV_bool]
        refine ⟨fun hb => ?_, fun hb => ?_⟩
        · rcases h2 with ⟨_, h2⟩ | ⟨h2, _⟩
          · have he : (s.put (some d) (vB want)).fs = s.fs := fs_same (hb ▸ hl)
            exact h2 _ (Sub.same hs he) (he ▸ hf) K fun s' h' => hK s' (he ▸ h')
          · rw [hb] at h2; cases want <;> cases h2
        · rcases h2 with ⟨h2, _⟩ | ⟨_, h2⟩
          · rw [hb] at h2; cases want <;> cases h2
          · have he : (s.put (some d) (vB !want)).fs = s.fs := fs_same (hb ▸ hl)
            refine Frz.of (hK _ ?_)
            rw [fs_put, he, h2]
      · have hl := hs.t d _ h1
        rw [hl, gateV_none]
        exact Frz.of (hK _ (by rw [fs_put, h2]))
    · exact h.elim
end

/-! ### calls -/

theorem toD_ok_sl {ok ok' : Nat → Bool} (ho : ∀ i, ok i = true → ok' i = true) (h : List (Nat × Blk)) (k i off n : Nat) : Mo (toD ok h k (.sl i off n)) (toD ok' h k (.sl i off n)) := fun y hy => by
  have he : ∀ ok : Nat → Bool, toD ok h k (.sl i off n) = if ok i then (match lk i h with
    | some (.row sz cs _) => if (off + n) * sz ≤ cs.length then some (.slice n (cut (off * sz) (n * sz) cs)) else none
    | _ => none) else none := fun ok => by cases k <;> rfl
  rw [he] at hy ⊢
  by_cases h1 : ok i = true
  · rw [if_pos h1] at hy
    rw [if_pos (ho i h1)]
    exact hy
  · rw [if_neg h1] at hy; cases hy
theorem toD_ok {ok ok' : Nat → Bool} (ho : ∀ i, ok i = true → ok' i = true) (h : List (Nat × Blk)) : ∀ (k : Nat) (c : C), Mo (toD ok h k c) (toD ok' h k c)
  | 0, .d x => Mo.refl _
  | k + 1, .d x => Mo.refl _
  | 0, .nl => Mo.refl _
  | k + 1, .nl => Mo.refl _
  | 0, .bad => Mo.refl _
  | k + 1, .bad => Mo.refl _
  | 0, .sl i off n => toD_ok_sl ho h 0 i off n
  | k + 1, .sl i off n => toD_ok_sl ho h (k + 1) i off n
  | 0, .ptr i off => fun y hy => by
    unfold toD at hy ⊢
    by_cases h1 : ok i = true
    · rw [if_pos h1] at hy; rw [if_pos (ho i h1)]; exact hy
    · rw [if_neg h1] at hy; cases hy
  | k + 1, .ptr i off => fun y hy => by
    have hm : ∀ l : List C, Mo (l.mapM (toD ok h k)) (l.mapM (toD ok' h k)) := fun l => by
      induction l with
      | nil => simpa using Mo.refl _
      | cons c r ih =>
        rw [List.mapM_cons, List.mapM_cons]
        exact (toD_ok ho h k c).bind fun _ => ih.bind fun _ => Mo.refl _
    unfold toD at hy ⊢
    by_cases h1 : ok i = true
    · rw [if_pos h1] at hy
      rw [if_pos (ho i h1)]
      split at hy
      · exact hy
      · exact (hm _).map _ _ hy
      · by_cases h0 : off = 0
        · rw [if_pos h0] at hy ⊢; exact (hm _).map _ _ hy
        · rw [if_neg h0] at hy; cases hy
      · cases hy
    · rw [if_neg h1] at hy; cases hy
theorem Mo.trans {α : Type} {a b c : Option α} (h : Mo a b) (h' : Mo b c) : Mo a c := fun x hx => h' x (h x hx)
theorem Mo.mapM {α β : Type} {f g : α → Option β} (h : ∀ x, Mo (f x) (g x)) : ∀ l : List α, Mo (l.mapM f) (l.mapM g)
  | [] => by simpa using Mo.refl _
  | c :: r => by
    rw [List.mapM_cons, List.mapM_cons]
    exact (h c).bind fun _ => (Mo.mapM h r).bind fun _ => Mo.refl _
theorem reach_mono {E s : St} (hs : E.Sub s) : ∀ (k : Nat) (cs : List C) (i : Nat), i ∈ reach E.h k cs → i ∈ reach s.h k cs
  | 0, _, _, h => by cases h
  | k + 1, cs, i, h => by
    unfold reach at h ⊢
    rw [List.mem_flatMap] at h ⊢
    obtain ⟨c, hc, hi⟩ := h
    refine ⟨c, hc, ?_⟩
    split at hi
    · cases hi
    · rename_i j hj
      rcases List.mem_cons.1 hi with rfl | hi
      · simp
      · refine List.mem_cons_of_mem _ ?_
        split at hi
        · rename_i bs hb
          rw [hs.h j _ hb]
          exact reach_mono hs k bs i hi
        · rename_i f bs hb
          rw [hs.h j _ hb]
          exact reach_mono hs k bs i hi
        · cases hi

theorem toA_mono {E s : St} (hs : E.Sub s) {ids ids' : List Nat} (hi : ∀ i, i ∈ ids → i ∈ ids') (u : U) : Mo (U.toA ids E.h u) (U.toA ids' s.h u) := by
  have hc : ∀ c : C, Mo (toD (ids.contains ·) E.h 4 c) (toD (ids'.contains ·) s.h 4 c) := fun c =>
    (Sub.toD hs _ 4 c).trans (toD_ok (fun i h => by simpa using hi i (by simpa using h)) s.h 4 c)
  cases u with
  | c x => exact (hc x).map _
  | agg cs => exact (Mo.mapM hc cs).map _
  | clo f cs => exact (Mo.mapM hc cs).map _

def noIds (us : List U) : Bool := noIdsC (us.flatMap U.all)
def resEff (d : Option Nat) (res : R) : Eff := match res.rows with | [] => .val (res.imp (d.getD 0)) | b :: _ => .new b (res.imp (d.getD 0))

theorem does_arg {P : Program} {T : Tab} {dst : Option Nat} {E : St} {g : FuncId} {caps : List D} {us : List U} {as : List A} {res : R}
    (has : E.argsW (E.reachU us) us caps = some as) (hc : CallsF P g as res) (hid : res.flat = true ∨ noIds us = true) {s : St} (hs : E.Sub s) (hfree : (resEff dst res).Free dst s.fs) {K : St → Prop}
    (hK : ∀ s', s'.fs = s.fs.upd ⟨dst, resEff dst res⟩ → K s') : argK P dst s (Frz K) g caps us := by
  left
  have hargs : s.argsW (s.reachU us) us caps = some as := by
    unfold St.argsW at has ⊢
    exact (Mo.mapM (toA_mono hs (reach_mono hs 5 _)) us).map _ _ has
  rw [hargs, wpo_some, goK_eq]
  refine ⟨res, hc, ?_⟩
  unfold backK
  refine Frz.of (hK _ ?_)
  have hb : s.back dst (s.reachU us) res = s.eff dst (resEff dst res) := by
    unfold St.back
    have h1 : (if res.flat then s else s.freeze (s.reachU us)) = s := by
      split
      · rfl
      · rename_i hn
        rcases hid with h | h
        · exact absurd h hn
        · unfold St.reachU
          rw [reach_none _ _ _ h]
          rfl
    dsimp only
    rw [h1]
    unfold resEff
    cases res.rows <;> rfl
  rw [hb]
  exact fs_eff hfree

theorem does_call {P : Program} {T : Tab} {o : Oper} {E : St} {f : Operand} {args : Array Operand} {ts : Array TypeId} {g : FuncId} {caps : List D} {us : List U} {as : List A} {res : R}
    (ho : o.op = .call { callee := .value f, args := args, argTypes := ts }) (hf : E.evU f = some (.c (.d (.fn g caps)))) (hus : args.toList.mapM E.evU = some us)
    (has : E.argsW (E.reachU us) us caps = some as) (hc : CallsF P g as res) (hid : res.flat = true ∨ noIds us = true) :
    DoesOp P T o E (resEff o.dst res) := by
  intro s hs hfree K hK
  unfold wpOp
  rw [ho]
  dsimp only
  rw [Sub.evU hs f _ hf, wpo_some, callK_fn, Mo.mapM (Sub.evU hs) _ _ hus, wpo_some]
  exact does_arg (T := T) has hc hid hs hfree hK

theorem does_clo {P : Program} {T : Tab} {o : Oper} {E : St} {f : Operand} {args : Array Operand} {ts : Array TypeId} {g : FuncId} {cs : List C} {us : List U} {as : List A} {res : R}
    (ho : o.op = .call { callee := .value f, args := args, argTypes := ts }) (hf : E.evU f = some (.clo g cs)) (hus : args.toList.mapM E.evU = some us)
    (has : E.argsW (E.reachU (us ++ cs.map .c)) (us ++ cs.map .c) [] = some as) (hc : CallsF P g as res) (hid : res.flat = true ∨ noIds (us ++ cs.map .c) = true) :
    DoesOp P T o E (resEff o.dst res) := by
  intro s hs hfree K hK
  unfold wpOp
  rw [ho]
  dsimp only
  rw [Sub.evU hs f _ hf, wpo_some, callK_clo, Mo.mapM (Sub.evU hs) _ _ hus, wpo_some]
  exact does_arg (T := T) has hc hid hs hfree hK

end Go.Va
