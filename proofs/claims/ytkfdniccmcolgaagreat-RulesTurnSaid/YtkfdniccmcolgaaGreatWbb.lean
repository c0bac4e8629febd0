/-
  Soundness: calls; what goes on behind an operation, with what is handed on.
-/
import Derived.Test.YtkfdniccmcolgaaGreatWb
set_option linter.all false

namespace Go.Va
open Go.RowKit

/-- What a walk is about: what may be written, what is kept out, the memory at the start, how many places; places that keep their value; to whom is handed on. -/
structure Cx where
  M : Addr → Prop
  Z : Addr → Prop
  w0 : World
  n : Nat
  pin : List Nat
  pv : Nat → Value
  Y : Option Yl
  R0 : Addr → Prop
  D0 : Addr → Prop

/-- Since the last time something was handed on. -/
structure Lk (X : Cx) (M Z : Addr → Prop) (w0 : World) (st : St) (a : Act) : Prop where
  pins : ∀ k ∈ X.pin, a.tmps.getD k undef = X.pv k
  plain : X.Y = none → M = X.M ∧ Z = X.Z ∧ w0 = X.w0
  fr : Fr (fun ad => X.M ad ∨ X.R0 ad) X.w0 w0
  z : ∀ ad, X.Z ad → Z ad
  m : ∀ ad, M ad → X.M ad ∨ X.w0.heap.size ≤ ad.block
  y : ∀ x r, lk YS st.t = some (.tr x r) → ∃ Y R D, X.Y = some Y ∧ x = Y.x ∧ Y.J r R D w0 ∧ (∀ ad, R ad → Z ad) ∧ (∀ ad, R ad → X.R0 ad ∨ X.w0.heap.size ≤ ad.block) ∧ (∀ ad, D ad → ¬ M ad) ∧
    (∀ ad, D ad → X.D0 ad ∨ ¬ X.Z ad ∨ X.w0.heap.size ≤ ad.block) ∧ (∀ ad, X.D0 ad → D ad)

/-- What goes on behind an operation. -/
def Goes (X : Cx) (K : St → Prop) (a : Act) (w : World) : Prop := ∃ M Z w0 ρ st, Lk X M Z w0 st a ∧ Rel M Z w0 ρ st a w ∧ a.tmps.size = X.n ∧ K st

/-- A place that may be written. -/
def DstOk (X : Cx) (d : Nat) : Prop := d < X.n ∧ d < YS ∧ d ∉ X.pin

section
variable {P : Program} {T : Tab} {X : Cx} {M Z : Addr → Prop} {w0 w : World} {ρ : Rho} {st : St} {a : Act}

theorem Lk.next (h : Lk X M Z w0 st a) {st' : St} {a' : Act} (ht : TrLe st' st) (hp : ∀ k ∈ X.pin, a'.tmps.getD k undef = a.tmps.getD k undef) : Lk X M Z w0 st' a' where
  pins := fun k hk => (hp k hk).trans (h.pins k hk)
  plain := h.plain
  fr := h.fr
  z := h.z
  m := h.m
  y := fun x r hh => h.y x r (ht x r hh)
theorem Lk.of (h : Lk X M Z w0 st a) {st' : St} (ht : TrLe st' st) : Lk X M Z w0 st' a := h.next ht fun _ _ => rfl
theorem put_pin {a : Act} {dst : Option Nat} {v : Value} (hd : ∀ d, dst = some d → DstOk X d) : ∀ k ∈ X.pin, (a.put dst v).tmps.getD k undef = a.tmps.getD k undef := fun k hk => by
  cases dst with
  | none => rfl
  | some d =>
    have hne : d ≠ k := fun e => (hd d rfl).2.2 (e ▸ hk)
    simp [Act.put, Array.getD_eq_getD_getElem?, Array.getElem?_setIfInBounds, hne]
theorem Lk.put (h : Lk X M Z w0 st a) {st' : St} {dst : Option Nat} {v : Value} (ht : TrLe st' st) (hd : ∀ d, dst = some d → DstOk X d) : Lk X M Z w0 st' (a.put dst v) := h.next ht (put_pin hd)

theorem size_put (a : Act) (d : Option Nat) (v : Value) : (a.put d v).tmps.size = a.tmps.size := by cases d <;> simp [Act.put]

theorem own_lt (h : Rel M Z w0 ρ st a w) {i : Nat} {o : Own} (hi : ρ i = some o) {ad : Addr} (ho : o.has ad) : ad.block < w.heap.size := by
  obtain ⟨hn, hb, hlo, hhi⟩ := ho
  obtain ⟨⟨v, hv⟩, _⟩ := h.heap.owns.cells i o hi hn (ad.off - o.o) (by omega)
  have := World.block_lt_of_cell? w _ hv
  simpa [hb] using this
theorem own_nz (h : Rel M Z w0 ρ st a w) {i : Nat} {o : Own} (hi : ρ i = some o) {ad : Addr} (ho : o.has ad) : ¬ Z ad := fun hz => by
  rcases h.mine i o ad hi ho with hm | hs
  · exact h.mz ad hm hz
  · have := h.out ad hz; omega
theorem out_lt (h : Rel M Z w0 ρ st a w) {ad : Addr} (ho : Out ρ Z ad) : ad.block < w.heap.size := by
  rcases ho with hz | ⟨j, oj, hj, hh⟩
  · exact Nat.lt_of_lt_of_le (h.out ad hz) h.fr.size
  · exact own_lt h hj hh

/-- Something was handed on: the walk goes on from here. -/
theorem rest_sound (h : Rel M Z w0 ρ st a w) (hL : Lk X M Z w0 st a) {dst : Option Nat} (hd : ∀ d, dst = some d → DstOk X d) (hn : a.tmps.size = X.n) {ids : List Nat} {Y : Yl} (hX : X.Y = some Y) (hok : YlOk P Y) {r r' : List (List A)} {R D : Addr → Prop}
    (hJ0 : Y.J r R D w0) (hRZ : ∀ ad, R ad → Z ad) (hR0 : ∀ ad, R ad → X.R0 ad ∨ X.w0.heap.size ≤ ad.block) (hDM : ∀ ad, D ad → ¬ M ad) (hD0 : ∀ ad, D ad → X.D0 ad ∨ ¬ X.Z ad ∨ X.w0.heap.size ≤ ad.block) (hD00 : ∀ ad, X.D0 ad → D ad)
    {w' : World} {R' D' : Addr → Prop} (hJ : Y.J r' R' D' w') (hfr : Fr R w w') (hR' : ∀ ad, R' ad → R ad ∨ w.heap.size ≤ ad.block) (hD' : ∀ ad, D' ad → D ad ∨ ¬ Out (rhoF ids ρ) Z ad ∨ w.heap.size ≤ ad.block) (hDD : ∀ ad, D ad → D' ad) {K : St → Prop}
    (hK : K (st.backY dst ids Y.x r')) : Goes X K (a.put dst (.tuple #[])) w' := by
  have h1 := h.freeze ids
  have hk : Keep w w' (Out (rhoF ids ρ) Z) (Out (rhoF ids ρ) fun ad => Z ad ∨ R' ad) := fun ad x hno hv => by
    refine ⟨hfr.cell ad x (fun hr => hno (.inl (hRZ ad hr))) hv, ?_⟩
    rintro ((hz | hr) | ho)
    · exact hno (.inl hz)
    · rcases hR' ad hr with hr | hs
      · exact hno (.inl (hRZ ad hr))
      · have := World.block_lt_of_cell? w ad hv; omega
    · exact hno (.inr ho)
  have hkC : ∀ (c : C) (v : Value), RepC (rhoF ids ρ) w Z c v → RepC (rhoF ids ρ) w' (fun ad => Z ad ∨ R' ad) c v := fun c v hc => by
    cases c with
    | d x => exact RepD.keep hk hc
    | nl => exact hc
    | bad => exact hc
    | sl i off n => exact hc
    | ptr i off => exact hc
  have hkU : ∀ (u : U) (v : Value), RepU (rhoF ids ρ) w Z u v → RepU (rhoF ids ρ) w' (fun ad => Z ad ∨ R' ad) u v := fun u v hu => by
    cases u with
    | c x => exact hkC x v hu
    | agg cs => obtain ⟨vs, hv, hl, hr⟩ := hu; exact ⟨vs, hv, hl, fun j x v hx hv => hkC x v (hr j x v hx hv)⟩
    | clo f cs => obtain ⟨vs, hv, hl, hr⟩ := hu; exact ⟨vs, hv, hl, fun j x v hx hv => hkC x v (hr j x v hx hv)⟩
  have hkV : ∀ (u : V) (v : Value), RepV (rhoF ids ρ) w Z u v → RepV (rhoF ids ρ) w' (fun ad => Z ad ∨ R' ad) u v := fun u v hu => by
    cases u with
    | u x => exact hkU x v hu
    | tup xs => obtain ⟨vs, hv, hl, hr⟩ := hu; exact ⟨vs, hv, hl, fun j x v hx hv => hkU x v (hr j x v hx hv)⟩
    | tr x r => trivial
  have same : ∀ i o, rhoF ids ρ i = some o → o.gone = false → ∀ j, j < o.room * o.sz → w'.cell? (o.at j) = w.cell? (o.at j) ∧ w'.frozen? (o.at j) = w.frozen? (o.at j) := fun i o hi hg j hj => by
    obtain ⟨⟨v, hv⟩, _⟩ := h1.heap.owns.cells i o hi hg j hj
    refine ⟨?_, hfr.frz _ (World.block_lt_of_cell? w _ hv)⟩
    rw [hv]
    exact hfr.cell _ v (fun hr => own_nz h1 hi (Own.has_at hg hj) (hRZ _ hr)) hv
  have hrel : Rel (Cells (rhoF ids ρ)) (fun ad => Z ad ∨ R' ad) w' (rhoF ids ρ) (st.freeze ids) a w' :=
    { fr := ⟨rfl, Nat.le_refl _, rfl, rfl, Nat.le_refl _, fun _ _ _ h => h, fun _ _ => rfl, fun _ _ _ => rfl⟩
      heap := ⟨⟨fun i o hi hg j hj => by rw [(same i o hi hg j hj).1, (same i o hi hg j hj).2]; exact h1.heap.owns.cells i o hi hg j hj, h1.heap.owns.apart, h1.heap.owns.lim⟩, fun i b hb => by
        obtain ⟨o, ho, hr⟩ := h1.heap.rep i b hb
        refine ⟨o, ho, ?_⟩
        have hsame := same i o ho
        cases b with
        | row sz cs app =>
          obtain ⟨q1, q2, q3, q4, q5⟩ := hr
          refine ⟨q1, q2, q3, q4, fun j x hx => ?_⟩
          obtain ⟨v, hv, hd⟩ := q5 j x hx
          have hj : j < cs.length := (List.getElem?_eq_some_iff.1 hx).1
          have hnil : o.nil = false := by
            cases hn : o.nil with
            | false => rfl
            | true => rw [q4.1 hn] at q3; omega
          exact ⟨v, by rw [(hsame (q4.2.trans hnil) j (by rw [q1]; omega)).1]; exact hv, hd.keep hk⟩
        | box cs =>
          obtain ⟨q1, q2, q3, q4⟩ := hr
          refine ⟨q1, q2, q3, fun j x hx => ?_⟩
          obtain ⟨v, hv, h1v, hd⟩ := q4 j x hx
          have hj : j < cs.length := (List.getElem?_eq_some_iff.1 hx).1
          exact ⟨v, by rw [(hsame q3.2 j (by rw [q1, q2]; omega)).1]; exact hv, h1v, hkC x v hd⟩
        | fbox f cs =>
          obtain ⟨q1, q2, q3, v, hv, hd⟩ := hr
          exact ⟨q1, q2, q3, v, by rw [(hsame q3.2 0 (by rw [q1, q2]; omega)).1]; exact hv, hkU (.clo f cs) v hd⟩⟩
      mine := fun i o ad hi ho => .inl ⟨i, o, hi, ho⟩
      out := fun ad hz => by
        rcases hz with hz | hr
        · exact Nat.lt_of_lt_of_le (h.out ad hz) (Nat.le_trans h.fr.size hfr.size)
        · exact (hok.sub _ _ _ _ hJ).2 ad ((hok.sub _ _ _ _ hJ).1 ad hr)
      mz := fun ad ⟨i, o, hi, ho⟩ hz => by
        rcases hz with hz | hr
        · exact own_nz h1 hi ho hz
        · rcases hR' ad hr with hr | hs
          · exact own_nz h1 hi ho (hRZ ad hr)
          · have := own_lt h1 hi ho; omega
      tmps := fun t v hv => hkV v _ (h1.tmps t v hv)
      defers := h.defers }
  have hp := hrel.put (dst := dst) (v := .tup []) (x := .tuple #[]) (fun d h => by rw [hn]; exact (hd d h).1) ⟨[], rfl, rfl, fun j x v hx => by simp at hx⟩
  refine ⟨_, _, _, _, st.backY dst ids Y.x r', ?_, ⟨hp.fr, hp.heap, hp.mine, hp.out, hp.mz, fun t v hv => ?_, hp.defers⟩, (size_put _ _ _).trans hn, hK⟩
  · refine ⟨fun k hk => (put_pin hd k hk).trans (hL.pins k hk), fun h => (by rw [hX] at h; cases h), ?_, fun ad h => .inl (hL.z ad h), fun ad ⟨i, o, hi, ho⟩ => ?_, fun x r hh => ?_⟩
    · refine (hL.fr.into h.fr fun ad hm => ?_).into hfr fun ad hr => ?_
      · rcases hL.m ad hm with h | h
        · exact .inl (.inl h)
        · exact .inr h
      · rcases hR0 ad hr with h | h
        · exact .inl (.inr h)
        · exact .inr h
    · rcases h1.mine i o ad hi ho with hm | hs
      · exact hL.m ad hm
      · exact .inr (Nat.le_trans hL.fr.size hs)
    · simp only [St.backY, St.rest, lk_cons_same, Option.some.injEq, V.tr.injEq] at hh
      obtain ⟨rfl, rfl⟩ := hh
      refine ⟨Y, R', D', hX, rfl, hJ, fun ad h => .inr h, fun ad hr => ?_, fun ad hdd ⟨i, o, hi, ho⟩ => ?_, fun ad hdd => ?_, fun ad hdd => hDD ad (hD00 ad hdd)⟩
      · rcases hR' ad hr with hr | hs
        · exact hR0 ad hr
        · exact .inr (Nat.le_trans (Nat.le_trans hL.fr.size h.fr.size) hs)
      · rcases hD' ad hdd with hq | hq | hq
        · have hlt := (hok.sub _ _ _ _ hJ0).2 ad hq
          rcases h1.mine i o ad hi ho with hm | hs
          · exact hDM ad hq hm
          · omega
        · exact hq (.inr ⟨i, o, hi, ho⟩)
        · have := own_lt h1 hi ho; omega
      · rcases hD' ad hdd with hq | hq | hq
        · exact hD0 ad hq
        · exact .inr (.inl fun hz => hq (.inl (hL.z ad hz)))
        · exact .inr (.inr (Nat.le_trans (Nat.le_trans hL.fr.size h.fr.size) hq))
  · simp only [St.backY, St.rest] at hv
    by_cases e : t = YS
    · subst e; rw [lk_cons_same] at hv; cases hv; trivial
    · rw [lk_cons_ne e, lk_rm_ne e] at hv; exact hp.tmps t v hv

end
end Go.Va

/-
  Soundness: calls that hand on to a function value; every operation; regions in the order of the text.
-/
namespace Go.Va
open Go.RowKit

section
variable {P : Program} {T : Tab} {X : Cx} {M Z : Addr → Prop} {w0 w : World} {ρ : Rho} {st : St} {a : Act}

theorem RepC.keepZ {w' : World} {Z' : Addr → Prop} (hk : Keep w w' (Out ρ Z) (Out ρ Z')) {c : C} {v : Value} (hc : RepC ρ w Z c v) : RepC ρ w' Z' c v := by
  cases c with
  | d x => exact RepD.keep hk hc
  | nl => exact hc
  | bad => exact hc
  | sl i off n => exact hc
  | ptr i off => exact hc
theorem RepU.keepZ {w' : World} {Z' : Addr → Prop} (hk : Keep w w' (Out ρ Z) (Out ρ Z')) {u : U} {v : Value} (hu : RepU ρ w Z u v) : RepU ρ w' Z' u v := by
  cases u with
  | c x => exact RepC.keepZ hk hu
  | agg cs => obtain ⟨vs, hv, hl, hr⟩ := hu; exact ⟨vs, hv, hl, fun j x v hx hv => RepC.keepZ hk (hr j x v hx hv)⟩
  | clo f cs => obtain ⟨vs, hv, hl, hr⟩ := hu; exact ⟨vs, hv, hl, fun j x v hx hv => RepC.keepZ hk (hr j x v hx hv)⟩
theorem Heap.keepZ {w' : World} {Z' : Addr → Prop} {h : List (Nat × Blk)} (hh : Heap ρ w Z h) (hk : Keep w w' (Out ρ Z) (Out ρ Z'))
    (hs : ∀ i o, ρ i = some o → o.gone = false → ∀ j, j < o.room * o.sz → w'.cell? (o.at j) = w.cell? (o.at j) ∧ w'.frozen? (o.at j) = w.frozen? (o.at j)) : Heap ρ w' Z' h :=
  ⟨⟨fun i o hi hg j hj => by rw [(hs i o hi hg j hj).1, (hs i o hi hg j hj).2]; exact hh.owns.cells i o hi hg j hj, hh.owns.apart, hh.owns.lim⟩, fun i b hb => by
    obtain ⟨o, ho, hr⟩ := hh.rep i b hb
    refine ⟨o, ho, ?_⟩
    have hsame := hs i o ho
    cases b with
    | row sz cs app =>
      obtain ⟨q1, q2, q3, q4, q5⟩ := hr
      refine ⟨q1, q2, q3, q4, fun j x hx => ?_⟩
      obtain ⟨v, hv, hd⟩ := q5 j x hx
      have hj : j < cs.length := (List.getElem?_eq_some_iff.1 hx).1
      have hnil : o.nil = false := by
        cases hn : o.nil with
        | false => rfl
        | true => rw [q4.1 hn] at q3; omega
      exact ⟨v, by rw [(hsame (q4.2.trans hnil) j (by rw [q1]; omega)).1]; exact hv, hd.keep hk⟩
    | box cs =>
      obtain ⟨q1, q2, q3, q4⟩ := hr
      refine ⟨q1, q2, q3, fun j x hx => ?_⟩
      obtain ⟨v, hv, h1v, hd⟩ := q4 j x hx
      have hj : j < cs.length := (List.getElem?_eq_some_iff.1 hx).1
      exact ⟨v, by rw [(hsame q3.2 j (by rw [q1, q2]; omega)).1]; exact hv, h1v, hd.keepZ hk⟩
    | fbox f cs =>
      obtain ⟨q1, q2, q3, v, hv, hd⟩ := hr
      exact ⟨q1, q2, q3, v, by rw [(hsame q3.2 0 (by rw [q1, q2]; omega)).1]; exact hv, RepU.keepZ (u := .clo f cs) hk hd⟩⟩
theorem A.rep.keep {w' : World} {Z' : Addr → Prop} (hk : Keep w w' Z Z') {A0 : A} {v : Value} (h : A.rep w Z A0 v) : A.rep w' Z' A0 v := by
  cases A0 with
  | c x => exact RepD.keep hk h
  | agg cs => obtain ⟨vs, hv, hl, hr⟩ := h; exact ⟨vs, hv, hl, fun j x v hx hv => RepD.keep hk (hr j x v hx hv)⟩
theorem RepL.mono {α : Type} {r s : α → Value → Prop} {xs : List α} {vs : List Value} (h : RepL r xs vs) (hi : ∀ x v, r x v → s x v) : RepL s xs vs := ⟨h.1, fun j x v hx hv => hi x v (h.2 j x v hx hv)⟩

/-! ### a function value of the call's own, which hands on -/

def ebY (P : Program) (Y : Yl) (f : FuncId) (cl : List D) (clv : List Value) (zs : List A → List (List A)) (rest : List (List A)) (Db : Addr → Prop) : Yl where
  g := f
  caps := clv
  J := fun rem R D w => (∀ y ∈ rem, Emits P Y.x f (y ++ cl.map .c) (zs y)) ∧ (∀ ad, D ad → ad.block < w.heap.size) ∧ (∃ D0 : Addr → Prop, (∀ ad, Db ad → D0 ad) ∧ (∀ ad, D0 ad → D ad) ∧ Y.J (rem.flatMap zs ++ rest) R D0 w) ∧ RepL (RepD w fun ad => R ad ∨ ¬ D ad) cl clv

theorem ebY_ok {Y : Yl} (hY : YlOk P Y) (f : FuncId) (cl : List D) (clv : List Value) (zs : List A → List (List A)) (rest : List (List A)) (Db : Addr → Prop) : YlOk P (ebY P Y f cl clv zs rest Db) where
  sub := fun rem R D w ⟨_, h, ⟨D0, _, h2, h3⟩, _⟩ => ⟨fun ad hr => h2 ad ((hY.sub _ R D0 w h3).1 ad hr), h⟩
  stable := fun rem R D w w' M ⟨h1, hlt, ⟨D0, hb, hD0, h2⟩, h3⟩ hM hfr => ⟨h1, fun ad h => Nat.lt_of_lt_of_le (hlt ad h) hfr.size, ⟨D0, hb, hD0, hY.stable _ R D0 w w' M h2 (fun ad hm hd => hM ad hm (hD0 ad hd)) hfr⟩, h3.mono fun x v hx => hx.keep fun ad u hn hu =>
    ⟨hfr.cell ad u (fun hm => hn (.inr (hM ad hm))) hu, hn⟩⟩
  step := fun y rem R D D2 w vals ⟨h1, hlt, ⟨D0, hb, hD0, h2⟩, h3⟩ hD hD2 hy => by
    obtain ⟨hfn, hcall⟩ := h1 y (by simp)
    refine ⟨hfn, ?_⟩
    rw [List.flatMap_cons, List.append_assoc] at h2
    have hsub := hY.sub _ R D0 w h2
    have hargs : RepL (A.rep w fun ad => (R ad ∨ ¬ D2 ad) ∧ ad.block < w.heap.size) (y ++ cl.map .c) (vals ++ clv) := by
      refine (hy.mono fun x v hx => hx.keep (Keep.mono fun _ h => h.1)).append ⟨by simpa using h3.1, fun j x v hx hv => ?_⟩
      simp only [List.getElem?_map, Option.map_eq_some_iff] at hx
      obtain ⟨d, hd, rfl⟩ := hx
      exact RepD.keep (Keep.mono fun ad h => h.1.imp id fun hn hd => hn (hD ad hd)) (h3.2 j d v hd hv)
    have := hcall Y rfl hY w _ _ _ R D0 h2 (fun ad h => h.2) (fun ad h => ⟨.inl h, hsub.2 ad (hsub.1 ad h)⟩) hargs
    refine this.mono fun e w' ⟨he, R', D', hJ, hfr, hR', hD', hDD⟩ => ⟨he, R', fun ad => D' ad ∨ D ad, ⟨fun y hy => h1 y (by simp [hy]), fun ad h => ?_, ⟨D', fun ad h => hDD ad (hb ad h), fun ad h => .inl h, hJ⟩, h3.mono fun x v hx => hx.keep fun ad u hn hu => ?_⟩, hfr, hR', fun ad hd => ?_, fun ad h => .inr h⟩
    · rcases h with h | h
      · exact (hY.sub _ R' D' w' hJ).2 ad h
      · exact Nat.lt_of_lt_of_le (hlt ad h) hfr.size
    · have hnR : ¬ R ad := fun h => hn (.inl h)
      have hDa : D ad := Classical.not_not.1 fun h => hn (.inr h)
      refine ⟨hfr.cell ad u hnR hu, ?_⟩
      rintro (h | h)
      · rcases hR' ad h with h | h
        · exact hnR h
        · have := World.block_lt_of_cell? w ad hu; omega
      · exact h (.inr hDa)
    · rcases hd with hd | hd
      · rcases hD' ad hd with h | h | h
        · exact .inl (hD ad (hD0 ad h))
        · by_cases hb : ad.block < w.heap.size
          · exact .inl (Classical.not_not.1 fun hn => h ⟨.inr hn, hb⟩)
          · exact .inr (by omega)
        · exact .inr h
      · exact .inl (hD ad hd)

/-! ### a function value of the call's own, whose captures are live -/

def hbY (f : FuncId) (cs : List C) (ys : List (List A)) (H : List (List A) → List (Nat × Blk)) (cv : List Value) : Yl where
  g := f
  caps := cv
  J := fun rem R D w => rem <:+ ys ∧ (∀ ad, D ad → ad.block < w.heap.size) ∧ ∃ ρ, R = Cells ρ ∧ (∀ ad, Cells ρ ad → D ad) ∧ Heap ρ w (fun ad => ad.block < w.heap.size ∧ ¬ D ad) (H rem) ∧
    RepL (RepC ρ w fun ad => ad.block < w.heap.size ∧ ¬ D ad) cs cv ∧ ∀ i o, ρ i = some o → (lk i (H rem)).isSome = true

theorem hbY_ok {f : FuncId} {cs : List C} {ys : List (List A)} {H : List (List A) → List (Nat × Blk)} (cv : List Value) (hx : ∀ y rest, (y :: rest) <:+ ys → CallsX P f y cs (H (y :: rest)) (H rest)) : YlOk P (hbY f cs ys H cv) where
  sub := fun rem R D w ⟨_, h2, ρ, h3, h4, _⟩ => ⟨fun ad h => h4 ad (h3 ▸ h), h2⟩
  stable := fun rem R D w w' M ⟨h1, h2, ρ, h3, h4, h5, h6, h7⟩ hM hfr => by
    have hk : Keep w w' (Out ρ fun ad => ad.block < w.heap.size ∧ ¬ D ad) (Out ρ fun ad => ad.block < w'.heap.size ∧ ¬ D ad) := fun ad u hn hu => by
      have hlt := World.block_lt_of_cell? w ad hu
      have hDa : D ad := Classical.not_not.1 fun h => hn (.inl ⟨hlt, h⟩)
      refine ⟨hfr.cell ad u (fun hm => hM ad hm hDa) hu, ?_⟩
      rintro (h | h)
      · exact h.2 hDa
      · exact hn (.inr h)
    refine ⟨h1, fun ad h => Nat.lt_of_lt_of_le (h2 ad h) hfr.size, ρ, h3, h4, h5.keepZ hk fun i o hi hg j hj => ?_, h6.mono fun c v hc => hc.keepZ hk, h7⟩
    obtain ⟨⟨v, hv⟩, _⟩ := h5.owns.cells i o hi hg j hj
    refine ⟨?_, hfr.frz _ (World.block_lt_of_cell? w _ hv)⟩
    rw [hv]
    exact hfr.cell _ v (fun hm => hM _ hm (h4 _ ⟨i, o, hi, Own.has_at hg hj⟩)) hv
  step := fun y rem R D D2 w vals ⟨h1, h2, ρ, h3, h4, h5, h6, h7⟩ hD hD2 hy => by
    obtain ⟨hfn, hcall⟩ := hx y rem h1
    refine ⟨hfn, ?_⟩
    have hkz : Keep w w (Out ρ fun ad => ad.block < w.heap.size ∧ ¬ D ad) (Out ρ fun ad => ad.block < w.heap.size ∧ ¬ D2 ad) := Keep.mono fun ad h => h.imp (fun h => ⟨h.1, fun hd => h.2 (hD ad hd)⟩) id
    have := hcall w (fun ad => ad.block < w.heap.size ∧ ¬ D2 ad) ρ vals cv (fun ad h => h.1) (h5.keepZ hkz fun _ _ _ _ _ _ => ⟨rfl, rfl⟩) (fun ad h hz => hz.2 (hD ad (h4 ad h))) h7
      (hy.mono fun x v hx => hx.keep (Keep.mono fun ad h => by
        rcases h with h | h
        · exact .inr h.2
        · exact .inl (h3 ▸ h))) (h6.mono fun c v hc => hc.keepZ hkz)
    refine this.mono fun e w' ⟨he, ρ', hfr, hh, hl, hc, hcs⟩ => ?_
    have hout : ∀ ad, (ad.block < w'.heap.size ∧ ¬ (D2 ad ∨ (w.heap.size ≤ ad.block ∧ ad.block < w'.heap.size))) → ad.block < w.heap.size ∧ ¬ D2 ad := fun ad h => ⟨by
      rcases Nat.lt_or_ge ad.block w.heap.size with h' | h'
      · exact h'
      · exact absurd (.inr ⟨h', h.1⟩) h.2, fun hd => h.2 (.inl hd)⟩
    have hkz' : Keep w' w' (Out ρ' fun ad => ad.block < w.heap.size ∧ ¬ D2 ad) (Out ρ' fun ad => ad.block < w'.heap.size ∧ ¬ (D2 ad ∨ (w.heap.size ≤ ad.block ∧ ad.block < w'.heap.size))) := Keep.mono fun ad h => h.imp (hout ad) id
    have hltc : ∀ ad, Cells ρ' ad → ad.block < w'.heap.size := fun ad ⟨i, o, hi, hn, hb, hlo, hhi⟩ => by
      obtain ⟨⟨v, hv⟩, _⟩ := hh.owns.cells i o hi hn (ad.off - o.o) (by omega)
      have := World.block_lt_of_cell? w' _ hv
      simpa [hb] using this
    refine ⟨he, Cells ρ', fun ad => D2 ad ∨ (w.heap.size ≤ ad.block ∧ ad.block < w'.heap.size), ⟨List.IsSuffix.trans (List.suffix_cons y rem) h1, fun ad h => ?_, ρ', rfl, fun ad h => ?_, hh.keepZ hkz' fun _ _ _ _ _ _ => ⟨rfl, rfl⟩, hcs.mono fun c v hc => hc.keepZ hkz', hl⟩, h3 ▸ hfr, fun ad h => ?_, fun ad h => h.imp id fun h => h.1, fun ad h => .inl (hD ad h)⟩
    · rcases h with h | h
      · exact Nat.lt_of_lt_of_le (hD2 ad h) hfr.size
      · exact h.2
    · rcases hc ad h with h' | h'
      · exact .inl (hD ad (h4 ad h'))
      · exact .inr ⟨h', hltc ad h⟩
    · rcases hc ad h with h' | h'
      · exact .inl (h3 ▸ h')
      · exact .inr h'

theorem Rel.purgesF : ∀ (l : List Nat) {ρ : Rho} {st : St}, Rel M Z w0 ρ st a w → Rel M Z w0 (rhoF l ρ) (purges l st) a w
  | [], ρ, st, h => by
    have : rhoF [] ρ = ρ := by funext j; simp [rhoF, ersd]
    rw [this]; exact h
  | i :: l, ρ, st, h => by
    have := Rel.purgesF l (h.purge i)
    have e : rhoF (i :: l) ρ = rhoF l (upd ρ i none) := by
      funext j
      by_cases hj : j = i
      · subst hj; simp [rhoF, ersd, upd]
      · simp [rhoF, ersd, upd, hj]
    rw [e]
    exact this
theorem rhoF_some {ids : List Nat} {j : Nat} {o : Own} (h : rhoF ids ρ j = some o) : j ∉ ids ∧ ρ j = some o := by
  obtain ⟨h1, h2⟩ := ersd_some h
  exact ⟨by simpa using h1, h2⟩
theorem rhoF_ne {ids : List Nat} {j : Nat} (h : j ∉ ids) : rhoF ids ρ j = ρ j := by simp [rhoF, ersd, h]

section
variable {f : FuncId} {cs : List C} {cv : List Value} {ys : List (List A)} {H : List (List A) → List (Nat × Blk)} {fz ids nw : List Nat}

/-- What the function value may write, and what it knows. -/
def hbR (ids nw fz : List Nat) (ρ : Rho) : Addr → Prop := Cells (rhoR ids (rhoF nw (rhoF fz ρ)))
def hbD (ids nw fz : List Nat) (ρ : Rho) (Z : Addr → Prop) (w : World) : Addr → Prop := fun ad => ad.block < w.heap.size ∧ ¬ Out (rhoF ids (rhoF nw (rhoF fz ρ))) Z ad

theorem hb_start (h : Rel M Z w0 ρ st a w) (hc : HbOk st cs (H ys) (H []) fz ids nw) (hcs : RepL (RepC ρ w Z) cs cv) : (hbY f cs ys H cv).J ys (hbR ids nw fz ρ) (hbD ids nw fz ρ Z w) w := by
  have h2 := Rel.purgesF nw (h.freeze fz)
  have hid : ∀ i ∈ ids, rhoF nw (rhoF fz ρ) i = ρ i := fun i hi => (rhoF_ne fun e => hc.free i e hi).trans (rhoF_ne (hc.frz i hi))
  have hsub : ∀ ad, Out (rhoF nw (rhoF fz ρ)) Z ad → Out ρ Z ad := fun ad h => out_ersd (out_ersd h)
  have hcs2 : RepL (RepC (rhoF nw (rhoF fz ρ)) w Z) cs cv := ⟨hcs.1, fun j c v hx hv => (hcs.2 j c v hx hv).keep (Keep.mono hsub) fun i hi => hid i (hc.caps c (List.mem_of_getElem? hx) i hi)⟩
  have hkz : Keep w w (Out (rhoR ids (rhoF nw (rhoF fz ρ))) (Out (rhoF ids (rhoF nw (rhoF fz ρ))) Z)) (Out (rhoR ids (rhoF nw (rhoF fz ρ))) fun ad => ad.block < w.heap.size ∧ ¬ hbD ids nw fz ρ Z w ad) := Keep.mono fun ad hh => by
    rcases hh with ⟨hl, hn⟩ | hh
    · exact .inl (Classical.not_not.1 fun hno => hn ⟨hl, hno⟩)
    · exact .inr hh
  refine ⟨List.suffix_refl _, fun ad hd => hd.1, _, rfl, fun ad ⟨i, o, hi, ho⟩ => ⟨own_lt h2 (rhoR_some hi).2 ho, ?_⟩, Heap.keepZ ⟨⟨fun j oj hj => h2.heap.owns.cells j oj (rhoR_some hj).2, fun j j' o1 o2 hj hj' => h2.heap.owns.apart j j' o1 o2 (rhoR_some hj).2 (rhoR_some hj').2, fun j oj hj => h2.heap.owns.lim j oj (rhoR_some hj).2⟩, fun i b hb => ?_⟩ hkz fun _ _ _ _ _ _ => ⟨rfl, rfl⟩,
    ⟨hcs2.1, fun j c v hx hv => RepC.keepZ hkz (repC_rhoR (hc.caps c (List.mem_of_getElem? hx)) (hcs2.2 j c v hx hv))⟩, fun i o hi => hc.here i (rhoR_some hi).1⟩
  · obtain ⟨e1, e2⟩ := rhoR_some hi
    exact h2.thawed (ok := (ids.contains ·)) e2 (by simpa using e1) ho
  · obtain ⟨e1, e2, e3⟩ := hc.old i b hb
    obtain ⟨oj, hoj, hr⟩ := h2.heap.rep i b e2
    exact ⟨oj, (rhoR_mem e1).trans hoj, repB_rhoR e3 hr⟩

theorem hb_end (h : Rel M Z w0 ρ st a w) (hc : HbOk st cs (H ys) (H []) fz ids nw) {dst : Option Nat} (hd : ∀ d, dst = some d → d < a.tmps.size) (hcs : RepL (RepC ρ w Z) cs cv) {w' : World} {R' D' : Addr → Prop} (hJ : (hbY f cs ys H cv).J [] R' D' w')
    (hfr : Fr (hbR ids nw fz ρ) w w') (hR' : ∀ ad, R' ad → hbR ids nw fz ρ ad ∨ w.heap.size ≤ ad.block) (hD' : ∀ ad, D' ad → hbD ids nw fz ρ Z w ad ∨ ¬ Out (rhoF fz ρ) Z ad ∨ w.heap.size ≤ ad.block) :
    ∃ ρ', Rel M Z w0 ρ' (st.backX dst ids nw fz cs (H [])) (a.put dst (.tuple #[])) w' := by
  have h2 := Rel.purgesF nw (h.freeze fz)
  generalize hρ : rhoF nw (rhoF fz ρ) = ρ2 at h2
  have hid : ∀ i ∈ ids, ρ2 i = ρ i := fun i hi => by rw [← hρ]; exact (rhoF_ne fun e => hc.free i e hi).trans (rhoF_ne (hc.frz i hi))
  have hnw : ∀ i ∈ nw, ρ2 i = none := fun i hi => by rw [← hρ]; simp [rhoF, ersd, hi]
  have hsub1 : ∀ ad, Out ρ2 Z ad → Out (rhoF fz ρ) Z ad := fun ad h => by rw [← hρ] at h; exact out_ersd h
  simp only [hbR, hbD, hρ] at hfr hR' hD'
  obtain ⟨_, hDlt, ρc, rfl, hcD, hheap, hcs', hlk⟩ := hJ
  have hcid : ∀ i o, ρc i = some o → i ∈ ids ∨ i ∈ nw := fun i o hi => by
    cases hb : lk i (H []) with
    | none => have := hlk i o hi; rw [hb] at this; cases this
    | some b => exact hc.new i b hb
  let ρ3 : Rho := fun i => if i ∈ ids ∨ i ∈ nw then ρc i else ρ2 i
  have e3c : ∀ i o, ρc i = some o → ρ3 i = some o := fun i o hi => by simp only [ρ3]; rw [if_pos (hcid i o hi)]; exact hi
  have e3n : ∀ i, i ∉ ids → i ∉ nw → ρ3 i = ρ2 i := fun i h1 h2 => by simp only [ρ3]; rw [if_neg (by simp [h1, h2])]
  have e3 : ∀ i o, ρ3 i = some o → ρc i = some o ∨ (i ∉ ids ∧ i ∉ nw ∧ ρ2 i = some o) := fun i o hi => by
    simp only [ρ3] at hi
    split at hi
    · exact .inl hi
    · rename_i hn; exact .inr ⟨fun h => hn (.inl h), fun h => hn (.inr h), hi⟩
  have hRown : ∀ ad, Cells (rhoR ids ρ2) ad → ∃ i o, i ∈ ids ∧ ρ2 i = some o ∧ o.has ad := fun ad ⟨i, o, hi, ho⟩ => ⟨i, o, (rhoR_some hi).1, (rhoR_some hi).2, ho⟩
  have hk : Keep w w' (Out ρ2 Z) (Out ρ3 Z) := fun ad u hn hu => by
    refine ⟨hfr.cell ad u (fun hr => ?_) hu, ?_⟩
    · obtain ⟨i, o, _, hi, ho⟩ := hRown ad hr; exact hn (.inr ⟨i, o, hi, ho⟩)
    rintro (hz | ⟨i, o, hi, ho⟩)
    · exact hn (.inl hz)
    · rcases e3 i o hi with hi | ⟨_, _, hi⟩
      · rcases hR' ad ⟨i, o, hi, ho⟩ with hr | hs
        · obtain ⟨j, oj, _, hj, hoj⟩ := hRown ad hr; exact hn (.inr ⟨j, oj, hj, hoj⟩)
        · have := World.block_lt_of_cell? w ad hu; omega
      · exact hn (.inr ⟨i, o, hi, ho⟩)
  have hcs2 : RepL (RepC ρ2 w Z) cs cv := ⟨hcs.1, fun j c v hx hv => (hcs.2 j c v hx hv).keep (Keep.mono fun ad h => out_ersd (hsub1 ad h)) fun i hi => hid i (hc.caps c (List.mem_of_getElem? hx) i hi)⟩
  have hturn : Turn ρ2 ρ3 w w' Z (keepG ids cs) := fun c v hr => by
    cases c with
    | d x => exact RepD.keep hk hr
    | nl => exact hr
    | bad => exact hr
    | sl i off n =>
      simp only [C.on, keepG]
      split
      · exact RepC.one hr
      · rename_i hi
        have hi : i ∉ ids := by simpa using hi
        exact RepC.keep hk (fun k hk' => by
          cases hk'
          obtain ⟨o, ho, _⟩ := hr
          exact e3n i hi fun hw => by rw [hnw i hw] at ho; cases ho) hr
    | ptr i off =>
      simp only [C.on, keepG]
      split
      · rename_i hi
        have hi : i ∈ ids := by simpa using hi
        split
        · rename_i hany
          rw [List.any_eq_true] at hany
          obtain ⟨e, he, hp⟩ := hany
          cases e with
          | ptr j off' =>
            have : j = i := by simpa using hp
            subst this
            obtain ⟨k, hk1, hk2⟩ := List.getElem_of_mem he
            have hkv : k < cv.length := by rw [← hcs.1]; exact hk1
            obtain ⟨o, ho, hn, hv⟩ := hcs2.2 k _ cv[k] (by rw [List.getElem?_eq_getElem hk1, hk2]) (List.getElem?_eq_getElem hkv)
            obtain ⟨o', ho', hn', hv'⟩ := hcs'.2 k _ cv[k] (by rw [List.getElem?_eq_getElem hk1, hk2]) (List.getElem?_eq_getElem hkv)
            obtain ⟨o2, ho2, hn2, hv2⟩ := hr
            obtain rfl : o2 = o := Option.some.inj (ho2.symm.trans ho)
            rw [hv] at hv'
            simp only [Value.pointer.injEq, Option.some.injEq, Own.at, Addr.mk.injEq] at hv'
            refine ⟨o', e3c _ _ ho', hn', ?_⟩
            rw [hv2]
            simp only [Own.at, Value.pointer.injEq, Option.some.injEq, Addr.mk.injEq, and_true]
            exact ⟨hv'.1, by omega⟩
          | _ => simp at hp
        · exact RepC.one hr
      · rename_i hi
        have hi : i ∉ ids := by simpa using hi
        exact RepC.keep hk (fun k hk' => by
          cases hk'
          obtain ⟨o, ho, _⟩ := hr
          exact e3n i hi fun hw => by rw [hnw i hw] at ho; cases ho) hr
  have same : ∀ i o, i ∉ ids → ρ2 i = some o → o.gone = false → ∀ j, j < o.room * o.sz → w'.cell? (o.at j) = w.cell? (o.at j) ∧ w'.frozen? (o.at j) = w.frozen? (o.at j) := fun i o hni hi hg j hj => by
    obtain ⟨⟨v, hv⟩, _⟩ := h2.heap.owns.cells i o hi hg j hj
    refine ⟨?_, hfr.frz _ (World.block_lt_of_cell? w _ hv)⟩
    rw [hv]
    refine hfr.cell _ v (fun hr => ?_) hv
    obtain ⟨i', o', hi', ho', hh⟩ := hRown _ hr
    exact h2.heap.owns.apart i i' o o' hi ho' (fun e => hni (e ▸ hi')) _ (Own.has_at hg hj) hh
  have hoff : ∀ ad, Out ρ3 Z ad → Out ρc (fun ad => ad.block < w'.heap.size ∧ ¬ D' ad) ad := fun ad ho => by
    rcases ho with hz | ⟨i, o, hi, ho⟩
    · have hlt : ad.block < w.heap.size := Nat.lt_of_lt_of_le (h.out ad hz) h.fr.size
      refine .inl ⟨Nat.lt_of_lt_of_le hlt hfr.size, fun hd => ?_⟩
      rcases hD' ad hd with h1 | h1 | h1
      · exact h1.2 (.inl hz)
      · exact h1 (.inl hz)
      · omega
    · rcases e3 i o hi with hi | ⟨hn1, hn2, hi⟩
      · exact .inr ⟨i, o, hi, ho⟩
      · have hlt := own_lt h2 hi ho
        refine .inl ⟨Nat.lt_of_lt_of_le hlt hfr.size, fun hd => ?_⟩
        rcases hD' ad hd with h1 | h1 | h1
        · exact h1.2 (.inr ⟨i, o, (rhoF_ne hn1).trans hi, ho⟩)
        · exact h1 (hsub1 ad (.inr ⟨i, o, hi, ho⟩))
        · omega
  have hcC : ∀ (c : C) (v : Value), RepC ρc w' (fun ad => ad.block < w'.heap.size ∧ ¬ D' ad) c v → RepC ρ3 w' Z c v := fun c v hr => by
    cases c with
    | d x => exact RepD.keep (Keep.mono hoff) hr
    | nl => exact hr
    | bad => exact hr
    | sl i off n => obtain ⟨o, ho, r⟩ := hr; exact ⟨o, e3c i o ho, r⟩
    | ptr i off => obtain ⟨o, ho, r⟩ := hr; exact ⟨o, e3c i o ho, r⟩
  have hrel : Rel M Z w0 ρ3 { (purges nw (st.freeze fz)).on (keepG ids cs) with h := H [] ++ rmAll (ids.contains ·) ((purges nw (st.freeze fz)).on (keepG ids cs)).h } a w' :=
    { fr := h.fr.into hfr fun ad hr => by
        obtain ⟨i, o, _, hi, ho⟩ := hRown ad hr
        exact h2.mine i o ad hi ho
      heap := ⟨⟨fun i o hi hg j hj => by
          rcases e3 i o hi with hi | ⟨hn1, hn2, hi⟩
          · exact hheap.owns.cells i o hi hg j hj
          · rw [(same i o hn1 hi hg j hj).1, (same i o hn1 hi hg j hj).2]; exact h2.heap.owns.cells i o hi hg j hj,
        fun i i' o o' hi hi' hne ad ho ho' => by
          have mixed : ∀ {i i' o o'}, ρc i = some o → i' ∉ ids → ρ2 i' = some o' → o.has ad → o'.has ad → False := fun {i i' o o'} hi hn hi' ho ho' => by
            rcases hR' ad ⟨i, o, hi, ho⟩ with hr | hs
            · obtain ⟨j, oj, hj, hj2, hoj⟩ := hRown ad hr
              exact h2.heap.owns.apart j i' oj o' hj2 hi' (fun e => hn (e ▸ hj)) ad hoj ho'
            · have := own_lt h2 hi' ho'; omega
          rcases e3 i o hi with hi | ⟨hn1, hn2, hi⟩ <;> rcases e3 i' o' hi' with hi' | ⟨hn1', hn2', hi'⟩
          · exact hheap.owns.apart i i' o o' hi hi' hne ad ho ho'
          · exact mixed hi hn1' hi' ho ho'
          · exact mixed hi' hn1 hi ho' ho
          · exact h2.heap.owns.apart i i' o o' hi hi' hne ad ho ho',
        fun i o hi => by
          rcases e3 i o hi with hi | ⟨hn1, hn2, hi⟩
          · exact hheap.owns.lim i o hi
          · exact h2.heap.owns.lim i o hi⟩, fun i b hb => by
        simp only at hb
        rw [lk_append] at hb
        cases hl : lk i (H []) with
        | some b2 =>
          rw [hl] at hb
          have hb : b2 = b := Option.some.inj hb
          subst hb
          obtain ⟨o, ho, hr⟩ := hheap.rep i _ hl
          refine ⟨o, e3c i o ho, ?_⟩
          cases b2 with
          | row sz cs app => obtain ⟨q1, q2, q3, q4, q5⟩ := hr; exact ⟨q1, q2, q3, q4, fun j x hx => by obtain ⟨v, hv, hd⟩ := q5 j x hx; exact ⟨v, hv, hd.keep (Keep.mono hoff)⟩⟩
          | box cs => obtain ⟨q1, q2, q3, q4⟩ := hr; exact ⟨q1, q2, q3, fun j x hx => by obtain ⟨v, hv, h1, hd⟩ := q4 j x hx; exact ⟨v, hv, h1, hcC _ _ hd⟩⟩
          | fbox f cs => obtain ⟨q1, q2, q3, v, hv, vs, hvs, hl, hd⟩ := hr; exact ⟨q1, q2, q3, v, hv, vs, hvs, hl, fun j x u hx hu => hcC _ _ (hd j x u hx hu)⟩
        | none =>
          rw [hl] at hb
          simp only [Option.none_or] at hb
          rw [lk_rmAll] at hb
          split at hb
          · cases hb
          · rename_i e
            have e : i ∉ ids := by simpa using e
            simp only [St.on] at hb
            rw [lk_map, Option.map_eq_some_iff] at hb
            obtain ⟨b0, hb0, rfl⟩ := hb
            obtain ⟨o, ho, hr⟩ := h2.heap.rep i b0 hb0
            have hn2 : i ∉ nw := fun hw => by rw [hnw i hw] at ho; cases ho
            exact ⟨o, (e3n i e hn2).trans ho, hr.turn hturn hk fun hg j hj => (same i o e ho hg j hj).1⟩⟩
      mine := fun i o ad hi ho => by
        rcases e3 i o hi with hi | ⟨hn1, hn2, hi⟩
        · rcases hR' ad ⟨i, o, hi, ho⟩ with hr | hs
          · obtain ⟨j, oj, _, hj2, hoj⟩ := hRown ad hr; exact h2.mine j oj ad hj2 hoj
          · exact .inr (Nat.le_trans h.fr.size hs)
        · exact h2.mine i o ad hi ho
      out := h.out
      mz := h.mz
      tmps := fun t v hv => by
        simp only [St.on] at hv
        rw [lk_map, Option.map_eq_some_iff] at hv
        obtain ⟨v0, hv0, rfl⟩ := hv
        exact (h2.tmps t v0 hv0).turn hturn
      defers := h.defers }
  exact ⟨ρ3, hrel.put (v := .tup []) hd ⟨[], rfl, rfl, fun j x v hx => by simp at hx⟩⟩
end

/-- Behind a call to which a row was given up. -/
theorem ca_end (h : Rel M Z w0 ρ st a w) {k d sz m : Nat} {cs' : List D} {w' : World} {ρ' : Rho} {v : Value} (hkn : (ρ k).isSome = true) (hd : d < a.tmps.size)
    (hfr : Fr (Cells (rhoR [k] ρ)) w w') (hheap : Heap ρ' w' (Out (rhoF [k] ρ) Z) [(k, .row sz cs' true)]) (hone : ∀ i o, ρ' i = some o → i = k) (hcells : ∀ ad, Cells ρ' ad → Cells (rhoR [k] ρ) ad ∨ w.heap.size ≤ ad.block)
    (hv : RepC ρ' w' (Out (rhoF [k] ρ) Z) (.sl k 0 m) v) : ∃ ρ'', Rel M Z w0 ρ'' (((st.drop k).new d (.row sz cs' true)).put (some d) (vC (.sl d 0 m))) (a.put (some d) v) w' := by
  obtain ⟨ok, hok⟩ := Option.isSome_iff_exists.1 hkn
  obtain ⟨o2, ho2, hv2⟩ := hv
  let ρ3 : Rho := fun i => if i = d then some o2 else if i = k then some { ok with gone := true } else ρ i
  have e3 : ∀ i o, ρ3 i = some o → (i = d ∧ o = o2) ∨ (i ≠ d ∧ i = k ∧ o = { ok with gone := true }) ∨ (i ≠ d ∧ i ≠ k ∧ ρ i = some o) := fun i o hi => by
    simp only [ρ3] at hi
    split at hi
    · exact .inl ⟨‹_›, (Option.some.inj hi).symm⟩
    · split at hi
      · exact .inr (.inl ⟨‹_›, ‹_›, (Option.some.inj hi).symm⟩)
      · exact .inr (.inr ⟨‹_›, ‹_›, hi⟩)
  have ngone : ∀ ad, ¬ Own.has { ok with gone := true } ad := fun ad hh => by cases hh.1
  have hRk : ∀ ad, Cells (rhoR [k] ρ) ad → ok.has ad := fun ad ⟨i, o, hi, ho⟩ => by
    obtain ⟨h1, h2⟩ := rhoR_some hi
    have : i = k := by simpa using h1
    subst this
    rw [hok] at h2; cases h2; exact ho
  have h2c : ∀ ad, o2.has ad → ok.has ad ∨ w.heap.size ≤ ad.block := fun ad ho => (hcells ad ⟨k, o2, ho2, ho⟩).imp (hRk ad) id
  have hk : Keep w w' (Out ρ Z) (Out ρ3 Z) := fun ad u hn hu => by
    refine ⟨hfr.cell ad u (fun hr => hn (.inr ⟨k, ok, hok, hRk ad hr⟩)) hu, ?_⟩
    rintro (hz | ⟨i, o, hi, ho⟩)
    · exact hn (.inl hz)
    · rcases e3 i o hi with ⟨_, rfl⟩ | ⟨_, _, rfl⟩ | ⟨_, _, hi⟩
      · rcases h2c ad ho with h1 | h1
        · exact hn (.inr ⟨k, ok, hok, h1⟩)
        · have := World.block_lt_of_cell? w ad hu; omega
      · exact ngone ad ho
      · exact hn (.inr ⟨i, o, hi, ho⟩)
  have hturn : Turn ρ ρ3 w w' Z (purgeG d) := fun c v hr => by
    have named : ∀ i, i ≠ d → ∀ o, ρ i = some o → ∃ o', ρ3 i = some o' ∧ o' = { o with gone := o'.gone } := fun i hi o ho => by
      by_cases e : i = k
      · subst e; rw [hok] at ho; cases ho; exact ⟨{ ok with gone := true }, by simp [ρ3, hi], rfl⟩
      · exact ⟨o, by simp [ρ3, hi, e, ho], rfl⟩
    cases c with
    | d x => exact RepD.keep hk hr
    | nl => exact hr
    | bad => exact hr
    | sl i off n =>
      simp only [C.on, purgeG]
      split
      · exact RepC.one hr
      · rename_i hi
        obtain ⟨o, ho, r⟩ := hr
        obtain ⟨o', ho', he⟩ := named i hi o ho
        rw [he] at ho'
        exact ⟨_, ho', r⟩
    | ptr i off =>
      simp only [C.on, purgeG]
      split
      · exact RepC.one hr
      · rename_i hi
        obtain ⟨o, ho, r⟩ := hr
        obtain ⟨o', ho', he⟩ := named i hi o ho
        rw [he] at ho'
        exact ⟨_, ho', r⟩
  have same : ∀ i o, i ≠ k → ρ i = some o → o.gone = false → ∀ j, j < o.room * o.sz → w'.cell? (o.at j) = w.cell? (o.at j) ∧ w'.frozen? (o.at j) = w.frozen? (o.at j) := fun i o hni hi hg j hj => by
    obtain ⟨⟨v, hv⟩, _⟩ := h.heap.owns.cells i o hi hg j hj
    refine ⟨?_, hfr.frz _ (World.block_lt_of_cell? w _ hv)⟩
    rw [hv]
    exact hfr.cell _ v (fun hr => h.heap.owns.apart i k o ok hi hok hni _ (Own.has_at hg hj) (hRk _ hr)) hv
  have hout : ∀ ad, Out ρ3 Z ad → Out ρ' (Out (rhoF [k] ρ) Z) ad := fun ad ho => by
    rcases ho with hz | ⟨i, o, hi, ho⟩
    · exact .inl (.inl hz)
    · rcases e3 i o hi with ⟨_, rfl⟩ | ⟨_, _, rfl⟩ | ⟨_, hne, hi⟩
      · exact .inr ⟨k, o, ho2, ho⟩
      · exact absurd ho (ngone ad)
      · exact .inl (.inr ⟨i, o, (rhoF_ne (by simpa using hne)).trans hi, ho⟩)
  obtain ⟨o2', ho2', q1, q2, q3, q4, q5⟩ := hheap.rep k (.row sz cs' true) (lk_cons_same _ _ _)
  obtain rfl : o2' = o2 := Option.some.inj (ho2'.symm.trans ho2)
  have hrel : Rel M Z w0 ρ3 ((st.drop k).new d (.row sz cs' true)) a w' :=
    { fr := h.fr.into hfr fun ad hr => h.mine k ok ad hok (hRk ad hr)
      heap := ⟨⟨fun i o hi hg j hj => by
          rcases e3 i o hi with ⟨_, rfl⟩ | ⟨_, _, rfl⟩ | ⟨_, hne, hi⟩
          · exact hheap.owns.cells k o ho2 hg j hj
          · cases hg
          · rw [(same i o hne hi hg j hj).1, (same i o hne hi hg j hj).2]; exact h.heap.owns.cells i o hi hg j hj,
        fun i i' o o' hi hi' hne ad ho ho' => by
          have mixed : ∀ {i' o'}, i' ≠ k → ρ i' = some o' → o2'.has ad → o'.has ad → False := fun {i' o'} hn hi' ho ho' => by
            rcases h2c ad ho with h1 | h1
            · exact h.heap.owns.apart k i' ok o' hok hi' (fun e => hn e.symm) ad h1 ho'
            · have := own_lt h hi' ho'; omega
          rcases e3 i o hi with ⟨h1, h2⟩ | ⟨_, _, h2⟩ | ⟨_, hn, hq⟩ <;> rcases e3 i' o' hi' with ⟨h1', h2'⟩ | ⟨_, _, h2'⟩ | ⟨_, hn', hq'⟩
          · exact hne (h1.trans h1'.symm)
          · exact ngone ad (h2' ▸ ho')
          · exact mixed hn' hq' (h2 ▸ ho) ho'
          · exact ngone ad (h2 ▸ ho)
          · exact ngone ad (h2 ▸ ho)
          · exact ngone ad (h2 ▸ ho)
          · exact mixed hn hq (h2' ▸ ho') ho
          · exact ngone ad (h2' ▸ ho')
          · exact h.heap.owns.apart i i' o o' hq hq' hne ad ho ho',
        fun i o hi => by
          rcases e3 i o hi with ⟨_, rfl⟩ | ⟨_, _, rfl⟩ | ⟨_, hne, hi⟩
          · exact hheap.owns.lim k o ho2
          · exact h.heap.owns.lim k ok hok
          · exact h.heap.owns.lim i o hi⟩, fun i b hb => by
        by_cases e : i = d
        · subst e
          simp only [St.new, St.blk] at hb
          rw [lk_cons_same] at hb
          cases hb
          refine ⟨o2', by simp [ρ3], q1, q2, q3, q4, fun j x hx => ?_⟩
          obtain ⟨u, hu, hdd⟩ := q5 j x hx
          exact ⟨u, hu, hdd.keep (Keep.mono hout)⟩
        · simp only [St.new, St.blk, St.purge] at hb
          rw [lk_cons_ne e, lk_rm_ne e, lk_rm_ne e] at hb
          simp only [St.on, St.drop] at hb
          rw [lk_map, Option.map_eq_some_iff] at hb
          obtain ⟨b0, hb0, rfl⟩ := hb
          obtain ⟨hne, hb0⟩ := lk_rm hb0
          obtain ⟨o, ho, hr⟩ := h.heap.rep i b0 hb0
          exact ⟨o, by simp [ρ3, e, hne, ho], hr.turn hturn hk fun hg j hj => (same i o hne ho hg j hj).1⟩⟩
      mine := fun i o ad hi ho => by
        rcases e3 i o hi with ⟨_, rfl⟩ | ⟨_, _, rfl⟩ | ⟨_, hne, hi⟩
        · rcases h2c ad ho with h1 | h1
          · exact h.mine k ok ad hok h1
          · exact .inr (Nat.le_trans h.fr.size h1)
        · exact absurd ho (ngone ad)
        · exact h.mine i o ad hi ho
      out := h.out
      mz := h.mz
      tmps := fun t v hv => by
        simp only [St.new, St.blk, St.purge, St.on, St.drop] at hv
        rw [lk_map, Option.map_eq_some_iff] at hv
        obtain ⟨v0, hv0, rfl⟩ := hv
        exact (h.tmps t v0 hv0).turn hturn
      defers := h.defers }
  exact ⟨ρ3, hrel.put (dst := some d) (v := vC (.sl d 0 m)) (fun q hq => by cases hq; exact hd) ⟨o2', by simp [ρ3], hv2⟩⟩

end
end Go.Va

/-
  Soundness: every operation; regions in the order of the text.
-/
namespace Go.Va
open Go.RowKit

section
variable {P : Program} {T : Tab} {X : Cx} {M Z : Addr → Prop} {w0 w : World} {ρ : Rho} {st : St} {a : Act}

theorem op_sound (hT : TabOk P T) (hY : ∀ Y, X.Y = some Y → YlOk P Y) (hL : Lk X M Z w0 st a) (h : Rel M Z w0 ρ st a w) (hn : a.tmps.size = X.n) {o : Oper} (hd : ∀ d, o.dst = some d → DstOk X d) {K : St → Prop} {Q : Exit → Act → World → Prop} (hw : wpOp P T o st K) : o.wp P a w (Goes X K) Q := by
  have hds : ∀ d, o.dst = some d → d < a.tmps.size := fun d h => by rw [hn]; exact (hd d h).1
  have hdy : ∀ d, o.dst = some d → d < YS := fun d h => (hd d h).2.1
  unfold wpOp at hw
  split at hw
  · rename_i f args ts ho
    obtain ⟨u, hu, hw⟩ := hw
    have enter : ∀ {g : FuncId} {vs : List Value}, FnOk P g → a.eval f = .func (.func g) #[] vs.toArray → (execOp a.eval o).run P w = .ok (.enter g (args.toList.map a.eval ++ vs).toArray) w := fun {g vs} hfn hef => by
      obtain ⟨fn, hfn, hbody, hname⟩ := hfn
      have e1 : args.map a.eval ++ vs.toArray = (args.toList.map a.eval ++ vs).toArray := by apply Array.ext'; simp
      have hb : ¬ fn.body = none := by cases hfb : fn.body <;> simp [hfb] at hbody ⊢
      have hname' : ¬ fn.name = "runtime.NumGoroutine" := by simpa using hname
      simp [execOp, ho, resolve, hef, Deferred.ofValue, invoke, callFunc, program, hfn, hname', hb, e1, Sem.run]
    have hZc : ∀ (ids : List Nat) ad, Out (rhoF ids ρ) Z ad → ad.block < w.heap.size := fun ids ad ho => out_lt h (out_ersd ho)
    -- the call, by a list of values
    have go : ∀ {g : FuncId} {caps : List D} {us : List U} {vs vals : List Value}, argK P o.dst st K g caps us → RepL (RepU ρ w Z) us vals → RepL (RepD w (Out ρ Z)) caps vs → (∀ {as : List A} {ids : List Nat}, us.mapM (U.toA ids st.h) = some as → RepL (A.rep w (Out (rhoF ids ρ) Z)) as vals) →
        (∀ g', g' = g → FnOk P g' → (execOp a.eval o).run P w = .ok (.enter g (vals ++ vs).toArray) w) → o.wp P a w (Goes X K) Q := by
      intro g caps us vs vals hw hvals hcaps hargs hrun
      have argsY : ∀ {as : List A}, st.argsW (st.reachU us) us caps = some as → RepL (A.rep w (Out (rhoF (st.reachU us) ρ) Z)) as (vals ++ vs) := fun {as} has => by
        simp only [St.argsW, Option.map_eq_some_iff] at has
        obtain ⟨as', has', rfl⟩ := has
        exact (hargs has').append ⟨by simpa using hcaps.1, fun j x v hx hv => by
          simp only [List.getElem?_map, Option.map_eq_some_iff] at hx
          obtain ⟨y, hy, rfl⟩ := hx
          exact (hcaps.2 j y v hy hv).keep (Keep.mono fun _ => out_ersd)⟩
      rcases hw with ⟨as, has, res, ⟨hfn, hcall⟩, hK⟩ | ⟨ids, r, h1, h2, ⟨hfn, hrows, hcall⟩, hin, hh1, hids, hK⟩ | hw
      · have hc := hcall w _ (vals ++ vs) (hZc _) (argsY has)
        unfold Oper.wp
        rw [hrun g rfl hfn]
        simp only [Oper.upon]
        refine hc.mono fun e w' hpost => ?_
        obtain ⟨v, rfl, hbel, hres⟩ := hpost
        obtain ⟨ρ', hrel⟩ := back_sound h hds hbel hres
        exact ⟨M, Z, w0, ρ', _, hL.put (TrLe.back hdy) hd, hrel, (size_put _ _ _).trans hn, hK⟩
      · have hheap : Heap (rhoR ids ρ) w (Out (rhoF ids ρ) Z) h1 := ⟨⟨fun j oj hj => h.heap.owns.cells j oj (rhoR_some hj).2, fun j j' o1 o2 hj hj' => h.heap.owns.apart j j' o1 o2 (rhoR_some hj).2 (rhoR_some hj').2, fun j oj hj => h.heap.owns.lim j oj (rhoR_some hj).2⟩, fun j b hb => by
          obtain ⟨e1, e2, e3⟩ := hh1 j b hb
          obtain ⟨oj, hoj, hr⟩ := h.heap.rep j b e2
          exact ⟨oj, (rhoR_mem e1).trans hoj, repB_rhoR e3 hr⟩⟩
        have hus : RepL (RepU (rhoR ids ρ) w (Out (rhoF ids ρ) Z)) (us ++ caps.map fun d => .c (.d d)) (vals ++ vs) := by
          refine RepL.append ⟨hvals.1, fun j x v hx hv => repU_rhoR (hin x (List.mem_of_getElem? hx)) (hvals.2 j x v hx hv)⟩ ⟨by simpa using hcaps.1, fun j x v hx hv => ?_⟩
          simp only [List.getElem?_map, Option.map_eq_some_iff] at hx
          obtain ⟨y, hy, rfl⟩ := hx
          exact repD_rhoR.2 (hcaps.2 j y v hy hv)
        have hc := hcall w _ _ (vals ++ vs) (hZc ids) hheap (fun ad ⟨j, oj, hj, hh⟩ => by
          obtain ⟨e1, e2⟩ := rhoR_some hj
          exact h.thawed (ok := (ids.contains ·)) e2 (by simpa using e1) hh) (fun j oj hj => hids j (rhoR_some hj).1) hus
        unfold Oper.wp
        rw [hrun g rfl hfn]
        simp only [Oper.upon]
        refine hc.mono fun e w' hpost => ?_
        obtain ⟨v, rfl, hfr, hh', hres⟩ := hpost
        exact ⟨M, Z, w0, ρ, _, hL.put (TrLe.backW hdy) hd, backW_sound h hds hrows hfr hh' hres, (size_put _ _ _).trans hn, hK⟩
      rcases hw with ⟨x, ys, rest, as, hlk, has, ⟨hfn, hcall⟩, hK⟩ | hw
      · obtain ⟨Y, R, D, hX, rfl, hJ, hRZ, hR0, hDM, hD0, hD00⟩ := hL.y _ _ hlk
        have hok := hY Y hX
        have hJw := hok.stable _ R D w0 w M hJ (fun ad hm hdd => hDM ad hdd hm) h.fr
        have hc := hcall Y rfl hok w _ (vals ++ vs) rest R D hJw (hZc _) (fun ad hr => .inl (hRZ ad hr)) (argsY has)
        unfold Oper.wp
        rw [hrun g rfl hfn]
        simp only [Oper.upon]
        refine hc.mono fun e w' hpost => ?_
        obtain ⟨rfl, R', D', hJ', hfr, hR', hD', hDD⟩ := hpost
        exact rest_sound h hL hd hn hX hok hJ hRZ hR0 hDM hD0 hD00 hJ' hfr hR' hD' hDD hK
      rcases hw with ⟨rfl, x, ys, rest, as, f', cl, zs, hlk, has, hg, hy, hK⟩ | hw
      · obtain ⟨Y, R, D, hX, rfl, hJ, hRZ, hR0, hDM, hD0, hD00⟩ := hL.y _ _ hlk
        have hok := hY Y hX
        have hJw := hok.stable _ R D w0 w M hJ (fun ad hm hdd => hDM ad hdd hm) h.fr
        have hvs : vs = [] := List.eq_nil_of_length_eq_zero hcaps.1.symm
        subst hvs
        have hav := hargs has
        obtain ⟨v1, v2, rfl, hv1, hv2⟩ : ∃ v1 v2, vals = v1 ++ [v2] ∧ RepL (A.rep w (Out (rhoF (st.reachU us) ρ) Z)) as v1 ∧ RepD w (Out (rhoF (st.reachU us) ρ) Z) (.fn f' cl) v2 := by
          have hl := hav.1
          simp only [List.length_append, List.length_cons, List.length_nil] at hl
          have hlt : as.length < vals.length := by omega
          refine ⟨vals.take as.length, vals[as.length], ?_, ⟨by simp; omega, fun j x v hx hv => hav.2 j x v ?_ ?_⟩, ?_⟩
          · rw [List.take_append_getElem hlt, List.take_of_length_le (by omega)]
          · have := (List.getElem?_eq_some_iff.1 hx).1
            rw [List.getElem?_append_left this]; exact hx
          · rw [List.getElem?_take] at hv; split at hv
            · exact hv
            · cases hv
          · exact hav.2 as.length (.c (.fn f' cl)) _ (by simp) (List.getElem?_eq_getElem hlt)
        cases hv2 with
        | fn _ _ clv hcl hclv =>
          have hokE := ebY_ok hok f' cl clv zs rest D
          obtain ⟨hfn, hcall⟩ := hg (.func (.func f') #[] clv.toArray)
          have hsub := hok.sub _ R D w hJw
          -- what it knows: all that is not the call's own
          have hJE : (ebY P Y f' cl clv zs rest D).J ys R (fun ad => D ad ∨ (ad.block < w.heap.size ∧ ¬ Out (rhoF (st.reachU us) ρ) Z ad)) w :=
            ⟨hy, fun ad h => h.elim (hsub.2 ad) fun h => h.1, ⟨D, fun ad h => h, fun ad h => .inl h, hJw⟩, ⟨hcl, fun j d v hx hv => (hclv j d v hx hv).keep fun ad u hno hu => ⟨hu, fun hh => by
              rcases hh with hr | hnd
              · exact hno (.inl (hRZ ad hr))
              · exact hnd (.inr ⟨World.block_lt_of_cell? w ad hu, hno⟩)⟩⟩⟩
          have hc := hcall (ebY P Y f' cl clv zs rest D) rfl hokE w _ (v1 ++ [.func (.func f') #[] clv.toArray]) [] R _ (by simpa using hJE) (hZc _) (fun ad hr => .inl (hRZ ad hr)) (hv1.append ⟨rfl, fun j x v hx hv => by
              cases j with
              | zero => simp at hx hv; subst hx; subst hv; exact .lit _ rfl
              | succ j => simp at hx⟩)
          unfold Oper.wp
          rw [hrun g rfl hfn]
          simp only [Oper.upon, List.append_nil]
          refine hc.mono fun e w' hpost => ?_
          obtain ⟨rfl, R', D', ⟨_, _, ⟨D0, hb, hD0', hJ'⟩, _⟩, hfr, hR', hD', hDD⟩ := hpost
          refine rest_sound h hL hd hn hX hok hJ hRZ hR0 hDM hD0 hD00 (by simpa using hJ') hfr hR' (fun ad hdd => ?_) hb hK
          rcases hD' ad (hD0' ad hdd) with (h1 | h1) | h1 | h1
          · exact .inl h1
          · exact .inr (.inl h1.2)
          · exact .inr (.inl h1)
          · exact .inr (.inr h1)
      have hvs : vs = [] := by
        rcases hw with (⟨rfl, _⟩ | ⟨rfl, _⟩) | ⟨rfl, _⟩ <;> exact List.eq_nil_of_length_eq_zero hcaps.1.symm
      subst hvs
      rcases hw with hw | ⟨rfl, k, n, sz, m, d, cs, cs', us', as, rfl, hlk, has, hdd, ⟨hfn, hcall⟩, hK⟩
      rotate_left
      · obtain ⟨v0, v1, rfl⟩ : ∃ v0 v1, vals = v0 :: v1 := by
          have hl := hvals.1
          cases vals with
          | nil => simp at hl
          | cons v0 v1 => exact ⟨v0, v1, rfl⟩
        obtain ⟨ok, hok, hb⟩ := h.heap.rep k _ hlk
        have hnone : rhoF [] ρ = ρ := by funext j; simp [rhoF, ersd]
        have hv1 : RepL (RepU ρ w Z) us' v1 := ⟨by simpa using hvals.1, fun j x v hx hv => hvals.2 (j + 1) x v (by simpa using hx) (by simpa using hv)⟩
        have hav := toA_rep h [] hv1 has
        rw [hnone] at hav
        have hheap : Heap (rhoR [k] ρ) w (Out (rhoF [k] ρ) Z) [(k, .row sz cs true)] := ⟨⟨fun j oj hj => h.heap.owns.cells j oj (rhoR_some hj).2, fun j j' o1 o2 hj hj' => h.heap.owns.apart j j' o1 o2 (rhoR_some hj).2 (rhoR_some hj').2, fun j oj hj => h.heap.owns.lim j oj (rhoR_some hj).2⟩, fun j b hjb => by
          by_cases e : j = k
          · subst e; rw [lk_cons_same] at hjb; cases hjb; exact ⟨ok, (rhoR_mem (by simp)).trans hok, repB_rhoR (b := .row sz cs true) trivial hb⟩
          · rw [lk_cons_ne e] at hjb; cases hjb⟩
        have hc := hcall w (Out (rhoF [k] ρ) Z) (rhoR [k] ρ) k v0 v1 (hZc _) hheap (fun ad ⟨j, oj, hj, hh⟩ => by
          obtain ⟨e1, e2⟩ := rhoR_some hj
          exact h.thawed (ok := ([k].contains ·)) e2 (by simpa using e1) hh) (fun i o hi => by simpa using (rhoR_some hi).1)
          (repC_rhoR (ids := [k]) (c := .sl k 0 n) (fun i hi => by cases hi; simp) (hvals.2 0 _ v0 rfl rfl)) (hav.mono fun x v hx => hx.keep (Keep.mono fun ad => (out_rhoR [k] ad).1))
        unfold Oper.wp
        rw [hrun g rfl hfn]
        simp only [Oper.upon, List.append_nil]
        refine hc.mono fun e w' hpost => ?_
        obtain ⟨v, rfl, ρ', hfr, hh', hone, hcells, hv⟩ := hpost
        obtain ⟨ρ'', hrel⟩ := ca_end h (by rw [hok]; rfl) (hds d hdd) hfr hh' hone hcells hv
        rw [hdd]
        exact ⟨M, Z, w0, ρ'', _, hL.put ((TrLe.put fun q hq => by cases hq; exact hdy d hdd).trans ((TrLe.new _ _).trans (TrLe.drop _))) (fun q hq => by cases hq; exact hd d hdd), hrel, (size_put _ _ _).trans hn, hK⟩
      -- the last argument
      have last : ∀ {us0 : List U} {u : U}, us = us0 ++ [u] → ∃ v1 v2, vals = v1 ++ [v2] ∧ RepL (RepU ρ w Z) us0 v1 ∧ RepU ρ w Z u v2 := fun {us0 u} he => by
        subst he
        have hl := hvals.1
        simp only [List.length_append, List.length_cons, List.length_nil] at hl
        have hlt : us0.length < vals.length := by omega
        refine ⟨vals.take us0.length, vals[us0.length], ?_, ⟨by simp; omega, fun j x v hx hv => hvals.2 j x v ?_ ?_⟩, ?_⟩
        · rw [List.take_append_getElem hlt, List.take_of_length_le (by omega)]
        · have := (List.getElem?_eq_some_iff.1 hx).1
          rw [List.getElem?_append_left this]; exact hx
        · rw [List.getElem?_take] at hv; split at hv
          · exact hv
          · cases hv
        · exact hvals.2 us0.length u _ (by simp) (List.getElem?_eq_getElem hlt)
      rcases hw with ⟨rfl, us0, f', cs, as, ys, H, fz, ids, nw, hue, has, hg, hx, hc, hK⟩ | ⟨rfl, us0, f0, k, f', cs, as, ys, zs, H, fz, ids, nw, hue, hlk, hk, has, hg, hem, hx, hc, hK⟩
      · obtain ⟨v1, v2, rfl, hv1, cv, rfl, hcs⟩ := last hue
        have hst := hb_start (f := f') (cv := cv) h hc hcs
        obtain ⟨hfn, hcall⟩ := hg (.func (.func f') #[] cv.toArray)
        have hav := toA_rep h fz hv1 has
        have hcc := hcall (hbY f' cs ys H cv) rfl (hbY_ok cv hx) w (Out (rhoF fz ρ) Z) (v1 ++ [.func (.func f') #[] cv.toArray]) [] (hbR ids nw fz ρ) (hbD ids nw fz ρ Z w) (by simpa using hst) (hZc _) (fun ad ⟨i, o, hi, ho⟩ => .inr ⟨i, o, (rhoF_some (rhoR_some hi).2).2, ho⟩) (hav.append ⟨rfl, fun j x v hx hv => by
          cases j with
          | zero => simp at hx hv; subst hx; subst hv; exact .lit _ rfl
          | succ j => simp at hx⟩)
        unfold Oper.wp
        rw [hrun g rfl hfn]
        simp only [Oper.upon, List.append_nil]
        refine hcc.mono fun e w' hpost => ?_
        obtain ⟨rfl, R', D', hJ', hfr, hR', hD', hDD⟩ := hpost
        obtain ⟨ρ', hrel⟩ := hb_end h hc hds hcs hJ' hfr hR' hD'
        exact ⟨M, Z, w0, ρ', _, hL.put (TrLe.backX hdy) hd, hrel, (size_put _ _ _).trans hn, hK⟩
      · obtain ⟨v1, v2, rfl, hv1, cv0, rfl, hcs0⟩ := last hue
        obtain ⟨ok, hok, hbk⟩ := h.heap.rep k _ hlk
        obtain ⟨q1, q2, q3, cvv, hcell, cv, rfl, hcs⟩ := hbk
        have hst := hb_start (f := f') (cv := cv) h hc hcs
        have hokB : YlOk P (hbY f' cs (ys.flatMap zs) H cv) := hbY_ok cv hx
        have hokE := ebY_ok hokB f0 [.ref [.lit (.func (.func f') #[] cv.toArray)]] cv0 zs [] (hbD ids nw fz ρ Z w)
        obtain ⟨hfn, hcall⟩ := hg (.func (.func f0) #[] cv0.toArray)
        have hav := toA_rep h fz hv1 has
        have hkf : k ∈ fz := hk
        have hthaw : ∀ ad, ok.has ad → ¬ Out (rhoF fz ρ) Z ad := fun ad ho => h.thawed (ok := (fz.contains ·)) hok (by simpa using hkf) ho
        have hat : ok.has (ok.at 0) := Own.has_at q3.2 (by rw [q1, q2]; omega)
        obtain ⟨p0, rfl, hp0⟩ : ∃ p0, cv0 = [p0] ∧ p0 = .pointer (some (ok.at 0)) := by
          have hl : cv0.length = 1 := hcs0.1.symm
          obtain ⟨p0, rfl⟩ := List.length_eq_one_iff.1 hl
          obtain ⟨o2, ho2, hn2, hv2⟩ := hcs0.2 0 _ p0 rfl rfl
          obtain rfl : o2 = ok := Option.some.inj (ho2.symm.trans hok)
          exact ⟨p0, rfl, hv2⟩
        have hJE : (ebY P (hbY f' cs (ys.flatMap zs) H cv) f0 [.ref [.lit (.func (.func f') #[] cv.toArray)]] [p0] zs [] (hbD ids nw fz ρ Z w)).J ys (hbR ids nw fz ρ) (hbD ids nw fz ρ Z w) w := by
          refine ⟨fun y hy => hem _ y hy, fun ad h => h.1, ⟨_, fun ad h => h, fun ad h => h, by simpa using hst⟩, ⟨rfl, fun j d v hx hv => ?_⟩⟩
          cases j with
          | succ j => simp at hx
          | zero =>
            simp at hx hv
            subst hx; subst hv
            rw [hp0]
            refine .ref _ _ (fun _ => .func (.func f') #[] cv.toArray) (fun _ => rfl) (fun j x hx => ?_) (fun j x hx => ?_) (fun j x hx => ?_)
            all_goals
              obtain rfl : j = 0 := by
                have := (List.getElem?_eq_some_iff.1 hx).1
                simpa using this
            · simpa [Own.at] using hcell
            · rintro (⟨i, o, hi, ho⟩ | hnd)
              · exact hthaw _ hat (.inr ⟨i, o, (rhoF_some (rhoR_some hi).2).2, ho⟩)
              · exact hnd ⟨own_lt h hok hat, fun ho => hthaw _ hat (out_ersd (out_ersd ho))⟩
            · simp at hx; subst hx; exact .lit _ rfl
        have hcc := hcall _ rfl hokE w (Out (rhoF fz ρ) Z) (v1 ++ [.func (.func f0) #[] [p0].toArray]) [] (hbR ids nw fz ρ) (hbD ids nw fz ρ Z w) (by simpa using hJE) (hZc _) (fun ad ⟨i, o, hi, ho⟩ => .inr ⟨i, o, (rhoF_some (rhoR_some hi).2).2, ho⟩) (hav.append ⟨rfl, fun j x v hx hv => by
          cases j with
          | zero => simp at hx hv; subst hx; subst hv; exact .lit _ rfl
          | succ j => simp at hx⟩)
        unfold Oper.wp
        rw [hrun g rfl hfn]
        simp only [Oper.upon, List.append_nil]
        refine hcc.mono fun e w' hpost => ?_
        obtain ⟨rfl, R', D', ⟨_, _, ⟨D0, hb, hD0', hJ'⟩, _⟩, hfr, hR', hD', hDD⟩ := hpost
        obtain ⟨ρ', hrel⟩ := hb_end h hc hds hcs (by simpa using hJ') hfr hR' fun ad hdd => hD' ad (hD0' ad hdd)
        exact ⟨M, Z, w0, ρ', _, hL.put (TrLe.backX hdy) hd, hrel, (size_put _ _ _).trans hn, hK⟩
    have hfr := h.evU hu
    unfold callK at hw
    split at hw
    case h_4 => exact hw.elim
    case h_1 g caps =>
      obtain ⟨us, hus, hw⟩ := hw
      generalize hef : a.eval f = vf at hfr
      cases hfr with
      | fn _ _ vs hl h3 =>
        exact go hw (evUL_rep h hus) ⟨hl, h3⟩ (fun has => args_rep h _ hus has) fun g' e hfn => enter (e ▸ hfn) hef
    case h_2 g cs =>
      obtain ⟨us, hus, hw⟩ := hw
      obtain ⟨vs, hef, hvs⟩ := hfr
      have hcs : RepL (RepU ρ w Z) (cs.map U.c) vs := hvs.imp U.c fun x v _ hx => hx
      refine go (vs := []) (vals := args.toList.map a.eval ++ vs) hw ((evUL_rep h hus).append hcs) ⟨rfl, fun j x v hx => by simp at hx⟩ (fun {as ids} has => ?_) fun g' e hfn => by rw [List.append_nil]; exact enter (e ▸ hfn) hef
      obtain ⟨as1, as2, rfl, ha1, ha2⟩ := mapM_append_some has
      exact (args_rep h _ hus ha1).append (toA_rep h ids hcs ha2)
    case h_3 x =>
      obtain ⟨us, hus, as, rest, hlk, has, hK⟩ := hw
      obtain ⟨Y, R, D, hX, rfl, hJ, hRZ, hR0, hDM, hD0, hD00⟩ := hL.y _ _ hlk
      have hok := hY Y hX
      have hJw := hok.stable _ R D w0 w M hJ (fun ad hm hdd => hDM ad hdd hm) h.fr
      have hef : a.eval f = Y.x := by
        generalize a.eval f = vf at hfr
        cases hfr; rfl
      simp only [St.argsW, Option.map_eq_some_iff] at has
      obtain ⟨as', has', he⟩ := has
      obtain rfl : as' = as := by simpa using he
      have hsub := hok.sub _ R D w hJw
      obtain ⟨hfn, hc⟩ := hok.step as' rest R D (fun ad => D ad ∨ (ad.block < w.heap.size ∧ ¬ Out (rhoF (st.reachU us) ρ) Z ad)) w (args.toList.map a.eval) hJw (fun ad hdd => .inl hdd) (fun ad hdd => hdd.elim (hsub.2 ad) fun hh => hh.1)
        (RepL.mono (args_rep h _ hus has') fun x v hx => hx.keep fun ad u hno hu => ⟨hu, fun hh => by
          rcases hh with hr | hnd
          · exact hno (.inl (hRZ ad hr))
          · exact hnd (.inr ⟨World.block_lt_of_cell? w ad hu, hno⟩)⟩)
      unfold Oper.wp
      rw [enter hfn hef]
      simp only [Oper.upon]
      refine hc.mono fun e w' hpost => ?_
      obtain ⟨rfl, R', D', hJ', hfr, hR', hD', hDD⟩ := hpost
      refine rest_sound h hL hd hn hX hok hJ hRZ hR0 hDM hD0 hD00 hJ' hfr hR' (fun ad hdd => ?_) hDD hK
      rcases hD' ad hdd with (h1 | h1) | h1
      · exact .inl h1
      · exact .inr (.inl h1.2)
      · exact .inr (.inr h1)
  · obtain ⟨s, hs, hK⟩ := hw
    obtain ⟨nx, v, w', ρ', hrun, hnx, hrel⟩ := step_sound h hT hds hs
    unfold Oper.wp
    rw [hrun]
    rcases hnx with rfl | ⟨rfl, rfl⟩
    · exact ⟨M, Z, w0, ρ', s, hL.put (TrLe.step hdy hs) hd, hrel, (size_put _ _ _).trans hn, hK⟩
    · exact ⟨M, Z, w0, ρ', s, hL.put (TrLe.step hdy hs) hd, hrel, (size_put _ _ _).trans hn, hK⟩

/-! ### regions in the order of the text -/

/-- Each operation of a region writes a place of the frame. -/
def dstsOk (n : Nat) (pin : List Nat) (ops : List Oper) : Bool := ops.all fun o => match o.dst with | some d => decide (d < n) && (decide (d < YS) && !pin.contains d) | none => true

theorem dsts_at {ops : List Oper} (h : dstsOk X.n X.pin ops = true) {o : Oper} (ho : o ∈ ops) {d : Nat} (hd : o.dst = some d) : DstOk X d := by
  unfold dstsOk at h
  rw [List.all_eq_true] at h
  have := h o ho
  rw [hd] at this
  simpa [DstOk] using this

theorem yielded_eq (ops : List Oper) (tmps : Array Value) (j d : Nat) (hd : (ops[j]?).bind (·.dst) = some d) : yielded ops.toArray tmps j = match tmps[d]? with | some (.bool b) => some b | _ => none := by
  unfold yielded
  simp only [List.getElem?_toArray, hd, Option.bind_some]
  rfl

theorem bool_ne : ∀ {b c : Bool}, ¬ b = c → b = !c
  | true, true, h => absurd rfl h
  | true, false, _ => rfl
  | false, true, _ => rfl
  | false, false, h => absurd rfl h

/-- A guarded operation. -/
theorem g_sound (hT : TabOk P T) (hY : ∀ Y, X.Y = some Y → YlOk P Y) (hL : Lk X M Z w0 st a) (h : Rel M Z w0 ρ st a w) (hn : a.tmps.size = X.n) {ops : List Oper} (hok : dstsOk X.n X.pin ops = true) {o : Oper} (ho : o ∈ ops) {K : St → Prop} {Q : Exit → Act → World → Prop} (hw : wpG P T ops o st K) :
    if Region.wanted o (yielded ops.toArray a.tmps) then o.wp P a w (Goes X K) Q else Goes X K (a.put o.dst undef) w := by
  have hd' : ∀ d, o.dst = some d → DstOk X d := fun d hd => dsts_at hok ho hd
  have hd : ∀ d, o.dst = some d → d < a.tmps.size := fun d hd => by rw [hn]; exact (hd' d hd).1
  have hdy : ∀ d, o.dst = some d → d < YS := fun d hd => (hd' d hd).2.1
  have undefV : ∀ ρ, RepV ρ w Z (.tup []) undef := fun ρ => ⟨[], rfl, rfl, fun j x v hx => by simp at hx⟩
  unfold wpG at hw
  split at hw
  · rename_i hg
    rw [if_pos (by simp [Region.wanted, hg])]
    exact op_sound hT hY hL h hn hd' hw
  · rename_i j want hg
    split at hw
    case h_2 => exact hw.elim
    case h_1 dj hdj =>
      have hy := yielded_eq ops a.tmps j dj hdj
      obtain ⟨oj, hoj, hdo⟩ : ∃ oj, ops[j]? = some oj ∧ oj.dst = some dj := by
        simpa [Option.bind_eq_some_iff] using hdj
      have hdj' : DstOk X dj := dsts_at hok (List.mem_of_getElem? hoj) hdo
      have hjlt : dj < a.tmps.size := by rw [hn]; exact hdj'.1
      have hLp : ∀ v, Lk X M Z w0 (st.put (some dj) v) a := fun v => hL.of (TrLe.put fun k hk => by cases hk; exact hdj'.2.1)
      unfold gateV at hw
      split at hw
      · rename_i b hlk
        have hv := h.tmps dj _ hlk
        have hb : a.tmps[dj]? = some (.bool b) := by
          simp [Array.getD, hjlt] at hv
          rw [Array.getElem?_eq_getElem hjlt]
          generalize a.tmps[dj] = x at hv
          cases hv
          rfl
        have hy' : yielded ops.toArray a.tmps j = some b := by rw [hy, hb]
        have hput : ∀ b', b = b' → Rel M Z w0 ρ (st.put (some dj) (vB b')) a w := fun b' hbb => by
          subst hbb
          have := h.put (dst := some dj) (v := vB b) (x := .bool b) (fun d hd => by cases hd; exact hjlt) (RepD.bool b)
          have ea : a.put (some dj) (.bool b) = a := by
            simp only [Act.put]
            have : a.tmps.setIfInBounds dj (.bool b) = a.tmps := by
              apply Array.ext
              · simp
              · intro q h1 h2
                by_cases e : q = dj
                · subst e
                  simp only [Array.getElem_setIfInBounds_self]
                  rw [Array.getElem?_eq_getElem hjlt] at hb
                  exact (Option.some.inj hb).symm
                · rw [Array.getElem_setIfInBounds_ne _ (fun h => e h.symm)]
            rw [this]
          rwa [ea] at this
        by_cases hbw : b = want
        · rw [if_pos (by simp [Region.wanted, hg, hy', hbw])]
          exact op_sound hT hY (hLp _) (hput want hbw) hn hd' (hw.1 hbw)
        · have hbn : b = !want := bool_ne hbw
          have hnw : ¬ Region.wanted o (yielded ops.toArray a.tmps) = true := by
            unfold Region.wanted
            rw [hg]
            intro hh
            simp only [hy'] at hh
            exact hbw (by simpa using hh)
          rw [if_neg hnw]
          exact ⟨M, Z, w0, ρ, _, (hLp _).put (TrLe.put hdy) hd', (hput (!want) hbn).put hd (undefV ρ), (size_put _ _ _).trans hn, hw.2 hbn⟩
      · rename_i hlk
        have hv := h.tmps dj _ hlk
        have hb : a.tmps[dj]? = some undef := by
          simp [Array.getD, hjlt] at hv
          rw [Array.getElem?_eq_getElem hjlt]
          obtain ⟨vs, h1, h2, _⟩ := hv
          have : vs = [] := List.eq_nil_of_length_eq_zero (by simpa using h2.symm)
          subst this
          rw [h1]
          rfl
        have hy' : yielded ops.toArray a.tmps j = none := by rw [hy, hb]; rfl
        rw [if_neg (by simp [Region.wanted, hg, hy'])]
        exact ⟨M, Z, w0, ρ, _, hL.put (TrLe.put hdy) hd', h.put hd (undefV ρ), (size_put _ _ _).trans hn, hw⟩
      · exact hw.elim

theorem ops_sound (hT : TabOk P T) (hY : ∀ Y, X.Y = some Y → YlOk P Y) {ops : List Oper} {K : St → Prop} {Q : Exit → Act → World → Prop} (hok : dstsOk X.n X.pin ops = true) (hQ : ∀ a w, Goes X K a w → Q .normal a w) :
    ∀ (l : List Oper) (a : Act) (w : World), (∀ o ∈ l, o ∈ ops) → Goes X (fun st => wpOps P T ops l st K) a w → wpList P ops.toArray Q l a w
  | [], a, w, _, h => hQ a w h
  | o :: r, a, w, hm, ⟨M, Z, w0, ρ, st, hL, hrel, hn, hw⟩ => by
    have hg := g_sound (Q := Q) hT hY hL hrel hn hok (hm o (by simp)) hw
    have next : ∀ a' w', Goes X (flipK (wpOps P T ops r) K) a' w' → wpList P ops.toArray Q r a' w' := fun a' w' hgo =>
      ops_sound hT hY hok hQ r a' w' (fun o' ho' => hm o' (by simp [ho'])) hgo
    unfold wpList
    split
    · rw [if_pos ‹_›] at hg
      exact .inl (Oper.wp_mono next hg)
    · rw [if_neg ‹_›] at hg
      exact next _ _ hg

/-! ### code -/

def NoDraw : Code → Bool
  | .region _ _ draw => !draw
  | .seq x y => NoDraw x && NoDraw y
  | .cond _ x y => NoDraw x && NoDraw y
  | .block _ c => NoDraw c
  | .loop c => NoDraw c
  | _ => true

theorem Rel.weaken (h : Rel M Z w0 ρ st a w) {s0 : St} (hle : s0.le st) : Rel M Z w0 ρ s0 a w where
  fr := h.fr
  heap := ⟨h.heap.owns, fun i b hb => h.heap.rep i b (leL_lk hle.2 i b hb)⟩
  mine := h.mine
  out := h.out
  mz := h.mz
  tmps := fun t v hv => h.tmps t v (leL_lk hle.1 t v hv)
  defers := h.defers

end
end Go.Va

/-
  Regions that draw their order. First: what an operation does, as an effect; more knowledge changes nothing.
-/
namespace Go.Va
open Go.RowKit

/-- What an operation does: it makes a value; or a block of its own, and what names it; or it writes a block; or it takes a row on under a new number. -/
inductive Eff where
  | val (v : V)
  | new (b : Blk) (v : V)
  | put (i : Nat) (b : Blk)
  | app (k : Nat) (b : Blk) (v : V)
  | dat (x : D)
  deriving Inhabited

def St.eff (d : Option Nat) (e : Eff) (s : St) : St :=
  match e with
  | .val v => s.put d v
  | .new b v => (s.new (d.getD 0) b).put d v
  | .put i b => (s.blk i b).put d (.tup [])
  | .app k b v => ((s.drop k).new (d.getD 0) b).put d v
  | .dat x => s.put d (vC (.d x))

def noIdsC (cs : List C) : Bool := cs.all fun c => c.id?.isNone
def effBsl (d : Nat) (j : TI) (len : Nat) (h : List (Nat × Blk)) (l : List (Nat × List C)) : Option Eff :=
  if len * j.size ≤ 10000 ∧ len ≤ 10000 then (fillCs (arrPlace j.size) (rep len j.zero) l).bind fun cs =>
    if j.size = 1 ∧ cs.any isPtr = true then some (.new (.box cs) (vC (.sl d 0 len))) else
    if noIdsC cs then (cs.mapM (toD (fun _ => false) h 4)).map fun ds => .new (.row j.size ds true) (vC (.sl d 0 len)) else none
  else none

/-- A slice literal, taken as data at once. -/
def effDat (T : Tab) (o : Oper) (E : St) : Option Eff :=
  match o.op with
  | .buildSlice t len parts => o.dst.bind fun _ => (T t).bind fun i => i.sl.bind fun e => (T e).bind fun j => (E.evUs parts.toList).bind fun l =>
    if len * j.size ≤ 10000 ∧ len ≤ 10000 then (fillCs (arrPlace j.size) (rep len j.zero) l).bind fun cs =>
      if j.size = 1 ∧ cs.any isPtr = true then none else
      if noIdsC cs then (cs.mapM (toD (fun _ => false) E.h 4)).bind fun ds => if ds.length = len * j.size then some (.dat (.slice len ds)) else none else none
    else none
  | _ => none

@[simp] def U.isClo : U → Bool
  | .clo _ _ => true
  | _ => false
def effStore (i : TI) (c : C) (v : U) (st : St) : Option Eff :=
  if v.cells.length = i.size ∧ v.isClo = false then
    match c with
    | .ptr b off => (lk b st.h).bind fun k => match k with
      | .box cs => if off + v.cells.length ≤ cs.length then some (.put b (.box (splice off v.cells cs))) else none
      | .row sz cs app => if noIdsC v.cells then (v.cells.mapM (toD (fun _ => false) st.h 4)).bind fun ds => if off + ds.length ≤ cs.length then some (.put b (.row sz (splice off ds cs) app)) else none else none
      | .fbox _ _ => none
    | _ => none
  else none

def effAppGo (e : TI) (d : Nat) (cs : List D) (n : Nat) (news : List D) (m : Nat) (f : Blk → V → Eff) : Option Eff :=
  if (n + m) * e.bytes ≤ big ∧ n + m ≤ big then some (f (.row e.size (cs ++ news) true) (vC (.sl d 0 (n + m)))) else none
def effApp (e : TI) (d : Nat) (x : C) (news : List D) (m : Nat) (h : List (Nat × Blk)) : Option Eff :=
  match x with
  | .nl => effAppGo e d [] 0 news m .new
  | .sl i off n => (lk i h).bind fun b => match b with
    | .row sz cs app => if app = true ∧ off = 0 ∧ sz = e.size ∧ cs.length = n * sz then effAppGo e d cs n news m (.app i) else none
    | _ => none
  | _ => none

def effBuiltin (T : Tab) (b : Builtin) (ts : List TypeId) (args : List Operand) (d : Option Nat) (st : St) : Option Eff :=
  match b, ts, args with
  | .len, [t], [x] => (T t).bind fun i => match i.arr with
    | some (n, _) => some (.val (vI .i64 n))
    | none => (st.evC x).bind fun c => (if i.sl.isSome then lenC c else if isStr i then lenS c else none).map fun (n : Nat) => .val (vI .i64 (n : Int))
  | .append, [t, t'], [x, y] =>
    d.bind fun d => (T t).bind fun i => i.sl.bind fun e => (T e).bind fun j => (st.evC x).bind fun c => (st.evC y).bind fun s =>
      if t' = t then (st.src j s).bind fun p => effApp j d c p.2 p.1 st.h else none
  | .min, _, x :: r => (st.evI x).bind fun p => (r.mapM st.evI).bind fun l => (minmax false p.1 p.2 l).map .val
  | .max, _, x :: r => (st.evI x).bind fun p => (r.mapM st.evI).bind fun l => (minmax true p.1 p.2 l).map .val
  | _, _, _ => none

def effMksl (d : Nat) (j : TI) (l c : Int) : Option Eff :=
  if 0 ≤ l ∧ l ≤ c ∧ c * j.bytes ≤ big ∧ c ≤ big then (j.zero.mapM (toD (fun _ => false) [] 4)).map fun z => .new (.row j.size (rep l.toNat z) true) (vC (.sl d 0 l.toNat)) else none

/-- The effect of an operation. -/
def effOp (T : Tab) (o : Oper) (st : St) : Option Eff :=
  match o.op with
  | .assign (.const (.slice none 0 0)) => o.dst.bind fun d => (T o.type).bind fun i => i.sl.bind fun e => (T e).map fun j => .new (.row j.size [] true) (vC (.sl d 0 0))
  | .move x | .assign x => (st.ev x).map .val
  | .pick c a b => (st.evB c).bind fun c => (pickV c (st.ev a) (st.ev b)).map .val
  | .alloc t => (T t).bind fun i => o.dst.map fun d => .new (.box i.zero) (vC (.ptr d 0))
  | .box t x => (T t).bind fun i => (st.evU x).bind fun u => if u.cells.length = i.size then o.dst.map fun d => .new (.box u.cells) (vC (.ptr d 0)) else none
  | .build t parts => (T t).bind fun i => (st.evUs parts.toList).bind fun l => (build T i l).map fun u => .val (.u u)
  | .buildSlice t len parts => (T t).bind fun i => i.sl.bind fun e => (T e).bind fun j => (st.evUs parts.toList).bind fun l => o.dst.bind fun d => effBsl d j len st.h l
  | .load t a => (T t).bind fun i => (st.evC a).bind fun c => (st.load i c).map fun u => .val (.u u)
  | .store t a x => (T t).bind fun i => (st.evC a).bind fun c => (st.evU x).bind fun u => effStore i c u st
  | .nilCheck x => (st.evC x).bind fun c => (nilChk c).map fun c => .val (vC c)
  | .binOp op t x y _ => (st.ev x).bind fun a => (st.ev y).bind fun b => (binV T op t a b).map .val
  | .unOp .not _ x => (st.evB x).map fun b => .val (vB !b)
  | .unOp .neg _ x => (st.evI x).bind fun p => (fitK p.1 (0 - p.2)).map .val
  | .convert s t x => (T s).bind fun _ => (T t).bind fun i => (st.evI x).bind fun p => (convI i p.2).map .val
  | .makeSlice t l c => (T t).bind fun i => i.sl.bind fun e => (T e).bind fun j => (st.evI l).bind fun l => (st.evI c).bind fun c => o.dst.bind fun d => effMksl d j l.2 c.2
  | .slice t x lo hi none => (T t).bind fun i => (st.evC x).bind fun c => (st.evO lo).bind fun l => (st.evO hi).bind fun h =>
      (match i.sl with | some e => (T e).bind fun j => sliceV st.h c l h j.size | none => if isStr i then sliceS c l h else none).map fun v => .val (vC v)
  | .fieldAddr t x f => (T t).bind fun i => (st.evC x).bind fun c => (i.flds[f]?).bind fun p => (T p.2).bind fun j => if j.size = 0 then none else (fldAddr p.1 c).map fun c => .val (vC c)
  | .field t x f => (T t).bind fun i => (st.evU x).bind fun u => (fieldOf T i f u).map fun u => .val (.u u)
  | .indexAddr t x i => (T t).bind fun ti => (st.evC x).bind fun c => (st.evI i).bind fun n => (idxAddr T st.h ti n.2 c).map fun c => .val (vC c)
  | .index t x i => (T t).bind fun ti => (st.evU x).bind fun u => (st.evI i).bind fun n => (indexOf T ti n.2 u).map fun u => .val (.u u)
  | .extract x i => (st.ev x).bind fun v => (tupAt i v).map fun u => .val (.u u)
  | .makeFunc (.func f) first captured => if first.toList = [] then (captured.toList.mapM st.evC).map fun cs => .val (.u (clo [] f cs)) else none
  | .call { callee := .builtin b, args, argTypes } => effBuiltin T b argTypes.toList args.toList o.dst st
  | _ => none

/-! ### more is known, the same comes out -/

/-- What 'a' says, 'b' says. -/
def Mo {α : Type} (a b : Option α) : Prop := ∀ x, a = some x → b = some x
theorem Mo.refl {α : Type} (a : Option α) : Mo a a := fun _ h => h
theorem Mo.bind {α β : Type} {a b : Option α} {f g : α → Option β} (h : Mo a b) (hf : ∀ x, Mo (f x) (g x)) : Mo (a.bind f) (b.bind g) := fun y hy => by
  cases ha : a with
  | none => rw [ha] at hy; cases hy
  | some x => rw [ha] at hy; rw [h x ha]; exact hf x y hy
theorem Mo.map {α β : Type} {a b : Option α} (f : α → β) (h : Mo a b) : Mo (a.map f) (b.map f) := fun y hy => by
  cases ha : a with
  | none => rw [ha] at hy; cases hy
  | some x => rw [ha] at hy; rw [h x ha]; exact hy
theorem Mo.ite {α : Type} {c : Prop} [Decidable c] {a b a' b' : Option α} (h : Mo a b) (h' : Mo a' b') : Mo (if c then a else a') (if c then b else b') := by
  by_cases hc : c
  · simpa [hc] using h
  · simpa [hc] using h'
theorem Mo.none {α : Type} (b : Option α) : Mo none b := fun _ h => by cases h

structure St.Sub (e s : St) : Prop where
  t : ∀ k, Mo (lk k e.t) (lk k s.t)
  h : ∀ k, Mo (lk k e.h) (lk k s.h)

section
variable {e s : St} (hs : e.Sub s)
include hs
theorem Sub.ev (x : Operand) : Mo (e.ev x) (s.ev x) := by
  cases x with
  | tmp t => exact hs.t t
  | _ => exact Mo.refl _
theorem Sub.evU (x : Operand) : Mo (e.evU x) (s.evU x) := fun y hy => by
  unfold St.evU at hy ⊢
  split at hy
  · rename_i u h; rw [Sub.ev hs x _ h]; exact hy
  · cases hy
theorem Sub.evC (x : Operand) : Mo (e.evC x) (s.evC x) := fun y hy => by
  unfold St.evC at hy ⊢
  split at hy
  · rename_i u h; rw [Sub.ev hs x _ h]; exact hy
  · cases hy
theorem Sub.evI (x : Operand) : Mo (e.evI x) (s.evI x) := fun y hy => by
  unfold St.evI at hy ⊢
  split at hy
  · rename_i k n h; rw [Sub.ev hs x _ h]; exact hy
  · cases hy
theorem Sub.evB (x : Operand) : Mo (e.evB x) (s.evB x) := fun y hy => by
  unfold St.evB at hy ⊢
  split at hy
  · rename_i b h; rw [Sub.ev hs x _ h]; exact hy
  · cases hy
theorem Sub.evO (x : Option Operand) : Mo (e.evO x) (s.evO x) := by
  cases x with
  | none => exact Mo.refl _
  | some x => exact (Sub.evI hs x).map _
theorem Sub.evUs : ∀ l, Mo (e.evUs l) (s.evUs l)
  | [] => Mo.refl _
  | (_, x) :: r => (Sub.evU hs x).bind fun _ => (Sub.evUs r).map _
theorem Sub.isRow (i sz : Nat) (h : isRow e.h i sz = true) : isRow s.h i sz = true := by
  unfold Va.isRow at h ⊢
  split at h
  · rename_i h1; rw [hs.h i _ h1]; exact h
  · rename_i h1; rw [hs.h i _ h1]; exact h
  · cases h
theorem Sub.toD_sl (ok : Nat → Bool) (k i off n : Nat) : Mo (Va.toD ok e.h k (.sl i off n)) (Va.toD ok s.h k (.sl i off n)) := fun y hy => by
  have he : ∀ h : List (Nat × Blk), Va.toD ok h k (.sl i off n) = if ok i then (match lk i h with
    | some (.row sz cs _) => if (off + n) * sz ≤ cs.length then some (.slice n (cut (off * sz) (n * sz) cs)) else none
    | _ => none) else none := fun h => by cases k <;> rfl
  rw [he] at hy ⊢
  by_cases ho : ok i = true
  · rw [if_pos ho] at hy ⊢
    split at hy
    · rename_i h1; rw [hs.h i _ h1]; exact hy
    · cases hy
  · rw [if_neg ho] at hy; cases hy
theorem Sub.toD (ok : Nat → Bool) : ∀ (k : Nat) (c : C), Mo (Va.toD ok e.h k c) (Va.toD ok s.h k c)
  | 0, .d x => Mo.refl _
  | k + 1, .d x => Mo.refl _
  | 0, .nl => Mo.refl _
  | k + 1, .nl => Mo.refl _
  | 0, .bad => Mo.refl _
  | k + 1, .bad => Mo.refl _
  | 0, .sl i off n => Sub.toD_sl hs ok 0 i off n
  | k + 1, .sl i off n => Sub.toD_sl hs ok (k + 1) i off n
  | 0, .ptr i off => Mo.refl _
  | k + 1, .ptr i off => fun y hy => by
    have hm : ∀ l : List C, Mo (l.mapM (Va.toD ok e.h k)) (l.mapM (Va.toD ok s.h k)) := fun l => by
      induction l with
      | nil => simpa using Mo.refl _
      | cons c r ih =>
        rw [List.mapM_cons, List.mapM_cons]
        exact (Sub.toD ok k c).bind fun _ => ih.bind fun _ => Mo.refl _
    unfold Va.toD at hy ⊢
    by_cases ho : ok i = true
    · rw [if_pos ho] at hy ⊢
      split at hy
      · rename_i h1; rw [hs.h i _ h1]; exact hy
      · rename_i h1; rw [hs.h i _ h1]; exact (hm _).map _ _ hy
      · rename_i h1; rw [hs.h i _ h1]
        dsimp only
        by_cases h0 : off = 0
        · rw [if_pos h0] at hy ⊢; exact (hm _).map _ _ hy
        · rw [if_neg h0] at hy; cases hy
      · cases hy
    · rw [if_neg ho] at hy; cases hy
theorem Sub.sliceV (c : C) (l h : Option Int) (sz : Nat) : Mo (sliceV e.h c l h sz) (sliceV s.h c l h sz) := fun y hy => by
  unfold Va.sliceV at hy ⊢
  split at hy
  · rename_i i off n
    by_cases hr : Va.isRow e.h i sz = true
    · rw [if_pos hr] at hy
      simp only [Sub.isRow hs i sz hr, if_true]
      exact hy
    · rw [if_neg hr] at hy; cases hy
  · exact hy
  · exact hy
  · cases hy
theorem Sub.idxSl (sz : Nat) (i : Int) (c : C) : Mo (idxSl e.h sz i c) (idxSl s.h sz i c) := fun y hy => by
  unfold Va.idxSl at hy ⊢
  split at hy
  · rename_i b off n
    by_cases hr : 0 ≤ i ∧ i < n ∧ Va.isRow e.h b sz = true
    · rw [if_pos hr] at hy
      simp only [hr.1, hr.2.1, Sub.isRow hs b sz hr.2.2, and_self, if_true]
      exact hy
    · rw [if_neg hr] at hy; cases hy
  · exact hy
  · cases hy
theorem Sub.idxAddr (T : Tab) (i : TI) (n : Int) (c : C) : Mo (idxAddr T e.h i n c) (idxAddr T s.h i n c) := by
  unfold Va.idxAddr
  split
  · exact Mo.refl _
  · exact (Mo.refl _).bind fun _ => (Mo.refl _).bind fun _ => Sub.idxSl hs _ _ _
theorem Sub.load (i : TI) (c : C) : Mo (e.load i c) (s.load i c) := by
  unfold St.load
  split
  · exact (hs.h _).bind fun _ => Mo.refl _
  · exact Mo.refl _
  · exact Mo.refl _
theorem Sub.mapD (ok : Nat → Bool) (k : Nat) : ∀ l : List C, Mo (l.mapM (Va.toD ok e.h k)) (l.mapM (Va.toD ok s.h k))
  | [] => by simpa using Mo.refl _
  | c :: r => by
    rw [List.mapM_cons, List.mapM_cons]
    exact (Sub.toD hs ok k c).bind fun _ => (Sub.mapD ok k r).bind fun _ => Mo.refl _
theorem Sub.effBsl (d : Nat) (j : TI) (len : Nat) (l : List (Nat × List C)) : Mo (effBsl d j len e.h l) (effBsl d j len s.h l) := by
  unfold Va.effBsl
  exact Mo.ite ((Mo.refl _).bind fun _ => Mo.ite (Mo.refl _) (Mo.ite ((Sub.mapD hs _ _ _).map _) (Mo.refl _))) (Mo.refl _)
theorem Sub.effStore (i : TI) (c : C) (v : U) : Mo (effStore i c v e) (effStore i c v s) := by
  unfold Va.effStore
  refine Mo.ite ?_ (Mo.refl _)
  split
  · refine (hs.h _).bind fun k => ?_
    split
    · exact Mo.refl _
    · exact Mo.ite ((Sub.mapD hs _ _ _).bind fun _ => Mo.refl _) (Mo.refl _)
    · exact Mo.refl _
  · exact Mo.refl _
theorem Sub.pickV (c : Bool) (a b a' b' : Option V) (h : Mo a a') (h' : Mo b b') : Mo (pickV c a b) (pickV c a' b') := by
  unfold Va.pickV
  split
  · exact h
  · exact h'
theorem Sub.src (j : TI) (c : C) : Mo (e.src j c) (s.src j c) := by
  unfold St.src
  split
  · exact Mo.refl _
  · exact Mo.refl _
  · exact (hs.h _).bind fun _ => Mo.refl _
  · exact Mo.refl _
theorem Sub.effApp (j : TI) (d : Nat) (c : C) (news : List D) (m : Nat) : Mo (effApp j d c news m e.h) (effApp j d c news m s.h) := by
  unfold Va.effApp
  split
  · exact Mo.refl _
  · exact (hs.h _).bind fun _ => Mo.refl _
  · exact Mo.refl _
theorem Sub.evL : ∀ l : List Operand, Mo (l.mapM e.evI) (l.mapM s.evI)
  | [] => by simpa using Mo.refl _
  | c :: r => by
    rw [List.mapM_cons, List.mapM_cons]
    exact (Sub.evI hs c).bind fun _ => (Sub.evL r).bind fun _ => Mo.refl _
theorem Sub.evLC : ∀ l : List Operand, Mo (l.mapM e.evC) (l.mapM s.evC)
  | [] => by simpa using Mo.refl _
  | c :: r => by
    rw [List.mapM_cons, List.mapM_cons]
    exact (Sub.evC hs c).bind fun _ => (Sub.evLC r).bind fun _ => Mo.refl _
theorem Sub.effBuiltin (T : Tab) (b : Builtin) (ts : List TypeId) (args : List Operand) (d : Option Nat) : Mo (effBuiltin T b ts args d e) (effBuiltin T b ts args d s) := by
  unfold Va.effBuiltin
  split
  · refine (Mo.refl _).bind fun i => ?_
    split
    · exact Mo.refl _
    · exact (Sub.evC hs _).bind fun _ => Mo.refl _
  · exact (Mo.refl _).bind fun _ => (Mo.refl _).bind fun _ => (Mo.refl _).bind fun _ => (Mo.refl _).bind fun _ => (Sub.evC hs _).bind fun _ => (Sub.evC hs _).bind fun _ =>
      Mo.ite ((Sub.src hs _ _).bind fun _ => Sub.effApp hs _ _ _ _ _) (Mo.refl _)
  · exact (Sub.evI hs _).bind fun _ => (Sub.evL hs _).bind fun _ => Mo.refl _
  · exact (Sub.evI hs _).bind fun _ => (Sub.evL hs _).bind fun _ => Mo.refl _
  · exact Mo.refl _
theorem Sub.effOp (T : Tab) (o : Oper) : Mo (effOp T o e) (effOp T o s) := by
  unfold Va.effOp
  split
  · exact Mo.refl _
  · exact (Sub.ev hs _).map _
  · exact (Sub.ev hs _).map _
  · exact (Sub.evB hs _).bind fun _ => (Sub.pickV hs _ _ _ _ _ (Sub.ev hs _) (Sub.ev hs _)).map _
  · exact Mo.refl _
  · exact (Mo.refl _).bind fun _ => (Sub.evU hs _).bind fun _ => Mo.refl _
  · exact (Mo.refl _).bind fun _ => (Sub.evUs hs _).bind fun _ => Mo.refl _
  · exact (Mo.refl _).bind fun _ => (Mo.refl _).bind fun _ => (Mo.refl _).bind fun _ => (Sub.evUs hs _).bind fun _ => (Mo.refl _).bind fun _ => Sub.effBsl hs _ _ _ _
  · exact (Mo.refl _).bind fun _ => (Sub.evC hs _).bind fun _ => (Sub.load hs _ _).map _
  · exact (Mo.refl _).bind fun _ => (Sub.evC hs _).bind fun _ => (Sub.evU hs _).bind fun _ => Sub.effStore hs _ _ _
  · exact (Sub.evC hs _).bind fun _ => Mo.refl _
  · exact (Sub.ev hs _).bind fun _ => (Sub.ev hs _).bind fun _ => Mo.refl _
  · exact (Sub.evB hs _).map _
  · exact (Sub.evI hs _).bind fun _ => Mo.refl _
  · exact (Mo.refl _).bind fun _ => (Mo.refl _).bind fun _ => (Sub.evI hs _).bind fun _ => Mo.refl _
  · exact (Mo.refl _).bind fun _ => (Mo.refl _).bind fun _ => (Mo.refl _).bind fun _ => (Sub.evI hs _).bind fun _ => (Sub.evI hs _).bind fun _ => Mo.refl _
  · refine (Mo.refl _).bind fun _ => (Sub.evC hs _).bind fun _ => (Sub.evO hs _).bind fun _ => (Sub.evO hs _).bind fun _ => Mo.map _ ?_
    split
    · exact (Mo.refl _).bind fun _ => Sub.sliceV hs _ _ _ _
    · exact Mo.refl _
  · exact (Mo.refl _).bind fun _ => (Sub.evC hs _).bind fun _ => Mo.refl _
  · exact (Mo.refl _).bind fun _ => (Sub.evU hs _).bind fun _ => Mo.refl _
  · exact (Mo.refl _).bind fun _ => (Sub.evC hs _).bind fun _ => (Sub.evI hs _).bind fun _ => (Sub.idxAddr hs _ _ _ _).map _
  · exact (Mo.refl _).bind fun _ => (Sub.evU hs _).bind fun _ => (Sub.evI hs _).bind fun _ => Mo.refl _
  · exact (Sub.ev hs _).bind fun _ => Mo.refl _
  · exact Mo.ite ((Sub.evLC hs _).map _) (Mo.refl _)
  · exact Sub.effBuiltin hs _ _ _ _ _
  · exact Mo.refl _
end

/-- The effect is what the operation does. -/
theorem reach_none (h : List (Nat × Blk)) (k : Nat) (cs : List C) (hc : cs.all (fun c => c.id?.isNone) = true) : reach h k cs = [] := by
  cases k with
  | zero => rfl
  | succ k =>
    unfold reach
    rw [List.flatMap_eq_nil_iff]
    intro c hm
    have := List.all_eq_true.1 hc c hm
    rw [Option.isNone_iff_eq_none] at this
    rw [this]
theorem shut_none {st : St} {cs : List C} {ds : List D} (hc : noIdsC cs = true) (h : cs.mapM (toD (fun _ => false) st.h 4) = some ds) : st.shut cs = some (ds, st) := by
  unfold St.shut
  rw [reach_none _ _ _ hc]
  unfold St.sealW
  have : (fun x => ([] : List Nat).contains x) = fun _ => false := by funext x; rfl
  rw [this, h]
  rfl
theorem effBsl_step {d : Nat} {j : TI} {len : Nat} {st : St} {l : List (Nat × List C)} {x : Eff} (h : effBsl d j len st.h l = some x) : bslGo j len (some d) st l = some (st.eff (some d) x) := by
  unfold effBsl at h
  unfold bslGo
  split at h
  · rename_i hc
    rw [if_pos hc]
    obtain ⟨cs, h1, h2⟩ := Option.bind_eq_some_iff.1 h
    rw [h1]
    simp only [Option.bind_some]
    split at h2
    · rename_i hb
      rw [if_pos hb]
      cases h2
      rfl
    · rename_i hb
      rw [if_neg hb]
      split at h2
      · rename_i hn
        obtain ⟨ds, h3, rfl⟩ := Option.map_eq_some_iff.1 h2
        rw [shut_none hn h3]
        rfl
      · cases h2
  · cases h
theorem effStore_step {i : TI} {c : C} {v : U} {st : St} {d : Option Nat} {x : Eff} (h : effStore i c v st = some x) : ((st.store i c v).map fun s => s.put d (.tup [])) = some (st.eff d x) := by
  unfold effStore at h
  unfold St.store
  split at h
  · rename_i hl
    rw [if_pos hl.1]
    split at h
    · obtain ⟨k, h1, h2⟩ := Option.bind_eq_some_iff.1 h
      dsimp only
      rw [h1]
      simp only [Option.bind_some]
      rw [show ∀ b off, St.storeU b off v st k = St.storeB b off v.cells st k from fun b off => by cases v <;> first | rfl | exact absurd hl.2 (by simp)]
      split at h2
      · split at h2
        · rename_i hh
          cases h2
          simp only [St.storeB, if_pos hh, Option.map_some]
          rfl
        · cases h2
      · split at h2
        · rename_i hn
          obtain ⟨ds, h3, h4⟩ := Option.bind_eq_some_iff.1 h2
          split at h4
          · rename_i hh
            cases h4
            simp only [St.storeB]
            rw [shut_none hn h3]
            simp only [Option.bind_some]
            rw [h1]
            simp only [if_pos hh, Option.map_some]
            rfl
          · cases h4
        · cases h2
      · cases h2
    · cases h
  · cases h
theorem effApp_step {j : TI} {d : Nat} {c : C} {news : List D} {m : Nat} {st : St} {x : Eff} (h : effApp j d c news m st.h = some x) : st.app j d c news m = some (st.eff (some d) x) := by
  unfold effApp at h
  unfold St.app
  split at h
  · unfold effAppGo at h
    unfold St.appGo
    split at h
    · rename_i hc; rw [if_pos hc]; cases h; rfl
    · cases h
  · obtain ⟨b, h1, h2⟩ := Option.bind_eq_some_iff.1 h
    dsimp only
    rw [h1]
    simp only [Option.bind_some]
    split at h2
    · split at h2
      · rename_i hc
        dsimp only
        rw [if_pos hc]
        unfold effAppGo at h2
        unfold St.appGo
        split at h2
        · rename_i hc2; rw [if_pos hc2]; cases h2; rfl
        · cases h2
      · cases h2
    · cases h2
  · cases h
theorem toD_false (h h' : List (Nat × Blk)) : ∀ (k : Nat) (c : C), toD (fun _ => false) h k c = toD (fun _ => false) h' k c
  | 0, c => by cases c <;> simp [toD]
  | k + 1, c => by cases c <;> simp [toD]
theorem toD_false_true (h : List (Nat × Blk)) : ∀ (k : Nat) (c : C) (x : D), toD (fun _ => false) [] k c = some x → toD (fun _ => true) h k c = some x
  | 0, c, x, hx => by cases c <;> simp_all [toD]
  | k + 1, c, x, hx => by cases c <;> simp_all [toD]
theorem mapD_false_true (h : List (Nat × Blk)) (k : Nat) : ∀ (cs : List C) (ds : List D), cs.mapM (toD (fun _ => false) [] k) = some ds → cs.mapM (toD (fun _ => true) h k) = some ds
  | [], ds, hd => by simpa using hd
  | c :: r, ds, hd => by
    simp only [List.mapM_cons, Option.pure_def, Option.bind_eq_bind, Option.bind_eq_some_iff, Option.some.injEq] at hd ⊢
    obtain ⟨x, hx, ys, hy, rfl⟩ := hd
    exact ⟨x, toD_false_true h k c x hx, ys, mapD_false_true h k r ys hy, rfl⟩
theorem clo_any (h h' : List (Nat × Blk)) (f : FuncId) (cs : List C) : clo h f cs = clo h' f cs := by
  unfold clo
  have : (toD (fun _ => false) h 4) = toD (fun _ => false) h' 4 := funext fun c => toD_false h h' 4 c
  rw [this]
theorem eff_map {α : Type} {a : Option α} {f : α → V} {st : St} {d : Option Nat} {x : Eff} (h : a.map (fun y => Eff.val (f y)) = some x) : (a.map fun y => st.put d (f y)) = some (st.eff d x) := by
  obtain ⟨y, rfl, rfl⟩ := Option.map_eq_some_iff.1 h
  rfl
theorem eff_bind {α : Type} {a : Option α} {f : α → Option Eff} {g : α → Option St} {r : St} {x : Eff} (h : a.bind f = some x) (hg : ∀ y, f y = some x → g y = some r) : a.bind g = some r := by
  obtain ⟨y, rfl, hy⟩ := Option.bind_eq_some_iff.1 h
  exact hg y hy
theorem eff_mk {st : St} {o : Option Nat} {b : Blk} {c : Nat → C} {x : Eff} (h : (o.map fun d => Eff.new b (vC (c d))) = some x) : mk o st b c = some (st.eff o x) := by
  cases o with
  | none => cases h
  | some d => cases h; rfl

theorem effMksl_step {d : Nat} {j : TI} {l c : Int} {st : St} {x : Eff} (h : effMksl d j l c = some x) : mkslGo j (some d) st l c = some (st.eff (some d) x) := by
  unfold effMksl at h
  unfold mkslGo
  split at h
  · rename_i hc
    rw [if_pos hc]
    obtain ⟨z, hz, rfl⟩ := Option.map_eq_some_iff.1 h
    have : j.zero.mapM st.cD = some z := mapD_false_true st.h 4 _ _ hz
    rw [this]
    rfl
  · cases h
theorem effBuiltin_step {T : Tab} {b : Builtin} {ts : List TypeId} {args : List Operand} {d : Option Nat} {st : St} {x : Eff} (h : effBuiltin T b ts args d st = some x) : stepBuiltin T b ts args d st = some (st.eff d x) := by
  unfold effBuiltin at h
  unfold stepBuiltin
  split at h
  · refine eff_bind h fun i h => ?_
    unfold biLen
    split at h
    · rename_i ha; rw [ha]; cases h; rfl
    · rename_i ha; rw [ha]; exact eff_bind h fun _ h => eff_map h
  · obtain ⟨d', hd, h⟩ := Option.bind_eq_some_iff.1 h
    subst hd
    simp only [Option.bind_some]
    refine eff_bind h fun _ h => eff_bind h fun _ h => eff_bind h fun _ h => eff_bind h fun _ h => eff_bind h fun _ h => ?_
    split at h
    · rename_i ht; rw [if_pos ht]; exact eff_bind h fun _ h => effApp_step h
    · cases h
  · exact eff_bind h fun _ h => eff_bind h fun _ h => eff_map h
  · exact eff_bind h fun _ h => eff_bind h fun _ h => eff_map h
  · cases h

theorem eff_step {T : Tab} {o : Oper} {st : St} {x : Eff} (h : effOp T o st = some x) : stepOp T o st = some (st.eff o.dst x) := by
  unfold effOp at h
  unfold stepOp
  split at h
  · rename_i ho; rw [ho]
    obtain ⟨d, hd, h⟩ := Option.bind_eq_some_iff.1 h
    rw [hd]
    unfold nilAssign
    simp only [Option.bind_some]
    refine eff_bind h fun _ h => eff_bind h fun _ h => ?_
    obtain ⟨j, hj, rfl⟩ := Option.map_eq_some_iff.1 h
    rw [hj]
    rfl
  · rename_i ho; rw [ho]; exact eff_map h
  · rename_i hne ho
    rw [ho]
    split
    · rename_i he; cases he; exact (hne rfl).elim
    · rename_i he; cases he
    · rename_i he; cases he; exact eff_map h
    case h_25 =>
      rename_i hc _ _ _ _ _ _ _ _ _ _ _ _ _ _ _ _ _ _ _ _ _
      exact (hc _ rfl).elim
    all_goals (rename_i he; cases he)
  · rename_i ho; rw [ho]; exact eff_bind h fun _ h => eff_map h
  · rename_i ho; rw [ho]; exact eff_bind h fun _ h => eff_mk h
  · rename_i ho; rw [ho]
    refine eff_bind h fun _ h => eff_bind h fun _ h => ?_
    split at h
    · rename_i hc; rw [if_pos hc]; exact eff_mk h
    · cases h
  · rename_i ho; rw [ho]; exact eff_bind h fun _ h => eff_bind h fun _ h => eff_map h
  · rename_i ho; rw [ho]
    refine eff_bind h fun _ h => eff_bind h fun _ h => eff_bind h fun _ h => eff_bind h fun _ h => ?_
    obtain ⟨d, hd, h⟩ := Option.bind_eq_some_iff.1 h
    rw [hd]
    exact effBsl_step h
  · rename_i ho; rw [ho]; exact eff_bind h fun _ h => eff_bind h fun _ h => eff_map h
  · rename_i ho; rw [ho]; exact eff_bind h fun _ h => eff_bind h fun _ h => eff_bind h fun _ h => effStore_step h
  · rename_i ho; rw [ho]; exact eff_bind h fun _ h => eff_map h
  · rename_i ho; rw [ho]; exact eff_bind h fun _ h => eff_bind h fun _ h => eff_map h
  · rename_i ho; rw [ho]; exact eff_map h
  · rename_i ho; rw [ho]; exact eff_bind h fun _ h => eff_map h
  · rename_i ho; rw [ho]; exact eff_bind h fun _ h => eff_bind h fun _ h => eff_bind h fun _ h => eff_map h
  · rename_i ho; rw [ho]
    refine eff_bind h fun _ h => eff_bind h fun _ h => eff_bind h fun _ h => eff_bind h fun _ h => eff_bind h fun _ h => ?_
    obtain ⟨d, hd, h⟩ := Option.bind_eq_some_iff.1 h
    rw [hd]
    exact effMksl_step h
  · rename_i ho; rw [ho]; exact eff_bind h fun _ h => eff_bind h fun _ h => eff_bind h fun _ h => eff_bind h fun _ h => eff_map h
  · rename_i ho; rw [ho]
    refine eff_bind h fun _ h => eff_bind h fun _ h => eff_bind h fun _ h => eff_bind h fun _ h => ?_
    split at h
    · cases h
    · rename_i hc; rw [if_neg hc]; exact eff_map h
  · rename_i ho; rw [ho]; exact eff_bind h fun _ h => eff_bind h fun _ h => eff_map h
  · rename_i ho; rw [ho]; exact eff_bind h fun _ h => eff_bind h fun _ h => eff_bind h fun _ h => eff_map h
  · rename_i ho; rw [ho]; exact eff_bind h fun _ h => eff_bind h fun _ h => eff_bind h fun _ h => eff_map h
  · rename_i ho; rw [ho]; exact eff_bind h fun _ h => eff_map h
  · rename_i ho; rw [ho]
    dsimp only
    split at h
    · rename_i hf
      rw [if_pos hf]
      obtain ⟨cs, hcs, rfl⟩ := Option.map_eq_some_iff.1 h
      rw [hcs, clo_any [] st.h]
      rfl
    · cases h
  · rename_i ho; rw [ho]; exact effBuiltin_step h
  · cases h

end Go.Va

/-
  Regions that draw their order, second part: effects in whatever order.
-/
namespace Go.Va
open Go.RowKit

/-- What can be looked up. -/
structure FS where
  t : Nat → Option V
  h : Nat → Option Blk

def St.fs (s : St) : FS := ⟨fun k => lk k s.t, fun k => lk k s.h⟩

def Eff.v : Eff → V
  | .val v => v
  | .new _ v => v
  | .put _ _ => .tup []
  | .app _ _ v => v
  | .dat x => vC (.d x)
/-- What becomes of a block. -/
def Eff.b (d : Option Nat) : Eff → Nat → Option (Option Blk)
  | .val _, _ => none
  | .dat _, _ => none
  | .new b _, k => if d.getD 0 = k then some (some b) else none
  | .put i b, k => if i = k then some (some b) else none
  | .app i b _, k => if d.getD 0 = k then some (some b) else if i = k then some none else none

/-- An operation's place, and its effect. -/
structure Step where
  d : Option Nat
  x : Eff
  deriving Inhabited

def Step.hits (s : Step) (k : Nat) : Prop := (s.x.b s.d k).isSome = true

def FS.upd (F : FS) (s : Step) : FS :=
  ⟨fun t => if s.d = some t then some s.x.v else F.t t, fun k => (s.x.b s.d k).getD (F.h k)⟩

def FS.run (F : FS) (l : List Step) : FS := l.foldl FS.upd F

/-- Two steps that have nothing to do with one another. -/
structure Step.Indep (s s' : Step) : Prop where
  d : ∀ t, s.d = some t → s'.d ≠ some t
  h : ∀ k, s.hits k → ¬ s'.hits k

theorem FS.ext' {F G : FS} (h1 : ∀ t, F.t t = G.t t) (h2 : ∀ t, F.h t = G.h t) : F = G := by
  cases F; cases G
  simp only [FS.mk.injEq]
  exact ⟨funext h1, funext h2⟩

theorem not_hits {s : Step} {k : Nat} (h : ¬ s.hits k) : s.x.b s.d k = none := by
  unfold Step.hits at h
  cases hb : s.x.b s.d k with
  | none => rfl
  | some r => rw [hb] at h; simp at h

theorem FS.upd_comm (F : FS) {s s' : Step} (h : s.Indep s') : (F.upd s).upd s' = (F.upd s').upd s := by
  refine FS.ext' (fun t => ?_) fun k => ?_
  · simp only [FS.upd]
    by_cases h1 : s.d = some t
    · have := h.d t h1
      simp [h1, this]
    · simp [h1]
  · simp only [FS.upd]
    by_cases hk : s.hits k
    · rw [not_hits (h.h k hk)]; rfl
    · rw [not_hits hk]; rfl

theorem FS.run_append (F : FS) (l m : List Step) : F.run (l ++ m) = (F.run l).run m := by simp [FS.run]

/-- A step that is late may be put where it belongs. -/
theorem FS.run_late (F : FS) (s : Step) : ∀ (l m : List Step), (∀ s' ∈ m, s'.Indep s) → (F.run (l ++ m)).upd s = F.run (l ++ s :: m)
  | l, [], _ => by simp [FS.run]
  | l, a :: m, h => by
    have ih := FS.run_late F s (l ++ [a]) m fun s' hs' => h s' (by simp [hs'])
    rw [show l ++ a :: m = l ++ [a] ++ m by simp, ih]
    have hc := FS.upd_comm (F.run l) (h a (by simp))
    simp only [FS.run_append] at hc ⊢
    show ((((F.run l).upd a).upd s).run m) = ((((F.run l).upd s).upd a).run m)
    rw [hc]

theorem FS.run_h (F : FS) (k : Nat) : ∀ l : List Step, (∀ s ∈ l, ¬ s.hits k) → (F.run l).h k = F.h k
  | [], _ => rfl
  | s :: l, h => by
    show ((F.upd s).run l).h k = _
    rw [FS.run_h (F.upd s) k l fun s' hs => h s' (by simp [hs])]
    simp only [FS.upd, not_hits (h s (by simp)), Option.getD_none]

/-- Only the steps that write it count for a slot. -/
theorem FS.upd_t (F G : FS) (s : Step) (t : Nat) (h : F.t t = G.t t) : (F.upd s).t t = (G.upd s).t t := by
  simp [FS.upd, h]
theorem FS.upd_h (F G : FS) (s : Step) (k : Nat) (h : F.h k = G.h k) : (F.upd s).h k = (G.upd s).h k := by
  simp only [FS.upd, h]
theorem FS.run_t_filter (p : Nat → Bool) (f : Nat → Step) (t : Nat) : ∀ (l : List Nat) (F G : FS), F.t t = G.t t → (∀ j ∈ l, p j = false → (f j).d ≠ some t) →
    (F.run (l.map f)).t t = (G.run ((l.filter p).map f)).t t
  | [], _, _, h, _ => h
  | j :: l, F, G, h, hp => by
    rw [List.filter_cons]
    split
    · exact FS.run_t_filter p f t l (F.upd (f j)) (G.upd (f j)) (FS.upd_t _ _ _ _ h) fun j' hj' => hp j' (by simp [hj'])
    · rename_i hf
      refine FS.run_t_filter p f t l (F.upd (f j)) G ?_ fun j' hj' => hp j' (by simp [hj'])
      have := hp j (by simp) (by simpa using hf)
      simp [FS.upd, this, h]
theorem FS.run_h_filter (p : Nat → Bool) (f : Nat → Step) (k : Nat) : ∀ (l : List Nat) (F G : FS), F.h k = G.h k → (∀ j ∈ l, p j = false → ¬ (f j).hits k) →
    (F.run (l.map f)).h k = (G.run ((l.filter p).map f)).h k
  | [], _, _, h, _ => h
  | j :: l, F, G, h, hp => by
    rw [List.filter_cons]
    split
    · exact FS.run_h_filter p f k l (F.upd (f j)) (G.upd (f j)) (FS.upd_h _ _ _ _ h) fun j' hj' => hp j' (by simp [hj'])
    · rename_i hf
      refine FS.run_h_filter p f k l (F.upd (f j)) G ?_ fun j' hj' => hp j' (by simp [hj'])
      have := FS.run_h F k [f j] (by simpa using hp j (by simp) (by simpa using hf))
      exact this.trans h

end Go.Va

/-
  Regions that draw their order, third part: any order comes to the same.
-/
namespace Go.Va
open Go.RowKit

theorem range_split {i n : Nat} (h : i < n) : List.range n = List.range i ++ i :: (List.range (n - i - 1)).map (i + 1 + ·) := by
  have h1 : n = i + (1 + (n - i - 1)) := by omega
  conv => lhs; rw [h1]
  rw [List.range_add, List.range_add]
  simp [Function.comp_def, Nat.add_assoc]

/-- The steps that are done, in the order of the text. -/
def doneL (n : Nat) (L : Nat → Bool) : List Nat := (List.range n).filter L

theorem doneL_set {i n : Nat} (h : i < n) {L L' : Nat → Bool} (hi : L i = false) (hi' : L' i = true) (hL : ∀ j, j ≠ i → L' j = L j) :
    ∃ A B, doneL n L = A ++ B ∧ doneL n L' = A ++ i :: B ∧ ∀ j ∈ B, i < j ∧ j < n ∧ L j = true := by
  refine ⟨(List.range i).filter L, ((List.range (n - i - 1)).map (i + 1 + ·)).filter L, ?_, ?_, ?_⟩
  · unfold doneL
    rw [range_split h, List.filter_append, List.filter_cons, if_neg (by simp [hi])]
  · unfold doneL
    rw [range_split h, List.filter_append, List.filter_cons, if_pos hi']
    congr 1
    · exact List.filter_congr fun j hj => hL j (by have := List.mem_range.1 hj; omega)
    · congr 1
      refine List.filter_congr fun j hj => hL j ?_
      obtain ⟨k, _, rfl⟩ := List.mem_map.1 hj
      omega
  · intro j hj
    obtain ⟨h1, h2⟩ := List.mem_filter.1 hj
    obtain ⟨k, hk, rfl⟩ := List.mem_map.1 h1
    have := List.mem_range.1 hk
    exact ⟨by omega, by omega, h2⟩

/-- What is known of a region: its steps, what each was shown in, who comes before whom. -/
structure Plan (F0 : FS) (n : Nat) (f : Nat → Step) (E : Nat → St) (pred : Nat → Nat → Bool) : Prop where
  lt : ∀ j i, pred j i = true → j < i
  ind : ∀ i j, i < j → j < n → pred i j = false → (f j).Indep (f i)
  t : ∀ i, i < n → ∀ t v, lk t (E i).t = some v → (F0.run ((List.range i).map f)).t t = some v ∧ ∀ j, j < n → j ≠ i → pred j i = false → pred i j = false → (f j).d ≠ some t
  h : ∀ i, i < n → ∀ k b, lk k (E i).h = some b → (F0.run ((List.range i).map f)).h k = some b ∧ ∀ j, j < n → j ≠ i → pred j i = false → pred i j = false → ¬ (f j).hits k

section
variable {F0 : FS} {n : Nat} {f : Nat → Step} {E : Nat → St} {pred : Nat → Nat → Bool} {L : Nat → Bool}

/-- The steps that matter to 'i' are the same in the text as now. -/
theorem Plan.filter_eq (hp : Plan F0 n f E pred) {i : Nat} (hi : i < n) (hr : ∀ j, pred j i = true → L j = true) :
    (List.range i).filter (fun j => pred j i) = (doneL n L).filter (fun j => pred j i) := by
  unfold doneL
  rw [List.filter_filter, range_split hi, List.filter_append, List.filter_cons]
  have h1 : (pred i i && L i) = false := by
    cases h : pred i i with
    | false => rfl
    | true => exact absurd (hp.lt i i h) (Nat.lt_irrefl i)
  rw [if_neg (by simp [h1])]
  have h2 : ((List.range (n - i - 1)).map (i + 1 + ·)).filter (fun a => pred a i && L a) = [] := by
    rw [List.filter_eq_nil_iff]
    intro j hj
    obtain ⟨k, _, rfl⟩ := List.mem_map.1 hj
    cases h : pred (i + 1 + k) i with
    | false => simp [h]
    | true => exact absurd (hp.lt _ _ h) (by omega)
  rw [h2, List.append_nil]
  refine List.filter_congr fun j hj => ?_
  cases h : pred j i with
  | false => rfl
  | true => simp [hr j h]

/-- What a step was shown in is there when its turn comes. -/
theorem Plan.sub (hp : Plan F0 n f E pred) {i : Nat} (hi : i < n) (hLi : L i = false) (hr : ∀ j, pred j i = true → L j = true) (hc : ∀ j, L j = true → ∀ k, pred k j = true → L k = true)
    {s : St} (hs : s.fs = F0.run ((doneL n L).map f)) : (E i).Sub s := by
  have hmem : ∀ j ∈ doneL n L, j < n ∧ L j = true := fun j hj => by
    obtain ⟨h1, h2⟩ := List.mem_filter.1 hj
    exact ⟨List.mem_range.1 h1, h2⟩
  refine ⟨fun t v hv => ?_, fun k b hb => ?_⟩
  · obtain ⟨h1, h2⟩ := hp.t i hi t v hv
    have ha := FS.run_t_filter (fun j => pred j i) f t (List.range i) F0 F0 rfl fun j hj hf => by
      have := List.mem_range.1 hj
      refine h2 j (by omega) (by omega) hf ?_
      cases h : pred i j with
      | false => rfl
      | true => exact absurd (hp.lt _ _ h) (by omega)
    have hb := FS.run_t_filter (fun j => pred j i) f t (doneL n L) F0 F0 rfl fun j hj hf => by
      obtain ⟨hj1, hj2⟩ := hmem j hj
      refine h2 j hj1 (fun he => by rw [he, hLi] at hj2; cases hj2) hf ?_
      cases h : pred i j with
      | false => rfl
      | true => have := hc j hj2 i h; rw [hLi] at this; cases this
    rw [hp.filter_eq hi hr, ← hb] at ha
    have : s.fs.t t = some v := by rw [hs, ← ha]; exact h1
    exact this
  · obtain ⟨h1, h2⟩ := hp.h i hi k b hb
    have ha := FS.run_h_filter (fun j => pred j i) f k (List.range i) F0 F0 rfl fun j hj hf => by
      have := List.mem_range.1 hj
      refine h2 j (by omega) (by omega) hf ?_
      cases h : pred i j with
      | false => rfl
      | true => exact absurd (hp.lt _ _ h) (by omega)
    have hb := FS.run_h_filter (fun j => pred j i) f k (doneL n L) F0 F0 rfl fun j hj hf => by
      obtain ⟨hj1, hj2⟩ := hmem j hj
      refine h2 j hj1 (fun he => by rw [he, hLi] at hj2; cases hj2) hf ?_
      cases h : pred i j with
      | false => rfl
      | true => have := hc j hj2 i h; rw [hLi] at this; cases this
    rw [hp.filter_eq hi hr, ← hb] at ha
    have : s.fs.h k = some b := by rw [hs, ← ha]; exact h1
    exact this

/-- One more step. -/
theorem Plan.next (hp : Plan F0 n f E pred) {i : Nat} (hi : i < n) {L' : Nat → Bool} (hLi : L i = false) (hLi' : L' i = true) (hL : ∀ j, j ≠ i → L' j = L j) (hc : ∀ j, L j = true → ∀ k, pred k j = true → L k = true) :
    (F0.run ((doneL n L).map f)).upd (f i) = F0.run ((doneL n L').map f) := by
  obtain ⟨A, B, h1, h2, h3⟩ := doneL_set hi hLi hLi' hL
  rw [h1, h2, List.map_append, List.map_append, List.map_cons]
  refine FS.run_late F0 (f i) _ _ fun s hs => ?_
  obtain ⟨j, hj, rfl⟩ := List.mem_map.1 hs
  obtain ⟨h4, h5, h6⟩ := h3 j hj
  refine hp.ind i j h4 h5 ?_
  cases h : pred i j with
  | false => rfl
  | true => have := hc j h6 i h; rw [hLi] at this; cases this
end

end Go.Va

/-
  Regions that draw their order, fourth part: the walk of all orders.
-/
namespace Go.Va
open Go.RowKit

section
variable {P : Program} {T : Tab} {X : Cx} {pred : Nat → Nat → Bool}

/-- Who comes before whom, by the edges that bind. -/
structure Edges (ops : List Oper) (pred : Nat → Nat → Bool) : Prop where
  has : ∀ i o, ops[i]? = some o → ∀ e ∈ o.after, Region.binds .any e = true → pred e.on i = true
  gen : ∀ i o, ops[i]? = some o → ∀ j, pred j i = true → ∃ e ∈ o.after, Region.binds .any e = true ∧ (e.on = j ∨ pred j e.on = true)

theorem mem_ready {ops : Array Oper} {listed : Array Bool} (hs : listed.size = ops.size) {i : Nat} : i ∈ Region.ready .any ops listed ↔ ∃ o, ops[i]? = some o ∧ listed.getD i false = false ∧ ∀ e ∈ o.after, Region.binds .any e = true → listed.getD e.on false = true := by
  unfold Region.ready
  rw [List.mem_filter, List.mem_range, Bool.and_eq_true]
  constructor
  · rintro ⟨h1, h2, h3⟩
    have ho : ops[i]? = some ops[i] := Array.getElem?_eq_getElem h1
    rw [ho] at h3
    refine ⟨_, ho, ?_, fun e he hb => ?_⟩
    · have : i < listed.size := by omega
      simp only [Array.getD_eq_getD_getElem?, Array.getElem?_eq_getElem this, Option.getD_some] at h2 ⊢
      simpa using h2
    · simp only [Option.map_some, Option.getD_some] at h3
      have := Array.all_eq_true_iff_forall_mem.1 h3 e he
      simpa [hb] using this
  · rintro ⟨o, ho, h2, h3⟩
    have h1 : i < ops.size := (Array.getElem?_eq_some_iff.1 ho).1
    refine ⟨h1, ?_, ?_⟩
    · have : i < listed.size := by omega
      simp only [Array.getD_eq_getD_getElem?, Array.getElem?_eq_getElem this, Option.getD_some] at h2 ⊢
      simp [h2]
    · rw [ho]
      simp only [Option.map_some, Option.getD_some]
      refine Array.all_eq_true_iff_forall_mem.2 fun e he => ?_
      cases hb : Region.binds .any e with
      | false => rfl
      | true => simp [h3 e he hb]

/-- All before 'm' are done, and nothing else. -/
def upTo (n m : Nat) : Array Bool := ((List.range n).map fun j => decide (j < m)).toArray
theorem upTo_size (n m : Nat) : (upTo n m).size = n := by simp [upTo]
theorem upTo_get (n m j : Nat) (h : j < n) : (upTo n m).getD j false = decide (j < m) := by
  simp [upTo, Array.getD_eq_getD_getElem?, h]
theorem upTo_eq {n m : Nat} {l : Array Bool} (hs : l.size = n) (h : ∀ j, j < n → l.getD j false = decide (j < m)) : l = upTo n m := by
  apply Array.ext
  · rw [hs, upTo_size]
  · intro j h1 h2
    have := h j (by omega)
    rw [← upTo_get n m j (by omega)] at this
    simpa [Array.getD_eq_getD_getElem?, h1, h2] using this

/-- From 'm' on, each operation waits for all before 'm'. -/
def Cut (n : Nat) (pred : Nat → Nat → Bool) (m : Nat) : Prop := ∀ i, m ≤ i → i < n → ∀ j, j < m → pred j i = true

theorem set_get {n : Nat} {listed : Array Bool} (hs : listed.size = n) {i : Nat} (hi : i < n) (j : Nat) : (listed.setIfInBounds i true).getD j false = if j = i then true else listed.getD j false := by
  by_cases hji : j = i
  · subst hji
    simp [Array.getD_eq_getD_getElem?, Array.getElem?_setIfInBounds, hs, hi]
  · simp [Array.getD_eq_getD_getElem?, Array.getElem?_setIfInBounds, hji, Ne.symm hji]

/-- Who is ready has all before it done. -/
theorem ready_pred {ops : List Oper} {pred : Nat → Nat → Bool} (he : Edges ops pred) {listed : Array Bool} (hs : listed.size = ops.length) (hc : ∀ j, listed.getD j false = true → ∀ k, pred k j = true → listed.getD k false = true)
    {i : Nat} (hi : i ∈ Region.ready .any ops.toArray listed) : ∃ o, ops[i]? = some o ∧ i < ops.length ∧ listed.getD i false = false ∧ ∀ j, pred j i = true → listed.getD j false = true := by
  obtain ⟨o, ho, h2, h3⟩ := (mem_ready (by simpa using hs)).1 hi
  have ho' : ops[i]? = some o := by simpa using ho
  refine ⟨o, ho', (List.getElem?_eq_some_iff.1 ho').1, h2, fun j hj => ?_⟩
  obtain ⟨e, hem, hb, hor⟩ := he.gen i o ho' j hj
  rcases hor with rfl | hj'
  · exact h3 e hem hb
  · exact hc e.on (h3 e hem hb) j hj'

/-- If something is left, something is ready. -/
theorem ready_some {ops : List Oper} {pred : Nat → Nat → Bool} (he : Edges ops pred) (hlt : ∀ j i, pred j i = true → j < i) {listed : Array Bool} (hs : listed.size = ops.length) (hr : Region.ready .any ops.toArray listed = []) :
    ∀ j, j < ops.length → listed.getD j false = true := by
  intro j
  induction j using Nat.strongRecOn with
  | _ j ih =>
    intro hj
    cases hl : listed.getD j false with
    | true => rfl
    | false =>
      have ho : ops.toArray[j]? = some ops[j] := by simp [List.getElem?_eq_getElem hj]
      have : j ∈ Region.ready .any ops.toArray listed := (mem_ready (by simpa using hs)).2 ⟨_, ho, hl, fun e hem hb => by
        have := hlt _ _ (he.has j ops[j] (List.getElem?_eq_getElem hj) e hem hb)
        exact ih e.on this (by omega)⟩
      rw [hr] at this
      cases this

/-- It holds, some rows read as data. -/
def Frz (K : St → Prop) (s : St) : Prop := ∃ ids, K (s.freeze ids)
theorem Frz.of {K : St → Prop} {s : St} (h : K s) : Frz K s := ⟨[], h⟩
theorem goes_frz {K : St → Prop} {a : Act} {w : World} : Goes X (Frz K) a w → Goes X K a w := fun ⟨_, _, _, _, _, hL, h1, h2, ids, h3⟩ => ⟨_, _, _, _, _, hL.of (TrLe.freeze ids), h1.freeze ids, h2, h3⟩

theorem take_op {ops : List Oper} {Q : Exit → Act → World → Prop} (hok : dstsOk X.n X.pin ops = true) (hT : TabOk P T) (hY : ∀ Y, X.Y = some Y → YlOk P Y) {K : St → Prop} {i : Nat} {o : Oper} (ho : ops[i]? = some o) {a : Act} {w : World} {M Z : Addr → Prop} {w0 : World} {ρ : Rho} {s : St}
    (hL : Lk X M Z w0 s a) (hrel : Rel M Z w0 ρ s a w) (hn : a.tmps.size = X.n) (hw : wpG P T ops o s K) {next : Act → World → Prop} (hnext : ∀ a w, Goes X K a w → next a w) : Go.wpOp P ops.toArray Q i next a w := by
  have hg' := g_sound (Q := Q) hT hY hL hrel hn hok (List.mem_of_getElem? ho) hw
  unfold Go.wpOp
  have ho' : ops.toArray[i]? = some o := by simpa using ho
  rw [ho']
  dsimp only
  split
  · rw [if_pos ‹_›] at hg'
    exact .inl (Oper.wp_mono hnext hg')
  · rw [if_neg ‹_›] at hg'
    exact hnext _ _ hg'

/-- The end. -/
theorem end_sound {ops : List Oper} {Q : Exit → Act → World → Prop} {a : Act} {w : World} (h : Q .normal a w) : wpAny P .any ops.toArray Q 0 (upTo ops.length ops.length) a w := by
  refine ⟨?_, h⟩
  rw [List.eq_nil_iff_forall_not_mem]
  intro i hi
  obtain ⟨o, ho, h2, _⟩ := (mem_ready (by simp [upTo_size])).1 hi
  have hi' : i < ops.length := by
    have := (Array.getElem?_eq_some_iff.1 ho).1
    simpa using this
  rw [upTo_get _ _ _ hi'] at h2
  simp [hi'] at h2

/-- One operation, for which all wait. -/
theorem one_sound (hT : TabOk P T) (hY : ∀ Y, X.Y = some Y → YlOk P Y) {ops : List Oper} {Q : Exit → Act → World → Prop} (hok : dstsOk X.n X.pin ops = true) {pred : Nat → Nat → Bool} (he : Edges ops pred) (hlt : ∀ j i, pred j i = true → j < i) {m : Nat} {o : Oper} (ho : ops[m]? = some o)
    (hcut : Cut ops.length pred (m + 1)) (hcut0 : Cut ops.length pred m) {K : St → Prop} {a : Act} {w : World} (hg : Goes X (fun s => wpG P T ops o s K) a w) {fuel : Nat} (next : ∀ a w, Goes X K a w → wpAny P .any ops.toArray Q fuel (upTo ops.length (m + 1)) a w) :
    wpAny P .any ops.toArray Q (fuel + 1) (upTo ops.length m) a w := by
  have hm : m < ops.length := (List.getElem?_eq_some_iff.1 ho).1
  have hc : ∀ j, (upTo ops.length m).getD j false = true → ∀ k, pred k j = true → (upTo ops.length m).getD k false = true := fun j hj k hk => by
    have hj' : j < ops.length := by
      rcases Nat.lt_or_ge j ops.length with h | h
      · exact h
      · simp [Array.getD_eq_getD_getElem?, upTo, h] at hj
    rw [upTo_get _ _ _ hj'] at hj
    have := hlt _ _ hk
    rw [upTo_get _ _ _ (by omega)]
    simp at hj ⊢
    omega
  refine ⟨fun hr => ?_, fun i hi => ?_⟩
  · have := ready_some he hlt (upTo_size _ _) hr m hm
    rw [upTo_get _ _ _ hm] at this
    simp at this
  · obtain ⟨o', ho', hi', h2, h3⟩ := ready_pred he (upTo_size _ _) hc hi
    rw [upTo_get _ _ _ hi'] at h2
    have hmi : m ≤ i := by simpa using h2
    have : i = m := by
      rcases Nat.eq_or_lt_of_le hmi with h | h
      · exact h.symm
      · have := h3 m (hcut i (by omega) hi' m (by omega))
        rw [upTo_get _ _ _ hm] at this
        simp at this
    subst this
    rw [ho] at ho'
    cases ho'
    obtain ⟨M, Z, w0, ρ, s, hL, hrel, hn, hw⟩ := hg
    refine take_op hok hT hY ho hL hrel hn hw fun a' w' hg' => ?_
    rw [upTo_eq (n := ops.length) (l := (upTo ops.length i).setIfInBounds i true) (m := i + 1) (by simp [upTo_size]) fun j hj => by
      rw [set_get (upTo_size _ _) hm, upTo_get _ _ _ hj]
      by_cases hji : j = i
      · subst hji; simp
      · simp [hji]; omega]
    exact next a' w' hg'

/-- Operations in whatever order, up to where all that follow wait for them. -/
theorem seg_sound (hT : TabOk P T) (hY : ∀ Y, X.Y = some Y → YlOk P Y) {ops : List Oper} {K : St → Prop} {Q : Exit → Act → World → Prop} (hok : dstsOk X.n X.pin ops = true) {fuel0 lo hi : Nat} (hhi : hi ≤ ops.length) (hcut : Cut ops.length pred hi)
    (hcont : ∀ a w, Goes X K a w → wpAny P .any ops.toArray Q fuel0 (upTo ops.length hi) a w)
    {F0 : FS} {f : Nat → Step} {E : Nat → St} (hp : Plan F0 hi f E pred) (he : Edges ops pred)
    (hdo : ∀ i o, lo ≤ i → i < hi → ops[i]? = some o → ∀ (L : Nat → Bool) (s : St), L i = false → (∀ j, L j = true → ∀ k, pred k j = true → L k = true) → (E i).Sub s → s.fs = F0.run ((doneL hi L).map f) →
      ∀ K : St → Prop, (∀ s', s'.fs = s.fs.upd (f i) → K s') → wpG P T ops o s (Frz K))
    (hK : ∀ s, s.fs = F0.run ((List.range hi).map f) → K s) :
    ∀ (fuel : Nat) (listed : Array Bool) (a : Act) (w : World), listed.size = ops.length → ((List.range hi).filter fun j => !listed.getD j false).length = fuel → (∀ j, j < lo → listed.getD j false = true) → (∀ j, hi ≤ j → listed.getD j false = false) →
      (∀ j, listed.getD j false = true → ∀ k, pred k j = true → listed.getD k false = true) →
      Goes X (fun s => s.fs = F0.run ((doneL hi fun j => listed.getD j false).map f)) a w → wpAny P .any ops.toArray Q (fuel0 + fuel) listed a w := by
  intro fuel
  induction fuel with
  | zero =>
    intro listed a w hs hf hlo hhi' hc ⟨M, Z, w0, ρ, s, hL, h1, h2, h3⟩
    have hall : ∀ j, j < hi → listed.getD j false = true := fun j hj => by
      have := List.length_eq_zero_iff.1 hf
      rw [List.filter_eq_nil_iff] at this
      simpa using this j (List.mem_range.2 hj)
    rw [upTo_eq (m := hi) hs fun j hj => by
      by_cases h : j < hi
      · simp [h, hall j h]
      · simp [h, hhi' j (by omega)]]
    refine hcont a w ⟨M, Z, w0, ρ, s, hL, h1, h2, hK s ?_⟩
    rw [h3]
    unfold doneL
    rw [List.filter_eq_self.2 fun j hj => hall j (List.mem_range.1 hj)]
  | succ fuel ih =>
    intro listed a w hs hf hlo hhi' hc hg
    obtain ⟨j0, hj0, hl0⟩ : ∃ j, j < hi ∧ listed.getD j false = false := by
      have : ((List.range hi).filter fun j => !listed.getD j false) ≠ [] := fun h => by rw [h] at hf; simp at hf
      obtain ⟨j, r, hjr⟩ := List.exists_cons_of_ne_nil this
      have : j ∈ (List.range hi).filter fun j => !listed.getD j false := by rw [hjr]; simp
      obtain ⟨h1, h2⟩ := List.mem_filter.1 this
      exact ⟨j, List.mem_range.1 h1, by simpa using h2⟩
    show wpAny P .any ops.toArray Q (fuel0 + fuel + 1) listed a w
    refine ⟨fun hr => ?_, fun i hi' => ?_⟩
    · have := ready_some he hp.lt hs hr j0 (by omega)
      rw [hl0] at this; cases this
    · obtain ⟨o, ho, hin, h2, hr⟩ := ready_pred he hs hc hi'
      have hih : i < hi := by
        rcases Nat.lt_or_ge i hi with h | h
        · exact h
        · have := hr j0 (hcut i h hin j0 hj0); rw [hl0] at this; cases this
      have hil : lo ≤ i := by
        rcases Nat.lt_or_ge i lo with h | h
        · rw [hlo i h] at h2; cases h2
        · exact h
      obtain ⟨M, Z, w0, ρ, s, hL, hrel, hn, hfs⟩ := hg
      have hset := set_get hs hin
      refine take_op hok hT hY ho hL hrel hn (hdo i o hil hih ho (fun j => listed.getD j false) s h2 hc (hp.sub hih h2 hr hc hfs) hfs (fun s' => s'.fs = s.fs.upd (f i)) fun s' h => h) ?_
      intro a' w' hgf
      obtain ⟨M', Z', w0', ρ', s', gL, g1, g2, g3⟩ := goes_frz hgf
      refine ih _ a' w' (by simpa using hs) ?_ (fun j hj => ?_) (fun j hj => ?_) ?_ ⟨M', Z', w0', ρ', s', gL, g1, g2, ?_⟩
      · obtain ⟨A, B, e1, e2, _⟩ := doneL_set hih (L := fun j => !(listed.setIfInBounds i true).getD j false) (L' := fun j => !listed.getD j false) (by rw [hset]; simp) (by simp [h2]) fun j hj => by rw [hset, if_neg hj]
        unfold doneL at e1 e2
        rw [e2] at hf
        rw [e1]
        simp only [List.length_append, List.length_cons] at hf ⊢
        omega
      · rw [hset]
        split
        · rfl
        · exact hlo j hj
      · rw [hset, if_neg (by omega)]
        exact hhi' j hj
      · intro j hj k hk
        rw [hset] at hj ⊢
        split
        · rfl
        · split at hj
          · rename_i hji; exact hr k (hji ▸ hk)
          · exact hc j hj k hk
      · show s'.fs = _
        rw [g3, hfs]
        exact hp.next hih (L := fun j => listed.getD j false) h2 (by rw [hset]; simp) (fun j hj => by rw [hset, if_neg hj]) hc

end
end Go.Va

/-
  Regions that draw their order, fifth part: what the walk asks of one; the walk of code.
-/
namespace Go.Va
open Go.RowKit

/-- A step does this, in whatever state it may meet. -/
def Turns (P : Program) (T : Tab) (ops : List Oper) (F0 : FS) (lo hi : Nat) (f : Nat → Step) (E : Nat → St) (pred : Nat → Nat → Bool) : Prop :=
  ∀ i o, lo ≤ i → i < hi → ops[i]? = some o → ∀ (L : Nat → Bool) (s : St), L i = false → (∀ j, L j = true → ∀ k, pred k j = true → L k = true) → (E i).Sub s → s.fs = F0.run ((doneL hi L).map f) →
    ∀ K : St → Prop, (∀ s', s'.fs = s.fs.upd (f i) → K s') → wpG P T ops o s (Frz K)

/-- A region in whatever order, from one of its operations on. -/
def wpFrom (P : Program) (T : Tab) (ops : List Oper) (pred : Nat → Nat → Bool) : Nat → Nat → St → (St → Prop) → Prop
  | 0, lo, st, K => lo = ops.length ∧ K st
  | k + 1, lo, st, K => (lo = ops.length ∧ K st) ∨
    (∃ o, ops[lo]? = some o ∧ Cut ops.length pred (lo + 1) ∧ wpG P T ops o st (fun s => wpFrom P T ops pred k (lo + 1) s K)) ∨
    (∃ (hi : Nat) (ids ds : List Nat) (f : Nat → Step) (E : Nat → St), lo ≤ hi ∧ hi ≤ ops.length ∧ Cut ops.length pred hi ∧ Plan (purges ds (st.freeze ids)).fs hi f E pred ∧ (∀ i, i < lo → f i = ⟨none, .val (.tup [])⟩) ∧
      Turns P T ops (purges ds (st.freeze ids)).fs lo hi f E pred ∧ ∃ s, s.fs = (purges ds (st.freeze ids)).fs.run ((List.range hi).map f) ∧ wpFrom P T ops pred k hi s K)

/-- A region in whatever order. -/
def wpDraw (P : Program) (T : Tab) (ops : List Oper) (st : St) (K : St → Prop) : Prop :=
  ∃ (pred : Nat → Nat → Bool) (n : Nat), Edges ops pred ∧ (∀ j i, pred j i = true → j < i) ∧ wpFrom P T ops pred n 0 st K

def wpR (P : Program) (T : Tab) (ops : List Oper) (draw : Bool) (st : St) (K : St → Prop) : Prop :=
  if draw then wpDraw P T ops st K else wpOps P T ops ops st K

def wpV (P : Program) (T : Tab) : Code → St → Cont → Prop
  | .skip, st, Q => Q .normal st
  | .region _ ops draw, st, Q => wpR P T ops.toList draw st (normQ Q)
  | .seq a b, st, Q => wpV P T a st (thenQ (wpV P T b) Q)
  | .cond c x y, st, Q => condV (st.evB c) st (wpV P T x) (wpV P T y) Q
  | .block id c, st, Q => wpV P T c st (blockQ id Q)
  | .loop c, st, Q => wpLoop (wpV P T c) st Q
  | .exit id, st, Q => Q (.exit id) st
  | .ret, st, Q => Q .ret st
  | _, _, _ => False


section
variable {P : Program} {T : Tab} {X : Cx} {M Z : Addr → Prop} {w0 w : World} {a : Act}

theorem Rel.drew {ρ : Rho} {st : St} (h : Rel M Z w0 ρ st a w) : Rel M Z w0 ρ st a { w with drawn := w.drawn + 1 } := h.ext (Ext.drew w)
theorem Rel.sub {ρ : Rho} {st : St} (h : Rel M Z w0 ρ st a w) {s0 : St} (hs : s0.Sub st) : Rel M Z w0 ρ s0 a w where
  fr := h.fr
  heap := ⟨h.heap.owns, fun i b hb => h.heap.rep i b (hs.h i b hb)⟩
  mine := h.mine
  out := h.out
  mz := h.mz
  tmps := fun t v hv => h.tmps t v (hs.t t v hv)
  defers := h.defers
theorem sub_of_fs {s s' : St} (h : s.fs = s'.fs) : s.Sub s' := by
  simp only [St.fs, FS.mk.injEq] at h
  exact ⟨fun k x hx => by rw [← congrFun h.1 k]; exact hx, fun k x hx => by rw [← congrFun h.2 k]; exact hx⟩
theorem Rel.purges : ∀ (l : List Nat) {ρ : Rho} {st : St}, Rel M Z w0 ρ st a w → ∃ ρ', Rel M Z w0 ρ' (purges l st) a w
  | [], _, _, h => ⟨_, h⟩
  | i :: l, _, _, h => Rel.purges l (h.purge i)

theorem upd_idle (F : FS) : F.upd ⟨none, .val (.tup [])⟩ = F := FS.ext' (fun t => by simp [FS.upd]) fun k => by simp [FS.upd, Eff.b]
theorem run_idle (F : FS) : ∀ l : List Step, (∀ s ∈ l, s = ⟨none, .val (.tup [])⟩) → F.run l = F
  | [], _ => rfl
  | s :: l, h => by
    show (F.upd s).run l = F
    rw [h s (by simp), upd_idle]
    exact run_idle F l fun s' hs => h s' (by simp [hs])

theorem TrLe.fs {s s' : St} (h : s.fs = s'.fs) : TrLe s s' := fun x r hh => (sub_of_fs h).t _ _ hh

theorem from_sound (hT : TabOk P T) (hY : ∀ Y, X.Y = some Y → YlOk P Y) {ops : List Oper} {K : St → Prop} {Q : Exit → Act → World → Prop} (hok : dstsOk X.n X.pin ops = true) (hQ : ∀ a w, Goes X K a w → Q .normal a w)
    {pred : Nat → Nat → Bool} (he : Edges ops pred) (hlt : ∀ j i, pred j i = true → j < i) : ∀ (n lo : Nat) (a : Act) (w : World), lo ≤ ops.length → Cut ops.length pred lo →
      Goes X (fun st => wpFrom P T ops pred n lo st K) a w → wpAny P .any ops.toArray Q (ops.length - lo) (upTo ops.length lo) a w := by
  intro n
  induction n with
  | zero =>
    intro lo a w hlo hcut ⟨M, Z, w0, ρ, st, hL, h1, h2, h3, h4⟩
    subst h3
    rw [Nat.sub_self]
    exact end_sound (hQ a w ⟨M, Z, w0, ρ, st, hL, h1, h2, h4⟩)
  | succ n ih =>
    intro lo a w hlo hcut ⟨M, Z, w0, ρ, st, hL, hrel, hn, h⟩
    rcases h with ⟨rfl, h4⟩ | ⟨o, ho, hc, hw⟩ | ⟨hi, ids, ds, f, E, hlh, hhi, hc, hp, hidle, hturn, s1, hs1, hw⟩
    · rw [Nat.sub_self]
      exact end_sound (hQ a w ⟨M, Z, w0, ρ, st, hL, hrel, hn, h4⟩)
    · have hm : lo < ops.length := (List.getElem?_eq_some_iff.1 ho).1
      rw [show ops.length - lo = ops.length - (lo + 1) + 1 by omega]
      exact one_sound hT hY hok he hlt ho hc hcut ⟨M, Z, w0, ρ, st, hL, hrel, hn, hw⟩ fun a' w' hg => ih (lo + 1) a' w' (by omega) hc hg
    · obtain ⟨ρ', hrel'⟩ := Rel.purges ds (hrel.freeze ids)
      have hlen : ((List.range hi).filter fun j => !(upTo ops.length lo).getD j false).length = hi - lo := by
        have hsplit : List.range hi = List.range lo ++ (List.range (hi - lo)).map (lo + ·) := by
          conv => lhs; rw [show hi = lo + (hi - lo) by omega, List.range_add]
        rw [hsplit, List.filter_append, List.filter_eq_nil_iff.2, List.filter_eq_self.2]
        · simp
        · intro j hj
          obtain ⟨k, hk, rfl⟩ := List.mem_map.1 hj
          have := List.mem_range.1 hk
          rw [upTo_get _ _ _ (by omega)]
          simp
        · intro j hj
          have := List.mem_range.1 hj
          rw [upTo_get _ _ _ (by omega)]
          simp [this]
      have hout : ∀ j, ops.length ≤ j → (upTo ops.length lo).getD j false = false := fun j h => by simp [Array.getD_eq_getD_getElem?, upTo, h]
      have := seg_sound hT hY hok (fuel0 := ops.length - hi) (lo := lo) hhi hc (K := fun s => s.fs = (Va.purges ds (st.freeze ids)).fs.run ((List.range hi).map f))
        (fun a w ⟨M, Z, w0, ρ, s, gL, g1, g2, g3⟩ => ih hi a w hhi hc ⟨M, Z, w0, ρ, s1, gL.of (TrLe.fs (hs1.trans g3.symm)), g1.sub (sub_of_fs (hs1.trans g3.symm)), g2, hw⟩) hp he hturn (fun _ h => h) (hi - lo) (upTo ops.length lo) a w (upTo_size _ _) hlen (fun j hj => by rw [upTo_get _ _ _ (by omega)]; simp [hj]) (fun j hj => ?_) (fun j hj k hk => ?_) ⟨M, Z, w0, ρ', _, (hL.of (TrLe.freeze ids)).of (TrLe.purges ds), hrel', hn, ?_⟩
      · rwa [show ops.length - lo = ops.length - hi + (hi - lo) by omega]
      · rcases Nat.lt_or_ge j ops.length with h | h
        · rw [upTo_get _ _ _ h]; simp; omega
        · exact hout j h
      · have hj' : j < ops.length := by
          rcases Nat.lt_or_ge j ops.length with h | h
          · exact h
          · rw [hout j h] at hj; cases hj
        rw [upTo_get _ _ _ hj'] at hj
        have := hlt _ _ hk
        rw [upTo_get _ _ _ (by omega)]
        simp at hj ⊢
        omega
      · unfold doneL
        refine (run_idle _ _ fun s hs => ?_).symm
        obtain ⟨j, hj, rfl⟩ := List.mem_map.1 hs
        obtain ⟨h1, h2⟩ := List.mem_filter.1 hj
        have := List.mem_range.1 h1
        rw [upTo_get _ _ _ (by omega)] at h2
        exact hidle j (by simpa using h2)

theorem draw_sound (hT : TabOk P T) (hY : ∀ Y, X.Y = some Y → YlOk P Y) {ops : List Oper} {K : St → Prop} {Q : Exit → Act → World → Prop} (hok : dstsOk X.n X.pin ops = true) (hQ : ∀ a w, Goes X K a w → Q .normal a w)
    (h : Goes X (fun st => wpDraw P T ops st K) a w) : wpAny P .any ops.toArray Q ops.length (Array.replicate ops.length false) a w := by
  obtain ⟨M, Z, w0, ρ, st, hL, hrel, hn, pred, n, he, hlt, hw⟩ := h
  have := from_sound hT hY hok hQ he hlt n 0 a w (Nat.zero_le _) (fun i _ _ j hj => by omega) ⟨M, Z, w0, ρ, st, hL, hrel, hn, hw⟩
  rw [Nat.sub_zero] at this
  rwa [show Array.replicate ops.length false = upTo ops.length 0 from upTo_eq (by simp) fun j hj => by simp [Array.getD_eq_getD_getElem?, hj]]

end

end Go.Va
