/-
  Soundness, sixth part: append, copy, len, min, max.
-/
import Derived.Test.YtkfdniccmcolgaaGreatWa
import Derived.Laws.AppendOwn
import Derived.Laws.StructEq
import Derived.ChangeKeysEq
import Derived.Tactics
set_option linter.all false

namespace Go.Va
open Go.RowKit

section
variable {P : Program} {T : Tab} {M Z : Addr → Prop} {w0 w : World} {ρ : Rho} {st : St} {a : Act}

theorem RepL.append {α : Type} {r : α → Value → Prop} {xs ys : List α} {vs us : List Value} (h : RepL r xs vs) (k : RepL r ys us) : RepL r (xs ++ ys) (vs ++ us) := by
  refine ⟨by simp [h.1, k.1], fun j x v hx hv => ?_⟩
  by_cases hj : j < xs.length
  · rw [List.getElem?_append_left hj] at hx
    rw [List.getElem?_append_left (by rw [← h.1]; exact hj)] at hv
    exact h.2 j x v hx hv
  · rw [List.getElem?_append_right (by omega)] at hx
    rw [List.getElem?_append_right (by rw [← h.1]; omega), ← h.1] at hv
    exact k.2 _ x v hx hv

theorem RepL.keepD {Z' : Addr → Prop} {w' : World} {xs : List D} {vs : List Value} (h : RepL (RepD w Z) xs vs) (hk : Keep w w' Z Z') : RepL (RepD w' Z') xs vs :=
  ⟨h.1, fun j x v hx hv => (h.2 j x v hx hv).keep hk⟩

theorem Rel.congr {s s' : St} (h : Rel M Z w0 ρ s a w) (h1 : ∀ k, lk k s'.t = lk k s.t) (h2 : ∀ k, lk k s'.h = lk k s.h) : Rel M Z w0 ρ s' a w where
  fr := h.fr
  heap := ⟨h.heap.owns, fun i b hb => h.heap.rep i b ((h2 i).symm.trans hb)⟩
  mine := h.mine
  out := h.out
  mz := h.mz
  tmps := fun t v hv => h.tmps t v ((h1 t).symm.trans hv)
  defers := h.defers

/-- A row gets another number. -/
theorem Rel.move (h : Rel M Z w0 ρ st a w) {i d : Nat} {o : Own} (hi : ρ i = some o) {sz : Nat} {cs : List D} {app : Bool} (hb : lk i st.h = some (.row sz cs app)) :
    Rel M Z w0 (rhoN (rhoD ρ i) d o) ((st.drop i).new d (.row sz cs app)) a w := by
  have hsub : ∀ j o', rhoN (rhoD ρ i) d o j = some o' → (j = d ∧ o' = o) ∨ (j ≠ d ∧ ∃ o1, ρ j = some o1 ∧ ((j = i ∧ o' = o1.dead) ∨ (j ≠ i ∧ o' = o1))) := fun j o' hj => by
    by_cases e : j = d
    · subst e; rw [rhoN_same] at hj; cases hj; exact .inl ⟨rfl, rfl⟩
    · rw [rhoN_ne _ _ e] at hj; exact .inr ⟨e, rhoD_some hj⟩
  have hsubH : ∀ j o' ad, rhoN (rhoD ρ i) d o j = some o' → o'.has ad → (j = d ∧ o' = o) ∨ (j ≠ d ∧ j ≠ i ∧ ρ j = some o') := fun j o' ad hj hh => by
    rcases hsub j o' hj with h1 | ⟨h1, o1, h2, ⟨_, rfl⟩ | ⟨h3, rfl⟩⟩
    · exact .inl h1
    · exact absurd hh (o1.dead_has ad)
    · exact .inr ⟨h1, h3, h2⟩
  have hout : ∀ ad, Out (rhoN (rhoD ρ i) d o) Z ad → Out ρ Z ad := fun ad ho => by
    rcases ho with ho | ⟨j, o', hj, ho⟩
    · exact .inl ho
    · rcases hsubH j o' ad hj ho with ⟨_, rfl⟩ | ⟨_, _, h3⟩
      · exact .inr ⟨i, o', hi, ho⟩
      · exact .inr ⟨j, o', h3, ho⟩
  have hk : Keep w w (Out ρ Z) (Out (rhoN (rhoD ρ i) d o) Z) := Keep.mono hout
  have look : ∀ j o', j ≠ d → ρ j = some o' → rhoN (rhoD ρ i) d o j = some (if j = i then o'.dead else o') := fun j o' e hj => by
    rw [rhoN_ne _ _ e]
    unfold rhoD
    by_cases e2 : j = i
    · subst e2; rw [upd_same, hj]; simp
    · rw [upd_ne _ _ e2, hj]; simp [e2]
  have turn1 : Turn ρ (rhoN (rhoD ρ i) d o) w w Z (purgeG d) := fun c v hc => by
    cases c with
    | d x => exact RepD.keep hk hc
    | nl => exact hc
    | bad => exact hc
    | sl j off n =>
      simp only [C.on, purgeG]
      by_cases e : j = d
      · simp only [e, if_true]; exact RepC.one hc
      · simp only [e, if_false]
        obtain ⟨o', ho', r⟩ := hc
        refine ⟨_, look j o' e ho', ?_⟩
        split <;> exact r
    | ptr j off =>
      simp only [C.on, purgeG]
      by_cases e : j = d
      · simp only [e, if_true]; exact RepC.one hc
      · simp only [e, if_false]
        obtain ⟨o', ho', r⟩ := hc
        refine ⟨_, look j o' e ho', ?_⟩
        split <;> exact r
  exact {
    fr := h.fr
    heap := ⟨⟨fun j o' hj hn => by
        rcases hsub j o' hj with ⟨_, rfl⟩ | ⟨_, o1, h3, ⟨_, rfl⟩ | ⟨_, rfl⟩⟩
        · exact h.heap.owns.cells i o' hi hn
        · cases hn
        · exact h.heap.owns.cells j o' h3 hn,
      fun j j' o1 o2 hj hj' hne ad a1 a2 => by
        rcases hsubH j o1 ad hj a1 with ⟨rfl, rfl⟩ | ⟨n1, n2, h3⟩
        · rcases hsubH j' o2 ad hj' a2 with ⟨rfl, rfl⟩ | ⟨n1', n2', h3'⟩
          · exact absurd rfl hne
          · exact h.heap.owns.apart i j' o1 o2 hi h3' (fun e => n2' e.symm) ad a1 a2
        · rcases hsubH j' o2 ad hj' a2 with ⟨rfl, rfl⟩ | ⟨n1', n2', h3'⟩
          · exact h.heap.owns.apart j i o1 o2 h3 hi n2 ad a1 a2
          · exact h.heap.owns.apart j j' o1 o2 h3 h3' hne ad a1 a2,
      fun j o' hj => by
        rcases hsub j o' hj with ⟨_, rfl⟩ | ⟨_, o1, h3, ⟨_, rfl⟩ | ⟨_, rfl⟩⟩
        · exact h.heap.owns.lim i o' hi
        · exact h.heap.owns.lim j o1 h3
        · exact h.heap.owns.lim j o' h3⟩,
      fun j b hj => by
        by_cases e : j = d
        · subst e
          simp only [St.new, St.blk] at hj
          rw [lk_cons_same] at hj
          cases hj
          obtain ⟨o', ho', hr⟩ := h.heap.rep i _ hb
          obtain rfl : o' = o := Option.some.inj (ho'.symm.trans hi)
          obtain ⟨q1, q2, q3, q4, q5⟩ := hr
          exact ⟨o', rhoN_same _ _ _, q1, q2, q3, q4, fun k x hx => by obtain ⟨v, hv, hd⟩ := q5 k x hx; exact ⟨v, hv, hd.keep hk⟩⟩
        · simp only [St.new, St.blk] at hj
          rw [lk_cons_ne e, lk_rm_ne e] at hj
          rw [purge_eq] at hj
          obtain ⟨_, hj⟩ := lk_rm hj
          simp only [St.on, St.drop] at hj
          rw [lk_map, Option.map_eq_some_iff] at hj
          obtain ⟨b0, hb0, rfl⟩ := hj
          obtain ⟨hne, hb0⟩ := lk_rm hb0
          obtain ⟨o', ho', hr⟩ := h.heap.rep j b0 hb0
          refine ⟨o', by rw [look j o' e ho', if_neg hne], ?_⟩
          exact hr.turn turn1 hk (fun _ _ _ => rfl)⟩
    mine := fun j o' ad hj hh => by
      rcases hsubH j o' ad hj hh with ⟨_, rfl⟩ | ⟨_, _, h3⟩
      · exact h.mine i o' ad hi hh
      · exact h.mine j o' ad h3 hh
    out := h.out
    mz := h.mz
    tmps := fun t v hv => by
      simp only [St.new, St.blk, purge_eq, St.on, St.drop] at hv
      rw [lk_map, Option.map_eq_some_iff] at hv
      obtain ⟨v0, hv0, rfl⟩ := hv
      exact (h.tmps t v0 hv0).turn turn1
    defers := h.defers }

/-! ### the source -/

theorem src_rep' (h : Rel M Z w0 ρ st a w) {j : TI} {c : C} {v : Value} {m : Nat} {ds : List D} (hc : RepC ρ w Z c v) (hs : st.src j c = some (m, ds)) :
    ∃ A cap vs, v = .slice A m cap ∧ RepL (RepD w (Out ρ Z)) ds vs ∧ vs.length = m * j.size ∧ ∀ k, k ≤ m → ∀ w' : World, w'.heap = w.heap → (Builtin.firstCells j.size k v).run P w' = .ok (vs.take (k * j.size)).toArray w' := by
  have nilcase : v = .slice none 0 0 → m = 0 → ds = [] → ∃ A cap vs, v = .slice A m cap ∧ RepL (RepD w (Out ρ Z)) ds vs ∧ vs.length = m * j.size ∧ ∀ k, k ≤ m → ∀ w' : World, w'.heap = w.heap → (Builtin.firstCells j.size k v).run P w' = .ok (vs.take (k * j.size)).toArray w' := by
    rintro rfl rfl rfl
    exact ⟨none, 0, [], rfl, ⟨rfl, fun j x v hx => by simp at hx⟩, by simp, fun k hk w' _ => by simp [Builtin.firstCells]⟩
  have some_case : ∀ (ad : Addr) (cap : Nat), v = .slice (some ad) m cap → ds.length = m * j.size → (ds ≠ [] → ad.spot = none) →
      (∀ (q : Nat) (x : D), ds[q]? = some x → ∃ u, w.cell? ⟨ad.block, ad.off + q, none⟩ = some u ∧ RepD w (Out ρ Z) x u) →
      ∃ A cap vs, v = .slice A m cap ∧ RepL (RepD w (Out ρ Z)) ds vs ∧ vs.length = m * j.size ∧ ∀ k, k ≤ m → ∀ w' : World, w'.heap = w.heap → (Builtin.firstCells j.size k v).run P w' = .ok (vs.take (k * j.size)).toArray w' := by
    intro ad cap hv hl hsp hcell
    obtain ⟨vs, hvs, hget⟩ := list_of_cells (r := RepD w (Out ρ Z)) ds (fun q => w.cell? ⟨ad.block, ad.off + q, none⟩) hcell
    have hvl : vs.length = m * j.size := by rw [← hvs.1, hl]
    refine ⟨_, _, vs, hv, hvs, hvl, fun k hk w' hw => ?_⟩
    rw [hv]
    refine run_firstCells_some (P := P) w' j.size k ad m cap (vs.take (k * j.size)) (by rw [List.length_take, hvl, Nat.min_eq_left (Nat.mul_le_mul_right _ hk)]) fun q u hq => ?_
    rw [List.getElem?_take] at hq
    split at hq <;> try (cases hq; done)
    have hne : ds ≠ [] := fun e => by subst e; have := hvs.1; simp at this; rw [List.eq_nil_of_length_eq_zero this.symm] at hq; simp at hq
    rw [addr_add' ad q (hsp hne)]
    have := hget q u hq
    simpa [World.cell?, hw] using this
  cases c with
  | nl => cases hs; exact nilcase hc rfl rfl
  | bad => simp [St.src] at hs
  | ptr => simp [St.src] at hs
  | d x =>
    cases x <;> simp only [St.src] at hs <;> try cases hs
    case slice n cs =>
      split at hs <;> cases hs
      rename_i hl
      cases hc with
      | snil => exact nilcase rfl rfl rfl
      | slice _ _ ad cap vs hsp hn hm h1 h2 h3 => exact some_case ad cap rfl hl hsp fun q x hx => ⟨_, h1 q x hx, h3 q x hx⟩
  | sl i off n =>
    simp only [St.src, Option.bind_eq_some_iff] at hs
    obtain ⟨b, hb, hs⟩ := hs
    cases b with
    | box => cases hs
    | fbox => cases hs
    | row sz cs app =>
      simp only at hs
      split at hs <;> cases hs
      rename_i hcond
      obtain ⟨rfl, hlen⟩ := hcond
      obtain ⟨o, ho, _, hcase⟩ := hc
      obtain ⟨o', ho', hr⟩ := h.heap.rep i _ hb
      obtain rfl : o' = o := Option.some.inj (ho'.symm.trans ho)
      obtain ⟨q1, q2, q3, q4, q5⟩ := hr
      rcases hcase with ⟨hn, rfl, rfl, rfl⟩ | ⟨hn, ad, cap, rfl, hnc, hcm, had, _⟩
      · exact nilcase rfl rfl (by simp [cut])
      · have hl : (cut (off * j.size) (m * j.size) cs).length = m * j.size := by
          rw [Nat.add_mul] at hlen
          simp [cut]; omega
        rcases Nat.eq_zero_or_pos m with hm0 | hm0
        · subst hm0
          exact some_case ad cap rfl hl (fun hne => absurd (List.eq_nil_of_length_eq_zero (by simpa using hl)) hne) (fun q x hx => by
            have : cut (off * j.size) (0 * j.size) cs = [] := List.eq_nil_of_length_eq_zero (by simpa using hl)
            rw [this] at hx; simp at hx)
        · have hae : ad = o'.at (off * o'.sz) := by
            rcases had with h0 | h1
            · omega
            · exact h1
          subst hae
          refine some_case _ cap rfl hl (fun _ => rfl) fun q x hx => ?_
          rw [getElem?_cut] at hx
          split at hx
          · obtain ⟨u, hu, hd⟩ := q5 _ x hx
            refine ⟨u, ?_, hd⟩
            rw [← hu, q1]
            congr 1
            simp [Own.at]
            omega
          · cases hx


theorem src_rep (h : Rel M Z w0 ρ st a w) {j : TI} {c : C} {v : Value} {m : Nat} {ds : List D} (hc : RepC ρ w Z c v) (hs : st.src j c = some (m, ds)) :
    ∃ A cap vs, v = .slice A m cap ∧ RepL (RepD w (Out ρ Z)) ds vs ∧ vs.length = m * j.size ∧ ∀ w' : World, w'.heap = w.heap → (Builtin.firstCells j.size m v).run P w' = .ok vs.toArray w' := by
  obtain ⟨A, cap, vs, h1, h2, h3, h4⟩ := src_rep' (P := P) h hc hs
  refine ⟨A, cap, vs, h1, h2, h3, fun w' hw => ?_⟩
  have := h4 m (Nat.le_refl _) w' hw
  rwa [List.take_of_length_le (by omega)] at this


/-! ### append -/

theorem run_app_room {t ty e : TypeId} {i : TypeInfo} (ht : P.underlying t = some (.slice e)) (hi : P.info? e = some i) (base : Option Addr) (n c m cx : Nat) (A : Option Addr) (news : List Value) {w' : World}
    (hnews : (Builtin.firstCells i.size m (.slice A m cx)).run P w = .ok news.toArray w) (hroom : n + m ≤ c)
    (hst : ∀ ad, base = some ad → (storeCells (ad.add (n * i.size)) news).run P w = .ok () w') (hn : base = none → w' = w) :
    (Builtin.append_ #[t, t] ty #[.slice base n c, .slice A m cx]).run P w = .ok (.slice base (n + m) c) w' := by
  cases base with
  | none =>
    obtain rfl := hn rfl
    simp [Builtin.append_, run_underlying ht, sizeOf, typeInfo, hi, Builtin.lenOf, hroom, hnews]
  | some ad =>
    have hst := hst ad rfl
    simp [Builtin.append_, run_underlying ht, sizeOf, typeInfo, hi, Builtin.lenOf, hroom, hnews, hst]

theorem run_app_grow {t ty e : TypeId} {i : TypeInfo} {z : Value} (ht : P.underlying t = some (.slice e)) (hi : P.info? e = some i) (hz : i.zero = some z) (base : Option Addr) (n c m cx : Nat) (A : Option Addr) (olds news : List Value)
    (holds : (Builtin.firstCells i.size n (.slice base n c)).run P w.drew = .ok olds.toArray w.drew)
    (hnews : (Builtin.firstCells i.size m (.slice A m cx)).run P w.drew = .ok news.toArray w.drew) (hg : c < n + m) (hby : (n + m) * i.bytes ≤ 140737488355328) (hbig : n + m ≤ 140737488355328) :
    (Builtin.append_ #[t, t] ty #[.slice base n c, .slice A m cx]).run P w =
      .ok (.slice (some ⟨w.heap.size, 0, none⟩) (n + m) (grownCap w (n + m) c e)) (w.drew.alloc (.cells (olds ++ (news ++ (Builtin.zeroCells z.cells (grownCap w (n + m) c e - (n + m))).toList)).toArray e)) := by
  have hn : ¬ (n + m ≤ c) := by omega
  have h63' : ¬ (9223372036854775807 < ((n : Int) + (m : Int))) := by omega
  have hfit : Builtin.nextslicecap (n + m) c * i.bytes ≤ 281474976710656 := growslice_fits (by omega) hby
  have h48' : ¬ (281474976710656 < Builtin.nextslicecap (n + m) c * i.bytes) := by omega
  simp [Builtin.append_, run_underlying ht, sizeOf, typeInfo, zeroValue, hi, hz, Builtin.lenOf, hn, h63', h48', Question.forced, hnews, holds, newRow, grownCap]
  congr 2
  apply Array.ext'
  simp

theorem step_append (h : Rel M Z w0 ρ st a w) (hT : TabOk P T) {o : Oper} {d : Nat} (hdst : o.dst = some d) (hd : ∀ d, o.dst = some d → d < a.tmps.size) (t : TypeId) (x y : Operand)
    (ho : o.op = .call { callee := .builtin .append, args := #[x, y], argTypes := #[t, t] }) {st' : St} {i : TI} {e : Nat} {j : TI} {c s : C} {p : Nat × List D}
    (hi : T t = some i) (he : i.sl = some e) (hj : T e = some j) (hc : st.evC x = some c) (hs : st.evC y = some s) (hp : st.src j s = some p) (hst : st.app j d c p.2 p.1 = some st') : StepOk P M Z w0 o st' a w := by
  obtain ⟨m, ds⟩ := p
  simp only at hst
  obtain ⟨info, dd, ht⟩ := tyB_ok (hT t i hi)
  obtain ⟨infe, de, hte⟩ := tyB_ok (hT e j hj)
  obtain ⟨z, hz, hzc⟩ := hte.zero
  have hzr : RepL (RepC ρ w Z) j.zero z.cells.toList := zCells_rep hzc
  have hzs : z.cells.size = j.size := by have := hzr.1; simp at this; rw [← this, hte.zlen]
  obtain ⟨A, cx, news, hvy, hds, hnl, hnews⟩ := src_rep (P := P) (j := j) h (h.evC hs) hp
  have hrun : ∀ {v : Value} {w' : World}, (Builtin.append_ #[t, t] o.type #[a.eval x, .slice A m cx]).run P w = .ok v w' → (execOp a.eval o).run P w = .ok (.value v) w' := fun {v w'} hr => by
    simp only [execOp, ho, resolve, invoke, builtin, Sem.run_bind, Sem.run_pure, Result.andThen_ok, List.map_toArray, List.map_cons, List.map_nil, hvy, hr]
  -- a new block
  have grow : ∀ {ρ1 : Rho} {s1 : St} (h1 : Rel M Z w0 ρ1 s1 a w) (hsub : ∀ ad, Out ρ1 Z ad → Out ρ Z ad) (base : Option Addr) (n c : Nat) (cs : List D) (olds : List Value), a.eval x = .slice base n c →
      RepL (RepD w (Out ρ Z)) cs olds → olds.length = n * j.size → (∀ w' : World, w'.heap = w.heap → (Builtin.firstCells j.size n (.slice base n c)).run P w' = .ok olds.toArray w') → c < n + m →
      s1.appGo j d cs n ds m = some st' → StepOk P M Z w0 o st' a w := by
    intro ρ1 s1 h1 hsub base n c cs olds hvx hcs hol hfo hg hst
    unfold St.appGo at hst
    split at hst
    case isFalse => cases hst
    case isTrue hcond =>
      cases hst
      obtain ⟨hby, hbig⟩ := hcond
      unfold big at hby hbig
      have hr := run_app_grow (P := P) (w := w) (ty := o.type) (ht.slice he) hte.inf hz base n c m cx A olds news (by rw [hte.size]; exact hfo w.drew rfl) (by rw [hte.size]; rw [← hvy]; exact hnews w.drew rfl) hg (by rw [hte.bytes]; exact hby) hbig
      have hcap := grownCap_ge w (n + m) c e
      have hcapm : grownCap w (n + m) c e ≤ maxLen := grownCap_le_maxLen w (n + m) c e (by unfold maxLen; omega)
      have hk : Keep w w (Out ρ Z) (Out ρ1 Z) := Keep.mono hsub
      have hlen : (olds ++ news).length = (n + m) * j.size := by rw [List.length_append, hol, hnl, Nat.add_mul]
      have hrow := h1.newRow (Ext.drew w) rfl d (sz := j.size) (room := grownCap w (n + m) c e) (Builtin.zeroCells z.cells (grownCap w (n + m) c e - (n + m))).toList e true ((hcs.append hds).keepD hk) (by
        rw [List.length_append, hlen]
        simp only [Array.length_toList, size_zeroCells, hzs]
        rw [← Nat.add_mul]
        congr 1
        omega) hcapm
      rw [List.append_assoc] at hrow
      rw [← hvx] at hr
      exact .at hdst hd (hrun hr) hrow (newOwn_sl _ w w Z d _ _ _ hcap hcapm)
  have hxr := h.evC hc
  -- the own row
  cases c with
  | nl =>
    simp only [St.app] at hst
    have hvx : a.eval x = .slice none 0 0 := hxr
    rcases Nat.eq_zero_or_pos m with hm | hm
    · subst hm
      have hd0 : ds = [] := by have := hds.1; rw [hnl] at this; exact List.eq_nil_of_length_eq_zero (by simpa using this)
      have hnew0 : news = [] := List.eq_nil_of_length_eq_zero (by simpa using hnl)
      subst hd0; subst hnew0
      unfold St.appGo at hst
      split at hst <;> cases hst
      have hr := run_app_room (P := P) (w := w) (ty := o.type) (ht.slice he) hte.inf none 0 0 0 cx A [] (w' := w) (by rw [hte.size, ← hvy]; exact hnews w rfl) (Nat.le_refl _) (fun ad h => by cases h) (fun _ => rfl)
      rw [← hvx] at hr
      have hn := h.new (Ext.refl w) d (o := { g := 0, o := 0, sz := j.size, room := 0, app := true, nil := true }) (b := .row j.size ([] ++ []) true)
        (fun ad hh => by cases hh.1) (fun hh => by cases hh) (by simp [maxLen]) ⟨rfl, rfl, by simp, ⟨fun _ => rfl, rfl⟩, fun q x hx => by simp at hx⟩
      exact .at hdst hd (hrun hr) hn ⟨_, rhoN_same _ _ _, by simp, .inl ⟨rfl, by simpa using hvx, rfl, rfl⟩⟩
    · exact grow h (fun _ h => h) none 0 0 [] [] hvx ⟨rfl, fun j x v hx => by simp at hx⟩ (by simp) (fun w' _ => by simp [Builtin.firstCells]) (by omega) hst
  | bad => simp [St.app] at hst
  | ptr => simp [St.app] at hst
  | d => simp [St.app] at hst
  | sl b off n =>
    simp only [St.app, Option.bind_eq_some_iff] at hst
    obtain ⟨blk, hb, hst⟩ := hst
    cases blk with
    | box => cases hst
    | fbox => cases hst
    | row sz cs app =>
      simp only at hst
      split at hst
      case isFalse => cases hst
      case isTrue hcond =>
        obtain ⟨rfl, rfl, rfl, hcl⟩ := hcond
        obtain ⟨ow, how, hroom, hcase⟩ := hxr
        obtain ⟨o2, ho2, hr⟩ := h.heap.rep b _ hb
        obtain rfl : o2 = ow := Option.some.inj (ho2.symm.trans how)
        obtain ⟨q1, q2, q3, q4, q5⟩ := hr
        have hp1 := h.drop b
        rcases hcase with ⟨hn, hvx, _, rfl⟩ | ⟨hn, ad, cap, hvx, hnc, hcm, had, happ⟩
        · have hcs0 : cs = [] := List.eq_nil_of_length_eq_zero (by simpa using hcl)
          subst hcs0
          rcases Nat.eq_zero_or_pos m with hm | hm
          · subst hm
            have hd0 : ds = [] := by have := hds.1; rw [hnl] at this; exact List.eq_nil_of_length_eq_zero (by simpa using this)
            have hnew0 : news = [] := List.eq_nil_of_length_eq_zero (by simpa using hnl)
            subst hd0; subst hnew0
            unfold St.appGo at hst
            split at hst <;> cases hst
            have hr := run_app_room (P := P) (w := w) (ty := o.type) (ht.slice he) hte.inf none 0 0 0 cx A [] (w' := w) (by rw [hte.size, ← hvy]; exact hnews w rfl) (Nat.le_refl _) (fun ad h => by cases h) (fun _ => rfl)
            rw [← hvx] at hr
            have hn := hp1.new (Ext.refl w) d (o := { g := 0, o := 0, sz := j.size, room := 0, app := true, nil := true }) (b := .row j.size ([] ++ []) true)
              (fun ad hh => by cases hh.1) (fun hh => by cases hh) (by simp [maxLen]) ⟨rfl, rfl, by simp, ⟨fun _ => rfl, rfl⟩, fun q x hx => by simp at hx⟩
            exact .at hdst hd (hrun hr) hn ⟨_, rhoN_same _ _ _, by simp, .inl ⟨rfl, by simpa using hvx, rfl, rfl⟩⟩
          · exact grow hp1 (fun _ => out_rhoD) none 0 0 [] [] hvx ⟨rfl, fun j x v hx => by simp at hx⟩ (by simp) (fun w' _ => by simp [Builtin.firstCells]) (by omega) hst
        · have hn0 := hn
          replace hn : o2.gone = false := q4.2.trans hn
          obtain ⟨olds, hol, hget⟩ := list_of_cells (r := RepD w (Out ρ Z)) cs (fun q => w.cell? (o2.at q)) q5
          have holl : olds.length = n * j.size := by rw [← hol.1, hcl]
          by_cases hfit : n + m ≤ cap
          · -- in place
            unfold St.appGo at hst
            split at hst
            case isFalse => cases hst
            case isTrue hcond2 =>
              cases hst
              have hspace : n * o2.sz + news.length ≤ o2.room * o2.sz := by
                rw [hnl, q1, ← Nat.add_mul]
                exact Nat.mul_le_mul_right _ (by have := happ q2; omega)
              have hw := h.write how hn (off := n * o2.sz) (vs := news) hspace (b := .row j.size (cs ++ ds) true) fun hk => ⟨q1, q2, by
                  have := hspace
                  rw [q1, hnl] at this
                  rw [List.length_append, hcl, hds.1, hnl]
                  exact this, q4, fun q x hx => by
                  rw [setCells_at h how hn hspace]
                  by_cases hq : q < cs.length
                  · rw [List.getElem?_append_left hq] at hx
                    rw [if_neg (by rw [q1]; omega)]
                    obtain ⟨v, hv, hdd⟩ := q5 q x hx
                    exact ⟨v, hv, hdd.keep hk⟩
                  · rw [List.getElem?_append_right (by omega)] at hx
                    have hq2 : q - cs.length < ds.length := (List.getElem?_eq_some_iff.1 hx).1
                    have hq3 : q - cs.length < news.length := by rw [← hds.1]; exact hq2
                    rw [if_pos (by rw [q1]; omega)]
                    rw [show q - n * o2.sz = q - cs.length by rw [q1, hcl]]
                    exact ⟨_, List.getElem?_eq_getElem hq3, (hds.2 _ _ _ hx (List.getElem?_eq_getElem hq3)).keep hk⟩⟩
              have hmv := hw.move (d := d) how (sz := j.size) (cs := cs ++ ds) (app := true) (by simp [St.blk, lk_cons_same])
              have hst : (storeCells (ad.add (n * infe.size)) news).run P w = .ok () (w.setCells o2.g (o2.o + n * o2.sz) news) := by
                rw [hte.size]
                rcases had with hc0 | hae
                · have hm0 : m = 0 := by omega
                  subst hm0
                  have : news = [] := List.eq_nil_of_length_eq_zero (by simpa using hnl)
                  subst this
                  rfl
                · subst hae
                  have hs2 := run_storeCells_cells (P := P) o2.g (o2.o + n * o2.sz) news 0 w (fun q hq => by
                      obtain ⟨⟨u, hu⟩, _⟩ := h.heap.owns.cells b o2 how hn (n * o2.sz + q) (by omega)
                      have he : (⟨o2.g, o2.o + n * o2.sz + 0 + q, none⟩ : Addr) = o2.at (n * o2.sz + q) := by simp; omega
                      rw [he, hu]; rfl) (fun q hq => by
                      obtain ⟨_, hf⟩ := h.heap.owns.cells b o2 how hn (n * o2.sz + q) (by omega)
                      have he : (⟨o2.g, o2.o + n * o2.sz + 0 + q, none⟩ : Addr) = o2.at (n * o2.sz + q) := by simp; omega
                      rw [he, hf]) (fun v hv => by
                      obtain ⟨q, hq, rfl⟩ := List.getElem_of_mem hv
                      exact (hds.2 q _ _ (List.getElem?_eq_getElem (by rw [hds.1]; exact hq)) (List.getElem?_eq_getElem hq)).one)
                  have hea : (o2.at (0 * o2.sz)).add (n * j.size) = ⟨o2.g, o2.o + n * o2.sz, none⟩ := by
                    simp only [Own.at, addr_add]; rw [q1]; simp
                  rw [hea]
                  simpa using hs2
              have hr := run_app_room (P := P) (w := w) (ty := o.type) (ht.slice he) hte.inf (some ad) n cap m cx A news (by rw [hte.size, ← hvy]; exact hnews w rfl) hfit (fun ad' h' => by cases h'; exact hst) (fun h' => by cases h')
              rw [← hvx] at hr
              have hcg : Rel M Z w0 (rhoN (rhoD ρ b) d o2) ((st.drop b).new d (.row j.size (cs ++ ds) true)) a (w.setCells o2.g (o2.o + n * o2.sz) news) :=
                hmv.congr (fun k => by simp [St.new, St.blk, St.purge, St.on, St.drop]) (fun k => by
                  by_cases ek : k = d
                  · subst ek; simp [St.new, St.blk, lk_cons_same]
                  · simp only [St.new, St.blk]
                    rw [lk_cons_ne ek, lk_cons_ne ek, lk_rm_ne ek, lk_rm_ne ek]
                    simp only [St.purge, St.on, St.drop]
                    rw [lk_rm_ne ek, lk_rm_ne ek, lk_map, lk_map]
                    congr 1
                    by_cases eb : k = b
                    · subst eb; rw [lk_rm_same, lk_rm_same]
                    · rw [lk_rm_ne eb, lk_rm_ne eb, lk_cons_ne eb, lk_rm_ne eb])
              refine .at hdst hd (hrun hr) hcg ⟨o2, rhoN_same _ _ _, ?_, .inr ⟨hn0, ad, cap, rfl, hfit, hcm, ?_, fun _ => ?_⟩⟩
              · have := happ q2; omega
              · rcases had with h0 | h1
                · exact .inl h0
                · exact .inr h1
              · have := happ q2; omega
          · refine grow hp1 (fun _ => out_rhoD) (some ad) n cap cs olds hvx hol holl (fun w' hw' => ?_) (by omega) hst
            refine run_firstCells_some (P := P) w' j.size n ad n cap olds holl fun q u hq => ?_
            have hq' : q < olds.length := (List.getElem?_eq_some_iff.1 hq).1
            have hae : ad = o2.at (0 * o2.sz) := by
              rcases had with h0 | h1
              · have : n = 0 := by omega
                subst this
                simp at holl; subst holl; simp at hq
              · exact h1
            subst hae
            have := hget q u hq
            simp only [Nat.zero_mul]
            rw [show (o2.at 0).add q = o2.at q by simp [Own.at, addr_add]]
            simpa [World.cell?, hw'] using this

end
end Go.Va

/-
  Soundness, seventh part: the other operations.
-/
namespace Go.Va
open Go.RowKit

section
variable {P : Program} {T : Tab} {M Z : Addr → Prop} {w0 w : World} {ρ : Rho} {st : St} {a : Act}

theorem isStr_ok {t : TypeId} {i : TI} {info : TypeInfo} {d : TypeDesc} (ht : TyOk P t i info d) (h : isStr i = true) : P.underlying t = some .string := by
  unfold isStr at h
  split at h
  · rename_i s h1 h2 h3 h4
    exact ht.str h2 h3 h1 h4
  · cases h

theorem wrap_in {k : IntKind} {n : Int} (h : inK k n) : k.wrap n = n := by
  cases k <;> simp only [inK, IntKind.min, IntKind.max, IntKind.signed, IntKind.bits, if_true, Bool.false_eq_true, if_false] at h <;> simp [IntKind.wrap, IntKind.signed, IntKind.bits] at h ⊢ <;> (try split) <;> omega

theorem fitK_ok {k : IntKind} {n : Int} {v : V} (h : fitK k n = some v) : v = vI k (k.wrap n) := by
  unfold fitK at h
  split at h
  · unfold chk at h
    split at h
    · rename_i hin
      cases h
      rw [wrap_in hin]
    · cases h
  · rename_i hs
    cases h
    cases k <;> simp_all [IntKind.wrap, IntKind.signed, IntKind.bits]

theorem repI (ρ : Rho) (w : World) (Z : Addr → Prop) (k : IntKind) (n : Int) : RepV ρ w Z (vI k n) (.int k n) := RepD.int k n
theorem repBool (ρ : Rho) (w : World) (Z : Addr → Prop) (b : Bool) : RepV ρ w Z (vB b) (.bool b) := RepD.bool b

theorem binI_ok {op : BinOp} {k : IntKind} {x y : Int} {v : V} (hne : op ≠ .shl ∧ op ≠ .shr) (h : binI op k x y = some v) : ∃ u, ∀ t, (binOp op t (.int k x) (.int k y)).run P w = .ok u w ∧ RepV ρ w Z v u := by
  cases op <;> simp only [binI, andI, orI, xorI, andNotI] at h
  case add => refine ⟨_, fun t => ⟨by simp [Go.binOp, Op.intArith] <;> rfl, ?_⟩⟩; rw [fitK_ok h]; exact repI _ _ _ _ _
  case sub => refine ⟨_, fun t => ⟨by simp [Go.binOp, Op.intArith] <;> rfl, ?_⟩⟩; rw [fitK_ok h]; exact repI _ _ _ _ _
  case mul => refine ⟨_, fun t => ⟨by simp [Go.binOp, Op.intArith] <;> rfl, ?_⟩⟩; rw [fitK_ok h]; exact repI _ _ _ _ _
  case quo =>
    simp only [Option.bind_eq_some_iff, chk] at h
    obtain ⟨_, hc, h⟩ := h
    split at hc
    · rename_i hy
      refine ⟨_, fun t => ⟨by simp [Go.binOp, Op.intDiv, hy] <;> rfl, ?_⟩⟩; rw [fitK_ok h]; exact repI _ _ _ _ _
    · cases hc
  case rem =>
    simp only [Option.map_eq_some_iff, chk] at h
    obtain ⟨_, hc, rfl⟩ := h
    split at hc
    · rename_i hy
      exact ⟨_, fun t => ⟨by simp [Go.binOp, Op.intDiv, hy] <;> rfl, repI _ _ _ _ _⟩⟩
    · cases hc
  case eql => cases h; exact ⟨.bool (decide (x = y)), fun t => ⟨by simp [Go.binOp, Op.intCmp] <;> rfl, repBool _ _ _ _⟩⟩
  case neq => cases h; exact ⟨.bool (!decide (x = y)), fun t => ⟨by simp [Go.binOp, Op.intCmp] <;> rfl, repBool _ _ _ _⟩⟩
  case lss => cases h; exact ⟨_, fun t => ⟨by simp [Go.binOp, Op.intCmp] <;> rfl, repBool _ _ _ _⟩⟩
  case leq => cases h; exact ⟨_, fun t => ⟨by simp [Go.binOp, Op.intCmp] <;> rfl, repBool _ _ _ _⟩⟩
  case gtr => cases h; exact ⟨_, fun t => ⟨by simp [Go.binOp, Op.intCmp] <;> rfl, repBool _ _ _ _⟩⟩
  case geq => cases h; exact ⟨_, fun t => ⟨by simp [Go.binOp, Op.intCmp] <;> rfl, repBool _ _ _ _⟩⟩
  case and => cases h; exact ⟨_, fun t => ⟨by simp [Go.binOp, Op.intBits] <;> rfl, repI _ _ _ _ _⟩⟩
  case or => cases h; exact ⟨_, fun t => ⟨by simp [Go.binOp, Op.intBits] <;> rfl, repI _ _ _ _ _⟩⟩
  case xor => cases h; exact ⟨_, fun t => ⟨by simp [Go.binOp, Op.intBits] <;> rfl, repI _ _ _ _ _⟩⟩
  case andNot => cases h; exact ⟨_, fun t => ⟨by simp [Go.binOp, Op.intBits] <;> rfl, repI _ _ _ _ _⟩⟩
  case shl => exact absurd rfl hne.1
  case shr => exact absurd rfl hne.2

theorem shiftI_ok {op : BinOp} {k k' : IntKind} {x y : Int} {v : V} (hop : op = .shl ∨ op = .shr) (h : shiftI op k x y = some v) : ∃ u, ∀ t, (binOp op t (.int k x) (.int k' y)).run P w = .ok u w ∧ RepV ρ w Z v u := by
  rcases hop with rfl | rfl <;> simp only [shiftI, shlI, shrI, Option.map_eq_some_iff, chk] at h <;> obtain ⟨_, hc, rfl⟩ := h <;> split at hc <;> try cases hc
  · rename_i hy
    exact ⟨_, fun t => ⟨by simp [Go.binOp, Op.shift, show ¬ y < 0 by omega] <;> rfl, repI _ _ _ _ _⟩⟩
  · rename_i hy
    exact ⟨_, fun t => ⟨by simp [Go.binOp, Op.shift, show ¬ y < 0 by omega] <;> rfl, repI _ _ _ _ _⟩⟩

theorem binS_ok {op : BinOp} {x y : ByteArray} {v : V} (h : binS op x y = some v) : ∃ u, ∀ t, (binOp op t (.string x) (.string y)).run P w = .ok u w ∧ RepV ρ w Z v u := by
  cases op <;> simp only [binS] at h <;> try cases h
  case add =>
    simp only [Option.map_eq_some_iff, chk] at h
    obtain ⟨_, hc, rfl⟩ := h
    split at hc
    · rename_i hs
      refine ⟨.string (x ++ y), fun t => ⟨?_, RepD.str _⟩⟩
      have : ¬ (((x.size + y.size : Nat) : Int) > IntKind.i64.max) := by simp [IntKind.max, IntKind.signed, IntKind.bits]; omega
      simp only [Go.binOp, Op.stringOp, this, if_false, Sem.run_pure]
    · cases hc
  case eql => exact ⟨_, fun t => ⟨by simp [Go.binOp, Op.stringOp] <;> rfl, repBool _ _ _ _⟩⟩
  case neq => exact ⟨_, fun t => ⟨by simp [Go.binOp, Op.stringOp] <;> rfl, repBool _ _ _ _⟩⟩

theorem eqGuard_plain {op : BinOp} {t : TypeId} {x y : Operand} {u v : Value} (h : ∀ cs, u ≠ .agg cs) (h' : u ≠ .nilIface) : (eqGuard op t x y u v).run P w = .ok () w := by
  unfold eqGuard
  cases op <;> try (simp; done)
  all_goals
    simp only [Bool.not_true, Bool.false_eq_true, if_false]
    cases u <;> first | (exact absurd rfl h') | (exact absurd rfl (h _)) | (cases v <;> rfl)

/-! ### '==' -/

theorem run_equalIn_cell' {t : TypeId} {z : C} {x y : C} {vx vy : Value} {b : Bool} (d : Nat) (hk : kindB P t (some z) = true) (hx : RepC ρ w Z x vx) (hy : RepC ρ w Z y vy) (he : eqD z x y = some b) :
    (Op.equalIn (d + 1) t vx vy).run P w = .ok b w := by
  unfold eqD at he
  split at he
  · cases hx; cases hy
    split at he <;> cases he
    rename_i hkk
    subst hkk
    unfold kindB at hk
    cases hu : P.underlying t with
    | none => simp [hu] at hk
    | some dd =>
      cases dd <;> simp [hu] at hk
      simp [Op.equalIn, run_underlying hu]
      rfl
  · cases hx; cases hy; cases he
    unfold kindB at hk
    cases hu : P.underlying t with
    | none => simp [hu] at hk
    | some dd =>
      cases dd <;> simp [hu] at hk
      simp [Op.equalIn, run_underlying hu]
      rfl
  · cases he

theorem kindB_part {t : TypeId} {z : C} (hk : kindB P t (some z) = true) {vs : Array Value} {j : Nat} {v : Value} (hv : vs[j]? = some v) : (Go.part t vs j).run P w = .ok v w := by
  unfold kindB at hk
  cases hu : P.underlying t with
  | none => simp [hu] at hk
  | some dd => cases dd <;> simp [hu] at hk <;> simp [Go.part, Go.isAgg, run_underlying hu, hv]

theorem eqItems_ok (d : Nat) {e : TypeId} (vs us : Array Value) : ∀ (zs xs ys : List C) (k : Nat) (b : Bool), (∀ z ∈ zs, kindB P e (some z) = true) → (∀ (j : Nat) (x : C), xs[j]? = some x → ∃ v, vs[k + j]? = some v ∧ RepC ρ w Z x v) →
    (∀ (j : Nat) (x : C), ys[j]? = some x → ∃ v, us[k + j]? = some v ∧ RepC ρ w Z x v) → eqCs zs xs ys = some b →
    (Op.eqItems (d + 1) e 1 vs us (List.range' k zs.length)).run P w = .ok b w
  | [], [], [], _, _, _, _, _, h => by cases h; simp [Op.eqItems]
  | [], [], _ :: _, _, _, _, _, _, h => by cases h
  | [], _ :: _, _, _, _, _, _, _, h => by cases h
  | _ :: _, [], _, _, _, _, _, _, h => by cases h
  | _ :: _, _ :: _, [], _, _, _, _, _, h => by cases h
  | z :: zs, x :: xs, y :: ys, k, b, hz, hx, hy, h => by
    simp only [eqCs, Option.bind_eq_some_iff, Option.map_eq_some_iff] at h
    obtain ⟨b1, h1, b2, h2, rfl⟩ := h
    have hz0 := hz z (by simp)
    obtain ⟨v, hv, hvr⟩ := hx 0 x rfl
    obtain ⟨u, hu, hur⟩ := hy 0 y rfl
    have ih := eqItems_ok d vs us zs xs ys (k + 1) b2 (fun q hq => hz q (by simp [hq])) (fun j q hq => by have := hx (j + 1) q (by simpa using hq); rwa [show k + (j + 1) = k + 1 + j by omega] at this)
      (fun j q hq => by have := hy (j + 1) q (by simpa using hq); rwa [show k + (j + 1) = k + 1 + j by omega] at this) h2
    simp only [Nat.add_zero] at hv hu
    have p1 := kindB_part (P := P) (w := w) hz0 hv
    have p2 := kindB_part (P := P) (w := w) hz0 hu
    have p3 := run_equalIn_cell' d hz0 hvr hur h1
    simp only [List.length_cons, List.range'_succ, Op.eqItems, Nat.mul_one, Sem.run_bind, p1, p2, p3, Result.andThen_ok]
    cases b1
    · simp
    · simpa using ih

theorem eqFields_ok (d : Nat) (vs us : Array Value) : ∀ (zs xs ys : List C) (fs : List Field) (k : Nat) (b : Bool), fs.length = zs.length → (∀ (j : Nat) (f : Field), fs[j]? = some f → f.name ≠ "_" ∧ f.offset = k + j ∧ kindB P f.type zs[j]? = true) →
    (∀ (j : Nat) (x : C), xs[j]? = some x → ∃ v, vs[k + j]? = some v ∧ RepC ρ w Z x v) → (∀ (j : Nat) (x : C), ys[j]? = some x → ∃ v, us[k + j]? = some v ∧ RepC ρ w Z x v) → eqCs zs xs ys = some b →
    (Op.eqFields (d + 1) vs us fs).run P w = .ok b w
  | [], [], [], fs, _, _, hl, _, _, _, h => by cases h; rw [List.eq_nil_of_length_eq_zero hl]; simp [Op.eqFields]
  | [], [], _ :: _, _, _, _, _, _, _, _, h => by cases h
  | [], _ :: _, _, _, _, _, _, _, _, _, h => by cases h
  | _ :: _, [], _, _, _, _, _, _, _, _, h => by cases h
  | _ :: _, _ :: _, [], _, _, _, _, _, _, _, h => by cases h
  | z :: zs, x :: xs, y :: ys, [], k, b, hl, hf, hx, hy, h => by simp at hl
  | z :: zs, x :: xs, y :: ys, f :: fs, k, b, hl, hf, hx, hy, h => by
    simp only [eqCs, Option.bind_eq_some_iff, Option.map_eq_some_iff] at h
    obtain ⟨b1, h1, b2, h2, rfl⟩ := h
    obtain ⟨f1, f2, f3⟩ := hf 0 f rfl
    have hz0 : kindB P f.type (some z) = true := by simpa using f3
    obtain ⟨v, hv, hvr⟩ := hx 0 x rfl
    obtain ⟨u, hu, hur⟩ := hy 0 y rfl
    have ih := eqFields_ok d vs us zs xs ys fs (k + 1) b2 (by simpa using hl) (fun j q hq => by have := hf (j + 1) q (by simpa using hq); rw [show k + (j + 1) = k + 1 + j by omega] at this; simpa using this)
      (fun j q hq => by have := hx (j + 1) q (by simpa using hq); rwa [show k + (j + 1) = k + 1 + j by omega] at this)
      (fun j q hq => by have := hy (j + 1) q (by simpa using hq); rwa [show k + (j + 1) = k + 1 + j by omega] at this) h2
    simp only [Nat.add_zero] at hv hu f2
    have p1 := kindB_part (P := P) (w := w) hz0 hv
    have p2 := kindB_part (P := P) (w := w) hz0 hu
    have p3 := run_equalIn_cell' d hz0 hvr hur h1
    simp only [Op.eqFields, f1, ne_eq, not_false_eq_true, if_true, f2, Sem.run_bind, p1, p2, p3, Result.andThen_ok]
    cases b1
    · simp
    · simpa using ih

theorem agg_cells {xs : List C} {vs : List Value} (h : RepL (RepC ρ w Z) xs vs) (j : Nat) (x : C) (hx : xs[j]? = some x) : ∃ v, vs.toArray[0 + j]? = some v ∧ RepC ρ w Z x v := by
  have hj : j < vs.length := by rw [← h.1]; exact (List.getElem?_eq_some_iff.1 hx).1
  exact ⟨vs[j], by simp [hj], h.2 j x _ hx (List.getElem?_eq_getElem hj)⟩

theorem eqAgg_ok {t : TypeId} {i : TI} {info : TypeInfo} {d : TypeDesc} (ht : TyOk P t i info d) (hf : i.flat = true) {xs ys : List C} {vs us : List Value} (hx : RepL (RepC ρ w Z) xs vs) (hy : RepL (RepC ρ w Z) ys us) {b : Bool} (he : eqCs i.zero xs ys = some b) :
    (Op.equalIn 10000 t (.agg vs.toArray) (.agg us.toArray)).run P w = .ok b w ∧ P.eqGuardType P.depth t = false := by
  have hfl := ht.flat hf
  unfold flatB at hfl
  simp only [Bool.and_eq_true, Bool.not_eq_true'] at hfl
  obtain ⟨hg, hfl⟩ := hfl
  refine ⟨?_, hg⟩
  cases d <;> simp only [Bool.false_eq_true] at hfl
  case array n e =>
    simp only [Bool.and_eq_true, decide_eq_true_eq, List.all_eq_true] at hfl
    obtain ⟨⟨rfl, hc⟩, hz⟩ := hfl
    by_cases h0 : i.zero = []
    · rw [h0] at he ht
      have hxs : xs = [] := by cases xs <;> cases ys <;> simp [eqCs] at he ⊢
      have hb : true = b := by cases xs <;> cases ys <;> simp [eqCs] at he; first | exact he | exact he.symm
      have hu := ht.und
      subst hb
      cases hi : P.info? e with
      | none => simp [Program.cellsOf, hi] at hc
      | some ie =>
        rw [show (10000 : Nat) = 9999 + 1 from rfl, run_equalIn_array w 9999 _ _ hu hi]
        simp [Op.eqItems]
    · cases hi : P.info? e with
      | none => simp [Program.cellsOf, hi] at hc
      | some ie =>
        rw [show (10000 : Nat) = 9999 + 1 from rfl, run_equalIn_array w 9999 _ _ ht.und hi, hc, List.range_eq_range']
        exact eqItems_ok 9998 _ _ i.zero xs ys 0 b hz (agg_cells hx) (agg_cells hy) he
  case struct fs =>
    simp only [Bool.and_eq_true, Bool.not_eq_true', decide_eq_true_eq, List.all_eq_true] at hfl
    obtain ⟨⟨hs, hl⟩, hall⟩ := hfl
    have hfo : P.fieldsOf t = fs := by simp [Program.fieldsOf, ht.und]
    rw [show (10000 : Nat) = 9999 + 1 from rfl, run_equalIn_struct w 9999 t _ _ (by rw [hfo]; exact ht.und) hs, hfo]
    refine eqFields_ok 9998 _ _ i.zero xs ys fs.toList 0 b (by simpa using hl) (fun j f hf => ?_) (agg_cells hx) (agg_cells hy) he
    have hm : (f, j) ∈ fs.toList.zipIdx := by
      rw [List.mem_iff_getElem?]
      exact ⟨j, by simp [List.getElem?_zipIdx, hf]⟩
    have := hall _ hm
    simp only [Bool.and_eq_true, decide_eq_true_eq] at this
    obtain ⟨⟨h1, h2⟩, h3⟩ := this
    exact ⟨h1, by omega, h3⟩

end
end Go.Va

/-
  Soundness, eighth part: every operation but calls.
-/
namespace Go.Va
open Go.RowKit

section
variable {P : Program} {T : Tab} {M Z : Addr → Prop} {w0 w : World} {ρ : Rho} {st : St} {a : Act}

theorem run_equalIn_nil {t : TypeId} {pp rr : Array TypeId} {vv : Bool} (hu : P.underlying t = some (.func pp rr vv)) (d : Nat) : (Op.equalIn (d + 1) t .nilFunc .nilFunc).run P w = .ok true w := by
  simp [Op.equalIn, run_underlying hu]
theorem run_equalIn_fn {t : TypeId} {pp rr : Array TypeId} {vv : Bool} (hu : P.underlying t = some (.func pp rr vv)) (d : Nat) (f : Fn) (c1 c2 : Array Value) : (Op.equalIn (d + 1) t (.func f c1 c2) .nilFunc).run P w = .ok false w := by
  simp [Op.equalIn, run_underlying hu]

theorem run_equalIn_nosl {t e : TypeId} (hu : P.underlying t = some (.slice e)) (d : Nat) : (Op.equalIn (d + 1) t (.slice none 0 0) (.slice none 0 0)).run P w = .ok true w := by
  simp [Op.equalIn, run_underlying hu]
theorem run_equalIn_sl {t e : TypeId} (hu : P.underlying t = some (.slice e)) (d : Nat) (b : Addr) (n c : Nat) : (Op.equalIn (d + 1) t (.slice (some b) n c) (.slice none 0 0)).run P w = .ok false w := by
  simp [Op.equalIn, run_underlying hu]

theorem step_binOp (h : Rel M Z w0 ρ st a w) (hT : TabOk P T) {o : Oper} (hd : ∀ d, o.dst = some d → d < a.tmps.size) (op : BinOp) (t t' : TypeId) (x y : Operand) (ho : o.op = .binOp op t x y t') {st' : St}
    (hs : ((st.ev x).bind fun p => (st.ev y).bind fun q => (binV T op t p q).map fun v => st.put o.dst v) = some st') : StepOk P M Z w0 o st' a w := by
  simp only [Option.bind_eq_some_iff, Option.map_eq_some_iff] at hs
  obtain ⟨p, hp, q, hq, v, hv, rfl⟩ := hs
  have hx := h.ev hp
  have hy := h.ev hq
  have fin : ∀ u : Value, (eqGuard op t x y (a.eval x) (a.eval y)).run P w = .ok () w → (binOp op t (a.eval x) (a.eval y)).run P w = .ok u w → RepV ρ w Z v u → StepOk P M Z w0 o (st.put o.dst v) a w := fun u hg hr hu =>
    .val h hd (x := u) (by simp only [execOp, ho, Sem.run_bind, hg, hr, Result.andThen_ok, Sem.run_pure]) hu
  unfold binV at hv
  split at hv
  · rename_i k m k' n
    generalize hex : a.eval x = vx at hx
    generalize hey : a.eval y = vy at hy
    cases hx; cases hy
    have hg : (eqGuard op t x y (.int k m) (.int k' n)).run P w = .ok () w := eqGuard_plain (fun cs h => by cases h) (fun h => by cases h)
    split at hv
    · obtain ⟨u, hu⟩ := shiftI_ok (P := P) (w := w) (ρ := ρ) (Z := Z) (k' := k') (.inl rfl) hv
      exact fin u (by rw [hex, hey]; exact hg) (by rw [hex, hey]; exact (hu t).1) (hu t).2
    · obtain ⟨u, hu⟩ := shiftI_ok (P := P) (w := w) (ρ := ρ) (Z := Z) (k' := k') (.inr rfl) hv
      exact fin u (by rw [hex, hey]; exact hg) (by rw [hex, hey]; exact (hu t).1) (hu t).2
    · rename_i n1 n2
      split at hv
      case isFalse => cases hv
      case isTrue hk =>
        subst hk
        obtain ⟨u, hu⟩ := binI_ok (P := P) (w := w) (ρ := ρ) (Z := Z) ⟨n1, n2⟩ hv
        exact fin u (by rw [hex, hey]; exact hg) (by rw [hex, hey]; exact (hu t).1) (hu t).2
  · rename_i s s'
    generalize hex : a.eval x = vx at hx
    generalize hey : a.eval y = vy at hy
    cases hx; cases hy
    obtain ⟨u, hu⟩ := binS_ok (P := P) (w := w) (ρ := ρ) (Z := Z) hv
    exact fin u (by rw [hex, hey]; exact eqGuard_plain (fun cs h => by cases h) (fun h => by cases h)) (by rw [hex, hey]; exact (hu t).1) (hu t).2
  · simp only [Option.bind_eq_some_iff] at hv
    obtain ⟨i, hi, b, hb, hv⟩ := hv
    obtain ⟨info, d, ht⟩ := tyB_ok (hT t i hi)
    -- what '==' gives
    have key : (eqGuard op t x y (a.eval x) (a.eval y)).run P w = .ok () w ∧ (Op.equalIn 10000 t (a.eval x) (a.eval y)).run P w = .ok b w ∧
        (op = .eql → (binOp op t (a.eval x) (a.eval y)).run P w = ((Op.equalIn 10000 t (a.eval x) (a.eval y)).run P w).andThen fun b w' => .ok (.bool b) w') ∧
        (op = .neq → (binOp op t (a.eval x) (a.eval y)).run P w = ((Op.equalIn 10000 t (a.eval x) (a.eval y)).run P w).andThen fun b w' => .ok (.bool (!b)) w') := by
      unfold eqV at hb
      split at hb
      · rename_i c1 c2
        split at hb
        · rename_i bb hz
          split at hb
          case isTrue => cases hb
          case isFalse ha =>
            have ha : i.agg = false := by simpa using ha
            have hu := ht.bool ha hz
            split at hb <;> cases hb
            generalize hex : a.eval x = vx at hx
            generalize hey : a.eval y = vy at hy
            cases hx; cases hy
            refine ⟨eqGuard_plain (fun cs h => by cases h) (fun h => by cases h), by rw [show (10000 : Nat) = 9999 + 1 from rfl, run_equalIn_bool' w _ _ _ _ hu]; rfl, ?_, ?_⟩
            · rintro rfl; simp [Go.binOp, Op.equal, Op.maxDepth]
            · rintro rfl; simp [Go.binOp, Op.equal, Op.maxDepth]
        · rename_i hz
          split at hb
          case isTrue => cases hb
          case isFalse ha =>
            have ha : i.agg = false := by simpa using ha
            obtain ⟨pp, rr, vv, hu⟩ := ht.func ha hz
            split at hb <;> cases hb
            · generalize hex : a.eval x = vx at hx
              generalize hey : a.eval y = vy at hy
              cases hx; cases hy
              refine ⟨eqGuard_plain (fun cs h => by cases h) (fun h => by cases h), run_equalIn_nil hu 9999, ?_, ?_⟩
              · rintro rfl; simp [Go.binOp, Op.equal, Op.maxDepth]
              · rintro rfl; simp [Go.binOp, Op.equal, Op.maxDepth]
            · generalize hex : a.eval x = vx at hx
              generalize hey : a.eval y = vy at hy
              cases hx; cases hy
              refine ⟨eqGuard_plain (fun cs h => by cases h) (fun h => by cases h), run_equalIn_fn hu 9999 _ _ _, ?_, ?_⟩
              · rintro rfl; simp [Go.binOp, Op.equal, Op.maxDepth]
              · rintro rfl; simp [Go.binOp, Op.equal, Op.maxDepth]
        · rename_i hz
          split at hb
          case isTrue => cases hb
          case isFalse ha =>
            have ha : i.agg = false := by simpa using ha
            obtain ⟨ee, hu⟩ := ht.list ha hz
            split at hb
            · cases hb
              have e1 : a.eval x = .slice none 0 0 := hx
              have e2 : a.eval y = .slice none 0 0 := hy
              rw [e1, e2]
              refine ⟨eqGuard_plain (fun cs h => by cases h) (fun h => by cases h), run_equalIn_nosl hu 9999, ?_, ?_⟩
              · rintro rfl; simp [Go.binOp, Op.equal, Op.maxDepth]
              · rintro rfl; simp [Go.binOp, Op.equal, Op.maxDepth]
            · rename_i n cs
              split at hb
              case isTrue => cases hb
              case isFalse hn =>
                cases hb
                have e2 : a.eval y = .slice none 0 0 := hy
                obtain ⟨b0, m0, c0, e1⟩ : ∃ b m c, a.eval x = .slice (some b) m c := by
                  generalize hex : a.eval x = vx at hx
                  cases hx
                  · exact ⟨_, _, _, rfl⟩
                  · exact absurd rfl hn
                rw [e1, e2]
                refine ⟨eqGuard_plain (fun cs h => by cases h) (fun h => by cases h), run_equalIn_sl hu 9999 _ _ _, ?_, ?_⟩
                · rintro rfl; simp [Go.binOp, Op.equal, Op.maxDepth]
                · rintro rfl; simp [Go.binOp, Op.equal, Op.maxDepth]
            · cases hb
        · cases hb
      · rename_i xs ys
        split at hb
        case isFalse => cases hb
        case isTrue hf =>
          obtain ⟨vs, hvs, hlx⟩ := hx
          obtain ⟨us, hus, hly⟩ := hy
          rw [hvs, hus]
          obtain ⟨h1, h2⟩ := eqAgg_ok (P := P) (w := w) ht hf hlx hly hb
          refine ⟨run_eqGuard_agg w op t x y _ _ h2, h1, ?_, ?_⟩
          · rintro rfl; exact run_eql_struct w t _ _
          · rintro rfl; exact run_neq_struct w t _ _
      · cases hb
    obtain ⟨hg, he, k1, k2⟩ := key
    unfold eqOp at hv
    split at hv <;> cases hv
    · exact fin (.bool b) hg (by rw [k1 rfl, he]; rfl) (repBool _ _ _ _)
    · exact fin (.bool !b) hg (by rw [k2 rfl, he]; rfl) (repBool _ _ _ _)

theorem step_not (h : Rel M Z w0 ρ st a w) {o : Oper} (hd : ∀ d, o.dst = some d → d < a.tmps.size) (t : TypeId) (x : Operand) (ho : o.op = .unOp .not t x) {st' : St}
    (hs : ((st.evB x).map fun b => st.put o.dst (vB !b)) = some st') : StepOk P M Z w0 o st' a w := by
  simp only [Option.map_eq_some_iff] at hs
  obtain ⟨b, hb, rfl⟩ := hs
  exact .val h hd (x := .bool !b) (by simp [execOp, ho, h.evB hb, Op.unary]) (repBool _ _ _ _)

theorem step_neg (h : Rel M Z w0 ρ st a w) {o : Oper} (hd : ∀ d, o.dst = some d → d < a.tmps.size) (t : TypeId) (x : Operand) (ho : o.op = .unOp .neg t x) {st' : St}
    (hs : ((st.evI x).bind fun p => (fitK p.1 (0 - p.2)).map fun v => st.put o.dst v) = some st') : StepOk P M Z w0 o st' a w := by
  simp only [Option.bind_eq_some_iff, Option.map_eq_some_iff] at hs
  obtain ⟨p, hp, v, hv, rfl⟩ := hs
  rw [fitK_ok hv]
  exact .val h hd (x := .int p.1 (p.1.wrap (0 - p.2))) (by simp [execOp, ho, h.evI hp, Op.unary, Op.intArith]) (repI _ _ _ _ _)

theorem step_convert (h : Rel M Z w0 ρ st a w) (hT : TabOk P T) {o : Oper} (hd : ∀ d, o.dst = some d → d < a.tmps.size) (s t : TypeId) (x : Operand) (ho : o.op = .convert s t x) (hsrc : ∃ i, T s = some i) {st' : St}
    (hs : ((T t).bind fun i => (st.evI x).bind fun p => (convI i p.2).map fun v => st.put o.dst v) = some st') : StepOk P M Z w0 o st' a w := by
  simp only [Option.bind_eq_some_iff, Option.map_eq_some_iff] at hs
  obtain ⟨i, hi, p, hp, v, hv, rfl⟩ := hs
  obtain ⟨info, d, ht⟩ := tyB_ok (hT t i hi)
  obtain ⟨i', hi'⟩ := hsrc
  obtain ⟨info', d', ht'⟩ := tyB_ok (hT s i' hi')
  unfold convI at hv
  split at hv
  case isTrue => cases hv
  case isFalse ha =>
    split at hv <;> cases hv
    rename_i k _ hz
    have hu := ht.intKind (by simpa using ha) hz
    exact .val h hd (x := .int k (k.wrap p.2)) (by simp [execOp, ho, h.evI hp, Go.convert, run_underlying ht'.und, run_underlying hu, Conv.intToInt]) (repI _ _ _ _ _)

theorem step_nilCheck (h : Rel M Z w0 ρ st a w) {o : Oper} (hd : ∀ d, o.dst = some d → d < a.tmps.size) (x : Operand) (ho : o.op = .nilCheck x) {st' : St}
    (hs : ((st.evC x).bind fun c => (nilChk c).map fun c => st.put o.dst (vC c)) = some st') : StepOk P M Z w0 o st' a w := by
  simp only [Option.bind_eq_some_iff, Option.map_eq_some_iff] at hs
  obtain ⟨c, hc, c', hc', rfl⟩ := hs
  have hr := h.evC hc
  unfold nilChk at hc'
  split at hc' <;> cases hc'
  · obtain ⟨ow, how, hn, he⟩ := hr
    exact .val h hd (x := a.eval x) (by simp [execOp, ho, he]) ⟨ow, how, hn, he⟩
  · generalize hex : a.eval x = vx at hr
    cases hr with
    | ref _ ad vs h0 h1 h2 h3 => exact .val h hd (x := .pointer (some ad)) (by simp [execOp, ho, hex]) (RepD.ref _ ad vs h0 h1 h2 h3)
  · generalize hex : a.eval x = vx at hr
    cases hr with
    | fn _ caps vs h1 h2 => exact .val h hd (x := a.eval x) (by simp [execOp, ho, hex]) (by rw [hex]; exact RepD.fn _ _ vs h1 h2)

theorem step_fieldAddr (h : Rel M Z w0 ρ st a w) (hT : TabOk P T) {o : Oper} (hd : ∀ d, o.dst = some d → d < a.tmps.size) (t : TypeId) (x : Operand) (f : Nat) (ho : o.op = .fieldAddr t x f) {st' : St}
    (hs : ((T t).bind fun i => (st.evC x).bind fun c => (i.flds[f]?).bind fun p => (T p.2).bind fun j => if j.size = 0 then none else (fldAddr p.1 c).map fun c => st.put o.dst (vC c)) = some st') : StepOk P M Z w0 o st' a w := by
  simp only [Option.bind_eq_some_iff] at hs
  obtain ⟨i, hi, c, hc, p, hp, j, hj, hs⟩ := hs
  split at hs
  case isTrue => cases hs
  case isFalse hsz =>
    rw [Option.map_eq_some_iff] at hs
    obtain ⟨c', hc', rfl⟩ := hs
    obtain ⟨info, d, ht⟩ := tyB_ok (hT t i hi)
    obtain ⟨infj, dj, htj⟩ := tyB_ok (hT _ j hj)
    obtain ⟨fs, fd, hu, hfd, hoff, hty⟩ := ht.field hp
    have hr := h.evC hc
    have hrun : ∀ ad : Addr, a.eval x = .pointer (some ad) → (execOp a.eval o).run P w = .ok (.value (.pointer (some (ad.add p.1)))) w := fun ad he => by
      have hs := htj.sizeOf w
      rw [← hty] at hs
      simp [execOp, ho, Instr.fieldAt, run_underlying hu, hfd, Instr.sureAddr, he, fieldPlace, hs, hsz, hoff]
    unfold fldAddr at hc'
    split at hc' <;> cases hc'
    · rename_i b off
      obtain ⟨ow, how, hn, he⟩ := hr
      refine .val h hd (hrun _ he) ⟨ow, how, hn, ?_⟩
      simp [Own.at, addr_add, Nat.add_assoc]
    · rename_i cs
      generalize hex : a.eval x = vx at hr
      cases hr with
      | ref _ ad vs h0 h1 h2 h3 =>
        refine .val h hd (hrun ad hex) ?_
        by_cases hlt : p.1 < cs.length
        · have hsp := h0 (fun e => by subst e; simp at hlt)
          rw [addr_add' ad p.1 hsp]
          refine RepD.ref _ _ (fun q => vs (p.1 + q)) (fun _ => rfl) ?_ ?_ ?_
          all_goals
            intro q y hy
            rw [List.getElem?_drop] at hy
          · have := h1 _ y hy; simpa [Nat.add_assoc] using this
          · have := h2 _ y hy; simpa [Nat.add_assoc] using this
          · exact h3 _ y hy
        · have : cs.drop p.1 = [] := List.drop_eq_nil_of_le (by omega)
          rw [this]
          exact RepD.ref [] _ (fun _ => undef) (fun h => absurd rfl h) (fun q y hy => by simp at hy) (fun q y hy => by simp at hy) (fun q y hy => by simp at hy)

theorem isRow_sz (h : Rel M Z w0 ρ st a w) {b sz : Nat} (hb : isRow st.h b sz = true) {o : Own} (ho : ρ b = some o) : o.sz = sz := by
  unfold isRow at hb
  split at hb
  · rename_i sz' cs app hl
    obtain ⟨o', ho', hr⟩ := h.heap.rep b _ hl
    obtain rfl : o' = o := Option.some.inj (ho'.symm.trans ho)
    rw [hr.1]
    simpa using hb
  · rename_i cs hl
    obtain ⟨o', ho', hr⟩ := h.heap.rep b _ hl
    obtain rfl : o' = o := Option.some.inj (ho'.symm.trans ho)
    rw [hr.1]
    exact (of_decide_eq_true hb).symm
  · cases hb

theorem step_indexAddr (h : Rel M Z w0 ρ st a w) (hT : TabOk P T) {o : Oper} (hd : ∀ d, o.dst = some d → d < a.tmps.size) (t : TypeId) (x y : Operand) (ho : o.op = .indexAddr t x y) {st' : St}
    (hs : ((T t).bind fun ti => (st.evC x).bind fun c => (st.evI y).bind fun n => (idxAddr T st.h ti n.2 c).map fun c => st.put o.dst (vC c)) = some st') : StepOk P M Z w0 o st' a w := by
  simp only [Option.bind_eq_some_iff, Option.map_eq_some_iff] at hs
  obtain ⟨i, hi, c, hc, ⟨kn, n⟩, hn, c', hc', rfl⟩ := hs
  obtain ⟨info, d, ht⟩ := tyB_ok (hT t i hi)
  have hr := h.evC hc
  have hy := h.evI hn
  simp only at hy hc'
  unfold idxAddr at hc'
  split at hc'
  · rename_i m e harr
    rw [Option.bind_eq_some_iff] at hc'
    obtain ⟨j, hj, hc'⟩ := hc'
    obtain ⟨infj, dj, htj⟩ := tyB_ok (hT _ j hj)
    have hu := ht.array harr
    have hrun : ∀ ad : Addr, a.eval x = .pointer (some ad) → 0 ≤ n ∧ n < m → (execOp a.eval o).run P w = .ok (.value (.pointer (some (ad.add (n.toNat * j.size))))) w := fun ad he hb => by
      simp [execOp, ho, Instr.indexAt, hy, asIntOf, run_underlying hu, Instr.sureAddr, he, hb.1, hb.2, htj.sizeOf]
    unfold idxArr at hc'
    split at hc'
    · split at hc' <;> cases hc'
      rename_i b off hb
      obtain ⟨ow, how, hnn, he⟩ := hr
      refine .val h hd (hrun _ he hb) ⟨ow, how, hnn, ?_⟩
      simp [Own.at, addr_add, Nat.add_assoc]
    · split at hc' <;> cases hc'
      rename_i cs hb
      generalize hex : a.eval x = vx at hr
      cases hr with
      | ref _ ad vs h0 h1 h2 h3 =>
        refine .val h hd (hrun ad hex hb) ?_
        by_cases hlt : n.toNat * j.size < cs.length
        · have hsp := h0 (fun e => by subst e; simp at hlt)
          rw [addr_add' ad _ hsp]
          refine RepD.ref _ _ (fun q => vs (n.toNat * j.size + q)) (fun _ => rfl) ?_ ?_ ?_
          all_goals
            intro q y hy
            rw [List.getElem?_drop] at hy
          · have := h1 _ y hy; simpa [Nat.add_assoc] using this
          · have := h2 _ y hy; simpa [Nat.add_assoc] using this
          · exact h3 _ y hy
        · have : cs.drop (n.toNat * j.size) = [] := List.drop_eq_nil_of_le (by omega)
          rw [this]
          exact RepD.ref [] _ (fun _ => undef) (fun h => absurd rfl h) (fun q y hy => by simp at hy) (fun q y hy => by simp at hy) (fun q y hy => by simp at hy)
    · cases hc'
  · rename_i harr
    simp only [Option.bind_eq_some_iff] at hc'
    obtain ⟨e, he, j, hj, hc'⟩ := hc'
    obtain ⟨infj, dj, htj⟩ := tyB_ok (hT _ j hj)
    have hu := ht.slice he
    have hrun : ∀ (ad : Addr) (len cap : Nat), a.eval x = .slice (some ad) len cap → 0 ≤ n ∧ n < len → (execOp a.eval o).run P w = .ok (.value (.pointer (some (ad.add (n.toNat * j.size))))) w := fun ad len cap he hb => by
      simp [execOp, ho, Instr.indexAt, hy, asIntOf, run_underlying hu, he, hb.1, hb.2, htj.sizeOf]
    unfold idxSl at hc'
    split at hc'
    · split at hc' <;> cases hc'
      rename_i b off len hb
      obtain ⟨hb0, hb1, hbr⟩ := hb
      obtain ⟨ow, how, hroom, hcase⟩ := hr
      have hosz := isRow_sz h hbr how
      rcases hcase with ⟨_, _, _, h0⟩ | ⟨hnn, ad, cap, he2, hnc, hcm, had, _⟩
      · omega
      · refine .val h hd (hrun ad len cap he2 ⟨hb0, hb1⟩) ⟨ow, how, hnn, ?_⟩
        have hae : ad = ow.at (off * ow.sz) := by
          rcases had with h0 | h1
          · omega
          · exact h1
        subst hae
        simp only [Own.at, addr_add, hosz, Nat.add_mul, Nat.add_assoc]
    · split at hc' <;> cases hc'
      rename_i len cs hb
      obtain ⟨hb0, hb1, hcl⟩ := hb
      generalize hex : a.eval x = vx at hr
      cases hr with
      | snil => omega
      | slice _ _ ad cap vs h0 hnc hcm h1 h2 h3 =>
        refine .val h hd (hrun ad len cap hex ⟨hb0, hb1⟩) ?_
        by_cases hlt : n.toNat * j.size < cs.length
        · have hsp := h0 (fun e => by subst e; simp at hlt)
          rw [addr_add' ad _ hsp]
          refine RepD.ref _ _ (fun q => vs (n.toNat * j.size + q)) (fun _ => rfl) ?_ ?_ ?_
          all_goals
            intro q y hy
            rw [List.getElem?_drop] at hy
          · have := h1 _ y hy; simpa [Nat.add_assoc] using this
          · have := h2 _ y hy; simpa [Nat.add_assoc] using this
          · exact h3 _ y hy
        · have : cs.drop (n.toNat * j.size) = [] := List.drop_eq_nil_of_le (by omega)
          rw [this]
          exact RepD.ref [] _ (fun _ => undef) (fun h => absurd rfl h) (fun q y hy => by simp at hy) (fun q y hy => by simp at hy) (fun q y hy => by simp at hy)
    · cases hc'


theorem sliceN_ok {n : Nat} {lo hi : Option Int} {k : Nat → Nat → C} {c : C} (h : sliceN n lo hi k = some c) : ∃ l m : Nat, c = k l m ∧ l + m ≤ n ∧ lo.getD 0 = (l : Int) ∧ hi.getD n = ((l + m : Nat) : Int) := by
  unfold sliceN at h
  split at h <;> cases h
  rename_i hc
  obtain ⟨h1, h2, h3⟩ := hc
  exact ⟨_, _, rfl, by omega, by omega, by omega⟩

theorem run_sliceBounds (isS : Bool) (n c l m : Nat) (lo hi : Option Value) (hlo : (lo = none ∧ l = 0) ∨ ∃ k, lo = some (.int k l)) (hhi : (hi = none ∧ l + m = n) ∨ ∃ k, hi = some (.int k ((l + m : Nat) : Int))) (hc : l + m ≤ c) :
    (Instr.sliceBounds isS n c lo hi none).run P w = .ok (l, l + m, c) w := by
  rcases hhi with ⟨rfl, rfl⟩ | ⟨k, rfl⟩ <;> rcases hlo with ⟨rfl, rfl⟩ | ⟨k', rfl⟩
  · simp [Instr.sliceBounds]
  · simp [Instr.sliceBounds, Instr.sliceBound, asIntOf]
  · have h1 : ¬ (c < m) := by omega
    have h2 : m ≤ c := by omega
    simp [Instr.sliceBounds, Instr.sliceBound, asIntOf, h2]
  · have h1 : ((l : Int) + (m : Int) ≤ (c : Int)) := by omega
    have h2 : (0 : Int) ≤ (l : Int) + (m : Int) := by omega
    have h3 : ((l : Int) + (m : Int)).toNat = l + m := by omega
    simp [Instr.sliceBounds, Instr.sliceBound, asIntOf, h1, h2, h3]

theorem evO_ok (h : Rel M Z w0 ρ st a w) {x : Option Operand} {v : Option Int} (hv : st.evO x = some v) : (x.map a.eval = none ∧ v = none) ∨ ∃ k n, x.map a.eval = some (.int k n) ∧ v = some n := by
  cases x with
  | none => cases hv; exact .inl ⟨rfl, rfl⟩
  | some x =>
    simp only [St.evO, Option.map_eq_some_iff] at hv
    obtain ⟨p, hp, rfl⟩ := hv
    exact .inr ⟨p.1, p.2, by simp [h.evI hp], rfl⟩

theorem step_slice (h : Rel M Z w0 ρ st a w) (hT : TabOk P T) {o : Oper} (hd : ∀ d, o.dst = some d → d < a.tmps.size) (t : TypeId) (x : Operand) (lo hi : Option Operand) (ho : o.op = .slice t x lo hi none) {st' : St}
    (hs : ((T t).bind fun i => (st.evC x).bind fun c => (st.evO lo).bind fun l => (st.evO hi).bind fun h =>
      (match i.sl with | some e => (T e).bind fun j => sliceV st.h c l h j.size | none => if isStr i then sliceS c l h else none).map fun v => st.put o.dst (vC v)) = some st') : StepOk P M Z w0 o st' a w := by
  simp only [Option.bind_eq_some_iff, Option.map_eq_some_iff] at hs
  obtain ⟨i, hti, c, hc, lo', hlo, hi', hhi, c', hc', rfl⟩ := hs
  obtain ⟨info, d, ht⟩ := tyB_ok (hT t i hti)
  have hr := h.evC hc
  have bnd : ∀ (isS : Bool) {n c l m : Nat}, lo'.getD 0 = (l : Int) → hi'.getD n = ((l + m : Nat) : Int) → l + m ≤ c → (Instr.sliceBounds isS n c (lo.map a.eval) (hi.map a.eval) none).run P w = .ok (l, l + m, c) w := fun isS {n c l m} h1 h2 h3 => by
    refine run_sliceBounds isS n c l m _ _ ?_ ?_ h3
    · rcases evO_ok h hlo with ⟨e1, rfl⟩ | ⟨k, q, e1, rfl⟩
      · exact .inl ⟨e1, by simpa using h1.symm⟩
      · exact .inr ⟨k, by rw [e1]; simp at h1; rw [h1]⟩
    · rcases evO_ok h hhi with ⟨e1, rfl⟩ | ⟨k, q, e1, rfl⟩
      · exact .inl ⟨e1, by simp at h2; omega⟩
      · exact .inr ⟨k, by rw [e1]; simp only [Option.getD_some] at h2; rw [h2]⟩
  split at hc'
  · rename_i e he
    rw [Option.bind_eq_some_iff] at hc'
    obtain ⟨j, hj, hc'⟩ := hc'
    obtain ⟨infj, dj, htj⟩ := tyB_ok (hT _ j hj)
    have hu := ht.slice he
    have hrun : ∀ {A : Option Addr} {n cap l m : Nat}, a.eval x = .slice A n cap → lo'.getD 0 = (l : Int) → hi'.getD n = ((l + m : Nat) : Int) → l + m ≤ cap →
        (execOp a.eval o).run P w = .ok (.value (.slice (if cap = l then A else A.map (·.add (l * j.size))) m (cap - l))) w := fun {A n cap l m} he2 h1 h2 h3 => by
      have hb := bnd true h1 h2 h3
      simp [execOp, ho, Instr.sliceAt, Instr.slice, run_underlying hu, he2, hb, htj.sizeOf]
    unfold sliceV at hc'
    split at hc'
    · split at hc'
      case isFalse => cases hc'
      case isTrue hrow =>
        rename_i b off n
        obtain ⟨l, m, rfl, hlm, e1, e2⟩ := sliceN_ok hc'
        obtain ⟨ow, how, hroom, hcase⟩ := hr
        have hosz := isRow_sz h hrow how
        rcases hcase with ⟨hnn, he2, rfl, rfl⟩ | ⟨hnn, ad, cap, he2, hnc, hcm, had, happ⟩
        · have hl0 : l = 0 := by omega
          have hm0 : m = 0 := by omega
          subst hl0; subst hm0
          exact .val h hd (hrun he2 e1 e2 (by omega)) ⟨ow, how, by omega, .inl ⟨hnn, by simp, by omega, rfl⟩⟩
        · refine .val h hd (hrun he2 e1 e2 (by omega)) ⟨ow, how, by omega, .inr ⟨hnn, ?_⟩⟩
          by_cases hcl : cap = l
          · refine ⟨ad, cap - l, by simp [hcl], by omega, by omega, .inl (by omega), fun hh => by have := happ hh; omega⟩
          · refine ⟨ad.add (l * j.size), cap - l, by simp [hcl], by omega, by omega, .inr ?_, fun hh => by have := happ hh; omega⟩
            have hae : ad = ow.at (off * ow.sz) := by
              rcases had with h0 | h1
              · omega
              · exact h1
            subst hae
            simp only [Own.at, addr_add, hosz, Nat.add_mul, Nat.add_assoc]
    · obtain ⟨l, m, rfl, hlm, e1, e2⟩ := sliceN_ok hc'
      have hl0 : l = 0 := by omega
      have hm0 : m = 0 := by omega
      subst hl0; subst hm0
      exact .val h hd (hrun hr e1 e2 (by omega)) (by simp [vC, RepV, RepU, RepC])
    · split at hc'
      case isFalse => cases hc'
      case isTrue hcl =>
        rename_i n cs
        obtain ⟨l, m, rfl, hlm, e1, e2⟩ := sliceN_ok hc'
        generalize hex : a.eval x = vx at hr
        cases hr with
        | snil =>
          have hl0 : l = 0 := by omega
          have hm0 : m = 0 := by omega
          subst hl0; subst hm0
          refine .val h hd (hrun hex e1 e2 (by omega)) ?_
          simp only [cut, Nat.zero_mul, List.take_zero, List.drop_nil, ite_self, Option.map_none, Nat.sub_zero]
          exact RepD.snil
        | slice _ _ ad cap vs h0 hnc hcm h1 h2 h3 =>
          refine .val h hd (hrun hex e1 e2 (by omega)) ?_
          have hempty : m = 0 ∨ j.size = 0 → cut (l * j.size) (m * j.size) cs = [] := fun h => by
            rcases h with rfl | h
            · simp [cut]
            · simp [cut, h]
          have mkn : ∀ ad' : Addr, (cut (l * j.size) (m * j.size) cs = []) → RepD w (Out ρ Z) (.slice m (cut (l * j.size) (m * j.size) cs)) (.slice (some ad') m (cap - l)) := fun ad' he => by
            rw [he]
            exact .slice m [] ad' _ (fun _ => undef) (fun h => absurd rfl h) (by omega) (by omega) (fun q y hy => by simp at hy) (fun q y hy => by simp at hy) (fun q y hy => by simp at hy)
          by_cases hcl2 : cap = l
          · have hm0 : m = 0 := by omega
            rw [if_pos hcl2]
            exact mkn ad (hempty (.inl hm0))
          · rw [if_neg hcl2]
            simp only [Option.map_some]
            by_cases hz : m = 0 ∨ j.size = 0
            · exact mkn _ (hempty hz)
            · have hcne : cs ≠ [] := fun e => by
                subst e
                have h0 : n * j.size = 0 := hcl.symm
                rcases Nat.mul_eq_zero.1 h0 with h | h <;> omega
              have hsp := h0 hcne
              rw [addr_add' ad _ hsp]
              refine RepD.slice m _ _ (cap - l) (fun q => vs (l * j.size + q)) (fun _ => rfl) (by omega) (by omega) ?_ ?_ ?_
              all_goals
                intro q y hy
                rw [getElem?_cut] at hy
                split at hy <;> try (cases hy; done)
              · have := h1 _ y hy; simpa [Nat.add_assoc] using this
              · have := h2 _ y hy; simpa [Nat.add_assoc] using this
              · exact h3 _ y hy
    · cases hc'
  · rename_i hsl
    split at hc'
    case isFalse => cases hc'
    case isTrue hstr =>
      have hu := isStr_ok ht hstr
      unfold sliceS at hc'
      split at hc'
      · rename_i s
        obtain ⟨l, m, rfl, hlm, e1, e2⟩ := sliceN_ok hc'
        generalize hex : a.eval x = vx at hr
        cases hr
        have hb := bnd false e1 e2 hlm
        exact .val h hd (x := .string (s.extract l (l + m))) (by simp [execOp, ho, Instr.sliceAt, Instr.slice, run_underlying hu, hex, hb]) (RepD.str _)
      · cases hc'


theorem part_ok {t : TypeId} {i : TI} {info : TypeInfo} {d : TypeDesc} (ht : TyOk P t i info d) {off : Nat} {cs : List C} {u : U} (h : part i off cs = some u) {vs : List Value} (hr : RepL (RepC ρ w Z) cs vs) : ∃ v, (Go.part t vs.toArray off).run P w = .ok v w ∧ RepU ρ w Z u v := by
  unfold Va.part at h
  split at h
  · rename_i ha
    split at h <;> cases h
    rename_i hl
    refine ⟨.agg ((vs.drop off).take i.size).toArray, ?_, (vs.drop off).take i.size, rfl, ?_⟩
    · have he : vs.toArray.extract off (off + i.size) = ((vs.drop off).take i.size).toArray := by
        apply Array.ext'
        simp [List.extract]
      simp [Go.part, ht.isAgg, ha, ht.sizeOf, he]
    · have h1 := hr.1
      refine ⟨by simp [cut, h1], fun q x v hx hv => ?_⟩
      rw [getElem?_cut] at hx
      rw [List.getElem?_take, List.getElem?_drop] at hv
      split at hx <;> try (cases hx; done)
      rw [if_pos ‹_›] at hv
      exact hr.2 _ x v hx hv
  · rename_i ha
    rw [Option.map_eq_some_iff] at h
    obtain ⟨c, hc, rfl⟩ := h
    have hl : off < vs.length := by rw [← hr.1]; exact (List.getElem?_eq_some_iff.1 hc).1
    exact ⟨vs[off], by simp [Go.part, ht.isAgg, ha, hl], hr.2 off c _ hc (List.getElem?_eq_getElem hl)⟩

theorem step_field (h : Rel M Z w0 ρ st a w) (hT : TabOk P T) {o : Oper} (hd : ∀ d, o.dst = some d → d < a.tmps.size) (t : TypeId) (x : Operand) (f : Nat) (ho : o.op = .field t x f) {st' : St}
    (hs : ((T t).bind fun i => (st.evU x).bind fun u => (fieldOf T i f u).map fun u => st.put o.dst (.u u)) = some st') : StepOk P M Z w0 o st' a w := by
  simp only [Option.bind_eq_some_iff, Option.map_eq_some_iff] at hs
  obtain ⟨i, hi, u, hu, u', hu', rfl⟩ := hs
  obtain ⟨info, d, ht⟩ := tyB_ok (hT t i hi)
  have hr := h.evU hu
  unfold fieldOf at hu'
  split at hu'
  · simp only [Option.bind_eq_some_iff] at hu'
    obtain ⟨p, hp, j, hj, hpart⟩ := hu'
    obtain ⟨infj, dj, htj⟩ := tyB_ok (hT _ j hj)
    obtain ⟨fs, fd, hund, hfd, hoff, hty⟩ := ht.field hp
    obtain ⟨vs, hvs, hl⟩ := hr
    obtain ⟨v, hv, hrv⟩ := part_ok (P := P) htj hpart hl
    rw [← hty, ← hoff] at hv
    exact .val h hd (x := v) (by simp [execOp, ho, hvs, Instr.field, run_underlying hund, hfd, asAgg, hv]) hrv
  · cases hu'

theorem step_index (h : Rel M Z w0 ρ st a w) (hT : TabOk P T) {o : Oper} (hd : ∀ d, o.dst = some d → d < a.tmps.size) (t : TypeId) (x y : Operand) (ho : o.op = .index t x y) {st' : St}
    (hs : ((T t).bind fun ti => (st.evU x).bind fun u => (st.evI y).bind fun n => (indexOf T ti n.2 u).map fun u => st.put o.dst (.u u)) = some st') : StepOk P M Z w0 o st' a w := by
  simp only [Option.bind_eq_some_iff, Option.map_eq_some_iff] at hs
  obtain ⟨i, hi, u, hu, ⟨kn, n⟩, hn, u', hu', rfl⟩ := hs
  obtain ⟨info, d, ht⟩ := tyB_ok (hT t i hi)
  have hr := h.evU hu
  have hy := h.evI hn
  simp only at hy hu'
  unfold indexOf at hu'
  split at hu'
  · simp only [Option.bind_eq_some_iff] at hu'
    obtain ⟨⟨m, e⟩, hp, j, hj, hu'⟩ := hu'
    split at hu'
    case isFalse => cases hu'
    case isTrue hb =>
      obtain ⟨infj, dj, htj⟩ := tyB_ok (hT _ j hj)
      have hund := ht.array hp
      obtain ⟨vs, hvs, hl⟩ := hr
      obtain ⟨v, hv, hrv⟩ := part_ok (P := P) htj hu' hl
      exact .val h hd (x := v) (by simp [execOp, ho, hvs, hy, Instr.index, asIntOf, run_underlying hund, hb.1, hb.2, htj.sizeOf, hv]) hrv
  · rename_i s
    split at hu'
    case isFalse => cases hu'
    case isTrue hb =>
      rw [Option.map_eq_some_iff] at hu'
      obtain ⟨bt, hbt, rfl⟩ := hu'
      have hund := isStr_ok ht hb.1
      generalize hex : a.eval x = vx at hr
      cases hr
      exact .val h hd (x := .int .u8 bt.toNat) (by simp [execOp, ho, hex, hy, Instr.index, asIntOf, run_underlying hund, hb.2.1, hbt]) (repI _ _ _ _ _)
  · cases hu'

theorem step_extract (h : Rel M Z w0 ρ st a w) {o : Oper} (hd : ∀ d, o.dst = some d → d < a.tmps.size) (x : Operand) (i : Nat) (ho : o.op = .extract x i) {st' : St}
    (hs : ((st.ev x).bind fun v => (tupAt i v).map fun u => st.put o.dst (.u u)) = some st') : StepOk P M Z w0 o st' a w := by
  simp only [Option.bind_eq_some_iff, Option.map_eq_some_iff] at hs
  obtain ⟨v, hv, u, hu, rfl⟩ := hs
  have hr := h.ev hv
  unfold tupAt at hu
  split at hu
  · obtain ⟨vs, hvs, hl⟩ := hr
    have hi : i < vs.length := by rw [← hl.1]; exact (List.getElem?_eq_some_iff.1 hu).1
    exact .val h hd (x := vs[i]) (by simp [execOp, ho, hvs, Instr.extract, hi]) (hl.2 i u _ hu (List.getElem?_eq_getElem hi))
  · cases hu

theorem evCs (h : Rel M Z w0 ρ st a w) : ∀ {xs : List Operand} {cs : List C}, xs.mapM st.evC = some cs → RepL (RepC ρ w Z) cs (xs.map a.eval)
  | [], cs, hc => by simp at hc; subst hc; exact ⟨rfl, fun j x v hx => by simp at hx⟩
  | x :: xs, cs, hc => by
    simp only [List.mapM_cons, Option.pure_def, Option.bind_eq_bind, Option.bind_eq_some_iff, Option.some.injEq] at hc
    obtain ⟨c, hc1, cs', hc2, rfl⟩ := hc
    obtain ⟨i1, i2⟩ := evCs h hc2
    refine ⟨by simpa using i1, fun j y v hy hv => ?_⟩
    cases j with
    | zero => simp at hy hv; subst hy; subst hv; exact h.evC hc1
    | succ j => exact i2 j y v (by simpa using hy) (by simpa using hv)

theorem step_makeFunc (h : Rel M Z w0 ρ st a w) {o : Oper} (hd : ∀ d, o.dst = some d → d < a.tmps.size) (f : FuncId) (first captured : Array Operand) (ho : o.op = .makeFunc (.func f) first captured) {st' : St}
    (hs : (if first.toList = [] then (captured.toList.mapM st.evC).map fun cs => st.put o.dst (.u (clo st.h f cs)) else none) = some st') : StepOk P M Z w0 o st' a w := by
  split at hs
  case isFalse => cases hs
  case isTrue hf =>
    simp only [Option.map_eq_some_iff] at hs
    obtain ⟨cs, hcs, rfl⟩ := hs
    have hl := evCs h hcs
    have hf' : first = #[] := by apply Array.ext'; simpa using hf
    have e1 : captured.map a.eval = (captured.toList.map a.eval).toArray := by apply Array.ext'; simp
    refine .val h hd (x := .func (.func f) #[] (captured.toList.map a.eval).toArray) (by simp [execOp, ho, Instr.makeFunc, hf', e1]) ?_
    unfold clo
    split
    · rename_i ds hds
      obtain ⟨m1, m2⟩ := mapM_some hds
      refine RepD.fn f ds _ (m1.trans hl.1) fun j x v hx hv => ?_
      have hj : j < cs.length := by rw [← m1]; exact (List.getElem?_eq_some_iff.1 hx).1
      obtain ⟨y, hy, hf⟩ := m2 j _ (List.getElem?_eq_getElem hj)
      rw [hx] at hy
      cases hy
      exact (toD_rep h _ 4 _ v _ (hl.2 j _ v (List.getElem?_eq_getElem hj) hv) hf).keep (Keep.mono fun ad ho => by
        rcases ho with hz | ⟨j, o, h1, h2⟩
        · exact .inl hz
        · exact .inr ⟨j, o, by simpa [ersd] using h1, h2⟩)
    · exact ⟨_, rfl, hl⟩

theorem step_len (h : Rel M Z w0 ρ st a w) (hT : TabOk P T) {o : Oper} (hd : ∀ d, o.dst = some d → d < a.tmps.size) (t : TypeId) (x : Operand) (ho : o.op = .call { callee := .builtin .len, args := #[x], argTypes := #[t] }) {st' : St}
    (hs : ((T t).bind fun i => biLen i o.dst st x) = some st') : StepOk P M Z w0 o st' a w := by
  rw [Option.bind_eq_some_iff] at hs
  obtain ⟨i, hi, hs⟩ := hs
  obtain ⟨info, d, ht⟩ := tyB_ok (hT t i hi)
  unfold biLen at hs
  split at hs
  · rename_i n e harr
    cases hs
    have hu := ht.array harr
    exact .val h hd (x := .int .i64 n) (by simp [execOp, ho, resolve, invoke, builtin, Builtin.len_, run_underlying hu, goInt]) (repI _ _ _ _ _)
  · simp only [Option.bind_eq_some_iff, Option.map_eq_some_iff] at hs
    obtain ⟨c, hc, n, hn, rfl⟩ := hs
    have hr := h.evC hc
    split at hn
    · rename_i hsl
      obtain ⟨e, he⟩ := Option.isSome_iff_exists.1 hsl
      have hu := ht.slice he
      have hv : ∃ A cap, a.eval x = .slice A n cap := by
        unfold lenC at hn
        split at hn <;> cases hn
        · exact ⟨none, 0, hr⟩
        · obtain ⟨ow, how, _, ⟨_, h1, _, rfl⟩ | ⟨_, ad, cap, h1, _⟩⟩ := hr
          · exact ⟨_, _, h1⟩
          · exact ⟨_, _, h1⟩
        · generalize a.eval x = vx at hr
          cases hr with
          | snil => exact ⟨_, _, rfl⟩
          | slice => exact ⟨_, _, rfl⟩
      obtain ⟨A, cap, hv⟩ := hv
      exact .val h hd (x := .int .i64 n) (by simp [execOp, ho, resolve, invoke, builtin, Builtin.len_, run_underlying hu, hv, goInt]) (repI _ _ _ _ _)
    · split at hn
      case isFalse => cases hn
      case isTrue hstr =>
        have hu := isStr_ok ht hstr
        unfold lenS at hn
        split at hn <;> cases hn
        generalize hex : a.eval x = vx at hr
        cases hr
        exact .val h hd (x := .int .i64 _) (by simp [execOp, ho, resolve, invoke, builtin, Builtin.len_, run_underlying hu, hex, goInt] <;> rfl) (repI _ _ _ _ _)

end
end Go.Va

/-
  Soundness, ninth part: copy, min, max; any operation that is no call.
-/
namespace Go.Va
open Go.RowKit

section
variable {P : Program} {T : Tab} {M Z : Addr → Prop} {w0 w : World} {ρ : Rho} {st : St} {a : Act}

theorem minmax_min {k : IntKind} : ∀ {l : List (IntKind × Int)} {x : Int} {v : V}, minmax false k x l = some v → ∃ n : Int, v = vI k n ∧ ((l.map fun p => Value.int p.1 p.2).foldlM Builtin.min2 (.int k x)).run P w = .ok (.int k n) w
  | [], x, v, h => by cases h; exact ⟨x, rfl, by simp⟩
  | (k', y) :: r, x, v, h => by
    simp only [minmax] at h
    split at h
    case isFalse => cases h
    case isTrue hk =>
      subst hk
      obtain ⟨n, hn, hr⟩ := minmax_min h
      refine ⟨n, hn, ?_⟩
      simp only [List.map_cons, List.foldlM_cons, Builtin.min2, Sem.run_bind, Sem.run_pure, Result.andThen_ok]
      simpa using hr
theorem minmax_max {k : IntKind} : ∀ {l : List (IntKind × Int)} {x : Int} {v : V}, minmax true k x l = some v → ∃ n : Int, v = vI k n ∧ ((l.map fun p => Value.int p.1 p.2).foldlM Builtin.max2 (.int k x)).run P w = .ok (.int k n) w
  | [], x, v, h => by cases h; exact ⟨x, rfl, by simp⟩
  | (k', y) :: r, x, v, h => by
    simp only [minmax] at h
    split at h
    case isFalse => cases h
    case isTrue hk =>
      subst hk
      obtain ⟨n, hn, hr⟩ := minmax_max h
      refine ⟨n, hn, ?_⟩
      simp only [List.map_cons, List.foldlM_cons, Builtin.max2, Sem.run_bind, Sem.run_pure, Result.andThen_ok]
      simpa using hr

theorem evIs (h : Rel M Z w0 ρ st a w) : ∀ {xs : List Operand} {l : List (IntKind × Int)}, xs.mapM st.evI = some l → xs.map a.eval = l.map fun p => Value.int p.1 p.2
  | [], l, hl => by simp at hl; subst hl; rfl
  | x :: xs, l, hl => by
    simp only [List.mapM_cons, Option.pure_def, Option.bind_eq_bind, Option.bind_eq_some_iff, Option.some.injEq] at hl
    obtain ⟨p, hp, l', hl', rfl⟩ := hl
    simp [evIs h hl', h.evI hp]

theorem step_minmax (h : Rel M Z w0 ρ st a w) {o : Oper} (hd : ∀ d, o.dst = some d → d < a.tmps.size) (mx : Bool) (x : Operand) (r : List Operand) (ts : Array TypeId)
    (ho : o.op = .call { callee := .builtin (if mx then .max else .min), args := (x :: r).toArray, argTypes := ts }) {st' : St}
    (hs : ((st.evI x).bind fun p => (r.mapM st.evI).bind fun l => (minmax mx p.1 p.2 l).map fun v => st.put o.dst v) = some st') : StepOk P M Z w0 o st' a w := by
  simp only [Option.bind_eq_some_iff, Option.map_eq_some_iff] at hs
  obtain ⟨p, hp, l, hl, v, hv, rfl⟩ := hs
  have hx := h.evI hp
  have hr := evIs h hl
  cases mx with
  | false =>
    obtain ⟨n, rfl, hrun⟩ := minmax_min (P := P) (w := w) hv
    refine .val h hd (x := .int p.1 n) ?_ (repI _ _ _ _ _)
    simp [execOp, ho, resolve, invoke, builtin, Builtin.min_, hx, hr, hrun]
  | true =>
    obtain ⟨n, rfl, hrun⟩ := minmax_max (P := P) (w := w) hv
    refine .val h hd (x := .int p.1 n) ?_ (repI _ _ _ _ _)
    simp [execOp, ho, resolve, invoke, builtin, Builtin.max_, hx, hr, hrun]

theorem step_copy (h : Rel M Z w0 ρ st a w) (hT : TabOk P T) {o : Oper} (hd : ∀ d, o.dst = some d → d < a.tmps.size) (t t' : TypeId) (x y : Operand)
    (ho : o.op = .call { callee := .builtin .copy, args := #[x, y], argTypes := #[t, t'] }) {st' : St} {i : TI} {e : Nat} {j : TI} {s : C} {b off n : Nat} {p : Nat × List D} {k : Blk}
    (hi : T t = some i) (he : i.sl = some e) (hj : T e = some j) (hc : st.evC x = some (.sl b off n)) (hs : st.evC y = some s) (hp : st.src j s = some p) (hk : lk b st.h = some k)
    (hst : copyTo j o.dst b off n st p k = some st') : StepOk P M Z w0 o st' a w := by
  obtain ⟨m, ds⟩ := p
  obtain ⟨info, dd, ht⟩ := tyB_ok (hT t i hi)
  obtain ⟨infe, de, hte⟩ := tyB_ok (hT e j hj)
  obtain ⟨A, cx, news, hvy, hds, hnl, hnews⟩ := src_rep' (P := P) (j := j) h (h.evC hs) hp
  cases k with
  | box => simp [copyTo] at hst
  | fbox => simp [copyTo] at hst
  | row sz cs app =>
    simp only [copyTo] at hst
    split at hst
    case isFalse => cases hst
    case isTrue hcond =>
      cases hst
      obtain ⟨rfl, hlen⟩ := hcond
      obtain ⟨ow, how, hroom, hcase⟩ := h.evC hc
      obtain ⟨o2, ho2, hr⟩ := h.heap.rep b _ hk
      obtain rfl : o2 = ow := Option.some.inj (ho2.symm.trans how)
      obtain ⟨q1, q2, q3, q4, q5⟩ := hr
      have hmn : min m n ≤ m := Nat.min_le_left _ _
      have hmn' : min m n ≤ n := Nat.min_le_right _ _
      have hrd := hnews (min m n) hmn w rfl
      have hkl : (ds.take (min m n * j.size)).length = min m n * j.size := by
        rw [List.length_take, hds.1, hnl, Nat.min_eq_left (Nat.mul_le_mul_right _ hmn)]
      have hvl : (news.take (min m n * j.size)).length = min m n * j.size := by
        rw [List.length_take, hnl, Nat.min_eq_left (Nat.mul_le_mul_right _ hmn)]
      have hfit : off * j.size + min m n * j.size ≤ cs.length := by
        have := Nat.mul_le_mul_right j.size hmn'
        rw [Nat.add_mul] at hlen
        omega
      have hds' : RepL (RepD w (Out ρ Z)) (ds.take (min m n * j.size)) (news.take (min m n * j.size)) := by
        refine ⟨by rw [hkl, hvl], fun q y v hy hv => ?_⟩
        rw [List.getElem?_take] at hy hv
        split at hy <;> try (cases hy; done)
        rw [if_pos ‹_›] at hv
        exact hds.2 q y v hy hv
      have hmin : Nat.min m n = min m n := rfl
      have fin : ∀ w' : World, (∀ ad cap, a.eval x = .slice (some ad) n cap → (storeCells ad (news.take (min m n * j.size))).run P w = .ok () w') → (a.eval x = .slice none 0 0 → w' = w) →
          Rel M Z w0 ρ (st.blk b (.row j.size (splice (off * j.size) (ds.take (min m n * j.size)) cs) app)) a w' →
          StepOk P M Z w0 o ((st.blk b (.row j.size (splice (off * j.size) (ds.take (min m n * j.size)) cs) app)).put o.dst (vI .i64 (min m n : Nat))) a w := fun w' h1 h2 hrel => by
        refine .new hd (x := .int .i64 (min m n : Nat)) ?_ hrel (repI _ _ _ _ _)
        rw [hvy] at hrd
        rcases hcase with ⟨_, he2, _, rfl⟩ | ⟨_, ad, cap, he2, _⟩
        · obtain rfl := h2 he2
          simp only [Nat.min_zero, Nat.zero_mul, List.take_zero] at hrd
          simp [execOp, ho, resolve, invoke, builtin, Builtin.copy_, run_underlying (ht.slice he), he2, hvy, Builtin.lenOf, hte.sizeOf, hrd, goInt]
        · have h3 := h1 ad cap he2
          simp [execOp, ho, resolve, invoke, builtin, Builtin.copy_, run_underlying (ht.slice he), he2, hvy, Builtin.lenOf, hte.sizeOf, hmin, hrd, h3, goInt]
      rcases hcase with ⟨hn, he2, rfl, rfl⟩ | ⟨hn, ad, cap, he2, hnc, hcm, had, _⟩
      · refine fin w (fun ad cap h => by rw [he2] at h; cases h) (fun _ => rfl) ?_
        have hsp : splice (0 * j.size) (ds.take (min m 0 * j.size)) cs = cs := by simp [splice]
        rw [hsp]
        refine h.congr (fun _ => rfl) fun q => ?_
        simp only [St.blk]
        by_cases e : q = b
        · subst e; rw [lk_cons_same, hk]
        · rw [lk_cons_ne e, lk_rm_ne e]
      · replace hn : o2.gone = false := q4.2.trans hn
        have hspace : off * j.size + (news.take (min m n * j.size)).length ≤ o2.room * o2.sz := by rw [hvl, q1]; omega
        have hw := h.write how hn (off := off * j.size) (vs := news.take (min m n * j.size)) hspace (b := .row j.size (splice (off * j.size) (ds.take (min m n * j.size)) cs) app) fun hk => ⟨q1, q2, by
          rw [length_splice _ _ _ (by rw [hkl]; exact hfit)]; exact q3, q4, fun q y hy => by
          rw [setCells_at h how hn hspace, hvl]
          rw [splice_get _ _ _ (by rw [hkl]; exact hfit), hkl] at hy
          split at hy
          · rename_i hq
            rw [if_pos hq]
            have hq2 : q - off * j.size < (news.take (min m n * j.size)).length := by rw [hvl]; omega
            exact ⟨_, List.getElem?_eq_getElem hq2, (hds'.2 _ _ _ hy (List.getElem?_eq_getElem hq2)).keep hk⟩
          · rename_i hq
            rw [if_neg hq]
            obtain ⟨v, hv, hdd⟩ := q5 q y hy
            exact ⟨v, hv, hdd.keep hk⟩⟩
        refine fin _ (fun ad' cap' h' => ?_) (fun h' => by rw [he2] at h'; cases h') hw
        rw [he2] at h'
        cases h'
        rcases had with hc0 | hae
        · have hn0 : n = 0 := by omega
          subst hn0
          simp [storeCells, World.setCells]
        · subst hae
          have hs2 := run_storeCells_cells (P := P) o2.g (o2.o + off * j.size) (news.take (min m n * j.size)) 0 w (fun q hq => by
              obtain ⟨⟨u, hu⟩, _⟩ := h.heap.owns.cells b o2 how hn (off * j.size + q) (by omega)
              have he : (⟨o2.g, o2.o + off * j.size + 0 + q, none⟩ : Addr) = o2.at (off * j.size + q) := by simp; omega
              rw [he, hu]; rfl) (fun q hq => by
              obtain ⟨_, hf⟩ := h.heap.owns.cells b o2 how hn (off * j.size + q) (by omega)
              have he : (⟨o2.g, o2.o + off * j.size + 0 + q, none⟩ : Addr) = o2.at (off * j.size + q) := by simp; omega
              rw [he, hf]) (fun v hv => by
              obtain ⟨q, hq, rfl⟩ := List.getElem_of_mem hv
              exact (hds'.2 q _ _ (List.getElem?_eq_getElem (by rw [hds'.1]; exact hq)) (List.getElem?_eq_getElem hq)).one)
          rw [q1]
          simpa using hs2

theorem step_clear (h : Rel M Z w0 ρ st a w) (hT : TabOk P T) {o : Oper} (hd : ∀ d, o.dst = some d → d < a.tmps.size) (t : TypeId) (x : Operand)
    (ho : o.op = .call { callee := .builtin .clear, args := #[x], argTypes := #[t] }) {st' : St} {i : TI} {e : Nat} {j : TI} {c : C} {z : List D}
    (hi : T t = some i) (he : i.sl = some e) (hj : T e = some j) (hc : st.evC x = some c) (hz : j.zero.mapM (toD (fun _ => false) st.h 4) = some z) (hst : clearTo j z o.dst st c = some st') : StepOk P M Z w0 o st' a w := by
  obtain ⟨info, dd, ht⟩ := tyB_ok (hT t i hi)
  obtain ⟨infe, de, hte⟩ := tyB_ok (hT e j hj)
  obtain ⟨zv, hzv, hzc⟩ := hte.zero
  have hun : ∀ {w : World} (ρ : Rho), RepV ρ w Z (.tup []) (.tuple #[]) := fun ρ => ⟨[], rfl, rfl, fun j x v hx => by simp at hx⟩
  unfold clearTo at hst
  split at hst
  case h_3 => cases hst
  case h_1 =>
    cases hst
    have he2 : a.eval x = .slice none 0 0 := h.evC hc
    exact .val h hd (x := .tuple #[]) (by simp [execOp, ho, resolve, invoke, builtin, Builtin.clear_, run_underlying (ht.slice he), he2]) (hun ρ)
  case h_2 b off n =>
    rw [Option.bind_eq_some_iff] at hst
    obtain ⟨k, hk, hst⟩ := hst
    split at hst
    case h_2 => cases hst
    case h_1 sz cs app =>
      split at hst
      case isFalse => cases hst
      case isTrue hcond =>
        cases hst
        obtain ⟨rfl, hlen⟩ := hcond
        obtain ⟨ow, how, hroom, hcase⟩ := h.evC hc
        obtain ⟨o2, ho2, hr⟩ := h.heap.rep b _ hk
        obtain rfl : o2 = ow := Option.some.inj (ho2.symm.trans how)
        obtain ⟨q1, q2, q3, q4, q5⟩ := hr
        have hzr : RepL (RepC ρ w Z) j.zero zv.cells.toList := zCells_rep hzc
        have hzs : zv.cells.size = j.size := by have := hzr.1; simp at this; rw [← this, hte.zlen]
        obtain ⟨hm1, hm2⟩ := mapM_some hz
        have hers : ersd (fun _ => false) ρ = ρ := by funext q; simp [ersd]
        have hdz : RepL (RepD w (Out ρ Z)) z zv.cells.toList := by
          refine ⟨hm1.trans hzr.1, fun q y v hy hv => ?_⟩
          have hq : q < j.zero.length := by rw [← hm1]; exact (List.getElem?_eq_some_iff.1 hy).1
          obtain ⟨y', hy', hf⟩ := hm2 q _ (List.getElem?_eq_getElem hq)
          rw [hy] at hy'
          cases hy'
          have := toD_rep h (fun _ => false) 4 _ v _ (hzr.2 q _ v (List.getElem?_eq_getElem hq) hv) hf
          rwa [hers] at this
        have hnews := zero_rep hdz n
        generalize hnw : (Array.range (n * zv.cells.size)).map (zv.cells[· % zv.cells.size]!) = news at hnews
        have hzl : z.length = j.size := by rw [hm1, hte.zlen]
        have hkl : (rep n z).length = n * j.size := by rw [length_rep, hzl]
        have hvl : news.toList.length = n * j.size := by rw [← hnews.1, hkl]
        have hfit : off * j.size + n * j.size ≤ cs.length := by rw [Nat.add_mul] at hlen; exact hlen
        rcases hcase with ⟨hn, he2, rfl, rfl⟩ | ⟨hn, ad, cap, he2, hnc, hcm, had, _⟩
        · have hsp : splice (0 * j.size) (rep 0 z) cs = cs := by simp [splice, rep]
          rw [hsp]
          refine .new hd (x := .tuple #[]) (by simp [execOp, ho, resolve, invoke, builtin, Builtin.clear_, run_underlying (ht.slice he), he2]) (h.congr (s' := st.blk b (.row j.size cs app)) (fun _ => rfl) fun q => ?_) (hun ρ)
          simp only [St.blk]
          by_cases e : q = b
          · subst e; rw [lk_cons_same, hk]
          · rw [lk_cons_ne e, lk_rm_ne e]
        · by_cases hn0 : n = 0
          · subst hn0
            have hsp : splice (off * j.size) (rep 0 z) cs = cs := by simp [splice, rep]
            rw [hsp]
            refine .new hd (x := .tuple #[]) (by simp [execOp, ho, resolve, invoke, builtin, Builtin.clear_, run_underlying (ht.slice he), he2]) (h.congr (s' := st.blk b (.row j.size cs app)) (fun _ => rfl) fun q => ?_) (hun ρ)
            simp only [St.blk]
            by_cases e : q = b
            · subst e; rw [lk_cons_same, hk]
            · rw [lk_cons_ne e, lk_rm_ne e]
          · replace hn : o2.gone = false := q4.2.trans hn
            have hspace : off * j.size + news.toList.length ≤ o2.room * o2.sz := by rw [hvl, q1]; omega
            have hw := h.write how hn (off := off * j.size) (vs := news.toList) hspace (b := .row j.size (splice (off * j.size) (rep n z) cs) app) fun hk => ⟨q1, q2, by
              rw [length_splice _ _ _ (by rw [hkl]; exact hfit)]; exact q3, q4, fun q y hy => by
              rw [setCells_at h how hn hspace, hvl]
              rw [splice_get _ _ _ (by rw [hkl]; exact hfit), hkl] at hy
              split at hy
              · rename_i hq
                rw [if_pos hq]
                have hq2 : q - off * j.size < news.toList.length := by rw [hvl]; omega
                exact ⟨_, List.getElem?_eq_getElem hq2, (hnews.2 _ _ _ hy (List.getElem?_eq_getElem hq2)).keep hk⟩
              · rename_i hq
                rw [if_neg hq]
                obtain ⟨v, hv, hdd⟩ := q5 q y hy
                exact ⟨v, hv, hdd.keep hk⟩⟩
            rcases had with hc0 | hae
            · omega
            · subst hae
              have hs2 := run_storeCells_cells (P := P) o2.g (o2.o + off * j.size) news.toList 0 w (fun q hq => by
                  obtain ⟨⟨u, hu⟩, _⟩ := h.heap.owns.cells b o2 how hn (off * j.size + q) (by omega)
                  have he : (⟨o2.g, o2.o + off * j.size + 0 + q, none⟩ : Addr) = o2.at (off * j.size + q) := by simp; omega
                  rw [he, hu]; rfl) (fun q hq => by
                  obtain ⟨_, hf⟩ := h.heap.owns.cells b o2 how hn (off * j.size + q) (by omega)
                  have he : (⟨o2.g, o2.o + off * j.size + 0 + q, none⟩ : Addr) = o2.at (off * j.size + q) := by simp; omega
                  rw [he, hf]) (fun v hv => by
                  obtain ⟨q, hq, rfl⟩ := List.getElem_of_mem hv
                  exact (hnews.2 q _ _ (List.getElem?_eq_getElem (by rw [hnews.1]; exact hq)) (List.getElem?_eq_getElem hq)).one)
              refine .new hd (x := .tuple #[]) ?_ hw (hun ρ)
              have hzz : Builtin.zeroCells zv.cells n = news := hnw
              have hne : ∀ m, n ≠ m + 0 ∨ n = m := fun m => by omega
              rw [q1] at he2
              simp only [Nat.add_zero] at hs2
              cases n with
              | zero => exact absurd rfl hn0
              | succ n => simp [execOp, ho, resolve, invoke, builtin, Builtin.clear_, run_underlying (ht.slice he), he2, zeroValue, typeInfo, hte.inf, hzv, hzz, Own.at, hs2]

/-- Any operation that is no call of a function. -/
theorem step_sound (h : Rel M Z w0 ρ st a w) (hT : TabOk P T) {o : Oper} (hd : ∀ d, o.dst = some d → d < a.tmps.size) {st' : St} (hs : stepOp T o st = some st') : StepOk P M Z w0 o st' a w := by
  unfold stepOp at hs
  split at hs
  · exact step_nil h hT hd ‹_› hs
  · exact step_move h hd _ (.inl ‹_›) hs
  · exact step_move h hd _ (.inr ‹_›) hs
  · exact step_pick h hd _ _ _ ‹_› hs
  · exact step_alloc h hT hd _ ‹_› hs
  · exact step_box h hT hd _ _ ‹_› hs
  · exact step_build h hT hd _ _ ‹_› hs
  · exact step_buildSlice h hT hd _ _ _ ‹_› hs
  · exact step_load h hT hd _ _ ‹_› hs
  · exact step_store h hT hd _ _ _ ‹_› hs
  · exact step_nilCheck h hd _ ‹_› hs
  · exact step_binOp h hT hd _ _ _ _ _ ‹_› hs
  · exact step_not h hd _ _ ‹_› hs
  · exact step_neg h hd _ _ ‹_› hs
  · rw [Option.bind_eq_some_iff] at hs
    obtain ⟨i, hi, hs⟩ := hs
    exact step_convert h hT hd _ _ _ ‹_› ⟨i, hi⟩ hs
  · exact step_makeSlice h hT hd _ _ _ ‹_› hs
  · exact step_slice h hT hd _ _ _ _ ‹_› hs
  · exact step_fieldAddr h hT hd _ _ _ ‹_› hs
  · exact step_field h hT hd _ _ _ ‹_› hs
  · exact step_indexAddr h hT hd _ _ _ ‹_› hs
  · exact step_index h hT hd _ _ _ ‹_› hs
  · exact step_extract h hd _ _ ‹_› hs
  · exact step_makeFunc h hd _ _ _ ‹_› hs
  · rename_i b args ts ho
    unfold stepBuiltin at hs
    split at hs
    · rename_i t x ht hx
      have hts : ts = #[t] := by apply Array.ext'; simpa using ht
      have hxs : args = #[x] := by apply Array.ext'; simpa using hx
      subst hts; subst hxs
      exact step_len h hT hd t x ho hs
    · rename_i t t' x y ht hx
      have hts : ts = #[t, t'] := by apply Array.ext'; simpa using ht
      have hxs : args = #[x, y] := by apply Array.ext'; simpa using hx
      subst hts; subst hxs
      simp only [Option.bind_eq_some_iff] at hs
      obtain ⟨d, hdst, i, hi, e, he, j, hj, c, hc, s, hsy, hs⟩ := hs
      split at hs
      case isFalse => cases hs
      case isTrue htt =>
        subst htt
        rw [Option.bind_eq_some_iff] at hs
        obtain ⟨p, hp, hs⟩ := hs
        exact step_append h hT hdst hd t' x y ho hi he hj hc hsy hp hs
    · rename_i t t' x y ht hx
      have hts : ts = #[t, t'] := by apply Array.ext'; simpa using ht
      have hxs : args = #[x, y] := by apply Array.ext'; simpa using hx
      subst hts; subst hxs
      simp only [Option.bind_eq_some_iff] at hs
      obtain ⟨i, hi, e, he, j, hj, c, hc, s, hsy, hs⟩ := hs
      split at hs
      case h_2 => cases hs
      case h_1 b off n =>
        split at hs
        case isFalse => cases hs
        case isTrue htt =>
          simp only [Option.bind_eq_some_iff] at hs
          obtain ⟨p, hp, k, hk, hs⟩ := hs
          exact step_copy h hT hd t t' x y ho hi he hj hc hsy hp hk hs
    · rename_i x r hx
      have hxs : args = (x :: r).toArray := by apply Array.ext'; simpa using hx
      subst hxs
      exact step_minmax h hd false x r ts ho hs
    · rename_i t x ht hx
      have hts : ts = #[t] := by apply Array.ext'; simpa using ht
      have hxs : args = #[x] := by apply Array.ext'; simpa using hx
      subst hts; subst hxs
      simp only [Option.bind_eq_some_iff] at hs
      obtain ⟨i, hi, e, he, j, hj, c, hc, z, hz, hs⟩ := hs
      exact step_clear h hT hd t x ho hi he hj hc hz hs
    · rename_i x r hx
      have hxs : args = (x :: r).toArray := by apply Array.ext'; simpa using hx
      subst hxs
      exact step_minmax h hd true x r ts ho hs
    · cases hs
  · cases hs

end
end Go.Va

/-
  Soundness, tenth part: calls, regions, code, functions.
-/
namespace Go.Va
open Go.RowKit

section
variable {P : Program} {T : Tab} {M Z : Addr → Prop} {w0 w : World} {ρ : Rho} {st : St} {a : Act}

theorem flat_rep {Z' : Addr → Prop} {w' : World} {x : D} {v : Value} (hf : x.flat = true) (h : RepD w Z x v) : RepD w' Z' x v := by
  cases h with
  | int k n => exact .int k n
  | bool b => exact .bool b
  | str s => exact .str s
  | nilFn => exact .nilFn
  | nilPtr => exact .nilPtr
  | lit _ h => exact .lit _ h
  | any _ h => exact .any _ h
  | slice => cases hf
  | snil => cases hf
  | ref => cases hf
  | fn => cases hf

theorem impC_rep {ρs ρ2 : Rho} {Zc : Addr → Prop} {w' : World} {k : Nat} {fl : Bool} (tr : ∀ x v, (fl = true → D.flat x = true) → RepD w' (Out ρs Zc) x v → RepD w' (Out ρ2 Z) x v) (hk : ∀ o, ρs k = some o → ρ2 k = some o)
    {c : RC} {v : Value} (hfl : fl = true → c.flat = true) (h : RepC ρs w' Zc (c.imp k) v) : RepC ρ2 w' Z (c.imp k) v := by
  cases c with
  | d x => exact tr x v hfl h
  | own sz n cs => obtain ⟨o, ho, r⟩ := h; exact ⟨o, hk o ho, r⟩

theorem impU_rep {ρs ρ2 : Rho} {Zc : Addr → Prop} {w' : World} {k : Nat} {fl : Bool} (tr : ∀ x v, (fl = true → D.flat x = true) → RepD w' (Out ρs Zc) x v → RepD w' (Out ρ2 Z) x v) (hk : ∀ o, ρs k = some o → ρ2 k = some o)
    {u : RU} {v : Value} (hfl : fl = true → u.flat = true) (h : RepU ρs w' Zc (u.imp k) v) : RepU ρ2 w' Z (u.imp k) v := by
  cases u with
  | c x => exact impC_rep tr hk hfl h
  | agg cs =>
    obtain ⟨vs, rfl, h1, h2⟩ := h
    refine ⟨vs, rfl, h1, fun j c v hc hv => ?_⟩
    have hr := h2 j c v hc hv
    simp only [List.getElem?_map, Option.map_eq_some_iff] at hc
    obtain ⟨c0, hc0, rfl⟩ := hc
    refine impC_rep tr hk (fun hf => ?_) hr
    have := hfl hf
    simp only [RU.flat, List.all_eq_true] at this
    exact this _ (List.mem_of_getElem? hc0)

theorem impR_rep {ρs ρ2 : Rho} {Zc : Addr → Prop} {w' : World} {k : Nat} {fl : Bool} (tr : ∀ x v, (fl = true → D.flat x = true) → RepD w' (Out ρs Zc) x v → RepD w' (Out ρ2 Z) x v) (hk : ∀ o, ρs k = some o → ρ2 k = some o)
    {r : R} {v : Value} (hfl : fl = true → r.flat = true) (h : RepV ρs w' Zc (r.imp k) v) : RepV ρ2 w' Z (r.imp k) v := by
  cases r with
  | u x => exact impU_rep tr hk hfl h
  | tup xs =>
    obtain ⟨vs, rfl, h1, h2⟩ := h
    refine ⟨vs, rfl, h1, fun j c v hc hv => ?_⟩
    have hr := h2 j c v hc hv
    simp only [List.getElem?_map, Option.map_eq_some_iff] at hc
    obtain ⟨c0, hc0, rfl⟩ := hc
    refine impU_rep tr hk (fun hf => ?_) hr
    have := hfl hf
    simp only [R.flat, List.all_eq_true] at this
    exact this _ (List.mem_of_getElem? hc0)

theorem RC.rows_row {c : RC} {b : Blk} (h : b ∈ c.rows) : ∃ sz n cs, b = .row sz cs true ∧ c = .own sz n cs := by
  cases c with
  | d x => simp [RC.rows] at h
  | own sz n cs => simp [RC.rows] at h; exact ⟨sz, n, cs, h, rfl⟩
theorem RU.rows_row {c : RU} {b : Blk} (h : b ∈ c.rows) : ∃ sz cs, b = .row sz cs true ∧ (c.flat = true → cs.all D.flat = true) := by
  cases c with
  | c x => obtain ⟨sz, n, cs, h1, rfl⟩ := RC.rows_row h; exact ⟨sz, cs, h1, fun h => h⟩
  | agg l =>
    simp only [RU.rows, List.mem_flatMap] at h
    obtain ⟨x, hx, h⟩ := h
    obtain ⟨sz, n, cs, h1, rfl⟩ := RC.rows_row h
    refine ⟨sz, cs, h1, fun h => ?_⟩
    simp only [RU.flat, List.all_eq_true] at h
    exact h _ hx
theorem R.rows_row {c : R} {b : Blk} (h : b ∈ c.rows) : ∃ sz cs, b = .row sz cs true ∧ (c.flat = true → cs.all D.flat = true) := by
  cases c with
  | u x => exact RU.rows_row h
  | tup l =>
    simp only [R.rows, List.mem_flatMap] at h
    obtain ⟨x, hx, h⟩ := h
    obtain ⟨sz, cs, h1, h2⟩ := RU.rows_row h
    refine ⟨sz, cs, h1, fun h => h2 ?_⟩
    simp only [R.flat, List.all_eq_true] at h
    exact h _ hx

/-- A call's result in its place. -/
theorem back_sound (h : Rel M Z w0 ρ st a w) {dst : Option Nat} (hd : ∀ d, dst = some d → d < a.tmps.size) {ids : List Nat} {res : R} {w' : World} {v : Value} (hx : Ext w w') (hr : RepRes w w' (Out (rhoF ids ρ) Z) res v) :
    ∃ ρ', Rel M Z w0 ρ' (st.back dst ids res) (a.put dst v) w' := by
  obtain ⟨hlen, o, hfar, hrep⟩ := hr
  obtain ⟨hv, hh⟩ := hrep (dst.getD 0)
  -- the state that goes on
  obtain ⟨ρ1, h1, hout⟩ : ∃ ρ1, Rel M Z w0 ρ1 (if res.flat then st else st.freeze ids) a w ∧ (res.flat = false → ∀ ad, Out ρ1 Z ad → Out (rhoF ids ρ) Z ad) := by
    cases hf : res.flat with
    | true => exact ⟨ρ, by simpa using h, fun h => by cases h⟩
    | false => exact ⟨rhoF ids ρ, by simpa using h.freeze ids, fun _ _ h => h⟩
  cases hrows : res.rows with
  | nil =>
    rw [hrows] at hv hh
    have tr : ∀ x v, (res.flat = true → D.flat x = true) → RepD w' (Out (single (dst.getD 0) [] o) (Out (rhoF ids ρ) Z)) x v → RepD w' (Out ρ1 Z) x v := fun x v hf hd' => by
      cases hfl : res.flat with
      | true => exact flat_rep (hf hfl) hd'
      | false => exact hd'.keep (Keep.mono fun ad h => .inl (hout hfl ad h))
    have := impR_rep tr (fun o' ho' => by cases ho') (fun h => h) hv
    refine ⟨ρ1, ?_⟩
    have hp := (h1.ext hx).put (dst := dst) hd this
    simpa [St.back, hrows] using hp
  | cons b r =>
    rw [hrows] at hv hh hlen
    obtain ⟨sz, cs, rfl, hcs⟩ := R.rows_row (c := res) (b := b) (by rw [hrows]; simp)
    have hs : single (dst.getD 0) (.row sz cs true :: r) o (dst.getD 0) = some o := by simp [single]
    obtain ⟨o', ho', hb⟩ := hh.rep (dst.getD 0) (.row sz cs true) (by simp [lk_cons_same])
    obtain rfl : o' = o := Option.some.inj (ho'.symm.trans hs)
    obtain ⟨q1, q2, q3, q4, q5⟩ := hb
    have osub : ∀ ad, (res.flat = false) → Out (rhoN ρ1 (dst.getD 0) o') Z ad → Out (single (dst.getD 0) (.row sz cs true :: r) o') (Out (rhoF ids ρ) Z) ad := fun ad hfl ho => by
      rcases ho with hz | ⟨j, oj, hj, hoj⟩
      · exact .inl (.inl hz)
      · by_cases e : j = dst.getD 0
        · subst e; rw [rhoN_same] at hj; cases hj; exact .inr ⟨_, _, hs, hoj⟩
        · rw [rhoN_ne _ _ e] at hj; exact .inl (hout hfl ad (.inr ⟨j, oj, hj, hoj⟩))
    have tr : ∀ x v, (res.flat = true → D.flat x = true) → RepD w' (Out (single (dst.getD 0) (.row sz cs true :: r) o') (Out (rhoF ids ρ) Z)) x v → RepD w' (Out (rhoN ρ1 (dst.getD 0) o') Z) x v := fun x v hf hd' => by
      cases hfl : res.flat with
      | true => exact flat_rep (hf hfl) hd'
      | false => exact hd'.keep (Keep.mono fun ad h => osub ad hfl h)
    have hadd := (h1.purge (dst.getD 0)).add (i := dst.getD 0) (o := o') (b := .row sz cs true) (upd_same _ _ _) (fun ad hh => Nat.le_trans h1.fr.size (hfar ad hh)) (fun ad u hh hu => by
        have := hfar ad hh
        have := World.block_lt_of_cell? w ad hu
        omega) hx (hh.owns.cells _ _ hs) (hh.owns.lim _ _ hs) ⟨q1, q2, q3, q4, fun j x hx' => by
        obtain ⟨u, hu, hd'⟩ := q5 j x hx'
        refine ⟨u, hu, tr x u (fun hf => ?_) hd'⟩
        have := hcs hf
        rw [List.all_eq_true] at this
        exact this _ (List.mem_of_getElem? hx')⟩
    have := impR_rep tr (fun o2 ho2 => by rw [hs] at ho2; cases ho2; exact rhoN_same _ _ _) (fun h => h) hv
    refine ⟨rhoN ρ1 (dst.getD 0) o', ?_⟩
    have hp := Rel.put (dst := dst) hadd hd this
    change Rel M Z w0 (upd (upd ρ1 (dst.getD 0) none) (dst.getD 0) (some o')) _ _ _
    simpa [St.back, hrows, St.new, Blk.on] using hp

theorem toA_rep (h : Rel M Z w0 ρ st a w) (ids : List Nat) {us : List U} {as : List A} {vals : List Value} (hv : RepL (RepU ρ w Z) us vals) (ha : us.mapM (U.toA ids st.h) = some as) : RepL (A.rep w (Out (rhoF ids ρ) Z)) as vals := by
  obtain ⟨m1, m2⟩ := mapM_some ha
  refine ⟨m1.trans hv.1, fun j A0 v hA hv' => ?_⟩
  have hj : j < us.length := by rw [← m1]; exact (List.getElem?_eq_some_iff.1 hA).1
  obtain ⟨y, hy, ha1⟩ := m2 j _ (List.getElem?_eq_getElem hj)
  rw [hA] at hy
  cases hy
  have hr := hv.2 j _ v (List.getElem?_eq_getElem hj) hv'
  generalize us[j] = u at ha1 hr
  have lst : ∀ {cs : List C} {ds : List D} {vs : List Value}, cs.mapM (toD (ids.contains ·) st.h 4) = some ds → RepL (RepC ρ w Z) cs vs → RepL (RepD w (Out (rhoF ids ρ) Z)) ds vs := fun {cs ds vs} hd hl => by
    obtain ⟨m1, m2⟩ := mapM_some hd
    refine ⟨m1.trans hl.1, fun j x v hx hv => ?_⟩
    have hj : j < cs.length := by rw [← m1]; exact (List.getElem?_eq_some_iff.1 hx).1
    obtain ⟨y, hy, hf⟩ := m2 j _ (List.getElem?_eq_getElem hj)
    rw [hx] at hy
    cases hy
    exact toD_rep h _ 4 _ v _ (hl.2 j _ v (List.getElem?_eq_getElem hj) hv) hf
  cases u with
  | c c0 =>
    simp only [U.toA, Option.map_eq_some_iff] at ha1
    obtain ⟨d, hd, rfl⟩ := ha1
    exact toD_rep h _ 4 c0 _ d hr hd
  | agg cs =>
    simp only [U.toA, Option.map_eq_some_iff] at ha1
    obtain ⟨ds, hd, rfl⟩ := ha1
    obtain ⟨vs, hvs, hl⟩ := hr
    exact ⟨vs, hvs, lst hd hl⟩
  | clo f cs =>
    simp only [U.toA, Option.map_eq_some_iff] at ha1
    obtain ⟨ds, hd, rfl⟩ := ha1
    obtain ⟨vs, hvs, hl⟩ := hr
    obtain ⟨h1, h2⟩ := lst hd hl
    rw [hvs]
    exact RepD.fn f ds vs h1 h2

theorem evUL_rep (h : Rel M Z w0 ρ st a w) {xs : List Operand} {us : List U} (hu : xs.mapM st.evU = some us) : RepL (RepU ρ w Z) us (xs.map a.eval) := by
  obtain ⟨m1, m2⟩ := mapM_some hu
  refine ⟨by simpa using m1, fun j u v hx hv => ?_⟩
  simp only [List.getElem?_map, Option.map_eq_some_iff] at hv
  obtain ⟨x, hx', rfl⟩ := hv
  obtain ⟨y, hy, hf⟩ := m2 j x hx'
  rw [hx] at hy
  cases hy
  exact h.evU hf

theorem args_rep (h : Rel M Z w0 ρ st a w) (ids : List Nat) {xs : List Operand} {us : List U} {as : List A} (hu : xs.mapM st.evU = some us) (ha : us.mapM (U.toA ids st.h) = some as) :
    RepL (A.rep w (Out (rhoF ids ρ) Z)) as (xs.map a.eval) := toA_rep h ids (evUL_rep h hu) ha

theorem mapM_append_some {α β : Type} {f : α → Option β} {l1 l2 : List α} {r : List β} (h : (l1 ++ l2).mapM f = some r) : ∃ r1 r2, r = r1 ++ r2 ∧ l1.mapM f = some r1 ∧ l2.mapM f = some r2 := by
  simp only [List.mapM_append, Option.pure_def, Option.bind_eq_bind, Option.bind_eq_some_iff, Option.some.injEq] at h
  obtain ⟨r1, h1, r2, h2, rfl⟩ := h
  exact ⟨r1, r2, rfl, h1, h2⟩

/-! ### calls that write blocks of the caller's own -/

def rhoR (ids : List Nat) (ρ : Rho) : Rho := fun j => if ids.contains j then ρ j else none
theorem rhoR_some {ids : List Nat} {j : Nat} {o : Own} (h : rhoR ids ρ j = some o) : j ∈ ids ∧ ρ j = some o := by
  unfold rhoR at h
  split at h
  · rename_i hm; exact ⟨by simpa using hm, h⟩
  · cases h
theorem rhoR_mem {ids : List Nat} {j : Nat} (h : j ∈ ids) : rhoR ids ρ j = ρ j := by unfold rhoR; rw [if_pos (by simpa using h)]
theorem out_rhoR (ids : List Nat) (ad : Addr) : Out (rhoR ids ρ) (Out (rhoF ids ρ) Z) ad ↔ Out ρ Z ad := by
  constructor
  · rintro (h | ⟨j, o, hj, ho⟩)
    · exact out_ersd h
    · exact .inr ⟨j, o, (rhoR_some hj).2, ho⟩
  · rintro (h | ⟨j, o, hj, ho⟩)
    · exact .inl (.inl h)
    · by_cases e : j ∈ ids
      · exact .inr ⟨j, o, (rhoR_mem e).trans hj, ho⟩
      · exact .inl (.inr ⟨j, o, by simp [rhoF, ersd, e, hj], ho⟩)
theorem repD_rhoR {ids : List Nat} {x : D} {v : Value} : RepD w (Out (rhoR ids ρ) (Out (rhoF ids ρ) Z)) x v ↔ RepD w (Out ρ Z) x v := by
  have : Out (rhoR ids ρ) (Out (rhoF ids ρ) Z) = Out ρ Z := funext fun ad => propext (out_rhoR ids ad)
  rw [this]
theorem repC_rhoR {ids : List Nat} {c : C} {v : Value} (hi : ∀ i, c.id? = some i → i ∈ ids) (h : RepC ρ w Z c v) : RepC (rhoR ids ρ) w (Out (rhoF ids ρ) Z) c v := by
  cases c with
  | d x => exact repD_rhoR.2 h
  | nl => exact h
  | bad => exact h
  | sl i off n => obtain ⟨o, ho, r⟩ := h; exact ⟨o, (rhoR_mem (hi i rfl)).trans ho, r⟩
  | ptr i off => obtain ⟨o, ho, r⟩ := h; exact ⟨o, (rhoR_mem (hi i rfl)).trans ho, r⟩
theorem repC_ofR {ids : List Nat} {c : C} {v : Value} (h : RepC (rhoR ids ρ) w (Out (rhoF ids ρ) Z) c v) : RepC ρ w Z c v := by
  cases c with
  | d x => exact repD_rhoR.1 h
  | nl => exact h
  | bad => exact h
  | sl i off n => obtain ⟨o, ho, r⟩ := h; exact ⟨o, (rhoR_some ho).2, r⟩
  | ptr i off => obtain ⟨o, ho, r⟩ := h; exact ⟨o, (rhoR_some ho).2, r⟩
theorem repU_rhoR {ids : List Nat} {u : U} {v : Value} (hi : inIds ids u.all) (h : RepU ρ w Z u v) : RepU (rhoR ids ρ) w (Out (rhoF ids ρ) Z) u v := by
  cases u with
  | c x => exact repC_rhoR (hi x (by simp [U.all])) h
  | agg cs => obtain ⟨vs, rfl, h1, h2⟩ := h; exact ⟨vs, rfl, h1, fun j x v hx hv => repC_rhoR (hi x (List.mem_of_getElem? hx)) (h2 j x v hx hv)⟩
  | clo f cs => obtain ⟨vs, rfl, h1, h2⟩ := h; exact ⟨vs, rfl, h1, fun j x v hx hv => repC_rhoR (hi x (List.mem_of_getElem? hx)) (h2 j x v hx hv)⟩
theorem repB_rhoR {ids : List Nat} {o : Own} {b : Blk} (hi : boxIds ids b) (h : RepB ρ w Z o b) : RepB (rhoR ids ρ) w (Out (rhoF ids ρ) Z) o b := by
  cases b with
  | row sz cs app => obtain ⟨q1, q2, q3, q4, q5⟩ := h; exact ⟨q1, q2, q3, q4, fun j x hx => by obtain ⟨v, hv, hd⟩ := q5 j x hx; exact ⟨v, hv, repD_rhoR.2 hd⟩⟩
  | box cs => obtain ⟨q1, q2, q3, q4⟩ := h; exact ⟨q1, q2, q3, fun j x hx => by obtain ⟨v, hv, h1, hd⟩ := q4 j x hx; exact ⟨v, hv, h1, repC_rhoR (hi x (List.mem_of_getElem? hx)) hd⟩⟩
  | fbox f cs => obtain ⟨q1, q2, q3, v, hv, hd⟩ := h; exact ⟨q1, q2, q3, v, hv, repU_rhoR (u := .clo f cs) hi hd⟩
theorem repB_ofR {ids : List Nat} {o : Own} {b : Blk} (h : RepB (rhoR ids ρ) w (Out (rhoF ids ρ) Z) o b) : RepB ρ w Z o b := by
  cases b with
  | row sz cs app => obtain ⟨q1, q2, q3, q4, q5⟩ := h; exact ⟨q1, q2, q3, q4, fun j x hx => by obtain ⟨v, hv, hd⟩ := q5 j x hx; exact ⟨v, hv, repD_rhoR.1 hd⟩⟩
  | box cs => obtain ⟨q1, q2, q3, q4⟩ := h; exact ⟨q1, q2, q3, fun j x hx => by obtain ⟨v, hv, h1, hd⟩ := q4 j x hx; exact ⟨v, hv, h1, repC_ofR hd⟩⟩
  | fbox f cs => obtain ⟨q1, q2, q3, v, hv, vs, rfl, hl⟩ := h; exact ⟨q1, q2, q3, _, hv, vs, rfl, hl.1, fun j x u hx hu => repC_ofR (hl.2 j x u hx hu)⟩

theorem lk_append {α : Type} (k : Nat) (l2 : List (Nat × α)) : ∀ l1 : List (Nat × α), lk k (l1 ++ l2) = (lk k l1).or (lk k l2)
  | [] => rfl
  | (j, v) :: r => by
    simp only [List.cons_append, lk]
    split
    · rfl
    · exact lk_append k l2 r

theorem Fr.into {M Mc : Addr → Prop} {w0 w w' : World} (h : Fr M w0 w) (k : Fr Mc w w') (hm : ∀ ad, Mc ad → M ad ∨ w0.heap.size ≤ ad.block) : Fr M w0 w' where
  os := k.os.trans h.os
  drawn := Nat.le_trans h.drawn k.drawn
  tape := k.tape.trans h.tape
  output := k.output.trans h.output
  size := Nat.le_trans h.size k.size
  cell := fun ad v hn hv => k.cell ad v (fun hc => by
    rcases hm ad hc with h1 | h1
    · exact hn h1
    · have := World.block_lt_of_cell? w0 ad hv; omega) (h.cell ad v hn hv)
  frz := fun ad hl => (k.frz ad (Nat.lt_of_lt_of_le hl h.size)).trans (h.frz ad hl)
  blk := fun j hl hn => (k.blk j (Nat.lt_of_lt_of_le hl h.size) fun ad he hc => by
    rcases hm ad hc with h1 | h1
    · exact hn ad he h1
    · omega).trans (h.blk j hl hn)

theorem Fr.mono {M M' : Addr → Prop} {w0 w : World} (h : Fr M w0 w) (hm : ∀ ad, M ad → M' ad) : Fr M' w0 w where
  os := h.os
  drawn := h.drawn
  tape := h.tape
  output := h.output
  size := h.size
  cell := fun ad v hn hv => h.cell ad v (fun hh => hn (hm ad hh)) hv
  frz := h.frz
  blk := fun j hl hn => h.blk j hl fun ad he hh => hn ad he (hm ad hh)

theorem backW_sound (h : Rel M Z w0 ρ st a w) {dst : Option Nat} (hd : ∀ d, dst = some d → d < a.tmps.size) {ids : List Nat} {res : R} {w' : World} {v : Value} {h2 : List (Nat × Blk)} (hrows : res.rows = [])
    (hx : Fr (Cells (rhoR ids ρ)) w w') (hh : Heap (rhoR ids ρ) w' (Out (rhoF ids ρ) Z) h2) (hv : RepV (fun _ => none) w' (Out (rhoR ids ρ) (Out (rhoF ids ρ) Z)) (res.imp 0) v) :
    Rel M Z w0 ρ (st.backW dst ids h2 res) (a.put dst v) w' := by
  have hcell : ∀ ad, Cells (rhoR ids ρ) ad → Out ρ Z ad := fun ad ⟨j, o, hj, ho⟩ => .inr ⟨j, o, (rhoR_some hj).2, ho⟩
  have hk : Keep w w' (Out ρ Z) (Out ρ Z) := fun ad x hn hv => ⟨hx.cell ad x (fun hc => hn (hcell ad hc)) hv, hn⟩
  have ht : Turn ρ ρ w w' Z idG := fun c v hc => by rw [C.on_id]; exact hc.keep hk fun _ _ => rfl
  have stay : ∀ j o, j ∉ ids → ρ j = some o → o.gone = false → ∀ k, k < o.room * o.sz → w'.cell? (o.at k) = w.cell? (o.at k) ∧ w'.frozen? (o.at k) = w.frozen? (o.at k) := fun j o hj ho hg k hk' => by
    obtain ⟨⟨u, hu⟩, hf⟩ := h.heap.owns.cells j o ho hg k hk'
    refine ⟨?_, hx.frz _ (World.block_lt_of_cell? w _ hu)⟩
    rw [hu]
    refine hx.cell _ u (fun ⟨i, o', hi, hh'⟩ => ?_) hu
    obtain ⟨h1, h2⟩ := rhoR_some hi
    exact h.heap.owns.apart j i o o' ho h2 (fun e => hj (e ▸ h1)) _ (Own.has_at hg hk') hh'
  have hrel : Rel M Z w0 ρ { st with h := h2 ++ rmAll (ids.contains ·) st.h } a w' :=
    { fr := h.fr.into hx fun ad ⟨j, o, hj, ho⟩ => h.mine j o ad (rhoR_some hj).2 ho
      heap := ⟨⟨fun j o ho hg k hk' => by
          by_cases e : j ∈ ids
          · exact hh.owns.cells j o ((rhoR_mem e).trans ho) hg k hk'
          · obtain ⟨s1, s2⟩ := stay j o e ho hg k hk'
            rw [s1, s2]
            exact h.heap.owns.cells j o ho hg k hk', h.heap.owns.apart, h.heap.owns.lim⟩, fun j b hb => by
        simp only at hb
        rw [lk_append] at hb
        cases hl : lk j h2 with
        | some b2 =>
          rw [hl] at hb
          cases hb
          obtain ⟨o, ho, hr⟩ := hh.rep j _ hl
          exact ⟨o, (rhoR_some ho).2, repB_ofR hr⟩
        | none =>
          rw [hl] at hb
          simp only [Option.none_or] at hb
          rw [lk_rmAll] at hb
          split at hb
          · cases hb
          · rename_i e
            have e : j ∉ ids := by simpa using e
            obtain ⟨o, ho, hr⟩ := h.heap.rep j b hb
            have := hr.turn ht hk fun hg k hk' => (stay j o e ho hg k hk').1
            rw [Blk.on_id] at this
            exact ⟨o, ho, this⟩⟩
      mine := h.mine
      out := h.out
      mz := h.mz
      tmps := fun t v hv => by
        have := (h.tmps t v hv).turn ht
        rwa [V.on_id] at this
      defers := h.defers }
  have hv' : RepV ρ w' Z (res.imp 0) v := impR_rep (fl := false) (fun x v _ hd' => hd'.keep (Keep.mono fun ad ho => .inl ((out_rhoR ids ad).2 ho))) (fun o' ho' => by cases ho') (fun h => by cases h) hv
  exact hrel.put hd hv'

theorem leL_lk {α : Type} {l : List (Nat × α)} : ∀ {l0 : List (Nat × α)}, leL l l0 → ∀ k v, lk k l0 = some v → lk k l = some v
  | [], _, k, v, h => by cases h
  | (j, u) :: r, ⟨h1, h2⟩, k, v, h => by
    unfold lk at h
    split at h
    · rename_i e; subst e; cases h; exact h1
    · exact leL_lk h2 k v h

/-! ### the trace: only calls turn it -/

def TrLe (s' s : St) : Prop := ∀ x r, lk YS s'.t = some (.tr x r) → lk YS s.t = some (.tr x r)
theorem TrLe.refl (s : St) : TrLe s s := fun _ _ h => h
theorem TrLe.trans {s1 s2 s3 : St} (h : TrLe s1 s2) (k : TrLe s2 s3) : TrLe s1 s3 := fun x r hh => k x r (h x r hh)
theorem TrLe.put {s : St} {d : Option Nat} {v : V} (hd : ∀ k, d = some k → k < YS) : TrLe (s.put d v) s := fun x r h => by
  cases d with
  | none => exact h
  | some k =>
    simp only [St.put] at h
    rw [lk_cons_ne (fun e => by have := hd k rfl; omega), lk_rm_ne (fun e => by have := hd k rfl; omega)] at h
    exact h
theorem TrLe.on {s : St} (g : Nat → C → C) : TrLe (s.on g) s := fun x r h => by
  simp only [St.on, lk_map, Option.map_eq_some_iff] at h
  obtain ⟨v, hv, he⟩ := h
  cases v with
  | u => cases he
  | tup => cases he
  | tr x' r' => simp only [V.on, V.tr.injEq] at he; rw [← he.1, ← he.2]; exact hv
theorem TrLe.hp {s : St} {h : List (Nat × Blk)} : TrLe { s with h := h } s := fun _ _ h => h
theorem TrLe.purge {s : St} (i : Nat) : TrLe (s.purge i) s := fun x r h => TrLe.on _ x r h
theorem TrLe.purges : ∀ (l : List Nat) {s : St}, TrLe (purges l s) s
  | [], s => TrLe.refl s
  | i :: l, s => (TrLe.purges l (s := s.purge i)).trans (TrLe.purge i)
theorem TrLe.blk {s : St} (i : Nat) (b : Blk) : TrLe (s.blk i b) s := fun _ _ h => h
theorem TrLe.drop {s : St} (i : Nat) : TrLe (s.drop i) s := fun _ _ h => h
theorem TrLe.new {s : St} (i : Nat) (b : Blk) : TrLe (s.new i b) s := fun x r h => TrLe.purge i x r h
theorem TrLe.freezeK {s : St} (ok : Nat → Bool) : TrLe (s.freezeK ok) s := fun x r h => TrLe.on _ x r h
theorem TrLe.freeze {s : St} (ids : List Nat) : TrLe (s.freeze ids) s := by
  cases ids with
  | nil => exact TrLe.refl s
  | cons i r => exact TrLe.freezeK _
theorem TrLe.sealW {s s' : St} {ids : List Nat} {cs : List C} {ds : List D} (h : s.sealW ids cs = some (ds, s')) : TrLe s' s := by
  simp only [St.sealW, Option.map_eq_some_iff, Prod.mk.injEq] at h
  obtain ⟨_, _, _, rfl⟩ := h
  exact TrLe.freeze ids
theorem TrLe.back {s : St} {d : Option Nat} {ids : List Nat} {res : R} (hd : ∀ k, d = some k → k < YS) : TrLe (s.back d ids res) s := by
  unfold St.back
  refine (TrLe.put hd).trans ?_
  have h1 : TrLe (if res.flat then s else s.freeze ids) s := by
    split
    · exact TrLe.refl s
    · exact TrLe.freeze ids
  split
  · exact h1
  · exact (TrLe.new _ _).trans h1
theorem TrLe.backW {s : St} {d : Option Nat} {ids : List Nat} {h2 : List (Nat × Blk)} {res : R} (hd : ∀ k, d = some k → k < YS) : TrLe (s.backW d ids h2 res) s := (TrLe.put hd).trans TrLe.hp
theorem TrLe.backX {s : St} {d : Option Nat} {ids nw fz : List Nat} {cs : List C} {h2 : List (Nat × Blk)} (hd : ∀ k, d = some k → k < YS) : TrLe (s.backX d ids nw fz cs h2) s :=
  (TrLe.put hd).trans (TrLe.hp.trans ((TrLe.on _).trans ((TrLe.purges nw).trans (TrLe.freeze fz))))
theorem TrLe.mk {s s' : St} {d : Option Nat} {b : Blk} {c : Nat → C} (hd : ∀ k, d = some k → k < YS) (h : mk d s b c = some s') : TrLe s' s := by
  simp only [Va.mk, Option.map_eq_some_iff] at h
  obtain ⟨k, rfl, rfl⟩ := h
  exact (TrLe.put hd).trans (TrLe.new _ _)
theorem TrLe.rn {s : St} (i j : Nat) : TrLe (s.rn i j) s := by
  unfold St.rn
  split
  · exact TrLe.refl s
  · split
    · exact TrLe.refl s
    · exact TrLe.hp.trans (TrLe.on _)
theorem TrLe.rns : ∀ (l : List (Nat × Nat)) {s : St}, TrLe (rns l s) s
  | [], s => TrLe.refl s
  | (i, j) :: l, s => (TrLe.rns l (s := s.rn i j)).trans (TrLe.rn i j)
theorem TrLe.le {s0 s : St} (h : s0.le s) : TrLe s0 s := fun x r hh => leL_lk h.1 _ _ hh
theorem TrLe.storeB {s s' : St} {b off : Nat} {v : List C} {k : Blk} (h : s.storeB b off v k = some s') : TrLe s' s := by
  cases k with
  | box cs => simp only [St.storeB] at h; split at h <;> cases h; exact TrLe.blk _ _
  | fbox f cs => simp [St.storeB] at h
  | row sz cs app =>
    simp only [St.storeB, Option.bind_eq_some_iff] at h
    obtain ⟨p, hp, h⟩ := h
    split at h
    · split at h <;> cases h
      exact (TrLe.blk _ _).trans (TrLe.sealW hp)
    · cases h
theorem TrLe.store {s s' : St} {i : TI} {c : C} {u : U} (h : s.store i c u = some s') : TrLe s' s := by
  unfold St.store at h
  split at h
  · split at h
    · simp only [Option.bind_eq_some_iff] at h
      obtain ⟨k, _, h⟩ := h
      rcases storeU_cases h with ⟨_, _, _, _, _, _, rfl⟩ | h
      · exact TrLe.blk _ _
      · exact TrLe.storeB h
    · cases h
  · cases h
theorem TrLe.appGo {s s' : St} {e : TI} {d : Nat} {cs : List D} {n : Nat} {news : List D} {m : Nat} (hd : d < YS) (h : s.appGo e d cs n news m = some s') : TrLe s' s := by
  unfold St.appGo at h
  split at h <;> cases h
  exact (TrLe.put fun k hk => by cases hk; exact hd).trans (TrLe.new _ _)
theorem TrLe.app {s s' : St} {e : TI} {d : Nat} {x : C} {news : List D} {m : Nat} (hd : d < YS) (h : s.app e d x news m = some s') : TrLe s' s := by
  unfold St.app at h
  split at h
  · exact TrLe.appGo hd h
  · simp only [Option.bind_eq_some_iff] at h
    obtain ⟨b, _, h⟩ := h
    split at h
    · split at h
      · exact (TrLe.appGo hd h).trans (TrLe.drop _)
      · cases h
    · cases h
  · cases h
theorem TrLe.copyTo {s s' : St} {e : TI} {d : Option Nat} {i off n : Nat} {p : Nat × List D} {b : Blk} (hd : ∀ k, d = some k → k < YS) (h : copyTo e d i off n s p b = some s') : TrLe s' s := by
  unfold Va.copyTo at h
  split at h
  · split at h <;> cases h
    exact (TrLe.put hd).trans (TrLe.blk _ _)
  · cases h

theorem TrLe.clearTo {s s' : St} {j : TI} {z : List D} {d : Option Nat} {c : C} (hd : ∀ k, d = some k → k < YS) (h : clearTo j z d s c = some s') : TrLe s' s := by
  unfold Va.clearTo at h
  split at h
  · cases h; exact TrLe.put hd
  · simp only [Option.bind_eq_some_iff] at h
    obtain ⟨k, _, h⟩ := h
    split at h
    · split at h <;> cases h
      exact (TrLe.put hd).trans (TrLe.blk _ _)
    · cases h
  · cases h

theorem TrLe.builtin {T : Tab} {b : Builtin} {ts : List TypeId} {args : List Operand} {d : Option Nat} {s s' : St} (hd : ∀ k, d = some k → k < YS) (h : stepBuiltin T b ts args d s = some s') : TrLe s' s := by
  unfold stepBuiltin at h
  split at h
  · simp only [Option.bind_eq_some_iff] at h
    obtain ⟨i, _, h⟩ := h
    unfold biLen at h
    split at h
    · cases h; exact TrLe.put hd
    · simp only [Option.bind_eq_some_iff, Option.map_eq_some_iff] at h
      obtain ⟨c, _, n, _, rfl⟩ := h
      exact TrLe.put hd
  · simp only [Option.bind_eq_some_iff] at h
    obtain ⟨k, hk, i, _, e, _, j, _, c, _, x, _, h⟩ := h
    split at h
    · simp only [Option.bind_eq_some_iff] at h
      obtain ⟨p, _, h⟩ := h
      exact TrLe.app (hd k hk) h
    · cases h
  · simp only [Option.bind_eq_some_iff] at h
    obtain ⟨i, _, e, _, j, _, c, _, x, _, h⟩ := h
    split at h
    · split at h
      · simp only [Option.bind_eq_some_iff] at h
        obtain ⟨p, _, b, _, h⟩ := h
        exact TrLe.copyTo hd h
      · cases h
    · cases h
  · simp only [Option.bind_eq_some_iff, Option.map_eq_some_iff] at h
    obtain ⟨p, _, l, _, v, _, rfl⟩ := h
    exact TrLe.put hd
  · simp only [Option.bind_eq_some_iff] at h
    obtain ⟨i, _, e, _, j, _, c, _, z, _, h⟩ := h
    exact TrLe.clearTo hd h
  · simp only [Option.bind_eq_some_iff, Option.map_eq_some_iff] at h
    obtain ⟨p, _, l, _, v, _, rfl⟩ := h
    exact TrLe.put hd
  · cases h

theorem TrLe.step {T : Tab} {o : Oper} {s s' : St} (hd : ∀ k, o.dst = some k → k < YS) (h : stepOp T o s = some s') : TrLe s' s := by
  unfold stepOp at h
  split at h
  case h_1 =>
    unfold nilAssign at h
    simp only [Option.bind_eq_some_iff, Option.map_eq_some_iff] at h
    obtain ⟨k, hk, i, _, e, _, j, _, rfl⟩ := h
    exact (TrLe.put fun q hq => by cases hq; exact hd k hk).trans (TrLe.new _ _)
  case h_8 =>
    simp only [Option.bind_eq_some_iff] at h
    obtain ⟨_, _, _, _, _, _, _, _, h⟩ := h
    unfold bslGo at h
    split at h
    · simp only [Option.bind_eq_some_iff] at h
      obtain ⟨cs, _, h⟩ := h
      split at h
      · exact TrLe.mk hd h
      · simp only [Option.bind_eq_some_iff] at h
        obtain ⟨p, hp, h⟩ := h
        exact (TrLe.mk hd h).trans (TrLe.sealW hp)
    · cases h
  case h_10 =>
    simp only [Option.bind_eq_some_iff, Option.map_eq_some_iff] at h
    obtain ⟨_, _, _, _, _, _, _, hs, rfl⟩ := h
    exact (TrLe.put hd).trans (TrLe.store hs)
  case h_16 =>
    simp only [Option.bind_eq_some_iff] at h
    obtain ⟨_, _, _, _, _, _, _, _, _, _, h⟩ := h
    unfold mkslGo at h
    split at h
    · simp only [Option.bind_eq_some_iff] at h
      obtain ⟨z, _, h⟩ := h
      exact TrLe.mk hd h
    · cases h
  case h_18 =>
    simp only [Option.bind_eq_some_iff] at h
    obtain ⟨_, _, _, _, _, _, _, _, h⟩ := h
    split at h
    · cases h
    · simp only [Option.map_eq_some_iff] at h
      obtain ⟨_, _, rfl⟩ := h
      exact TrLe.put hd
  case h_5 =>
    simp only [Option.bind_eq_some_iff] at h
    obtain ⟨_, _, h⟩ := h
    exact TrLe.mk hd h
  case h_6 =>
    simp only [Option.bind_eq_some_iff] at h
    obtain ⟨_, _, _, _, h⟩ := h
    split at h
    · exact TrLe.mk hd h
    · cases h
  case h_23 =>
    split at h
    · simp only [Option.map_eq_some_iff] at h
      obtain ⟨_, _, rfl⟩ := h
      exact TrLe.put hd
    · cases h
  case h_24 => exact TrLe.builtin hd h
  case h_25 => cases h
  all_goals
    simp only [Option.bind_eq_some_iff, Option.map_eq_some_iff] at h
    first
    | (obtain ⟨_, _, rfl⟩ := h; exact TrLe.put hd)
    | (obtain ⟨_, _, _, _, rfl⟩ := h; exact TrLe.put hd)
    | (obtain ⟨_, _, _, _, _, _, rfl⟩ := h; exact TrLe.put hd)
    | (obtain ⟨_, _, _, _, _, _, _, _, rfl⟩ := h; exact TrLe.put hd)
    | (obtain ⟨_, _, _, _, _, _, _, _, _, _, rfl⟩ := h; exact TrLe.put hd)

end
end Go.Va
