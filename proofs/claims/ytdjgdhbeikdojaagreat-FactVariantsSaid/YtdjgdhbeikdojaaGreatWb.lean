/-
  Soundness, sixth part: append, copy, len, min, max.
-/
import Derived.Test.YtdjgdhbeikdojaaGreatWa
import Derived.Laws.AppendOwn
import Derived.Laws.StructEq
import Derived.ChangeKeysEq
import Derived.Tactics
set_option linter.all false

namespace Go.Va
open Go.RowKit

section
variable {P : Program} {T : Tab} {M Z : Addr → Prop} {w0 w : World} {ρ : Rho} {st : St} {a : Act}

theorem RepL.append {α : Type} {r : α → Value → Prop} {xs ys : List α} {vs us : List Value} (h : RepL r xs vs) (k : RepL r ys us) : RepL r (xs ++ ys) (vs ++ us) := by
  refine ⟨by simp [h.1, k.1], fun j x v hx hv => ?_⟩
  by_cases hj : j < xs.length
  · rw [List.getElem?_append_left hj] at hx
    rw [List.getElem?_append_left (by rw [← h.1]; exact hj)] at hv
    exact h.2 j x v hx hv
  · rw [List.getElem?_append_right (by omega)] at hx
    rw [List.getElem?_append_right (by rw [← h.1]; omega), ← h.1] at hv
    exact k.2 _ x v hx hv

theorem RepL.keepD {Z' : Addr → Prop} {w' : World} {xs : List D} {vs : List Value} (h : RepL (RepD w Z) xs vs) (hk : Keep w w' Z Z') : RepL (RepD w' Z') xs vs :=
  ⟨h.1, fun j x v hx hv => (h.2 j x v hx hv).keep hk⟩

theorem Rel.congr {s s' : St} (h : Rel M Z w0 ρ s a w) (h1 : ∀ k, lk k s'.t = lk k s.t) (h2 : ∀ k, lk k s'.h = lk k s.h) : Rel M Z w0 ρ s' a w where
  fr := h.fr
  heap := ⟨h.heap.owns, fun i b hb => h.heap.rep i b ((h2 i).symm.trans hb)⟩
  mine := h.mine
  out := h.out
  mz := h.mz
  tmps := fun t v hv => h.tmps t v ((h1 t).symm.trans hv)
  defers := h.defers

/-- A row gets another number. -/
theorem Rel.move (h : Rel M Z w0 ρ st a w) {i d : Nat} {o : Own} (hi : ρ i = some o) {sz : Nat} {cs : List D} {app : Bool} (hb : lk i st.h = some (.row sz cs app)) :
    Rel M Z w0 (rhoN (rhoD ρ i) d o) ((st.drop i).new d (.row sz cs app)) a w := by
  have hsub : ∀ j o', rhoN (rhoD ρ i) d o j = some o' → (j = d ∧ o' = o) ∨ (j ≠ d ∧ ∃ o1, ρ j = some o1 ∧ ((j = i ∧ o' = o1.dead) ∨ (j ≠ i ∧ o' = o1))) := fun j o' hj => by
    by_cases e : j = d
    · subst e; rw [rhoN_same] at hj; cases hj; exact .inl ⟨rfl, rfl⟩
    · rw [rhoN_ne _ _ e] at hj; exact .inr ⟨e, rhoD_some hj⟩
  have hsubH : ∀ j o' ad, rhoN (rhoD ρ i) d o j = some o' → o'.has ad → (j = d ∧ o' = o) ∨ (j ≠ d ∧ j ≠ i ∧ ρ j = some o') := fun j o' ad hj hh => by
    rcases hsub j o' hj with h1 | ⟨h1, o1, h2, ⟨_, rfl⟩ | ⟨h3, rfl⟩⟩
    · exact .inl h1
    · exact absurd hh (o1.dead_has ad)
    · exact .inr ⟨h1, h3, h2⟩
  have hout : ∀ ad, Out (rhoN (rhoD ρ i) d o) Z ad → Out ρ Z ad := fun ad ho => by
    rcases ho with ho | ⟨j, o', hj, ho⟩
    · exact .inl ho
    · rcases hsubH j o' ad hj ho with ⟨_, rfl⟩ | ⟨_, _, h3⟩
      · exact .inr ⟨i, o', hi, ho⟩
      · exact .inr ⟨j, o', h3, ho⟩
  have hk : Keep w w (Out ρ Z) (Out (rhoN (rhoD ρ i) d o) Z) := Keep.mono hout
  have look : ∀ j o', j ≠ d → ρ j = some o' → rhoN (rhoD ρ i) d o j = some (if j = i then o'.dead else o') := fun j o' e hj => by
    rw [rhoN_ne _ _ e]
    unfold rhoD
    by_cases e2 : j = i
    · subst e2; rw [upd_same, hj]; simp
    · rw [upd_ne _ _ e2, hj]; simp [e2]
  have turn1 : Turn ρ (rhoN (rhoD ρ i) d o) w w Z (purgeG d) := fun c v hc => by
    cases c with
    | d x => exact RepD.keep hk hc
    | nl => exact hc
    | bad => exact hc
    | sl j off n =>
      simp only [C.on, purgeG]
      by_cases e : j = d
      · simp only [e, if_true]; exact RepC.one hc
      · simp only [e, if_false]
        obtain ⟨o', ho', r⟩ := hc
        refine ⟨_, look j o' e ho', ?_⟩
        split <;> exact r
    | ptr j off =>
      simp only [C.on, purgeG]
      by_cases e : j = d
      · simp only [e, if_true]; exact RepC.one hc
      · simp only [e, if_false]
        obtain ⟨o', ho', r⟩ := hc
        refine ⟨_, look j o' e ho', ?_⟩
        split <;> exact r
  exact {
    fr := h.fr
    heap := ⟨⟨fun j o' hj hn => by
        rcases hsub j o' hj with ⟨_, rfl⟩ | ⟨_, o1, h3, ⟨_, rfl⟩ | ⟨_, rfl⟩⟩
        · exact h.heap.owns.cells i o' hi hn
        · cases hn
        · exact h.heap.owns.cells j o' h3 hn,
      fun j j' o1 o2 hj hj' hne ad a1 a2 => by
        rcases hsubH j o1 ad hj a1 with ⟨rfl, rfl⟩ | ⟨n1, n2, h3⟩
        · rcases hsubH j' o2 ad hj' a2 with ⟨rfl, rfl⟩ | ⟨n1', n2', h3'⟩
          · exact absurd rfl hne
          · exact h.heap.owns.apart i j' o1 o2 hi h3' (fun e => n2' e.symm) ad a1 a2
        · rcases hsubH j' o2 ad hj' a2 with ⟨rfl, rfl⟩ | ⟨n1', n2', h3'⟩
          · exact h.heap.owns.apart j i o1 o2 h3 hi n2 ad a1 a2
          · exact h.heap.owns.apart j j' o1 o2 h3 h3' hne ad a1 a2,
      fun j o' hj => by
        rcases hsub j o' hj with ⟨_, rfl⟩ | ⟨_, o1, h3, ⟨_, rfl⟩ | ⟨_, rfl⟩⟩
        · exact h.heap.owns.lim i o' hi
        · exact h.heap.owns.lim j o1 h3
        · exact h.heap.owns.lim j o' h3⟩,
      fun j b hj => by
        by_cases e : j = d
        · subst e
          simp only [St.new, St.blk] at hj
          rw [lk_cons_same] at hj
          cases hj
          obtain ⟨o', ho', hr⟩ := h.heap.rep i _ hb
          obtain rfl : o' = o := Option.some.inj (ho'.symm.trans hi)
          obtain ⟨q1, q2, q3, q4, q5⟩ := hr
          exact ⟨o', rhoN_same _ _ _, q1, q2, q3, q4, fun k x hx => by obtain ⟨v, hv, hd⟩ := q5 k x hx; exact ⟨v, hv, hd.keep hk⟩⟩
        · simp only [St.new, St.blk] at hj
          rw [lk_cons_ne e, lk_rm_ne e] at hj
          rw [purge_eq] at hj
          obtain ⟨_, hj⟩ := lk_rm hj
          simp only [St.on, St.drop] at hj
          rw [lk_map, Option.map_eq_some_iff] at hj
          obtain ⟨b0, hb0, rfl⟩ := hj
          obtain ⟨hne, hb0⟩ := lk_rm hb0
          obtain ⟨o', ho', hr⟩ := h.heap.rep j b0 hb0
          refine ⟨o', by rw [look j o' e ho', if_neg hne], ?_⟩
          exact hr.turn turn1 hk (fun _ _ _ => rfl)⟩
    mine := fun j o' ad hj hh => by
      rcases hsubH j o' ad hj hh with ⟨_, rfl⟩ | ⟨_, _, h3⟩
      · exact h.mine i o' ad hi hh
      · exact h.mine j o' ad h3 hh
    out := h.out
    mz := h.mz
    tmps := fun t v hv => by
      simp only [St.new, St.blk, purge_eq, St.on, St.drop] at hv
      rw [lk_map, Option.map_eq_some_iff] at hv
      obtain ⟨v0, hv0, rfl⟩ := hv
      exact (h.tmps t v0 hv0).turn turn1
    defers := h.defers }

/-! ### the source -/

theorem src_rep' (h : Rel M Z w0 ρ st a w) {j : TI} {c : C} {v : Value} {m : Nat} {ds : List D} (hc : RepC ρ w Z c v) (hs : st.src j c = some (m, ds)) :
    ∃ A cap vs, v = .slice A m cap ∧ RepL (RepD w (Out ρ Z)) ds vs ∧ vs.length = m * j.size ∧ ∀ k, k ≤ m → ∀ w' : World, w'.heap = w.heap → (Builtin.firstCells j.size k v).run P w' = .ok (vs.take (k * j.size)).toArray w' := by
  have nilcase : v = .slice none 0 0 → m = 0 → ds = [] → ∃ A cap vs, v = .slice A m cap ∧ RepL (RepD w (Out ρ Z)) ds vs ∧ vs.length = m * j.size ∧ ∀ k, k ≤ m → ∀ w' : World, w'.heap = w.heap → (Builtin.firstCells j.size k v).run P w' = .ok (vs.take (k * j.size)).toArray w' := by
    rintro rfl rfl rfl
    exact ⟨none, 0, [], rfl, ⟨rfl, fun j x v hx => by simp at hx⟩, by simp, fun k hk w' _ => by simp [Builtin.firstCells]⟩
  have some_case : ∀ (ad : Addr) (cap : Nat), v = .slice (some ad) m cap → ds.length = m * j.size → (ds ≠ [] → ad.spot = none) →
      (∀ (q : Nat) (x : D), ds[q]? = some x → ∃ u, w.cell? ⟨ad.block, ad.off + q, none⟩ = some u ∧ RepD w (Out ρ Z) x u) →
      ∃ A cap vs, v = .slice A m cap ∧ RepL (RepD w (Out ρ Z)) ds vs ∧ vs.length = m * j.size ∧ ∀ k, k ≤ m → ∀ w' : World, w'.heap = w.heap → (Builtin.firstCells j.size k v).run P w' = .ok (vs.take (k * j.size)).toArray w' := by
    intro ad cap hv hl hsp hcell
    obtain ⟨vs, hvs, hget⟩ := list_of_cells (r := RepD w (Out ρ Z)) ds (fun q => w.cell? ⟨ad.block, ad.off + q, none⟩) hcell
    have hvl : vs.length = m * j.size := by rw [← hvs.1, hl]
    refine ⟨_, _, vs, hv, hvs, hvl, fun k hk w' hw => ?_⟩
    rw [hv]
    refine run_firstCells_some (P := P) w' j.size k ad m cap (vs.take (k * j.size)) (by rw [List.length_take, hvl, Nat.min_eq_left (Nat.mul_le_mul_right _ hk)]) fun q u hq => ?_
    rw [List.getElem?_take] at hq
    split at hq <;> try (cases hq; done)
    have hne : ds ≠ [] := fun e => by subst e; have := hvs.1; simp at this; rw [List.eq_nil_of_length_eq_zero this.symm] at hq; simp at hq
    rw [addr_add' ad q (hsp hne)]
    have := hget q u hq
    simpa [World.cell?, hw] using this
  cases c with
  | nl => cases hs; exact nilcase hc rfl rfl
  | bad => simp [St.src] at hs
  | ptr => simp [St.src] at hs
  | d x =>
    cases x <;> simp only [St.src] at hs <;> try cases hs
    case slice n cs =>
      split at hs <;> cases hs
      rename_i hl
      cases hc with
      | snil => exact nilcase rfl rfl rfl
      | slice _ _ ad cap vs hsp hn hm h1 h2 h3 => exact some_case ad cap rfl hl hsp fun q x hx => ⟨_, h1 q x hx, h3 q x hx⟩
  | sl i off n =>
    simp only [St.src, Option.bind_eq_some_iff] at hs
    obtain ⟨b, hb, hs⟩ := hs
    cases b with
    | box => cases hs
    | row sz cs app =>
      simp only at hs
      split at hs <;> cases hs
      rename_i hcond
      obtain ⟨rfl, hlen⟩ := hcond
      obtain ⟨o, ho, _, hcase⟩ := hc
      obtain ⟨o', ho', hr⟩ := h.heap.rep i _ hb
      obtain rfl : o' = o := Option.some.inj (ho'.symm.trans ho)
      obtain ⟨q1, q2, q3, q4, q5⟩ := hr
      rcases hcase with ⟨hn, rfl, rfl, rfl⟩ | ⟨hn, ad, cap, rfl, hnc, hcm, had, _⟩
      · exact nilcase rfl rfl (by simp [cut])
      · have hl : (cut (off * j.size) (m * j.size) cs).length = m * j.size := by
          rw [Nat.add_mul] at hlen
          simp [cut]; omega
        rcases Nat.eq_zero_or_pos m with hm0 | hm0
        · subst hm0
          exact some_case ad cap rfl hl (fun hne => absurd (List.eq_nil_of_length_eq_zero (by simpa using hl)) hne) (fun q x hx => by
            have : cut (off * j.size) (0 * j.size) cs = [] := List.eq_nil_of_length_eq_zero (by simpa using hl)
            rw [this] at hx; simp at hx)
        · have hae : ad = o'.at (off * o'.sz) := by
            rcases had with h0 | h1
            · omega
            · exact h1
          subst hae
          refine some_case _ cap rfl hl (fun _ => rfl) fun q x hx => ?_
          rw [getElem?_cut] at hx
          split at hx
          · obtain ⟨u, hu, hd⟩ := q5 _ x hx
            refine ⟨u, ?_, hd⟩
            rw [← hu, q1]
            congr 1
            simp [Own.at]
            omega
          · cases hx


theorem src_rep (h : Rel M Z w0 ρ st a w) {j : TI} {c : C} {v : Value} {m : Nat} {ds : List D} (hc : RepC ρ w Z c v) (hs : st.src j c = some (m, ds)) :
    ∃ A cap vs, v = .slice A m cap ∧ RepL (RepD w (Out ρ Z)) ds vs ∧ vs.length = m * j.size ∧ ∀ w' : World, w'.heap = w.heap → (Builtin.firstCells j.size m v).run P w' = .ok vs.toArray w' := by
  obtain ⟨A, cap, vs, h1, h2, h3, h4⟩ := src_rep' (P := P) h hc hs
  refine ⟨A, cap, vs, h1, h2, h3, fun w' hw => ?_⟩
  have := h4 m (Nat.le_refl _) w' hw
  rwa [List.take_of_length_le (by omega)] at this


/-! ### append -/

theorem run_app_room {t ty e : TypeId} {i : TypeInfo} (ht : P.underlying t = some (.slice e)) (hi : P.info? e = some i) (base : Option Addr) (n c m cx : Nat) (A : Option Addr) (news : List Value) {w' : World}
    (hnews : (Builtin.firstCells i.size m (.slice A m cx)).run P w = .ok news.toArray w) (hroom : n + m ≤ c)
    (hst : ∀ ad, base = some ad → (storeCells (ad.add (n * i.size)) news).run P w = .ok () w') (hn : base = none → w' = w) :
    (Builtin.append_ #[t, t] ty #[.slice base n c, .slice A m cx]).run P w = .ok (.slice base (n + m) c) w' := by
  cases base with
  | none =>
    obtain rfl := hn rfl
    simp [Builtin.append_, run_underlying ht, sizeOf, typeInfo, hi, Builtin.lenOf, hroom, hnews]
  | some ad =>
    have hst := hst ad rfl
    simp [Builtin.append_, run_underlying ht, sizeOf, typeInfo, hi, Builtin.lenOf, hroom, hnews, hst]

theorem run_app_grow {t ty e : TypeId} {i : TypeInfo} {z : Value} (ht : P.underlying t = some (.slice e)) (hi : P.info? e = some i) (hz : i.zero = some z) (base : Option Addr) (n c m cx : Nat) (A : Option Addr) (olds news : List Value)
    (holds : (Builtin.firstCells i.size n (.slice base n c)).run P w.drew = .ok olds.toArray w.drew)
    (hnews : (Builtin.firstCells i.size m (.slice A m cx)).run P w.drew = .ok news.toArray w.drew) (hg : c < n + m) (hby : (n + m) * i.bytes ≤ 140737488355328) (hbig : n + m ≤ 140737488355328) :
    (Builtin.append_ #[t, t] ty #[.slice base n c, .slice A m cx]).run P w =
      .ok (.slice (some ⟨w.heap.size, 0, none⟩) (n + m) (grownCap w (n + m) c e)) (w.drew.alloc (.cells (olds ++ (news ++ (Builtin.zeroCells z.cells (grownCap w (n + m) c e - (n + m))).toList)).toArray e)) := by
  have hn : ¬ (n + m ≤ c) := by omega
  have h63' : ¬ (9223372036854775807 < ((n : Int) + (m : Int))) := by omega
  have hfit : Builtin.nextslicecap (n + m) c * i.bytes ≤ 281474976710656 := growslice_fits (by omega) hby
  have h48' : ¬ (281474976710656 < Builtin.nextslicecap (n + m) c * i.bytes) := by omega
  simp [Builtin.append_, run_underlying ht, sizeOf, typeInfo, zeroValue, hi, hz, Builtin.lenOf, hn, h63', h48', Question.forced, hnews, holds, newRow, grownCap]
  congr 2
  apply Array.ext'
  simp

theorem step_append (h : Rel M Z w0 ρ st a w) (hT : TabOk P T) {o : Oper} {d : Nat} (hdst : o.dst = some d) (hd : ∀ d, o.dst = some d → d < a.tmps.size) (t : TypeId) (x y : Operand)
    (ho : o.op = .call { callee := .builtin .append, args := #[x, y], argTypes := #[t, t] }) {st' : St} {i : TI} {e : Nat} {j : TI} {c s : C} {p : Nat × List D}
    (hi : T t = some i) (he : i.sl = some e) (hj : T e = some j) (hc : st.evC x = some c) (hs : st.evC y = some s) (hp : st.src j s = some p) (hst : st.app j d c p.2 p.1 = some st') : StepOk P M Z w0 o st' a w := by
  obtain ⟨m, ds⟩ := p
  simp only at hst
  obtain ⟨info, dd, ht⟩ := tyB_ok (hT t i hi)
  obtain ⟨infe, de, hte⟩ := tyB_ok (hT e j hj)
  obtain ⟨z, hz, hzc⟩ := hte.zero
  have hzr : RepL (RepC ρ w Z) j.zero z.cells.toList := zCells_rep hzc
  have hzs : z.cells.size = j.size := by have := hzr.1; simp at this; rw [← this, hte.zlen]
  obtain ⟨A, cx, news, hvy, hds, hnl, hnews⟩ := src_rep (P := P) (j := j) h (h.evC hs) hp
  have hrun : ∀ {v : Value} {w' : World}, (Builtin.append_ #[t, t] o.type #[a.eval x, .slice A m cx]).run P w = .ok v w' → (execOp a.eval o).run P w = .ok (.value v) w' := fun {v w'} hr => by
    simp only [execOp, ho, resolve, invoke, builtin, Sem.run_bind, Sem.run_pure, Result.andThen_ok, List.map_toArray, List.map_cons, List.map_nil, hvy, hr]
  -- a new block
  have grow : ∀ {ρ1 : Rho} {s1 : St} (h1 : Rel M Z w0 ρ1 s1 a w) (hsub : ∀ ad, Out ρ1 Z ad → Out ρ Z ad) (base : Option Addr) (n c : Nat) (cs : List D) (olds : List Value), a.eval x = .slice base n c →
      RepL (RepD w (Out ρ Z)) cs olds → olds.length = n * j.size → (∀ w' : World, w'.heap = w.heap → (Builtin.firstCells j.size n (.slice base n c)).run P w' = .ok olds.toArray w') → c < n + m →
      s1.appGo j d cs n ds m = some st' → StepOk P M Z w0 o st' a w := by
    intro ρ1 s1 h1 hsub base n c cs olds hvx hcs hol hfo hg hst
    unfold St.appGo at hst
    split at hst
    case isFalse => cases hst
    case isTrue hcond =>
      cases hst
      obtain ⟨hby, hbig⟩ := hcond
      unfold big at hby hbig
      have hr := run_app_grow (P := P) (w := w) (ty := o.type) (ht.slice he) hte.inf hz base n c m cx A olds news (by rw [hte.size]; exact hfo w.drew rfl) (by rw [hte.size]; rw [← hvy]; exact hnews w.drew rfl) hg (by rw [hte.bytes]; exact hby) hbig
      have hcap := grownCap_ge w (n + m) c e
      have hcapm : grownCap w (n + m) c e ≤ maxLen := grownCap_le_maxLen w (n + m) c e (by unfold maxLen; omega)
      have hk : Keep w w (Out ρ Z) (Out ρ1 Z) := Keep.mono hsub
      have hlen : (olds ++ news).length = (n + m) * j.size := by rw [List.length_append, hol, hnl, Nat.add_mul]
      have hrow := h1.newRow (Ext.drew w) rfl d (sz := j.size) (room := grownCap w (n + m) c e) (Builtin.zeroCells z.cells (grownCap w (n + m) c e - (n + m))).toList e true ((hcs.append hds).keepD hk) (by
        rw [List.length_append, hlen]
        simp only [Array.length_toList, size_zeroCells, hzs]
        rw [← Nat.add_mul]
        congr 1
        omega) hcapm
      rw [List.append_assoc] at hrow
      rw [← hvx] at hr
      exact .at hdst hd (hrun hr) hrow (newOwn_sl _ w w Z d _ _ _ hcap hcapm)
  have hxr := h.evC hc
  -- the own row
  cases c with
  | nl =>
    simp only [St.app] at hst
    have hvx : a.eval x = .slice none 0 0 := hxr
    rcases Nat.eq_zero_or_pos m with hm | hm
    · subst hm
      have hd0 : ds = [] := by have := hds.1; rw [hnl] at this; exact List.eq_nil_of_length_eq_zero (by simpa using this)
      have hnew0 : news = [] := List.eq_nil_of_length_eq_zero (by simpa using hnl)
      subst hd0; subst hnew0
      unfold St.appGo at hst
      split at hst <;> cases hst
      have hr := run_app_room (P := P) (w := w) (ty := o.type) (ht.slice he) hte.inf none 0 0 0 cx A [] (w' := w) (by rw [hte.size, ← hvy]; exact hnews w rfl) (Nat.le_refl _) (fun ad h => by cases h) (fun _ => rfl)
      rw [← hvx] at hr
      have hn := h.new (Ext.refl w) d (o := { g := 0, o := 0, sz := j.size, room := 0, app := true, nil := true }) (b := .row j.size ([] ++ []) true)
        (fun ad hh => by cases hh.1) (fun hh => by cases hh) (by simp [maxLen]) ⟨rfl, rfl, by simp, ⟨fun _ => rfl, rfl⟩, fun q x hx => by simp at hx⟩
      exact .at hdst hd (hrun hr) hn ⟨_, rhoN_same _ _ _, by simp, .inl ⟨rfl, by simpa using hvx, rfl, rfl⟩⟩
    · exact grow h (fun _ h => h) none 0 0 [] [] hvx ⟨rfl, fun j x v hx => by simp at hx⟩ (by simp) (fun w' _ => by simp [Builtin.firstCells]) (by omega) hst
  | bad => simp [St.app] at hst
  | ptr => simp [St.app] at hst
  | d => simp [St.app] at hst
  | sl b off n =>
    simp only [St.app, Option.bind_eq_some_iff] at hst
    obtain ⟨blk, hb, hst⟩ := hst
    cases blk with
    | box => cases hst
    | row sz cs app =>
      simp only at hst
      split at hst
      case isFalse => cases hst
      case isTrue hcond =>
        obtain ⟨rfl, rfl, rfl, hcl⟩ := hcond
        obtain ⟨ow, how, hroom, hcase⟩ := hxr
        obtain ⟨o2, ho2, hr⟩ := h.heap.rep b _ hb
        obtain rfl : o2 = ow := Option.some.inj (ho2.symm.trans how)
        obtain ⟨q1, q2, q3, q4, q5⟩ := hr
        have hp1 := h.drop b
        rcases hcase with ⟨hn, hvx, _, rfl⟩ | ⟨hn, ad, cap, hvx, hnc, hcm, had, happ⟩
        · have hcs0 : cs = [] := List.eq_nil_of_length_eq_zero (by simpa using hcl)
          subst hcs0
          rcases Nat.eq_zero_or_pos m with hm | hm
          · subst hm
            have hd0 : ds = [] := by have := hds.1; rw [hnl] at this; exact List.eq_nil_of_length_eq_zero (by simpa using this)
            have hnew0 : news = [] := List.eq_nil_of_length_eq_zero (by simpa using hnl)
            subst hd0; subst hnew0
            unfold St.appGo at hst
            split at hst <;> cases hst
            have hr := run_app_room (P := P) (w := w) (ty := o.type) (ht.slice he) hte.inf none 0 0 0 cx A [] (w' := w) (by rw [hte.size, ← hvy]; exact hnews w rfl) (Nat.le_refl _) (fun ad h => by cases h) (fun _ => rfl)
            rw [← hvx] at hr
            have hn := hp1.new (Ext.refl w) d (o := { g := 0, o := 0, sz := j.size, room := 0, app := true, nil := true }) (b := .row j.size ([] ++ []) true)
              (fun ad hh => by cases hh.1) (fun hh => by cases hh) (by simp [maxLen]) ⟨rfl, rfl, by simp, ⟨fun _ => rfl, rfl⟩, fun q x hx => by simp at hx⟩
            exact .at hdst hd (hrun hr) hn ⟨_, rhoN_same _ _ _, by simp, .inl ⟨rfl, by simpa using hvx, rfl, rfl⟩⟩
          · exact grow hp1 (fun _ => out_rhoD) none 0 0 [] [] hvx ⟨rfl, fun j x v hx => by simp at hx⟩ (by simp) (fun w' _ => by simp [Builtin.firstCells]) (by omega) hst
        · have hn0 := hn
          replace hn : o2.gone = false := q4.2.trans hn
          obtain ⟨olds, hol, hget⟩ := list_of_cells (r := RepD w (Out ρ Z)) cs (fun q => w.cell? (o2.at q)) q5
          have holl : olds.length = n * j.size := by rw [← hol.1, hcl]
          by_cases hfit : n + m ≤ cap
          · -- in place
            unfold St.appGo at hst
            split at hst
            case isFalse => cases hst
            case isTrue hcond2 =>
              cases hst
              have hspace : n * o2.sz + news.length ≤ o2.room * o2.sz := by
                rw [hnl, q1, ← Nat.add_mul]
                exact Nat.mul_le_mul_right _ (by have := happ q2; omega)
              have hw := h.write how hn (off := n * o2.sz) (vs := news) hspace (b := .row j.size (cs ++ ds) true) fun hk => ⟨q1, q2, by
                  have := hspace
                  rw [q1, hnl] at this
                  rw [List.length_append, hcl, hds.1, hnl]
                  exact this, q4, fun q x hx => by
                  rw [setCells_at h how hn hspace]
                  by_cases hq : q < cs.length
                  · rw [List.getElem?_append_left hq] at hx
                    rw [if_neg (by rw [q1]; omega)]
                    obtain ⟨v, hv, hdd⟩ := q5 q x hx
                    exact ⟨v, hv, hdd.keep hk⟩
                  · rw [List.getElem?_append_right (by omega)] at hx
                    have hq2 : q - cs.length < ds.length := (List.getElem?_eq_some_iff.1 hx).1
                    have hq3 : q - cs.length < news.length := by rw [← hds.1]; exact hq2
                    rw [if_pos (by rw [q1]; omega)]
                    rw [show q - n * o2.sz = q - cs.length by rw [q1, hcl]]
                    exact ⟨_, List.getElem?_eq_getElem hq3, (hds.2 _ _ _ hx (List.getElem?_eq_getElem hq3)).keep hk⟩⟩
              have hmv := hw.move (d := d) how (sz := j.size) (cs := cs ++ ds) (app := true) (by simp [St.blk, lk_cons_same])
              have hst : (storeCells (ad.add (n * infe.size)) news).run P w = .ok () (w.setCells o2.g (o2.o + n * o2.sz) news) := by
                rw [hte.size]
                rcases had with hc0 | hae
                · have hm0 : m = 0 := by omega
                  subst hm0
                  have : news = [] := List.eq_nil_of_length_eq_zero (by simpa using hnl)
                  subst this
                  rfl
                · subst hae
                  have hs2 := run_storeCells_cells (P := P) o2.g (o2.o + n * o2.sz) news 0 w (fun q hq => by
                      obtain ⟨⟨u, hu⟩, _⟩ := h.heap.owns.cells b o2 how hn (n * o2.sz + q) (by omega)
                      have he : (⟨o2.g, o2.o + n * o2.sz + 0 + q, none⟩ : Addr) = o2.at (n * o2.sz + q) := by simp; omega
                      rw [he, hu]; rfl) (fun q hq => by
                      obtain ⟨_, hf⟩ := h.heap.owns.cells b o2 how hn (n * o2.sz + q) (by omega)
                      have he : (⟨o2.g, o2.o + n * o2.sz + 0 + q, none⟩ : Addr) = o2.at (n * o2.sz + q) := by simp; omega
                      rw [he, hf]) (fun v hv => by
                      obtain ⟨q, hq, rfl⟩ := List.getElem_of_mem hv
                      exact (hds.2 q _ _ (List.getElem?_eq_getElem (by rw [hds.1]; exact hq)) (List.getElem?_eq_getElem hq)).one)
                  have hea : (o2.at (0 * o2.sz)).add (n * j.size) = ⟨o2.g, o2.o + n * o2.sz, none⟩ := by
                    simp only [Own.at, addr_add]; rw [q1]; simp
                  rw [hea]
                  simpa using hs2
              have hr := run_app_room (P := P) (w := w) (ty := o.type) (ht.slice he) hte.inf (some ad) n cap m cx A news (by rw [hte.size, ← hvy]; exact hnews w rfl) hfit (fun ad' h' => by cases h'; exact hst) (fun h' => by cases h')
              rw [← hvx] at hr
              have hcg : Rel M Z w0 (rhoN (rhoD ρ b) d o2) ((st.drop b).new d (.row j.size (cs ++ ds) true)) a (w.setCells o2.g (o2.o + n * o2.sz) news) :=
                hmv.congr (fun k => by simp [St.new, St.blk, St.purge, St.on, St.drop]) (fun k => by
                  by_cases ek : k = d
                  · subst ek; simp [St.new, St.blk, lk_cons_same]
                  · simp only [St.new, St.blk]
                    rw [lk_cons_ne ek, lk_cons_ne ek, lk_rm_ne ek, lk_rm_ne ek]
                    simp only [St.purge, St.on, St.drop]
                    rw [lk_rm_ne ek, lk_rm_ne ek, lk_map, lk_map]
                    congr 1
                    by_cases eb : k = b
                    · subst eb; rw [lk_rm_same, lk_rm_same]
                    · rw [lk_rm_ne eb, lk_rm_ne eb, lk_cons_ne eb, lk_rm_ne eb])
              refine .at hdst hd (hrun hr) hcg ⟨o2, rhoN_same _ _ _, ?_, .inr ⟨hn0, ad, cap, rfl, hfit, hcm, ?_, fun _ => ?_⟩⟩
              · have := happ q2; omega
              · rcases had with h0 | h1
                · exact .inl h0
                · exact .inr h1
              · have := happ q2; omega
          · refine grow hp1 (fun _ => out_rhoD) (some ad) n cap cs olds hvx hol holl (fun w' hw' => ?_) (by omega) hst
            refine run_firstCells_some (P := P) w' j.size n ad n cap olds holl fun q u hq => ?_
            have hq' : q < olds.length := (List.getElem?_eq_some_iff.1 hq).1
            have hae : ad = o2.at (0 * o2.sz) := by
              rcases had with h0 | h1
              · have : n = 0 := by omega
                subst this
                simp at holl; subst holl; simp at hq
              · exact h1
            subst hae
            have := hget q u hq
            simp only [Nat.zero_mul]
            rw [show (o2.at 0).add q = o2.at q by simp [Own.at, addr_add]]
            simpa [World.cell?, hw'] using this

end
end Go.Va

/-
  Soundness, seventh part: the other operations.
-/
namespace Go.Va
open Go.RowKit

section
variable {P : Program} {T : Tab} {M Z : Addr → Prop} {w0 w : World} {ρ : Rho} {st : St} {a : Act}

theorem isStr_ok {t : TypeId} {i : TI} {info : TypeInfo} {d : TypeDesc} (ht : TyOk P t i info d) (h : isStr i = true) : P.underlying t = some .string := by
  unfold isStr at h
  split at h
  · rename_i s h1 h2 h3 h4
    exact ht.str h2 h3 h1 h4
  · cases h

theorem wrap_in {k : IntKind} {n : Int} (h : inK k n) : k.wrap n = n := by
  cases k <;> simp only [inK, IntKind.min, IntKind.max, IntKind.signed, IntKind.bits, if_true, Bool.false_eq_true, if_false] at h <;> simp [IntKind.wrap, IntKind.signed, IntKind.bits] at h ⊢ <;> (try split) <;> omega

theorem fitK_ok {k : IntKind} {n : Int} {v : V} (h : fitK k n = some v) : v = vI k (k.wrap n) := by
  unfold fitK at h
  split at h
  · unfold chk at h
    split at h
    · rename_i hin
      cases h
      rw [wrap_in hin]
    · cases h
  · rename_i hs
    cases h
    cases k <;> simp_all [IntKind.wrap, IntKind.signed, IntKind.bits]

theorem repI (ρ : Rho) (w : World) (Z : Addr → Prop) (k : IntKind) (n : Int) : RepV ρ w Z (vI k n) (.int k n) := RepD.int k n
theorem repBool (ρ : Rho) (w : World) (Z : Addr → Prop) (b : Bool) : RepV ρ w Z (vB b) (.bool b) := RepD.bool b

theorem binI_ok {op : BinOp} {k : IntKind} {x y : Int} {v : V} (hne : op ≠ .shl ∧ op ≠ .shr) (h : binI op k x y = some v) : ∃ u, ∀ t, (binOp op t (.int k x) (.int k y)).run P w = .ok u w ∧ RepV ρ w Z v u := by
  cases op <;> simp only [binI, andI, orI, xorI, andNotI] at h
  case add => refine ⟨_, fun t => ⟨by simp [Go.binOp, Op.intArith] <;> rfl, ?_⟩⟩; rw [fitK_ok h]; exact repI _ _ _ _ _
  case sub => refine ⟨_, fun t => ⟨by simp [Go.binOp, Op.intArith] <;> rfl, ?_⟩⟩; rw [fitK_ok h]; exact repI _ _ _ _ _
  case mul => refine ⟨_, fun t => ⟨by simp [Go.binOp, Op.intArith] <;> rfl, ?_⟩⟩; rw [fitK_ok h]; exact repI _ _ _ _ _
  case quo =>
    simp only [Option.bind_eq_some_iff, chk] at h
    obtain ⟨_, hc, h⟩ := h
    split at hc
    · rename_i hy
      refine ⟨_, fun t => ⟨by simp [Go.binOp, Op.intDiv, hy] <;> rfl, ?_⟩⟩; rw [fitK_ok h]; exact repI _ _ _ _ _
    · cases hc
  case rem =>
    simp only [Option.map_eq_some_iff, chk] at h
    obtain ⟨_, hc, rfl⟩ := h
    split at hc
    · rename_i hy
      exact ⟨_, fun t => ⟨by simp [Go.binOp, Op.intDiv, hy] <;> rfl, repI _ _ _ _ _⟩⟩
    · cases hc
  case eql => cases h; exact ⟨.bool (decide (x = y)), fun t => ⟨by simp [Go.binOp, Op.intCmp] <;> rfl, repBool _ _ _ _⟩⟩
  case neq => cases h; exact ⟨.bool (!decide (x = y)), fun t => ⟨by simp [Go.binOp, Op.intCmp] <;> rfl, repBool _ _ _ _⟩⟩
  case lss => cases h; exact ⟨_, fun t => ⟨by simp [Go.binOp, Op.intCmp] <;> rfl, repBool _ _ _ _⟩⟩
  case leq => cases h; exact ⟨_, fun t => ⟨by simp [Go.binOp, Op.intCmp] <;> rfl, repBool _ _ _ _⟩⟩
  case gtr => cases h; exact ⟨_, fun t => ⟨by simp [Go.binOp, Op.intCmp] <;> rfl, repBool _ _ _ _⟩⟩
  case geq => cases h; exact ⟨_, fun t => ⟨by simp [Go.binOp, Op.intCmp] <;> rfl, repBool _ _ _ _⟩⟩
  case and => cases h; exact ⟨_, fun t => ⟨by simp [Go.binOp, Op.intBits] <;> rfl, repI _ _ _ _ _⟩⟩
  case or => cases h; exact ⟨_, fun t => ⟨by simp [Go.binOp, Op.intBits] <;> rfl, repI _ _ _ _ _⟩⟩
  case xor => cases h; exact ⟨_, fun t => ⟨by simp [Go.binOp, Op.intBits] <;> rfl, repI _ _ _ _ _⟩⟩
  case andNot => cases h; exact ⟨_, fun t => ⟨by simp [Go.binOp, Op.intBits] <;> rfl, repI _ _ _ _ _⟩⟩
  case shl => exact absurd rfl hne.1
  case shr => exact absurd rfl hne.2

theorem shiftI_ok {op : BinOp} {k k' : IntKind} {x y : Int} {v : V} (hop : op = .shl ∨ op = .shr) (h : shiftI op k x y = some v) : ∃ u, ∀ t, (binOp op t (.int k x) (.int k' y)).run P w = .ok u w ∧ RepV ρ w Z v u := by
  rcases hop with rfl | rfl <;> simp only [shiftI, shlI, shrI, Option.map_eq_some_iff, chk] at h <;> obtain ⟨_, hc, rfl⟩ := h <;> split at hc <;> try cases hc
  · rename_i hy
    exact ⟨_, fun t => ⟨by simp [Go.binOp, Op.shift, show ¬ y < 0 by omega] <;> rfl, repI _ _ _ _ _⟩⟩
  · rename_i hy
    exact ⟨_, fun t => ⟨by simp [Go.binOp, Op.shift, show ¬ y < 0 by omega] <;> rfl, repI _ _ _ _ _⟩⟩

theorem binS_ok {op : BinOp} {x y : ByteArray} {v : V} (h : binS op x y = some v) : ∃ u, ∀ t, (binOp op t (.string x) (.string y)).run P w = .ok u w ∧ RepV ρ w Z v u := by
  cases op <;> simp only [binS] at h <;> try cases h
  case add =>
    simp only [Option.map_eq_some_iff, chk] at h
    obtain ⟨_, hc, rfl⟩ := h
    split at hc
    · rename_i hs
      refine ⟨.string (x ++ y), fun t => ⟨?_, RepD.str _⟩⟩
      have : ¬ (((x.size + y.size : Nat) : Int) > IntKind.i64.max) := by simp [IntKind.max, IntKind.signed, IntKind.bits]; omega
      simp only [Go.binOp, Op.stringOp, this, if_false, Sem.run_pure]
    · cases hc
  case eql => exact ⟨_, fun t => ⟨by simp [Go.binOp, Op.stringOp] <;> rfl, repBool _ _ _ _⟩⟩
  case neq => exact ⟨_, fun t => ⟨by simp [Go.binOp, Op.stringOp] <;> rfl, repBool _ _ _ _⟩⟩

theorem eqGuard_plain {op : BinOp} {t : TypeId} {x y : Operand} {u v : Value} (h : ∀ cs, u ≠ .agg cs) (h' : u ≠ .nilIface) : (eqGuard op t x y u v).run P w = .ok () w := by
  unfold eqGuard
  cases op <;> try (simp; done)
  all_goals
    simp only [Bool.not_true, Bool.false_eq_true, if_false]
    cases u <;> first | (exact absurd rfl h') | (exact absurd rfl (h _)) | (cases v <;> rfl)

/-! ### '==' -/

theorem run_equalIn_cell' {t : TypeId} {z : C} {x y : C} {vx vy : Value} {b : Bool} (d : Nat) (hk : kindB P t (some z) = true) (hx : RepC ρ w Z x vx) (hy : RepC ρ w Z y vy) (he : eqD z x y = some b) :
    (Op.equalIn (d + 1) t vx vy).run P w = .ok b w := by
  unfold eqD at he
  split at he
  · cases hx; cases hy
    split at he <;> cases he
    rename_i hkk
    subst hkk
    unfold kindB at hk
    cases hu : P.underlying t with
    | none => simp [hu] at hk
    | some dd =>
      cases dd <;> simp [hu] at hk
      simp [Op.equalIn, run_underlying hu]
      rfl
  · cases hx; cases hy; cases he
    unfold kindB at hk
    cases hu : P.underlying t with
    | none => simp [hu] at hk
    | some dd =>
      cases dd <;> simp [hu] at hk
      simp [Op.equalIn, run_underlying hu]
      rfl
  · cases he

theorem kindB_part {t : TypeId} {z : C} (hk : kindB P t (some z) = true) {vs : Array Value} {j : Nat} {v : Value} (hv : vs[j]? = some v) : (Go.part t vs j).run P w = .ok v w := by
  unfold kindB at hk
  cases hu : P.underlying t with
  | none => simp [hu] at hk
  | some dd => cases dd <;> simp [hu] at hk <;> simp [Go.part, Go.isAgg, run_underlying hu, hv]

theorem eqItems_ok (d : Nat) {e : TypeId} (vs us : Array Value) : ∀ (zs xs ys : List C) (k : Nat) (b : Bool), (∀ z ∈ zs, kindB P e (some z) = true) → (∀ (j : Nat) (x : C), xs[j]? = some x → ∃ v, vs[k + j]? = some v ∧ RepC ρ w Z x v) →
    (∀ (j : Nat) (x : C), ys[j]? = some x → ∃ v, us[k + j]? = some v ∧ RepC ρ w Z x v) → eqCs zs xs ys = some b →
    (Op.eqItems (d + 1) e 1 vs us (List.range' k zs.length)).run P w = .ok b w
  | [], [], [], _, _, _, _, _, h => by cases h; simp [Op.eqItems]
  | [], [], _ :: _, _, _, _, _, _, h => by cases h
  | [], _ :: _, _, _, _, _, _, _, h => by cases h
  | _ :: _, [], _, _, _, _, _, _, h => by cases h
  | _ :: _, _ :: _, [], _, _, _, _, _, h => by cases h
  | z :: zs, x :: xs, y :: ys, k, b, hz, hx, hy, h => by
    simp only [eqCs, Option.bind_eq_some_iff, Option.map_eq_some_iff] at h
    obtain ⟨b1, h1, b2, h2, rfl⟩ := h
    have hz0 := hz z (by simp)
    obtain ⟨v, hv, hvr⟩ := hx 0 x rfl
    obtain ⟨u, hu, hur⟩ := hy 0 y rfl
    have ih := eqItems_ok d vs us zs xs ys (k + 1) b2 (fun q hq => hz q (by simp [hq])) (fun j q hq => by have := hx (j + 1) q (by simpa using hq); rwa [show k + (j + 1) = k + 1 + j by omega] at this)
      (fun j q hq => by have := hy (j + 1) q (by simpa using hq); rwa [show k + (j + 1) = k + 1 + j by omega] at this) h2
    simp only [Nat.add_zero] at hv hu
    have p1 := kindB_part (P := P) (w := w) hz0 hv
    have p2 := kindB_part (P := P) (w := w) hz0 hu
    have p3 := run_equalIn_cell' d hz0 hvr hur h1
    simp only [List.length_cons, List.range'_succ, Op.eqItems, Nat.mul_one, Sem.run_bind, p1, p2, p3, Result.andThen_ok]
    cases b1
    · simp
    · simpa using ih

theorem eqFields_ok (d : Nat) (vs us : Array Value) : ∀ (zs xs ys : List C) (fs : List Field) (k : Nat) (b : Bool), fs.length = zs.length → (∀ (j : Nat) (f : Field), fs[j]? = some f → f.name ≠ "_" ∧ f.offset = k + j ∧ kindB P f.type zs[j]? = true) →
    (∀ (j : Nat) (x : C), xs[j]? = some x → ∃ v, vs[k + j]? = some v ∧ RepC ρ w Z x v) → (∀ (j : Nat) (x : C), ys[j]? = some x → ∃ v, us[k + j]? = some v ∧ RepC ρ w Z x v) → eqCs zs xs ys = some b →
    (Op.eqFields (d + 1) vs us fs).run P w = .ok b w
  | [], [], [], fs, _, _, hl, _, _, _, h => by cases h; rw [List.eq_nil_of_length_eq_zero hl]; simp [Op.eqFields]
  | [], [], _ :: _, _, _, _, _, _, _, _, h => by cases h
  | [], _ :: _, _, _, _, _, _, _, _, _, h => by cases h
  | _ :: _, [], _, _, _, _, _, _, _, _, h => by cases h
  | _ :: _, _ :: _, [], _, _, _, _, _, _, _, h => by cases h
  | z :: zs, x :: xs, y :: ys, [], k, b, hl, hf, hx, hy, h => by simp at hl
  | z :: zs, x :: xs, y :: ys, f :: fs, k, b, hl, hf, hx, hy, h => by
    simp only [eqCs, Option.bind_eq_some_iff, Option.map_eq_some_iff] at h
    obtain ⟨b1, h1, b2, h2, rfl⟩ := h
    obtain ⟨f1, f2, f3⟩ := hf 0 f rfl
    have hz0 : kindB P f.type (some z) = true := by simpa using f3
    obtain ⟨v, hv, hvr⟩ := hx 0 x rfl
    obtain ⟨u, hu, hur⟩ := hy 0 y rfl
    have ih := eqFields_ok d vs us zs xs ys fs (k + 1) b2 (by simpa using hl) (fun j q hq => by have := hf (j + 1) q (by simpa using hq); rw [show k + (j + 1) = k + 1 + j by omega] at this; simpa using this)
      (fun j q hq => by have := hx (j + 1) q (by simpa using hq); rwa [show k + (j + 1) = k + 1 + j by omega] at this)
      (fun j q hq => by have := hy (j + 1) q (by simpa using hq); rwa [show k + (j + 1) = k + 1 + j by omega] at this) h2
    simp only [Nat.add_zero] at hv hu f2
    have p1 := kindB_part (P := P) (w := w) hz0 hv
    have p2 := kindB_part (P := P) (w := w) hz0 hu
    have p3 := run_equalIn_cell' d hz0 hvr hur h1
    simp only [Op.eqFields, f1, ne_eq, not_false_eq_true, if_true, f2, Sem.run_bind, p1, p2, p3, Result.andThen_ok]
    cases b1
    · simp
    · simpa using ih

theorem agg_cells {xs : List C} {vs : List Value} (h : RepL (RepC ρ w Z) xs vs) (j : Nat) (x : C) (hx : xs[j]? = some x) : ∃ v, vs.toArray[0 + j]? = some v ∧ RepC ρ w Z x v := by
  have hj : j < vs.length := by rw [← h.1]; exact (List.getElem?_eq_some_iff.1 hx).1
  exact ⟨vs[j], by simp [hj], h.2 j x _ hx (List.getElem?_eq_getElem hj)⟩

theorem eqAgg_ok {t : TypeId} {i : TI} {info : TypeInfo} {d : TypeDesc} (ht : TyOk P t i info d) (hf : i.flat = true) {xs ys : List C} {vs us : List Value} (hx : RepL (RepC ρ w Z) xs vs) (hy : RepL (RepC ρ w Z) ys us) {b : Bool} (he : eqCs i.zero xs ys = some b) :
    (Op.equalIn 10000 t (.agg vs.toArray) (.agg us.toArray)).run P w = .ok b w ∧ P.eqGuardType P.depth t = false := by
  have hfl := ht.flat hf
  unfold flatB at hfl
  simp only [Bool.and_eq_true, Bool.not_eq_true'] at hfl
  obtain ⟨hg, hfl⟩ := hfl
  refine ⟨?_, hg⟩
  cases d <;> simp only [Bool.false_eq_true] at hfl
  case array n e =>
    simp only [Bool.and_eq_true, decide_eq_true_eq, List.all_eq_true] at hfl
    obtain ⟨⟨rfl, hc⟩, hz⟩ := hfl
    by_cases h0 : i.zero = []
    · rw [h0] at he ht
      have hxs : xs = [] := by cases xs <;> cases ys <;> simp [eqCs] at he ⊢
      have hb : true = b := by cases xs <;> cases ys <;> simp [eqCs] at he; first | exact he | exact he.symm
      have hu := ht.und
      subst hb
      cases hi : P.info? e with
      | none => simp [Program.cellsOf, hi] at hc
      | some ie =>
        rw [show (10000 : Nat) = 9999 + 1 from rfl, run_equalIn_array w 9999 _ _ hu hi]
        simp [Op.eqItems]
    · cases hi : P.info? e with
      | none => simp [Program.cellsOf, hi] at hc
      | some ie =>
        rw [show (10000 : Nat) = 9999 + 1 from rfl, run_equalIn_array w 9999 _ _ ht.und hi, hc, List.range_eq_range']
        exact eqItems_ok 9998 _ _ i.zero xs ys 0 b hz (agg_cells hx) (agg_cells hy) he
  case struct fs =>
    simp only [Bool.and_eq_true, Bool.not_eq_true', decide_eq_true_eq, List.all_eq_true] at hfl
    obtain ⟨⟨hs, hl⟩, hall⟩ := hfl
    have hfo : P.fieldsOf t = fs := by simp [Program.fieldsOf, ht.und]
    rw [show (10000 : Nat) = 9999 + 1 from rfl, run_equalIn_struct w 9999 t _ _ (by rw [hfo]; exact ht.und) hs, hfo]
    refine eqFields_ok 9998 _ _ i.zero xs ys fs.toList 0 b (by simpa using hl) (fun j f hf => ?_) (agg_cells hx) (agg_cells hy) he
    have hm : (f, j) ∈ fs.toList.zipIdx := by
      rw [List.mem_iff_getElem?]
      exact ⟨j, by simp [List.getElem?_zipIdx, hf]⟩
    have := hall _ hm
    simp only [Bool.and_eq_true, decide_eq_true_eq] at this
    obtain ⟨⟨h1, h2⟩, h3⟩ := this
    exact ⟨h1, by omega, h3⟩

end
end Go.Va

/-
  Soundness, eighth part: every operation but calls.
-/
namespace Go.Va
open Go.RowKit

section
variable {P : Program} {T : Tab} {M Z : Addr → Prop} {w0 w : World} {ρ : Rho} {st : St} {a : Act}

theorem run_equalIn_nil {t : TypeId} {pp rr : Array TypeId} {vv : Bool} (hu : P.underlying t = some (.func pp rr vv)) (d : Nat) : (Op.equalIn (d + 1) t .nilFunc .nilFunc).run P w = .ok true w := by
  simp [Op.equalIn, run_underlying hu]
theorem run_equalIn_fn {t : TypeId} {pp rr : Array TypeId} {vv : Bool} (hu : P.underlying t = some (.func pp rr vv)) (d : Nat) (f : Fn) (c1 c2 : Array Value) : (Op.equalIn (d + 1) t (.func f c1 c2) .nilFunc).run P w = .ok false w := by
  simp [Op.equalIn, run_underlying hu]

theorem run_equalIn_nosl {t e : TypeId} (hu : P.underlying t = some (.slice e)) (d : Nat) : (Op.equalIn (d + 1) t (.slice none 0 0) (.slice none 0 0)).run P w = .ok true w := by
  simp [Op.equalIn, run_underlying hu]
theorem run_equalIn_sl {t e : TypeId} (hu : P.underlying t = some (.slice e)) (d : Nat) (b : Addr) (n c : Nat) : (Op.equalIn (d + 1) t (.slice (some b) n c) (.slice none 0 0)).run P w = .ok false w := by
  simp [Op.equalIn, run_underlying hu]

theorem step_binOp (h : Rel M Z w0 ρ st a w) (hT : TabOk P T) {o : Oper} (hd : ∀ d, o.dst = some d → d < a.tmps.size) (op : BinOp) (t t' : TypeId) (x y : Operand) (ho : o.op = .binOp op t x y t') {st' : St}
    (hs : ((st.ev x).bind fun p => (st.ev y).bind fun q => (binV T op t p q).map fun v => st.put o.dst v) = some st') : StepOk P M Z w0 o st' a w := by
  simp only [Option.bind_eq_some_iff, Option.map_eq_some_iff] at hs
  obtain ⟨p, hp, q, hq, v, hv, rfl⟩ := hs
  have hx := h.ev hp
  have hy := h.ev hq
  have fin : ∀ u : Value, (eqGuard op t x y (a.eval x) (a.eval y)).run P w = .ok () w → (binOp op t (a.eval x) (a.eval y)).run P w = .ok u w → RepV ρ w Z v u → StepOk P M Z w0 o (st.put o.dst v) a w := fun u hg hr hu =>
    .val h hd (x := u) (by simp only [execOp, ho, Sem.run_bind, hg, hr, Result.andThen_ok, Sem.run_pure]) hu
  unfold binV at hv
  split at hv
  · rename_i k m k' n
    generalize hex : a.eval x = vx at hx
    generalize hey : a.eval y = vy at hy
    cases hx; cases hy
    have hg : (eqGuard op t x y (.int k m) (.int k' n)).run P w = .ok () w := eqGuard_plain (fun cs h => by cases h) (fun h => by cases h)
    split at hv
    · obtain ⟨u, hu⟩ := shiftI_ok (P := P) (w := w) (ρ := ρ) (Z := Z) (k' := k') (.inl rfl) hv
      exact fin u (by rw [hex, hey]; exact hg) (by rw [hex, hey]; exact (hu t).1) (hu t).2
    · obtain ⟨u, hu⟩ := shiftI_ok (P := P) (w := w) (ρ := ρ) (Z := Z) (k' := k') (.inr rfl) hv
      exact fin u (by rw [hex, hey]; exact hg) (by rw [hex, hey]; exact (hu t).1) (hu t).2
    · rename_i n1 n2
      split at hv
      case isFalse => cases hv
      case isTrue hk =>
        subst hk
        obtain ⟨u, hu⟩ := binI_ok (P := P) (w := w) (ρ := ρ) (Z := Z) ⟨n1, n2⟩ hv
        exact fin u (by rw [hex, hey]; exact hg) (by rw [hex, hey]; exact (hu t).1) (hu t).2
  · rename_i s s'
    generalize hex : a.eval x = vx at hx
    generalize hey : a.eval y = vy at hy
    cases hx; cases hy
    obtain ⟨u, hu⟩ := binS_ok (P := P) (w := w) (ρ := ρ) (Z := Z) hv
    exact fin u (by rw [hex, hey]; exact eqGuard_plain (fun cs h => by cases h) (fun h => by cases h)) (by rw [hex, hey]; exact (hu t).1) (hu t).2
  · simp only [Option.bind_eq_some_iff] at hv
    obtain ⟨i, hi, b, hb, hv⟩ := hv
    obtain ⟨info, d, ht⟩ := tyB_ok (hT t i hi)
    -- what '==' gives
    have key : (eqGuard op t x y (a.eval x) (a.eval y)).run P w = .ok () w ∧ (Op.equalIn 10000 t (a.eval x) (a.eval y)).run P w = .ok b w ∧
        (op = .eql → (binOp op t (a.eval x) (a.eval y)).run P w = ((Op.equalIn 10000 t (a.eval x) (a.eval y)).run P w).andThen fun b w' => .ok (.bool b) w') ∧
        (op = .neq → (binOp op t (a.eval x) (a.eval y)).run P w = ((Op.equalIn 10000 t (a.eval x) (a.eval y)).run P w).andThen fun b w' => .ok (.bool (!b)) w') := by
      unfold eqV at hb
      split at hb
      · rename_i c1 c2
        split at hb
        · rename_i bb hz
          split at hb
          case isTrue => cases hb
          case isFalse ha =>
            have ha : i.agg = false := by simpa using ha
            have hu := ht.bool ha hz
            split at hb <;> cases hb
            generalize hex : a.eval x = vx at hx
            generalize hey : a.eval y = vy at hy
            cases hx; cases hy
            refine ⟨eqGuard_plain (fun cs h => by cases h) (fun h => by cases h), by rw [show (10000 : Nat) = 9999 + 1 from rfl, run_equalIn_bool' w _ _ _ _ hu]; rfl, ?_, ?_⟩
            · rintro rfl; simp [Go.binOp, Op.equal, Op.maxDepth]
            · rintro rfl; simp [Go.binOp, Op.equal, Op.maxDepth]
        · rename_i hz
          split at hb
          case isTrue => cases hb
          case isFalse ha =>
            have ha : i.agg = false := by simpa using ha
            obtain ⟨pp, rr, vv, hu⟩ := ht.func ha hz
            split at hb <;> cases hb
            · generalize hex : a.eval x = vx at hx
              generalize hey : a.eval y = vy at hy
              cases hx; cases hy
              refine ⟨eqGuard_plain (fun cs h => by cases h) (fun h => by cases h), run_equalIn_nil hu 9999, ?_, ?_⟩
              · rintro rfl; simp [Go.binOp, Op.equal, Op.maxDepth]
              · rintro rfl; simp [Go.binOp, Op.equal, Op.maxDepth]
            · generalize hex : a.eval x = vx at hx
              generalize hey : a.eval y = vy at hy
              cases hx; cases hy
              refine ⟨eqGuard_plain (fun cs h => by cases h) (fun h => by cases h), run_equalIn_fn hu 9999 _ _ _, ?_, ?_⟩
              · rintro rfl; simp [Go.binOp, Op.equal, Op.maxDepth]
              · rintro rfl; simp [Go.binOp, Op.equal, Op.maxDepth]
        · rename_i hz
          split at hb
          case isTrue => cases hb
          case isFalse ha =>
            have ha : i.agg = false := by simpa using ha
            obtain ⟨ee, hu⟩ := ht.list ha hz
            split at hb
            · cases hb
              have e1 : a.eval x = .slice none 0 0 := hx
              have e2 : a.eval y = .slice none 0 0 := hy
              rw [e1, e2]
              refine ⟨eqGuard_plain (fun cs h => by cases h) (fun h => by cases h), run_equalIn_nosl hu 9999, ?_, ?_⟩
              · rintro rfl; simp [Go.binOp, Op.equal, Op.maxDepth]
              · rintro rfl; simp [Go.binOp, Op.equal, Op.maxDepth]
            · rename_i n cs
              split at hb
              case isTrue => cases hb
              case isFalse hn =>
                cases hb
                have e2 : a.eval y = .slice none 0 0 := hy
                obtain ⟨b0, m0, c0, e1⟩ : ∃ b m c, a.eval x = .slice (some b) m c := by
                  generalize hex : a.eval x = vx at hx
                  cases hx
                  · exact ⟨_, _, _, rfl⟩
                  · exact absurd rfl hn
                rw [e1, e2]
                refine ⟨eqGuard_plain (fun cs h => by cases h) (fun h => by cases h), run_equalIn_sl hu 9999 _ _ _, ?_, ?_⟩
                · rintro rfl; simp [Go.binOp, Op.equal, Op.maxDepth]
                · rintro rfl; simp [Go.binOp, Op.equal, Op.maxDepth]
            · cases hb
        · cases hb
      · rename_i xs ys
        split at hb
        case isFalse => cases hb
        case isTrue hf =>
          obtain ⟨vs, hvs, hlx⟩ := hx
          obtain ⟨us, hus, hly⟩ := hy
          rw [hvs, hus]
          obtain ⟨h1, h2⟩ := eqAgg_ok (P := P) (w := w) ht hf hlx hly hb
          refine ⟨run_eqGuard_agg w op t x y _ _ h2, h1, ?_, ?_⟩
          · rintro rfl; exact run_eql_struct w t _ _
          · rintro rfl; exact run_neq_struct w t _ _
      · cases hb
    obtain ⟨hg, he, k1, k2⟩ := key
    unfold eqOp at hv
    split at hv <;> cases hv
    · exact fin (.bool b) hg (by rw [k1 rfl, he]; rfl) (repBool _ _ _ _)
    · exact fin (.bool !b) hg (by rw [k2 rfl, he]; rfl) (repBool _ _ _ _)

theorem step_not (h : Rel M Z w0 ρ st a w) {o : Oper} (hd : ∀ d, o.dst = some d → d < a.tmps.size) (t : TypeId) (x : Operand) (ho : o.op = .unOp .not t x) {st' : St}
    (hs : ((st.evB x).map fun b => st.put o.dst (vB !b)) = some st') : StepOk P M Z w0 o st' a w := by
  simp only [Option.map_eq_some_iff] at hs
  obtain ⟨b, hb, rfl⟩ := hs
  exact .val h hd (x := .bool !b) (by simp [execOp, ho, h.evB hb, Op.unary]) (repBool _ _ _ _)

theorem step_neg (h : Rel M Z w0 ρ st a w) {o : Oper} (hd : ∀ d, o.dst = some d → d < a.tmps.size) (t : TypeId) (x : Operand) (ho : o.op = .unOp .neg t x) {st' : St}
    (hs : ((st.evI x).bind fun p => (fitK p.1 (0 - p.2)).map fun v => st.put o.dst v) = some st') : StepOk P M Z w0 o st' a w := by
  simp only [Option.bind_eq_some_iff, Option.map_eq_some_iff] at hs
  obtain ⟨p, hp, v, hv, rfl⟩ := hs
  rw [fitK_ok hv]
  exact .val h hd (x := .int p.1 (p.1.wrap (0 - p.2))) (by simp [execOp, ho, h.evI hp, Op.unary, Op.intArith]) (repI _ _ _ _ _)

theorem step_convert (h : Rel M Z w0 ρ st a w) (hT : TabOk P T) {o : Oper} (hd : ∀ d, o.dst = some d → d < a.tmps.size) (s t : TypeId) (x : Operand) (ho : o.op = .convert s t x) (hsrc : ∃ i, T s = some i) {st' : St}
    (hs : ((T t).bind fun i => (st.evI x).bind fun p => (convI i p.2).map fun v => st.put o.dst v) = some st') : StepOk P M Z w0 o st' a w := by
  simp only [Option.bind_eq_some_iff, Option.map_eq_some_iff] at hs
  obtain ⟨i, hi, p, hp, v, hv, rfl⟩ := hs
  obtain ⟨info, d, ht⟩ := tyB_ok (hT t i hi)
  obtain ⟨i', hi'⟩ := hsrc
  obtain ⟨info', d', ht'⟩ := tyB_ok (hT s i' hi')
  unfold convI at hv
  split at hv
  case isTrue => cases hv
  case isFalse ha =>
    split at hv <;> cases hv
    rename_i k _ hz
    have hu := ht.intKind (by simpa using ha) hz
    exact .val h hd (x := .int k (k.wrap p.2)) (by simp [execOp, ho, h.evI hp, Go.convert, run_underlying ht'.und, run_underlying hu, Conv.intToInt]) (repI _ _ _ _ _)

theorem step_nilCheck (h : Rel M Z w0 ρ st a w) {o : Oper} (hd : ∀ d, o.dst = some d → d < a.tmps.size) (x : Operand) (ho : o.op = .nilCheck x) {st' : St}
    (hs : ((st.evC x).bind fun c => (nilChk c).map fun c => st.put o.dst (vC c)) = some st') : StepOk P M Z w0 o st' a w := by
  simp only [Option.bind_eq_some_iff, Option.map_eq_some_iff] at hs
  obtain ⟨c, hc, c', hc', rfl⟩ := hs
  have hr := h.evC hc
  unfold nilChk at hc'
  split at hc' <;> cases hc'
  · obtain ⟨ow, how, hn, he⟩ := hr
    exact .val h hd (x := a.eval x) (by simp [execOp, ho, he]) ⟨ow, how, hn, he⟩
  · generalize hex : a.eval x = vx at hr
    cases hr with
    | ref _ ad vs h0 h1 h2 h3 => exact .val h hd (x := .pointer (some ad)) (by simp [execOp, ho, hex]) (RepD.ref _ ad vs h0 h1 h2 h3)
  · generalize hex : a.eval x = vx at hr
    cases hr with
    | fn _ caps vs h1 h2 => exact .val h hd (x := a.eval x) (by simp [execOp, ho, hex]) (by rw [hex]; exact RepD.fn _ _ vs h1 h2)

theorem step_fieldAddr (h : Rel M Z w0 ρ st a w) (hT : TabOk P T) {o : Oper} (hd : ∀ d, o.dst = some d → d < a.tmps.size) (t : TypeId) (x : Operand) (f : Nat) (ho : o.op = .fieldAddr t x f) {st' : St}
    (hs : ((T t).bind fun i => (st.evC x).bind fun c => (i.flds[f]?).bind fun p => (T p.2).bind fun j => if j.size = 0 then none else (fldAddr p.1 c).map fun c => st.put o.dst (vC c)) = some st') : StepOk P M Z w0 o st' a w := by
  simp only [Option.bind_eq_some_iff] at hs
  obtain ⟨i, hi, c, hc, p, hp, j, hj, hs⟩ := hs
  split at hs
  case isTrue => cases hs
  case isFalse hsz =>
    rw [Option.map_eq_some_iff] at hs
    obtain ⟨c', hc', rfl⟩ := hs
    obtain ⟨info, d, ht⟩ := tyB_ok (hT t i hi)
    obtain ⟨infj, dj, htj⟩ := tyB_ok (hT _ j hj)
    obtain ⟨fs, fd, hu, hfd, hoff, hty⟩ := ht.field hp
    have hr := h.evC hc
    have hrun : ∀ ad : Addr, a.eval x = .pointer (some ad) → (execOp a.eval o).run P w = .ok (.value (.pointer (some (ad.add p.1)))) w := fun ad he => by
      have hs := htj.sizeOf w
      rw [← hty] at hs
      simp [execOp, ho, Instr.fieldAt, run_underlying hu, hfd, Instr.sureAddr, he, fieldPlace, hs, hsz, hoff]
    unfold fldAddr at hc'
    split at hc' <;> cases hc'
    · rename_i b off
      obtain ⟨ow, how, hn, he⟩ := hr
      refine .val h hd (hrun _ he) ⟨ow, how, hn, ?_⟩
      simp [Own.at, addr_add, Nat.add_assoc]
    · rename_i cs
      generalize hex : a.eval x = vx at hr
      cases hr with
      | ref _ ad vs h0 h1 h2 h3 =>
        refine .val h hd (hrun ad hex) ?_
        by_cases hlt : p.1 < cs.length
        · have hsp := h0 (fun e => by subst e; simp at hlt)
          rw [addr_add' ad p.1 hsp]
          refine RepD.ref _ _ (fun q => vs (p.1 + q)) (fun _ => rfl) ?_ ?_ ?_
          all_goals
            intro q y hy
            rw [List.getElem?_drop] at hy
          · have := h1 _ y hy; simpa [Nat.add_assoc] using this
          · have := h2 _ y hy; simpa [Nat.add_assoc] using this
          · exact h3 _ y hy
        · have : cs.drop p.1 = [] := List.drop_eq_nil_of_le (by omega)
          rw [this]
          exact RepD.ref [] _ (fun _ => undef) (fun h => absurd rfl h) (fun q y hy => by simp at hy) (fun q y hy => by simp at hy) (fun q y hy => by simp at hy)

theorem isRow_sz (h : Rel M Z w0 ρ st a w) {b sz : Nat} (hb : isRow st.h b sz = true) {o : Own} (ho : ρ b = some o) : o.sz = sz := by
  unfold isRow at hb
  split at hb
  · rename_i sz' cs app hl
    obtain ⟨o', ho', hr⟩ := h.heap.rep b _ hl
    obtain rfl : o' = o := Option.some.inj (ho'.symm.trans ho)
    rw [hr.1]
    simpa using hb
  · rename_i cs hl
    obtain ⟨o', ho', hr⟩ := h.heap.rep b _ hl
    obtain rfl : o' = o := Option.some.inj (ho'.symm.trans ho)
    rw [hr.1]
    exact (of_decide_eq_true hb).symm
  · cases hb

theorem step_indexAddr (h : Rel M Z w0 ρ st a w) (hT : TabOk P T) {o : Oper} (hd : ∀ d, o.dst = some d → d < a.tmps.size) (t : TypeId) (x y : Operand) (ho : o.op = .indexAddr t x y) {st' : St}
    (hs : ((T t).bind fun ti => (st.evC x).bind fun c => (st.evI y).bind fun n => (idxAddr T st.h ti n.2 c).map fun c => st.put o.dst (vC c)) = some st') : StepOk P M Z w0 o st' a w := by
  simp only [Option.bind_eq_some_iff, Option.map_eq_some_iff] at hs
  obtain ⟨i, hi, c, hc, ⟨kn, n⟩, hn, c', hc', rfl⟩ := hs
  obtain ⟨info, d, ht⟩ := tyB_ok (hT t i hi)
  have hr := h.evC hc
  have hy := h.evI hn
  simp only at hy hc'
  unfold idxAddr at hc'
  split at hc'
  · rename_i m e harr
    rw [Option.bind_eq_some_iff] at hc'
    obtain ⟨j, hj, hc'⟩ := hc'
    obtain ⟨infj, dj, htj⟩ := tyB_ok (hT _ j hj)
    have hu := ht.array harr
    have hrun : ∀ ad : Addr, a.eval x = .pointer (some ad) → 0 ≤ n ∧ n < m → (execOp a.eval o).run P w = .ok (.value (.pointer (some (ad.add (n.toNat * j.size))))) w := fun ad he hb => by
      simp [execOp, ho, Instr.indexAt, hy, asIntOf, run_underlying hu, Instr.sureAddr, he, hb.1, hb.2, htj.sizeOf]
    unfold idxArr at hc'
    split at hc'
    · split at hc' <;> cases hc'
      rename_i b off hb
      obtain ⟨ow, how, hnn, he⟩ := hr
      refine .val h hd (hrun _ he hb) ⟨ow, how, hnn, ?_⟩
      simp [Own.at, addr_add, Nat.add_assoc]
    · split at hc' <;> cases hc'
      rename_i cs hb
      generalize hex : a.eval x = vx at hr
      cases hr with
      | ref _ ad vs h0 h1 h2 h3 =>
        refine .val h hd (hrun ad hex hb) ?_
        by_cases hlt : n.toNat * j.size < cs.length
        · have hsp := h0 (fun e => by subst e; simp at hlt)
          rw [addr_add' ad _ hsp]
          refine RepD.ref _ _ (fun q => vs (n.toNat * j.size + q)) (fun _ => rfl) ?_ ?_ ?_
          all_goals
            intro q y hy
            rw [List.getElem?_drop] at hy
          · have := h1 _ y hy; simpa [Nat.add_assoc] using this
          · have := h2 _ y hy; simpa [Nat.add_assoc] using this
          · exact h3 _ y hy
        · have : cs.drop (n.toNat * j.size) = [] := List.drop_eq_nil_of_le (by omega)
          rw [this]
          exact RepD.ref [] _ (fun _ => undef) (fun h => absurd rfl h) (fun q y hy => by simp at hy) (fun q y hy => by simp at hy) (fun q y hy => by simp at hy)
    · cases hc'
  · rename_i harr
    simp only [Option.bind_eq_some_iff] at hc'
    obtain ⟨e, he, j, hj, hc'⟩ := hc'
    obtain ⟨infj, dj, htj⟩ := tyB_ok (hT _ j hj)
    have hu := ht.slice he
    have hrun : ∀ (ad : Addr) (len cap : Nat), a.eval x = .slice (some ad) len cap → 0 ≤ n ∧ n < len → (execOp a.eval o).run P w = .ok (.value (.pointer (some (ad.add (n.toNat * j.size))))) w := fun ad len cap he hb => by
      simp [execOp, ho, Instr.indexAt, hy, asIntOf, run_underlying hu, he, hb.1, hb.2, htj.sizeOf]
    unfold idxSl at hc'
    split at hc'
    · split at hc' <;> cases hc'
      rename_i b off len hb
      obtain ⟨hb0, hb1, hbr⟩ := hb
      obtain ⟨ow, how, hroom, hcase⟩ := hr
      have hosz := isRow_sz h hbr how
      rcases hcase with ⟨_, _, _, h0⟩ | ⟨hnn, ad, cap, he2, hnc, hcm, had, _⟩
      · omega
      · refine .val h hd (hrun ad len cap he2 ⟨hb0, hb1⟩) ⟨ow, how, hnn, ?_⟩
        have hae : ad = ow.at (off * ow.sz) := by
          rcases had with h0 | h1
          · omega
          · exact h1
        subst hae
        simp only [Own.at, addr_add, hosz, Nat.add_mul, Nat.add_assoc]
    · split at hc' <;> cases hc'
      rename_i len cs hb
      obtain ⟨hb0, hb1, hcl⟩ := hb
      generalize hex : a.eval x = vx at hr
      cases hr with
      | snil => omega
      | slice _ _ ad cap vs h0 hnc hcm h1 h2 h3 =>
        refine .val h hd (hrun ad len cap hex ⟨hb0, hb1⟩) ?_
        by_cases hlt : n.toNat * j.size < cs.length
        · have hsp := h0 (fun e => by subst e; simp at hlt)
          rw [addr_add' ad _ hsp]
          refine RepD.ref _ _ (fun q => vs (n.toNat * j.size + q)) (fun _ => rfl) ?_ ?_ ?_
          all_goals
            intro q y hy
            rw [List.getElem?_drop] at hy
          · have := h1 _ y hy; simpa [Nat.add_assoc] using this
          · have := h2 _ y hy; simpa [Nat.add_assoc] using this
          · exact h3 _ y hy
        · have : cs.drop (n.toNat * j.size) = [] := List.drop_eq_nil_of_le (by omega)
          rw [this]
          exact RepD.ref [] _ (fun _ => undef) (fun h => absurd rfl h) (fun q y hy => by simp at hy) (fun q y hy => by simp at hy) (fun q y hy => by simp at hy)
    · cases hc'


theorem sliceN_ok {n : Nat} {lo hi : Option Int} {k : Nat → Nat → C} {c : C} (h : sliceN n lo hi k = some c) : ∃ l m : Nat, c = k l m ∧ l + m ≤ n ∧ lo.getD 0 = (l : Int) ∧ hi.getD n = ((l + m : Nat) : Int) := by
  unfold sliceN at h
  split at h <;> cases h
  rename_i hc
  obtain ⟨h1, h2, h3⟩ := hc
  exact ⟨_, _, rfl, by omega, by omega, by omega⟩

theorem run_sliceBounds (isS : Bool) (n c l m : Nat) (lo hi : Option Value) (hlo : (lo = none ∧ l = 0) ∨ ∃ k, lo = some (.int k l)) (hhi : (hi = none ∧ l + m = n) ∨ ∃ k, hi = some (.int k ((l + m : Nat) : Int))) (hc : l + m ≤ c) :
    (Instr.sliceBounds isS n c lo hi none).run P w = .ok (l, l + m, c) w := by
  rcases hhi with ⟨rfl, rfl⟩ | ⟨k, rfl⟩ <;> rcases hlo with ⟨rfl, rfl⟩ | ⟨k', rfl⟩
  · simp [Instr.sliceBounds]
  · simp [Instr.sliceBounds, Instr.sliceBound, asIntOf]
  · have h1 : ¬ (c < m) := by omega
    have h2 : m ≤ c := by omega
    simp [Instr.sliceBounds, Instr.sliceBound, asIntOf, h2]
  · have h1 : ((l : Int) + (m : Int) ≤ (c : Int)) := by omega
    have h2 : (0 : Int) ≤ (l : Int) + (m : Int) := by omega
    have h3 : ((l : Int) + (m : Int)).toNat = l + m := by omega
    simp [Instr.sliceBounds, Instr.sliceBound, asIntOf, h1, h2, h3]

theorem evO_ok (h : Rel M Z w0 ρ st a w) {x : Option Operand} {v : Option Int} (hv : st.evO x = some v) : (x.map a.eval = none ∧ v = none) ∨ ∃ k n, x.map a.eval = some (.int k n) ∧ v = some n := by
  cases x with
  | none => cases hv; exact .inl ⟨rfl, rfl⟩
  | some x =>
    simp only [St.evO, Option.map_eq_some_iff] at hv
    obtain ⟨p, hp, rfl⟩ := hv
    exact .inr ⟨p.1, p.2, by simp [h.evI hp], rfl⟩

theorem step_slice (h : Rel M Z w0 ρ st a w) (hT : TabOk P T) {o : Oper} (hd : ∀ d, o.dst = some d → d < a.tmps.size) (t : TypeId) (x : Operand) (lo hi : Option Operand) (ho : o.op = .slice t x lo hi none) {st' : St}
    (hs : ((T t).bind fun i => (st.evC x).bind fun c => (st.evO lo).bind fun l => (st.evO hi).bind fun h =>
      (match i.sl with | some e => (T e).bind fun j => sliceV st.h c l h j.size | none => if isStr i then sliceS c l h else none).map fun v => st.put o.dst (vC v)) = some st') : StepOk P M Z w0 o st' a w := by
  simp only [Option.bind_eq_some_iff, Option.map_eq_some_iff] at hs
  obtain ⟨i, hti, c, hc, lo', hlo, hi', hhi, c', hc', rfl⟩ := hs
  obtain ⟨info, d, ht⟩ := tyB_ok (hT t i hti)
  have hr := h.evC hc
  have bnd : ∀ (isS : Bool) {n c l m : Nat}, lo'.getD 0 = (l : Int) → hi'.getD n = ((l + m : Nat) : Int) → l + m ≤ c → (Instr.sliceBounds isS n c (lo.map a.eval) (hi.map a.eval) none).run P w = .ok (l, l + m, c) w := fun isS {n c l m} h1 h2 h3 => by
    refine run_sliceBounds isS n c l m _ _ ?_ ?_ h3
    · rcases evO_ok h hlo with ⟨e1, rfl⟩ | ⟨k, q, e1, rfl⟩
      · exact .inl ⟨e1, by simpa using h1.symm⟩
      · exact .inr ⟨k, by rw [e1]; simp at h1; rw [h1]⟩
    · rcases evO_ok h hhi with ⟨e1, rfl⟩ | ⟨k, q, e1, rfl⟩
      · exact .inl ⟨e1, by simp at h2; omega⟩
      · exact .inr ⟨k, by rw [e1]; simp only [Option.getD_some] at h2; rw [h2]⟩
  split at hc'
  · rename_i e he
    rw [Option.bind_eq_some_iff] at hc'
    obtain ⟨j, hj, hc'⟩ := hc'
    obtain ⟨infj, dj, htj⟩ := tyB_ok (hT _ j hj)
    have hu := ht.slice he
    have hrun : ∀ {A : Option Addr} {n cap l m : Nat}, a.eval x = .slice A n cap → lo'.getD 0 = (l : Int) → hi'.getD n = ((l + m : Nat) : Int) → l + m ≤ cap →
        (execOp a.eval o).run P w = .ok (.value (.slice (if cap = l then A else A.map (·.add (l * j.size))) m (cap - l))) w := fun {A n cap l m} he2 h1 h2 h3 => by
      have hb := bnd true h1 h2 h3
      simp [execOp, ho, Instr.sliceAt, Instr.slice, run_underlying hu, he2, hb, htj.sizeOf]
    unfold sliceV at hc'
    split at hc'
    · split at hc'
      case isFalse => cases hc'
      case isTrue hrow =>
        rename_i b off n
        obtain ⟨l, m, rfl, hlm, e1, e2⟩ := sliceN_ok hc'
        obtain ⟨ow, how, hroom, hcase⟩ := hr
        have hosz := isRow_sz h hrow how
        rcases hcase with ⟨hnn, he2, rfl, rfl⟩ | ⟨hnn, ad, cap, he2, hnc, hcm, had, happ⟩
        · have hl0 : l = 0 := by omega
          have hm0 : m = 0 := by omega
          subst hl0; subst hm0
          exact .val h hd (hrun he2 e1 e2 (by omega)) ⟨ow, how, by omega, .inl ⟨hnn, by simp, by omega, rfl⟩⟩
        · refine .val h hd (hrun he2 e1 e2 (by omega)) ⟨ow, how, by omega, .inr ⟨hnn, ?_⟩⟩
          by_cases hcl : cap = l
          · refine ⟨ad, cap - l, by simp [hcl], by omega, by omega, .inl (by omega), fun hh => by have := happ hh; omega⟩
          · refine ⟨ad.add (l * j.size), cap - l, by simp [hcl], by omega, by omega, .inr ?_, fun hh => by have := happ hh; omega⟩
            have hae : ad = ow.at (off * ow.sz) := by
              rcases had with h0 | h1
              · omega
              · exact h1
            subst hae
            simp only [Own.at, addr_add, hosz, Nat.add_mul, Nat.add_assoc]
    · obtain ⟨l, m, rfl, hlm, e1, e2⟩ := sliceN_ok hc'
      have hl0 : l = 0 := by omega
      have hm0 : m = 0 := by omega
      subst hl0; subst hm0
      exact .val h hd (hrun hr e1 e2 (by omega)) (by simp [vC, RepV, RepU, RepC])
    · split at hc'
      case isFalse => cases hc'
      case isTrue hcl =>
        rename_i n cs
        obtain ⟨l, m, rfl, hlm, e1, e2⟩ := sliceN_ok hc'
        generalize hex : a.eval x = vx at hr
        cases hr with
        | snil =>
          have hl0 : l = 0 := by omega
          have hm0 : m = 0 := by omega
          subst hl0; subst hm0
          refine .val h hd (hrun hex e1 e2 (by omega)) ?_
          simp only [cut, Nat.zero_mul, List.take_zero, List.drop_nil, ite_self, Option.map_none, Nat.sub_zero]
          exact RepD.snil
        | slice _ _ ad cap vs h0 hnc hcm h1 h2 h3 =>
          refine .val h hd (hrun hex e1 e2 (by omega)) ?_
          have hempty : m = 0 ∨ j.size = 0 → cut (l * j.size) (m * j.size) cs = [] := fun h => by
            rcases h with rfl | h
            · simp [cut]
            · simp [cut, h]
          have mkn : ∀ ad' : Addr, (cut (l * j.size) (m * j.size) cs = []) → RepD w (Out ρ Z) (.slice m (cut (l * j.size) (m * j.size) cs)) (.slice (some ad') m (cap - l)) := fun ad' he => by
            rw [he]
            exact .slice m [] ad' _ (fun _ => undef) (fun h => absurd rfl h) (by omega) (by omega) (fun q y hy => by simp at hy) (fun q y hy => by simp at hy) (fun q y hy => by simp at hy)
          by_cases hcl2 : cap = l
          · have hm0 : m = 0 := by omega
            rw [if_pos hcl2]
            exact mkn ad (hempty (.inl hm0))
          · rw [if_neg hcl2]
            simp only [Option.map_some]
            by_cases hz : m = 0 ∨ j.size = 0
            · exact mkn _ (hempty hz)
            · have hcne : cs ≠ [] := fun e => by
                subst e
                have h0 : n * j.size = 0 := hcl.symm
                rcases Nat.mul_eq_zero.1 h0 with h | h <;> omega
              have hsp := h0 hcne
              rw [addr_add' ad _ hsp]
              refine RepD.slice m _ _ (cap - l) (fun q => vs (l * j.size + q)) (fun _ => rfl) (by omega) (by omega) ?_ ?_ ?_
              all_goals
                intro q y hy
                rw [getElem?_cut] at hy
                split at hy <;> try (cases hy; done)
              · have := h1 _ y hy; simpa [Nat.add_assoc] using this
              · have := h2 _ y hy; simpa [Nat.add_assoc] using this
              · exact h3 _ y hy
    · cases hc'
  · rename_i hsl
    split at hc'
    case isFalse => cases hc'
    case isTrue hstr =>
      have hu := isStr_ok ht hstr
      unfold sliceS at hc'
      split at hc'
      · rename_i s
        obtain ⟨l, m, rfl, hlm, e1, e2⟩ := sliceN_ok hc'
        generalize hex : a.eval x = vx at hr
        cases hr
        have hb := bnd false e1 e2 hlm
        exact .val h hd (x := .string (s.extract l (l + m))) (by simp [execOp, ho, Instr.sliceAt, Instr.slice, run_underlying hu, hex, hb]) (RepD.str _)
      · cases hc'


theorem part_ok {t : TypeId} {i : TI} {info : TypeInfo} {d : TypeDesc} (ht : TyOk P t i info d) {off : Nat} {cs : List C} {u : U} (h : part i off cs = some u) {vs : List Value} (hr : RepL (RepC ρ w Z) cs vs) : ∃ v, (Go.part t vs.toArray off).run P w = .ok v w ∧ RepU ρ w Z u v := by
  unfold Va.part at h
  split at h
  · rename_i ha
    split at h <;> cases h
    rename_i hl
    refine ⟨.agg ((vs.drop off).take i.size).toArray, ?_, (vs.drop off).take i.size, rfl, ?_⟩
    · have he : vs.toArray.extract off (off + i.size) = ((vs.drop off).take i.size).toArray := by
        apply Array.ext'
        simp [List.extract]
      simp [Go.part, ht.isAgg, ha, ht.sizeOf, he]
    · have h1 := hr.1
      refine ⟨by simp [cut, h1], fun q x v hx hv => ?_⟩
      rw [getElem?_cut] at hx
      rw [List.getElem?_take, List.getElem?_drop] at hv
      split at hx <;> try (cases hx; done)
      rw [if_pos ‹_›] at hv
      exact hr.2 _ x v hx hv
  · rename_i ha
    rw [Option.map_eq_some_iff] at h
    obtain ⟨c, hc, rfl⟩ := h
    have hl : off < vs.length := by rw [← hr.1]; exact (List.getElem?_eq_some_iff.1 hc).1
    exact ⟨vs[off], by simp [Go.part, ht.isAgg, ha, hl], hr.2 off c _ hc (List.getElem?_eq_getElem hl)⟩

theorem step_field (h : Rel M Z w0 ρ st a w) (hT : TabOk P T) {o : Oper} (hd : ∀ d, o.dst = some d → d < a.tmps.size) (t : TypeId) (x : Operand) (f : Nat) (ho : o.op = .field t x f) {st' : St}
    (hs : ((T t).bind fun i => (st.evU x).bind fun u => (fieldOf T i f u).map fun u => st.put o.dst (.u u)) = some st') : StepOk P M Z w0 o st' a w := by
  simp only [Option.bind_eq_some_iff, Option.map_eq_some_iff] at hs
  obtain ⟨i, hi, u, hu, u', hu', rfl⟩ := hs
  obtain ⟨info, d, ht⟩ := tyB_ok (hT t i hi)
  have hr := h.evU hu
  unfold fieldOf at hu'
  split at hu'
  · simp only [Option.bind_eq_some_iff] at hu'
    obtain ⟨p, hp, j, hj, hpart⟩ := hu'
    obtain ⟨infj, dj, htj⟩ := tyB_ok (hT _ j hj)
    obtain ⟨fs, fd, hund, hfd, hoff, hty⟩ := ht.field hp
    obtain ⟨vs, hvs, hl⟩ := hr
    obtain ⟨v, hv, hrv⟩ := part_ok (P := P) htj hpart hl
    rw [← hty, ← hoff] at hv
    exact .val h hd (x := v) (by simp [execOp, ho, hvs, Instr.field, run_underlying hund, hfd, asAgg, hv]) hrv
  · cases hu'

theorem step_index (h : Rel M Z w0 ρ st a w) (hT : TabOk P T) {o : Oper} (hd : ∀ d, o.dst = some d → d < a.tmps.size) (t : TypeId) (x y : Operand) (ho : o.op = .index t x y) {st' : St}
    (hs : ((T t).bind fun ti => (st.evU x).bind fun u => (st.evI y).bind fun n => (indexOf T ti n.2 u).map fun u => st.put o.dst (.u u)) = some st') : StepOk P M Z w0 o st' a w := by
  simp only [Option.bind_eq_some_iff, Option.map_eq_some_iff] at hs
  obtain ⟨i, hi, u, hu, ⟨kn, n⟩, hn, u', hu', rfl⟩ := hs
  obtain ⟨info, d, ht⟩ := tyB_ok (hT t i hi)
  have hr := h.evU hu
  have hy := h.evI hn
  simp only at hy hu'
  unfold indexOf at hu'
  split at hu'
  · simp only [Option.bind_eq_some_iff] at hu'
    obtain ⟨⟨m, e⟩, hp, j, hj, hu'⟩ := hu'
    split at hu'
    case isFalse => cases hu'
    case isTrue hb =>
      obtain ⟨infj, dj, htj⟩ := tyB_ok (hT _ j hj)
      have hund := ht.array hp
      obtain ⟨vs, hvs, hl⟩ := hr
      obtain ⟨v, hv, hrv⟩ := part_ok (P := P) htj hu' hl
      exact .val h hd (x := v) (by simp [execOp, ho, hvs, hy, Instr.index, asIntOf, run_underlying hund, hb.1, hb.2, htj.sizeOf, hv]) hrv
  · rename_i s
    split at hu'
    case isFalse => cases hu'
    case isTrue hb =>
      rw [Option.map_eq_some_iff] at hu'
      obtain ⟨bt, hbt, rfl⟩ := hu'
      have hund := isStr_ok ht hb.1
      generalize hex : a.eval x = vx at hr
      cases hr
      exact .val h hd (x := .int .u8 bt.toNat) (by simp [execOp, ho, hex, hy, Instr.index, asIntOf, run_underlying hund, hb.2.1, hbt]) (repI _ _ _ _ _)
  · cases hu'

theorem step_extract (h : Rel M Z w0 ρ st a w) {o : Oper} (hd : ∀ d, o.dst = some d → d < a.tmps.size) (x : Operand) (i : Nat) (ho : o.op = .extract x i) {st' : St}
    (hs : ((st.ev x).bind fun v => (tupAt i v).map fun u => st.put o.dst (.u u)) = some st') : StepOk P M Z w0 o st' a w := by
  simp only [Option.bind_eq_some_iff, Option.map_eq_some_iff] at hs
  obtain ⟨v, hv, u, hu, rfl⟩ := hs
  have hr := h.ev hv
  unfold tupAt at hu
  split at hu
  · obtain ⟨vs, hvs, hl⟩ := hr
    have hi : i < vs.length := by rw [← hl.1]; exact (List.getElem?_eq_some_iff.1 hu).1
    exact .val h hd (x := vs[i]) (by simp [execOp, ho, hvs, Instr.extract, hi]) (hl.2 i u _ hu (List.getElem?_eq_getElem hi))
  · cases hu

theorem evCs (h : Rel M Z w0 ρ st a w) : ∀ {xs : List Operand} {cs : List C}, xs.mapM st.evC = some cs → RepL (RepC ρ w Z) cs (xs.map a.eval)
  | [], cs, hc => by simp at hc; subst hc; exact ⟨rfl, fun j x v hx => by simp at hx⟩
  | x :: xs, cs, hc => by
    simp only [List.mapM_cons, Option.pure_def, Option.bind_eq_bind, Option.bind_eq_some_iff, Option.some.injEq] at hc
    obtain ⟨c, hc1, cs', hc2, rfl⟩ := hc
    obtain ⟨i1, i2⟩ := evCs h hc2
    refine ⟨by simpa using i1, fun j y v hy hv => ?_⟩
    cases j with
    | zero => simp at hy hv; subst hy; subst hv; exact h.evC hc1
    | succ j => exact i2 j y v (by simpa using hy) (by simpa using hv)

theorem step_makeFunc (h : Rel M Z w0 ρ st a w) {o : Oper} (hd : ∀ d, o.dst = some d → d < a.tmps.size) (f : FuncId) (first captured : Array Operand) (ho : o.op = .makeFunc (.func f) first captured) {st' : St}
    (hs : (if first.toList = [] then (captured.toList.mapM st.evC).map fun cs => st.put o.dst (.u (clo st.h f cs)) else none) = some st') : StepOk P M Z w0 o st' a w := by
  split at hs
  case isFalse => cases hs
  case isTrue hf =>
    simp only [Option.map_eq_some_iff] at hs
    obtain ⟨cs, hcs, rfl⟩ := hs
    have hl := evCs h hcs
    have hf' : first = #[] := by apply Array.ext'; simpa using hf
    have e1 : captured.map a.eval = (captured.toList.map a.eval).toArray := by apply Array.ext'; simp
    refine .val h hd (x := .func (.func f) #[] (captured.toList.map a.eval).toArray) (by simp [execOp, ho, Instr.makeFunc, hf', e1]) ?_
    unfold clo
    split
    · rename_i ds hds
      obtain ⟨m1, m2⟩ := mapM_some hds
      refine RepD.fn f ds _ (m1.trans hl.1) fun j x v hx hv => ?_
      have hj : j < cs.length := by rw [← m1]; exact (List.getElem?_eq_some_iff.1 hx).1
      obtain ⟨y, hy, hf⟩ := m2 j _ (List.getElem?_eq_getElem hj)
      rw [hx] at hy
      cases hy
      exact (toD_rep h _ 3 _ v _ (hl.2 j _ v (List.getElem?_eq_getElem hj) hv) hf).keep (Keep.mono fun ad ho => by
        rcases ho with hz | ⟨j, o, h1, h2⟩
        · exact .inl hz
        · exact .inr ⟨j, o, by simpa [ersd] using h1, h2⟩)
    · exact ⟨_, rfl, hl⟩

theorem step_len (h : Rel M Z w0 ρ st a w) (hT : TabOk P T) {o : Oper} (hd : ∀ d, o.dst = some d → d < a.tmps.size) (t : TypeId) (x : Operand) (ho : o.op = .call { callee := .builtin .len, args := #[x], argTypes := #[t] }) {st' : St}
    (hs : ((T t).bind fun i => biLen i o.dst st x) = some st') : StepOk P M Z w0 o st' a w := by
  rw [Option.bind_eq_some_iff] at hs
  obtain ⟨i, hi, hs⟩ := hs
  obtain ⟨info, d, ht⟩ := tyB_ok (hT t i hi)
  unfold biLen at hs
  split at hs
  · rename_i n e harr
    cases hs
    have hu := ht.array harr
    exact .val h hd (x := .int .i64 n) (by simp [execOp, ho, resolve, invoke, builtin, Builtin.len_, run_underlying hu, goInt]) (repI _ _ _ _ _)
  · simp only [Option.bind_eq_some_iff, Option.map_eq_some_iff] at hs
    obtain ⟨c, hc, n, hn, rfl⟩ := hs
    have hr := h.evC hc
    split at hn
    · rename_i hsl
      obtain ⟨e, he⟩ := Option.isSome_iff_exists.1 hsl
      have hu := ht.slice he
      have hv : ∃ A cap, a.eval x = .slice A n cap := by
        unfold lenC at hn
        split at hn <;> cases hn
        · exact ⟨none, 0, hr⟩
        · obtain ⟨ow, how, _, ⟨_, h1, _, rfl⟩ | ⟨_, ad, cap, h1, _⟩⟩ := hr
          · exact ⟨_, _, h1⟩
          · exact ⟨_, _, h1⟩
        · generalize a.eval x = vx at hr
          cases hr with
          | snil => exact ⟨_, _, rfl⟩
          | slice => exact ⟨_, _, rfl⟩
      obtain ⟨A, cap, hv⟩ := hv
      exact .val h hd (x := .int .i64 n) (by simp [execOp, ho, resolve, invoke, builtin, Builtin.len_, run_underlying hu, hv, goInt]) (repI _ _ _ _ _)
    · split at hn
      case isFalse => cases hn
      case isTrue hstr =>
        have hu := isStr_ok ht hstr
        unfold lenS at hn
        split at hn <;> cases hn
        generalize hex : a.eval x = vx at hr
        cases hr
        exact .val h hd (x := .int .i64 _) (by simp [execOp, ho, resolve, invoke, builtin, Builtin.len_, run_underlying hu, hex, goInt] <;> rfl) (repI _ _ _ _ _)

end
end Go.Va

/-
  Soundness, ninth part: copy, min, max; any operation that is no call.
-/
namespace Go.Va
open Go.RowKit

section
variable {P : Program} {T : Tab} {M Z : Addr → Prop} {w0 w : World} {ρ : Rho} {st : St} {a : Act}

theorem minmax_min {k : IntKind} : ∀ {l : List (IntKind × Int)} {x : Int} {v : V}, minmax false k x l = some v → ∃ n : Int, v = vI k n ∧ ((l.map fun p => Value.int p.1 p.2).foldlM Builtin.min2 (.int k x)).run P w = .ok (.int k n) w
  | [], x, v, h => by cases h; exact ⟨x, rfl, by simp⟩
  | (k', y) :: r, x, v, h => by
    simp only [minmax] at h
    split at h
    case isFalse => cases h
    case isTrue hk =>
      subst hk
      obtain ⟨n, hn, hr⟩ := minmax_min h
      refine ⟨n, hn, ?_⟩
      simp only [List.map_cons, List.foldlM_cons, Builtin.min2, Sem.run_bind, Sem.run_pure, Result.andThen_ok]
      simpa using hr
theorem minmax_max {k : IntKind} : ∀ {l : List (IntKind × Int)} {x : Int} {v : V}, minmax true k x l = some v → ∃ n : Int, v = vI k n ∧ ((l.map fun p => Value.int p.1 p.2).foldlM Builtin.max2 (.int k x)).run P w = .ok (.int k n) w
  | [], x, v, h => by cases h; exact ⟨x, rfl, by simp⟩
  | (k', y) :: r, x, v, h => by
    simp only [minmax] at h
    split at h
    case isFalse => cases h
    case isTrue hk =>
      subst hk
      obtain ⟨n, hn, hr⟩ := minmax_max h
      refine ⟨n, hn, ?_⟩
      simp only [List.map_cons, List.foldlM_cons, Builtin.max2, Sem.run_bind, Sem.run_pure, Result.andThen_ok]
      simpa using hr

theorem evIs (h : Rel M Z w0 ρ st a w) : ∀ {xs : List Operand} {l : List (IntKind × Int)}, xs.mapM st.evI = some l → xs.map a.eval = l.map fun p => Value.int p.1 p.2
  | [], l, hl => by simp at hl; subst hl; rfl
  | x :: xs, l, hl => by
    simp only [List.mapM_cons, Option.pure_def, Option.bind_eq_bind, Option.bind_eq_some_iff, Option.some.injEq] at hl
    obtain ⟨p, hp, l', hl', rfl⟩ := hl
    simp [evIs h hl', h.evI hp]

theorem step_minmax (h : Rel M Z w0 ρ st a w) {o : Oper} (hd : ∀ d, o.dst = some d → d < a.tmps.size) (mx : Bool) (x : Operand) (r : List Operand) (ts : Array TypeId)
    (ho : o.op = .call { callee := .builtin (if mx then .max else .min), args := (x :: r).toArray, argTypes := ts }) {st' : St}
    (hs : ((st.evI x).bind fun p => (r.mapM st.evI).bind fun l => (minmax mx p.1 p.2 l).map fun v => st.put o.dst v) = some st') : StepOk P M Z w0 o st' a w := by
  simp only [Option.bind_eq_some_iff, Option.map_eq_some_iff] at hs
  obtain ⟨p, hp, l, hl, v, hv, rfl⟩ := hs
  have hx := h.evI hp
  have hr := evIs h hl
  cases mx with
  | false =>
    obtain ⟨n, rfl, hrun⟩ := minmax_min (P := P) (w := w) hv
    refine .val h hd (x := .int p.1 n) ?_ (repI _ _ _ _ _)
    simp [execOp, ho, resolve, invoke, builtin, Builtin.min_, hx, hr, hrun]
  | true =>
    obtain ⟨n, rfl, hrun⟩ := minmax_max (P := P) (w := w) hv
    refine .val h hd (x := .int p.1 n) ?_ (repI _ _ _ _ _)
    simp [execOp, ho, resolve, invoke, builtin, Builtin.max_, hx, hr, hrun]

theorem step_copy (h : Rel M Z w0 ρ st a w) (hT : TabOk P T) {o : Oper} (hd : ∀ d, o.dst = some d → d < a.tmps.size) (t t' : TypeId) (x y : Operand)
    (ho : o.op = .call { callee := .builtin .copy, args := #[x, y], argTypes := #[t, t'] }) {st' : St} {i : TI} {e : Nat} {j : TI} {s : C} {b off n : Nat} {p : Nat × List D} {k : Blk}
    (hi : T t = some i) (he : i.sl = some e) (hj : T e = some j) (hc : st.evC x = some (.sl b off n)) (hs : st.evC y = some s) (hp : st.src j s = some p) (hk : lk b st.h = some k)
    (hst : copyTo j o.dst b off n st p k = some st') : StepOk P M Z w0 o st' a w := by
  obtain ⟨m, ds⟩ := p
  obtain ⟨info, dd, ht⟩ := tyB_ok (hT t i hi)
  obtain ⟨infe, de, hte⟩ := tyB_ok (hT e j hj)
  obtain ⟨A, cx, news, hvy, hds, hnl, hnews⟩ := src_rep' (P := P) (j := j) h (h.evC hs) hp
  cases k with
  | box => simp [copyTo] at hst
  | row sz cs app =>
    simp only [copyTo] at hst
    split at hst
    case isFalse => cases hst
    case isTrue hcond =>
      cases hst
      obtain ⟨rfl, hlen⟩ := hcond
      obtain ⟨ow, how, hroom, hcase⟩ := h.evC hc
      obtain ⟨o2, ho2, hr⟩ := h.heap.rep b _ hk
      obtain rfl : o2 = ow := Option.some.inj (ho2.symm.trans how)
      obtain ⟨q1, q2, q3, q4, q5⟩ := hr
      have hmn : min m n ≤ m := Nat.min_le_left _ _
      have hmn' : min m n ≤ n := Nat.min_le_right _ _
      have hrd := hnews (min m n) hmn w rfl
      have hkl : (ds.take (min m n * j.size)).length = min m n * j.size := by
        rw [List.length_take, hds.1, hnl, Nat.min_eq_left (Nat.mul_le_mul_right _ hmn)]
      have hvl : (news.take (min m n * j.size)).length = min m n * j.size := by
        rw [List.length_take, hnl, Nat.min_eq_left (Nat.mul_le_mul_right _ hmn)]
      have hfit : off * j.size + min m n * j.size ≤ cs.length := by
        have := Nat.mul_le_mul_right j.size hmn'
        rw [Nat.add_mul] at hlen
        omega
      have hds' : RepL (RepD w (Out ρ Z)) (ds.take (min m n * j.size)) (news.take (min m n * j.size)) := by
        refine ⟨by rw [hkl, hvl], fun q y v hy hv => ?_⟩
        rw [List.getElem?_take] at hy hv
        split at hy <;> try (cases hy; done)
        rw [if_pos ‹_›] at hv
        exact hds.2 q y v hy hv
      have hmin : Nat.min m n = min m n := rfl
      have fin : ∀ w' : World, (∀ ad cap, a.eval x = .slice (some ad) n cap → (storeCells ad (news.take (min m n * j.size))).run P w = .ok () w') → (a.eval x = .slice none 0 0 → w' = w) →
          Rel M Z w0 ρ (st.blk b (.row j.size (splice (off * j.size) (ds.take (min m n * j.size)) cs) app)) a w' →
          StepOk P M Z w0 o ((st.blk b (.row j.size (splice (off * j.size) (ds.take (min m n * j.size)) cs) app)).put o.dst (vI .i64 (min m n : Nat))) a w := fun w' h1 h2 hrel => by
        refine .new hd (x := .int .i64 (min m n : Nat)) ?_ hrel (repI _ _ _ _ _)
        rw [hvy] at hrd
        rcases hcase with ⟨_, he2, _, rfl⟩ | ⟨_, ad, cap, he2, _⟩
        · obtain rfl := h2 he2
          simp only [Nat.min_zero, Nat.zero_mul, List.take_zero] at hrd
          simp [execOp, ho, resolve, invoke, builtin, Builtin.copy_, run_underlying (ht.slice he), he2, hvy, Builtin.lenOf, hte.sizeOf, hrd, goInt]
        · have h3 := h1 ad cap he2
          simp [execOp, ho, resolve, invoke, builtin, Builtin.copy_, run_underlying (ht.slice he), he2, hvy, Builtin.lenOf, hte.sizeOf, hmin, hrd, h3, goInt]
      rcases hcase with ⟨hn, he2, rfl, rfl⟩ | ⟨hn, ad, cap, he2, hnc, hcm, had, _⟩
      · refine fin w (fun ad cap h => by rw [he2] at h; cases h) (fun _ => rfl) ?_
        have hsp : splice (0 * j.size) (ds.take (min m 0 * j.size)) cs = cs := by simp [splice]
        rw [hsp]
        refine h.congr (fun _ => rfl) fun q => ?_
        simp only [St.blk]
        by_cases e : q = b
        · subst e; rw [lk_cons_same, hk]
        · rw [lk_cons_ne e, lk_rm_ne e]
      · replace hn : o2.gone = false := q4.2.trans hn
        have hspace : off * j.size + (news.take (min m n * j.size)).length ≤ o2.room * o2.sz := by rw [hvl, q1]; omega
        have hw := h.write how hn (off := off * j.size) (vs := news.take (min m n * j.size)) hspace (b := .row j.size (splice (off * j.size) (ds.take (min m n * j.size)) cs) app) fun hk => ⟨q1, q2, by
          rw [length_splice _ _ _ (by rw [hkl]; exact hfit)]; exact q3, q4, fun q y hy => by
          rw [setCells_at h how hn hspace, hvl]
          rw [splice_get _ _ _ (by rw [hkl]; exact hfit), hkl] at hy
          split at hy
          · rename_i hq
            rw [if_pos hq]
            have hq2 : q - off * j.size < (news.take (min m n * j.size)).length := by rw [hvl]; omega
            exact ⟨_, List.getElem?_eq_getElem hq2, (hds'.2 _ _ _ hy (List.getElem?_eq_getElem hq2)).keep hk⟩
          · rename_i hq
            rw [if_neg hq]
            obtain ⟨v, hv, hdd⟩ := q5 q y hy
            exact ⟨v, hv, hdd.keep hk⟩⟩
        refine fin _ (fun ad' cap' h' => ?_) (fun h' => by rw [he2] at h'; cases h') hw
        rw [he2] at h'
        cases h'
        rcases had with hc0 | hae
        · have hn0 : n = 0 := by omega
          subst hn0
          simp [storeCells, World.setCells]
        · subst hae
          have hs2 := run_storeCells_cells (P := P) o2.g (o2.o + off * j.size) (news.take (min m n * j.size)) 0 w (fun q hq => by
              obtain ⟨⟨u, hu⟩, _⟩ := h.heap.owns.cells b o2 how hn (off * j.size + q) (by omega)
              have he : (⟨o2.g, o2.o + off * j.size + 0 + q, none⟩ : Addr) = o2.at (off * j.size + q) := by simp; omega
              rw [he, hu]; rfl) (fun q hq => by
              obtain ⟨_, hf⟩ := h.heap.owns.cells b o2 how hn (off * j.size + q) (by omega)
              have he : (⟨o2.g, o2.o + off * j.size + 0 + q, none⟩ : Addr) = o2.at (off * j.size + q) := by simp; omega
              rw [he, hf]) (fun v hv => by
              obtain ⟨q, hq, rfl⟩ := List.getElem_of_mem hv
              exact (hds'.2 q _ _ (List.getElem?_eq_getElem (by rw [hds'.1]; exact hq)) (List.getElem?_eq_getElem hq)).one)
          rw [q1]
          simpa using hs2

/-- Any operation that is no call of a function. -/
theorem step_sound (h : Rel M Z w0 ρ st a w) (hT : TabOk P T) {o : Oper} (hd : ∀ d, o.dst = some d → d < a.tmps.size) {st' : St} (hs : stepOp T o st = some st') : StepOk P M Z w0 o st' a w := by
  unfold stepOp at hs
  split at hs
  · exact step_nil h hT hd ‹_› hs
  · exact step_move h hd _ (.inl ‹_›) hs
  · exact step_move h hd _ (.inr ‹_›) hs
  · exact step_pick h hd _ _ _ ‹_› hs
  · exact step_alloc h hT hd _ ‹_› hs
  · exact step_box h hT hd _ _ ‹_› hs
  · exact step_build h hT hd _ _ ‹_› hs
  · exact step_buildSlice h hT hd _ _ _ ‹_› hs
  · exact step_load h hT hd _ _ ‹_› hs
  · exact step_store h hT hd _ _ _ ‹_› hs
  · exact step_nilCheck h hd _ ‹_› hs
  · exact step_binOp h hT hd _ _ _ _ _ ‹_› hs
  · exact step_not h hd _ _ ‹_› hs
  · exact step_neg h hd _ _ ‹_› hs
  · rw [Option.bind_eq_some_iff] at hs
    obtain ⟨i, hi, hs⟩ := hs
    exact step_convert h hT hd _ _ _ ‹_› ⟨i, hi⟩ hs
  · exact step_makeSlice h hT hd _ _ _ ‹_› hs
  · exact step_slice h hT hd _ _ _ _ ‹_› hs
  · exact step_fieldAddr h hT hd _ _ _ ‹_› hs
  · exact step_field h hT hd _ _ _ ‹_› hs
  · exact step_indexAddr h hT hd _ _ _ ‹_› hs
  · exact step_index h hT hd _ _ _ ‹_› hs
  · exact step_extract h hd _ _ ‹_› hs
  · exact step_makeFunc h hd _ _ _ ‹_› hs
  · rename_i b args ts ho
    unfold stepBuiltin at hs
    split at hs
    · rename_i t x ht hx
      have hts : ts = #[t] := by apply Array.ext'; simpa using ht
      have hxs : args = #[x] := by apply Array.ext'; simpa using hx
      subst hts; subst hxs
      exact step_len h hT hd t x ho hs
    · rename_i t t' x y ht hx
      have hts : ts = #[t, t'] := by apply Array.ext'; simpa using ht
      have hxs : args = #[x, y] := by apply Array.ext'; simpa using hx
      subst hts; subst hxs
      simp only [Option.bind_eq_some_iff] at hs
      obtain ⟨d, hdst, i, hi, e, he, j, hj, c, hc, s, hsy, hs⟩ := hs
      split at hs
      case isFalse => cases hs
      case isTrue htt =>
        subst htt
        rw [Option.bind_eq_some_iff] at hs
        obtain ⟨p, hp, hs⟩ := hs
        exact step_append h hT hdst hd t' x y ho hi he hj hc hsy hp hs
    · rename_i t t' x y ht hx
      have hts : ts = #[t, t'] := by apply Array.ext'; simpa using ht
      have hxs : args = #[x, y] := by apply Array.ext'; simpa using hx
      subst hts; subst hxs
      simp only [Option.bind_eq_some_iff] at hs
      obtain ⟨i, hi, e, he, j, hj, c, hc, s, hsy, hs⟩ := hs
      split at hs
      case h_2 => cases hs
      case h_1 b off n =>
        split at hs
        case isFalse => cases hs
        case isTrue htt =>
          simp only [Option.bind_eq_some_iff] at hs
          obtain ⟨p, hp, k, hk, hs⟩ := hs
          exact step_copy h hT hd t t' x y ho hi he hj hc hsy hp hk hs
    · rename_i x r hx
      have hxs : args = (x :: r).toArray := by apply Array.ext'; simpa using hx
      subst hxs
      exact step_minmax h hd false x r ts ho hs
    · rename_i x r hx
      have hxs : args = (x :: r).toArray := by apply Array.ext'; simpa using hx
      subst hxs
      exact step_minmax h hd true x r ts ho hs
    · cases hs
  · cases hs

end
end Go.Va

/-
  Soundness, tenth part: calls, regions, code, functions.
-/
namespace Go.Va
open Go.RowKit

section
variable {P : Program} {T : Tab} {M Z : Addr → Prop} {w0 w : World} {ρ : Rho} {st : St} {a : Act}

theorem flat_rep {Z' : Addr → Prop} {w' : World} {x : D} {v : Value} (hf : x.flat = true) (h : RepD w Z x v) : RepD w' Z' x v := by
  cases h with
  | int k n => exact .int k n
  | bool b => exact .bool b
  | str s => exact .str s
  | nilFn => exact .nilFn
  | nilPtr => exact .nilPtr
  | slice => cases hf
  | snil => cases hf
  | ref => cases hf
  | fn => cases hf

theorem impC_rep {ρs ρ2 : Rho} {Zc : Addr → Prop} {w' : World} {k : Nat} {fl : Bool} (tr : ∀ x v, (fl = true → D.flat x = true) → RepD w' (Out ρs Zc) x v → RepD w' (Out ρ2 Z) x v) (hk : ∀ o, ρs k = some o → ρ2 k = some o)
    {c : RC} {v : Value} (hfl : fl = true → c.flat = true) (h : RepC ρs w' Zc (c.imp k) v) : RepC ρ2 w' Z (c.imp k) v := by
  cases c with
  | d x => exact tr x v hfl h
  | own sz n cs => obtain ⟨o, ho, r⟩ := h; exact ⟨o, hk o ho, r⟩

theorem impU_rep {ρs ρ2 : Rho} {Zc : Addr → Prop} {w' : World} {k : Nat} {fl : Bool} (tr : ∀ x v, (fl = true → D.flat x = true) → RepD w' (Out ρs Zc) x v → RepD w' (Out ρ2 Z) x v) (hk : ∀ o, ρs k = some o → ρ2 k = some o)
    {u : RU} {v : Value} (hfl : fl = true → u.flat = true) (h : RepU ρs w' Zc (u.imp k) v) : RepU ρ2 w' Z (u.imp k) v := by
  cases u with
  | c x => exact impC_rep tr hk hfl h
  | agg cs =>
    obtain ⟨vs, rfl, h1, h2⟩ := h
    refine ⟨vs, rfl, h1, fun j c v hc hv => ?_⟩
    have hr := h2 j c v hc hv
    simp only [List.getElem?_map, Option.map_eq_some_iff] at hc
    obtain ⟨c0, hc0, rfl⟩ := hc
    refine impC_rep tr hk (fun hf => ?_) hr
    have := hfl hf
    simp only [RU.flat, List.all_eq_true] at this
    exact this _ (List.mem_of_getElem? hc0)

theorem impR_rep {ρs ρ2 : Rho} {Zc : Addr → Prop} {w' : World} {k : Nat} {fl : Bool} (tr : ∀ x v, (fl = true → D.flat x = true) → RepD w' (Out ρs Zc) x v → RepD w' (Out ρ2 Z) x v) (hk : ∀ o, ρs k = some o → ρ2 k = some o)
    {r : R} {v : Value} (hfl : fl = true → r.flat = true) (h : RepV ρs w' Zc (r.imp k) v) : RepV ρ2 w' Z (r.imp k) v := by
  cases r with
  | u x => exact impU_rep tr hk hfl h
  | tup xs =>
    obtain ⟨vs, rfl, h1, h2⟩ := h
    refine ⟨vs, rfl, h1, fun j c v hc hv => ?_⟩
    have hr := h2 j c v hc hv
    simp only [List.getElem?_map, Option.map_eq_some_iff] at hc
    obtain ⟨c0, hc0, rfl⟩ := hc
    refine impU_rep tr hk (fun hf => ?_) hr
    have := hfl hf
    simp only [R.flat, List.all_eq_true] at this
    exact this _ (List.mem_of_getElem? hc0)

theorem RC.rows_row {c : RC} {b : Blk} (h : b ∈ c.rows) : ∃ sz n cs, b = .row sz cs true ∧ c = .own sz n cs := by
  cases c with
  | d x => simp [RC.rows] at h
  | own sz n cs => simp [RC.rows] at h; exact ⟨sz, n, cs, h, rfl⟩
theorem RU.rows_row {c : RU} {b : Blk} (h : b ∈ c.rows) : ∃ sz cs, b = .row sz cs true ∧ (c.flat = true → cs.all D.flat = true) := by
  cases c with
  | c x => obtain ⟨sz, n, cs, h1, rfl⟩ := RC.rows_row h; exact ⟨sz, cs, h1, fun h => h⟩
  | agg l =>
    simp only [RU.rows, List.mem_flatMap] at h
    obtain ⟨x, hx, h⟩ := h
    obtain ⟨sz, n, cs, h1, rfl⟩ := RC.rows_row h
    refine ⟨sz, cs, h1, fun h => ?_⟩
    simp only [RU.flat, List.all_eq_true] at h
    exact h _ hx
theorem R.rows_row {c : R} {b : Blk} (h : b ∈ c.rows) : ∃ sz cs, b = .row sz cs true ∧ (c.flat = true → cs.all D.flat = true) := by
  cases c with
  | u x => exact RU.rows_row h
  | tup l =>
    simp only [R.rows, List.mem_flatMap] at h
    obtain ⟨x, hx, h⟩ := h
    obtain ⟨sz, cs, h1, h2⟩ := RU.rows_row h
    refine ⟨sz, cs, h1, fun h => h2 ?_⟩
    simp only [R.flat, List.all_eq_true] at h
    exact h _ hx

/-- A call's result in its place. -/
theorem back_sound (h : Rel M Z w0 ρ st a w) {dst : Option Nat} (hd : ∀ d, dst = some d → d < a.tmps.size) {ids : List Nat} {res : R} {w' : World} {v : Value} (hx : Ext w w') (hr : RepRes w w' (Out (rhoF ids ρ) Z) res v) :
    ∃ ρ', Rel M Z w0 ρ' (st.back dst ids res) (a.put dst v) w' := by
  obtain ⟨hlen, o, hfar, hrep⟩ := hr
  obtain ⟨hv, hh⟩ := hrep (dst.getD 0)
  -- the state that goes on
  obtain ⟨ρ1, h1, hout⟩ : ∃ ρ1, Rel M Z w0 ρ1 (if res.flat then st else st.freeze ids) a w ∧ (res.flat = false → ∀ ad, Out ρ1 Z ad → Out (rhoF ids ρ) Z ad) := by
    cases hf : res.flat with
    | true => exact ⟨ρ, by simpa using h, fun h => by cases h⟩
    | false => exact ⟨rhoF ids ρ, by simpa using h.freeze ids, fun _ _ h => h⟩
  cases hrows : res.rows with
  | nil =>
    rw [hrows] at hv hh
    have tr : ∀ x v, (res.flat = true → D.flat x = true) → RepD w' (Out (single (dst.getD 0) [] o) (Out (rhoF ids ρ) Z)) x v → RepD w' (Out ρ1 Z) x v := fun x v hf hd' => by
      cases hfl : res.flat with
      | true => exact flat_rep (hf hfl) hd'
      | false => exact hd'.keep (Keep.mono fun ad h => .inl (hout hfl ad h))
    have := impR_rep tr (fun o' ho' => by cases ho') (fun h => h) hv
    refine ⟨ρ1, ?_⟩
    have hp := (h1.ext hx).put (dst := dst) hd this
    simpa [St.back, hrows] using hp
  | cons b r =>
    rw [hrows] at hv hh hlen
    obtain ⟨sz, cs, rfl, hcs⟩ := R.rows_row (c := res) (b := b) (by rw [hrows]; simp)
    have hs : single (dst.getD 0) (.row sz cs true :: r) o (dst.getD 0) = some o := by simp [single]
    obtain ⟨o', ho', hb⟩ := hh.rep (dst.getD 0) (.row sz cs true) (by simp [lk_cons_same])
    obtain rfl : o' = o := Option.some.inj (ho'.symm.trans hs)
    obtain ⟨q1, q2, q3, q4, q5⟩ := hb
    have osub : ∀ ad, (res.flat = false) → Out (rhoN ρ1 (dst.getD 0) o') Z ad → Out (single (dst.getD 0) (.row sz cs true :: r) o') (Out (rhoF ids ρ) Z) ad := fun ad hfl ho => by
      rcases ho with hz | ⟨j, oj, hj, hoj⟩
      · exact .inl (.inl hz)
      · by_cases e : j = dst.getD 0
        · subst e; rw [rhoN_same] at hj; cases hj; exact .inr ⟨_, _, hs, hoj⟩
        · rw [rhoN_ne _ _ e] at hj; exact .inl (hout hfl ad (.inr ⟨j, oj, hj, hoj⟩))
    have tr : ∀ x v, (res.flat = true → D.flat x = true) → RepD w' (Out (single (dst.getD 0) (.row sz cs true :: r) o') (Out (rhoF ids ρ) Z)) x v → RepD w' (Out (rhoN ρ1 (dst.getD 0) o') Z) x v := fun x v hf hd' => by
      cases hfl : res.flat with
      | true => exact flat_rep (hf hfl) hd'
      | false => exact hd'.keep (Keep.mono fun ad h => osub ad hfl h)
    have hadd := (h1.purge (dst.getD 0)).add (i := dst.getD 0) (o := o') (b := .row sz cs true) (upd_same _ _ _) (fun ad hh => Nat.le_trans h1.fr.size (hfar ad hh)) (fun ad u hh hu => by
        have := hfar ad hh
        have := World.block_lt_of_cell? w ad hu
        omega) hx (hh.owns.cells _ _ hs) (hh.owns.lim _ _ hs) ⟨q1, q2, q3, q4, fun j x hx' => by
        obtain ⟨u, hu, hd'⟩ := q5 j x hx'
        refine ⟨u, hu, tr x u (fun hf => ?_) hd'⟩
        have := hcs hf
        rw [List.all_eq_true] at this
        exact this _ (List.mem_of_getElem? hx')⟩
    have := impR_rep tr (fun o2 ho2 => by rw [hs] at ho2; cases ho2; exact rhoN_same _ _ _) (fun h => h) hv
    refine ⟨rhoN ρ1 (dst.getD 0) o', ?_⟩
    have hp := Rel.put (dst := dst) hadd hd this
    change Rel M Z w0 (upd (upd ρ1 (dst.getD 0) none) (dst.getD 0) (some o')) _ _ _
    simpa [St.back, hrows, St.new, Blk.on] using hp

theorem toA_rep (h : Rel M Z w0 ρ st a w) (ids : List Nat) {us : List U} {as : List A} {vals : List Value} (hv : RepL (RepU ρ w Z) us vals) (ha : us.mapM (U.toA ids st.h) = some as) : RepL (A.rep w (Out (rhoF ids ρ) Z)) as vals := by
  obtain ⟨m1, m2⟩ := mapM_some ha
  refine ⟨m1.trans hv.1, fun j A0 v hA hv' => ?_⟩
  have hj : j < us.length := by rw [← m1]; exact (List.getElem?_eq_some_iff.1 hA).1
  obtain ⟨y, hy, ha1⟩ := m2 j _ (List.getElem?_eq_getElem hj)
  rw [hA] at hy
  cases hy
  have hr := hv.2 j _ v (List.getElem?_eq_getElem hj) hv'
  generalize us[j] = u at ha1 hr
  have lst : ∀ {cs : List C} {ds : List D} {vs : List Value}, cs.mapM (toD (ids.contains ·) st.h 3) = some ds → RepL (RepC ρ w Z) cs vs → RepL (RepD w (Out (rhoF ids ρ) Z)) ds vs := fun {cs ds vs} hd hl => by
    obtain ⟨m1, m2⟩ := mapM_some hd
    refine ⟨m1.trans hl.1, fun j x v hx hv => ?_⟩
    have hj : j < cs.length := by rw [← m1]; exact (List.getElem?_eq_some_iff.1 hx).1
    obtain ⟨y, hy, hf⟩ := m2 j _ (List.getElem?_eq_getElem hj)
    rw [hx] at hy
    cases hy
    exact toD_rep h _ 3 _ v _ (hl.2 j _ v (List.getElem?_eq_getElem hj) hv) hf
  cases u with
  | c c0 =>
    simp only [U.toA, Option.map_eq_some_iff] at ha1
    obtain ⟨d, hd, rfl⟩ := ha1
    exact toD_rep h _ 3 c0 _ d hr hd
  | agg cs =>
    simp only [U.toA, Option.map_eq_some_iff] at ha1
    obtain ⟨ds, hd, rfl⟩ := ha1
    obtain ⟨vs, hvs, hl⟩ := hr
    exact ⟨vs, hvs, lst hd hl⟩
  | clo f cs =>
    simp only [U.toA, Option.map_eq_some_iff] at ha1
    obtain ⟨ds, hd, rfl⟩ := ha1
    obtain ⟨vs, hvs, hl⟩ := hr
    obtain ⟨h1, h2⟩ := lst hd hl
    rw [hvs]
    exact RepD.fn f ds vs h1 h2

theorem evUL_rep (h : Rel M Z w0 ρ st a w) {xs : List Operand} {us : List U} (hu : xs.mapM st.evU = some us) : RepL (RepU ρ w Z) us (xs.map a.eval) := by
  obtain ⟨m1, m2⟩ := mapM_some hu
  refine ⟨by simpa using m1, fun j u v hx hv => ?_⟩
  simp only [List.getElem?_map, Option.map_eq_some_iff] at hv
  obtain ⟨x, hx', rfl⟩ := hv
  obtain ⟨y, hy, hf⟩ := m2 j x hx'
  rw [hx] at hy
  cases hy
  exact h.evU hf

theorem args_rep (h : Rel M Z w0 ρ st a w) (ids : List Nat) {xs : List Operand} {us : List U} {as : List A} (hu : xs.mapM st.evU = some us) (ha : us.mapM (U.toA ids st.h) = some as) :
    RepL (A.rep w (Out (rhoF ids ρ) Z)) as (xs.map a.eval) := toA_rep h ids (evUL_rep h hu) ha

theorem mapM_append_some {α β : Type} {f : α → Option β} {l1 l2 : List α} {r : List β} (h : (l1 ++ l2).mapM f = some r) : ∃ r1 r2, r = r1 ++ r2 ∧ l1.mapM f = some r1 ∧ l2.mapM f = some r2 := by
  simp only [List.mapM_append, Option.pure_def, Option.bind_eq_bind, Option.bind_eq_some_iff, Option.some.injEq] at h
  obtain ⟨r1, h1, r2, h2, rfl⟩ := h
  exact ⟨r1, r2, rfl, h1, h2⟩

/-! ### calls that write blocks of the caller's own -/

def rhoR (ids : List Nat) (ρ : Rho) : Rho := fun j => if ids.contains j then ρ j else none
theorem rhoR_some {ids : List Nat} {j : Nat} {o : Own} (h : rhoR ids ρ j = some o) : j ∈ ids ∧ ρ j = some o := by
  unfold rhoR at h
  split at h
  · rename_i hm; exact ⟨by simpa using hm, h⟩
  · cases h
theorem rhoR_mem {ids : List Nat} {j : Nat} (h : j ∈ ids) : rhoR ids ρ j = ρ j := by unfold rhoR; rw [if_pos (by simpa using h)]
theorem out_rhoR (ids : List Nat) (ad : Addr) : Out (rhoR ids ρ) (Out (rhoF ids ρ) Z) ad ↔ Out ρ Z ad := by
  constructor
  · rintro (h | ⟨j, o, hj, ho⟩)
    · exact out_ersd h
    · exact .inr ⟨j, o, (rhoR_some hj).2, ho⟩
  · rintro (h | ⟨j, o, hj, ho⟩)
    · exact .inl (.inl h)
    · by_cases e : j ∈ ids
      · exact .inr ⟨j, o, (rhoR_mem e).trans hj, ho⟩
      · exact .inl (.inr ⟨j, o, by simp [rhoF, ersd, e, hj], ho⟩)
theorem repD_rhoR {ids : List Nat} {x : D} {v : Value} : RepD w (Out (rhoR ids ρ) (Out (rhoF ids ρ) Z)) x v ↔ RepD w (Out ρ Z) x v := by
  have : Out (rhoR ids ρ) (Out (rhoF ids ρ) Z) = Out ρ Z := funext fun ad => propext (out_rhoR ids ad)
  rw [this]
theorem repC_rhoR {ids : List Nat} {c : C} {v : Value} (hi : ∀ i, c.id? = some i → i ∈ ids) (h : RepC ρ w Z c v) : RepC (rhoR ids ρ) w (Out (rhoF ids ρ) Z) c v := by
  cases c with
  | d x => exact repD_rhoR.2 h
  | nl => exact h
  | bad => exact h
  | sl i off n => obtain ⟨o, ho, r⟩ := h; exact ⟨o, (rhoR_mem (hi i rfl)).trans ho, r⟩
  | ptr i off => obtain ⟨o, ho, r⟩ := h; exact ⟨o, (rhoR_mem (hi i rfl)).trans ho, r⟩
theorem repC_ofR {ids : List Nat} {c : C} {v : Value} (h : RepC (rhoR ids ρ) w (Out (rhoF ids ρ) Z) c v) : RepC ρ w Z c v := by
  cases c with
  | d x => exact repD_rhoR.1 h
  | nl => exact h
  | bad => exact h
  | sl i off n => obtain ⟨o, ho, r⟩ := h; exact ⟨o, (rhoR_some ho).2, r⟩
  | ptr i off => obtain ⟨o, ho, r⟩ := h; exact ⟨o, (rhoR_some ho).2, r⟩
theorem repU_rhoR {ids : List Nat} {u : U} {v : Value} (hi : inIds ids u.all) (h : RepU ρ w Z u v) : RepU (rhoR ids ρ) w (Out (rhoF ids ρ) Z) u v := by
  cases u with
  | c x => exact repC_rhoR (hi x (by simp [U.all])) h
  | agg cs => obtain ⟨vs, rfl, h1, h2⟩ := h; exact ⟨vs, rfl, h1, fun j x v hx hv => repC_rhoR (hi x (List.mem_of_getElem? hx)) (h2 j x v hx hv)⟩
  | clo f cs => obtain ⟨vs, rfl, h1, h2⟩ := h; exact ⟨vs, rfl, h1, fun j x v hx hv => repC_rhoR (hi x (List.mem_of_getElem? hx)) (h2 j x v hx hv)⟩
theorem repB_rhoR {ids : List Nat} {o : Own} {b : Blk} (hi : boxIds ids b) (h : RepB ρ w Z o b) : RepB (rhoR ids ρ) w (Out (rhoF ids ρ) Z) o b := by
  cases b with
  | row sz cs app => obtain ⟨q1, q2, q3, q4, q5⟩ := h; exact ⟨q1, q2, q3, q4, fun j x hx => by obtain ⟨v, hv, hd⟩ := q5 j x hx; exact ⟨v, hv, repD_rhoR.2 hd⟩⟩
  | box cs => obtain ⟨q1, q2, q3, q4⟩ := h; exact ⟨q1, q2, q3, fun j x hx => by obtain ⟨v, hv, h1, hd⟩ := q4 j x hx; exact ⟨v, hv, h1, repC_rhoR (hi x (List.mem_of_getElem? hx)) hd⟩⟩
theorem repB_ofR {ids : List Nat} {o : Own} {b : Blk} (h : RepB (rhoR ids ρ) w (Out (rhoF ids ρ) Z) o b) : RepB ρ w Z o b := by
  cases b with
  | row sz cs app => obtain ⟨q1, q2, q3, q4, q5⟩ := h; exact ⟨q1, q2, q3, q4, fun j x hx => by obtain ⟨v, hv, hd⟩ := q5 j x hx; exact ⟨v, hv, repD_rhoR.1 hd⟩⟩
  | box cs => obtain ⟨q1, q2, q3, q4⟩ := h; exact ⟨q1, q2, q3, fun j x hx => by obtain ⟨v, hv, h1, hd⟩ := q4 j x hx; exact ⟨v, hv, h1, repC_ofR hd⟩⟩

theorem lk_append {α : Type} (k : Nat) (l2 : List (Nat × α)) : ∀ l1 : List (Nat × α), lk k (l1 ++ l2) = (lk k l1).or (lk k l2)
  | [] => rfl
  | (j, v) :: r => by
    simp only [List.cons_append, lk]
    split
    · rfl
    · exact lk_append k l2 r

theorem Fr.into {M Mc : Addr → Prop} {w0 w w' : World} (h : Fr M w0 w) (k : Fr Mc w w') (hm : ∀ ad, Mc ad → M ad ∨ w0.heap.size ≤ ad.block) : Fr M w0 w' where
  os := k.os.trans h.os
  drawn := Nat.le_trans h.drawn k.drawn
  tape := k.tape.trans h.tape
  output := k.output.trans h.output
  size := Nat.le_trans h.size k.size
  cell := fun ad v hn hv => k.cell ad v (fun hc => by
    rcases hm ad hc with h1 | h1
    · exact hn h1
    · have := World.block_lt_of_cell? w0 ad hv; omega) (h.cell ad v hn hv)
  frz := fun ad hl => (k.frz ad (Nat.lt_of_lt_of_le hl h.size)).trans (h.frz ad hl)
  blk := fun j hl hn => (k.blk j (Nat.lt_of_lt_of_le hl h.size) fun ad he hc => by
    rcases hm ad hc with h1 | h1
    · exact hn ad he h1
    · omega).trans (h.blk j hl hn)

theorem backW_sound (h : Rel M Z w0 ρ st a w) {dst : Option Nat} (hd : ∀ d, dst = some d → d < a.tmps.size) {ids : List Nat} {res : R} {w' : World} {v : Value} {h2 : List (Nat × Blk)} (hrows : res.rows = [])
    (hx : Fr (Cells (rhoR ids ρ)) w w') (hh : Heap (rhoR ids ρ) w' (Out (rhoF ids ρ) Z) h2) (hv : RepV (fun _ => none) w' (Out (rhoR ids ρ) (Out (rhoF ids ρ) Z)) (res.imp 0) v) :
    Rel M Z w0 ρ (st.backW dst ids h2 res) (a.put dst v) w' := by
  have hcell : ∀ ad, Cells (rhoR ids ρ) ad → Out ρ Z ad := fun ad ⟨j, o, hj, ho⟩ => .inr ⟨j, o, (rhoR_some hj).2, ho⟩
  have hk : Keep w w' (Out ρ Z) (Out ρ Z) := fun ad x hn hv => ⟨hx.cell ad x (fun hc => hn (hcell ad hc)) hv, hn⟩
  have ht : Turn ρ ρ w w' Z idG := fun c v hc => by rw [C.on_id]; exact hc.keep hk fun _ _ => rfl
  have stay : ∀ j o, j ∉ ids → ρ j = some o → o.gone = false → ∀ k, k < o.room * o.sz → w'.cell? (o.at k) = w.cell? (o.at k) ∧ w'.frozen? (o.at k) = w.frozen? (o.at k) := fun j o hj ho hg k hk' => by
    obtain ⟨⟨u, hu⟩, hf⟩ := h.heap.owns.cells j o ho hg k hk'
    refine ⟨?_, hx.frz _ (World.block_lt_of_cell? w _ hu)⟩
    rw [hu]
    refine hx.cell _ u (fun ⟨i, o', hi, hh'⟩ => ?_) hu
    obtain ⟨h1, h2⟩ := rhoR_some hi
    exact h.heap.owns.apart j i o o' ho h2 (fun e => hj (e ▸ h1)) _ (Own.has_at hg hk') hh'
  have hrel : Rel M Z w0 ρ { st with h := h2 ++ rmAll (ids.contains ·) st.h } a w' :=
    { fr := h.fr.into hx fun ad ⟨j, o, hj, ho⟩ => h.mine j o ad (rhoR_some hj).2 ho
      heap := ⟨⟨fun j o ho hg k hk' => by
          by_cases e : j ∈ ids
          · exact hh.owns.cells j o ((rhoR_mem e).trans ho) hg k hk'
          · obtain ⟨s1, s2⟩ := stay j o e ho hg k hk'
            rw [s1, s2]
            exact h.heap.owns.cells j o ho hg k hk', h.heap.owns.apart, h.heap.owns.lim⟩, fun j b hb => by
        simp only at hb
        rw [lk_append] at hb
        cases hl : lk j h2 with
        | some b2 =>
          rw [hl] at hb
          cases hb
          obtain ⟨o, ho, hr⟩ := hh.rep j _ hl
          exact ⟨o, (rhoR_some ho).2, repB_ofR hr⟩
        | none =>
          rw [hl] at hb
          simp only [Option.none_or] at hb
          rw [lk_rmAll] at hb
          split at hb
          · cases hb
          · rename_i e
            have e : j ∉ ids := by simpa using e
            obtain ⟨o, ho, hr⟩ := h.heap.rep j b hb
            have := hr.turn ht hk fun hg k hk' => (stay j o e ho hg k hk').1
            rw [Blk.on_id] at this
            exact ⟨o, ho, this⟩⟩
      mine := h.mine
      out := h.out
      mz := h.mz
      tmps := fun t v hv => by
        have := (h.tmps t v hv).turn ht
        rwa [V.on_id] at this
      defers := h.defers }
  have hv' : RepV ρ w' Z (res.imp 0) v := impR_rep (fl := false) (fun x v _ hd' => hd'.keep (Keep.mono fun ad ho => .inl ((out_rhoR ids ad).2 ho))) (fun o' ho' => by cases ho') (fun h => by cases h) hv
  exact hrel.put hd hv'

/-- What goes on behind an operation. -/
def Goes (M Z : Addr → Prop) (w0 : World) (n : Nat) (K : St → Prop) (a : Act) (w : World) : Prop := ∃ ρ st, Rel M Z w0 ρ st a w ∧ a.tmps.size = n ∧ K st

theorem size_put (a : Act) (d : Option Nat) (v : Value) : (a.put d v).tmps.size = a.tmps.size := by cases d <;> simp [Act.put]

theorem op_sound (hT : TabOk P T) (h : Rel M Z w0 ρ st a w) {o : Oper} (hd : ∀ d, o.dst = some d → d < a.tmps.size) {K : St → Prop} {Q : Exit → Act → World → Prop} (hw : wpOp P T o st K) : o.wp P a w (Goes M Z w0 a.tmps.size K) Q := by
  unfold wpOp at hw
  split at hw
  · rename_i f args ts ho
    obtain ⟨u, hu, hw⟩ := hw
    have enter : ∀ {g : FuncId} {vs : List Value}, FnOk P g → a.eval f = .func (.func g) #[] vs.toArray → (execOp a.eval o).run P w = .ok (.enter g (args.toList.map a.eval ++ vs).toArray) w := fun {g vs} hfn hef => by
      obtain ⟨fn, hfn, hbody, hname⟩ := hfn
      have e1 : args.map a.eval ++ vs.toArray = (args.toList.map a.eval ++ vs).toArray := by apply Array.ext'; simp
      have hb : ¬ fn.body = none := by cases hfb : fn.body <;> simp [hfb] at hbody ⊢
      have hname' : ¬ fn.name = "runtime.NumGoroutine" := by simpa using hname
      simp [execOp, ho, resolve, hef, Deferred.ofValue, invoke, callFunc, program, hfn, hname', hb, e1, Sem.run]
    have hZc : ∀ (ids : List Nat) ad, Out (rhoF ids ρ) Z ad → ad.block < w.heap.size := fun ids ad ho => by
      rcases out_ersd ho with hz | ⟨j, oj, hj, hh⟩
      · exact Nat.lt_of_lt_of_le (h.out ad hz) h.fr.size
      · obtain ⟨hn, hb, hlo, hhi⟩ := hh
        obtain ⟨⟨v, hv⟩, _⟩ := h.heap.owns.cells j oj hj hn (ad.off - oj.o) (by omega)
        have := World.block_lt_of_cell? w _ hv
        simpa [hb] using this
    -- the call, by a list of values
    have go : ∀ {g : FuncId} {caps : List D} {us : List U} {vs vals : List Value}, argK P o.dst st K g caps us → RepL (RepU ρ w Z) us vals → RepL (RepD w (Out ρ Z)) caps vs → (∀ {as : List A} {ids : List Nat}, us.mapM (U.toA ids st.h) = some as → RepL (A.rep w (Out (rhoF ids ρ) Z)) as vals) →
        (∀ g', g' = g → FnOk P g' → (execOp a.eval o).run P w = .ok (.enter g (vals ++ vs).toArray) w) → o.wp P a w (Goes M Z w0 a.tmps.size K) Q := by
      intro g caps us vs vals hw hvals hcaps hargs hrun
      rcases hw with ⟨as, has, res, ⟨hfn, hcall⟩, hK⟩ | ⟨ids, r, h1, h2, ⟨hfn, hrows, hcall⟩, hin, hh1, hids, hK⟩
      · simp only [St.argsW, Option.map_eq_some_iff] at has
        obtain ⟨as', has', rfl⟩ := has
        have hcaps' : RepL (A.rep w (Out (rhoF (st.reachU us) ρ) Z)) (caps.map A.c) vs := ⟨by simpa using hcaps.1, fun j x v hx hv => by
          simp only [List.getElem?_map, Option.map_eq_some_iff] at hx
          obtain ⟨y, hy, rfl⟩ := hx
          exact (hcaps.2 j y v hy hv).keep (Keep.mono fun _ => out_ersd)⟩
        have hc := hcall w _ (vals ++ vs) (hZc _) ((hargs has').append hcaps')
        unfold Oper.wp
        rw [hrun g rfl hfn]
        simp only [Oper.upon]
        refine hc.mono fun e w' hpost => ?_
        obtain ⟨v, rfl, hbel, hres⟩ := hpost
        obtain ⟨ρ', hrel⟩ := back_sound h hd hbel hres
        exact ⟨ρ', _, hrel, size_put _ _ _, hK⟩
      · have hheap : Heap (rhoR ids ρ) w (Out (rhoF ids ρ) Z) h1 := ⟨⟨fun j oj hj => h.heap.owns.cells j oj (rhoR_some hj).2, fun j j' o1 o2 hj hj' => h.heap.owns.apart j j' o1 o2 (rhoR_some hj).2 (rhoR_some hj').2, fun j oj hj => h.heap.owns.lim j oj (rhoR_some hj).2⟩, fun j b hb => by
          obtain ⟨e1, e2, e3⟩ := hh1 j b hb
          obtain ⟨oj, hoj, hr⟩ := h.heap.rep j b e2
          exact ⟨oj, (rhoR_mem e1).trans hoj, repB_rhoR e3 hr⟩⟩
        have hus : RepL (RepU (rhoR ids ρ) w (Out (rhoF ids ρ) Z)) (us ++ caps.map fun d => .c (.d d)) (vals ++ vs) := by
          refine RepL.append ⟨hvals.1, fun j x v hx hv => repU_rhoR (hin x (List.mem_of_getElem? hx)) (hvals.2 j x v hx hv)⟩ ⟨by simpa using hcaps.1, fun j x v hx hv => ?_⟩
          simp only [List.getElem?_map, Option.map_eq_some_iff] at hx
          obtain ⟨y, hy, rfl⟩ := hx
          exact repD_rhoR.2 (hcaps.2 j y v hy hv)
        have hc := hcall w _ _ (vals ++ vs) (hZc ids) hheap (fun ad ⟨j, oj, hj, hh⟩ => by
          obtain ⟨e1, e2⟩ := rhoR_some hj
          exact h.thawed (ok := (ids.contains ·)) e2 (by simpa using e1) hh) (fun j oj hj => hids j (rhoR_some hj).1) hus
        unfold Oper.wp
        rw [hrun g rfl hfn]
        simp only [Oper.upon]
        refine hc.mono fun e w' hpost => ?_
        obtain ⟨v, rfl, hfr, hh', hres⟩ := hpost
        exact ⟨ρ, _, backW_sound h hd hrows hfr hh' hres, size_put _ _ _, hK⟩
    have hfr := h.evU hu
    unfold callK at hw
    split at hw
    case h_3 => exact hw.elim
    case h_1 g caps =>
      obtain ⟨us, hus, hw⟩ := hw
      generalize hef : a.eval f = vf at hfr
      cases hfr with
      | fn _ _ vs hl h3 =>
        exact go hw (evUL_rep h hus) ⟨hl, h3⟩ (fun has => args_rep h _ hus has) fun g' e hfn => enter (e ▸ hfn) hef
    case h_2 g cs =>
      obtain ⟨us, hus, hw⟩ := hw
      obtain ⟨vs, hef, hvs⟩ := hfr
      have hcs : RepL (RepU ρ w Z) (cs.map U.c) vs := hvs.imp U.c fun x v _ hx => hx
      refine go (vs := []) (vals := args.toList.map a.eval ++ vs) hw ((evUL_rep h hus).append hcs) ⟨rfl, fun j x v hx => by simp at hx⟩ (fun {as ids} has => ?_) fun g' e hfn => by rw [List.append_nil]; exact enter (e ▸ hfn) hef
      obtain ⟨as1, as2, rfl, ha1, ha2⟩ := mapM_append_some has
      exact (args_rep h _ hus ha1).append (toA_rep h ids hcs ha2)
  · obtain ⟨s, hs, hK⟩ := hw
    obtain ⟨nx, v, w', ρ', hrun, hnx, hrel⟩ := step_sound h hT hd hs
    unfold Oper.wp
    rw [hrun]
    rcases hnx with rfl | ⟨rfl, rfl⟩
    · exact ⟨ρ', s, hrel, size_put _ _ _, hK⟩
    · exact ⟨ρ', s, hrel, size_put _ _ _, hK⟩


/-! ### regions in the order of the text -/

/-- Each operation of a region writes a place of the frame. -/
def dstsOk (n : Nat) (ops : List Oper) : Bool := ops.all fun o => match o.dst with | some d => decide (d < n) | none => true

theorem dsts_at {n : Nat} {ops : List Oper} (h : dstsOk n ops = true) {o : Oper} (ho : o ∈ ops) {d : Nat} (hd : o.dst = some d) : d < n := by
  unfold dstsOk at h
  rw [List.all_eq_true] at h
  have := h o ho
  rw [hd] at this
  simpa using this

theorem yielded_eq (ops : List Oper) (tmps : Array Value) (j d : Nat) (hd : (ops[j]?).bind (·.dst) = some d) : yielded ops.toArray tmps j = match tmps[d]? with | some (.bool b) => some b | _ => none := by
  unfold yielded
  simp only [List.getElem?_toArray, hd, Option.bind_some]
  rfl

theorem bool_ne : ∀ {b c : Bool}, ¬ b = c → b = !c
  | true, true, h => absurd rfl h
  | true, false, _ => rfl
  | false, true, _ => rfl
  | false, false, h => absurd rfl h

/-- A guarded operation. -/
theorem g_sound (hT : TabOk P T) (h : Rel M Z w0 ρ st a w) {ops : List Oper} (hok : dstsOk a.tmps.size ops = true) {o : Oper} (ho : o ∈ ops) {K : St → Prop} {Q : Exit → Act → World → Prop} (hw : wpG P T ops o st K) :
    if Region.wanted o (yielded ops.toArray a.tmps) then o.wp P a w (Goes M Z w0 a.tmps.size K) Q else Goes M Z w0 a.tmps.size K (a.put o.dst undef) w := by
  have hd : ∀ d, o.dst = some d → d < a.tmps.size := fun d hd => dsts_at hok ho hd
  have undefV : ∀ ρ, RepV ρ w Z (.tup []) undef := fun ρ => ⟨[], rfl, rfl, fun j x v hx => by simp at hx⟩
  unfold wpG at hw
  split at hw
  · rename_i hg
    rw [if_pos (by simp [Region.wanted, hg])]
    exact op_sound hT h hd hw
  · rename_i j want hg
    split at hw
    case h_2 => exact hw.elim
    case h_1 dj hdj =>
      have hy := yielded_eq ops a.tmps j dj hdj
      obtain ⟨oj, hoj, hdo⟩ : ∃ oj, ops[j]? = some oj ∧ oj.dst = some dj := by
        simpa [Option.bind_eq_some_iff] using hdj
      have hjlt : dj < a.tmps.size := dsts_at hok (List.mem_of_getElem? hoj) hdo
      unfold gateV at hw
      split at hw
      · rename_i b hlk
        have hv := h.tmps dj _ hlk
        have hb : a.tmps[dj]? = some (.bool b) := by
          simp [Array.getD, hjlt] at hv
          rw [Array.getElem?_eq_getElem hjlt]
          generalize a.tmps[dj] = x at hv
          cases hv
          rfl
        have hy' : yielded ops.toArray a.tmps j = some b := by rw [hy, hb]
        have hput : ∀ b', b = b' → Rel M Z w0 ρ (st.put (some dj) (vB b')) a w := fun b' hbb => by
          subst hbb
          have := h.put (dst := some dj) (v := vB b) (x := .bool b) (fun d hd => by cases hd; exact hjlt) (RepD.bool b)
          have ea : a.put (some dj) (.bool b) = a := by
            simp only [Act.put]
            have : a.tmps.setIfInBounds dj (.bool b) = a.tmps := by
              apply Array.ext
              · simp
              · intro q h1 h2
                by_cases e : q = dj
                · subst e
                  simp only [Array.getElem_setIfInBounds_self]
                  rw [Array.getElem?_eq_getElem hjlt] at hb
                  exact (Option.some.inj hb).symm
                · rw [Array.getElem_setIfInBounds_ne _ (fun h => e h.symm)]
            rw [this]
          rwa [ea] at this
        by_cases hbw : b = want
        · rw [if_pos (by simp [Region.wanted, hg, hy', hbw])]
          exact op_sound hT (hput want hbw) hd (hw.1 hbw)
        · have hbn : b = !want := bool_ne hbw
          have hnw : ¬ Region.wanted o (yielded ops.toArray a.tmps) = true := by
            unfold Region.wanted
            rw [hg]
            intro hh
            simp only [hy'] at hh
            exact hbw (by simpa using hh)
          rw [if_neg hnw]
          exact ⟨ρ, _, (hput (!want) hbn).put hd (undefV ρ), size_put _ _ _, hw.2 hbn⟩
      · rename_i hlk
        have hv := h.tmps dj _ hlk
        have hb : a.tmps[dj]? = some undef := by
          simp [Array.getD, hjlt] at hv
          rw [Array.getElem?_eq_getElem hjlt]
          obtain ⟨vs, h1, h2, _⟩ := hv
          have : vs = [] := List.eq_nil_of_length_eq_zero (by simpa using h2.symm)
          subst this
          rw [h1]
          rfl
        have hy' : yielded ops.toArray a.tmps j = none := by rw [hy, hb]; rfl
        rw [if_neg (by simp [Region.wanted, hg, hy'])]
        exact ⟨ρ, _, h.put hd (undefV ρ), size_put _ _ _, hw⟩
      · exact hw.elim

theorem ops_sound (hT : TabOk P T) {ops : List Oper} {K : St → Prop} {Q : Exit → Act → World → Prop} {n : Nat} (hok : dstsOk n ops = true) (hQ : ∀ a w, Goes M Z w0 n K a w → Q .normal a w) :
    ∀ (l : List Oper) (a : Act) (w : World), (∀ o ∈ l, o ∈ ops) → Goes M Z w0 n (fun st => wpOps P T ops l st K) a w → wpList P ops.toArray Q l a w
  | [], a, w, _, h => hQ a w h
  | o :: r, a, w, hm, ⟨ρ, st, hrel, hn, hw⟩ => by
    subst hn
    have hg := g_sound (Q := Q) hT hrel hok (hm o (by simp)) hw
    have next : ∀ a' w', Goes M Z w0 a.tmps.size (flipK (wpOps P T ops r) K) a' w' → wpList P ops.toArray Q r a' w' := fun a' w' hgo =>
      ops_sound hT hok hQ r a' w' (fun o' ho' => hm o' (by simp [ho'])) hgo
    unfold wpList
    split
    · rw [if_pos ‹_›] at hg
      exact .inl (Oper.wp_mono next hg)
    · rw [if_neg ‹_›] at hg
      exact next _ _ hg


/-! ### code -/

def NoDraw : Code → Bool
  | .region _ _ draw => !draw
  | .seq x y => NoDraw x && NoDraw y
  | .cond _ x y => NoDraw x && NoDraw y
  | .block _ c => NoDraw c
  | .loop c => NoDraw c
  | _ => true

theorem evB_cond (h : Rel M Z w0 ρ st a w) {c : Operand} {b : Bool} (hb : st.evB c = some b) : a.eval c = .bool b := h.evB hb

theorem leL_lk {α : Type} {l : List (Nat × α)} : ∀ {l0 : List (Nat × α)}, leL l l0 → ∀ k v, lk k l0 = some v → lk k l = some v
  | [], _, k, v, h => by cases h
  | (j, u) :: r, ⟨h1, h2⟩, k, v, h => by
    unfold lk at h
    split at h
    · rename_i e; subst e; cases h; exact h1
    · exact leL_lk h2 k v h

theorem Rel.weaken (h : Rel M Z w0 ρ st a w) {s0 : St} (hle : s0.le st) : Rel M Z w0 ρ s0 a w where
  fr := h.fr
  heap := ⟨h.heap.owns, fun i b hb => h.heap.rep i b (leL_lk hle.2 i b hb)⟩
  mine := h.mine
  out := h.out
  mz := h.mz
  tmps := fun t v hv => h.tmps t v (leL_lk hle.1 t v hv)
  defers := h.defers

end
end Go.Va

/-
  Regions that draw their order. First: what an operation does, as an effect; more knowledge changes nothing.
-/
namespace Go.Va
open Go.RowKit

/-- What an operation does: it makes a value; or a block of its own, and what names it; or it writes a block; or it takes a row on under a new number. -/
inductive Eff where
  | val (v : V)
  | new (b : Blk) (v : V)
  | put (i : Nat) (b : Blk)
  | app (k : Nat) (b : Blk) (v : V)
  | dat (x : D)
  deriving Inhabited

def St.eff (d : Option Nat) (e : Eff) (s : St) : St :=
  match e with
  | .val v => s.put d v
  | .new b v => (s.new (d.getD 0) b).put d v
  | .put i b => (s.blk i b).put d (.tup [])
  | .app k b v => ((s.drop k).new (d.getD 0) b).put d v
  | .dat x => s.put d (vC (.d x))

def noIdsC (cs : List C) : Bool := cs.all fun c => c.id?.isNone
def effBsl (d : Nat) (j : TI) (len : Nat) (h : List (Nat × Blk)) (l : List (Nat × List C)) : Option Eff :=
  if len * j.size ≤ 10000 ∧ len ≤ 10000 then (fillCs (arrPlace j.size) (rep len j.zero) l).bind fun cs =>
    if j.size = 1 ∧ cs.any isPtr = true then some (.new (.box cs) (vC (.sl d 0 len))) else
    if noIdsC cs then (cs.mapM (toD (fun _ => false) h 3)).map fun ds => .new (.row j.size ds true) (vC (.sl d 0 len)) else none
  else none

/-- A slice literal, taken as data at once. -/
def effDat (T : Tab) (o : Oper) (E : St) : Option Eff :=
  match o.op with
  | .buildSlice t len parts => o.dst.bind fun _ => (T t).bind fun i => i.sl.bind fun e => (T e).bind fun j => (E.evUs parts.toList).bind fun l =>
    if len * j.size ≤ 10000 ∧ len ≤ 10000 then (fillCs (arrPlace j.size) (rep len j.zero) l).bind fun cs =>
      if j.size = 1 ∧ cs.any isPtr = true then none else
      if noIdsC cs then (cs.mapM (toD (fun _ => false) E.h 3)).bind fun ds => if ds.length = len * j.size then some (.dat (.slice len ds)) else none else none
    else none
  | _ => none

def effStore (i : TI) (c : C) (v : U) (st : St) : Option Eff :=
  if v.cells.length = i.size then
    match c with
    | .ptr b off => (lk b st.h).bind fun k => match k with
      | .box cs => if off + v.cells.length ≤ cs.length then some (.put b (.box (splice off v.cells cs))) else none
      | .row sz cs app => if noIdsC v.cells then (v.cells.mapM (toD (fun _ => false) st.h 3)).bind fun ds => if off + ds.length ≤ cs.length then some (.put b (.row sz (splice off ds cs) app)) else none else none
    | _ => none
  else none

def effAppGo (e : TI) (d : Nat) (cs : List D) (n : Nat) (news : List D) (m : Nat) (f : Blk → V → Eff) : Option Eff :=
  if (n + m) * e.bytes ≤ big ∧ n + m ≤ big then some (f (.row e.size (cs ++ news) true) (vC (.sl d 0 (n + m)))) else none
def effApp (e : TI) (d : Nat) (x : C) (news : List D) (m : Nat) (h : List (Nat × Blk)) : Option Eff :=
  match x with
  | .nl => effAppGo e d [] 0 news m .new
  | .sl i off n => (lk i h).bind fun b => match b with
    | .row sz cs app => if app = true ∧ off = 0 ∧ sz = e.size ∧ cs.length = n * sz then effAppGo e d cs n news m (.app i) else none
    | _ => none
  | _ => none

def effBuiltin (T : Tab) (b : Builtin) (ts : List TypeId) (args : List Operand) (d : Option Nat) (st : St) : Option Eff :=
  match b, ts, args with
  | .len, [t], [x] => (T t).bind fun i => match i.arr with
    | some (n, _) => some (.val (vI .i64 n))
    | none => (st.evC x).bind fun c => (if i.sl.isSome then lenC c else if isStr i then lenS c else none).map fun (n : Nat) => .val (vI .i64 (n : Int))
  | .append, [t, t'], [x, y] =>
    d.bind fun d => (T t).bind fun i => i.sl.bind fun e => (T e).bind fun j => (st.evC x).bind fun c => (st.evC y).bind fun s =>
      if t' = t then (st.src j s).bind fun p => effApp j d c p.2 p.1 st.h else none
  | .min, _, x :: r => (st.evI x).bind fun p => (r.mapM st.evI).bind fun l => (minmax false p.1 p.2 l).map .val
  | .max, _, x :: r => (st.evI x).bind fun p => (r.mapM st.evI).bind fun l => (minmax true p.1 p.2 l).map .val
  | _, _, _ => none

def effMksl (d : Nat) (j : TI) (l c : Int) : Option Eff :=
  if 0 ≤ l ∧ l ≤ c ∧ c * j.bytes ≤ big ∧ c ≤ big then (j.zero.mapM (toD (fun _ => false) [] 3)).map fun z => .new (.row j.size (rep l.toNat z) true) (vC (.sl d 0 l.toNat)) else none

/-- The effect of an operation. -/
def effOp (T : Tab) (o : Oper) (st : St) : Option Eff :=
  match o.op with
  | .assign (.const (.slice none 0 0)) => o.dst.bind fun d => (T o.type).bind fun i => i.sl.bind fun e => (T e).map fun j => .new (.row j.size [] true) (vC (.sl d 0 0))
  | .move x | .assign x => (st.ev x).map .val
  | .pick c a b => (st.evB c).bind fun c => (pickV c (st.ev a) (st.ev b)).map .val
  | .alloc t => (T t).bind fun i => o.dst.map fun d => .new (.box i.zero) (vC (.ptr d 0))
  | .box t x => (T t).bind fun i => (st.evU x).bind fun u => if u.cells.length = i.size then o.dst.map fun d => .new (.box u.cells) (vC (.ptr d 0)) else none
  | .build t parts => (T t).bind fun i => (st.evUs parts.toList).bind fun l => (build T i l).map fun u => .val (.u u)
  | .buildSlice t len parts => (T t).bind fun i => i.sl.bind fun e => (T e).bind fun j => (st.evUs parts.toList).bind fun l => o.dst.bind fun d => effBsl d j len st.h l
  | .load t a => (T t).bind fun i => (st.evC a).bind fun c => (st.load i c).map fun u => .val (.u u)
  | .store t a x => (T t).bind fun i => (st.evC a).bind fun c => (st.evU x).bind fun u => effStore i c u st
  | .nilCheck x => (st.evC x).bind fun c => (nilChk c).map fun c => .val (vC c)
  | .binOp op t x y _ => (st.ev x).bind fun a => (st.ev y).bind fun b => (binV T op t a b).map .val
  | .unOp .not _ x => (st.evB x).map fun b => .val (vB !b)
  | .unOp .neg _ x => (st.evI x).bind fun p => (fitK p.1 (0 - p.2)).map .val
  | .convert s t x => (T s).bind fun _ => (T t).bind fun i => (st.evI x).bind fun p => (convI i p.2).map .val
  | .makeSlice t l c => (T t).bind fun i => i.sl.bind fun e => (T e).bind fun j => (st.evI l).bind fun l => (st.evI c).bind fun c => o.dst.bind fun d => effMksl d j l.2 c.2
  | .slice t x lo hi none => (T t).bind fun i => (st.evC x).bind fun c => (st.evO lo).bind fun l => (st.evO hi).bind fun h =>
      (match i.sl with | some e => (T e).bind fun j => sliceV st.h c l h j.size | none => if isStr i then sliceS c l h else none).map fun v => .val (vC v)
  | .fieldAddr t x f => (T t).bind fun i => (st.evC x).bind fun c => (i.flds[f]?).bind fun p => (T p.2).bind fun j => if j.size = 0 then none else (fldAddr p.1 c).map fun c => .val (vC c)
  | .field t x f => (T t).bind fun i => (st.evU x).bind fun u => (fieldOf T i f u).map fun u => .val (.u u)
  | .indexAddr t x i => (T t).bind fun ti => (st.evC x).bind fun c => (st.evI i).bind fun n => (idxAddr T st.h ti n.2 c).map fun c => .val (vC c)
  | .index t x i => (T t).bind fun ti => (st.evU x).bind fun u => (st.evI i).bind fun n => (indexOf T ti n.2 u).map fun u => .val (.u u)
  | .extract x i => (st.ev x).bind fun v => (tupAt i v).map fun u => .val (.u u)
  | .makeFunc (.func f) first captured => if first.toList = [] then (captured.toList.mapM st.evC).map fun cs => .val (.u (clo [] f cs)) else none
  | .call { callee := .builtin b, args, argTypes } => effBuiltin T b argTypes.toList args.toList o.dst st
  | _ => none

/-! ### more is known, the same comes out -/

/-- What 'a' says, 'b' says. -/
def Mo {α : Type} (a b : Option α) : Prop := ∀ x, a = some x → b = some x
theorem Mo.refl {α : Type} (a : Option α) : Mo a a := fun _ h => h
theorem Mo.bind {α β : Type} {a b : Option α} {f g : α → Option β} (h : Mo a b) (hf : ∀ x, Mo (f x) (g x)) : Mo (a.bind f) (b.bind g) := fun y hy => by
  cases ha : a with
  | none => rw [ha] at hy; cases hy
  | some x => rw [ha] at hy; rw [h x ha]; exact hf x y hy
theorem Mo.map {α β : Type} {a b : Option α} (f : α → β) (h : Mo a b) : Mo (a.map f) (b.map f) := fun y hy => by
  cases ha : a with
  | none => rw [ha] at hy; cases hy
  | some x => rw [ha] at hy; rw [h x ha]; exact hy
theorem Mo.ite {α : Type} {c : Prop} [Decidable c] {a b a' b' : Option α} (h : Mo a b) (h' : Mo a' b') : Mo (if c then a else a') (if c then b else b') := by
  by_cases hc : c
  · simpa [hc] using h
  · simpa [hc] using h'
theorem Mo.none {α : Type} (b : Option α) : Mo none b := fun _ h => by cases h

structure St.Sub (e s : St) : Prop where
  t : ∀ k, Mo (lk k e.t) (lk k s.t)
  h : ∀ k, Mo (lk k e.h) (lk k s.h)

section
variable {e s : St} (hs : e.Sub s)
include hs
theorem Sub.ev (x : Operand) : Mo (e.ev x) (s.ev x) := by
  cases x with
  | tmp t => exact hs.t t
  | _ => exact Mo.refl _
theorem Sub.evU (x : Operand) : Mo (e.evU x) (s.evU x) := fun y hy => by
  unfold St.evU at hy ⊢
  split at hy
  · rename_i u h; rw [Sub.ev hs x _ h]; exact hy
  · cases hy
theorem Sub.evC (x : Operand) : Mo (e.evC x) (s.evC x) := fun y hy => by
  unfold St.evC at hy ⊢
  split at hy
  · rename_i u h; rw [Sub.ev hs x _ h]; exact hy
  · cases hy
theorem Sub.evI (x : Operand) : Mo (e.evI x) (s.evI x) := fun y hy => by
  unfold St.evI at hy ⊢
  split at hy
  · rename_i k n h; rw [Sub.ev hs x _ h]; exact hy
  · cases hy
theorem Sub.evB (x : Operand) : Mo (e.evB x) (s.evB x) := fun y hy => by
  unfold St.evB at hy ⊢
  split at hy
  · rename_i b h; rw [Sub.ev hs x _ h]; exact hy
  · cases hy
theorem Sub.evO (x : Option Operand) : Mo (e.evO x) (s.evO x) := by
  cases x with
  | none => exact Mo.refl _
  | some x => exact (Sub.evI hs x).map _
theorem Sub.evUs : ∀ l, Mo (e.evUs l) (s.evUs l)
  | [] => Mo.refl _
  | (_, x) :: r => (Sub.evU hs x).bind fun _ => (Sub.evUs r).map _
theorem Sub.isRow (i sz : Nat) (h : isRow e.h i sz = true) : isRow s.h i sz = true := by
  unfold Va.isRow at h ⊢
  split at h
  · rename_i h1; rw [hs.h i _ h1]; exact h
  · rename_i h1; rw [hs.h i _ h1]; exact h
  · cases h
theorem Sub.toD_sl (ok : Nat → Bool) (k i off n : Nat) : Mo (Va.toD ok e.h k (.sl i off n)) (Va.toD ok s.h k (.sl i off n)) := fun y hy => by
  have he : ∀ h : List (Nat × Blk), Va.toD ok h k (.sl i off n) = if ok i then (match lk i h with
    | some (.row sz cs _) => if (off + n) * sz ≤ cs.length then some (.slice n (cut (off * sz) (n * sz) cs)) else none
    | _ => none) else none := fun h => by cases k <;> rfl
  rw [he] at hy ⊢
  by_cases ho : ok i = true
  · rw [if_pos ho] at hy ⊢
    split at hy
    · rename_i h1; rw [hs.h i _ h1]; exact hy
    · cases hy
  · rw [if_neg ho] at hy; cases hy
theorem Sub.toD (ok : Nat → Bool) : ∀ (k : Nat) (c : C), Mo (Va.toD ok e.h k c) (Va.toD ok s.h k c)
  | 0, .d x => Mo.refl _
  | k + 1, .d x => Mo.refl _
  | 0, .nl => Mo.refl _
  | k + 1, .nl => Mo.refl _
  | 0, .bad => Mo.refl _
  | k + 1, .bad => Mo.refl _
  | 0, .sl i off n => Sub.toD_sl hs ok 0 i off n
  | k + 1, .sl i off n => Sub.toD_sl hs ok (k + 1) i off n
  | 0, .ptr i off => Mo.refl _
  | k + 1, .ptr i off => fun y hy => by
    have hm : ∀ l : List C, Mo (l.mapM (Va.toD ok e.h k)) (l.mapM (Va.toD ok s.h k)) := fun l => by
      induction l with
      | nil => simpa using Mo.refl _
      | cons c r ih =>
        rw [List.mapM_cons, List.mapM_cons]
        exact (Sub.toD ok k c).bind fun _ => ih.bind fun _ => Mo.refl _
    unfold Va.toD at hy ⊢
    by_cases ho : ok i = true
    · rw [if_pos ho] at hy ⊢
      split at hy
      · rename_i h1; rw [hs.h i _ h1]; exact hy
      · rename_i h1; rw [hs.h i _ h1]; exact (hm _).map _ _ hy
      · cases hy
    · rw [if_neg ho] at hy; cases hy
theorem Sub.sliceV (c : C) (l h : Option Int) (sz : Nat) : Mo (sliceV e.h c l h sz) (sliceV s.h c l h sz) := fun y hy => by
  unfold Va.sliceV at hy ⊢
  split at hy
  · rename_i i off n
    by_cases hr : Va.isRow e.h i sz = true
    · rw [if_pos hr] at hy
      simp only [Sub.isRow hs i sz hr, if_true]
      exact hy
    · rw [if_neg hr] at hy; cases hy
  · exact hy
  · exact hy
  · cases hy
theorem Sub.idxSl (sz : Nat) (i : Int) (c : C) : Mo (idxSl e.h sz i c) (idxSl s.h sz i c) := fun y hy => by
  unfold Va.idxSl at hy ⊢
  split at hy
  · rename_i b off n
    by_cases hr : 0 ≤ i ∧ i < n ∧ Va.isRow e.h b sz = true
    · rw [if_pos hr] at hy
      simp only [hr.1, hr.2.1, Sub.isRow hs b sz hr.2.2, and_self, if_true]
      exact hy
    · rw [if_neg hr] at hy; cases hy
  · exact hy
  · cases hy
theorem Sub.idxAddr (T : Tab) (i : TI) (n : Int) (c : C) : Mo (idxAddr T e.h i n c) (idxAddr T s.h i n c) := by
  unfold Va.idxAddr
  split
  · exact Mo.refl _
  · exact (Mo.refl _).bind fun _ => (Mo.refl _).bind fun _ => Sub.idxSl hs _ _ _
theorem Sub.load (i : TI) (c : C) : Mo (e.load i c) (s.load i c) := by
  unfold St.load
  split
  · exact (hs.h _).bind fun _ => Mo.refl _
  · exact Mo.refl _
  · exact Mo.refl _
theorem Sub.mapD (ok : Nat → Bool) (k : Nat) : ∀ l : List C, Mo (l.mapM (Va.toD ok e.h k)) (l.mapM (Va.toD ok s.h k))
  | [] => by simpa using Mo.refl _
  | c :: r => by
    rw [List.mapM_cons, List.mapM_cons]
    exact (Sub.toD hs ok k c).bind fun _ => (Sub.mapD ok k r).bind fun _ => Mo.refl _
theorem Sub.effBsl (d : Nat) (j : TI) (len : Nat) (l : List (Nat × List C)) : Mo (effBsl d j len e.h l) (effBsl d j len s.h l) := by
  unfold Va.effBsl
  exact Mo.ite ((Mo.refl _).bind fun _ => Mo.ite (Mo.refl _) (Mo.ite ((Sub.mapD hs _ _ _).map _) (Mo.refl _))) (Mo.refl _)
theorem Sub.effStore (i : TI) (c : C) (v : U) : Mo (effStore i c v e) (effStore i c v s) := by
  unfold Va.effStore
  refine Mo.ite ?_ (Mo.refl _)
  split
  · refine (hs.h _).bind fun k => ?_
    split
    · exact Mo.refl _
    · exact Mo.ite ((Sub.mapD hs _ _ _).bind fun _ => Mo.refl _) (Mo.refl _)
  · exact Mo.refl _
theorem Sub.pickV (c : Bool) (a b a' b' : Option V) (h : Mo a a') (h' : Mo b b') : Mo (pickV c a b) (pickV c a' b') := by
  unfold Va.pickV
  split
  · exact h
  · exact h'
theorem Sub.src (j : TI) (c : C) : Mo (e.src j c) (s.src j c) := by
  unfold St.src
  split
  · exact Mo.refl _
  · exact Mo.refl _
  · exact (hs.h _).bind fun _ => Mo.refl _
  · exact Mo.refl _
theorem Sub.effApp (j : TI) (d : Nat) (c : C) (news : List D) (m : Nat) : Mo (effApp j d c news m e.h) (effApp j d c news m s.h) := by
  unfold Va.effApp
  split
  · exact Mo.refl _
  · exact (hs.h _).bind fun _ => Mo.refl _
  · exact Mo.refl _
theorem Sub.evL : ∀ l : List Operand, Mo (l.mapM e.evI) (l.mapM s.evI)
  | [] => by simpa using Mo.refl _
  | c :: r => by
    rw [List.mapM_cons, List.mapM_cons]
    exact (Sub.evI hs c).bind fun _ => (Sub.evL r).bind fun _ => Mo.refl _
theorem Sub.evLC : ∀ l : List Operand, Mo (l.mapM e.evC) (l.mapM s.evC)
  | [] => by simpa using Mo.refl _
  | c :: r => by
    rw [List.mapM_cons, List.mapM_cons]
    exact (Sub.evC hs c).bind fun _ => (Sub.evLC r).bind fun _ => Mo.refl _
theorem Sub.effBuiltin (T : Tab) (b : Builtin) (ts : List TypeId) (args : List Operand) (d : Option Nat) : Mo (effBuiltin T b ts args d e) (effBuiltin T b ts args d s) := by
  unfold Va.effBuiltin
  split
  · refine (Mo.refl _).bind fun i => ?_
    split
    · exact Mo.refl _
    · exact (Sub.evC hs _).bind fun _ => Mo.refl _
  · exact (Mo.refl _).bind fun _ => (Mo.refl _).bind fun _ => (Mo.refl _).bind fun _ => (Mo.refl _).bind fun _ => (Sub.evC hs _).bind fun _ => (Sub.evC hs _).bind fun _ =>
      Mo.ite ((Sub.src hs _ _).bind fun _ => Sub.effApp hs _ _ _ _ _) (Mo.refl _)
  · exact (Sub.evI hs _).bind fun _ => (Sub.evL hs _).bind fun _ => Mo.refl _
  · exact (Sub.evI hs _).bind fun _ => (Sub.evL hs _).bind fun _ => Mo.refl _
  · exact Mo.refl _
theorem Sub.effOp (T : Tab) (o : Oper) : Mo (effOp T o e) (effOp T o s) := by
  unfold Va.effOp
  split
  · exact Mo.refl _
  · exact (Sub.ev hs _).map _
  · exact (Sub.ev hs _).map _
  · exact (Sub.evB hs _).bind fun _ => (Sub.pickV hs _ _ _ _ _ (Sub.ev hs _) (Sub.ev hs _)).map _
  · exact Mo.refl _
  · exact (Mo.refl _).bind fun _ => (Sub.evU hs _).bind fun _ => Mo.refl _
  · exact (Mo.refl _).bind fun _ => (Sub.evUs hs _).bind fun _ => Mo.refl _
  · exact (Mo.refl _).bind fun _ => (Mo.refl _).bind fun _ => (Mo.refl _).bind fun _ => (Sub.evUs hs _).bind fun _ => (Mo.refl _).bind fun _ => Sub.effBsl hs _ _ _ _
  · exact (Mo.refl _).bind fun _ => (Sub.evC hs _).bind fun _ => (Sub.load hs _ _).map _
  · exact (Mo.refl _).bind fun _ => (Sub.evC hs _).bind fun _ => (Sub.evU hs _).bind fun _ => Sub.effStore hs _ _ _
  · exact (Sub.evC hs _).bind fun _ => Mo.refl _
  · exact (Sub.ev hs _).bind fun _ => (Sub.ev hs _).bind fun _ => Mo.refl _
  · exact (Sub.evB hs _).map _
  · exact (Sub.evI hs _).bind fun _ => Mo.refl _
  · exact (Mo.refl _).bind fun _ => (Mo.refl _).bind fun _ => (Sub.evI hs _).bind fun _ => Mo.refl _
  · exact (Mo.refl _).bind fun _ => (Mo.refl _).bind fun _ => (Mo.refl _).bind fun _ => (Sub.evI hs _).bind fun _ => (Sub.evI hs _).bind fun _ => Mo.refl _
  · refine (Mo.refl _).bind fun _ => (Sub.evC hs _).bind fun _ => (Sub.evO hs _).bind fun _ => (Sub.evO hs _).bind fun _ => Mo.map _ ?_
    split
    · exact (Mo.refl _).bind fun _ => Sub.sliceV hs _ _ _ _
    · exact Mo.refl _
  · exact (Mo.refl _).bind fun _ => (Sub.evC hs _).bind fun _ => Mo.refl _
  · exact (Mo.refl _).bind fun _ => (Sub.evU hs _).bind fun _ => Mo.refl _
  · exact (Mo.refl _).bind fun _ => (Sub.evC hs _).bind fun _ => (Sub.evI hs _).bind fun _ => (Sub.idxAddr hs _ _ _ _).map _
  · exact (Mo.refl _).bind fun _ => (Sub.evU hs _).bind fun _ => (Sub.evI hs _).bind fun _ => Mo.refl _
  · exact (Sub.ev hs _).bind fun _ => Mo.refl _
  · exact Mo.ite ((Sub.evLC hs _).map _) (Mo.refl _)
  · exact Sub.effBuiltin hs _ _ _ _ _
  · exact Mo.refl _
end

/-- The effect is what the operation does. -/
theorem reach_none (h : List (Nat × Blk)) (k : Nat) (cs : List C) (hc : cs.all (fun c => c.id?.isNone) = true) : reach h k cs = [] := by
  cases k with
  | zero => rfl
  | succ k =>
    unfold reach
    rw [List.flatMap_eq_nil_iff]
    intro c hm
    have := List.all_eq_true.1 hc c hm
    rw [Option.isNone_iff_eq_none] at this
    rw [this]
theorem shut_none {st : St} {cs : List C} {ds : List D} (hc : noIdsC cs = true) (h : cs.mapM (toD (fun _ => false) st.h 3) = some ds) : st.shut cs = some (ds, st) := by
  unfold St.shut
  rw [reach_none _ _ _ hc]
  unfold St.sealW
  have : (fun x => ([] : List Nat).contains x) = fun _ => false := by funext x; rfl
  rw [this, h]
  rfl
theorem effBsl_step {d : Nat} {j : TI} {len : Nat} {st : St} {l : List (Nat × List C)} {x : Eff} (h : effBsl d j len st.h l = some x) : bslGo j len (some d) st l = some (st.eff (some d) x) := by
  unfold effBsl at h
  unfold bslGo
  split at h
  · rename_i hc
    rw [if_pos hc]
    obtain ⟨cs, h1, h2⟩ := Option.bind_eq_some_iff.1 h
    rw [h1]
    simp only [Option.bind_some]
    split at h2
    · rename_i hb
      rw [if_pos hb]
      cases h2
      rfl
    · rename_i hb
      rw [if_neg hb]
      split at h2
      · rename_i hn
        obtain ⟨ds, h3, rfl⟩ := Option.map_eq_some_iff.1 h2
        rw [shut_none hn h3]
        rfl
      · cases h2
  · cases h
theorem effStore_step {i : TI} {c : C} {v : U} {st : St} {d : Option Nat} {x : Eff} (h : effStore i c v st = some x) : ((st.store i c v).map fun s => s.put d (.tup [])) = some (st.eff d x) := by
  unfold effStore at h
  unfold St.store
  split at h
  · rename_i hl
    rw [if_pos hl]
    split at h
    · obtain ⟨k, h1, h2⟩ := Option.bind_eq_some_iff.1 h
      dsimp only
      rw [h1]
      simp only [Option.bind_some]
      split at h2
      · split at h2
        · rename_i hh
          cases h2
          simp only [St.storeB, if_pos hh, Option.map_some]
          rfl
        · cases h2
      · split at h2
        · rename_i hn
          obtain ⟨ds, h3, h4⟩ := Option.bind_eq_some_iff.1 h2
          split at h4
          · rename_i hh
            cases h4
            simp only [St.storeB]
            rw [shut_none hn h3]
            simp only [Option.bind_some]
            rw [h1]
            simp only [if_pos hh, Option.map_some]
            rfl
          · cases h4
        · cases h2
    · cases h
  · cases h
theorem effApp_step {j : TI} {d : Nat} {c : C} {news : List D} {m : Nat} {st : St} {x : Eff} (h : effApp j d c news m st.h = some x) : st.app j d c news m = some (st.eff (some d) x) := by
  unfold effApp at h
  unfold St.app
  split at h
  · unfold effAppGo at h
    unfold St.appGo
    split at h
    · rename_i hc; rw [if_pos hc]; cases h; rfl
    · cases h
  · obtain ⟨b, h1, h2⟩ := Option.bind_eq_some_iff.1 h
    dsimp only
    rw [h1]
    simp only [Option.bind_some]
    split at h2
    · split at h2
      · rename_i hc
        dsimp only
        rw [if_pos hc]
        unfold effAppGo at h2
        unfold St.appGo
        split at h2
        · rename_i hc2; rw [if_pos hc2]; cases h2; rfl
        · cases h2
      · cases h2
    · cases h2
  · cases h
theorem toD_false (h h' : List (Nat × Blk)) : ∀ (k : Nat) (c : C), toD (fun _ => false) h k c = toD (fun _ => false) h' k c
  | 0, c => by cases c <;> simp [toD]
  | k + 1, c => by cases c <;> simp [toD]
theorem toD_false_true (h : List (Nat × Blk)) : ∀ (k : Nat) (c : C) (x : D), toD (fun _ => false) [] k c = some x → toD (fun _ => true) h k c = some x
  | 0, c, x, hx => by cases c <;> simp_all [toD]
  | k + 1, c, x, hx => by cases c <;> simp_all [toD]
theorem mapD_false_true (h : List (Nat × Blk)) (k : Nat) : ∀ (cs : List C) (ds : List D), cs.mapM (toD (fun _ => false) [] k) = some ds → cs.mapM (toD (fun _ => true) h k) = some ds
  | [], ds, hd => by simpa using hd
  | c :: r, ds, hd => by
    simp only [List.mapM_cons, Option.pure_def, Option.bind_eq_bind, Option.bind_eq_some_iff, Option.some.injEq] at hd ⊢
    obtain ⟨x, hx, ys, hy, rfl⟩ := hd
    exact ⟨x, toD_false_true h k c x hx, ys, mapD_false_true h k r ys hy, rfl⟩
theorem clo_any (h h' : List (Nat × Blk)) (f : FuncId) (cs : List C) : clo h f cs = clo h' f cs := by
  unfold clo
  have : (toD (fun _ => false) h 3) = toD (fun _ => false) h' 3 := funext fun c => toD_false h h' 3 c
  rw [this]
theorem eff_map {α : Type} {a : Option α} {f : α → V} {st : St} {d : Option Nat} {x : Eff} (h : a.map (fun y => Eff.val (f y)) = some x) : (a.map fun y => st.put d (f y)) = some (st.eff d x) := by
  obtain ⟨y, rfl, rfl⟩ := Option.map_eq_some_iff.1 h
  rfl
theorem eff_bind {α : Type} {a : Option α} {f : α → Option Eff} {g : α → Option St} {r : St} {x : Eff} (h : a.bind f = some x) (hg : ∀ y, f y = some x → g y = some r) : a.bind g = some r := by
  obtain ⟨y, rfl, hy⟩ := Option.bind_eq_some_iff.1 h
  exact hg y hy
theorem eff_mk {st : St} {o : Option Nat} {b : Blk} {c : Nat → C} {x : Eff} (h : (o.map fun d => Eff.new b (vC (c d))) = some x) : mk o st b c = some (st.eff o x) := by
  cases o with
  | none => cases h
  | some d => cases h; rfl

theorem effMksl_step {d : Nat} {j : TI} {l c : Int} {st : St} {x : Eff} (h : effMksl d j l c = some x) : mkslGo j (some d) st l c = some (st.eff (some d) x) := by
  unfold effMksl at h
  unfold mkslGo
  split at h
  · rename_i hc
    rw [if_pos hc]
    obtain ⟨z, hz, rfl⟩ := Option.map_eq_some_iff.1 h
    have : j.zero.mapM st.cD = some z := mapD_false_true st.h 3 _ _ hz
    rw [this]
    rfl
  · cases h
theorem effBuiltin_step {T : Tab} {b : Builtin} {ts : List TypeId} {args : List Operand} {d : Option Nat} {st : St} {x : Eff} (h : effBuiltin T b ts args d st = some x) : stepBuiltin T b ts args d st = some (st.eff d x) := by
  unfold effBuiltin at h
  unfold stepBuiltin
  split at h
  · refine eff_bind h fun i h => ?_
    unfold biLen
    split at h
    · rename_i ha; rw [ha]; cases h; rfl
    · rename_i ha; rw [ha]; exact eff_bind h fun _ h => eff_map h
  · obtain ⟨d', hd, h⟩ := Option.bind_eq_some_iff.1 h
    subst hd
    simp only [Option.bind_some]
    refine eff_bind h fun _ h => eff_bind h fun _ h => eff_bind h fun _ h => eff_bind h fun _ h => eff_bind h fun _ h => ?_
    split at h
    · rename_i ht; rw [if_pos ht]; exact eff_bind h fun _ h => effApp_step h
    · cases h
  · exact eff_bind h fun _ h => eff_bind h fun _ h => eff_map h
  · exact eff_bind h fun _ h => eff_bind h fun _ h => eff_map h
  · cases h

theorem eff_step {T : Tab} {o : Oper} {st : St} {x : Eff} (h : effOp T o st = some x) : stepOp T o st = some (st.eff o.dst x) := by
  unfold effOp at h
  unfold stepOp
  split at h
  · rename_i ho; rw [ho]
    obtain ⟨d, hd, h⟩ := Option.bind_eq_some_iff.1 h
    rw [hd]
    unfold nilAssign
    simp only [Option.bind_some]
    refine eff_bind h fun _ h => eff_bind h fun _ h => ?_
    obtain ⟨j, hj, rfl⟩ := Option.map_eq_some_iff.1 h
    rw [hj]
    rfl
  · rename_i ho; rw [ho]; exact eff_map h
  · rename_i hne ho
    rw [ho]
    split
    · rename_i he; cases he; exact (hne rfl).elim
    · rename_i he; cases he
    · rename_i he; cases he; exact eff_map h
    case h_25 =>
      rename_i hc _ _ _ _ _ _ _ _ _ _ _ _ _ _ _ _ _ _ _ _ _
      exact (hc _ rfl).elim
    all_goals (rename_i he; cases he)
  · rename_i ho; rw [ho]; exact eff_bind h fun _ h => eff_map h
  · rename_i ho; rw [ho]; exact eff_bind h fun _ h => eff_mk h
  · rename_i ho; rw [ho]
    refine eff_bind h fun _ h => eff_bind h fun _ h => ?_
    split at h
    · rename_i hc; rw [if_pos hc]; exact eff_mk h
    · cases h
  · rename_i ho; rw [ho]; exact eff_bind h fun _ h => eff_bind h fun _ h => eff_map h
  · rename_i ho; rw [ho]
    refine eff_bind h fun _ h => eff_bind h fun _ h => eff_bind h fun _ h => eff_bind h fun _ h => ?_
    obtain ⟨d, hd, h⟩ := Option.bind_eq_some_iff.1 h
    rw [hd]
    exact effBsl_step h
  · rename_i ho; rw [ho]; exact eff_bind h fun _ h => eff_bind h fun _ h => eff_map h
  · rename_i ho; rw [ho]; exact eff_bind h fun _ h => eff_bind h fun _ h => eff_bind h fun _ h => effStore_step h
  · rename_i ho; rw [ho]; exact eff_bind h fun _ h => eff_map h
  · rename_i ho; rw [ho]; exact eff_bind h fun _ h => eff_bind h fun _ h => eff_map h
  · rename_i ho; rw [ho]; exact eff_map h
  · rename_i ho; rw [ho]; exact eff_bind h fun _ h => eff_map h
  · rename_i ho; rw [ho]; exact eff_bind h fun _ h => eff_bind h fun _ h => eff_bind h fun _ h => eff_map h
  · rename_i ho; rw [ho]
    refine eff_bind h fun _ h => eff_bind h fun _ h => eff_bind h fun _ h => eff_bind h fun _ h => eff_bind h fun _ h => ?_
    obtain ⟨d, hd, h⟩ := Option.bind_eq_some_iff.1 h
    rw [hd]
    exact effMksl_step h
  · rename_i ho; rw [ho]; exact eff_bind h fun _ h => eff_bind h fun _ h => eff_bind h fun _ h => eff_bind h fun _ h => eff_map h
  · rename_i ho; rw [ho]
    refine eff_bind h fun _ h => eff_bind h fun _ h => eff_bind h fun _ h => eff_bind h fun _ h => ?_
    split at h
    · cases h
    · rename_i hc; rw [if_neg hc]; exact eff_map h
  · rename_i ho; rw [ho]; exact eff_bind h fun _ h => eff_bind h fun _ h => eff_map h
  · rename_i ho; rw [ho]; exact eff_bind h fun _ h => eff_bind h fun _ h => eff_bind h fun _ h => eff_map h
  · rename_i ho; rw [ho]; exact eff_bind h fun _ h => eff_bind h fun _ h => eff_bind h fun _ h => eff_map h
  · rename_i ho; rw [ho]; exact eff_bind h fun _ h => eff_map h
  · rename_i ho; rw [ho]
    dsimp only
    split at h
    · rename_i hf
      rw [if_pos hf]
      obtain ⟨cs, hcs, rfl⟩ := Option.map_eq_some_iff.1 h
      rw [hcs, clo_any [] st.h]
      rfl
    · cases h
  · rename_i ho; rw [ho]; exact effBuiltin_step h
  · cases h

end Go.Va

/-
  Regions that draw their order, second part: effects in whatever order.
-/
namespace Go.Va
open Go.RowKit

/-- What can be looked up. -/
structure FS where
  t : Nat → Option V
  h : Nat → Option Blk

def St.fs (s : St) : FS := ⟨fun k => lk k s.t, fun k => lk k s.h⟩

def Eff.v : Eff → V
  | .val v => v
  | .new _ v => v
  | .put _ _ => .tup []
  | .app _ _ v => v
  | .dat x => vC (.d x)
/-- What becomes of a block. -/
def Eff.b (d : Option Nat) : Eff → Nat → Option (Option Blk)
  | .val _, _ => none
  | .dat _, _ => none
  | .new b _, k => if d.getD 0 = k then some (some b) else none
  | .put i b, k => if i = k then some (some b) else none
  | .app i b _, k => if d.getD 0 = k then some (some b) else if i = k then some none else none

/-- An operation's place, and its effect. -/
structure Step where
  d : Option Nat
  x : Eff
  deriving Inhabited

def Step.hits (s : Step) (k : Nat) : Prop := (s.x.b s.d k).isSome = true

def FS.upd (F : FS) (s : Step) : FS :=
  ⟨fun t => if s.d = some t then some s.x.v else F.t t, fun k => (s.x.b s.d k).getD (F.h k)⟩

def FS.run (F : FS) (l : List Step) : FS := l.foldl FS.upd F

/-- Two steps that have nothing to do with one another. -/
structure Step.Indep (s s' : Step) : Prop where
  d : ∀ t, s.d = some t → s'.d ≠ some t
  h : ∀ k, s.hits k → ¬ s'.hits k

theorem FS.ext' {F G : FS} (h1 : ∀ t, F.t t = G.t t) (h2 : ∀ t, F.h t = G.h t) : F = G := by
  cases F; cases G
  simp only [FS.mk.injEq]
  exact ⟨funext h1, funext h2⟩

theorem not_hits {s : Step} {k : Nat} (h : ¬ s.hits k) : s.x.b s.d k = none := by
  unfold Step.hits at h
  cases hb : s.x.b s.d k with
  | none => rfl
  | some r => rw [hb] at h; simp at h

theorem FS.upd_comm (F : FS) {s s' : Step} (h : s.Indep s') : (F.upd s).upd s' = (F.upd s').upd s := by
  refine FS.ext' (fun t => ?_) fun k => ?_
  · simp only [FS.upd]
    by_cases h1 : s.d = some t
    · have := h.d t h1
      simp [h1, this]
    · simp [h1]
  · simp only [FS.upd]
    by_cases hk : s.hits k
    · rw [not_hits (h.h k hk)]; rfl
    · rw [not_hits hk]; rfl

theorem FS.run_append (F : FS) (l m : List Step) : F.run (l ++ m) = (F.run l).run m := by simp [FS.run]

/-- A step that is late may be put where it belongs. -/
theorem FS.run_late (F : FS) (s : Step) : ∀ (l m : List Step), (∀ s' ∈ m, s'.Indep s) → (F.run (l ++ m)).upd s = F.run (l ++ s :: m)
  | l, [], _ => by simp [FS.run]
  | l, a :: m, h => by
    have ih := FS.run_late F s (l ++ [a]) m fun s' hs' => h s' (by simp [hs'])
    rw [show l ++ a :: m = l ++ [a] ++ m by simp, ih]
    have hc := FS.upd_comm (F.run l) (h a (by simp))
    simp only [FS.run_append] at hc ⊢
    show ((((F.run l).upd a).upd s).run m) = ((((F.run l).upd s).upd a).run m)
    rw [hc]

/-- What is not written is as before. -/
theorem FS.run_t (F : FS) (t : Nat) : ∀ l : List Step, (∀ s ∈ l, s.d ≠ some t) → (F.run l).t t = F.t t
  | [], _ => rfl
  | s :: l, h => by
    show ((F.upd s).run l).t t = _
    rw [FS.run_t (F.upd s) t l fun s' hs => h s' (by simp [hs])]
    simp [FS.upd, h s (by simp)]
theorem FS.run_h (F : FS) (k : Nat) : ∀ l : List Step, (∀ s ∈ l, ¬ s.hits k) → (F.run l).h k = F.h k
  | [], _ => rfl
  | s :: l, h => by
    show ((F.upd s).run l).h k = _
    rw [FS.run_h (F.upd s) k l fun s' hs => h s' (by simp [hs])]
    simp only [FS.upd, not_hits (h s (by simp)), Option.getD_none]

/-- Only the steps that write it count for a slot. -/
theorem FS.upd_t (F G : FS) (s : Step) (t : Nat) (h : F.t t = G.t t) : (F.upd s).t t = (G.upd s).t t := by
  simp [FS.upd, h]
theorem FS.upd_h (F G : FS) (s : Step) (k : Nat) (h : F.h k = G.h k) : (F.upd s).h k = (G.upd s).h k := by
  simp only [FS.upd, h]
theorem FS.run_t_filter (p : Nat → Bool) (f : Nat → Step) (t : Nat) : ∀ (l : List Nat) (F G : FS), F.t t = G.t t → (∀ j ∈ l, p j = false → (f j).d ≠ some t) →
    (F.run (l.map f)).t t = (G.run ((l.filter p).map f)).t t
  | [], _, _, h, _ => h
  | j :: l, F, G, h, hp => by
    rw [List.filter_cons]
    split
    · exact FS.run_t_filter p f t l (F.upd (f j)) (G.upd (f j)) (FS.upd_t _ _ _ _ h) fun j' hj' => hp j' (by simp [hj'])
    · rename_i hf
      refine FS.run_t_filter p f t l (F.upd (f j)) G ?_ fun j' hj' => hp j' (by simp [hj'])
      have := hp j (by simp) (by simpa using hf)
      simp [FS.upd, this, h]
theorem FS.run_h_filter (p : Nat → Bool) (f : Nat → Step) (k : Nat) : ∀ (l : List Nat) (F G : FS), F.h k = G.h k → (∀ j ∈ l, p j = false → ¬ (f j).hits k) →
    (F.run (l.map f)).h k = (G.run ((l.filter p).map f)).h k
  | [], _, _, h, _ => h
  | j :: l, F, G, h, hp => by
    rw [List.filter_cons]
    split
    · exact FS.run_h_filter p f k l (F.upd (f j)) (G.upd (f j)) (FS.upd_h _ _ _ _ h) fun j' hj' => hp j' (by simp [hj'])
    · rename_i hf
      refine FS.run_h_filter p f k l (F.upd (f j)) G ?_ fun j' hj' => hp j' (by simp [hj'])
      have := FS.run_h F k [f j] (by simpa using hp j (by simp) (by simpa using hf))
      exact this.trans h

end Go.Va

/-
  Regions that draw their order, third part: any order comes to the same.
-/
namespace Go.Va
open Go.RowKit

theorem range_split {i n : Nat} (h : i < n) : List.range n = List.range i ++ i :: (List.range (n - i - 1)).map (i + 1 + ·) := by
  have h1 : n = i + (1 + (n - i - 1)) := by omega
  conv => lhs; rw [h1]
  rw [List.range_add, List.range_add]
  simp [Function.comp_def, Nat.add_assoc]

/-- The steps that are done, in the order of the text. -/
def doneL (n : Nat) (L : Nat → Bool) : List Nat := (List.range n).filter L

theorem doneL_set {i n : Nat} (h : i < n) {L L' : Nat → Bool} (hi : L i = false) (hi' : L' i = true) (hL : ∀ j, j ≠ i → L' j = L j) :
    ∃ A B, doneL n L = A ++ B ∧ doneL n L' = A ++ i :: B ∧ ∀ j ∈ B, i < j ∧ j < n ∧ L j = true := by
  refine ⟨(List.range i).filter L, ((List.range (n - i - 1)).map (i + 1 + ·)).filter L, ?_, ?_, ?_⟩
  · unfold doneL
    rw [range_split h, List.filter_append, List.filter_cons, if_neg (by simp [hi])]
  · unfold doneL
    rw [range_split h, List.filter_append, List.filter_cons, if_pos hi']
    congr 1
    · exact List.filter_congr fun j hj => hL j (by have := List.mem_range.1 hj; omega)
    · congr 1
      refine List.filter_congr fun j hj => hL j ?_
      obtain ⟨k, _, rfl⟩ := List.mem_map.1 hj
      omega
  · intro j hj
    obtain ⟨h1, h2⟩ := List.mem_filter.1 hj
    obtain ⟨k, hk, rfl⟩ := List.mem_map.1 h1
    have := List.mem_range.1 hk
    exact ⟨by omega, by omega, h2⟩

/-- What is known of a region: its steps, what each was shown in, who comes before whom. -/
structure Plan (F0 : FS) (n : Nat) (f : Nat → Step) (E : Nat → St) (pred : Nat → Nat → Bool) : Prop where
  lt : ∀ j i, pred j i = true → j < i
  ind : ∀ i j, i < j → j < n → pred i j = false → (f j).Indep (f i)
  t : ∀ i, i < n → ∀ t v, lk t (E i).t = some v → (F0.run ((List.range i).map f)).t t = some v ∧ ∀ j, j < n → j ≠ i → pred j i = false → pred i j = false → (f j).d ≠ some t
  h : ∀ i, i < n → ∀ k b, lk k (E i).h = some b → (F0.run ((List.range i).map f)).h k = some b ∧ ∀ j, j < n → j ≠ i → pred j i = false → pred i j = false → ¬ (f j).hits k

section
variable {F0 : FS} {n : Nat} {f : Nat → Step} {E : Nat → St} {pred : Nat → Nat → Bool} {L : Nat → Bool}

/-- The steps that matter to 'i' are the same in the text as now. -/
theorem Plan.filter_eq (hp : Plan F0 n f E pred) {i : Nat} (hi : i < n) (hr : ∀ j, pred j i = true → L j = true) :
    (List.range i).filter (fun j => pred j i) = (doneL n L).filter (fun j => pred j i) := by
  unfold doneL
  rw [List.filter_filter, range_split hi, List.filter_append, List.filter_cons]
  have h1 : (pred i i && L i) = false := by
    cases h : pred i i with
    | false => rfl
    | true => exact absurd (hp.lt i i h) (Nat.lt_irrefl i)
  rw [if_neg (by simp [h1])]
  have h2 : ((List.range (n - i - 1)).map (i + 1 + ·)).filter (fun a => pred a i && L a) = [] := by
    rw [List.filter_eq_nil_iff]
    intro j hj
    obtain ⟨k, _, rfl⟩ := List.mem_map.1 hj
    cases h : pred (i + 1 + k) i with
    | false => simp [h]
    | true => exact absurd (hp.lt _ _ h) (by omega)
  rw [h2, List.append_nil]
  refine List.filter_congr fun j hj => ?_
  cases h : pred j i with
  | false => rfl
  | true => simp [hr j h]

/-- What a step was shown in is there when its turn comes. -/
theorem Plan.sub (hp : Plan F0 n f E pred) {i : Nat} (hi : i < n) (hLi : L i = false) (hr : ∀ j, pred j i = true → L j = true) (hc : ∀ j, L j = true → ∀ k, pred k j = true → L k = true)
    {s : St} (hs : s.fs = F0.run ((doneL n L).map f)) : (E i).Sub s := by
  have hmem : ∀ j ∈ doneL n L, j < n ∧ L j = true := fun j hj => by
    obtain ⟨h1, h2⟩ := List.mem_filter.1 hj
    exact ⟨List.mem_range.1 h1, h2⟩
  refine ⟨fun t v hv => ?_, fun k b hb => ?_⟩
  · obtain ⟨h1, h2⟩ := hp.t i hi t v hv
    have ha := FS.run_t_filter (fun j => pred j i) f t (List.range i) F0 F0 rfl fun j hj hf => by
      have := List.mem_range.1 hj
      refine h2 j (by omega) (by omega) hf ?_
      cases h : pred i j with
      | false => rfl
      | true => exact absurd (hp.lt _ _ h) (by omega)
    have hb := FS.run_t_filter (fun j => pred j i) f t (doneL n L) F0 F0 rfl fun j hj hf => by
      obtain ⟨hj1, hj2⟩ := hmem j hj
      refine h2 j hj1 (fun he => by rw [he, hLi] at hj2; cases hj2) hf ?_
      cases h : pred i j with
      | false => rfl
      | true => have := hc j hj2 i h; rw [hLi] at this; cases this
    rw [hp.filter_eq hi hr, ← hb] at ha
    have : s.fs.t t = some v := by rw [hs, ← ha]; exact h1
    exact this
  · obtain ⟨h1, h2⟩ := hp.h i hi k b hb
    have ha := FS.run_h_filter (fun j => pred j i) f k (List.range i) F0 F0 rfl fun j hj hf => by
      have := List.mem_range.1 hj
      refine h2 j (by omega) (by omega) hf ?_
      cases h : pred i j with
      | false => rfl
      | true => exact absurd (hp.lt _ _ h) (by omega)
    have hb := FS.run_h_filter (fun j => pred j i) f k (doneL n L) F0 F0 rfl fun j hj hf => by
      obtain ⟨hj1, hj2⟩ := hmem j hj
      refine h2 j hj1 (fun he => by rw [he, hLi] at hj2; cases hj2) hf ?_
      cases h : pred i j with
      | false => rfl
      | true => have := hc j hj2 i h; rw [hLi] at this; cases this
    rw [hp.filter_eq hi hr, ← hb] at ha
    have : s.fs.h k = some b := by rw [hs, ← ha]; exact h1
    exact this

/-- One more step. -/
theorem Plan.next (hp : Plan F0 n f E pred) {i : Nat} (hi : i < n) {L' : Nat → Bool} (hLi : L i = false) (hLi' : L' i = true) (hL : ∀ j, j ≠ i → L' j = L j) (hc : ∀ j, L j = true → ∀ k, pred k j = true → L k = true) :
    (F0.run ((doneL n L).map f)).upd (f i) = F0.run ((doneL n L').map f) := by
  obtain ⟨A, B, h1, h2, h3⟩ := doneL_set hi hLi hLi' hL
  rw [h1, h2, List.map_append, List.map_append, List.map_cons]
  refine FS.run_late F0 (f i) _ _ fun s hs => ?_
  obtain ⟨j, hj, rfl⟩ := List.mem_map.1 hs
  obtain ⟨h4, h5, h6⟩ := h3 j hj
  refine hp.ind i j h4 h5 ?_
  cases h : pred i j with
  | false => rfl
  | true => have := hc j h6 i h; rw [hLi] at this; cases this
end

end Go.Va

/-
  Regions that draw their order, fourth part: the walk of all orders.
-/
namespace Go.Va
open Go.RowKit

section
variable {P : Program} {T : Tab} {M Z : Addr → Prop} {w0 : World} {nt : Nat} {pred : Nat → Nat → Bool}

/-- Who comes before whom, by the edges that bind. -/
structure Edges (ops : List Oper) (pred : Nat → Nat → Bool) : Prop where
  has : ∀ i o, ops[i]? = some o → ∀ e ∈ o.after, Region.binds .any e = true → pred e.on i = true
  gen : ∀ i o, ops[i]? = some o → ∀ j, pred j i = true → ∃ e ∈ o.after, Region.binds .any e = true ∧ (e.on = j ∨ pred j e.on = true)

theorem mem_ready {ops : Array Oper} {listed : Array Bool} (hs : listed.size = ops.size) {i : Nat} : i ∈ Region.ready .any ops listed ↔ ∃ o, ops[i]? = some o ∧ listed.getD i false = false ∧ ∀ e ∈ o.after, Region.binds .any e = true → listed.getD e.on false = true := by
  unfold Region.ready
  rw [List.mem_filter, List.mem_range, Bool.and_eq_true]
  constructor
  · rintro ⟨h1, h2, h3⟩
    have ho : ops[i]? = some ops[i] := Array.getElem?_eq_getElem h1
    rw [ho] at h3
    refine ⟨_, ho, ?_, fun e he hb => ?_⟩
    · have : i < listed.size := by omega
      simp only [Array.getD_eq_getD_getElem?, Array.getElem?_eq_getElem this, Option.getD_some] at h2 ⊢
      simpa using h2
    · simp only [Option.map_some, Option.getD_some] at h3
      have := Array.all_eq_true_iff_forall_mem.1 h3 e he
      simpa [hb] using this
  · rintro ⟨o, ho, h2, h3⟩
    have h1 : i < ops.size := (Array.getElem?_eq_some_iff.1 ho).1
    refine ⟨h1, ?_, ?_⟩
    · have : i < listed.size := by omega
      simp only [Array.getD_eq_getD_getElem?, Array.getElem?_eq_getElem this, Option.getD_some] at h2 ⊢
      simp [h2]
    · rw [ho]
      simp only [Option.map_some, Option.getD_some]
      refine Array.all_eq_true_iff_forall_mem.2 fun e he => ?_
      cases hb : Region.binds .any e with
      | false => rfl
      | true => simp [h3 e he hb]

/-- All before 'm' are done, and nothing else. -/
def upTo (n m : Nat) : Array Bool := ((List.range n).map fun j => decide (j < m)).toArray
theorem upTo_size (n m : Nat) : (upTo n m).size = n := by simp [upTo]
theorem upTo_get (n m j : Nat) (h : j < n) : (upTo n m).getD j false = decide (j < m) := by
  simp [upTo, Array.getD_eq_getD_getElem?, h]
theorem upTo_eq {n m : Nat} {l : Array Bool} (hs : l.size = n) (h : ∀ j, j < n → l.getD j false = decide (j < m)) : l = upTo n m := by
  apply Array.ext
  · rw [hs, upTo_size]
  · intro j h1 h2
    have := h j (by omega)
    rw [← upTo_get n m j (by omega)] at this
    simpa [Array.getD_eq_getD_getElem?, h1, h2] using this

/-- From 'm' on, each operation waits for all before 'm'. -/
def Cut (n : Nat) (pred : Nat → Nat → Bool) (m : Nat) : Prop := ∀ i, m ≤ i → i < n → ∀ j, j < m → pred j i = true

theorem set_get {n : Nat} {listed : Array Bool} (hs : listed.size = n) {i : Nat} (hi : i < n) (j : Nat) : (listed.setIfInBounds i true).getD j false = if j = i then true else listed.getD j false := by
  by_cases hji : j = i
  · subst hji
    simp [Array.getD_eq_getD_getElem?, Array.getElem?_setIfInBounds, hs, hi]
  · simp [Array.getD_eq_getD_getElem?, Array.getElem?_setIfInBounds, hji, Ne.symm hji]

/-- Who is ready has all before it done. -/
theorem ready_pred {ops : List Oper} {pred : Nat → Nat → Bool} (he : Edges ops pred) {listed : Array Bool} (hs : listed.size = ops.length) (hc : ∀ j, listed.getD j false = true → ∀ k, pred k j = true → listed.getD k false = true)
    {i : Nat} (hi : i ∈ Region.ready .any ops.toArray listed) : ∃ o, ops[i]? = some o ∧ i < ops.length ∧ listed.getD i false = false ∧ ∀ j, pred j i = true → listed.getD j false = true := by
  obtain ⟨o, ho, h2, h3⟩ := (mem_ready (by simpa using hs)).1 hi
  have ho' : ops[i]? = some o := by simpa using ho
  refine ⟨o, ho', (List.getElem?_eq_some_iff.1 ho').1, h2, fun j hj => ?_⟩
  obtain ⟨e, hem, hb, hor⟩ := he.gen i o ho' j hj
  rcases hor with rfl | hj'
  · exact h3 e hem hb
  · exact hc e.on (h3 e hem hb) j hj'

/-- If something is left, something is ready. -/
theorem ready_some {ops : List Oper} {pred : Nat → Nat → Bool} (he : Edges ops pred) (hlt : ∀ j i, pred j i = true → j < i) {listed : Array Bool} (hs : listed.size = ops.length) (hr : Region.ready .any ops.toArray listed = []) :
    ∀ j, j < ops.length → listed.getD j false = true := by
  intro j
  induction j using Nat.strongRecOn with
  | _ j ih =>
    intro hj
    cases hl : listed.getD j false with
    | true => rfl
    | false =>
      have ho : ops.toArray[j]? = some ops[j] := by simp [List.getElem?_eq_getElem hj]
      have : j ∈ Region.ready .any ops.toArray listed := (mem_ready (by simpa using hs)).2 ⟨_, ho, hl, fun e hem hb => by
        have := hlt _ _ (he.has j ops[j] (List.getElem?_eq_getElem hj) e hem hb)
        exact ih e.on this (by omega)⟩
      rw [hr] at this
      cases this

/-- It holds, some rows read as data. -/
def Frz (K : St → Prop) (s : St) : Prop := ∃ ids, K (s.freeze ids)
theorem Frz.of {K : St → Prop} {s : St} (h : K s) : Frz K s := ⟨[], h⟩
theorem goes_frz {K : St → Prop} {a : Act} {w : World} : Goes M Z w0 nt (Frz K) a w → Goes M Z w0 nt K a w := fun ⟨_, _, h1, h2, ids, h3⟩ => ⟨_, _, h1.freeze ids, h2, h3⟩

theorem take_op {ops : List Oper} {Q : Exit → Act → World → Prop} (hok : dstsOk nt ops = true) (hT : TabOk P T) {K : St → Prop} {i : Nat} {o : Oper} (ho : ops[i]? = some o) {a : Act} {w : World} {ρ : Rho} {s : St}
    (hrel : Rel M Z w0 ρ s a w) (hn : a.tmps.size = nt) (hw : wpG P T ops o s K) {next : Act → World → Prop} (hnext : ∀ a w, Goes M Z w0 nt K a w → next a w) : Go.wpOp P ops.toArray Q i next a w := by
  subst hn
  have hg' := g_sound (Q := Q) hT hrel hok (List.mem_of_getElem? ho) hw
  unfold Go.wpOp
  have ho' : ops.toArray[i]? = some o := by simpa using ho
  rw [ho']
  dsimp only
  split
  · rw [if_pos ‹_›] at hg'
    exact .inl (Oper.wp_mono hnext hg')
  · rw [if_neg ‹_›] at hg'
    exact hnext _ _ hg'

/-- The end. -/
theorem end_sound {ops : List Oper} {Q : Exit → Act → World → Prop} {a : Act} {w : World} (h : Q .normal a w) : wpAny P .any ops.toArray Q 0 (upTo ops.length ops.length) a w := by
  refine ⟨?_, h⟩
  rw [List.eq_nil_iff_forall_not_mem]
  intro i hi
  obtain ⟨o, ho, h2, _⟩ := (mem_ready (by simp [upTo_size])).1 hi
  have hi' : i < ops.length := by
    have := (Array.getElem?_eq_some_iff.1 ho).1
    simpa using this
  rw [upTo_get _ _ _ hi'] at h2
  simp [hi'] at h2

/-- One operation, for which all wait. -/
theorem one_sound (hT : TabOk P T) {ops : List Oper} {Q : Exit → Act → World → Prop} (hok : dstsOk nt ops = true) {pred : Nat → Nat → Bool} (he : Edges ops pred) (hlt : ∀ j i, pred j i = true → j < i) {m : Nat} {o : Oper} (ho : ops[m]? = some o)
    (hcut : Cut ops.length pred (m + 1)) (hcut0 : Cut ops.length pred m) {K : St → Prop} {a : Act} {w : World} (hg : Goes M Z w0 nt (fun s => wpG P T ops o s K) a w) {fuel : Nat} (next : ∀ a w, Goes M Z w0 nt K a w → wpAny P .any ops.toArray Q fuel (upTo ops.length (m + 1)) a w) :
    wpAny P .any ops.toArray Q (fuel + 1) (upTo ops.length m) a w := by
  have hm : m < ops.length := (List.getElem?_eq_some_iff.1 ho).1
  have hc : ∀ j, (upTo ops.length m).getD j false = true → ∀ k, pred k j = true → (upTo ops.length m).getD k false = true := fun j hj k hk => by
    have hj' : j < ops.length := by
      rcases Nat.lt_or_ge j ops.length with h | h
      · exact h
      · simp [Array.getD_eq_getD_getElem?, upTo, h] at hj
    rw [upTo_get _ _ _ hj'] at hj
    have := hlt _ _ hk
    rw [upTo_get _ _ _ (by omega)]
    simp at hj ⊢
    omega
  refine ⟨fun hr => ?_, fun i hi => ?_⟩
  · have := ready_some he hlt (upTo_size _ _) hr m hm
    rw [upTo_get _ _ _ hm] at this
    simp at this
  · obtain ⟨o', ho', hi', h2, h3⟩ := ready_pred he (upTo_size _ _) hc hi
    rw [upTo_get _ _ _ hi'] at h2
    have hmi : m ≤ i := by simpa using h2
    have : i = m := by
      rcases Nat.eq_or_lt_of_le hmi with h | h
      · exact h.symm
      · have := h3 m (hcut i (by omega) hi' m (by omega))
        rw [upTo_get _ _ _ hm] at this
        simp at this
    subst this
    rw [ho] at ho'
    cases ho'
    obtain ⟨ρ, s, hrel, hn, hw⟩ := hg
    refine take_op hok hT ho hrel hn hw fun a' w' hg' => ?_
    rw [upTo_eq (n := ops.length) (l := (upTo ops.length i).setIfInBounds i true) (m := i + 1) (by simp [upTo_size]) fun j hj => by
      rw [set_get (upTo_size _ _) hm, upTo_get _ _ _ hj]
      by_cases hji : j = i
      · subst hji; simp
      · simp [hji]; omega]
    exact next a' w' hg'

/-- Operations in whatever order, up to where all that follow wait for them. -/
theorem seg_sound (hT : TabOk P T) {ops : List Oper} {K : St → Prop} {Q : Exit → Act → World → Prop} (hok : dstsOk nt ops = true) {fuel0 lo hi : Nat} (hhi : hi ≤ ops.length) (hcut : Cut ops.length pred hi)
    (hcont : ∀ a w, Goes M Z w0 nt K a w → wpAny P .any ops.toArray Q fuel0 (upTo ops.length hi) a w)
    {F0 : FS} {f : Nat → Step} {E : Nat → St} (hp : Plan F0 hi f E pred) (he : Edges ops pred)
    (hdo : ∀ i o, lo ≤ i → i < hi → ops[i]? = some o → ∀ (L : Nat → Bool) (s : St), L i = false → (∀ j, L j = true → ∀ k, pred k j = true → L k = true) → (E i).Sub s → s.fs = F0.run ((doneL hi L).map f) →
      ∀ K : St → Prop, (∀ s', s'.fs = s.fs.upd (f i) → K s') → wpG P T ops o s (Frz K))
    (hK : ∀ s, s.fs = F0.run ((List.range hi).map f) → K s) :
    ∀ (fuel : Nat) (listed : Array Bool) (a : Act) (w : World), listed.size = ops.length → ((List.range hi).filter fun j => !listed.getD j false).length = fuel → (∀ j, j < lo → listed.getD j false = true) → (∀ j, hi ≤ j → listed.getD j false = false) →
      (∀ j, listed.getD j false = true → ∀ k, pred k j = true → listed.getD k false = true) →
      Goes M Z w0 nt (fun s => s.fs = F0.run ((doneL hi fun j => listed.getD j false).map f)) a w → wpAny P .any ops.toArray Q (fuel0 + fuel) listed a w := by
  intro fuel
  induction fuel with
  | zero =>
    intro listed a w hs hf hlo hhi' hc ⟨ρ, s, h1, h2, h3⟩
    have hall : ∀ j, j < hi → listed.getD j false = true := fun j hj => by
      have := List.length_eq_zero_iff.1 hf
      rw [List.filter_eq_nil_iff] at this
      simpa using this j (List.mem_range.2 hj)
    rw [upTo_eq (m := hi) hs fun j hj => by
      by_cases h : j < hi
      · simp [h, hall j h]
      · simp [h, hhi' j (by omega)]]
    refine hcont a w ⟨ρ, s, h1, h2, hK s ?_⟩
    rw [h3]
    unfold doneL
    rw [List.filter_eq_self.2 fun j hj => hall j (List.mem_range.1 hj)]
  | succ fuel ih =>
    intro listed a w hs hf hlo hhi' hc hg
    obtain ⟨j0, hj0, hl0⟩ : ∃ j, j < hi ∧ listed.getD j false = false := by
      have : ((List.range hi).filter fun j => !listed.getD j false) ≠ [] := fun h => by rw [h] at hf; simp at hf
      obtain ⟨j, r, hjr⟩ := List.exists_cons_of_ne_nil this
      have : j ∈ (List.range hi).filter fun j => !listed.getD j false := by rw [hjr]; simp
      obtain ⟨h1, h2⟩ := List.mem_filter.1 this
      exact ⟨j, List.mem_range.1 h1, by simpa using h2⟩
    show wpAny P .any ops.toArray Q (fuel0 + fuel + 1) listed a w
    refine ⟨fun hr => ?_, fun i hi' => ?_⟩
    · have := ready_some he hp.lt hs hr j0 (by omega)
      rw [hl0] at this; cases this
    · obtain ⟨o, ho, hin, h2, hr⟩ := ready_pred he hs hc hi'
      have hih : i < hi := by
        rcases Nat.lt_or_ge i hi with h | h
        · exact h
        · have := hr j0 (hcut i h hin j0 hj0); rw [hl0] at this; cases this
      have hil : lo ≤ i := by
        rcases Nat.lt_or_ge i lo with h | h
        · rw [hlo i h] at h2; cases h2
        · exact h
      obtain ⟨ρ, s, hrel, hn, hfs⟩ := hg
      have hset := set_get hs hin
      refine take_op hok hT ho hrel hn (hdo i o hil hih ho (fun j => listed.getD j false) s h2 hc (hp.sub hih h2 hr hc hfs) hfs (fun s' => s'.fs = s.fs.upd (f i)) fun s' h => h) ?_
      intro a' w' hgf
      obtain ⟨ρ', s', g1, g2, g3⟩ := goes_frz hgf
      refine ih _ a' w' (by simpa using hs) ?_ (fun j hj => ?_) (fun j hj => ?_) ?_ ⟨ρ', s', g1, g2, ?_⟩
      · obtain ⟨A, B, e1, e2, _⟩ := doneL_set hih (L := fun j => !(listed.setIfInBounds i true).getD j false) (L' := fun j => !listed.getD j false) (by rw [hset]; simp) (by simp [h2]) fun j hj => by rw [hset, if_neg hj]
        unfold doneL at e1 e2
        rw [e2] at hf
        rw [e1]
        simp only [List.length_append, List.length_cons] at hf ⊢
        omega
      · rw [hset]
        split
        · rfl
        · exact hlo j hj
      · rw [hset, if_neg (by omega)]
        exact hhi' j hj
      · intro j hj k hk
        rw [hset] at hj ⊢
        split
        · rfl
        · split at hj
          · rename_i hji; exact hr k (hji ▸ hk)
          · exact hc j hj k hk
      · show s'.fs = _
        rw [g3, hfs]
        exact hp.next hih (L := fun j => listed.getD j false) h2 (by rw [hset]; simp) (fun j hj => by rw [hset, if_neg hj]) hc

end
end Go.Va

/-
  Regions that draw their order, fifth part: what the walk asks of one; the walk of code.
-/
namespace Go.Va
open Go.RowKit

/-- The numbers 'l' are free. -/
def purges (l : List Nat) (s : St) : St := l.foldl (fun s i => s.purge i) s

/-- A step does this, in whatever state it may meet. -/
def Turns (P : Program) (T : Tab) (ops : List Oper) (F0 : FS) (lo hi : Nat) (f : Nat → Step) (E : Nat → St) (pred : Nat → Nat → Bool) : Prop :=
  ∀ i o, lo ≤ i → i < hi → ops[i]? = some o → ∀ (L : Nat → Bool) (s : St), L i = false → (∀ j, L j = true → ∀ k, pred k j = true → L k = true) → (E i).Sub s → s.fs = F0.run ((doneL hi L).map f) →
    ∀ K : St → Prop, (∀ s', s'.fs = s.fs.upd (f i) → K s') → wpG P T ops o s (Frz K)

/-- A region in whatever order, from one of its operations on. -/
def wpFrom (P : Program) (T : Tab) (ops : List Oper) (pred : Nat → Nat → Bool) : Nat → Nat → St → (St → Prop) → Prop
  | 0, lo, st, K => lo = ops.length ∧ K st
  | k + 1, lo, st, K => (lo = ops.length ∧ K st) ∨
    (∃ o, ops[lo]? = some o ∧ Cut ops.length pred (lo + 1) ∧ wpG P T ops o st (fun s => wpFrom P T ops pred k (lo + 1) s K)) ∨
    (∃ (hi : Nat) (ids ds : List Nat) (f : Nat → Step) (E : Nat → St), lo ≤ hi ∧ hi ≤ ops.length ∧ Cut ops.length pred hi ∧ Plan (purges ds (st.freeze ids)).fs hi f E pred ∧ (∀ i, i < lo → f i = ⟨none, .val (.tup [])⟩) ∧
      Turns P T ops (purges ds (st.freeze ids)).fs lo hi f E pred ∧ ∃ s, s.fs = (purges ds (st.freeze ids)).fs.run ((List.range hi).map f) ∧ wpFrom P T ops pred k hi s K)

/-- A region in whatever order. -/
def wpDraw (P : Program) (T : Tab) (ops : List Oper) (st : St) (K : St → Prop) : Prop :=
  ∃ (pred : Nat → Nat → Bool) (n : Nat), Edges ops pred ∧ (∀ j i, pred j i = true → j < i) ∧ wpFrom P T ops pred n 0 st K

def wpR (P : Program) (T : Tab) (ops : List Oper) (draw : Bool) (st : St) (K : St → Prop) : Prop :=
  if draw then wpDraw P T ops st K else wpOps P T ops ops st K

def wpV (P : Program) (T : Tab) : Code → St → Cont → Prop
  | .skip, st, Q => Q .normal st
  | .region _ ops draw, st, Q => wpR P T ops.toList draw st (normQ Q)
  | .seq a b, st, Q => wpV P T a st (thenQ (wpV P T b) Q)
  | .cond c x y, st, Q => condV (st.evB c) st (wpV P T x) (wpV P T y) Q
  | .block id c, st, Q => wpV P T c st (blockQ id Q)
  | .loop c, st, Q => wpLoop (wpV P T c) st Q
  | .exit id, st, Q => Q (.exit id) st
  | .ret, st, Q => Q .ret st
  | _, _, _ => False


section
variable {P : Program} {T : Tab} {M Z : Addr → Prop} {w0 w : World} {nt : Nat} {a : Act}

theorem Rel.drew {ρ : Rho} {st : St} (h : Rel M Z w0 ρ st a w) : Rel M Z w0 ρ st a { w with drawn := w.drawn + 1 } := h.ext (Ext.drew w)
theorem Rel.sub {ρ : Rho} {st : St} (h : Rel M Z w0 ρ st a w) {s0 : St} (hs : s0.Sub st) : Rel M Z w0 ρ s0 a w where
  fr := h.fr
  heap := ⟨h.heap.owns, fun i b hb => h.heap.rep i b (hs.h i b hb)⟩
  mine := h.mine
  out := h.out
  mz := h.mz
  tmps := fun t v hv => h.tmps t v (hs.t t v hv)
  defers := h.defers
theorem sub_of_fs {s s' : St} (h : s.fs = s'.fs) : s.Sub s' := by
  simp only [St.fs, FS.mk.injEq] at h
  exact ⟨fun k x hx => by rw [← congrFun h.1 k]; exact hx, fun k x hx => by rw [← congrFun h.2 k]; exact hx⟩
theorem Rel.purges : ∀ (l : List Nat) {ρ : Rho} {st : St}, Rel M Z w0 ρ st a w → ∃ ρ', Rel M Z w0 ρ' (purges l st) a w
  | [], _, _, h => ⟨_, h⟩
  | i :: l, _, _, h => Rel.purges l (h.purge i)

theorem upd_idle (F : FS) : F.upd ⟨none, .val (.tup [])⟩ = F := FS.ext' (fun t => by simp [FS.upd]) fun k => by simp [FS.upd, Eff.b]
theorem run_idle (F : FS) : ∀ l : List Step, (∀ s ∈ l, s = ⟨none, .val (.tup [])⟩) → F.run l = F
  | [], _ => rfl
  | s :: l, h => by
    show (F.upd s).run l = F
    rw [h s (by simp), upd_idle]
    exact run_idle F l fun s' hs => h s' (by simp [hs])

theorem from_sound (hT : TabOk P T) {ops : List Oper} {K : St → Prop} {Q : Exit → Act → World → Prop} (hok : dstsOk nt ops = true) (hQ : ∀ a w, Goes M Z w0 nt K a w → Q .normal a w)
    {pred : Nat → Nat → Bool} (he : Edges ops pred) (hlt : ∀ j i, pred j i = true → j < i) : ∀ (n lo : Nat) (a : Act) (w : World), lo ≤ ops.length → Cut ops.length pred lo →
      Goes M Z w0 nt (fun st => wpFrom P T ops pred n lo st K) a w → wpAny P .any ops.toArray Q (ops.length - lo) (upTo ops.length lo) a w := by
  intro n
  induction n with
  | zero =>
    intro lo a w hlo hcut ⟨ρ, st, h1, h2, h3, h4⟩
    subst h3
    rw [Nat.sub_self]
    exact end_sound (hQ a w ⟨ρ, st, h1, h2, h4⟩)
  | succ n ih =>
    intro lo a w hlo hcut ⟨ρ, st, hrel, hn, h⟩
    rcases h with ⟨rfl, h4⟩ | ⟨o, ho, hc, hw⟩ | ⟨hi, ids, ds, f, E, hlh, hhi, hc, hp, hidle, hturn, s1, hs1, hw⟩
    · rw [Nat.sub_self]
      exact end_sound (hQ a w ⟨ρ, st, hrel, hn, h4⟩)
    · have hm : lo < ops.length := (List.getElem?_eq_some_iff.1 ho).1
      rw [show ops.length - lo = ops.length - (lo + 1) + 1 by omega]
      exact one_sound hT hok he hlt ho hc hcut ⟨ρ, st, hrel, hn, hw⟩ fun a' w' hg => ih (lo + 1) a' w' (by omega) hc hg
    · obtain ⟨ρ', hrel'⟩ := Rel.purges ds (hrel.freeze ids)
      have hlen : ((List.range hi).filter fun j => !(upTo ops.length lo).getD j false).length = hi - lo := by
        have hsplit : List.range hi = List.range lo ++ (List.range (hi - lo)).map (lo + ·) := by
          conv => lhs; rw [show hi = lo + (hi - lo) by omega, List.range_add]
        rw [hsplit, List.filter_append, List.filter_eq_nil_iff.2, List.filter_eq_self.2]
        · simp
        · intro j hj
          obtain ⟨k, hk, rfl⟩ := List.mem_map.1 hj
          have := List.mem_range.1 hk
          rw [upTo_get _ _ _ (by omega)]
          simp
        · intro j hj
          have := List.mem_range.1 hj
          rw [upTo_get _ _ _ (by omega)]
          simp [this]
      have hout : ∀ j, ops.length ≤ j → (upTo ops.length lo).getD j false = false := fun j h => by simp [Array.getD_eq_getD_getElem?, upTo, h]
      have := seg_sound hT hok (fuel0 := ops.length - hi) (lo := lo) hhi hc (K := fun s => s.fs = (Va.purges ds (st.freeze ids)).fs.run ((List.range hi).map f))
        (fun a w ⟨ρ, s, g1, g2, g3⟩ => ih hi a w hhi hc ⟨ρ, s1, g1.sub (sub_of_fs (hs1.trans g3.symm)), g2, hw⟩) hp he hturn (fun _ h => h) (hi - lo) (upTo ops.length lo) a w (upTo_size _ _) hlen (fun j hj => by rw [upTo_get _ _ _ (by omega)]; simp [hj]) (fun j hj => ?_) (fun j hj k hk => ?_) ⟨ρ', _, hrel', hn, ?_⟩
      · rwa [show ops.length - lo = ops.length - hi + (hi - lo) by omega]
      · rcases Nat.lt_or_ge j ops.length with h | h
        · rw [upTo_get _ _ _ h]; simp; omega
        · exact hout j h
      · have hj' : j < ops.length := by
          rcases Nat.lt_or_ge j ops.length with h | h
          · exact h
          · rw [hout j h] at hj; cases hj
        rw [upTo_get _ _ _ hj'] at hj
        have := hlt _ _ hk
        rw [upTo_get _ _ _ (by omega)]
        simp at hj ⊢
        omega
      · unfold doneL
        refine (run_idle _ _ fun s hs => ?_).symm
        obtain ⟨j, hj, rfl⟩ := List.mem_map.1 hs
        obtain ⟨h1, h2⟩ := List.mem_filter.1 hj
        have := List.mem_range.1 h1
        rw [upTo_get _ _ _ (by omega)] at h2
        exact hidle j (by simpa using h2)

theorem draw_sound (hT : TabOk P T) {ops : List Oper} {K : St → Prop} {Q : Exit → Act → World → Prop} (hok : dstsOk nt ops = true) (hQ : ∀ a w, Goes M Z w0 nt K a w → Q .normal a w)
    (h : Goes M Z w0 nt (fun st => wpDraw P T ops st K) a w) : wpAny P .any ops.toArray Q ops.length (Array.replicate ops.length false) a w := by
  obtain ⟨ρ, st, hrel, hn, pred, n, he, hlt, hw⟩ := h
  have := from_sound hT hok hQ he hlt n 0 a w (Nat.zero_le _) (fun i _ _ j hj => by omega) ⟨ρ, st, hrel, hn, hw⟩
  rw [Nat.sub_zero] at this
  rwa [show Array.replicate ops.length false = upTo ops.length 0 from upTo_eq (by simp) fun j hj => by simp [Array.getD_eq_getD_getElem?, hj]]

end

end Go.Va
