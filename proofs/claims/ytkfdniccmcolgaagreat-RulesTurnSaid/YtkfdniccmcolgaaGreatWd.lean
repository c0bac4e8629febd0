/-
  Regions that draw their order, seventh part: what the walk of one asks.
-/
import Derived.Test.YtkfdniccmcolgaaGreatWc
set_option linter.all false

namespace Go.Va
open Go.RowKit

section
variable {P : Program} {T : Tab}

def effBack (d : Option Nat) (us : List U) (k : Eff → Prop) (res : R) : Prop := (res.flat = true ∨ noIds us = true) ∧ k (resEff d res)
def effArgs (P : Program) (d : Option Nat) (E : St) (k : Eff → Prop) (g : FuncId) (caps : List D) (us : List U) : Prop :=
  wpo (E.argsW (E.reachU us) us caps) fun as => wpCall P g as (effBack d us k)
def effClo (P : Program) (d : Option Nat) (E : St) (k : Eff → Prop) (g : FuncId) (cs : List C) (us : List U) : Prop := effArgs P d E k g [] (us ++ cs.map .c)
def effCall (P : Program) (d : Option Nat) (args : List Operand) (E : St) (k : Eff → Prop) (u : U) : Prop :=
  match u with
  | .c (.d (.fn g caps)) => wpo (args.mapM E.evU) (effArgs P d E k g caps)
  | .clo g cs => wpo (args.mapM E.evU) (effClo P d E k g cs)
  | _ => False

/-- One operation's effect, as the walk finds it. -/
def wpE (P : Program) (T : Tab) (o : Oper) (E : St) (k : Eff → Prop) : Prop :=
  match o.op with
  | .call { callee := .value f, args, .. } => wpo (E.evU f) (effCall P o.dst args.toList E k)
  | _ => wpo (effOp T o E) k

def gateE (want : Bool) (v : Option V) (k1 : Prop) (k2 : Prop) : Prop :=
  match v with
  | some (.u (.c (.d (.bool b)))) => (b = want → k1) ∧ (b = !want → k2)
  | some (.tup []) => k2
  | _ => False

def wpEG (P : Program) (T : Tab) (ops : List Oper) (o : Oper) (E : St) (k : Eff → Prop) : Prop :=
  match o.guard with
  | none => wpE P T o E k
  | some (j, want) =>
    match (ops[j]?).bind (·.dst) with
    | some d => gateE want (lk d E.t) (wpE P T o E k) (k (.val (.tup [])))
    | none => False

theorem wpE_ok {o : Oper} {E : St} {k : Eff → Prop} (h : wpE P T o E k) : ∃ x, DoesOp P T o E x ∧ k x := by
  unfold wpE at h
  split at h
  · rename_i f args ts ho
    obtain ⟨c, hc, h⟩ := h
    unfold effCall at h
    split at h
    · rename_i g caps
      obtain ⟨us, hus, as, has, res, hcall, hid, hk⟩ := h
      exact ⟨_, does_call ho hc hus has hcall hid, hk⟩
    · rename_i g cs
      obtain ⟨us, hus, as, has, res, hcall, hid, hk⟩ := h
      exact ⟨_, does_clo ho hc hus has hcall hid, hk⟩
    · exact h.elim
  · obtain ⟨x, hx, hk⟩ := h
    exact ⟨x, does_eff hx, hk⟩

/-- A call to which a row of the call's own is given up. -/
def effA (P : Program) (dst : Option Nat) (E : St) (k : Eff → Prop) (g : FuncId) (us : List U) : Prop :=
  ∃ (b n sz m d : Nat) (cs cs' : List D) (us' : List U) (as : List A), us = .c (.sl b 0 n) :: us' ∧ lk b E.h = some (.row sz cs true) ∧ us'.mapM (U.toA [] E.h) = some as ∧ dst = some d ∧ CallsA P g sz n cs as m cs' ∧ k (.app b (.row sz cs' true) (vC (.sl d 0 m)))
def effAC (P : Program) (dst : Option Nat) (args : List Operand) (E : St) (k : Eff → Prop) (u : U) : Prop :=
  match u with
  | .c (.d (.fn g [])) => wpo (args.mapM E.evU) (effA P dst E k g)
  | _ => False
def wpEA (P : Program) (o : Oper) (E : St) (k : Eff → Prop) : Prop :=
  match o.guard, o.op with
  | none, .call { callee := .value f, args, .. } => wpo (E.evU f) (effAC P o.dst args.toList E k)
  | _, _ => False
theorem wpEA_ok {ops : List Oper} {o : Oper} {E : St} {k : Eff → Prop} (h : wpEA P o E k) : ∃ x, DoesG P T ops o E x ∧ k x := by
  unfold wpEA at h
  unfold DoesG
  split at h
  · rename_i f args ts hg ho
    rw [hg]
    obtain ⟨u, hu, h⟩ := h
    unfold effAC at h
    split at h
    · rename_i g
      obtain ⟨us, hus, b, n, sz, m, d, cs, cs', us', as, rfl, hlk, has, hd, hc, hk⟩ := h
      refine ⟨_, fun s hs hfree K hK => ?_, hk⟩
      unfold wpOp
      rw [ho]
      dsimp only
      refine ⟨_, Sub.evU hs f _ hu, ?_⟩
      show callK P o.dst args.toList s (Frz K) (.c (.d (.fn g [])))
      rw [callK_fn]
      refine ⟨_, Mo.mapM (Sub.evU hs) _ _ hus, ?_⟩
      refine .inr (.inr (.inr (.inr (.inr ⟨rfl, b, n, sz, m, d, cs, cs', us', as, rfl, hs.h _ _ hlk, Mo.mapM (toA_mono hs fun _ h => h) us' _ has, hd, hc, Frz.of (hK _ ?_)⟩))))
      have := fs_eff (s := s) hfree
      rw [hd] at this ⊢
      exact this
    · exact h.elim
  · exact h.elim

/-- A slice literal as data. -/
def wpED (T : Tab) (ops : List Oper) (o : Oper) (E : St) (k : Eff → Prop) : Prop :=
  match o.guard with
  | none => wpo (effDat T o E) k
  | some (j, want) =>
    match (ops[j]?).bind (·.dst) with
    | some d => gateE want (lk d E.t) (wpo (effDat T o E) k) (k (.val (.tup [])))
    | none => False
theorem wpED_ok {ops : List Oper} {o : Oper} {E : St} {k : Eff → Prop} (h : wpED T ops o E k) : ∃ x, DoesG P T ops o E x ∧ k x := by
  unfold wpED at h
  unfold DoesG
  split at h
  · rename_i hg
    rw [hg]
    obtain ⟨x, hx, hk⟩ := h
    exact ⟨x, does_dat hx, hk⟩
  · rename_i j want hg
    rw [hg]
    dsimp only
    split at h
    · rename_i d hd
      rw [hd]
      dsimp only
      unfold gateE at h
      split at h
      · rename_i b hb
        by_cases hbw : b = want
        · obtain ⟨x, hx, hk⟩ := h.1 hbw
          exact ⟨x, .inl ⟨b, hb, .inl ⟨hbw, does_dat hx⟩⟩, hk⟩
        · have : b = !want := by cases b <;> cases want <;> simp_all
          exact ⟨_, .inl ⟨b, hb, .inr ⟨this, rfl⟩⟩, h.2 this⟩
      · rename_i hb
        exact ⟨_, .inr ⟨hb, rfl⟩, h⟩
      · exact h.elim
    · exact h.elim

theorem wpEG_ok {ops : List Oper} {o : Oper} {E : St} {k : Eff → Prop} (h : wpEG P T ops o E k) : ∃ x, DoesG P T ops o E x ∧ k x := by
  unfold wpEG at h
  unfold DoesG
  split at h
  · rename_i hg; rw [hg]; exact wpE_ok h
  · rename_i j want hg
    rw [hg]
    dsimp only
    split at h
    · rename_i d hd
      rw [hd]
      dsimp only
      unfold gateE at h
      split at h
      · rename_i b hb
        by_cases hbw : b = want
        · obtain ⟨x, hx, hk⟩ := wpE_ok (h.1 hbw)
          exact ⟨x, .inl ⟨b, hb, .inl ⟨hbw, hx⟩⟩, hk⟩
        · have : b = !want := by cases b <;> cases want <;> simp_all
          exact ⟨_, .inl ⟨b, hb, .inr ⟨this, rfl⟩⟩, h.2 this⟩
      · rename_i hb
        exact ⟨_, .inr ⟨hb, rfl⟩, h⟩
      · exact h.elim
    · exact h.elim
end

/-! ### the region -/

def predB (pl : List (List Nat)) (j i : Nat) : Bool := (pl.getD i []).contains j

/-- The list of who comes before is right. -/
def edgesB (ops : List Oper) (pl : List (List Nat)) : Bool :=
  ops.zipIdx.all fun (o, i) => (pl.getD i []).all (fun j => decide (j < i) && (o.after.toList.any fun e => Region.binds .any e && (e.on == j || predB pl j e.on))) && (o.after.toList.all fun e => !Region.binds .any e || predB pl e.on i)

theorem edgesB_ok {ops : List Oper} {pl : List (List Nat)} (h : edgesB ops pl = true) : Edges ops (predB pl) := by
  have hi : ∀ i o, ops[i]? = some o → (o, i) ∈ ops.zipIdx := fun i o ho => by
    rw [List.mem_zipIdx_iff_getElem?]; exact ho
  refine ⟨fun i o ho e he hb => ?_, fun i o ho j hj => ?_⟩
  · have := List.all_eq_true.1 h _ (hi i o ho)
    rw [Bool.and_eq_true] at this
    have := List.all_eq_true.1 this.2 e (by simpa using he)
    simpa [hb] using this
  · have := List.all_eq_true.1 h _ (hi i o ho)
    rw [Bool.and_eq_true] at this
    have := List.all_eq_true.1 this.1 j (by unfold predB at hj; simpa using hj)
    rw [Bool.and_eq_true] at this
    obtain ⟨e, he, h2⟩ := List.any_eq_true.1 this.2
    rw [Bool.and_eq_true, Bool.or_eq_true] at h2
    exact ⟨e, by simpa using he, h2.1, by simpa using h2.2⟩

/-! ### free numbers -/

theorem men_on (d d' : Nat) (c : C) (h : d' = d ∨ c.men d' = false) : (c.on (purgeG d)).men d' = false := by
  unfold C.on purgeG
  split
  · rename_i i o n
    by_cases hi : i = d
    · rw [if_pos hi]; rfl
    · rw [if_neg hi]
      rcases h with rfl | h
      · simp [C.men, C.id?, hi]
      · exact h
  · rename_i i o
    by_cases hi : i = d
    · rw [if_pos hi]; rfl
    · rw [if_neg hi]
      rcases h with rfl | h
      · simp [C.men, C.id?, hi]
      · exact h
  · rename_i h1 h2
    unfold C.men
    have : c.id? = none := by
      cases c <;> first | rfl | exact (h1 _ _ _ rfl).elim | exact (h2 _ _ rfl).elim
    rw [this]; rfl
theorem men_on_list (d d' : Nat) (cs : List C) (h : d' = d ∨ cs.any (C.men d') = false) : (cs.map (C.on (purgeG d))).any (C.men d') = false := by
  rw [List.any_eq_false]
  intro c hc
  obtain ⟨c', hc', rfl⟩ := List.mem_map.1 hc
  have := men_on d d' c' (h.imp id fun h => by have := List.any_eq_false.1 h c' hc'; simpa using this)
  simp [this]
theorem men_on_U (d d' : Nat) (u : U) (h : d' = d ∨ u.men d' = false) : (u.on (purgeG d)).men d' = false := by
  cases u with
  | c x => exact men_on d d' x h
  | agg cs => exact men_on_list d d' cs h
  | clo f cs => exact men_on_list d d' cs h
theorem men_on_V (d d' : Nat) (v : V) (h : d' = d ∨ v.men d' = false) : (v.on (purgeG d)).men d' = false := by
  cases v with
  | u x => exact men_on_U d d' x h
  | tup us =>
    show (us.map (U.on (purgeG d))).any (U.men d') = false
    rw [List.any_eq_false]
    intro c hc
    obtain ⟨c', hc', rfl⟩ := List.mem_map.1 hc
    have := men_on_U d d' c' (h.imp id fun h => by have := List.any_eq_false.1 h c' hc'; simpa using this)
    simp [this]
  | tr x ys => rfl
theorem men_on_B (d d' : Nat) (b : Blk) (h : d' = d ∨ b.men d' = false) : (b.on (purgeG d)).men d' = false := by
  cases b with
  | row sz cs app => rfl
  | box cs => exact men_on_list d d' cs h
  | fbox f cs => exact men_on_list d d' cs h

theorem clean_purge {s : St} {d d' : Nat} (h : d' = d ∨ s.fs.Clean d') : (s.purge d).fs.Clean d' := by
  refine ⟨fun t v hv => ?_, fun k b hb => ?_⟩
  · change lk t (s.on (purgeG d)).t = some v at hv
    simp only [St.on, lk_map] at hv
    obtain ⟨v', hv', rfl⟩ := Option.map_eq_some_iff.1 hv
    exact men_on_V d d' v' (h.imp id fun h => h.t t v' hv')
  · change lk k (rm d (s.on (purgeG d)).h) = some b at hb
    simp only [St.on, lk_rm_if, lk_map] at hb
    split at hb
    · cases hb
    · rename_i hk
      obtain ⟨b', hb', rfl⟩ := Option.map_eq_some_iff.1 hb
      refine ⟨?_, men_on_B d d' b' (h.imp id fun h => (h.h k b' hb').2)⟩
      rcases h with rfl | h
      · exact hk
      · exact (h.h k b' hb').1
theorem clean_purges (d : Nat) : ∀ (l : List Nat) (s : St), d ∈ l ∨ s.fs.Clean d → (purges l s).fs.Clean d
  | [], s, h => h.resolve_left (by simp)
  | i :: l, s, h => clean_purges d l (s.purge i) (by
      rcases h with h | h
      · rcases List.mem_cons.1 h with rfl | h
        · exact .inr (clean_purge (.inl rfl))
        · exact .inl h
      · exact .inr (clean_purge (.inr h)))

/-- A step does not name 'd'. -/
structure Step.Clean (s : Step) (d : Nat) : Prop where
  v : s.x.v.men d = false
  b : ∀ k b, s.x.b s.d k = some (some b) → k ≠ d ∧ b.men d = false
theorem clean_upd {F : FS} {d : Nat} (h : F.Clean d) {s : Step} (hs : s.Clean d) : (F.upd s).Clean d := by
  refine ⟨fun t v hv => ?_, fun k b hb => ?_⟩
  · simp only [FS.upd] at hv
    split at hv
    · cases hv; exact hs.v
    · exact h.t t v hv
  · simp only [FS.upd] at hb
    cases hx : s.x.b s.d k with
    | none => rw [hx] at hb; exact h.h k b hb
    | some r =>
      rw [hx] at hb
      simp only [Option.getD_some] at hb
      subst hb
      exact hs.b k b hx
theorem clean_run {d : Nat} : ∀ (l : List Step) (F : FS), F.Clean d → (∀ s ∈ l, s.Clean d) → (F.run l).Clean d
  | [], _, h, _ => h
  | s :: l, F, h, hl => clean_run l (F.upd s) (clean_upd h (hl s (by simp))) fun s' h' => hl s' (by simp [h'])

/-! ### the walk, one operation after another -/

/-- What the walk is told of an operation: what it makes (0: a value; 1: a block, too; 2: it writes the blocks 'ks'; 3: it takes on the row 'ks'), the slots that it reads, the blocks that it may not read, the numbers that it does not name. -/
structure DI where
  k : Nat
  rd : List Nat
  nh : List Nat
  bad : List Nat
  ks : List Nat
  deriving Inhabited

/-- What an operation is shown in. -/
def hideB (nh : List Nat) (h : List (Nat × Blk)) : List (Nat × Blk) :=
  match nh with
  | [] => h
  | a :: r => h.filter fun e => !(a :: r).contains e.1
def seen (i : DI) (S : St) : St := ⟨S.t.filter fun e => i.rd.contains e.1, hideB i.nh S.h⟩

def noMenV (l : List Nat) (v : V) : Bool := l.all fun d => !v.men d
def noMenB (l : List Nat) (b : Blk) : Bool := l.all fun d => !b.men d
def okStep (i : DI) (d : Nat) (x : Eff) : Bool :=
  match x with
  | .val v => noMenV i.bad v
  | .dat _ => i.k == 4
  | .new b v => (i.k == 1 || i.k == 3) && (noMenV i.bad v && noMenB (d :: i.bad) b)
  | .put k b => i.k == 2 && (i.ks.contains k && noMenB i.bad b)
  | .app k b v => (i.k == 3 || i.k == 5) && (i.ks.contains k && (noMenV i.bad v && noMenB (d :: i.bad) b))

def stp (d : Option Nat) (x : Eff) (S : St) : St :=
  match x with
  | .val v => S.put d v
  | .new b v => (S.blk (d.getD 0) b).put d v
  | .put k b => (S.blk k b).put d (.tup [])
  | .app k b v => ((S.drop k).blk (d.getD 0) b).put d v
  | .dat x => S.put d (vC (.d x))

theorem fs_stp (d : Option Nat) (x : Eff) (S : St) : (stp d x S).fs = S.fs.upd ⟨d, x⟩ := by
  cases x with
  | val v => exact fs_put S d v
  | dat x => exact fs_put S d _
  | new b v =>
    show ((S.blk (d.getD 0) b).put d v).fs = _
    rw [fs_put, FS.upd, fs_blk]
    refine FS.ext' (fun t => rfl) fun k => ?_
    simp only [FS.upd, Eff.b, Option.getD_none]
    split <;> rfl
  | put i b =>
    show ((S.blk i b).put d (.tup [])).fs = _
    rw [fs_put, FS.upd, fs_blk]
    refine FS.ext' (fun t => rfl) fun k => ?_
    simp only [FS.upd, Eff.b, Option.getD_none]
    split <;> rfl
  | app i b v =>
    show (((S.drop i).blk (d.getD 0) b).put d v).fs = _
    rw [fs_put, FS.upd, fs_blk, fs_drop]
    refine FS.ext' (fun t => rfl) fun k => ?_
    simp only [FS.upd, Eff.b, Option.getD_none]
    by_cases e : d.getD 0 = k
    · rw [if_pos e, if_pos e]; rfl
    · rw [if_neg e, if_neg e]
      by_cases e2 : k = i
      · rw [if_pos e2, if_pos e2.symm]; rfl
      · rw [if_neg e2, if_neg (fun h => e2 h.symm)]; rfl

def stepsK (i : DI) (d : Option Nat) (S : St) (k : St → Prop) (x : Eff) : Prop := okStep i (d.getD 0) x = true ∧ k (stp d x S)
def wpSteps (P : Program) (T : Tab) (ops : List Oper) : List DI → List Oper → St → (List Oper → St → Prop) → Prop
  | [], rest, S, fin => fin rest S
  | i :: is, o :: r, S, fin => if i.k = 4 then wpED T ops o (seen i S) (stepsK i o.dst S fun S' => wpSteps P T ops is r S' fin) else if i.k = 5 then wpEA P o (seen i S) (stepsK i o.dst S fun S' => wpSteps P T ops is r S' fin) else wpEG P T ops o (seen i S) (stepsK i o.dst S fun S' => wpSteps P T ops is r S' fin)
  | _ :: _, [], _, _ => False

inductive Seg where
  | one
  | any (ids ds : List Nat) (is : List DI)

def segK (K : List Oper → St → Prop) (rest : List Oper) (s : St) : Prop := K rest s
def wpSegs (P : Program) (T : Tab) (ops : List Oper) : List Seg → List Oper → (St → Prop) → St → Prop
  | [], _, K, st => K st
  | .one :: r, o :: rest, K, st => wpG P T ops o st (wpSegs P T ops r rest K)
  | .one :: _, [], _, _ => False
  | .any ids ds is :: r, rest, K, st => wpSteps P T ops is rest (purges ds (st.freeze ids)) fun rest' s => wpSegs P T ops r rest' K s

/-! ### what is checked ahead of the walk -/

def incB (pl : List (List Nat)) (i j : Nat) : Bool := i != j && !predB pl j i && !predB pl i j
def hitL (d : Option Nat) (i : DI) : List Nat :=
  match i.k with
  | 1 => [d.getD 0]
  | 2 => i.ks
  | 3 => d.getD 0 :: i.ks
  | 5 => d.getD 0 :: i.ks
  | _ => []
def newL (d : Option Nat) (i : DI) : List Nat := if i.k = 1 ∨ i.k = 3 ∨ i.k = 4 ∨ i.k = 5 then [d.getD 0] else []
def disjB (a b : List Nat) : Bool := a.all fun x => !b.contains x
/-- One operation beside another. -/
def besideB (pl : List (List Nat)) (gi : Nat) (oi : Option Nat) (i : DI) (gj : Nat) (oj : Option Nat) (j : DI) : Bool :=
  (!incB pl gi gj || ((match oj with | some t => !i.rd.contains t && oi != some t | none => true) && ((hitL oj j).all (i.nh.contains ·) && disjB (hitL oj j) (hitL oi i)))) &&
  (gi == gj || (predB pl gj gi || (newL oj j).all fun d => i.bad.contains d && !(hitL oi i).contains d))
def dst' (ops : List Oper) (i : Nat) : Option Nat := (ops[i]?).bind (·.dst)
def infosB (ops : List Oper) (pl : List (List Nat)) (ds : List Nat) (lo : Nat) (is : List DI) : Bool :=
  is.zipIdx.all fun (i, p) => ((newL (dst' ops (lo + p)) i).all fun d => ds.contains d && !(i.ks.contains d)) &&
    is.zipIdx.all fun (j, q) => besideB pl (lo + p) (dst' ops (lo + p)) i (lo + q) (dst' ops (lo + q)) j
def cutB (ops : List Oper) (pl : List (List Nat)) (m : Nat) : Bool := (List.range ops.length).all fun i => decide (i < m) || (List.range m).all fun j => predB pl j i
def segsB (ops : List Oper) (pl : List (List Nat)) : Nat → List Seg → Bool
  | lo, [] => lo == ops.length
  | lo, .one :: r => cutB ops pl (lo + 1) && segsB ops pl (lo + 1) r
  | lo, .any _ ds is :: r => decide (lo + is.length ≤ ops.length) && (cutB ops pl (lo + is.length) && (infosB ops pl ds lo is && segsB ops pl (lo + is.length) r))
def ltB (pl : List (List Nat)) : Bool := pl.zipIdx.all fun (l, i) => l.all fun j => decide (j < i)
/-- All that is checked of a region's plan. -/
def planB (ops : List Oper) (pl : List (List Nat)) (segs : List Seg) : Bool := edgesB ops pl && (ltB pl && segsB ops pl 0 segs)

theorem ltB_ok {pl : List (List Nat)} (h : ltB pl = true) (j i : Nat) (hp : predB pl j i = true) : j < i := by
  unfold predB at hp
  cases hl : pl[i]? with
  | none => rw [List.getD_eq_getElem?_getD, hl] at hp; simp at hp
  | some l =>
    rw [List.getD_eq_getElem?_getD, hl, Option.getD_some] at hp
    have := List.all_eq_true.1 h (l, i) (by rw [List.mem_zipIdx_iff_getElem?]; exact hl)
    have := List.all_eq_true.1 this j (by simpa using hp)
    simpa using this
theorem cutB_ok {ops : List Oper} {pl : List (List Nat)} {m : Nat} (h : cutB ops pl m = true) : Cut ops.length (predB pl) m := fun i hi hn j hj => by
  have := List.all_eq_true.1 h i (List.mem_range.2 hn)
  rw [Bool.or_eq_true] at this
  rcases this with h1 | h1
  · simp at h1; omega
  · exact List.all_eq_true.1 h1 j (List.mem_range.2 hj)
theorem lk_filter {α : Type} (p : Nat → Bool) (k : Nat) : ∀ (l : List (Nat × α)) (v : α), lk k (l.filter fun e => p e.1) = some v → lk k l = some v ∧ p k = true
  | [], v, h => by cases h
  | (j, u) :: l, v, h => by
    rw [List.filter_cons] at h
    by_cases hp : p j = true
    · rw [if_pos hp, lk_cons_if] at h
      rw [lk_cons_if]
      by_cases hj : j = k
      · rw [if_pos hj] at h ⊢; exact ⟨h, hj ▸ hp⟩
      · rw [if_neg hj] at h ⊢; exact lk_filter p k l v h
    · rw [if_neg hp] at h
      obtain ⟨h1, h2⟩ := lk_filter p k l v h
      rw [lk_cons_if, if_neg (fun hj : j = k => hp (by rw [hj]; exact h2))]
      exact ⟨h1, h2⟩
theorem lk_hide {nh : List Nat} {k : Nat} {h : List (Nat × Blk)} {b : Blk} (hb : lk k (hideB nh h) = some b) : lk k h = some b ∧ nh.contains k = false := by
  cases nh with
  | nil => exact ⟨hb, rfl⟩
  | cons a r =>
    obtain ⟨h1, h2⟩ := lk_filter (fun k => !(a :: r).contains k) k h b hb
    exact ⟨h1, by simpa using h2⟩

/-- A step that the walk has let by. -/
theorem okStep_hits {i : DI} {s : Step} (h : okStep i (s.d.getD 0) s.x = true) {k : Nat} (hk : s.hits k) : k ∈ hitL s.d i := by
  obtain ⟨d, x⟩ := s
  unfold Step.hits at hk
  unfold okStep at h
  cases x with
  | val v => simp [Eff.b] at hk
  | dat v => simp [Eff.b] at hk
  | new b v =>
    simp only [Bool.and_eq_true, Bool.or_eq_true, beq_iff_eq] at h
    simp only [Eff.b] at hk
    split at hk
    · rename_i e
      rcases h.1 with h1 | h1 <;> simp [hitL, h1, e]
    · cases hk
  | put m b =>
    simp only [Bool.and_eq_true, beq_iff_eq] at h
    simp only [Eff.b] at hk
    split at hk
    · rename_i e
      subst e
      simpa [hitL, h.1] using h.2.1
    · cases hk
  | app m b v =>
    simp only [Bool.and_eq_true, Bool.or_eq_true, beq_iff_eq] at h
    simp only [Eff.b] at hk
    split at hk
    · rename_i e
      rcases h.1 with h1 | h1 <;> simp [hitL, h1, e]
    · split at hk
      · rename_i e
        subst e
        have := h.2.1
        rcases h.1 with h1 | h1
        · simp only [hitL, h1, List.mem_cons]
          exact .inr (by simpa using this)
        · simp only [hitL, h1, List.mem_cons]
          exact .inr (by simpa using this)
      · cases hk

theorem noMenV_ok {l : List Nat} {v : V} (h : noMenV l v = true) {d : Nat} (hd : d ∈ l) : v.men d = false := by
  simpa using List.all_eq_true.1 h d hd
theorem noMenB_ok {l : List Nat} {b : Blk} (h : noMenB l b = true) {d : Nat} (hd : d ∈ l) : b.men d = false := by
  simpa using List.all_eq_true.1 h d hd

theorem okStep_clean {i : DI} {s : Step} (h : okStep i (s.d.getD 0) s.x = true) {d : Nat} (hd : d ∈ i.bad) (hh : d ∉ hitL s.d i) : s.Clean d := by
  have hits := fun k hk => okStep_hits (k := k) h hk
  obtain ⟨e, x⟩ := s
  have hne : ∀ k b, x.b e k = some (some b) → k ≠ d := fun k b hb he => hh (he ▸ hits k (by unfold Step.hits; simp only; rw [hb]; rfl))
  unfold okStep at h
  cases x with
  | val v => exact ⟨noMenV_ok h hd, fun k b hb => by simp [Eff.b] at hb⟩
  | dat v => exact ⟨rfl, fun k b hb => by simp [Eff.b] at hb⟩
  | new b v =>
    simp only [Bool.and_eq_true] at h
    refine ⟨noMenV_ok h.2.1 hd, fun k b' hb => ⟨hne k b' hb, ?_⟩⟩
    simp only [Eff.b] at hb
    split at hb <;> cases hb
    exact noMenB_ok h.2.2 (by simp [hd])
  | put m b =>
    simp only [Bool.and_eq_true] at h
    refine ⟨rfl, fun k b' hb => ⟨hne k b' hb, ?_⟩⟩
    simp only [Eff.b] at hb
    split at hb <;> cases hb
    exact noMenB_ok h.2.2 hd
  | app m b v =>
    simp only [Bool.and_eq_true] at h
    refine ⟨noMenV_ok h.2.2.1 hd, fun k b' hb => ⟨hne k b' hb, ?_⟩⟩
    simp only [Eff.b] at hb
    split at hb
    · cases hb; exact noMenB_ok h.2.2.2 (by simp [hd])
    · split at hb <;> cases hb

end Go.Va

/-
  Regions that draw their order, last part: the walk's way in.
-/
namespace Go.Va
open Go.RowKit

section
variable {P : Program} {T : Tab} {ops : List Oper} {pl : List (List Nat)} {ds : List Nat}

/-- What the walk of a segment has found. -/
theorem wpSteps_ok {fin : List Oper → St → Prop} : ∀ (is : List DI) (rest : List Oper) (S : St), wpSteps P T ops is rest S fin →
    ∃ (xs : List Step) (S' : St), xs.length = is.length ∧ is.length ≤ rest.length ∧ fin (rest.drop is.length) S' ∧ S'.fs = S.fs.run xs ∧
      ∀ p i, is[p]? = some i → ∃ o x, rest[p]? = some o ∧ xs[p]? = some ⟨o.dst, x⟩ ∧ okStep i (o.dst.getD 0) x = true ∧ ∃ Sm : St, Sm.fs = S.fs.run (xs.take p) ∧ DoesG P T ops o (seen i Sm) x
  | [], rest, S, h => ⟨[], S, rfl, Nat.zero_le _, h, rfl, fun p i hp => by simp at hp⟩
  | i :: is, [], S, h => h.elim
  | i :: is, o :: r, S, h => by
    obtain ⟨x, hx, hok, h⟩ : ∃ x, DoesG P T ops o (seen i S) x ∧ stepsK i o.dst S (fun S' => wpSteps P T ops is r S' fin) x := by
      unfold wpSteps at h
      split at h
      · exact wpED_ok h
      · split at h
        · exact wpEA_ok h
        · exact wpEG_ok h
    obtain ⟨xs, S', h1, h2, h3, h4, h5⟩ := wpSteps_ok is r _ h
    rw [fs_stp] at h4 h5
    refine ⟨⟨o.dst, x⟩ :: xs, S', by simp [h1], by simpa using h2, by simpa using h3, h4, fun p j hp => ?_⟩
    cases p with
    | zero =>
      simp only [List.getElem?_cons_zero, Option.some.injEq] at hp
      subst hp
      exact ⟨o, x, rfl, rfl, hok, S, rfl, hx⟩
    | succ p =>
      obtain ⟨o', x', g1, g2, g3, Sm, g4, g5⟩ := h5 p j (by simpa using hp)
      exact ⟨o', x', by simpa using g1, by simpa using g2, g3, Sm, by rw [g4]; rfl, g5⟩

theorem purges_clean (ds : List Nat) (st : St) {d : Nat} (h : d ∈ ds) : (purges ds st).fs.Clean d := clean_purges d ds st (.inl h)

theorem any_ok (hlt : ∀ j i, predB pl j i = true → j < i) {lo : Nat} {is : List DI} {st : St} {ids : List Nat} {K : St → Prop} (hfit : lo + is.length ≤ ops.length) (hcut : cutB ops pl (lo + is.length) = true)
    (hi : infosB ops pl ds lo is = true) {n : Nat} (h : wpSteps P T ops is (ops.drop lo) (purges ds (st.freeze ids)) fun rest s => rest = ops.drop (lo + is.length) → wpFrom P T ops (predB pl) n (lo + is.length) s K) :
    wpFrom P T ops (predB pl) (n + 1) lo st K := by
  obtain ⟨xs, S', hlen, _, hK, hS', hd⟩ := wpSteps_ok is (ops.drop lo) _ h
  rw [List.drop_drop] at hK
  have hK := hK rfl
  generalize hF0 : (purges ds (st.freeze ids)).fs = F0 at hS' hd
  have hclean : ∀ d, d ∈ ds → F0.Clean d := fun d h => hF0 ▸ purges_clean ds _ h
  let f : Nat → Step := fun i => if i < lo then ⟨none, .val (.tup [])⟩ else xs.getD (i - lo) default
  have flo : ∀ i, i < lo → f i = ⟨none, .val (.tup [])⟩ := fun i h => if_pos h
  have fget : ∀ p, p < is.length → ∃ o x, ops[lo + p]? = some o ∧ f (lo + p) = ⟨o.dst, x⟩ ∧ okStep is[p]! (o.dst.getD 0) x = true ∧ ∃ Sm : St, Sm.fs = F0.run (xs.take p) ∧ DoesG P T ops o (seen is[p]! Sm) x := fun p hp => by
    have hip : is[p]? = some is[p]! := by rw [List.getElem?_eq_getElem hp, List.getElem!_of_getElem? (List.getElem?_eq_getElem hp)]
    obtain ⟨o, x, g1, g2, g3, g4⟩ := hd p _ hip
    refine ⟨o, x, by simpa [List.getElem?_drop] using g1, ?_, g3, g4⟩
    show (if lo + p < lo then _ else xs.getD (lo + p - lo) default) = _
    rw [if_neg (by omega), Nat.add_sub_cancel_left, List.getD_eq_getElem?_getD, g2]
    rfl
  have frun : ∀ p, p ≤ is.length → F0.run ((List.range (lo + p)).map f) = F0.run (xs.take p) := fun p hp => by
    rw [List.range_add, List.map_append, FS.run_append, run_idle F0 ((List.range lo).map f)]
    · congr 1
      apply List.ext_getElem?
      intro q
      simp only [List.map_map, List.getElem?_map, List.getElem?_take]
      by_cases hq : q < p
      · rw [if_pos hq, List.getElem?_range hq]
        simp only [Option.map_some, Function.comp_apply, f]
        rw [if_neg (by omega), Nat.add_sub_cancel_left, List.getD_eq_getElem?_getD, List.getElem?_eq_getElem (by omega)]
        rfl
      · rw [if_neg hq, List.getElem?_eq_none (by simpa using hq)]
        rfl
    · intro s hs
      obtain ⟨j, hj, rfl⟩ := List.mem_map.1 hs
      exact flo j (List.mem_range.1 hj)
  let Em : Nat → St := fun i => if h : lo ≤ i ∧ i < lo + is.length then seen is[i - lo]! (Classical.choose (fget (i - lo) (by omega)).choose_spec.choose_spec.2.2.2) else ⟨[], []⟩
  have hE : ∀ p, (hp : p < is.length) → ∃ o x, ops[lo + p]? = some o ∧ f (lo + p) = ⟨o.dst, x⟩ ∧ okStep is[p]! (o.dst.getD 0) x = true ∧ ∃ Sm : St, Sm.fs = F0.run (xs.take p) ∧ Em (lo + p) = seen is[p]! Sm ∧ DoesG P T ops o (seen is[p]! Sm) x := fun p hp => by
    have hsp := (fget p hp).choose_spec.choose_spec
    refine ⟨_, _, hsp.1, hsp.2.1, hsp.2.2.1, Classical.choose hsp.2.2.2, (Classical.choose_spec hsp.2.2.2).1, ?_, (Classical.choose_spec hsp.2.2.2).2⟩
    have e : lo + p - lo = p := Nat.add_sub_cancel_left ..
    simp only [Em]
    rw [dif_pos ⟨Nat.le_add_right .., by omega⟩]
    congr 1 <;> simp only [e]
  have hE0 : ∀ i, i < lo → Em i = ⟨[], []⟩ := fun i h => by simp only [Em]; rw [dif_neg (by omega)]
  -- what was checked
  have hdst : ∀ p, p < is.length → (f (lo + p)).d = dst' ops (lo + p) := fun p hp => by
    obtain ⟨o, x, g1, g2, _⟩ := fget p hp
    rw [g2]
    unfold dst'
    rw [g1]
    rfl
  have hip : ∀ p, p < is.length → (is[p]!, p) ∈ is.zipIdx := fun p hp => by
    rw [List.mem_zipIdx_iff_getElem?, List.getElem?_eq_getElem hp, List.getElem!_of_getElem? (List.getElem?_eq_getElem hp)]
  have hnew : ∀ p, p < is.length → ∀ d ∈ newL (dst' ops (lo + p)) is[p]!, d ∈ ds ∧ d ∉ is[p]!.ks := fun p hp d hd => by
    have := List.all_eq_true.1 hi _ (hip p hp)
    rw [Bool.and_eq_true] at this
    have := List.all_eq_true.1 this.1 d hd
    simpa using this
  have hbeside : ∀ p q, p < is.length → q < is.length → besideB pl (lo + p) (dst' ops (lo + p)) is[p]! (lo + q) (dst' ops (lo + q)) is[q]! = true := fun p q hp hq => by
    have := List.all_eq_true.1 hi _ (hip p hp)
    rw [Bool.and_eq_true] at this
    exact List.all_eq_true.1 this.2 _ (hip q hq)
  have hinc : ∀ p q, p < is.length → q < is.length → p ≠ q → predB pl (lo + p) (lo + q) = false → predB pl (lo + q) (lo + p) = false →
      (∀ t, (f (lo + q)).d = some t → t ∉ is[p]!.rd ∧ (f (lo + p)).d ≠ some t) ∧ ∀ k, k ∈ hitL (dst' ops (lo + q)) is[q]! → k ∈ is[p]!.nh ∧ k ∉ hitL (dst' ops (lo + p)) is[p]! := fun p q hp hq hne h1 h2 => by
    have := hbeside p q hp hq
    unfold besideB at this
    have hb : incB pl (lo + p) (lo + q) = true := by unfold incB; simp [hne, h1, h2]
    rw [hb, Bool.and_eq_true] at this
    have := this.1
    simp only [Bool.not_true, Bool.false_or, Bool.and_eq_true] at this
    refine ⟨fun t ht => ?_, fun k hk => ⟨?_, ?_⟩⟩
    · rw [hdst q hq] at ht
      rw [hdst p hp]
      rw [ht] at this
      have := this.1
      simp only [Bool.and_eq_true, Bool.not_eq_true', bne_iff_ne, ne_eq] at this
      exact ⟨by simpa using this.1, this.2⟩
    · have := List.all_eq_true.1 this.2.1 k hk
      simpa using this
    · have := List.all_eq_true.1 this.2.2 k hk
      simpa using this
  have hhit : ∀ p, p < is.length → ∀ k, (f (lo + p)).hits k → k ∈ hitL (dst' ops (lo + p)) is[p]! := fun p hp k hk => by
    obtain ⟨o, x, g1, g2, g3, _⟩ := fget p hp
    rw [← hdst p hp]
    exact okStep_hits (s := f (lo + p)) (by rw [g2]; exact g3) hk
  have hcl : ∀ p q, p < is.length → q < is.length → p ≠ q → predB pl (lo + q) (lo + p) = false → ∀ d ∈ newL (dst' ops (lo + q)) is[q]!, (f (lo + p)).Clean d := fun p q hp hq hne h1 d hd => by
    have := hbeside p q hp hq
    unfold besideB at this
    rw [Bool.and_eq_true] at this
    have := this.2
    rw [show (lo + p == lo + q) = false by simpa using hne, h1] at this
    simp only [Bool.false_or] at this
    have := List.all_eq_true.1 this d hd
    rw [Bool.and_eq_true] at this
    obtain ⟨o, x, g1, g2, g3, _⟩ := fget p hp
    refine okStep_clean (s := f (lo + p)) (i := is[p]!) (by rw [g2]; exact g3) (by simpa using this.1) ?_
    rw [hdst p hp]
    simpa using this.2
  have split : ∀ i, i < lo + is.length → i < lo ∨ ∃ p, p < is.length ∧ i = lo + p := fun i h => by
    rcases Nat.lt_or_ge i lo with h1 | h1
    · exact .inl h1
    · exact .inr ⟨i - lo, by omega, by omega⟩
  have idle : ∀ k, ¬ (⟨none, .val (.tup [])⟩ : Step).hits k := fun k h => by simp [Step.hits, Eff.b] at h
  right; right
  refine ⟨lo + is.length, ids, ds, f, Em, Nat.le_add_right .., hfit, cutB_ok hcut, ?_, flo, ?_, S', ?_, hK⟩
  · rw [hF0]
    refine ⟨hlt, fun i j hij hj hp => ?_, fun i hi t v hv => ?_, fun i hi k b hb => ?_⟩
    · rcases split j hj with h1 | ⟨q, hq, rfl⟩
      · rw [flo j h1]
        exact ⟨fun t ht => (by cases ht), fun k hk => absurd hk (idle k)⟩
      · rcases split i (by omega) with h1 | ⟨p, hp', rfl⟩
        · rw [flo i h1]
          exact ⟨fun t _ h => (by cases h), fun k _ hk => absurd hk (idle k)⟩
        · have hne : p ≠ q := by omega
          have h2 : predB pl (lo + q) (lo + p) = false := by
            cases h : predB pl (lo + q) (lo + p) with
            | false => rfl
            | true => have := hlt _ _ h; omega
          obtain ⟨a1, a2⟩ := hinc p q hp' hq hne hp h2
          exact ⟨fun t ht => (a1 t ht).2, fun k hk hk' => (a2 k (hhit q hq k hk)).2 (hhit p hp' k hk')⟩
    · rcases split i hi with h1 | ⟨p, hp, rfl⟩
      · rw [hE0 i h1] at hv; cases hv
      · obtain ⟨o, x, g1, g2, g3, Sm, g4, g5, _⟩ := hE p hp
        rw [g5] at hv
        obtain ⟨e1, e2⟩ := lk_filter (fun t => is[p]!.rd.contains t) t Sm.t v hv
        refine ⟨?_, fun j hj hne hp1 hp2 hs => ?_⟩
        · rw [frun p (by omega), ← g4]; exact e1
        · rcases split j hj with h1 | ⟨q, hq, rfl⟩
          · rw [flo j h1] at hs; cases hs
          · exact ((hinc p q hp hq (by omega) hp2 hp1).1 t hs).1 (by simpa using e2)
    · rcases split i hi with h1 | ⟨p, hp, rfl⟩
      · rw [hE0 i h1] at hb; cases hb
      · obtain ⟨o, x, g1, g2, g3, Sm, g4, g5, _⟩ := hE p hp
        rw [g5] at hb
        obtain ⟨e1, e2⟩ := lk_hide hb
        refine ⟨?_, fun j hj hne hp1 hp2 hs => ?_⟩
        · rw [frun p (by omega), ← g4]; exact e1
        · rcases split j hj with h1 | ⟨q, hq, rfl⟩
          · rw [flo j h1] at hs; exact idle k hs
          · have := ((hinc p q hp hq (by omega) hp2 hp1).2 k (hhit q hq k hs)).1
            exact absurd this (by simpa using e2)
  · rw [hF0]
    intro i o hlo hhi ho L s hLi hc hsub hfs K' hK'
    obtain ⟨p, rfl⟩ : ∃ p, i = lo + p := ⟨i - lo, by omega⟩
    have hp : p < is.length := by omega
    obtain ⟨o', x, g1, g2, g3, Sm, g4, g5, g6⟩ := hE p hp
    rw [ho] at g1
    cases g1
    rw [g5] at hsub
    refine does_turn g6 hsub ?_ (fun s' hs' => hK' s' (by rw [hs', g2]))
    have key : (∀ d, d ∈ newL (dst' ops (lo + p)) is[p]! → s.fs.Clean d) := fun d hd => by
      rw [hfs]
      refine clean_run _ _ (hclean d (hnew p hp d hd).1) fun s1 hs1 => ?_
      obtain ⟨j, hj, rfl⟩ := List.mem_map.1 hs1
      obtain ⟨hj1, hj2⟩ := List.mem_filter.1 hj
      rcases split j (List.mem_range.1 hj1) with h1 | ⟨q, hq, rfl⟩
      · rw [flo j h1]; exact ⟨rfl, fun k b hb => by simp [Eff.b] at hb⟩
      · have hne : q ≠ p := fun e => by rw [e, hLi] at hj2; cases hj2
        refine hcl q p hq hp hne ?_ d hd
        cases h : predB pl (lo + p) (lo + q) with
        | false => rfl
        | true => have := hc _ hj2 _ h; rw [hLi] at this; cases this
    have hod : o.dst = dst' ops (lo + p) := by unfold dst'; rw [ho]; rfl
    cases x with
    | val v => trivial
    | dat v =>
      simp only [okStep, beq_iff_eq] at g3
      refine key _ ?_
      rw [← hod]
      unfold newL
      rw [if_pos (.inr (.inr (.inl g3)))]
      exact List.mem_cons_self ..
    | put k b => trivial
    | new b v =>
      simp only [okStep, Bool.and_eq_true, Bool.or_eq_true, beq_iff_eq] at g3
      refine ⟨key _ ?_, noMenB_ok g3.2.2 (List.mem_cons_self ..)⟩
      rw [← hod]
      unfold newL
      rw [if_pos (g3.1.elim .inl fun h => .inr (.inl h))]
      exact List.mem_cons_self ..
    | app k b v =>
      simp only [okStep, Bool.and_eq_true, Bool.or_eq_true, beq_iff_eq] at g3
      refine ⟨key _ ?_, noMenB_ok g3.2.2.2 (List.mem_cons_self ..)⟩
      rw [← hod]
      unfold newL
      rw [if_pos (g3.1.elim (fun h => .inr (.inl h)) fun h => .inr (.inr (.inr h)))]
      exact List.mem_cons_self ..
  · rw [hF0, hS', frun _ (Nat.le_refl _), ← hlen, List.take_length]

theorem wpo_mono {α : Type} {x : Option α} {k k' : α → Prop} (h : ∀ y, k y → k' y) (hx : wpo x k) : wpo x k' := by
  obtain ⟨y, hy, hk⟩ := hx
  exact ⟨y, hy, h y hk⟩
theorem inK'_mono {dst : Option Nat} {st : St} {K K' : St → Prop} (h : ∀ s, K s → K' s) {g : FuncId} {caps : List D} {us : List U} (hw : inK' P dst st K g caps us) : inK' P dst st K' g caps us := by
  rcases hw with ⟨ids, r, h1, h2, a, b, c, d, e⟩ | ⟨x, ys, rest, as, a, b, c, d⟩ | ⟨e, x, ys, rest, as, f, cl, zs, a, b, c, d, k⟩ | (⟨e, us0, f, cs, as, ys, H, fz, ids, nw, a, b, c, d, k, m⟩ | ⟨e, us0, f0, k0, f, cs, as, ys, zs, H, fz, ids, nw, a, b, c, d, k, l, m, n, q⟩) | ⟨e, k, n, sz, m, d, cs, cs', us', as, a, b, c, q, f, l⟩
  · exact .inl ⟨ids, r, h1, h2, a, b, c, d, h _ e⟩
  · exact .inr (.inl ⟨x, ys, rest, as, a, b, c, h _ d⟩)
  · exact .inr (.inr (.inl ⟨e, x, ys, rest, as, f, cl, zs, a, b, c, d, h _ k⟩))
  · exact .inr (.inr (.inr (.inl (.inl ⟨e, us0, f, cs, as, ys, H, fz, ids, nw, a, b, c, d, k, h _ m⟩))))
  · exact .inr (.inr (.inr (.inl (.inr ⟨e, us0, f0, k0, f, cs, as, ys, zs, H, fz, ids, nw, a, b, c, d, k, l, m, n, h _ q⟩))))
  · exact .inr (.inr (.inr (.inr ⟨e, k, n, sz, m, d, cs, cs', us', as, a, b, c, q, f, h _ l⟩)))
theorem argK_mono {dst : Option Nat} {st : St} {K K' : St → Prop} (h : ∀ s, K s → K' s) {g : FuncId} {caps : List D} {us : List U} (hw : argK P dst st K g caps us) : argK P dst st K' g caps us := by
  rcases hw with ⟨as, a, res, b, c⟩ | hw
  · exact .inl ⟨as, a, res, b, h _ c⟩
  · exact .inr (inK'_mono h hw)
theorem wpOp_mono' {o : Oper} {st : St} {K K' : St → Prop} (h : ∀ s, K s → K' s) (hw : wpOp P T o st K) : wpOp P T o st K' := by
  unfold wpOp at hw ⊢
  revert hw
  split <;> intro hw
  · refine wpo_mono (fun u hu => ?_) hw
    unfold callK at hu ⊢
    revert hu
    split <;> intro hu
    · exact wpo_mono (fun us hus => argK_mono h hus) hu
    · exact wpo_mono (fun us hus => argK_mono h hus) hu
    · exact wpo_mono (fun us ⟨as, rest, a, b, c⟩ => ⟨as, rest, a, b, h _ c⟩) hu
    · exact hu.elim
  · exact wpo_mono h hw
theorem wpG_mono {o : Oper} {st : St} {K K' : St → Prop} (h : ∀ s, K s → K' s) (hw : wpG P T ops o st K) : wpG P T ops o st K' := by
  unfold wpG at hw ⊢
  revert hw
  split <;> intro hw
  · exact wpOp_mono' h hw
  · revert hw
    split <;> intro hw
    · unfold gateV at hw ⊢
      revert hw
      split <;> intro hw
      · exact ⟨fun hb => wpOp_mono' h (hw.1 hb), fun hb => h _ (hw.2 hb)⟩
      · exact h _ hw
      · exact hw.elim
    · exact hw.elim
theorem wpE_mono {o : Oper} {E : St} {k k' : Eff → Prop} (h : ∀ x, k x → k' x) (hw : wpE P T o E k) : wpE P T o E k' := by
  unfold wpE at hw ⊢
  revert hw
  split <;> intro hw
  · refine wpo_mono (fun u hu => ?_) hw
    unfold effCall at hu ⊢
    revert hu
    split <;> intro hu
    · exact wpo_mono (fun us hus => wpo_mono (fun as ⟨res, b1, b2, b3⟩ => ⟨res, b1, b2, h _ b3⟩) hus) hu
    · exact wpo_mono (fun us hus => wpo_mono (fun as ⟨res, b1, b2, b3⟩ => ⟨res, b1, b2, h _ b3⟩) hus) hu
    · exact hu.elim
  · exact wpo_mono h hw
theorem wpED_mono {o : Oper} {E : St} {k k' : Eff → Prop} (h : ∀ x, k x → k' x) (hw : wpED T ops o E k) : wpED T ops o E k' := by
  unfold wpED at hw ⊢
  revert hw
  split <;> intro hw
  · exact wpo_mono h hw
  · revert hw
    split <;> intro hw
    · unfold gateE at hw ⊢
      revert hw
      split <;> intro hw
      · exact ⟨fun hb => wpo_mono h (hw.1 hb), fun hb => h _ (hw.2 hb)⟩
      · exact h _ hw
      · exact hw.elim
    · exact hw.elim
theorem wpEG_mono {o : Oper} {E : St} {k k' : Eff → Prop} (h : ∀ x, k x → k' x) (hw : wpEG P T ops o E k) : wpEG P T ops o E k' := by
  unfold wpEG at hw ⊢
  revert hw
  split <;> intro hw
  · exact wpE_mono h hw
  · revert hw
    split <;> intro hw
    · unfold gateE at hw ⊢
      revert hw
      split <;> intro hw
      · exact ⟨fun hb => wpE_mono h (hw.1 hb), fun hb => h _ (hw.2 hb)⟩
      · exact h _ hw
      · exact hw.elim
    · exact hw.elim
theorem wpSteps_mono {fin fin' : List Oper → St → Prop} (h : ∀ r s, fin r s → fin' r s) : ∀ {is : List DI} {rest : List Oper} {S : St}, wpSteps P T ops is rest S fin → wpSteps P T ops is rest S fin'
  | [], _, _, hw => h _ _ hw
  | _ :: _, [], _, hw => hw.elim
  | i :: _, _ :: _, _, hw => by
    unfold wpSteps at hw ⊢
    split
    · rename_i hi
      rw [if_pos hi] at hw
      exact wpED_mono (fun _ ⟨h1, h2⟩ => ⟨h1, wpSteps_mono h h2⟩) hw
    · rename_i hi
      rw [if_neg hi] at hw
      split
      · rename_i h5
        rw [if_pos h5] at hw
        unfold wpEA at hw ⊢
        revert hw
        split
        · intro hw
          refine wpo_mono (fun u hu => ?_) hw
          unfold effAC at hu ⊢
          revert hu
          split
          · exact fun hu => wpo_mono (fun us ⟨b, n, sz, m, d, cs, cs', us', as, a1, a2, a3, a4, a5, a6, a7⟩ => ⟨b, n, sz, m, d, cs, cs', us', as, a1, a2, a3, a4, a5, a6, wpSteps_mono h a7⟩) hu
          · exact fun hu => hu.elim
        · exact fun hw => hw.elim
      · rename_i h5
        rw [if_neg h5] at hw
        exact wpEG_mono (fun _ ⟨h1, h2⟩ => ⟨h1, wpSteps_mono h h2⟩) hw

theorem segs_ok (hlt : ∀ j i, predB pl j i = true → j < i) {K : St → Prop} : ∀ (segs : List Seg) (lo : Nat) (st : St), lo ≤ ops.length → segsB ops pl lo segs = true → wpSegs P T ops segs (ops.drop lo) K st →
    wpFrom P T ops (predB pl) segs.length lo st K
  | [], lo, st, _, hb, h => ⟨by simpa [segsB] using hb, h⟩
  | .one :: r, lo, st, hle, hb, h => by
    simp only [segsB, Bool.and_eq_true] at hb
    cases hd : ops.drop lo with
    | nil => rw [hd] at h; exact h.elim
    | cons o rest =>
      rw [hd] at h
      have hlo : lo < ops.length := by
        have := congrArg List.length hd
        simp at this; omega
      have ho : ops[lo]? = some o := by
        have := congrArg (·[0]?) hd
        simpa using this
      have hrest : rest = ops.drop (lo + 1) := by
        have := congrArg (List.drop 1) hd
        simpa using this.symm
      right; left
      refine ⟨o, ho, cutB_ok hb.1, ?_⟩
      rw [hrest] at h
      exact wpG_mono (fun s hs => segs_ok hlt r (lo + 1) s (by omega) hb.2 hs) h
  | .any ids ds is :: r, lo, st, hle, hb, h => by
    simp only [segsB, Bool.and_eq_true, decide_eq_true_eq] at hb
    exact any_ok hlt hb.1 hb.2.1 hb.2.2.1 (wpSteps_mono (fun rest s hs he => segs_ok hlt r _ s hb.1 hb.2.2.2 (he ▸ hs)) h)

theorem wpDraw_by {st : St} {K : St → Prop} (pl : List (List Nat)) (segs : List Seg) (h1 : planB ops pl segs = true) (h2 : wpSegs P T ops segs ops K st) : wpDraw P T ops st K := by
  simp only [planB, Bool.and_eq_true] at h1
  have hlt : ∀ j i, predB pl j i = true → j < i := ltB_ok h1.2.1
  exact ⟨predB pl, segs.length, edgesB_ok h1.1, hlt, segs_ok hlt segs 0 st (Nat.zero_le _) h1.2.2 h2⟩
end

end Go.Va

/-
  The walk's equations, one a form of code and one an operation: what simp uses.
-/
namespace Go.Va

section
variable {P : Program} {T : Tab} {st : St} {Q : Cont} {K : St → Prop} {ops : List Oper}
theorem wpV_skip : wpV P T .skip st Q = Q .normal st := rfl
theorem wpV_region (i : Nat) (l : List Oper) : wpV P T (.region i l.toArray false) st Q = wpOps P T l l st (normQ Q) := by simp [wpV, wpR]
theorem wpV_draw (i : Nat) (l : List Oper) : wpV P T (.region i l.toArray true) st Q = wpDraw P T l st (normQ Q) := by simp [wpV, wpR]
theorem wpV_seq (a b : Code) : wpV P T (.seq a b) st Q = wpV P T a st (thenQ (wpV P T b) Q) := rfl
theorem wpV_cond (c : Operand) (x y : Code) : wpV P T (.cond c x y) st Q = condV (st.evB c) st (wpV P T x) (wpV P T y) Q := rfl
theorem wpV_block (i : Nat) (c : Code) : wpV P T (.block i c) st Q = wpV P T c st (blockQ i Q) := rfl
theorem wpV_loop (c : Code) : wpV P T (.loop c) st Q = wpLoop (wpV P T c) st Q := rfl
theorem wpV_exit (i : Nat) : wpV P T (.exit i) st Q = Q (.exit i) st := rfl
theorem wpV_ret : wpV P T .ret st Q = Q .ret st := rfl
theorem wpOps_nil : wpOps P T ops [] st K = K st := rfl
theorem wpOps_cons (o : Oper) (r : List Oper) : wpOps P T ops (o :: r) st K = wpG P T ops o st (flipK (wpOps P T ops r) K) := rfl
variable (d : Option Nat) (ty : TypeId) (pos : String) (af : Array Edge) (g : Option (Nat × Bool))
theorem wpG_none (op : Op) : wpG P T ops ⟨d, op, ty, pos, af, none⟩ st K = wpOp P T ⟨d, op, ty, pos, af, none⟩ st K := rfl
def dstOf (ops : List Oper) (j : Nat) : Option Nat := (ops[j]?).bind (·.dst)
def wpG' (P : Program) (T : Tab) (dj : Option Nat) (want : Bool) (o : Oper) (st : St) (K : St → Prop) : Prop :=
  match dj with
  | some d => gateV d want (lk d st.t) st (wpOp P T o) (skipK o.dst) K
  | none => False
theorem wpG_some (op : Op) (j : Nat) (want : Bool) : wpG P T ops ⟨d, op, ty, pos, af, some (j, want)⟩ st K = wpG' P T (dstOf ops j) want ⟨d, op, ty, pos, af, some (j, want)⟩ st K := rfl
theorem wpG'_some (dj : Nat) (op : Op) (j : Nat) (want : Bool) : wpG' P T (some dj) want ⟨d, op, ty, pos, af, some (j, want)⟩ st K =
  gateV dj want (lk dj st.t) st (wpOp P T ⟨d, op, ty, pos, af, some (j, want)⟩) (skipK d) K := rfl
theorem dstOf_zero (o : Oper) (r : List Oper) : dstOf (o :: r) 0 = o.dst := rfl
theorem dstOf_succ (o : Oper) (r : List Oper) (n : Nat) : dstOf (o :: r) (n + 1) = dstOf r n := rfl
theorem skipK_eq (dst : Option Nat) : skipK dst st K = K (st.put dst (.tup [])) := rfl
theorem backK_eq (dst : Option Nat) (ids : List Nat) (res : R) : backK dst ids K st res = K (st.back dst ids res) := rfl

variable (x y z : Operand) (t : TypeId)
theorem op_move : wpOp P T ⟨d, .move x, ty, pos, af, g⟩ st K = wpo ((st.ev x).map fun v => st.put d v) K := rfl
theorem op_assign_nil : wpOp P T ⟨d, .assign (.const (.slice none 0 0)), ty, pos, af, g⟩ st K = wpo (nilAssign T ty d st) K := rfl
theorem op_assign_tmp (i : Nat) : wpOp P T ⟨d, .assign (.tmp i), ty, pos, af, g⟩ st K = wpo ((lk i st.t).map fun v => st.put d v) K := rfl
theorem op_assign_int (k : IntKind) (n : Int) : wpOp P T ⟨d, .assign (.const (.int k n)), ty, pos, af, g⟩ st K = K (st.put d (vI k n)) := wpo_some _ _
theorem op_assign_bool (b : Bool) : wpOp P T ⟨d, .assign (.const (.bool b)), ty, pos, af, g⟩ st K = K (st.put d (vB b)) := wpo_some _ _
theorem op_assign_str (b : ByteArray) : wpOp P T ⟨d, .assign (.const (.string b)), ty, pos, af, g⟩ st K = K (st.put d (vC (.d (.str b)))) := wpo_some _ _
theorem op_assign_nilf : wpOp P T ⟨d, .assign (.const .nilFunc), ty, pos, af, g⟩ st K = K (st.put d (vC (.d .nilFn))) := wpo_some _ _
theorem op_assign_agg (cs : Array Value) : wpOp P T ⟨d, .assign (.const (.agg cs)), ty, pos, af, g⟩ st K = wpo ((cVal (.agg cs)).map fun v => st.put d v) K := rfl
theorem op_assign_func (f : FuncId) : wpOp P T ⟨d, .assign (.func f), ty, pos, af, g⟩ st K = wpo ((st.ev (.func f)).map fun v => st.put d v) K := rfl
theorem op_pick : wpOp P T ⟨d, .pick x y z, ty, pos, af, g⟩ st K = wpo ((st.evB x).bind fun c => (pickV c (st.ev y) (st.ev z)).map fun v => st.put d v) K := rfl
theorem op_alloc : wpOp P T ⟨d, .alloc t, ty, pos, af, g⟩ st K = wpo ((T t).bind fun i => mk d st (.box i.zero) fun d => .ptr d 0) K := rfl
theorem op_box : wpOp P T ⟨d, .box t x, ty, pos, af, g⟩ st K = wpo ((T t).bind fun i => (st.evU x).bind fun u => if u.cells.length = i.size then mk d st (.box u.cells) (fun d => .ptr d 0) else none) K := rfl
theorem op_build (l : List (Nat × Operand)) : wpOp P T ⟨d, .build t l.toArray, ty, pos, af, g⟩ st K = wpo ((T t).bind fun i => (st.evUs l).bind fun l => (build T i l).map fun u => st.put d (.u u)) K := rfl
theorem op_buildSlice (len : Nat) (l : List (Nat × Operand)) : wpOp P T ⟨d, .buildSlice t len l.toArray, ty, pos, af, g⟩ st K =
    wpo ((T t).bind fun i => i.sl.bind fun e => (T e).bind fun j => (st.evUs l).bind (bslGo j len d st)) K := rfl
theorem op_load : wpOp P T ⟨d, .load t x, ty, pos, af, g⟩ st K = wpo ((T t).bind fun i => (st.evC x).bind fun c => (st.load i c).map fun u => st.put d (.u u)) K := rfl
theorem op_store : wpOp P T ⟨d, .store t x y, ty, pos, af, g⟩ st K = wpo ((T t).bind fun i => (st.evC x).bind fun c => (st.evU y).bind fun u => (st.store i c u).map fun s => s.put d (.tup [])) K := rfl
theorem op_nilCheck : wpOp P T ⟨d, .nilCheck x, ty, pos, af, g⟩ st K = wpo ((st.evC x).bind fun c => (nilChk c).map fun c => st.put d (vC c)) K := rfl
theorem op_binOp (op : BinOp) (t' : TypeId) : wpOp P T ⟨d, .binOp op t x y t', ty, pos, af, g⟩ st K = wpo ((st.ev x).bind fun a => (st.ev y).bind fun b => (binV T op t a b).map fun v => st.put d v) K := rfl
theorem op_not : wpOp P T ⟨d, .unOp .not t x, ty, pos, af, g⟩ st K = wpo ((st.evB x).map fun b => st.put d (vB !b)) K := rfl
theorem op_neg : wpOp P T ⟨d, .unOp .neg t x, ty, pos, af, g⟩ st K = wpo ((st.evI x).bind fun p => (fitK p.1 (0 - p.2)).map fun v => st.put d v) K := rfl
theorem op_convert (t' : TypeId) : wpOp P T ⟨d, .convert t t' x, ty, pos, af, g⟩ st K = wpo ((T t).bind fun _ => (T t').bind fun i => (st.evI x).bind fun p => (convI i p.2).map fun v => st.put d v) K := rfl
theorem op_makeSlice : wpOp P T ⟨d, .makeSlice t x y, ty, pos, af, g⟩ st K = wpo ((T t).bind fun i => i.sl.bind fun e => (T e).bind fun j => (st.evI x).bind fun l => (st.evI y).bind fun c => mkslGo j d st l.2 c.2) K := rfl
theorem op_slice (lo hi : Option Operand) : wpOp P T ⟨d, .slice t x lo hi none, ty, pos, af, g⟩ st K =
    wpo ((T t).bind fun i => (st.evC x).bind fun c => (st.evO lo).bind fun l => (st.evO hi).bind fun h =>
      (match i.sl with | some e => (T e).bind fun j => sliceV st.h c l h j.size | none => if isStr i then sliceS c l h else none).map fun v => st.put d (vC v)) K := rfl
theorem op_fieldAddr (f : Nat) : wpOp P T ⟨d, .fieldAddr t x f, ty, pos, af, g⟩ st K = wpo ((T t).bind fun i => (st.evC x).bind fun c => (i.flds[f]?).bind fun p => (T p.2).bind fun j => if j.size = 0 then none else (fldAddr p.1 c).map fun c => st.put d (vC c)) K := rfl
theorem op_field (f : Nat) : wpOp P T ⟨d, .field t x f, ty, pos, af, g⟩ st K = wpo ((T t).bind fun i => (st.evU x).bind fun u => (fieldOf T i f u).map fun u => st.put d (.u u)) K := rfl
theorem op_indexAddr : wpOp P T ⟨d, .indexAddr t x y, ty, pos, af, g⟩ st K = wpo ((T t).bind fun ti => (st.evC x).bind fun c => (st.evI y).bind fun n => (idxAddr T st.h ti n.2 c).map fun c => st.put d (vC c)) K := rfl
theorem op_index : wpOp P T ⟨d, .index t x y, ty, pos, af, g⟩ st K = wpo ((T t).bind fun ti => (st.evU x).bind fun u => (st.evI y).bind fun n => (indexOf T ti n.2 u).map fun u => st.put d (.u u)) K := rfl
theorem op_extract (i : Nat) : wpOp P T ⟨d, .extract x i, ty, pos, af, g⟩ st K = wpo ((st.ev x).bind fun v => (tupAt i v).map fun u => st.put d (.u u)) K := rfl
theorem op_makeFunc (f : FuncId) (caps : List Operand) : wpOp P T ⟨d, .makeFunc (.func f) #[] caps.toArray, ty, pos, af, g⟩ st K =
    wpo ((caps.mapM st.evC).map fun cs => st.put d (.u (clo st.h f cs))) K := rfl
theorem op_builtin (b : Builtin) (args : List Operand) (ts : List TypeId) : wpOp P T ⟨d, .call ⟨.builtin b, args.toArray, ts.toArray⟩, ty, pos, af, g⟩ st K =
    wpo (stepBuiltin T b ts args d st) K := rfl
theorem op_call (f : Operand) (args : List Operand) (ts : Array TypeId) : wpOp P T ⟨d, .call ⟨.value f, args.toArray, ts⟩, ty, pos, af, g⟩ st K =
    wpo (st.evU f) (callK P d args st K) := rfl
end

/-- The number in a place: for a loop's measure. -/
def St.num (st : St) (t : Nat) : Int :=
  match lk t st.t with
  | some (.u (.c (.d (.int _ n)))) => n
  | _ => 0

/-- A loop, by what its states look like at its head. -/
def loopI {α : Type} (f : α → St) (p : α → Prop) (μ : α → Nat) (s : St) (n : Nat) : Prop := ∃ x, s = f x ∧ p x ∧ μ x = n
theorem wpLoop_by {α : Type} (rs : List (Nat × Nat)) (f : α → St) (p : α → Prop) (μ : α → Nat) (x0 : α) {body : St → Cont → Prop} {st : St} {Q : Cont} (h0 : (f x0).le (rns rs st)) (hp : p x0)
    (h : ∀ x, p x → body (f x) (thenQ (againQ (loopI f p μ) rs (μ x)) Q)) : wpLoop body st Q :=
  ⟨loopI f p μ, rs, ⟨_, _, h0, x0, rfl, hp, rfl⟩, fun _ _ ⟨x, h1, h2, h3⟩ => h1 ▸ h3 ▸ h x h2⟩
theorem wpLoop_of {α : Type} (f : α → St) (p : α → Prop) (μ : α → Nat) (x0 : α) {body : St → Cont → Prop} {st : St} {Q : Cont} (h0 : (f x0).le st) (hp : p x0)
    (h : ∀ x, p x → body (f x) (thenQ (againQ (loopI f p μ) [] (μ x)) Q)) : wpLoop body st Q := wpLoop_by [] f p μ x0 h0 hp h
@[simp] theorem againQ_of {α : Type} (f : α → St) (p : α → Prop) (μ : α → Nat) (rs : List (Nat × Nat)) (n : Nat) (s : St) (Q : Cont) : againQ (loopI f p μ) rs n s Q ↔ ∃ y, (f y).le (rns rs s) ∧ p y ∧ μ y < n :=
  ⟨fun ⟨_, _, h1, ⟨y, h2, h3, h4⟩, h5⟩ => ⟨y, h2 ▸ h1, h3, h4 ▸ h5⟩, fun ⟨y, h1, h2, h3⟩ => ⟨_, _, h1, ⟨y, rfl, h2, rfl⟩, h3⟩⟩
@[simp] theorem rns_nil (s : St) : rns [] s = s := rfl
@[simp] theorem rns_cons (i j : Nat) (r : List (Nat × Nat)) (s : St) : rns ((i, j) :: r) s = rns r (s.rn i j) := rfl
def rnB (i j : Nat) (st : St) (b : Option Blk) : St :=
  match b with
  | none => st
  | some b => { st.on (renG i j) with h := (i, b.on (renG i j)) :: rm i (rm j (st.on (renG i j)).h) }
@[simp] theorem rn_eq (i j : Nat) (st : St) : st.rn i j = if i = j then st else rnB i j st (lk j st.h) := by
  unfold St.rn rnB; rfl
@[simp] theorem rnB_none (i j : Nat) (st : St) : rnB i j st none = st := rfl
@[simp] theorem rnB_some (i j : Nat) (st : St) (b : Blk) : rnB i j st (some b) = { st.on (renG i j) with h := (i, b.on (renG i j)) :: rm i (rm j (st.on (renG i j)).h) } := rfl
/- where the test is known, the other way is not walked -/
section
variable (st : St) (k1 k2 : St → Cont → Prop) (Q : Cont)
@[simp high] theorem condV_true : condV (some true) st k1 k2 Q = k1 st Q := by simp [condV]
@[simp high] theorem condV_false : condV (some false) st k1 k2 Q = k2 st Q := by simp [condV]
end
section
variable (d : Nat) (st : St) (k1 k2 : St → (St → Prop) → Prop) (K : St → Prop)
@[simp high] theorem gateV_tt : gateV d true (some (.u (.c (.d (.bool true))))) st k1 k2 K = k1 (st.put (some d) (vB true)) K := by simp [gateV_bool]
@[simp high] theorem gateV_tf : gateV d true (some (.u (.c (.d (.bool false))))) st k1 k2 K = k2 (st.put (some d) (vB false)) K := by simp [gateV_bool]
@[simp high] theorem gateV_ft : gateV d false (some (.u (.c (.d (.bool true))))) st k1 k2 K = k2 (st.put (some d) (vB true)) K := by simp [gateV_bool]
@[simp high] theorem gateV_ff : gateV d false (some (.u (.c (.d (.bool false))))) st k1 k2 K = k1 (st.put (some d) (vB false)) K := by simp [gateV_bool]
end
@[simp] theorem wpo_ite_not {α : Type} (c : Prop) [Decidable c] (x : Option α) (k : α → Prop) : wpo (if c then none else x) k = (¬ c ∧ wpo x k) := by
  by_cases h : c <;> simp [h, wpo]
@[simp] theorem splice_z {α : Type} (l : List α) : splice 0 [] l = l := by simp [splice]
@[simp] theorem splice_zc {α : Type} (a b : α) (r l : List α) : splice 0 (a :: r) (b :: l) = a :: splice 0 r l := by simp [splice]
@[simp] theorem splice_s {α : Type} (n : Nat) (b : α) (r l : List α) : splice (n + 1) r (b :: l) = b :: splice n r l := by simp [splice, Nat.add_right_comm]
@[simp] theorem to_sl (i k o n : Nat) : C.to i (.sl k o n) = .sl i o n := rfl
@[simp] theorem to_ptr (i k o : Nat) : C.to i (.ptr k o) = .ptr i o := rfl

/- not by 'rfl': else the kernel compares large numbers step by step -/
@[simp] theorem i64_min : IntKind.i64.min = -9223372036854775808 := by decide
@[simp] theorem i64_max : IntKind.i64.max = 9223372036854775807 := by decide

theorem lk_nilE {α : Type} (k : Nat) : lk k ([] : List (Nat × α)) = none := rfl
theorem lk_consE {α : Type} (k j : Nat) (v : α) (r : List (Nat × α)) : lk k ((j, v) :: r) = cond (j == k) (some v) (lk k r) := by
  by_cases h : j = k
  · simp [lk, h]
  · simp [lk, h, show (j == k) = false by simpa using h]
theorem rm_nilE {α : Type} (k : Nat) : rm k ([] : List (Nat × α)) = [] := rfl
theorem rm_consE {α : Type} (k j : Nat) (v : α) (r : List (Nat × α)) : rm k ((j, v) :: r) = cond (j == k) (rm k r) ((j, v) :: rm k r) := by
  by_cases h : j = k
  · simp [rm, h]
  · simp [rm, h, show (j == k) = false by simpa using h]

@[simp] theorem binV_add (T : Tab) (t : TypeId) (k k' : IntKind) (a b : Int) : binV T .add t (.u (.c (.d (.int k a)))) (.u (.c (.d (.int k' b)))) = if k = k' then binI .add k a b else none := rfl
@[simp] theorem binV_sub (T : Tab) (t : TypeId) (k k' : IntKind) (a b : Int) : binV T .sub t (.u (.c (.d (.int k a)))) (.u (.c (.d (.int k' b)))) = if k = k' then binI .sub k a b else none := rfl
@[simp] theorem binV_mul (T : Tab) (t : TypeId) (k k' : IntKind) (a b : Int) : binV T .mul t (.u (.c (.d (.int k a)))) (.u (.c (.d (.int k' b)))) = if k = k' then binI .mul k a b else none := rfl
@[simp] theorem binV_quo (T : Tab) (t : TypeId) (k k' : IntKind) (a b : Int) : binV T .quo t (.u (.c (.d (.int k a)))) (.u (.c (.d (.int k' b)))) = if k = k' then binI .quo k a b else none := rfl
@[simp] theorem binV_rem (T : Tab) (t : TypeId) (k k' : IntKind) (a b : Int) : binV T .rem t (.u (.c (.d (.int k a)))) (.u (.c (.d (.int k' b)))) = if k = k' then binI .rem k a b else none := rfl
@[simp] theorem binV_and (T : Tab) (t : TypeId) (k k' : IntKind) (a b : Int) : binV T .and t (.u (.c (.d (.int k a)))) (.u (.c (.d (.int k' b)))) = if k = k' then binI .and k a b else none := rfl
@[simp] theorem binV_or (T : Tab) (t : TypeId) (k k' : IntKind) (a b : Int) : binV T .or t (.u (.c (.d (.int k a)))) (.u (.c (.d (.int k' b)))) = if k = k' then binI .or k a b else none := rfl
@[simp] theorem binV_xor (T : Tab) (t : TypeId) (k k' : IntKind) (a b : Int) : binV T .xor t (.u (.c (.d (.int k a)))) (.u (.c (.d (.int k' b)))) = if k = k' then binI .xor k a b else none := rfl
@[simp] theorem binV_andNot (T : Tab) (t : TypeId) (k k' : IntKind) (a b : Int) : binV T .andNot t (.u (.c (.d (.int k a)))) (.u (.c (.d (.int k' b)))) = if k = k' then binI .andNot k a b else none := rfl
@[simp] theorem binV_eql (T : Tab) (t : TypeId) (k k' : IntKind) (a b : Int) : binV T .eql t (.u (.c (.d (.int k a)))) (.u (.c (.d (.int k' b)))) = if k = k' then binI .eql k a b else none := rfl
@[simp] theorem binV_neq (T : Tab) (t : TypeId) (k k' : IntKind) (a b : Int) : binV T .neq t (.u (.c (.d (.int k a)))) (.u (.c (.d (.int k' b)))) = if k = k' then binI .neq k a b else none := rfl
@[simp] theorem binV_lss (T : Tab) (t : TypeId) (k k' : IntKind) (a b : Int) : binV T .lss t (.u (.c (.d (.int k a)))) (.u (.c (.d (.int k' b)))) = if k = k' then binI .lss k a b else none := rfl
@[simp] theorem binV_leq (T : Tab) (t : TypeId) (k k' : IntKind) (a b : Int) : binV T .leq t (.u (.c (.d (.int k a)))) (.u (.c (.d (.int k' b)))) = if k = k' then binI .leq k a b else none := rfl
@[simp] theorem binV_gtr (T : Tab) (t : TypeId) (k k' : IntKind) (a b : Int) : binV T .gtr t (.u (.c (.d (.int k a)))) (.u (.c (.d (.int k' b)))) = if k = k' then binI .gtr k a b else none := rfl
@[simp] theorem binV_geq (T : Tab) (t : TypeId) (k k' : IntKind) (a b : Int) : binV T .geq t (.u (.c (.d (.int k a)))) (.u (.c (.d (.int k' b)))) = if k = k' then binI .geq k a b else none := rfl
@[simp] theorem binV_bool (T : Tab) (op : BinOp) (t : TypeId) (a b : Bool) : binV T op t (.u (.c (.d (.bool a)))) (.u (.c (.d (.bool b)))) = (T t).bind fun i => (eqV i (.u (.c (.d (.bool a)))) (.u (.c (.d (.bool b))))).bind (eqOp op) := rfl
@[simp] theorem binV_agg (T : Tab) (op : BinOp) (t : TypeId) (a b : List C) : binV T op t (.u (.agg a)) (.u (.agg b)) = (T t).bind fun i => (eqV i (.u (.agg a)) (.u (.agg b))).bind (eqOp op) := rfl
@[simp] theorem binV_fn (T : Tab) (op : BinOp) (t : TypeId) (f : FuncId) (l : List D) : binV T op t (.u (.c (.d (.fn f l)))) (.u (.c (.d .nilFn))) = (T t).bind fun i => (eqV i (.u (.c (.d (.fn f l)))) (.u (.c (.d .nilFn)))).bind (eqOp op) := rfl
@[simp] theorem binV_nilFn (T : Tab) (op : BinOp) (t : TypeId) : binV T op t (.u (.c (.d .nilFn))) (.u (.c (.d .nilFn))) = (T t).bind fun i => (eqV i (.u (.c (.d .nilFn))) (.u (.c (.d .nilFn)))).bind (eqOp op) := rfl
@[simp] theorem cVal_int (k : IntKind) (n : Int) : cVal (.int k n) = some (.u (.c (.d (.int k n)))) := rfl
@[simp] theorem cVal_bool (b : Bool) : cVal (.bool b) = some (.u (.c (.d (.bool b)))) := rfl
@[simp] theorem cVal_str (s : ByteArray) : cVal (.string s) = some (.u (.c (.d (.str s)))) := rfl
@[simp] theorem cVal_nl : cVal (.slice none 0 0) = some (.u (.c .nl)) := rfl
@[simp] theorem cVal_nilPtr : cVal (.pointer none) = some (.u (.c (.d .nilPtr))) := rfl
@[simp] theorem cVal_nilFn : cVal .nilFunc = some (.u (.c (.d .nilFn))) := rfl
@[simp] theorem onC_d (g : Nat → C → C) (x : D) : C.on g (.d x) = .d x := rfl
@[simp] theorem onC_nl (g : Nat → C → C) : C.on g .nl = .nl := rfl
@[simp] theorem onC_bad (g : Nat → C → C) : C.on g .bad = .bad := rfl
@[simp] theorem idC_d (x : D) : C.id? (.d x) = none := rfl
@[simp] theorem idC_nl : C.id? .nl = none := rfl
@[simp] theorem idC_bad : C.id? .bad = none := rfl
@[simp] theorem flatD_int (k : IntKind) (n : Int) : D.flat (.int k n) = true := rfl
@[simp] theorem flatD_bool (b : Bool) : D.flat (.bool b) = true := rfl
@[simp] theorem flatD_str (s : ByteArray) : D.flat (.str s) = true := rfl
@[simp] theorem flatD_nilFn : D.flat .nilFn = true := rfl
@[simp] theorem flatD_nilPtr : D.flat .nilPtr = true := rfl
@[simp] theorem res_nil (T : Tab) (st : St) : st.res T [] = some (.tup []) := rfl
@[simp] theorem res_one (T : Tab) (st : St) (a : ResultVar) : st.res T [a] = (st.resU T a).map .u := rfl
@[simp] theorem isPtr_d (x : D) : isPtr (.d x) = false := rfl
@[simp] theorem isPtr_nl : isPtr .nl = false := rfl
@[simp] theorem isPtr_bad : isPtr .bad = false := rfl
@[simp] theorem isPtr_sl (i o n : Nat) : isPtr (.sl i o n) = false := rfl
@[simp] theorem isPtr_ptr (i o : Nat) : isPtr (.ptr i o) = true := rfl
@[simp] theorem res_two (T : Tab) (st : St) (a b : ResultVar) (r : List ResultVar) : st.res T (a :: b :: r) = ((a :: b :: r).mapM (st.resU T)).map .tup := rfl

@[simp] theorem onC_sl (g : Nat → C → C) (i o n : Nat) : C.on g (.sl i o n) = g i (.sl i o n) := rfl
@[simp] theorem onC_ptr (g : Nat → C → C) (i o : Nat) : C.on g (.ptr i o) = g i (.ptr i o) := rfl
@[simp] theorem ld_row (sz : Nat) (cs : List D) (app : Bool) (off : Nat) : Blk.ld (.row sz cs app) off = (cs[off]?).map fun x => .c (.d x) := rfl
@[simp] theorem ld_box (cs : List C) (off : Nat) : Blk.ld (.box cs) off = (cs[off]?).map .c := rfl
@[simp] theorem ld_fbox (f : FuncId) (cs : List C) : Blk.ld (.fbox f cs) 0 = some (.clo f cs) := rfl
@[simp] theorem storeU_c (b off : Nat) (x : C) (st : St) (k : Blk) : st.storeU b off (.c x) k = st.storeB b off [x] k := rfl
@[simp] theorem storeU_agg (b off : Nat) (xs : List C) (st : St) (k : Blk) : st.storeU b off (.agg xs) k = st.storeB b off xs k := rfl
@[simp] theorem storeU_clo (b : Nat) (f : FuncId) (cs : List C) (st : St) (c : C) : st.storeU b 0 (.clo f cs) (.box [c]) = some (st.blk b (.fbox f cs)) := rfl
@[simp] theorem cells_clo (f : FuncId) (cs : List C) : U.cells (.clo f cs) = [.bad] := rfl
@[simp] theorem flatD_lit (x : Value) : D.flat (.lit x) = true := rfl
@[simp] theorem flatD_any : D.flat .any = true := rfl
@[simp] theorem YS_eq : YS = 1000000 := rfl

/- ahead of their parts: 'Option.bind_some' within 'wpo' would go by 'rfl', and the kernel would unfold what stands beside it -/
attribute [simp ↓] wpo_bind wpo_map wpo_some
attribute [simp ↓] wpV_skip wpV_region wpV_draw wpV_seq wpV_cond wpV_block wpV_loop wpV_exit wpV_ret wpOps_nil wpOps_cons wpG_none wpG_some wpG'_some
attribute [simp] dstOf_zero dstOf_succ skipK_eq backK_eq
  op_move op_assign_nil op_assign_tmp op_assign_int op_assign_bool op_assign_str op_assign_nilf op_assign_agg op_assign_func op_pick op_alloc op_box op_build op_buildSlice op_load op_store op_nilCheck op_binOp op_not op_neg
  op_convert op_makeSlice op_slice op_fieldAddr op_field op_indexAddr op_index op_extract op_makeFunc op_builtin op_call
  St.init initT A.toV St.ev St.put rm_nilE rm_consE lk_nilE lk_consE St.new St.purge purgeG St.on St.blk renG cVal.eq_1 vC V.on U.on C.on.eq_1 C.on.eq_2 Blk.on St.evC St.evI St.evB St.evU St.evUs St.evO lenC.eq_1 lenC.eq_2 lenC.eq_3 lenS.eq_1 isStr wpo_none wpo_ite bindK mapK
  thenQ_normal thenQ_ret thenQ_exit blockQ_normal blockQ_ret blockQ_exit normQ_eq flipK_eq condV_some gateV_bool gateV_none vI vB cCell.eq_1 cCell.eq_2 cCell.eq_3 cCell.eq_4 cCell.eq_5 cCell.eq_6 binV.eq_1 binV.eq_2 binV.eq_4 binI.eq_1 binI.eq_2 binI.eq_3 binI.eq_4 binI.eq_5 binI.eq_6 binI.eq_7 binI.eq_8 binI.eq_9 binI.eq_10 binI.eq_11 binI.eq_12 binI.eq_13 binI.eq_14 binI.eq_15 fitK chk inK sliceV.eq_1 sliceV.eq_2 sliceV.eq_3 sliceS.eq_1 sliceN St.load.eq_1 St.load.eq_2 St.store.eq_1 St.storeB build Blk.rd Blk.at fillCs mk places placeOf arrPlace rep nilAssign bslGo mkslGo nilChk.eq_1 nilChk.eq_2 nilChk.eq_3 fldAddr.eq_1 fldAddr.eq_2 isRow idxSl.eq_1 idxSl.eq_2 idxArr.eq_1 idxArr.eq_2 idxAddr part fieldOf.eq_1 indexOf.eq_1 indexOf.eq_2 tupAt.eq_1 convI pickV biLen copyTo.eq_1 big St.appGo
  U.cells.eq_1 U.cells.eq_2 St.le leL cut St.num St.shut St.cD toD reach C.id?.eq_1 C.id?.eq_2 St.app.eq_1 St.app.eq_2 St.src.eq_1 St.src.eq_2 St.src.eq_3 callK_fn callK_clo callK_lit cloK_eq argK_eq goK_eq clo St.drop U.all St.argsW U.toA St.reachU freezeG rmAll St.freezeK St.freeze St.sealW finV fitV.eq_1 fitV.eq_2 fitU.eq_1 fitU.eq_2 fitC.eq_1 fitC.eq_2 fitC.eq_3 fitL.eq_1 fitL.eq_2 St.resU R.rows RU.rows RC.rows St.back R.flat RU.flat RC.flat D.flat.eq_1 D.flat.eq_2 D.flat.eq_3 R.imp RU.imp RC.imp
  IntKind.signed IntKind.bits shiftI.eq_1 shiftI.eq_2 eqD eqCs eqV eqOp minmax stepBuiltin

end Go.Va

/-
  The walk's equations for regions that draw their order.
-/
namespace Go.Va

section
variable {P : Program} {T : Tab} {st : St} {k : Eff → Prop} {ops : List Oper} {d : Option Nat} {n : Nat} {ty : TypeId} {pos : String} {af : Array Edge} {g : Option (Nat × Bool)} {x y : Operand} {t : TypeId}
theorem wpEG_none (op : Op) : wpEG P T ops ⟨d, op, ty, pos, af, none⟩ st k = wpE P T ⟨d, op, ty, pos, af, none⟩ st k := rfl
def wpEG' (P : Program) (T : Tab) (dj : Option Nat) (want : Bool) (o : Oper) (st : St) (k : Eff → Prop) : Prop :=
  match dj with
  | some d => gateE want (lk d st.t) (wpE P T o st k) (k (.val (.tup [])))
  | none => False
theorem wpEG_some (op : Op) (j : Nat) (want : Bool) : wpEG P T ops ⟨d, op, ty, pos, af, some (j, want)⟩ st k = wpEG' P T (dstOf ops j) want ⟨d, op, ty, pos, af, some (j, want)⟩ st k := rfl
theorem wpEG'_some (dj : Nat) (op : Op) (j : Nat) (want : Bool) : wpEG' P T (some dj) want ⟨d, op, ty, pos, af, some (j, want)⟩ st k = gateE want (lk dj st.t) (wpE P T ⟨d, op, ty, pos, af, some (j, want)⟩ st k) (k (.val (.tup []))) := rfl
theorem gateE_bool (want b : Bool) (k1 k2 : Prop) : gateE want (some (.u (.c (.d (.bool b))))) k1 k2 = ((b = want → k1) ∧ (b = !want → k2)) := rfl
theorem gateE_none (want : Bool) (k1 k2 : Prop) : gateE want (some (.tup [])) k1 k2 = k2 := rfl
@[simp high] theorem gateE_tt (k1 k2 : Prop) : gateE true (some (.u (.c (.d (.bool true))))) k1 k2 = k1 := by simp [gateE]
@[simp high] theorem gateE_tf (k1 k2 : Prop) : gateE true (some (.u (.c (.d (.bool false))))) k1 k2 = k2 := by simp [gateE]
@[simp high] theorem gateE_ft (k1 k2 : Prop) : gateE false (some (.u (.c (.d (.bool true))))) k1 k2 = k2 := by simp [gateE]
@[simp high] theorem gateE_ff (k1 k2 : Prop) : gateE false (some (.u (.c (.d (.bool false))))) k1 k2 = k1 := by simp [gateE]
theorem wpSteps_nil (rest : List Oper) (S : St) (fin : List Oper → St → Prop) : wpSteps P T ops [] rest S fin = fin rest S := rfl
section
variable (rd nh bad ks : List Nat) (is : List DI) (o : Oper) (r : List Oper) (S : St) (fin : List Oper → St → Prop)
theorem wpSteps_0 : wpSteps P T ops (⟨0, rd, nh, bad, ks⟩ :: is) (o :: r) S fin = wpEG P T ops o (seen ⟨0, rd, nh, bad, ks⟩ S) (stepsK ⟨0, rd, nh, bad, ks⟩ o.dst S fun S' => wpSteps P T ops is r S' fin) := if_neg (fun h : (_ : Nat) = 4 => by simp at h)
theorem wpSteps_1 : wpSteps P T ops (⟨1, rd, nh, bad, ks⟩ :: is) (o :: r) S fin = wpEG P T ops o (seen ⟨1, rd, nh, bad, ks⟩ S) (stepsK ⟨1, rd, nh, bad, ks⟩ o.dst S fun S' => wpSteps P T ops is r S' fin) := if_neg (fun h : (_ : Nat) = 4 => by simp at h)
theorem wpSteps_2 : wpSteps P T ops (⟨2, rd, nh, bad, ks⟩ :: is) (o :: r) S fin = wpEG P T ops o (seen ⟨2, rd, nh, bad, ks⟩ S) (stepsK ⟨2, rd, nh, bad, ks⟩ o.dst S fun S' => wpSteps P T ops is r S' fin) := if_neg (fun h : (_ : Nat) = 4 => by simp at h)
theorem wpSteps_3 : wpSteps P T ops (⟨3, rd, nh, bad, ks⟩ :: is) (o :: r) S fin = wpEG P T ops o (seen ⟨3, rd, nh, bad, ks⟩ S) (stepsK ⟨3, rd, nh, bad, ks⟩ o.dst S fun S' => wpSteps P T ops is r S' fin) := if_neg (fun h : (_ : Nat) = 4 => by simp at h)
theorem wpSteps_5 : wpSteps P T ops (⟨5, rd, nh, bad, ks⟩ :: is) (o :: r) S fin = wpEA P o (seen ⟨5, rd, nh, bad, ks⟩ S) (stepsK ⟨5, rd, nh, bad, ks⟩ o.dst S fun S' => wpSteps P T ops is r S' fin) := (if_neg (show ¬ ((5 : Nat) = 4) by decide)).trans (if_pos rfl)
theorem wpSteps_4 : wpSteps P T ops (⟨4, rd, nh, bad, ks⟩ :: is) (o :: r) S fin = wpED T ops o (seen ⟨4, rd, nh, bad, ks⟩ S) (stepsK ⟨4, rd, nh, bad, ks⟩ o.dst S fun S' => wpSteps P T ops is r S' fin) := if_pos rfl
end
theorem wpED_bsl (len : Nat) (parts : List (Nat × Operand)) : wpED T ops ⟨some n, .buildSlice t len parts.toArray, ty, pos, af, none⟩ st k =
    wpo ((T t).bind fun i => i.sl.bind fun e => (T e).bind fun j => (st.evUs parts).bind fun l =>
    if len * j.size ≤ 10000 ∧ len ≤ 10000 then (fillCs (arrPlace j.size) (rep len j.zero) l).bind fun cs =>
      if j.size = 1 ∧ cs.any isPtr = true then none else
      if noIdsC cs then (cs.mapM (toD (fun _ => false) st.h 4)).bind fun ds => if ds.length = len * j.size then some (.dat (.slice len ds)) else none else none
    else none) k := rfl
def wpED' (T : Tab) (dj : Option Nat) (want : Bool) (o : Oper) (st : St) (k : Eff → Prop) : Prop :=
  match dj with
  | some d => gateE want (lk d st.t) (wpo (effDat T o st) k) (k (.val (.tup [])))
  | none => False
theorem wpED_some (op : Op) (j : Nat) (want : Bool) : wpED T ops ⟨d, op, ty, pos, af, some (j, want)⟩ st k = wpED' T (dstOf ops j) want ⟨d, op, ty, pos, af, some (j, want)⟩ st k := rfl
theorem wpED'_some (dj : Nat) (op : Op) (j : Nat) (want : Bool) : wpED' T (some dj) want ⟨d, op, ty, pos, af, some (j, want)⟩ st k = gateE want (lk dj st.t) (wpED T [] ⟨d, op, ty, pos, af, none⟩ st k) (k (.val (.tup []))) := rfl
theorem stepsK_dat (kk : Nat) (rd nh bad ks : List Nat) (d : Option Nat) (S : St) (K : St → Prop) (x : D) : stepsK ⟨kk, rd, nh, bad, ks⟩ d S K (.dat x) = ((kk == 4) = true ∧ K (S.put d (vC (.d x)))) := rfl
theorem stepsK_val (k : Nat) (rd nh bad ks : List Nat) (d : Option Nat) (S : St) (K : St → Prop) (v : V) : stepsK ⟨k, rd, nh, bad, ks⟩ d S K (.val v) = (noMenV bad v = true ∧ K (S.put d v)) := rfl
theorem stepsK_new (k : Nat) (rd nh bad ks : List Nat) (d : Nat) (S : St) (K : St → Prop) (b : Blk) (v : V) : stepsK ⟨k, rd, nh, bad, ks⟩ (some d) S K (.new b v) = (((k == 1 || k == 3) && (noMenV bad v && noMenB (d :: bad) b)) = true ∧ K ((S.blk d b).put (some d) v)) := rfl
theorem stepsK_put (k : Nat) (rd nh bad ks : List Nat) (d : Option Nat) (S : St) (K : St → Prop) (i : Nat) (b : Blk) : stepsK ⟨k, rd, nh, bad, ks⟩ d S K (.put i b) = ((k == 2 && (ks.contains i && noMenB bad b)) = true ∧ K ((S.blk i b).put d (.tup []))) := rfl
theorem stepsK_app (k : Nat) (rd nh bad ks : List Nat) (d : Nat) (S : St) (K : St → Prop) (i : Nat) (b : Blk) (v : V) : stepsK ⟨k, rd, nh, bad, ks⟩ (some d) S K (.app i b v) = (((k == 3 || k == 5) && (ks.contains i && (noMenV bad v && noMenB (d :: bad) b))) = true ∧ K (((S.drop i).blk d b).put (some d) v)) := rfl
theorem wpSegs_nil (rest : List Oper) (K : St → Prop) (st : St) : wpSegs P T ops [] rest K st = K st := rfl
theorem wpSegs_one (r : List Seg) (o : Oper) (rest : List Oper) (K : St → Prop) (st : St) : wpSegs P T ops (.one :: r) (o :: rest) K st = wpG P T ops o st (wpSegs P T ops r rest K) := rfl
theorem wpSegs_any (ids ds : List Nat) (is : List DI) (r : List Seg) (rest : List Oper) (K : St → Prop) (st : St) :
    wpSegs P T ops (.any ids ds is :: r) rest K st = wpSteps P T ops is rest (purges ds (st.freeze ids)) fun rest' s => wpSegs P T ops r rest' K s := rfl
theorem purges_nil (s : St) : purges [] s = s := rfl
theorem purges_cons (i : Nat) (l : List Nat) (s : St) : purges (i :: l) s = purges l (s.purge i) := rfl
theorem noMenV_nil (v : V) : noMenV [] v = true := rfl
theorem noMenV_d (l : List Nat) (x : D) : noMenV l (.u (.c (.d x))) = true := List.all_eq_true.2 fun _ _ => rfl
theorem noMenV_nl (l : List Nat) : noMenV l (.u (.c .nl)) = true := List.all_eq_true.2 fun _ _ => rfl
theorem noMenV_ptr (l : List Nat) (i o : Nat) : noMenV l (.u (.c (.ptr i o))) = l.all fun d => i != d := by
  unfold noMenV; congr 1
theorem noMenV_sl (l : List Nat) (i o n : Nat) : noMenV l (.u (.c (.sl i o n))) = l.all fun d => i != d := by
  unfold noMenV; congr 1
theorem noMenV_agg (l : List Nat) (cs : List C) : noMenV l (.u (.agg cs)) = l.all fun d => !cs.any (C.men d) := rfl
theorem noMenV_clo (l : List Nat) (f : FuncId) (cs : List C) : noMenV l (.u (.clo f cs)) = l.all fun d => !cs.any (C.men d) := rfl
theorem noMenV_tup (l : List Nat) (us : List U) : noMenV l (.tup us) = l.all fun d => !us.any (U.men d) := rfl
theorem noMenB_row (l : List Nat) (sz : Nat) (cs : List D) (a : Bool) : noMenB l (.row sz cs a) = true := List.all_eq_true.2 fun _ _ => rfl
theorem noMenB_box (l : List Nat) (cs : List C) : noMenB l (.box cs) = l.all fun d => !cs.any (C.men d) := rfl
theorem noMenB_fbox (l : List Nat) (f : FuncId) (cs : List C) : noMenB l (.fbox f cs) = l.all fun d => !cs.any (C.men d) := rfl
theorem noMenV_tr (l : List Nat) (x : Value) (ys : List (List A)) : noMenV l (.tr x ys) = true := List.all_eq_true.2 fun _ _ => rfl
theorem menC_d (d : Nat) (x : D) : C.men d (.d x) = false := rfl
theorem menC_nl (d : Nat) : C.men d .nl = false := rfl
theorem menC_bad (d : Nat) : C.men d .bad = false := rfl
theorem menC_sl (d i o n : Nat) : C.men d (.sl i o n) = (i == d) := rfl
theorem menC_ptr (d i o : Nat) : C.men d (.ptr i o) = (i == d) := rfl
theorem menU_c (d : Nat) (c : C) : U.men d (.c c) = C.men d c := rfl
theorem menU_agg (d : Nat) (cs : List C) : U.men d (.agg cs) = cs.any (C.men d) := rfl
def selT (rd : List Nat) : List (Nat × V) → List (Nat × V)
  | [] => []
  | (k, v) :: r => cond (rd.contains k) ((k, v) :: selT rd r) (selT rd r)
theorem selT_eq (rd : List Nat) : ∀ l, selT rd l = l.filter fun e => rd.contains e.1
  | [] => rfl
  | (k, v) :: r => by
    rw [List.filter_cons, selT, selT_eq rd r]
    cases h : rd.contains k <;> simp [h]
def hasN : List Nat → Nat → Bool
  | [], _ => false
  | a :: r, k => cond (k == a) true (hasN r k)
theorem hasN_eq : ∀ (l : List Nat) (k : Nat), l.contains k = hasN l k
  | [], _ => rfl
  | a :: r, k => by
    rw [List.contains_cons, hasN, hasN_eq r k]
    cases k == a <;> rfl
theorem seen_eq (k : Nat) (rd nh bad ks : List Nat) (S : St) : seen ⟨k, rd, nh, bad, ks⟩ S = ⟨selT rd S.t, hideB nh S.h⟩ := by
  unfold seen; rw [selT_eq]
theorem selT_cons (rd : List Nat) (k : Nat) (v : V) (r : List (Nat × V)) : selT rd ((k, v) :: r) = cond (hasN rd k) ((k, v) :: selT rd r) (selT rd r) := by
  rw [selT, hasN_eq]
theorem hideB_nil (h : List (Nat × Blk)) : hideB [] h = h := rfl
theorem hideB_cons (a : Nat) (r : List Nat) (h : List (Nat × Blk)) : hideB (a :: r) h = h.filter fun e => !hasN (a :: r) e.1 := by
  have : (fun e : Nat × Blk => !hasN (a :: r) e.1) = fun e => !(a :: r).contains e.1 := by funext e; rw [hasN_eq]
  rw [this]
  rfl

theorem eo_move : wpE P T ⟨d, .move x, ty, pos, af, g⟩ st k = wpo ((st.ev x).map .val) k := rfl
theorem eo_assign_nil : wpE P T ⟨d, .assign (.const (.slice none 0 0)), ty, pos, af, g⟩ st k = wpo (d.bind fun d => (T ty).bind fun i => i.sl.bind fun e => (T e).map fun j => .new (.row j.size [] true) (vC (.sl d 0 0))) k := rfl
theorem eo_assign_tmp (i : Nat) : wpE P T ⟨d, .assign (.tmp i), ty, pos, af, g⟩ st k = wpo ((lk i st.t).map .val) k := rfl
theorem eo_assign_int (kd : IntKind) (n : Int) : wpE P T ⟨d, .assign (.const (.int kd n)), ty, pos, af, g⟩ st k = k (.val (vI kd n)) := wpo_some _ _
theorem eo_assign_bool (b : Bool) : wpE P T ⟨d, .assign (.const (.bool b)), ty, pos, af, g⟩ st k = k (.val (vB b)) := wpo_some _ _
theorem eo_assign_agg (cs : Array Value) : wpE P T ⟨d, .assign (.const (.agg cs)), ty, pos, af, g⟩ st k = wpo ((cVal (.agg cs)).map .val) k := rfl
theorem eo_load : wpE P T ⟨d, .load t x, ty, pos, af, g⟩ st k = wpo ((T t).bind fun i => (st.evC x).bind fun c => (st.load i c).map fun u => .val (.u u)) k := rfl
theorem eo_nilCheck : wpE P T ⟨d, .nilCheck x, ty, pos, af, g⟩ st k = wpo ((st.evC x).bind fun c => (nilChk c).map fun c => .val (vC c)) k := rfl
theorem eo_binOp (op : BinOp) (t' : TypeId) : wpE P T ⟨d, .binOp op t x y t', ty, pos, af, g⟩ st k = wpo ((st.ev x).bind fun a => (st.ev y).bind fun b => (binV T op t a b).map .val) k := rfl
theorem eo_fieldAddr (f : Nat) : wpE P T ⟨d, .fieldAddr t x f, ty, pos, af, g⟩ st k = wpo ((T t).bind fun i => (st.evC x).bind fun c => (i.flds[f]?).bind fun p => (T p.2).bind fun j => if j.size = 0 then none else (fldAddr p.1 c).map fun c => .val (vC c)) k := rfl
theorem eo_indexAddr (i : Operand) : wpE P T ⟨d, .indexAddr t x i, ty, pos, af, g⟩ st k = wpo ((T t).bind fun ti => (st.evC x).bind fun c => (st.evI i).bind fun n => (idxAddr T st.h ti n.2 c).map fun c => .val (vC c)) k := rfl
theorem eo_extract (i : Nat) : wpE P T ⟨d, .extract x i, ty, pos, af, g⟩ st k = wpo ((st.ev x).bind fun v => (tupAt i v).map fun u => .val (.u u)) k := rfl
theorem eo_store : wpE P T ⟨d, .store t x y, ty, pos, af, g⟩ st k = wpo ((T t).bind fun i => (st.evC x).bind fun c => (st.evU y).bind fun u => effStore i c u st) k := rfl
theorem eo_call (f : Operand) (args : List Operand) (ts : Array TypeId) : wpE P T ⟨d, .call ⟨.value f, args.toArray, ts⟩, ty, pos, af, g⟩ st k = wpo (st.evU f) (effCall P d args st k) := rfl
theorem eo_builtin (b : Builtin) (args : List Operand) (ts : List TypeId) : wpE P T ⟨d, .call ⟨.builtin b, args.toArray, ts.toArray⟩, ty, pos, af, g⟩ st k = wpo (effBuiltin T b ts args d st) k := rfl
theorem eo_pick (a b c : Operand) : wpE P T ⟨d, .pick c a b, ty, pos, af, g⟩ st k = wpo ((st.evB c).bind fun c => (pickV c (st.ev a) (st.ev b)).map .val) k := rfl
theorem eo_alloc : wpE P T ⟨d, .alloc t, ty, pos, af, g⟩ st k = wpo ((T t).bind fun i => d.map fun d => .new (.box i.zero) (vC (.ptr d 0))) k := rfl
theorem eo_box : wpE P T ⟨d, .box t x, ty, pos, af, g⟩ st k = wpo ((T t).bind fun i => (st.evU x).bind fun u => if u.cells.length = i.size then d.map fun d => .new (.box u.cells) (vC (.ptr d 0)) else none) k := rfl
theorem eo_build (parts : List (Nat × Operand)) : wpE P T ⟨d, .build t parts.toArray, ty, pos, af, g⟩ st k = wpo ((T t).bind fun i => (st.evUs parts).bind fun l => (build T i l).map fun u => .val (.u u)) k := rfl
theorem eo_buildSlice (len : Nat) (parts : List (Nat × Operand)) : wpE P T ⟨d, .buildSlice t len parts.toArray, ty, pos, af, g⟩ st k =
    wpo ((T t).bind fun i => i.sl.bind fun e => (T e).bind fun j => (st.evUs parts).bind fun l => d.bind fun d => effBsl d j len st.h l) k := rfl
theorem eo_makeSlice : wpE P T ⟨d, .makeSlice t x y, ty, pos, af, g⟩ st k = wpo ((T t).bind fun i => i.sl.bind fun e => (T e).bind fun j => (st.evI x).bind fun l => (st.evI y).bind fun c => d.bind fun d => effMksl d j l.2 c.2) k := rfl
theorem eo_slice (lo hi : Option Operand) : wpE P T ⟨d, .slice t x lo hi none, ty, pos, af, g⟩ st k =
    wpo ((T t).bind fun i => (st.evC x).bind fun c => (st.evO lo).bind fun l => (st.evO hi).bind fun h =>
      (match i.sl with | some e => (T e).bind fun j => sliceV st.h c l h j.size | none => if isStr i then sliceS c l h else none).map fun v => .val (vC v)) k := rfl
theorem eo_makeFunc (f : FuncId) (caps : List Operand) : wpE P T ⟨d, .makeFunc (.func f) #[] caps.toArray, ty, pos, af, g⟩ st k = wpo ((caps.mapM st.evC).map fun cs => .val (.u (clo [] f cs))) k := rfl
theorem eo_not : wpE P T ⟨d, .unOp .not t x, ty, pos, af, g⟩ st k = wpo ((st.evB x).map fun b => .val (vB !b)) k := rfl
theorem eo_neg : wpE P T ⟨d, .unOp .neg t x, ty, pos, af, g⟩ st k = wpo ((st.evI x).bind fun p => (fitK p.1 (0 - p.2)).map .val) k := rfl
theorem eo_convert (s : TypeId) : wpE P T ⟨d, .convert s t x, ty, pos, af, g⟩ st k = wpo ((T s).bind fun _ => (T t).bind fun i => (st.evI x).bind fun p => (convI i p.2).map .val) k := rfl
theorem eo_field (f : Nat) : wpE P T ⟨d, .field t x f, ty, pos, af, g⟩ st k = wpo ((T t).bind fun i => (st.evU x).bind fun u => (fieldOf T i f u).map fun u => .val (.u u)) k := rfl
theorem eo_index (i : Operand) : wpE P T ⟨d, .index t x i, ty, pos, af, g⟩ st k = wpo ((T t).bind fun ti => (st.evU x).bind fun u => (st.evI i).bind fun n => (indexOf T ti n.2 u).map fun u => .val (.u u)) k := rfl
theorem wpEA_call (f : Operand) (args : List Operand) (ts : Array TypeId) : wpEA P ⟨d, .call ⟨.value f, args.toArray, ts⟩, ty, pos, af, none⟩ st k = wpo (st.evU f) (effAC P d args st k) := rfl
theorem effAC_fn (args : List Operand) (h : FuncId) : effAC P d args st k (.c (.d (.fn h []))) = wpo (args.mapM st.evU) (effA P d st k h) := rfl
theorem effCall_fn (args : List Operand) (h : FuncId) (caps : List D) : effCall P d args st k (.c (.d (.fn h caps))) = wpo (args.mapM st.evU) (effArgs P d st k h caps) := rfl
theorem effCall_clo (args : List Operand) (h : FuncId) (cs : List C) : effCall P d args st k (.clo h cs) = wpo (args.mapM st.evU) (effClo P d st k h cs) := rfl
theorem effClo_eq (h : FuncId) (cs : List C) (us : List U) : effClo P d st k h cs us = effArgs P d st k h [] (us ++ cs.map .c) := rfl
theorem effArgs_eq (h : FuncId) (caps : List D) (us : List U) : effArgs P d st k h caps us = wpo (st.argsW (st.reachU us) us caps) (fun as => wpCall P h as (effBack d us k)) := rfl
theorem effBack_eq (us : List U) (res : R) : effBack d us k res = ((res.flat = true ∨ noIds us = true) ∧ k (resEff d res)) := rfl
end

attribute [simp ↓] wpEG_none wpEG_some wpEG'_some wpSteps_nil wpSteps_0 wpSteps_1 wpSteps_2 wpSteps_3 wpSteps_4 wpSteps_5 wpSegs_nil wpSegs_one wpSegs_any
attribute [simp] gateE_bool gateE_none stepsK_val stepsK_dat wpED_bsl wpED_some wpED'_some stepsK_new stepsK_put stepsK_app purges_nil purges_cons noMenV_nil noMenV_d noMenV_nl noMenV_ptr noMenV_sl noMenV_agg noMenV_clo noMenV_tup noMenB_row noMenB_box noMenB_fbox noMenV_tr menC_d menC_nl menC_bad menC_sl menC_ptr menU_c menU_agg
  seen_eq selT.eq_1 selT_cons hasN hideB_nil hideB_cons eo_move eo_assign_nil eo_assign_tmp eo_assign_int eo_assign_bool eo_assign_agg eo_load eo_nilCheck eo_binOp eo_fieldAddr eo_indexAddr eo_extract eo_store eo_call eo_builtin eo_pick eo_alloc eo_box eo_build eo_buildSlice eo_makeSlice eo_slice eo_makeFunc eo_not eo_neg eo_convert eo_field eo_index
  wpEA_call effAC_fn effCall_fn effCall_clo effClo_eq effArgs_eq effBack_eq resEff noIds noIdsC effStore effBsl effAppGo effApp.eq_1 effApp.eq_2 effMksl effBuiltin

end Go.Va
