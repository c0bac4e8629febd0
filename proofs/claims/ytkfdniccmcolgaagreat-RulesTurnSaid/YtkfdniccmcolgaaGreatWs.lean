/-
  The statements' frame: arguments that are facts or numbers, read as data; a law that answers true.
-/
import Derived.Test.YtkfdniccmcolgaaGreatWf
import Derived.Test.YtkfdniccmcolgaaGreatRows
import Derived.ProofKit
import Derived.OpenShut
import Derived.Carry
import Derived.ChangeSlices
set_option linter.all false

namespace Go.Va
open Go.Proofs Go.ChangeShapes Go.WideShapes Go.ChangeAt Go.RowKit
set_option linter.unusedVariables false
set_option maxRecDepth 100000
set_option maxHeartbeats 4000000
set_option linter.unusedSimpArgs false

section
variable {H : Type} {enc : TypeId × Value → H} {w : World} {base : Nat} {sp : Nat → Bool} {hd : Bool}

/-- No cell is kept out. -/
abbrev Z0 : Addr → Prop := fun _ => False

theorem open_row {e : D → Prop} {a : Addr} {len cap : Nat} {zs : List Int} {k : IntKind} (hl : len ≤ cap) (hm : cap ≤ maxLen) (hz : len ≤ zs.length) (hc : ∀ i, i < zs.length → w.cell? (a.add i) = some (.int k (zs.getD i 0))) :
    RepD w Z0 (.slice len ((zs.take len).map (D.int k))) (.slice (some a) len cap) := by
  have key : ∀ (j : Nat) (x : D), ((zs.take len).map (D.int k))[j]? = some x → j < len ∧ x = .int k (zs.getD j 0) := fun j x hj => by
    rw [List.getElem?_map, List.getElem?_take] at hj
    by_cases h : j < len
    · rw [if_pos h, List.getElem?_eq_getElem (by omega)] at hj
      refine ⟨h, ?_⟩
      rw [List.getD_eq_getElem?_getD, List.getElem?_eq_getElem (by omega)]
      exact (Option.some.inj hj).symm
    · rw [if_neg h] at hj
      cases hj
  have hspot : 0 < len → a.spot = none := fun h => by
    have := hc 0 (by omega)
    unfold Addr.add at this
    rw [if_pos rfl] at this
    unfold World.cell? at this
    split at this
    · split at this
      · cases this
      · rename_i hn
        simpa using hn
    · cases this
  refine .slice len _ a cap (fun j => .int k (zs.getD j 0)) (fun hne => ?_) hl hm (fun j x hj => ?_) (fun j x hj h => h) (fun j x hj => ?_)
  · obtain ⟨x, hx⟩ := List.exists_mem_of_ne_nil _ hne
    obtain ⟨j, hj⟩ := List.getElem?_of_mem hx
    have := (key j x hj).1
    exact hspot (by omega)
  · have hk := key j x hj
    have h1 := hc j (by omega)
    have h2 := hspot (by omega)
    have : a.add j = ⟨a.block, a.off + j, none⟩ := by
      unfold Addr.add
      split
      · rename_i h0
        subst h0
        obtain ⟨b, o, s⟩ := a
        simp only at h2
        subst h2
        rfl
      · rfl
    rw [← this]
    exact h1
  · rw [(key j x hj).2]
    exact .int _ _

theorem open_i64s {fuel : Nat} {cs : List Value} {x : DataW H × List MemPlace} (h : DataW.trod enc Tryz.prog w base sp hd fuel 31 cs = some x) : ∃ (l : List Int) (v : Value), cs = [v] ∧ RepD w Z0 (intsD l) v := by
  rcases open_ints (k := .i64) Tryz.underlying31 Tryz.underlying3 (by kernel_rfl) h with ⟨rfl, _⟩ | ⟨a, len, cap, zs, rfl, _, h1, h2, h3, _, h4, _⟩
  · exact ⟨[], _, rfl, .snil⟩
  · have hz : len ≤ zs.length := by rw [h3]; split <;> omega
    refine ⟨zs.take len, _, rfl, ?_⟩
    have := open_row (e := fun _ => True) h1 h2 hz h4
    have e : (intsD (zs.take len)) = .slice len ((zs.take len).map (D.int .i64)) := by
      show D.slice _ _ = _
      rw [List.length_take, Nat.min_eq_left hz]
      rfl
    rw [e]
    exact this

theorem open_u16s {fuel : Nat} {cs : List Value} {x : DataW H × List MemPlace} (h : DataW.trod enc Tryz.prog w base sp hd fuel 33 cs = some x) : ∃ (l : List Nat) (v : Value), Ok l ∧ cs = [v] ∧ RepD w Z0 (natD l) v := by
  rcases open_ints (k := .u16) Tryz.underlying33 (by kernel_rfl : Tryz.prog.underlying _ = _) (by kernel_rfl) h with ⟨rfl, _⟩ | ⟨a, len, cap, zs, rfl, _, h1, h2, h3, _, h4, h5⟩
  · exact ⟨[], _, Ok.nil, rfl, .snil⟩
  · have hz : len ≤ zs.length := by rw [h3]; split <;> omega
    have hb : ∀ n ∈ zs, 0 ≤ n ∧ n < 65536 := fun n hn => by
      have := h5 n hn
      simp [Lit.wf, IntKind.min, IntKind.max, IntKind.signed, IntKind.bits] at this
      omega
    refine ⟨(zs.take len).map Int.toNat, _, fun y hy => ?_, rfl, ?_⟩
    · obtain ⟨n, hn, rfl⟩ := List.mem_map.1 hy
      have := hb n (List.mem_of_mem_take hn)
      omega
    · have := open_row (e := fun _ => True) h1 h2 hz h4
      have e : natD ((zs.take len).map Int.toNat) = .slice len ((zs.take len).map (D.int .u16)) := by
        show D.slice _ _ = _
        rw [List.length_map, List.length_take, Nat.min_eq_left hz, List.map_map]
        congr 1
        refine List.map_congr_left fun n hn => ?_
        have := hb n (List.mem_of_mem_take hn)
        show D.int .u16 ((n.toNat : Nat) : Int) = _
        rw [Int.toNat_of_nonneg this.1]
      rw [e]
      exact this

/-- A fact that came in. -/
structure InFact (f : Fct) : Prop where
  oa : Ok f.abs
  od : Ok f.den

theorem open_fact {v : Value} {d : DataW H} {p : List MemPlace} (h : DataW.Trod enc Tryz.prog w base sp hd 39 v d p) : ∃ f : Fct, InFact f ∧ A.rep w Z0 (.agg f.ds) v := by
  obtain ⟨fuel, h⟩ := h
  obtain ⟨xs, n, _, _, hlen, _, hf⟩ := DataW.trod_struct Tryz.underlying39 h
  have hc5 : Tryz.prog.cellsOf 39 = 5 := by kernel_rfl
  rw [hc5] at hlen
  have hc3 : Tryz.prog.cellsOf 3 = 1 := by kernel_rfl
  have hc22 : Tryz.prog.cellsOf 31 = 1 := by kernel_rfl
  have hc28 : Tryz.prog.cellsOf 37 = 3 := by kernel_rfl
  have hc26 : Tryz.prog.cellsOf 35 = 2 := by kernel_rfl
  have hc24 : Tryz.prog.cellsOf 33 = 1 := by kernel_rfl
  have hc4 : Tryz.prog.cellsOf 4 = 1 := by kernel_rfl
  have hv : ∃ c0 c1 c2 c3 c4, v = .agg #[c0, c1, c2, c3, c4] := by
    cases v with
    | agg cs =>
      obtain ⟨l⟩ := cs
      have hl : l.length = 5 := hlen
      match l, hl with
      | [c0, c1, c2, c3, c4], _ => exact ⟨c0, c1, c2, c3, c4, rfl⟩
    | _ => simp [Value.cells] at hlen
  obtain ⟨c0, c1, c2, c3, c4, rfl⟩ := hv
  have hcs : (Value.agg #[c0, c1, c2, c3, c4]).cells.toList = [c0, c1, c2, c3, c4] := rfl
  rw [hcs] at hf
  have some_of : ∀ {α : Type} {o : Option α} {l : List α} {i : Nat}, o = l[i]? → i < l.length → ∃ y, o = some y := fun {α o l i} h hi => ⟨l[i], by rw [h, List.getElem?_eq_getElem hi]⟩
  have hx3 : xs.length = 3 := by assumption
  obtain ⟨y0, g0⟩ := some_of (hf 0 _ rfl) (by omega)
  obtain ⟨y1, g1⟩ := some_of (hf 1 _ rfl) (by omega)
  obtain ⟨y2, g2⟩ := some_of (hf 2 _ rfl) (by omega)
  simp only [hc3, hc22, hc28, List.getElem_toArray, List.getElem_cons_zero, List.getElem_cons_succ, List.drop_zero, List.take_succ_cons, List.take_zero, List.drop_succ_cons] at g0 g1 g2
  obtain ⟨k, e0, _, _⟩ := DataW.trod_int Tryz.underlying3 g0
  obtain ⟨l, u1, e1, r1⟩ := open_i64s g1
  obtain ⟨ys, n2, _, _, _, hy2, hf2⟩ := DataW.trod_struct Tryz.underlying37 g2
  have hy2' : ys.length = 2 := hy2
  obtain ⟨z0, k0⟩ := some_of (hf2 0 _ rfl) (by omega)
  obtain ⟨z1, k1⟩ := some_of (hf2 1 _ rfl) (by omega)
  simp only [hc26, hc24, List.getElem_toArray, List.getElem_cons_zero, List.getElem_cons_succ, List.drop_zero, List.take_succ_cons, List.take_zero, List.drop_succ_cons] at k0 k1
  obtain ⟨D4, u4, o4, e4, r4⟩ := open_u16s k1
  obtain ⟨zs, n3, _, _, _, hz2, hf3⟩ := DataW.trod_struct Tryz.underlying35 k0
  have hz2' : zs.length = 2 := hz2
  obtain ⟨q0, j0⟩ := some_of (hf3 0 _ rfl) (by omega)
  obtain ⟨q1, j1⟩ := some_of (hf3 1 _ rfl) (by omega)
  simp only [hc4, hc24, List.getElem_toArray, List.getElem_cons_zero, List.getElem_cons_succ, List.drop_zero, List.take_succ_cons, List.take_zero, List.drop_succ_cons] at j0 j1
  obtain ⟨b, e2, _⟩ := DataW.trod_bool Tryz.underlying4 j0
  obtain ⟨D3, u3, o3, e3, r3⟩ := open_u16s j1
  cases e0; cases e1; cases e2; cases e3; cases e4
  refine ⟨⟨k, l, b, D3, D4⟩, ⟨o3, o4⟩, [_, _, _, _, _], rfl, rfl, fun j x u hx hu => ?_⟩
  match j, hx, hu with
  | 0, hx, hu => cases hx; cases hu; exact .int _ _
  | 1, hx, hu => cases hx; cases hu; exact r1
  | 2, hx, hu => cases hx; cases hu; exact .bool _
  | 3, hx, hu => cases hx; cases hu; exact r3
  | 4, hx, hu => cases hx; cases hu; exact r4

theorem open_int {r : Reach} {b0 : Nat} {v : Value} {d : DataW H} {p : List MemPlace} (hval : Value.okWide Tryz.prog w r b0 3 v) (h : DataW.Trod enc Tryz.prog w base sp hd 3 v d p) : ∃ k : Int, A.rep w Z0 (.c (.int .i64 k)) v := by
  obtain ⟨fuel, h⟩ := h
  obtain ⟨k, e0, _⟩ := DataW.trod_int Tryz.underlying3 h
  refine ⟨k, ?_⟩
  unfold Value.okWide at hval
  rw [Tryz.underlying3] at hval
  simp only at hval
  unfold Cell.okWide at hval
  rw [Tryz.underlying3] at hval
  have : v = .int .i64 k := by
    cases v with
    | agg cs => simp [Cell.ok, Tryz.underlying3] at hval
    | _ => first | (simp [Value.cells] at e0; done) | simpa [Value.cells] using e0
  rw [this]
  exact .int _ _

/-- What came in reads behind the call as it did. -/
theorem trodAll_stays {P : Program} (hl : laidOutB P = true) {W W' : World} (hb : Below W.heap.size W W') : ∀ {ts : List TypeId} {vs : List Value} {ds : List (DataW H)} {ps : List MemPlace},
    (∀ t ∈ ts, P.readableRec t = true ∧ t < P.types.size) → DataW.TrodAll enc P W 0 (fun _ => true) true ts vs ds ps → (∀ x ∈ ps, x.block < W.heap.size) → DataW.TrodAll enc P W' 0 (fun b => decide (b < W.heap.size)) true ts vs ds ps
  | [], vs, ds, ps, _, h, _ => by
    obtain ⟨rfl, rfl, rfl⟩ := trodAll_nil h
    rfl
  | t :: ts, vs, ds, ps, ht, h, hlt => by
    obtain ⟨v, vs', d, ds', p, q, rfl, rfl, rfl, h1, h2⟩ := trodAll_cons h
    have := ht t (by simp)
    exact trodAll_cons_mk (Below.trod hl this.1 this.2 h1 hb (fun x hx => hlt x (by simp [hx]))) (trodAll_stays hl hb (fun t' h' => ht t' (by simp [h'])) h2 (fun x hx => hlt x (by simp [hx])))
end

theorem laidOut : laidOutB Tryz.prog = true := by kernel_rfl
theorem ownKnob' : ownKnob Tryz.prog.godebug = none := by kernel_rfl

/-- A law that answers true, whatever comes in. -/
theorem lifted_of {f : FuncId} {fn : Func} {s : ChangeSpec} (os : Os) (started : os.Started) (H : Type) (enc : TypeId × Value → H) (noInit : Tryz.prog.inits.idxOf? f = none) (hfn : Tryz.prog.funcs[f]? = some fn) (hvars : s.vars = [])
    (hres : fn.resultTypes = #[4]) (hts : ∀ t ∈ fn.params.toList, Tryz.prog.readableRec t = true ∧ t < Tryz.prog.types.size)
    (hspec : ∀ (H : Type) (ds : List (DataW H)), ds.length = fn.params.size → s.fn H ds = { results := [.lit (.bool true)], args := ds })
    (witness : ∃ (w : World) (tape : Tape) (i : Input), w.os = os ∧ (w.forCall tape i).Shaped Tryz.prog ∧ i.vars = [] ∧ Input.okWide Tryz.prog (w.forCall tape i) .any w.heap.size f i ∧
      s.pre6 enc Tryz.prog fn [] false (w.forCall tape i).memory i.args ∧ ({} : Assume).holds Tryz.prog (lone (Frame.enter Tryz.prog f i.args .normal) [] (w.forCall tape i)))
    (hc : ∀ (W : World) (args : Array Value) (ds : List (DataW H)) (ps : List MemPlace) (base : Nat), (∀ (j : Nat) t v, fn.params[j]? = some t → args[j]? = some v → Value.okWide Tryz.prog W .any base t v) → DataW.TrodAll enc Tryz.prog W 0 (fun _ => true) true fn.params.toList args.toList ds ps →
      Calls Tryz.prog f args W fun e W' => e = .returned (.bool true) ∧ Below W.heap.size W W') :
    ReturnsInHanded {} Tryz.checked os f .any (s.pre6 enc Tryz.prog fn [] false) (s.post enc Tryz.prog fn false true false false) := by
  refine returnsInHanded_of_change (C := Tryz.checked) ownKnob' started noInit hfn witness ?_
  intro W base args ds gs before hval hW hcnd _
  have hW' := hW
  obtain ⟨p, q, hA, hV, rfl, hfz, hnd⟩ := hW
  rw [hvars] at hV
  obtain ⟨rfl, rfl⟩ := trodVars_none hV
  have hlen : ∀ {ts : List TypeId} {vs : List Value} {ds : List (DataW H)} {ps : List MemPlace}, DataW.TrodAll enc Tryz.prog W 0 (fun _ => true) true ts vs ds ps → ds.length = ts.length := by
    intro ts
    induction ts with
    | nil => intro vs ds ps h; obtain ⟨_, rfl, _⟩ := trodAll_nil h; rfl
    | cons t ts ih => intro vs ds ps h; obtain ⟨v, vs', d, ds', p, q, rfl, rfl, rfl, h1, h2⟩ := trodAll_cons h; simp [ih h2]
  have hsp : s.fn H (ds ++ []) = { results := [.lit (.bool true)], args := ds } := by
    rw [List.append_nil]
    exact hspec H ds (by simpa using hlen hA)
  refine (hc W args ds p base hval hA).mono fun e W' ⟨he, hb⟩ => ?_
  subst he
  refine ⟨_, rfl, ds, [], p ++ [], [], p, [], hW', ?_, ?_, ?_, ?_, fun h => by cases h⟩
  · rw [hsp, hres]
    exact trodAll_cons_mk (shut_bool Tryz.underlying4 _) trodAll_mk0
  · rw [hsp]
    exact trodAll_stays laidOut hb hts hA (fun x hx => by
      have := hW'.lt x (by simpa using hx)
      exact this)
  · rw [hvars, hsp]; rfl
  · exact hb.frame _

/-- From a contract that answers true. -/
theorem law_calls {f : FuncId} {xs : List A} (hc : CallsF Tryz.prog f xs (.u (.c (.d (.bool true))))) {W : World} {vals : List Value} (hv : RepL (A.rep W Z0) xs vals) :
    Calls Tryz.prog f vals.toArray W fun e W' => e = .returned (.bool true) ∧ Below W.heap.size W W' :=
  (hc.2 W Z0 vals (fun _ h => h.elim) hv).mono fun e W' ⟨v, h1, h2, h3⟩ => by
    obtain ⟨_, o, _, h4⟩ := h3
    have h5 : RepD W' (Out (single 0 [] o) Z0) (.bool true) v := (h4 0).1
    cases h5
    exact ⟨h1, h2.toBelow⟩
end Go.Va
