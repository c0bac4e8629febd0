/-
  RulesNames holds: for every number the law returns true.
-/
import Derived.Test.YtkfdniccmcolgaaGreatWs
import Derived.Test.YtkfdniccmcolgaaGreatWt
import Derived.WalkKit
set_option linter.all false

namespace Go.Proofs.YtkfdniccmcolgaaGreat
open Go.Va Go.ChangeShapes Go.WideShapes Go.ChangeAt Go.RowKit
set_option maxRecDepth 100000
set_option maxHeartbeats 4000000

theorem names_lifted (os : Os) (started : os.Started) (H : Type) (enc : TypeId × Value → H) :
    ReturnsInHanded {} Tryz.checked os 6 .any (Rows.rulesNamesSpec.pre6 enc Tryz.prog Tryz.f6 Rows.rulesNamesRow.domain false) (Rows.rulesNamesSpec.post enc Tryz.prog Tryz.f6 false true false false) := by
  refine lifted_of os started H enc (by kernel_rfl) Tryz.func6 rfl (by kernel_rfl) (fun t ht => ?_) (fun H ds hl => ?_)
    (ChangeSpec.witness6 (enc := enc) (C := Tryz.checked) false ⟨#[], #[.int .i64 0], []⟩ 8 (by kernel_rfl) (by kernel_rfl) (by kernel_rfl) (by kernel_rfl)) ?_
  · rw [Tryz.params6] at ht
    have : t = 3 := by simpa using ht
    subst this
    exact ⟨by kernel_rfl, of_decide_eq_true (by kernel_rfl)⟩
  · rw [Tryz.params6] at hl
    match ds, hl with
    | [d1], _ => rfl
  · intro W args ds ps base hval hA
    have hp0 : Tryz.f6.params[0]? = some 3 := by rw [Tryz.params6]; rfl
    rw [Tryz.params6] at hA
    obtain ⟨v0, vs0, d0, ds0, p0, q0, hargs, rfl, rfl, h0, r0⟩ := trodAll_cons hA
    obtain ⟨rfl, rfl, rfl⟩ := trodAll_nil r0
    obtain rfl : args = #[v0] := by cases args; simp_all
    obtain ⟨n, e0⟩ := open_int (hval 0 3 v0 hp0 rfl) h0
    refine law_calls (vals := [v0]) (names_c n) ⟨rfl, fun j a v ha hv => ?_⟩
    match j, ha, hv with
    | 0, ha, hv => cases ha; cases hv; exact e0

theorem names_holds : Rows.RulesNamesSaid :=
  OpenClaim.holds_of_wide 6 Tryz.f6 rfl rfl rfl rfl rfl rfl rfl ⟨rfl, rfl, rfl, rfl, rfl⟩ rfl rfl rfl rfl rfl (by kernel_rfl) Tryz.func6 (by kernel_rfl)
    (of_decide_eq_true (by kernel_rfl)) (by unfold Func.isWrapper; first | (rw [if_pos (by decide +kernel)]; kernel_rfl) | (rw [if_neg (by decide +kernel)]; exact ⟨rfl, rfl⟩))
    (fun os started H enc _ => names_lifted os started H enc)

end Go.Proofs.YtkfdniccmcolgaaGreat
