/-
  FactVariants holds: for every fact that can be read the law returns true, and the argument reads behind the call as it read before.
-/
import Derived.Test.YtdjgdhbeikdojaaGreatWm
import Derived.Test.YtdjgdhbeikdojaaGreatXb
import Derived.WalkKit
set_option linter.all false

namespace Go.Proofs.YtdjgdhbeikdojaaGreat
open Go.Va Go.ChangeShapes Go.WideShapes Go.ChangeAt Go.RowKit
set_option maxRecDepth 100000
set_option maxHeartbeats 4000000

theorem variants_lifted (os : Os) (started : os.Started) (H : Type) (enc : TypeId × Value → H) :
    ReturnsInHanded {} Tryz.checked os 5 .any (Rows.factVariantsSpec.pre6 enc Tryz.prog Tryz.f5 Rows.factVariantsRow.domain false) (Rows.factVariantsSpec.post enc Tryz.prog Tryz.f5 false true false false) := by
  refine lifted_of os started H enc (by kernel_rfl) Tryz.func5 rfl (by kernel_rfl) (fun t ht => ?_) (fun H ds hl => ?_)
    (ChangeSpec.witness6 (enc := enc) (C := Tryz.checked) false ⟨#[], #[.agg #[.int .i64 0, .slice none 0 0, .bool false, .slice none 0 0, .slice none 0 0]], []⟩ 8 (by kernel_rfl) (by kernel_rfl) (by kernel_rfl) (by kernel_rfl)) ?_
  · rw [Tryz.params5] at ht
    have : t = 30 := by simpa using ht
    subst this
    exact ⟨by kernel_rfl, of_decide_eq_true (by kernel_rfl)⟩
  · rw [Tryz.params5] at hl
    match ds, hl with
    | [d1], _ => rfl
  · intro W args ds ps base hval hA
    rw [Tryz.params5] at hA
    obtain ⟨v0, vs0, d0, ds0, p0, q0, hargs, rfl, rfl, h0, r0⟩ := trodAll_cons hA
    obtain ⟨rfl, rfl, rfl⟩ := trodAll_nil r0
    obtain rfl : args = #[v0] := by cases args; simp_all
    obtain ⟨f, hf, e0⟩ := open_fact h0
    refine law_calls (vals := [v0]) (variantsLaw_c f ⟨hf.oa, hf.od⟩) ⟨rfl, fun j a v ha hv => ?_⟩
    match j, ha, hv with
    | 0, ha, hv => cases ha; cases hv; exact e0

theorem variants_holds : Rows.FactVariantsSaid :=
  OpenClaim.holds_of_wide 5 Tryz.f5 rfl rfl rfl rfl rfl rfl rfl ⟨rfl, rfl, rfl, rfl, rfl⟩ rfl rfl rfl rfl rfl (by kernel_rfl) Tryz.func5 (by kernel_rfl)
    (of_decide_eq_true (by kernel_rfl)) (by unfold Func.isWrapper; first | (rw [if_pos (by decide +kernel)]; kernel_rfl) | (rw [if_neg (by decide +kernel)]; exact ⟨rfl, rfl⟩))
    (fun os started H enc _ => variants_lifted os started H enc)

end Go.Proofs.YtdjgdhbeikdojaaGreat
