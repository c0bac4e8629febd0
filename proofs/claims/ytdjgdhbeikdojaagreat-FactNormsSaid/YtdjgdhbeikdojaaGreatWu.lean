/-
  FactNorms holds: for every two facts that can be read the law returns true, and each argument reads behind the call as it read before.
-/
import Derived.Test.YtdjgdhbeikdojaaGreatWm
import Derived.Test.YtdjgdhbeikdojaaGreatWt
import Derived.WalkKit
set_option linter.all false

namespace Go.Proofs.YtdjgdhbeikdojaaGreat
open Go.Va Go.ChangeShapes Go.WideShapes Go.ChangeAt Go.RowKit
set_option maxRecDepth 100000
set_option maxHeartbeats 4000000

theorem norms_lifted (os : Os) (started : os.Started) (H : Type) (enc : TypeId × Value → H) :
    ReturnsInHanded {} Tryz.checked os 3 .any (Rows.factNormsSpec.pre6 enc Tryz.prog Tryz.f3 Rows.factNormsRow.domain false) (Rows.factNormsSpec.post enc Tryz.prog Tryz.f3 false true false false) := by
  refine lifted_of os started H enc (by kernel_rfl) Tryz.func3 rfl (by kernel_rfl) (fun t ht => ?_) (fun H ds hl => ?_)
    (ChangeSpec.witness6 (enc := enc) (C := Tryz.checked) false ⟨#[], #[.agg #[.int .i64 0, .slice none 0 0, .bool false, .slice none 0 0, .slice none 0 0], .agg #[.int .i64 0, .slice none 0 0, .bool false, .slice none 0 0, .slice none 0 0]], []⟩ 8 (by kernel_rfl) (by kernel_rfl) (by kernel_rfl) (by kernel_rfl)) ?_
  · rw [Tryz.params3] at ht
    have : t = 30 := by simpa using ht
    subst this
    exact ⟨by kernel_rfl, of_decide_eq_true (by kernel_rfl)⟩
  · rw [Tryz.params3] at hl
    match ds, hl with
    | [d1, d2], _ => rfl
  · intro W args ds ps base hval hA
    rw [Tryz.params3] at hA
    obtain ⟨v0, vs0, d0, ds0, p0, q0, hargs, rfl, rfl, h0, r0⟩ := trodAll_cons hA
    obtain ⟨v1, vs1, d1, ds1, p1, q1, rfl, rfl, rfl, h1, r1⟩ := trodAll_cons r0
    obtain ⟨rfl, rfl, rfl⟩ := trodAll_nil r1
    obtain rfl : args = #[v0, v1] := by cases args; simp_all
    obtain ⟨f, hf, e0⟩ := open_fact h0
    obtain ⟨g, hg, e1⟩ := open_fact h1
    refine law_calls (vals := [v0, v1]) (norms_c f g ⟨hf.oa, hf.od⟩ ⟨hg.oa, hg.od⟩) ⟨rfl, fun j a v ha hv => ?_⟩
    match j, ha, hv with
    | 0, ha, hv => cases ha; cases hv; exact e0
    | 1, ha, hv => cases ha; cases hv; exact e1

theorem norms_holds : Rows.FactNormsSaid :=
  OpenClaim.holds_of_wide 3 Tryz.f3 rfl rfl rfl rfl rfl rfl rfl ⟨rfl, rfl, rfl, rfl, rfl⟩ rfl rfl rfl rfl rfl (by kernel_rfl) Tryz.func3 (by kernel_rfl)
    (of_decide_eq_true (by kernel_rfl)) (by unfold Func.isWrapper; first | (rw [if_pos (by decide +kernel)]; kernel_rfl) | (rw [if_neg (by decide +kernel)]; exact ⟨rfl, rfl⟩))
    (fun os started H enc _ => norms_lifted os started H enc)

end Go.Proofs.YtdjgdhbeikdojaaGreat
