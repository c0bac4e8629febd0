/-
  FactRenames holds: for every fact and every list of numbers that can be read the law returns true, and each argument reads behind the call as it read before.
-/
import Derived.Test.YtdjgdhbeikdojaaGreatWm
import Derived.Test.YtdjgdhbeikdojaaGreatWv
import Derived.WalkKit
set_option linter.all false

namespace Go.Proofs.YtdjgdhbeikdojaaGreat
open Go.Va Go.ChangeShapes Go.WideShapes Go.ChangeAt Go.RowKit
set_option maxRecDepth 100000
set_option maxHeartbeats 4000000

theorem renames_lifted (os : Os) (started : os.Started) (H : Type) (enc : TypeId × Value → H) :
    ReturnsInHanded {} Tryz.checked os 7 .any (Rows.factRenamesSpec.pre6 enc Tryz.prog Tryz.f7 Rows.factRenamesRow.domain false) (Rows.factRenamesSpec.post enc Tryz.prog Tryz.f7 false true false false) := by
  refine lifted_of os started H enc (by kernel_rfl) Tryz.func7 rfl (by kernel_rfl) (fun t ht => ?_) (fun H ds hl => ?_)
    (ChangeSpec.witness6 (enc := enc) (C := Tryz.checked) false ⟨#[], #[.agg #[.int .i64 0, .slice none 0 0, .bool false, .slice none 0 0, .slice none 0 0], .slice none 0 0], []⟩ 8 (by kernel_rfl) (by kernel_rfl) (by kernel_rfl) (by kernel_rfl)) ?_
  · rw [Tryz.params7] at ht
    have : t = 30 ∨ t = 22 := by simpa using ht
    rcases this with rfl | rfl
    · exact ⟨by kernel_rfl, of_decide_eq_true (by kernel_rfl)⟩
    · exact ⟨by kernel_rfl, of_decide_eq_true (by kernel_rfl)⟩
  · rw [Tryz.params7] at hl
    match ds, hl with
    | [d1, d2], _ => rfl
  · intro W args ds ps base hval hA
    rw [Tryz.params7] at hA
    obtain ⟨v0, vs0, d0, ds0, p0, q0, hargs, rfl, rfl, h0, r0⟩ := trodAll_cons hA
    obtain ⟨v1, vs1, d1, ds1, p1, q1, rfl, rfl, rfl, h1, r1⟩ := trodAll_cons r0
    obtain ⟨rfl, rfl, rfl⟩ := trodAll_nil r1
    obtain rfl : args = #[v0, v1] := by cases args; simp_all
    obtain ⟨f, hf, e0⟩ := open_fact h0
    obtain ⟨l, e1⟩ := open_nums (hval 1 22 v1 (by rw [Tryz.params7]; rfl) rfl) h1
    refine law_calls (vals := [v0, v1]) (renames_c f ⟨hf.oa, hf.od⟩ l) ⟨rfl, fun j a v ha hv => ?_⟩
    match j, ha, hv with
    | 0, ha, hv => cases ha; cases hv; exact e0
    | 1, ha, hv => cases ha; cases hv; exact e1

theorem renames_holds : Rows.FactRenamesSaid :=
  OpenClaim.holds_of_wide 7 Tryz.f7 rfl rfl rfl rfl rfl rfl rfl ⟨rfl, rfl, rfl, rfl, rfl⟩ rfl rfl rfl rfl rfl (by kernel_rfl) Tryz.func7 (by kernel_rfl)
    (of_decide_eq_true (by kernel_rfl)) (by unfold Func.isWrapper; first | (rw [if_pos (by decide +kernel)]; kernel_rfl) | (rw [if_neg (by decide +kernel)]; exact ⟨rfl, rfl⟩))
    (fun os started H enc _ => renames_lifted os started H enc)

end Go.Proofs.YtdjgdhbeikdojaaGreat
