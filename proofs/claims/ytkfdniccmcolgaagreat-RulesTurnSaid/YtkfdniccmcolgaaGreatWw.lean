/-
  RulesTurn holds: for every number and every two facts that can be read the law returns true, and each argument reads behind the call as it read before.
-/
import Derived.Test.YtkfdniccmcolgaaGreatWs
import Derived.Test.YtkfdniccmcolgaaGreatWv
import Derived.WalkKit
set_option linter.all false

namespace Go.Proofs.YtkfdniccmcolgaaGreat
open Go.Va Go.ChangeShapes Go.WideShapes Go.ChangeAt Go.RowKit
set_option maxRecDepth 100000
set_option maxHeartbeats 4000000

theorem turn_lifted (os : Os) (started : os.Started) (H : Type) (enc : TypeId × Value → H) :
    ReturnsInHanded {} Tryz.checked os 5 .any (Rows.rulesTurnSpec.pre6 enc Tryz.prog Tryz.f5 Rows.rulesTurnRow.domain false) (Rows.rulesTurnSpec.post enc Tryz.prog Tryz.f5 false true false false) := by
  refine lifted_of os started H enc (by kernel_rfl) Tryz.func5 rfl (by kernel_rfl) (fun t ht => ?_) (fun H ds hl => ?_)
    (ChangeSpec.witness6 (enc := enc) (C := Tryz.checked) false ⟨#[], #[.int .i64 0, .agg #[.int .i64 0, .slice none 0 0, .bool false, .slice none 0 0, .slice none 0 0], .agg #[.int .i64 0, .slice none 0 0, .bool false, .slice none 0 0, .slice none 0 0]], []⟩ 8 (by kernel_rfl) (by kernel_rfl) (by kernel_rfl) (by kernel_rfl)) ?_
  · rw [Tryz.params5] at ht
    have : t = 3 ∨ t = 39 := by simpa using ht
    rcases this with rfl | rfl
    · exact ⟨by kernel_rfl, of_decide_eq_true (by kernel_rfl)⟩
    · exact ⟨by kernel_rfl, of_decide_eq_true (by kernel_rfl)⟩
  · rw [Tryz.params5] at hl
    match ds, hl with
    | [d1, d2, d3], _ => rfl
  · intro W args ds ps base hval hA
    have hp0 : Tryz.f5.params[0]? = some 3 := by rw [Tryz.params5]; rfl
    rw [Tryz.params5] at hA
    obtain ⟨v0, vs0, d0, ds0, p0, q0, hargs, rfl, rfl, h0, r0⟩ := trodAll_cons hA
    obtain ⟨v1, vs1, d1, ds1, p1, q1, rfl, rfl, rfl, h1, r1⟩ := trodAll_cons r0
    obtain ⟨v2, vs2, d2, ds2, p2, q2, rfl, rfl, rfl, h2, r2⟩ := trodAll_cons r1
    obtain ⟨rfl, rfl, rfl⟩ := trodAll_nil r2
    obtain rfl : args = #[v0, v1, v2] := by cases args; simp_all
    obtain ⟨n, e0⟩ := open_int (hval 0 3 v0 hp0 rfl) h0
    obtain ⟨f, hf, e1⟩ := open_fact h1
    obtain ⟨g, hg, e2⟩ := open_fact h2
    refine law_calls (vals := [v0, v1, v2]) (turn_c n f g ⟨hf.oa, hf.od⟩ ⟨hg.oa, hg.od⟩) ⟨rfl, fun j a v ha hv => ?_⟩
    match j, ha, hv with
    | 0, ha, hv => cases ha; cases hv; exact e0
    | 1, ha, hv => cases ha; cases hv; exact e1
    | 2, ha, hv => cases ha; cases hv; exact e2

theorem turn_holds : Rows.RulesTurnSaid :=
  OpenClaim.holds_of_wide 5 Tryz.f5 rfl rfl rfl rfl rfl rfl rfl ⟨rfl, rfl, rfl, rfl, rfl⟩ rfl rfl rfl rfl rfl (by kernel_rfl) Tryz.func5 (by kernel_rfl)
    (of_decide_eq_true (by kernel_rfl)) (by unfold Func.isWrapper; first | (rw [if_pos (by decide +kernel)]; kernel_rfl) | (rw [if_neg (by decide +kernel)]; exact ⟨rfl, rfl⟩))
    (fun os started H enc _ => turn_lifted os started H enc)

end Go.Proofs.YtkfdniccmcolgaaGreat
