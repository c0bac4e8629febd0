/- RulesApplies holds: for every number and every premises that can be read the law returns true, and each argument reads behind the call as it read before. -/
import Derived.Test.YtkfdniccmcolgaaGreatWaz
import Derived.Test.YtkfdniccmcolgaaGreatWcb
import Derived.WalkKit
set_option linter.all false
set_option maxRecDepth 100000
set_option maxHeartbeats 4000000
namespace Go.Proofs.YtkfdniccmcolgaaGreat
open Go.Va Go.ChangeShapes Go.WideShapes Go.ChangeAt Go.RowKit
theorem jaU(os:Os)(started:os.Started)(H:Type)(enc:TypeId×Value→H):
  ReturnsInHanded {} Tryz.checked os 3 .any (Rows.rulesAppliesSpec.pre6 enc Tryz.prog Tryz.f3 Rows.rulesAppliesRow.domain false) (Rows.rulesAppliesSpec.post enc Tryz.prog Tryz.f3 false true false false):=by
 refine TL os started H enc (by kernel_rfl) Tryz.func3 rfl (by kernel_rfl) (fun t ht=> ?_) (fun H ds hl=> ?_)
  (ChangeSpec.witness6 (enc:=enc) (C:=Tryz.checked) false ⟨#[],#[.int .i64 0,.slice none 0 0],[]⟩ 8 (by kernel_rfl) (by kernel_rfl) (by kernel_rfl) (by kernel_rfl)) ?_
 ·rw[Tryz.params3]at ht
  have:t=3∨t=22:=by simpa using ht
  rcases this with rfl|rfl
  ·exact⟨by kernel_rfl,of_decide_eq_true (by kernel_rfl)⟩
  ·exact⟨by kernel_rfl,of_decide_eq_true (by kernel_rfl)⟩
 ·rw[Tryz.params3]at hl
  match ds,hl with
  |[d1,d2],_=>rfl
 ·intro W args ds ps base hval hA;have hp0:Tryz.f3.params[0]? =some 3:=by rw[Tryz.params3];rfl
  have hp1:Tryz.f3.params[1]? =some 22:=by rw[Tryz.params3];rfl
  rw[Tryz.params3]at hA
  obtain⟨v0,vs0,d0,ds0,p0,q0,hargs,rfl,rfl,h0,r0⟩:=trodAll_cons hA
  obtain⟨v1,vs1,d1,ds1,p1,q1,rfl,rfl,rfl,h1,r1⟩:=trodAll_cons r0
  obtain⟨rfl,rfl,rfl⟩:=trodAll_nil r1
  obtain rfl:args= #[v0,v1]:=by cases args;simp_all
  obtain⟨n,e0⟩:=PJ (hval 0 3 v0 hp0 rfl) h0
  obtain⟨l,hl,e1⟩:=RV (hval 1 _ v1 hp1 rfl) h1
  refine SX (vals:=[v0,v1]) (jaJ n l (fun g hg=>⟨(hl g hg).oa,(hl g hg).od⟩)) ⟨rfl,fun j a v ha hv=> ?_⟩
  match j,ha,hv with
  |0,ha,hv=>cases ha;cases hv;exact e0
  |1,ha,hv=>cases ha;cases hv;exact e1
theorem applies_holds:Rows.RulesAppliesSaid:=
 OpenClaim.holds_of_wide 3 Tryz.f3 rfl rfl rfl rfl rfl rfl rfl ⟨rfl,rfl,rfl,rfl,rfl⟩ rfl rfl rfl rfl rfl (by kernel_rfl) Tryz.func3 (by kernel_rfl)
  (of_decide_eq_true (by kernel_rfl)) (by unfold Func.isWrapper;first|(rw[if_pos (by decide+kernel)];kernel_rfl)|(rw[if_neg (by decide+kernel)];exact⟨rfl,rfl⟩))
  (fun os started H enc _=>jaU os started H enc)
end Go.Proofs.YtkfdniccmcolgaaGreat
