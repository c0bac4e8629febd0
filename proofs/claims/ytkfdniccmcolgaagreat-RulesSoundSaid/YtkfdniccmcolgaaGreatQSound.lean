/- RulesSound holds: for every number and every premises and points that can be read the law returns true, and each argument reads behind the call as it read before. -/
import Derived.Test.YtkfdniccmcolgaaGreatQaz
import Derived.Test.YtkfdniccmcolgaaGreatQbi
import Derived.Test.YtkfdniccmcolgaaGreatQbr
import Derived.WalkKit
set_option linter.all false
set_option maxRecDepth 100000
set_option maxHeartbeats 4000000
namespace Go.Proofs.YtkfdniccmcolgaaGreat
open Go.Va Go.ChangeShapes Go.WideShapes Go.ChangeAt Go.RowKit
theorem SW(os:Os)(started:os.Started)(H:Type)(enc:TypeId×Value→H):
  ReturnsInHanded {} Tryz.checked os 7 .any (Rows.rulesSoundSpec.pre6 enc Tryz.prog Tryz.f7 Rows.rulesSoundRow.domain false) (Rows.rulesSoundSpec.post enc Tryz.prog Tryz.f7 false true false false):=by
 refine TL os started H enc (by kernel_rfl) Tryz.func7 rfl (by kernel_rfl) (fun t ht=> ?_) (fun H ds hl=> ?_)
  (ChangeSpec.witness6 (enc:=enc) (C:=Tryz.checked) false ⟨#[],#[.int .i64 0,.slice none 0 0,.slice none 0 0],[]⟩ 8 (by kernel_rfl) (by kernel_rfl) (by kernel_rfl) (by kernel_rfl)) ?_
 ·rw[Tryz.params7]at ht
  have:t=3∨t=22∨t=48:=by simpa using ht
  rcases this with rfl|rfl|rfl
  ·exact⟨by kernel_rfl,of_decide_eq_true (by kernel_rfl)⟩
  ·exact⟨by kernel_rfl,of_decide_eq_true (by kernel_rfl)⟩
  ·exact⟨by kernel_rfl,of_decide_eq_true (by kernel_rfl)⟩
 ·rw[Tryz.params7]at hl
  match ds,hl with
  |[d1,d2,d3],_=>rfl
 ·intro W args ds ps base hval hA;have hp0:Tryz.f7.params[0]? =some 3:=by rw[Tryz.params7];rfl
  have hp1:Tryz.f7.params[1]? =some 22:=by rw[Tryz.params7];rfl
  have hp2:Tryz.f7.params[2]? =some 48:=by rw[Tryz.params7];rfl
  rw[Tryz.params7]at hA
  obtain⟨v0,vs0,d0,ds0,p0,q0,hargs,rfl,rfl,h0,r0⟩:=trodAll_cons hA
  obtain⟨v1,vs1,d1,ds1,p1,q1,rfl,rfl,rfl,h1,r1⟩:=trodAll_cons r0
  obtain⟨v2,vs2,d2,ds2,p2,q2,rfl,rfl,rfl,h2,r2⟩:=trodAll_cons r1
  obtain⟨rfl,rfl,rfl⟩:=trodAll_nil r2
  obtain rfl:args= #[v0,v1,v2]:=by cases args;simp_all
  obtain⟨n,e0⟩:=PJ (hval 0 3 v0 hp0 rfl) h0
  obtain⟨l,hl,e1⟩:=RV (hval 1 _ v1 hp1 rfl) h1
  obtain⟨rp,hr,e2⟩:=Pt (hval 2 _ v2 hp2 rfl) h2
  refine SX (vals:=[v0,v1,v2]) (Li n l (fun g hg=>⟨(hl g hg).oa,(hl g hg).od⟩) rp hr) ⟨rfl,fun j a v ha hv=> ?_⟩
  match j,ha,hv with
  |0,ha,hv=>cases ha;cases hv;exact e0
  |1,ha,hv=>cases ha;cases hv;exact e1
  |2,ha,hv=>cases ha;cases hv;exact e2
theorem sound_holds:Rows.RulesSoundSaid:=
 OpenClaim.holds_of_wide 7 Tryz.f7 rfl rfl rfl rfl rfl rfl rfl ⟨rfl,rfl,rfl,rfl,rfl⟩ rfl rfl rfl rfl rfl (by kernel_rfl) Tryz.func7 (by kernel_rfl)
  (of_decide_eq_true (by kernel_rfl)) (by unfold Func.isWrapper;first|(rw[if_pos (by decide+kernel)];kernel_rfl)|(rw[if_neg (by decide+kernel)];exact⟨rfl,rfl⟩))
  (fun os started H enc _=>SW os started H enc)
end Go.Proofs.YtkfdniccmcolgaaGreat
