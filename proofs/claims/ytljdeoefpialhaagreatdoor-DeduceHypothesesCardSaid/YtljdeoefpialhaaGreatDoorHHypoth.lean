/- DeduceHypotheses holds: for every figure that can be read the law returns true, and the argument reads behind the call as it read before; the listed variables are tied to the program's text. -/
import Derived.Test.YtljdeoefpialhaaGreatDoorHba
import Derived.Test.YtljdeoefpialhaaGreatDoorHbv
import Derived.Test.YtljdeoefpialhaaGreatDoorCards
import Derived.SevenTiedAt
import Derived.Test.YtljdeoefpialhaaGreatDoorHThg
import Derived.WalkKit
set_option linter.all false
set_option maxRecDepth 100000
set_option maxHeartbeats 4000000
namespace Go.Proofs.YtljdeoefpialhaaGreatDoor
open Go.Va Go.ChangeShapes Go.WideShapes Go.ChangeAt Go.RowKit
theorem jfB(os:Os)(started:os.Started)(H:Type)(enc:TypeId×Value→H):
  ReturnsInHanded {} Tryz.checked os 3 .any (fun w args=>(Rows.deduceHypothesesSpec.pre enc Tryz.prog Tryz.f3 [] false w args∧laidMetH Tryz.prog Rows.deduceHypothesesRow.laid w)∧sizedMet enc Tryz.prog Tryz.f3 (OpenSpec.ofChange Rows.deduceHypothesesSpec) false w args) (Rows.deduceHypothesesSpec.post enc Tryz.prog Tryz.f3 false true false false):=by
 refine jfF os started H enc (by kernel_rfl) Tryz.func3 rfl (by kernel_rfl) (fun t ht=> ?_) (fun H ds hl=> ?_)
  (ChangeSpec.witness_shaped (enc:=enc) (C:=Tryz.checked) (os:=os) (X:=fun w _=>laidMetH Tryz.prog Rows.deduceHypothesesRow.laid w) false (World.laidAll Tryz.prog os Rows.deduceHypothesesRow.laid) #[.agg #[.slice none 0 0,.slice none 0 0]] 8 (World.laidAll_os _ _ _)
   (World.shaped_of_ZipB (by kernel_rfl) (by kernel_rfl)) (by kernel_rfl) (by kernel_rfl) (by kernel_rfl)
   (by rw[MakeChecks.laidMetH_plain _ _ _ (by kernel_rfl)];exact laidMet_laidAll _ (by kernel_rfl) (by kernel_rfl))) ?_
 ·rw[Tryz.params3]at ht
  have:t=25:=by simpa using ht
  subst this;exact⟨by kernel_rfl,of_decide_eq_true (by kernel_rfl)⟩
 ·rw[Tryz.params3]at hl
  match ds,hl with
  |[d1],_=>rfl
 ·intro W args ds ps base hval hA hwt;rw[Tryz.params3]at hA hwt;obtain⟨v0,vs0,d0,ds0,p0,q0,hargs,rfl,rfl,h0,r0⟩:=trodAll_cons hA;obtain⟨rfl,rfl,rfl⟩:=trodAll_nil r0;obtain rfl:args= #[v0]:=by cases args;simp_all
  obtain⟨l,gs,q1,q2,e0⟩:=jkK h0 (hwt 0 _ _ rfl rfl)
  refine Wv (vals:=[v0]) (jcO l gs q1 q2) ⟨rfl,fun j a v ha hv=> ?_⟩
  match j,ha,hv with
  |0,ha,hv=>cases ha;cases hv;exact e0
theorem jcV:Rows.DeduceHypothesesSaid:=
 OpenClaim.holds_of_wide 3 Tryz.f3 rfl rfl rfl rfl rfl rfl rfl ⟨rfl,rfl,rfl,rfl,rfl⟩ rfl rfl rfl rfl rfl deduceHypotheses_fn Tryz.func3 Yf
  jdK jfs
  (fun os started H enc _=>jfB os started H enc)
theorem hypoth_holds:Rows.DeduceHypothesesCardSaid:=
 Claim7.holds_tied_plain_at .later [] [.data, .data, .data] true (true, "a25dabb8e0d959154ad558ede8709c0186f41efd9c445859ca627bc57e4bea51") false jcV (fun _ h => by cases h) jiC (fun _ h => by cases h) deduceHypotheses_row_tie rfl ⟨rfl, rfl⟩ jdb rfl
  (fun f fn hf hfn=>by
   obtain rfl:f=3:=Option.some.inj (deduceHypotheses_fn.symm.trans hf)|>.symm
   obtain rfl:fn=Tryz.f3:=(Option.some.inj (Tryz.func3.symm.trans hfn)).symm;exact⟨jdH,fun j t ht=>by
    rw[Tryz.params3]at ht
    have hm:t∈[25]:=by simpa using Array.mem_of_getElem? ht
    exact(show Tryz.pinned.checked.prog.wantsStandIn t=false by simpa using List.all_eq_true.1 jiy t hm)⟩)
  jbA
end Go.Proofs.YtljdeoefpialhaaGreatDoor
