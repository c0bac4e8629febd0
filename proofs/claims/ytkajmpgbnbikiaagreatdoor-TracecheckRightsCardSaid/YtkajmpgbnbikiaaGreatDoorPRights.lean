/- TracecheckRights holds: for every deduction and number of points that can be read the law returns true, and each argument reads behind the call as it read before; the listed variables are tied to the program's text. -/
import Derived.Test.YtkajmpgbnbikiaaGreatDoorPba
import Derived.Test.YtkajmpgbnbikiaaGreatDoorPbj
import Derived.Test.YtkajmpgbnbikiaaGreatDoorCards
import Derived.SevenTiedAt
import Derived.Test.YtkajmpgbnbikiaaGreatDoorPTrg
import Derived.WalkKit
set_option linter.all false
set_option maxRecDepth 100000
set_option maxHeartbeats 4000000
namespace Go.Proofs.YtkajmpgbnbikiaaGreatDoor
open Go.Va Go.ChangeShapes Go.WideShapes Go.ChangeAt Go.RowKit
theorem jgw(os:Os)(started:os.Started)(H:Type)(enc:TypeId×Value→H):
  ReturnsInHanded {} Tryz.checked os 3 .any (fun w args=>(Rows.tracecheckRightsSpec.pre enc Tryz.prog Tryz.f3 [] false w args∧laidMetH Tryz.prog Rows.tracecheckRightsRow.laid w)∧sizedMet enc Tryz.prog Tryz.f3 (OpenSpec.ofChange Rows.tracecheckRightsSpec) false w args) (Rows.tracecheckRightsSpec.post enc Tryz.prog Tryz.f3 false true false false):=by
 refine jdp os started H enc (by kernel_rfl) Tryz.func3 rfl (by kernel_rfl) (fun t ht=> ?_) (fun H ds hl=> ?_)
  (ChangeSpec.witness_shaped (enc:=enc) (C:=Tryz.checked) (os:=os) (X:=fun w _=>laidMetH Tryz.prog Rows.tracecheckRightsRow.laid w) false (World.laidAll Tryz.prog os Rows.tracecheckRightsRow.laid) #[.agg #[.slice none 0 0,.slice none 0 0],.int .i64 0] 8 (World.laidAll_os _ _ _)
   (World.shaped_of_ZipB (by kernel_rfl) (by kernel_rfl)) (by kernel_rfl) (by kernel_rfl) (by kernel_rfl)
   (by rw[MakeChecks.laidMetH_plain _ _ _ (by kernel_rfl)];exact laidMet_laidAll _ (by kernel_rfl) (by kernel_rfl))) ?_
 ·rw[Tryz.params3]at ht
  have:t=25∨t=3:=by simpa using ht
  rcases this with rfl|rfl
  ·exact⟨by kernel_rfl,of_decide_eq_true (by kernel_rfl)⟩
  ·exact⟨by kernel_rfl,of_decide_eq_true (by kernel_rfl)⟩
 ·rw[Tryz.params3]at hl
  match ds,hl with
  |[d1,d2],_=>rfl
 ·intro W args ds ps base hval hA;have hp1:Tryz.f3.params[1]? =some 3:=by rw[Tryz.params3];rfl
  rw[Tryz.params3]at hA
  obtain⟨v0,vs0,d0,ds0,p0,q0,hargs,rfl,rfl,h0,r0⟩:=trodAll_cons hA
  obtain⟨v1,vs1,d1,ds1,p1,q1,rfl,rfl,rfl,h1,r1⟩:=trodAll_cons r0
  obtain⟨rfl,rfl,rfl⟩:=trodAll_nil r1
  obtain rfl:args= #[v0,v1]:=by cases args;simp_all
  obtain⟨xs,gs,hin,e0⟩:=jkU h0
  obtain⟨n,e1⟩:=jmB (hval 1 3 v1 hp1 rfl) h1
  refine jnu (vals:=[v0,v1]) (jeP xs gs n hin) ⟨rfl,fun j a v ha hv=> ?_⟩
  match j,ha,hv with
  |0,ha,hv=>cases ha;cases hv;exact e0
  |1,ha,hv=>cases ha;cases hv;exact e1
theorem jnj:Rows.TracecheckRightsSaid:=
 OpenClaim.holds_of_wide 3 Tryz.f3 rfl rfl rfl rfl rfl rfl rfl ⟨rfl,rfl,rfl,rfl,rfl⟩ rfl rfl rfl rfl rfl tracecheckRights_fn Tryz.func3 jhr
  jbm jb7
  (fun os started H enc _=>jgw os started H enc)
theorem rights_holds:Rows.TracecheckRightsCardSaid:=
 Claim7.holds_tied_plain_at .later [] [.data, .data, .data] true (true, "a0aada195ddccd03b8a1908b08d949cebd243c8425d48db0cd310ea2ca3c8823") true jnj (fun _ h => by cases h) ZK (fun _ h => by cases h) tracecheckRights_row_tie rfl ⟨rfl, rfl⟩ jm5 rfl
  (fun f fn hf hfn=>by
   obtain rfl:f=3:=Option.some.inj (tracecheckRights_fn.symm.trans hf)|>.symm
   obtain rfl:fn=Tryz.f3:=(Option.some.inj (Tryz.func3.symm.trans hfn)).symm;exact⟨ji0,fun j t ht=>by
    rw[Tryz.params3]at ht
    have hm:t∈[25,3]:=by simpa using Array.mem_of_getElem? ht
    exact(show Tryz.pinned.checked.prog.wantsStandIn t=false by simpa using List.all_eq_true.1 jc7 t hm)⟩)
  jmO
end Go.Proofs.YtkajmpgbnbikiaaGreatDoor
