/- TracecheckMeets holds: for every deduction and points that can be read the law returns true, and each argument reads behind the call as it read before; the listed variables are tied to the program's text. -/
import Derived.Test.YtkajmpgbnbikiaaGreatDoorMbb
import Derived.Test.YtkajmpgbnbikiaaGreatDoorMbs
import Derived.Test.YtkajmpgbnbikiaaGreatDoorCards
import Derived.SevenTiedAt
import Derived.Test.YtkajmpgbnbikiaaGreatDoorMTmg
import Derived.WalkKit
set_option linter.all false
set_option maxRecDepth 100000
set_option maxHeartbeats 4000000
namespace Go.Proofs.YtkajmpgbnbikiaaGreatDoor
open Go.Va Go.ChangeShapes Go.WideShapes Go.ChangeAt Go.RowKit
theorem jhi(os:Os)(started:os.Started)(H:Type)(enc:TypeId×Value→H):
  ReturnsInHanded {} Tryz.checked os 5 .any (fun w args=>(Rows.tracecheckMeetsSpec.pre enc Tryz.prog Tryz.f5 [] false w args∧laidMetH Tryz.prog Rows.tracecheckMeetsRow.laid w)∧sizedMet enc Tryz.prog Tryz.f5 (OpenSpec.ofChange Rows.tracecheckMeetsSpec) false w args) (Rows.tracecheckMeetsSpec.post enc Tryz.prog Tryz.f5 false true false false):=by
 refine jfr os started H enc (by kernel_rfl) Tryz.func5 rfl (by kernel_rfl) (fun t ht=> ?_) (fun H ds hl=> ?_)
  (ChangeSpec.witness_shaped (enc:=enc) (C:=Tryz.checked) (os:=os) (X:=fun w _=>laidMetH Tryz.prog Rows.tracecheckMeetsRow.laid w) false (World.laidAll Tryz.prog os Rows.tracecheckMeetsRow.laid) #[.agg #[.slice none 0 0,.slice none 0 0],.slice none 0 0] 8 (World.laidAll_os _ _ _)
   (World.shaped_of_ZipB (by kernel_rfl) (by kernel_rfl)) (by kernel_rfl) (by kernel_rfl) (by kernel_rfl)
   (by rw[MakeChecks.laidMetH_plain _ _ _ (by kernel_rfl)];exact laidMet_laidAll _ (by kernel_rfl) (by kernel_rfl))) ?_
 ·rw[Tryz.params5]at ht
  have:t=25∨t=38:=by simpa using ht
  rcases this with rfl|rfl
  ·exact⟨by kernel_rfl,of_decide_eq_true (by kernel_rfl)⟩
  ·exact⟨by kernel_rfl,of_decide_eq_true (by kernel_rfl)⟩
 ·rw[Tryz.params5]at hl
  match ds,hl with
  |[d1,d2],_=>rfl
 ·intro W args ds ps base hval hA;have hp1:Tryz.f5.params[1]? =some 38:=by rw[Tryz.params5];rfl
  rw[Tryz.params5]at hA
  obtain⟨v0,vs0,d0,ds0,p0,q0,hargs,rfl,rfl,h0,r0⟩:=trodAll_cons hA
  obtain⟨v1,vs1,d1,ds1,p1,q1,rfl,rfl,rfl,h1,r1⟩:=trodAll_cons r0
  obtain⟨rfl,rfl,rfl⟩:=trodAll_nil r1
  obtain rfl:args= #[v0,v1]:=by cases args;simp_all
  obtain⟨xs,gs,hin,e0⟩:=jdr h0
  obtain⟨rp,hr,e1⟩:=jiq (hval 1 _ v1 hp1 rfl) h1
  refine YV (vals:=[v0,v1]) (jbq xs gs rp hin hr) ⟨rfl,fun j a v ha hv=> ?_⟩
  match j,ha,hv with
  |0,ha,hv=>cases ha;cases hv;exact e0
  |1,ha,hv=>cases ha;cases hv;exact e1
theorem jcg:Rows.TracecheckMeetsSaid:=
 OpenClaim.holds_of_wide 5 Tryz.f5 rfl rfl rfl rfl rfl rfl rfl ⟨rfl,rfl,rfl,rfl,rfl⟩ rfl rfl rfl rfl rfl tracecheckMeets_fn Tryz.func5 jd8
  Zi jjS
  (fun os started H enc _=>jhi os started H enc)
theorem meets_holds:Rows.TracecheckMeetsCardSaid:=
 Claim7.holds_tied_plain_at .later [] [.data, .data, .data] true (true, "a0aada195ddccd03b8a1908b08d949cebd243c8425d48db0cd310ea2ca3c8823") true jcg (fun _ h => by cases h) Zd (fun _ h => by cases h) tracecheckMeets_row_tie rfl ⟨rfl, rfl⟩ jc5 rfl
  (fun f fn hf hfn=>by
   obtain rfl:f=5:=Option.some.inj (tracecheckMeets_fn.symm.trans hf)|>.symm
   obtain rfl:fn=Tryz.f5:=(Option.some.inj (Tryz.func5.symm.trans hfn)).symm;exact⟨WW,fun j t ht=>by
    rw[Tryz.params5]at ht
    have hm:t∈[25,38]:=by simpa using Array.mem_of_getElem? ht
    exact(show Tryz.pinned.checked.prog.wantsStandIn t=false by simpa using List.all_eq_true.1 jbc t hm)⟩)
  jie
end Go.Proofs.YtkajmpgbnbikiaaGreatDoor
