/- TraceTexts holds: for every deduction and names that can be read the law returns true, and each argument reads behind the call as it read before; the listed variables are tied to the program's text. -/
import Derived.Test.YtpklcnmcllbbjaaGreatDoorJaz
import Derived.Test.YtpklcnmcllbbjaaGreatDoorJbh
import Derived.Test.YtpklcnmcllbbjaaGreatDoorCards
import Derived.SevenTiedAt
import Derived.Test.YtpklcnmcllbbjaaGreatDoorJTtg
import Derived.Test.YtpklcnmcllbbjaaGreatDoorJbj
import Derived.WalkKit
set_option linter.all false
set_option maxRecDepth 100000
set_option maxHeartbeats 4000000
namespace Go.Proofs.YtpklcnmcllbbjaaGreatDoor
open Go.Va Go.ChangeShapes Go.WideShapes Go.ChangeAt Go.RowKit
theorem UH (W : World) (h : laidMetH Tryz.prog Rows.traceTextsRow.laid W) : Lib.TabIs Tryz.prog W "internal/strconv.uint64pow10" .u64 Lib.pow10Tab := by
 rw[MakeChecks.laidMetH_plain _ _ _ (by kernel_rfl)]at h
 have h2:=laidMet.tail (laidMet.tail h);exact Lib.tabIs_of_head (g:=1) (t:=302) (e:=173) (n:=20) (by kernel_rfl) (by kernel_rfl) (by kernel_rfl) (by kernel_rfl) (by kernel_rfl) (by kernel_rfl) h2
theorem Zr(os:Os)(started:os.Started)(H:Type)(enc:TypeId×Value→H):
  ReturnsInHanded {} Tryz.checked os 3 .any (fun w args=>(Rows.traceTextsSpec.pre enc Tryz.prog Tryz.f3 [] false w args∧laidMetH Tryz.prog Rows.traceTextsRow.laid w)∧sizedMet enc Tryz.prog Tryz.f3 (OpenSpec.ofChange Rows.traceTextsSpec) false w args) (Rows.traceTextsSpec.post enc Tryz.prog Tryz.f3 false true false false):=by
 refine Z8 os started H enc (by kernel_rfl) Tryz.func3 rfl (by kernel_rfl) (fun t ht=> ?_) (fun H ds hl=> ?_) UH
  (ChangeSpec.witness_shaped (enc:=enc) (C:=Tryz.checked) (os:=os) (X:=fun w _=>laidMetH Tryz.prog Rows.traceTextsRow.laid w) false (World.laidAll Tryz.prog os Rows.traceTextsRow.laid) #[.agg #[.slice none 0 0,.slice none 0 0],.slice none 0 0] 8 (World.laidAll_os _ _ _)
   (World.shaped_of_ZipB (by kernel_rfl) (by kernel_rfl)) (by kernel_rfl) (by kernel_rfl) (by kernel_rfl)
   (by rw[MakeChecks.laidMetH_plain _ _ _ (by kernel_rfl)];exact laidMet_laidAll _ (by kernel_rfl) (by kernel_rfl))) ?_
 ·rw[Tryz.params3]at ht
  have:t=25∨t=26:=by simpa using ht
  rcases this with rfl|rfl
  ·exact⟨by kernel_rfl,of_decide_eq_true (by kernel_rfl)⟩
  ·exact⟨by kernel_rfl,of_decide_eq_true (by kernel_rfl)⟩
 ·rw[Tryz.params3]at hl
  match ds,hl with
  |[d1,d2],_=>rfl
 ·intro W args ds ps base hg hval hA;have hp1:Tryz.f3.params[1]? =some 26:=by rw[Tryz.params3];rfl
  rw[Tryz.params3]at hA
  obtain⟨v0,vs0,d0,ds0,p0,q0,hargs,rfl,rfl,h0,r0⟩:=trodAll_cons hA
  obtain⟨v1,vs1,d1,ds1,p1,q1,rfl,rfl,rfl,h1,r1⟩:=trodAll_cons r0
  obtain⟨rfl,rfl,rfl⟩:=trodAll_nil r1
  obtain rfl:args= #[v0,v1]:=by cases args;simp_all
  obtain⟨xs,gs,hin,e0⟩:=Qq h0
  obtain⟨ns,e1⟩:=Xg (hval 1 _ v1 hp1 rfl) h1
  refine S1 (vals:=[v0,v1]) (jcD xs gs ns hin) hg ⟨rfl,fun j a v ha hv=> ?_⟩
  match j,ha,hv with
  |0,ha,hv=>cases ha;cases hv;exact e0
  |1,ha,hv=>cases ha;cases hv;exact e1
theorem Qm:Rows.TraceTextsSaid:=
 OpenClaim.holds_of_wide 3 Tryz.f3 rfl rfl rfl rfl rfl rfl rfl ⟨rfl,rfl,rfl,rfl,rfl⟩ rfl rfl rfl rfl rfl traceTexts_fn Tryz.func3 W1
  Wc jc6
  (fun os started H enc _=>Zr os started H enc)
theorem texts_holds:Rows.TraceTextsCardSaid:=
 Claim7.holds_tied_plain_at .later [] [.data, .data, .data, .data, .sentinel, .sentinel, .pinned] true (true, "8160d6571587c8d215d6bc6815a29de0951deb2090351d18522172ef61498113") true Qm (fun _ h => by cases h) R6 (fun _ h => by cases h) traceTexts_row_tie rfl ⟨rfl, rfl⟩ Xi rfl
  (fun f fn hf hfn=>by
   obtain rfl:f=3:=Option.some.inj (traceTexts_fn.symm.trans hf)|>.symm
   obtain rfl:fn=Tryz.f3:=(Option.some.inj (Tryz.func3.symm.trans hfn)).symm;exact⟨jbc,fun j t ht=>by
    rw[Tryz.params3]at ht
    have hm:t∈[25,26]:=by simpa using Array.mem_of_getElem? ht
    exact(show Tryz.pinned.checked.prog.wantsStandIn t=false by simpa using List.all_eq_true.1 jcx t hm)⟩)
  RQ
end Go.Proofs.YtpklcnmcllbbjaaGreatDoor
