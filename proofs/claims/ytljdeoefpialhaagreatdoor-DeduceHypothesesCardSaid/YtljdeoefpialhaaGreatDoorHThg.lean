/- a part of the proof -/
import Derived.Test.YtljdeoefpialhaaGreatDoorRows
import Derived.Test.YtljdeoefpialhaaGreatDoorCards
import Derived.SevenTiedAt
import Derived.JoinedOf
import Derived.WalkKit
set_option linter.all false
set_option maxRecDepth 100000
set_option maxHeartbeats 4000000
namespace Go.Proofs.YtljdeoefpialhaaGreatDoor
open Go.ChangeShapes Go.WideShapes Go.RowKit
theorem BA{a b:Bool}(ha:a=true)(hb:b=true):(a&&b)=true:=by rw[ha,hb];rfl
theorem jdi:(Rows.deduceHypothesesRow.wf (OpenSpec.ofChange Rows.deduceHypothesesSpec))=true:=by kernel_rfl
theorem U7:(laidOutB Tryz.pinned.checked.prog)=true:=by kernel_rfl
theorem YN:(mapsRowed Tryz.pinned.checked.prog)=true:=by kernel_rfl
theorem Zu:(Tryz.f3.params.all (Tryz.pinned.checked.prog.readableRec ·))=true:=by kernel_rfl
theorem jbu:(namedTie Tryz.pinned.checked.prog Rows.deduceHypothesesRow.named Rows.deduceHypothesesSpec.vars)=true:=by kernel_rfl
theorem jbU:((Rows.deduceHypothesesRow.stops==[]))=true:=by kernel_rfl
theorem Vc:((Tryz.pinned.checked.prog.stops==[]))=true:=by kernel_rfl
theorem jhB:((Rows.deduceHypothesesRow.knobs==[]))=true:=by kernel_rfl
theorem Zh:((Tryz.pinned.checked.prog.stopKnobs==[]))=true:=by kernel_rfl
theorem YB:((Rows.deduceHypothesesRow.inPlace==Tryz.pinned.checked.prog.inPlace 3))=true:=by kernel_rfl
theorem jib:((Rows.deduceHypothesesRow.unfollowed==Tryz.pinned.checked.prog.unfollowed 3))=true:=by kernel_rfl
theorem jbT:((Rows.deduceHypothesesRow.recurses==Tryz.pinned.checked.prog.recurses 3))=true:=by kernel_rfl
theorem XY:((Rows.deduceHypothesesRow.named==Tryz.pinned.checked.prog.varsNamed 3))=true:=by kernel_rfl
theorem jjo:((Rows.deduceHypothesesRow.maps==(Tryz.f3.params.toList++Rows.deduceHypothesesSpec.plain.varTypes Tryz.pinned.checked.prog).any (Tryz.pinned.checked.prog.mapsRec ·)))=true:=by kernel_rfl
theorem Vh:((Rows.deduceHypothesesRow.ifaces==(Tryz.f3.params.toList++Rows.deduceHypothesesSpec.plain.varTypes Tryz.pinned.checked.prog).any (Tryz.pinned.checked.prog.ifacesRec ·)))=true:=by kernel_rfl
theorem jdd:((Rows.deduceHypothesesRow.mapsOut==Tryz.pinned.checked.prog.mapsAmong Tryz.f3.resultTypes.toList))=true:=by kernel_rfl
theorem jh3:((Rows.deduceHypothesesRow.loops==(Tryz.f3.params.toList++Rows.deduceHypothesesSpec.plain.varTypes Tryz.pinned.checked.prog).any (Tryz.pinned.checked.prog.loopsFrom ·)))=true:=by kernel_rfl
theorem jiu:((Rows.deduceHypothesesRow.wideKeys==(Tryz.f3.params.toList++Rows.deduceHypothesesSpec.plain.varTypes Tryz.pinned.checked.prog++Tryz.f3.resultTypes.toList).any (Tryz.pinned.checked.prog.wideKeysFrom ·)))=true:=by kernel_rfl
theorem ZI:(Rows.deduceHypothesesSpec.vars.all (Tryz.pinned.checked.prog.varReadable ·))=true:=by kernel_rfl
theorem jc9:(Tryz.f3.resultTypes.all (fun t=>Tryz.pinned.checked.prog.readableRec t&&decide (t<Tryz.pinned.checked.prog.types.size)))=true:=by kernel_rfl
theorem Xn:((Rows.deduceHypothesesRow.ifacesOut==Tryz.f3.resultTypes.toList.any (Tryz.pinned.checked.prog.ifacesRec ·)))=true:=by kernel_rfl
theorem jeU:((Rows.deduceHypothesesRow.loopsOut==Tryz.f3.resultTypes.toList.any (Tryz.pinned.checked.prog.loopsFrom ·)))=true:=by kernel_rfl
theorem jkJ:((Rows.deduceHypothesesRow.plainKeys==Tryz.pinned.checked.prog.plainKeys))=true:=by kernel_rfl
theorem jbc:(Rows.deduceHypothesesRow.shortTexts.isNone)=true:=by kernel_rfl
theorem jgI:(Tryz.pinned.checked.prog.stopsHeard)=true:=by kernel_rfl
theorem jdw:(Tryz.pinned.checked.prog.mayEnter)=true:=by kernel_rfl
theorem Vm:((Rows.deduceHypothesesRow.lifted==Tryz.pinned.checked.prog.liftsFinal))=true:=by kernel_rfl
theorem VZ:((Tryz.pinned.checked.prog.make==some Rows.deduceHypothesesRow.make))=true:=by kernel_rfl
theorem jgh:((Rows.deduceHypothesesRow.kinds==(if Rows.deduceHypothesesRow.domain.isEmpty then [] else Tryz.f3.params.toList.map fun t=>match Tryz.pinned.checked.prog.underlying t with|some (.int k)=>some k|_=>none)))=true:=by kernel_rfl
theorem Yj:((Rows.deduceHypothesesRow.pinned==Rows.deduceHypothesesRow.pinnedBy))=true:=by kernel_rfl
theorem jch:((Rows.deduceHypothesesRow.veiled==(Tryz.f3.params.toList++Rows.deduceHypothesesSpec.plain.varTypes Tryz.pinned.checked.prog++Tryz.f3.resultTypes.toList).any (Tryz.pinned.checked.prog.veiledRec ·)))=true:=by kernel_rfl
theorem W0:(Rows.deduceHypothesesRow.veiledFits Tryz.pinned.checked.prog Tryz.f3.params.toList (Tryz.f3.params.toList++Rows.deduceHypothesesSpec.plain.varTypes Tryz.pinned.checked.prog++Tryz.f3.resultTypes.toList))=true:=by kernel_rfl
theorem Yf:joinedFacts Tryz.pinned.checked.prog 3 Tryz.f3 Rows.deduceHypothesesSpec Rows.deduceHypothesesRow=true:=by
 unfold joinedFacts;exact(BA (BA (BA (BA (BA (BA (BA (BA (BA (BA (BA (BA (BA (BA (BA (BA (BA (BA (BA (BA (BA (BA (BA (BA (BA (BA (BA (BA (BA (BA (BA jdi U7) YN) Zu) jbu) jbU) Vc) jhB) Zh) YB) jib) jbT) XY) jjo) Vh) jdd) jh3) jiu) ZI) jc9) Xn) jeU) jkJ) jbc) jgI) jdw) Vm) VZ) jgh) Yj) jch) W0)
theorem deduceHypotheses_fn:Tryz.pinned.checked.prog.funcNamed Rows.deduceHypothesesRow.func=some 3:=by kernel_rfl
theorem jdK:Tryz.f3.isInstance Tryz.pinned.checked.prog Rows.deduceHypothesesRow.origin Rows.deduceHypothesesRow.targs:=of_decide_eq_true (by kernel_rfl)
theorem jfs:Tryz.f3.isWrapper Tryz.pinned.checked.prog Rows.deduceHypothesesRow.wrapper Rows.deduceHypothesesRow.mainSum:=by unfold Func.isWrapper;first|(rw[if_pos (by decide+kernel)];kernel_rfl)|(rw[if_neg (by decide+kernel)];exact⟨rfl,rfl⟩)
theorem jiC:Rows.deduceHypothesesRow.wfByText (OpenSpec.ofChange Rows.deduceHypothesesSpec)=true:=by kernel_rfl
theorem jdb : Tryz.pinned.checked.prog.mainIs = some (true, "a25dabb8e0d959154ad558ede8709c0186f41efd9c445859ca627bc57e4bea51".toList) := by kernel_rfl
theorem jdH:false=Tryz.pinned.checked.prog.looks []:=by kernel_rfl
theorem jiy:([25].all fun u=> !Tryz.pinned.checked.prog.wantsStandIn u)=true:=by kernel_rfl
theorem jbA:false=Rows.deduceHypothesesRow.goesBy Tryz.pinned.checked.prog:=by kernel_rfl
end Go.Proofs.YtljdeoefpialhaaGreatDoor
