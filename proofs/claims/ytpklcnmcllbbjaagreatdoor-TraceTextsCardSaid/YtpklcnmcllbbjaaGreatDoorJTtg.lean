/- a part of the proof -/
import Derived.Test.YtpklcnmcllbbjaaGreatDoorRows
import Derived.Test.YtpklcnmcllbbjaaGreatDoorCards
import Derived.SevenTiedAt
import Derived.JoinedOf
import Derived.WalkKit
set_option linter.all false
set_option maxRecDepth 100000
set_option maxHeartbeats 4000000
namespace Go.Proofs.YtpklcnmcllbbjaaGreatDoor
open Go.ChangeShapes Go.WideShapes Go.RowKit
theorem AQ{a b:Bool}(ha:a=true)(hb:b=true):(a&&b)=true:=by rw[ha,hb];rfl
theorem RS:(Rows.traceTextsRow.wf (OpenSpec.ofChange Rows.traceTextsSpec))=true:=by kernel_rfl
theorem YB:(laidOutB Tryz.pinned.checked.prog)=true:=by kernel_rfl
theorem jbG:(mapsRowed Tryz.pinned.checked.prog)=true:=by kernel_rfl
theorem Tl:(Tryz.f3.params.all (Tryz.pinned.checked.prog.readableRec ·))=true:=by kernel_rfl
theorem W7:(namedTie Tryz.pinned.checked.prog Rows.traceTextsRow.named Rows.traceTextsSpec.vars)=true:=by kernel_rfl
theorem jbK:((Rows.traceTextsRow.stops==[]))=true:=by kernel_rfl
theorem QT:((Tryz.pinned.checked.prog.stops==[]))=true:=by kernel_rfl
theorem jav:((Rows.traceTextsRow.knobs==[]))=true:=by kernel_rfl
theorem VZ:((Tryz.pinned.checked.prog.stopKnobs==[]))=true:=by kernel_rfl
theorem Ty:((Rows.traceTextsRow.inPlace==Tryz.pinned.checked.prog.inPlace 3))=true:=by kernel_rfl
theorem jaw:((Rows.traceTextsRow.unfollowed==Tryz.pinned.checked.prog.unfollowed 3))=true:=by kernel_rfl
theorem VF:((Rows.traceTextsRow.recurses==Tryz.pinned.checked.prog.recurses 3))=true:=by kernel_rfl
theorem Qa:((Rows.traceTextsRow.named==Tryz.pinned.checked.prog.varsNamed 3))=true:=by kernel_rfl
theorem ja9:((Rows.traceTextsRow.maps==(Tryz.f3.params.toList++Rows.traceTextsSpec.plain.varTypes Tryz.pinned.checked.prog).any (Tryz.pinned.checked.prog.mapsRec ·)))=true:=by kernel_rfl
theorem UA:((Rows.traceTextsRow.ifaces==(Tryz.f3.params.toList++Rows.traceTextsSpec.plain.varTypes Tryz.pinned.checked.prog).any (Tryz.pinned.checked.prog.ifacesRec ·)))=true:=by kernel_rfl
theorem UG:((Rows.traceTextsRow.mapsOut==Tryz.pinned.checked.prog.mapsAmong Tryz.f3.resultTypes.toList))=true:=by kernel_rfl
theorem jbX:((Rows.traceTextsRow.loops==(Tryz.f3.params.toList++Rows.traceTextsSpec.plain.varTypes Tryz.pinned.checked.prog).any (Tryz.pinned.checked.prog.loopsFrom ·)))=true:=by kernel_rfl
theorem WE:((Rows.traceTextsRow.wideKeys==(Tryz.f3.params.toList++Rows.traceTextsSpec.plain.varTypes Tryz.pinned.checked.prog++Tryz.f3.resultTypes.toList).any (Tryz.pinned.checked.prog.wideKeysFrom ·)))=true:=by kernel_rfl
theorem So:(Rows.traceTextsSpec.vars.all (Tryz.pinned.checked.prog.varReadable ·))=true:=by kernel_rfl
theorem TX:(Tryz.f3.resultTypes.all (fun t=>Tryz.pinned.checked.prog.readableRec t&&decide (t<Tryz.pinned.checked.prog.types.size)))=true:=by kernel_rfl
theorem Th:((Rows.traceTextsRow.ifacesOut==Tryz.f3.resultTypes.toList.any (Tryz.pinned.checked.prog.ifacesRec ·)))=true:=by kernel_rfl
theorem X4:((Rows.traceTextsRow.loopsOut==Tryz.f3.resultTypes.toList.any (Tryz.pinned.checked.prog.loopsFrom ·)))=true:=by kernel_rfl
theorem Tm:((Rows.traceTextsRow.plainKeys==Tryz.pinned.checked.prog.plainKeys))=true:=by kernel_rfl
theorem UQ:(Rows.traceTextsRow.shortTexts.isNone)=true:=by kernel_rfl
theorem jcA:(Tryz.pinned.checked.prog.stopsHeard)=true:=by kernel_rfl
theorem Yh:(Tryz.pinned.checked.prog.mayEnter)=true:=by kernel_rfl
theorem UZ:((Rows.traceTextsRow.lifted==Tryz.pinned.checked.prog.liftsFinal))=true:=by kernel_rfl
theorem jcw:((Tryz.pinned.checked.prog.make==some Rows.traceTextsRow.make))=true:=by kernel_rfl
theorem UC:((Rows.traceTextsRow.kinds==(if Rows.traceTextsRow.domain.isEmpty then [] else Tryz.f3.params.toList.map fun t=>match Tryz.pinned.checked.prog.underlying t with|some (.int k)=>some k|_=>none)))=true:=by kernel_rfl
theorem YA:((Rows.traceTextsRow.pinned==Rows.traceTextsRow.pinnedBy))=true:=by kernel_rfl
theorem jbN:((Rows.traceTextsRow.veiled==(Tryz.f3.params.toList++Rows.traceTextsSpec.plain.varTypes Tryz.pinned.checked.prog++Tryz.f3.resultTypes.toList).any (Tryz.pinned.checked.prog.veiledRec ·)))=true:=by kernel_rfl
theorem jb3:(Rows.traceTextsRow.veiledFits Tryz.pinned.checked.prog Tryz.f3.params.toList (Tryz.f3.params.toList++Rows.traceTextsSpec.plain.varTypes Tryz.pinned.checked.prog++Tryz.f3.resultTypes.toList))=true:=by kernel_rfl
theorem W1:joinedFacts Tryz.pinned.checked.prog 3 Tryz.f3 Rows.traceTextsSpec Rows.traceTextsRow=true:=by
 unfold joinedFacts;exact(AQ (AQ (AQ (AQ (AQ (AQ (AQ (AQ (AQ (AQ (AQ (AQ (AQ (AQ (AQ (AQ (AQ (AQ (AQ (AQ (AQ (AQ (AQ (AQ (AQ (AQ (AQ (AQ (AQ (AQ (AQ RS YB) jbG) Tl) W7) jbK) QT) jav) VZ) Ty) jaw) VF) Qa) ja9) UA) UG) jbX) WE) So) TX) Th) X4) Tm) UQ) jcA) Yh) UZ) jcw) UC) YA) jbN) jb3)
theorem traceTexts_fn:Tryz.pinned.checked.prog.funcNamed Rows.traceTextsRow.func=some 3:=by kernel_rfl
theorem Wc:Tryz.f3.isInstance Tryz.pinned.checked.prog Rows.traceTextsRow.origin Rows.traceTextsRow.targs:=of_decide_eq_true (by kernel_rfl)
theorem jc6:Tryz.f3.isWrapper Tryz.pinned.checked.prog Rows.traceTextsRow.wrapper Rows.traceTextsRow.mainSum:=by unfold Func.isWrapper;first|(rw[if_pos (by decide+kernel)];kernel_rfl)|(rw[if_neg (by decide+kernel)];exact⟨rfl,rfl⟩)
theorem R6:Rows.traceTextsRow.wfByText (OpenSpec.ofChange Rows.traceTextsSpec)=true:=by kernel_rfl
theorem Xi : Tryz.pinned.checked.prog.mainIs = some (true, "8160d6571587c8d215d6bc6815a29de0951deb2090351d18522172ef61498113".toList) := by kernel_rfl
theorem jbc:true=Tryz.pinned.checked.prog.looks []:=by kernel_rfl
theorem jcx:([25,26].all fun u=> !Tryz.pinned.checked.prog.wantsStandIn u)=true:=by kernel_rfl
end Go.Proofs.YtpklcnmcllbbjaaGreatDoor
