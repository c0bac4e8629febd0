/- a part of the proof -/
import Derived.Test.YtplacedebenpaaaGreatDoorRows
import Derived.Test.YtplacedebenpaaaGreatDoorCards
import Derived.SevenTiedAt
import Derived.JoinedOf
import Derived.WalkKit
set_option linter.all false
set_option maxRecDepth 100000
set_option maxHeartbeats 4000000
namespace Go.Proofs.YtplacedebenpaaaGreatDoor
open Go.ChangeShapes Go.WideShapes Go.RowKit
theorem Kg{a b:Bool}(e:a=true)(f:b=true):(a&&b)=true:=by rw[e,f];rfl
theorem jx0:(Rows.traceExtractsRow.wf (OpenSpec.ofChange Rows.traceExtractsSpec))=true:=by kernel_rfl
theorem jBU:(laidOutB Tryz.pinned.checked.prog)=true:=by kernel_rfl
theorem jt2:(mapsRowed Tryz.pinned.checked.prog)=true:=by kernel_rfl
theorem jA1:(Tryz.f3.params.all (Tryz.pinned.checked.prog.readableRec ·))=true:=by kernel_rfl
theorem jyU:(namedTie Tryz.pinned.checked.prog Rows.traceExtractsRow.named Rows.traceExtractsSpec.vars)=true:=by kernel_rfl
theorem jwe:((Rows.traceExtractsRow.stops==[]))=true:=by kernel_rfl
theorem jAQ:((Tryz.pinned.checked.prog.stops==[]))=true:=by kernel_rfl
theorem jw6:((Rows.traceExtractsRow.knobs==[]))=true:=by kernel_rfl
theorem jyF:((Tryz.pinned.checked.prog.stopKnobs==[]))=true:=by kernel_rfl
theorem juK:((Rows.traceExtractsRow.inPlace==Tryz.pinned.checked.prog.inPlace 3))=true:=by kernel_rfl
theorem jvA:((Rows.traceExtractsRow.unfollowed==Tryz.pinned.checked.prog.unfollowed 3))=true:=by kernel_rfl
theorem jyd:((Rows.traceExtractsRow.recurses==Tryz.pinned.checked.prog.recurses 3))=true:=by kernel_rfl
theorem jBc:((Rows.traceExtractsRow.named==Tryz.pinned.checked.prog.varsNamed 3))=true:=by kernel_rfl
theorem ju3:((Rows.traceExtractsRow.maps==(Tryz.f3.params.toList++Rows.traceExtractsSpec.plain.varTypes Tryz.pinned.checked.prog).any (Tryz.pinned.checked.prog.mapsRec ·)))=true:=by kernel_rfl
theorem juI:((Rows.traceExtractsRow.ifaces==(Tryz.f3.params.toList++Rows.traceExtractsSpec.plain.varTypes Tryz.pinned.checked.prog).any (Tryz.pinned.checked.prog.ifacesRec ·)))=true:=by kernel_rfl
theorem jxj:((Rows.traceExtractsRow.mapsOut==Tryz.pinned.checked.prog.mapsAmong Tryz.f3.resultTypes.toList))=true:=by kernel_rfl
theorem jwc:((Rows.traceExtractsRow.loops==(Tryz.f3.params.toList++Rows.traceExtractsSpec.plain.varTypes Tryz.pinned.checked.prog).any (Tryz.pinned.checked.prog.loopsFrom ·)))=true:=by kernel_rfl
theorem jvN:((Rows.traceExtractsRow.wideKeys==(Tryz.f3.params.toList++Rows.traceExtractsSpec.plain.varTypes Tryz.pinned.checked.prog++Tryz.f3.resultTypes.toList).any (Tryz.pinned.checked.prog.wideKeysFrom ·)))=true:=by kernel_rfl
theorem jBd:(Rows.traceExtractsSpec.vars.all (Tryz.pinned.checked.prog.varReadable ·))=true:=by kernel_rfl
theorem jyz:(Tryz.f3.resultTypes.all (λt=>Tryz.pinned.checked.prog.readableRec t&&decide (t<Tryz.pinned.checked.prog.types.size)))=true:=by kernel_rfl
theorem jBH:((Rows.traceExtractsRow.ifacesOut==Tryz.f3.resultTypes.toList.any (Tryz.pinned.checked.prog.ifacesRec ·)))=true:=by kernel_rfl
theorem jtW:((Rows.traceExtractsRow.loopsOut==Tryz.f3.resultTypes.toList.any (Tryz.pinned.checked.prog.loopsFrom ·)))=true:=by kernel_rfl
theorem jwr:((Rows.traceExtractsRow.plainKeys==Tryz.pinned.checked.prog.plainKeys))=true:=by kernel_rfl
theorem jtS:(Rows.traceExtractsRow.shortTexts.isNone)=true:=by kernel_rfl
theorem jwi:(Tryz.pinned.checked.prog.stopsHeard)=true:=by kernel_rfl
theorem jvl:(Tryz.pinned.checked.prog.mayEnter)=true:=by kernel_rfl
theorem jyy:((Rows.traceExtractsRow.lifted==Tryz.pinned.checked.prog.liftsFinal))=true:=by kernel_rfl
theorem jwn:((Tryz.pinned.checked.prog.make==some Rows.traceExtractsRow.make))=true:=by kernel_rfl
theorem jxI:((Rows.traceExtractsRow.kinds==(if Rows.traceExtractsRow.domain.isEmpty then [] else Tryz.f3.params.toList.map λt=>match Tryz.pinned.checked.prog.underlying t with|some (.int k)=>some k|_=>none)))=true:=by kernel_rfl
theorem ju0:((Rows.traceExtractsRow.pinned==Rows.traceExtractsRow.pinnedBy))=true:=by kernel_rfl
theorem jBO:((Rows.traceExtractsRow.veiled==(Tryz.f3.params.toList++Rows.traceExtractsSpec.plain.varTypes Tryz.pinned.checked.prog++Tryz.f3.resultTypes.toList).any (Tryz.pinned.checked.prog.veiledRec ·)))=true:=by kernel_rfl
theorem jve:(Rows.traceExtractsRow.veiledFits Tryz.pinned.checked.prog Tryz.f3.params.toList (Tryz.f3.params.toList++Rows.traceExtractsSpec.plain.varTypes Tryz.pinned.checked.prog++Tryz.f3.resultTypes.toList))=true:=by kernel_rfl
theorem jA3:joinedFacts Tryz.pinned.checked.prog 3 Tryz.f3 Rows.traceExtractsSpec Rows.traceExtractsRow=true:=by
 unfold joinedFacts;exact(Kg (Kg (Kg (Kg (Kg (Kg (Kg (Kg (Kg (Kg (Kg (Kg (Kg (Kg (Kg (Kg (Kg (Kg (Kg (Kg (Kg (Kg (Kg (Kg (Kg (Kg (Kg (Kg (Kg (Kg (Kg jx0 jBU) jt2) jA1) jyU) jwe) jAQ) jw6) jyF) juK) jvA) jyd) jBc) ju3) juI) jxj) jwc) jvN) jBd) jyz) jBH) jtW) jwr) jtS) jwi) jvl) jyy) jwn) jxI) ju0) jBO) jve)
theorem traceExtracts_fn:Tryz.pinned.checked.prog.funcNamed Rows.traceExtractsRow.func=some 3:=by kernel_rfl
theorem juS:Tryz.f3.isInstance Tryz.pinned.checked.prog Rows.traceExtractsRow.origin Rows.traceExtractsRow.targs:=of_decide_eq_true (by kernel_rfl)
theorem jwA:Tryz.f3.isWrapper Tryz.pinned.checked.prog Rows.traceExtractsRow.wrapper Rows.traceExtractsRow.mainSum:=by unfold Func.isWrapper;first|(rw[if_pos (by decide+kernel)];kernel_rfl)|(rw[if_neg (by decide+kernel)];exact⟨rfl,rfl⟩)
theorem jtu:Rows.traceExtractsRow.wfByText (OpenSpec.ofChange Rows.traceExtractsSpec)=true:=by kernel_rfl
theorem jtB : Tryz.pinned.checked.prog.mainIs = some (true, "600c1864018a70ffd782925b6dcd6c371efe0c222f965e6e87383bce4759d7ab".toList) := by kernel_rfl
theorem jxf:true=Tryz.pinned.checked.prog.looks []:=by kernel_rfl
theorem jyw:([25,34].all λu=> !Tryz.pinned.checked.prog.wantsStandIn u)=true:=by kernel_rfl
end Go.Proofs.YtplacedebenpaaaGreatDoor
