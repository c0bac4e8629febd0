/- a part of the proof -/
import Derived.Test.YtlgoebgnbkhmmaaGreatDoorRows
import Derived.Test.YtlgoebgnbkhmmaaGreatDoorCards
import Derived.SevenTiedAt
import Derived.JoinedOf
import Derived.WalkKit
set_option linter.all false
set_option maxRecDepth 100000
set_option maxHeartbeats 4000000
namespace Go.Proofs.YtlgoebgnbkhmmaaGreatDoor
open Go.ChangeShapes Go.WideShapes Go.RowKit
theorem D4{a b:Bool}(ha:a=true)(hb:b=true):(a&&b)=true:=by rw[ha,hb];rfl
theorem jjy:(Rows.traceReadsRow.wf (OpenSpec.ofChange Rows.traceReadsSpec))=true:=by kernel_rfl
theorem jov:(laidOutB Tryz.pinned.checked.prog)=true:=by kernel_rfl
theorem jkr:(mapsRowed Tryz.pinned.checked.prog)=true:=by kernel_rfl
theorem jo1:(Tryz.f3.params.all (Tryz.pinned.checked.prog.readableRec ·))=true:=by kernel_rfl
theorem jm5:(namedTie Tryz.pinned.checked.prog Rows.traceReadsRow.named Rows.traceReadsSpec.vars)=true:=by kernel_rfl
theorem jji:((Rows.traceReadsRow.stops==[]))=true:=by kernel_rfl
theorem jh1:((Tryz.pinned.checked.prog.stops==[]))=true:=by kernel_rfl
theorem jou:((Rows.traceReadsRow.knobs==[]))=true:=by kernel_rfl
theorem jo0:((Tryz.pinned.checked.prog.stopKnobs==[]))=true:=by kernel_rfl
theorem jn0:((Rows.traceReadsRow.inPlace==Tryz.pinned.checked.prog.inPlace 3))=true:=by kernel_rfl
theorem jnO:((Rows.traceReadsRow.unfollowed==Tryz.pinned.checked.prog.unfollowed 3))=true:=by kernel_rfl
theorem joO:((Rows.traceReadsRow.recurses==Tryz.pinned.checked.prog.recurses 3))=true:=by kernel_rfl
theorem jnq:((Rows.traceReadsRow.named==Tryz.pinned.checked.prog.varsNamed 3))=true:=by kernel_rfl
theorem jnZ:((Rows.traceReadsRow.maps==(Tryz.f3.params.toList++Rows.traceReadsSpec.plain.varTypes Tryz.pinned.checked.prog).any (Tryz.pinned.checked.prog.mapsRec ·)))=true:=by kernel_rfl
theorem jod:((Rows.traceReadsRow.ifaces==(Tryz.f3.params.toList++Rows.traceReadsSpec.plain.varTypes Tryz.pinned.checked.prog).any (Tryz.pinned.checked.prog.ifacesRec ·)))=true:=by kernel_rfl
theorem jj1:((Rows.traceReadsRow.mapsOut==Tryz.pinned.checked.prog.mapsAmong Tryz.f3.resultTypes.toList))=true:=by kernel_rfl
theorem joB:((Rows.traceReadsRow.loops==(Tryz.f3.params.toList++Rows.traceReadsSpec.plain.varTypes Tryz.pinned.checked.prog).any (Tryz.pinned.checked.prog.loopsFrom ·)))=true:=by kernel_rfl
theorem jiC:((Rows.traceReadsRow.wideKeys==(Tryz.f3.params.toList++Rows.traceReadsSpec.plain.varTypes Tryz.pinned.checked.prog++Tryz.f3.resultTypes.toList).any (Tryz.pinned.checked.prog.wideKeysFrom ·)))=true:=by kernel_rfl
theorem jof:(Rows.traceReadsSpec.vars.all (Tryz.pinned.checked.prog.varReadable ·))=true:=by kernel_rfl
theorem jpj:(Tryz.f3.resultTypes.all (fun t=>Tryz.pinned.checked.prog.readableRec t&&decide (t<Tryz.pinned.checked.prog.types.size)))=true:=by kernel_rfl
theorem jkJ:((Rows.traceReadsRow.ifacesOut==Tryz.f3.resultTypes.toList.any (Tryz.pinned.checked.prog.ifacesRec ·)))=true:=by kernel_rfl
theorem jmm:((Rows.traceReadsRow.loopsOut==Tryz.f3.resultTypes.toList.any (Tryz.pinned.checked.prog.loopsFrom ·)))=true:=by kernel_rfl
theorem joj:((Rows.traceReadsRow.plainKeys==Tryz.pinned.checked.prog.plainKeys))=true:=by kernel_rfl
theorem jju:(Rows.traceReadsRow.shortTexts.isNone)=true:=by kernel_rfl
theorem jpc:(Tryz.pinned.checked.prog.stopsHeard)=true:=by kernel_rfl
theorem jnE:(Tryz.pinned.checked.prog.mayEnter)=true:=by kernel_rfl
theorem jop:((Rows.traceReadsRow.lifted==Tryz.pinned.checked.prog.liftsFinal))=true:=by kernel_rfl
theorem jpa:((Tryz.pinned.checked.prog.make==some Rows.traceReadsRow.make))=true:=by kernel_rfl
theorem jo7:((Rows.traceReadsRow.kinds==(if Rows.traceReadsRow.domain.isEmpty then [] else Tryz.f3.params.toList.map fun t=>match Tryz.pinned.checked.prog.underlying t with|some (.int k)=>some k|_=>none)))=true:=by kernel_rfl
theorem jl7:((Rows.traceReadsRow.pinned==Rows.traceReadsRow.pinnedBy))=true:=by kernel_rfl
theorem jo3:((Rows.traceReadsRow.veiled==(Tryz.f3.params.toList++Rows.traceReadsSpec.plain.varTypes Tryz.pinned.checked.prog++Tryz.f3.resultTypes.toList).any (Tryz.pinned.checked.prog.veiledRec ·)))=true:=by kernel_rfl
theorem jns:(Rows.traceReadsRow.veiledFits Tryz.pinned.checked.prog Tryz.f3.params.toList (Tryz.f3.params.toList++Rows.traceReadsSpec.plain.varTypes Tryz.pinned.checked.prog++Tryz.f3.resultTypes.toList))=true:=by kernel_rfl
theorem jjH:joinedFacts Tryz.pinned.checked.prog 3 Tryz.f3 Rows.traceReadsSpec Rows.traceReadsRow=true:=by
 unfold joinedFacts;exact(D4 (D4 (D4 (D4 (D4 (D4 (D4 (D4 (D4 (D4 (D4 (D4 (D4 (D4 (D4 (D4 (D4 (D4 (D4 (D4 (D4 (D4 (D4 (D4 (D4 (D4 (D4 (D4 (D4 (D4 (D4 jjy jov) jkr) jo1) jm5) jji) jh1) jou) jo0) jn0) jnO) joO) jnq) jnZ) jod) jj1) joB) jiC) jof) jpj) jkJ) jmm) joj) jju) jpc) jnE) jop) jpa) jo7) jl7) jo3) jns)
theorem traceReads_fn:Tryz.pinned.checked.prog.funcNamed Rows.traceReadsRow.func=some 3:=by kernel_rfl
theorem jpd:Tryz.f3.isInstance Tryz.pinned.checked.prog Rows.traceReadsRow.origin Rows.traceReadsRow.targs:=of_decide_eq_true (by kernel_rfl)
theorem jn4:Tryz.f3.isWrapper Tryz.pinned.checked.prog Rows.traceReadsRow.wrapper Rows.traceReadsRow.mainSum:=by unfold Func.isWrapper;first|(rw[if_pos (by decide+kernel)];kernel_rfl)|(rw[if_neg (by decide+kernel)];exact⟨rfl,rfl⟩)
theorem jnQ:Rows.traceReadsRow.wfByText (OpenSpec.ofChange Rows.traceReadsSpec)=true:=by kernel_rfl
theorem jpg : Tryz.pinned.checked.prog.mainIs = some (true, "e4596107c9ff4a235d341aad1a7c4d4eb4f72918fa00a7e70e78c319fb3c25b9".toList) := by kernel_rfl
theorem joA:true=Tryz.pinned.checked.prog.looks []:=by kernel_rfl
theorem jmG:([9,22].all fun u=> !Tryz.pinned.checked.prog.wantsStandIn u)=true:=by kernel_rfl
end Go.Proofs.YtlgoebgnbkhmmaaGreatDoor
