/- a part of the proof -/
import Derived.Test.YtfmhdeggclefdaaGreatDoorRows
import Derived.Test.YtfmhdeggclefdaaGreatDoorCards
import Derived.SevenTiedAt
import Derived.JoinedOf
import Derived.WalkKit
set_option linter.all false
set_option maxRecDepth 100000
set_option maxHeartbeats 4000000
namespace Go.Proofs.YtfmhdeggclefdaaGreatDoor
open Go.ChangeShapes Go.WideShapes Go.RowKit
theorem Dj{a b:Bool}(ha:a=true)(hb:b=true):(a&&b)=true:=by rw[ha,hb];rfl
theorem jiV:(Rows.traceBackRow.wf (OpenSpec.ofChange Rows.traceBackSpec))=true:=by kernel_rfl
theorem jjX:(laidOutB Tryz.pinned.checked.prog)=true:=by kernel_rfl
theorem ji6:(mapsRowed Tryz.pinned.checked.prog)=true:=by kernel_rfl
theorem jmQ:(Tryz.f3.params.all (Tryz.pinned.checked.prog.readableRec ·))=true:=by kernel_rfl
theorem jmu:(namedTie Tryz.pinned.checked.prog Rows.traceBackRow.named Rows.traceBackSpec.vars)=true:=by kernel_rfl
theorem jhq:((Rows.traceBackRow.stops==[]))=true:=by kernel_rfl
theorem jhv:((Tryz.pinned.checked.prog.stops==[]))=true:=by kernel_rfl
theorem jfW:((Rows.traceBackRow.knobs==[]))=true:=by kernel_rfl
theorem jlN:((Tryz.pinned.checked.prog.stopKnobs==[]))=true:=by kernel_rfl
theorem jmL:((Rows.traceBackRow.inPlace==Tryz.pinned.checked.prog.inPlace 3))=true:=by kernel_rfl
theorem jjC:((Rows.traceBackRow.unfollowed==Tryz.pinned.checked.prog.unfollowed 3))=true:=by kernel_rfl
theorem jit:((Rows.traceBackRow.recurses==Tryz.pinned.checked.prog.recurses 3))=true:=by kernel_rfl
theorem jm5:((Rows.traceBackRow.named==Tryz.pinned.checked.prog.varsNamed 3))=true:=by kernel_rfl
theorem jhy:((Rows.traceBackRow.maps==(Tryz.f3.params.toList++Rows.traceBackSpec.plain.varTypes Tryz.pinned.checked.prog).any (Tryz.pinned.checked.prog.mapsRec ·)))=true:=by kernel_rfl
theorem jhK:((Rows.traceBackRow.ifaces==(Tryz.f3.params.toList++Rows.traceBackSpec.plain.varTypes Tryz.pinned.checked.prog).any (Tryz.pinned.checked.prog.ifacesRec ·)))=true:=by kernel_rfl
theorem jjr:((Rows.traceBackRow.mapsOut==Tryz.pinned.checked.prog.mapsAmong Tryz.f3.resultTypes.toList))=true:=by kernel_rfl
theorem jh4:((Rows.traceBackRow.loops==(Tryz.f3.params.toList++Rows.traceBackSpec.plain.varTypes Tryz.pinned.checked.prog).any (Tryz.pinned.checked.prog.loopsFrom ·)))=true:=by kernel_rfl
theorem jkJ:((Rows.traceBackRow.wideKeys==(Tryz.f3.params.toList++Rows.traceBackSpec.plain.varTypes Tryz.pinned.checked.prog++Tryz.f3.resultTypes.toList).any (Tryz.pinned.checked.prog.wideKeysFrom ·)))=true:=by kernel_rfl
theorem jmH:(Rows.traceBackSpec.vars.all (Tryz.pinned.checked.prog.varReadable ·))=true:=by kernel_rfl
theorem jiC:(Tryz.f3.resultTypes.all (fun t=>Tryz.pinned.checked.prog.readableRec t&&decide (t<Tryz.pinned.checked.prog.types.size)))=true:=by kernel_rfl
theorem jh1:((Rows.traceBackRow.ifacesOut==Tryz.f3.resultTypes.toList.any (Tryz.pinned.checked.prog.ifacesRec ·)))=true:=by kernel_rfl
theorem jmG:((Rows.traceBackRow.loopsOut==Tryz.f3.resultTypes.toList.any (Tryz.pinned.checked.prog.loopsFrom ·)))=true:=by kernel_rfl
theorem jmY:((Rows.traceBackRow.plainKeys==Tryz.pinned.checked.prog.plainKeys))=true:=by kernel_rfl
theorem jhw:(Rows.traceBackRow.shortTexts.isNone)=true:=by kernel_rfl
theorem jj6:(Tryz.pinned.checked.prog.stopsHeard)=true:=by kernel_rfl
theorem jlE:(Tryz.pinned.checked.prog.mayEnter)=true:=by kernel_rfl
theorem jgD:((Rows.traceBackRow.lifted==Tryz.pinned.checked.prog.liftsFinal))=true:=by kernel_rfl
theorem jmm:((Tryz.pinned.checked.prog.make==some Rows.traceBackRow.make))=true:=by kernel_rfl
theorem jlK:((Rows.traceBackRow.kinds==(if Rows.traceBackRow.domain.isEmpty then [] else Tryz.f3.params.toList.map fun t=>match Tryz.pinned.checked.prog.underlying t with|some (.int k)=>some k|_=>none)))=true:=by kernel_rfl
theorem jhZ:((Rows.traceBackRow.pinned==Rows.traceBackRow.pinnedBy))=true:=by kernel_rfl
theorem jkC:((Rows.traceBackRow.veiled==(Tryz.f3.params.toList++Rows.traceBackSpec.plain.varTypes Tryz.pinned.checked.prog++Tryz.f3.resultTypes.toList).any (Tryz.pinned.checked.prog.veiledRec ·)))=true:=by kernel_rfl
theorem jkz:(Rows.traceBackRow.veiledFits Tryz.pinned.checked.prog Tryz.f3.params.toList (Tryz.f3.params.toList++Rows.traceBackSpec.plain.varTypes Tryz.pinned.checked.prog++Tryz.f3.resultTypes.toList))=true:=by kernel_rfl
theorem jif:joinedFacts Tryz.pinned.checked.prog 3 Tryz.f3 Rows.traceBackSpec Rows.traceBackRow=true:=by
 unfold joinedFacts;exact(Dj (Dj (Dj (Dj (Dj (Dj (Dj (Dj (Dj (Dj (Dj (Dj (Dj (Dj (Dj (Dj (Dj (Dj (Dj (Dj (Dj (Dj (Dj (Dj (Dj (Dj (Dj (Dj (Dj (Dj (Dj jiV jjX) ji6) jmQ) jmu) jhq) jhv) jfW) jlN) jmL) jjC) jit) jm5) jhy) jhK) jjr) jh4) jkJ) jmH) jiC) jh1) jmG) jmY) jhw) jj6) jlE) jgD) jmm) jlK) jhZ) jkC) jkz)
theorem traceBack_fn:Tryz.pinned.checked.prog.funcNamed Rows.traceBackRow.func=some 3:=by kernel_rfl
theorem jj3:Tryz.f3.isInstance Tryz.pinned.checked.prog Rows.traceBackRow.origin Rows.traceBackRow.targs:=of_decide_eq_true (by kernel_rfl)
theorem jjo:Tryz.f3.isWrapper Tryz.pinned.checked.prog Rows.traceBackRow.wrapper Rows.traceBackRow.mainSum:=by unfold Func.isWrapper;first|(rw[if_pos (by decide+kernel)];kernel_rfl)|(rw[if_neg (by decide+kernel)];exact⟨rfl,rfl⟩)
theorem jmV:Rows.traceBackRow.wfByText (OpenSpec.ofChange Rows.traceBackSpec)=true:=by kernel_rfl
theorem jhA : Tryz.pinned.checked.prog.mainIs = some (true, "26ed4a33b8a17b4d470ba066ee0b978d68d51153f66aa7da2295726b1f3969e1".toList) := by kernel_rfl
theorem jlP:true=Tryz.pinned.checked.prog.looks []:=by kernel_rfl
theorem jky:([9,25,26].all fun u=> !Tryz.pinned.checked.prog.wantsStandIn u)=true:=by kernel_rfl
end Go.Proofs.YtfmhdeggclefdaaGreatDoor
