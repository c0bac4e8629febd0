/- a part of the proof -/
import Derived.Test.YtkajmpgbnbikiaaGreatDoorRows
import Derived.Test.YtkajmpgbnbikiaaGreatDoorCards
import Derived.SevenTiedAt
import Derived.JoinedOf
import Derived.WalkKit
set_option linter.all false
set_option maxRecDepth 100000
set_option maxHeartbeats 4000000
namespace Go.Proofs.YtkajmpgbnbikiaaGreatDoor
open Go.ChangeShapes Go.WideShapes Go.RowKit
theorem AV{a b:Bool}(ha:a=true)(hb:b=true):(a&&b)=true:=by rw[ha,hb];rfl
theorem jja:(Rows.tracecheckRightsRow.wf (OpenSpec.ofChange Rows.tracecheckRightsSpec))=true:=by kernel_rfl
theorem jh5:(laidOutB Tryz.pinned.checked.prog)=true:=by kernel_rfl
theorem XV:(mapsRowed Tryz.pinned.checked.prog)=true:=by kernel_rfl
theorem jla:(Tryz.f3.params.all (Tryz.pinned.checked.prog.readableRec ·))=true:=by kernel_rfl
theorem jim:(namedTie Tryz.pinned.checked.prog Rows.tracecheckRightsRow.named Rows.tracecheckRightsSpec.vars)=true:=by kernel_rfl
theorem jng:((Rows.tracecheckRightsRow.stops==[]))=true:=by kernel_rfl
theorem jgn:((Tryz.pinned.checked.prog.stops==[]))=true:=by kernel_rfl
theorem joM:((Rows.tracecheckRightsRow.knobs==[]))=true:=by kernel_rfl
theorem jnO:((Tryz.pinned.checked.prog.stopKnobs==[]))=true:=by kernel_rfl
theorem jaN:((Rows.tracecheckRightsRow.inPlace==Tryz.pinned.checked.prog.inPlace 3))=true:=by kernel_rfl
theorem je5:((Rows.tracecheckRightsRow.unfollowed==Tryz.pinned.checked.prog.unfollowed 3))=true:=by kernel_rfl
theorem jo2:((Rows.tracecheckRightsRow.recurses==Tryz.pinned.checked.prog.recurses 3))=true:=by kernel_rfl
theorem jfr:((Rows.tracecheckRightsRow.named==Tryz.pinned.checked.prog.varsNamed 3))=true:=by kernel_rfl
theorem jds:((Rows.tracecheckRightsRow.maps==(Tryz.f3.params.toList++Rows.tracecheckRightsSpec.plain.varTypes Tryz.pinned.checked.prog).any (Tryz.pinned.checked.prog.mapsRec ·)))=true:=by kernel_rfl
theorem jgx:((Rows.tracecheckRightsRow.ifaces==(Tryz.f3.params.toList++Rows.tracecheckRightsSpec.plain.varTypes Tryz.pinned.checked.prog).any (Tryz.pinned.checked.prog.ifacesRec ·)))=true:=by kernel_rfl
theorem jgT:((Rows.tracecheckRightsRow.mapsOut==Tryz.pinned.checked.prog.mapsAmong Tryz.f3.resultTypes.toList))=true:=by kernel_rfl
theorem jao:((Rows.tracecheckRightsRow.loops==(Tryz.f3.params.toList++Rows.tracecheckRightsSpec.plain.varTypes Tryz.pinned.checked.prog).any (Tryz.pinned.checked.prog.loopsFrom ·)))=true:=by kernel_rfl
theorem jkY:((Rows.tracecheckRightsRow.wideKeys==(Tryz.f3.params.toList++Rows.tracecheckRightsSpec.plain.varTypes Tryz.pinned.checked.prog++Tryz.f3.resultTypes.toList).any (Tryz.pinned.checked.prog.wideKeysFrom ·)))=true:=by kernel_rfl
theorem jlV:(Rows.tracecheckRightsSpec.vars.all (Tryz.pinned.checked.prog.varReadable ·))=true:=by kernel_rfl
theorem jgl:(Tryz.f3.resultTypes.all (fun t=>Tryz.pinned.checked.prog.readableRec t&&decide (t<Tryz.pinned.checked.prog.types.size)))=true:=by kernel_rfl
theorem jkZ:((Rows.tracecheckRightsRow.ifacesOut==Tryz.f3.resultTypes.toList.any (Tryz.pinned.checked.prog.ifacesRec ·)))=true:=by kernel_rfl
theorem YY:((Rows.tracecheckRightsRow.loopsOut==Tryz.f3.resultTypes.toList.any (Tryz.pinned.checked.prog.loopsFrom ·)))=true:=by kernel_rfl
theorem jma:((Rows.tracecheckRightsRow.plainKeys==Tryz.pinned.checked.prog.plainKeys))=true:=by kernel_rfl
theorem X3:(Rows.tracecheckRightsRow.shortTexts.isNone)=true:=by kernel_rfl
theorem jnt:(Tryz.pinned.checked.prog.stopsHeard)=true:=by kernel_rfl
theorem jbf:(Tryz.pinned.checked.prog.mayEnter)=true:=by kernel_rfl
theorem jem:((Rows.tracecheckRightsRow.lifted==Tryz.pinned.checked.prog.liftsFinal))=true:=by kernel_rfl
theorem jhJ:((Tryz.pinned.checked.prog.make==some Rows.tracecheckRightsRow.make))=true:=by kernel_rfl
theorem joz:((Rows.tracecheckRightsRow.kinds==(if Rows.tracecheckRightsRow.domain.isEmpty then [] else Tryz.f3.params.toList.map fun t=>match Tryz.pinned.checked.prog.underlying t with|some (.int k)=>some k|_=>none)))=true:=by kernel_rfl
theorem jaX:((Rows.tracecheckRightsRow.pinned==Rows.tracecheckRightsRow.pinnedBy))=true:=by kernel_rfl
theorem jdT:((Rows.tracecheckRightsRow.veiled==(Tryz.f3.params.toList++Rows.tracecheckRightsSpec.plain.varTypes Tryz.pinned.checked.prog++Tryz.f3.resultTypes.toList).any (Tryz.pinned.checked.prog.veiledRec ·)))=true:=by kernel_rfl
theorem joC:(Rows.tracecheckRightsRow.veiledFits Tryz.pinned.checked.prog Tryz.f3.params.toList (Tryz.f3.params.toList++Rows.tracecheckRightsSpec.plain.varTypes Tryz.pinned.checked.prog++Tryz.f3.resultTypes.toList))=true:=by kernel_rfl
theorem jhr:joinedFacts Tryz.pinned.checked.prog 3 Tryz.f3 Rows.tracecheckRightsSpec Rows.tracecheckRightsRow=true:=by
 unfold joinedFacts;exact(AV (AV (AV (AV (AV (AV (AV (AV (AV (AV (AV (AV (AV (AV (AV (AV (AV (AV (AV (AV (AV (AV (AV (AV (AV (AV (AV (AV (AV (AV (AV jja jh5) XV) jla) jim) jng) jgn) joM) jnO) jaN) je5) jo2) jfr) jds) jgx) jgT) jao) jkY) jlV) jgl) jkZ) YY) jma) X3) jnt) jbf) jem) jhJ) joz) jaX) jdT) joC)
theorem tracecheckRights_fn:Tryz.pinned.checked.prog.funcNamed Rows.tracecheckRightsRow.func=some 3:=by kernel_rfl
theorem jbm:Tryz.f3.isInstance Tryz.pinned.checked.prog Rows.tracecheckRightsRow.origin Rows.tracecheckRightsRow.targs:=of_decide_eq_true (by kernel_rfl)
theorem jb7:Tryz.f3.isWrapper Tryz.pinned.checked.prog Rows.tracecheckRightsRow.wrapper Rows.tracecheckRightsRow.mainSum:=by unfold Func.isWrapper;first|(rw[if_pos (by decide+kernel)];kernel_rfl)|(rw[if_neg (by decide+kernel)];exact⟨rfl,rfl⟩)
theorem ZK:Rows.tracecheckRightsRow.wfByText (OpenSpec.ofChange Rows.tracecheckRightsSpec)=true:=by kernel_rfl
theorem jm5 : Tryz.pinned.checked.prog.mainIs = some (true, "a0aada195ddccd03b8a1908b08d949cebd243c8425d48db0cd310ea2ca3c8823".toList) := by kernel_rfl
theorem ji0:true=Tryz.pinned.checked.prog.looks []:=by kernel_rfl
theorem jc7:([25,3].all fun u=> !Tryz.pinned.checked.prog.wantsStandIn u)=true:=by kernel_rfl
theorem jmO:false=Rows.tracecheckRightsRow.goesBy Tryz.pinned.checked.prog:=by kernel_rfl
end Go.Proofs.YtkajmpgbnbikiaaGreatDoor
