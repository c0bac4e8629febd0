/- a part of the proof -/
import Derived.Test.YtkajmpgbnbikiaaGreatDoorRows
import Derived.Test.YtkajmpgbnbikiaaGreatDoorCards
import Derived.SevenTiedAt
import Derived.JoinedOf
import Derived.WalkKit
set_option linter.all false
set_option maxRecDepth 100000
set_option maxHeartbeats 4000000
namespace Go.Proofs.YtkajmpgbnbikiaaGreatDoor
open Go.ChangeShapes Go.WideShapes Go.RowKit
theorem Bl{a b:Bool}(ha:a=true)(hb:b=true):(a&&b)=true:=by rw[ha,hb];rfl
theorem jct:(Rows.tracecheckMeetsRow.wf (OpenSpec.ofChange Rows.tracecheckMeetsSpec))=true:=by kernel_rfl
theorem jfO:(laidOutB Tryz.pinned.checked.prog)=true:=by kernel_rfl
theorem jcR:(mapsRowed Tryz.pinned.checked.prog)=true:=by kernel_rfl
theorem YY:(Tryz.f5.params.all (Tryz.pinned.checked.prog.readableRec ·))=true:=by kernel_rfl
theorem jfP:(namedTie Tryz.pinned.checked.prog Rows.tracecheckMeetsRow.named Rows.tracecheckMeetsSpec.vars)=true:=by kernel_rfl
theorem WK:((Rows.tracecheckMeetsRow.stops==[]))=true:=by kernel_rfl
theorem jiz:((Tryz.pinned.checked.prog.stops==[]))=true:=by kernel_rfl
theorem jdl:((Rows.tracecheckMeetsRow.knobs==[]))=true:=by kernel_rfl
theorem Xv:((Tryz.pinned.checked.prog.stopKnobs==[]))=true:=by kernel_rfl
theorem jgv:((Rows.tracecheckMeetsRow.inPlace==Tryz.pinned.checked.prog.inPlace 5))=true:=by kernel_rfl
theorem jhc:((Rows.tracecheckMeetsRow.unfollowed==Tryz.pinned.checked.prog.unfollowed 5))=true:=by kernel_rfl
theorem je9:((Rows.tracecheckMeetsRow.recurses==Tryz.pinned.checked.prog.recurses 5))=true:=by kernel_rfl
theorem jjj:((Rows.tracecheckMeetsRow.named==Tryz.pinned.checked.prog.varsNamed 5))=true:=by kernel_rfl
theorem jaX:((Rows.tracecheckMeetsRow.maps==(Tryz.f5.params.toList++Rows.tracecheckMeetsSpec.plain.varTypes Tryz.pinned.checked.prog).any (Tryz.pinned.checked.prog.mapsRec ·)))=true:=by kernel_rfl
theorem Wa:((Rows.tracecheckMeetsRow.ifaces==(Tryz.f5.params.toList++Rows.tracecheckMeetsSpec.plain.varTypes Tryz.pinned.checked.prog).any (Tryz.pinned.checked.prog.ifacesRec ·)))=true:=by kernel_rfl
theorem jal:((Rows.tracecheckMeetsRow.mapsOut==Tryz.pinned.checked.prog.mapsAmong Tryz.f5.resultTypes.toList))=true:=by kernel_rfl
theorem jeS:((Rows.tracecheckMeetsRow.loops==(Tryz.f5.params.toList++Rows.tracecheckMeetsSpec.plain.varTypes Tryz.pinned.checked.prog).any (Tryz.pinned.checked.prog.loopsFrom ·)))=true:=by kernel_rfl
theorem jkg:((Rows.tracecheckMeetsRow.wideKeys==(Tryz.f5.params.toList++Rows.tracecheckMeetsSpec.plain.varTypes Tryz.pinned.checked.prog++Tryz.f5.resultTypes.toList).any (Tryz.pinned.checked.prog.wideKeysFrom ·)))=true:=by kernel_rfl
theorem jcB:(Rows.tracecheckMeetsSpec.vars.all (Tryz.pinned.checked.prog.varReadable ·))=true:=by kernel_rfl
theorem XO:(Tryz.f5.resultTypes.all (fun t=>Tryz.pinned.checked.prog.readableRec t&&decide (t<Tryz.pinned.checked.prog.types.size)))=true:=by kernel_rfl
theorem jcN:((Rows.tracecheckMeetsRow.ifacesOut==Tryz.f5.resultTypes.toList.any (Tryz.pinned.checked.prog.ifacesRec ·)))=true:=by kernel_rfl
theorem X4:((Rows.tracecheckMeetsRow.loopsOut==Tryz.f5.resultTypes.toList.any (Tryz.pinned.checked.prog.loopsFrom ·)))=true:=by kernel_rfl
theorem jea:((Rows.tracecheckMeetsRow.plainKeys==Tryz.pinned.checked.prog.plainKeys))=true:=by kernel_rfl
theorem jaL:(Rows.tracecheckMeetsRow.shortTexts.isNone)=true:=by kernel_rfl
theorem Ww:(Tryz.pinned.checked.prog.stopsHeard)=true:=by kernel_rfl
theorem XH:(Tryz.pinned.checked.prog.mayEnter)=true:=by kernel_rfl
theorem XL:((Rows.tracecheckMeetsRow.lifted==Tryz.pinned.checked.prog.liftsFinal))=true:=by kernel_rfl
theorem jjT:((Tryz.pinned.checked.prog.make==some Rows.tracecheckMeetsRow.make))=true:=by kernel_rfl
theorem Vr:((Rows.tracecheckMeetsRow.kinds==(if Rows.tracecheckMeetsRow.domain.isEmpty then [] else Tryz.f5.params.toList.map fun t=>match Tryz.pinned.checked.prog.underlying t with|some (.int k)=>some k|_=>none)))=true:=by kernel_rfl
theorem jda:((Rows.tracecheckMeetsRow.pinned==Rows.tracecheckMeetsRow.pinnedBy))=true:=by kernel_rfl
theorem jgD:((Rows.tracecheckMeetsRow.veiled==(Tryz.f5.params.toList++Rows.tracecheckMeetsSpec.plain.varTypes Tryz.pinned.checked.prog++Tryz.f5.resultTypes.toList).any (Tryz.pinned.checked.prog.veiledRec ·)))=true:=by kernel_rfl
theorem Xi:(Rows.tracecheckMeetsRow.veiledFits Tryz.pinned.checked.prog Tryz.f5.params.toList (Tryz.f5.params.toList++Rows.tracecheckMeetsSpec.plain.varTypes Tryz.pinned.checked.prog++Tryz.f5.resultTypes.toList))=true:=by kernel_rfl
theorem jd8:joinedFacts Tryz.pinned.checked.prog 5 Tryz.f5 Rows.tracecheckMeetsSpec Rows.tracecheckMeetsRow=true:=by
 unfold joinedFacts;exact(Bl (Bl (Bl (Bl (Bl (Bl (Bl (Bl (Bl (Bl (Bl (Bl (Bl (Bl (Bl (Bl (Bl (Bl (Bl (Bl (Bl (Bl (Bl (Bl (Bl (Bl (Bl (Bl (Bl (Bl (Bl jct jfO) jcR) YY) jfP) WK) jiz) jdl) Xv) jgv) jhc) je9) jjj) jaX) Wa) jal) jeS) jkg) jcB) XO) jcN) X4) jea) jaL) Ww) XH) XL) jjT) Vr) jda) jgD) Xi)
theorem tracecheckMeets_fn:Tryz.pinned.checked.prog.funcNamed Rows.tracecheckMeetsRow.func=some 5:=by kernel_rfl
theorem Zi:Tryz.f5.isInstance Tryz.pinned.checked.prog Rows.tracecheckMeetsRow.origin Rows.tracecheckMeetsRow.targs:=of_decide_eq_true (by kernel_rfl)
theorem jjS:Tryz.f5.isWrapper Tryz.pinned.checked.prog Rows.tracecheckMeetsRow.wrapper Rows.tracecheckMeetsRow.mainSum:=by unfold Func.isWrapper;first|(rw[if_pos (by decide+kernel)];kernel_rfl)|(rw[if_neg (by decide+kernel)];exact⟨rfl,rfl⟩)
theorem Zd:Rows.tracecheckMeetsRow.wfByText (OpenSpec.ofChange Rows.tracecheckMeetsSpec)=true:=by kernel_rfl
theorem jc5 : Tryz.pinned.checked.prog.mainIs = some (true, "a0aada195ddccd03b8a1908b08d949cebd243c8425d48db0cd310ea2ca3c8823".toList) := by kernel_rfl
theorem WW:true=Tryz.pinned.checked.prog.looks []:=by kernel_rfl
theorem jbc:([25,38].all fun u=> !Tryz.pinned.checked.prog.wantsStandIn u)=true:=by kernel_rfl
theorem jie:false=Rows.tracecheckMeetsRow.goesBy Tryz.pinned.checked.prog:=by kernel_rfl
end Go.Proofs.YtkajmpgbnbikiaaGreatDoor
