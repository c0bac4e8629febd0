/- a part of the proof -/
import Derived.Test.YtlgoebgnbkhmmaaGreatDoorZTdg
set_option linter.all false
set_option maxRecDepth 100000
set_option maxHeartbeats 4000000
namespace Go.Proofs.YtlgoebgnbkhmmaaGreatDoor
open Go.ChangeShapes Go.WideShapes Go.RowKit
theorem jpb:(Tryz.pinned.checked.prog.funcs.any Func.goes)=false:=by kernel_rfl
theorem RK{P:Program}(h:(P.funcs.any Func.goes)=false)(f:FuncId):P.goes f=false:=by
 have h1: ∀g:FuncId,((P.funcs[g]?).any Func.goes)=false:=fun g=>by
  cases e:P.funcs[g]? with
  |none=>rfl
  |some fn=>
   obtain⟨h1,h2⟩:=Array.getElem?_eq_some_iff.1 e
   have:=Array.any_eq_false.1 h g h1
   rw[h2]at this
   simpa using this
 unfold Program.goes;rw[h,Bool.and_false,Bool.or_false];simp[h1]
theorem jj9:false=Rows.traceReadsRow.goesBy Tryz.pinned.checked.prog:=by
 unfold OpenClaim.goesBy Program.goesAt Program.goesFrom;rw[traceReads_fn,Option.any_some,RK jpb];rfl
end Go.Proofs.YtlgoebgnbkhmmaaGreatDoor
