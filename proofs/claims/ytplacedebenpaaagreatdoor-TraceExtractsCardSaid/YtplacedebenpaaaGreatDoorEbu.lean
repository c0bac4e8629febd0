/- a part of the proof -/
import Derived.Test.YtplacedebenpaaaGreatDoorETeg
set_option linter.all false
set_option maxRecDepth 100000
set_option maxHeartbeats 4000000
namespace Go.Proofs.YtplacedebenpaaaGreatDoor
open Go.ChangeShapes Go.WideShapes Go.RowKit
theorem jtM:(Tryz.pinned.checked.prog.funcs.any Func.goes)=false:=by kernel_rfl
theorem RK{P:Program}(h:(P.funcs.any Func.goes)=false)(f:FuncId):P.goes f=false:=by
 have a: ∀g:FuncId,((P.funcs[g]?).any Func.goes)=false:=λg=>by
  cases e:P.funcs[g]? with
  |none=>rfl
  |some fn=>
   obtain⟨a,b⟩:=Array.getElem?_eq_some_iff.1 e;have:=Array.any_eq_false.1 h g a;rw[b]at this;simpa using this
 unfold Program.goes;rw[h,Bool.and_false,Bool.or_false];simp[a]
theorem jud:false=Rows.traceExtractsRow.goesBy Tryz.pinned.checked.prog:=by
 unfold OpenClaim.goesBy Program.goesAt Program.goesFrom;rw[traceExtracts_fn,Option.any_some,RK jtM];rfl
end Go.Proofs.YtplacedebenpaaaGreatDoor
