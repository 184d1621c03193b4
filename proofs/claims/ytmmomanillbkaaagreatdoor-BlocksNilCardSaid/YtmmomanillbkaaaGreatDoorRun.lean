/- The evaluator runs BlocksNil: true, whatever the block. -/
import Derived.Test.YtmmomanillbkaaaGreatDoorSpecX
import Derived.KernelRfl
set_option linter.unusedSimpArgs false
set_option linter.unusedVariables false
set_option linter.unusedSectionVars false
set_option maxRecDepth 100000
namespace Go.Proofs.YtmmomanillbkaaaGreatDoor
open Go.Ev
theorem runs (b : Int) : Go.Ev.isTrue (evX K x2 100000 (.call 3 [.c (.int .i64 b)] hBegin)) = true := by kernel_rfl
end Go.Proofs.YtmmomanillbkaaaGreatDoor
