/- The evaluator runs OrphansNil: true, whatever it is given. -/
import Derived.Test.YtnaikpjbjibemaaGreatDoorAw27
import Derived.KernelRfl
set_option linter.unusedSimpArgs false
set_option linter.unusedVariables false
set_option linter.unusedSectionVars false
set_option maxRecDepth 100000
namespace Go.Proofs.YtnaikpjbjibemaaGreatDoor
open Go.Ev
theorem runs (z0 : Int) (z1 : Int) : Go.Ev.isTrue (evX K xawK 100000 (.call 3 [.c (.int .i64 z0), .c (.int .i64 z1)] hBegin)) = true := by kernel_rfl
end Go.Proofs.YtnaikpjbjibemaaGreatDoor
