/- The evaluator runs InodesNil: true, whatever it is given. -/
import Derived.Test.YtdooainabamdiaaGreatDoorAw24
import Derived.KernelRfl
set_option linter.unusedSimpArgs false
set_option linter.unusedVariables false
set_option linter.unusedSectionVars false
set_option maxRecDepth 100000
namespace Go.Proofs.YtdooainabamdiaaGreatDoor
open Go.Ev
theorem runs (z0 : Int) (a1x0 : Int) (a1x1 : Int) (a1x2 : Int) (a1x3 : Int) (a1x4 : Int) (a1x5 : Int) (a1x6 : Int) (a1x7 : Int) (a1x8 : Int) (a1x9 : Int) (a1x10 : Int) (a1x11 : Int) (a1x12 : Int) (a1x13 : Int) (a1x14 : Int) (a1x15 : Int) : Go.Ev.isTrue (evX K xawK 100000 (.call 3 [.c (.int .i64 z0), .g [.int .u8 a1x0, .int .i64 a1x1, .int .u32 a1x2, .int .i64 a1x3, .int .u32 a1x4, .int .u32 a1x5, .int .u32 a1x6, .int .u32 a1x7, .int .u32 a1x8, .int .u32 a1x9, .int .u32 a1x10, .int .u32 a1x11, .int .u32 a1x12, .int .u32 a1x13, .int .u32 a1x14, .int .u32 a1x15]] hBegin)) = true := by kernel_rfl
end Go.Proofs.YtdooainabamdiaaGreatDoor
