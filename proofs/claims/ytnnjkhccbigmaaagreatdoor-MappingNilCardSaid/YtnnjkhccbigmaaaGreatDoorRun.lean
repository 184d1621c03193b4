/- The evaluator runs MappingNil: true, whatever it is given. -/
import Derived.Test.YtnnjkhccbigmaaaGreatDoorAw25
import Derived.KernelRfl
set_option linter.unusedSimpArgs false
set_option linter.unusedVariables false
set_option linter.unusedSectionVars false
set_option maxRecDepth 100000
namespace Go.Proofs.YtnnjkhccbigmaaaGreatDoor
open Go.Ev
theorem runs (a0x0 : Int) (a0x1 : Int) (a0x2 : Int) (a0x3 : Int) (a0x4 : Int) (a0x5 : Int) (a0x6 : Int) (a0x7 : Int) (a0x8 : Int) (a0x9 : Int) (a0x10 : Int) (a0x11 : Int) (a0x12 : Int) (a0x13 : Int) (a0x14 : Int) (a0x15 : Int) (z1 : Int) (z2 : Int) : Go.Ev.isTrue (evX K xawK 100000 (.call 3 [.g [.int .u8 a0x0, .int .i64 a0x1, .int .u32 a0x2, .int .i64 a0x3, .int .u32 a0x4, .int .u32 a0x5, .int .u32 a0x6, .int .u32 a0x7, .int .u32 a0x8, .int .u32 a0x9, .int .u32 a0x10, .int .u32 a0x11, .int .u32 a0x12, .int .u32 a0x13, .int .u32 a0x14, .int .u32 a0x15], .c (.int .i64 z1), .c (.int .i64 z2)] hBegin)) = true := by kernel_rfl
end Go.Proofs.YtnnjkhccbigmaaaGreatDoor
