/- The evaluator runs StoreNil: true, whatever the call. -/
import Derived.Test.YtkpiafihfmafkaaGreatDoorCfg
import Derived.Test.YtkpiafihfmafkaaGreatDoorEvRow
import Derived.KernelRfl
set_option maxRecDepth 100000
namespace Go.Proofs.YtkpiafihfmafkaaGreatDoor
open Go.Ev
theorem runs (k a m f : Int) : Go.Ev.isTrue (ev K 100000 (.call 3 [.g [.int .u8 k, .int .i64 a, .int .i64 m, .int .u32 f]] hBegin)) = true := by kernel_rfl
end Go.Proofs.YtkpiafihfmafkaaGreatDoor
