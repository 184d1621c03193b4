/- inode.place and inode.May, of any inode. -/
import Derived.Test.YteiljiijagmonaaGreatDoorPag
set_option maxRecDepth 100000
set_option maxHeartbeats 4000000
set_option linter.unusedSimpArgs false
set_option linter.unusedVariables false
set_option linter.unusedSectionVars false
namespace Go.Proofs.YteiljiijagmonaaGreatDoor
open Go.Ev
def mB (b:Bool) (r:Option Bool):Option Bool:=match some b with
 | some true=>r
 | r'=>r'
section
variable (Hh:Hearts K Tryz.prog)
include Hh
end
section
variable {ns:Lq} {p k l g s nx:Nat} {ps:Lq}
end
end Go.Proofs.YteiljiijagmonaaGreatDoor
