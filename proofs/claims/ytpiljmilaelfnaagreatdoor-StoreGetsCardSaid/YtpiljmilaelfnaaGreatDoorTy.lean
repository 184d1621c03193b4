/- Types of the program, as the evaluator has them. -/
import Derived.Test.YtpiljmilaelfnaaGreatDoorCfg
import Derived.Test.YtpiljmilaelfnaaGreatDoorFits
import Derived.Test.YtpiljmilaelfnaaGreatDoorEvC
import Derived.KernelRfl
set_option linter.unusedSimpArgs false
set_option linter.unusedVariables false
set_option linter.unusedSectionVars false
set_option maxRecDepth 100000
namespace Go.Proofs.YtpiljmilaelfnaaGreatDoor
open Go.Ev
theorem gl : K.globs = Tree.set .nil 0 0 := by kernel_rfl
theorem tyInt : K.types.get 3 = some ti3 := by kernel_rfl
theorem sInt : ti3.size = 1 := rfl
theorem aInt : ti3.agg = false := rfl
end Go.Proofs.YtpiljmilaelfnaaGreatDoor
