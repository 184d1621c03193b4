/- VfsNil, whatever it is given: true, and what it is given reads as it did; the table of crc starts as the program's text lays it. -/
import Derived.Test.YtdnkofpkkebefaaGreatDoorRows
import Derived.Test.YtdnkofpkkebefaaGreatDoorCards
import Derived.Test.YtdnkofpkkebefaaGreatDoorTie
import Derived.Test.YtdnkofpkkebefaaGreatDoorEvD
import Derived.Test.YtdnkofpkkebefaaGreatDoorEvC
import Derived.ProofKit
import Derived.LaidMore
import Derived.OpenShut
import Derived.Stop.Joined
import Derived.Lib.SmallJoins
import Derived.Carry
import Derived.Below
import Derived.SevenTiedAt
set_option linter.unusedSimpArgs false
set_option linter.unusedVariables false
set_option linter.unusedSectionVars false
namespace Go.Proofs.YtdnkofpkkebefaaGreatDoor.vfsNil
open Go.ChangeShapes Go.WideShapes Go.ChangeAt Go.WideMaps Go.WideElems Go.RowKit
open Go.Ev (callsX_true callsOk_true of_laid steps16 isTrue)
set_option maxRecDepth 100000
theorem fN : (Rows.vfsNilRow.named == Tryz.pinned.checked.prog.varsNamed 5) = true := by kernel_rfl
end Go.Proofs.YtdnkofpkkebefaaGreatDoor.vfsNil
