/- A geometry that may be. -/
import Derived.Test.YtdnkofpkkebefaaGreatDoorTy
set_option linter.unusedSimpArgs false
set_option linter.unusedVariables false
set_option linter.unusedSectionVars false
set_option maxRecDepth 100000
namespace Go.Proofs.YtdnkofpkkebefaaGreatDoor
open Go.Ev
structure Fine (gr sz ino jr : Nat) : Prop where
 gr1 : 1 ≤ gr
 gr4 : gr ≤ 4
 sz1 : 16 ≤ sz
 sz2 : sz ≤ 512
 ino1 : 4 ≤ ino
 ino2 : ino ≤ 64
 ino4 : ino % 4 = 0
 jr1 : 40 ≤ jr
 jr2 : jr ≤ 256
 fit : 3 + ino / 4 ≤ sz
 all : 2 + jr + gr * sz ≤ 2048
def geoL (gr sz ino jr : Nat) : List C := [.int .i64 gr, .int .i64 sz, .int .i64 ino, .int .i64 jr]
end Go.Proofs.YtdnkofpkkebefaaGreatDoor
