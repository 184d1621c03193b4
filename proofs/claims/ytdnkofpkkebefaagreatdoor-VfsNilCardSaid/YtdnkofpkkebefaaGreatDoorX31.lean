/- What is known in layer 31 by contract. -/
import Derived.Test.YtdnkofpkkebefaaGreatDoorX30
import Derived.Test.YtdnkofpkkebefaaGreatDoorVfi
import Derived.Test.YtdnkofpkkebefaaGreatDoorVdo
import Derived.Test.YtdnkofpkkebefaaGreatDoorVtr
import Derived.Test.YtdnkofpkkebefaaGreatDoorEvD
set_option linter.unusedSimpArgs false
set_option linter.unusedVariables false
set_option linter.unusedSectionVars false
set_option maxRecDepth 100000
namespace Go.Proofs.YtdnkofpkkebefaaGreatDoor
open Go.Ev
noncomputable def x31a : Kn := orKn 18 xWays (orKn 277 xFirst x30a)
noncomputable def x31d : Kn := xDefer K x31a 100000 [166, 261, 111]
noncomputable def x31 : Kn := xTry K 113 (panDr K) recC x31d 100000 [19, 145] [99, 108, 52, 49, 47, 48]
section
variable (Hh : Hearts K Tryz.prog)
include Hh
theorem x31a_ok : KnOk K Tryz.prog x31a := orKn_ok (fun _ _ _ _ => xWays_ok) (orKn_ok (fun _ _ _ _ => xFirst_ok Hh) (x30a_ok Hh))
theorem x31d_ok : KnOk K Tryz.prog x31d := xDefer_ok fits Hh (x31a_ok Hh) _ _
theorem x31_ok : KnOk K Tryz.prog x31 := xTry_ok fits Hh (x31d_ok Hh) boxed113 (panDr_dn fits) recC_ok _ _ _
end
end Go.Proofs.YtdnkofpkkebefaaGreatDoor
