/- quernref05 of one geometry: run by the kernel. -/
import Derived.Test.YtdnkofpkkebefaaGreatDoorRGd
import Derived.Test.YtdnkofpkkebefaaGreatDoorEvC
set_option linter.unusedSimpArgs false
set_option linter.unusedVariables false
set_option linter.unusedSectionVars false
set_option maxRecDepth 100000
namespace Go.Proofs.YtdnkofpkkebefaaGreatDoor
open Go.Ev
section
variable (Hh : Hearts K Tryz.prog)
include Hh
noncomputable def xNo : Kn := fun _ _ _ => none
omit Hh in
theorem xNo_ok : KnOk K Tryz.prog xNo := fun _ _ _ _ _ e => by cases e
theorem rgK : RG 1 24 8 40 :=
 ⟨fun h => CallOk.closed fits Hh xNo_ok gl (n := 20000) (by kernel_rfl) rfl rfl h, fun h => CallOk.closedA fits Hh xNo_ok gl (n := 40000) (sz := 4) (by kernel_rfl) rfl h, fun h => CallOk.closed fits Hh xNo_ok gl (n := 40000) (by kernel_rfl) rfl rfl h⟩
end
end Go.Proofs.YtdnkofpkkebefaaGreatDoor
