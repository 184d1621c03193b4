/- What is known in layer 30 by contract. -/
import Derived.Test.YtdnkofpkkebefaaGreatDoorWhatX
import Derived.Test.YtdnkofpkkebefaaGreatDoorNum
import Derived.Test.YtdnkofpkkebefaaGreatDoorStrY
import Derived.Test.YtdnkofpkkebefaaGreatDoorSpecX
import Derived.Test.YtdnkofpkkebefaaGreatDoorEvC
set_option linter.unusedSimpArgs false
set_option linter.unusedVariables false
set_option linter.unusedSectionVars false
set_option maxRecDepth 100000
namespace Go.Proofs.YtdnkofpkkebefaaGreatDoor
open Go.Ev
noncomputable def orKn (f0 : FuncId) (x : List W → Go.Ev.H → Option (V × Go.Ev.H)) (X : Kn) : Kn := fun f args h => bif Nat.beq f f0 then x args h else X f args h
theorem orKn_ok {f0 : FuncId} {x : List W → Go.Ev.H → Option (V × Go.Ev.H)} {X : Kn} (hx : ∀ args h v h', x args h = some (v, h') → CallOk K Tryz.prog f0 args h v h') (hX : KnOk K Tryz.prog X) : KnOk K Tryz.prog (orKn f0 x X) := by
 intro f args h v h' e
 unfold orKn at e
 cases h1 : Nat.beq f f0 with
 | true =>
  rw [h1] at e
  obtain rfl := Nat.eq_of_beq_eq_true h1
  exact hx _ _ _ _ e
 | false => rw [h1] at e; exact hX f args h v h' e
noncomputable def x30a : Kn := orKn 135 xGet32n (orKn 155 xWhat (orKn 294 xPtr (orKn 385 xIB (orKn 452 xSIB (orKn 450 xIA x2)))))
section
variable (Hh : Hearts K Tryz.prog)
include Hh
theorem x30a_ok : KnOk K Tryz.prog x30a :=
 orKn_ok (fun _ _ _ _ => xGet32n_ok Hh) (orKn_ok (fun _ _ _ _ => xWhat_ok Hh) (orKn_ok (fun _ _ _ _ => xPtr_ok Hh) (orKn_ok (fun _ _ _ _ => xIB_ok) (orKn_ok (fun _ _ _ _ => xSIB_ok) (orKn_ok (fun _ _ _ _ => xIA_ok) (x2_ok Hh))))))
end
end Go.Proofs.YtdnkofpkkebefaaGreatDoor
