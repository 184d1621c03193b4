/- What is known in layer 30 by contract. -/
import Derived.Test.YtmnclecicnkmeaaGreatDoorWhatX
import Derived.Test.YtmnclecicnkmeaaGreatDoorNum
import Derived.Test.YtmnclecicnkmeaaGreatDoorStrY
import Derived.Test.YtmnclecicnkmeaaGreatDoorSpecX
import Derived.Test.YtmnclecicnkmeaaGreatDoorEvC
set_option linter.unusedSimpArgs false
set_option linter.unusedVariables false
set_option linter.unusedSectionVars false
set_option maxRecDepth 100000
namespace Go.Proofs.YtmnclecicnkmeaaGreatDoor
open Go.Ev
noncomputable def orKn (f0 : FuncId) (x : List W → Go.Ev.H → Option (V × Go.Ev.H)) (X : Kn) : Kn := fun f args h => bif Nat.beq f f0 then x args h else X f args h
theorem orKn_ok {f0 : FuncId} {x : List W → Go.Ev.H → Option (V × Go.Ev.H)} {X : Kn} (hx : ∀ args h v h', x args h = some (v, h') → CallOk K Tryz.prog f0 args h v h') (hX : KnOk K Tryz.prog X) : KnOk K Tryz.prog (orKn f0 x X) := by
  intro f args h v h' e
  unfold orKn at e
  cases h1 : Nat.beq f f0 with
  | true =>
    rw [h1] at e
    obtain rfl := Nat.eq_of_beq_eq_true h1
    exact hx _ _ _ _ e
  | false => rw [h1] at e; exact hX f args h v h' e
noncomputable def x30a : Kn := orKn 193 xGet32 (orKn 185 xWhat (orKn 215 xPtr (orKn 115 xIB (orKn 198 xSIB (orKn 160 xIA x2)))))
noncomputable def x30 : Kn := xDefer K x30a 100000 [16]
section
variable (Hh : Hearts K Tryz.prog)
include Hh
theorem x30a_ok : KnOk K Tryz.prog x30a :=
  orKn_ok (fun _ _ _ _ => xGet32_ok Hh) (orKn_ok (fun _ _ _ _ => xWhat_ok Hh) (orKn_ok (fun _ _ _ _ => xPtr_ok Hh) (orKn_ok (fun _ _ _ _ => xIB_ok) (orKn_ok (fun _ _ _ _ => xSIB_ok) (orKn_ok (fun _ _ _ _ => xIA_ok) (x2_ok Hh))))))
theorem x30_ok : KnOk K Tryz.prog x30 := xDefer_ok fits Hh (x30a_ok Hh) _ _
end
end Go.Proofs.YtmnclecicnkmeaaGreatDoor
