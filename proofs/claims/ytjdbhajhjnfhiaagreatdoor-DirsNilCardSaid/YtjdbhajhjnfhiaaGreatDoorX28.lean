/- What is known in layer 28 by contract. -/
import Derived.Test.YtjdbhajhjnfhiaaGreatDoorWhatX
import Derived.Test.YtjdbhajhjnfhiaaGreatDoorNum
import Derived.Test.YtjdbhajhjnfhiaaGreatDoorStrX
import Derived.Test.YtjdbhajhjnfhiaaGreatDoorX24
set_option linter.unusedSimpArgs false
set_option linter.unusedVariables false
set_option linter.unusedSectionVars false
set_option maxRecDepth 100000
namespace Go.Proofs.YtjdbhajhjnfhiaaGreatDoor
open Go.Ev
noncomputable def x28 : Kn := fun f args h => bif Nat.beq f 28 then xIB args h else bif Nat.beq f 113 then xPtr args h else bif Nat.beq f 72 then xWhat args h else x3 f args h
section
variable (Hh : Hearts K Tryz.prog)
include Hh
theorem x28_ok : KnOk K Tryz.prog x28 := by
  intro f args h v h' e
  unfold x28 at e
  cases h0 : Nat.beq f 28 with
  | true =>
    rw [h0] at e
    obtain rfl := Nat.eq_of_beq_eq_true h0
    exact xIB_ok e
  | false =>
    rw [h0] at e
    cases h1 : Nat.beq f 113 with
    | true =>
      rw [h1] at e
      obtain rfl := Nat.eq_of_beq_eq_true h1
      exact xPtr_ok Hh e
    | false =>
      rw [h1] at e
      cases h2 : Nat.beq f 72 with
      | true =>
        rw [h2] at e
        obtain rfl := Nat.eq_of_beq_eq_true h2
        exact xWhat_ok Hh e
      | false =>
        rw [h2] at e
        exact x3_ok Hh f args h v h' e
end
end Go.Proofs.YtjdbhajhjnfhiaaGreatDoor

