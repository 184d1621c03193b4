/- What is known in layer 25 by contract. -/
import Derived.Test.YtnnjkhccbigmaaaGreatDoorWhatX
import Derived.Test.YtnnjkhccbigmaaaGreatDoorNum
import Derived.Test.YtnnjkhccbigmaaaGreatDoorSpecX
set_option linter.unusedSimpArgs false
set_option linter.unusedVariables false
set_option linter.unusedSectionVars false
set_option maxRecDepth 100000
namespace Go.Proofs.YtnnjkhccbigmaaaGreatDoor
open Go.Ev
noncomputable def x25 : Kn := fun f args h => bif Nat.beq f 12 then xPtr args h else bif Nat.beq f 56 then xWhat args h else x2 f args h
section
variable (Hh : Hearts K Tryz.prog)
include Hh
theorem x25_ok : KnOk K Tryz.prog x25 := by
  intro f args h v h' e
  unfold x25 at e
  cases h1 : Nat.beq f 12 with
  | true =>
    rw [h1] at e
    obtain rfl := Nat.eq_of_beq_eq_true h1
    exact xPtr_ok Hh e
  | false =>
    rw [h1] at e
    cases h2 : Nat.beq f 56 with
    | true =>
      rw [h2] at e
      obtain rfl := Nat.eq_of_beq_eq_true h2
      exact xWhat_ok Hh e
    | false =>
      rw [h2] at e
      exact x2_ok Hh f args h v h' e
end
end Go.Proofs.YtnnjkhccbigmaaaGreatDoor

