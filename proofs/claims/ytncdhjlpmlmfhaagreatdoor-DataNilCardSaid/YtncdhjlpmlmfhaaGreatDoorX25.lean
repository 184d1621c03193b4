/- What is known in layer 25 by contract. -/
import Derived.Test.YtncdhjlpmlmfhaaGreatDoorWhatX
import Derived.Test.YtncdhjlpmlmfhaaGreatDoorNum
import Derived.Test.YtncdhjlpmlmfhaaGreatDoorSpecX
set_option linter.unusedSimpArgs false
set_option linter.unusedVariables false
set_option linter.unusedSectionVars false
set_option maxRecDepth 100000
namespace Go.Proofs.YtncdhjlpmlmfhaaGreatDoor
open Go.Ev
noncomputable def x25 : Kn := fun f args h => bif Nat.beq f 25 then xPtr args h else bif Nat.beq f 49 then xWhat args h else x2 f args h
section
variable (Hh : Hearts K Tryz.prog)
include Hh
theorem x25_ok : KnOk K Tryz.prog x25 := by
  intro f args h v h' e
  unfold x25 at e
  cases h1 : Nat.beq f 25 with
  | true =>
    rw [h1] at e
    obtain rfl := Nat.eq_of_beq_eq_true h1
    exact xPtr_ok Hh e
  | false =>
    rw [h1] at e
    cases h2 : Nat.beq f 49 with
    | true =>
      rw [h2] at e
      obtain rfl := Nat.eq_of_beq_eq_true h2
      exact xWhat_ok Hh e
    | false =>
      rw [h2] at e
      exact x2_ok Hh f args h v h' e
end
end Go.Proofs.YtncdhjlpmlmfhaaGreatDoor
