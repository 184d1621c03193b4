/- VfsNil, whatever it is given: true, and what it is given reads as it did; the table of crc starts as the program's text lays it. -/
import Derived.Test.YtdnkofpkkebefaaGreatDoorRows
import Derived.Test.YtdnkofpkkebefaaGreatDoorCards
import Derived.Test.YtdnkofpkkebefaaGreatDoorTie
import Derived.Test.YtdnkofpkkebefaaGreatDoorEvD
import Derived.Test.YtdnkofpkkebefaaGreatDoorEvC
import Derived.ProofKit
import Derived.LaidMore
import Derived.OpenShut
import Derived.Stop.Joined
import Derived.Lib.SmallJoins
import Derived.Carry
import Derived.Below
import Derived.SevenTiedAt
set_option linter.unusedSimpArgs false
set_option linter.unusedVariables false
set_option linter.unusedSectionVars false
namespace Go.Proofs.YtdnkofpkkebefaaGreatDoor.vfsNil
open Go.ChangeShapes Go.WideShapes Go.ChangeAt Go.WideMaps Go.WideElems Go.RowKit
open Go.Ev (callsX_true callsOk_true of_laid steps16 isTrue)
set_option maxRecDepth 100000
theorem goes_none {P : Program} (h : P.funcs.toList.any Func.goes = false) (f : FuncId) : P.goes f = false := by
 have key : ∀ g : FuncId, (P.funcs[g]?).any Func.goes = false := fun g => by
  cases hg : P.funcs[g]? with
  | none => rfl
  | some fn =>
   have hm : fn ∈ P.funcs.toList := by
    obtain ⟨h1, h2⟩ := Array.getElem?_eq_some_iff.1 hg
    rw [← h2]
    simp
   have q := List.any_eq_false.1 h fn hm
   simpa using q
 unfold Program.goes
 have h1 : (P.closure f).any (fun g => (P.funcs[g]?).any Func.goes) = false := by
  rw [List.any_eq_false]
  intro g _
  rw [key g]
  simp
 have h2 : P.funcs.any Func.goes = false := by
  rw [← Array.any_toList]
  exact h
 rw [h1, h2]
 simp
theorem goesAt_none {P : Program} (h : P.funcs.toList.any Func.goes = false) (s : Start) (n : String) : P.goesAt s n = false := by
 unfold Program.goesAt Program.goesFrom
 have h1 : (P.funcNamed n).any P.goes = false := by
  cases P.funcNamed n with
  | none => rfl
  | some f => exact goes_none h f
 have h2 : P.inits.toList.any P.goes = false := by
  rw [List.any_eq_false]
  intro f _
  rw [goes_none h f]
  simp
 rw [h1, h2]
 cases s <;> rfl
theorem pf1 : OpenClaim.wfByText (OpenSpec.ofChange Rows.vfsNilSpec) Rows.vfsNilRow = true := by kernel_rfl
theorem pf2 : Tryz.pinned.checked.prog.mainIs = some ((true, "4f12e541ff9f4cf31dcbfd8798ddfa4f9edeccbb4e84e8d6a266d3dd438a0791").fst, (true, "4f12e541ff9f4cf31dcbfd8798ddfa4f9edeccbb4e84e8d6a266d3dd438a0791").snd.toList) := by kernel_rfl
theorem pf3 : Tryz.prog.funcNamed "quern/quernlaw31.VfsNil" = some 5 := by kernel_rfl
theorem pf4 : true = Tryz.pinned.checked.prog.looks [] := by kernel_rfl
theorem pf5 : false = Rows.vfsNilRow.goesBy Tryz.pinned.checked.prog := (goesAt_none (by kernel_rfl) _ _).symm
end Go.Proofs.YtdnkofpkkebefaaGreatDoor.vfsNil
