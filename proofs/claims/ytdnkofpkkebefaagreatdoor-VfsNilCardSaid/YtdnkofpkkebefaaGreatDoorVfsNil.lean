/- VfsNil, whatever it is given: true, and what it is given reads as it did; the table of crc starts as the program's text lays it. -/
import Derived.Test.YtdnkofpkkebefaaGreatDoorVfsNilC
import Derived.Test.YtdnkofpkkebefaaGreatDoorVfsNilP
import Derived.Test.YtdnkofpkkebefaaGreatDoorRows
import Derived.Test.YtdnkofpkkebefaaGreatDoorCards
import Derived.Test.YtdnkofpkkebefaaGreatDoorTie
import Derived.Test.YtdnkofpkkebefaaGreatDoorEvD
import Derived.Test.YtdnkofpkkebefaaGreatDoorEvC
import Derived.ProofKit
import Derived.LaidMore
import Derived.OpenShut
import Derived.Stop.Joined
import Derived.Lib.SmallJoins
import Derived.Carry
import Derived.Below
import Derived.SevenTiedAt
set_option linter.unusedSimpArgs false
set_option linter.unusedVariables false
set_option linter.unusedSectionVars false
namespace Go.Proofs.YtdnkofpkkebefaaGreatDoor.vfsNil
open Go.ChangeShapes Go.WideShapes Go.ChangeAt Go.WideMaps Go.WideElems Go.RowKit
open Go.Ev (callsX_true callsOk_true of_laid steps16 isTrue)
theorem proved : Rows.VfsNilCardSaid :=
 Claim7.holds_tied_plain_at .later [] [.data] true (true, "4f12e541ff9f4cf31dcbfd8798ddfa4f9edeccbb4e84e8d6a266d3dd438a0791") true
  said (fun _ h => by cases h) pf1 (fun _ h => by cases h) vfsNil_row_tie rfl ⟨rfl, rfl⟩ pf2 rfl
  (fun f fn hf hfn => by
   obtain rfl : f = 5 := Option.some.inj ((show Tryz.prog.funcNamed "quern/quernlaw31.VfsNil" = some 5 from pf3).symm.trans hf) |>.symm
   obtain rfl : fn = Tryz.f5 := (Option.some.inj (Tryz.func5.symm.trans hfn)).symm
   exact ⟨pf4, fun j t ht => by
    rw [Tryz.params5] at ht
    have h3 : t = 39 ∨ t = 5 := by
     rcases j with _ | j
     ·simp at ht; simp [ht]
     ·rcases j with _ | j
      ·simp at ht; simp [ht]
      ·simp at ht
    rcases h3 with rfl | rfl
    ·exact (show Tryz.prog.wantsStandIn 39 = false by kernel_rfl)
    ·exact (show Tryz.prog.wantsStandIn 5 = false by kernel_rfl)⟩)
  pf5
#print axioms proved
end Go.Proofs.YtdnkofpkkebefaaGreatDoor.vfsNil
