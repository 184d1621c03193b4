/- VfsNil, whatever it is given: true, and what it is given reads as it did; the table of crc starts as the program's text lays it. -/
import Derived.Test.YtdnkofpkkebefaaGreatDoorVfsNilA
import Derived.Test.YtdnkofpkkebefaaGreatDoorVfsNilB
import Derived.Test.YtdnkofpkkebefaaGreatDoorVfsNilD
import Derived.Test.YtdnkofpkkebefaaGreatDoorVfsNilE
import Derived.Test.YtdnkofpkkebefaaGreatDoorVfsNilG
import Derived.Test.YtdnkofpkkebefaaGreatDoorRows
import Derived.Test.YtdnkofpkkebefaaGreatDoorCards
import Derived.Test.YtdnkofpkkebefaaGreatDoorTie
import Derived.Test.YtdnkofpkkebefaaGreatDoorEvD
import Derived.Test.YtdnkofpkkebefaaGreatDoorEvC
import Derived.ProofKit
import Derived.LaidMore
import Derived.OpenShut
import Derived.Stop.Joined
import Derived.Lib.SmallJoins
import Derived.Carry
import Derived.Below
import Derived.SevenTiedAt
set_option linter.unusedSimpArgs false
set_option linter.unusedVariables false
set_option linter.unusedSectionVars false
namespace Go.Proofs.YtdnkofpkkebefaaGreatDoor.vfsNil
open Go.ChangeShapes Go.WideShapes Go.ChangeAt Go.WideMaps Go.WideElems Go.RowKit
open Go.Ev (callsX_true callsOk_true of_laid steps16 isTrue)
theorem and_t {a b : Bool} (h : a = true) (k : b = true) : (a && b) = true := by rw [h, k]; rfl
set_option maxHeartbeats 40000000 in
theorem facts : joinedFacts Tryz.pinned.checked.prog 5 Tryz.f5 Rows.vfsNilSpec Rows.vfsNilRow = true := by
 unfold joinedFacts
 repeat' with_reducible apply and_t
 all_goals (first | with_reducible exact fI | with_reducible exact fU | with_reducible exact fR | with_reducible exact fN | as_aux_lemma => kernel_rfl)
theorem said : Rows.VfsNilSaid :=
 OpenClaim.holds_of_wide 5 Tryz.f5 rfl rfl rfl rfl rfl rfl rfl ⟨rfl, rfl, rfl, rfl, rfl⟩ rfl rfl rfl rfl rfl (by as_aux_lemma => kernel_rfl) Tryz.func5 facts
  (of_decide_eq_true (by kernel_rfl)) (by unfold Func.isWrapper; first | (rw [if_pos (by decide +kernel)]; kernel_rfl) | (rw [if_neg (by decide +kernel)]; exact ⟨rfl, rfl⟩))
  (fun os started H enc _ => lifted os started H enc)
end Go.Proofs.YtdnkofpkkebefaaGreatDoor.vfsNil
