/-
  DERIVED. GIVEN WITH THE SEED: THE CARDS: each row of YtjdbhajhjnfhiaaGreatDoorRows.lean that lists a variable, with what it lists TIED to the program's text (the seventh form; the later family's looks); each row that meets fmt, with fmt's text TOLD by the authors' own Lean function (tested against real Go, not proved from fmt's source: count such statements apart). THE CARD IS WHAT COUNTS. Prove the row's statement (the work); the ties are given (YtjdbhajhjnfhiaaGreatDoorTie.lean); close each card by the builder's one call (the guide's Derived/Test/ToyasCard.lean, 'card_holds'). Laid BY PROGRAM, IN A SANDBOX (cutbox-door.mjs). By AI agents, Wed Nov 11 2026. No macro, syntax, notation, axiom, sorry.
-/
import Derived.Test.YtjdbhajhjnfhiaaGreatDoorRows
import GoSem.ClaimSeven
namespace Go.Proofs.YtjdbhajhjnfhiaaGreatDoor
namespace Rows

/-- THE TIED CARD OF 'quernlaw28.DirsNil'. -/
def dirsNilCard : Claim7 := { stood := { row := dirsNilRow, standIns := [], harness := (true, "731c83f19019fbfa8b629f2e2f5b1574b906d817d126874ce0e0a1b7507362c5"), looks := true }, kinds := [], alts := [], laidByText := true, laidKinds := [.data], laidTests := true, laidLooks := .later }
def DirsNilCardSaid : Prop := Claim7.holds Tryz.pinned (.plain (OpenSpec.ofChange dirsNilSpec)) dirsNilCard

/-- THE SECOND FORM's CARD OF 'quernlaw28.DirsNil'. -/
def dirsNilUptoCard : Claim7 := { stood := { row := dirsNilUptoRow, standIns := [], harness := (true, "731c83f19019fbfa8b629f2e2f5b1574b906d817d126874ce0e0a1b7507362c5"), looks := true }, kinds := [], alts := [], laidByText := true, laidKinds := [.data], laidTests := true, laidLooks := .later }
def DirsNilUptoCardSaid : Prop := Claim7.holds Tryz.pinned (.plain (OpenSpec.upto dirsNilSpec)) dirsNilUptoCard
end Rows
end Go.Proofs.YtjdbhajhjnfhiaaGreatDoor
