/-
  DERIVED. GIVEN WITH THE SEED: THE CARDS: each row of YtngejdlimkgjfaaGreatDoorRows.lean that lists a variable, with what it lists TIED to the program's text (the seventh form; the later family's looks); each row that meets fmt, with fmt's text TOLD by the authors' own Lean function (tested against real Go, not proved from fmt's source: count such statements apart). THE CARD IS WHAT COUNTS. Prove the row's statement (the work); the ties are given (YtngejdlimkgjfaaGreatDoorTie.lean); close each card by the builder's one call (the guide's Derived/Test/ToyasCard.lean, 'card_holds'). Laid BY PROGRAM, IN A SANDBOX (cutbox-door.mjs). By AI agents, Wed Nov 11 2026. No macro, syntax, notation, axiom, sorry.
-/
import Derived.Test.YtngejdlimkgjfaaGreatDoorRows
import GoSem.ClaimSeven
namespace Go.Proofs.YtngejdlimkgjfaaGreatDoor
namespace Rows

/-- THE TIED CARD OF 'quernlaw24.InodesUndone'. -/
def inodesUndoneCard : Claim7 := { stood := { row := inodesUndoneRow, standIns := [], harness := (true, "71be1f3ae7ee7f08c23ed01ec17eaddb5d39eeb8943b8139df5555e266e12d70"), looks := true }, kinds := [], alts := [], laidByText := true, laidKinds := [.data], laidTests := true, laidLooks := .later }
def InodesUndoneCardSaid : Prop := Claim7.holds Tryz.pinned (.plain (OpenSpec.ofChange inodesUndoneSpec)) inodesUndoneCard

/-- THE SECOND FORM's CARD OF 'quernlaw24.InodesUndone'. -/
def inodesUndoneUptoCard : Claim7 := { stood := { row := inodesUndoneUptoRow, standIns := [], harness := (true, "71be1f3ae7ee7f08c23ed01ec17eaddb5d39eeb8943b8139df5555e266e12d70"), looks := true }, kinds := [], alts := [], laidByText := true, laidKinds := [.data], laidTests := true, laidLooks := .later }
def InodesUndoneUptoCardSaid : Prop := Claim7.holds Tryz.pinned (.plain (OpenSpec.upto inodesUndoneSpec)) inodesUndoneUptoCard
end Rows
end Go.Proofs.YtngejdlimkgjfaaGreatDoor
