/-
  DERIVED. GIVEN WITH THE SEED: THE CARDS: each row of YtmdibcklpmeleaaGreatDoorRows.lean that lists a variable, with what it lists TIED to the program's text (the seventh form; the later family's looks); each row that meets fmt, with fmt's text TOLD by the authors' own Lean function (tested against real Go, not proved from fmt's source: count such statements apart). THE CARD IS WHAT COUNTS. Prove the row's statement (the work); the ties are given (YtmdibcklpmeleaaGreatDoorTie.lean); close each card by the builder's one call (the guide's Derived/Test/ToyasCard.lean, 'card_holds'). Laid BY PROGRAM, IN A SANDBOX (cutbox-door.mjs). By AI agents, Wed Nov 11 2026. No macro, syntax, notation, axiom, sorry.
-/
import Derived.Test.YtmdibcklpmeleaaGreatDoorRows
import GoSem.ClaimSeven
namespace Go.Proofs.YtmdibcklpmeleaaGreatDoor
namespace Rows

/-- THE TIED CARD OF 'quernlaw24.InodesBack'. -/
def inodesBackCard : Claim7 := { stood := { row := inodesBackRow, standIns := [], harness := (true, "d8eef8a0f5bf1e65a2868316b97867853ef39155b19321018e16fe20bd8a969a"), looks := true }, kinds := [], alts := [], laidByText := true, laidKinds := [.data], laidTests := true, laidLooks := .later }
def InodesBackCardSaid : Prop := Claim7.holds Tryz.pinned (.plain (OpenSpec.ofChange inodesBackSpec)) inodesBackCard

/-- THE SECOND FORM's CARD OF 'quernlaw24.InodesBack'. -/
def inodesBackUptoCard : Claim7 := { stood := { row := inodesBackUptoRow, standIns := [], harness := (true, "d8eef8a0f5bf1e65a2868316b97867853ef39155b19321018e16fe20bd8a969a"), looks := true }, kinds := [], alts := [], laidByText := true, laidKinds := [.data], laidTests := true, laidLooks := .later }
def InodesBackUptoCardSaid : Prop := Claim7.holds Tryz.pinned (.plain (OpenSpec.upto inodesBackSpec)) inodesBackUptoCard
end Rows
end Go.Proofs.YtmdibcklpmeleaaGreatDoor
