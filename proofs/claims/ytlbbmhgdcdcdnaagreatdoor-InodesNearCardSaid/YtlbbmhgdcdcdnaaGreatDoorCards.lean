/-
  DERIVED. GIVEN WITH THE SEED: THE CARDS: each row of YtlbbmhgdcdcdnaaGreatDoorRows.lean that lists a variable, with what it lists TIED to the program's text (the seventh form; the later family's looks); each row that meets fmt, with fmt's text TOLD by the authors' own Lean function (tested against real Go, not proved from fmt's source: count such statements apart). THE CARD IS WHAT COUNTS. Prove the row's statement (the work); the ties are given (YtlbbmhgdcdcdnaaGreatDoorTie.lean); close each card by the builder's one call (the guide's Derived/Test/ToyasCard.lean, 'card_holds'). Laid BY PROGRAM, IN A SANDBOX (cutbox-door.mjs). By AI agents, Wed Nov 11 2026. No macro, syntax, notation, axiom, sorry.
-/
import Derived.Test.YtlbbmhgdcdcdnaaGreatDoorRows
import GoSem.ClaimSeven
namespace Go.Proofs.YtlbbmhgdcdcdnaaGreatDoor
namespace Rows

/-- THE TIED CARD OF 'quernlaw24.InodesNear'. -/
def inodesNearCard : Claim7 := { stood := { row := inodesNearRow, standIns := [], harness := (true, "c7ace99b0ef75392c3332f848409a52776a6535b2599ed45ca48c024d911b23a"), looks := true }, kinds := [], alts := [], laidByText := true, laidKinds := [.data], laidTests := true, laidLooks := .later }
def InodesNearCardSaid : Prop := Claim7.holds Tryz.pinned (.plain (OpenSpec.ofChange inodesNearSpec)) inodesNearCard

/-- THE SECOND FORM's CARD OF 'quernlaw24.InodesNear'. -/
def inodesNearUptoCard : Claim7 := { stood := { row := inodesNearUptoRow, standIns := [], harness := (true, "c7ace99b0ef75392c3332f848409a52776a6535b2599ed45ca48c024d911b23a"), looks := true }, kinds := [], alts := [], laidByText := true, laidKinds := [.data], laidTests := true, laidLooks := .later }
def InodesNearUptoCardSaid : Prop := Claim7.holds Tryz.pinned (.plain (OpenSpec.upto inodesNearSpec)) inodesNearUptoCard
end Rows
end Go.Proofs.YtlbbmhgdcdcdnaaGreatDoor
