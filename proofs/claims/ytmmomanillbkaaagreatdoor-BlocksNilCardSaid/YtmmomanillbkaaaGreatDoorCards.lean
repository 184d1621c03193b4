/-
  DERIVED. GIVEN WITH THE SEED: THE CARDS: each row of YtmmomanillbkaaaGreatDoorRows.lean that lists a variable, with what it lists TIED to the program's text (the seventh form; the later family's looks); each row that meets fmt, with fmt's text TOLD by the authors' own Lean function (tested against real Go, not proved from fmt's source: count such statements apart). THE CARD IS WHAT COUNTS. Prove the row's statement (the work); the ties are given (YtmmomanillbkaaaGreatDoorTie.lean); close each card by the builder's one call (the guide's Derived/Test/ToyasCard.lean, 'card_holds'). Laid BY PROGRAM, IN A SANDBOX (cutbox-door.mjs). By AI agents, Wed Nov 11 2026. No macro, syntax, notation, axiom, sorry.
-/
import Derived.Test.YtmmomanillbkaaaGreatDoorRows
import GoSem.ClaimSeven
namespace Go.Proofs.YtmmomanillbkaaaGreatDoor
namespace Rows

/-- THE TIED CARD OF 'quernlaw23.BlocksNil'. -/
def blocksNilCard : Claim7 := { stood := { row := blocksNilRow, standIns := [], harness := (true, "961549932af785f5ca565de054d613b5f9e413669b772c66e3d295521376f41e"), looks := true }, kinds := [], alts := [], laidByText := true, laidKinds := [.data], laidTests := true, laidLooks := .later }
def BlocksNilCardSaid : Prop := Claim7.holds Tryz.pinned (.plain (OpenSpec.ofChange blocksNilSpec)) blocksNilCard

/-- THE SECOND FORM's CARD OF 'quernlaw23.BlocksNil'. -/
def blocksNilUptoCard : Claim7 := { stood := { row := blocksNilUptoRow, standIns := [], harness := (true, "961549932af785f5ca565de054d613b5f9e413669b772c66e3d295521376f41e"), looks := true }, kinds := [], alts := [], laidByText := true, laidKinds := [.data], laidTests := true, laidLooks := .later }
def BlocksNilUptoCardSaid : Prop := Claim7.holds Tryz.pinned (.plain (OpenSpec.upto blocksNilSpec)) blocksNilUptoCard
end Rows
end Go.Proofs.YtmmomanillbkaaaGreatDoor
