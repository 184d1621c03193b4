/-
  DERIVED. GIVEN WITH THE SEED: THE CARDS: each row of YteiljiijagmonaaGreatDoorRows.lean that lists a variable, with what it lists TIED to the program's text (the seventh form; the later family's looks); each row that meets fmt, with fmt's text TOLD by the authors' own Lean function (tested against real Go, not proved from fmt's source: count such statements apart). THE CARD IS WHAT COUNTS. Prove the row's statement (the work); the ties are given (YteiljiijagmonaaGreatDoorTie.lean); close each card by the builder's one call (the guide's Derived/Test/ToyasCard.lean, 'card_holds'). Laid BY PROGRAM, IN A SANDBOX (cutbox-door.mjs). By AI agents, Wed Nov 11 2026. No macro, syntax, notation, axiom, sorry.
-/
import Derived.Test.YteiljiijagmonaaGreatDoorRows
import GoSem.ClaimSeven
namespace Go.Proofs.YteiljiijagmonaaGreatDoor
namespace Rows

/-- THE TIED CARD OF 'quernlaw25.MappingKeeps'. -/
def mappingKeepsCard : Claim7 := { stood := { row := mappingKeepsRow, standIns := [], harness := (true, "28727eac946f546540f200e9e619e1405b6ee59b4af55ef415b5ab4d6934a6f2"), looks := true }, kinds := [], alts := [], laidByText := true, laidKinds := [.data], laidTests := true, laidLooks := .later }
def MappingKeepsCardSaid : Prop := Claim7.holds Tryz.pinned (.plain (OpenSpec.ofChange mappingKeepsSpec)) mappingKeepsCard

/-- THE SECOND FORM's CARD OF 'quernlaw25.MappingKeeps'. -/
def mappingKeepsUptoCard : Claim7 := { stood := { row := mappingKeepsUptoRow, standIns := [], harness := (true, "28727eac946f546540f200e9e619e1405b6ee59b4af55ef415b5ab4d6934a6f2"), looks := true }, kinds := [], alts := [], laidByText := true, laidKinds := [.data], laidTests := true, laidLooks := .later }
def MappingKeepsUptoCardSaid : Prop := Claim7.holds Tryz.pinned (.plain (OpenSpec.upto mappingKeepsSpec)) mappingKeepsUptoCard
end Rows
end Go.Proofs.YteiljiijagmonaaGreatDoor
