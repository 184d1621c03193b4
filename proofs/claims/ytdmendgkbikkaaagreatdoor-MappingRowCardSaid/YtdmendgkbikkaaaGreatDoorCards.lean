/-
  DERIVED. GIVEN WITH THE SEED: THE CARDS: each row of YtdmendgkbikkaaaGreatDoorRows.lean that lists a variable, with what it lists TIED to the program's text (the seventh form; the later family's looks); each row that meets fmt, with fmt's text TOLD by the authors' own Lean function (tested against real Go, not proved from fmt's source: count such statements apart). THE CARD IS WHAT COUNTS. Prove the row's statement (the work); the ties are given (YtdmendgkbikkaaaGreatDoorTie.lean); close each card by the builder's one call (the guide's Derived/Test/ToyasCard.lean, 'card_holds'). Laid BY PROGRAM, IN A SANDBOX (cutbox-door.mjs). By AI agents, Wed Nov 11 2026. No macro, syntax, notation, axiom, sorry.
-/
import Derived.Test.YtdmendgkbikkaaaGreatDoorRows
import GoSem.ClaimSeven
namespace Go.Proofs.YtdmendgkbikkaaaGreatDoor
namespace Rows

/-- THE TIED CARD OF 'quernlaw25.MappingRow'. -/
def mappingRowCard : Claim7 := { stood := { row := mappingRowRow, standIns := [], harness := (true, "3c6557af0b7606b98092c91ce2914fbffac5aa9fae94a2c79a7ae96b49bd3c3d"), looks := true }, kinds := [], alts := [], laidByText := true, laidKinds := [.data], laidTests := true, laidLooks := .later }
def MappingRowCardSaid : Prop := Claim7.holds Tryz.pinned (.plain (OpenSpec.ofChange mappingRowSpec)) mappingRowCard

/-- THE TIED CARD OF 'quernlaw25.MappingKeeps'. -/
def mappingKeepsCard : Claim7 := { stood := { row := mappingKeepsRow, standIns := [], harness := (true, "3c6557af0b7606b98092c91ce2914fbffac5aa9fae94a2c79a7ae96b49bd3c3d"), looks := true }, kinds := [], alts := [], laidByText := true, laidKinds := [.data], laidTests := true, laidLooks := .later }
def MappingKeepsCardSaid : Prop := Claim7.holds Tryz.pinned (.plain (OpenSpec.ofChange mappingKeepsSpec)) mappingKeepsCard

/-- THE SECOND FORM's CARD OF 'quernlaw25.MappingRow'. -/
def mappingRowUptoCard : Claim7 := { stood := { row := mappingRowUptoRow, standIns := [], harness := (true, "3c6557af0b7606b98092c91ce2914fbffac5aa9fae94a2c79a7ae96b49bd3c3d"), looks := true }, kinds := [], alts := [], laidByText := true, laidKinds := [.data], laidTests := true, laidLooks := .later }
def MappingRowUptoCardSaid : Prop := Claim7.holds Tryz.pinned (.plain (OpenSpec.upto mappingRowSpec)) mappingRowUptoCard

/-- THE SECOND FORM's CARD OF 'quernlaw25.MappingKeeps'. -/
def mappingKeepsUptoCard : Claim7 := { stood := { row := mappingKeepsUptoRow, standIns := [], harness := (true, "3c6557af0b7606b98092c91ce2914fbffac5aa9fae94a2c79a7ae96b49bd3c3d"), looks := true }, kinds := [], alts := [], laidByText := true, laidKinds := [.data], laidTests := true, laidLooks := .later }
def MappingKeepsUptoCardSaid : Prop := Claim7.holds Tryz.pinned (.plain (OpenSpec.upto mappingKeepsSpec)) mappingKeepsUptoCard
end Rows
end Go.Proofs.YtdmendgkbikkaaaGreatDoor
