/-
  DERIVED. GIVEN WITH THE SEED: THE CARDS: each row of YtnnjkhccbigmaaaGreatDoorRows.lean that lists a variable, with what it lists TIED to the program's text (the seventh form; the later family's looks); each row that meets fmt, with fmt's text TOLD by the authors' own Lean function (tested against real Go, not proved from fmt's source: count such statements apart). THE CARD IS WHAT COUNTS. Prove the row's statement (the work); the ties are given (YtnnjkhccbigmaaaGreatDoorTie.lean); close each card by the builder's one call (the guide's Derived/Test/ToyasCard.lean, 'card_holds'). Laid BY PROGRAM, IN A SANDBOX (cutbox-door.mjs). By AI agents, Wed Nov 11 2026. No macro, syntax, notation, axiom, sorry.
-/
import Derived.Test.YtnnjkhccbigmaaaGreatDoorRows
import GoSem.ClaimSeven
namespace Go.Proofs.YtnnjkhccbigmaaaGreatDoor
namespace Rows

/-- THE TIED CARD OF 'quernlaw25.MappingNil'. -/
def mappingNilCard : Claim7 := { stood := { row := mappingNilRow, standIns := [], harness := (true, "11c8ade8732f6a677187a92a0edbb1001b241170a646611125640b92bbbc7118"), looks := true }, kinds := [], alts := [], laidByText := true, laidKinds := [.data], laidTests := true, laidLooks := .later }
def MappingNilCardSaid : Prop := Claim7.holds Tryz.pinned (.plain (OpenSpec.ofChange mappingNilSpec)) mappingNilCard

/-- THE SECOND FORM's CARD OF 'quernlaw25.MappingNil'. -/
def mappingNilUptoCard : Claim7 := { stood := { row := mappingNilUptoRow, standIns := [], harness := (true, "11c8ade8732f6a677187a92a0edbb1001b241170a646611125640b92bbbc7118"), looks := true }, kinds := [], alts := [], laidByText := true, laidKinds := [.data], laidTests := true, laidLooks := .later }
def MappingNilUptoCardSaid : Prop := Claim7.holds Tryz.pinned (.plain (OpenSpec.upto mappingNilSpec)) mappingNilUptoCard
end Rows
end Go.Proofs.YtnnjkhccbigmaaaGreatDoor
