/-
  DERIVED. GIVEN WITH THE SEED: THE CARDS: each row of YtdooainabamdiaaGreatDoorRows.lean that lists a variable, with what it lists TIED to the program's text (the seventh form; the later family's looks); each row that meets fmt, with fmt's text TOLD by the authors' own Lean function (tested against real Go, not proved from fmt's source: count such statements apart). THE CARD IS WHAT COUNTS. Prove the row's statement (the work); the ties are given (YtdooainabamdiaaGreatDoorTie.lean); close each card by the builder's one call (the guide's Derived/Test/ToyasCard.lean, 'card_holds'). Laid BY PROGRAM, IN A SANDBOX (cutbox-door.mjs). By AI agents, Wed Nov 11 2026. No macro, syntax, notation, axiom, sorry.
-/
import Derived.Test.YtdooainabamdiaaGreatDoorRows
import GoSem.ClaimSeven
namespace Go.Proofs.YtdooainabamdiaaGreatDoor
namespace Rows

/-- THE TIED CARD OF 'quernlaw24.InodesNil'. -/
def inodesNilCard : Claim7 := { stood := { row := inodesNilRow, standIns := [], harness := (true, "f169f0489a6711df95d35071df69508a549709d60695607f2de3769f7f423109"), looks := true }, kinds := [], alts := [], laidByText := true, laidKinds := [.data], laidTests := true, laidLooks := .later }
def InodesNilCardSaid : Prop := Claim7.holds Tryz.pinned (.plain (OpenSpec.ofChange inodesNilSpec)) inodesNilCard

/-- THE SECOND FORM's CARD OF 'quernlaw24.InodesNil'. -/
def inodesNilUptoCard : Claim7 := { stood := { row := inodesNilUptoRow, standIns := [], harness := (true, "f169f0489a6711df95d35071df69508a549709d60695607f2de3769f7f423109"), looks := true }, kinds := [], alts := [], laidByText := true, laidKinds := [.data], laidTests := true, laidLooks := .later }
def InodesNilUptoCardSaid : Prop := Claim7.holds Tryz.pinned (.plain (OpenSpec.upto inodesNilSpec)) inodesNilUptoCard
end Rows
end Go.Proofs.YtdooainabamdiaaGreatDoor
