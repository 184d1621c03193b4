/-
  DERIVED. GIVEN WITH THE SEED: THE CARDS: each row of YtnaikpjbjibemaaGreatDoorRows.lean that lists a variable, with what it lists TIED to the program's text (the seventh form; the later family's looks); each row that meets fmt, with fmt's text TOLD by the authors' own Lean function (tested against real Go, not proved from fmt's source: count such statements apart). THE CARD IS WHAT COUNTS. Prove the row's statement (the work); the ties are given (YtnaikpjbjibemaaGreatDoorTie.lean); close each card by the builder's one call (the guide's Derived/Test/ToyasCard.lean, 'card_holds'). Laid BY PROGRAM, IN A SANDBOX (cutbox-door.mjs). By AI agents, Wed Nov 11 2026. No macro, syntax, notation, axiom, sorry.
-/
import Derived.Test.YtnaikpjbjibemaaGreatDoorRows
import GoSem.ClaimSeven
namespace Go.Proofs.YtnaikpjbjibemaaGreatDoor
namespace Rows

/-- THE TIED CARD OF 'quernlaw27.OrphansNil'. -/
def orphansNilCard : Claim7 := { stood := { row := orphansNilRow, standIns := [], harness := (true, "b8787643c2519fa4a66d705a71a2b0e5edea7ea485f18244c7f6f65f7d8a8225"), looks := true }, kinds := [], alts := [], laidByText := true, laidKinds := [.data], laidTests := true, laidLooks := .later }
def OrphansNilCardSaid : Prop := Claim7.holds Tryz.pinned (.plain (OpenSpec.ofChange orphansNilSpec)) orphansNilCard

/-- THE SECOND FORM's CARD OF 'quernlaw27.OrphansNil'. -/
def orphansNilUptoCard : Claim7 := { stood := { row := orphansNilUptoRow, standIns := [], harness := (true, "b8787643c2519fa4a66d705a71a2b0e5edea7ea485f18244c7f6f65f7d8a8225"), looks := true }, kinds := [], alts := [], laidByText := true, laidKinds := [.data], laidTests := true, laidLooks := .later }
def OrphansNilUptoCardSaid : Prop := Claim7.holds Tryz.pinned (.plain (OpenSpec.upto orphansNilSpec)) orphansNilUptoCard
end Rows
end Go.Proofs.YtnaikpjbjibemaaGreatDoor
