/-
  DERIVED. GIVEN WITH THE SEED: THE CARDS: each row of YtdkcjalmhdofcaaGreatDoorRows.lean that lists a variable, with what it lists TIED to the program's text (the seventh form; the later family's looks); each row that meets fmt, with fmt's text TOLD by the authors' own Lean function (tested against real Go, not proved from fmt's source: count such statements apart). THE CARD IS WHAT COUNTS. Prove the row's statement (the work); the ties are given (YtdkcjalmhdofcaaGreatDoorTie.lean); close each card by the builder's one call (the guide's Derived/Test/ToyasCard.lean, 'card_holds'). Laid BY PROGRAM, IN A SANDBOX (cutbox-door.mjs). By AI agents, Wed Nov 11 2026. No macro, syntax, notation, axiom, sorry.
-/
import Derived.Test.YtdkcjalmhdofcaaGreatDoorRows
import GoSem.ClaimSeven
namespace Go.Proofs.YtdkcjalmhdofcaaGreatDoor
namespace Rows

/-- THE TIED CARD OF 'quernlaw27.OrphansRow'. -/
def orphansRowCard : Claim7 := { stood := { row := orphansRowRow, standIns := [], harness := (true, "2ff40fd7e21bdc8fd2991fb388dce7fdb7e2362fc7f082d0ac179bb7c14a2982"), looks := true }, kinds := [], alts := [], laidByText := true, laidKinds := [.data], laidTests := true, laidLooks := .later }
def OrphansRowCardSaid : Prop := Claim7.holds Tryz.pinned (.plain (OpenSpec.ofChange orphansRowSpec)) orphansRowCard

/-- THE SECOND FORM's CARD OF 'quernlaw27.OrphansRow'. -/
def orphansRowUptoCard : Claim7 := { stood := { row := orphansRowUptoRow, standIns := [], harness := (true, "2ff40fd7e21bdc8fd2991fb388dce7fdb7e2362fc7f082d0ac179bb7c14a2982"), looks := true }, kinds := [], alts := [], laidByText := true, laidKinds := [.data], laidTests := true, laidLooks := .later }
def OrphansRowUptoCardSaid : Prop := Claim7.holds Tryz.pinned (.plain (OpenSpec.upto orphansRowSpec)) orphansRowUptoCard
end Rows
end Go.Proofs.YtdkcjalmhdofcaaGreatDoor
