/-
  DERIVED. GIVEN WITH THE SEED: THE CARDS: each row of YtgikjeaipmeclaaGreatDoorRows.lean that lists a variable, with what it lists TIED to the program's text (the seventh form; the later family's looks); each row that meets fmt, with fmt's text TOLD by the authors' own Lean function (tested against real Go, not proved from fmt's source: count such statements apart). THE CARD IS WHAT COUNTS. Prove the row's statement (the work); the ties are given (YtgikjeaipmeclaaGreatDoorTie.lean); close each card by the builder's one call (the guide's Derived/Test/ToyasCard.lean, 'card_holds'). Laid BY PROGRAM, IN A SANDBOX (cutbox-door.mjs). By AI agents, Wed Nov 11 2026. No macro, syntax, notation, axiom, sorry.
-/
import Derived.Test.YtgikjeaipmeclaaGreatDoorRows
import GoSem.ClaimSeven
namespace Go.Proofs.YtgikjeaipmeclaaGreatDoor
namespace Rows

/-- THE TIED CARD OF 'quernlaw26.DataPieces'. -/
def dataPiecesCard : Claim7 := { stood := { row := dataPiecesRow, standIns := [], harness := (true, "79f43452d0d948774bbc1b0523cb2429f3540db35da5b653454ba7c18be22edb"), looks := true }, kinds := [], alts := [], laidByText := true, laidKinds := [.data], laidTests := true, laidLooks := .later }
def DataPiecesCardSaid : Prop := Claim7.holds Tryz.pinned (.plain (OpenSpec.ofChange dataPiecesSpec)) dataPiecesCard

/-- THE TIED CARD OF 'quernlaw26.DataHoles'. -/
def dataHolesCard : Claim7 := { stood := { row := dataHolesRow, standIns := [], harness := (true, "79f43452d0d948774bbc1b0523cb2429f3540db35da5b653454ba7c18be22edb"), looks := true }, kinds := [], alts := [], laidByText := true, laidKinds := [.data], laidTests := true, laidLooks := .later }
def DataHolesCardSaid : Prop := Claim7.holds Tryz.pinned (.plain (OpenSpec.ofChange dataHolesSpec)) dataHolesCard

/-- THE SECOND FORM's CARD OF 'quernlaw26.DataPieces'. -/
def dataPiecesUptoCard : Claim7 := { stood := { row := dataPiecesUptoRow, standIns := [], harness := (true, "79f43452d0d948774bbc1b0523cb2429f3540db35da5b653454ba7c18be22edb"), looks := true }, kinds := [], alts := [], laidByText := true, laidKinds := [.data], laidTests := true, laidLooks := .later }
def DataPiecesUptoCardSaid : Prop := Claim7.holds Tryz.pinned (.plain (OpenSpec.upto dataPiecesSpec)) dataPiecesUptoCard

/-- THE SECOND FORM's CARD OF 'quernlaw26.DataHoles'. -/
def dataHolesUptoCard : Claim7 := { stood := { row := dataHolesUptoRow, standIns := [], harness := (true, "79f43452d0d948774bbc1b0523cb2429f3540db35da5b653454ba7c18be22edb"), looks := true }, kinds := [], alts := [], laidByText := true, laidKinds := [.data], laidTests := true, laidLooks := .later }
def DataHolesUptoCardSaid : Prop := Claim7.holds Tryz.pinned (.plain (OpenSpec.upto dataHolesSpec)) dataHolesUptoCard
end Rows
end Go.Proofs.YtgikjeaipmeclaaGreatDoor
