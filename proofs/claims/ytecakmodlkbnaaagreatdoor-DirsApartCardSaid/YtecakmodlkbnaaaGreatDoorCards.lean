/-
  DERIVED. GIVEN WITH THE SEED: THE CARDS: each row of YtecakmodlkbnaaaGreatDoorRows.lean that lists a variable, with what it lists TIED to the program's text (the seventh form; the later family's looks); each row that meets fmt, with fmt's text TOLD by the authors' own Lean function (tested against real Go, not proved from fmt's source: count such statements apart). THE CARD IS WHAT COUNTS. Prove the row's statement (the work); the ties are given (YtecakmodlkbnaaaGreatDoorTie.lean); close each card by the builder's one call (the guide's Derived/Test/ToyasCard.lean, 'card_holds'). Laid BY PROGRAM, IN A SANDBOX (cutbox-door.mjs). By AI agents, Wed Nov 11 2026. No macro, syntax, notation, axiom, sorry.
-/
import Derived.Test.YtecakmodlkbnaaaGreatDoorRows
import GoSem.ClaimSeven
namespace Go.Proofs.YtecakmodlkbnaaaGreatDoor
namespace Rows

/-- THE TIED CARD OF 'quernlaw28.DirsRow'. -/
def dirsRowCard : Claim7 := { stood := { row := dirsRowRow, standIns := [], harness := (true, "5581182cba69735ba9a51438d3c717326ab9a130acc54923fa88899e5738970e"), looks := true }, kinds := [], alts := [], laidByText := true, laidKinds := [.data], laidTests := true, laidLooks := .later }
def DirsRowCardSaid : Prop := Claim7.holds Tryz.pinned (.plain (OpenSpec.ofChange dirsRowSpec)) dirsRowCard

/-- THE TIED CARD OF 'quernlaw28.DirsApart'. -/
def dirsApartCard : Claim7 := { stood := { row := dirsApartRow, standIns := [], harness := (true, "5581182cba69735ba9a51438d3c717326ab9a130acc54923fa88899e5738970e"), looks := true }, kinds := [], alts := [], laidByText := true, laidKinds := [.data], laidTests := true, laidLooks := .later }
def DirsApartCardSaid : Prop := Claim7.holds Tryz.pinned (.plain (OpenSpec.ofChange dirsApartSpec)) dirsApartCard

/-- THE SECOND FORM's CARD OF 'quernlaw28.DirsRow'. -/
def dirsRowUptoCard : Claim7 := { stood := { row := dirsRowUptoRow, standIns := [], harness := (true, "5581182cba69735ba9a51438d3c717326ab9a130acc54923fa88899e5738970e"), looks := true }, kinds := [], alts := [], laidByText := true, laidKinds := [.data], laidTests := true, laidLooks := .later }
def DirsRowUptoCardSaid : Prop := Claim7.holds Tryz.pinned (.plain (OpenSpec.upto dirsRowSpec)) dirsRowUptoCard

/-- THE SECOND FORM's CARD OF 'quernlaw28.DirsApart'. -/
def dirsApartUptoCard : Claim7 := { stood := { row := dirsApartUptoRow, standIns := [], harness := (true, "5581182cba69735ba9a51438d3c717326ab9a130acc54923fa88899e5738970e"), looks := true }, kinds := [], alts := [], laidByText := true, laidKinds := [.data], laidTests := true, laidLooks := .later }
def DirsApartUptoCardSaid : Prop := Claim7.holds Tryz.pinned (.plain (OpenSpec.upto dirsApartSpec)) dirsApartUptoCard
end Rows
end Go.Proofs.YtecakmodlkbnaaaGreatDoor
