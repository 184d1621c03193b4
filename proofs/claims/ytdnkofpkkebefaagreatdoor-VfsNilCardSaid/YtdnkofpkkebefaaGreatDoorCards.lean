/-
  DERIVED. GIVEN WITH THE SEED: THE CARDS: each row of YtdnkofpkkebefaaGreatDoorRows.lean that lists a variable, with what it lists TIED to the program's text (the seventh form; the later family's looks); each row that meets fmt, with fmt's text TOLD by the authors' own Lean function (tested against real Go, not proved from fmt's source: count such statements apart). THE CARD IS WHAT COUNTS. Prove the row's statement (the work); the ties are given (YtdnkofpkkebefaaGreatDoorTie.lean); close each card by the builder's one call (the guide's Derived/Test/ToyasCard.lean, 'card_holds'). Laid BY PROGRAM, IN A SANDBOX (cutbox-door.mjs). By AI agents, Wed Nov 11 2026. No macro, syntax, notation, axiom, sorry.
-/
import Derived.Test.YtdnkofpkkebefaaGreatDoorRows
import GoSem.ClaimSeven
namespace Go.Proofs.YtdnkofpkkebefaaGreatDoor
namespace Rows

/-- THE TIED CARD OF 'quernlaw31.VfsFds'. -/
def vfsFdsCard : Claim7 := { stood := { row := vfsFdsRow, standIns := [], harness := (true, "4f12e541ff9f4cf31dcbfd8798ddfa4f9edeccbb4e84e8d6a266d3dd438a0791"), looks := true }, kinds := [], alts := [], laidByText := true, laidKinds := [.data], laidTests := true, laidLooks := .later }
def VfsFdsCardSaid : Prop := Claim7.holds Tryz.pinned (.plain (OpenSpec.ofChange vfsFdsSpec)) vfsFdsCard

/-- THE TIED CARD OF 'quernlaw31.VfsUnlinked'. -/
def vfsUnlinkedCard : Claim7 := { stood := { row := vfsUnlinkedRow, standIns := [], harness := (true, "4f12e541ff9f4cf31dcbfd8798ddfa4f9edeccbb4e84e8d6a266d3dd438a0791"), looks := true }, kinds := [], alts := [], laidByText := true, laidKinds := [.data], laidTests := true, laidLooks := .later }
def VfsUnlinkedCardSaid : Prop := Claim7.holds Tryz.pinned (.plain (OpenSpec.ofChange vfsUnlinkedSpec)) vfsUnlinkedCard

/-- THE TIED CARD OF 'quernlaw31.VfsNil'. -/
def vfsNilCard : Claim7 := { stood := { row := vfsNilRow, standIns := [], harness := (true, "4f12e541ff9f4cf31dcbfd8798ddfa4f9edeccbb4e84e8d6a266d3dd438a0791"), looks := true }, kinds := [], alts := [], laidByText := true, laidKinds := [.data], laidTests := true, laidLooks := .later }
def VfsNilCardSaid : Prop := Claim7.holds Tryz.pinned (.plain (OpenSpec.ofChange vfsNilSpec)) vfsNilCard

/-- THE SECOND FORM's CARD OF 'quernlaw31.VfsFds'. -/
def vfsFdsUptoCard : Claim7 := { stood := { row := vfsFdsUptoRow, standIns := [], harness := (true, "4f12e541ff9f4cf31dcbfd8798ddfa4f9edeccbb4e84e8d6a266d3dd438a0791"), looks := true }, kinds := [], alts := [], laidByText := true, laidKinds := [.data], laidTests := true, laidLooks := .later }
def VfsFdsUptoCardSaid : Prop := Claim7.holds Tryz.pinned (.plain (OpenSpec.upto vfsFdsSpec)) vfsFdsUptoCard

/-- THE SECOND FORM's CARD OF 'quernlaw31.VfsUnlinked'. -/
def vfsUnlinkedUptoCard : Claim7 := { stood := { row := vfsUnlinkedUptoRow, standIns := [], harness := (true, "4f12e541ff9f4cf31dcbfd8798ddfa4f9edeccbb4e84e8d6a266d3dd438a0791"), looks := true }, kinds := [], alts := [], laidByText := true, laidKinds := [.data], laidTests := true, laidLooks := .later }
def VfsUnlinkedUptoCardSaid : Prop := Claim7.holds Tryz.pinned (.plain (OpenSpec.upto vfsUnlinkedSpec)) vfsUnlinkedUptoCard

/-- THE SECOND FORM's CARD OF 'quernlaw31.VfsNil'. -/
def vfsNilUptoCard : Claim7 := { stood := { row := vfsNilUptoRow, standIns := [], harness := (true, "4f12e541ff9f4cf31dcbfd8798ddfa4f9edeccbb4e84e8d6a266d3dd438a0791"), looks := true }, kinds := [], alts := [], laidByText := true, laidKinds := [.data], laidTests := true, laidLooks := .later }
def VfsNilUptoCardSaid : Prop := Claim7.holds Tryz.pinned (.plain (OpenSpec.upto vfsNilSpec)) vfsNilUptoCard
end Rows
end Go.Proofs.YtdnkofpkkebefaaGreatDoor
