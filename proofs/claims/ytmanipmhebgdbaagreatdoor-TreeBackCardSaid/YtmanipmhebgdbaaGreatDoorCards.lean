/-
  DERIVED. GIVEN WITH THE SEED: THE CARDS: each row of YtmanipmhebgdbaaGreatDoorRows.lean that lists a variable, with what it lists TIED to the program's text (the seventh form; the later family's looks); each row that meets fmt, with fmt's text TOLD by the authors' own Lean function (tested against real Go, not proved from fmt's source: count such statements apart). THE CARD IS WHAT COUNTS. Prove the row's statement (the work); the ties are given (YtmanipmhebgdbaaGreatDoorTie.lean); close each card by the builder's one call (the guide's Derived/Test/ToyasCard.lean, 'card_holds'). Laid BY PROGRAM, IN A SANDBOX (cutbox-door.mjs). By AI agents, Wed Nov 11 2026. No macro, syntax, notation, axiom, sorry.
-/
import Derived.Test.YtmanipmhebgdbaaGreatDoorRows
import GoSem.ClaimSeven
namespace Go.Proofs.YtmanipmhebgdbaaGreatDoor
namespace Rows

/-- THE TIED CARD OF 'quernlaw30.TreeLinks'. -/
def treeLinksCard : Claim7 := { stood := { row := treeLinksRow, standIns := [], harness := (true, "deae973c8d7d94c0ea8a5660bb174fab4c84a3d765c56a2aef5f52dd7f71348d"), looks := true }, kinds := [], alts := [], laidByText := true, laidKinds := [.data], laidTests := true, laidLooks := .later }
def TreeLinksCardSaid : Prop := Claim7.holds Tryz.pinned (.plain (OpenSpec.ofChange treeLinksSpec)) treeLinksCard

/-- THE TIED CARD OF 'quernlaw30.TreeRow'. -/
def treeRowCard : Claim7 := { stood := { row := treeRowRow, standIns := [], harness := (true, "deae973c8d7d94c0ea8a5660bb174fab4c84a3d765c56a2aef5f52dd7f71348d"), looks := true }, kinds := [], alts := [], laidByText := true, laidKinds := [.data], laidTests := true, laidLooks := .later }
def TreeRowCardSaid : Prop := Claim7.holds Tryz.pinned (.plain (OpenSpec.ofChange treeRowSpec)) treeRowCard

/-- THE TIED CARD OF 'quernlaw30.TreeBack'. -/
def treeBackCard : Claim7 := { stood := { row := treeBackRow, standIns := [], harness := (true, "deae973c8d7d94c0ea8a5660bb174fab4c84a3d765c56a2aef5f52dd7f71348d"), looks := true }, kinds := [], alts := [], laidByText := true, laidKinds := [.data], laidTests := true, laidLooks := .later }
def TreeBackCardSaid : Prop := Claim7.holds Tryz.pinned (.plain (OpenSpec.ofChange treeBackSpec)) treeBackCard

/-- THE SECOND FORM's CARD OF 'quernlaw30.TreeLinks'. -/
def treeLinksUptoCard : Claim7 := { stood := { row := treeLinksUptoRow, standIns := [], harness := (true, "deae973c8d7d94c0ea8a5660bb174fab4c84a3d765c56a2aef5f52dd7f71348d"), looks := true }, kinds := [], alts := [], laidByText := true, laidKinds := [.data], laidTests := true, laidLooks := .later }
def TreeLinksUptoCardSaid : Prop := Claim7.holds Tryz.pinned (.plain (OpenSpec.upto treeLinksSpec)) treeLinksUptoCard

/-- THE SECOND FORM's CARD OF 'quernlaw30.TreeRow'. -/
def treeRowUptoCard : Claim7 := { stood := { row := treeRowUptoRow, standIns := [], harness := (true, "deae973c8d7d94c0ea8a5660bb174fab4c84a3d765c56a2aef5f52dd7f71348d"), looks := true }, kinds := [], alts := [], laidByText := true, laidKinds := [.data], laidTests := true, laidLooks := .later }
def TreeRowUptoCardSaid : Prop := Claim7.holds Tryz.pinned (.plain (OpenSpec.upto treeRowSpec)) treeRowUptoCard

/-- THE SECOND FORM's CARD OF 'quernlaw30.TreeBack'. -/
def treeBackUptoCard : Claim7 := { stood := { row := treeBackUptoRow, standIns := [], harness := (true, "deae973c8d7d94c0ea8a5660bb174fab4c84a3d765c56a2aef5f52dd7f71348d"), looks := true }, kinds := [], alts := [], laidByText := true, laidKinds := [.data], laidTests := true, laidLooks := .later }
def TreeBackUptoCardSaid : Prop := Claim7.holds Tryz.pinned (.plain (OpenSpec.upto treeBackSpec)) treeBackUptoCard
end Rows
end Go.Proofs.YtmanipmhebgdbaaGreatDoor
