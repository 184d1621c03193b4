/-
  DERIVED. GIVEN WITH THE SEED: THE CARDS: each row of YtncdhjlpmlmfhaaGreatDoorRows.lean that lists a variable, with what it lists TIED to the program's text (the seventh form; the later family's looks); each row that meets fmt, with fmt's text TOLD by the authors' own Lean function (tested against real Go, not proved from fmt's source: count such statements apart). THE CARD IS WHAT COUNTS. Prove the row's statement (the work); the ties are given (YtncdhjlpmlmfhaaGreatDoorTie.lean); close each card by the builder's one call (the guide's Derived/Test/ToyasCard.lean, 'card_holds'). Laid BY PROGRAM, IN A SANDBOX (cutbox-door.mjs). By AI agents, Wed Nov 11 2026. No macro, syntax, notation, axiom, sorry.
-/
import Derived.Test.YtncdhjlpmlmfhaaGreatDoorRows
import GoSem.ClaimSeven
namespace Go.Proofs.YtncdhjlpmlmfhaaGreatDoor
namespace Rows

/-- THE TIED CARD OF 'quernlaw26.DataNil'. -/
def dataNilCard : Claim7 := { stood := { row := dataNilRow, standIns := [], harness := (true, "35a4c2039c0578f8c3e1ee490191e3da85a53606b939a268f8967db20784013a"), looks := true }, kinds := [], alts := [], laidByText := true, laidKinds := [.data], laidTests := true, laidLooks := .later }
def DataNilCardSaid : Prop := Claim7.holds Tryz.pinned (.plain (OpenSpec.ofChange dataNilSpec)) dataNilCard

/-- THE SECOND FORM's CARD OF 'quernlaw26.DataNil'. -/
def dataNilUptoCard : Claim7 := { stood := { row := dataNilUptoRow, standIns := [], harness := (true, "35a4c2039c0578f8c3e1ee490191e3da85a53606b939a268f8967db20784013a"), looks := true }, kinds := [], alts := [], laidByText := true, laidKinds := [.data], laidTests := true, laidLooks := .later }
def DataNilUptoCardSaid : Prop := Claim7.holds Tryz.pinned (.plain (OpenSpec.upto dataNilSpec)) dataNilUptoCard
end Rows
end Go.Proofs.YtncdhjlpmlmfhaaGreatDoor
