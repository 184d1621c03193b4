/-
  No cell of these rows narrows 'for every input' (looked for: loops, veiled, ifaces, maps, wideKeys, modest, calm, conditions, laid).
  DERIVED. THE GIVEN ROWS OF THIS SEAT. 7 by the template 'for every input the law returns true; each argument reads behind the call as it read before'; 0 by the template 'total and deterministic' (their statements: YtjpmekapkjkkbaaTotals.lean).
  GIVEN WITH THE SEED: the statements are not yours to turn. If you find one false, say at which input.
  Laid BY PROGRAM, IN A SANDBOX (cutbox-rows.mjs): the forced cells as the released guide's own fill.sh prints them over the translation 85afaee50523fa08… (all of the seat's roots in one cut). By AI agents, Wed Nov 11 2026. No macro, syntax, notation, axiom, sorry.
-/
import Derived.Test.YtjpmekapkjkkbaaChecked
import GoSem.Claim
import GoSem.ClaimJoined
import GoSem.ClaimMapViews
import Derived.JoinedTies
import Derived.KernelRfl
namespace Go.Proofs.Ytjpmekapkjkkbaa
/- THE CELL 'sum', in the pinned program and in every row, IS THE sha256 OF THE DUMP (.gsa) THAT YtjpmekapkjkkbaaProg.lean LOADS. Nothing in Lean hashes anything: it is a label: what it is worth is what the hold of that sum in a sandbox is worth. -/
noncomputable def Try.pinned : Pinned := { name := "ytjpmekapkjkkbaa", sum := "85afaee50523fa08fa124d719c5cba830f432d43faa5a214cb2e41bb818c8e5e", checked := Try.checked }
namespace Rows
def none {H : Type} : Left H := { results := [], args := [] }

/-- 'quernlaw29.NamesJoin': WHATEVER THE INPUT: true; the input reads as it did. -/
def namesJoinSpec : ChangeSpec := { name := "namesJoin", fn := fun _ => fun
  | [d] => { results := [.lit (.bool true)], args := [d] }
  | _ => none }
def namesJoinRow : OpenClaim := { program := "ytjpmekapkjkkbaa", sum := "85afaee50523fa08fa124d719c5cba830f432d43faa5a214cb2e41bb818c8e5e", func := "quern/quernlaw29.NamesJoin", spec := "namesJoin", inPlace := ["internal/bytealg.IndexByteString", "internal/bytealg.IndexString", "internal/abi.NoEscape", "internal/bytealg.MakeNoZero"], named := ["internal/bytealg.MaxLen"], apart := false }
def NamesJoinSaid : Prop := namesJoinRow.holds Try.pinned (OpenSpec.ofChange namesJoinSpec)

/-- ITS FALSE NEIGHBOUR: 'it returns false'. Refute it at one input. -/
def namesJoinWrong : ChangeSpec := { name := "namesJoin", fn := fun _ => fun
  | [d] => { results := [.lit (.bool false)], args := [d] }
  | _ => none }
def NamesJoinWrongFalsely : Prop := namesJoinRow.holds Try.pinned (OpenSpec.ofChange namesJoinWrong)

/-- 'quernlaw29.NamesSplit': WHATEVER THE INPUT: true; the input reads as it did. -/
def namesSplitSpec : ChangeSpec := { name := "namesSplit", fn := fun _ => fun
  | [d] => { results := [.lit (.bool true)], args := [d] }
  | _ => none }
def namesSplitRow : OpenClaim := { program := "ytjpmekapkjkkbaa", sum := "85afaee50523fa08fa124d719c5cba830f432d43faa5a214cb2e41bb818c8e5e", func := "quern/quernlaw29.NamesSplit", spec := "namesSplit", inPlace := ["internal/bytealg.IndexByteString", "internal/bytealg.IndexString", "internal/abi.NoEscape", "internal/bytealg.MakeNoZero"], unfollowed := true, recurses := true, named := ["internal/bytealg.MaxLen"], apart := false }
def NamesSplitSaid : Prop := namesSplitRow.holds Try.pinned (OpenSpec.ofChange namesSplitSpec)

/-- ITS FALSE NEIGHBOUR: 'it returns false'. Refute it at one input. -/
def namesSplitWrong : ChangeSpec := { name := "namesSplit", fn := fun _ => fun
  | [d] => { results := [.lit (.bool false)], args := [d] }
  | _ => none }
def NamesSplitWrongFalsely : Prop := namesSplitRow.holds Try.pinned (OpenSpec.ofChange namesSplitWrong)

/-- 'quernlaw29.NamesBack': WHATEVER THE INPUT: true; the input reads as it did. -/
def namesBackSpec : ChangeSpec := { name := "namesBack", fn := fun _ => fun
  | [d1, d2] => { results := [.lit (.bool true)], args := [d1, d2] }
  | _ => none }
def namesBackRow : OpenClaim := { program := "ytjpmekapkjkkbaa", sum := "85afaee50523fa08fa124d719c5cba830f432d43faa5a214cb2e41bb818c8e5e", func := "quern/quernlaw29.NamesBack", spec := "namesBack", inPlace := ["internal/bytealg.IndexByteString", "internal/bytealg.IndexString", "internal/abi.NoEscape", "internal/bytealg.MakeNoZero"], unfollowed := true, recurses := true, named := ["internal/bytealg.MaxLen"], apart := false }
def NamesBackSaid : Prop := namesBackRow.holds Try.pinned (OpenSpec.ofChange namesBackSpec)

/-- ITS FALSE NEIGHBOUR: 'it returns false'. Refute it at one input. -/
def namesBackWrong : ChangeSpec := { name := "namesBack", fn := fun _ => fun
  | [d1, d2] => { results := [.lit (.bool false)], args := [d1, d2] }
  | _ => none }
def NamesBackWrongFalsely : Prop := namesBackRow.holds Try.pinned (OpenSpec.ofChange namesBackWrong)

/-- 'quernlaw29.NamesParent': WHATEVER THE INPUT: true; the input reads as it did. -/
def namesParentSpec : ChangeSpec := { name := "namesParent", fn := fun _ => fun
  | [d] => { results := [.lit (.bool true)], args := [d] }
  | _ => none }
def namesParentRow : OpenClaim := { program := "ytjpmekapkjkkbaa", sum := "85afaee50523fa08fa124d719c5cba830f432d43faa5a214cb2e41bb818c8e5e", func := "quern/quernlaw29.NamesParent", spec := "namesParent", inPlace := ["internal/bytealg.IndexByteString", "internal/bytealg.IndexString", "internal/abi.NoEscape", "internal/bytealg.MakeNoZero"], unfollowed := true, recurses := true, named := ["internal/bytealg.MaxLen"], apart := false }
def NamesParentSaid : Prop := namesParentRow.holds Try.pinned (OpenSpec.ofChange namesParentSpec)

/-- ITS FALSE NEIGHBOUR: 'it returns false'. Refute it at one input. -/
def namesParentWrong : ChangeSpec := { name := "namesParent", fn := fun _ => fun
  | [d] => { results := [.lit (.bool false)], args := [d] }
  | _ => none }
def NamesParentWrongFalsely : Prop := namesParentRow.holds Try.pinned (OpenSpec.ofChange namesParentWrong)

/-- 'quernlaw29.NamesOne': WHATEVER THE INPUT: true; the input reads as it did. -/
def namesOneSpec : ChangeSpec := { name := "namesOne", fn := fun _ => fun
  | [d] => { results := [.lit (.bool true)], args := [d] }
  | _ => none }
def namesOneRow : OpenClaim := { program := "ytjpmekapkjkkbaa", sum := "85afaee50523fa08fa124d719c5cba830f432d43faa5a214cb2e41bb818c8e5e", func := "quern/quernlaw29.NamesOne", spec := "namesOne", inPlace := ["internal/bytealg.IndexByteString", "internal/bytealg.IndexString", "internal/abi.NoEscape", "internal/bytealg.MakeNoZero"], unfollowed := true, recurses := true, named := ["internal/bytealg.MaxLen"], apart := false }
def NamesOneSaid : Prop := namesOneRow.holds Try.pinned (OpenSpec.ofChange namesOneSpec)

/-- ITS FALSE NEIGHBOUR: 'it returns false'. Refute it at one input. -/
def namesOneWrong : ChangeSpec := { name := "namesOne", fn := fun _ => fun
  | [d] => { results := [.lit (.bool false)], args := [d] }
  | _ => none }
def NamesOneWrongFalsely : Prop := namesOneRow.holds Try.pinned (OpenSpec.ofChange namesOneWrong)

/-- 'quernlaw29.NamesBelow': WHATEVER THE INPUT: true; the input reads as it did. -/
def namesBelowSpec : ChangeSpec := { name := "namesBelow", fn := fun _ => fun
  | [d1, d2] => { results := [.lit (.bool true)], args := [d1, d2] }
  | _ => none }
def namesBelowRow : OpenClaim := { program := "ytjpmekapkjkkbaa", sum := "85afaee50523fa08fa124d719c5cba830f432d43faa5a214cb2e41bb818c8e5e", func := "quern/quernlaw29.NamesBelow", spec := "namesBelow", inPlace := ["internal/bytealg.IndexByteString", "internal/bytealg.IndexString", "internal/abi.NoEscape", "internal/bytealg.MakeNoZero"], unfollowed := true, recurses := true, named := ["internal/bytealg.MaxLen"], apart := false }
def NamesBelowSaid : Prop := namesBelowRow.holds Try.pinned (OpenSpec.ofChange namesBelowSpec)

/-- ITS FALSE NEIGHBOUR: 'it returns false'. Refute it at one input. -/
def namesBelowWrong : ChangeSpec := { name := "namesBelow", fn := fun _ => fun
  | [d1, d2] => { results := [.lit (.bool false)], args := [d1, d2] }
  | _ => none }
def NamesBelowWrongFalsely : Prop := namesBelowRow.holds Try.pinned (OpenSpec.ofChange namesBelowWrong)

/-- 'quernlaw29.NamesEnd': WHATEVER THE INPUT: true; the input reads as it did. -/
def namesEndSpec : ChangeSpec := { name := "namesEnd", fn := fun _ => fun
  | [d] => { results := [.lit (.bool true)], args := [d] }
  | _ => none }
def namesEndRow : OpenClaim := { program := "ytjpmekapkjkkbaa", sum := "85afaee50523fa08fa124d719c5cba830f432d43faa5a214cb2e41bb818c8e5e", func := "quern/quernlaw29.NamesEnd", spec := "namesEnd", inPlace := ["internal/bytealg.IndexByteString", "internal/bytealg.IndexString", "internal/abi.NoEscape", "internal/bytealg.MakeNoZero"], unfollowed := true, recurses := true, named := ["internal/bytealg.MaxLen"], apart := false }
def NamesEndSaid : Prop := namesEndRow.holds Try.pinned (OpenSpec.ofChange namesEndSpec)

/-- ITS FALSE NEIGHBOUR: 'it returns false'. Refute it at one input. -/
def namesEndWrong : ChangeSpec := { name := "namesEnd", fn := fun _ => fun
  | [d] => { results := [.lit (.bool false)], args := [d] }
  | _ => none }
def NamesEndWrongFalsely : Prop := namesEndRow.holds Try.pinned (OpenSpec.ofChange namesEndWrong)

/- THE SECOND FORM. 'bulk': how many values and letters a reading holds, each counted each time it is reached (what is shared counts as often as it is met; a slice's spare places count too). A statement '..UptoSaid' is the law's where the arguments, and the package variables that the reading takes, are together of bulk at most 1048576: NARROWER than '..Said'. Prove '..Said' where nothing that the law and all that it calls make is longer than what came in: it says more and counts as full. Else prove '..UptoSaid'. A law counts once. -/
mutual
def uptoBulk {H : Type} : DataW H → Nat
  | .lit (.string bytes) => bytes.length + 1
  | .lit _ => 1
  | .nil => 1
  | .ptr d => uptoBulk d + 1
  | .slice elems spare => uptoBulkAll elems + uptoBulkAll spare + 1
  | .agg parts => uptoBulkAll parts + 1
  | .iface _ d => uptoBulk d + 1
  | .map entries => uptoBulkEntries entries + 1
  | .held _ => 1
def uptoBulkAll {H : Type} : List (DataW H) → Nat
  | [] => 0
  | d :: r => uptoBulk d + uptoBulkAll r
def uptoBulkEntries {H : Type} : List (Lit × DataW H) → Nat
  | [] => 0
  | x :: r => uptoBulkEntry x + uptoBulkEntries r
def uptoBulkEntry {H : Type} : Lit × DataW H → Nat
  | (.string bytes, d) => bytes.length + uptoBulk d + 1
  | (_, d) => uptoBulk d + 1
 end
def uptoSmall : (H : Type) → List (DataW H) → Bool := fun _ ds => decide (uptoBulkAll ds ≤ 1048576)
def OpenSpec.upto (s : _root_.Go.ChangeSpec) : _root_.Go.OpenSpec := { _root_.Go.OpenSpec.ofChange s with cond := some uptoSmall }

/-- 'quernlaw29.NamesJoin', WHERE WHAT IT READS IS OF BULK AT MOST 1048576: true; the input reads as it did. -/
def namesJoinUptoRow : OpenClaim := { program := "ytjpmekapkjkkbaa", sum := "85afaee50523fa08fa124d719c5cba830f432d43faa5a214cb2e41bb818c8e5e", func := "quern/quernlaw29.NamesJoin", spec := "namesJoin", inPlace := ["internal/bytealg.IndexByteString", "internal/bytealg.IndexString", "internal/abi.NoEscape", "internal/bytealg.MakeNoZero"], named := ["internal/bytealg.MaxLen"], apart := false, narrowed := true }
def NamesJoinUptoSaid : Prop := namesJoinUptoRow.holds Try.pinned (OpenSpec.upto namesJoinSpec)

/-- 'quernlaw29.NamesSplit', WHERE WHAT IT READS IS OF BULK AT MOST 1048576: true; the input reads as it did. -/
def namesSplitUptoRow : OpenClaim := { program := "ytjpmekapkjkkbaa", sum := "85afaee50523fa08fa124d719c5cba830f432d43faa5a214cb2e41bb818c8e5e", func := "quern/quernlaw29.NamesSplit", spec := "namesSplit", inPlace := ["internal/bytealg.IndexByteString", "internal/bytealg.IndexString", "internal/abi.NoEscape", "internal/bytealg.MakeNoZero"], unfollowed := true, recurses := true, named := ["internal/bytealg.MaxLen"], apart := false, narrowed := true }
def NamesSplitUptoSaid : Prop := namesSplitUptoRow.holds Try.pinned (OpenSpec.upto namesSplitSpec)

/-- 'quernlaw29.NamesBack', WHERE WHAT IT READS IS OF BULK AT MOST 1048576: true; the input reads as it did. -/
def namesBackUptoRow : OpenClaim := { program := "ytjpmekapkjkkbaa", sum := "85afaee50523fa08fa124d719c5cba830f432d43faa5a214cb2e41bb818c8e5e", func := "quern/quernlaw29.NamesBack", spec := "namesBack", inPlace := ["internal/bytealg.IndexByteString", "internal/bytealg.IndexString", "internal/abi.NoEscape", "internal/bytealg.MakeNoZero"], unfollowed := true, recurses := true, named := ["internal/bytealg.MaxLen"], apart := false, narrowed := true }
def NamesBackUptoSaid : Prop := namesBackUptoRow.holds Try.pinned (OpenSpec.upto namesBackSpec)

/-- 'quernlaw29.NamesParent', WHERE WHAT IT READS IS OF BULK AT MOST 1048576: true; the input reads as it did. -/
def namesParentUptoRow : OpenClaim := { program := "ytjpmekapkjkkbaa", sum := "85afaee50523fa08fa124d719c5cba830f432d43faa5a214cb2e41bb818c8e5e", func := "quern/quernlaw29.NamesParent", spec := "namesParent", inPlace := ["internal/bytealg.IndexByteString", "internal/bytealg.IndexString", "internal/abi.NoEscape", "internal/bytealg.MakeNoZero"], unfollowed := true, recurses := true, named := ["internal/bytealg.MaxLen"], apart := false, narrowed := true }
def NamesParentUptoSaid : Prop := namesParentUptoRow.holds Try.pinned (OpenSpec.upto namesParentSpec)

/-- 'quernlaw29.NamesOne', WHERE WHAT IT READS IS OF BULK AT MOST 1048576: true; the input reads as it did. -/
def namesOneUptoRow : OpenClaim := { program := "ytjpmekapkjkkbaa", sum := "85afaee50523fa08fa124d719c5cba830f432d43faa5a214cb2e41bb818c8e5e", func := "quern/quernlaw29.NamesOne", spec := "namesOne", inPlace := ["internal/bytealg.IndexByteString", "internal/bytealg.IndexString", "internal/abi.NoEscape", "internal/bytealg.MakeNoZero"], unfollowed := true, recurses := true, named := ["internal/bytealg.MaxLen"], apart := false, narrowed := true }
def NamesOneUptoSaid : Prop := namesOneUptoRow.holds Try.pinned (OpenSpec.upto namesOneSpec)

/-- 'quernlaw29.NamesBelow', WHERE WHAT IT READS IS OF BULK AT MOST 1048576: true; the input reads as it did. -/
def namesBelowUptoRow : OpenClaim := { program := "ytjpmekapkjkkbaa", sum := "85afaee50523fa08fa124d719c5cba830f432d43faa5a214cb2e41bb818c8e5e", func := "quern/quernlaw29.NamesBelow", spec := "namesBelow", inPlace := ["internal/bytealg.IndexByteString", "internal/bytealg.IndexString", "internal/abi.NoEscape", "internal/bytealg.MakeNoZero"], unfollowed := true, recurses := true, named := ["internal/bytealg.MaxLen"], apart := false, narrowed := true }
def NamesBelowUptoSaid : Prop := namesBelowUptoRow.holds Try.pinned (OpenSpec.upto namesBelowSpec)

/-- 'quernlaw29.NamesEnd', WHERE WHAT IT READS IS OF BULK AT MOST 1048576: true; the input reads as it did. -/
def namesEndUptoRow : OpenClaim := { program := "ytjpmekapkjkkbaa", sum := "85afaee50523fa08fa124d719c5cba830f432d43faa5a214cb2e41bb818c8e5e", func := "quern/quernlaw29.NamesEnd", spec := "namesEnd", inPlace := ["internal/bytealg.IndexByteString", "internal/bytealg.IndexString", "internal/abi.NoEscape", "internal/bytealg.MakeNoZero"], unfollowed := true, recurses := true, named := ["internal/bytealg.MaxLen"], apart := false, narrowed := true }
def NamesEndUptoSaid : Prop := namesEndUptoRow.holds Try.pinned (OpenSpec.upto namesEndSpec)

end Rows
end Go.Proofs.Ytjpmekapkjkkbaa
