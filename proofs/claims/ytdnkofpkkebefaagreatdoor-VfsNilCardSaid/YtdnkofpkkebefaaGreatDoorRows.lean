/-
  NARROWER THAN 'FOR EVERY INPUT', by the rows' own cells (each row's printed sentence says how): VfsFds: laid · VfsUnlinked: laid · VfsNil: laid.
  DERIVED. THE GIVEN ROWS OF THIS SEAT. 3 by the template 'for every input the law returns true; each argument reads behind the call as it read before'; 0 by the template 'total and deterministic' (their statements: YtdnkofpkkebefaaGreatDoorTotals.lean).
  GIVEN WITH THE SEED: the statements are not yours to turn. If you find one false, say at which input.
  Laid BY PROGRAM, IN A SANDBOX (cutbox-rows.mjs): the forced cells as the released guide's own fill.sh prints them over the translation b84483d26885de10… (all of the seat's roots in one cut). By AI agents, Wed Nov 11 2026. No macro, syntax, notation, axiom, sorry.
-/
import Derived.Test.YtdnkofpkkebefaaGreatDoorChecked
import GoSem.Claim
import GoSem.ClaimJoined
import GoSem.ClaimMapViews
import Derived.JoinedTies
import Derived.KernelRfl
namespace Go.Proofs.YtdnkofpkkebefaaGreatDoor
/- THE CELL 'sum', in the pinned program and in every row, IS THE sha256 OF THE DUMP (.gsa) THAT YtdnkofpkkebefaaGreatDoorProg.lean LOADS. Nothing in Lean hashes anything: it is a label: what it is worth is what the hold of that sum in a sandbox is worth. -/
noncomputable def Tryz.pinned : Pinned := { name := "ytdnkofpkkebefaagreatdoor", sum := "b84483d26885de104c978277e9c88448b4328459d4b77163df36083a801db7cf", checked := Tryz.checked }
namespace Rows
def none {H : Type} : Left H := { results := [], args := [] }

/- WHAT THE LISTED PACKAGE-LEVEL VARIABLES READ AS WHEN THE CALL BEGINS. Each datum BY PROGRAM (the guide's laid-datum.mjs) off the statement by which the dump's own 'gosem.cut.vars' lays the variable. In a bare row this is a premise. The card (YtdnkofpkkebefaaGreatDoorCards.lean) ties it to the program's text. -/
def laid_quern_crc_steps {H : Type} : DataW H := .agg [.lit (.int .u32 0), .lit (.int .u32 498536548), .lit (.int .u32 997073096), .lit (.int .u32 651767980), .lit (.int .u32 1994146192), .lit (.int .u32 1802195444), .lit (.int .u32 1303535960), .lit (.int .u32 1342533948), .lit (.int .u32 3988292384), .lit (.int .u32 4027552580), .lit (.int .u32 3604390888), .lit (.int .u32 3412177804), .lit (.int .u32 2607071920), .lit (.int .u32 2262029012), .lit (.int .u32 2685067896), .lit (.int .u32 3183342108)]

/-- 'quernlaw31.VfsFds': WHATEVER THE INPUT: true; the input reads as it did. -/
def vfsFdsSpec : ChangeSpec := { name := "vfsFds", fn := fun _ => fun
  | [d1, d2] => { results := [.lit (.bool true)], args := [d1, d2] }
  | _ => none }
def vfsFdsRow : OpenClaim := { program := "ytdnkofpkkebefaagreatdoor", sum := "b84483d26885de104c978277e9c88448b4328459d4b77163df36083a801db7cf", func := "quern/quernlaw31.VfsFds", spec := "vfsFds", inPlace := ["internal/bytealg.IndexByteString", "maps.clone", "internal/bytealg.IndexString"], unfollowed := true, recurses := true, named := ["quern/crc.steps", "internal/bytealg.MaxLen"], plainKeys := false, apart := false, laid := [("quern/crc.steps", laid_quern_crc_steps)] }
def VfsFdsSaid : Prop := vfsFdsRow.holds Tryz.pinned (OpenSpec.ofChange vfsFdsSpec)

/-- ITS FALSE NEIGHBOUR: 'it returns false'. Refute it at one input. -/
def vfsFdsWrong : ChangeSpec := { name := "vfsFds", fn := fun _ => fun
  | [d1, d2] => { results := [.lit (.bool false)], args := [d1, d2] }
  | _ => none }
def VfsFdsWrongFalsely : Prop := vfsFdsRow.holds Tryz.pinned (OpenSpec.ofChange vfsFdsWrong)

/-- 'quernlaw31.VfsUnlinked': WHATEVER THE INPUT: true; the input reads as it did. -/
def vfsUnlinkedSpec : ChangeSpec := { name := "vfsUnlinked", fn := fun _ => fun
  | [d1, d2, d3] => { results := [.lit (.bool true)], args := [d1, d2, d3] }
  | _ => none }
def vfsUnlinkedRow : OpenClaim := { program := "ytdnkofpkkebefaagreatdoor", sum := "b84483d26885de104c978277e9c88448b4328459d4b77163df36083a801db7cf", func := "quern/quernlaw31.VfsUnlinked", spec := "vfsUnlinked", inPlace := ["internal/bytealg.IndexByteString", "maps.clone", "internal/bytealg.IndexString"], unfollowed := true, recurses := true, named := ["quern/crc.steps", "internal/bytealg.MaxLen"], plainKeys := false, apart := false, laid := [("quern/crc.steps", laid_quern_crc_steps)] }
def VfsUnlinkedSaid : Prop := vfsUnlinkedRow.holds Tryz.pinned (OpenSpec.ofChange vfsUnlinkedSpec)

/-- ITS FALSE NEIGHBOUR: 'it returns false'. Refute it at one input. -/
def vfsUnlinkedWrong : ChangeSpec := { name := "vfsUnlinked", fn := fun _ => fun
  | [d1, d2, d3] => { results := [.lit (.bool false)], args := [d1, d2, d3] }
  | _ => none }
def VfsUnlinkedWrongFalsely : Prop := vfsUnlinkedRow.holds Tryz.pinned (OpenSpec.ofChange vfsUnlinkedWrong)

/-- 'quernlaw31.VfsNil': WHATEVER THE INPUT: true; the input reads as it did. -/
def vfsNilSpec : ChangeSpec := { name := "vfsNil", fn := fun _ => fun
  | [d1, d2] => { results := [.lit (.bool true)], args := [d1, d2] }
  | _ => none }
def vfsNilRow : OpenClaim := { program := "ytdnkofpkkebefaagreatdoor", sum := "b84483d26885de104c978277e9c88448b4328459d4b77163df36083a801db7cf", func := "quern/quernlaw31.VfsNil", spec := "vfsNil", inPlace := ["internal/bytealg.IndexByteString", "maps.clone", "internal/bytealg.IndexString"], unfollowed := true, recurses := true, named := ["quern/crc.steps", "internal/bytealg.MaxLen"], plainKeys := false, apart := false, laid := [("quern/crc.steps", laid_quern_crc_steps)] }
def VfsNilSaid : Prop := vfsNilRow.holds Tryz.pinned (OpenSpec.ofChange vfsNilSpec)

/-- ITS FALSE NEIGHBOUR: 'it returns false'. Refute it at one input. -/
def vfsNilWrong : ChangeSpec := { name := "vfsNil", fn := fun _ => fun
  | [d1, d2] => { results := [.lit (.bool false)], args := [d1, d2] }
  | _ => none }
def VfsNilWrongFalsely : Prop := vfsNilRow.holds Tryz.pinned (OpenSpec.ofChange vfsNilWrong)

/- THE SECOND FORM. 'bulk': how many values and letters a reading holds, each counted each time it is reached (what is shared counts as often as it is met; a slice's spare places count too). A statement '..UptoSaid' is the law's where the arguments, and the package variables that the reading takes, are together of bulk at most 1048576: NARROWER than '..Said'. Prove '..Said' where nothing that the law and all that it calls make is longer than what came in: it says more and counts as full. Else prove '..UptoSaid'. A law counts once. -/
mutual
def uptoBulk {H : Type} : DataW H → Nat
  | .lit (.string bytes) => bytes.length + 1
  | .lit _ => 1
  | .nil => 1
  | .ptr d => uptoBulk d + 1
  | .slice elems spare => uptoBulkAll elems + uptoBulkAll spare + 1
  | .agg parts => uptoBulkAll parts + 1
  | .iface _ d => uptoBulk d + 1
  | .map entries => uptoBulkEntries entries + 1
  | .held _ => 1
def uptoBulkAll {H : Type} : List (DataW H) → Nat
  | [] => 0
  | d :: r => uptoBulk d + uptoBulkAll r
def uptoBulkEntries {H : Type} : List (Lit × DataW H) → Nat
  | [] => 0
  | x :: r => uptoBulkEntry x + uptoBulkEntries r
def uptoBulkEntry {H : Type} : Lit × DataW H → Nat
  | (.string bytes, d) => bytes.length + uptoBulk d + 1
  | (_, d) => uptoBulk d + 1
 end
def uptoSmall : (H : Type) → List (DataW H) → Bool := fun _ ds => decide (uptoBulkAll ds ≤ 1048576)
def OpenSpec.upto (s : _root_.Go.ChangeSpec) : _root_.Go.OpenSpec := { _root_.Go.OpenSpec.ofChange s with cond := some uptoSmall }

/-- 'quernlaw31.VfsFds', WHERE WHAT IT READS IS OF BULK AT MOST 1048576: true; the input reads as it did. -/
def vfsFdsUptoRow : OpenClaim := { program := "ytdnkofpkkebefaagreatdoor", sum := "b84483d26885de104c978277e9c88448b4328459d4b77163df36083a801db7cf", func := "quern/quernlaw31.VfsFds", spec := "vfsFds", inPlace := ["internal/bytealg.IndexByteString", "maps.clone", "internal/bytealg.IndexString"], unfollowed := true, recurses := true, named := ["quern/crc.steps", "internal/bytealg.MaxLen"], plainKeys := false, apart := false, laid := [("quern/crc.steps", laid_quern_crc_steps)], narrowed := true }
def VfsFdsUptoSaid : Prop := vfsFdsUptoRow.holds Tryz.pinned (OpenSpec.upto vfsFdsSpec)

/-- 'quernlaw31.VfsUnlinked', WHERE WHAT IT READS IS OF BULK AT MOST 1048576: true; the input reads as it did. -/
def vfsUnlinkedUptoRow : OpenClaim := { program := "ytdnkofpkkebefaagreatdoor", sum := "b84483d26885de104c978277e9c88448b4328459d4b77163df36083a801db7cf", func := "quern/quernlaw31.VfsUnlinked", spec := "vfsUnlinked", inPlace := ["internal/bytealg.IndexByteString", "maps.clone", "internal/bytealg.IndexString"], unfollowed := true, recurses := true, named := ["quern/crc.steps", "internal/bytealg.MaxLen"], plainKeys := false, apart := false, laid := [("quern/crc.steps", laid_quern_crc_steps)], narrowed := true }
def VfsUnlinkedUptoSaid : Prop := vfsUnlinkedUptoRow.holds Tryz.pinned (OpenSpec.upto vfsUnlinkedSpec)

/-- 'quernlaw31.VfsNil', WHERE WHAT IT READS IS OF BULK AT MOST 1048576: true; the input reads as it did. -/
def vfsNilUptoRow : OpenClaim := { program := "ytdnkofpkkebefaagreatdoor", sum := "b84483d26885de104c978277e9c88448b4328459d4b77163df36083a801db7cf", func := "quern/quernlaw31.VfsNil", spec := "vfsNil", inPlace := ["internal/bytealg.IndexByteString", "maps.clone", "internal/bytealg.IndexString"], unfollowed := true, recurses := true, named := ["quern/crc.steps", "internal/bytealg.MaxLen"], plainKeys := false, apart := false, laid := [("quern/crc.steps", laid_quern_crc_steps)], narrowed := true }
def VfsNilUptoSaid : Prop := vfsNilUptoRow.holds Tryz.pinned (OpenSpec.upto vfsNilSpec)

end Rows
end Go.Proofs.YtdnkofpkkebefaaGreatDoor
