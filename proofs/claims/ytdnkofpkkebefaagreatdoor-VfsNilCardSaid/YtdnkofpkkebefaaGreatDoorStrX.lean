/- strings.IndexByte as the evaluator asks it. -/
import Derived.Test.YtdnkofpkkebefaaGreatDoorTy
import Derived.Test.YtdnkofpkkebefaaGreatDoorLay
import Derived.Test.YtdnkofpkkebefaaGreatDoorEvC
set_option linter.unusedSimpArgs false
set_option linter.unusedVariables false
set_option linter.unusedSectionVars false
set_option maxRecDepth 100000
namespace Go.Proofs.YtdnkofpkkebefaaGreatDoor
open Go.Ev
def xIB (args : List W) (h : Go.Ev.H) : Option (V × Go.Ev.H) := match args with
 | [.c (.str s), .c (.int .u8 c)] => some (.w (.c (.int .i64 (Go.Lib.indexByte s c.toNat.toUInt8))), h)
 | _ => none
theorem indexByteOk (s : List UInt8) (c : Int) (h : Go.Ev.H) : CallOk K Tryz.prog 385 [.c (.str s), .c (.int .u8 c)] h (.w (.c (.int .i64 (Go.Lib.indexByte s c.toNat.toUInt8)))) h := by
 refine CallOk.ofCalls ⟨Tryz.f385, Tryz.func385, by kernel_rfl, by decide⟩ fun ρ w vals hr ha => ?_
 obtain ⟨a, b, rfl, hx, hy⟩ := all2_two ha
 have e1 : a = .string ⟨⟨s⟩⟩ := hx
 have e2 : b = .int .u8 c := hy
 subst e1; subst e2
 exact ⟨_, rfl, Any.strings_IndexByte Tryz.lays137 ⟨⟨s⟩⟩ c w⟩
theorem xIB_ok {args : List W} {h h' : Go.Ev.H} {v : V} (e : xIB args h = some (v, h')) : CallOk K Tryz.prog 385 args h v h' := by
 unfold xIB at e
 split at e
 ·cases e
  exact indexByteOk _ _ _
 ·cases e
end Go.Proofs.YtdnkofpkkebefaaGreatDoor
