/- Types of the program, as the evaluator has them. -/
import Derived.Test.YtmnclecicnkmeaaGreatDoorCfg
import Derived.Test.YtmnclecicnkmeaaGreatDoorFits
import Derived.Test.YtmnclecicnkmeaaGreatDoorEvC
import Derived.KernelRfl
set_option linter.unusedSimpArgs false
set_option linter.unusedVariables false
set_option linter.unusedSectionVars false
set_option maxRecDepth 100000
namespace Go.Proofs.YtmnclecicnkmeaaGreatDoor
open Go.Ev
theorem gl : K.globs = Tree.set .nil 1 0 := by kernel_rfl
theorem tyInt : K.types.get 3 = some ti3 := by kernel_rfl
theorem dInt : ti3.desc = .int .i64 := rfl
theorem sInt : ti3.size = 1 := rfl
theorem aInt : ti3.agg = false := rfl
theorem tyBool : K.types.get 4 = some ti4 := by kernel_rfl
theorem dBool : ti4.desc = .bool := rfl
theorem sBool : ti4.size = 1 := rfl
theorem aBool : ti4.agg = false := rfl
theorem tyByte : K.types.get 5 = some ti5 := by kernel_rfl
theorem dByte : ti5.desc = .int .u8 := rfl
theorem sByte : ti5.size = 1 := rfl
theorem aByte : ti5.agg = false := rfl
theorem tyU32 : K.types.get 61 = some ti61 := by kernel_rfl
theorem dU32 : ti61.desc = .int .u32 := rfl
theorem sU32 : ti61.size = 1 := rfl
theorem aU32 : ti61.agg = false := rfl
theorem tyBlock : K.types.get 104 = some ti104 := by kernel_rfl
theorem dBlock : ti104.desc = .array 256 5 := rfl
theorem sBlock : ti104.size = 256 := rfl
theorem aBlock : ti104.agg = true := rfl
theorem tyBools : K.types.get 217 = some ti217 := by kernel_rfl
theorem dBools : ti217.desc = .slice 4 := rfl
theorem sBools : ti217.size = 1 := rfl
theorem aBools : ti217.agg = false := rfl
theorem tyBytes : K.types.get 202 = some ti202 := by kernel_rfl
theorem dBytes : ti202.desc = .slice 5 := rfl
theorem sBytes : ti202.size = 1 := rfl
theorem aBytes : ti202.agg = false := rfl
theorem tyPieces : K.types.get 450 = some ti450 := by kernel_rfl
theorem dPieces : ti450.desc = .slice 202 := rfl
theorem tySteps : K.types.get 451 = some ti451 := by kernel_rfl
theorem dSteps : ti451.desc = .array 16 61 := rfl
theorem wrapU32 {v : Nat} (h : v < 4294967296) : wrapC .u32 (v : Int) = .int .u32 (v : Int) := by
  unfold wrapC IntKind.wrap
  congr 1
  show (if (false && _) = true then _ else (v : Int) % 4294967296) = _
  simp only [Bool.false_and, Bool.false_eq_true, if_false]
  omega
theorem bitU32 {f : Nat → Nat → Nat} {a b : Nat} (ha : a < 4294967296) (hb : b < 4294967296) (hf : f a b < 4294967296) : opBit .u32 f (a : Int) (b : Int) = .int .u32 (f a b : Nat) := by
  have e1 : ((a : Int) % 2 ^ IntKind.bits .u32).toNat = a := by show ((a : Int) % 4294967296).toNat = a; omega
  have e2 : ((b : Int) % 2 ^ IntKind.bits .u32).toNat = b := by show ((b : Int) % 4294967296).toNat = b; omega
  unfold opBit
  rw [e1, e2]
  exact wrapU32 hf
theorem xorU32 {a b : Nat} (ha : a < 4294967296) (hb : b < 4294967296) : opBit .u32 Nat.xor (a : Int) (b : Int) = .int .u32 (Nat.xor a b : Nat) := bitU32 ha hb (Nat.xor_lt_two_pow (n := 32) ha hb)
theorem xor_lt {a b : Nat} (ha : a < 4294967296) (hb : b < 4294967296) : Nat.xor a b < 4294967296 := Nat.xor_lt_two_pow (n := 32) ha hb
end Go.Proofs.YtmnclecicnkmeaaGreatDoor
