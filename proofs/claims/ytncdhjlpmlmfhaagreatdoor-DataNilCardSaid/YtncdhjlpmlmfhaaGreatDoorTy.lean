/- Types of the program, as the evaluator has them. -/
import Derived.Test.YtncdhjlpmlmfhaaGreatDoorCfg
import Derived.Test.YtncdhjlpmlmfhaaGreatDoorFits
import Derived.Test.YtncdhjlpmlmfhaaGreatDoorEvC
import Derived.KernelRfl
set_option linter.unusedSimpArgs false
set_option linter.unusedVariables false
set_option linter.unusedSectionVars false
set_option maxRecDepth 100000
namespace Go.Proofs.YtncdhjlpmlmfhaaGreatDoor
open Go.Ev
theorem gl : K.globs = Tree.set .nil 0 0 := by kernel_rfl
theorem tyInt : K.types.get 3 = some ti3 := by kernel_rfl
theorem dInt : ti3.desc = .int .i64 := rfl
theorem sInt : ti3.size = 1 := rfl
theorem aInt : ti3.agg = false := rfl
theorem tyBool : K.types.get 4 = some ti4 := by kernel_rfl
theorem dBool : ti4.desc = .bool := rfl
theorem sBool : ti4.size = 1 := rfl
theorem aBool : ti4.agg = false := rfl
theorem tyByte : K.types.get 5 = some ti5 := by kernel_rfl
theorem dByte : ti5.desc = .int .u8 := rfl
theorem sByte : ti5.size = 1 := rfl
theorem aByte : ti5.agg = false := rfl
theorem tyU32 : K.types.get 22 = some ti22 := by kernel_rfl
theorem dU32 : ti22.desc = .int .u32 := rfl
theorem sU32 : ti22.size = 1 := rfl
theorem aU32 : ti22.agg = false := rfl
theorem tyBlock : K.types.get 56 = some ti56 := by kernel_rfl
theorem dBlock : ti56.desc = .array 256 5 := rfl
theorem sBlock : ti56.size = 256 := rfl
theorem aBlock : ti56.agg = true := rfl
theorem tyBools : K.types.get 139 = some ti139 := by kernel_rfl
theorem dBools : ti139.desc = .slice 4 := rfl
theorem sBools : ti139.size = 1 := rfl
theorem aBools : ti139.agg = false := rfl
theorem tyBytes : K.types.get 36 = some ti36 := by kernel_rfl
theorem dBytes : ti36.desc = .slice 5 := rfl
theorem sBytes : ti36.size = 1 := rfl
theorem aBytes : ti36.agg = false := rfl
theorem tyPieces : K.types.get 369 = some ti369 := by kernel_rfl
theorem dPieces : ti369.desc = .slice 36 := rfl
theorem tySteps : K.types.get 383 = some ti383 := by kernel_rfl
theorem dSteps : ti383.desc = .array 16 22 := rfl
theorem wrapU32 {v : Nat} (h : v < 4294967296) : wrapC .u32 (v : Int) = .int .u32 (v : Int) := by
  unfold wrapC IntKind.wrap
  congr 1
  show (if (false && _) = true then _ else (v : Int) % 4294967296) = _
  simp only [Bool.false_and, Bool.false_eq_true, if_false]
  omega
theorem bitU32 {f : Nat → Nat → Nat} {a b : Nat} (ha : a < 4294967296) (hb : b < 4294967296) (hf : f a b < 4294967296) : opBit .u32 f (a : Int) (b : Int) = .int .u32 (f a b : Nat) := by
  have e1 : ((a : Int) % 2 ^ IntKind.bits .u32).toNat = a := by show ((a : Int) % 4294967296).toNat = a; omega
  have e2 : ((b : Int) % 2 ^ IntKind.bits .u32).toNat = b := by show ((b : Int) % 4294967296).toNat = b; omega
  unfold opBit
  rw [e1, e2]
  exact wrapU32 hf
theorem xorU32 {a b : Nat} (ha : a < 4294967296) (hb : b < 4294967296) : opBit .u32 Nat.xor (a : Int) (b : Int) = .int .u32 (Nat.xor a b : Nat) := bitU32 ha hb (Nat.xor_lt_two_pow (n := 32) ha hb)
theorem xor_lt {a b : Nat} (ha : a < 4294967296) (hb : b < 4294967296) : Nat.xor a b < 4294967296 := Nat.xor_lt_two_pow (n := 32) ha hb
end Go.Proofs.YtncdhjlpmlmfhaaGreatDoor
