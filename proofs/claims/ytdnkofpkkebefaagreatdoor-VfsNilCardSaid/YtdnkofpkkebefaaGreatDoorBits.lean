/- bits.Set, on the evaluator's level: a block as 2048 bits. -/
import Derived.Test.YtdnkofpkkebefaaGreatDoorTy
import Derived.Test.YtdnkofpkkebefaaGreatDoorEvC
set_option linter.unusedSimpArgs false
set_option linter.unusedVariables false
set_option linter.unusedSectionVars false
set_option maxRecDepth 100000
namespace Go.Proofs.YtdnkofpkkebefaaGreatDoor
open Go.Ev
theorem ty3 : K.types.get 3 = some ti3 := by kernel_rfl
theorem sz3 : ti3.size = 1 := by rfl
theorem ag3 : ti3.agg = false := by rfl
theorem de3 : ti3.desc = (.int .i64) := by rfl
theorem ze3 : ti3.zero = (.c (.int .i64 0)) := by rfl
theorem by3 : ti3.bytes = 8 := by rfl
theorem ke3 (k : IntKind) (n : Int) : keyT K 20 3 (.c (.int k n)) = true := by kernel_rfl
theorem ty4 : K.types.get 4 = some ti4 := by kernel_rfl
theorem sz4 : ti4.size = 1 := by rfl
theorem ag4 : ti4.agg = false := by rfl
theorem de4 : ti4.desc = .bool := by rfl
theorem ze4 : ti4.zero = (.c (.bool false)) := by rfl
theorem by4 : ti4.bytes = 1 := by rfl
theorem ty5 : K.types.get 5 = some ti5 := by kernel_rfl
theorem sz5 : ti5.size = 1 := by rfl
theorem ag5 : ti5.agg = false := by rfl
theorem de5 : ti5.desc = (.int .u8) := by rfl
theorem ze5 : ti5.zero = (.c (.int .u8 0)) := by rfl
theorem by5 : ti5.bytes = 1 := by rfl
theorem ke5 (k : IntKind) (n : Int) : keyT K 20 5 (.c (.int k n)) = true := by kernel_rfl
theorem ty81 : K.types.get 81 = some ti81 := by kernel_rfl
theorem sz81 : ti81.size = 256 := by rfl
theorem ag81 : ti81.agg = true := by rfl
theorem de81 : ti81.desc = (.array 256 5) := by rfl
theorem ze81 : ti81.zero = (.g ((List.replicate 256 (.int .u8 0)))) := by rfl
theorem by81 : ti81.bytes = 256 := by rfl
theorem eq81 (a b : List C) : eqT K 20 81 (.g a) (.g b) = (bif true && Nat.beq a.length 256 && Nat.beq b.length 256 then eqInts a b else none) := by kernel_rfl
theorem ty325 : K.types.get 325 = some ti325 := by kernel_rfl
theorem sz325 : ti325.size = 1 := by rfl
theorem ag325 : ti325.agg = false := by rfl
theorem de325 : ti325.desc = (.pointer 81) := by rfl
theorem ze325 : ti325.zero = (.c (.pnil)) := by rfl
theorem by325 : ti325.bytes = 8 := by rfl
attribute [go_sem] ty3 sz3 ag3 de3 ze3 by3 ke3 ty4 sz4 ag4 de4 ze4 by4 ty5 sz5 ag5 de5 ze5 by5 ke5 ty81 sz81 ag81 de81 ze81 by81 eq81 ty325 sz325 ag325 de325 ze325 by325
theorem rs383 : Tryz.f383.results.toList = [.tmp 2] := rfl
theorem rs382 : Tryz.f382.results.toList = [.tmp 2] := rfl
theorem rs279 : Tryz.f279.results.toList = [.tmp 4] := rfl
attribute [go_sem] rs383 rs382 rs279
def b8 (b0 b1 b2 b3 b4 b5 b6 b7 : Bool) : Nat := b0.toNat + 2 * b1.toNat + 4 * b2.toNat + 8 * b3.toNat + 16 * b4.toNat + 32 * b5.toNat + 64 * b6.toNat + 128 * b7.toNat
theorem b8_lt : ∀ b0 b1 b2 b3 b4 b5 b6 b7 : Bool, b8 b0 b1 b2 b3 b4 b5 b6 b7 < 256 := by decide +kernel
theorem land8 : ∀ b0 b1 b2 b3 b4 b5 b6 b7 : Bool, ∀ j : Fin 8, Nat.land (b8 b0 b1 b2 b3 b4 b5 b6 b7) (2 ^ j.1) = if [b0, b1, b2, b3, b4, b5, b6, b7].getD j.1 false = true then 2 ^ j.1 else 0 := by decide +kernel
def byB (g : Nat → Bool) (t : Nat) : Nat := b8 (g (8 * t)) (g (8 * t + 1)) (g (8 * t + 2)) (g (8 * t + 3)) (g (8 * t + 4)) (g (8 * t + 5)) (g (8 * t + 6)) (g (8 * t + 7))
def packB (g : Nat → Bool) : List C := (List.range 256).map fun t => C.int .u8 ((byB g t : Nat) : Int)
theorem packB_len (g : Nat → Bool) : (packB g).length = 256 := by simp [packB]
theorem packB_get (g : Nat → Bool) (t : Nat) (h : t < 256) : (packB g)[t]? = some (C.int .u8 ((byB g t : Nat) : Int)) := by simp [packB, h]
theorem sel8 (g : Nat → Bool) (i : Nat) : [g (8 * (i / 8)), g (8 * (i / 8) + 1), g (8 * (i / 8) + 2), g (8 * (i / 8) + 3), g (8 * (i / 8) + 4), g (8 * (i / 8) + 5), g (8 * (i / 8) + 6), g (8 * (i / 8) + 7)].getD (i % 8) false = g i := by
 have e := Nat.div_add_mod i 8
 obtain ⟨t, ht⟩ : ∃ t, i / 8 = t := ⟨_, rfl⟩
 rw [ht] at e ⊢
 have hj : i % 8 = 0 ∨ i % 8 = 1 ∨ i % 8 = 2 ∨ i % 8 = 3 ∨ i % 8 = 4 ∨ i % 8 = 5 ∨ i % 8 = 6 ∨ i % 8 = 7 := by omega
 rcases hj with h | h | h | h | h | h | h | h <;> rw [h] at e ⊢ <;> rw [← e] <;> rfl
theorem byB_test (g : Nat → Bool) (i : Nat) : Nat.land (byB g (i / 8)) (2 ^ (i % 8)) = if g i = true then 2 ^ (i % 8) else 0 := by
 have := land8 (g (8 * (i / 8))) (g (8 * (i / 8) + 1)) (g (8 * (i / 8) + 2)) (g (8 * (i / 8) + 3)) (g (8 * (i / 8) + 4)) (g (8 * (i / 8) + 5)) (g (8 * (i / 8) + 6)) (g (8 * (i / 8) + 7)) ⟨i % 8, by omega⟩
 simp only [sel8] at this
 exact this
theorem byB_lt (g : Nat → Bool) (t : Nat) : byB g t < 256 := b8_lt ..
theorem pow8_lt (i : Nat) : 2 ^ (i % 8) < 256 := Nat.lt_of_lt_of_le (Nat.pow_lt_pow_right (by omega) (show i % 8 < 8 by omega)) (by decide)
theorem land256 {a b : Nat} (ha : a < 256) : Nat.land a b < 256 := Nat.lt_of_le_of_lt Nat.and_le_left ha
section
variable (Hh : Hearts K Tryz.prog)
include Hh
theorem maskOk (h : Go.Ev.H) (i : Nat) : CallOk K Tryz.prog 382 [.c (.int .i64 i)] h (.w (.c (.int .u8 ((2 ^ (i % 8) : Nat) : Int)))) h := by
 have r1 : opRem .i64 (i : Int) 8 = some (.int .i64 ((i % 8 : Nat) : Int)) := rem_nat (b := 8) (by omega)
 have s1 : opShl .u8 1 ((i % 8 : Nat) : Int) = some (.int .u8 ((2 ^ (i % 8) : Nat) : Int)) := by
  have h8 := pow8_lt i
  unfold opShl
  rw [decide_eq_false (by omega), cond_false]
  have e : min ((i % 8 : Nat) : Int).toNat IntKind.u8.bits = i % 8 := by
   show min ((i % 8 : Nat) : Int).toNat 8 = i % 8
   omega
  rw [e, Int.one_mul, wrapU8I ⟨Int.pow_nonneg (by omega), by exact_mod_cast h8⟩]
  congr 2
 refine fnG Hh Tryz.f382 ?_
 have Jf := andI2 @r1 @s1
 iterate 5 (first | apply Goes.seq | apply Goes.ret | refine runO Hh E0_sound autBarJ ?_)
 exact autBarJ
end
end Go.Proofs.YtdnkofpkkebefaaGreatDoor
