/- stringslite.IndexByte, strings.IndexAny of short ASCII as the evaluator asks them. -/
import Derived.Test.YtdnkofpkkebefaaGreatDoorStrX
set_option linter.unusedSimpArgs false
set_option linter.unusedVariables false
set_option linter.unusedSectionVars false
set_option maxRecDepth 100000
namespace Go.Proofs.YtdnkofpkkebefaaGreatDoor
open Go.Ev Go.RowKit
def xSIB (args : List W) (h : Go.Ev.H) : Option (V × Go.Ev.H) := match args with
 | [.c (.str s), .c (.int .u8 c)] => some (.w (.c (.int .i64 (Go.Lib.indexByte s c.toNat.toUInt8))), h)
 | _ => none
theorem xSIB_ok {args : List W} {h h' : Go.Ev.H} {v : V} (e : xSIB args h = some (v, h')) : CallOk K Tryz.prog 452 args h v h' := by
 unfold xSIB at e
 split at e
 ·rename_i s c
  cases e
  refine CallOk.ofCalls ⟨Tryz.f452, Tryz.func452, by kernel_rfl, by decide⟩ fun ρ w vals hr ha => ?_
  obtain ⟨a, b, rfl, hx, hy⟩ := all2_two ha
  have e1 : a = .string ⟨⟨s⟩⟩ := hx
  have e2 : b = .int .u8 c := hy
  subst e1; subst e2
  exact ⟨_, rfl, Any.stringslite_IndexByte Tryz.lays217 ⟨⟨s⟩⟩ c w⟩
 ·cases e
def asciiB : List UInt8 → Bool
 | [] => true
 | b :: l => Nat.blt b.toNat 128 && asciiB l
theorem asciiB_get : ∀ {l : List UInt8}, asciiB l = true → ∀ (j : Nat) b, l[j]? = some b → b.toNat < 128
 | [], _, j, b, h => by simp at h
 | x :: l, e, j, b, h => by
  simp only [asciiB, Bool.and_eq_true] at e
  cases j with
  | zero => cases h; simpa [Nat.blt_eq] using e.1
  | succ j => exact asciiB_get e.2 j b (by simpa using h)
def xIA (args : List W) (h : Go.Ev.H) : Option (V × Go.Ev.H) := match args with
 | [.c (.str s), .c (.str c)] => bif Nat.ble 2 c.length && Nat.ble s.length 8 && asciiB s then some (.w (.c (.int .i64 (Go.Lib.indexAny s c))), h) else none
 | _ => none
theorem xIA_ok {args : List W} {h h' : Go.Ev.H} {v : V} (e : xIA args h = some (v, h')) : CallOk K Tryz.prog 450 args h v h' := by
 unfold xIA at e
 split at e
 ·rename_i s c
  cases hb : (Nat.ble 2 c.length && Nat.ble s.length 8 && asciiB s) with
  | false => rw [hb] at e; cases e
  | true =>
   rw [hb] at e
   cases e
   simp only [Bool.and_eq_true] at hb
   refine CallOk.ofCallsB ⟨Tryz.f450, Tryz.func450, by kernel_rfl, by decide⟩ fun ρ w vals hr ha => ?_
   obtain ⟨a, b, rfl, hx, hy⟩ := all2_two ha
   have e1 : a = .string ⟨⟨s⟩⟩ := hx
   have e2 : b = .string ⟨⟨c⟩⟩ := hy
   subst e1; subst e2
   refine ⟨_, rfl, (Any.strings_IndexAny_short Tryz.lays153 ⟨⟨s⟩⟩ ⟨⟨c⟩⟩ w (Nat.le_of_ble_eq_true hb.1.1) (Nat.le_of_ble_eq_true hb.1.2) (asciiB_get hb.2)).mono ?_⟩
   rintro e w' ⟨rfl, pos, rfl⟩
   exact ⟨rfl, (Below.refl _ _).alloc (Nat.le_refl _) _⟩
 ·cases e
end Go.Proofs.YtdnkofpkkebefaaGreatDoor
