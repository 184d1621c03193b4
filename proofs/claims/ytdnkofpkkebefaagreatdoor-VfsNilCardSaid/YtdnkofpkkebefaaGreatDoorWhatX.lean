/- geo.What as the evaluator asks it. -/
import Derived.Test.YtdnkofpkkebefaaGreatDoorWhat3
set_option linter.unusedSimpArgs false
set_option linter.unusedVariables false
set_option linter.unusedSectionVars false
set_option maxRecDepth 100000
namespace Go.Proofs.YtdnkofpkkebefaaGreatDoor
open Go.Ev
def fineW (a b c d : Nat) : Bool := Nat.ble 1 a && Nat.ble a 4 && Nat.ble 16 b && Nat.ble b 512 && Nat.ble 4 c && Nat.ble c 64 && Nat.beq (c % 4) 0 && Nat.ble 40 d && Nat.ble d 256 && Nat.ble (3 + c / 4) b && Nat.ble (2 + d + a * b) 2048
theorem fineW_fine {a b c d : Nat} (h : fineW a b c d = true) : Fine a b c d := by
 simp only [fineW, Bool.and_eq_true] at h
 obtain ⟨⟨⟨⟨⟨⟨⟨⟨⟨⟨h1, h2⟩, h3⟩, h4⟩, h5⟩, h6⟩, h7⟩, h8⟩, h9⟩, h10⟩, h11⟩ := h
 exact ⟨Nat.le_of_ble_eq_true h1, Nat.le_of_ble_eq_true h2, Nat.le_of_ble_eq_true h3, Nat.le_of_ble_eq_true h4, Nat.le_of_ble_eq_true h5, Nat.le_of_ble_eq_true h6, Nat.eq_of_beq_eq_true h7, Nat.le_of_ble_eq_true h8, Nat.le_of_ble_eq_true h9, Nat.le_of_ble_eq_true h10, Nat.le_of_ble_eq_true h11⟩
def tupN (h : Go.Ev.H) (p : Nat × Nat × Nat) : Option (V × Go.Ev.H) := some (.tup [.c (.int .u8 (p.1 : Nat)), .c (.int .i64 (p.2.1 : Nat)), .c (.int .i64 (p.2.2 : Nat))], h)
def xWhat (args : List W) (h : Go.Ev.H) : Option (V × Go.Ev.H) := match args with
 | [.g [.int .i64 (.ofNat a), .int .i64 (.ofNat b), .int .i64 (.ofNat c), .int .i64 (.ofNat d)], .c (.int .i64 (.ofNat n))] => bif fineW a b c d && Nat.blt n 9223372036854775808 then tupN h (whatN a b c d n) else none
 | _ => none
section
variable (Hh : Hearts K Tryz.prog)
include Hh
theorem xWhat_ok {args : List W} {h h' : Go.Ev.H} {v : V} (e : xWhat args h = some (v, h')) : CallOk K Tryz.prog 155 args h v h' := by
 unfold xWhat at e
 split at e
 ·rename_i a b c d n
  cases hb : (fineW a b c d && Nat.blt n 9223372036854775808) with
  | false => rw [hb] at e; cases e
  | true =>
   rw [hb] at e
   simp only [Bool.and_eq_true] at hb
   cases e
   exact whatOk Hh (fineW_fine hb.1) h n (by simpa [Nat.blt_eq] using hb.2)
 ·cases e
end
end Go.Proofs.YtdnkofpkkebefaaGreatDoor
