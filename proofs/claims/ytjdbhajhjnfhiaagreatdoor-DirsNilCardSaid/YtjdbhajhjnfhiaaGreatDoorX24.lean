/- What is known of crc.Sum, nums.Zero, mkfs.bitmap. -/
import Derived.Test.YtjdbhajhjnfhiaaGreatDoorCrcX
import Derived.Test.YtjdbhajhjnfhiaaGreatDoorMkb
set_option linter.unusedSimpArgs false
set_option linter.unusedVariables false
set_option linter.unusedSectionVars false
set_option maxRecDepth 100000
namespace Go.Proofs.YtjdbhajhjnfhiaaGreatDoor
open Go.Ev
def xBm (args : List W) (h : Go.Ev.H) : Option (V × Go.Ev.H) := match args with
  | [.c (.int .i64 (.ofNat u)), .c (.int .i64 (.ofNat z))] => bif Nat.ble u z && Nat.ble z 2048 then some (.w (.g (bmB u z)), h) else none
  | _ => none
noncomputable def x3 : Kn := fun f args h => bif Nat.beq f 89 then xBm args h else bif Nat.beq f 194 then xCrc args h else bif Nat.beq f 108 then xZero args h else none
section
variable (Hh : Hearts K Tryz.prog)
include Hh
theorem xBm_ok {args : List W} {h h' : Go.Ev.H} {v : V} (e : xBm args h = some (v, h')) : CallOk K Tryz.prog 89 args h v h' := by
  unfold xBm at e
  split at e
  · rename_i u z
    cases hb : (Nat.ble u z && Nat.ble z 2048) with
    | false => rw [hb] at e; cases e
    | true =>
      rw [hb] at e
      cases e
      simp only [Bool.and_eq_true] at hb
      exact bitmapOk Hh h u z (Nat.le_of_ble_eq_true hb.1) (Nat.le_of_ble_eq_true hb.2)
  · cases e
theorem x3_ok : KnOk K Tryz.prog x3 := by
  intro f args h v h' e
  unfold x3 at e
  cases h1 : Nat.beq f 89 with
  | true =>
    rw [h1] at e
    obtain rfl := Nat.eq_of_beq_eq_true h1
    exact xBm_ok Hh e
  | false =>
    rw [h1] at e
    cases h2 : Nat.beq f 194 with
    | true =>
      rw [h2] at e
      obtain rfl := Nat.eq_of_beq_eq_true h2
      exact xCrc_ok Hh e
    | false =>
      rw [h2] at e
      cases h3 : Nat.beq f 108 with
      | true =>
        rw [h3] at e
        obtain rfl := Nat.eq_of_beq_eq_true h3
        exact xZero_ok Hh e
      | false => rw [h3] at e; cases e
end
end Go.Proofs.YtjdbhajhjnfhiaaGreatDoor

