/- bits.First, of any block of known bytes. -/
import Derived.Test.YtdnkofpkkebefaaGreatDoorBfg
set_option linter.unusedSimpArgs false
set_option linter.unusedVariables false
set_option linter.unusedSectionVars false
set_option maxRecDepth 100000
set_option maxHeartbeats 4000000
namespace Go.Proofs.YtdnkofpkkebefaaGreatDoor
open Go.Ev
def natLE : List Go.Ev.C → Option Nat
 | [] => some 0
 | .int .u8 (.ofNat b) :: l => match natLE l with
  | some n => some (b + 256 * n)
  | none => none
 | _ => none
def fclear (N : Nat) : Nat → Nat → Nat
 | 0, i => i
 | k + 1, i => bif Nat.testBit N i then fclear N k (i + 1) else i
theorem fclear_spec (N : Nat) : ∀ (k i : Nat), i ≤ fclear N k i ∧ fclear N k i ≤ i + k ∧ (∀ j, i ≤ j → j < fclear N k i → Nat.testBit N j = true) ∧ (fclear N k i < i + k → Nat.testBit N (fclear N k i) = false)
 | 0, i => ⟨Nat.le_refl _, Nat.le_refl _, fun j h1 h2 => absurd h1 (Nat.not_le_of_lt h2), fun h => absurd h (Nat.lt_irrefl _)⟩
 | k + 1, i => by
  unfold fclear
  cases hb : Nat.testBit N i with
  | true =>
   obtain ⟨h1, h2, h3, h4⟩ := fclear_spec N k (i + 1)
   simp only [cond_true]
   refine ⟨by omega, by omega, fun j j1 j2 => ?_, fun hh => h4 (by omega)⟩
   by_cases e : j = i
   ·rw [e]; exact hb
   ·exact h3 j (by omega) j2
  | false => exact ⟨Nat.le_refl _, by simp, fun j h1 h2 => absurd h1 (Nat.not_le_of_lt h2), fun _ => hb⟩
noncomputable def xFirst2 (l : List Go.Ev.C) (s u : Nat) (h : Go.Ev.H) : Option Nat → Option (V × Go.Ev.H)
 | some N => bif Nat.ble s u && Nat.ble u 2048 && eqV.eqL (packB (fun i => Nat.testBit N i)) l then some (.w (.c (.int .i64 (bif Nat.blt (fclear N (u - s) s) u then (fclear N (u - s) s : Int) else -1))), h) else none
 | none => none
noncomputable def xFirst (args : List W) (h : Go.Ev.H) : Option (V × Go.Ev.H) := match args with
 | [.g l, .c (.int .i64 (.ofNat s)), .c (.int .i64 (.ofNat u))] => xFirst2 l s u h (natLE l)
 | _ => none
section
variable (Hh : Hearts K Tryz.prog)
include Hh
theorem xFirst_ok {args : List W} {h h' : Go.Ev.H} {v : V} (e : xFirst args h = some (v, h')) : CallOk K Tryz.prog 277 args h v h' := by
 unfold xFirst at e
 split at e
 ·rename_i l s u
  unfold xFirst2 at e
  split at e
  ·rename_i N _
   cases hb : (Nat.ble s u && Nat.ble u 2048 && eqV.eqL (packB (fun i => Nat.testBit N i)) l) with
   | false => rw [hb] at e; cases e
   | true =>
    rw [hb] at e
    simp only [cond_true] at e
    simp only [Bool.and_eq_true] at hb
    have h1 := ble_le hb.1.1
    have h2 := ble_le hb.1.2
    have h3 := eqL_eq hb.2
    obtain ⟨f1, f2, f3, f4⟩ := fclear_spec N (u - s) s
    have := firstG Hh (fun i => Nat.testBit N i) f1 (by omega) h2 f3 (fun hh => f4 (by omega)) h
    rw [h3] at this
    cases hc : Nat.blt (fclear N (u - s) s) u with
    | true =>
     rw [if_pos (blt_lt hc)] at this
     rw [hc] at e
     cases e
     exact this
    | false =>
     have hnl : ¬ fclear N (u - s) s < u := fun hh => by
      have h5 : Nat.blt (fclear N (u - s) s) u = true := Nat.ble_eq_true_of_le hh
      rw [hc] at h5
      cases h5
     rw [if_neg hnl] at this
     rw [hc] at e
     cases e
     exact this
  ·cases e
 ·cases e
end
end Go.Proofs.YtdnkofpkkebefaaGreatDoor
