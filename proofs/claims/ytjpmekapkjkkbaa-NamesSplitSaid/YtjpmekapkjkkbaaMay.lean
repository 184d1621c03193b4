/- names.may and what it calls of the library: for every name of fewer than 2^32 bytes, ASCII or not, 'may' answers as the plain function 'mayB'. -/
import Derived.Test.YtjpmekapkjkkbaaShelf
import Derived.Laws.RangeAny
import Derived.Laws.Runes
import Derived.WalkKit
import Derived.WalkSpells
import Derived.Lib.Hide
import Derived.Below
import Derived.Outline
import Derived.Deep.QuietTactic
import Derived.BigQuiet
import Derived.WalkMore
import Derived.Laws.Cover4
namespace Go.Proofs.Ytjpmekapkjkkbaa
open Go.RowKit Go.Lib

theorem below_drewN {B : Nat} {a w : World} (h : Below B a w) (n : Nat) : Below B a (w.drewN n) := ⟨h.os, h.tape, h.output, h.size, h.block⟩

set_option maxHeartbeats 1000000 in
set_option maxRecDepth 100000 in
theorem indexRune_invalid (r : Int) (w : World) (h0 : 128 ≤ r) (hne : (r == 65533) = false) (hv : Lib.validRune r = false) :
    Calls Try.prog 32 #[.string ⟨#[47, 0]⟩, .int .i32 r] w fun e w' => e = .returned (.int .i64 (-1)) ∧ w = w' := by
  have d1 : decide ((0 : Int) ≤ r) = true := decide_eq_true (by omega)
  have d2 : decide (r < 128) = false := decide_eq_false (by omega)
  go_enter Try.func32, Try.ntmps32
  go_wp2_with (go_at_call 40; refine (Try.utf8_ValidRune _ _).mono ?_; rintro e w' ⟨rfl, rfl⟩; rw [hv])
  go_ret
  exact ⟨rfl, rfl⟩

set_option maxHeartbeats 1000000 in
set_option maxRecDepth 100000 in
theorem indexRune_error (w : World) :
    Calls Try.prog 32 #[.string ⟨#[47, 0]⟩, .int .i32 65533] w fun e w' => e = .returned (.int .i64 (-1)) ∧ Below w.heap.size w w' := by
  have n0 := fun ty => run_next_ascii (P := Try.prog) w ⟨#[47, 0]⟩ 0 ty (by decide) (by decide)
  have n1 := fun ty => run_next_ascii (P := Try.prog) w ⟨#[47, 0]⟩ 1 ty (by decide) (by decide)
  have n2 := fun ty => run_next_end (P := Try.prog) w ⟨#[47, 0]⟩ 2 ty (by decide)
  go_enter Try.func32, Try.ntmps32
  go_wp2_with fail
  refine wp_loop_rounds 3 ?_
  rw [rounds_succ]
  go_wp2_with fail
  rw [rounds_succ]
  go_wp2_with fail
  rw [rounds_succ]
  go_wp2_with fail
  go_ret
  exact ⟨rfl, (Below.refl _ _).alloc (Nat.le_refl _) _⟩

set_option maxHeartbeats 1000000 in
set_option maxRecDepth 100000 in
theorem indexRune_three (r : Int) (w : World) (h0 : 128 ≤ r) (hne : (r == 65533) = false) (hv : Lib.validRune r = true) (hs : 3 ≤ (Utf8.encode r).size) :
    Calls Try.prog 32 #[.string ⟨#[47, 0]⟩, .int .i32 r] w fun e w' => e = .returned (.int .i64 (-1)) ∧ w = w' := by
  have d1 : decide ((0 : Int) ≤ r) = true := decide_eq_true (by omega)
  have d2 : decide (r < 128) = false := decide_eq_false (by omega)
  have hs4 := encode_size_le r
  go_enter Try.func32, Try.ntmps32
  go_wp2_with (go_at_call 40; refine (Try.utf8_ValidRune _ _).mono ?_; rintro e w' ⟨rfl, rfl⟩; rw [hv])
  go_step3
  go_wp2_with fail
  refine wp_loop_rounds 1 ?_
  rw [rounds_succ]
  go_wp2_with fail
  try rw [Exit.noGoto_ret]
  go_ret
  exact ⟨rfl, rfl⟩

set_option maxHeartbeats 1000000 in
set_option maxRecDepth 100000 in
theorem indexRune_two (r : Int) (w : World) (b0 b1 : UInt8) (h0 : 128 ≤ r) (hne : (r == 65533) = false) (hv : Lib.validRune r = true) (hs : Utf8.encode r = ⟨#[b0, b1]⟩) (hb : 128 ≤ b1.toNat) :
    Calls Try.prog 32 #[.string ⟨#[47, 0]⟩, .int .i32 r] w fun e w' => e = .returned (.int .i64 (-1)) ∧ Below w.heap.size w w' := by
  have d1 : decide ((0 : Int) ≤ r) = true := decide_eq_true (by omega)
  have d2 : decide (r < 128) = false := decide_eq_false (by omega)
  have d3 : ((0 : Int) != (b1.toNat : Int)) = true := by rw [bne_iff_ne]; omega
  have d4 : Lib.indexByte [] b1 = -1 := rfl
  have e1 : (({ data := #[47, 0] } : ByteArray)[1]'(by decide)).toNat = 0 := rfl
  have e2 : (({ data := #[b0, b1] } : ByteArray)[1]'(by show 1 < 2; decide)).toNat = b1.toNat := rfl
  go_enter Try.func32, Try.ntmps32
  go_wp2_with (go_at_call 40; refine (Try.utf8_ValidRune _ _).mono ?_; rintro e w' ⟨rfl, rfl⟩; rw [hv])
  go_step3
  go_wp2_with fail
  refine wp_loop_rounds 1 ?_
  rw [rounds_succ]
  go_wp2_with fail
  go_step3
  go_wp2_with fail
  go_quiet (fail)
  have hq1 : Below w'.heap.size w' (w'.drewN nq) := below_drewN (Below.refl _ _) _
  generalize w'.drewN nq = w1 at *
  go_wp2_with fail
  go_quiet ((go_at_call 39; exact Calls.quiet_of_same (Try.strings_IndexByte _ _ _)))
  go_wp2_with fail
  rw [Exit.noGoto_ret]
  go_wp2_with fail
  try rw [Exit.noGoto_ret]
  go_ret
  exact ⟨rfl, below_drewN hq1 _⟩

theorem encode_two (r : Int) (h0 : 128 ≤ r) (hv : Utf8.valid r = true) (hs : ¬ 3 ≤ (Utf8.encode r).size) : ∃ b0 b1 : UInt8, Utf8.encode r = ⟨#[b0, b1]⟩ ∧ 128 ≤ b1.toNat := by
  have hc : ¬ r.toNat < 128 := by omega
  have e : Utf8.encode r = if r.toNat < 0x800 then ⟨#[UInt8.ofNat (0xC0 + r.toNat / 64), UInt8.ofNat (0x80 + r.toNat % 64)]⟩
      else if r.toNat < 0x10000 then ⟨#[UInt8.ofNat (0xE0 + r.toNat / 4096), UInt8.ofNat (0x80 + r.toNat / 64 % 64), UInt8.ofNat (0x80 + r.toNat % 64)]⟩
      else ⟨#[UInt8.ofNat (0xF0 + r.toNat / 262144), UInt8.ofNat (0x80 + r.toNat / 4096 % 64), UInt8.ofNat (0x80 + r.toNat / 64 % 64), UInt8.ofNat (0x80 + r.toNat % 64)]⟩ := by
    unfold Utf8.encode
    simp only [hv, if_true, hc, if_false]
  rw [e] at hs ⊢
  split
  · refine ⟨_, _, rfl, ?_⟩
    simp
    omega
  · rename_i h
    rw [if_neg h] at hs
    split at hs
    · exact absurd (by show 3 ≤ 3; omega) hs
    · exact absurd (by show 3 ≤ 4; omega) hs

/-- strings.IndexRune of the chars that may not be in a name, at a rune that is no ASCII: none. -/
theorem indexRune_high (r : Int) (w : World) (h0 : 128 ≤ r) :
    Calls Try.prog 32 #[.string ⟨#[47, 0]⟩, .int .i32 r] w fun e w' => e = .returned (.int .i64 (-1)) ∧ Below w.heap.size w w' := by
  by_cases h1 : r = 65533
  · subst h1; exact indexRune_error w
  have hne : (r == 65533) = false := beq_eq_false_iff_ne.2 h1
  cases hv : Lib.validRune r
  · exact (indexRune_invalid r w h0 hne hv).mono fun e w' ⟨a, b⟩ => ⟨a, b ▸ Below.refl _ _⟩
  · by_cases hs : 3 ≤ (Utf8.encode r).size
    · exact (indexRune_three r w h0 hne hv hs).mono fun e w' ⟨a, b⟩ => ⟨a, b ▸ Below.refl _ _⟩
    · have hv' : Utf8.valid r = true := by rw [validRune_eq]; exact hv
      obtain ⟨b0, b1, e, hb⟩ := encode_two r h0 hv' hs
      exact indexRune_two r w b0 b1 h0 hne hv e hb

end Go.Proofs.Ytjpmekapkjkkbaa
