/- bits.First, of any block: the first clear bit from a number on, ahead of another. -/
import Derived.Test.YtdnkofpkkebefaaGreatDoorBits
import Derived.Test.YtdnkofpkkebefaaGreatDoorEvC
set_option linter.unusedSimpArgs false
set_option linter.unusedVariables false
set_option linter.unusedSectionVars false
set_option maxRecDepth 100000
set_option maxHeartbeats 4000000
namespace Go.Proofs.YtdnkofpkkebefaaGreatDoor
open Go.Ev
noncomputable def q277 (p : List Nat) : Code := piece p (bodyOf Tryz.f277)
theorem rs277 : Tryz.f277.results.toList = [.tmp 6] := rfl
attribute [go_sem] rs277
section
variable (Hh : Hearts K Tryz.prog)
include Hh
theorem firstLoop (g : Nat → Bool) {p t u : Nat} (tu : t ≤ u) (u2 : u ≤ 2048) (ht : t < u → g t = false) {h : Go.Ev.H} (hp : h.get p = some (.row 256 [packB g] false)) : ∀ (k i : Nat) (ts : Tmps), i + k = t → (∀ j, i ≤ j → j < t → g j = true) → evalT ts 3 = .w (.c (.ptr p 0)) → evalT ts 2 = .w (.c (.int .i64 (u : Int))) → evalT ts 7 = .w (.c (.int .i64 (i : Int))) →
  Goes K Tryz.prog 27 none (q277 [1,1,0,1,2]) [] ts h fun x ds' ts' h' => ((t < u ∧ x = .ret ∧ evalT ts' 6 = .w (.c (.int .i64 (t : Int)))) ∨ (t = u ∧ x = .exit 0)) ∧ ds' = [] ∧ h' = h := by
 intro k
 induction k with
 | zero =>
  intro i ts hi _ t3 t2 t7
  obtain rfl : i = t := by omega
  rcases Nat.lt_or_ge i u with lt | ge
  ·have gi := ht lt
   have cm := fun h => maskOk Hh h i
   have q1 : opQuo .i64 (i : Int) 8 = some (.int .i64 ((i / 8 : Nat) : Int)) := quo_nat (b := 8) (by omega) (by omega)
   have rd : read1 256 [packB g] (i / 8) = some (.int .u8 ((byB g (i / 8) : Nat) : Int)) := by
    unfold read1
    rw [Nat.div_eq_of_lt (by omega), Nat.mod_eq_of_lt (by omega), List.getElem?_cons_zero]
    exact packB_get g _ (by omega)
   have l1 : opBit .u8 Nat.land ((byB g (i / 8) : Nat) : Int) ((2 ^ (i % 8) : Nat) : Int) = .int .u8 ((0 : Nat) : Int) := by
    rw [bitU8 (byB_lt _ _) (pow8_lt _) (land256 (byB_lt _ _)), byB_test, gi]
    rfl
   have Jf := andI7 @t2 @t3 @t7 @hp @q1 @rd @l1
   iterate 9 (first | apply Goes.seq | apply Goes.skip | apply Goes.block | apply Goes.loop | refine Goes.condV autBarJ ?_ | refine runO Hh E0_sound autBarJ ?_)
   iterate 5 (first | apply Goes.seq | apply Goes.ret | refine Goes.condV autBarJ ?_ | refine runO Hh (EA_sound E0_sound cm) autBarJ ?_ | refine runD Hh (EA_sound E0_sound cm) autBarDJ ?_)
   refine ⟨.inl ⟨lt, rfl, ?_⟩, rfl, rfl⟩
   exact autBarJ
  ·obtain rfl : i = u := by omega
   have Jf := andI2 @t2 @t7
   iterate 6 (first | apply Goes.seq | apply Goes.exit | apply Goes.loop | refine Goes.condV autBarJ ?_ | refine runO Hh E0_sound autBarJ ?_)
   exact ⟨.inr ⟨rfl, rfl⟩, rfl, rfl⟩
 | succ k ih =>
  intro i ts hi all t3 t2 t7
  have gi := all i (by omega) (by omega)
  have cm := fun h => maskOk Hh h i
  have q1 : opQuo .i64 (i : Int) 8 = some (.int .i64 ((i / 8 : Nat) : Int)) := quo_nat (b := 8) (by omega) (by omega)
  have rd : read1 256 [packB g] (i / 8) = some (.int .u8 ((byB g (i / 8) : Nat) : Int)) := by
   unfold read1
   rw [Nat.div_eq_of_lt (by omega), Nat.mod_eq_of_lt (by omega), List.getElem?_cons_zero]
   exact packB_get g _ (by omega)
  have p1 : 0 < 2 ^ (i % 8) := Nat.pow_pos (by omega)
  have e1 : (((2 ^ (i % 8) : Nat) : Int) == 0) = false := ibeqF (by exact_mod_cast (Nat.pos_iff_ne_zero.1 p1))
  have l1 : opBit .u8 Nat.land ((byB g (i / 8) : Nat) : Int) ((2 ^ (i % 8) : Nat) : Int) = .int .u8 ((2 ^ (i % 8) : Nat) : Int) := by
   rw [bitU8 (byB_lt _ _) (pow8_lt _) (land256 (byB_lt _ _)), byB_test, gi]
   rfl
  have Jf := andI8 @t2 @t3 @t7 @hp @q1 @rd @l1 @e1
  iterate 9 (first | apply Goes.seq | apply Goes.skip | apply Goes.block | apply Goes.loop | refine Goes.condV autBarJ ?_ | refine runO Hh E0_sound autBarJ ?_)
  iterate 4 (first | apply Goes.skip | refine Goes.condV autBarJ ?_ | refine runO Hh (EA_sound E0_sound cm) autBarJ ?_ | refine runD Hh (EA_sound E0_sound cm) autBarDJ ?_)
  show Goes K Tryz.prog 27 none (q277 [1,1,0,1,2]) _ _ _ _
  refine ih (i + 1) _ (by omega) (fun j h1 h2 => all j (by omega) h2) ?_ ?_ ?_
  ·simp (maxSteps := 999999) +decide (discharger := first | omega | (simp only [lens] <;> omega) | decide) only [go_sem, readRow, loadIn, simprocAttr, t3]
  ·simp (maxSteps := 999999) +decide (discharger := first | omega | (simp only [lens] <;> omega) | decide) only [go_sem, readRow, loadIn, simprocAttr, t2]
  ·exact autBar
theorem firstG (g : Nat → Bool) {s t u : Nat} (st : s ≤ t) (tu : t ≤ u) (u2 : u ≤ 2048) (all : ∀ j, s ≤ j → j < t → g j = true) (ht : t < u → g t = false) (h : Go.Ev.H) : CallOk K Tryz.prog 277 [.g (packB g), .c (.int .i64 (s : Int)), .c (.int .i64 (u : Int))] h (.w (.c (.int .i64 (if t < u then (t : Int) else -1)))) h := by
 have mx : max (s : Int) 0 = (s : Int) := by omega
 have mn : min (u : Int) 2048 = (u : Int) := by omega
 have mi : ¬(2048 < (u : Int)) := by omega
 have mj : ¬((s : Int) < 0) := by omega
 have pl := packB_len g
 have lp := fun (h : Go.Ev.H) (p : Nat) hp => firstLoop Hh g tu u2 ht (h := h) (p := p) hp (t - s) s
 obtain ⟨G, hG⟩ : ∃ G, packB g = G := ⟨_, rfl⟩
 rw [hG] at pl ⊢
 simp only [hG] at lp
 refine callQ rfl ?_
 refine fnGE Hh Tryz.f277 ?_
 iterate 8 (first | apply Goes.seq | apply Goes.block | (apply Goes.ops2 fits Hh E0_sound; · simp (maxSteps := 999999) +decide (discharger := first | omega | (simp only [lens] <;> omega) | decide) only [go_sem, loadIn, simprocAttr, mx, mn, mi, mj, pl, if_neg, if_false, opBuiltin, opBox, read1] <;> rfl))
 refine (lp _ h.next ?_ _ (by omega) all ?_ ?_ ?_).mono ?_
 ·simp (maxSteps := 999999) +decide (discharger := first | omega | (simp only [lens] <;> omega) | decide) only [go_sem, loadIn, simprocAttr, pl] <;> rfl
 ·exact autAar
 ·simp (maxSteps := 999999) +decide (discharger := first | omega | (simp only [lens] <;> omega) | decide) only [go_sem, loadIn, simprocAttr, mx, mn, mi, mj, if_neg, if_false] <;> rfl
 ·simp (maxSteps := 999999) +decide (discharger := first | omega | (simp only [lens] <;> omega) | decide) only [go_sem, loadIn, simprocAttr, mx, mn, mi, mj, if_neg, if_false] <;> rfl
 rintro x ds' ts' h' ⟨hx, rfl, rfl⟩
 rcases hx with ⟨lt, rfl, t6⟩ | ⟨rfl, rfl⟩
 ·rw [if_pos lt]
  exact ⟨_, _, (by simp (maxSteps := 999999) +decide (discharger := first | omega | (simp only [lens] <;> omega) | decide) only [go_sem, readRow, loadIn, simprocAttr, t6] <;> rfl), rfl, fun m hm => by exact autG⟩
 ·rw [if_neg (Nat.lt_irrefl _)]
  iterate 3 (first | apply Goes.seq | apply Goes.ret | refine runO Hh E0_sound autBar ?_)
  exact ⟨_, _, autBar, rfl, fun m hm => by exact autG⟩
end
end Go.Proofs.YtdnkofpkkebefaaGreatDoor
