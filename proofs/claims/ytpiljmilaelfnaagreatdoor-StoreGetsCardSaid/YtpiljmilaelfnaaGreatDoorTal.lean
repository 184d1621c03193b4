/- StoreGets: the last Get. -/
import Derived.Test.YtpiljmilaelfnaaGreatDoorFin
set_option linter.unusedSimpArgs false
set_option linter.unusedVariables false
set_option linter.unusedSectionVars false
set_option maxRecDepth 100000
namespace Go.Proofs.YtpiljmilaelfnaaGreatDoor
open Go.Ev
section
variable (Hh : Hearts K Tryz.prog)
include Hh
set_option maxHeartbeats 4000000 in
theorem tail {n n1 n2 a b c e : Nat} {md other : Int} {lc lm : Ents} {L : List (List C)} {ts : Tmps} {h : Go.Ev.H} (F : Fine a b c e) (M : Fin n n1 n2 a b c e md lc lm L h) (D : Done (a * b) e lc lm L) (S : Slots n (a * b) e other ts) (o1 : other < 9223372036854775808) : Goes K Tryz.prog 188 none (q3 [1,1,1,1,1,1,1,1,1,1]) [] ts h fun x ds ts h1 => ∃ v h', leave K Tryz.f3 (some (.at x ds ts h1)) = some (.val v h') ∧ v = .w (.c (.bool true)) := by
 have F' := F
 obtain ⟨g1, g2, g3, g4, g5, g6, g7, g8, g9, g10, g11⟩ := F'
 obtain ⟨s3, s9, s11, s12, s13⟩ := S
 have oi := ours_iff F other
 have w1 : wrapC .i64 (((2 + e : Nat) : Int) + ((a * b : Nat) : Int)) = .int .i64 ((2 + e + a * b : Nat) : Int) := by rw [wrapI64 (by omega)]; congr 1
 have zl : zB.length = 256 := by kernel_rfl
 by_cases c0 : other = 0
 ·
  subst c0
  obtain ⟨x, lm', h', cG, xl, _⟩ := getDone Hh F M D (z := 0) (by rw [oi]; rfl)
  refine Goes.seqQ q3_1111111111 ?_
  refine Goes.opsQ q3_11111111110 fits Hh (E1_sound E0_sound cG) (by
   simp (maxSteps := 999999) +decide (discharger := first | omega | (simp only [lens] <;> omega) | decide) only [go_sem, q3, Tryz.f3, loadIn, simprocAttr, E1_call, s3, s9, s11, s12, s13, w1, xl]
   rfl) ?_
  refine Goes.seqQ q3_11111111111 ?_
  refine Goes.opsQ q3_111111111110 fits Hh E0_sound (by
   simp only [q3, Tryz.f3, piece, part0, part1, part2, part2l, part3, part4, part5, part6, bodyOf, opsA]
   iterate 19 (refine evOps_step (by simp (maxSteps := 999999) +decide (discharger := first | omega | (simp only [lens] <;> omega) | decide) only [go_sem, loadIn, simprocAttr, s3, s9, s11, s12, s13, w1, xl] <;> rfl) ?_)
   exact evOps_done) ?_
  refine Goes.seqQ q3_111111111111 ?_
  refine Goes.opsQ q3_1111111111110 fits Hh E0_sound (by
   simp (maxSteps := 999999) +decide (discharger := first | omega | (simp only [lens] <;> omega) | decide) only [go_sem, q3, Tryz.f3, loadIn, simprocAttr, s3, s9, s11, s12, s13, w1, xl]
   rfl) ?_
  refine Goes.retQ q3_1111111111111 ?_
  exact ⟨_, _, (by simp (maxSteps := 999999) +decide (discharger := first | omega | (simp only [lens] <;> omega) | decide) only [go_sem, readRow, loadIn, simprocAttr] <;> rfl), rfl⟩
 ·by_cases c1 : other = 1
  ·
   subst c1
   obtain ⟨x, lm', h', cG, xl, _⟩ := getDone Hh F M D (z := 1) (by rw [oi]; rfl)
   refine Goes.seqQ q3_1111111111 ?_
   refine Goes.opsQ q3_11111111110 fits Hh (E1_sound E0_sound cG) (by
    simp (maxSteps := 999999) +decide (discharger := first | omega | (simp only [lens] <;> omega) | decide) only [go_sem, q3, Tryz.f3, loadIn, simprocAttr, E1_call, s3, s9, s11, s12, s13, w1, xl]
    rfl) ?_
   refine Goes.seqQ q3_11111111111 ?_
   refine Goes.opsQ q3_111111111110 fits Hh E0_sound (by
    simp only [q3, Tryz.f3, piece, part0, part1, part2, part2l, part3, part4, part5, part6, bodyOf, opsA]
    iterate 19 (refine evOps_step (by simp (maxSteps := 999999) +decide (discharger := first | omega | (simp only [lens] <;> omega) | decide) only [go_sem, loadIn, simprocAttr, s3, s9, s11, s12, s13, w1, xl] <;> rfl) ?_)
    exact evOps_done) ?_
   refine Goes.seqQ q3_111111111111 ?_
   refine Goes.opsQ q3_1111111111110 fits Hh E0_sound (by
    simp (maxSteps := 999999) +decide (discharger := first | omega | (simp only [lens] <;> omega) | decide) only [go_sem, q3, Tryz.f3, loadIn, simprocAttr, s3, s9, s11, s12, s13, w1, xl]
    rfl) ?_
   refine Goes.retQ q3_1111111111111 ?_
   exact ⟨_, _, (by simp (maxSteps := 999999) +decide (discharger := first | omega | (simp only [lens] <;> omega) | decide) only [go_sem, readRow, loadIn, simprocAttr] <;> rfl), rfl⟩
  ·by_cases c2 : ((2 + e : Nat) : Int) ≤ other
   ·by_cases c3 : other < ((2 + e + a * b : Nat) : Int)
    ·
     obtain ⟨x, lm', h', cG, xl, _⟩ := getDone Hh F M D (z := other) (by rw [oi, decide_eq_true c2, decide_eq_true c3]; simp)
     refine Goes.seqQ q3_1111111111 ?_
     refine Goes.opsQ q3_11111111110 fits Hh (E1_sound E0_sound cG) (by
      simp (maxSteps := 999999) +decide (discharger := first | omega | (simp only [lens] <;> omega) | decide) only [go_sem, q3, Tryz.f3, loadIn, simprocAttr, E1_call, s3, s9, s11, s12, s13, w1, xl]
      rfl) ?_
     refine Goes.seqQ q3_11111111111 ?_
     refine Goes.opsQ q3_111111111110 fits Hh E0_sound (by
      simp only [q3, Tryz.f3, piece, part0, part1, part2, part2l, part3, part4, part5, part6, bodyOf, opsA]
      iterate 19 (refine evOps_step (by simp (maxSteps := 999999) +decide (discharger := first | omega | (simp only [lens] <;> omega) | decide) only [go_sem, loadIn, simprocAttr, s3, s9, s11, s12, s13, w1, xl] <;> rfl) ?_)
      exact evOps_done) ?_
     refine Goes.seqQ q3_111111111111 ?_
     refine Goes.opsQ q3_1111111111110 fits Hh E0_sound (by
      simp (maxSteps := 999999) +decide (discharger := first | omega | (simp only [lens] <;> omega) | decide) only [go_sem, q3, Tryz.f3, loadIn, simprocAttr, s3, s9, s11, s12, s13, w1, xl]
      rfl) ?_
     refine Goes.retQ q3_1111111111111 ?_
     exact ⟨_, _, (by simp (maxSteps := 999999) +decide (discharger := first | omega | (simp only [lens] <;> omega) | decide) only [go_sem, readRow, loadIn, simprocAttr] <;> rfl), rfl⟩
    ·
     have cG := xSGet_ok Hh (M.getNot (fine_fineB F) (z := other) (by rw [oi, decide_eq_false c0, decide_eq_false c1, decide_eq_false c3]; simp) o1)
     refine Goes.seqQ q3_1111111111 ?_
     refine Goes.opsQ q3_11111111110 fits Hh (E1_sound E0_sound cG) (by
      simp (maxSteps := 999999) +decide (discharger := first | omega | (simp only [lens] <;> omega) | decide) only [go_sem, q3, Tryz.f3, loadIn, simprocAttr, E1_call, s3, s9, s11, s12, s13, w1, zl]
      rfl) ?_
     refine Goes.seqQ q3_11111111111 ?_
     refine Goes.opsQ q3_111111111110 fits Hh E0_sound (by
      simp only [q3, Tryz.f3, piece, part0, part1, part2, part2l, part3, part4, part5, part6, bodyOf, opsA]
      iterate 19 (refine evOps_step (by simp (maxSteps := 999999) +decide (discharger := first | omega | (simp only [lens] <;> omega) | decide) only [go_sem, loadIn, simprocAttr, s3, s9, s11, s12, s13, w1, zl] <;> rfl) ?_)
      exact evOps_done) ?_
     refine Goes.seqQ q3_111111111111 ?_
     refine Goes.opsQ q3_1111111111110 fits Hh E0_sound (by
      simp (maxSteps := 999999) +decide (discharger := first | omega | (simp only [lens] <;> omega) | decide) only [go_sem, q3, Tryz.f3, loadIn, simprocAttr, s3, s9, s11, s12, s13, w1, zl]
      rfl) ?_
     refine Goes.retQ q3_1111111111111 ?_
     exact ⟨_, _, (by simp (maxSteps := 999999) +decide (discharger := first | omega | (simp only [lens] <;> omega) | decide) only [go_sem, readRow, loadIn, simprocAttr] <;> rfl), rfl⟩
   ·
    have cG := xSGet_ok Hh (M.getNot (fine_fineB F) (z := other) (by rw [oi, decide_eq_false c0, decide_eq_false c1, decide_eq_false c2]; simp) o1)
    refine Goes.seqQ q3_1111111111 ?_
    refine Goes.opsQ q3_11111111110 fits Hh (E1_sound E0_sound cG) (by
     simp (maxSteps := 999999) +decide (discharger := first | omega | (simp only [lens] <;> omega) | decide) only [go_sem, q3, Tryz.f3, loadIn, simprocAttr, E1_call, s3, s9, s11, s12, s13, w1, zl]
     rfl) ?_
    refine Goes.seqQ q3_11111111111 ?_
    refine Goes.opsQ q3_111111111110 fits Hh E0_sound (by
     simp only [q3, Tryz.f3, piece, part0, part1, part2, part2l, part3, part4, part5, part6, bodyOf, opsA]
     iterate 19 (refine evOps_step (by simp (maxSteps := 999999) +decide (discharger := first | omega | (simp only [lens] <;> omega) | decide) only [go_sem, loadIn, simprocAttr, s3, s9, s11, s12, s13, w1, zl] <;> rfl) ?_)
     exact evOps_done) ?_
    refine Goes.seqQ q3_111111111111 ?_
    refine Goes.opsQ q3_1111111111110 fits Hh E0_sound (by
     simp (maxSteps := 999999) +decide (discharger := first | omega | (simp only [lens] <;> omega) | decide) only [go_sem, q3, Tryz.f3, loadIn, simprocAttr, s3, s9, s11, s12, s13, w1, zl]
     rfl) ?_
    refine Goes.retQ q3_1111111111111 ?_
    exact ⟨_, _, (by simp (maxSteps := 999999) +decide (discharger := first | omega | (simp only [lens] <;> omega) | decide) only [go_sem, readRow, loadIn, simprocAttr] <;> rfl), rfl⟩
end
end Go.Proofs.YtpiljmilaelfnaaGreatDoor
