/- geo, of a geometry that may be. -/
import Derived.Test.YtncdhjlpmlmfhaaGreatDoorFine
set_option linter.unusedSimpArgs false
set_option linter.unusedVariables false
set_option linter.unusedSectionVars false
set_option maxRecDepth 100000
namespace Go.Proofs.YtncdhjlpmlmfhaaGreatDoor
open Go.Ev
theorem ty3 : K.types.get 3 = some ti3 := by kernel_rfl
theorem sz3 : ti3.size = 1 := by rfl
theorem ag3 : ti3.agg = false := by rfl
theorem de3 : ti3.desc = (.int .i64) := by rfl
theorem ze3 : ti3.zero = (.c (.int .i64 0)) := by rfl
theorem by3 : ti3.bytes = 8 := by rfl
theorem ke3 (k : IntKind) (n : Int) : keyT K 20 3 (.c (.int k n)) = true := by kernel_rfl
theorem ty4 : K.types.get 4 = some ti4 := by kernel_rfl
theorem sz4 : ti4.size = 1 := by rfl
theorem ag4 : ti4.agg = false := by rfl
theorem de4 : ti4.desc = .bool := by rfl
theorem ze4 : ti4.zero = (.c (.bool false)) := by rfl
theorem by4 : ti4.bytes = 1 := by rfl
theorem ty76 : K.types.get 76 = some ti76 := by kernel_rfl
theorem sz76 : ti76.size = 4 := by rfl
theorem ag76 : ti76.agg = true := by rfl
theorem fo76_0 : fieldOf K 76 0 = some (0, ti3) := by kernel_rfl
theorem fo76_1 : fieldOf K 76 1 = some (1, ti3) := by kernel_rfl
theorem fo76_2 : fieldOf K 76 2 = some (2, ti3) := by kernel_rfl
theorem fo76_3 : fieldOf K 76 3 = some (3, ti3) := by kernel_rfl
theorem bu76 (ps : List (Nat × W)) : opBuild K 76 (some ps) = gW (fillStruct K 76 ps ti76.zero.cells) := by kernel_rfl
theorem ze76 : ti76.zero = (.g ([.int .i64 0, .int .i64 0, .int .i64 0, .int .i64 0])) := by rfl
theorem by76 : ti76.bytes = 32 := by rfl
attribute [go_sem] ty3 sz3 ag3 de3 ze3 by3 ke3 ty4 sz4 ag4 de4 ze4 by4 ty76 sz76 ag76 fo76_0 fo76_1 fo76_2 fo76_3 bu76 ze76 by76
noncomputable def q70 (p : List Nat) : Code := piece p (bodyOf Tryz.f70)
theorem q70_ : q70 [] = .seq (q70 [0]) (q70 [1]) := by kernel_rfl
theorem q70_0 : q70 [0] = .region 0 (opsA (q70 [0])) false := by kernel_rfl
theorem q70_1 : q70 [1] = .seq (q70 [1, 0]) (q70 [1, 1]) := by kernel_rfl
theorem q70_10 : q70 [1, 0] = .block 0 (q70 [1, 0, 2]) := by kernel_rfl
theorem q70_102 : q70 [1, 0, 2] = .seq (q70 [1, 0, 2, 0]) (q70 [1, 0, 2, 1]) := by kernel_rfl
theorem q70_1020 : q70 [1, 0, 2, 0] = .region 1 (opsA (q70 [1, 0, 2, 0])) false := by kernel_rfl
theorem q70_1021 : q70 [1, 0, 2, 1] = .cond (.tmp 3) (q70 [1, 0, 2, 1, 3]) (q70 [1, 0, 2, 1, 4]) := by kernel_rfl
theorem q70_10214 : q70 [1, 0, 2, 1, 4] = .seq (q70 [1, 0, 2, 1, 4, 0]) (q70 [1, 0, 2, 1, 4, 1]) := by kernel_rfl
theorem q70_102140 : q70 [1, 0, 2, 1, 4, 0] = .region 3 (opsA (q70 [1, 0, 2, 1, 4, 0])) false := by kernel_rfl
theorem q70_102141 : q70 [1, 0, 2, 1, 4, 1] = .cond (.tmp 12) (q70 [1, 0, 2, 1, 4, 1, 3]) (q70 [1, 0, 2, 1, 4, 1, 4]) := by kernel_rfl
theorem q70_1021414 : q70 [1, 0, 2, 1, 4, 1, 4] = .seq (q70 [1, 0, 2, 1, 4, 1, 4, 0]) (q70 [1, 0, 2, 1, 4, 1, 4, 1]) := by kernel_rfl
theorem q70_10214140 : q70 [1, 0, 2, 1, 4, 1, 4, 0] = .region 5 (opsA (q70 [1, 0, 2, 1, 4, 1, 4, 0])) false := by kernel_rfl
theorem q70_10214141 : q70 [1, 0, 2, 1, 4, 1, 4, 1] = .cond (.tmp 21) (q70 [1, 0, 2, 1, 4, 1, 4, 1, 3]) (q70 [1, 0, 2, 1, 4, 1, 4, 1, 4]) := by kernel_rfl
theorem q70_102141414 : q70 [1, 0, 2, 1, 4, 1, 4, 1, 4] = .seq (q70 [1, 0, 2, 1, 4, 1, 4, 1, 4, 0]) (q70 [1, 0, 2, 1, 4, 1, 4, 1, 4, 1]) := by kernel_rfl
theorem q70_1021414140 : q70 [1, 0, 2, 1, 4, 1, 4, 1, 4, 0] = .region 7 (opsA (q70 [1, 0, 2, 1, 4, 1, 4, 1, 4, 0])) false := by kernel_rfl
theorem q70_1021414141 : q70 [1, 0, 2, 1, 4, 1, 4, 1, 4, 1] = .cond (.tmp 36) (q70 [1, 0, 2, 1, 4, 1, 4, 1, 4, 1, 3]) (q70 [1, 0, 2, 1, 4, 1, 4, 1, 4, 1, 4]) := by kernel_rfl
theorem q70_10214141414 : q70 [1, 0, 2, 1, 4, 1, 4, 1, 4, 1, 4] = .seq (q70 [1, 0, 2, 1, 4, 1, 4, 1, 4, 1, 4, 0]) (q70 [1, 0, 2, 1, 4, 1, 4, 1, 4, 1, 4, 1]) := by kernel_rfl
theorem q70_102141414140 : q70 [1, 0, 2, 1, 4, 1, 4, 1, 4, 1, 4, 0] = .region 9 (opsA (q70 [1, 0, 2, 1, 4, 1, 4, 1, 4, 1, 4, 0])) false := by kernel_rfl
theorem q70_102141414141 : q70 [1, 0, 2, 1, 4, 1, 4, 1, 4, 1, 4, 1] = .cond (.tmp 45) (q70 [1, 0, 2, 1, 4, 1, 4, 1, 4, 1, 4, 1, 3]) (q70 [1, 0, 2, 1, 4, 1, 4, 1, 4, 1, 4, 1, 4]) := by kernel_rfl
theorem q70_1021414141414 : q70 [1, 0, 2, 1, 4, 1, 4, 1, 4, 1, 4, 1, 4] = .skip := by kernel_rfl
theorem q70_11 : q70 [1, 1] = .seq (q70 [1, 1, 0]) (q70 [1, 1, 1]) := by kernel_rfl
theorem q70_110 : q70 [1, 1, 0] = .region 11 (opsA (q70 [1, 1, 0])) false := by kernel_rfl
theorem q70_111 : q70 [1, 1, 1] = .ret := by kernel_rfl
noncomputable def q71 (p : List Nat) : Code := piece p (bodyOf Tryz.f71)
theorem q71_ : q71 [] = .seq (q71 [0]) (q71 [1]) := by kernel_rfl
theorem q71_0 : q71 [0] = .region 0 (opsA (q71 [0])) false := by kernel_rfl
theorem q71_1 : q71 [1] = .seq (q71 [1, 0]) (q71 [1, 1]) := by kernel_rfl
theorem q71_10 : q71 [1, 0] = .seq (q71 [1, 0, 0]) (q71 [1, 0, 1]) := by kernel_rfl
theorem q71_100 : q71 [1, 0, 0] = .region 1 (opsA (q71 [1, 0, 0])) false := by kernel_rfl
theorem q71_101 : q71 [1, 0, 1] = .cond (.tmp 5) (q71 [1, 0, 1, 3]) (q71 [1, 0, 1, 4]) := by kernel_rfl
theorem q71_1014 : q71 [1, 0, 1, 4] = .skip := by kernel_rfl
theorem q71_11 : q71 [1, 1] = .seq (q71 [1, 1, 0]) (q71 [1, 1, 1]) := by kernel_rfl
theorem q71_110 : q71 [1, 1, 0] = .region 3 (opsA (q71 [1, 1, 0])) false := by kernel_rfl
theorem q71_111 : q71 [1, 1, 1] = .ret := by kernel_rfl
noncomputable def q130 (p : List Nat) : Code := piece p (bodyOf Tryz.f130)
theorem q130_ : q130 [] = .seq (q130 [0]) (q130 [1]) := by kernel_rfl
theorem q130_0 : q130 [0] = .region 0 (opsA (q130 [0])) false := by kernel_rfl
theorem q130_1 : q130 [1] = .seq (q130 [1, 0]) (q130 [1, 1]) := by kernel_rfl
theorem q130_10 : q130 [1, 0] = .seq (q130 [1, 0, 0]) (q130 [1, 0, 1]) := by kernel_rfl
theorem q130_100 : q130 [1, 0, 0] = .region 1 (opsA (q130 [1, 0, 0])) false := by kernel_rfl
theorem q130_101 : q130 [1, 0, 1] = .cond (.tmp 18) (q130 [1, 0, 1, 3]) (q130 [1, 0, 1, 4]) := by kernel_rfl
theorem q130_1014 : q130 [1, 0, 1, 4] = .skip := by kernel_rfl
theorem q130_11 : q130 [1, 1] = .seq (q130 [1, 1, 0]) (q130 [1, 1, 1]) := by kernel_rfl
theorem q130_110 : q130 [1, 1, 0] = .region 3 (opsA (q130 [1, 1, 0])) false := by kernel_rfl
theorem q130_111 : q130 [1, 1, 1] = .ret := by kernel_rfl
noncomputable def q237 (p : List Nat) : Code := piece p (bodyOf Tryz.f237)
theorem q237_ : q237 [] = .seq (q237 [0]) (q237 [1]) := by kernel_rfl
theorem q237_0 : q237 [0] = .region 0 (opsA (q237 [0])) false := by kernel_rfl
theorem q237_1 : q237 [1] = .seq (q237 [1, 0]) (q237 [1, 1]) := by kernel_rfl
theorem q237_10 : q237 [1, 0] = .seq (q237 [1, 0, 0]) (q237 [1, 0, 1]) := by kernel_rfl
theorem q237_100 : q237 [1, 0, 0] = .region 1 (opsA (q237 [1, 0, 0])) false := by kernel_rfl
theorem q237_101 : q237 [1, 0, 1] = .cond (.tmp 5) (q237 [1, 0, 1, 3]) (q237 [1, 0, 1, 4]) := by kernel_rfl
theorem q237_1014 : q237 [1, 0, 1, 4] = .skip := by kernel_rfl
theorem q237_11 : q237 [1, 1] = .seq (q237 [1, 1, 0]) (q237 [1, 1, 1]) := by kernel_rfl
theorem q237_110 : q237 [1, 1, 0] = .region 3 (opsA (q237 [1, 1, 0])) false := by kernel_rfl
theorem q237_111 : q237 [1, 1, 1] = .ret := by kernel_rfl
theorem rs70 : Tryz.f70.results.toList = [.tmp 2] := rfl
theorem rs71 : Tryz.f71.results.toList = [.tmp 2] := rfl
theorem rs237 : Tryz.f237.results.toList = [.tmp 2] := rfl
theorem rs130 : Tryz.f130.results.toList = [.tmp 4, .tmp 5] := rfl
attribute [go_sem] rs70 rs71 rs237 rs130
section
variable (Hh : Hearts K Tryz.prog)
include Hh
theorem gMayOk {gr sz ino jr : Nat} (F : Fine gr sz ino jr) (h : Go.Ev.H) : CallOk K Tryz.prog 70 [.g (geoL gr sz ino jr)] h (.w (.c (.bool true))) h := by
  obtain ⟨g1, g2, g3, g4, g5, g6, g7, g8, g9, g10, g11⟩ := F
  have gm : (gr : Int) * (sz : Int) = ((gr * sz : Nat) : Int) := rfl
  obtain ⟨v, h', c, rfl, hk⟩ : ∃ v h', CallOk K Tryz.prog 70 [.g (geoL gr sz ino jr)] h v h' ∧ v = .w (.c (.bool true)) ∧ ∀ m, m < h.next → h'.get m = h.get m := by
    refine CallOk.goesE fits Hh (by kernel_rfl) (by kernel_rfl) (by kernel_rfl) (show Tryz.f70.body = some (q70 []) by kernel_rfl) rfl ?_
    show Goes K Tryz.prog 64 none _ _ _ _ _
    show Goes K Tryz.prog 64 none (q70 []) _ _ _ _
    rw [q70_]
    refine Goes.seq ?_
    show Goes K Tryz.prog 64 none (q70 [0]) _ _ _ _
    rw [q70_0]
    refine Goes.ops2 fits Hh E0_sound (by
      simp (config := { maxSteps := 1000000 }) (decide := true) (discharger := first | omega | (simp only [H.next_new, H.next_put] <;> omega) | decide) only [go_sem, q70, Tryz.f70, readRow, loadIn, reduceIte, Nat.reduceAdd, Nat.reduceMul, Nat.reduceSub, Nat.reduceDiv, Nat.reduceMod, Nat.reduceLT, Nat.reduceBEq, Int.reduceToNat, geoL, gm, read1]
      rfl) ?_
    show Goes K Tryz.prog 64 none (q70 [1]) _ _ _ _
    rw [q70_1]
    refine Goes.seq ?_
    show Goes K Tryz.prog 64 none (q70 [1, 0]) _ _ _ _
    rw [q70_10]
    refine Goes.block ?_
    show Goes K Tryz.prog 64 none (q70 [1, 0, 2]) _ _ _ _
    rw [q70_102]
    refine Goes.seq ?_
    show Goes K Tryz.prog 64 none (q70 [1, 0, 2, 0]) _ _ _ _
    rw [q70_1020]
    refine Goes.ops2 fits Hh E0_sound (by
      simp (config := { maxSteps := 1000000 }) (decide := true) (discharger := first | omega | (simp only [H.next_new, H.next_put] <;> omega) | decide) only [go_sem, q70, Tryz.f70, readRow, loadIn, reduceIte, Nat.reduceAdd, Nat.reduceMul, Nat.reduceSub, Nat.reduceDiv, Nat.reduceMod, Nat.reduceLT, Nat.reduceBEq, Int.reduceToNat, geoL, gm, read1]
      rfl) ?_
    show Goes K Tryz.prog 64 none (q70 [1, 0, 2, 1]) _ _ _ _
    rw [q70_1021]
    refine Goes.condE (by simp (config := { maxSteps := 1000000 }) (decide := true) (discharger := first | omega | (simp only [H.next_new, H.next_put] <;> omega) | decide) only [go_sem, readRow, loadIn, reduceIte, Nat.reduceAdd, Nat.reduceMul, Nat.reduceSub, Nat.reduceDiv, Nat.reduceMod, Nat.reduceLT, Nat.reduceBEq, Int.reduceToNat, geoL, gm, read1] <;> rfl) (by first | rfl | assumption | exact decide_eq_false (by omega) | (simp; omega)) ?_
    show Goes K Tryz.prog 64 none (q70 [1, 0, 2, 1, 4]) _ _ _ _
    rw [q70_10214]
    refine Goes.seq ?_
    show Goes K Tryz.prog 64 none (q70 [1, 0, 2, 1, 4, 0]) _ _ _ _
    rw [q70_102140]
    refine Goes.ops2 fits Hh E0_sound (by
      simp (config := { maxSteps := 1000000 }) (decide := true) (discharger := first | omega | (simp only [H.next_new, H.next_put] <;> omega) | decide) only [go_sem, q70, Tryz.f70, readRow, loadIn, reduceIte, Nat.reduceAdd, Nat.reduceMul, Nat.reduceSub, Nat.reduceDiv, Nat.reduceMod, Nat.reduceLT, Nat.reduceBEq, Int.reduceToNat, geoL, gm, read1]
      rfl) ?_
    show Goes K Tryz.prog 64 none (q70 [1, 0, 2, 1, 4, 1]) _ _ _ _
    rw [q70_102141]
    refine Goes.condE (by simp (config := { maxSteps := 1000000 }) (decide := true) (discharger := first | omega | (simp only [H.next_new, H.next_put] <;> omega) | decide) only [go_sem, readRow, loadIn, reduceIte, Nat.reduceAdd, Nat.reduceMul, Nat.reduceSub, Nat.reduceDiv, Nat.reduceMod, Nat.reduceLT, Nat.reduceBEq, Int.reduceToNat, geoL, gm, read1] <;> rfl) (by first | rfl | assumption | exact decide_eq_false (by omega) | (simp; omega)) ?_
    show Goes K Tryz.prog 64 none (q70 [1, 0, 2, 1, 4, 1, 4]) _ _ _ _
    rw [q70_1021414]
    refine Goes.seq ?_
    show Goes K Tryz.prog 64 none (q70 [1, 0, 2, 1, 4, 1, 4, 0]) _ _ _ _
    rw [q70_10214140]
    refine Goes.ops2 fits Hh E0_sound (by
      simp only [q70, Tryz.f70, piece, part0, part1, part2, part2l, part3, part4, part5, part6, bodyOf, opsA]
      iterate 15 (refine evOps_step (by simp (config := { maxSteps := 1000000 }) (decide := true) (discharger := first | omega | (simp only [H.next_new, H.next_put] <;> omega) | decide) only [go_sem, readRow, loadIn, reduceIte, Nat.reduceAdd, Nat.reduceMul, Nat.reduceSub, Nat.reduceDiv, Nat.reduceMod, Nat.reduceLT, Nat.reduceBEq, Int.reduceToNat, geoL, gm, read1] <;> rfl) ?_)
      exact evOps_done) ?_
    show Goes K Tryz.prog 64 none (q70 [1, 0, 2, 1, 4, 1, 4, 1]) _ _ _ _
    rw [q70_10214141]
    refine Goes.condE (by simp (config := { maxSteps := 1000000 }) (decide := true) (discharger := first | omega | (simp only [H.next_new, H.next_put] <;> omega) | decide) only [go_sem, readRow, loadIn, reduceIte, Nat.reduceAdd, Nat.reduceMul, Nat.reduceSub, Nat.reduceDiv, Nat.reduceMod, Nat.reduceLT, Nat.reduceBEq, Int.reduceToNat, geoL, gm, read1] <;> rfl) (by first | rfl | assumption | exact decide_eq_false (by omega) | (simp; omega)) ?_
    show Goes K Tryz.prog 64 none (q70 [1, 0, 2, 1, 4, 1, 4, 1, 4]) _ _ _ _
    rw [q70_102141414]
    refine Goes.seq ?_
    show Goes K Tryz.prog 64 none (q70 [1, 0, 2, 1, 4, 1, 4, 1, 4, 0]) _ _ _ _
    rw [q70_1021414140]
    refine Goes.ops2 fits Hh E0_sound (by
      simp (config := { maxSteps := 1000000 }) (decide := true) (discharger := first | omega | (simp only [H.next_new, H.next_put] <;> omega) | decide) only [go_sem, q70, Tryz.f70, readRow, loadIn, reduceIte, Nat.reduceAdd, Nat.reduceMul, Nat.reduceSub, Nat.reduceDiv, Nat.reduceMod, Nat.reduceLT, Nat.reduceBEq, Int.reduceToNat, geoL, gm, read1]
      rfl) ?_
    show Goes K Tryz.prog 64 none (q70 [1, 0, 2, 1, 4, 1, 4, 1, 4, 1]) _ _ _ _
    rw [q70_1021414141]
    refine Goes.condE (by simp (config := { maxSteps := 1000000 }) (decide := true) (discharger := first | omega | (simp only [H.next_new, H.next_put] <;> omega) | decide) only [go_sem, readRow, loadIn, reduceIte, Nat.reduceAdd, Nat.reduceMul, Nat.reduceSub, Nat.reduceDiv, Nat.reduceMod, Nat.reduceLT, Nat.reduceBEq, Int.reduceToNat, geoL, gm, read1] <;> rfl) (by first | rfl | assumption | exact decide_eq_false (by omega) | (simp; omega)) ?_
    show Goes K Tryz.prog 64 none (q70 [1, 0, 2, 1, 4, 1, 4, 1, 4, 1, 4]) _ _ _ _
    rw [q70_10214141414]
    refine Goes.seq ?_
    show Goes K Tryz.prog 64 none (q70 [1, 0, 2, 1, 4, 1, 4, 1, 4, 1, 4, 0]) _ _ _ _
    rw [q70_102141414140]
    refine Goes.ops2 fits Hh E0_sound (by
      simp (config := { maxSteps := 1000000 }) (decide := true) (discharger := first | omega | (simp only [H.next_new, H.next_put] <;> omega) | decide) only [go_sem, q70, Tryz.f70, readRow, loadIn, reduceIte, Nat.reduceAdd, Nat.reduceMul, Nat.reduceSub, Nat.reduceDiv, Nat.reduceMod, Nat.reduceLT, Nat.reduceBEq, Int.reduceToNat, geoL, gm, read1]
      rfl) ?_
    show Goes K Tryz.prog 64 none (q70 [1, 0, 2, 1, 4, 1, 4, 1, 4, 1, 4, 1]) _ _ _ _
    rw [q70_102141414141]
    refine Goes.condE (by simp (config := { maxSteps := 1000000 }) (decide := true) (discharger := first | omega | (simp only [H.next_new, H.next_put] <;> omega) | decide) only [go_sem, readRow, loadIn, reduceIte, Nat.reduceAdd, Nat.reduceMul, Nat.reduceSub, Nat.reduceDiv, Nat.reduceMod, Nat.reduceLT, Nat.reduceBEq, Int.reduceToNat, geoL, gm, read1] <;> rfl) (by first | rfl | assumption | exact decide_eq_false (by omega) | (simp; omega)) ?_
    show Goes K Tryz.prog 64 none (q70 [1, 0, 2, 1, 4, 1, 4, 1, 4, 1, 4, 1, 4]) _ _ _ _
    rw [q70_1021414141414]
    refine Goes.skip ?_
    show Goes K Tryz.prog 64 none (q70 [1, 1]) _ _ _ _
    rw [q70_11]
    refine Goes.seq ?_
    show Goes K Tryz.prog 64 none (q70 [1, 1, 0]) _ _ _ _
    rw [q70_110]
    refine Goes.ops2 fits Hh E0_sound (by
      simp (config := { maxSteps := 1000000 }) (decide := true) (discharger := first | omega | (simp only [H.next_new, H.next_put] <;> omega) | decide) only [go_sem, q70, Tryz.f70, readRow, loadIn, reduceIte, Nat.reduceAdd, Nat.reduceMul, Nat.reduceSub, Nat.reduceDiv, Nat.reduceMod, Nat.reduceLT, Nat.reduceBEq, Int.reduceToNat, geoL, gm, read1]
      rfl) ?_
    show Goes K Tryz.prog 64 none (q70 [1, 1, 1]) _ _ _ _
    rw [q70_111]
    refine Goes.ret ?_
    refine ⟨_, _, (by simp (config := { maxSteps := 1000000 }) (decide := true) (discharger := first | omega | (simp only [H.next_new, H.next_put] <;> omega) | decide) only [go_sem, readRow, loadIn, reduceIte, Nat.reduceAdd, Nat.reduceMul, Nat.reduceSub, Nat.reduceDiv, Nat.reduceMod, Nat.reduceLT, Nat.reduceBEq, Int.reduceToNat] <;> rfl), rfl, fun m hm => ?_⟩
    simp (config := { maxSteps := 1000000 }) (decide := true) (discharger := first | omega | (simp only [H.next_new, H.next_put] <;> omega) | decide) only [go_sem, readRow, loadIn, reduceIte, Nat.reduceAdd, Nat.reduceMul, Nat.reduceSub, Nat.reduceDiv, Nat.reduceMod, Nat.reduceLT, Nat.reduceBEq, Int.reduceToNat]
  exact CallOk.quiet c rfl hk
theorem gBlocksOk {gr sz ino jr : Nat} (F : Fine gr sz ino jr) (h : Go.Ev.H) : CallOk K Tryz.prog 71 [.g (geoL gr sz ino jr)] h (.w (.c (.int .i64 ((2 + jr + gr * sz : Nat) : Int)))) h := by
  have F' := F
  obtain ⟨g1, g2, g3, g4, g5, g6, g7, g8, g9, g10, g11⟩ := F'
  have gm : (gr : Int) * (sz : Int) = ((gr * sz : Nat) : Int) := rfl
  have c1 := gMayOk Hh F (h.new (.row 4 [geoL gr sz ino jr] false))
  obtain ⟨v, h', c, rfl, hk⟩ : ∃ v h', CallOk K Tryz.prog 71 [.g (geoL gr sz ino jr)] h v h' ∧ v = .w (.c (.int .i64 ((2 + jr + gr * sz : Nat) : Int))) ∧ ∀ m, m < h.next → h'.get m = h.get m := by
    refine CallOk.goesE fits Hh (by kernel_rfl) (by kernel_rfl) (by kernel_rfl) (show Tryz.f71.body = some (q71 []) by kernel_rfl) rfl ?_
    show Goes K Tryz.prog 15 none _ _ _ _ _
    show Goes K Tryz.prog 15 none (q71 []) _ _ _ _
    rw [q71_]
    refine Goes.seq ?_
    show Goes K Tryz.prog 15 none (q71 [0]) _ _ _ _
    rw [q71_0]
    refine Goes.ops2 fits Hh E0_sound (by
      simp (config := { maxSteps := 1000000 }) (decide := true) (discharger := first | omega | (simp only [H.next_new, H.next_put] <;> omega) | decide) only [go_sem, q71, Tryz.f71, readRow, loadIn, reduceIte, Nat.reduceAdd, Nat.reduceMul, Nat.reduceSub, Nat.reduceDiv, Nat.reduceMod, Nat.reduceLT, Nat.reduceBEq, Int.reduceToNat, geoL, gm, read1]
      rfl) ?_
    show Goes K Tryz.prog 15 none (q71 [1]) _ _ _ _
    rw [q71_1]
    refine Goes.seq ?_
    show Goes K Tryz.prog 15 none (q71 [1, 0]) _ _ _ _
    rw [q71_10]
    refine Goes.seq ?_
    show Goes K Tryz.prog 15 none (q71 [1, 0, 0]) _ _ _ _
    rw [q71_100]
    refine Goes.ops2 fits Hh (E1_sound E0_sound c1) (by
      simp (config := { maxSteps := 1000000 }) (decide := true) (discharger := first | omega | (simp only [H.next_new, H.next_put] <;> omega) | decide) only [go_sem, q71, Tryz.f71, readRow, loadIn, reduceIte, Nat.reduceAdd, Nat.reduceMul, Nat.reduceSub, Nat.reduceDiv, Nat.reduceMod, Nat.reduceLT, Nat.reduceBEq, Int.reduceToNat, E1_call, geoL, gm, read1]
      rfl) ?_
    show Goes K Tryz.prog 15 none (q71 [1, 0, 1]) _ _ _ _
    rw [q71_101]
    refine Goes.condE (by simp (config := { maxSteps := 1000000 }) (decide := true) (discharger := first | omega | (simp only [H.next_new, H.next_put] <;> omega) | decide) only [go_sem, readRow, loadIn, reduceIte, Nat.reduceAdd, Nat.reduceMul, Nat.reduceSub, Nat.reduceDiv, Nat.reduceMod, Nat.reduceLT, Nat.reduceBEq, Int.reduceToNat, geoL, gm, read1] <;> rfl) (by first | rfl | assumption | exact decide_eq_false (by omega) | (simp; omega)) ?_
    show Goes K Tryz.prog 15 none (q71 [1, 0, 1, 4]) _ _ _ _
    rw [q71_1014]
    refine Goes.skip ?_
    show Goes K Tryz.prog 15 none (q71 [1, 1]) _ _ _ _
    rw [q71_11]
    refine Goes.seq ?_
    show Goes K Tryz.prog 15 none (q71 [1, 1, 0]) _ _ _ _
    rw [q71_110]
    refine Goes.ops2 fits Hh E0_sound (by
      simp (config := { maxSteps := 1000000 }) (decide := true) (discharger := first | omega | (simp only [H.next_new, H.next_put] <;> omega) | decide) only [go_sem, q71, Tryz.f71, readRow, loadIn, reduceIte, Nat.reduceAdd, Nat.reduceMul, Nat.reduceSub, Nat.reduceDiv, Nat.reduceMod, Nat.reduceLT, Nat.reduceBEq, Int.reduceToNat, geoL, gm, read1]
      rfl) ?_
    show Goes K Tryz.prog 15 none (q71 [1, 1, 1]) _ _ _ _
    rw [q71_111]
    refine Goes.ret ?_
    refine ⟨_, _, (by simp (config := { maxSteps := 1000000 }) (decide := true) (discharger := first | omega | (simp only [H.next_new, H.next_put] <;> omega) | decide) only [go_sem, readRow, loadIn, reduceIte, Nat.reduceAdd, Nat.reduceMul, Nat.reduceSub, Nat.reduceDiv, Nat.reduceMod, Nat.reduceLT, Nat.reduceBEq, Int.reduceToNat] <;> rfl), rfl, fun m hm => ?_⟩
    simp (config := { maxSteps := 1000000 }) (decide := true) (discharger := first | omega | (simp only [H.next_new, H.next_put] <;> omega) | decide) only [go_sem, readRow, loadIn, reduceIte, Nat.reduceAdd, Nat.reduceMul, Nat.reduceSub, Nat.reduceDiv, Nat.reduceMod, Nat.reduceLT, Nat.reduceBEq, Int.reduceToNat]
  exact CallOk.quiet c rfl hk
theorem gDataOk {gr sz ino jr : Nat} (F : Fine gr sz ino jr) (h : Go.Ev.H) : CallOk K Tryz.prog 237 [.g (geoL gr sz ino jr)] h (.w (.c (.int .i64 ((sz : Int) - 2 - ((ino / 4 : Nat) : Int))))) h := by
  have F' := F
  obtain ⟨g1, g2, g3, g4, g5, g6, g7, g8, g9, g10, g11⟩ := F'
  have gm : (gr : Int) * (sz : Int) = ((gr * sz : Nat) : Int) := rfl
  have c1 := gMayOk Hh F (h.new (.row 4 [geoL gr sz ino jr] false))
  obtain ⟨v, h', c, rfl, hk⟩ : ∃ v h', CallOk K Tryz.prog 237 [.g (geoL gr sz ino jr)] h v h' ∧ v = .w (.c (.int .i64 ((sz : Int) - 2 - ((ino / 4 : Nat) : Int)))) ∧ ∀ m, m < h.next → h'.get m = h.get m := by
    refine CallOk.goesE fits Hh (by kernel_rfl) (by kernel_rfl) (by kernel_rfl) (show Tryz.f237.body = some (q237 []) by kernel_rfl) rfl ?_
    show Goes K Tryz.prog 13 none _ _ _ _ _
    show Goes K Tryz.prog 13 none (q237 []) _ _ _ _
    rw [q237_]
    refine Goes.seq ?_
    show Goes K Tryz.prog 13 none (q237 [0]) _ _ _ _
    rw [q237_0]
    refine Goes.ops2 fits Hh E0_sound (by
      simp (config := { maxSteps := 1000000 }) (decide := true) (discharger := first | omega | (simp only [H.next_new, H.next_put] <;> omega) | decide) only [go_sem, q237, Tryz.f237, readRow, loadIn, reduceIte, Nat.reduceAdd, Nat.reduceMul, Nat.reduceSub, Nat.reduceDiv, Nat.reduceMod, Nat.reduceLT, Nat.reduceBEq, Int.reduceToNat, geoL, gm, read1]
      rfl) ?_
    show Goes K Tryz.prog 13 none (q237 [1]) _ _ _ _
    rw [q237_1]
    refine Goes.seq ?_
    show Goes K Tryz.prog 13 none (q237 [1, 0]) _ _ _ _
    rw [q237_10]
    refine Goes.seq ?_
    show Goes K Tryz.prog 13 none (q237 [1, 0, 0]) _ _ _ _
    rw [q237_100]
    refine Goes.ops2 fits Hh (E1_sound E0_sound c1) (by
      simp (config := { maxSteps := 1000000 }) (decide := true) (discharger := first | omega | (simp only [H.next_new, H.next_put] <;> omega) | decide) only [go_sem, q237, Tryz.f237, readRow, loadIn, reduceIte, Nat.reduceAdd, Nat.reduceMul, Nat.reduceSub, Nat.reduceDiv, Nat.reduceMod, Nat.reduceLT, Nat.reduceBEq, Int.reduceToNat, E1_call, geoL, gm, read1]
      rfl) ?_
    show Goes K Tryz.prog 13 none (q237 [1, 0, 1]) _ _ _ _
    rw [q237_101]
    refine Goes.condE (by simp (config := { maxSteps := 1000000 }) (decide := true) (discharger := first | omega | (simp only [H.next_new, H.next_put] <;> omega) | decide) only [go_sem, readRow, loadIn, reduceIte, Nat.reduceAdd, Nat.reduceMul, Nat.reduceSub, Nat.reduceDiv, Nat.reduceMod, Nat.reduceLT, Nat.reduceBEq, Int.reduceToNat, geoL, gm, read1] <;> rfl) (by first | rfl | assumption | exact decide_eq_false (by omega) | (simp; omega)) ?_
    show Goes K Tryz.prog 13 none (q237 [1, 0, 1, 4]) _ _ _ _
    rw [q237_1014]
    refine Goes.skip ?_
    show Goes K Tryz.prog 13 none (q237 [1, 1]) _ _ _ _
    rw [q237_11]
    refine Goes.seq ?_
    show Goes K Tryz.prog 13 none (q237 [1, 1, 0]) _ _ _ _
    rw [q237_110]
    refine Goes.ops2 fits Hh E0_sound (by
      simp (config := { maxSteps := 1000000 }) (decide := true) (discharger := first | omega | (simp only [H.next_new, H.next_put] <;> omega) | decide) only [go_sem, q237, Tryz.f237, readRow, loadIn, reduceIte, Nat.reduceAdd, Nat.reduceMul, Nat.reduceSub, Nat.reduceDiv, Nat.reduceMod, Nat.reduceLT, Nat.reduceBEq, Int.reduceToNat, geoL, gm, read1]
      rfl) ?_
    show Goes K Tryz.prog 13 none (q237 [1, 1, 1]) _ _ _ _
    rw [q237_111]
    refine Goes.ret ?_
    refine ⟨_, _, (by simp (config := { maxSteps := 1000000 }) (decide := true) (discharger := first | omega | (simp only [H.next_new, H.next_put] <;> omega) | decide) only [go_sem, readRow, loadIn, reduceIte, Nat.reduceAdd, Nat.reduceMul, Nat.reduceSub, Nat.reduceDiv, Nat.reduceMod, Nat.reduceLT, Nat.reduceBEq, Int.reduceToNat] <;> rfl), rfl, fun m hm => ?_⟩
    simp (config := { maxSteps := 1000000 }) (decide := true) (discharger := first | omega | (simp only [H.next_new, H.next_put] <;> omega) | decide) only [go_sem, readRow, loadIn, reduceIte, Nat.reduceAdd, Nat.reduceMul, Nat.reduceSub, Nat.reduceDiv, Nat.reduceMod, Nat.reduceLT, Nat.reduceBEq, Int.reduceToNat]
  exact CallOk.quiet c rfl hk
theorem gStartOk {gr sz ino jr : Nat} (F : Fine gr sz ino jr) (h : Go.Ev.H) (k : Nat) (hk : k < gr) : CallOk K Tryz.prog 130 [.g (geoL gr sz ino jr), .c (.int .i64 k)] h (.tup [.c (.int .i64 ((2 + jr + k * sz : Nat) : Int)), .c (.bool true)]) h := by
  have F' := F
  obtain ⟨g1, g2, g3, g4, g5, g6, g7, g8, g9, g10, g11⟩ := F'
  have gm : (gr : Int) * (sz : Int) = ((gr * sz : Nat) : Int) := rfl
  have c1 := gMayOk Hh F (h.new (.row 4 [geoL gr sz ino jr] false))
  have gi : (k : Int) * (sz : Int) = ((k * sz : Nat) : Int) := rfl
  have b1 : k * sz ≤ gr * sz := Nat.mul_le_mul (by omega) (by omega)
  obtain ⟨v, h', c, rfl, hk⟩ : ∃ v h', CallOk K Tryz.prog 130 [.g (geoL gr sz ino jr), .c (.int .i64 k)] h v h' ∧ v = .tup [.c (.int .i64 ((2 + jr + k * sz : Nat) : Int)), .c (.bool true)] ∧ ∀ m, m < h.next → h'.get m = h.get m := by
    refine CallOk.goesE fits Hh (by kernel_rfl) (by kernel_rfl) (by kernel_rfl) (show Tryz.f130.body = some (q130 []) by kernel_rfl) rfl ?_
    show Goes K Tryz.prog 27 none _ _ _ _ _
    show Goes K Tryz.prog 27 none (q130 []) _ _ _ _
    rw [q130_]
    refine Goes.seq ?_
    show Goes K Tryz.prog 27 none (q130 [0]) _ _ _ _
    rw [q130_0]
    refine Goes.ops2 fits Hh E0_sound (by
      simp (config := { maxSteps := 1000000 }) (decide := true) (discharger := first | omega | (simp only [H.next_new, H.next_put] <;> omega) | decide) only [go_sem, q130, Tryz.f130, readRow, loadIn, reduceIte, Nat.reduceAdd, Nat.reduceMul, Nat.reduceSub, Nat.reduceDiv, Nat.reduceMod, Nat.reduceLT, Nat.reduceBEq, Int.reduceToNat, geoL, gm, gi, read1]
      rfl) ?_
    show Goes K Tryz.prog 27 none (q130 [1]) _ _ _ _
    rw [q130_1]
    refine Goes.seq ?_
    show Goes K Tryz.prog 27 none (q130 [1, 0]) _ _ _ _
    rw [q130_10]
    refine Goes.seq ?_
    show Goes K Tryz.prog 27 none (q130 [1, 0, 0]) _ _ _ _
    rw [q130_100]
    refine Goes.ops2 fits Hh (E1_sound E0_sound c1) (by
      simp only [q130, Tryz.f130, piece, part0, part1, part2, part2l, part3, part4, part5, part6, bodyOf, opsA]
      iterate 13 (refine evOps_step (by simp (config := { maxSteps := 1000000 }) (decide := true) (discharger := first | omega | (simp only [H.next_new, H.next_put] <;> omega) | decide) only [go_sem, readRow, loadIn, reduceIte, Nat.reduceAdd, Nat.reduceMul, Nat.reduceSub, Nat.reduceDiv, Nat.reduceMod, Nat.reduceLT, Nat.reduceBEq, Int.reduceToNat, E1_call, geoL, gm, gi, read1] <;> rfl) ?_)
      exact evOps_done) ?_
    show Goes K Tryz.prog 27 none (q130 [1, 0, 1]) _ _ _ _
    rw [q130_101]
    refine Goes.condE (by simp (config := { maxSteps := 1000000 }) (decide := true) (discharger := first | omega | (simp only [H.next_new, H.next_put] <;> omega) | decide) only [go_sem, readRow, loadIn, reduceIte, Nat.reduceAdd, Nat.reduceMul, Nat.reduceSub, Nat.reduceDiv, Nat.reduceMod, Nat.reduceLT, Nat.reduceBEq, Int.reduceToNat, geoL, gm, gi, read1] <;> rfl) (by first | rfl | assumption | exact decide_eq_false (by omega) | (simp; omega)) ?_
    show Goes K Tryz.prog 27 none (q130 [1, 0, 1, 4]) _ _ _ _
    rw [q130_1014]
    refine Goes.skip ?_
    show Goes K Tryz.prog 27 none (q130 [1, 1]) _ _ _ _
    rw [q130_11]
    refine Goes.seq ?_
    show Goes K Tryz.prog 27 none (q130 [1, 1, 0]) _ _ _ _
    rw [q130_110]
    refine Goes.ops2 fits Hh E0_sound (by
      simp (config := { maxSteps := 1000000 }) (decide := true) (discharger := first | omega | (simp only [H.next_new, H.next_put] <;> omega) | decide) only [go_sem, q130, Tryz.f130, readRow, loadIn, reduceIte, Nat.reduceAdd, Nat.reduceMul, Nat.reduceSub, Nat.reduceDiv, Nat.reduceMod, Nat.reduceLT, Nat.reduceBEq, Int.reduceToNat, geoL, gm, gi, read1]
      rfl) ?_
    show Goes K Tryz.prog 27 none (q130 [1, 1, 1]) _ _ _ _
    rw [q130_111]
    refine Goes.ret ?_
    refine ⟨_, _, (by simp (config := { maxSteps := 1000000 }) (decide := true) (discharger := first | omega | (simp only [H.next_new, H.next_put] <;> omega) | decide) only [go_sem, readRow, loadIn, reduceIte, Nat.reduceAdd, Nat.reduceMul, Nat.reduceSub, Nat.reduceDiv, Nat.reduceMod, Nat.reduceLT, Nat.reduceBEq, Int.reduceToNat] <;> rfl), rfl, fun m hm => ?_⟩
    simp (config := { maxSteps := 1000000 }) (decide := true) (discharger := first | omega | (simp only [H.next_new, H.next_put] <;> omega) | decide) only [go_sem, readRow, loadIn, reduceIte, Nat.reduceAdd, Nat.reduceMul, Nat.reduceSub, Nat.reduceDiv, Nat.reduceMod, Nat.reduceLT, Nat.reduceBEq, Int.reduceToNat]
  exact CallOk.quiet c rfl hk
end
end Go.Proofs.YtncdhjlpmlmfhaaGreatDoor
