/- geo, of a geometry that may be. -/
import Derived.Test.YtmnclecicnkmeaaGreatDoorFine
set_option linter.unusedSimpArgs false
set_option linter.unusedVariables false
set_option linter.unusedSectionVars false
set_option maxRecDepth 100000
namespace Go.Proofs.YtmnclecicnkmeaaGreatDoor
open Go.Ev
theorem ty3 : K.types.get 3 = some ti3 := by kernel_rfl
theorem sz3 : ti3.size = 1 := by rfl
theorem ag3 : ti3.agg = false := by rfl
theorem de3 : ti3.desc = (.int .i64) := by rfl
theorem ze3 : ti3.zero = (.c (.int .i64 0)) := by rfl
theorem by3 : ti3.bytes = 8 := by rfl
theorem ke3 (k : IntKind) (n : Int) : keyT K 20 3 (.c (.int k n)) = true := by kernel_rfl
theorem ty4 : K.types.get 4 = some ti4 := by kernel_rfl
theorem sz4 : ti4.size = 1 := by rfl
theorem ag4 : ti4.agg = false := by rfl
theorem de4 : ti4.desc = .bool := by rfl
theorem ze4 : ti4.zero = (.c (.bool false)) := by rfl
theorem by4 : ti4.bytes = 1 := by rfl
theorem ty84 : K.types.get 84 = some ti84 := by kernel_rfl
theorem sz84 : ti84.size = 4 := by rfl
theorem ag84 : ti84.agg = true := by rfl
theorem fo84_0 : fieldOf K 84 0 = some (0, ti3) := by kernel_rfl
theorem fo84_1 : fieldOf K 84 1 = some (1, ti3) := by kernel_rfl
theorem fo84_2 : fieldOf K 84 2 = some (2, ti3) := by kernel_rfl
theorem fo84_3 : fieldOf K 84 3 = some (3, ti3) := by kernel_rfl
theorem bu84 (ps : List (Nat × W)) : opBuild K 84 (some ps) = gW (fillStruct K 84 ps ti84.zero.cells) := by kernel_rfl
theorem ze84 : ti84.zero = (.g ([.int .i64 0, .int .i64 0, .int .i64 0, .int .i64 0])) := by rfl
theorem by84 : ti84.bytes = 32 := by rfl
attribute [go_sem] ty3 sz3 ag3 de3 ze3 by3 ke3 ty4 sz4 ag4 de4 ze4 by4 ty84 sz84 ag84 fo84_0 fo84_1 fo84_2 fo84_3 bu84 ze84 by84
noncomputable def q109 (p : List Nat) : Code := piece p (bodyOf Tryz.f109)
theorem q109_ : q109 [] = .seq (q109 [0]) (q109 [1]) := by kernel_rfl
theorem q109_0 : q109 [0] = .region 0 (opsA (q109 [0])) false := by kernel_rfl
theorem q109_1 : q109 [1] = .seq (q109 [1, 0]) (q109 [1, 1]) := by kernel_rfl
theorem q109_10 : q109 [1, 0] = .seq (q109 [1, 0, 0]) (q109 [1, 0, 1]) := by kernel_rfl
theorem q109_100 : q109 [1, 0, 0] = .region 1 (opsA (q109 [1, 0, 0])) false := by kernel_rfl
theorem q109_101 : q109 [1, 0, 1] = .cond (.tmp 18) (q109 [1, 0, 1, 3]) (q109 [1, 0, 1, 4]) := by kernel_rfl
theorem q109_1014 : q109 [1, 0, 1, 4] = .skip := by kernel_rfl
theorem q109_11 : q109 [1, 1] = .seq (q109 [1, 1, 0]) (q109 [1, 1, 1]) := by kernel_rfl
theorem q109_110 : q109 [1, 1, 0] = .region 3 (opsA (q109 [1, 1, 0])) false := by kernel_rfl
theorem q109_111 : q109 [1, 1, 1] = .ret := by kernel_rfl
noncomputable def q111 (p : List Nat) : Code := piece p (bodyOf Tryz.f111)
theorem q111_ : q111 [] = .seq (q111 [0]) (q111 [1]) := by kernel_rfl
theorem q111_0 : q111 [0] = .region 0 (opsA (q111 [0])) false := by kernel_rfl
theorem q111_1 : q111 [1] = .seq (q111 [1, 0]) (q111 [1, 1]) := by kernel_rfl
theorem q111_10 : q111 [1, 0] = .block 0 (q111 [1, 0, 2]) := by kernel_rfl
theorem q111_102 : q111 [1, 0, 2] = .seq (q111 [1, 0, 2, 0]) (q111 [1, 0, 2, 1]) := by kernel_rfl
theorem q111_1020 : q111 [1, 0, 2, 0] = .region 1 (opsA (q111 [1, 0, 2, 0])) false := by kernel_rfl
theorem q111_1021 : q111 [1, 0, 2, 1] = .cond (.tmp 3) (q111 [1, 0, 2, 1, 3]) (q111 [1, 0, 2, 1, 4]) := by kernel_rfl
theorem q111_10214 : q111 [1, 0, 2, 1, 4] = .seq (q111 [1, 0, 2, 1, 4, 0]) (q111 [1, 0, 2, 1, 4, 1]) := by kernel_rfl
theorem q111_102140 : q111 [1, 0, 2, 1, 4, 0] = .region 3 (opsA (q111 [1, 0, 2, 1, 4, 0])) false := by kernel_rfl
theorem q111_102141 : q111 [1, 0, 2, 1, 4, 1] = .cond (.tmp 12) (q111 [1, 0, 2, 1, 4, 1, 3]) (q111 [1, 0, 2, 1, 4, 1, 4]) := by kernel_rfl
theorem q111_1021414 : q111 [1, 0, 2, 1, 4, 1, 4] = .seq (q111 [1, 0, 2, 1, 4, 1, 4, 0]) (q111 [1, 0, 2, 1, 4, 1, 4, 1]) := by kernel_rfl
theorem q111_10214140 : q111 [1, 0, 2, 1, 4, 1, 4, 0] = .region 5 (opsA (q111 [1, 0, 2, 1, 4, 1, 4, 0])) false := by kernel_rfl
theorem q111_10214141 : q111 [1, 0, 2, 1, 4, 1, 4, 1] = .cond (.tmp 21) (q111 [1, 0, 2, 1, 4, 1, 4, 1, 3]) (q111 [1, 0, 2, 1, 4, 1, 4, 1, 4]) := by kernel_rfl
theorem q111_102141414 : q111 [1, 0, 2, 1, 4, 1, 4, 1, 4] = .seq (q111 [1, 0, 2, 1, 4, 1, 4, 1, 4, 0]) (q111 [1, 0, 2, 1, 4, 1, 4, 1, 4, 1]) := by kernel_rfl
theorem q111_1021414140 : q111 [1, 0, 2, 1, 4, 1, 4, 1, 4, 0] = .region 7 (opsA (q111 [1, 0, 2, 1, 4, 1, 4, 1, 4, 0])) false := by kernel_rfl
theorem q111_1021414141 : q111 [1, 0, 2, 1, 4, 1, 4, 1, 4, 1] = .cond (.tmp 36) (q111 [1, 0, 2, 1, 4, 1, 4, 1, 4, 1, 3]) (q111 [1, 0, 2, 1, 4, 1, 4, 1, 4, 1, 4]) := by kernel_rfl
theorem q111_10214141414 : q111 [1, 0, 2, 1, 4, 1, 4, 1, 4, 1, 4] = .seq (q111 [1, 0, 2, 1, 4, 1, 4, 1, 4, 1, 4, 0]) (q111 [1, 0, 2, 1, 4, 1, 4, 1, 4, 1, 4, 1]) := by kernel_rfl
theorem q111_102141414140 : q111 [1, 0, 2, 1, 4, 1, 4, 1, 4, 1, 4, 0] = .region 9 (opsA (q111 [1, 0, 2, 1, 4, 1, 4, 1, 4, 1, 4, 0])) false := by kernel_rfl
theorem q111_102141414141 : q111 [1, 0, 2, 1, 4, 1, 4, 1, 4, 1, 4, 1] = .cond (.tmp 45) (q111 [1, 0, 2, 1, 4, 1, 4, 1, 4, 1, 4, 1, 3]) (q111 [1, 0, 2, 1, 4, 1, 4, 1, 4, 1, 4, 1, 4]) := by kernel_rfl
theorem q111_1021414141414 : q111 [1, 0, 2, 1, 4, 1, 4, 1, 4, 1, 4, 1, 4] = .skip := by kernel_rfl
theorem q111_11 : q111 [1, 1] = .seq (q111 [1, 1, 0]) (q111 [1, 1, 1]) := by kernel_rfl
theorem q111_110 : q111 [1, 1, 0] = .region 11 (opsA (q111 [1, 1, 0])) false := by kernel_rfl
theorem q111_111 : q111 [1, 1, 1] = .ret := by kernel_rfl
noncomputable def q151 (p : List Nat) : Code := piece p (bodyOf Tryz.f151)
theorem q151_ : q151 [] = .seq (q151 [0]) (q151 [1]) := by kernel_rfl
theorem q151_0 : q151 [0] = .region 0 (opsA (q151 [0])) false := by kernel_rfl
theorem q151_1 : q151 [1] = .seq (q151 [1, 0]) (q151 [1, 1]) := by kernel_rfl
theorem q151_10 : q151 [1, 0] = .seq (q151 [1, 0, 0]) (q151 [1, 0, 1]) := by kernel_rfl
theorem q151_100 : q151 [1, 0, 0] = .region 1 (opsA (q151 [1, 0, 0])) false := by kernel_rfl
theorem q151_101 : q151 [1, 0, 1] = .cond (.tmp 5) (q151 [1, 0, 1, 3]) (q151 [1, 0, 1, 4]) := by kernel_rfl
theorem q151_1014 : q151 [1, 0, 1, 4] = .skip := by kernel_rfl
theorem q151_11 : q151 [1, 1] = .seq (q151 [1, 1, 0]) (q151 [1, 1, 1]) := by kernel_rfl
theorem q151_110 : q151 [1, 1, 0] = .region 3 (opsA (q151 [1, 1, 0])) false := by kernel_rfl
theorem q151_111 : q151 [1, 1, 1] = .ret := by kernel_rfl
noncomputable def q251 (p : List Nat) : Code := piece p (bodyOf Tryz.f251)
theorem q251_ : q251 [] = .seq (q251 [0]) (q251 [1]) := by kernel_rfl
theorem q251_0 : q251 [0] = .region 0 (opsA (q251 [0])) false := by kernel_rfl
theorem q251_1 : q251 [1] = .seq (q251 [1, 0]) (q251 [1, 1]) := by kernel_rfl
theorem q251_10 : q251 [1, 0] = .seq (q251 [1, 0, 0]) (q251 [1, 0, 1]) := by kernel_rfl
theorem q251_100 : q251 [1, 0, 0] = .region 1 (opsA (q251 [1, 0, 0])) false := by kernel_rfl
theorem q251_101 : q251 [1, 0, 1] = .cond (.tmp 5) (q251 [1, 0, 1, 3]) (q251 [1, 0, 1, 4]) := by kernel_rfl
theorem q251_1014 : q251 [1, 0, 1, 4] = .skip := by kernel_rfl
theorem q251_11 : q251 [1, 1] = .seq (q251 [1, 1, 0]) (q251 [1, 1, 1]) := by kernel_rfl
theorem q251_110 : q251 [1, 1, 0] = .region 3 (opsA (q251 [1, 1, 0])) false := by kernel_rfl
theorem q251_111 : q251 [1, 1, 1] = .ret := by kernel_rfl
theorem rs111 : Tryz.f111.results.toList = [.tmp 2] := rfl
theorem rs151 : Tryz.f151.results.toList = [.tmp 2] := rfl
theorem rs251 : Tryz.f251.results.toList = [.tmp 2] := rfl
theorem rs109 : Tryz.f109.results.toList = [.tmp 4, .tmp 5] := rfl
attribute [go_sem] rs111 rs151 rs251 rs109
section
variable (Hh : Hearts K Tryz.prog)
include Hh
theorem gMayOk {gr sz ino jr : Nat} (F : Fine gr sz ino jr) (h : Go.Ev.H) : CallOk K Tryz.prog 111 [.g (geoL gr sz ino jr)] h (.w (.c (.bool true))) h := by
  obtain ⟨g1, g2, g3, g4, g5, g6, g7, g8, g9, g10, g11⟩ := F
  have gm : (gr : Int) * (sz : Int) = ((gr * sz : Nat) : Int) := rfl
  obtain ⟨v, h', c, rfl, hk⟩ : ∃ v h', CallOk K Tryz.prog 111 [.g (geoL gr sz ino jr)] h v h' ∧ v = .w (.c (.bool true)) ∧ ∀ m, m < h.next → h'.get m = h.get m := by
    refine CallOk.goesE fits Hh (by kernel_rfl) (by kernel_rfl) (by kernel_rfl) (show Tryz.f111.body = some (q111 []) by kernel_rfl) rfl ?_
    show Goes K Tryz.prog 64 none _ _ _ _ _
    show Goes K Tryz.prog 64 none (q111 []) _ _ _ _
    rw [q111_]
    refine Goes.seq ?_
    show Goes K Tryz.prog 64 none (q111 [0]) _ _ _ _
    rw [q111_0]
    refine Goes.ops2 fits Hh E0_sound (by
      simp (config := { maxSteps := 1000000 }) (decide := true) (discharger := first | omega | (simp only [H.next_new, H.next_put] <;> omega) | decide) only [go_sem, q111, Tryz.f111, readRow, loadIn, reduceIte, Nat.reduceAdd, Nat.reduceMul, Nat.reduceSub, Nat.reduceDiv, Nat.reduceMod, Nat.reduceLT, Nat.reduceBEq, Int.reduceToNat, geoL, gm, read1]
      rfl) ?_
    show Goes K Tryz.prog 64 none (q111 [1]) _ _ _ _
    rw [q111_1]
    refine Goes.seq ?_
    show Goes K Tryz.prog 64 none (q111 [1, 0]) _ _ _ _
    rw [q111_10]
    refine Goes.block ?_
    show Goes K Tryz.prog 64 none (q111 [1, 0, 2]) _ _ _ _
    rw [q111_102]
    refine Goes.seq ?_
    show Goes K Tryz.prog 64 none (q111 [1, 0, 2, 0]) _ _ _ _
    rw [q111_1020]
    refine Goes.ops2 fits Hh E0_sound (by
      simp (config := { maxSteps := 1000000 }) (decide := true) (discharger := first | omega | (simp only [H.next_new, H.next_put] <;> omega) | decide) only [go_sem, q111, Tryz.f111, readRow, loadIn, reduceIte, Nat.reduceAdd, Nat.reduceMul, Nat.reduceSub, Nat.reduceDiv, Nat.reduceMod, Nat.reduceLT, Nat.reduceBEq, Int.reduceToNat, geoL, gm, read1]
      rfl) ?_
    show Goes K Tryz.prog 64 none (q111 [1, 0, 2, 1]) _ _ _ _
    rw [q111_1021]
    refine Goes.condE (by simp (config := { maxSteps := 1000000 }) (decide := true) (discharger := first | omega | (simp only [H.next_new, H.next_put] <;> omega) | decide) only [go_sem, readRow, loadIn, reduceIte, Nat.reduceAdd, Nat.reduceMul, Nat.reduceSub, Nat.reduceDiv, Nat.reduceMod, Nat.reduceLT, Nat.reduceBEq, Int.reduceToNat, geoL, gm, read1] <;> rfl) (by first | rfl | assumption | exact decide_eq_false (by omega) | (simp; omega)) ?_
    show Goes K Tryz.prog 64 none (q111 [1, 0, 2, 1, 4]) _ _ _ _
    rw [q111_10214]
    refine Goes.seq ?_
    show Goes K Tryz.prog 64 none (q111 [1, 0, 2, 1, 4, 0]) _ _ _ _
    rw [q111_102140]
    refine Goes.ops2 fits Hh E0_sound (by
      simp (config := { maxSteps := 1000000 }) (decide := true) (discharger := first | omega | (simp only [H.next_new, H.next_put] <;> omega) | decide) only [go_sem, q111, Tryz.f111, readRow, loadIn, reduceIte, Nat.reduceAdd, Nat.reduceMul, Nat.reduceSub, Nat.reduceDiv, Nat.reduceMod, Nat.reduceLT, Nat.reduceBEq, Int.reduceToNat, geoL, gm, read1]
      rfl) ?_
    show Goes K Tryz.prog 64 none (q111 [1, 0, 2, 1, 4, 1]) _ _ _ _
    rw [q111_102141]
    refine Goes.condE (by simp (config := { maxSteps := 1000000 }) (decide := true) (discharger := first | omega | (simp only [H.next_new, H.next_put] <;> omega) | decide) only [go_sem, readRow, loadIn, reduceIte, Nat.reduceAdd, Nat.reduceMul, Nat.reduceSub, Nat.reduceDiv, Nat.reduceMod, Nat.reduceLT, Nat.reduceBEq, Int.reduceToNat, geoL, gm, read1] <;> rfl) (by first | rfl | assumption | exact decide_eq_false (by omega) | (simp; omega)) ?_
    show Goes K Tryz.prog 64 none (q111 [1, 0, 2, 1, 4, 1, 4]) _ _ _ _
    rw [q111_1021414]
    refine Goes.seq ?_
    show Goes K Tryz.prog 64 none (q111 [1, 0, 2, 1, 4, 1, 4, 0]) _ _ _ _
    rw [q111_10214140]
    refine Goes.ops2 fits Hh E0_sound (by
      simp only [q111, Tryz.f111, piece, part0, part1, part2, part2l, part3, part4, part5, part6, bodyOf, opsA]
      iterate 15 (refine evOps_step (by simp (config := { maxSteps := 1000000 }) (decide := true) (discharger := first | omega | (simp only [H.next_new, H.next_put] <;> omega) | decide) only [go_sem, readRow, loadIn, reduceIte, Nat.reduceAdd, Nat.reduceMul, Nat.reduceSub, Nat.reduceDiv, Nat.reduceMod, Nat.reduceLT, Nat.reduceBEq, Int.reduceToNat, geoL, gm, read1] <;> rfl) ?_)
      exact evOps_done) ?_
    show Goes K Tryz.prog 64 none (q111 [1, 0, 2, 1, 4, 1, 4, 1]) _ _ _ _
    rw [q111_10214141]
    refine Goes.condE (by simp (config := { maxSteps := 1000000 }) (decide := true) (discharger := first | omega | (simp only [H.next_new, H.next_put] <;> omega) | decide) only [go_sem, readRow, loadIn, reduceIte, Nat.reduceAdd, Nat.reduceMul, Nat.reduceSub, Nat.reduceDiv, Nat.reduceMod, Nat.reduceLT, Nat.reduceBEq, Int.reduceToNat, geoL, gm, read1] <;> rfl) (by first | rfl | assumption | exact decide_eq_false (by omega) | (simp; omega)) ?_
    show Goes K Tryz.prog 64 none (q111 [1, 0, 2, 1, 4, 1, 4, 1, 4]) _ _ _ _
    rw [q111_102141414]
    refine Goes.seq ?_
    show Goes K Tryz.prog 64 none (q111 [1, 0, 2, 1, 4, 1, 4, 1, 4, 0]) _ _ _ _
    rw [q111_1021414140]
    refine Goes.ops2 fits Hh E0_sound (by
      simp (config := { maxSteps := 1000000 }) (decide := true) (discharger := first | omega | (simp only [H.next_new, H.next_put] <;> omega) | decide) only [go_sem, q111, Tryz.f111, readRow, loadIn, reduceIte, Nat.reduceAdd, Nat.reduceMul, Nat.reduceSub, Nat.reduceDiv, Nat.reduceMod, Nat.reduceLT, Nat.reduceBEq, Int.reduceToNat, geoL, gm, read1]
      rfl) ?_
    show Goes K Tryz.prog 64 none (q111 [1, 0, 2, 1, 4, 1, 4, 1, 4, 1]) _ _ _ _
    rw [q111_1021414141]
    refine Goes.condE (by simp (config := { maxSteps := 1000000 }) (decide := true) (discharger := first | omega | (simp only [H.next_new, H.next_put] <;> omega) | decide) only [go_sem, readRow, loadIn, reduceIte, Nat.reduceAdd, Nat.reduceMul, Nat.reduceSub, Nat.reduceDiv, Nat.reduceMod, Nat.reduceLT, Nat.reduceBEq, Int.reduceToNat, geoL, gm, read1] <;> rfl) (by first | rfl | assumption | exact decide_eq_false (by omega) | (simp; omega)) ?_
    show Goes K Tryz.prog 64 none (q111 [1, 0, 2, 1, 4, 1, 4, 1, 4, 1, 4]) _ _ _ _
    rw [q111_10214141414]
    refine Goes.seq ?_
    show Goes K Tryz.prog 64 none (q111 [1, 0, 2, 1, 4, 1, 4, 1, 4, 1, 4, 0]) _ _ _ _
    rw [q111_102141414140]
    refine Goes.ops2 fits Hh E0_sound (by
      simp (config := { maxSteps := 1000000 }) (decide := true) (discharger := first | omega | (simp only [H.next_new, H.next_put] <;> omega) | decide) only [go_sem, q111, Tryz.f111, readRow, loadIn, reduceIte, Nat.reduceAdd, Nat.reduceMul, Nat.reduceSub, Nat.reduceDiv, Nat.reduceMod, Nat.reduceLT, Nat.reduceBEq, Int.reduceToNat, geoL, gm, read1]
      rfl) ?_
    show Goes K Tryz.prog 64 none (q111 [1, 0, 2, 1, 4, 1, 4, 1, 4, 1, 4, 1]) _ _ _ _
    rw [q111_102141414141]
    refine Goes.condE (by simp (config := { maxSteps := 1000000 }) (decide := true) (discharger := first | omega | (simp only [H.next_new, H.next_put] <;> omega) | decide) only [go_sem, readRow, loadIn, reduceIte, Nat.reduceAdd, Nat.reduceMul, Nat.reduceSub, Nat.reduceDiv, Nat.reduceMod, Nat.reduceLT, Nat.reduceBEq, Int.reduceToNat, geoL, gm, read1] <;> rfl) (by first | rfl | assumption | exact decide_eq_false (by omega) | (simp; omega)) ?_
    show Goes K Tryz.prog 64 none (q111 [1, 0, 2, 1, 4, 1, 4, 1, 4, 1, 4, 1, 4]) _ _ _ _
    rw [q111_1021414141414]
    refine Goes.skip ?_
    show Goes K Tryz.prog 64 none (q111 [1, 1]) _ _ _ _
    rw [q111_11]
    refine Goes.seq ?_
    show Goes K Tryz.prog 64 none (q111 [1, 1, 0]) _ _ _ _
    rw [q111_110]
    refine Goes.ops2 fits Hh E0_sound (by
      simp (config := { maxSteps := 1000000 }) (decide := true) (discharger := first | omega | (simp only [H.next_new, H.next_put] <;> omega) | decide) only [go_sem, q111, Tryz.f111, readRow, loadIn, reduceIte, Nat.reduceAdd, Nat.reduceMul, Nat.reduceSub, Nat.reduceDiv, Nat.reduceMod, Nat.reduceLT, Nat.reduceBEq, Int.reduceToNat, geoL, gm, read1]
      rfl) ?_
    show Goes K Tryz.prog 64 none (q111 [1, 1, 1]) _ _ _ _
    rw [q111_111]
    refine Goes.ret ?_
    refine ⟨_, _, (by simp (config := { maxSteps := 1000000 }) (decide := true) (discharger := first | omega | (simp only [H.next_new, H.next_put] <;> omega) | decide) only [go_sem, readRow, loadIn, reduceIte, Nat.reduceAdd, Nat.reduceMul, Nat.reduceSub, Nat.reduceDiv, Nat.reduceMod, Nat.reduceLT, Nat.reduceBEq, Int.reduceToNat] <;> rfl), rfl, fun m hm => ?_⟩
    simp (config := { maxSteps := 1000000 }) (decide := true) (discharger := first | omega | (simp only [H.next_new, H.next_put] <;> omega) | decide) only [go_sem, readRow, loadIn, reduceIte, Nat.reduceAdd, Nat.reduceMul, Nat.reduceSub, Nat.reduceDiv, Nat.reduceMod, Nat.reduceLT, Nat.reduceBEq, Int.reduceToNat]
  exact CallOk.quiet c rfl hk
theorem gBlocksOk {gr sz ino jr : Nat} (F : Fine gr sz ino jr) (h : Go.Ev.H) : CallOk K Tryz.prog 151 [.g (geoL gr sz ino jr)] h (.w (.c (.int .i64 ((2 + jr + gr * sz : Nat) : Int)))) h := by
  have F' := F
  obtain ⟨g1, g2, g3, g4, g5, g6, g7, g8, g9, g10, g11⟩ := F'
  have gm : (gr : Int) * (sz : Int) = ((gr * sz : Nat) : Int) := rfl
  have c1 := gMayOk Hh F (h.new (.row 4 [geoL gr sz ino jr] false))
  obtain ⟨v, h', c, rfl, hk⟩ : ∃ v h', CallOk K Tryz.prog 151 [.g (geoL gr sz ino jr)] h v h' ∧ v = .w (.c (.int .i64 ((2 + jr + gr * sz : Nat) : Int))) ∧ ∀ m, m < h.next → h'.get m = h.get m := by
    refine CallOk.goesE fits Hh (by kernel_rfl) (by kernel_rfl) (by kernel_rfl) (show Tryz.f151.body = some (q151 []) by kernel_rfl) rfl ?_
    show Goes K Tryz.prog 15 none _ _ _ _ _
    show Goes K Tryz.prog 15 none (q151 []) _ _ _ _
    rw [q151_]
    refine Goes.seq ?_
    show Goes K Tryz.prog 15 none (q151 [0]) _ _ _ _
    rw [q151_0]
    refine Goes.ops2 fits Hh E0_sound (by
      simp (config := { maxSteps := 1000000 }) (decide := true) (discharger := first | omega | (simp only [H.next_new, H.next_put] <;> omega) | decide) only [go_sem, q151, Tryz.f151, readRow, loadIn, reduceIte, Nat.reduceAdd, Nat.reduceMul, Nat.reduceSub, Nat.reduceDiv, Nat.reduceMod, Nat.reduceLT, Nat.reduceBEq, Int.reduceToNat, geoL, gm, read1]
      rfl) ?_
    show Goes K Tryz.prog 15 none (q151 [1]) _ _ _ _
    rw [q151_1]
    refine Goes.seq ?_
    show Goes K Tryz.prog 15 none (q151 [1, 0]) _ _ _ _
    rw [q151_10]
    refine Goes.seq ?_
    show Goes K Tryz.prog 15 none (q151 [1, 0, 0]) _ _ _ _
    rw [q151_100]
    refine Goes.ops2 fits Hh (E1_sound E0_sound c1) (by
      simp (config := { maxSteps := 1000000 }) (decide := true) (discharger := first | omega | (simp only [H.next_new, H.next_put] <;> omega) | decide) only [go_sem, q151, Tryz.f151, readRow, loadIn, reduceIte, Nat.reduceAdd, Nat.reduceMul, Nat.reduceSub, Nat.reduceDiv, Nat.reduceMod, Nat.reduceLT, Nat.reduceBEq, Int.reduceToNat, E1_call, geoL, gm, read1]
      rfl) ?_
    show Goes K Tryz.prog 15 none (q151 [1, 0, 1]) _ _ _ _
    rw [q151_101]
    refine Goes.condE (by simp (config := { maxSteps := 1000000 }) (decide := true) (discharger := first | omega | (simp only [H.next_new, H.next_put] <;> omega) | decide) only [go_sem, readRow, loadIn, reduceIte, Nat.reduceAdd, Nat.reduceMul, Nat.reduceSub, Nat.reduceDiv, Nat.reduceMod, Nat.reduceLT, Nat.reduceBEq, Int.reduceToNat, geoL, gm, read1] <;> rfl) (by first | rfl | assumption | exact decide_eq_false (by omega) | (simp; omega)) ?_
    show Goes K Tryz.prog 15 none (q151 [1, 0, 1, 4]) _ _ _ _
    rw [q151_1014]
    refine Goes.skip ?_
    show Goes K Tryz.prog 15 none (q151 [1, 1]) _ _ _ _
    rw [q151_11]
    refine Goes.seq ?_
    show Goes K Tryz.prog 15 none (q151 [1, 1, 0]) _ _ _ _
    rw [q151_110]
    refine Goes.ops2 fits Hh E0_sound (by
      simp (config := { maxSteps := 1000000 }) (decide := true) (discharger := first | omega | (simp only [H.next_new, H.next_put] <;> omega) | decide) only [go_sem, q151, Tryz.f151, readRow, loadIn, reduceIte, Nat.reduceAdd, Nat.reduceMul, Nat.reduceSub, Nat.reduceDiv, Nat.reduceMod, Nat.reduceLT, Nat.reduceBEq, Int.reduceToNat, geoL, gm, read1]
      rfl) ?_
    show Goes K Tryz.prog 15 none (q151 [1, 1, 1]) _ _ _ _
    rw [q151_111]
    refine Goes.ret ?_
    refine ⟨_, _, (by simp (config := { maxSteps := 1000000 }) (decide := true) (discharger := first | omega | (simp only [H.next_new, H.next_put] <;> omega) | decide) only [go_sem, readRow, loadIn, reduceIte, Nat.reduceAdd, Nat.reduceMul, Nat.reduceSub, Nat.reduceDiv, Nat.reduceMod, Nat.reduceLT, Nat.reduceBEq, Int.reduceToNat] <;> rfl), rfl, fun m hm => ?_⟩
    simp (config := { maxSteps := 1000000 }) (decide := true) (discharger := first | omega | (simp only [H.next_new, H.next_put] <;> omega) | decide) only [go_sem, readRow, loadIn, reduceIte, Nat.reduceAdd, Nat.reduceMul, Nat.reduceSub, Nat.reduceDiv, Nat.reduceMod, Nat.reduceLT, Nat.reduceBEq, Int.reduceToNat]
  exact CallOk.quiet c rfl hk
theorem gDataOk {gr sz ino jr : Nat} (F : Fine gr sz ino jr) (h : Go.Ev.H) : CallOk K Tryz.prog 251 [.g (geoL gr sz ino jr)] h (.w (.c (.int .i64 ((sz : Int) - 2 - ((ino / 4 : Nat) : Int))))) h := by
  have F' := F
  obtain ⟨g1, g2, g3, g4, g5, g6, g7, g8, g9, g10, g11⟩ := F'
  have gm : (gr : Int) * (sz : Int) = ((gr * sz : Nat) : Int) := rfl
  have c1 := gMayOk Hh F (h.new (.row 4 [geoL gr sz ino jr] false))
  obtain ⟨v, h', c, rfl, hk⟩ : ∃ v h', CallOk K Tryz.prog 251 [.g (geoL gr sz ino jr)] h v h' ∧ v = .w (.c (.int .i64 ((sz : Int) - 2 - ((ino / 4 : Nat) : Int)))) ∧ ∀ m, m < h.next → h'.get m = h.get m := by
    refine CallOk.goesE fits Hh (by kernel_rfl) (by kernel_rfl) (by kernel_rfl) (show Tryz.f251.body = some (q251 []) by kernel_rfl) rfl ?_
    show Goes K Tryz.prog 13 none _ _ _ _ _
    show Goes K Tryz.prog 13 none (q251 []) _ _ _ _
    rw [q251_]
    refine Goes.seq ?_
    show Goes K Tryz.prog 13 none (q251 [0]) _ _ _ _
    rw [q251_0]
    refine Goes.ops2 fits Hh E0_sound (by
      simp (config := { maxSteps := 1000000 }) (decide := true) (discharger := first | omega | (simp only [H.next_new, H.next_put] <;> omega) | decide) only [go_sem, q251, Tryz.f251, readRow, loadIn, reduceIte, Nat.reduceAdd, Nat.reduceMul, Nat.reduceSub, Nat.reduceDiv, Nat.reduceMod, Nat.reduceLT, Nat.reduceBEq, Int.reduceToNat, geoL, gm, read1]
      rfl) ?_
    show Goes K Tryz.prog 13 none (q251 [1]) _ _ _ _
    rw [q251_1]
    refine Goes.seq ?_
    show Goes K Tryz.prog 13 none (q251 [1, 0]) _ _ _ _
    rw [q251_10]
    refine Goes.seq ?_
    show Goes K Tryz.prog 13 none (q251 [1, 0, 0]) _ _ _ _
    rw [q251_100]
    refine Goes.ops2 fits Hh (E1_sound E0_sound c1) (by
      simp (config := { maxSteps := 1000000 }) (decide := true) (discharger := first | omega | (simp only [H.next_new, H.next_put] <;> omega) | decide) only [go_sem, q251, Tryz.f251, readRow, loadIn, reduceIte, Nat.reduceAdd, Nat.reduceMul, Nat.reduceSub, Nat.reduceDiv, Nat.reduceMod, Nat.reduceLT, Nat.reduceBEq, Int.reduceToNat, E1_call, geoL, gm, read1]
      rfl) ?_
    show Goes K Tryz.prog 13 none (q251 [1, 0, 1]) _ _ _ _
    rw [q251_101]
    refine Goes.condE (by simp (config := { maxSteps := 1000000 }) (decide := true) (discharger := first | omega | (simp only [H.next_new, H.next_put] <;> omega) | decide) only [go_sem, readRow, loadIn, reduceIte, Nat.reduceAdd, Nat.reduceMul, Nat.reduceSub, Nat.reduceDiv, Nat.reduceMod, Nat.reduceLT, Nat.reduceBEq, Int.reduceToNat, geoL, gm, read1] <;> rfl) (by first | rfl | assumption | exact decide_eq_false (by omega) | (simp; omega)) ?_
    show Goes K Tryz.prog 13 none (q251 [1, 0, 1, 4]) _ _ _ _
    rw [q251_1014]
    refine Goes.skip ?_
    show Goes K Tryz.prog 13 none (q251 [1, 1]) _ _ _ _
    rw [q251_11]
    refine Goes.seq ?_
    show Goes K Tryz.prog 13 none (q251 [1, 1, 0]) _ _ _ _
    rw [q251_110]
    refine Goes.ops2 fits Hh E0_sound (by
      simp (config := { maxSteps := 1000000 }) (decide := true) (discharger := first | omega | (simp only [H.next_new, H.next_put] <;> omega) | decide) only [go_sem, q251, Tryz.f251, readRow, loadIn, reduceIte, Nat.reduceAdd, Nat.reduceMul, Nat.reduceSub, Nat.reduceDiv, Nat.reduceMod, Nat.reduceLT, Nat.reduceBEq, Int.reduceToNat, geoL, gm, read1]
      rfl) ?_
    show Goes K Tryz.prog 13 none (q251 [1, 1, 1]) _ _ _ _
    rw [q251_111]
    refine Goes.ret ?_
    refine ⟨_, _, (by simp (config := { maxSteps := 1000000 }) (decide := true) (discharger := first | omega | (simp only [H.next_new, H.next_put] <;> omega) | decide) only [go_sem, readRow, loadIn, reduceIte, Nat.reduceAdd, Nat.reduceMul, Nat.reduceSub, Nat.reduceDiv, Nat.reduceMod, Nat.reduceLT, Nat.reduceBEq, Int.reduceToNat] <;> rfl), rfl, fun m hm => ?_⟩
    simp (config := { maxSteps := 1000000 }) (decide := true) (discharger := first | omega | (simp only [H.next_new, H.next_put] <;> omega) | decide) only [go_sem, readRow, loadIn, reduceIte, Nat.reduceAdd, Nat.reduceMul, Nat.reduceSub, Nat.reduceDiv, Nat.reduceMod, Nat.reduceLT, Nat.reduceBEq, Int.reduceToNat]
  exact CallOk.quiet c rfl hk
theorem gStartOk {gr sz ino jr : Nat} (F : Fine gr sz ino jr) (h : Go.Ev.H) (k : Nat) (hk : k < gr) : CallOk K Tryz.prog 109 [.g (geoL gr sz ino jr), .c (.int .i64 k)] h (.tup [.c (.int .i64 ((2 + jr + k * sz : Nat) : Int)), .c (.bool true)]) h := by
  have F' := F
  obtain ⟨g1, g2, g3, g4, g5, g6, g7, g8, g9, g10, g11⟩ := F'
  have gm : (gr : Int) * (sz : Int) = ((gr * sz : Nat) : Int) := rfl
  have c1 := gMayOk Hh F (h.new (.row 4 [geoL gr sz ino jr] false))
  have gi : (k : Int) * (sz : Int) = ((k * sz : Nat) : Int) := rfl
  have b1 : k * sz ≤ gr * sz := Nat.mul_le_mul (by omega) (by omega)
  obtain ⟨v, h', c, rfl, hk⟩ : ∃ v h', CallOk K Tryz.prog 109 [.g (geoL gr sz ino jr), .c (.int .i64 k)] h v h' ∧ v = .tup [.c (.int .i64 ((2 + jr + k * sz : Nat) : Int)), .c (.bool true)] ∧ ∀ m, m < h.next → h'.get m = h.get m := by
    refine CallOk.goesE fits Hh (by kernel_rfl) (by kernel_rfl) (by kernel_rfl) (show Tryz.f109.body = some (q109 []) by kernel_rfl) rfl ?_
    show Goes K Tryz.prog 27 none _ _ _ _ _
    show Goes K Tryz.prog 27 none (q109 []) _ _ _ _
    rw [q109_]
    refine Goes.seq ?_
    show Goes K Tryz.prog 27 none (q109 [0]) _ _ _ _
    rw [q109_0]
    refine Goes.ops2 fits Hh E0_sound (by
      simp (config := { maxSteps := 1000000 }) (decide := true) (discharger := first | omega | (simp only [H.next_new, H.next_put] <;> omega) | decide) only [go_sem, q109, Tryz.f109, readRow, loadIn, reduceIte, Nat.reduceAdd, Nat.reduceMul, Nat.reduceSub, Nat.reduceDiv, Nat.reduceMod, Nat.reduceLT, Nat.reduceBEq, Int.reduceToNat, geoL, gm, gi, read1]
      rfl) ?_
    show Goes K Tryz.prog 27 none (q109 [1]) _ _ _ _
    rw [q109_1]
    refine Goes.seq ?_
    show Goes K Tryz.prog 27 none (q109 [1, 0]) _ _ _ _
    rw [q109_10]
    refine Goes.seq ?_
    show Goes K Tryz.prog 27 none (q109 [1, 0, 0]) _ _ _ _
    rw [q109_100]
    refine Goes.ops2 fits Hh (E1_sound E0_sound c1) (by
      simp only [q109, Tryz.f109, piece, part0, part1, part2, part2l, part3, part4, part5, part6, bodyOf, opsA]
      iterate 13 (refine evOps_step (by simp (config := { maxSteps := 1000000 }) (decide := true) (discharger := first | omega | (simp only [H.next_new, H.next_put] <;> omega) | decide) only [go_sem, readRow, loadIn, reduceIte, Nat.reduceAdd, Nat.reduceMul, Nat.reduceSub, Nat.reduceDiv, Nat.reduceMod, Nat.reduceLT, Nat.reduceBEq, Int.reduceToNat, E1_call, geoL, gm, gi, read1] <;> rfl) ?_)
      exact evOps_done) ?_
    show Goes K Tryz.prog 27 none (q109 [1, 0, 1]) _ _ _ _
    rw [q109_101]
    refine Goes.condE (by simp (config := { maxSteps := 1000000 }) (decide := true) (discharger := first | omega | (simp only [H.next_new, H.next_put] <;> omega) | decide) only [go_sem, readRow, loadIn, reduceIte, Nat.reduceAdd, Nat.reduceMul, Nat.reduceSub, Nat.reduceDiv, Nat.reduceMod, Nat.reduceLT, Nat.reduceBEq, Int.reduceToNat, geoL, gm, gi, read1] <;> rfl) (by first | rfl | assumption | exact decide_eq_false (by omega) | (simp; omega)) ?_
    show Goes K Tryz.prog 27 none (q109 [1, 0, 1, 4]) _ _ _ _
    rw [q109_1014]
    refine Goes.skip ?_
    show Goes K Tryz.prog 27 none (q109 [1, 1]) _ _ _ _
    rw [q109_11]
    refine Goes.seq ?_
    show Goes K Tryz.prog 27 none (q109 [1, 1, 0]) _ _ _ _
    rw [q109_110]
    refine Goes.ops2 fits Hh E0_sound (by
      simp (config := { maxSteps := 1000000 }) (decide := true) (discharger := first | omega | (simp only [H.next_new, H.next_put] <;> omega) | decide) only [go_sem, q109, Tryz.f109, readRow, loadIn, reduceIte, Nat.reduceAdd, Nat.reduceMul, Nat.reduceSub, Nat.reduceDiv, Nat.reduceMod, Nat.reduceLT, Nat.reduceBEq, Int.reduceToNat, geoL, gm, gi, read1]
      rfl) ?_
    show Goes K Tryz.prog 27 none (q109 [1, 1, 1]) _ _ _ _
    rw [q109_111]
    refine Goes.ret ?_
    refine ⟨_, _, (by simp (config := { maxSteps := 1000000 }) (decide := true) (discharger := first | omega | (simp only [H.next_new, H.next_put] <;> omega) | decide) only [go_sem, readRow, loadIn, reduceIte, Nat.reduceAdd, Nat.reduceMul, Nat.reduceSub, Nat.reduceDiv, Nat.reduceMod, Nat.reduceLT, Nat.reduceBEq, Int.reduceToNat] <;> rfl), rfl, fun m hm => ?_⟩
    simp (config := { maxSteps := 1000000 }) (decide := true) (discharger := first | omega | (simp only [H.next_new, H.next_put] <;> omega) | decide) only [go_sem, readRow, loadIn, reduceIte, Nat.reduceAdd, Nat.reduceMul, Nat.reduceSub, Nat.reduceDiv, Nat.reduceMod, Nat.reduceLT, Nat.reduceBEq, Int.reduceToNat]
  exact CallOk.quiet c rfl hk
end
end Go.Proofs.YtmnclecicnkmeaaGreatDoor
