/- quern/quernlaw30.awake: the walk. -/
import Derived.Test.YtmnclecicnkmeaaGreatDoorAw30r
set_option linter.unusedSimpArgs false
set_option linter.unusedVariables false
set_option linter.unusedSectionVars false
set_option maxRecDepth 100000
namespace Go.Proofs.YtmnclecicnkmeaaGreatDoor
open Go.Ev
theorem ty26 : K.types.get 26 = some ti26 := by kernel_rfl
theorem sz26 : ti26.size = 1 := by rfl
theorem ag26 : ti26.agg = false := by rfl
theorem de26 : ti26.desc = (.pointer 34) := by rfl
theorem ze26 : ti26.zero = (.c (.pnil)) := by rfl
theorem by26 : ti26.bytes = 8 := by rfl
theorem ty36 : K.types.get 36 = some ti36 := by kernel_rfl
theorem sz36 : ti36.size = 1 := by rfl
theorem ag36 : ti36.agg = false := by rfl
theorem de36 : ti36.desc = (.int .i64) := by rfl
theorem ze36 : ti36.zero = (.c (.int .i64 0)) := by rfl
theorem by36 : ti36.bytes = 8 := by rfl
theorem ke36 (k : IntKind) (n : Int) : keyT K 20 36 (.c (.int k n)) = true := by kernel_rfl
theorem ty76 : K.types.get 76 = some ti76 := by kernel_rfl
theorem sz76 : ti76.size = 1 := by rfl
theorem ag76 : ti76.agg = false := by rfl
theorem de76 : ti76.desc = (.pointer 264) := by rfl
theorem ze76 : ti76.zero = (.c (.pnil)) := by rfl
theorem by76 : ti76.bytes = 8 := by rfl
theorem ty77 : K.types.get 77 = some ti77 := by kernel_rfl
theorem sz77 : ti77.size = 1 := by rfl
theorem ag77 : ti77.agg = false := by rfl
theorem de77 : ti77.desc = (.pointer 233) := by rfl
theorem ze77 : ti77.zero = (.c (.pnil)) := by rfl
theorem by77 : ti77.bytes = 8 := by rfl
theorem ty78 : K.types.get 78 = some ti78 := by kernel_rfl
theorem sz78 : ti78.size = 1 := by rfl
theorem ag78 : ti78.agg = false := by rfl
theorem de78 : ti78.desc = (.pointer 236) := by rfl
theorem ze78 : ti78.zero = (.c (.pnil)) := by rfl
theorem by78 : ti78.bytes = 8 := by rfl
theorem ty80 : K.types.get 80 = some ti80 := by kernel_rfl
theorem sz80 : ti80.size = 4 := by rfl
theorem ag80 : ti80.agg = true := by rfl
theorem fo80_0 : fieldOf K 80 0 = some (0, ti26) := by kernel_rfl
theorem fo80_1 : fieldOf K 80 1 = some (1, ti76) := by kernel_rfl
theorem fo80_2 : fieldOf K 80 2 = some (2, ti77) := by kernel_rfl
theorem fo80_3 : fieldOf K 80 3 = some (3, ti78) := by kernel_rfl
theorem bu80 (ps : List (Nat × W)) : opBuild K 80 (some ps) = gW (fillStruct K 80 ps ti80.zero.cells) := by kernel_rfl
theorem ze80 : ti80.zero = (.g ([.pnil, .pnil, .pnil, .pnil])) := by rfl
theorem by80 : ti80.bytes = 32 := by rfl
theorem ty85 : K.types.get 85 = some ti85 := by kernel_rfl
theorem sz85 : ti85.size = 1 := by rfl
theorem ag85 : ti85.agg = false := by rfl
theorem de85 : ti85.desc = (.slice 147) := by rfl
theorem ze85 : ti85.zero = (.c (.snil)) := by rfl
theorem by85 : ti85.bytes = 24 := by rfl
theorem el85 : elemTI K 85 = some ti147 := by kernel_rfl
theorem ty87 : K.types.get 87 = some ti87 := by kernel_rfl
theorem sz87 : ti87.size = 6 := by rfl
theorem ag87 : ti87.agg = true := by rfl
theorem fo87_0 : fieldOf K 87 0 = some (0, ti84) := by kernel_rfl
theorem fo87_1 : fieldOf K 87 1 = some (4, ti5) := by kernel_rfl
theorem fo87_2 : fieldOf K 87 2 = some (5, ti85) := by kernel_rfl
theorem bu87 (ps : List (Nat × W)) : opBuild K 87 (some ps) = gW (fillStruct K 87 ps ti87.zero.cells) := by kernel_rfl
theorem ze87 : ti87.zero = (.g ([.int .i64 0, .int .i64 0, .int .i64 0, .int .i64 0, .int .u8 0, .snil])) := by rfl
theorem by87 : ti87.bytes = 64 := by rfl
theorem ty147 : K.types.get 147 = some ti147 := by kernel_rfl
theorem sz147 : ti147.size = 3 := by rfl
theorem ag147 : ti147.agg = true := by rfl
theorem fo147_0 : fieldOf K 147 0 = some (0, ti3) := by kernel_rfl
theorem fo147_1 : fieldOf K 147 1 = some (1, ti3) := by kernel_rfl
theorem fo147_2 : fieldOf K 147 2 = some (2, ti5) := by kernel_rfl
theorem bu147 (ps : List (Nat × W)) : opBuild K 147 (some ps) = gW (fillStruct K 147 ps ti147.zero.cells) := by kernel_rfl
theorem ze147 : ti147.zero = (.g ([.int .i64 0, .int .i64 0, .int .u8 0])) := by rfl
theorem by147 : ti147.bytes = 24 := by rfl
attribute [go_sem] ty26 sz26 ag26 de26 ze26 by26 ty36 sz36 ag36 de36 ze36 by36 ke36 ty76 sz76 ag76 de76 ze76 by76 ty77 sz77 ag77 de77 ze77 by77 ty78 sz78 ag78 de78 ze78 by78 ty80 sz80 ag80 fo80_0 fo80_1 fo80_2 fo80_3 bu80 ze80 by80 ty85 sz85 ag85 de85 ze85 by85 el85 ty87 sz87 ag87 fo87_0 fo87_1 fo87_2 bu87 ze87 by87 ty147 sz147 ag147 fo147_0 fo147_1 fo147_2 bu147 ze147 by147
noncomputable def q11 (p : List Nat) : Code := piece p (bodyOf Tryz.f11)
theorem q11_ : q11 [] = .seq (q11 [0]) (q11 [1]) := by kernel_rfl
theorem q11_0 : q11 [0] = .region 0 (opsA (q11 [0])) false := by kernel_rfl
theorem q11_1 : q11 [1] = .seq (q11 [1, 0]) (q11 [1, 1]) := by kernel_rfl
theorem q11_10 : q11 [1, 0] = .region 1 (opsA (q11 [1, 0])) false := by kernel_rfl
theorem q11_11 : q11 [1, 1] = .seq (q11 [1, 1, 0]) (q11 [1, 1, 1]) := by kernel_rfl
theorem q11_110 : q11 [1, 1, 0] = .seq (q11 [1, 1, 0, 0]) (q11 [1, 1, 0, 1]) := by kernel_rfl
theorem q11_1100 : q11 [1, 1, 0, 0] = .region 2 (opsA (q11 [1, 1, 0, 0])) false := by kernel_rfl
theorem q11_1101 : q11 [1, 1, 0, 1] = .cond (.tmp 23) (q11 [1, 1, 0, 1, 3]) (q11 [1, 1, 0, 1, 4]) := by kernel_rfl
theorem q11_11014 : q11 [1, 1, 0, 1, 4] = .skip := by kernel_rfl
theorem q11_111 : q11 [1, 1, 1] = .seq (q11 [1, 1, 1, 0]) (q11 [1, 1, 1, 1]) := by kernel_rfl
theorem q11_1110 : q11 [1, 1, 1, 0] = .region 4 (opsA (q11 [1, 1, 1, 0])) false := by kernel_rfl
theorem q11_1111 : q11 [1, 1, 1, 1] = .seq (q11 [1, 1, 1, 1, 0]) (q11 [1, 1, 1, 1, 1]) := by kernel_rfl
theorem q11_11110 : q11 [1, 1, 1, 1, 0] = .region 5 (opsA (q11 [1, 1, 1, 1, 0])) false := by kernel_rfl
theorem q11_11111 : q11 [1, 1, 1, 1, 1] = .seq (q11 [1, 1, 1, 1, 1, 0]) (q11 [1, 1, 1, 1, 1, 1]) := by kernel_rfl
theorem q11_111110 : q11 [1, 1, 1, 1, 1, 0] = .region 6 (opsA (q11 [1, 1, 1, 1, 1, 0])) false := by kernel_rfl
theorem q11_111111 : q11 [1, 1, 1, 1, 1, 1] = .seq (q11 [1, 1, 1, 1, 1, 1, 0]) (q11 [1, 1, 1, 1, 1, 1, 1]) := by kernel_rfl
theorem q11_1111110 : q11 [1, 1, 1, 1, 1, 1, 0] = .region 7 (opsA (q11 [1, 1, 1, 1, 1, 1, 0])) false := by kernel_rfl
theorem q11_1111111 : q11 [1, 1, 1, 1, 1, 1, 1] = .seq (q11 [1, 1, 1, 1, 1, 1, 1, 0]) (q11 [1, 1, 1, 1, 1, 1, 1, 1]) := by kernel_rfl
theorem q11_11111110 : q11 [1, 1, 1, 1, 1, 1, 1, 0] = .region 8 (opsA (q11 [1, 1, 1, 1, 1, 1, 1, 0])) false := by kernel_rfl
theorem q11_11111111 : q11 [1, 1, 1, 1, 1, 1, 1, 1] = .seq (q11 [1, 1, 1, 1, 1, 1, 1, 1, 0]) (q11 [1, 1, 1, 1, 1, 1, 1, 1, 1]) := by kernel_rfl
theorem q11_111111110 : q11 [1, 1, 1, 1, 1, 1, 1, 1, 0] = .region 9 (opsA (q11 [1, 1, 1, 1, 1, 1, 1, 1, 0])) false := by kernel_rfl
theorem rs11 : Tryz.f11.results.toList = [.tmp 0] := rfl
attribute [go_sem] rs11
section
variable (Hh : Hearts K Tryz.prog)
include Hh
set_option maxHeartbeats 4000000 in
theorem awOk : ∃ h', CallOk K Tryz.prog 11 [] awH0 (.w (.c (.bool true))) h' := by
  have hX := x30_ok Hh
  have c1 : CallOk K Tryz.prog _ _ _ _ awH1 := CallOk.took fits Hh hX awrun1
  have c2 : CallOk K Tryz.prog _ _ _ _ awH2 := CallOk.took fits Hh hX awrun2
  have c3 : CallOk K Tryz.prog _ _ _ _ awH3 := CallOk.took fits Hh hX awrun3
  have c4 : CallOk K Tryz.prog _ _ _ _ awH4 := CallOk.took fits Hh hX awrun4
  have c5 : CallOk K Tryz.prog _ _ _ _ awH5 := CallOk.took fits Hh hX awrun5
  have c6 : CallOk K Tryz.prog _ _ _ _ awH6 := CallOk.took fits Hh hX awrun6
  have c7 : CallOk K Tryz.prog _ _ _ _ awH7 := CallOk.took fits Hh hX awrun7
  obtain ⟨v, h', c, rfl⟩ : ∃ v h', CallOk K Tryz.prog 11 [] awH0 v h' ∧ v = .w (.c (.bool true)) := by
   refine CallOk.goesE fits Hh (by kernel_rfl) (by kernel_rfl) (by kernel_rfl) (show Tryz.f11.body = some (q11 []) by kernel_rfl) rfl ?_
   show Goes K Tryz.prog 99 none _ _ _ _ _
   show Goes K Tryz.prog 99 none (q11 []) _ _ _ _
   rw [q11_]
   refine Goes.seq ?_
   show Goes K Tryz.prog 99 none (q11 [0]) _ _ _ _
   rw [q11_0]
   refine Goes.ops2 fits Hh E0_sound (by
     simp (config := { maxSteps := 1000000 }) (decide := true) (discharger := first | omega | (simp only [H.next_new, H.next_put, awn1, awn2, awn3, awn4, awn5, awn6, awn7] <;> omega) | decide) only [go_sem, q11, Tryz.f11, readRow, loadIn, reduceIte, Nat.reduceAdd, Nat.reduceMul, Nat.reduceSub, Nat.reduceDiv, Nat.reduceMod, Nat.reduceLT, Nat.reduceBEq, Int.reduceToNat, E1_skipN, awn1, awn2, awg2, awn3, awg4, awn4, awg6, awn5, awg8, awn6, awg10, awn7, read1, List.replicate_succ, List.replicate_zero, opBuildSlice, fillEls, newSlice, opBox, opConvMore, convD, convStr, convSame, sameD, sameRow]
     rfl) ?_
   show Goes K Tryz.prog 99 none (q11 [1]) _ _ _ _
   rw [q11_1]
   refine Goes.seq ?_
   show Goes K Tryz.prog 99 none (q11 [1, 0]) _ _ _ _
   rw [q11_10]
   refine Goes.ops2 fits Hh (E1_sound E0_sound c1) (by
     simp (config := { maxSteps := 1000000 }) (decide := true) (discharger := first | omega | (simp only [H.next_new, H.next_put, awn1, awn2, awn3, awn4, awn5, awn6, awn7] <;> omega) | decide) only [go_sem, q11, Tryz.f11, readRow, loadIn, reduceIte, Nat.reduceAdd, Nat.reduceMul, Nat.reduceSub, Nat.reduceDiv, Nat.reduceMod, Nat.reduceLT, Nat.reduceBEq, Int.reduceToNat, E1_skipN, E1_call, awn1, awn2, awg2, awn3, awg4, awn4, awg6, awn5, awg8, awn6, awg10, awn7, read1, List.replicate_succ, List.replicate_zero, opBuildSlice, fillEls, newSlice, opBox, opConvMore, convD, convStr, convSame, sameD, sameRow]
     rfl) ?_
   show Goes K Tryz.prog 99 none (q11 [1, 1]) _ _ _ _
   rw [q11_11]
   refine Goes.seq ?_
   show Goes K Tryz.prog 99 none (q11 [1, 1, 0]) _ _ _ _
   rw [q11_110]
   refine Goes.seq ?_
   show Goes K Tryz.prog 99 none (q11 [1, 1, 0, 0]) _ _ _ _
   rw [q11_1100]
   refine Goes.ops2 fits Hh E0_sound (by
     simp (config := { maxSteps := 1000000 }) (decide := true) (discharger := first | omega | (simp only [H.next_new, H.next_put, awn1, awn2, awn3, awn4, awn5, awn6, awn7] <;> omega) | decide) only [go_sem, q11, Tryz.f11, readRow, loadIn, reduceIte, Nat.reduceAdd, Nat.reduceMul, Nat.reduceSub, Nat.reduceDiv, Nat.reduceMod, Nat.reduceLT, Nat.reduceBEq, Int.reduceToNat, E1_skipN, awn1, awn2, awg2, awn3, awg4, awn4, awg6, awn5, awg8, awn6, awg10, awn7, read1, List.replicate_succ, List.replicate_zero, opBuildSlice, fillEls, newSlice, opBox, opConvMore, convD, convStr, convSame, sameD, sameRow]
     rfl) ?_
   show Goes K Tryz.prog 99 none (q11 [1, 1, 0, 1]) _ _ _ _
   rw [q11_1101]
   refine Goes.condE (by simp (config := { maxSteps := 1000000 }) (decide := true) (discharger := first | omega | (simp only [H.next_new, H.next_put, awn1, awn2, awn3, awn4, awn5, awn6, awn7] <;> omega) | decide) only [go_sem, readRow, loadIn, reduceIte, Nat.reduceAdd, Nat.reduceMul, Nat.reduceSub, Nat.reduceDiv, Nat.reduceMod, Nat.reduceLT, Nat.reduceBEq, Int.reduceToNat, E1_skipN, awn1, awn2, awg2, awn3, awg4, awn4, awg6, awn5, awg8, awn6, awg10, awn7, read1, List.replicate_succ, List.replicate_zero, opBuildSlice, fillEls, newSlice, opBox, opConvMore, convD, convStr, convSame, sameD, sameRow] <;> rfl) (by first | rfl | assumption | exact decide_eq_false (by omega) | (simp; omega)) ?_
   show Goes K Tryz.prog 99 none (q11 [1, 1, 0, 1, 4]) _ _ _ _
   rw [q11_11014]
   refine Goes.skip ?_
   show Goes K Tryz.prog 99 none (q11 [1, 1, 1]) _ _ _ _
   rw [q11_111]
   refine Goes.seq ?_
   show Goes K Tryz.prog 99 none (q11 [1, 1, 1, 0]) _ _ _ _
   rw [q11_1110]
   refine Goes.ops2 fits Hh (E1_sound E0_sound c2) (by
     simp (config := { maxSteps := 1000000 }) (decide := true) (discharger := first | omega | (simp only [H.next_new, H.next_put, awn1, awn2, awn3, awn4, awn5, awn6, awn7] <;> omega) | decide) only [go_sem, q11, Tryz.f11, readRow, loadIn, reduceIte, Nat.reduceAdd, Nat.reduceMul, Nat.reduceSub, Nat.reduceDiv, Nat.reduceMod, Nat.reduceLT, Nat.reduceBEq, Int.reduceToNat, E1_skipN, E1_call, awn1, awn2, awg2, awn3, awg4, awn4, awg6, awn5, awg8, awn6, awg10, awn7, read1, List.replicate_succ, List.replicate_zero, opBuildSlice, fillEls, newSlice, opBox, opConvMore, convD, convStr, convSame, sameD, sameRow]
     rfl) ?_
   show Goes K Tryz.prog 99 none (q11 [1, 1, 1, 1]) _ _ _ _
   rw [q11_1111]
   refine Goes.seq ?_
   show Goes K Tryz.prog 99 none (q11 [1, 1, 1, 1, 0]) _ _ _ _
   rw [q11_11110]
   refine Goes.ops2 fits Hh (E1_sound E0_sound c3) (by
     simp (config := { maxSteps := 1000000 }) (decide := true) (discharger := first | omega | (simp only [H.next_new, H.next_put, awn1, awn2, awn3, awn4, awn5, awn6, awn7] <;> omega) | decide) only [go_sem, q11, Tryz.f11, readRow, loadIn, reduceIte, Nat.reduceAdd, Nat.reduceMul, Nat.reduceSub, Nat.reduceDiv, Nat.reduceMod, Nat.reduceLT, Nat.reduceBEq, Int.reduceToNat, E1_skipN, E1_call, awn1, awn2, awg2, awn3, awg4, awn4, awg6, awn5, awg8, awn6, awg10, awn7, read1, List.replicate_succ, List.replicate_zero, opBuildSlice, fillEls, newSlice, opBox, opConvMore, convD, convStr, convSame, sameD, sameRow]
     rfl) ?_
   show Goes K Tryz.prog 99 none (q11 [1, 1, 1, 1, 1]) _ _ _ _
   rw [q11_11111]
   refine Goes.seq ?_
   show Goes K Tryz.prog 99 none (q11 [1, 1, 1, 1, 1, 0]) _ _ _ _
   rw [q11_111110]
   refine Goes.ops2 fits Hh (E1_sound E0_sound c4) (by
     simp (config := { maxSteps := 1000000 }) (decide := true) (discharger := first | omega | (simp only [H.next_new, H.next_put, awn1, awn2, awn3, awn4, awn5, awn6, awn7] <;> omega) | decide) only [go_sem, q11, Tryz.f11, readRow, loadIn, reduceIte, Nat.reduceAdd, Nat.reduceMul, Nat.reduceSub, Nat.reduceDiv, Nat.reduceMod, Nat.reduceLT, Nat.reduceBEq, Int.reduceToNat, E1_skipN, E1_call, awn1, awn2, awg2, awn3, awg4, awn4, awg6, awn5, awg8, awn6, awg10, awn7, read1, List.replicate_succ, List.replicate_zero, opBuildSlice, fillEls, newSlice, opBox, opConvMore, convD, convStr, convSame, sameD, sameRow]
     rfl) ?_
   show Goes K Tryz.prog 99 none (q11 [1, 1, 1, 1, 1, 1]) _ _ _ _
   rw [q11_111111]
   refine Goes.seq ?_
   show Goes K Tryz.prog 99 none (q11 [1, 1, 1, 1, 1, 1, 0]) _ _ _ _
   rw [q11_1111110]
   refine Goes.ops2 fits Hh (E1_sound E0_sound c5) (by
     simp (config := { maxSteps := 1000000 }) (decide := true) (discharger := first | omega | (simp only [H.next_new, H.next_put, awn1, awn2, awn3, awn4, awn5, awn6, awn7] <;> omega) | decide) only [go_sem, q11, Tryz.f11, readRow, loadIn, reduceIte, Nat.reduceAdd, Nat.reduceMul, Nat.reduceSub, Nat.reduceDiv, Nat.reduceMod, Nat.reduceLT, Nat.reduceBEq, Int.reduceToNat, E1_skipN, E1_call, awn1, awn2, awg2, awn3, awg4, awn4, awg6, awn5, awg8, awn6, awg10, awn7, read1, List.replicate_succ, List.replicate_zero, opBuildSlice, fillEls, newSlice, opBox, opConvMore, convD, convStr, convSame, sameD, sameRow]
     rfl) ?_
   show Goes K Tryz.prog 99 none (q11 [1, 1, 1, 1, 1, 1, 1]) _ _ _ _
   rw [q11_1111111]
   refine Goes.seq ?_
   show Goes K Tryz.prog 99 none (q11 [1, 1, 1, 1, 1, 1, 1, 0]) _ _ _ _
   rw [q11_11111110]
   refine Goes.ops2 fits Hh (E1_sound E0_sound c6) (by
     simp (config := { maxSteps := 1000000 }) (decide := true) (discharger := first | omega | (simp only [H.next_new, H.next_put, awn1, awn2, awn3, awn4, awn5, awn6, awn7] <;> omega) | decide) only [go_sem, q11, Tryz.f11, readRow, loadIn, reduceIte, Nat.reduceAdd, Nat.reduceMul, Nat.reduceSub, Nat.reduceDiv, Nat.reduceMod, Nat.reduceLT, Nat.reduceBEq, Int.reduceToNat, E1_skipN, E1_call, awn1, awn2, awg2, awn3, awg4, awn4, awg6, awn5, awg8, awn6, awg10, awn7, read1, List.replicate_succ, List.replicate_zero, opBuildSlice, fillEls, newSlice, opBox, opConvMore, convD, convStr, convSame, sameD, sameRow]
     rfl) ?_
   show Goes K Tryz.prog 99 none (q11 [1, 1, 1, 1, 1, 1, 1, 1]) _ _ _ _
   rw [q11_11111111]
   refine Goes.seq ?_
   show Goes K Tryz.prog 99 none (q11 [1, 1, 1, 1, 1, 1, 1, 1, 0]) _ _ _ _
   rw [q11_111111110]
   refine Goes.ops2 fits Hh (E1_sound E0_sound c7) (by
     simp (config := { maxSteps := 1000000 }) (decide := true) (discharger := first | omega | (simp only [H.next_new, H.next_put, awn1, awn2, awn3, awn4, awn5, awn6, awn7] <;> omega) | decide) only [go_sem, q11, Tryz.f11, readRow, loadIn, reduceIte, Nat.reduceAdd, Nat.reduceMul, Nat.reduceSub, Nat.reduceDiv, Nat.reduceMod, Nat.reduceLT, Nat.reduceBEq, Int.reduceToNat, E1_skipN, E1_call, awn1, awn2, awg2, awn3, awg4, awn4, awg6, awn5, awg8, awn6, awg10, awn7, read1, List.replicate_succ, List.replicate_zero, opBuildSlice, fillEls, newSlice, opBox, opConvMore, convD, convStr, convSame, sameD, sameRow]
     rfl) ?_
   exact Goes.restTrue fits Hh hX (k := 4000) (fn := Tryz.f11) (by kernel_rfl)
  exact ⟨h', c⟩
noncomputable def xaw (args : List W) (h : Go.Ev.H) : Option (V × Go.Ev.H) := match args with
  | [] => bif isSteps (h.get 0) then some (.w (.c (.bool true)), h) else none
  | _ => none
theorem xaw_ok {args : List W} {h h' : Go.Ev.H} {v : V} (e : xaw args h = some (v, h')) : CallOk K Tryz.prog 11 args h v h' := by
  unfold xaw at e
  split at e
  · cases hb : isSteps (h.get 0) with
    | false => rw [hb] at e; cases e
    | true =>
      rw [hb] at e
      cases e
      obtain ⟨h1, c⟩ := awOk Hh
      exact CallOk.closedS gl c (by kernel_rfl) rfl rfl h (isSteps_eq hb)
  · cases e
noncomputable def xawK : Kn := fun f args h => bif Nat.beq f 11 then xaw args h else none
theorem xawK_ok : KnOk K Tryz.prog xawK := by
  intro f args h v h' e
  unfold xawK at e
  cases h1 : Nat.beq f 11 with
  | true =>
    rw [h1] at e
    obtain rfl := Nat.eq_of_beq_eq_true h1
    exact xaw_ok Hh e
  | false => rw [h1] at e; cases e
end
end Go.Proofs.YtmnclecicnkmeaaGreatDoor
