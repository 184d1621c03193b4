/- quern/quernlaw26.awake: the walk. -/
import Derived.Test.YtncdhjlpmlmfhaaGreatDoorAw26r
set_option linter.unusedSimpArgs false
set_option linter.unusedVariables false
set_option linter.unusedSectionVars false
set_option maxRecDepth 100000
namespace Go.Proofs.YtncdhjlpmlmfhaaGreatDoor
open Go.Ev
theorem ty9 : K.types.get 9 = some ti9 := by kernel_rfl
theorem sz9 : ti9.size = 1 := by rfl
theorem ag9 : ti9.agg = false := by rfl
theorem de9 : ti9.desc = .string := by rfl
theorem ze9 : ti9.zero = (.c (.str [])) := by rfl
theorem by9 : ti9.bytes = 16 := by rfl
theorem ty23 : K.types.get 23 = some ti23 := by kernel_rfl
theorem sz23 : ti23.size = 11 := by rfl
theorem ag23 : ti23.agg = true := by rfl
theorem de23 : ti23.desc = (.array 11 22) := by rfl
theorem ze23 : ti23.zero = (.g ((List.replicate 11 (.int .u32 0)))) := by rfl
theorem by23 : ti23.bytes = 44 := by rfl
theorem eq23 (a b : List C) : eqT K 20 23 (.g a) (.g b) = (bif true && Nat.beq a.length 11 && Nat.beq b.length 11 then eqInts a b else none) := by kernel_rfl
theorem ty25 : K.types.get 25 = some ti25 := by kernel_rfl
theorem sz25 : ti25.size = 16 := by rfl
theorem ag25 : ti25.agg = true := by rfl
theorem fo25_0 : fieldOf K 25 0 = some (0, ti5) := by kernel_rfl
theorem fo25_1 : fieldOf K 25 1 = some (1, ti3) := by kernel_rfl
theorem fo25_2 : fieldOf K 25 2 = some (2, ti22) := by kernel_rfl
theorem fo25_3 : fieldOf K 25 3 = some (3, ti3) := by kernel_rfl
theorem fo25_4 : fieldOf K 25 4 = some (4, ti23) := by kernel_rfl
theorem fo25_5 : fieldOf K 25 5 = some (15, ti22) := by kernel_rfl
theorem bu25 (ps : List (Nat × W)) : opBuild K 25 (some ps) = gW (fillStruct K 25 ps ti25.zero.cells) := by kernel_rfl
theorem ze25 : ti25.zero = (.g ([.int .u8 0, .int .i64 0, .int .u32 0, .int .i64 0, .int .u32 0, .int .u32 0, .int .u32 0, .int .u32 0, .int .u32 0, .int .u32 0, .int .u32 0, .int .u32 0, .int .u32 0, .int .u32 0, .int .u32 0, .int .u32 0])) := by rfl
theorem by25 : ti25.bytes = 80 := by rfl
theorem ty26 : K.types.get 26 = some ti26 := by kernel_rfl
theorem sz26 : ti26.size = 1 := by rfl
theorem ag26 : ti26.agg = false := by rfl
theorem de26 : ti26.desc = (.pointer 34) := by rfl
theorem ze26 : ti26.zero = (.c (.pnil)) := by rfl
theorem by26 : ti26.bytes = 8 := by rfl
theorem ty37 : K.types.get 37 = some ti37 := by kernel_rfl
theorem sz37 : ti37.size = 1 := by rfl
theorem ag37 : ti37.agg = false := by rfl
theorem de37 : ti37.desc = (.int .i64) := by rfl
theorem ze37 : ti37.zero = (.c (.int .i64 0)) := by rfl
theorem by37 : ti37.bytes = 8 := by rfl
theorem ke37 (k : IntKind) (n : Int) : keyT K 20 37 (.c (.int k n)) = true := by kernel_rfl
theorem ty68 : K.types.get 68 = some ti68 := by kernel_rfl
theorem sz68 : ti68.size = 1 := by rfl
theorem ag68 : ti68.agg = false := by rfl
theorem de68 : ti68.desc = (.pointer 189) := by rfl
theorem ze68 : ti68.zero = (.c (.pnil)) := by rfl
theorem by68 : ti68.bytes = 8 := by rfl
theorem ty69 : K.types.get 69 = some ti69 := by kernel_rfl
theorem sz69 : ti69.size = 1 := by rfl
theorem ag69 : ti69.agg = false := by rfl
theorem de69 : ti69.desc = (.pointer 155) := by rfl
theorem ze69 : ti69.zero = (.c (.pnil)) := by rfl
theorem by69 : ti69.bytes = 8 := by rfl
theorem ty70 : K.types.get 70 = some ti70 := by kernel_rfl
theorem sz70 : ti70.size = 1 := by rfl
theorem ag70 : ti70.agg = false := by rfl
theorem de70 : ti70.desc = (.pointer 158) := by rfl
theorem ze70 : ti70.zero = (.c (.pnil)) := by rfl
theorem by70 : ti70.bytes = 8 := by rfl
theorem ty72 : K.types.get 72 = some ti72 := by kernel_rfl
theorem sz72 : ti72.size = 4 := by rfl
theorem ag72 : ti72.agg = true := by rfl
theorem fo72_0 : fieldOf K 72 0 = some (0, ti26) := by kernel_rfl
theorem fo72_1 : fieldOf K 72 1 = some (1, ti68) := by kernel_rfl
theorem fo72_2 : fieldOf K 72 2 = some (2, ti69) := by kernel_rfl
theorem fo72_3 : fieldOf K 72 3 = some (3, ti70) := by kernel_rfl
theorem bu72 (ps : List (Nat × W)) : opBuild K 72 (some ps) = gW (fillStruct K 72 ps ti72.zero.cells) := by kernel_rfl
theorem ze72 : ti72.zero = (.g ([.pnil, .pnil, .pnil, .pnil])) := by rfl
theorem by72 : ti72.bytes = 32 := by rfl
theorem ty77 : K.types.get 77 = some ti77 := by kernel_rfl
theorem sz77 : ti77.size = 1 := by rfl
theorem ag77 : ti77.agg = false := by rfl
theorem de77 : ti77.desc = (.slice 96) := by rfl
theorem ze77 : ti77.zero = (.c (.snil)) := by rfl
theorem by77 : ti77.bytes = 24 := by rfl
theorem el77 : elemTI K 77 = some ti96 := by kernel_rfl
theorem ty79 : K.types.get 79 = some ti79 := by kernel_rfl
theorem sz79 : ti79.size = 6 := by rfl
theorem ag79 : ti79.agg = true := by rfl
theorem fo79_0 : fieldOf K 79 0 = some (0, ti76) := by kernel_rfl
theorem fo79_1 : fieldOf K 79 1 = some (4, ti5) := by kernel_rfl
theorem fo79_2 : fieldOf K 79 2 = some (5, ti77) := by kernel_rfl
theorem bu79 (ps : List (Nat × W)) : opBuild K 79 (some ps) = gW (fillStruct K 79 ps ti79.zero.cells) := by kernel_rfl
theorem ze79 : ti79.zero = (.g ([.int .i64 0, .int .i64 0, .int .i64 0, .int .i64 0, .int .u8 0, .snil])) := by rfl
theorem by79 : ti79.bytes = 64 := by rfl
theorem ty96 : K.types.get 96 = some ti96 := by kernel_rfl
theorem sz96 : ti96.size = 3 := by rfl
theorem ag96 : ti96.agg = true := by rfl
theorem fo96_0 : fieldOf K 96 0 = some (0, ti3) := by kernel_rfl
theorem fo96_1 : fieldOf K 96 1 = some (1, ti3) := by kernel_rfl
theorem fo96_2 : fieldOf K 96 2 = some (2, ti5) := by kernel_rfl
theorem bu96 (ps : List (Nat × W)) : opBuild K 96 (some ps) = gW (fillStruct K 96 ps ti96.zero.cells) := by kernel_rfl
theorem ze96 : ti96.zero = (.g ([.int .i64 0, .int .i64 0, .int .u8 0])) := by rfl
theorem by96 : ti96.bytes = 24 := by rfl
attribute [go_sem] ty9 sz9 ag9 de9 ze9 by9 ty23 sz23 ag23 de23 ze23 by23 eq23 ty25 sz25 ag25 fo25_0 fo25_1 fo25_2 fo25_3 fo25_4 fo25_5 bu25 ze25 by25 ty26 sz26 ag26 de26 ze26 by26 ty37 sz37 ag37 de37 ze37 by37 ke37 ty68 sz68 ag68 de68 ze68 by68 ty69 sz69 ag69 de69 ze69 by69 ty70 sz70 ag70 de70 ze70 by70 ty72 sz72 ag72 fo72_0 fo72_1 fo72_2 fo72_3 bu72 ze72 by72 ty77 sz77 ag77 de77 ze77 by77 el77 ty79 sz79 ag79 fo79_0 fo79_1 fo79_2 bu79 ze79 by79 ty96 sz96 ag96 fo96_0 fo96_1 fo96_2 bu96 ze96 by96
noncomputable def q8 (p : List Nat) : Code := piece p (bodyOf Tryz.f8)
theorem q8_ : q8 [] = .seq (q8 [0]) (q8 [1]) := by kernel_rfl
theorem q8_0 : q8 [0] = .region 0 (opsA (q8 [0])) false := by kernel_rfl
theorem q8_1 : q8 [1] = .seq (q8 [1, 0]) (q8 [1, 1]) := by kernel_rfl
theorem q8_10 : q8 [1, 0] = .region 1 (opsA (q8 [1, 0])) false := by kernel_rfl
theorem q8_11 : q8 [1, 1] = .seq (q8 [1, 1, 0]) (q8 [1, 1, 1]) := by kernel_rfl
theorem q8_110 : q8 [1, 1, 0] = .seq (q8 [1, 1, 0, 0]) (q8 [1, 1, 0, 1]) := by kernel_rfl
theorem q8_1100 : q8 [1, 1, 0, 0] = .region 2 (opsA (q8 [1, 1, 0, 0])) false := by kernel_rfl
theorem q8_1101 : q8 [1, 1, 0, 1] = .cond (.tmp 20) (q8 [1, 1, 0, 1, 3]) (q8 [1, 1, 0, 1, 4]) := by kernel_rfl
theorem q8_11014 : q8 [1, 1, 0, 1, 4] = .skip := by kernel_rfl
theorem q8_111 : q8 [1, 1, 1] = .seq (q8 [1, 1, 1, 0]) (q8 [1, 1, 1, 1]) := by kernel_rfl
theorem q8_1110 : q8 [1, 1, 1, 0] = .region 4 (opsA (q8 [1, 1, 1, 0])) false := by kernel_rfl
theorem q8_1111 : q8 [1, 1, 1, 1] = .seq (q8 [1, 1, 1, 1, 0]) (q8 [1, 1, 1, 1, 1]) := by kernel_rfl
theorem q8_11110 : q8 [1, 1, 1, 1, 0] = .region 5 (opsA (q8 [1, 1, 1, 1, 0])) false := by kernel_rfl
theorem q8_11111 : q8 [1, 1, 1, 1, 1] = .seq (q8 [1, 1, 1, 1, 1, 0]) (q8 [1, 1, 1, 1, 1, 1]) := by kernel_rfl
theorem q8_111110 : q8 [1, 1, 1, 1, 1, 0] = .region 6 (opsA (q8 [1, 1, 1, 1, 1, 0])) false := by kernel_rfl
theorem q8_111111 : q8 [1, 1, 1, 1, 1, 1] = .seq (q8 [1, 1, 1, 1, 1, 1, 0]) (q8 [1, 1, 1, 1, 1, 1, 1]) := by kernel_rfl
theorem q8_1111110 : q8 [1, 1, 1, 1, 1, 1, 0] = .region 7 (opsA (q8 [1, 1, 1, 1, 1, 1, 0])) false := by kernel_rfl
theorem q8_1111111 : q8 [1, 1, 1, 1, 1, 1, 1] = .seq (q8 [1, 1, 1, 1, 1, 1, 1, 0]) (q8 [1, 1, 1, 1, 1, 1, 1, 1]) := by kernel_rfl
theorem q8_11111110 : q8 [1, 1, 1, 1, 1, 1, 1, 0] = .region 8 (opsA (q8 [1, 1, 1, 1, 1, 1, 1, 0])) false := by kernel_rfl
theorem q8_11111111 : q8 [1, 1, 1, 1, 1, 1, 1, 1] = .seq (q8 [1, 1, 1, 1, 1, 1, 1, 1, 0]) (q8 [1, 1, 1, 1, 1, 1, 1, 1, 1]) := by kernel_rfl
theorem q8_111111110 : q8 [1, 1, 1, 1, 1, 1, 1, 1, 0] = .region 9 (opsA (q8 [1, 1, 1, 1, 1, 1, 1, 1, 0])) false := by kernel_rfl
theorem rs8 : Tryz.f8.results.toList = [.tmp 0] := rfl
attribute [go_sem] rs8
section
variable (Hh : Hearts K Tryz.prog)
include Hh
set_option maxHeartbeats 4000000 in
theorem awOk : ∃ h', CallOk K Tryz.prog 8 [] awH0 (.w (.c (.bool true))) h' := by
  have hX := x25_ok Hh
  have c1 : CallOk K Tryz.prog _ _ _ _ awH1 := CallOk.took fits Hh hX awrun1
  have c2 : CallOk K Tryz.prog _ _ _ _ awH2 := CallOk.took fits Hh hX awrun2
  have c3 : CallOk K Tryz.prog _ _ _ _ awH3 := CallOk.took fits Hh hX awrun3
  have c4 : CallOk K Tryz.prog _ _ _ _ awH4 := CallOk.took fits Hh hX awrun4
  have c5 : CallOk K Tryz.prog _ _ _ _ awH5 := CallOk.took fits Hh hX awrun5
  have c6 : CallOk K Tryz.prog _ _ _ _ awH6 := CallOk.took fits Hh hX awrun6
  have c7 : CallOk K Tryz.prog _ _ _ _ awH7 := CallOk.took fits Hh hX awrun7
  obtain ⟨v, h', c, rfl⟩ : ∃ v h', CallOk K Tryz.prog 8 [] awH0 v h' ∧ v = .w (.c (.bool true)) := by
   refine CallOk.goesE fits Hh (by kernel_rfl) (by kernel_rfl) (by kernel_rfl) (show Tryz.f8.body = some (q8 []) by kernel_rfl) rfl ?_
   show Goes K Tryz.prog 100 none _ _ _ _ _
   show Goes K Tryz.prog 100 none (q8 []) _ _ _ _
   rw [q8_]
   refine Goes.seq ?_
   show Goes K Tryz.prog 100 none (q8 [0]) _ _ _ _
   rw [q8_0]
   refine Goes.ops2 fits Hh E0_sound (by
     simp (config := { maxSteps := 1000000 }) (decide := true) (discharger := first | omega | (simp only [H.next_new, H.next_put, awn1, awn2, awn3, awn4, awn5, awn6, awn7] <;> omega) | decide) only [go_sem, q8, Tryz.f8, readRow, loadIn, reduceIte, Nat.reduceAdd, Nat.reduceMul, Nat.reduceSub, Nat.reduceDiv, Nat.reduceMod, Nat.reduceLT, Nat.reduceBEq, Int.reduceToNat, E1_skipN, awn1, awn2, awg2, awn3, awg4, awn4, awg6, awg7, awn5, awg9, awn6, awg11, awn7, awg13, read1, List.replicate_succ, List.replicate_zero, opBuildSlice, fillEls, newSlice, opBox, opConvMore, convD, convStr, convSame, sameD, sameRow]
     rfl) ?_
   show Goes K Tryz.prog 100 none (q8 [1]) _ _ _ _
   rw [q8_1]
   refine Goes.seq ?_
   show Goes K Tryz.prog 100 none (q8 [1, 0]) _ _ _ _
   rw [q8_10]
   refine Goes.ops2 fits Hh (E1_sound E0_sound c1) (by
     simp (config := { maxSteps := 1000000 }) (decide := true) (discharger := first | omega | (simp only [H.next_new, H.next_put, awn1, awn2, awn3, awn4, awn5, awn6, awn7] <;> omega) | decide) only [go_sem, q8, Tryz.f8, readRow, loadIn, reduceIte, Nat.reduceAdd, Nat.reduceMul, Nat.reduceSub, Nat.reduceDiv, Nat.reduceMod, Nat.reduceLT, Nat.reduceBEq, Int.reduceToNat, E1_skipN, E1_call, awn1, awn2, awg2, awn3, awg4, awn4, awg6, awg7, awn5, awg9, awn6, awg11, awn7, awg13, read1, List.replicate_succ, List.replicate_zero, opBuildSlice, fillEls, newSlice, opBox, opConvMore, convD, convStr, convSame, sameD, sameRow]
     rfl) ?_
   show Goes K Tryz.prog 100 none (q8 [1, 1]) _ _ _ _
   rw [q8_11]
   refine Goes.seq ?_
   show Goes K Tryz.prog 100 none (q8 [1, 1, 0]) _ _ _ _
   rw [q8_110]
   refine Goes.seq ?_
   show Goes K Tryz.prog 100 none (q8 [1, 1, 0, 0]) _ _ _ _
   rw [q8_1100]
   refine Goes.ops2 fits Hh E0_sound (by
     simp (config := { maxSteps := 1000000 }) (decide := true) (discharger := first | omega | (simp only [H.next_new, H.next_put, awn1, awn2, awn3, awn4, awn5, awn6, awn7] <;> omega) | decide) only [go_sem, q8, Tryz.f8, readRow, loadIn, reduceIte, Nat.reduceAdd, Nat.reduceMul, Nat.reduceSub, Nat.reduceDiv, Nat.reduceMod, Nat.reduceLT, Nat.reduceBEq, Int.reduceToNat, E1_skipN, awn1, awn2, awg2, awn3, awg4, awn4, awg6, awg7, awn5, awg9, awn6, awg11, awn7, awg13, read1, List.replicate_succ, List.replicate_zero, opBuildSlice, fillEls, newSlice, opBox, opConvMore, convD, convStr, convSame, sameD, sameRow]
     rfl) ?_
   show Goes K Tryz.prog 100 none (q8 [1, 1, 0, 1]) _ _ _ _
   rw [q8_1101]
   refine Goes.condE (by simp (config := { maxSteps := 1000000 }) (decide := true) (discharger := first | omega | (simp only [H.next_new, H.next_put, awn1, awn2, awn3, awn4, awn5, awn6, awn7] <;> omega) | decide) only [go_sem, readRow, loadIn, reduceIte, Nat.reduceAdd, Nat.reduceMul, Nat.reduceSub, Nat.reduceDiv, Nat.reduceMod, Nat.reduceLT, Nat.reduceBEq, Int.reduceToNat, E1_skipN, awn1, awn2, awg2, awn3, awg4, awn4, awg6, awg7, awn5, awg9, awn6, awg11, awn7, awg13, read1, List.replicate_succ, List.replicate_zero, opBuildSlice, fillEls, newSlice, opBox, opConvMore, convD, convStr, convSame, sameD, sameRow] <;> rfl) (by first | rfl | assumption | exact decide_eq_false (by omega) | (simp; omega)) ?_
   show Goes K Tryz.prog 100 none (q8 [1, 1, 0, 1, 4]) _ _ _ _
   rw [q8_11014]
   refine Goes.skip ?_
   show Goes K Tryz.prog 100 none (q8 [1, 1, 1]) _ _ _ _
   rw [q8_111]
   refine Goes.seq ?_
   show Goes K Tryz.prog 100 none (q8 [1, 1, 1, 0]) _ _ _ _
   rw [q8_1110]
   refine Goes.ops2 fits Hh (E1_sound E0_sound c2) (by
     simp (config := { maxSteps := 1000000 }) (decide := true) (discharger := first | omega | (simp only [H.next_new, H.next_put, awn1, awn2, awn3, awn4, awn5, awn6, awn7] <;> omega) | decide) only [go_sem, q8, Tryz.f8, readRow, loadIn, reduceIte, Nat.reduceAdd, Nat.reduceMul, Nat.reduceSub, Nat.reduceDiv, Nat.reduceMod, Nat.reduceLT, Nat.reduceBEq, Int.reduceToNat, E1_skipN, E1_call, awn1, awn2, awg2, awn3, awg4, awn4, awg6, awg7, awn5, awg9, awn6, awg11, awn7, awg13, read1, List.replicate_succ, List.replicate_zero, opBuildSlice, fillEls, newSlice, opBox, opConvMore, convD, convStr, convSame, sameD, sameRow]
     rfl) ?_
   show Goes K Tryz.prog 100 none (q8 [1, 1, 1, 1]) _ _ _ _
   rw [q8_1111]
   refine Goes.seq ?_
   show Goes K Tryz.prog 100 none (q8 [1, 1, 1, 1, 0]) _ _ _ _
   rw [q8_11110]
   refine Goes.ops2 fits Hh (E1_sound E0_sound c3) (by
     simp (config := { maxSteps := 1000000 }) (decide := true) (discharger := first | omega | (simp only [H.next_new, H.next_put, awn1, awn2, awn3, awn4, awn5, awn6, awn7] <;> omega) | decide) only [go_sem, q8, Tryz.f8, readRow, loadIn, reduceIte, Nat.reduceAdd, Nat.reduceMul, Nat.reduceSub, Nat.reduceDiv, Nat.reduceMod, Nat.reduceLT, Nat.reduceBEq, Int.reduceToNat, E1_skipN, E1_call, awn1, awn2, awg2, awn3, awg4, awn4, awg6, awg7, awn5, awg9, awn6, awg11, awn7, awg13, read1, List.replicate_succ, List.replicate_zero, opBuildSlice, fillEls, newSlice, opBox, opConvMore, convD, convStr, convSame, sameD, sameRow]
     rfl) ?_
   show Goes K Tryz.prog 100 none (q8 [1, 1, 1, 1, 1]) _ _ _ _
   rw [q8_11111]
   refine Goes.seq ?_
   show Goes K Tryz.prog 100 none (q8 [1, 1, 1, 1, 1, 0]) _ _ _ _
   rw [q8_111110]
   refine Goes.ops2 fits Hh (E1_sound E0_sound c4) (by
     simp (config := { maxSteps := 1000000 }) (decide := true) (discharger := first | omega | (simp only [H.next_new, H.next_put, awn1, awn2, awn3, awn4, awn5, awn6, awn7] <;> omega) | decide) only [go_sem, q8, Tryz.f8, readRow, loadIn, reduceIte, Nat.reduceAdd, Nat.reduceMul, Nat.reduceSub, Nat.reduceDiv, Nat.reduceMod, Nat.reduceLT, Nat.reduceBEq, Int.reduceToNat, E1_skipN, E1_call, awn1, awn2, awg2, awn3, awg4, awn4, awg6, awg7, awn5, awg9, awn6, awg11, awn7, awg13, read1, List.replicate_succ, List.replicate_zero, opBuildSlice, fillEls, newSlice, opBox, opConvMore, convD, convStr, convSame, sameD, sameRow]
     rfl) ?_
   show Goes K Tryz.prog 100 none (q8 [1, 1, 1, 1, 1, 1]) _ _ _ _
   rw [q8_111111]
   refine Goes.seq ?_
   show Goes K Tryz.prog 100 none (q8 [1, 1, 1, 1, 1, 1, 0]) _ _ _ _
   rw [q8_1111110]
   refine Goes.ops2 fits Hh (E1_sound E0_sound c5) (by
     simp (config := { maxSteps := 1000000 }) (decide := true) (discharger := first | omega | (simp only [H.next_new, H.next_put, awn1, awn2, awn3, awn4, awn5, awn6, awn7] <;> omega) | decide) only [go_sem, q8, Tryz.f8, readRow, loadIn, reduceIte, Nat.reduceAdd, Nat.reduceMul, Nat.reduceSub, Nat.reduceDiv, Nat.reduceMod, Nat.reduceLT, Nat.reduceBEq, Int.reduceToNat, E1_skipN, E1_call, awn1, awn2, awg2, awn3, awg4, awn4, awg6, awg7, awn5, awg9, awn6, awg11, awn7, awg13, read1, List.replicate_succ, List.replicate_zero, opBuildSlice, fillEls, newSlice, opBox, opConvMore, convD, convStr, convSame, sameD, sameRow]
     rfl) ?_
   show Goes K Tryz.prog 100 none (q8 [1, 1, 1, 1, 1, 1, 1]) _ _ _ _
   rw [q8_1111111]
   refine Goes.seq ?_
   show Goes K Tryz.prog 100 none (q8 [1, 1, 1, 1, 1, 1, 1, 0]) _ _ _ _
   rw [q8_11111110]
   refine Goes.ops2 fits Hh (E1_sound E0_sound c6) (by
     simp (config := { maxSteps := 1000000 }) (decide := true) (discharger := first | omega | (simp only [H.next_new, H.next_put, awn1, awn2, awn3, awn4, awn5, awn6, awn7] <;> omega) | decide) only [go_sem, q8, Tryz.f8, readRow, loadIn, reduceIte, Nat.reduceAdd, Nat.reduceMul, Nat.reduceSub, Nat.reduceDiv, Nat.reduceMod, Nat.reduceLT, Nat.reduceBEq, Int.reduceToNat, E1_skipN, E1_call, awn1, awn2, awg2, awn3, awg4, awn4, awg6, awg7, awn5, awg9, awn6, awg11, awn7, awg13, read1, List.replicate_succ, List.replicate_zero, opBuildSlice, fillEls, newSlice, opBox, opConvMore, convD, convStr, convSame, sameD, sameRow]
     rfl) ?_
   show Goes K Tryz.prog 100 none (q8 [1, 1, 1, 1, 1, 1, 1, 1]) _ _ _ _
   rw [q8_11111111]
   refine Goes.seq ?_
   show Goes K Tryz.prog 100 none (q8 [1, 1, 1, 1, 1, 1, 1, 1, 0]) _ _ _ _
   rw [q8_111111110]
   refine Goes.ops2 fits Hh (E1_sound E0_sound c7) (by
     simp (config := { maxSteps := 1000000 }) (decide := true) (discharger := first | omega | (simp only [H.next_new, H.next_put, awn1, awn2, awn3, awn4, awn5, awn6, awn7] <;> omega) | decide) only [go_sem, q8, Tryz.f8, readRow, loadIn, reduceIte, Nat.reduceAdd, Nat.reduceMul, Nat.reduceSub, Nat.reduceDiv, Nat.reduceMod, Nat.reduceLT, Nat.reduceBEq, Int.reduceToNat, E1_skipN, E1_call, awn1, awn2, awg2, awn3, awg4, awn4, awg6, awg7, awn5, awg9, awn6, awg11, awn7, awg13, read1, List.replicate_succ, List.replicate_zero, opBuildSlice, fillEls, newSlice, opBox, opConvMore, convD, convStr, convSame, sameD, sameRow]
     rfl) ?_
   exact Goes.restTrue fits Hh hX (k := 4000) (fn := Tryz.f8) (by kernel_rfl)
  exact ⟨h', c⟩
noncomputable def xaw (args : List W) (h : Go.Ev.H) : Option (V × Go.Ev.H) := match args with
  | [] => bif isSteps (h.get 0) then some (.w (.c (.bool true)), h) else none
  | _ => none
theorem xaw_ok {args : List W} {h h' : Go.Ev.H} {v : V} (e : xaw args h = some (v, h')) : CallOk K Tryz.prog 8 args h v h' := by
  unfold xaw at e
  split at e
  · cases hb : isSteps (h.get 0) with
    | false => rw [hb] at e; cases e
    | true =>
      rw [hb] at e
      cases e
      obtain ⟨h1, c⟩ := awOk Hh
      exact CallOk.closedS gl c (by kernel_rfl) rfl rfl h (isSteps_eq hb)
  · cases e
noncomputable def xawK : Kn := fun f args h => bif Nat.beq f 8 then xaw args h else none
theorem xawK_ok : KnOk K Tryz.prog xawK := by
  intro f args h v h' e
  unfold xawK at e
  cases h1 : Nat.beq f 8 with
  | true =>
    rw [h1] at e
    obtain rfl := Nat.eq_of_beq_eq_true h1
    exact xaw_ok Hh e
  | false => rw [h1] at e; cases e
end
end Go.Proofs.YtncdhjlpmlmfhaaGreatDoor
