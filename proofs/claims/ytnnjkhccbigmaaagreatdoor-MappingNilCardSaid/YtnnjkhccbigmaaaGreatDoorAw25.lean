/- quern/quernlaw25.awake: the walk. -/
import Derived.Test.YtnnjkhccbigmaaaGreatDoorAw25r
set_option linter.unusedSimpArgs false
set_option linter.unusedVariables false
set_option linter.unusedSectionVars false
set_option maxRecDepth 100000
namespace Go.Proofs.YtnnjkhccbigmaaaGreatDoor
open Go.Ev
theorem ty23 : K.types.get 23 = some ti23 := by kernel_rfl
theorem sz23 : ti23.size = 11 := by rfl
theorem ag23 : ti23.agg = true := by rfl
theorem de23 : ti23.desc = (.array 11 22) := by rfl
theorem ze23 : ti23.zero = (.g ((List.replicate 11 (.int .u32 0)))) := by rfl
theorem by23 : ti23.bytes = 44 := by rfl
theorem eq23 (a b : List C) : eqT K 20 23 (.g a) (.g b) = (bif true && Nat.beq a.length 11 && Nat.beq b.length 11 then eqInts a b else none) := by kernel_rfl
theorem ty25 : K.types.get 25 = some ti25 := by kernel_rfl
theorem sz25 : ti25.size = 16 := by rfl
theorem ag25 : ti25.agg = true := by rfl
theorem fo25_0 : fieldOf K 25 0 = some (0, ti5) := by kernel_rfl
theorem fo25_1 : fieldOf K 25 1 = some (1, ti3) := by kernel_rfl
theorem fo25_2 : fieldOf K 25 2 = some (2, ti22) := by kernel_rfl
theorem fo25_3 : fieldOf K 25 3 = some (3, ti3) := by kernel_rfl
theorem fo25_4 : fieldOf K 25 4 = some (4, ti23) := by kernel_rfl
theorem fo25_5 : fieldOf K 25 5 = some (15, ti22) := by kernel_rfl
theorem bu25 (ps : List (Nat × W)) : opBuild K 25 (some ps) = gW (fillStruct K 25 ps ti25.zero.cells) := by kernel_rfl
theorem ze25 : ti25.zero = (.g ([.int .u8 0, .int .i64 0, .int .u32 0, .int .i64 0, .int .u32 0, .int .u32 0, .int .u32 0, .int .u32 0, .int .u32 0, .int .u32 0, .int .u32 0, .int .u32 0, .int .u32 0, .int .u32 0, .int .u32 0, .int .u32 0])) := by rfl
theorem by25 : ti25.bytes = 80 := by rfl
theorem ty26 : K.types.get 26 = some ti26 := by kernel_rfl
theorem sz26 : ti26.size = 1 := by rfl
theorem ag26 : ti26.agg = false := by rfl
theorem de26 : ti26.desc = (.pointer 34) := by rfl
theorem ze26 : ti26.zero = (.c (.pnil)) := by rfl
theorem by26 : ti26.bytes = 8 := by rfl
theorem ty32 : K.types.get 32 = some ti32 := by kernel_rfl
theorem sz32 : ti32.size = 1 := by rfl
theorem ag32 : ti32.agg = false := by rfl
theorem de32 : ti32.desc = (.slice 3) := by rfl
theorem ze32 : ti32.zero = (.c (.snil)) := by rfl
theorem by32 : ti32.bytes = 24 := by rfl
theorem el32 : elemTI K 32 = some ti3 := by kernel_rfl
theorem ty36 : K.types.get 36 = some ti36 := by kernel_rfl
theorem sz36 : ti36.size = 1 := by rfl
theorem ag36 : ti36.agg = false := by rfl
theorem de36 : ti36.desc = (.int .i64) := by rfl
theorem ze36 : ti36.zero = (.c (.int .i64 0)) := by rfl
theorem by36 : ti36.bytes = 8 := by rfl
theorem ke36 (k : IntKind) (n : Int) : keyT K 20 36 (.c (.int k n)) = true := by kernel_rfl
theorem ty67 : K.types.get 67 = some ti67 := by kernel_rfl
theorem sz67 : ti67.size = 1 := by rfl
theorem ag67 : ti67.agg = false := by rfl
theorem de67 : ti67.desc = (.pointer 204) := by rfl
theorem ze67 : ti67.zero = (.c (.pnil)) := by rfl
theorem by67 : ti67.bytes = 8 := by rfl
theorem ty68 : K.types.get 68 = some ti68 := by kernel_rfl
theorem sz68 : ti68.size = 1 := by rfl
theorem ag68 : ti68.agg = false := by rfl
theorem de68 : ti68.desc = (.pointer 170) := by rfl
theorem ze68 : ti68.zero = (.c (.pnil)) := by rfl
theorem by68 : ti68.bytes = 8 := by rfl
theorem ty69 : K.types.get 69 = some ti69 := by kernel_rfl
theorem sz69 : ti69.size = 1 := by rfl
theorem ag69 : ti69.agg = false := by rfl
theorem de69 : ti69.desc = (.pointer 173) := by rfl
theorem ze69 : ti69.zero = (.c (.pnil)) := by rfl
theorem by69 : ti69.bytes = 8 := by rfl
theorem ty71 : K.types.get 71 = some ti71 := by kernel_rfl
theorem sz71 : ti71.size = 4 := by rfl
theorem ag71 : ti71.agg = true := by rfl
theorem fo71_0 : fieldOf K 71 0 = some (0, ti26) := by kernel_rfl
theorem fo71_1 : fieldOf K 71 1 = some (1, ti67) := by kernel_rfl
theorem fo71_2 : fieldOf K 71 2 = some (2, ti68) := by kernel_rfl
theorem fo71_3 : fieldOf K 71 3 = some (3, ti69) := by kernel_rfl
theorem bu71 (ps : List (Nat × W)) : opBuild K 71 (some ps) = gW (fillStruct K 71 ps ti71.zero.cells) := by kernel_rfl
theorem ze71 : ti71.zero = (.g ([.pnil, .pnil, .pnil, .pnil])) := by rfl
theorem by71 : ti71.bytes = 32 := by rfl
theorem ty76 : K.types.get 76 = some ti76 := by kernel_rfl
theorem sz76 : ti76.size = 1 := by rfl
theorem ag76 : ti76.agg = false := by rfl
theorem de76 : ti76.desc = (.slice 105) := by rfl
theorem ze76 : ti76.zero = (.c (.snil)) := by rfl
theorem by76 : ti76.bytes = 24 := by rfl
theorem el76 : elemTI K 76 = some ti105 := by kernel_rfl
theorem ty78 : K.types.get 78 = some ti78 := by kernel_rfl
theorem sz78 : ti78.size = 6 := by rfl
theorem ag78 : ti78.agg = true := by rfl
theorem fo78_0 : fieldOf K 78 0 = some (0, ti75) := by kernel_rfl
theorem fo78_1 : fieldOf K 78 1 = some (4, ti5) := by kernel_rfl
theorem fo78_2 : fieldOf K 78 2 = some (5, ti76) := by kernel_rfl
theorem bu78 (ps : List (Nat × W)) : opBuild K 78 (some ps) = gW (fillStruct K 78 ps ti78.zero.cells) := by kernel_rfl
theorem ze78 : ti78.zero = (.g ([.int .i64 0, .int .i64 0, .int .i64 0, .int .i64 0, .int .u8 0, .snil])) := by rfl
theorem by78 : ti78.bytes = 64 := by rfl
theorem ty105 : K.types.get 105 = some ti105 := by kernel_rfl
theorem sz105 : ti105.size = 3 := by rfl
theorem ag105 : ti105.agg = true := by rfl
theorem fo105_0 : fieldOf K 105 0 = some (0, ti3) := by kernel_rfl
theorem fo105_1 : fieldOf K 105 1 = some (1, ti3) := by kernel_rfl
theorem fo105_2 : fieldOf K 105 2 = some (2, ti5) := by kernel_rfl
theorem bu105 (ps : List (Nat × W)) : opBuild K 105 (some ps) = gW (fillStruct K 105 ps ti105.zero.cells) := by kernel_rfl
theorem ze105 : ti105.zero = (.g ([.int .i64 0, .int .i64 0, .int .u8 0])) := by rfl
theorem by105 : ti105.bytes = 24 := by rfl
attribute [go_sem] ty23 sz23 ag23 de23 ze23 by23 eq23 ty25 sz25 ag25 fo25_0 fo25_1 fo25_2 fo25_3 fo25_4 fo25_5 bu25 ze25 by25 ty26 sz26 ag26 de26 ze26 by26 ty32 sz32 ag32 de32 ze32 by32 el32 ty36 sz36 ag36 de36 ze36 by36 ke36 ty67 sz67 ag67 de67 ze67 by67 ty68 sz68 ag68 de68 ze68 by68 ty69 sz69 ag69 de69 ze69 by69 ty71 sz71 ag71 fo71_0 fo71_1 fo71_2 fo71_3 bu71 ze71 by71 ty76 sz76 ag76 de76 ze76 by76 el76 ty78 sz78 ag78 fo78_0 fo78_1 fo78_2 bu78 ze78 by78 ty105 sz105 ag105 fo105_0 fo105_1 fo105_2 bu105 ze105 by105
noncomputable def q8 (p : List Nat) : Code := piece p (bodyOf Tryz.f8)
theorem q8_ : q8 [] = .seq (q8 [0]) (q8 [1]) := by kernel_rfl
theorem q8_0 : q8 [0] = .region 0 (opsA (q8 [0])) false := by kernel_rfl
theorem q8_1 : q8 [1] = .seq (q8 [1, 0]) (q8 [1, 1]) := by kernel_rfl
theorem q8_10 : q8 [1, 0] = .region 1 (opsA (q8 [1, 0])) false := by kernel_rfl
theorem q8_11 : q8 [1, 1] = .seq (q8 [1, 1, 0]) (q8 [1, 1, 1]) := by kernel_rfl
theorem q8_110 : q8 [1, 1, 0] = .seq (q8 [1, 1, 0, 0]) (q8 [1, 1, 0, 1]) := by kernel_rfl
theorem q8_1100 : q8 [1, 1, 0, 0] = .region 2 (opsA (q8 [1, 1, 0, 0])) false := by kernel_rfl
theorem q8_1101 : q8 [1, 1, 0, 1] = .cond (.tmp 28) (q8 [1, 1, 0, 1, 3]) (q8 [1, 1, 0, 1, 4]) := by kernel_rfl
theorem q8_11013 : q8 [1, 1, 0, 1, 3] = .seq (q8 [1, 1, 0, 1, 3, 0]) (q8 [1, 1, 0, 1, 3, 1]) := by kernel_rfl
theorem q8_110130 : q8 [1, 1, 0, 1, 3, 0] = .region 3 (opsA (q8 [1, 1, 0, 1, 3, 0])) false := by kernel_rfl
theorem q8_110131 : q8 [1, 1, 0, 1, 3, 1] = .ret := by kernel_rfl
theorem q8_11014 : q8 [1, 1, 0, 1, 4] = .skip := by kernel_rfl
theorem q8_111 : q8 [1, 1, 1] = .seq (q8 [1, 1, 1, 0]) (q8 [1, 1, 1, 1]) := by kernel_rfl
theorem q8_1110 : q8 [1, 1, 1, 0] = .region 4 (opsA (q8 [1, 1, 1, 0])) false := by kernel_rfl
theorem q8_1111 : q8 [1, 1, 1, 1] = .seq (q8 [1, 1, 1, 1, 0]) (q8 [1, 1, 1, 1, 1]) := by kernel_rfl
theorem q8_11110 : q8 [1, 1, 1, 1, 0] = .region 5 (opsA (q8 [1, 1, 1, 1, 0])) false := by kernel_rfl
theorem q8_11111 : q8 [1, 1, 1, 1, 1] = .seq (q8 [1, 1, 1, 1, 1, 0]) (q8 [1, 1, 1, 1, 1, 1]) := by kernel_rfl
theorem q8_111110 : q8 [1, 1, 1, 1, 1, 0] = .region 6 (opsA (q8 [1, 1, 1, 1, 1, 0])) false := by kernel_rfl
theorem q8_111111 : q8 [1, 1, 1, 1, 1, 1] = .seq (q8 [1, 1, 1, 1, 1, 1, 0]) (q8 [1, 1, 1, 1, 1, 1, 1]) := by kernel_rfl
theorem q8_1111110 : q8 [1, 1, 1, 1, 1, 1, 0] = .region 7 (opsA (q8 [1, 1, 1, 1, 1, 1, 0])) false := by kernel_rfl
theorem q8_1111111 : q8 [1, 1, 1, 1, 1, 1, 1] = .seq (q8 [1, 1, 1, 1, 1, 1, 1, 0]) (q8 [1, 1, 1, 1, 1, 1, 1, 1]) := by kernel_rfl
theorem q8_11111110 : q8 [1, 1, 1, 1, 1, 1, 1, 0] = .region 8 (opsA (q8 [1, 1, 1, 1, 1, 1, 1, 0])) false := by kernel_rfl
theorem q8_11111111 : q8 [1, 1, 1, 1, 1, 1, 1, 1] = .seq (q8 [1, 1, 1, 1, 1, 1, 1, 1, 0]) (q8 [1, 1, 1, 1, 1, 1, 1, 1, 1]) := by kernel_rfl
theorem q8_111111110 : q8 [1, 1, 1, 1, 1, 1, 1, 1, 0] = .region 9 (opsA (q8 [1, 1, 1, 1, 1, 1, 1, 1, 0])) false := by kernel_rfl
theorem q8_111111111 : q8 [1, 1, 1, 1, 1, 1, 1, 1, 1] = .seq (q8 [1, 1, 1, 1, 1, 1, 1, 1, 1, 0]) (q8 [1, 1, 1, 1, 1, 1, 1, 1, 1, 1]) := by kernel_rfl
theorem q8_1111111110 : q8 [1, 1, 1, 1, 1, 1, 1, 1, 1, 0] = .region 10 (opsA (q8 [1, 1, 1, 1, 1, 1, 1, 1, 1, 0])) false := by kernel_rfl
theorem q8_1111111111 : q8 [1, 1, 1, 1, 1, 1, 1, 1, 1, 1] = .ret := by kernel_rfl
theorem rs8 : Tryz.f8.results.toList = [.tmp 0] := rfl
attribute [go_sem] rs8

section
variable (Hh : Hearts K Tryz.prog)
include Hh
set_option maxHeartbeats 4000000 in
theorem awOk : ∃ h', CallOk K Tryz.prog 8 [] awH0 (.w (.c (.bool true))) h' := by
  have hX := x25_ok Hh
  have c1 : CallOk K Tryz.prog _ _ _ _ awH1 := CallOk.took fits Hh hX awrun1
  have c2 : CallOk K Tryz.prog _ _ _ _ awH2 := CallOk.took fits Hh hX awrun2
  have c3 : CallOk K Tryz.prog _ _ _ _ awH3 := CallOk.took fits Hh hX awrun3
  have c4 : CallOk K Tryz.prog _ _ _ _ awH4 := CallOk.took fits Hh hX awrun4
  have c5 : CallOk K Tryz.prog _ _ _ _ awH5 := CallOk.took fits Hh hX awrun5
  have c6 : CallOk K Tryz.prog _ _ _ _ awH6 := CallOk.took fits Hh hX awrun6
  have c7 : CallOk K Tryz.prog _ _ _ _ awH7 := CallOk.took fits Hh hX awrun7
  have c8 : CallOk K Tryz.prog _ _ _ _ awH8 := CallOk.took fits Hh hX awrun8
  refine ⟨awH8, ?_⟩
  refine CallOk.goes fits Hh (by kernel_rfl) (by kernel_rfl) (by kernel_rfl) (show Tryz.f8.body = some (q8 []) by kernel_rfl) rfl ?_
  show Goes K Tryz.prog 120 none _ _ _ _ _
  show Goes K Tryz.prog 120 none (q8 []) _ _ _ _
  rw [q8_]
  refine Goes.seq ?_
  show Goes K Tryz.prog 120 none (q8 [0]) _ _ _ _
  rw [q8_0]
  refine Goes.ops2 fits Hh E0_sound (by
    simp (config := { maxSteps := 1000000 }) (decide := true) (discharger := first | omega | (simp only [H.next_new, H.next_put, awn1, awn2, awn3, awn4, awn5, awn6, awn7, awn8] <;> omega) | decide) only [go_sem, q8, Tryz.f8, readRow, fillStruct, fillPart, partOf, opField, binG, List.set_cons_zero, List.set_cons_succ, List.take_succ_cons, List.drop_succ_cons, List.take_zero, List.drop_zero, List.take_nil, List.drop_nil, List.cons_append, List.singleton_append, loadIn, storeIn, reduceIte, Nat.reduceAdd, Nat.reduceMul, Nat.reduceSub, Nat.reduceDiv, Nat.reduceMod, Nat.reduceLT, Nat.reduceBEq, Int.reduceToNat, E1_skipN, awn1, awn2, awg2, awn3, awg4, awn4, awg6, awn5, awg8, awn6, awg10, awg11, awn7, awn8, read1, List.replicate_succ, List.replicate_zero]
    rfl) ?_
  show Goes K Tryz.prog 120 none (q8 [1]) _ _ _ _
  rw [q8_1]
  refine Goes.seq ?_
  show Goes K Tryz.prog 120 none (q8 [1, 0]) _ _ _ _
  rw [q8_10]
  refine Goes.ops2 fits Hh (E1_sound E0_sound c1) (by
    simp (config := { maxSteps := 1000000 }) (decide := true) (discharger := first | omega | (simp only [H.next_new, H.next_put, awn1, awn2, awn3, awn4, awn5, awn6, awn7, awn8] <;> omega) | decide) only [go_sem, q8, Tryz.f8, readRow, fillStruct, fillPart, partOf, opField, binG, List.set_cons_zero, List.set_cons_succ, List.take_succ_cons, List.drop_succ_cons, List.take_zero, List.drop_zero, List.take_nil, List.drop_nil, List.cons_append, List.singleton_append, loadIn, storeIn, reduceIte, Nat.reduceAdd, Nat.reduceMul, Nat.reduceSub, Nat.reduceDiv, Nat.reduceMod, Nat.reduceLT, Nat.reduceBEq, Int.reduceToNat, E1_skipN, E1_call, awn1, awn2, awg2, awn3, awg4, awn4, awg6, awn5, awg8, awn6, awg10, awg11, awn7, awn8, read1, List.replicate_succ, List.replicate_zero]
    rfl) ?_
  show Goes K Tryz.prog 120 none (q8 [1, 1]) _ _ _ _
  rw [q8_11]
  refine Goes.seq ?_
  show Goes K Tryz.prog 120 none (q8 [1, 1, 0]) _ _ _ _
  rw [q8_110]
  refine Goes.seq ?_
  show Goes K Tryz.prog 120 none (q8 [1, 1, 0, 0]) _ _ _ _
  rw [q8_1100]
  refine Goes.ops2 fits Hh E0_sound (by
    simp (config := { maxSteps := 1000000 }) (decide := true) (discharger := first | omega | (simp only [H.next_new, H.next_put, awn1, awn2, awn3, awn4, awn5, awn6, awn7, awn8] <;> omega) | decide) only [go_sem, q8, Tryz.f8, readRow, fillStruct, fillPart, partOf, opField, binG, List.set_cons_zero, List.set_cons_succ, List.take_succ_cons, List.drop_succ_cons, List.take_zero, List.drop_zero, List.take_nil, List.drop_nil, List.cons_append, List.singleton_append, loadIn, storeIn, reduceIte, Nat.reduceAdd, Nat.reduceMul, Nat.reduceSub, Nat.reduceDiv, Nat.reduceMod, Nat.reduceLT, Nat.reduceBEq, Int.reduceToNat, E1_skipN, awn1, awn2, awg2, awn3, awg4, awn4, awg6, awn5, awg8, awn6, awg10, awg11, awn7, awn8, read1, List.replicate_succ, List.replicate_zero]
    rfl) ?_
  show Goes K Tryz.prog 120 none (q8 [1, 1, 0, 1]) _ _ _ _
  rw [q8_1101]
  refine Goes.condE (by simp (config := { maxSteps := 1000000 }) (decide := true) (discharger := first | omega | (simp only [H.next_new, H.next_put, awn1, awn2, awn3, awn4, awn5, awn6, awn7, awn8] <;> omega) | decide) only [go_sem, readRow, fillStruct, fillPart, partOf, opField, binG, List.set_cons_zero, List.set_cons_succ, List.take_succ_cons, List.drop_succ_cons, List.take_zero, List.drop_zero, List.take_nil, List.drop_nil, List.cons_append, List.singleton_append, loadIn, storeIn, reduceIte, Nat.reduceAdd, Nat.reduceMul, Nat.reduceSub, Nat.reduceDiv, Nat.reduceMod, Nat.reduceLT, Nat.reduceBEq, Int.reduceToNat, E1_skipN, awn1, awn2, awg2, awn3, awg4, awn4, awg6, awn5, awg8, awn6, awg10, awg11, awn7, awn8, read1, List.replicate_succ, List.replicate_zero] <;> rfl) (by first | rfl | assumption | exact decide_eq_false (by omega) | (simp; omega)) ?_
  show Goes K Tryz.prog 120 none (q8 [1, 1, 0, 1, 4]) _ _ _ _
  rw [q8_11014]
  refine Goes.skip ?_
  show Goes K Tryz.prog 120 none (q8 [1, 1, 1]) _ _ _ _
  rw [q8_111]
  refine Goes.seq ?_
  show Goes K Tryz.prog 120 none (q8 [1, 1, 1, 0]) _ _ _ _
  rw [q8_1110]
  refine Goes.ops2 fits Hh (E1_sound E0_sound c2) (by
    simp (config := { maxSteps := 1000000 }) (decide := true) (discharger := first | omega | (simp only [H.next_new, H.next_put, awn1, awn2, awn3, awn4, awn5, awn6, awn7, awn8] <;> omega) | decide) only [go_sem, q8, Tryz.f8, readRow, fillStruct, fillPart, partOf, opField, binG, List.set_cons_zero, List.set_cons_succ, List.take_succ_cons, List.drop_succ_cons, List.take_zero, List.drop_zero, List.take_nil, List.drop_nil, List.cons_append, List.singleton_append, loadIn, storeIn, reduceIte, Nat.reduceAdd, Nat.reduceMul, Nat.reduceSub, Nat.reduceDiv, Nat.reduceMod, Nat.reduceLT, Nat.reduceBEq, Int.reduceToNat, E1_skipN, E1_call, awn1, awn2, awg2, awn3, awg4, awn4, awg6, awn5, awg8, awn6, awg10, awg11, awn7, awn8, read1, List.replicate_succ, List.replicate_zero]
    rfl) ?_
  show Goes K Tryz.prog 120 none (q8 [1, 1, 1, 1]) _ _ _ _
  rw [q8_1111]
  refine Goes.seq ?_
  show Goes K Tryz.prog 120 none (q8 [1, 1, 1, 1, 0]) _ _ _ _
  rw [q8_11110]
  refine Goes.ops2 fits Hh (E1_sound E0_sound c3) (by
    simp only [q8, Tryz.f8, piece, part0, part1, part2, part2l, part3, part4, part5, part6, bodyOf, opsA]
    iterate 14 (refine evOps_step (by simp (config := { maxSteps := 1000000 }) (decide := true) (discharger := first | omega | (simp only [H.next_new, H.next_put, awn1, awn2, awn3, awn4, awn5, awn6, awn7, awn8] <;> omega) | decide) only [go_sem, readRow, fillStruct, fillPart, partOf, opField, binG, List.set_cons_zero, List.set_cons_succ, List.take_succ_cons, List.drop_succ_cons, List.take_zero, List.drop_zero, List.take_nil, List.drop_nil, List.cons_append, List.singleton_append, loadIn, storeIn, reduceIte, Nat.reduceAdd, Nat.reduceMul, Nat.reduceSub, Nat.reduceDiv, Nat.reduceMod, Nat.reduceLT, Nat.reduceBEq, Int.reduceToNat, E1_skipN, E1_call, awn1, awn2, awg2, awn3, awg4, awn4, awg6, awn5, awg8, awn6, awg10, awg11, awn7, awn8, read1, List.replicate_succ, List.replicate_zero] <;> rfl) ?_)
    exact evOps_done) ?_
  show Goes K Tryz.prog 120 none (q8 [1, 1, 1, 1, 1]) _ _ _ _
  rw [q8_11111]
  refine Goes.seq ?_
  show Goes K Tryz.prog 120 none (q8 [1, 1, 1, 1, 1, 0]) _ _ _ _
  rw [q8_111110]
  refine Goes.ops2 fits Hh (E1_sound E0_sound c4) (by
    simp only [q8, Tryz.f8, piece, part0, part1, part2, part2l, part3, part4, part5, part6, bodyOf, opsA]
    iterate 14 (refine evOps_step (by simp (config := { maxSteps := 1000000 }) (decide := true) (discharger := first | omega | (simp only [H.next_new, H.next_put, awn1, awn2, awn3, awn4, awn5, awn6, awn7, awn8] <;> omega) | decide) only [go_sem, readRow, fillStruct, fillPart, partOf, opField, binG, List.set_cons_zero, List.set_cons_succ, List.take_succ_cons, List.drop_succ_cons, List.take_zero, List.drop_zero, List.take_nil, List.drop_nil, List.cons_append, List.singleton_append, loadIn, storeIn, reduceIte, Nat.reduceAdd, Nat.reduceMul, Nat.reduceSub, Nat.reduceDiv, Nat.reduceMod, Nat.reduceLT, Nat.reduceBEq, Int.reduceToNat, E1_skipN, E1_call, awn1, awn2, awg2, awn3, awg4, awn4, awg6, awn5, awg8, awn6, awg10, awg11, awn7, awn8, read1, List.replicate_succ, List.replicate_zero] <;> rfl) ?_)
    exact evOps_done) ?_
  show Goes K Tryz.prog 120 none (q8 [1, 1, 1, 1, 1, 1]) _ _ _ _
  rw [q8_111111]
  refine Goes.seq ?_
  show Goes K Tryz.prog 120 none (q8 [1, 1, 1, 1, 1, 1, 0]) _ _ _ _
  rw [q8_1111110]
  refine Goes.ops2 fits Hh (E1_sound E0_sound c5) (by
    simp only [q8, Tryz.f8, piece, part0, part1, part2, part2l, part3, part4, part5, part6, bodyOf, opsA]
    iterate 14 (refine evOps_step (by simp (config := { maxSteps := 1000000 }) (decide := true) (discharger := first | omega | (simp only [H.next_new, H.next_put, awn1, awn2, awn3, awn4, awn5, awn6, awn7, awn8] <;> omega) | decide) only [go_sem, readRow, fillStruct, fillPart, partOf, opField, binG, List.set_cons_zero, List.set_cons_succ, List.take_succ_cons, List.drop_succ_cons, List.take_zero, List.drop_zero, List.take_nil, List.drop_nil, List.cons_append, List.singleton_append, loadIn, storeIn, reduceIte, Nat.reduceAdd, Nat.reduceMul, Nat.reduceSub, Nat.reduceDiv, Nat.reduceMod, Nat.reduceLT, Nat.reduceBEq, Int.reduceToNat, E1_skipN, E1_call, awn1, awn2, awg2, awn3, awg4, awn4, awg6, awn5, awg8, awn6, awg10, awg11, awn7, awn8, read1, List.replicate_succ, List.replicate_zero] <;> rfl) ?_)
    exact evOps_done) ?_
  show Goes K Tryz.prog 120 none (q8 [1, 1, 1, 1, 1, 1, 1]) _ _ _ _
  rw [q8_1111111]
  refine Goes.seq ?_
  show Goes K Tryz.prog 120 none (q8 [1, 1, 1, 1, 1, 1, 1, 0]) _ _ _ _
  rw [q8_11111110]
  refine Goes.ops2 fits Hh (E1_sound E0_sound c6) (by
    simp (config := { maxSteps := 1000000 }) (decide := true) (discharger := first | omega | (simp only [H.next_new, H.next_put, awn1, awn2, awn3, awn4, awn5, awn6, awn7, awn8] <;> omega) | decide) only [go_sem, q8, Tryz.f8, readRow, fillStruct, fillPart, partOf, opField, binG, List.set_cons_zero, List.set_cons_succ, List.take_succ_cons, List.drop_succ_cons, List.take_zero, List.drop_zero, List.take_nil, List.drop_nil, List.cons_append, List.singleton_append, loadIn, storeIn, reduceIte, Nat.reduceAdd, Nat.reduceMul, Nat.reduceSub, Nat.reduceDiv, Nat.reduceMod, Nat.reduceLT, Nat.reduceBEq, Int.reduceToNat, E1_skipN, E1_call, awn1, awn2, awg2, awn3, awg4, awn4, awg6, awn5, awg8, awn6, awg10, awg11, awn7, awn8, read1, List.replicate_succ, List.replicate_zero]
    rfl) ?_
  show Goes K Tryz.prog 120 none (q8 [1, 1, 1, 1, 1, 1, 1, 1]) _ _ _ _
  rw [q8_11111111]
  refine Goes.seq ?_
  show Goes K Tryz.prog 120 none (q8 [1, 1, 1, 1, 1, 1, 1, 1, 0]) _ _ _ _
  rw [q8_111111110]
  refine Goes.ops2 fits Hh (E1_sound E0_sound c7) (by
    simp only [q8, Tryz.f8, piece, part0, part1, part2, part2l, part3, part4, part5, part6, bodyOf, opsA]
    iterate 14 (refine evOps_step (by simp (config := { maxSteps := 1000000 }) (decide := true) (discharger := first | omega | (simp only [H.next_new, H.next_put, awn1, awn2, awn3, awn4, awn5, awn6, awn7, awn8] <;> omega) | decide) only [go_sem, readRow, fillStruct, fillPart, partOf, opField, binG, List.set_cons_zero, List.set_cons_succ, List.take_succ_cons, List.drop_succ_cons, List.take_zero, List.drop_zero, List.take_nil, List.drop_nil, List.cons_append, List.singleton_append, loadIn, storeIn, reduceIte, Nat.reduceAdd, Nat.reduceMul, Nat.reduceSub, Nat.reduceDiv, Nat.reduceMod, Nat.reduceLT, Nat.reduceBEq, Int.reduceToNat, E1_skipN, E1_call, awn1, awn2, awg2, awn3, awg4, awn4, awg6, awn5, awg8, awn6, awg10, awg11, awn7, awn8, read1, List.replicate_succ, List.replicate_zero] <;> rfl) ?_)
    exact evOps_done) ?_
  show Goes K Tryz.prog 120 none (q8 [1, 1, 1, 1, 1, 1, 1, 1, 1]) _ _ _ _
  rw [q8_111111111]
  refine Goes.seq ?_
  show Goes K Tryz.prog 120 none (q8 [1, 1, 1, 1, 1, 1, 1, 1, 1, 0]) _ _ _ _
  rw [q8_1111111110]
  refine Goes.ops2 fits Hh (E1_sound E0_sound c8) (by
    simp only [q8, Tryz.f8, piece, part0, part1, part2, part2l, part3, part4, part5, part6, bodyOf, opsA]
    iterate 46 (refine evOps_step (by simp (config := { maxSteps := 1000000 }) (decide := true) (discharger := first | omega | (simp only [H.next_new, H.next_put, awn1, awn2, awn3, awn4, awn5, awn6, awn7, awn8] <;> omega) | decide) only [go_sem, readRow, fillStruct, fillPart, partOf, opField, binG, List.set_cons_zero, List.set_cons_succ, List.take_succ_cons, List.drop_succ_cons, List.take_zero, List.drop_zero, List.take_nil, List.drop_nil, List.cons_append, List.singleton_append, loadIn, storeIn, reduceIte, Nat.reduceAdd, Nat.reduceMul, Nat.reduceSub, Nat.reduceDiv, Nat.reduceMod, Nat.reduceLT, Nat.reduceBEq, Int.reduceToNat, E1_skipN, E1_call, awn1, awn2, awg2, awn3, awg4, awn4, awg6, awn5, awg8, awn6, awg10, awg11, awn7, awn8, read1, List.replicate_succ, List.replicate_zero] <;> rfl) ?_)
    exact evOps_done) ?_
  show Goes K Tryz.prog 120 none (q8 [1, 1, 1, 1, 1, 1, 1, 1, 1, 1]) _ _ _ _
  rw [q8_1111111111]
  refine Goes.ret ?_
  simp (config := { maxSteps := 1000000 }) (decide := true) (discharger := first | omega | (simp only [H.next_new, H.next_put, awn1, awn2, awn3, awn4, awn5, awn6, awn7, awn8] <;> omega) | decide) only [go_sem, readRow, fillStruct, fillPart, partOf, opField, binG, List.set_cons_zero, List.set_cons_succ, List.take_succ_cons, List.drop_succ_cons, List.take_zero, List.drop_zero, List.take_nil, List.drop_nil, List.cons_append, List.singleton_append, loadIn, storeIn, reduceIte, Nat.reduceAdd, Nat.reduceMul, Nat.reduceSub, Nat.reduceDiv, Nat.reduceMod, Nat.reduceLT, Nat.reduceBEq, Int.reduceToNat, E1_skipN, awn1, awn2, awg2, awn3, awg4, awn4, awg6, awn5, awg8, awn6, awg10, awg11, awn7, awn8, read1, List.replicate_succ, List.replicate_zero] <;> rfl
noncomputable def xaw (args : List W) (h : Go.Ev.H) : Option (V × Go.Ev.H) := match args with
  | [] => bif isSteps (h.get 0) then some (.w (.c (.bool true)), h) else none
  | _ => none
theorem xaw_ok {args : List W} {h h' : Go.Ev.H} {v : V} (e : xaw args h = some (v, h')) : CallOk K Tryz.prog 8 args h v h' := by
  unfold xaw at e
  split at e
  · cases hb : isSteps (h.get 0) with
    | false => rw [hb] at e; cases e
    | true =>
      rw [hb] at e
      cases e
      obtain ⟨h1, c⟩ := awOk Hh
      exact CallOk.closedS (by kernel_rfl) c (by kernel_rfl) rfl rfl h (isSteps_eq hb)
  · cases e
noncomputable def xawK : Kn := fun f args h => bif Nat.beq f 8 then xaw args h else none
theorem xawK_ok : KnOk K Tryz.prog xawK := by
  intro f args h v h' e
  unfold xawK at e
  cases h1 : Nat.beq f 8 with
  | true =>
    rw [h1] at e
    obtain rfl := Nat.eq_of_beq_eq_true h1
    exact xaw_ok Hh e
  | false => rw [h1] at e; cases e
end
end Go.Proofs.YtnnjkhccbigmaaaGreatDoor

