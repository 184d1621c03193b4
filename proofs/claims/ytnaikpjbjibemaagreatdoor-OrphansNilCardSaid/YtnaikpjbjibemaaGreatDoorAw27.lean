/- quern/quernlaw27.awake: the walk. -/
import Derived.Test.YtnaikpjbjibemaaGreatDoorAw27r
set_option linter.unusedSimpArgs false
set_option linter.unusedVariables false
set_option linter.unusedSectionVars false
set_option maxRecDepth 100000
namespace Go.Proofs.YtnaikpjbjibemaaGreatDoor
open Go.Ev
theorem ty3 : K.types.get 3 = some ti3 := by kernel_rfl
theorem sz3 : ti3.size = 1 := by rfl
theorem ag3 : ti3.agg = false := by rfl
theorem de3 : ti3.desc = (.int .i64) := by rfl
theorem ze3 : ti3.zero = (.c (.int .i64 0)) := by rfl
theorem by3 : ti3.bytes = 8 := by rfl
theorem ke3 (k : IntKind) (n : Int) : keyT K 20 3 (.c (.int k n)) = true := by kernel_rfl
theorem ty4 : K.types.get 4 = some ti4 := by kernel_rfl
theorem sz4 : ti4.size = 1 := by rfl
theorem ag4 : ti4.agg = false := by rfl
theorem de4 : ti4.desc = .bool := by rfl
theorem ze4 : ti4.zero = (.c (.bool false)) := by rfl
theorem by4 : ti4.bytes = 1 := by rfl
theorem ty22 : K.types.get 22 = some ti22 := by kernel_rfl
theorem sz22 : ti22.size = 1 := by rfl
theorem ag22 : ti22.agg = false := by rfl
theorem de22 : ti22.desc = (.pointer 30) := by rfl
theorem ze22 : ti22.zero = (.c (.pnil)) := by rfl
theorem by22 : ti22.bytes = 8 := by rfl
theorem ty28 : K.types.get 28 = some ti28 := by kernel_rfl
theorem sz28 : ti28.size = 1 := by rfl
theorem ag28 : ti28.agg = false := by rfl
theorem de28 : ti28.desc = (.slice 3) := by rfl
theorem ze28 : ti28.zero = (.c (.snil)) := by rfl
theorem by28 : ti28.bytes = 24 := by rfl
theorem el28 : elemTI K 28 = some ti3 := by kernel_rfl
theorem ty32 : K.types.get 32 = some ti32 := by kernel_rfl
theorem sz32 : ti32.size = 1 := by rfl
theorem ag32 : ti32.agg = false := by rfl
theorem de32 : ti32.desc = (.int .i64) := by rfl
theorem ze32 : ti32.zero = (.c (.int .i64 0)) := by rfl
theorem by32 : ti32.bytes = 8 := by rfl
theorem ke32 (k : IntKind) (n : Int) : keyT K 20 32 (.c (.int k n)) = true := by kernel_rfl
theorem ty63 : K.types.get 63 = some ti63 := by kernel_rfl
theorem sz63 : ti63.size = 1 := by rfl
theorem ag63 : ti63.agg = false := by rfl
theorem de63 : ti63.desc = (.pointer 227) := by rfl
theorem ze63 : ti63.zero = (.c (.pnil)) := by rfl
theorem by63 : ti63.bytes = 8 := by rfl
theorem ty64 : K.types.get 64 = some ti64 := by kernel_rfl
theorem sz64 : ti64.size = 1 := by rfl
theorem ag64 : ti64.agg = false := by rfl
theorem de64 : ti64.desc = (.pointer 196) := by rfl
theorem ze64 : ti64.zero = (.c (.pnil)) := by rfl
theorem by64 : ti64.bytes = 8 := by rfl
theorem ty65 : K.types.get 65 = some ti65 := by kernel_rfl
theorem sz65 : ti65.size = 1 := by rfl
theorem ag65 : ti65.agg = false := by rfl
theorem de65 : ti65.desc = (.pointer 199) := by rfl
theorem ze65 : ti65.zero = (.c (.pnil)) := by rfl
theorem by65 : ti65.bytes = 8 := by rfl
theorem ty67 : K.types.get 67 = some ti67 := by kernel_rfl
theorem sz67 : ti67.size = 4 := by rfl
theorem ag67 : ti67.agg = true := by rfl
theorem fo67_0 : fieldOf K 67 0 = some (0, ti22) := by kernel_rfl
theorem fo67_1 : fieldOf K 67 1 = some (1, ti63) := by kernel_rfl
theorem fo67_2 : fieldOf K 67 2 = some (2, ti64) := by kernel_rfl
theorem fo67_3 : fieldOf K 67 3 = some (3, ti65) := by kernel_rfl
theorem bu67 (ps : List (Nat × W)) : opBuild K 67 (some ps) = gW (fillStruct K 67 ps ti67.zero.cells) := by kernel_rfl
theorem ze67 : ti67.zero = (.g ([.pnil, .pnil, .pnil, .pnil])) := by rfl
theorem by67 : ti67.bytes = 32 := by rfl
attribute [go_sem] ty3 sz3 ag3 de3 ze3 by3 ke3 ty4 sz4 ag4 de4 ze4 by4 ty22 sz22 ag22 de22 ze22 by22 ty28 sz28 ag28 de28 ze28 by28 el28 ty32 sz32 ag32 de32 ze32 by32 ke32 ty63 sz63 ag63 de63 ze63 by63 ty64 sz64 ag64 de64 ze64 by64 ty65 sz65 ag65 de65 ze65 by65 ty67 sz67 ag67 fo67_0 fo67_1 fo67_2 fo67_3 bu67 ze67 by67
noncomputable def q10 (p : List Nat) : Code := piece p (bodyOf Tryz.f10)
theorem q10_ : q10 [] = .seq (q10 [0]) (q10 [1]) := by kernel_rfl
theorem q10_0 : q10 [0] = .region 0 (opsA (q10 [0])) false := by kernel_rfl
theorem q10_1 : q10 [1] = .seq (q10 [1, 0]) (q10 [1, 1]) := by kernel_rfl
theorem q10_10 : q10 [1, 0] = .region 1 (opsA (q10 [1, 0])) false := by kernel_rfl
theorem q10_11 : q10 [1, 1] = .seq (q10 [1, 1, 0]) (q10 [1, 1, 1]) := by kernel_rfl
theorem q10_110 : q10 [1, 1, 0] = .seq (q10 [1, 1, 0, 0]) (q10 [1, 1, 0, 1]) := by kernel_rfl
theorem q10_1100 : q10 [1, 1, 0, 0] = .region 2 (opsA (q10 [1, 1, 0, 0])) false := by kernel_rfl
theorem q10_1101 : q10 [1, 1, 0, 1] = .cond (.tmp 18) (q10 [1, 1, 0, 1, 3]) (q10 [1, 1, 0, 1, 4]) := by kernel_rfl
theorem q10_11013 : q10 [1, 1, 0, 1, 3] = .seq (q10 [1, 1, 0, 1, 3, 0]) (q10 [1, 1, 0, 1, 3, 1]) := by kernel_rfl
theorem q10_110130 : q10 [1, 1, 0, 1, 3, 0] = .region 3 (opsA (q10 [1, 1, 0, 1, 3, 0])) false := by kernel_rfl
theorem q10_110131 : q10 [1, 1, 0, 1, 3, 1] = .ret := by kernel_rfl
theorem q10_11014 : q10 [1, 1, 0, 1, 4] = .skip := by kernel_rfl
theorem q10_111 : q10 [1, 1, 1] = .seq (q10 [1, 1, 1, 0]) (q10 [1, 1, 1, 1]) := by kernel_rfl
theorem q10_1110 : q10 [1, 1, 1, 0] = .region 4 (opsA (q10 [1, 1, 1, 0])) false := by kernel_rfl
theorem q10_1111 : q10 [1, 1, 1, 1] = .seq (q10 [1, 1, 1, 1, 0]) (q10 [1, 1, 1, 1, 1]) := by kernel_rfl
theorem q10_11110 : q10 [1, 1, 1, 1, 0] = .region 5 (opsA (q10 [1, 1, 1, 1, 0])) false := by kernel_rfl
theorem q10_11111 : q10 [1, 1, 1, 1, 1] = .seq (q10 [1, 1, 1, 1, 1, 0]) (q10 [1, 1, 1, 1, 1, 1]) := by kernel_rfl
theorem q10_111110 : q10 [1, 1, 1, 1, 1, 0] = .region 6 (opsA (q10 [1, 1, 1, 1, 1, 0])) false := by kernel_rfl
theorem q10_111111 : q10 [1, 1, 1, 1, 1, 1] = .seq (q10 [1, 1, 1, 1, 1, 1, 0]) (q10 [1, 1, 1, 1, 1, 1, 1]) := by kernel_rfl
theorem q10_1111110 : q10 [1, 1, 1, 1, 1, 1, 0] = .region 7 (opsA (q10 [1, 1, 1, 1, 1, 1, 0])) false := by kernel_rfl
theorem q10_1111111 : q10 [1, 1, 1, 1, 1, 1, 1] = .seq (q10 [1, 1, 1, 1, 1, 1, 1, 0]) (q10 [1, 1, 1, 1, 1, 1, 1, 1]) := by kernel_rfl
theorem q10_11111110 : q10 [1, 1, 1, 1, 1, 1, 1, 0] = .region 8 (opsA (q10 [1, 1, 1, 1, 1, 1, 1, 0])) false := by kernel_rfl
theorem q10_11111111 : q10 [1, 1, 1, 1, 1, 1, 1, 1] = .seq (q10 [1, 1, 1, 1, 1, 1, 1, 1, 0]) (q10 [1, 1, 1, 1, 1, 1, 1, 1, 1]) := by kernel_rfl
theorem q10_111111110 : q10 [1, 1, 1, 1, 1, 1, 1, 1, 0] = .region 9 (opsA (q10 [1, 1, 1, 1, 1, 1, 1, 1, 0])) false := by kernel_rfl
theorem q10_111111111 : q10 [1, 1, 1, 1, 1, 1, 1, 1, 1] = .seq (q10 [1, 1, 1, 1, 1, 1, 1, 1, 1, 0]) (q10 [1, 1, 1, 1, 1, 1, 1, 1, 1, 1]) := by kernel_rfl
theorem q10_1111111110 : q10 [1, 1, 1, 1, 1, 1, 1, 1, 1, 0] = .region 10 (opsA (q10 [1, 1, 1, 1, 1, 1, 1, 1, 1, 0])) false := by kernel_rfl
theorem q10_1111111111 : q10 [1, 1, 1, 1, 1, 1, 1, 1, 1, 1] = .seq (q10 [1, 1, 1, 1, 1, 1, 1, 1, 1, 1, 0]) (q10 [1, 1, 1, 1, 1, 1, 1, 1, 1, 1, 1]) := by kernel_rfl
theorem q10_11111111110 : q10 [1, 1, 1, 1, 1, 1, 1, 1, 1, 1, 0] = .region 11 (opsA (q10 [1, 1, 1, 1, 1, 1, 1, 1, 1, 1, 0])) false := by kernel_rfl
theorem q10_11111111111 : q10 [1, 1, 1, 1, 1, 1, 1, 1, 1, 1, 1] = .ret := by kernel_rfl
theorem rs10 : Tryz.f10.results.toList = [.tmp 0] := rfl
attribute [go_sem] rs10

section
variable (Hh : Hearts K Tryz.prog)
include Hh
set_option maxHeartbeats 4000000 in
theorem awOk : ∃ h', CallOk K Tryz.prog 10 [] awH0 (.w (.c (.bool true))) h' := by
  have hX := x2_ok Hh
  have c1 : CallOk K Tryz.prog _ _ _ _ awH1 := CallOk.took fits Hh hX awrun1
  have c2 : CallOk K Tryz.prog _ _ _ _ awH2 := CallOk.took fits Hh hX awrun2
  have c3 : CallOk K Tryz.prog _ _ _ _ awH3 := CallOk.took fits Hh hX awrun3
  have c4 : CallOk K Tryz.prog _ _ _ _ awH4 := CallOk.took fits Hh hX awrun4
  have c5 : CallOk K Tryz.prog _ _ _ _ awH5 := CallOk.took fits Hh hX awrun5
  have c6 : CallOk K Tryz.prog _ _ _ _ awH6 := CallOk.took fits Hh hX awrun6
  have c7 : CallOk K Tryz.prog _ _ _ _ awH7 := CallOk.took fits Hh hX awrun7
  have c8 : CallOk K Tryz.prog _ _ _ _ awH8 := CallOk.took fits Hh hX awrun8
  have c9 : CallOk K Tryz.prog _ _ _ _ awH9 := CallOk.took fits Hh hX awrun9
  have c10 : CallOk K Tryz.prog _ _ _ _ awH10 := CallOk.took fits Hh hX awrun10
  refine ⟨awH10, ?_⟩
  refine CallOk.goes fits Hh (by kernel_rfl) (by kernel_rfl) (by kernel_rfl) (show Tryz.f10.body = some (q10 []) by kernel_rfl) rfl ?_
  show Goes K Tryz.prog 81 none _ _ _ _ _
  show Goes K Tryz.prog 81 none (q10 []) _ _ _ _
  rw [q10_]
  refine Goes.seq ?_
  show Goes K Tryz.prog 81 none (q10 [0]) _ _ _ _
  rw [q10_0]
  refine Goes.ops2 fits Hh E0_sound (by
    simp (config := { maxSteps := 1000000 }) (decide := true) (discharger := first | omega | (simp only [H.next_new, H.next_put, awn1, awn2, awn3, awn4, awn5, awn6, awn7, awn8, awn9, awn10]; omega) | decide) only [go_sem, q10, Tryz.f10, readRow, fillStruct, fillPart, partOf, opField, binG, List.set_cons_zero, List.set_cons_succ, List.take_succ_cons, List.drop_succ_cons, List.take_zero, List.drop_zero, List.take_nil, List.drop_nil, List.cons_append, List.singleton_append, loadIn, storeIn, reduceIte, Nat.reduceAdd, Nat.reduceMul, Nat.reduceSub, Nat.reduceDiv, Nat.reduceMod, Nat.reduceLT, Nat.reduceBEq, Int.reduceToNat, E1_skipN, awn1, awn2, awn3, awg3, awn4, awg5, awn5, awg7, awn6, awg9, awn7, awg11, awn8, awg13, awn9, awn10, read1, List.replicate_succ, List.replicate_zero]
    rfl) ?_
  show Goes K Tryz.prog 81 none (q10 [1]) _ _ _ _
  rw [q10_1]
  refine Goes.seq ?_
  show Goes K Tryz.prog 81 none (q10 [1, 0]) _ _ _ _
  rw [q10_10]
  refine Goes.ops2 fits Hh (E1_sound (E1_sound E0_sound c1) c2) (by
    simp (config := { maxSteps := 1000000 }) (decide := true) (discharger := first | omega | (simp only [H.next_new, H.next_put, awn1, awn2, awn3, awn4, awn5, awn6, awn7, awn8, awn9, awn10]; omega) | decide) only [go_sem, q10, Tryz.f10, readRow, fillStruct, fillPart, partOf, opField, binG, List.set_cons_zero, List.set_cons_succ, List.take_succ_cons, List.drop_succ_cons, List.take_zero, List.drop_zero, List.take_nil, List.drop_nil, List.cons_append, List.singleton_append, loadIn, storeIn, reduceIte, Nat.reduceAdd, Nat.reduceMul, Nat.reduceSub, Nat.reduceDiv, Nat.reduceMod, Nat.reduceLT, Nat.reduceBEq, Int.reduceToNat, E1_skipN, E1_call, awn1, awn2, awn3, awg3, awn4, awg5, awn5, awg7, awn6, awg9, awn7, awg11, awn8, awg13, awn9, awn10, read1, List.replicate_succ, List.replicate_zero]
    rfl) ?_
  show Goes K Tryz.prog 81 none (q10 [1, 1]) _ _ _ _
  rw [q10_11]
  refine Goes.seq ?_
  show Goes K Tryz.prog 81 none (q10 [1, 1, 0]) _ _ _ _
  rw [q10_110]
  refine Goes.seq ?_
  show Goes K Tryz.prog 81 none (q10 [1, 1, 0, 0]) _ _ _ _
  rw [q10_1100]
  refine Goes.ops2 fits Hh E0_sound (by
    simp (config := { maxSteps := 1000000 }) (decide := true) (discharger := first | omega | (simp only [H.next_new, H.next_put, awn1, awn2, awn3, awn4, awn5, awn6, awn7, awn8, awn9, awn10]; omega) | decide) only [go_sem, q10, Tryz.f10, readRow, fillStruct, fillPart, partOf, opField, binG, List.set_cons_zero, List.set_cons_succ, List.take_succ_cons, List.drop_succ_cons, List.take_zero, List.drop_zero, List.take_nil, List.drop_nil, List.cons_append, List.singleton_append, loadIn, storeIn, reduceIte, Nat.reduceAdd, Nat.reduceMul, Nat.reduceSub, Nat.reduceDiv, Nat.reduceMod, Nat.reduceLT, Nat.reduceBEq, Int.reduceToNat, E1_skipN, awn1, awn2, awn3, awg3, awn4, awg5, awn5, awg7, awn6, awg9, awn7, awg11, awn8, awg13, awn9, awn10, read1, List.replicate_succ, List.replicate_zero]
    rfl) ?_
  show Goes K Tryz.prog 81 none (q10 [1, 1, 0, 1]) _ _ _ _
  rw [q10_1101]
  refine Goes.condE (by simp (config := { maxSteps := 1000000 }) (decide := true) (discharger := first | omega | (simp only [H.next_new, H.next_put, awn1, awn2, awn3, awn4, awn5, awn6, awn7, awn8, awn9, awn10]; omega) | decide) only [go_sem, readRow, fillStruct, fillPart, partOf, opField, binG, List.set_cons_zero, List.set_cons_succ, List.take_succ_cons, List.drop_succ_cons, List.take_zero, List.drop_zero, List.take_nil, List.drop_nil, List.cons_append, List.singleton_append, loadIn, storeIn, reduceIte, Nat.reduceAdd, Nat.reduceMul, Nat.reduceSub, Nat.reduceDiv, Nat.reduceMod, Nat.reduceLT, Nat.reduceBEq, Int.reduceToNat, E1_skipN, awn1, awn2, awn3, awg3, awn4, awg5, awn5, awg7, awn6, awg9, awn7, awg11, awn8, awg13, awn9, awn10, read1, List.replicate_succ, List.replicate_zero] <;> rfl) (by first | rfl | assumption | exact decide_eq_false (by omega) | (simp; omega)) ?_
  show Goes K Tryz.prog 81 none (q10 [1, 1, 0, 1, 4]) _ _ _ _
  rw [q10_11014]
  refine Goes.skip ?_
  show Goes K Tryz.prog 81 none (q10 [1, 1, 1]) _ _ _ _
  rw [q10_111]
  refine Goes.seq ?_
  show Goes K Tryz.prog 81 none (q10 [1, 1, 1, 0]) _ _ _ _
  rw [q10_1110]
  refine Goes.ops2 fits Hh (E1_sound E0_sound c3) (by
    simp (config := { maxSteps := 1000000 }) (decide := true) (discharger := first | omega | (simp only [H.next_new, H.next_put, awn1, awn2, awn3, awn4, awn5, awn6, awn7, awn8, awn9, awn10]; omega) | decide) only [go_sem, q10, Tryz.f10, readRow, fillStruct, fillPart, partOf, opField, binG, List.set_cons_zero, List.set_cons_succ, List.take_succ_cons, List.drop_succ_cons, List.take_zero, List.drop_zero, List.take_nil, List.drop_nil, List.cons_append, List.singleton_append, loadIn, storeIn, reduceIte, Nat.reduceAdd, Nat.reduceMul, Nat.reduceSub, Nat.reduceDiv, Nat.reduceMod, Nat.reduceLT, Nat.reduceBEq, Int.reduceToNat, E1_skipN, E1_call, awn1, awn2, awn3, awg3, awn4, awg5, awn5, awg7, awn6, awg9, awn7, awg11, awn8, awg13, awn9, awn10, read1, List.replicate_succ, List.replicate_zero]
    rfl) ?_
  show Goes K Tryz.prog 81 none (q10 [1, 1, 1, 1]) _ _ _ _
  rw [q10_1111]
  refine Goes.seq ?_
  show Goes K Tryz.prog 81 none (q10 [1, 1, 1, 1, 0]) _ _ _ _
  rw [q10_11110]
  refine Goes.ops2 fits Hh (E1_sound E0_sound c4) (by
    simp (config := { maxSteps := 1000000 }) (decide := true) (discharger := first | omega | (simp only [H.next_new, H.next_put, awn1, awn2, awn3, awn4, awn5, awn6, awn7, awn8, awn9, awn10]; omega) | decide) only [go_sem, q10, Tryz.f10, readRow, fillStruct, fillPart, partOf, opField, binG, List.set_cons_zero, List.set_cons_succ, List.take_succ_cons, List.drop_succ_cons, List.take_zero, List.drop_zero, List.take_nil, List.drop_nil, List.cons_append, List.singleton_append, loadIn, storeIn, reduceIte, Nat.reduceAdd, Nat.reduceMul, Nat.reduceSub, Nat.reduceDiv, Nat.reduceMod, Nat.reduceLT, Nat.reduceBEq, Int.reduceToNat, E1_skipN, E1_call, awn1, awn2, awn3, awg3, awn4, awg5, awn5, awg7, awn6, awg9, awn7, awg11, awn8, awg13, awn9, awn10, read1, List.replicate_succ, List.replicate_zero]
    rfl) ?_
  show Goes K Tryz.prog 81 none (q10 [1, 1, 1, 1, 1]) _ _ _ _
  rw [q10_11111]
  refine Goes.seq ?_
  show Goes K Tryz.prog 81 none (q10 [1, 1, 1, 1, 1, 0]) _ _ _ _
  rw [q10_111110]
  refine Goes.ops2 fits Hh (E1_sound E0_sound c5) (by
    simp (config := { maxSteps := 1000000 }) (decide := true) (discharger := first | omega | (simp only [H.next_new, H.next_put, awn1, awn2, awn3, awn4, awn5, awn6, awn7, awn8, awn9, awn10]; omega) | decide) only [go_sem, q10, Tryz.f10, readRow, fillStruct, fillPart, partOf, opField, binG, List.set_cons_zero, List.set_cons_succ, List.take_succ_cons, List.drop_succ_cons, List.take_zero, List.drop_zero, List.take_nil, List.drop_nil, List.cons_append, List.singleton_append, loadIn, storeIn, reduceIte, Nat.reduceAdd, Nat.reduceMul, Nat.reduceSub, Nat.reduceDiv, Nat.reduceMod, Nat.reduceLT, Nat.reduceBEq, Int.reduceToNat, E1_skipN, E1_call, awn1, awn2, awn3, awg3, awn4, awg5, awn5, awg7, awn6, awg9, awn7, awg11, awn8, awg13, awn9, awn10, read1, List.replicate_succ, List.replicate_zero]
    rfl) ?_
  show Goes K Tryz.prog 81 none (q10 [1, 1, 1, 1, 1, 1]) _ _ _ _
  rw [q10_111111]
  refine Goes.seq ?_
  show Goes K Tryz.prog 81 none (q10 [1, 1, 1, 1, 1, 1, 0]) _ _ _ _
  rw [q10_1111110]
  refine Goes.ops2 fits Hh (E1_sound E0_sound c6) (by
    simp (config := { maxSteps := 1000000 }) (decide := true) (discharger := first | omega | (simp only [H.next_new, H.next_put, awn1, awn2, awn3, awn4, awn5, awn6, awn7, awn8, awn9, awn10]; omega) | decide) only [go_sem, q10, Tryz.f10, readRow, fillStruct, fillPart, partOf, opField, binG, List.set_cons_zero, List.set_cons_succ, List.take_succ_cons, List.drop_succ_cons, List.take_zero, List.drop_zero, List.take_nil, List.drop_nil, List.cons_append, List.singleton_append, loadIn, storeIn, reduceIte, Nat.reduceAdd, Nat.reduceMul, Nat.reduceSub, Nat.reduceDiv, Nat.reduceMod, Nat.reduceLT, Nat.reduceBEq, Int.reduceToNat, E1_skipN, E1_call, awn1, awn2, awn3, awg3, awn4, awg5, awn5, awg7, awn6, awg9, awn7, awg11, awn8, awg13, awn9, awn10, read1, List.replicate_succ, List.replicate_zero]
    rfl) ?_
  show Goes K Tryz.prog 81 none (q10 [1, 1, 1, 1, 1, 1, 1]) _ _ _ _
  rw [q10_1111111]
  refine Goes.seq ?_
  show Goes K Tryz.prog 81 none (q10 [1, 1, 1, 1, 1, 1, 1, 0]) _ _ _ _
  rw [q10_11111110]
  refine Goes.ops2 fits Hh (E1_sound E0_sound c7) (by
    simp (config := { maxSteps := 1000000 }) (decide := true) (discharger := first | omega | (simp only [H.next_new, H.next_put, awn1, awn2, awn3, awn4, awn5, awn6, awn7, awn8, awn9, awn10]; omega) | decide) only [go_sem, q10, Tryz.f10, readRow, fillStruct, fillPart, partOf, opField, binG, List.set_cons_zero, List.set_cons_succ, List.take_succ_cons, List.drop_succ_cons, List.take_zero, List.drop_zero, List.take_nil, List.drop_nil, List.cons_append, List.singleton_append, loadIn, storeIn, reduceIte, Nat.reduceAdd, Nat.reduceMul, Nat.reduceSub, Nat.reduceDiv, Nat.reduceMod, Nat.reduceLT, Nat.reduceBEq, Int.reduceToNat, E1_skipN, E1_call, awn1, awn2, awn3, awg3, awn4, awg5, awn5, awg7, awn6, awg9, awn7, awg11, awn8, awg13, awn9, awn10, read1, List.replicate_succ, List.replicate_zero]
    rfl) ?_
  show Goes K Tryz.prog 81 none (q10 [1, 1, 1, 1, 1, 1, 1, 1]) _ _ _ _
  rw [q10_11111111]
  refine Goes.seq ?_
  show Goes K Tryz.prog 81 none (q10 [1, 1, 1, 1, 1, 1, 1, 1, 0]) _ _ _ _
  rw [q10_111111110]
  refine Goes.ops2 fits Hh (E1_sound E0_sound c8) (by
    simp (config := { maxSteps := 1000000 }) (decide := true) (discharger := first | omega | (simp only [H.next_new, H.next_put, awn1, awn2, awn3, awn4, awn5, awn6, awn7, awn8, awn9, awn10]; omega) | decide) only [go_sem, q10, Tryz.f10, readRow, fillStruct, fillPart, partOf, opField, binG, List.set_cons_zero, List.set_cons_succ, List.take_succ_cons, List.drop_succ_cons, List.take_zero, List.drop_zero, List.take_nil, List.drop_nil, List.cons_append, List.singleton_append, loadIn, storeIn, reduceIte, Nat.reduceAdd, Nat.reduceMul, Nat.reduceSub, Nat.reduceDiv, Nat.reduceMod, Nat.reduceLT, Nat.reduceBEq, Int.reduceToNat, E1_skipN, E1_call, awn1, awn2, awn3, awg3, awn4, awg5, awn5, awg7, awn6, awg9, awn7, awg11, awn8, awg13, awn9, awn10, read1, List.replicate_succ, List.replicate_zero]
    rfl) ?_
  show Goes K Tryz.prog 81 none (q10 [1, 1, 1, 1, 1, 1, 1, 1, 1]) _ _ _ _
  rw [q10_111111111]
  refine Goes.seq ?_
  show Goes K Tryz.prog 81 none (q10 [1, 1, 1, 1, 1, 1, 1, 1, 1, 0]) _ _ _ _
  rw [q10_1111111110]
  refine Goes.ops2 fits Hh (E1_sound E0_sound c9) (by
    simp (config := { maxSteps := 1000000 }) (decide := true) (discharger := first | omega | (simp only [H.next_new, H.next_put, awn1, awn2, awn3, awn4, awn5, awn6, awn7, awn8, awn9, awn10]; omega) | decide) only [go_sem, q10, Tryz.f10, readRow, fillStruct, fillPart, partOf, opField, binG, List.set_cons_zero, List.set_cons_succ, List.take_succ_cons, List.drop_succ_cons, List.take_zero, List.drop_zero, List.take_nil, List.drop_nil, List.cons_append, List.singleton_append, loadIn, storeIn, reduceIte, Nat.reduceAdd, Nat.reduceMul, Nat.reduceSub, Nat.reduceDiv, Nat.reduceMod, Nat.reduceLT, Nat.reduceBEq, Int.reduceToNat, E1_skipN, E1_call, awn1, awn2, awn3, awg3, awn4, awg5, awn5, awg7, awn6, awg9, awn7, awg11, awn8, awg13, awn9, awn10, read1, List.replicate_succ, List.replicate_zero]
    rfl) ?_
  show Goes K Tryz.prog 81 none (q10 [1, 1, 1, 1, 1, 1, 1, 1, 1, 1]) _ _ _ _
  rw [q10_1111111111]
  refine Goes.seq ?_
  show Goes K Tryz.prog 81 none (q10 [1, 1, 1, 1, 1, 1, 1, 1, 1, 1, 0]) _ _ _ _
  rw [q10_11111111110]
  refine Goes.ops2 fits Hh (E1_sound E0_sound c10) (by
    simp only [q10, Tryz.f10, piece, part0, part1, part2, part2l, part3, part4, part5, part6, bodyOf, opsA]
    iterate 30 (refine evOps_step (by simp (config := { maxSteps := 1000000 }) (decide := true) (discharger := first | omega | (simp only [H.next_new, H.next_put, awn1, awn2, awn3, awn4, awn5, awn6, awn7, awn8, awn9, awn10]; omega) | decide) only [go_sem, readRow, fillStruct, fillPart, partOf, opField, binG, List.set_cons_zero, List.set_cons_succ, List.take_succ_cons, List.drop_succ_cons, List.take_zero, List.drop_zero, List.take_nil, List.drop_nil, List.cons_append, List.singleton_append, loadIn, storeIn, reduceIte, Nat.reduceAdd, Nat.reduceMul, Nat.reduceSub, Nat.reduceDiv, Nat.reduceMod, Nat.reduceLT, Nat.reduceBEq, Int.reduceToNat, E1_skipN, E1_call, awn1, awn2, awn3, awg3, awn4, awg5, awn5, awg7, awn6, awg9, awn7, awg11, awn8, awg13, awn9, awn10, read1, List.replicate_succ, List.replicate_zero] <;> rfl) ?_)
    exact evOps_done) ?_
  show Goes K Tryz.prog 81 none (q10 [1, 1, 1, 1, 1, 1, 1, 1, 1, 1, 1]) _ _ _ _
  rw [q10_11111111111]
  refine Goes.ret ?_
  simp (config := { maxSteps := 1000000 }) (decide := true) (discharger := first | omega | (simp only [H.next_new, H.next_put, awn1, awn2, awn3, awn4, awn5, awn6, awn7, awn8, awn9, awn10]; omega) | decide) only [go_sem, readRow, fillStruct, fillPart, partOf, opField, binG, List.set_cons_zero, List.set_cons_succ, List.take_succ_cons, List.drop_succ_cons, List.take_zero, List.drop_zero, List.take_nil, List.drop_nil, List.cons_append, List.singleton_append, loadIn, storeIn, reduceIte, Nat.reduceAdd, Nat.reduceMul, Nat.reduceSub, Nat.reduceDiv, Nat.reduceMod, Nat.reduceLT, Nat.reduceBEq, Int.reduceToNat, E1_skipN, awn1, awn2, awn3, awg3, awn4, awg5, awn5, awg7, awn6, awg9, awn7, awg11, awn8, awg13, awn9, awn10, read1, List.replicate_succ, List.replicate_zero] <;> rfl
noncomputable def xaw (args : List W) (h : Go.Ev.H) : Option (V × Go.Ev.H) := match args with
  | [] => bif isSteps (h.get 0) then some (.w (.c (.bool true)), h) else none
  | _ => none
theorem xaw_ok {args : List W} {h h' : Go.Ev.H} {v : V} (e : xaw args h = some (v, h')) : CallOk K Tryz.prog 10 args h v h' := by
  unfold xaw at e
  split at e
  · cases hb : isSteps (h.get 0) with
    | false => rw [hb] at e; cases e
    | true =>
      rw [hb] at e
      cases e
      obtain ⟨h1, c⟩ := awOk Hh
      exact CallOk.closedS (by kernel_rfl) c (by kernel_rfl) rfl rfl h (isSteps_eq hb)
  · cases e
noncomputable def xawK : Kn := fun f args h => bif Nat.beq f 10 then xaw args h else none
theorem xawK_ok : KnOk K Tryz.prog xawK := by
  intro f args h v h' e
  unfold xawK at e
  cases h1 : Nat.beq f 10 with
  | true =>
    rw [h1] at e
    obtain rfl := Nat.eq_of_beq_eq_true h1
    exact xaw_ok Hh e
  | false => rw [h1] at e; cases e
end
end Go.Proofs.YtnaikpjbjibemaaGreatDoor

