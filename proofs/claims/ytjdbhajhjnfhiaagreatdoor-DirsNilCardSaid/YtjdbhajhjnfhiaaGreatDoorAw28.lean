/- quern/quernlaw28.awake: the walk. -/
import Derived.Test.YtjdbhajhjnfhiaaGreatDoorAw28r
set_option linter.unusedSimpArgs false
set_option linter.unusedVariables false
set_option linter.unusedSectionVars false
set_option maxRecDepth 100000
namespace Go.Proofs.YtjdbhajhjnfhiaaGreatDoor
open Go.Ev
theorem ty9 : K.types.get 9 = some ti9 := by kernel_rfl
theorem sz9 : ti9.size = 1 := by rfl
theorem ag9 : ti9.agg = false := by rfl
theorem de9 : ti9.desc = .string := by rfl
theorem ze9 : ti9.zero = (.c (.str [])) := by rfl
theorem by9 : ti9.bytes = 16 := by rfl
theorem ty23 : K.types.get 23 = some ti23 := by kernel_rfl
theorem sz23 : ti23.size = 11 := by rfl
theorem ag23 : ti23.agg = true := by rfl
theorem de23 : ti23.desc = (.array 11 22) := by rfl
theorem ze23 : ti23.zero = (.g ((List.replicate 11 (.int .u32 0)))) := by rfl
theorem by23 : ti23.bytes = 44 := by rfl
theorem eq23 (a b : List C) : eqT K 20 23 (.g a) (.g b) = (bif true && Nat.beq a.length 11 && Nat.beq b.length 11 then eqInts a b else none) := by kernel_rfl
theorem ty25 : K.types.get 25 = some ti25 := by kernel_rfl
theorem sz25 : ti25.size = 16 := by rfl
theorem ag25 : ti25.agg = true := by rfl
theorem fo25_0 : fieldOf K 25 0 = some (0, ti5) := by kernel_rfl
theorem fo25_1 : fieldOf K 25 1 = some (1, ti3) := by kernel_rfl
theorem fo25_2 : fieldOf K 25 2 = some (2, ti22) := by kernel_rfl
theorem fo25_3 : fieldOf K 25 3 = some (3, ti3) := by kernel_rfl
theorem fo25_4 : fieldOf K 25 4 = some (4, ti23) := by kernel_rfl
theorem fo25_5 : fieldOf K 25 5 = some (15, ti22) := by kernel_rfl
theorem bu25 (ps : List (Nat × W)) : opBuild K 25 (some ps) = gW (fillStruct K 25 ps ti25.zero.cells) := by kernel_rfl
theorem ze25 : ti25.zero = (.g ([.int .u8 0, .int .i64 0, .int .u32 0, .int .i64 0, .int .u32 0, .int .u32 0, .int .u32 0, .int .u32 0, .int .u32 0, .int .u32 0, .int .u32 0, .int .u32 0, .int .u32 0, .int .u32 0, .int .u32 0, .int .u32 0])) := by rfl
theorem by25 : ti25.bytes = 80 := by rfl
theorem ty40 : K.types.get 40 = some ti40 := by kernel_rfl
theorem sz40 : ti40.size = 1 := by rfl
theorem ag40 : ti40.agg = false := by rfl
theorem de40 : ti40.desc = (.int .i64) := by rfl
theorem ze40 : ti40.zero = (.c (.int .i64 0)) := by rfl
theorem by40 : ti40.bytes = 8 := by rfl
theorem ke40 (k : IntKind) (n : Int) : keyT K 20 40 (.c (.int k n)) = true := by kernel_rfl
theorem ty43 : K.types.get 43 = some ti43 := by kernel_rfl
theorem sz43 : ti43.size = 1 := by rfl
theorem ag43 : ti43.agg = false := by rfl
theorem de43 : ti43.desc = (.slice 66) := by rfl
theorem ze43 : ti43.zero = (.c (.snil)) := by rfl
theorem by43 : ti43.bytes = 24 := by rfl
theorem el43 : elemTI K 43 = some ti66 := by kernel_rfl
theorem ty66 : K.types.get 66 = some ti66 := by kernel_rfl
theorem sz66 : ti66.size = 2 := by rfl
theorem ag66 : ti66.agg = true := by rfl
theorem fo66_0 : fieldOf K 66 0 = some (0, ti9) := by kernel_rfl
theorem fo66_1 : fieldOf K 66 1 = some (1, ti3) := by kernel_rfl
theorem bu66 (ps : List (Nat × W)) : opBuild K 66 (some ps) = gW (fillStruct K 66 ps ti66.zero.cells) := by kernel_rfl
theorem ze66 : ti66.zero = (.g ([.str [], .int .i64 0])) := by rfl
theorem by66 : ti66.bytes = 24 := by rfl
attribute [go_sem] ty9 sz9 ag9 de9 ze9 by9 ty23 sz23 ag23 de23 ze23 by23 eq23 ty25 sz25 ag25 fo25_0 fo25_1 fo25_2 fo25_3 fo25_4 fo25_5 bu25 ze25 by25 ty40 sz40 ag40 de40 ze40 by40 ke40 ty43 sz43 ag43 de43 ze43 by43 el43 ty66 sz66 ag66 fo66_0 fo66_1 bu66 ze66 by66
noncomputable def q10 (p : List Nat) : Code := piece p (bodyOf Tryz.f10)
theorem q10_ : q10 [] = .seq (q10 [0]) (q10 [1]) := by kernel_rfl
theorem q10_0 : q10 [0] = .region 0 (opsA (q10 [0])) false := by kernel_rfl
theorem q10_1 : q10 [1] = .seq (q10 [1, 0]) (q10 [1, 1]) := by kernel_rfl
theorem q10_10 : q10 [1, 0] = .region 1 (opsA (q10 [1, 0])) false := by kernel_rfl
theorem q10_11 : q10 [1, 1] = .seq (q10 [1, 1, 0]) (q10 [1, 1, 1]) := by kernel_rfl
theorem q10_110 : q10 [1, 1, 0] = .seq (q10 [1, 1, 0, 0]) (q10 [1, 1, 0, 1]) := by kernel_rfl
theorem q10_1100 : q10 [1, 1, 0, 0] = .region 2 (opsA (q10 [1, 1, 0, 0])) false := by kernel_rfl
theorem q10_1101 : q10 [1, 1, 0, 1] = .cond (.tmp 33) (q10 [1, 1, 0, 1, 3]) (q10 [1, 1, 0, 1, 4]) := by kernel_rfl
theorem q10_11013 : q10 [1, 1, 0, 1, 3] = .seq (q10 [1, 1, 0, 1, 3, 0]) (q10 [1, 1, 0, 1, 3, 1]) := by kernel_rfl
theorem q10_110130 : q10 [1, 1, 0, 1, 3, 0] = .region 3 (opsA (q10 [1, 1, 0, 1, 3, 0])) false := by kernel_rfl
theorem q10_110131 : q10 [1, 1, 0, 1, 3, 1] = .ret := by kernel_rfl
theorem q10_11014 : q10 [1, 1, 0, 1, 4] = .skip := by kernel_rfl
theorem q10_111 : q10 [1, 1, 1] = .seq (q10 [1, 1, 1, 0]) (q10 [1, 1, 1, 1]) := by kernel_rfl
theorem q10_1110 : q10 [1, 1, 1, 0] = .region 4 (opsA (q10 [1, 1, 1, 0])) false := by kernel_rfl
theorem q10_1111 : q10 [1, 1, 1, 1] = .seq (q10 [1, 1, 1, 1, 0]) (q10 [1, 1, 1, 1, 1]) := by kernel_rfl
theorem q10_11110 : q10 [1, 1, 1, 1, 0] = .region 5 (opsA (q10 [1, 1, 1, 1, 0])) false := by kernel_rfl
theorem q10_11111 : q10 [1, 1, 1, 1, 1] = .seq (q10 [1, 1, 1, 1, 1, 0]) (q10 [1, 1, 1, 1, 1, 1]) := by kernel_rfl
theorem q10_111110 : q10 [1, 1, 1, 1, 1, 0] = .region 6 (opsA (q10 [1, 1, 1, 1, 1, 0])) false := by kernel_rfl
theorem q10_111111 : q10 [1, 1, 1, 1, 1, 1] = .seq (q10 [1, 1, 1, 1, 1, 1, 0]) (q10 [1, 1, 1, 1, 1, 1, 1]) := by kernel_rfl
theorem q10_1111110 : q10 [1, 1, 1, 1, 1, 1, 0] = .region 7 (opsA (q10 [1, 1, 1, 1, 1, 1, 0])) false := by kernel_rfl
theorem q10_1111111 : q10 [1, 1, 1, 1, 1, 1, 1] = .seq (q10 [1, 1, 1, 1, 1, 1, 1, 0]) (q10 [1, 1, 1, 1, 1, 1, 1, 1]) := by kernel_rfl
theorem q10_11111110 : q10 [1, 1, 1, 1, 1, 1, 1, 0] = .region 8 (opsA (q10 [1, 1, 1, 1, 1, 1, 1, 0])) false := by kernel_rfl
theorem q10_11111111 : q10 [1, 1, 1, 1, 1, 1, 1, 1] = .seq (q10 [1, 1, 1, 1, 1, 1, 1, 1, 0]) (q10 [1, 1, 1, 1, 1, 1, 1, 1, 1]) := by kernel_rfl
theorem q10_111111110 : q10 [1, 1, 1, 1, 1, 1, 1, 1, 0] = .region 9 (opsA (q10 [1, 1, 1, 1, 1, 1, 1, 1, 0])) false := by kernel_rfl
theorem q10_111111111 : q10 [1, 1, 1, 1, 1, 1, 1, 1, 1] = .seq (q10 [1, 1, 1, 1, 1, 1, 1, 1, 1, 0]) (q10 [1, 1, 1, 1, 1, 1, 1, 1, 1, 1]) := by kernel_rfl
theorem q10_1111111110 : q10 [1, 1, 1, 1, 1, 1, 1, 1, 1, 0] = .region 10 (opsA (q10 [1, 1, 1, 1, 1, 1, 1, 1, 1, 0])) false := by kernel_rfl
theorem q10_1111111111 : q10 [1, 1, 1, 1, 1, 1, 1, 1, 1, 1] = .seq (q10 [1, 1, 1, 1, 1, 1, 1, 1, 1, 1, 0]) (q10 [1, 1, 1, 1, 1, 1, 1, 1, 1, 1, 1]) := by kernel_rfl
theorem q10_11111111110 : q10 [1, 1, 1, 1, 1, 1, 1, 1, 1, 1, 0] = .region 11 (opsA (q10 [1, 1, 1, 1, 1, 1, 1, 1, 1, 1, 0])) false := by kernel_rfl
theorem q10_11111111111 : q10 [1, 1, 1, 1, 1, 1, 1, 1, 1, 1, 1] = .seq (q10 [1, 1, 1, 1, 1, 1, 1, 1, 1, 1, 1, 0]) (q10 [1, 1, 1, 1, 1, 1, 1, 1, 1, 1, 1, 1]) := by kernel_rfl
theorem q10_111111111110 : q10 [1, 1, 1, 1, 1, 1, 1, 1, 1, 1, 1, 0] = .region 12 (opsA (q10 [1, 1, 1, 1, 1, 1, 1, 1, 1, 1, 1, 0])) false := by kernel_rfl
theorem q10_111111111111 : q10 [1, 1, 1, 1, 1, 1, 1, 1, 1, 1, 1, 1] = .seq (q10 [1, 1, 1, 1, 1, 1, 1, 1, 1, 1, 1, 1, 0]) (q10 [1, 1, 1, 1, 1, 1, 1, 1, 1, 1, 1, 1, 1]) := by kernel_rfl
theorem q10_1111111111110 : q10 [1, 1, 1, 1, 1, 1, 1, 1, 1, 1, 1, 1, 0] = .region 13 (opsA (q10 [1, 1, 1, 1, 1, 1, 1, 1, 1, 1, 1, 1, 0])) false := by kernel_rfl
theorem q10_1111111111111 : q10 [1, 1, 1, 1, 1, 1, 1, 1, 1, 1, 1, 1, 1] = .seq (q10 [1, 1, 1, 1, 1, 1, 1, 1, 1, 1, 1, 1, 1, 0]) (q10 [1, 1, 1, 1, 1, 1, 1, 1, 1, 1, 1, 1, 1, 1]) := by kernel_rfl
theorem q10_11111111111110 : q10 [1, 1, 1, 1, 1, 1, 1, 1, 1, 1, 1, 1, 1, 0] = .region 14 (opsA (q10 [1, 1, 1, 1, 1, 1, 1, 1, 1, 1, 1, 1, 1, 0])) false := by kernel_rfl
theorem q10_11111111111111 : q10 [1, 1, 1, 1, 1, 1, 1, 1, 1, 1, 1, 1, 1, 1] = .ret := by kernel_rfl
theorem rs10 : Tryz.f10.results.toList = [.tmp 0] := rfl
attribute [go_sem] rs10

section
variable (Hh : Hearts K Tryz.prog)
include Hh
set_option maxHeartbeats 4000000 in
theorem awOk : ∃ h', CallOk K Tryz.prog 10 [] awH0 (.w (.c (.bool true))) h' := by
  have hX := x28_ok Hh
  have c1 : CallOk K Tryz.prog _ _ _ _ awH1 := CallOk.took fits Hh hX awrun1
  have c2 : CallOk K Tryz.prog _ _ _ _ awH2 := CallOk.took fits Hh hX awrun2
  have c3 : CallOk K Tryz.prog _ _ _ _ awH3 := CallOk.took fits Hh hX awrun3
  have c4 : CallOk K Tryz.prog _ _ _ _ awH4 := CallOk.took fits Hh hX awrun4
  have c5 : CallOk K Tryz.prog _ _ _ _ awH5 := CallOk.took fits Hh hX awrun5
  have c6 : CallOk K Tryz.prog _ _ _ _ awH6 := CallOk.took fits Hh hX awrun6
  have c7 : CallOk K Tryz.prog _ _ _ _ awH7 := CallOk.took fits Hh hX awrun7
  have c8 : CallOk K Tryz.prog _ _ _ _ awH8 := CallOk.took fits Hh hX awrun8
  have c9 : CallOk K Tryz.prog _ _ _ _ awH9 := CallOk.took fits Hh hX awrun9
  have c10 : CallOk K Tryz.prog _ _ _ _ awH10 := CallOk.took fits Hh hX awrun10
  have c11 : CallOk K Tryz.prog _ _ _ _ awH11 := CallOk.took fits Hh hX awrun11
  have c12 : CallOk K Tryz.prog _ _ _ _ awH12 := CallOk.took fits Hh hX awrun12
  have c13 : CallOk K Tryz.prog _ _ _ _ awH13 := CallOk.took fits Hh hX awrun13
  have c14 : CallOk K Tryz.prog _ _ _ _ awH14 := CallOk.took fits Hh hX awrun14
  have c15 : CallOk K Tryz.prog _ _ _ _ awH15 := CallOk.took fits Hh hX awrun15
  obtain ⟨v, h', c, rfl⟩ : ∃ v h', CallOk K Tryz.prog 10 [] awH0 v h' ∧ v = .w (.c (.bool true)) := by
   refine CallOk.goesE fits Hh (by kernel_rfl) (by kernel_rfl) (by kernel_rfl) (show Tryz.f10.body = some (q10 []) by kernel_rfl) rfl ?_
   show Goes K Tryz.prog 155 none _ _ _ _ _
   show Goes K Tryz.prog 155 none (q10 []) _ _ _ _
   rw [q10_]
   refine Goes.seq ?_
   show Goes K Tryz.prog 155 none (q10 [0]) _ _ _ _
   rw [q10_0]
   refine Goes.ops2 fits Hh E0_sound (by
     simp (config := { maxSteps := 1000000 }) (decide := true) (discharger := first | omega | (simp only [H.next_new, H.next_put, awn1, awn2, awn3, awn4, awn5, awn6, awn7, awn8, awn9, awn10, awn11, awn12, awn13, awn14, awn15] <;> omega) | decide) only [go_sem, q10, Tryz.f10, readRow, fillStruct, fillPart, partOf, opField, binG, List.set_cons_zero, List.set_cons_succ, List.take_succ_cons, List.drop_succ_cons, List.take_zero, List.drop_zero, List.take_nil, List.drop_nil, List.cons_append, List.singleton_append, loadIn, storeIn, reduceIte, Nat.reduceAdd, Nat.reduceMul, Nat.reduceSub, Nat.reduceDiv, Nat.reduceMod, Nat.reduceLT, Nat.reduceBEq, Int.reduceToNat, E1_skipN, awn1, awn2, awn3, awn4, awn5, awn6, awn7, awn8, awn9, awn10, awn11, awn12, awn13, awn14, awn15, awg15, awe16, read1, List.replicate_succ, List.replicate_zero]
     rfl) ?_
   show Goes K Tryz.prog 155 none (q10 [1]) _ _ _ _
   rw [q10_1]
   refine Goes.seq ?_
   show Goes K Tryz.prog 155 none (q10 [1, 0]) _ _ _ _
   rw [q10_10]
   refine Goes.ops2 fits Hh (E1_sound E0_sound c1) (by
     simp (config := { maxSteps := 1000000 }) (decide := true) (discharger := first | omega | (simp only [H.next_new, H.next_put, awn1, awn2, awn3, awn4, awn5, awn6, awn7, awn8, awn9, awn10, awn11, awn12, awn13, awn14, awn15] <;> omega) | decide) only [go_sem, q10, Tryz.f10, readRow, fillStruct, fillPart, partOf, opField, binG, List.set_cons_zero, List.set_cons_succ, List.take_succ_cons, List.drop_succ_cons, List.take_zero, List.drop_zero, List.take_nil, List.drop_nil, List.cons_append, List.singleton_append, loadIn, storeIn, reduceIte, Nat.reduceAdd, Nat.reduceMul, Nat.reduceSub, Nat.reduceDiv, Nat.reduceMod, Nat.reduceLT, Nat.reduceBEq, Int.reduceToNat, E1_skipN, E1_call, awn1, awn2, awn3, awn4, awn5, awn6, awn7, awn8, awn9, awn10, awn11, awn12, awn13, awn14, awn15, awg15, awe16, read1, List.replicate_succ, List.replicate_zero]
     rfl) ?_
   show Goes K Tryz.prog 155 none (q10 [1, 1]) _ _ _ _
   rw [q10_11]
   refine Goes.seq ?_
   show Goes K Tryz.prog 155 none (q10 [1, 1, 0]) _ _ _ _
   rw [q10_110]
   refine Goes.seq ?_
   show Goes K Tryz.prog 155 none (q10 [1, 1, 0, 0]) _ _ _ _
   rw [q10_1100]
   refine Goes.ops2 fits Hh (E1_sound E0_sound c2) (by
     simp (config := { maxSteps := 1000000 }) (decide := true) (discharger := first | omega | (simp only [H.next_new, H.next_put, awn1, awn2, awn3, awn4, awn5, awn6, awn7, awn8, awn9, awn10, awn11, awn12, awn13, awn14, awn15] <;> omega) | decide) only [go_sem, q10, Tryz.f10, readRow, fillStruct, fillPart, partOf, opField, binG, List.set_cons_zero, List.set_cons_succ, List.take_succ_cons, List.drop_succ_cons, List.take_zero, List.drop_zero, List.take_nil, List.drop_nil, List.cons_append, List.singleton_append, loadIn, storeIn, reduceIte, Nat.reduceAdd, Nat.reduceMul, Nat.reduceSub, Nat.reduceDiv, Nat.reduceMod, Nat.reduceLT, Nat.reduceBEq, Int.reduceToNat, E1_skipN, E1_call, awn1, awn2, awn3, awn4, awn5, awn6, awn7, awn8, awn9, awn10, awn11, awn12, awn13, awn14, awn15, awg15, awe16, read1, List.replicate_succ, List.replicate_zero]
     rfl) ?_
   show Goes K Tryz.prog 155 none (q10 [1, 1, 0, 1]) _ _ _ _
   rw [q10_1101]
   refine Goes.condE (by simp (config := { maxSteps := 1000000 }) (decide := true) (discharger := first | omega | (simp only [H.next_new, H.next_put, awn1, awn2, awn3, awn4, awn5, awn6, awn7, awn8, awn9, awn10, awn11, awn12, awn13, awn14, awn15] <;> omega) | decide) only [go_sem, readRow, fillStruct, fillPart, partOf, opField, binG, List.set_cons_zero, List.set_cons_succ, List.take_succ_cons, List.drop_succ_cons, List.take_zero, List.drop_zero, List.take_nil, List.drop_nil, List.cons_append, List.singleton_append, loadIn, storeIn, reduceIte, Nat.reduceAdd, Nat.reduceMul, Nat.reduceSub, Nat.reduceDiv, Nat.reduceMod, Nat.reduceLT, Nat.reduceBEq, Int.reduceToNat, E1_skipN, awn1, awn2, awn3, awn4, awn5, awn6, awn7, awn8, awn9, awn10, awn11, awn12, awn13, awn14, awn15, awg15, awe16, read1, List.replicate_succ, List.replicate_zero] <;> rfl) (by first | rfl | assumption | exact decide_eq_false (by omega) | (simp; omega)) ?_
   show Goes K Tryz.prog 155 none (q10 [1, 1, 0, 1, 4]) _ _ _ _
   rw [q10_11014]
   refine Goes.skip ?_
   show Goes K Tryz.prog 155 none (q10 [1, 1, 1]) _ _ _ _
   rw [q10_111]
   refine Goes.seq ?_
   show Goes K Tryz.prog 155 none (q10 [1, 1, 1, 0]) _ _ _ _
   rw [q10_1110]
   refine Goes.ops2 fits Hh (E1_sound E0_sound c3) (by
     simp (config := { maxSteps := 1000000 }) (decide := true) (discharger := first | omega | (simp only [H.next_new, H.next_put, awn1, awn2, awn3, awn4, awn5, awn6, awn7, awn8, awn9, awn10, awn11, awn12, awn13, awn14, awn15] <;> omega) | decide) only [go_sem, q10, Tryz.f10, readRow, fillStruct, fillPart, partOf, opField, binG, List.set_cons_zero, List.set_cons_succ, List.take_succ_cons, List.drop_succ_cons, List.take_zero, List.drop_zero, List.take_nil, List.drop_nil, List.cons_append, List.singleton_append, loadIn, storeIn, reduceIte, Nat.reduceAdd, Nat.reduceMul, Nat.reduceSub, Nat.reduceDiv, Nat.reduceMod, Nat.reduceLT, Nat.reduceBEq, Int.reduceToNat, E1_skipN, E1_call, awn1, awn2, awn3, awn4, awn5, awn6, awn7, awn8, awn9, awn10, awn11, awn12, awn13, awn14, awn15, awg15, awe16, read1, List.replicate_succ, List.replicate_zero]
     rfl) ?_
   show Goes K Tryz.prog 155 none (q10 [1, 1, 1, 1]) _ _ _ _
   rw [q10_1111]
   refine Goes.seq ?_
   show Goes K Tryz.prog 155 none (q10 [1, 1, 1, 1, 0]) _ _ _ _
   rw [q10_11110]
   refine Goes.ops2 fits Hh (E1_sound E0_sound c4) (by
     simp (config := { maxSteps := 1000000 }) (decide := true) (discharger := first | omega | (simp only [H.next_new, H.next_put, awn1, awn2, awn3, awn4, awn5, awn6, awn7, awn8, awn9, awn10, awn11, awn12, awn13, awn14, awn15] <;> omega) | decide) only [go_sem, q10, Tryz.f10, readRow, fillStruct, fillPart, partOf, opField, binG, List.set_cons_zero, List.set_cons_succ, List.take_succ_cons, List.drop_succ_cons, List.take_zero, List.drop_zero, List.take_nil, List.drop_nil, List.cons_append, List.singleton_append, loadIn, storeIn, reduceIte, Nat.reduceAdd, Nat.reduceMul, Nat.reduceSub, Nat.reduceDiv, Nat.reduceMod, Nat.reduceLT, Nat.reduceBEq, Int.reduceToNat, E1_skipN, E1_call, awn1, awn2, awn3, awn4, awn5, awn6, awn7, awn8, awn9, awn10, awn11, awn12, awn13, awn14, awn15, awg15, awe16, read1, List.replicate_succ, List.replicate_zero]
     rfl) ?_
   show Goes K Tryz.prog 155 none (q10 [1, 1, 1, 1, 1]) _ _ _ _
   rw [q10_11111]
   refine Goes.seq ?_
   show Goes K Tryz.prog 155 none (q10 [1, 1, 1, 1, 1, 0]) _ _ _ _
   rw [q10_111110]
   refine Goes.ops2 fits Hh (E1_sound (E1_sound E0_sound c5) c6) (by
     simp (config := { maxSteps := 1000000 }) (decide := true) (discharger := first | omega | (simp only [H.next_new, H.next_put, awn1, awn2, awn3, awn4, awn5, awn6, awn7, awn8, awn9, awn10, awn11, awn12, awn13, awn14, awn15] <;> omega) | decide) only [go_sem, q10, Tryz.f10, readRow, fillStruct, fillPart, partOf, opField, binG, List.set_cons_zero, List.set_cons_succ, List.take_succ_cons, List.drop_succ_cons, List.take_zero, List.drop_zero, List.take_nil, List.drop_nil, List.cons_append, List.singleton_append, loadIn, storeIn, reduceIte, Nat.reduceAdd, Nat.reduceMul, Nat.reduceSub, Nat.reduceDiv, Nat.reduceMod, Nat.reduceLT, Nat.reduceBEq, Int.reduceToNat, E1_skipN, E1_call, awn1, awn2, awn3, awn4, awn5, awn6, awn7, awn8, awn9, awn10, awn11, awn12, awn13, awn14, awn15, awg15, awe16, read1, List.replicate_succ, List.replicate_zero]
     rfl) ?_
   show Goes K Tryz.prog 155 none (q10 [1, 1, 1, 1, 1, 1]) _ _ _ _
   rw [q10_111111]
   refine Goes.seq ?_
   show Goes K Tryz.prog 155 none (q10 [1, 1, 1, 1, 1, 1, 0]) _ _ _ _
   rw [q10_1111110]
   refine Goes.ops2 fits Hh (E1_sound E0_sound c7) (by
     simp (config := { maxSteps := 1000000 }) (decide := true) (discharger := first | omega | (simp only [H.next_new, H.next_put, awn1, awn2, awn3, awn4, awn5, awn6, awn7, awn8, awn9, awn10, awn11, awn12, awn13, awn14, awn15] <;> omega) | decide) only [go_sem, q10, Tryz.f10, readRow, fillStruct, fillPart, partOf, opField, binG, List.set_cons_zero, List.set_cons_succ, List.take_succ_cons, List.drop_succ_cons, List.take_zero, List.drop_zero, List.take_nil, List.drop_nil, List.cons_append, List.singleton_append, loadIn, storeIn, reduceIte, Nat.reduceAdd, Nat.reduceMul, Nat.reduceSub, Nat.reduceDiv, Nat.reduceMod, Nat.reduceLT, Nat.reduceBEq, Int.reduceToNat, E1_skipN, E1_call, awn1, awn2, awn3, awn4, awn5, awn6, awn7, awn8, awn9, awn10, awn11, awn12, awn13, awn14, awn15, awg15, awe16, read1, List.replicate_succ, List.replicate_zero]
     rfl) ?_
   show Goes K Tryz.prog 155 none (q10 [1, 1, 1, 1, 1, 1, 1]) _ _ _ _
   rw [q10_1111111]
   refine Goes.seq ?_
   show Goes K Tryz.prog 155 none (q10 [1, 1, 1, 1, 1, 1, 1, 0]) _ _ _ _
   rw [q10_11111110]
   refine Goes.ops2 fits Hh (E1_sound (E1_sound E0_sound c8) c9) (by
     simp (config := { maxSteps := 1000000 }) (decide := true) (discharger := first | omega | (simp only [H.next_new, H.next_put, awn1, awn2, awn3, awn4, awn5, awn6, awn7, awn8, awn9, awn10, awn11, awn12, awn13, awn14, awn15] <;> omega) | decide) only [go_sem, q10, Tryz.f10, readRow, fillStruct, fillPart, partOf, opField, binG, List.set_cons_zero, List.set_cons_succ, List.take_succ_cons, List.drop_succ_cons, List.take_zero, List.drop_zero, List.take_nil, List.drop_nil, List.cons_append, List.singleton_append, loadIn, storeIn, reduceIte, Nat.reduceAdd, Nat.reduceMul, Nat.reduceSub, Nat.reduceDiv, Nat.reduceMod, Nat.reduceLT, Nat.reduceBEq, Int.reduceToNat, E1_skipN, E1_call, awn1, awn2, awn3, awn4, awn5, awn6, awn7, awn8, awn9, awn10, awn11, awn12, awn13, awn14, awn15, awg15, awe16, read1, List.replicate_succ, List.replicate_zero]
     rfl) ?_
   show Goes K Tryz.prog 155 none (q10 [1, 1, 1, 1, 1, 1, 1, 1]) _ _ _ _
   rw [q10_11111111]
   refine Goes.seq ?_
   show Goes K Tryz.prog 155 none (q10 [1, 1, 1, 1, 1, 1, 1, 1, 0]) _ _ _ _
   rw [q10_111111110]
   refine Goes.ops2 fits Hh (E1_sound (E1_sound E0_sound c10) c11) (by
     simp (config := { maxSteps := 1000000 }) (decide := true) (discharger := first | omega | (simp only [H.next_new, H.next_put, awn1, awn2, awn3, awn4, awn5, awn6, awn7, awn8, awn9, awn10, awn11, awn12, awn13, awn14, awn15] <;> omega) | decide) only [go_sem, q10, Tryz.f10, readRow, fillStruct, fillPart, partOf, opField, binG, List.set_cons_zero, List.set_cons_succ, List.take_succ_cons, List.drop_succ_cons, List.take_zero, List.drop_zero, List.take_nil, List.drop_nil, List.cons_append, List.singleton_append, loadIn, storeIn, reduceIte, Nat.reduceAdd, Nat.reduceMul, Nat.reduceSub, Nat.reduceDiv, Nat.reduceMod, Nat.reduceLT, Nat.reduceBEq, Int.reduceToNat, E1_skipN, E1_call, awn1, awn2, awn3, awn4, awn5, awn6, awn7, awn8, awn9, awn10, awn11, awn12, awn13, awn14, awn15, awg15, awe16, read1, List.replicate_succ, List.replicate_zero]
     rfl) ?_
   show Goes K Tryz.prog 155 none (q10 [1, 1, 1, 1, 1, 1, 1, 1, 1]) _ _ _ _
   rw [q10_111111111]
   refine Goes.seq ?_
   show Goes K Tryz.prog 155 none (q10 [1, 1, 1, 1, 1, 1, 1, 1, 1, 0]) _ _ _ _
   rw [q10_1111111110]
   refine Goes.ops2 fits Hh (E1_sound E0_sound c12) (by
     simp (config := { maxSteps := 1000000 }) (decide := true) (discharger := first | omega | (simp only [H.next_new, H.next_put, awn1, awn2, awn3, awn4, awn5, awn6, awn7, awn8, awn9, awn10, awn11, awn12, awn13, awn14, awn15] <;> omega) | decide) only [go_sem, q10, Tryz.f10, readRow, fillStruct, fillPart, partOf, opField, binG, List.set_cons_zero, List.set_cons_succ, List.take_succ_cons, List.drop_succ_cons, List.take_zero, List.drop_zero, List.take_nil, List.drop_nil, List.cons_append, List.singleton_append, loadIn, storeIn, reduceIte, Nat.reduceAdd, Nat.reduceMul, Nat.reduceSub, Nat.reduceDiv, Nat.reduceMod, Nat.reduceLT, Nat.reduceBEq, Int.reduceToNat, E1_skipN, E1_call, awn1, awn2, awn3, awn4, awn5, awn6, awn7, awn8, awn9, awn10, awn11, awn12, awn13, awn14, awn15, awg15, awe16, read1, List.replicate_succ, List.replicate_zero]
     rfl) ?_
   show Goes K Tryz.prog 155 none (q10 [1, 1, 1, 1, 1, 1, 1, 1, 1, 1]) _ _ _ _
   rw [q10_1111111111]
   refine Goes.seq ?_
   show Goes K Tryz.prog 155 none (q10 [1, 1, 1, 1, 1, 1, 1, 1, 1, 1, 0]) _ _ _ _
   rw [q10_11111111110]
   refine Goes.ops2 fits Hh (E1_sound E0_sound c13) (by
     simp (config := { maxSteps := 1000000 }) (decide := true) (discharger := first | omega | (simp only [H.next_new, H.next_put, awn1, awn2, awn3, awn4, awn5, awn6, awn7, awn8, awn9, awn10, awn11, awn12, awn13, awn14, awn15] <;> omega) | decide) only [go_sem, q10, Tryz.f10, readRow, fillStruct, fillPart, partOf, opField, binG, List.set_cons_zero, List.set_cons_succ, List.take_succ_cons, List.drop_succ_cons, List.take_zero, List.drop_zero, List.take_nil, List.drop_nil, List.cons_append, List.singleton_append, loadIn, storeIn, reduceIte, Nat.reduceAdd, Nat.reduceMul, Nat.reduceSub, Nat.reduceDiv, Nat.reduceMod, Nat.reduceLT, Nat.reduceBEq, Int.reduceToNat, E1_skipN, E1_call, awn1, awn2, awn3, awn4, awn5, awn6, awn7, awn8, awn9, awn10, awn11, awn12, awn13, awn14, awn15, awg15, awe16, read1, List.replicate_succ, List.replicate_zero]
     rfl) ?_
   show Goes K Tryz.prog 155 none (q10 [1, 1, 1, 1, 1, 1, 1, 1, 1, 1, 1]) _ _ _ _
   rw [q10_11111111111]
   refine Goes.seq ?_
   show Goes K Tryz.prog 155 none (q10 [1, 1, 1, 1, 1, 1, 1, 1, 1, 1, 1, 0]) _ _ _ _
   rw [q10_111111111110]
   refine Goes.ops2 fits Hh (E1_sound E0_sound c14) (by
     simp (config := { maxSteps := 1000000 }) (decide := true) (discharger := first | omega | (simp only [H.next_new, H.next_put, awn1, awn2, awn3, awn4, awn5, awn6, awn7, awn8, awn9, awn10, awn11, awn12, awn13, awn14, awn15] <;> omega) | decide) only [go_sem, q10, Tryz.f10, readRow, fillStruct, fillPart, partOf, opField, binG, List.set_cons_zero, List.set_cons_succ, List.take_succ_cons, List.drop_succ_cons, List.take_zero, List.drop_zero, List.take_nil, List.drop_nil, List.cons_append, List.singleton_append, loadIn, storeIn, reduceIte, Nat.reduceAdd, Nat.reduceMul, Nat.reduceSub, Nat.reduceDiv, Nat.reduceMod, Nat.reduceLT, Nat.reduceBEq, Int.reduceToNat, E1_skipN, E1_call, awn1, awn2, awn3, awn4, awn5, awn6, awn7, awn8, awn9, awn10, awn11, awn12, awn13, awn14, awn15, awg15, awe16, read1, List.replicate_succ, List.replicate_zero]
     rfl) ?_
   show Goes K Tryz.prog 155 none (q10 [1, 1, 1, 1, 1, 1, 1, 1, 1, 1, 1, 1]) _ _ _ _
   rw [q10_111111111111]
   refine Goes.seq ?_
   show Goes K Tryz.prog 155 none (q10 [1, 1, 1, 1, 1, 1, 1, 1, 1, 1, 1, 1, 0]) _ _ _ _
   rw [q10_1111111111110]
   refine Goes.ops2 fits Hh (E1_sound E0_sound c15) (by
     simp (config := { maxSteps := 1000000 }) (decide := true) (discharger := first | omega | (simp only [H.next_new, H.next_put, awn1, awn2, awn3, awn4, awn5, awn6, awn7, awn8, awn9, awn10, awn11, awn12, awn13, awn14, awn15] <;> omega) | decide) only [go_sem, q10, Tryz.f10, readRow, fillStruct, fillPart, partOf, opField, binG, List.set_cons_zero, List.set_cons_succ, List.take_succ_cons, List.drop_succ_cons, List.take_zero, List.drop_zero, List.take_nil, List.drop_nil, List.cons_append, List.singleton_append, loadIn, storeIn, reduceIte, Nat.reduceAdd, Nat.reduceMul, Nat.reduceSub, Nat.reduceDiv, Nat.reduceMod, Nat.reduceLT, Nat.reduceBEq, Int.reduceToNat, E1_skipN, E1_call, awn1, awn2, awn3, awn4, awn5, awn6, awn7, awn8, awn9, awn10, awn11, awn12, awn13, awn14, awn15, awg15, awe16, read1, List.replicate_succ, List.replicate_zero]
     rfl) ?_
   exact Goes.restTrue fits Hh hX (k := 4000) (fn := Tryz.f10) (by kernel_rfl)
  exact ⟨h', c⟩
noncomputable def xaw (args : List W) (h : Go.Ev.H) : Option (V × Go.Ev.H) := match args with
  | [] => bif isSteps (h.get 0) then some (.w (.c (.bool true)), h) else none
  | _ => none
theorem xaw_ok {args : List W} {h h' : Go.Ev.H} {v : V} (e : xaw args h = some (v, h')) : CallOk K Tryz.prog 10 args h v h' := by
  unfold xaw at e
  split at e
  · cases hb : isSteps (h.get 0) with
    | false => rw [hb] at e; cases e
    | true =>
      rw [hb] at e
      cases e
      obtain ⟨h1, c⟩ := awOk Hh
      exact CallOk.closedS gl c (by kernel_rfl) rfl rfl h (isSteps_eq hb)
  · cases e
noncomputable def xawK : Kn := fun f args h => bif Nat.beq f 10 then xaw args h else none
theorem xawK_ok : KnOk K Tryz.prog xawK := by
  intro f args h v h' e
  unfold xawK at e
  cases h1 : Nat.beq f 10 with
  | true =>
    rw [h1] at e
    obtain rfl := Nat.eq_of_beq_eq_true h1
    exact xaw_ok Hh e
  | false => rw [h1] at e; cases e
end
end Go.Proofs.YtjdbhajhjnfhiaaGreatDoor

