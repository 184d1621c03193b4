/- geo, of a geometry that may be. -/
import Derived.Test.YtjdbhajhjnfhiaaGreatDoorFine
set_option linter.unusedSimpArgs false
set_option linter.unusedVariables false
set_option linter.unusedSectionVars false
set_option maxRecDepth 100000
namespace Go.Proofs.YtjdbhajhjnfhiaaGreatDoor
open Go.Ev
theorem ty3 : K.types.get 3 = some ti3 := by kernel_rfl
theorem sz3 : ti3.size = 1 := by rfl
theorem ag3 : ti3.agg = false := by rfl
theorem de3 : ti3.desc = (.int .i64) := by rfl
theorem ze3 : ti3.zero = (.c (.int .i64 0)) := by rfl
theorem by3 : ti3.bytes = 8 := by rfl
theorem ke3 (k : IntKind) (n : Int) : keyT K 20 3 (.c (.int k n)) = true := by kernel_rfl
theorem ty4 : K.types.get 4 = some ti4 := by kernel_rfl
theorem sz4 : ti4.size = 1 := by rfl
theorem ag4 : ti4.agg = false := by rfl
theorem de4 : ti4.desc = .bool := by rfl
theorem ze4 : ti4.zero = (.c (.bool false)) := by rfl
theorem by4 : ti4.bytes = 1 := by rfl
theorem ty71 : K.types.get 71 = some ti71 := by kernel_rfl
theorem sz71 : ti71.size = 4 := by rfl
theorem ag71 : ti71.agg = true := by rfl
theorem fo71_0 : fieldOf K 71 0 = some (0, ti3) := by kernel_rfl
theorem fo71_1 : fieldOf K 71 1 = some (1, ti3) := by kernel_rfl
theorem fo71_2 : fieldOf K 71 2 = some (2, ti3) := by kernel_rfl
theorem fo71_3 : fieldOf K 71 3 = some (3, ti3) := by kernel_rfl
theorem bu71 (ps : List (Nat × W)) : opBuild K 71 (some ps) = gW (fillStruct K 71 ps ti71.zero.cells) := by kernel_rfl
theorem ze71 : ti71.zero = (.g ([.int .i64 0, .int .i64 0, .int .i64 0, .int .i64 0])) := by rfl
theorem by71 : ti71.bytes = 32 := by rfl
attribute [go_sem] ty3 sz3 ag3 de3 ze3 by3 ke3 ty4 sz4 ag4 de4 ze4 by4 ty71 sz71 ag71 fo71_0 fo71_1 fo71_2 fo71_3 bu71 ze71 by71
noncomputable def q62 (p : List Nat) : Code := piece p (bodyOf Tryz.f62)
theorem q62_ : q62 [] = .seq (q62 [0]) (q62 [1]) := by kernel_rfl
theorem q62_0 : q62 [0] = .region 0 (opsA (q62 [0])) false := by kernel_rfl
theorem q62_1 : q62 [1] = .seq (q62 [1, 0]) (q62 [1, 1]) := by kernel_rfl
theorem q62_10 : q62 [1, 0] = .block 0 (q62 [1, 0, 2]) := by kernel_rfl
theorem q62_102 : q62 [1, 0, 2] = .seq (q62 [1, 0, 2, 0]) (q62 [1, 0, 2, 1]) := by kernel_rfl
theorem q62_1020 : q62 [1, 0, 2, 0] = .region 1 (opsA (q62 [1, 0, 2, 0])) false := by kernel_rfl
theorem q62_1021 : q62 [1, 0, 2, 1] = .cond (.tmp 3) (q62 [1, 0, 2, 1, 3]) (q62 [1, 0, 2, 1, 4]) := by kernel_rfl
theorem q62_10213 : q62 [1, 0, 2, 1, 3] = .seq (q62 [1, 0, 2, 1, 3, 0]) (q62 [1, 0, 2, 1, 3, 1]) := by kernel_rfl
theorem q62_102130 : q62 [1, 0, 2, 1, 3, 0] = .region 2 (opsA (q62 [1, 0, 2, 1, 3, 0])) false := by kernel_rfl
theorem q62_102131 : q62 [1, 0, 2, 1, 3, 1] = .ret := by kernel_rfl
theorem q62_10214 : q62 [1, 0, 2, 1, 4] = .seq (q62 [1, 0, 2, 1, 4, 0]) (q62 [1, 0, 2, 1, 4, 1]) := by kernel_rfl
theorem q62_102140 : q62 [1, 0, 2, 1, 4, 0] = .region 3 (opsA (q62 [1, 0, 2, 1, 4, 0])) false := by kernel_rfl
theorem q62_102141 : q62 [1, 0, 2, 1, 4, 1] = .cond (.tmp 12) (q62 [1, 0, 2, 1, 4, 1, 3]) (q62 [1, 0, 2, 1, 4, 1, 4]) := by kernel_rfl
theorem q62_1021413 : q62 [1, 0, 2, 1, 4, 1, 3] = .seq (q62 [1, 0, 2, 1, 4, 1, 3, 0]) (q62 [1, 0, 2, 1, 4, 1, 3, 1]) := by kernel_rfl
theorem q62_10214130 : q62 [1, 0, 2, 1, 4, 1, 3, 0] = .region 4 (opsA (q62 [1, 0, 2, 1, 4, 1, 3, 0])) false := by kernel_rfl
theorem q62_10214131 : q62 [1, 0, 2, 1, 4, 1, 3, 1] = .ret := by kernel_rfl
theorem q62_1021414 : q62 [1, 0, 2, 1, 4, 1, 4] = .seq (q62 [1, 0, 2, 1, 4, 1, 4, 0]) (q62 [1, 0, 2, 1, 4, 1, 4, 1]) := by kernel_rfl
theorem q62_10214140 : q62 [1, 0, 2, 1, 4, 1, 4, 0] = .region 5 (opsA (q62 [1, 0, 2, 1, 4, 1, 4, 0])) false := by kernel_rfl
theorem q62_10214141 : q62 [1, 0, 2, 1, 4, 1, 4, 1] = .cond (.tmp 21) (q62 [1, 0, 2, 1, 4, 1, 4, 1, 3]) (q62 [1, 0, 2, 1, 4, 1, 4, 1, 4]) := by kernel_rfl
theorem q62_102141413 : q62 [1, 0, 2, 1, 4, 1, 4, 1, 3] = .seq (q62 [1, 0, 2, 1, 4, 1, 4, 1, 3, 0]) (q62 [1, 0, 2, 1, 4, 1, 4, 1, 3, 1]) := by kernel_rfl
theorem q62_1021414130 : q62 [1, 0, 2, 1, 4, 1, 4, 1, 3, 0] = .region 6 (opsA (q62 [1, 0, 2, 1, 4, 1, 4, 1, 3, 0])) false := by kernel_rfl
theorem q62_1021414131 : q62 [1, 0, 2, 1, 4, 1, 4, 1, 3, 1] = .ret := by kernel_rfl
theorem q62_102141414 : q62 [1, 0, 2, 1, 4, 1, 4, 1, 4] = .seq (q62 [1, 0, 2, 1, 4, 1, 4, 1, 4, 0]) (q62 [1, 0, 2, 1, 4, 1, 4, 1, 4, 1]) := by kernel_rfl
theorem q62_1021414140 : q62 [1, 0, 2, 1, 4, 1, 4, 1, 4, 0] = .region 7 (opsA (q62 [1, 0, 2, 1, 4, 1, 4, 1, 4, 0])) false := by kernel_rfl
theorem q62_1021414141 : q62 [1, 0, 2, 1, 4, 1, 4, 1, 4, 1] = .cond (.tmp 36) (q62 [1, 0, 2, 1, 4, 1, 4, 1, 4, 1, 3]) (q62 [1, 0, 2, 1, 4, 1, 4, 1, 4, 1, 4]) := by kernel_rfl
theorem q62_10214141413 : q62 [1, 0, 2, 1, 4, 1, 4, 1, 4, 1, 3] = .seq (q62 [1, 0, 2, 1, 4, 1, 4, 1, 4, 1, 3, 0]) (q62 [1, 0, 2, 1, 4, 1, 4, 1, 4, 1, 3, 1]) := by kernel_rfl
theorem q62_102141414130 : q62 [1, 0, 2, 1, 4, 1, 4, 1, 4, 1, 3, 0] = .region 8 (opsA (q62 [1, 0, 2, 1, 4, 1, 4, 1, 4, 1, 3, 0])) false := by kernel_rfl
theorem q62_102141414131 : q62 [1, 0, 2, 1, 4, 1, 4, 1, 4, 1, 3, 1] = .ret := by kernel_rfl
theorem q62_10214141414 : q62 [1, 0, 2, 1, 4, 1, 4, 1, 4, 1, 4] = .seq (q62 [1, 0, 2, 1, 4, 1, 4, 1, 4, 1, 4, 0]) (q62 [1, 0, 2, 1, 4, 1, 4, 1, 4, 1, 4, 1]) := by kernel_rfl
theorem q62_102141414140 : q62 [1, 0, 2, 1, 4, 1, 4, 1, 4, 1, 4, 0] = .region 9 (opsA (q62 [1, 0, 2, 1, 4, 1, 4, 1, 4, 1, 4, 0])) false := by kernel_rfl
theorem q62_102141414141 : q62 [1, 0, 2, 1, 4, 1, 4, 1, 4, 1, 4, 1] = .cond (.tmp 45) (q62 [1, 0, 2, 1, 4, 1, 4, 1, 4, 1, 4, 1, 3]) (q62 [1, 0, 2, 1, 4, 1, 4, 1, 4, 1, 4, 1, 4]) := by kernel_rfl
theorem q62_1021414141413 : q62 [1, 0, 2, 1, 4, 1, 4, 1, 4, 1, 4, 1, 3] = .seq (q62 [1, 0, 2, 1, 4, 1, 4, 1, 4, 1, 4, 1, 3, 0]) (q62 [1, 0, 2, 1, 4, 1, 4, 1, 4, 1, 4, 1, 3, 1]) := by kernel_rfl
theorem q62_10214141414130 : q62 [1, 0, 2, 1, 4, 1, 4, 1, 4, 1, 4, 1, 3, 0] = .region 10 (opsA (q62 [1, 0, 2, 1, 4, 1, 4, 1, 4, 1, 4, 1, 3, 0])) false := by kernel_rfl
theorem q62_10214141414131 : q62 [1, 0, 2, 1, 4, 1, 4, 1, 4, 1, 4, 1, 3, 1] = .ret := by kernel_rfl
theorem q62_1021414141414 : q62 [1, 0, 2, 1, 4, 1, 4, 1, 4, 1, 4, 1, 4] = .skip := by kernel_rfl
theorem q62_11 : q62 [1, 1] = .seq (q62 [1, 1, 0]) (q62 [1, 1, 1]) := by kernel_rfl
theorem q62_110 : q62 [1, 1, 0] = .region 11 (opsA (q62 [1, 1, 0])) false := by kernel_rfl
theorem q62_111 : q62 [1, 1, 1] = .ret := by kernel_rfl
noncomputable def q63 (p : List Nat) : Code := piece p (bodyOf Tryz.f63)
theorem q63_ : q63 [] = .seq (q63 [0]) (q63 [1]) := by kernel_rfl
theorem q63_0 : q63 [0] = .region 0 (opsA (q63 [0])) false := by kernel_rfl
theorem q63_1 : q63 [1] = .seq (q63 [1, 0]) (q63 [1, 1]) := by kernel_rfl
theorem q63_10 : q63 [1, 0] = .seq (q63 [1, 0, 0]) (q63 [1, 0, 1]) := by kernel_rfl
theorem q63_100 : q63 [1, 0, 0] = .region 1 (opsA (q63 [1, 0, 0])) false := by kernel_rfl
theorem q63_101 : q63 [1, 0, 1] = .cond (.tmp 18) (q63 [1, 0, 1, 3]) (q63 [1, 0, 1, 4]) := by kernel_rfl
theorem q63_1013 : q63 [1, 0, 1, 3] = .seq (q63 [1, 0, 1, 3, 0]) (q63 [1, 0, 1, 3, 1]) := by kernel_rfl
theorem q63_10130 : q63 [1, 0, 1, 3, 0] = .region 2 (opsA (q63 [1, 0, 1, 3, 0])) false := by kernel_rfl
theorem q63_10131 : q63 [1, 0, 1, 3, 1] = .ret := by kernel_rfl
theorem q63_1014 : q63 [1, 0, 1, 4] = .skip := by kernel_rfl
theorem q63_11 : q63 [1, 1] = .seq (q63 [1, 1, 0]) (q63 [1, 1, 1]) := by kernel_rfl
theorem q63_110 : q63 [1, 1, 0] = .region 3 (opsA (q63 [1, 1, 0])) false := by kernel_rfl
theorem q63_111 : q63 [1, 1, 1] = .ret := by kernel_rfl
noncomputable def q83 (p : List Nat) : Code := piece p (bodyOf Tryz.f83)
theorem q83_ : q83 [] = .seq (q83 [0]) (q83 [1]) := by kernel_rfl
theorem q83_0 : q83 [0] = .region 0 (opsA (q83 [0])) false := by kernel_rfl
theorem q83_1 : q83 [1] = .seq (q83 [1, 0]) (q83 [1, 1]) := by kernel_rfl
theorem q83_10 : q83 [1, 0] = .seq (q83 [1, 0, 0]) (q83 [1, 0, 1]) := by kernel_rfl
theorem q83_100 : q83 [1, 0, 0] = .region 1 (opsA (q83 [1, 0, 0])) false := by kernel_rfl
theorem q83_101 : q83 [1, 0, 1] = .cond (.tmp 5) (q83 [1, 0, 1, 3]) (q83 [1, 0, 1, 4]) := by kernel_rfl
theorem q83_1013 : q83 [1, 0, 1, 3] = .seq (q83 [1, 0, 1, 3, 0]) (q83 [1, 0, 1, 3, 1]) := by kernel_rfl
theorem q83_10130 : q83 [1, 0, 1, 3, 0] = .region 2 (opsA (q83 [1, 0, 1, 3, 0])) false := by kernel_rfl
theorem q83_10131 : q83 [1, 0, 1, 3, 1] = .ret := by kernel_rfl
theorem q83_1014 : q83 [1, 0, 1, 4] = .skip := by kernel_rfl
theorem q83_11 : q83 [1, 1] = .seq (q83 [1, 1, 0]) (q83 [1, 1, 1]) := by kernel_rfl
theorem q83_110 : q83 [1, 1, 0] = .region 3 (opsA (q83 [1, 1, 0])) false := by kernel_rfl
theorem q83_111 : q83 [1, 1, 1] = .ret := by kernel_rfl
noncomputable def q135 (p : List Nat) : Code := piece p (bodyOf Tryz.f135)
theorem q135_ : q135 [] = .seq (q135 [0]) (q135 [1]) := by kernel_rfl
theorem q135_0 : q135 [0] = .region 0 (opsA (q135 [0])) false := by kernel_rfl
theorem q135_1 : q135 [1] = .seq (q135 [1, 0]) (q135 [1, 1]) := by kernel_rfl
theorem q135_10 : q135 [1, 0] = .seq (q135 [1, 0, 0]) (q135 [1, 0, 1]) := by kernel_rfl
theorem q135_100 : q135 [1, 0, 0] = .region 1 (opsA (q135 [1, 0, 0])) false := by kernel_rfl
theorem q135_101 : q135 [1, 0, 1] = .cond (.tmp 5) (q135 [1, 0, 1, 3]) (q135 [1, 0, 1, 4]) := by kernel_rfl
theorem q135_1013 : q135 [1, 0, 1, 3] = .seq (q135 [1, 0, 1, 3, 0]) (q135 [1, 0, 1, 3, 1]) := by kernel_rfl
theorem q135_10130 : q135 [1, 0, 1, 3, 0] = .region 2 (opsA (q135 [1, 0, 1, 3, 0])) false := by kernel_rfl
theorem q135_10131 : q135 [1, 0, 1, 3, 1] = .ret := by kernel_rfl
theorem q135_1014 : q135 [1, 0, 1, 4] = .skip := by kernel_rfl
theorem q135_11 : q135 [1, 1] = .seq (q135 [1, 1, 0]) (q135 [1, 1, 1]) := by kernel_rfl
theorem q135_110 : q135 [1, 1, 0] = .region 3 (opsA (q135 [1, 1, 0])) false := by kernel_rfl
theorem q135_111 : q135 [1, 1, 1] = .ret := by kernel_rfl
theorem rs62 : Tryz.f62.results.toList = [.tmp 2] := rfl
theorem rs83 : Tryz.f83.results.toList = [.tmp 2] := rfl
theorem rs135 : Tryz.f135.results.toList = [.tmp 2] := rfl
theorem rs63 : Tryz.f63.results.toList = [.tmp 4, .tmp 5] := rfl
attribute [go_sem] rs62 rs83 rs135 rs63
section
variable (Hh : Hearts K Tryz.prog)
include Hh
theorem gMayOk {gr sz ino jr : Nat} (F : Fine gr sz ino jr) (h : Go.Ev.H) : CallOk K Tryz.prog 62 [.g (geoL gr sz ino jr)] h (.w (.c (.bool true))) h := by
  obtain ⟨g1, g2, g3, g4, g5, g6, g7, g8, g9, g10, g11⟩ := F
  have gm : (gr : Int) * (sz : Int) = ((gr * sz : Nat) : Int) := rfl
  obtain ⟨v, h', c, rfl, hk⟩ : ∃ v h', CallOk K Tryz.prog 62 [.g (geoL gr sz ino jr)] h v h' ∧ v = .w (.c (.bool true)) ∧ ∀ m, m < h.next → h'.get m = h.get m := by
    refine CallOk.goesE fits Hh (by kernel_rfl) (by kernel_rfl) (by kernel_rfl) (show Tryz.f62.body = some (q62 []) by kernel_rfl) rfl ?_
    show Goes K Tryz.prog 64 none _ _ _ _ _
    show Goes K Tryz.prog 64 none (q62 []) _ _ _ _
    rw [q62_]
    refine Goes.seq ?_
    show Goes K Tryz.prog 64 none (q62 [0]) _ _ _ _
    rw [q62_0]
    refine Goes.ops2 fits Hh E0_sound (by
      simp (config := { maxSteps := 1000000 }) (decide := true) (discharger := first | omega | (simp only [H.next_new, H.next_put] <;> omega) | decide) only [go_sem, q62, Tryz.f62, readRow, fillStruct, fillPart, partOf, opField, binG, List.set_cons_zero, List.set_cons_succ, List.take_succ_cons, List.drop_succ_cons, List.take_zero, List.drop_zero, List.take_nil, List.drop_nil, List.cons_append, List.singleton_append, loadIn, storeIn, reduceIte, Nat.reduceAdd, Nat.reduceMul, Nat.reduceSub, Nat.reduceDiv, Nat.reduceMod, Nat.reduceLT, Nat.reduceBEq, Int.reduceToNat, geoL, gm, read1]
      rfl) ?_
    show Goes K Tryz.prog 64 none (q62 [1]) _ _ _ _
    rw [q62_1]
    refine Goes.seq ?_
    show Goes K Tryz.prog 64 none (q62 [1, 0]) _ _ _ _
    rw [q62_10]
    refine Goes.block ?_
    show Goes K Tryz.prog 64 none (q62 [1, 0, 2]) _ _ _ _
    rw [q62_102]
    refine Goes.seq ?_
    show Goes K Tryz.prog 64 none (q62 [1, 0, 2, 0]) _ _ _ _
    rw [q62_1020]
    refine Goes.ops2 fits Hh E0_sound (by
      simp (config := { maxSteps := 1000000 }) (decide := true) (discharger := first | omega | (simp only [H.next_new, H.next_put] <;> omega) | decide) only [go_sem, q62, Tryz.f62, readRow, fillStruct, fillPart, partOf, opField, binG, List.set_cons_zero, List.set_cons_succ, List.take_succ_cons, List.drop_succ_cons, List.take_zero, List.drop_zero, List.take_nil, List.drop_nil, List.cons_append, List.singleton_append, loadIn, storeIn, reduceIte, Nat.reduceAdd, Nat.reduceMul, Nat.reduceSub, Nat.reduceDiv, Nat.reduceMod, Nat.reduceLT, Nat.reduceBEq, Int.reduceToNat, geoL, gm, read1]
      rfl) ?_
    show Goes K Tryz.prog 64 none (q62 [1, 0, 2, 1]) _ _ _ _
    rw [q62_1021]
    refine Goes.condE (by simp (config := { maxSteps := 1000000 }) (decide := true) (discharger := first | omega | (simp only [H.next_new, H.next_put] <;> omega) | decide) only [go_sem, readRow, fillStruct, fillPart, partOf, opField, binG, List.set_cons_zero, List.set_cons_succ, List.take_succ_cons, List.drop_succ_cons, List.take_zero, List.drop_zero, List.take_nil, List.drop_nil, List.cons_append, List.singleton_append, loadIn, storeIn, reduceIte, Nat.reduceAdd, Nat.reduceMul, Nat.reduceSub, Nat.reduceDiv, Nat.reduceMod, Nat.reduceLT, Nat.reduceBEq, Int.reduceToNat, geoL, gm, read1] <;> rfl) (by first | rfl | assumption | exact decide_eq_false (by omega) | (simp; omega)) ?_
    show Goes K Tryz.prog 64 none (q62 [1, 0, 2, 1, 4]) _ _ _ _
    rw [q62_10214]
    refine Goes.seq ?_
    show Goes K Tryz.prog 64 none (q62 [1, 0, 2, 1, 4, 0]) _ _ _ _
    rw [q62_102140]
    refine Goes.ops2 fits Hh E0_sound (by
      simp (config := { maxSteps := 1000000 }) (decide := true) (discharger := first | omega | (simp only [H.next_new, H.next_put] <;> omega) | decide) only [go_sem, q62, Tryz.f62, readRow, fillStruct, fillPart, partOf, opField, binG, List.set_cons_zero, List.set_cons_succ, List.take_succ_cons, List.drop_succ_cons, List.take_zero, List.drop_zero, List.take_nil, List.drop_nil, List.cons_append, List.singleton_append, loadIn, storeIn, reduceIte, Nat.reduceAdd, Nat.reduceMul, Nat.reduceSub, Nat.reduceDiv, Nat.reduceMod, Nat.reduceLT, Nat.reduceBEq, Int.reduceToNat, geoL, gm, read1]
      rfl) ?_
    show Goes K Tryz.prog 64 none (q62 [1, 0, 2, 1, 4, 1]) _ _ _ _
    rw [q62_102141]
    refine Goes.condE (by simp (config := { maxSteps := 1000000 }) (decide := true) (discharger := first | omega | (simp only [H.next_new, H.next_put] <;> omega) | decide) only [go_sem, readRow, fillStruct, fillPart, partOf, opField, binG, List.set_cons_zero, List.set_cons_succ, List.take_succ_cons, List.drop_succ_cons, List.take_zero, List.drop_zero, List.take_nil, List.drop_nil, List.cons_append, List.singleton_append, loadIn, storeIn, reduceIte, Nat.reduceAdd, Nat.reduceMul, Nat.reduceSub, Nat.reduceDiv, Nat.reduceMod, Nat.reduceLT, Nat.reduceBEq, Int.reduceToNat, geoL, gm, read1] <;> rfl) (by first | rfl | assumption | exact decide_eq_false (by omega) | (simp; omega)) ?_
    show Goes K Tryz.prog 64 none (q62 [1, 0, 2, 1, 4, 1, 4]) _ _ _ _
    rw [q62_1021414]
    refine Goes.seq ?_
    show Goes K Tryz.prog 64 none (q62 [1, 0, 2, 1, 4, 1, 4, 0]) _ _ _ _
    rw [q62_10214140]
    refine Goes.ops2 fits Hh E0_sound (by
      simp only [q62, Tryz.f62, piece, part0, part1, part2, part2l, part3, part4, part5, part6, bodyOf, opsA]
      iterate 15 (refine evOps_step (by simp (config := { maxSteps := 1000000 }) (decide := true) (discharger := first | omega | (simp only [H.next_new, H.next_put] <;> omega) | decide) only [go_sem, readRow, fillStruct, fillPart, partOf, opField, binG, List.set_cons_zero, List.set_cons_succ, List.take_succ_cons, List.drop_succ_cons, List.take_zero, List.drop_zero, List.take_nil, List.drop_nil, List.cons_append, List.singleton_append, loadIn, storeIn, reduceIte, Nat.reduceAdd, Nat.reduceMul, Nat.reduceSub, Nat.reduceDiv, Nat.reduceMod, Nat.reduceLT, Nat.reduceBEq, Int.reduceToNat, geoL, gm, read1] <;> rfl) ?_)
      exact evOps_done) ?_
    show Goes K Tryz.prog 64 none (q62 [1, 0, 2, 1, 4, 1, 4, 1]) _ _ _ _
    rw [q62_10214141]
    refine Goes.condE (by simp (config := { maxSteps := 1000000 }) (decide := true) (discharger := first | omega | (simp only [H.next_new, H.next_put] <;> omega) | decide) only [go_sem, readRow, fillStruct, fillPart, partOf, opField, binG, List.set_cons_zero, List.set_cons_succ, List.take_succ_cons, List.drop_succ_cons, List.take_zero, List.drop_zero, List.take_nil, List.drop_nil, List.cons_append, List.singleton_append, loadIn, storeIn, reduceIte, Nat.reduceAdd, Nat.reduceMul, Nat.reduceSub, Nat.reduceDiv, Nat.reduceMod, Nat.reduceLT, Nat.reduceBEq, Int.reduceToNat, geoL, gm, read1] <;> rfl) (by first | rfl | assumption | exact decide_eq_false (by omega) | (simp; omega)) ?_
    show Goes K Tryz.prog 64 none (q62 [1, 0, 2, 1, 4, 1, 4, 1, 4]) _ _ _ _
    rw [q62_102141414]
    refine Goes.seq ?_
    show Goes K Tryz.prog 64 none (q62 [1, 0, 2, 1, 4, 1, 4, 1, 4, 0]) _ _ _ _
    rw [q62_1021414140]
    refine Goes.ops2 fits Hh E0_sound (by
      simp (config := { maxSteps := 1000000 }) (decide := true) (discharger := first | omega | (simp only [H.next_new, H.next_put] <;> omega) | decide) only [go_sem, q62, Tryz.f62, readRow, fillStruct, fillPart, partOf, opField, binG, List.set_cons_zero, List.set_cons_succ, List.take_succ_cons, List.drop_succ_cons, List.take_zero, List.drop_zero, List.take_nil, List.drop_nil, List.cons_append, List.singleton_append, loadIn, storeIn, reduceIte, Nat.reduceAdd, Nat.reduceMul, Nat.reduceSub, Nat.reduceDiv, Nat.reduceMod, Nat.reduceLT, Nat.reduceBEq, Int.reduceToNat, geoL, gm, read1]
      rfl) ?_
    show Goes K Tryz.prog 64 none (q62 [1, 0, 2, 1, 4, 1, 4, 1, 4, 1]) _ _ _ _
    rw [q62_1021414141]
    refine Goes.condE (by simp (config := { maxSteps := 1000000 }) (decide := true) (discharger := first | omega | (simp only [H.next_new, H.next_put] <;> omega) | decide) only [go_sem, readRow, fillStruct, fillPart, partOf, opField, binG, List.set_cons_zero, List.set_cons_succ, List.take_succ_cons, List.drop_succ_cons, List.take_zero, List.drop_zero, List.take_nil, List.drop_nil, List.cons_append, List.singleton_append, loadIn, storeIn, reduceIte, Nat.reduceAdd, Nat.reduceMul, Nat.reduceSub, Nat.reduceDiv, Nat.reduceMod, Nat.reduceLT, Nat.reduceBEq, Int.reduceToNat, geoL, gm, read1] <;> rfl) (by first | rfl | assumption | exact decide_eq_false (by omega) | (simp; omega)) ?_
    show Goes K Tryz.prog 64 none (q62 [1, 0, 2, 1, 4, 1, 4, 1, 4, 1, 4]) _ _ _ _
    rw [q62_10214141414]
    refine Goes.seq ?_
    show Goes K Tryz.prog 64 none (q62 [1, 0, 2, 1, 4, 1, 4, 1, 4, 1, 4, 0]) _ _ _ _
    rw [q62_102141414140]
    refine Goes.ops2 fits Hh E0_sound (by
      simp (config := { maxSteps := 1000000 }) (decide := true) (discharger := first | omega | (simp only [H.next_new, H.next_put] <;> omega) | decide) only [go_sem, q62, Tryz.f62, readRow, fillStruct, fillPart, partOf, opField, binG, List.set_cons_zero, List.set_cons_succ, List.take_succ_cons, List.drop_succ_cons, List.take_zero, List.drop_zero, List.take_nil, List.drop_nil, List.cons_append, List.singleton_append, loadIn, storeIn, reduceIte, Nat.reduceAdd, Nat.reduceMul, Nat.reduceSub, Nat.reduceDiv, Nat.reduceMod, Nat.reduceLT, Nat.reduceBEq, Int.reduceToNat, geoL, gm, read1]
      rfl) ?_
    show Goes K Tryz.prog 64 none (q62 [1, 0, 2, 1, 4, 1, 4, 1, 4, 1, 4, 1]) _ _ _ _
    rw [q62_102141414141]
    refine Goes.condE (by simp (config := { maxSteps := 1000000 }) (decide := true) (discharger := first | omega | (simp only [H.next_new, H.next_put] <;> omega) | decide) only [go_sem, readRow, fillStruct, fillPart, partOf, opField, binG, List.set_cons_zero, List.set_cons_succ, List.take_succ_cons, List.drop_succ_cons, List.take_zero, List.drop_zero, List.take_nil, List.drop_nil, List.cons_append, List.singleton_append, loadIn, storeIn, reduceIte, Nat.reduceAdd, Nat.reduceMul, Nat.reduceSub, Nat.reduceDiv, Nat.reduceMod, Nat.reduceLT, Nat.reduceBEq, Int.reduceToNat, geoL, gm, read1] <;> rfl) (by first | rfl | assumption | exact decide_eq_false (by omega) | (simp; omega)) ?_
    show Goes K Tryz.prog 64 none (q62 [1, 0, 2, 1, 4, 1, 4, 1, 4, 1, 4, 1, 4]) _ _ _ _
    rw [q62_1021414141414]
    refine Goes.skip ?_
    show Goes K Tryz.prog 64 none (q62 [1, 1]) _ _ _ _
    rw [q62_11]
    refine Goes.seq ?_
    show Goes K Tryz.prog 64 none (q62 [1, 1, 0]) _ _ _ _
    rw [q62_110]
    refine Goes.ops2 fits Hh E0_sound (by
      simp (config := { maxSteps := 1000000 }) (decide := true) (discharger := first | omega | (simp only [H.next_new, H.next_put] <;> omega) | decide) only [go_sem, q62, Tryz.f62, readRow, fillStruct, fillPart, partOf, opField, binG, List.set_cons_zero, List.set_cons_succ, List.take_succ_cons, List.drop_succ_cons, List.take_zero, List.drop_zero, List.take_nil, List.drop_nil, List.cons_append, List.singleton_append, loadIn, storeIn, reduceIte, Nat.reduceAdd, Nat.reduceMul, Nat.reduceSub, Nat.reduceDiv, Nat.reduceMod, Nat.reduceLT, Nat.reduceBEq, Int.reduceToNat, geoL, gm, read1]
      rfl) ?_
    show Goes K Tryz.prog 64 none (q62 [1, 1, 1]) _ _ _ _
    rw [q62_111]
    refine Goes.ret ?_
    refine ⟨_, _, (by simp (config := { maxSteps := 1000000 }) (decide := true) (discharger := first | omega | (simp only [H.next_new, H.next_put] <;> omega) | decide) only [go_sem, readRow, fillStruct, fillPart, partOf, opField, binG, List.set_cons_zero, List.set_cons_succ, List.take_succ_cons, List.drop_succ_cons, List.take_zero, List.drop_zero, List.take_nil, List.drop_nil, List.cons_append, List.singleton_append, loadIn, storeIn, reduceIte, Nat.reduceAdd, Nat.reduceMul, Nat.reduceSub, Nat.reduceDiv, Nat.reduceMod, Nat.reduceLT, Nat.reduceBEq, Int.reduceToNat] <;> rfl), rfl, fun m hm => ?_⟩
    simp (config := { maxSteps := 1000000 }) (decide := true) (discharger := first | omega | (simp only [H.next_new, H.next_put] <;> omega) | decide) only [go_sem, readRow, fillStruct, fillPart, partOf, opField, binG, List.set_cons_zero, List.set_cons_succ, List.take_succ_cons, List.drop_succ_cons, List.take_zero, List.drop_zero, List.take_nil, List.drop_nil, List.cons_append, List.singleton_append, loadIn, storeIn, reduceIte, Nat.reduceAdd, Nat.reduceMul, Nat.reduceSub, Nat.reduceDiv, Nat.reduceMod, Nat.reduceLT, Nat.reduceBEq, Int.reduceToNat]
  exact CallOk.quiet c rfl hk
theorem gBlocksOk {gr sz ino jr : Nat} (F : Fine gr sz ino jr) (h : Go.Ev.H) : CallOk K Tryz.prog 83 [.g (geoL gr sz ino jr)] h (.w (.c (.int .i64 ((2 + jr + gr * sz : Nat) : Int)))) h := by
  have F' := F
  obtain ⟨g1, g2, g3, g4, g5, g6, g7, g8, g9, g10, g11⟩ := F'
  have gm : (gr : Int) * (sz : Int) = ((gr * sz : Nat) : Int) := rfl
  have c1 := gMayOk Hh F (h.new (.row 4 [geoL gr sz ino jr] false))
  obtain ⟨v, h', c, rfl, hk⟩ : ∃ v h', CallOk K Tryz.prog 83 [.g (geoL gr sz ino jr)] h v h' ∧ v = .w (.c (.int .i64 ((2 + jr + gr * sz : Nat) : Int))) ∧ ∀ m, m < h.next → h'.get m = h.get m := by
    refine CallOk.goesE fits Hh (by kernel_rfl) (by kernel_rfl) (by kernel_rfl) (show Tryz.f83.body = some (q83 []) by kernel_rfl) rfl ?_
    show Goes K Tryz.prog 15 none _ _ _ _ _
    show Goes K Tryz.prog 15 none (q83 []) _ _ _ _
    rw [q83_]
    refine Goes.seq ?_
    show Goes K Tryz.prog 15 none (q83 [0]) _ _ _ _
    rw [q83_0]
    refine Goes.ops2 fits Hh E0_sound (by
      simp (config := { maxSteps := 1000000 }) (decide := true) (discharger := first | omega | (simp only [H.next_new, H.next_put] <;> omega) | decide) only [go_sem, q83, Tryz.f83, readRow, fillStruct, fillPart, partOf, opField, binG, List.set_cons_zero, List.set_cons_succ, List.take_succ_cons, List.drop_succ_cons, List.take_zero, List.drop_zero, List.take_nil, List.drop_nil, List.cons_append, List.singleton_append, loadIn, storeIn, reduceIte, Nat.reduceAdd, Nat.reduceMul, Nat.reduceSub, Nat.reduceDiv, Nat.reduceMod, Nat.reduceLT, Nat.reduceBEq, Int.reduceToNat, geoL, gm, read1]
      rfl) ?_
    show Goes K Tryz.prog 15 none (q83 [1]) _ _ _ _
    rw [q83_1]
    refine Goes.seq ?_
    show Goes K Tryz.prog 15 none (q83 [1, 0]) _ _ _ _
    rw [q83_10]
    refine Goes.seq ?_
    show Goes K Tryz.prog 15 none (q83 [1, 0, 0]) _ _ _ _
    rw [q83_100]
    refine Goes.ops2 fits Hh (E1_sound E0_sound c1) (by
      simp (config := { maxSteps := 1000000 }) (decide := true) (discharger := first | omega | (simp only [H.next_new, H.next_put] <;> omega) | decide) only [go_sem, q83, Tryz.f83, readRow, fillStruct, fillPart, partOf, opField, binG, List.set_cons_zero, List.set_cons_succ, List.take_succ_cons, List.drop_succ_cons, List.take_zero, List.drop_zero, List.take_nil, List.drop_nil, List.cons_append, List.singleton_append, loadIn, storeIn, reduceIte, Nat.reduceAdd, Nat.reduceMul, Nat.reduceSub, Nat.reduceDiv, Nat.reduceMod, Nat.reduceLT, Nat.reduceBEq, Int.reduceToNat, E1_call, geoL, gm, read1]
      rfl) ?_
    show Goes K Tryz.prog 15 none (q83 [1, 0, 1]) _ _ _ _
    rw [q83_101]
    refine Goes.condE (by simp (config := { maxSteps := 1000000 }) (decide := true) (discharger := first | omega | (simp only [H.next_new, H.next_put] <;> omega) | decide) only [go_sem, readRow, fillStruct, fillPart, partOf, opField, binG, List.set_cons_zero, List.set_cons_succ, List.take_succ_cons, List.drop_succ_cons, List.take_zero, List.drop_zero, List.take_nil, List.drop_nil, List.cons_append, List.singleton_append, loadIn, storeIn, reduceIte, Nat.reduceAdd, Nat.reduceMul, Nat.reduceSub, Nat.reduceDiv, Nat.reduceMod, Nat.reduceLT, Nat.reduceBEq, Int.reduceToNat, geoL, gm, read1] <;> rfl) (by first | rfl | assumption | exact decide_eq_false (by omega) | (simp; omega)) ?_
    show Goes K Tryz.prog 15 none (q83 [1, 0, 1, 4]) _ _ _ _
    rw [q83_1014]
    refine Goes.skip ?_
    show Goes K Tryz.prog 15 none (q83 [1, 1]) _ _ _ _
    rw [q83_11]
    refine Goes.seq ?_
    show Goes K Tryz.prog 15 none (q83 [1, 1, 0]) _ _ _ _
    rw [q83_110]
    refine Goes.ops2 fits Hh E0_sound (by
      simp (config := { maxSteps := 1000000 }) (decide := true) (discharger := first | omega | (simp only [H.next_new, H.next_put] <;> omega) | decide) only [go_sem, q83, Tryz.f83, readRow, fillStruct, fillPart, partOf, opField, binG, List.set_cons_zero, List.set_cons_succ, List.take_succ_cons, List.drop_succ_cons, List.take_zero, List.drop_zero, List.take_nil, List.drop_nil, List.cons_append, List.singleton_append, loadIn, storeIn, reduceIte, Nat.reduceAdd, Nat.reduceMul, Nat.reduceSub, Nat.reduceDiv, Nat.reduceMod, Nat.reduceLT, Nat.reduceBEq, Int.reduceToNat, geoL, gm, read1]
      rfl) ?_
    show Goes K Tryz.prog 15 none (q83 [1, 1, 1]) _ _ _ _
    rw [q83_111]
    refine Goes.ret ?_
    refine ⟨_, _, (by simp (config := { maxSteps := 1000000 }) (decide := true) (discharger := first | omega | (simp only [H.next_new, H.next_put] <;> omega) | decide) only [go_sem, readRow, fillStruct, fillPart, partOf, opField, binG, List.set_cons_zero, List.set_cons_succ, List.take_succ_cons, List.drop_succ_cons, List.take_zero, List.drop_zero, List.take_nil, List.drop_nil, List.cons_append, List.singleton_append, loadIn, storeIn, reduceIte, Nat.reduceAdd, Nat.reduceMul, Nat.reduceSub, Nat.reduceDiv, Nat.reduceMod, Nat.reduceLT, Nat.reduceBEq, Int.reduceToNat] <;> rfl), rfl, fun m hm => ?_⟩
    simp (config := { maxSteps := 1000000 }) (decide := true) (discharger := first | omega | (simp only [H.next_new, H.next_put] <;> omega) | decide) only [go_sem, readRow, fillStruct, fillPart, partOf, opField, binG, List.set_cons_zero, List.set_cons_succ, List.take_succ_cons, List.drop_succ_cons, List.take_zero, List.drop_zero, List.take_nil, List.drop_nil, List.cons_append, List.singleton_append, loadIn, storeIn, reduceIte, Nat.reduceAdd, Nat.reduceMul, Nat.reduceSub, Nat.reduceDiv, Nat.reduceMod, Nat.reduceLT, Nat.reduceBEq, Int.reduceToNat]
  exact CallOk.quiet c rfl hk
theorem gDataOk {gr sz ino jr : Nat} (F : Fine gr sz ino jr) (h : Go.Ev.H) : CallOk K Tryz.prog 135 [.g (geoL gr sz ino jr)] h (.w (.c (.int .i64 ((sz : Int) - 2 - ((ino / 4 : Nat) : Int))))) h := by
  have F' := F
  obtain ⟨g1, g2, g3, g4, g5, g6, g7, g8, g9, g10, g11⟩ := F'
  have gm : (gr : Int) * (sz : Int) = ((gr * sz : Nat) : Int) := rfl
  have c1 := gMayOk Hh F (h.new (.row 4 [geoL gr sz ino jr] false))
  obtain ⟨v, h', c, rfl, hk⟩ : ∃ v h', CallOk K Tryz.prog 135 [.g (geoL gr sz ino jr)] h v h' ∧ v = .w (.c (.int .i64 ((sz : Int) - 2 - ((ino / 4 : Nat) : Int)))) ∧ ∀ m, m < h.next → h'.get m = h.get m := by
    refine CallOk.goesE fits Hh (by kernel_rfl) (by kernel_rfl) (by kernel_rfl) (show Tryz.f135.body = some (q135 []) by kernel_rfl) rfl ?_
    show Goes K Tryz.prog 13 none _ _ _ _ _
    show Goes K Tryz.prog 13 none (q135 []) _ _ _ _
    rw [q135_]
    refine Goes.seq ?_
    show Goes K Tryz.prog 13 none (q135 [0]) _ _ _ _
    rw [q135_0]
    refine Goes.ops2 fits Hh E0_sound (by
      simp (config := { maxSteps := 1000000 }) (decide := true) (discharger := first | omega | (simp only [H.next_new, H.next_put] <;> omega) | decide) only [go_sem, q135, Tryz.f135, readRow, fillStruct, fillPart, partOf, opField, binG, List.set_cons_zero, List.set_cons_succ, List.take_succ_cons, List.drop_succ_cons, List.take_zero, List.drop_zero, List.take_nil, List.drop_nil, List.cons_append, List.singleton_append, loadIn, storeIn, reduceIte, Nat.reduceAdd, Nat.reduceMul, Nat.reduceSub, Nat.reduceDiv, Nat.reduceMod, Nat.reduceLT, Nat.reduceBEq, Int.reduceToNat, geoL, gm, read1]
      rfl) ?_
    show Goes K Tryz.prog 13 none (q135 [1]) _ _ _ _
    rw [q135_1]
    refine Goes.seq ?_
    show Goes K Tryz.prog 13 none (q135 [1, 0]) _ _ _ _
    rw [q135_10]
    refine Goes.seq ?_
    show Goes K Tryz.prog 13 none (q135 [1, 0, 0]) _ _ _ _
    rw [q135_100]
    refine Goes.ops2 fits Hh (E1_sound E0_sound c1) (by
      simp (config := { maxSteps := 1000000 }) (decide := true) (discharger := first | omega | (simp only [H.next_new, H.next_put] <;> omega) | decide) only [go_sem, q135, Tryz.f135, readRow, fillStruct, fillPart, partOf, opField, binG, List.set_cons_zero, List.set_cons_succ, List.take_succ_cons, List.drop_succ_cons, List.take_zero, List.drop_zero, List.take_nil, List.drop_nil, List.cons_append, List.singleton_append, loadIn, storeIn, reduceIte, Nat.reduceAdd, Nat.reduceMul, Nat.reduceSub, Nat.reduceDiv, Nat.reduceMod, Nat.reduceLT, Nat.reduceBEq, Int.reduceToNat, E1_call, geoL, gm, read1]
      rfl) ?_
    show Goes K Tryz.prog 13 none (q135 [1, 0, 1]) _ _ _ _
    rw [q135_101]
    refine Goes.condE (by simp (config := { maxSteps := 1000000 }) (decide := true) (discharger := first | omega | (simp only [H.next_new, H.next_put] <;> omega) | decide) only [go_sem, readRow, fillStruct, fillPart, partOf, opField, binG, List.set_cons_zero, List.set_cons_succ, List.take_succ_cons, List.drop_succ_cons, List.take_zero, List.drop_zero, List.take_nil, List.drop_nil, List.cons_append, List.singleton_append, loadIn, storeIn, reduceIte, Nat.reduceAdd, Nat.reduceMul, Nat.reduceSub, Nat.reduceDiv, Nat.reduceMod, Nat.reduceLT, Nat.reduceBEq, Int.reduceToNat, geoL, gm, read1] <;> rfl) (by first | rfl | assumption | exact decide_eq_false (by omega) | (simp; omega)) ?_
    show Goes K Tryz.prog 13 none (q135 [1, 0, 1, 4]) _ _ _ _
    rw [q135_1014]
    refine Goes.skip ?_
    show Goes K Tryz.prog 13 none (q135 [1, 1]) _ _ _ _
    rw [q135_11]
    refine Goes.seq ?_
    show Goes K Tryz.prog 13 none (q135 [1, 1, 0]) _ _ _ _
    rw [q135_110]
    refine Goes.ops2 fits Hh E0_sound (by
      simp (config := { maxSteps := 1000000 }) (decide := true) (discharger := first | omega | (simp only [H.next_new, H.next_put] <;> omega) | decide) only [go_sem, q135, Tryz.f135, readRow, fillStruct, fillPart, partOf, opField, binG, List.set_cons_zero, List.set_cons_succ, List.take_succ_cons, List.drop_succ_cons, List.take_zero, List.drop_zero, List.take_nil, List.drop_nil, List.cons_append, List.singleton_append, loadIn, storeIn, reduceIte, Nat.reduceAdd, Nat.reduceMul, Nat.reduceSub, Nat.reduceDiv, Nat.reduceMod, Nat.reduceLT, Nat.reduceBEq, Int.reduceToNat, geoL, gm, read1]
      rfl) ?_
    show Goes K Tryz.prog 13 none (q135 [1, 1, 1]) _ _ _ _
    rw [q135_111]
    refine Goes.ret ?_
    refine ⟨_, _, (by simp (config := { maxSteps := 1000000 }) (decide := true) (discharger := first | omega | (simp only [H.next_new, H.next_put] <;> omega) | decide) only [go_sem, readRow, fillStruct, fillPart, partOf, opField, binG, List.set_cons_zero, List.set_cons_succ, List.take_succ_cons, List.drop_succ_cons, List.take_zero, List.drop_zero, List.take_nil, List.drop_nil, List.cons_append, List.singleton_append, loadIn, storeIn, reduceIte, Nat.reduceAdd, Nat.reduceMul, Nat.reduceSub, Nat.reduceDiv, Nat.reduceMod, Nat.reduceLT, Nat.reduceBEq, Int.reduceToNat] <;> rfl), rfl, fun m hm => ?_⟩
    simp (config := { maxSteps := 1000000 }) (decide := true) (discharger := first | omega | (simp only [H.next_new, H.next_put] <;> omega) | decide) only [go_sem, readRow, fillStruct, fillPart, partOf, opField, binG, List.set_cons_zero, List.set_cons_succ, List.take_succ_cons, List.drop_succ_cons, List.take_zero, List.drop_zero, List.take_nil, List.drop_nil, List.cons_append, List.singleton_append, loadIn, storeIn, reduceIte, Nat.reduceAdd, Nat.reduceMul, Nat.reduceSub, Nat.reduceDiv, Nat.reduceMod, Nat.reduceLT, Nat.reduceBEq, Int.reduceToNat]
  exact CallOk.quiet c rfl hk
theorem gStartOk {gr sz ino jr : Nat} (F : Fine gr sz ino jr) (h : Go.Ev.H) (k : Nat) (hk : k < gr) : CallOk K Tryz.prog 63 [.g (geoL gr sz ino jr), .c (.int .i64 k)] h (.tup [.c (.int .i64 ((2 + jr + k * sz : Nat) : Int)), .c (.bool true)]) h := by
  have F' := F
  obtain ⟨g1, g2, g3, g4, g5, g6, g7, g8, g9, g10, g11⟩ := F'
  have gm : (gr : Int) * (sz : Int) = ((gr * sz : Nat) : Int) := rfl
  have c1 := gMayOk Hh F (h.new (.row 4 [geoL gr sz ino jr] false))
  have gi : (k : Int) * (sz : Int) = ((k * sz : Nat) : Int) := rfl
  have b1 : k * sz ≤ gr * sz := Nat.mul_le_mul (by omega) (by omega)
  obtain ⟨v, h', c, rfl, hk⟩ : ∃ v h', CallOk K Tryz.prog 63 [.g (geoL gr sz ino jr), .c (.int .i64 k)] h v h' ∧ v = .tup [.c (.int .i64 ((2 + jr + k * sz : Nat) : Int)), .c (.bool true)] ∧ ∀ m, m < h.next → h'.get m = h.get m := by
    refine CallOk.goesE fits Hh (by kernel_rfl) (by kernel_rfl) (by kernel_rfl) (show Tryz.f63.body = some (q63 []) by kernel_rfl) rfl ?_
    show Goes K Tryz.prog 27 none _ _ _ _ _
    show Goes K Tryz.prog 27 none (q63 []) _ _ _ _
    rw [q63_]
    refine Goes.seq ?_
    show Goes K Tryz.prog 27 none (q63 [0]) _ _ _ _
    rw [q63_0]
    refine Goes.ops2 fits Hh E0_sound (by
      simp (config := { maxSteps := 1000000 }) (decide := true) (discharger := first | omega | (simp only [H.next_new, H.next_put] <;> omega) | decide) only [go_sem, q63, Tryz.f63, readRow, fillStruct, fillPart, partOf, opField, binG, List.set_cons_zero, List.set_cons_succ, List.take_succ_cons, List.drop_succ_cons, List.take_zero, List.drop_zero, List.take_nil, List.drop_nil, List.cons_append, List.singleton_append, loadIn, storeIn, reduceIte, Nat.reduceAdd, Nat.reduceMul, Nat.reduceSub, Nat.reduceDiv, Nat.reduceMod, Nat.reduceLT, Nat.reduceBEq, Int.reduceToNat, geoL, gm, gi, read1]
      rfl) ?_
    show Goes K Tryz.prog 27 none (q63 [1]) _ _ _ _
    rw [q63_1]
    refine Goes.seq ?_
    show Goes K Tryz.prog 27 none (q63 [1, 0]) _ _ _ _
    rw [q63_10]
    refine Goes.seq ?_
    show Goes K Tryz.prog 27 none (q63 [1, 0, 0]) _ _ _ _
    rw [q63_100]
    refine Goes.ops2 fits Hh (E1_sound E0_sound c1) (by
      simp only [q63, Tryz.f63, piece, part0, part1, part2, part2l, part3, part4, part5, part6, bodyOf, opsA]
      iterate 13 (refine evOps_step (by simp (config := { maxSteps := 1000000 }) (decide := true) (discharger := first | omega | (simp only [H.next_new, H.next_put] <;> omega) | decide) only [go_sem, readRow, fillStruct, fillPart, partOf, opField, binG, List.set_cons_zero, List.set_cons_succ, List.take_succ_cons, List.drop_succ_cons, List.take_zero, List.drop_zero, List.take_nil, List.drop_nil, List.cons_append, List.singleton_append, loadIn, storeIn, reduceIte, Nat.reduceAdd, Nat.reduceMul, Nat.reduceSub, Nat.reduceDiv, Nat.reduceMod, Nat.reduceLT, Nat.reduceBEq, Int.reduceToNat, E1_call, geoL, gm, gi, read1] <;> rfl) ?_)
      exact evOps_done) ?_
    show Goes K Tryz.prog 27 none (q63 [1, 0, 1]) _ _ _ _
    rw [q63_101]
    refine Goes.condE (by simp (config := { maxSteps := 1000000 }) (decide := true) (discharger := first | omega | (simp only [H.next_new, H.next_put] <;> omega) | decide) only [go_sem, readRow, fillStruct, fillPart, partOf, opField, binG, List.set_cons_zero, List.set_cons_succ, List.take_succ_cons, List.drop_succ_cons, List.take_zero, List.drop_zero, List.take_nil, List.drop_nil, List.cons_append, List.singleton_append, loadIn, storeIn, reduceIte, Nat.reduceAdd, Nat.reduceMul, Nat.reduceSub, Nat.reduceDiv, Nat.reduceMod, Nat.reduceLT, Nat.reduceBEq, Int.reduceToNat, geoL, gm, gi, read1] <;> rfl) (by first | rfl | assumption | exact decide_eq_false (by omega) | (simp; omega)) ?_
    show Goes K Tryz.prog 27 none (q63 [1, 0, 1, 4]) _ _ _ _
    rw [q63_1014]
    refine Goes.skip ?_
    show Goes K Tryz.prog 27 none (q63 [1, 1]) _ _ _ _
    rw [q63_11]
    refine Goes.seq ?_
    show Goes K Tryz.prog 27 none (q63 [1, 1, 0]) _ _ _ _
    rw [q63_110]
    refine Goes.ops2 fits Hh E0_sound (by
      simp (config := { maxSteps := 1000000 }) (decide := true) (discharger := first | omega | (simp only [H.next_new, H.next_put] <;> omega) | decide) only [go_sem, q63, Tryz.f63, readRow, fillStruct, fillPart, partOf, opField, binG, List.set_cons_zero, List.set_cons_succ, List.take_succ_cons, List.drop_succ_cons, List.take_zero, List.drop_zero, List.take_nil, List.drop_nil, List.cons_append, List.singleton_append, loadIn, storeIn, reduceIte, Nat.reduceAdd, Nat.reduceMul, Nat.reduceSub, Nat.reduceDiv, Nat.reduceMod, Nat.reduceLT, Nat.reduceBEq, Int.reduceToNat, geoL, gm, gi, read1]
      rfl) ?_
    show Goes K Tryz.prog 27 none (q63 [1, 1, 1]) _ _ _ _
    rw [q63_111]
    refine Goes.ret ?_
    refine ⟨_, _, (by simp (config := { maxSteps := 1000000 }) (decide := true) (discharger := first | omega | (simp only [H.next_new, H.next_put] <;> omega) | decide) only [go_sem, readRow, fillStruct, fillPart, partOf, opField, binG, List.set_cons_zero, List.set_cons_succ, List.take_succ_cons, List.drop_succ_cons, List.take_zero, List.drop_zero, List.take_nil, List.drop_nil, List.cons_append, List.singleton_append, loadIn, storeIn, reduceIte, Nat.reduceAdd, Nat.reduceMul, Nat.reduceSub, Nat.reduceDiv, Nat.reduceMod, Nat.reduceLT, Nat.reduceBEq, Int.reduceToNat] <;> rfl), rfl, fun m hm => ?_⟩
    simp (config := { maxSteps := 1000000 }) (decide := true) (discharger := first | omega | (simp only [H.next_new, H.next_put] <;> omega) | decide) only [go_sem, readRow, fillStruct, fillPart, partOf, opField, binG, List.set_cons_zero, List.set_cons_succ, List.take_succ_cons, List.drop_succ_cons, List.take_zero, List.drop_zero, List.take_nil, List.drop_nil, List.cons_append, List.singleton_append, loadIn, storeIn, reduceIte, Nat.reduceAdd, Nat.reduceMul, Nat.reduceSub, Nat.reduceDiv, Nat.reduceMod, Nat.reduceLT, Nat.reduceBEq, Int.reduceToNat]
  exact CallOk.quiet c rfl hk
end
end Go.Proofs.YtjdbhajhjnfhiaaGreatDoor

