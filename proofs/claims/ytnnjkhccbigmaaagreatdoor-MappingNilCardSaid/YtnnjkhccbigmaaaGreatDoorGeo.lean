/- geo, of a geometry that may be. -/
import Derived.Test.YtnnjkhccbigmaaaGreatDoorFine
set_option linter.unusedSimpArgs false
set_option linter.unusedVariables false
set_option linter.unusedSectionVars false
set_option maxRecDepth 100000
namespace Go.Proofs.YtnnjkhccbigmaaaGreatDoor
open Go.Ev
theorem ty3 : K.types.get 3 = some ti3 := by kernel_rfl
theorem sz3 : ti3.size = 1 := by rfl
theorem ag3 : ti3.agg = false := by rfl
theorem de3 : ti3.desc = (.int .i64) := by rfl
theorem ze3 : ti3.zero = (.c (.int .i64 0)) := by rfl
theorem by3 : ti3.bytes = 8 := by rfl
theorem ke3 (k : IntKind) (n : Int) : keyT K 20 3 (.c (.int k n)) = true := by kernel_rfl
theorem ty4 : K.types.get 4 = some ti4 := by kernel_rfl
theorem sz4 : ti4.size = 1 := by rfl
theorem ag4 : ti4.agg = false := by rfl
theorem de4 : ti4.desc = .bool := by rfl
theorem ze4 : ti4.zero = (.c (.bool false)) := by rfl
theorem by4 : ti4.bytes = 1 := by rfl
theorem ty75 : K.types.get 75 = some ti75 := by kernel_rfl
theorem sz75 : ti75.size = 4 := by rfl
theorem ag75 : ti75.agg = true := by rfl
theorem fo75_0 : fieldOf K 75 0 = some (0, ti3) := by kernel_rfl
theorem fo75_1 : fieldOf K 75 1 = some (1, ti3) := by kernel_rfl
theorem fo75_2 : fieldOf K 75 2 = some (2, ti3) := by kernel_rfl
theorem fo75_3 : fieldOf K 75 3 = some (3, ti3) := by kernel_rfl
theorem bu75 (ps : List (Nat × W)) : opBuild K 75 (some ps) = gW (fillStruct K 75 ps ti75.zero.cells) := by kernel_rfl
theorem ze75 : ti75.zero = (.g ([.int .i64 0, .int .i64 0, .int .i64 0, .int .i64 0])) := by rfl
theorem by75 : ti75.bytes = 32 := by rfl
attribute [go_sem] ty3 sz3 ag3 de3 ze3 by3 ke3 ty4 sz4 ag4 de4 ze4 by4 ty75 sz75 ag75 fo75_0 fo75_1 fo75_2 fo75_3 bu75 ze75 by75
noncomputable def q66 (p : List Nat) : Code := piece p (bodyOf Tryz.f66)
theorem q66_ : q66 [] = .seq (q66 [0]) (q66 [1]) := by kernel_rfl
theorem q66_0 : q66 [0] = .region 0 (opsA (q66 [0])) false := by kernel_rfl
theorem q66_1 : q66 [1] = .seq (q66 [1, 0]) (q66 [1, 1]) := by kernel_rfl
theorem q66_10 : q66 [1, 0] = .seq (q66 [1, 0, 0]) (q66 [1, 0, 1]) := by kernel_rfl
theorem q66_100 : q66 [1, 0, 0] = .region 1 (opsA (q66 [1, 0, 0])) false := by kernel_rfl
theorem q66_101 : q66 [1, 0, 1] = .cond (.tmp 18) (q66 [1, 0, 1, 3]) (q66 [1, 0, 1, 4]) := by kernel_rfl
theorem q66_1013 : q66 [1, 0, 1, 3] = .seq (q66 [1, 0, 1, 3, 0]) (q66 [1, 0, 1, 3, 1]) := by kernel_rfl
theorem q66_10130 : q66 [1, 0, 1, 3, 0] = .region 2 (opsA (q66 [1, 0, 1, 3, 0])) false := by kernel_rfl
theorem q66_10131 : q66 [1, 0, 1, 3, 1] = .ret := by kernel_rfl
theorem q66_1014 : q66 [1, 0, 1, 4] = .skip := by kernel_rfl
theorem q66_11 : q66 [1, 1] = .seq (q66 [1, 1, 0]) (q66 [1, 1, 1]) := by kernel_rfl
theorem q66_110 : q66 [1, 1, 0] = .region 3 (opsA (q66 [1, 1, 0])) false := by kernel_rfl
theorem q66_111 : q66 [1, 1, 1] = .ret := by kernel_rfl
noncomputable def q89 (p : List Nat) : Code := piece p (bodyOf Tryz.f89)
theorem q89_ : q89 [] = .seq (q89 [0]) (q89 [1]) := by kernel_rfl
theorem q89_0 : q89 [0] = .region 0 (opsA (q89 [0])) false := by kernel_rfl
theorem q89_1 : q89 [1] = .seq (q89 [1, 0]) (q89 [1, 1]) := by kernel_rfl
theorem q89_10 : q89 [1, 0] = .block 0 (q89 [1, 0, 2]) := by kernel_rfl
theorem q89_102 : q89 [1, 0, 2] = .seq (q89 [1, 0, 2, 0]) (q89 [1, 0, 2, 1]) := by kernel_rfl
theorem q89_1020 : q89 [1, 0, 2, 0] = .region 1 (opsA (q89 [1, 0, 2, 0])) false := by kernel_rfl
theorem q89_1021 : q89 [1, 0, 2, 1] = .cond (.tmp 3) (q89 [1, 0, 2, 1, 3]) (q89 [1, 0, 2, 1, 4]) := by kernel_rfl
theorem q89_10213 : q89 [1, 0, 2, 1, 3] = .seq (q89 [1, 0, 2, 1, 3, 0]) (q89 [1, 0, 2, 1, 3, 1]) := by kernel_rfl
theorem q89_102130 : q89 [1, 0, 2, 1, 3, 0] = .region 2 (opsA (q89 [1, 0, 2, 1, 3, 0])) false := by kernel_rfl
theorem q89_102131 : q89 [1, 0, 2, 1, 3, 1] = .ret := by kernel_rfl
theorem q89_10214 : q89 [1, 0, 2, 1, 4] = .seq (q89 [1, 0, 2, 1, 4, 0]) (q89 [1, 0, 2, 1, 4, 1]) := by kernel_rfl
theorem q89_102140 : q89 [1, 0, 2, 1, 4, 0] = .region 3 (opsA (q89 [1, 0, 2, 1, 4, 0])) false := by kernel_rfl
theorem q89_102141 : q89 [1, 0, 2, 1, 4, 1] = .cond (.tmp 12) (q89 [1, 0, 2, 1, 4, 1, 3]) (q89 [1, 0, 2, 1, 4, 1, 4]) := by kernel_rfl
theorem q89_1021413 : q89 [1, 0, 2, 1, 4, 1, 3] = .seq (q89 [1, 0, 2, 1, 4, 1, 3, 0]) (q89 [1, 0, 2, 1, 4, 1, 3, 1]) := by kernel_rfl
theorem q89_10214130 : q89 [1, 0, 2, 1, 4, 1, 3, 0] = .region 4 (opsA (q89 [1, 0, 2, 1, 4, 1, 3, 0])) false := by kernel_rfl
theorem q89_10214131 : q89 [1, 0, 2, 1, 4, 1, 3, 1] = .ret := by kernel_rfl
theorem q89_1021414 : q89 [1, 0, 2, 1, 4, 1, 4] = .seq (q89 [1, 0, 2, 1, 4, 1, 4, 0]) (q89 [1, 0, 2, 1, 4, 1, 4, 1]) := by kernel_rfl
theorem q89_10214140 : q89 [1, 0, 2, 1, 4, 1, 4, 0] = .region 5 (opsA (q89 [1, 0, 2, 1, 4, 1, 4, 0])) false := by kernel_rfl
theorem q89_10214141 : q89 [1, 0, 2, 1, 4, 1, 4, 1] = .cond (.tmp 21) (q89 [1, 0, 2, 1, 4, 1, 4, 1, 3]) (q89 [1, 0, 2, 1, 4, 1, 4, 1, 4]) := by kernel_rfl
theorem q89_102141413 : q89 [1, 0, 2, 1, 4, 1, 4, 1, 3] = .seq (q89 [1, 0, 2, 1, 4, 1, 4, 1, 3, 0]) (q89 [1, 0, 2, 1, 4, 1, 4, 1, 3, 1]) := by kernel_rfl
theorem q89_1021414130 : q89 [1, 0, 2, 1, 4, 1, 4, 1, 3, 0] = .region 6 (opsA (q89 [1, 0, 2, 1, 4, 1, 4, 1, 3, 0])) false := by kernel_rfl
theorem q89_1021414131 : q89 [1, 0, 2, 1, 4, 1, 4, 1, 3, 1] = .ret := by kernel_rfl
theorem q89_102141414 : q89 [1, 0, 2, 1, 4, 1, 4, 1, 4] = .seq (q89 [1, 0, 2, 1, 4, 1, 4, 1, 4, 0]) (q89 [1, 0, 2, 1, 4, 1, 4, 1, 4, 1]) := by kernel_rfl
theorem q89_1021414140 : q89 [1, 0, 2, 1, 4, 1, 4, 1, 4, 0] = .region 7 (opsA (q89 [1, 0, 2, 1, 4, 1, 4, 1, 4, 0])) false := by kernel_rfl
theorem q89_1021414141 : q89 [1, 0, 2, 1, 4, 1, 4, 1, 4, 1] = .cond (.tmp 36) (q89 [1, 0, 2, 1, 4, 1, 4, 1, 4, 1, 3]) (q89 [1, 0, 2, 1, 4, 1, 4, 1, 4, 1, 4]) := by kernel_rfl
theorem q89_10214141413 : q89 [1, 0, 2, 1, 4, 1, 4, 1, 4, 1, 3] = .seq (q89 [1, 0, 2, 1, 4, 1, 4, 1, 4, 1, 3, 0]) (q89 [1, 0, 2, 1, 4, 1, 4, 1, 4, 1, 3, 1]) := by kernel_rfl
theorem q89_102141414130 : q89 [1, 0, 2, 1, 4, 1, 4, 1, 4, 1, 3, 0] = .region 8 (opsA (q89 [1, 0, 2, 1, 4, 1, 4, 1, 4, 1, 3, 0])) false := by kernel_rfl
theorem q89_102141414131 : q89 [1, 0, 2, 1, 4, 1, 4, 1, 4, 1, 3, 1] = .ret := by kernel_rfl
theorem q89_10214141414 : q89 [1, 0, 2, 1, 4, 1, 4, 1, 4, 1, 4] = .seq (q89 [1, 0, 2, 1, 4, 1, 4, 1, 4, 1, 4, 0]) (q89 [1, 0, 2, 1, 4, 1, 4, 1, 4, 1, 4, 1]) := by kernel_rfl
theorem q89_102141414140 : q89 [1, 0, 2, 1, 4, 1, 4, 1, 4, 1, 4, 0] = .region 9 (opsA (q89 [1, 0, 2, 1, 4, 1, 4, 1, 4, 1, 4, 0])) false := by kernel_rfl
theorem q89_102141414141 : q89 [1, 0, 2, 1, 4, 1, 4, 1, 4, 1, 4, 1] = .cond (.tmp 45) (q89 [1, 0, 2, 1, 4, 1, 4, 1, 4, 1, 4, 1, 3]) (q89 [1, 0, 2, 1, 4, 1, 4, 1, 4, 1, 4, 1, 4]) := by kernel_rfl
theorem q89_1021414141413 : q89 [1, 0, 2, 1, 4, 1, 4, 1, 4, 1, 4, 1, 3] = .seq (q89 [1, 0, 2, 1, 4, 1, 4, 1, 4, 1, 4, 1, 3, 0]) (q89 [1, 0, 2, 1, 4, 1, 4, 1, 4, 1, 4, 1, 3, 1]) := by kernel_rfl
theorem q89_10214141414130 : q89 [1, 0, 2, 1, 4, 1, 4, 1, 4, 1, 4, 1, 3, 0] = .region 10 (opsA (q89 [1, 0, 2, 1, 4, 1, 4, 1, 4, 1, 4, 1, 3, 0])) false := by kernel_rfl
theorem q89_10214141414131 : q89 [1, 0, 2, 1, 4, 1, 4, 1, 4, 1, 4, 1, 3, 1] = .ret := by kernel_rfl
theorem q89_1021414141414 : q89 [1, 0, 2, 1, 4, 1, 4, 1, 4, 1, 4, 1, 4] = .skip := by kernel_rfl
theorem q89_11 : q89 [1, 1] = .seq (q89 [1, 1, 0]) (q89 [1, 1, 1]) := by kernel_rfl
theorem q89_110 : q89 [1, 1, 0] = .region 11 (opsA (q89 [1, 1, 0])) false := by kernel_rfl
theorem q89_111 : q89 [1, 1, 1] = .ret := by kernel_rfl
noncomputable def q90 (p : List Nat) : Code := piece p (bodyOf Tryz.f90)
theorem q90_ : q90 [] = .seq (q90 [0]) (q90 [1]) := by kernel_rfl
theorem q90_0 : q90 [0] = .region 0 (opsA (q90 [0])) false := by kernel_rfl
theorem q90_1 : q90 [1] = .seq (q90 [1, 0]) (q90 [1, 1]) := by kernel_rfl
theorem q90_10 : q90 [1, 0] = .seq (q90 [1, 0, 0]) (q90 [1, 0, 1]) := by kernel_rfl
theorem q90_100 : q90 [1, 0, 0] = .region 1 (opsA (q90 [1, 0, 0])) false := by kernel_rfl
theorem q90_101 : q90 [1, 0, 1] = .cond (.tmp 5) (q90 [1, 0, 1, 3]) (q90 [1, 0, 1, 4]) := by kernel_rfl
theorem q90_1013 : q90 [1, 0, 1, 3] = .seq (q90 [1, 0, 1, 3, 0]) (q90 [1, 0, 1, 3, 1]) := by kernel_rfl
theorem q90_10130 : q90 [1, 0, 1, 3, 0] = .region 2 (opsA (q90 [1, 0, 1, 3, 0])) false := by kernel_rfl
theorem q90_10131 : q90 [1, 0, 1, 3, 1] = .ret := by kernel_rfl
theorem q90_1014 : q90 [1, 0, 1, 4] = .skip := by kernel_rfl
theorem q90_11 : q90 [1, 1] = .seq (q90 [1, 1, 0]) (q90 [1, 1, 1]) := by kernel_rfl
theorem q90_110 : q90 [1, 1, 0] = .region 3 (opsA (q90 [1, 1, 0])) false := by kernel_rfl
theorem q90_111 : q90 [1, 1, 1] = .ret := by kernel_rfl
noncomputable def q184 (p : List Nat) : Code := piece p (bodyOf Tryz.f184)
theorem q184_ : q184 [] = .seq (q184 [0]) (q184 [1]) := by kernel_rfl
theorem q184_0 : q184 [0] = .region 0 (opsA (q184 [0])) false := by kernel_rfl
theorem q184_1 : q184 [1] = .seq (q184 [1, 0]) (q184 [1, 1]) := by kernel_rfl
theorem q184_10 : q184 [1, 0] = .seq (q184 [1, 0, 0]) (q184 [1, 0, 1]) := by kernel_rfl
theorem q184_100 : q184 [1, 0, 0] = .region 1 (opsA (q184 [1, 0, 0])) false := by kernel_rfl
theorem q184_101 : q184 [1, 0, 1] = .cond (.tmp 5) (q184 [1, 0, 1, 3]) (q184 [1, 0, 1, 4]) := by kernel_rfl
theorem q184_1013 : q184 [1, 0, 1, 3] = .seq (q184 [1, 0, 1, 3, 0]) (q184 [1, 0, 1, 3, 1]) := by kernel_rfl
theorem q184_10130 : q184 [1, 0, 1, 3, 0] = .region 2 (opsA (q184 [1, 0, 1, 3, 0])) false := by kernel_rfl
theorem q184_10131 : q184 [1, 0, 1, 3, 1] = .ret := by kernel_rfl
theorem q184_1014 : q184 [1, 0, 1, 4] = .skip := by kernel_rfl
theorem q184_11 : q184 [1, 1] = .seq (q184 [1, 1, 0]) (q184 [1, 1, 1]) := by kernel_rfl
theorem q184_110 : q184 [1, 1, 0] = .region 3 (opsA (q184 [1, 1, 0])) false := by kernel_rfl
theorem q184_111 : q184 [1, 1, 1] = .ret := by kernel_rfl
theorem rs89 : Tryz.f89.results.toList = [.tmp 2] := rfl
theorem rs90 : Tryz.f90.results.toList = [.tmp 2] := rfl
theorem rs184 : Tryz.f184.results.toList = [.tmp 2] := rfl
theorem rs66 : Tryz.f66.results.toList = [.tmp 4, .tmp 5] := rfl
attribute [go_sem] rs89 rs90 rs184 rs66
section
variable (Hh : Hearts K Tryz.prog)
include Hh
theorem gMayOk {gr sz ino jr : Nat} (F : Fine gr sz ino jr) (h : Go.Ev.H) : CallOk K Tryz.prog 89 [.g (geoL gr sz ino jr)] h (.w (.c (.bool true))) h := by
  obtain ⟨g1, g2, g3, g4, g5, g6, g7, g8, g9, g10, g11⟩ := F
  have gm : (gr : Int) * (sz : Int) = ((gr * sz : Nat) : Int) := rfl
  obtain ⟨v, h', c, rfl, hk⟩ : ∃ v h', CallOk K Tryz.prog 89 [.g (geoL gr sz ino jr)] h v h' ∧ v = .w (.c (.bool true)) ∧ ∀ m, m < h.next → h'.get m = h.get m := by
    refine CallOk.goesE fits Hh (by kernel_rfl) (by kernel_rfl) (by kernel_rfl) (show Tryz.f89.body = some (q89 []) by kernel_rfl) rfl ?_
    show Goes K Tryz.prog 64 none _ _ _ _ _
    show Goes K Tryz.prog 64 none (q89 []) _ _ _ _
    rw [q89_]
    refine Goes.seq ?_
    show Goes K Tryz.prog 64 none (q89 [0]) _ _ _ _
    rw [q89_0]
    refine Goes.ops2 fits Hh E0_sound (by
      simp (config := { maxSteps := 1000000 }) (decide := true) (discharger := first | omega | (simp only [H.next_new, H.next_put] <;> omega) | decide) only [go_sem, q89, Tryz.f89, readRow, fillStruct, fillPart, partOf, opField, binG, List.set_cons_zero, List.set_cons_succ, List.take_succ_cons, List.drop_succ_cons, List.take_zero, List.drop_zero, List.take_nil, List.drop_nil, List.cons_append, List.singleton_append, loadIn, storeIn, reduceIte, Nat.reduceAdd, Nat.reduceMul, Nat.reduceSub, Nat.reduceDiv, Nat.reduceMod, Nat.reduceLT, Nat.reduceBEq, Int.reduceToNat, geoL, gm, read1]
      rfl) ?_
    show Goes K Tryz.prog 64 none (q89 [1]) _ _ _ _
    rw [q89_1]
    refine Goes.seq ?_
    show Goes K Tryz.prog 64 none (q89 [1, 0]) _ _ _ _
    rw [q89_10]
    refine Goes.block ?_
    show Goes K Tryz.prog 64 none (q89 [1, 0, 2]) _ _ _ _
    rw [q89_102]
    refine Goes.seq ?_
    show Goes K Tryz.prog 64 none (q89 [1, 0, 2, 0]) _ _ _ _
    rw [q89_1020]
    refine Goes.ops2 fits Hh E0_sound (by
      simp (config := { maxSteps := 1000000 }) (decide := true) (discharger := first | omega | (simp only [H.next_new, H.next_put] <;> omega) | decide) only [go_sem, q89, Tryz.f89, readRow, fillStruct, fillPart, partOf, opField, binG, List.set_cons_zero, List.set_cons_succ, List.take_succ_cons, List.drop_succ_cons, List.take_zero, List.drop_zero, List.take_nil, List.drop_nil, List.cons_append, List.singleton_append, loadIn, storeIn, reduceIte, Nat.reduceAdd, Nat.reduceMul, Nat.reduceSub, Nat.reduceDiv, Nat.reduceMod, Nat.reduceLT, Nat.reduceBEq, Int.reduceToNat, geoL, gm, read1]
      rfl) ?_
    show Goes K Tryz.prog 64 none (q89 [1, 0, 2, 1]) _ _ _ _
    rw [q89_1021]
    refine Goes.condE (by simp (config := { maxSteps := 1000000 }) (decide := true) (discharger := first | omega | (simp only [H.next_new, H.next_put] <;> omega) | decide) only [go_sem, readRow, fillStruct, fillPart, partOf, opField, binG, List.set_cons_zero, List.set_cons_succ, List.take_succ_cons, List.drop_succ_cons, List.take_zero, List.drop_zero, List.take_nil, List.drop_nil, List.cons_append, List.singleton_append, loadIn, storeIn, reduceIte, Nat.reduceAdd, Nat.reduceMul, Nat.reduceSub, Nat.reduceDiv, Nat.reduceMod, Nat.reduceLT, Nat.reduceBEq, Int.reduceToNat, geoL, gm, read1] <;> rfl) (by first | rfl | assumption | exact decide_eq_false (by omega) | (simp; omega)) ?_
    show Goes K Tryz.prog 64 none (q89 [1, 0, 2, 1, 4]) _ _ _ _
    rw [q89_10214]
    refine Goes.seq ?_
    show Goes K Tryz.prog 64 none (q89 [1, 0, 2, 1, 4, 0]) _ _ _ _
    rw [q89_102140]
    refine Goes.ops2 fits Hh E0_sound (by
      simp (config := { maxSteps := 1000000 }) (decide := true) (discharger := first | omega | (simp only [H.next_new, H.next_put] <;> omega) | decide) only [go_sem, q89, Tryz.f89, readRow, fillStruct, fillPart, partOf, opField, binG, List.set_cons_zero, List.set_cons_succ, List.take_succ_cons, List.drop_succ_cons, List.take_zero, List.drop_zero, List.take_nil, List.drop_nil, List.cons_append, List.singleton_append, loadIn, storeIn, reduceIte, Nat.reduceAdd, Nat.reduceMul, Nat.reduceSub, Nat.reduceDiv, Nat.reduceMod, Nat.reduceLT, Nat.reduceBEq, Int.reduceToNat, geoL, gm, read1]
      rfl) ?_
    show Goes K Tryz.prog 64 none (q89 [1, 0, 2, 1, 4, 1]) _ _ _ _
    rw [q89_102141]
    refine Goes.condE (by simp (config := { maxSteps := 1000000 }) (decide := true) (discharger := first | omega | (simp only [H.next_new, H.next_put] <;> omega) | decide) only [go_sem, readRow, fillStruct, fillPart, partOf, opField, binG, List.set_cons_zero, List.set_cons_succ, List.take_succ_cons, List.drop_succ_cons, List.take_zero, List.drop_zero, List.take_nil, List.drop_nil, List.cons_append, List.singleton_append, loadIn, storeIn, reduceIte, Nat.reduceAdd, Nat.reduceMul, Nat.reduceSub, Nat.reduceDiv, Nat.reduceMod, Nat.reduceLT, Nat.reduceBEq, Int.reduceToNat, geoL, gm, read1] <;> rfl) (by first | rfl | assumption | exact decide_eq_false (by omega) | (simp; omega)) ?_
    show Goes K Tryz.prog 64 none (q89 [1, 0, 2, 1, 4, 1, 4]) _ _ _ _
    rw [q89_1021414]
    refine Goes.seq ?_
    show Goes K Tryz.prog 64 none (q89 [1, 0, 2, 1, 4, 1, 4, 0]) _ _ _ _
    rw [q89_10214140]
    refine Goes.ops2 fits Hh E0_sound (by
      simp only [q89, Tryz.f89, piece, part0, part1, part2, part2l, part3, part4, part5, part6, bodyOf, opsA]
      iterate 15 (refine evOps_step (by simp (config := { maxSteps := 1000000 }) (decide := true) (discharger := first | omega | (simp only [H.next_new, H.next_put] <;> omega) | decide) only [go_sem, readRow, fillStruct, fillPart, partOf, opField, binG, List.set_cons_zero, List.set_cons_succ, List.take_succ_cons, List.drop_succ_cons, List.take_zero, List.drop_zero, List.take_nil, List.drop_nil, List.cons_append, List.singleton_append, loadIn, storeIn, reduceIte, Nat.reduceAdd, Nat.reduceMul, Nat.reduceSub, Nat.reduceDiv, Nat.reduceMod, Nat.reduceLT, Nat.reduceBEq, Int.reduceToNat, geoL, gm, read1] <;> rfl) ?_)
      exact evOps_done) ?_
    show Goes K Tryz.prog 64 none (q89 [1, 0, 2, 1, 4, 1, 4, 1]) _ _ _ _
    rw [q89_10214141]
    refine Goes.condE (by simp (config := { maxSteps := 1000000 }) (decide := true) (discharger := first | omega | (simp only [H.next_new, H.next_put] <;> omega) | decide) only [go_sem, readRow, fillStruct, fillPart, partOf, opField, binG, List.set_cons_zero, List.set_cons_succ, List.take_succ_cons, List.drop_succ_cons, List.take_zero, List.drop_zero, List.take_nil, List.drop_nil, List.cons_append, List.singleton_append, loadIn, storeIn, reduceIte, Nat.reduceAdd, Nat.reduceMul, Nat.reduceSub, Nat.reduceDiv, Nat.reduceMod, Nat.reduceLT, Nat.reduceBEq, Int.reduceToNat, geoL, gm, read1] <;> rfl) (by first | rfl | assumption | exact decide_eq_false (by omega) | (simp; omega)) ?_
    show Goes K Tryz.prog 64 none (q89 [1, 0, 2, 1, 4, 1, 4, 1, 4]) _ _ _ _
    rw [q89_102141414]
    refine Goes.seq ?_
    show Goes K Tryz.prog 64 none (q89 [1, 0, 2, 1, 4, 1, 4, 1, 4, 0]) _ _ _ _
    rw [q89_1021414140]
    refine Goes.ops2 fits Hh E0_sound (by
      simp (config := { maxSteps := 1000000 }) (decide := true) (discharger := first | omega | (simp only [H.next_new, H.next_put] <;> omega) | decide) only [go_sem, q89, Tryz.f89, readRow, fillStruct, fillPart, partOf, opField, binG, List.set_cons_zero, List.set_cons_succ, List.take_succ_cons, List.drop_succ_cons, List.take_zero, List.drop_zero, List.take_nil, List.drop_nil, List.cons_append, List.singleton_append, loadIn, storeIn, reduceIte, Nat.reduceAdd, Nat.reduceMul, Nat.reduceSub, Nat.reduceDiv, Nat.reduceMod, Nat.reduceLT, Nat.reduceBEq, Int.reduceToNat, geoL, gm, read1]
      rfl) ?_
    show Goes K Tryz.prog 64 none (q89 [1, 0, 2, 1, 4, 1, 4, 1, 4, 1]) _ _ _ _
    rw [q89_1021414141]
    refine Goes.condE (by simp (config := { maxSteps := 1000000 }) (decide := true) (discharger := first | omega | (simp only [H.next_new, H.next_put] <;> omega) | decide) only [go_sem, readRow, fillStruct, fillPart, partOf, opField, binG, List.set_cons_zero, List.set_cons_succ, List.take_succ_cons, List.drop_succ_cons, List.take_zero, List.drop_zero, List.take_nil, List.drop_nil, List.cons_append, List.singleton_append, loadIn, storeIn, reduceIte, Nat.reduceAdd, Nat.reduceMul, Nat.reduceSub, Nat.reduceDiv, Nat.reduceMod, Nat.reduceLT, Nat.reduceBEq, Int.reduceToNat, geoL, gm, read1] <;> rfl) (by first | rfl | assumption | exact decide_eq_false (by omega) | (simp; omega)) ?_
    show Goes K Tryz.prog 64 none (q89 [1, 0, 2, 1, 4, 1, 4, 1, 4, 1, 4]) _ _ _ _
    rw [q89_10214141414]
    refine Goes.seq ?_
    show Goes K Tryz.prog 64 none (q89 [1, 0, 2, 1, 4, 1, 4, 1, 4, 1, 4, 0]) _ _ _ _
    rw [q89_102141414140]
    refine Goes.ops2 fits Hh E0_sound (by
      simp (config := { maxSteps := 1000000 }) (decide := true) (discharger := first | omega | (simp only [H.next_new, H.next_put] <;> omega) | decide) only [go_sem, q89, Tryz.f89, readRow, fillStruct, fillPart, partOf, opField, binG, List.set_cons_zero, List.set_cons_succ, List.take_succ_cons, List.drop_succ_cons, List.take_zero, List.drop_zero, List.take_nil, List.drop_nil, List.cons_append, List.singleton_append, loadIn, storeIn, reduceIte, Nat.reduceAdd, Nat.reduceMul, Nat.reduceSub, Nat.reduceDiv, Nat.reduceMod, Nat.reduceLT, Nat.reduceBEq, Int.reduceToNat, geoL, gm, read1]
      rfl) ?_
    show Goes K Tryz.prog 64 none (q89 [1, 0, 2, 1, 4, 1, 4, 1, 4, 1, 4, 1]) _ _ _ _
    rw [q89_102141414141]
    refine Goes.condE (by simp (config := { maxSteps := 1000000 }) (decide := true) (discharger := first | omega | (simp only [H.next_new, H.next_put] <;> omega) | decide) only [go_sem, readRow, fillStruct, fillPart, partOf, opField, binG, List.set_cons_zero, List.set_cons_succ, List.take_succ_cons, List.drop_succ_cons, List.take_zero, List.drop_zero, List.take_nil, List.drop_nil, List.cons_append, List.singleton_append, loadIn, storeIn, reduceIte, Nat.reduceAdd, Nat.reduceMul, Nat.reduceSub, Nat.reduceDiv, Nat.reduceMod, Nat.reduceLT, Nat.reduceBEq, Int.reduceToNat, geoL, gm, read1] <;> rfl) (by first | rfl | assumption | exact decide_eq_false (by omega) | (simp; omega)) ?_
    show Goes K Tryz.prog 64 none (q89 [1, 0, 2, 1, 4, 1, 4, 1, 4, 1, 4, 1, 4]) _ _ _ _
    rw [q89_1021414141414]
    refine Goes.skip ?_
    show Goes K Tryz.prog 64 none (q89 [1, 1]) _ _ _ _
    rw [q89_11]
    refine Goes.seq ?_
    show Goes K Tryz.prog 64 none (q89 [1, 1, 0]) _ _ _ _
    rw [q89_110]
    refine Goes.ops2 fits Hh E0_sound (by
      simp (config := { maxSteps := 1000000 }) (decide := true) (discharger := first | omega | (simp only [H.next_new, H.next_put] <;> omega) | decide) only [go_sem, q89, Tryz.f89, readRow, fillStruct, fillPart, partOf, opField, binG, List.set_cons_zero, List.set_cons_succ, List.take_succ_cons, List.drop_succ_cons, List.take_zero, List.drop_zero, List.take_nil, List.drop_nil, List.cons_append, List.singleton_append, loadIn, storeIn, reduceIte, Nat.reduceAdd, Nat.reduceMul, Nat.reduceSub, Nat.reduceDiv, Nat.reduceMod, Nat.reduceLT, Nat.reduceBEq, Int.reduceToNat, geoL, gm, read1]
      rfl) ?_
    show Goes K Tryz.prog 64 none (q89 [1, 1, 1]) _ _ _ _
    rw [q89_111]
    refine Goes.ret ?_
    refine ⟨_, _, (by simp (config := { maxSteps := 1000000 }) (decide := true) (discharger := first | omega | (simp only [H.next_new, H.next_put] <;> omega) | decide) only [go_sem, readRow, fillStruct, fillPart, partOf, opField, binG, List.set_cons_zero, List.set_cons_succ, List.take_succ_cons, List.drop_succ_cons, List.take_zero, List.drop_zero, List.take_nil, List.drop_nil, List.cons_append, List.singleton_append, loadIn, storeIn, reduceIte, Nat.reduceAdd, Nat.reduceMul, Nat.reduceSub, Nat.reduceDiv, Nat.reduceMod, Nat.reduceLT, Nat.reduceBEq, Int.reduceToNat] <;> rfl), rfl, fun m hm => ?_⟩
    simp (config := { maxSteps := 1000000 }) (decide := true) (discharger := first | omega | (simp only [H.next_new, H.next_put] <;> omega) | decide) only [go_sem, readRow, fillStruct, fillPart, partOf, opField, binG, List.set_cons_zero, List.set_cons_succ, List.take_succ_cons, List.drop_succ_cons, List.take_zero, List.drop_zero, List.take_nil, List.drop_nil, List.cons_append, List.singleton_append, loadIn, storeIn, reduceIte, Nat.reduceAdd, Nat.reduceMul, Nat.reduceSub, Nat.reduceDiv, Nat.reduceMod, Nat.reduceLT, Nat.reduceBEq, Int.reduceToNat]
  exact CallOk.quiet c rfl hk
theorem gBlocksOk {gr sz ino jr : Nat} (F : Fine gr sz ino jr) (h : Go.Ev.H) : CallOk K Tryz.prog 90 [.g (geoL gr sz ino jr)] h (.w (.c (.int .i64 ((2 + jr + gr * sz : Nat) : Int)))) h := by
  have F' := F
  obtain ⟨g1, g2, g3, g4, g5, g6, g7, g8, g9, g10, g11⟩ := F'
  have gm : (gr : Int) * (sz : Int) = ((gr * sz : Nat) : Int) := rfl
  have c1 := gMayOk Hh F (h.new (.row 4 [geoL gr sz ino jr] false))
  obtain ⟨v, h', c, rfl, hk⟩ : ∃ v h', CallOk K Tryz.prog 90 [.g (geoL gr sz ino jr)] h v h' ∧ v = .w (.c (.int .i64 ((2 + jr + gr * sz : Nat) : Int))) ∧ ∀ m, m < h.next → h'.get m = h.get m := by
    refine CallOk.goesE fits Hh (by kernel_rfl) (by kernel_rfl) (by kernel_rfl) (show Tryz.f90.body = some (q90 []) by kernel_rfl) rfl ?_
    show Goes K Tryz.prog 15 none _ _ _ _ _
    show Goes K Tryz.prog 15 none (q90 []) _ _ _ _
    rw [q90_]
    refine Goes.seq ?_
    show Goes K Tryz.prog 15 none (q90 [0]) _ _ _ _
    rw [q90_0]
    refine Goes.ops2 fits Hh E0_sound (by
      simp (config := { maxSteps := 1000000 }) (decide := true) (discharger := first | omega | (simp only [H.next_new, H.next_put] <;> omega) | decide) only [go_sem, q90, Tryz.f90, readRow, fillStruct, fillPart, partOf, opField, binG, List.set_cons_zero, List.set_cons_succ, List.take_succ_cons, List.drop_succ_cons, List.take_zero, List.drop_zero, List.take_nil, List.drop_nil, List.cons_append, List.singleton_append, loadIn, storeIn, reduceIte, Nat.reduceAdd, Nat.reduceMul, Nat.reduceSub, Nat.reduceDiv, Nat.reduceMod, Nat.reduceLT, Nat.reduceBEq, Int.reduceToNat, geoL, gm, read1]
      rfl) ?_
    show Goes K Tryz.prog 15 none (q90 [1]) _ _ _ _
    rw [q90_1]
    refine Goes.seq ?_
    show Goes K Tryz.prog 15 none (q90 [1, 0]) _ _ _ _
    rw [q90_10]
    refine Goes.seq ?_
    show Goes K Tryz.prog 15 none (q90 [1, 0, 0]) _ _ _ _
    rw [q90_100]
    refine Goes.ops2 fits Hh (E1_sound E0_sound c1) (by
      simp (config := { maxSteps := 1000000 }) (decide := true) (discharger := first | omega | (simp only [H.next_new, H.next_put] <;> omega) | decide) only [go_sem, q90, Tryz.f90, readRow, fillStruct, fillPart, partOf, opField, binG, List.set_cons_zero, List.set_cons_succ, List.take_succ_cons, List.drop_succ_cons, List.take_zero, List.drop_zero, List.take_nil, List.drop_nil, List.cons_append, List.singleton_append, loadIn, storeIn, reduceIte, Nat.reduceAdd, Nat.reduceMul, Nat.reduceSub, Nat.reduceDiv, Nat.reduceMod, Nat.reduceLT, Nat.reduceBEq, Int.reduceToNat, E1_call, geoL, gm, read1]
      rfl) ?_
    show Goes K Tryz.prog 15 none (q90 [1, 0, 1]) _ _ _ _
    rw [q90_101]
    refine Goes.condE (by simp (config := { maxSteps := 1000000 }) (decide := true) (discharger := first | omega | (simp only [H.next_new, H.next_put] <;> omega) | decide) only [go_sem, readRow, fillStruct, fillPart, partOf, opField, binG, List.set_cons_zero, List.set_cons_succ, List.take_succ_cons, List.drop_succ_cons, List.take_zero, List.drop_zero, List.take_nil, List.drop_nil, List.cons_append, List.singleton_append, loadIn, storeIn, reduceIte, Nat.reduceAdd, Nat.reduceMul, Nat.reduceSub, Nat.reduceDiv, Nat.reduceMod, Nat.reduceLT, Nat.reduceBEq, Int.reduceToNat, geoL, gm, read1] <;> rfl) (by first | rfl | assumption | exact decide_eq_false (by omega) | (simp; omega)) ?_
    show Goes K Tryz.prog 15 none (q90 [1, 0, 1, 4]) _ _ _ _
    rw [q90_1014]
    refine Goes.skip ?_
    show Goes K Tryz.prog 15 none (q90 [1, 1]) _ _ _ _
    rw [q90_11]
    refine Goes.seq ?_
    show Goes K Tryz.prog 15 none (q90 [1, 1, 0]) _ _ _ _
    rw [q90_110]
    refine Goes.ops2 fits Hh E0_sound (by
      simp (config := { maxSteps := 1000000 }) (decide := true) (discharger := first | omega | (simp only [H.next_new, H.next_put] <;> omega) | decide) only [go_sem, q90, Tryz.f90, readRow, fillStruct, fillPart, partOf, opField, binG, List.set_cons_zero, List.set_cons_succ, List.take_succ_cons, List.drop_succ_cons, List.take_zero, List.drop_zero, List.take_nil, List.drop_nil, List.cons_append, List.singleton_append, loadIn, storeIn, reduceIte, Nat.reduceAdd, Nat.reduceMul, Nat.reduceSub, Nat.reduceDiv, Nat.reduceMod, Nat.reduceLT, Nat.reduceBEq, Int.reduceToNat, geoL, gm, read1]
      rfl) ?_
    show Goes K Tryz.prog 15 none (q90 [1, 1, 1]) _ _ _ _
    rw [q90_111]
    refine Goes.ret ?_
    refine ⟨_, _, (by simp (config := { maxSteps := 1000000 }) (decide := true) (discharger := first | omega | (simp only [H.next_new, H.next_put] <;> omega) | decide) only [go_sem, readRow, fillStruct, fillPart, partOf, opField, binG, List.set_cons_zero, List.set_cons_succ, List.take_succ_cons, List.drop_succ_cons, List.take_zero, List.drop_zero, List.take_nil, List.drop_nil, List.cons_append, List.singleton_append, loadIn, storeIn, reduceIte, Nat.reduceAdd, Nat.reduceMul, Nat.reduceSub, Nat.reduceDiv, Nat.reduceMod, Nat.reduceLT, Nat.reduceBEq, Int.reduceToNat] <;> rfl), rfl, fun m hm => ?_⟩
    simp (config := { maxSteps := 1000000 }) (decide := true) (discharger := first | omega | (simp only [H.next_new, H.next_put] <;> omega) | decide) only [go_sem, readRow, fillStruct, fillPart, partOf, opField, binG, List.set_cons_zero, List.set_cons_succ, List.take_succ_cons, List.drop_succ_cons, List.take_zero, List.drop_zero, List.take_nil, List.drop_nil, List.cons_append, List.singleton_append, loadIn, storeIn, reduceIte, Nat.reduceAdd, Nat.reduceMul, Nat.reduceSub, Nat.reduceDiv, Nat.reduceMod, Nat.reduceLT, Nat.reduceBEq, Int.reduceToNat]
  exact CallOk.quiet c rfl hk
theorem gDataOk {gr sz ino jr : Nat} (F : Fine gr sz ino jr) (h : Go.Ev.H) : CallOk K Tryz.prog 184 [.g (geoL gr sz ino jr)] h (.w (.c (.int .i64 ((sz : Int) - 2 - ((ino / 4 : Nat) : Int))))) h := by
  have F' := F
  obtain ⟨g1, g2, g3, g4, g5, g6, g7, g8, g9, g10, g11⟩ := F'
  have gm : (gr : Int) * (sz : Int) = ((gr * sz : Nat) : Int) := rfl
  have c1 := gMayOk Hh F (h.new (.row 4 [geoL gr sz ino jr] false))
  obtain ⟨v, h', c, rfl, hk⟩ : ∃ v h', CallOk K Tryz.prog 184 [.g (geoL gr sz ino jr)] h v h' ∧ v = .w (.c (.int .i64 ((sz : Int) - 2 - ((ino / 4 : Nat) : Int)))) ∧ ∀ m, m < h.next → h'.get m = h.get m := by
    refine CallOk.goesE fits Hh (by kernel_rfl) (by kernel_rfl) (by kernel_rfl) (show Tryz.f184.body = some (q184 []) by kernel_rfl) rfl ?_
    show Goes K Tryz.prog 13 none _ _ _ _ _
    show Goes K Tryz.prog 13 none (q184 []) _ _ _ _
    rw [q184_]
    refine Goes.seq ?_
    show Goes K Tryz.prog 13 none (q184 [0]) _ _ _ _
    rw [q184_0]
    refine Goes.ops2 fits Hh E0_sound (by
      simp (config := { maxSteps := 1000000 }) (decide := true) (discharger := first | omega | (simp only [H.next_new, H.next_put] <;> omega) | decide) only [go_sem, q184, Tryz.f184, readRow, fillStruct, fillPart, partOf, opField, binG, List.set_cons_zero, List.set_cons_succ, List.take_succ_cons, List.drop_succ_cons, List.take_zero, List.drop_zero, List.take_nil, List.drop_nil, List.cons_append, List.singleton_append, loadIn, storeIn, reduceIte, Nat.reduceAdd, Nat.reduceMul, Nat.reduceSub, Nat.reduceDiv, Nat.reduceMod, Nat.reduceLT, Nat.reduceBEq, Int.reduceToNat, geoL, gm, read1]
      rfl) ?_
    show Goes K Tryz.prog 13 none (q184 [1]) _ _ _ _
    rw [q184_1]
    refine Goes.seq ?_
    show Goes K Tryz.prog 13 none (q184 [1, 0]) _ _ _ _
    rw [q184_10]
    refine Goes.seq ?_
    show Goes K Tryz.prog 13 none (q184 [1, 0, 0]) _ _ _ _
    rw [q184_100]
    refine Goes.ops2 fits Hh (E1_sound E0_sound c1) (by
      simp (config := { maxSteps := 1000000 }) (decide := true) (discharger := first | omega | (simp only [H.next_new, H.next_put] <;> omega) | decide) only [go_sem, q184, Tryz.f184, readRow, fillStruct, fillPart, partOf, opField, binG, List.set_cons_zero, List.set_cons_succ, List.take_succ_cons, List.drop_succ_cons, List.take_zero, List.drop_zero, List.take_nil, List.drop_nil, List.cons_append, List.singleton_append, loadIn, storeIn, reduceIte, Nat.reduceAdd, Nat.reduceMul, Nat.reduceSub, Nat.reduceDiv, Nat.reduceMod, Nat.reduceLT, Nat.reduceBEq, Int.reduceToNat, E1_call, geoL, gm, read1]
      rfl) ?_
    show Goes K Tryz.prog 13 none (q184 [1, 0, 1]) _ _ _ _
    rw [q184_101]
    refine Goes.condE (by simp (config := { maxSteps := 1000000 }) (decide := true) (discharger := first | omega | (simp only [H.next_new, H.next_put] <;> omega) | decide) only [go_sem, readRow, fillStruct, fillPart, partOf, opField, binG, List.set_cons_zero, List.set_cons_succ, List.take_succ_cons, List.drop_succ_cons, List.take_zero, List.drop_zero, List.take_nil, List.drop_nil, List.cons_append, List.singleton_append, loadIn, storeIn, reduceIte, Nat.reduceAdd, Nat.reduceMul, Nat.reduceSub, Nat.reduceDiv, Nat.reduceMod, Nat.reduceLT, Nat.reduceBEq, Int.reduceToNat, geoL, gm, read1] <;> rfl) (by first | rfl | assumption | exact decide_eq_false (by omega) | (simp; omega)) ?_
    show Goes K Tryz.prog 13 none (q184 [1, 0, 1, 4]) _ _ _ _
    rw [q184_1014]
    refine Goes.skip ?_
    show Goes K Tryz.prog 13 none (q184 [1, 1]) _ _ _ _
    rw [q184_11]
    refine Goes.seq ?_
    show Goes K Tryz.prog 13 none (q184 [1, 1, 0]) _ _ _ _
    rw [q184_110]
    refine Goes.ops2 fits Hh E0_sound (by
      simp (config := { maxSteps := 1000000 }) (decide := true) (discharger := first | omega | (simp only [H.next_new, H.next_put] <;> omega) | decide) only [go_sem, q184, Tryz.f184, readRow, fillStruct, fillPart, partOf, opField, binG, List.set_cons_zero, List.set_cons_succ, List.take_succ_cons, List.drop_succ_cons, List.take_zero, List.drop_zero, List.take_nil, List.drop_nil, List.cons_append, List.singleton_append, loadIn, storeIn, reduceIte, Nat.reduceAdd, Nat.reduceMul, Nat.reduceSub, Nat.reduceDiv, Nat.reduceMod, Nat.reduceLT, Nat.reduceBEq, Int.reduceToNat, geoL, gm, read1]
      rfl) ?_
    show Goes K Tryz.prog 13 none (q184 [1, 1, 1]) _ _ _ _
    rw [q184_111]
    refine Goes.ret ?_
    refine ⟨_, _, (by simp (config := { maxSteps := 1000000 }) (decide := true) (discharger := first | omega | (simp only [H.next_new, H.next_put] <;> omega) | decide) only [go_sem, readRow, fillStruct, fillPart, partOf, opField, binG, List.set_cons_zero, List.set_cons_succ, List.take_succ_cons, List.drop_succ_cons, List.take_zero, List.drop_zero, List.take_nil, List.drop_nil, List.cons_append, List.singleton_append, loadIn, storeIn, reduceIte, Nat.reduceAdd, Nat.reduceMul, Nat.reduceSub, Nat.reduceDiv, Nat.reduceMod, Nat.reduceLT, Nat.reduceBEq, Int.reduceToNat] <;> rfl), rfl, fun m hm => ?_⟩
    simp (config := { maxSteps := 1000000 }) (decide := true) (discharger := first | omega | (simp only [H.next_new, H.next_put] <;> omega) | decide) only [go_sem, readRow, fillStruct, fillPart, partOf, opField, binG, List.set_cons_zero, List.set_cons_succ, List.take_succ_cons, List.drop_succ_cons, List.take_zero, List.drop_zero, List.take_nil, List.drop_nil, List.cons_append, List.singleton_append, loadIn, storeIn, reduceIte, Nat.reduceAdd, Nat.reduceMul, Nat.reduceSub, Nat.reduceDiv, Nat.reduceMod, Nat.reduceLT, Nat.reduceBEq, Int.reduceToNat]
  exact CallOk.quiet c rfl hk
theorem gStartOk {gr sz ino jr : Nat} (F : Fine gr sz ino jr) (h : Go.Ev.H) (k : Nat) (hk : k < gr) : CallOk K Tryz.prog 66 [.g (geoL gr sz ino jr), .c (.int .i64 k)] h (.tup [.c (.int .i64 ((2 + jr + k * sz : Nat) : Int)), .c (.bool true)]) h := by
  have F' := F
  obtain ⟨g1, g2, g3, g4, g5, g6, g7, g8, g9, g10, g11⟩ := F'
  have gm : (gr : Int) * (sz : Int) = ((gr * sz : Nat) : Int) := rfl
  have c1 := gMayOk Hh F (h.new (.row 4 [geoL gr sz ino jr] false))
  have gi : (k : Int) * (sz : Int) = ((k * sz : Nat) : Int) := rfl
  have b1 : k * sz ≤ gr * sz := Nat.mul_le_mul (by omega) (by omega)
  obtain ⟨v, h', c, rfl, hk⟩ : ∃ v h', CallOk K Tryz.prog 66 [.g (geoL gr sz ino jr), .c (.int .i64 k)] h v h' ∧ v = .tup [.c (.int .i64 ((2 + jr + k * sz : Nat) : Int)), .c (.bool true)] ∧ ∀ m, m < h.next → h'.get m = h.get m := by
    refine CallOk.goesE fits Hh (by kernel_rfl) (by kernel_rfl) (by kernel_rfl) (show Tryz.f66.body = some (q66 []) by kernel_rfl) rfl ?_
    show Goes K Tryz.prog 27 none _ _ _ _ _
    show Goes K Tryz.prog 27 none (q66 []) _ _ _ _
    rw [q66_]
    refine Goes.seq ?_
    show Goes K Tryz.prog 27 none (q66 [0]) _ _ _ _
    rw [q66_0]
    refine Goes.ops2 fits Hh E0_sound (by
      simp (config := { maxSteps := 1000000 }) (decide := true) (discharger := first | omega | (simp only [H.next_new, H.next_put] <;> omega) | decide) only [go_sem, q66, Tryz.f66, readRow, fillStruct, fillPart, partOf, opField, binG, List.set_cons_zero, List.set_cons_succ, List.take_succ_cons, List.drop_succ_cons, List.take_zero, List.drop_zero, List.take_nil, List.drop_nil, List.cons_append, List.singleton_append, loadIn, storeIn, reduceIte, Nat.reduceAdd, Nat.reduceMul, Nat.reduceSub, Nat.reduceDiv, Nat.reduceMod, Nat.reduceLT, Nat.reduceBEq, Int.reduceToNat, geoL, gm, gi, read1]
      rfl) ?_
    show Goes K Tryz.prog 27 none (q66 [1]) _ _ _ _
    rw [q66_1]
    refine Goes.seq ?_
    show Goes K Tryz.prog 27 none (q66 [1, 0]) _ _ _ _
    rw [q66_10]
    refine Goes.seq ?_
    show Goes K Tryz.prog 27 none (q66 [1, 0, 0]) _ _ _ _
    rw [q66_100]
    refine Goes.ops2 fits Hh (E1_sound E0_sound c1) (by
      simp only [q66, Tryz.f66, piece, part0, part1, part2, part2l, part3, part4, part5, part6, bodyOf, opsA]
      iterate 13 (refine evOps_step (by simp (config := { maxSteps := 1000000 }) (decide := true) (discharger := first | omega | (simp only [H.next_new, H.next_put] <;> omega) | decide) only [go_sem, readRow, fillStruct, fillPart, partOf, opField, binG, List.set_cons_zero, List.set_cons_succ, List.take_succ_cons, List.drop_succ_cons, List.take_zero, List.drop_zero, List.take_nil, List.drop_nil, List.cons_append, List.singleton_append, loadIn, storeIn, reduceIte, Nat.reduceAdd, Nat.reduceMul, Nat.reduceSub, Nat.reduceDiv, Nat.reduceMod, Nat.reduceLT, Nat.reduceBEq, Int.reduceToNat, E1_call, geoL, gm, gi, read1] <;> rfl) ?_)
      exact evOps_done) ?_
    show Goes K Tryz.prog 27 none (q66 [1, 0, 1]) _ _ _ _
    rw [q66_101]
    refine Goes.condE (by simp (config := { maxSteps := 1000000 }) (decide := true) (discharger := first | omega | (simp only [H.next_new, H.next_put] <;> omega) | decide) only [go_sem, readRow, fillStruct, fillPart, partOf, opField, binG, List.set_cons_zero, List.set_cons_succ, List.take_succ_cons, List.drop_succ_cons, List.take_zero, List.drop_zero, List.take_nil, List.drop_nil, List.cons_append, List.singleton_append, loadIn, storeIn, reduceIte, Nat.reduceAdd, Nat.reduceMul, Nat.reduceSub, Nat.reduceDiv, Nat.reduceMod, Nat.reduceLT, Nat.reduceBEq, Int.reduceToNat, geoL, gm, gi, read1] <;> rfl) (by first | rfl | assumption | exact decide_eq_false (by omega) | (simp; omega)) ?_
    show Goes K Tryz.prog 27 none (q66 [1, 0, 1, 4]) _ _ _ _
    rw [q66_1014]
    refine Goes.skip ?_
    show Goes K Tryz.prog 27 none (q66 [1, 1]) _ _ _ _
    rw [q66_11]
    refine Goes.seq ?_
    show Goes K Tryz.prog 27 none (q66 [1, 1, 0]) _ _ _ _
    rw [q66_110]
    refine Goes.ops2 fits Hh E0_sound (by
      simp (config := { maxSteps := 1000000 }) (decide := true) (discharger := first | omega | (simp only [H.next_new, H.next_put] <;> omega) | decide) only [go_sem, q66, Tryz.f66, readRow, fillStruct, fillPart, partOf, opField, binG, List.set_cons_zero, List.set_cons_succ, List.take_succ_cons, List.drop_succ_cons, List.take_zero, List.drop_zero, List.take_nil, List.drop_nil, List.cons_append, List.singleton_append, loadIn, storeIn, reduceIte, Nat.reduceAdd, Nat.reduceMul, Nat.reduceSub, Nat.reduceDiv, Nat.reduceMod, Nat.reduceLT, Nat.reduceBEq, Int.reduceToNat, geoL, gm, gi, read1]
      rfl) ?_
    show Goes K Tryz.prog 27 none (q66 [1, 1, 1]) _ _ _ _
    rw [q66_111]
    refine Goes.ret ?_
    refine ⟨_, _, (by simp (config := { maxSteps := 1000000 }) (decide := true) (discharger := first | omega | (simp only [H.next_new, H.next_put] <;> omega) | decide) only [go_sem, readRow, fillStruct, fillPart, partOf, opField, binG, List.set_cons_zero, List.set_cons_succ, List.take_succ_cons, List.drop_succ_cons, List.take_zero, List.drop_zero, List.take_nil, List.drop_nil, List.cons_append, List.singleton_append, loadIn, storeIn, reduceIte, Nat.reduceAdd, Nat.reduceMul, Nat.reduceSub, Nat.reduceDiv, Nat.reduceMod, Nat.reduceLT, Nat.reduceBEq, Int.reduceToNat] <;> rfl), rfl, fun m hm => ?_⟩
    simp (config := { maxSteps := 1000000 }) (decide := true) (discharger := first | omega | (simp only [H.next_new, H.next_put] <;> omega) | decide) only [go_sem, readRow, fillStruct, fillPart, partOf, opField, binG, List.set_cons_zero, List.set_cons_succ, List.take_succ_cons, List.drop_succ_cons, List.take_zero, List.drop_zero, List.take_nil, List.drop_nil, List.cons_append, List.singleton_append, loadIn, storeIn, reduceIte, Nat.reduceAdd, Nat.reduceMul, Nat.reduceSub, Nat.reduceDiv, Nat.reduceMod, Nat.reduceLT, Nat.reduceBEq, Int.reduceToNat]
  exact CallOk.quiet c rfl hk
end
end Go.Proofs.YtnnjkhccbigmaaaGreatDoor

