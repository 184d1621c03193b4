/- TreeNil, whatever it is given. -/
import Derived.Test.YtmnclecicnkmeaaGreatDoorAw30
set_option linter.unusedSimpArgs false
set_option linter.unusedVariables false
set_option linter.unusedSectionVars false
set_option maxRecDepth 100000
namespace Go.Proofs.YtmnclecicnkmeaaGreatDoor
open Go.Ev
theorem ty9 : K.types.get 9 = some ti9 := by kernel_rfl
theorem sz9 : ti9.size = 1 := by rfl
theorem ag9 : ti9.agg = false := by rfl
theorem de9 : ti9.desc = .string := by rfl
theorem ze9 : ti9.zero = (.c (.str [])) := by rfl
theorem by9 : ti9.bytes = 16 := by rfl
theorem ty23 : K.types.get 23 = some ti23 := by kernel_rfl
theorem sz23 : ti23.size = 5 := by rfl
theorem ag23 : ti23.agg = true := by rfl
theorem fo23_0 : fieldOf K 23 0 = some (0, ti5) := by kernel_rfl
theorem fo23_1 : fieldOf K 23 1 = some (1, ti3) := by kernel_rfl
theorem fo23_2 : fieldOf K 23 2 = some (2, ti3) := by kernel_rfl
theorem fo23_3 : fieldOf K 23 3 = some (3, ti9) := by kernel_rfl
theorem fo23_4 : fieldOf K 23 4 = some (4, ti9) := by kernel_rfl
theorem bu23 (ps : List (Nat × W)) : opBuild K 23 (some ps) = gW (fillStruct K 23 ps ti23.zero.cells) := by kernel_rfl
theorem ze23 : ti23.zero = (.g ([.int .u8 0, .int .i64 0, .int .i64 0, .str [], .str []])) := by rfl
theorem by23 : ti23.bytes = 56 := by rfl
theorem ty25 : K.types.get 25 = some ti25 := by kernel_rfl
theorem sz25 : ti25.size = 1 := by rfl
theorem ag25 : ti25.agg = false := by rfl
theorem de25 : ti25.desc = (.slice 23) := by rfl
theorem ze25 : ti25.zero = (.c (.snil)) := by rfl
theorem by25 : ti25.bytes = 24 := by rfl
theorem el25 : elemTI K 25 = some ti23 := by kernel_rfl
theorem ty27 : K.types.get 27 = some ti27 := by kernel_rfl
theorem sz27 : ti27.size = 1 := by rfl
theorem ag27 : ti27.agg = false := by rfl
theorem de27 : ti27.desc = (.pointer 160) := by rfl
theorem ze27 : ti27.zero = (.c (.pnil)) := by rfl
theorem by27 : ti27.bytes = 8 := by rfl
theorem ty28 : K.types.get 28 = some ti28 := by kernel_rfl
theorem sz28 : ti28.size = 1 := by rfl
theorem ag28 : ti28.agg = false := by rfl
theorem de28 : ti28.desc = (.pointer 272) := by rfl
theorem ze28 : ti28.zero = (.c (.pnil)) := by rfl
theorem by28 : ti28.bytes = 8 := by rfl
theorem ty29 : K.types.get 29 = some ti29 := by kernel_rfl
theorem sz29 : ti29.size = 1 := by rfl
theorem ag29 : ti29.agg = false := by rfl
theorem de29 : ti29.desc = (.pointer 175) := by rfl
theorem ze29 : ti29.zero = (.c (.pnil)) := by rfl
theorem by29 : ti29.bytes = 8 := by rfl
theorem ty30 : K.types.get 30 = some ti30 := by kernel_rfl
theorem sz30 : ti30.size = 1 := by rfl
theorem ag30 : ti30.agg = false := by rfl
theorem de30 : ti30.desc = (.map 3 180) := by rfl
theorem ze30 : ti30.zero = (.c (.mnil)) := by rfl
theorem by30 : ti30.bytes = 8 := by rfl
theorem mp30 : mapTI K 30 = some (3, 180) := by kernel_rfl
theorem ty31 : K.types.get 31 = some ti31 := by kernel_rfl
theorem sz31 : ti31.size = 1 := by rfl
theorem ag31 : ti31.agg = false := by rfl
theorem de31 : ti31.desc = (.map 3 3) := by rfl
theorem ze31 : ti31.zero = (.c (.mnil)) := by rfl
theorem by31 : ti31.bytes = 8 := by rfl
theorem mp31 : mapTI K 31 = some (3, 3) := by kernel_rfl
theorem ty32 : K.types.get 32 = some ti32 := by kernel_rfl
theorem sz32 : ti32.size = 1 := by rfl
theorem ag32 : ti32.agg = false := by rfl
theorem de32 : ti32.desc = (.slice 3) := by rfl
theorem ze32 : ti32.zero = (.c (.snil)) := by rfl
theorem by32 : ti32.bytes = 24 := by rfl
theorem el32 : elemTI K 32 = some ti3 := by kernel_rfl
theorem ty34 : K.types.get 34 = some ti34 := by kernel_rfl
theorem sz34 : ti34.size = 8 := by rfl
theorem ag34 : ti34.agg = true := by rfl
theorem fo34_0 : fieldOf K 34 0 = some (0, ti27) := by kernel_rfl
theorem fo34_1 : fieldOf K 34 1 = some (1, ti28) := by kernel_rfl
theorem fo34_2 : fieldOf K 34 2 = some (2, ti29) := by kernel_rfl
theorem fo34_3 : fieldOf K 34 3 = some (3, ti30) := by kernel_rfl
theorem fo34_4 : fieldOf K 34 4 = some (4, ti31) := by kernel_rfl
theorem fo34_5 : fieldOf K 34 5 = some (5, ti32) := by kernel_rfl
theorem fo34_6 : fieldOf K 34 6 = some (6, ti4) := by kernel_rfl
theorem fo34_7 : fieldOf K 34 7 = some (7, ti4) := by kernel_rfl
theorem bu34 (ps : List (Nat × W)) : opBuild K 34 (some ps) = gW (fillStruct K 34 ps ti34.zero.cells) := by kernel_rfl
theorem ze34 : ti34.zero = (.g ([.pnil, .pnil, .pnil, .mnil, .mnil, .snil, .bool false, .bool false])) := by rfl
theorem by34 : ti34.bytes = 72 := by rfl
theorem ty35 : K.types.get 35 = some ti35 := by kernel_rfl
theorem sz35 : ti35.size = 1 := by rfl
theorem ag35 : ti35.agg = false := by rfl
theorem de35 : ti35.desc = (.slice 26) := by rfl
theorem ze35 : ti35.zero = (.c (.snil)) := by rfl
theorem by35 : ti35.bytes = 24 := by rfl
theorem el35 : elemTI K 35 = some ti26 := by kernel_rfl
theorem ty180 : K.types.get 180 = some ti180 := by kernel_rfl
theorem sz180 : ti180.size = 257 := by rfl
theorem ag180 : ti180.agg = true := by rfl
theorem fo180_0 : fieldOf K 180 0 = some (0, ti3) := by kernel_rfl
theorem fo180_1 : fieldOf K 180 1 = some (1, ti104) := by kernel_rfl
theorem bu180 (ps : List (Nat × W)) : opBuild K 180 (some ps) = gW (fillStruct K 180 ps ti180.zero.cells) := by kernel_rfl
theorem ze180 : ti180.zero = (.g (List.replicate 1 (.int .i64 0) ++ List.replicate 256 (.int .u8 0))) := by rfl
theorem by180 : ti180.bytes = 264 := by rfl
attribute [go_sem] ty9 sz9 ag9 de9 ze9 by9 ty23 sz23 ag23 fo23_0 fo23_1 fo23_2 fo23_3 fo23_4 bu23 ze23 by23 ty25 sz25 ag25 de25 ze25 by25 el25 ty27 sz27 ag27 de27 ze27 by27 ty28 sz28 ag28 de28 ze28 by28 ty29 sz29 ag29 de29 ze29 by29 ty30 sz30 ag30 de30 ze30 by30 mp30 ty31 sz31 ag31 de31 ze31 by31 mp31 ty32 sz32 ag32 de32 ze32 by32 el32 ty34 sz34 ag34 fo34_0 fo34_1 fo34_2 fo34_3 fo34_4 fo34_5 fo34_6 fo34_7 bu34 ze34 by34 ty35 sz35 ag35 de35 ze35 by35 el35 ty180 sz180 ag180 fo180_0 fo180_1 bu180 ze180 by180
noncomputable def q3 (p : List Nat) : Code := piece p (bodyOf Tryz.f3)
theorem q3_ : q3 [] = .seq (q3 [0]) (q3 [1]) := by kernel_rfl
theorem q3_0 : q3 [0] = .region 0 (opsA (q3 [0])) false := by kernel_rfl
theorem q3_1 : q3 [1] = .seq (q3 [1, 0]) (q3 [1, 1]) := by kernel_rfl
theorem q3_10 : q3 [1, 0] = .seq (q3 [1, 0, 0]) (q3 [1, 0, 1]) := by kernel_rfl
theorem q3_100 : q3 [1, 0, 0] = .region 1 (opsA (q3 [1, 0, 0])) false := by kernel_rfl
theorem q3_101 : q3 [1, 0, 1] = .cond (.tmp 22) (q3 [1, 0, 1, 3]) (q3 [1, 0, 1, 4]) := by kernel_rfl
theorem q3_1013 : q3 [1, 0, 1, 3] = .seq (q3 [1, 0, 1, 3, 0]) (q3 [1, 0, 1, 3, 1]) := by kernel_rfl
theorem q3_10130 : q3 [1, 0, 1, 3, 0] = .region 2 (opsA (q3 [1, 0, 1, 3, 0])) false := by kernel_rfl
theorem q3_10131 : q3 [1, 0, 1, 3, 1] = .ret := by kernel_rfl
theorem q3_1014 : q3 [1, 0, 1, 4] = .skip := by kernel_rfl
noncomputable def q4 (p : List Nat) : Code := piece p (bodyOf Tryz.f4)
theorem q4_ : q4 [] = .seq (q4 [0]) (q4 [1]) := by kernel_rfl
theorem q4_0 : q4 [0] = .region 0 (opsA (q4 [0])) false := by kernel_rfl
theorem q4_1 : q4 [1] = .seq (q4 [1, 0]) (q4 [1, 1]) := by kernel_rfl
theorem q4_10 : q4 [1, 0] = .seq (q4 [1, 0, 0]) (q4 [1, 0, 1]) := by kernel_rfl
theorem q4_100 : q4 [1, 0, 0] = .region 1 (opsA (q4 [1, 0, 0])) false := by kernel_rfl
theorem q4_101 : q4 [1, 0, 1] = .cond (.tmp 7) (q4 [1, 0, 1, 3]) (q4 [1, 0, 1, 4]) := by kernel_rfl
theorem q4_1014 : q4 [1, 0, 1, 4] = .skip := by kernel_rfl
theorem q4_11 : q4 [1, 1] = .seq (q4 [1, 1, 0]) (q4 [1, 1, 1]) := by kernel_rfl
theorem q4_110 : q4 [1, 1, 0] = .region 3 (opsA (q4 [1, 1, 0])) false := by kernel_rfl
theorem q4_111 : q4 [1, 1, 1] = .seq (q4 [1, 1, 1, 0]) (q4 [1, 1, 1, 1]) := by kernel_rfl
theorem q4_1110 : q4 [1, 1, 1, 0] = .seq (q4 [1, 1, 1, 0, 0]) (q4 [1, 1, 1, 0, 1]) := by kernel_rfl
theorem q4_11100 : q4 [1, 1, 1, 0, 0] = .region 4 (opsA (q4 [1, 1, 1, 0, 0])) false := by kernel_rfl
theorem q4_11101 : q4 [1, 1, 1, 0, 1] = .block 0 (q4 [1, 1, 1, 0, 1, 2]) := by kernel_rfl
theorem q4_111012 : q4 [1, 1, 1, 0, 1, 2] = .loop (q4 [1, 1, 1, 0, 1, 2, 2]) := by kernel_rfl
theorem q4_1110122 : q4 [1, 1, 1, 0, 1, 2, 2] = .seq (q4 [1, 1, 1, 0, 1, 2, 2, 0]) (q4 [1, 1, 1, 0, 1, 2, 2, 1]) := by kernel_rfl
theorem q4_11101220 : q4 [1, 1, 1, 0, 1, 2, 2, 0] = .seq (q4 [1, 1, 1, 0, 1, 2, 2, 0, 0]) (q4 [1, 1, 1, 0, 1, 2, 2, 0, 1]) := by kernel_rfl
theorem q4_111012200 : q4 [1, 1, 1, 0, 1, 2, 2, 0, 0] = .region 5 (opsA (q4 [1, 1, 1, 0, 1, 2, 2, 0, 0])) false := by kernel_rfl
theorem q4_111012201 : q4 [1, 1, 1, 0, 1, 2, 2, 0, 1] = .cond (.tmp 11) (q4 [1, 1, 1, 0, 1, 2, 2, 0, 1, 3]) (q4 [1, 1, 1, 0, 1, 2, 2, 0, 1, 4]) := by kernel_rfl
theorem q4_1110122013 : q4 [1, 1, 1, 0, 1, 2, 2, 0, 1, 3] = .skip := by kernel_rfl
theorem q4_1110122014 : q4 [1, 1, 1, 0, 1, 2, 2, 0, 1, 4] = .exit 0 := by kernel_rfl
theorem q4_11101221 : q4 [1, 1, 1, 0, 1, 2, 2, 1] = .seq (q4 [1, 1, 1, 0, 1, 2, 2, 1, 0]) (q4 [1, 1, 1, 0, 1, 2, 2, 1, 1]) := by kernel_rfl
theorem q4_111012210 : q4 [1, 1, 1, 0, 1, 2, 2, 1, 0] = .block 1 (q4 [1, 1, 1, 0, 1, 2, 2, 1, 0, 2]) := by kernel_rfl
theorem q4_1110122102 : q4 [1, 1, 1, 0, 1, 2, 2, 1, 0, 2] = .seq (q4 [1, 1, 1, 0, 1, 2, 2, 1, 0, 2, 0]) (q4 [1, 1, 1, 0, 1, 2, 2, 1, 0, 2, 1]) := by kernel_rfl
theorem q4_11101221020 : q4 [1, 1, 1, 0, 1, 2, 2, 1, 0, 2, 0] = .seq (q4 [1, 1, 1, 0, 1, 2, 2, 1, 0, 2, 0, 0]) (q4 [1, 1, 1, 0, 1, 2, 2, 1, 0, 2, 0, 1]) := by kernel_rfl
theorem q4_111012210200 : q4 [1, 1, 1, 0, 1, 2, 2, 1, 0, 2, 0, 0] = .region 7 (opsA (q4 [1, 1, 1, 0, 1, 2, 2, 1, 0, 2, 0, 0])) false := by kernel_rfl
theorem q4_111012210201 : q4 [1, 1, 1, 0, 1, 2, 2, 1, 0, 2, 0, 1] = .cond (.tmp 29) (q4 [1, 1, 1, 0, 1, 2, 2, 1, 0, 2, 0, 1, 3]) (q4 [1, 1, 1, 0, 1, 2, 2, 1, 0, 2, 0, 1, 4]) := by kernel_rfl
theorem q4_1110122102013 : q4 [1, 1, 1, 0, 1, 2, 2, 1, 0, 2, 0, 1, 3] = .seq (q4 [1, 1, 1, 0, 1, 2, 2, 1, 0, 2, 0, 1, 3, 0]) (q4 [1, 1, 1, 0, 1, 2, 2, 1, 0, 2, 0, 1, 3, 1]) := by kernel_rfl
theorem q4_11101221020130 : q4 [1, 1, 1, 0, 1, 2, 2, 1, 0, 2, 0, 1, 3, 0] = .region 8 (opsA (q4 [1, 1, 1, 0, 1, 2, 2, 1, 0, 2, 0, 1, 3, 0])) false := by kernel_rfl
theorem q4_11101221020131 : q4 [1, 1, 1, 0, 1, 2, 2, 1, 0, 2, 0, 1, 3, 1] = .ret := by kernel_rfl
theorem q4_1110122102014 : q4 [1, 1, 1, 0, 1, 2, 2, 1, 0, 2, 0, 1, 4] = .skip := by kernel_rfl
theorem q4_11101221021 : q4 [1, 1, 1, 0, 1, 2, 2, 1, 0, 2, 1] = .region 9 (opsA (q4 [1, 1, 1, 0, 1, 2, 2, 1, 0, 2, 1])) true := by kernel_rfl
theorem q4_111012211 : q4 [1, 1, 1, 0, 1, 2, 2, 1, 1] = .region 6 (opsA (q4 [1, 1, 1, 0, 1, 2, 2, 1, 1])) false := by kernel_rfl
theorem q4_1111 : q4 [1, 1, 1, 1] = .seq (q4 [1, 1, 1, 1, 0]) (q4 [1, 1, 1, 1, 1]) := by kernel_rfl
theorem q4_11110 : q4 [1, 1, 1, 1, 0] = .region 10 (opsA (q4 [1, 1, 1, 1, 0])) false := by kernel_rfl
theorem q4_11111 : q4 [1, 1, 1, 1, 1] = .ret := by kernel_rfl
theorem rs3 : Tryz.f3.results.toList = [.tmp 2] := rfl
theorem rs4 : Tryz.f4.results.toList = [.tmp 2] := rfl
attribute [go_sem] rs3 rs4
def actL (k a m : Int) (s o : List UInt8) : List C := [.int .u8 k, .int .i64 a, .int .i64 m, .str s, .str o]
section
variable (Hh : Hearts K Tryz.prog)
include Hh
theorem greatA (h : Go.Ev.H) (n : Nat) (k a m : Int) (s o : List UInt8) (hs : 20000 < s.length) (hg : h.get n = some (.row 5 [actL k a m s o] false)) : CallOk K Tryz.prog 4 [.c (.slice n 0 1 5)] h (.w (.c (.bool true))) h := by
  have fl1 : lenFits K 25 (.c (.slice n 0 1 5)) = true := by kernel_rfl
  have fl2 : lenFits K 9 (.c (.str s)) = true := by kernel_rfl
  refine CallOk.goes fits Hh (by kernel_rfl) (by kernel_rfl) (by kernel_rfl) (show Tryz.f4.body = some (q4 []) by kernel_rfl) rfl ?_
  show Goes K Tryz.prog 47 none _ _ _ _ _
  show Goes K Tryz.prog 47 none (q4 []) _ _ _ _
  rw [q4_]
  refine Goes.seq ?_
  show Goes K Tryz.prog 47 none (q4 [0]) _ _ _ _
  rw [q4_0]
  refine Goes.ops2 fits Hh E0_sound (by
    simp (config := { maxSteps := 1000000 }) (decide := true) (discharger := first | omega | (simp only [H.next_new, H.next_put] <;> omega) | decide) only [go_sem, q4, Tryz.f4, readRow, loadIn, reduceIte, Nat.reduceAdd, Nat.reduceMul, Nat.reduceSub, Nat.reduceDiv, Nat.reduceMod, Nat.reduceLT, Nat.reduceBEq, Int.reduceToNat, fl1, fl2, hg, actL, opBuiltin, opLen, read1]
    rfl) ?_
  show Goes K Tryz.prog 47 none (q4 [1]) _ _ _ _
  rw [q4_1]
  refine Goes.seq ?_
  show Goes K Tryz.prog 47 none (q4 [1, 0]) _ _ _ _
  rw [q4_10]
  refine Goes.seq ?_
  show Goes K Tryz.prog 47 none (q4 [1, 0, 0]) _ _ _ _
  rw [q4_100]
  refine Goes.ops2 fits Hh E0_sound (by
    simp (config := { maxSteps := 1000000 }) (decide := true) (discharger := first | omega | (simp only [H.next_new, H.next_put] <;> omega) | decide) only [go_sem, q4, Tryz.f4, readRow, loadIn, reduceIte, Nat.reduceAdd, Nat.reduceMul, Nat.reduceSub, Nat.reduceDiv, Nat.reduceMod, Nat.reduceLT, Nat.reduceBEq, Int.reduceToNat, fl1, fl2, hg, actL, opBuiltin, opLen, read1]
    rfl) ?_
  show Goes K Tryz.prog 47 none (q4 [1, 0, 1]) _ _ _ _
  rw [q4_101]
  refine Goes.condE (by simp (config := { maxSteps := 1000000 }) (decide := true) (discharger := first | omega | (simp only [H.next_new, H.next_put] <;> omega) | decide) only [go_sem, readRow, loadIn, reduceIte, Nat.reduceAdd, Nat.reduceMul, Nat.reduceSub, Nat.reduceDiv, Nat.reduceMod, Nat.reduceLT, Nat.reduceBEq, Int.reduceToNat, fl1, fl2, hg, actL, opBuiltin, opLen, read1] <;> rfl) (by first | rfl | assumption | exact decide_eq_false (by omega) | (simp; omega)) ?_
  show Goes K Tryz.prog 47 none (q4 [1, 0, 1, 4]) _ _ _ _
  rw [q4_1014]
  refine Goes.skip ?_
  show Goes K Tryz.prog 47 none (q4 [1, 1]) _ _ _ _
  rw [q4_11]
  refine Goes.seq ?_
  show Goes K Tryz.prog 47 none (q4 [1, 1, 0]) _ _ _ _
  rw [q4_110]
  refine Goes.ops2 fits Hh E0_sound (by
    simp (config := { maxSteps := 1000000 }) (decide := true) (discharger := first | omega | (simp only [H.next_new, H.next_put] <;> omega) | decide) only [go_sem, q4, Tryz.f4, readRow, loadIn, reduceIte, Nat.reduceAdd, Nat.reduceMul, Nat.reduceSub, Nat.reduceDiv, Nat.reduceMod, Nat.reduceLT, Nat.reduceBEq, Int.reduceToNat, fl1, fl2, hg, actL, opBuiltin, opLen, read1]
    rfl) ?_
  show Goes K Tryz.prog 47 none (q4 [1, 1, 1]) _ _ _ _
  rw [q4_111]
  refine Goes.seq ?_
  show Goes K Tryz.prog 47 none (q4 [1, 1, 1, 0]) _ _ _ _
  rw [q4_1110]
  refine Goes.seq ?_
  show Goes K Tryz.prog 47 none (q4 [1, 1, 1, 0, 0]) _ _ _ _
  rw [q4_11100]
  refine Goes.ops2 fits Hh E0_sound (by
    simp (config := { maxSteps := 1000000 }) (decide := true) (discharger := first | omega | (simp only [H.next_new, H.next_put] <;> omega) | decide) only [go_sem, q4, Tryz.f4, readRow, loadIn, reduceIte, Nat.reduceAdd, Nat.reduceMul, Nat.reduceSub, Nat.reduceDiv, Nat.reduceMod, Nat.reduceLT, Nat.reduceBEq, Int.reduceToNat, fl1, fl2, hg, actL, opBuiltin, opLen, read1]
    rfl) ?_
  show Goes K Tryz.prog 47 none (q4 [1, 1, 1, 0, 1]) _ _ _ _
  rw [q4_11101]
  refine Goes.block ?_
  show Goes K Tryz.prog 47 none (q4 [1, 1, 1, 0, 1, 2]) _ _ _ _
  rw [q4_111012]
  refine Goes.loop ?_
  show Goes K Tryz.prog 47 none (q4 [1, 1, 1, 0, 1, 2, 2]) _ _ _ _
  rw [q4_1110122]
  refine Goes.seq ?_
  show Goes K Tryz.prog 47 none (q4 [1, 1, 1, 0, 1, 2, 2, 0]) _ _ _ _
  rw [q4_11101220]
  refine Goes.seq ?_
  show Goes K Tryz.prog 47 none (q4 [1, 1, 1, 0, 1, 2, 2, 0, 0]) _ _ _ _
  rw [q4_111012200]
  refine Goes.ops2 fits Hh E0_sound (by
    simp (config := { maxSteps := 1000000 }) (decide := true) (discharger := first | omega | (simp only [H.next_new, H.next_put] <;> omega) | decide) only [go_sem, q4, Tryz.f4, readRow, loadIn, reduceIte, Nat.reduceAdd, Nat.reduceMul, Nat.reduceSub, Nat.reduceDiv, Nat.reduceMod, Nat.reduceLT, Nat.reduceBEq, Int.reduceToNat, fl1, fl2, hg, actL, opBuiltin, opLen, read1]
    rfl) ?_
  show Goes K Tryz.prog 47 none (q4 [1, 1, 1, 0, 1, 2, 2, 0, 1]) _ _ _ _
  rw [q4_111012201]
  refine Goes.condA (by simp (config := { maxSteps := 1000000 }) (decide := true) (discharger := first | omega | (simp only [H.next_new, H.next_put] <;> omega) | decide) only [go_sem, readRow, loadIn, reduceIte, Nat.reduceAdd, Nat.reduceMul, Nat.reduceSub, Nat.reduceDiv, Nat.reduceMod, Nat.reduceLT, Nat.reduceBEq, Int.reduceToNat, fl1, fl2, hg, actL, opBuiltin, opLen, read1] <;> rfl) (by first | rfl | assumption | exact decide_eq_true (by omega) | (simp; omega)) ?_
  show Goes K Tryz.prog 47 none (q4 [1, 1, 1, 0, 1, 2, 2, 0, 1, 3]) _ _ _ _
  rw [q4_1110122013]
  refine Goes.skip ?_
  show Goes K Tryz.prog 47 none (q4 [1, 1, 1, 0, 1, 2, 2, 1]) _ _ _ _
  rw [q4_11101221]
  refine Goes.seq ?_
  show Goes K Tryz.prog 47 none (q4 [1, 1, 1, 0, 1, 2, 2, 1, 0]) _ _ _ _
  rw [q4_111012210]
  refine Goes.block ?_
  show Goes K Tryz.prog 47 none (q4 [1, 1, 1, 0, 1, 2, 2, 1, 0, 2]) _ _ _ _
  rw [q4_1110122102]
  refine Goes.seq ?_
  show Goes K Tryz.prog 47 none (q4 [1, 1, 1, 0, 1, 2, 2, 1, 0, 2, 0]) _ _ _ _
  rw [q4_11101221020]
  refine Goes.seq ?_
  show Goes K Tryz.prog 47 none (q4 [1, 1, 1, 0, 1, 2, 2, 1, 0, 2, 0, 0]) _ _ _ _
  rw [q4_111012210200]
  refine Goes.ops2 fits Hh E0_sound (by
    simp only [q4, Tryz.f4, piece, part0, part1, part2, part2l, part3, part4, part5, part6, bodyOf, opsA]
    iterate 16 (refine evOps_step (by simp (config := { maxSteps := 1000000 }) (decide := true) (discharger := first | omega | (simp only [H.next_new, H.next_put] <;> omega) | decide) only [go_sem, readRow, loadIn, reduceIte, Nat.reduceAdd, Nat.reduceMul, Nat.reduceSub, Nat.reduceDiv, Nat.reduceMod, Nat.reduceLT, Nat.reduceBEq, Int.reduceToNat, fl1, fl2, hg, actL, opBuiltin, opLen, read1] <;> rfl) ?_)
    exact evOps_done) ?_
  show Goes K Tryz.prog 47 none (q4 [1, 1, 1, 0, 1, 2, 2, 1, 0, 2, 0, 1]) _ _ _ _
  rw [q4_111012210201]
  refine Goes.condA (by simp (config := { maxSteps := 1000000 }) (decide := true) (discharger := first | omega | (simp only [H.next_new, H.next_put] <;> omega) | decide) only [go_sem, readRow, loadIn, reduceIte, Nat.reduceAdd, Nat.reduceMul, Nat.reduceSub, Nat.reduceDiv, Nat.reduceMod, Nat.reduceLT, Nat.reduceBEq, Int.reduceToNat, fl1, fl2, hg, actL, opBuiltin, opLen, read1] <;> rfl) (by first | rfl | assumption | exact decide_eq_true (by omega) | (simp; omega)) ?_
  show Goes K Tryz.prog 47 none (q4 [1, 1, 1, 0, 1, 2, 2, 1, 0, 2, 0, 1, 3]) _ _ _ _
  rw [q4_1110122102013]
  refine Goes.seq ?_
  show Goes K Tryz.prog 47 none (q4 [1, 1, 1, 0, 1, 2, 2, 1, 0, 2, 0, 1, 3, 0]) _ _ _ _
  rw [q4_11101221020130]
  refine Goes.ops2 fits Hh E0_sound (by
    simp (config := { maxSteps := 1000000 }) (decide := true) (discharger := first | omega | (simp only [H.next_new, H.next_put] <;> omega) | decide) only [go_sem, q4, Tryz.f4, readRow, loadIn, reduceIte, Nat.reduceAdd, Nat.reduceMul, Nat.reduceSub, Nat.reduceDiv, Nat.reduceMod, Nat.reduceLT, Nat.reduceBEq, Int.reduceToNat, fl1, fl2, hg, actL, opBuiltin, opLen, read1]
    rfl) ?_
  show Goes K Tryz.prog 47 none (q4 [1, 1, 1, 0, 1, 2, 2, 1, 0, 2, 0, 1, 3, 1]) _ _ _ _
  rw [q4_11101221020131]
  refine Goes.ret ?_
  simp (config := { maxSteps := 1000000 }) (decide := true) (discharger := first | omega | (simp only [H.next_new, H.next_put] <;> omega) | decide) only [go_sem, readRow, loadIn, reduceIte, Nat.reduceAdd, Nat.reduceMul, Nat.reduceSub, Nat.reduceDiv, Nat.reduceMod, Nat.reduceLT, Nat.reduceBEq, Int.reduceToNat, fl1, fl2, hg, actL, opBuiltin, opLen, read1] <;> rfl
theorem greatB (h : Go.Ev.H) (n : Nat) (k a m : Int) (s o : List UInt8) (hs : s.length ≤ 20000) (ho : 20000 < o.length) (hg : h.get n = some (.row 5 [actL k a m s o] false)) : CallOk K Tryz.prog 4 [.c (.slice n 0 1 5)] h (.w (.c (.bool true))) h := by
  have fl1 : lenFits K 25 (.c (.slice n 0 1 5)) = true := by kernel_rfl
  have fl2 : lenFits K 9 (.c (.str s)) = true := by kernel_rfl
  have fl3 : lenFits K 9 (.c (.str o)) = true := by kernel_rfl
  refine CallOk.goes fits Hh (by kernel_rfl) (by kernel_rfl) (by kernel_rfl) (show Tryz.f4.body = some (q4 []) by kernel_rfl) rfl ?_
  show Goes K Tryz.prog 47 none _ _ _ _ _
  show Goes K Tryz.prog 47 none (q4 []) _ _ _ _
  rw [q4_]
  refine Goes.seq ?_
  show Goes K Tryz.prog 47 none (q4 [0]) _ _ _ _
  rw [q4_0]
  refine Goes.ops2 fits Hh E0_sound (by
    simp (config := { maxSteps := 1000000 }) (decide := true) (discharger := first | omega | (simp only [H.next_new, H.next_put] <;> omega) | decide) only [go_sem, q4, Tryz.f4, readRow, loadIn, reduceIte, Nat.reduceAdd, Nat.reduceMul, Nat.reduceSub, Nat.reduceDiv, Nat.reduceMod, Nat.reduceLT, Nat.reduceBEq, Int.reduceToNat, fl1, fl2, fl3, hg, actL, opBuiltin, opLen, read1]
    rfl) ?_
  show Goes K Tryz.prog 47 none (q4 [1]) _ _ _ _
  rw [q4_1]
  refine Goes.seq ?_
  show Goes K Tryz.prog 47 none (q4 [1, 0]) _ _ _ _
  rw [q4_10]
  refine Goes.seq ?_
  show Goes K Tryz.prog 47 none (q4 [1, 0, 0]) _ _ _ _
  rw [q4_100]
  refine Goes.ops2 fits Hh E0_sound (by
    simp (config := { maxSteps := 1000000 }) (decide := true) (discharger := first | omega | (simp only [H.next_new, H.next_put] <;> omega) | decide) only [go_sem, q4, Tryz.f4, readRow, loadIn, reduceIte, Nat.reduceAdd, Nat.reduceMul, Nat.reduceSub, Nat.reduceDiv, Nat.reduceMod, Nat.reduceLT, Nat.reduceBEq, Int.reduceToNat, fl1, fl2, fl3, hg, actL, opBuiltin, opLen, read1]
    rfl) ?_
  show Goes K Tryz.prog 47 none (q4 [1, 0, 1]) _ _ _ _
  rw [q4_101]
  refine Goes.condE (by simp (config := { maxSteps := 1000000 }) (decide := true) (discharger := first | omega | (simp only [H.next_new, H.next_put] <;> omega) | decide) only [go_sem, readRow, loadIn, reduceIte, Nat.reduceAdd, Nat.reduceMul, Nat.reduceSub, Nat.reduceDiv, Nat.reduceMod, Nat.reduceLT, Nat.reduceBEq, Int.reduceToNat, fl1, fl2, fl3, hg, actL, opBuiltin, opLen, read1] <;> rfl) (by first | rfl | assumption | exact decide_eq_false (by omega) | (simp; omega)) ?_
  show Goes K Tryz.prog 47 none (q4 [1, 0, 1, 4]) _ _ _ _
  rw [q4_1014]
  refine Goes.skip ?_
  show Goes K Tryz.prog 47 none (q4 [1, 1]) _ _ _ _
  rw [q4_11]
  refine Goes.seq ?_
  show Goes K Tryz.prog 47 none (q4 [1, 1, 0]) _ _ _ _
  rw [q4_110]
  refine Goes.ops2 fits Hh E0_sound (by
    simp (config := { maxSteps := 1000000 }) (decide := true) (discharger := first | omega | (simp only [H.next_new, H.next_put] <;> omega) | decide) only [go_sem, q4, Tryz.f4, readRow, loadIn, reduceIte, Nat.reduceAdd, Nat.reduceMul, Nat.reduceSub, Nat.reduceDiv, Nat.reduceMod, Nat.reduceLT, Nat.reduceBEq, Int.reduceToNat, fl1, fl2, fl3, hg, actL, opBuiltin, opLen, read1]
    rfl) ?_
  show Goes K Tryz.prog 47 none (q4 [1, 1, 1]) _ _ _ _
  rw [q4_111]
  refine Goes.seq ?_
  show Goes K Tryz.prog 47 none (q4 [1, 1, 1, 0]) _ _ _ _
  rw [q4_1110]
  refine Goes.seq ?_
  show Goes K Tryz.prog 47 none (q4 [1, 1, 1, 0, 0]) _ _ _ _
  rw [q4_11100]
  refine Goes.ops2 fits Hh E0_sound (by
    simp (config := { maxSteps := 1000000 }) (decide := true) (discharger := first | omega | (simp only [H.next_new, H.next_put] <;> omega) | decide) only [go_sem, q4, Tryz.f4, readRow, loadIn, reduceIte, Nat.reduceAdd, Nat.reduceMul, Nat.reduceSub, Nat.reduceDiv, Nat.reduceMod, Nat.reduceLT, Nat.reduceBEq, Int.reduceToNat, fl1, fl2, fl3, hg, actL, opBuiltin, opLen, read1]
    rfl) ?_
  show Goes K Tryz.prog 47 none (q4 [1, 1, 1, 0, 1]) _ _ _ _
  rw [q4_11101]
  refine Goes.block ?_
  show Goes K Tryz.prog 47 none (q4 [1, 1, 1, 0, 1, 2]) _ _ _ _
  rw [q4_111012]
  refine Goes.loop ?_
  show Goes K Tryz.prog 47 none (q4 [1, 1, 1, 0, 1, 2, 2]) _ _ _ _
  rw [q4_1110122]
  refine Goes.seq ?_
  show Goes K Tryz.prog 47 none (q4 [1, 1, 1, 0, 1, 2, 2, 0]) _ _ _ _
  rw [q4_11101220]
  refine Goes.seq ?_
  show Goes K Tryz.prog 47 none (q4 [1, 1, 1, 0, 1, 2, 2, 0, 0]) _ _ _ _
  rw [q4_111012200]
  refine Goes.ops2 fits Hh E0_sound (by
    simp (config := { maxSteps := 1000000 }) (decide := true) (discharger := first | omega | (simp only [H.next_new, H.next_put] <;> omega) | decide) only [go_sem, q4, Tryz.f4, readRow, loadIn, reduceIte, Nat.reduceAdd, Nat.reduceMul, Nat.reduceSub, Nat.reduceDiv, Nat.reduceMod, Nat.reduceLT, Nat.reduceBEq, Int.reduceToNat, fl1, fl2, fl3, hg, actL, opBuiltin, opLen, read1]
    rfl) ?_
  show Goes K Tryz.prog 47 none (q4 [1, 1, 1, 0, 1, 2, 2, 0, 1]) _ _ _ _
  rw [q4_111012201]
  refine Goes.condA (by simp (config := { maxSteps := 1000000 }) (decide := true) (discharger := first | omega | (simp only [H.next_new, H.next_put] <;> omega) | decide) only [go_sem, readRow, loadIn, reduceIte, Nat.reduceAdd, Nat.reduceMul, Nat.reduceSub, Nat.reduceDiv, Nat.reduceMod, Nat.reduceLT, Nat.reduceBEq, Int.reduceToNat, fl1, fl2, fl3, hg, actL, opBuiltin, opLen, read1] <;> rfl) (by first | rfl | assumption | exact decide_eq_true (by omega) | (simp; omega)) ?_
  show Goes K Tryz.prog 47 none (q4 [1, 1, 1, 0, 1, 2, 2, 0, 1, 3]) _ _ _ _
  rw [q4_1110122013]
  refine Goes.skip ?_
  show Goes K Tryz.prog 47 none (q4 [1, 1, 1, 0, 1, 2, 2, 1]) _ _ _ _
  rw [q4_11101221]
  refine Goes.seq ?_
  show Goes K Tryz.prog 47 none (q4 [1, 1, 1, 0, 1, 2, 2, 1, 0]) _ _ _ _
  rw [q4_111012210]
  refine Goes.block ?_
  show Goes K Tryz.prog 47 none (q4 [1, 1, 1, 0, 1, 2, 2, 1, 0, 2]) _ _ _ _
  rw [q4_1110122102]
  refine Goes.seq ?_
  show Goes K Tryz.prog 47 none (q4 [1, 1, 1, 0, 1, 2, 2, 1, 0, 2, 0]) _ _ _ _
  rw [q4_11101221020]
  refine Goes.seq ?_
  show Goes K Tryz.prog 47 none (q4 [1, 1, 1, 0, 1, 2, 2, 1, 0, 2, 0, 0]) _ _ _ _
  rw [q4_111012210200]
  refine Goes.ops2 fits Hh E0_sound (by
    simp only [q4, Tryz.f4, piece, part0, part1, part2, part2l, part3, part4, part5, part6, bodyOf, opsA]
    iterate 16 (refine evOps_step (by simp (config := { maxSteps := 1000000 }) (decide := true) (discharger := first | omega | (simp only [H.next_new, H.next_put] <;> omega) | decide) only [go_sem, readRow, loadIn, reduceIte, Nat.reduceAdd, Nat.reduceMul, Nat.reduceSub, Nat.reduceDiv, Nat.reduceMod, Nat.reduceLT, Nat.reduceBEq, Int.reduceToNat, fl1, fl2, fl3, hg, actL, opBuiltin, opLen, read1] <;> rfl) ?_)
    exact evOps_done) ?_
  show Goes K Tryz.prog 47 none (q4 [1, 1, 1, 0, 1, 2, 2, 1, 0, 2, 0, 1]) _ _ _ _
  rw [q4_111012210201]
  refine Goes.condA (by simp (config := { maxSteps := 1000000 }) (decide := true) (discharger := first | omega | (simp only [H.next_new, H.next_put] <;> omega) | decide) only [go_sem, readRow, loadIn, reduceIte, Nat.reduceAdd, Nat.reduceMul, Nat.reduceSub, Nat.reduceDiv, Nat.reduceMod, Nat.reduceLT, Nat.reduceBEq, Int.reduceToNat, fl1, fl2, fl3, hg, actL, opBuiltin, opLen, read1] <;> rfl) (by first | rfl | assumption | exact decide_eq_true (by omega) | (simp; omega)) ?_
  show Goes K Tryz.prog 47 none (q4 [1, 1, 1, 0, 1, 2, 2, 1, 0, 2, 0, 1, 3]) _ _ _ _
  rw [q4_1110122102013]
  refine Goes.seq ?_
  show Goes K Tryz.prog 47 none (q4 [1, 1, 1, 0, 1, 2, 2, 1, 0, 2, 0, 1, 3, 0]) _ _ _ _
  rw [q4_11101221020130]
  refine Goes.ops2 fits Hh E0_sound (by
    simp (config := { maxSteps := 1000000 }) (decide := true) (discharger := first | omega | (simp only [H.next_new, H.next_put] <;> omega) | decide) only [go_sem, q4, Tryz.f4, readRow, loadIn, reduceIte, Nat.reduceAdd, Nat.reduceMul, Nat.reduceSub, Nat.reduceDiv, Nat.reduceMod, Nat.reduceLT, Nat.reduceBEq, Int.reduceToNat, fl1, fl2, fl3, hg, actL, opBuiltin, opLen, read1]
    rfl) ?_
  show Goes K Tryz.prog 47 none (q4 [1, 1, 1, 0, 1, 2, 2, 1, 0, 2, 0, 1, 3, 1]) _ _ _ _
  rw [q4_11101221020131]
  refine Goes.ret ?_
  simp (config := { maxSteps := 1000000 }) (decide := true) (discharger := first | omega | (simp only [H.next_new, H.next_put] <;> omega) | decide) only [go_sem, readRow, loadIn, reduceIte, Nat.reduceAdd, Nat.reduceMul, Nat.reduceSub, Nat.reduceDiv, Nat.reduceMod, Nat.reduceLT, Nat.reduceBEq, Int.reduceToNat, fl1, fl2, fl3, hg, actL, opBuiltin, opLen, read1] <;> rfl
theorem greatC (h : Go.Ev.H) (n : Nat) (k a m : Int) (s o : List UInt8) (hs : s.length ≤ 20000) (ho : o.length ≤ 20000) (hg : h.get n = some (.row 5 [actL k a m s o] false)) : ∃ b, CallOk K Tryz.prog 4 [.c (.slice n 0 1 5)] h (.w (.c (.bool b))) h := by
  have fl1 : lenFits K 25 (.c (.slice n 0 1 5)) = true := by kernel_rfl
  have fl2 : lenFits K 9 (.c (.str s)) = true := by kernel_rfl
  have fl3 : lenFits K 9 (.c (.str o)) = true := by kernel_rfl
  refine ⟨decide ((20000 : Int) < (s.length : Int) + (o.length : Int)), ?_⟩
  have e0 : (0 : Int) + (s.length : Int) = (s.length : Int) := by omega
  refine CallOk.goes fits Hh (by kernel_rfl) (by kernel_rfl) (by kernel_rfl) (show Tryz.f4.body = some (q4 []) by kernel_rfl) rfl ?_
  show Goes K Tryz.prog 47 none _ _ _ _ _
  show Goes K Tryz.prog 47 none (q4 []) _ _ _ _
  rw [q4_]
  refine Goes.seq ?_
  show Goes K Tryz.prog 47 none (q4 [0]) _ _ _ _
  rw [q4_0]
  refine Goes.ops2 fits Hh E0_sound (by
    simp (config := { maxSteps := 1000000 }) (decide := true) (discharger := first | omega | (simp only [H.next_new, H.next_put] <;> omega) | decide) only [go_sem, q4, Tryz.f4, readRow, loadIn, reduceIte, Nat.reduceAdd, Nat.reduceMul, Nat.reduceSub, Nat.reduceDiv, Nat.reduceMod, Nat.reduceLT, Nat.reduceBEq, Int.reduceToNat, fl1, fl2, fl3, hg, actL, e0, opBuiltin, opLen, read1]
    rfl) ?_
  show Goes K Tryz.prog 47 none (q4 [1]) _ _ _ _
  rw [q4_1]
  refine Goes.seq ?_
  show Goes K Tryz.prog 47 none (q4 [1, 0]) _ _ _ _
  rw [q4_10]
  refine Goes.seq ?_
  show Goes K Tryz.prog 47 none (q4 [1, 0, 0]) _ _ _ _
  rw [q4_100]
  refine Goes.ops2 fits Hh E0_sound (by
    simp (config := { maxSteps := 1000000 }) (decide := true) (discharger := first | omega | (simp only [H.next_new, H.next_put] <;> omega) | decide) only [go_sem, q4, Tryz.f4, readRow, loadIn, reduceIte, Nat.reduceAdd, Nat.reduceMul, Nat.reduceSub, Nat.reduceDiv, Nat.reduceMod, Nat.reduceLT, Nat.reduceBEq, Int.reduceToNat, fl1, fl2, fl3, hg, actL, e0, opBuiltin, opLen, read1]
    rfl) ?_
  show Goes K Tryz.prog 47 none (q4 [1, 0, 1]) _ _ _ _
  rw [q4_101]
  refine Goes.condE (by simp (config := { maxSteps := 1000000 }) (decide := true) (discharger := first | omega | (simp only [H.next_new, H.next_put] <;> omega) | decide) only [go_sem, readRow, loadIn, reduceIte, Nat.reduceAdd, Nat.reduceMul, Nat.reduceSub, Nat.reduceDiv, Nat.reduceMod, Nat.reduceLT, Nat.reduceBEq, Int.reduceToNat, fl1, fl2, fl3, hg, actL, e0, opBuiltin, opLen, read1] <;> rfl) (by first | rfl | assumption | exact decide_eq_false (by omega) | (simp; omega)) ?_
  show Goes K Tryz.prog 47 none (q4 [1, 0, 1, 4]) _ _ _ _
  rw [q4_1014]
  refine Goes.skip ?_
  show Goes K Tryz.prog 47 none (q4 [1, 1]) _ _ _ _
  rw [q4_11]
  refine Goes.seq ?_
  show Goes K Tryz.prog 47 none (q4 [1, 1, 0]) _ _ _ _
  rw [q4_110]
  refine Goes.ops2 fits Hh E0_sound (by
    simp (config := { maxSteps := 1000000 }) (decide := true) (discharger := first | omega | (simp only [H.next_new, H.next_put] <;> omega) | decide) only [go_sem, q4, Tryz.f4, readRow, loadIn, reduceIte, Nat.reduceAdd, Nat.reduceMul, Nat.reduceSub, Nat.reduceDiv, Nat.reduceMod, Nat.reduceLT, Nat.reduceBEq, Int.reduceToNat, fl1, fl2, fl3, hg, actL, e0, opBuiltin, opLen, read1]
    rfl) ?_
  show Goes K Tryz.prog 47 none (q4 [1, 1, 1]) _ _ _ _
  rw [q4_111]
  refine Goes.seq ?_
  show Goes K Tryz.prog 47 none (q4 [1, 1, 1, 0]) _ _ _ _
  rw [q4_1110]
  refine Goes.seq ?_
  show Goes K Tryz.prog 47 none (q4 [1, 1, 1, 0, 0]) _ _ _ _
  rw [q4_11100]
  refine Goes.ops2 fits Hh E0_sound (by
    simp (config := { maxSteps := 1000000 }) (decide := true) (discharger := first | omega | (simp only [H.next_new, H.next_put] <;> omega) | decide) only [go_sem, q4, Tryz.f4, readRow, loadIn, reduceIte, Nat.reduceAdd, Nat.reduceMul, Nat.reduceSub, Nat.reduceDiv, Nat.reduceMod, Nat.reduceLT, Nat.reduceBEq, Int.reduceToNat, fl1, fl2, fl3, hg, actL, e0, opBuiltin, opLen, read1]
    rfl) ?_
  show Goes K Tryz.prog 47 none (q4 [1, 1, 1, 0, 1]) _ _ _ _
  rw [q4_11101]
  refine Goes.block ?_
  show Goes K Tryz.prog 47 none (q4 [1, 1, 1, 0, 1, 2]) _ _ _ _
  rw [q4_111012]
  refine Goes.loop ?_
  show Goes K Tryz.prog 47 none (q4 [1, 1, 1, 0, 1, 2, 2]) _ _ _ _
  rw [q4_1110122]
  refine Goes.seq ?_
  show Goes K Tryz.prog 47 none (q4 [1, 1, 1, 0, 1, 2, 2, 0]) _ _ _ _
  rw [q4_11101220]
  refine Goes.seq ?_
  show Goes K Tryz.prog 47 none (q4 [1, 1, 1, 0, 1, 2, 2, 0, 0]) _ _ _ _
  rw [q4_111012200]
  refine Goes.ops2 fits Hh E0_sound (by
    simp (config := { maxSteps := 1000000 }) (decide := true) (discharger := first | omega | (simp only [H.next_new, H.next_put] <;> omega) | decide) only [go_sem, q4, Tryz.f4, readRow, loadIn, reduceIte, Nat.reduceAdd, Nat.reduceMul, Nat.reduceSub, Nat.reduceDiv, Nat.reduceMod, Nat.reduceLT, Nat.reduceBEq, Int.reduceToNat, fl1, fl2, fl3, hg, actL, e0, opBuiltin, opLen, read1]
    rfl) ?_
  show Goes K Tryz.prog 47 none (q4 [1, 1, 1, 0, 1, 2, 2, 0, 1]) _ _ _ _
  rw [q4_111012201]
  refine Goes.condA (by simp (config := { maxSteps := 1000000 }) (decide := true) (discharger := first | omega | (simp only [H.next_new, H.next_put] <;> omega) | decide) only [go_sem, readRow, loadIn, reduceIte, Nat.reduceAdd, Nat.reduceMul, Nat.reduceSub, Nat.reduceDiv, Nat.reduceMod, Nat.reduceLT, Nat.reduceBEq, Int.reduceToNat, fl1, fl2, fl3, hg, actL, e0, opBuiltin, opLen, read1] <;> rfl) (by first | rfl | assumption | exact decide_eq_true (by omega) | (simp; omega)) ?_
  show Goes K Tryz.prog 47 none (q4 [1, 1, 1, 0, 1, 2, 2, 0, 1, 3]) _ _ _ _
  rw [q4_1110122013]
  refine Goes.skip ?_
  show Goes K Tryz.prog 47 none (q4 [1, 1, 1, 0, 1, 2, 2, 1]) _ _ _ _
  rw [q4_11101221]
  refine Goes.seq ?_
  show Goes K Tryz.prog 47 none (q4 [1, 1, 1, 0, 1, 2, 2, 1, 0]) _ _ _ _
  rw [q4_111012210]
  refine Goes.block ?_
  show Goes K Tryz.prog 47 none (q4 [1, 1, 1, 0, 1, 2, 2, 1, 0, 2]) _ _ _ _
  rw [q4_1110122102]
  refine Goes.seq ?_
  show Goes K Tryz.prog 47 none (q4 [1, 1, 1, 0, 1, 2, 2, 1, 0, 2, 0]) _ _ _ _
  rw [q4_11101221020]
  refine Goes.seq ?_
  show Goes K Tryz.prog 47 none (q4 [1, 1, 1, 0, 1, 2, 2, 1, 0, 2, 0, 0]) _ _ _ _
  rw [q4_111012210200]
  refine Goes.ops2 fits Hh E0_sound (by
    simp only [q4, Tryz.f4, piece, part0, part1, part2, part2l, part3, part4, part5, part6, bodyOf, opsA]
    iterate 16 (refine evOps_step (by simp (config := { maxSteps := 1000000 }) (decide := true) (discharger := first | omega | (simp only [H.next_new, H.next_put] <;> omega) | decide) only [go_sem, readRow, loadIn, reduceIte, Nat.reduceAdd, Nat.reduceMul, Nat.reduceSub, Nat.reduceDiv, Nat.reduceMod, Nat.reduceLT, Nat.reduceBEq, Int.reduceToNat, fl1, fl2, fl3, hg, actL, e0, opBuiltin, opLen, read1] <;> rfl) ?_)
    exact evOps_done) ?_
  show Goes K Tryz.prog 47 none (q4 [1, 1, 1, 0, 1, 2, 2, 1, 0, 2, 0, 1]) _ _ _ _
  rw [q4_111012210201]
  refine Goes.condE (by simp (config := { maxSteps := 1000000 }) (decide := true) (discharger := first | omega | (simp only [H.next_new, H.next_put] <;> omega) | decide) only [go_sem, readRow, loadIn, reduceIte, Nat.reduceAdd, Nat.reduceMul, Nat.reduceSub, Nat.reduceDiv, Nat.reduceMod, Nat.reduceLT, Nat.reduceBEq, Int.reduceToNat, fl1, fl2, fl3, hg, actL, e0, opBuiltin, opLen, read1] <;> rfl) (by first | rfl | assumption | exact decide_eq_false (by omega) | (simp; omega)) ?_
  show Goes K Tryz.prog 47 none (q4 [1, 1, 1, 0, 1, 2, 2, 1, 0, 2, 0, 1, 4]) _ _ _ _
  rw [q4_1110122102014]
  refine Goes.skip ?_
  show Goes K Tryz.prog 47 none (q4 [1, 1, 1, 0, 1, 2, 2, 1, 0, 2, 1]) _ _ _ _
  rw [q4_11101221021]
  refine Goes.drawn2 fits Hh E0_sound (by kernel_rfl) (by
    simp (config := { maxSteps := 1000000 }) (decide := true) (discharger := first | omega | (simp only [H.next_new, H.next_put] <;> omega) | decide) only [go_sem, q4, Tryz.f4, readRow, loadIn, reduceIte, Nat.reduceAdd, Nat.reduceMul, Nat.reduceSub, Nat.reduceDiv, Nat.reduceMod, Nat.reduceLT, Nat.reduceBEq, Int.reduceToNat, op_move, op_assign, op_binOp, op_unOp, op_convert, op_load, op_store, op_indexAddr, op_alloc, op_pick, op_box, op_build, op_buildSlice, op_nilCheck, op_makeSlice, op_fieldAddr, op_field, op_extract, op_lookup, op_mapUpdate, op_builtin, op_index, drEnd, drAll, drOne, drTs, drKd, drPure, drRead, drAlloc, drEff, drSkip, drPut, putT_ok, putT_none, cutT, looks, tmpOf, Op.operands, Call.operands, kd, kdCall, List.filterMap_cons, List.filterMap_nil, List.append_nil, List.nil_append, List.cons_append, stables, stable, reachAt, reachP, waitsAt, waits, gives_self, List.all_cons, List.all_nil, List.any_cons, List.any_nil, Region.binds, Bool.or_true, Bool.true_or, Bool.and_true, Bool.true_and, Bool.or_false, Bool.false_or, Bool.and_self, Bool.or_self, ble_true, Nat.le_refl, Nat.le_add_right, List.map_cons, Array.toList_append, fl1, fl2, fl3, hg, actL, e0, opBuiltin, opLen, read1]
    rfl) ?_
  show Goes K Tryz.prog 47 none (q4 [1, 1, 1, 0, 1, 2, 2, 1, 1]) _ _ _ _
  rw [q4_111012211]
  refine Goes.ops2 fits Hh E0_sound (by
    simp (config := { maxSteps := 1000000 }) (decide := true) (discharger := first | omega | (simp only [H.next_new, H.next_put] <;> omega) | decide) only [go_sem, q4, Tryz.f4, readRow, loadIn, reduceIte, Nat.reduceAdd, Nat.reduceMul, Nat.reduceSub, Nat.reduceDiv, Nat.reduceMod, Nat.reduceLT, Nat.reduceBEq, Int.reduceToNat, fl1, fl2, fl3, hg, actL, e0, opBuiltin, opLen, read1]
    rfl) ?_
  show Goes K Tryz.prog 47 none (.loop (q4 [1, 1, 1, 0, 1, 2, 2])) _ _ _ _
  rw [← q4_111012]
  show Goes K Tryz.prog 47 none (q4 [1, 1, 1, 0, 1, 2]) _ _ _ _
  rw [q4_111012]
  refine Goes.loop ?_
  show Goes K Tryz.prog 47 none (q4 [1, 1, 1, 0, 1, 2, 2]) _ _ _ _
  rw [q4_1110122]
  refine Goes.seq ?_
  show Goes K Tryz.prog 47 none (q4 [1, 1, 1, 0, 1, 2, 2, 0]) _ _ _ _
  rw [q4_11101220]
  refine Goes.seq ?_
  show Goes K Tryz.prog 47 none (q4 [1, 1, 1, 0, 1, 2, 2, 0, 0]) _ _ _ _
  rw [q4_111012200]
  refine Goes.ops2 fits Hh E0_sound (by
    simp (config := { maxSteps := 1000000 }) (decide := true) (discharger := first | omega | (simp only [H.next_new, H.next_put] <;> omega) | decide) only [go_sem, q4, Tryz.f4, readRow, loadIn, reduceIte, Nat.reduceAdd, Nat.reduceMul, Nat.reduceSub, Nat.reduceDiv, Nat.reduceMod, Nat.reduceLT, Nat.reduceBEq, Int.reduceToNat, fl1, e0, opBuiltin, opLen]
    rfl) ?_
  show Goes K Tryz.prog 47 none (q4 [1, 1, 1, 0, 1, 2, 2, 0, 1]) _ _ _ _
  rw [q4_111012201]
  refine Goes.condE (by simp (config := { maxSteps := 1000000 }) (decide := true) (discharger := first | omega | (simp only [H.next_new, H.next_put] <;> omega) | decide) only [go_sem, readRow, loadIn, reduceIte, Nat.reduceAdd, Nat.reduceMul, Nat.reduceSub, Nat.reduceDiv, Nat.reduceMod, Nat.reduceLT, Nat.reduceBEq, Int.reduceToNat, fl1, e0, opBuiltin, opLen] <;> rfl) (by first | rfl | assumption | exact decide_eq_false (by omega) | (simp; omega)) ?_
  show Goes K Tryz.prog 47 none (q4 [1, 1, 1, 0, 1, 2, 2, 0, 1, 4]) _ _ _ _
  rw [q4_1110122014]
  refine Goes.exit ?_
  show Goes K Tryz.prog 47 none (q4 [1, 1, 1, 1]) _ _ _ _
  rw [q4_1111]
  refine Goes.seq ?_
  show Goes K Tryz.prog 47 none (q4 [1, 1, 1, 1, 0]) _ _ _ _
  rw [q4_11110]
  refine Goes.ops2 fits Hh E0_sound (by
    simp (config := { maxSteps := 1000000 }) (decide := true) (discharger := first | omega | (simp only [H.next_new, H.next_put] <;> omega) | decide) only [go_sem, q4, Tryz.f4, readRow, loadIn, reduceIte, Nat.reduceAdd, Nat.reduceMul, Nat.reduceSub, Nat.reduceDiv, Nat.reduceMod, Nat.reduceLT, Nat.reduceBEq, Int.reduceToNat, fl1, e0, opBuiltin, opLen]
    rfl) ?_
  show Goes K Tryz.prog 47 none (q4 [1, 1, 1, 1, 1]) _ _ _ _
  rw [q4_11111]
  refine Goes.ret ?_
  simp (config := { maxSteps := 1000000 }) (decide := true) (discharger := first | omega | (simp only [H.next_new, H.next_put] <;> omega) | decide) only [go_sem, readRow, loadIn, reduceIte, Nat.reduceAdd, Nat.reduceMul, Nat.reduceSub, Nat.reduceDiv, Nat.reduceMod, Nat.reduceLT, Nat.reduceBEq, Int.reduceToNat, fl1, e0, opBuiltin, opLen] <;> rfl
theorem greatOk (h : Go.Ev.H) (n : Nat) (k a m : Int) (s o : List UInt8) (hg : h.get n = some (.row 5 [actL k a m s o] false)) : ∃ b, CallOk K Tryz.prog 4 [.c (.slice n 0 1 5)] h (.w (.c (.bool b))) h := by
  by_cases hs : s.length ≤ 20000
  · by_cases ho : o.length ≤ 20000
    · exact greatC Hh h n k a m s o hs ho hg
    · exact ⟨_, greatB Hh h n k a m s o hs (by omega) hg⟩
  · exact ⟨_, greatA Hh h n k a m s o (by omega) hg⟩
theorem lawOk (k a m : Int) (s o : List UInt8) : ∃ h', CallOk K Tryz.prog 3 [.g (actL k a m s o)] hBegin (.w (.c (.bool true))) h' := by
  have hbn : hBegin.next = 1 := rfl
  have gt : ((hBegin.new (.row 5 [actL k a m s o] false)).new (.row 5 [actL k a m s o] false)).get 2 = some (.row 5 [actL k a m s o] false) := get_new_self _ _
  obtain ⟨b, c1⟩ := greatOk Hh _ 2 k a m s o gt
  obtain ⟨v, h', c, rfl⟩ : ∃ v h', CallOk K Tryz.prog 3 [.g (actL k a m s o)] hBegin v h' ∧ v = .w (.c (.bool true)) := by
    cases b with
    | false =>
      refine CallOk.goesE fits Hh (by kernel_rfl) (by kernel_rfl) (by kernel_rfl) (show Tryz.f3.body = some (q3 []) by kernel_rfl) rfl ?_
      show Goes K Tryz.prog 142 none _ _ _ _ _
      show Goes K Tryz.prog 142 none (q3 []) _ _ _ _
      rw [q3_]
      refine Goes.seq ?_
      show Goes K Tryz.prog 142 none (q3 [0]) _ _ _ _
      rw [q3_0]
      refine Goes.ops2 fits Hh E0_sound (by
        simp (config := { maxSteps := 1000000 }) (decide := true) (discharger := first | omega | (simp only [H.next_new, H.next_put] <;> omega) | decide) only [go_sem, q3, Tryz.f3, readRow, loadIn, reduceIte, Nat.reduceAdd, Nat.reduceMul, Nat.reduceSub, Nat.reduceDiv, Nat.reduceMod, Nat.reduceLT, Nat.reduceBEq, Int.reduceToNat, hbn, actL, opBox, opBuildSlice, fillEls, newSlice, List.replicate_succ, List.replicate_zero, read1]
        rfl) ?_
      show Goes K Tryz.prog 142 none (q3 [1]) _ _ _ _
      rw [q3_1]
      refine Goes.seq ?_
      show Goes K Tryz.prog 142 none (q3 [1, 0]) _ _ _ _
      rw [q3_10]
      refine Goes.seq ?_
      show Goes K Tryz.prog 142 none (q3 [1, 0, 0]) _ _ _ _
      rw [q3_100]
      refine Goes.ops2 fits Hh (E1_sound E0_sound c1) (by
        simp (config := { maxSteps := 1000000 }) (decide := true) (discharger := first | omega | (simp only [H.next_new, H.next_put] <;> omega) | decide) only [go_sem, q3, Tryz.f3, readRow, loadIn, reduceIte, Nat.reduceAdd, Nat.reduceMul, Nat.reduceSub, Nat.reduceDiv, Nat.reduceMod, Nat.reduceLT, Nat.reduceBEq, Int.reduceToNat, E1_call, hbn, actL, opBox, opBuildSlice, fillEls, newSlice, List.replicate_succ, List.replicate_zero, read1]
        rfl) ?_
      show Goes K Tryz.prog 142 none (q3 [1, 0, 1]) _ _ _ _
      rw [q3_101]
      refine Goes.condE (by simp (config := { maxSteps := 1000000 }) (decide := true) (discharger := first | omega | (simp only [H.next_new, H.next_put] <;> omega) | decide) only [go_sem, readRow, loadIn, reduceIte, Nat.reduceAdd, Nat.reduceMul, Nat.reduceSub, Nat.reduceDiv, Nat.reduceMod, Nat.reduceLT, Nat.reduceBEq, Int.reduceToNat, hbn, actL, opBox, opBuildSlice, fillEls, newSlice, List.replicate_succ, List.replicate_zero, read1] <;> rfl) (by first | rfl | assumption | exact decide_eq_false (by omega) | (simp; omega)) ?_
      show Goes K Tryz.prog 142 none (q3 [1, 0, 1, 4]) _ _ _ _
      rw [q3_1014]
      refine Goes.skip ?_
      exact Goes.restTrue fits Hh (xawK_ok Hh) (k := 100000) (fn := Tryz.f3) (by kernel_rfl)
    | true =>
      refine CallOk.goesE fits Hh (by kernel_rfl) (by kernel_rfl) (by kernel_rfl) (show Tryz.f3.body = some (q3 []) by kernel_rfl) rfl ?_
      show Goes K Tryz.prog 142 none _ _ _ _ _
      show Goes K Tryz.prog 142 none (q3 []) _ _ _ _
      rw [q3_]
      refine Goes.seq ?_
      show Goes K Tryz.prog 142 none (q3 [0]) _ _ _ _
      rw [q3_0]
      refine Goes.ops2 fits Hh E0_sound (by
        simp (config := { maxSteps := 1000000 }) (decide := true) (discharger := first | omega | (simp only [H.next_new, H.next_put] <;> omega) | decide) only [go_sem, q3, Tryz.f3, readRow, loadIn, reduceIte, Nat.reduceAdd, Nat.reduceMul, Nat.reduceSub, Nat.reduceDiv, Nat.reduceMod, Nat.reduceLT, Nat.reduceBEq, Int.reduceToNat, hbn, actL, opBox, opBuildSlice, fillEls, newSlice, List.replicate_succ, List.replicate_zero, read1]
        rfl) ?_
      show Goes K Tryz.prog 142 none (q3 [1]) _ _ _ _
      rw [q3_1]
      refine Goes.seq ?_
      show Goes K Tryz.prog 142 none (q3 [1, 0]) _ _ _ _
      rw [q3_10]
      refine Goes.seq ?_
      show Goes K Tryz.prog 142 none (q3 [1, 0, 0]) _ _ _ _
      rw [q3_100]
      refine Goes.ops2 fits Hh (E1_sound E0_sound c1) (by
        simp (config := { maxSteps := 1000000 }) (decide := true) (discharger := first | omega | (simp only [H.next_new, H.next_put] <;> omega) | decide) only [go_sem, q3, Tryz.f3, readRow, loadIn, reduceIte, Nat.reduceAdd, Nat.reduceMul, Nat.reduceSub, Nat.reduceDiv, Nat.reduceMod, Nat.reduceLT, Nat.reduceBEq, Int.reduceToNat, E1_call, hbn, actL, opBox, opBuildSlice, fillEls, newSlice, List.replicate_succ, List.replicate_zero, read1]
        rfl) ?_
      show Goes K Tryz.prog 142 none (q3 [1, 0, 1]) _ _ _ _
      rw [q3_101]
      refine Goes.condA (by simp (config := { maxSteps := 1000000 }) (decide := true) (discharger := first | omega | (simp only [H.next_new, H.next_put] <;> omega) | decide) only [go_sem, readRow, loadIn, reduceIte, Nat.reduceAdd, Nat.reduceMul, Nat.reduceSub, Nat.reduceDiv, Nat.reduceMod, Nat.reduceLT, Nat.reduceBEq, Int.reduceToNat, hbn, actL, opBox, opBuildSlice, fillEls, newSlice, List.replicate_succ, List.replicate_zero, read1] <;> rfl) (by first | rfl | assumption | exact decide_eq_true (by omega) | (simp; omega)) ?_
      show Goes K Tryz.prog 142 none (q3 [1, 0, 1, 3]) _ _ _ _
      rw [q3_1013]
      refine Goes.seq ?_
      show Goes K Tryz.prog 142 none (q3 [1, 0, 1, 3, 0]) _ _ _ _
      rw [q3_10130]
      refine Goes.ops2 fits Hh E0_sound (by
        simp (config := { maxSteps := 1000000 }) (decide := true) (discharger := first | omega | (simp only [H.next_new, H.next_put] <;> omega) | decide) only [go_sem, q3, Tryz.f3, readRow, loadIn, reduceIte, Nat.reduceAdd, Nat.reduceMul, Nat.reduceSub, Nat.reduceDiv, Nat.reduceMod, Nat.reduceLT, Nat.reduceBEq, Int.reduceToNat, hbn, actL, opBox, opBuildSlice, fillEls, newSlice, List.replicate_succ, List.replicate_zero, read1]
        rfl) ?_
      show Goes K Tryz.prog 142 none (q3 [1, 0, 1, 3, 1]) _ _ _ _
      rw [q3_10131]
      refine Goes.ret ?_
      exact ⟨_, _, (by simp (config := { maxSteps := 1000000 }) (decide := true) (discharger := first | omega | (simp only [H.next_new, H.next_put] <;> omega) | decide) only [go_sem, readRow, loadIn, reduceIte, Nat.reduceAdd, Nat.reduceMul, Nat.reduceSub, Nat.reduceDiv, Nat.reduceMod, Nat.reduceLT, Nat.reduceBEq, Int.reduceToNat] <;> rfl), rfl⟩
  exact ⟨h', c⟩
end
end Go.Proofs.YtmnclecicnkmeaaGreatDoor
