/- Calls of layer 26 about no store. -/
import Derived.Test.YtncdhjlpmlmfhaaGreatDoorByt
set_option linter.unusedSimpArgs false
set_option linter.unusedVariables false
set_option linter.unusedSectionVars false
set_option maxRecDepth 100000
namespace Go.Proofs.YtncdhjlpmlmfhaaGreatDoor
open Go.Ev
theorem ty4 : K.types.get 4 = some ti4 := by kernel_rfl
theorem sz4 : ti4.size = 1 := by rfl
theorem ag4 : ti4.agg = false := by rfl
theorem de4 : ti4.desc = .bool := by rfl
theorem ze4 : ti4.zero = (.c (.bool false)) := by rfl
theorem by4 : ti4.bytes = 1 := by rfl
theorem ty22 : K.types.get 22 = some ti22 := by kernel_rfl
theorem sz22 : ti22.size = 1 := by rfl
theorem ag22 : ti22.agg = false := by rfl
theorem de22 : ti22.desc = (.int .u32) := by rfl
theorem ze22 : ti22.zero = (.c (.int .u32 0)) := by rfl
theorem by22 : ti22.bytes = 4 := by rfl
theorem ke22 (k : IntKind) (n : Int) : keyT K 20 22 (.c (.int k n)) = true := by kernel_rfl
theorem ty23 : K.types.get 23 = some ti23 := by kernel_rfl
theorem sz23 : ti23.size = 11 := by rfl
theorem ag23 : ti23.agg = true := by rfl
theorem de23 : ti23.desc = (.array 11 22) := by rfl
theorem ze23 : ti23.zero = (.g ((List.replicate 11 (.int .u32 0)))) := by rfl
theorem by23 : ti23.bytes = 44 := by rfl
theorem eq23 (a b : List C) : eqT K 20 23 (.g a) (.g b) = (bif true && Nat.beq a.length 11 && Nat.beq b.length 11 then eqInts a b else none) := by kernel_rfl
theorem ty25 : K.types.get 25 = some ti25 := by kernel_rfl
theorem sz25 : ti25.size = 16 := by rfl
theorem ag25 : ti25.agg = true := by rfl
theorem fo25_0 : fieldOf K 25 0 = some (0, ti5) := by kernel_rfl
theorem fo25_1 : fieldOf K 25 1 = some (1, ti3) := by kernel_rfl
theorem fo25_2 : fieldOf K 25 2 = some (2, ti22) := by kernel_rfl
theorem fo25_3 : fieldOf K 25 3 = some (3, ti3) := by kernel_rfl
theorem fo25_4 : fieldOf K 25 4 = some (4, ti23) := by kernel_rfl
theorem fo25_5 : fieldOf K 25 5 = some (15, ti22) := by kernel_rfl
theorem bu25 (ps : List (Nat × W)) : opBuild K 25 (some ps) = gW (fillStruct K 25 ps ti25.zero.cells) := by kernel_rfl
theorem ze25 : ti25.zero = (.g ([.int .u8 0, .int .i64 0, .int .u32 0, .int .i64 0, .int .u32 0, .int .u32 0, .int .u32 0, .int .u32 0, .int .u32 0, .int .u32 0, .int .u32 0, .int .u32 0, .int .u32 0, .int .u32 0, .int .u32 0, .int .u32 0])) := by rfl
theorem by25 : ti25.bytes = 80 := by rfl
theorem ty26 : K.types.get 26 = some ti26 := by kernel_rfl
theorem sz26 : ti26.size = 1 := by rfl
theorem ag26 : ti26.agg = false := by rfl
theorem de26 : ti26.desc = (.pointer 34) := by rfl
theorem ze26 : ti26.zero = (.c (.pnil)) := by rfl
theorem by26 : ti26.bytes = 8 := by rfl
theorem ty27 : K.types.get 27 = some ti27 := by kernel_rfl
theorem sz27 : ti27.size = 1 := by rfl
theorem ag27 : ti27.agg = false := by rfl
theorem de27 : ti27.desc = (.pointer 110) := by rfl
theorem ze27 : ti27.zero = (.c (.pnil)) := by rfl
theorem by27 : ti27.bytes = 8 := by rfl
theorem ty28 : K.types.get 28 = some ti28 := by kernel_rfl
theorem sz28 : ti28.size = 1 := by rfl
theorem ag28 : ti28.agg = false := by rfl
theorem de28 : ti28.desc = (.pointer 196) := by rfl
theorem ze28 : ti28.zero = (.c (.pnil)) := by rfl
theorem by28 : ti28.bytes = 8 := by rfl
theorem ty29 : K.types.get 29 = some ti29 := by kernel_rfl
theorem sz29 : ti29.size = 1 := by rfl
theorem ag29 : ti29.agg = false := by rfl
theorem de29 : ti29.desc = (.pointer 212) := by rfl
theorem ze29 : ti29.zero = (.c (.pnil)) := by rfl
theorem by29 : ti29.bytes = 8 := by rfl
theorem ty30 : K.types.get 30 = some ti30 := by kernel_rfl
theorem sz30 : ti30.size = 1 := by rfl
theorem ag30 : ti30.agg = false := by rfl
theorem de30 : ti30.desc = (.map 3 124) := by rfl
theorem ze30 : ti30.zero = (.c (.mnil)) := by rfl
theorem by30 : ti30.bytes = 8 := by rfl
theorem mp30 : mapTI K 30 = some (3, 124) := by kernel_rfl
theorem ty31 : K.types.get 31 = some ti31 := by kernel_rfl
theorem sz31 : ti31.size = 1 := by rfl
theorem ag31 : ti31.agg = false := by rfl
theorem de31 : ti31.desc = (.map 3 3) := by rfl
theorem ze31 : ti31.zero = (.c (.mnil)) := by rfl
theorem by31 : ti31.bytes = 8 := by rfl
theorem mp31 : mapTI K 31 = some (3, 3) := by kernel_rfl
theorem ty32 : K.types.get 32 = some ti32 := by kernel_rfl
theorem sz32 : ti32.size = 1 := by rfl
theorem ag32 : ti32.agg = false := by rfl
theorem de32 : ti32.desc = (.slice 3) := by rfl
theorem ze32 : ti32.zero = (.c (.snil)) := by rfl
theorem by32 : ti32.bytes = 24 := by rfl
theorem el32 : elemTI K 32 = some ti3 := by kernel_rfl
theorem ty34 : K.types.get 34 = some ti34 := by kernel_rfl
theorem sz34 : ti34.size = 8 := by rfl
theorem ag34 : ti34.agg = true := by rfl
theorem fo34_0 : fieldOf K 34 0 = some (0, ti27) := by kernel_rfl
theorem fo34_1 : fieldOf K 34 1 = some (1, ti28) := by kernel_rfl
theorem fo34_2 : fieldOf K 34 2 = some (2, ti29) := by kernel_rfl
theorem fo34_3 : fieldOf K 34 3 = some (3, ti30) := by kernel_rfl
theorem fo34_4 : fieldOf K 34 4 = some (4, ti31) := by kernel_rfl
theorem fo34_5 : fieldOf K 34 5 = some (5, ti32) := by kernel_rfl
theorem fo34_6 : fieldOf K 34 6 = some (6, ti4) := by kernel_rfl
theorem fo34_7 : fieldOf K 34 7 = some (7, ti4) := by kernel_rfl
theorem bu34 (ps : List (Nat × W)) : opBuild K 34 (some ps) = gW (fillStruct K 34 ps ti34.zero.cells) := by kernel_rfl
theorem ze34 : ti34.zero = (.g ([.pnil, .pnil, .pnil, .mnil, .mnil, .snil, .bool false, .bool false])) := by rfl
theorem by34 : ti34.bytes = 72 := by rfl
theorem ty37 : K.types.get 37 = some ti37 := by kernel_rfl
theorem sz37 : ti37.size = 1 := by rfl
theorem ag37 : ti37.agg = false := by rfl
theorem de37 : ti37.desc = (.int .i64) := by rfl
theorem ze37 : ti37.zero = (.c (.int .i64 0)) := by rfl
theorem by37 : ti37.bytes = 8 := by rfl
theorem ke37 (k : IntKind) (n : Int) : keyT K 20 37 (.c (.int k n)) = true := by kernel_rfl
theorem ty52 : K.types.get 52 = some ti52 := by kernel_rfl
theorem sz52 : ti52.size = 4 := by rfl
theorem ag52 : ti52.agg = true := by rfl
theorem fo52_0 : fieldOf K 52 0 = some (0, ti3) := by kernel_rfl
theorem fo52_1 : fieldOf K 52 1 = some (1, ti3) := by kernel_rfl
theorem fo52_2 : fieldOf K 52 2 = some (2, ti3) := by kernel_rfl
theorem fo52_3 : fieldOf K 52 3 = some (3, ti3) := by kernel_rfl
theorem bu52 (ps : List (Nat × W)) : opBuild K 52 (some ps) = gW (fillStruct K 52 ps ti52.zero.cells) := by kernel_rfl
theorem ze52 : ti52.zero = (.g ([.int .i64 0, .int .i64 0, .int .i64 0, .int .i64 0])) := by rfl
theorem by52 : ti52.bytes = 32 := by rfl
theorem ty56 : K.types.get 56 = some ti56 := by kernel_rfl
theorem sz56 : ti56.size = 256 := by rfl
theorem ag56 : ti56.agg = true := by rfl
theorem de56 : ti56.desc = (.array 256 5) := by rfl
theorem ze56 : ti56.zero = (.g ((List.replicate 256 (.int .u8 0)))) := by rfl
theorem by56 : ti56.bytes = 256 := by rfl
theorem eq56 (a b : List C) : eqT K 20 56 (.g a) (.g b) = (bif true && Nat.beq a.length 256 && Nat.beq b.length 256 then eqInts a b else none) := by kernel_rfl
theorem ty60 : K.types.get 60 = some ti60 := by kernel_rfl
theorem sz60 : ti60.size = 1 := by rfl
theorem ag60 : ti60.agg = false := by rfl
theorem de60 : ti60.desc = (.slice 66) := by rfl
theorem ze60 : ti60.zero = (.c (.snil)) := by rfl
theorem by60 : ti60.bytes = 24 := by rfl
theorem el60 : elemTI K 60 = some ti66 := by kernel_rfl
theorem ty66 : K.types.get 66 = some ti66 := by kernel_rfl
theorem sz66 : ti66.size = 2 := by rfl
theorem ag66 : ti66.agg = true := by rfl
theorem fo66_0 : fieldOf K 66 0 = some (0, ti3) := by kernel_rfl
theorem fo66_1 : fieldOf K 66 1 = some (1, ti4) := by kernel_rfl
theorem bu66 (ps : List (Nat × W)) : opBuild K 66 (some ps) = gW (fillStruct K 66 ps ti66.zero.cells) := by kernel_rfl
theorem ze66 : ti66.zero = (.g ([.int .i64 0, .bool false])) := by rfl
theorem by66 : ti66.bytes = 16 := by rfl
theorem ty69 : K.types.get 69 = some ti69 := by kernel_rfl
theorem sz69 : ti69.size = 1 := by rfl
theorem ag69 : ti69.agg = false := by rfl
theorem de69 : ti69.desc = (.pointer 155) := by rfl
theorem ze69 : ti69.zero = (.c (.pnil)) := by rfl
theorem by69 : ti69.bytes = 8 := by rfl
theorem ty76 : K.types.get 76 = some ti76 := by kernel_rfl
theorem sz76 : ti76.size = 4 := by rfl
theorem ag76 : ti76.agg = true := by rfl
theorem fo76_0 : fieldOf K 76 0 = some (0, ti3) := by kernel_rfl
theorem fo76_1 : fieldOf K 76 1 = some (1, ti3) := by kernel_rfl
theorem fo76_2 : fieldOf K 76 2 = some (2, ti3) := by kernel_rfl
theorem fo76_3 : fieldOf K 76 3 = some (3, ti3) := by kernel_rfl
theorem bu76 (ps : List (Nat × W)) : opBuild K 76 (some ps) = gW (fillStruct K 76 ps ti76.zero.cells) := by kernel_rfl
theorem ze76 : ti76.zero = (.g ([.int .i64 0, .int .i64 0, .int .i64 0, .int .i64 0])) := by rfl
theorem by76 : ti76.bytes = 32 := by rfl
theorem ty106 : K.types.get 106 = some ti106 := by kernel_rfl
theorem sz106 : ti106.size = 1 := by rfl
theorem ag106 : ti106.agg = false := by rfl
theorem de106 : ti106.desc = (.pointer 224) := by rfl
theorem ze106 : ti106.zero = (.c (.pnil)) := by rfl
theorem by106 : ti106.bytes = 8 := by rfl
theorem ty107 : K.types.get 107 = some ti107 := by kernel_rfl
theorem sz107 : ti107.size = 1 := by rfl
theorem ag107 : ti107.agg = false := by rfl
theorem de107 : ti107.desc = (.pointer 237) := by rfl
theorem ze107 : ti107.zero = (.c (.pnil)) := by rfl
theorem by107 : ti107.bytes = 8 := by rfl
theorem ty108 : K.types.get 108 = some ti108 := by kernel_rfl
theorem sz108 : ti108.size = 1 := by rfl
theorem ag108 : ti108.agg = false := by rfl
theorem de108 : ti108.desc = (.pointer 216) := by rfl
theorem ze108 : ti108.zero = (.c (.pnil)) := by rfl
theorem by108 : ti108.bytes = 8 := by rfl
theorem ty110 : K.types.get 110 = some ti110 := by kernel_rfl
theorem sz110 : ti110.size = 9 := by rfl
theorem ag110 : ti110.agg = true := by rfl
theorem fo110_0 : fieldOf K 110 0 = some (0, ti76) := by kernel_rfl
theorem fo110_1 : fieldOf K 110 1 = some (4, ti5) := by kernel_rfl
theorem fo110_2 : fieldOf K 110 2 = some (5, ti69) := by kernel_rfl
theorem fo110_3 : fieldOf K 110 3 = some (6, ti106) := by kernel_rfl
theorem fo110_4 : fieldOf K 110 4 = some (7, ti107) := by kernel_rfl
theorem fo110_5 : fieldOf K 110 5 = some (8, ti108) := by kernel_rfl
theorem bu110 (ps : List (Nat × W)) : opBuild K 110 (some ps) = gW (fillStruct K 110 ps ti110.zero.cells) := by kernel_rfl
theorem ze110 : ti110.zero = (.g ([.int .i64 0, .int .i64 0, .int .i64 0, .int .i64 0, .int .u8 0, .pnil, .pnil, .pnil, .pnil])) := by rfl
theorem by110 : ti110.bytes = 72 := by rfl
theorem ty124 : K.types.get 124 = some ti124 := by kernel_rfl
theorem sz124 : ti124.size = 257 := by rfl
theorem ag124 : ti124.agg = true := by rfl
theorem fo124_0 : fieldOf K 124 0 = some (0, ti3) := by kernel_rfl
theorem fo124_1 : fieldOf K 124 1 = some (1, ti56) := by kernel_rfl
theorem bu124 (ps : List (Nat × W)) : opBuild K 124 (some ps) = gW (fillStruct K 124 ps ti124.zero.cells) := by kernel_rfl
theorem ze124 : ti124.zero = (.g (List.replicate 1 (.int .i64 0) ++ List.replicate 256 (.int .u8 0))) := by rfl
theorem by124 : ti124.bytes = 264 := by rfl
attribute [go_sem] ty4 sz4 ag4 de4 ze4 by4 ty22 sz22 ag22 de22 ze22 by22 ke22 ty23 sz23 ag23 de23 ze23 by23 eq23 ty25 sz25 ag25 fo25_0 fo25_1 fo25_2 fo25_3 fo25_4 fo25_5 bu25 ze25 by25 ty26 sz26 ag26 de26 ze26 by26 ty27 sz27 ag27 de27 ze27 by27 ty28 sz28 ag28 de28 ze28 by28 ty29 sz29 ag29 de29 ze29 by29 ty30 sz30 ag30 de30 ze30 by30 mp30 ty31 sz31 ag31 de31 ze31 by31 mp31 ty32 sz32 ag32 de32 ze32 by32 el32 ty34 sz34 ag34 fo34_0 fo34_1 fo34_2 fo34_3 fo34_4 fo34_5 fo34_6 fo34_7 bu34 ze34 by34 ty37 sz37 ag37 de37 ze37 by37 ke37 ty52 sz52 ag52 fo52_0 fo52_1 fo52_2 fo52_3 bu52 ze52 by52 ty56 sz56 ag56 de56 ze56 by56 eq56 ty60 sz60 ag60 de60 ze60 by60 el60 ty66 sz66 ag66 fo66_0 fo66_1 bu66 ze66 by66 ty69 sz69 ag69 de69 ze69 by69 ty76 sz76 ag76 fo76_0 fo76_1 fo76_2 fo76_3 bu76 ze76 by76 ty106 sz106 ag106 de106 ze106 by106 ty107 sz107 ag107 de107 ze107 by107 ty108 sz108 ag108 de108 ze108 by108 ty110 sz110 ag110 fo110_0 fo110_1 fo110_2 fo110_3 fo110_4 fo110_5 bu110 ze110 by110 ty124 sz124 ag124 fo124_0 fo124_1 bu124 ze124 by124
noncomputable def q4 (p : List Nat) : Code := piece p (bodyOf Tryz.f4)
theorem q4_ : q4 [] = .seq (q4 [0]) (q4 [1]) := by kernel_rfl
theorem q4_0 : q4 [0] = .region 0 (opsA (q4 [0])) false := by kernel_rfl
theorem q4_1 : q4 [1] = .seq (q4 [1, 0]) (q4 [1, 1]) := by kernel_rfl
theorem q4_10 : q4 [1, 0] = .seq (q4 [1, 0, 0]) (q4 [1, 0, 1]) := by kernel_rfl
theorem q4_100 : q4 [1, 0, 0] = .region 1 (opsA (q4 [1, 0, 0])) false := by kernel_rfl
theorem q4_101 : q4 [1, 0, 1] = .cond (.tmp 17) (q4 [1, 0, 1, 3]) (q4 [1, 0, 1, 4]) := by kernel_rfl
theorem q4_1013 : q4 [1, 0, 1, 3] = .seq (q4 [1, 0, 1, 3, 0]) (q4 [1, 0, 1, 3, 1]) := by kernel_rfl
theorem q4_10130 : q4 [1, 0, 1, 3, 0] = .region 2 (opsA (q4 [1, 0, 1, 3, 0])) false := by kernel_rfl
theorem q4_10131 : q4 [1, 0, 1, 3, 1] = .ret := by kernel_rfl
noncomputable def q5 (p : List Nat) : Code := piece p (bodyOf Tryz.f5)
theorem q5_ : q5 [] = .seq (q5 [0]) (q5 [1]) := by kernel_rfl
theorem q5_0 : q5 [0] = .region 0 (opsA (q5 [0])) false := by kernel_rfl
theorem q5_1 : q5 [1] = .seq (q5 [1, 0]) (q5 [1, 1]) := by kernel_rfl
theorem q5_10 : q5 [1, 0] = .seq (q5 [1, 0, 0]) (q5 [1, 0, 1]) := by kernel_rfl
theorem q5_100 : q5 [1, 0, 0] = .region 1 (opsA (q5 [1, 0, 0])) false := by kernel_rfl
theorem q5_101 : q5 [1, 0, 1] = .seq (q5 [1, 0, 1, 0]) (q5 [1, 0, 1, 1]) := by kernel_rfl
theorem q5_1010 : q5 [1, 0, 1, 0] = .region 2 (opsA (q5 [1, 0, 1, 0])) false := by kernel_rfl
theorem q5_1011 : q5 [1, 0, 1, 1] = .cond (.tmp 26) (q5 [1, 0, 1, 1, 3]) (q5 [1, 0, 1, 1, 4]) := by kernel_rfl
theorem q5_10113 : q5 [1, 0, 1, 1, 3] = .seq (q5 [1, 0, 1, 1, 3, 0]) (q5 [1, 0, 1, 1, 3, 1]) := by kernel_rfl
theorem q5_101130 : q5 [1, 0, 1, 1, 3, 0] = .region 3 (opsA (q5 [1, 0, 1, 1, 3, 0])) false := by kernel_rfl
theorem q5_101131 : q5 [1, 0, 1, 1, 3, 1] = .ret := by kernel_rfl
noncomputable def q7 (p : List Nat) : Code := piece p (bodyOf Tryz.f7)
theorem q7_ : q7 [] = .seq (q7 [0]) (q7 [1]) := by kernel_rfl
theorem q7_0 : q7 [0] = .region 0 (opsA (q7 [0])) false := by kernel_rfl
theorem q7_1 : q7 [1] = .seq (q7 [1, 0]) (q7 [1, 1]) := by kernel_rfl
theorem q7_10 : q7 [1, 0] = .seq (q7 [1, 0, 0]) (q7 [1, 0, 1]) := by kernel_rfl
theorem q7_100 : q7 [1, 0, 0] = .region 1 (opsA (q7 [1, 0, 0])) false := by kernel_rfl
theorem q7_101 : q7 [1, 0, 1] = .cond (.tmp 12) (q7 [1, 0, 1, 3]) (q7 [1, 0, 1, 4]) := by kernel_rfl
theorem q7_1013 : q7 [1, 0, 1, 3] = .seq (q7 [1, 0, 1, 3, 0]) (q7 [1, 0, 1, 3, 1]) := by kernel_rfl
theorem q7_10130 : q7 [1, 0, 1, 3, 0] = .region 2 (opsA (q7 [1, 0, 1, 3, 0])) false := by kernel_rfl
theorem q7_10131 : q7 [1, 0, 1, 3, 1] = .ret := by kernel_rfl
noncomputable def q9 (p : List Nat) : Code := piece p (bodyOf Tryz.f9)
theorem q9_ : q9 [] = .seq (q9 [0]) (q9 [1]) := by kernel_rfl
theorem q9_0 : q9 [0] = .region 0 (opsA (q9 [0])) false := by kernel_rfl
theorem q9_1 : q9 [1] = .seq (q9 [1, 0]) (q9 [1, 1]) := by kernel_rfl
theorem q9_10 : q9 [1, 0] = .region 1 (opsA (q9 [1, 0])) false := by kernel_rfl
theorem q9_11 : q9 [1, 1] = .ret := by kernel_rfl
noncomputable def q14 (p : List Nat) : Code := piece p (bodyOf Tryz.f14)
theorem q14_ : q14 [] = .seq (q14 [0]) (q14 [1]) := by kernel_rfl
theorem q14_0 : q14 [0] = .region 0 (opsA (q14 [0])) false := by kernel_rfl
theorem q14_1 : q14 [1] = .seq (q14 [1, 0]) (q14 [1, 1]) := by kernel_rfl
theorem q14_10 : q14 [1, 0] = .block 0 (q14 [1, 0, 2]) := by kernel_rfl
theorem q14_102 : q14 [1, 0, 2] = .seq (q14 [1, 0, 2, 0]) (q14 [1, 0, 2, 1]) := by kernel_rfl
theorem q14_1020 : q14 [1, 0, 2, 0] = .region 1 (opsA (q14 [1, 0, 2, 0])) false := by kernel_rfl
theorem q14_1021 : q14 [1, 0, 2, 1] = .cond (.tmp 9) (q14 [1, 0, 2, 1, 3]) (q14 [1, 0, 2, 1, 4]) := by kernel_rfl
theorem q14_10213 : q14 [1, 0, 2, 1, 3] = .seq (q14 [1, 0, 2, 1, 3, 0]) (q14 [1, 0, 2, 1, 3, 1]) := by kernel_rfl
theorem q14_102130 : q14 [1, 0, 2, 1, 3, 0] = .region 2 (opsA (q14 [1, 0, 2, 1, 3, 0])) false := by kernel_rfl
theorem q14_102131 : q14 [1, 0, 2, 1, 3, 1] = .ret := by kernel_rfl
noncomputable def q21 (p : List Nat) : Code := piece p (bodyOf Tryz.f21)
theorem q21_ : q21 [] = .seq (q21 [0]) (q21 [1]) := by kernel_rfl
theorem q21_0 : q21 [0] = .region 0 (opsA (q21 [0])) false := by kernel_rfl
theorem q21_1 : q21 [1] = .seq (q21 [1, 0]) (q21 [1, 1]) := by kernel_rfl
theorem q21_10 : q21 [1, 0] = .seq (q21 [1, 0, 0]) (q21 [1, 0, 1]) := by kernel_rfl
theorem q21_100 : q21 [1, 0, 0] = .region 1 (opsA (q21 [1, 0, 0])) false := by kernel_rfl
theorem q21_101 : q21 [1, 0, 1] = .cond (.tmp 5) (q21 [1, 0, 1, 3]) (q21 [1, 0, 1, 4]) := by kernel_rfl
theorem q21_1013 : q21 [1, 0, 1, 3] = .seq (q21 [1, 0, 1, 3, 0]) (q21 [1, 0, 1, 3, 1]) := by kernel_rfl
theorem q21_10130 : q21 [1, 0, 1, 3, 0] = .region 2 (opsA (q21 [1, 0, 1, 3, 0])) false := by kernel_rfl
theorem q21_10131 : q21 [1, 0, 1, 3, 1] = .ret := by kernel_rfl
noncomputable def q26 (p : List Nat) : Code := piece p (bodyOf Tryz.f26)
theorem q26_ : q26 [] = .seq (q26 [0]) (q26 [1]) := by kernel_rfl
theorem q26_0 : q26 [0] = .region 0 (opsA (q26 [0])) false := by kernel_rfl
theorem q26_1 : q26 [1] = .seq (q26 [1, 0]) (q26 [1, 1]) := by kernel_rfl
theorem q26_10 : q26 [1, 0] = .region 1 (opsA (q26 [1, 0])) false := by kernel_rfl
theorem q26_11 : q26 [1, 1] = .ret := by kernel_rfl
theorem rs26 : Tryz.f26.results.toList = [.tmp 2] := rfl
theorem rs21 : Tryz.f21.results.toList = [.tmp 2] := rfl
theorem rs9 : Tryz.f9.results.toList = [.tmp 2] := rfl
theorem rs14 : Tryz.f14.results.toList = [.tmp 8] := rfl
theorem rs4 : Tryz.f4.results.toList = [.cell 8 36, .cell 9 37] := rfl
theorem rs5 : Tryz.f5.results.toList = [.cell 8 25, .cell 9 37] := rfl
theorem rs7 : Tryz.f7.results.toList = [.cell 6 25, .tmp 7] := rfl
attribute [go_sem] rs26 rs21 rs9 rs14 rs4 rs5 rs7
def NoStore (h : Go.Ev.H) (c : C) : Prop := c = .pnil ∨ ∃ p l, c = .ptr p 0 ∧ p < h.next ∧ h.get p = some (.row ti34.size [.pnil :: l] false)
theorem NoStore.new {h : Go.Ev.H} {c : C} (s : NoStore h c) (o : O) : NoStore (h.new o) c := by
  rcases s with e | ⟨p, l, e, hp, hg⟩
  · exact .inl e
  · exact .inr ⟨p, l, e, by rw [H.next_new]; omega, by rw [get_new_ne (by omega)]; exact hg⟩
def inoL16 (x0 x1 x2 x3 x4 x5 x6 x7 x8 x9 x10 x11 x12 x13 x14 x15 : Int) : List C := [.int .u8 x0, .int .i64 x1, .int .u32 x2, .int .i64 x3, .int .u32 x4, .int .u32 x5, .int .u32 x6, .int .u32 x7, .int .u32 x8, .int .u32 x9, .int .u32 x10, .int .u32 x11, .int .u32 x12, .int .u32 x13, .int .u32 x14, .int .u32 x15]
section
variable (Hh : Hearts K Tryz.prog)
include Hh
theorem smadeNo (h : Go.Ev.H) (c : C) (s : NoStore h c) : CallOk K Tryz.prog 26 [.c c] h (.w (.c (.bool false))) h := by
  rcases s with rfl | ⟨p, l, rfl, hp, hg⟩
  ·
    refine CallOk.goes fits Hh (by kernel_rfl) (by kernel_rfl) (by kernel_rfl) (show Tryz.f26.body = some (q26 []) by kernel_rfl) rfl ?_
    show Goes K Tryz.prog 12 none _ _ _ _ _
    show Goes K Tryz.prog 12 none (q26 []) _ _ _ _
    rw [q26_]
    refine Goes.seq ?_
    show Goes K Tryz.prog 12 none (q26 [0]) _ _ _ _
    rw [q26_0]
    refine Goes.ops2 fits Hh E0_sound (by
      simp (config := { maxSteps := 1000000 }) (decide := true) (discharger := first | omega | (simp only [H.next_new, H.next_put] <;> omega) | decide) only [go_sem, q26, Tryz.f26, readRow, loadIn, reduceIte, Nat.reduceAdd, Nat.reduceMul, Nat.reduceSub, Nat.reduceDiv, Nat.reduceMod, Nat.reduceLT, Nat.reduceBEq, Int.reduceToNat, notB]
      rfl) ?_
    show Goes K Tryz.prog 12 none (q26 [1]) _ _ _ _
    rw [q26_1]
    refine Goes.seq ?_
    show Goes K Tryz.prog 12 none (q26 [1, 0]) _ _ _ _
    rw [q26_10]
    refine Goes.ops2 fits Hh E0_sound (by
      simp (config := { maxSteps := 1000000 }) (decide := true) (discharger := first | omega | (simp only [H.next_new, H.next_put] <;> omega) | decide) only [go_sem, q26, Tryz.f26, readRow, loadIn, reduceIte, Nat.reduceAdd, Nat.reduceMul, Nat.reduceSub, Nat.reduceDiv, Nat.reduceMod, Nat.reduceLT, Nat.reduceBEq, Int.reduceToNat, notB]
      rfl) ?_
    show Goes K Tryz.prog 12 none (q26 [1, 1]) _ _ _ _
    rw [q26_11]
    refine Goes.ret ?_
    simp (config := { maxSteps := 1000000 }) (decide := true) (discharger := first | omega | (simp only [H.next_new, H.next_put] <;> omega) | decide) only [go_sem, readRow, loadIn, reduceIte, Nat.reduceAdd, Nat.reduceMul, Nat.reduceSub, Nat.reduceDiv, Nat.reduceMod, Nat.reduceLT, Nat.reduceBEq, Int.reduceToNat, notB] <;> rfl
  ·
    refine CallOk.goes fits Hh (by kernel_rfl) (by kernel_rfl) (by kernel_rfl) (show Tryz.f26.body = some (q26 []) by kernel_rfl) rfl ?_
    show Goes K Tryz.prog 12 none _ _ _ _ _
    show Goes K Tryz.prog 12 none (q26 []) _ _ _ _
    rw [q26_]
    refine Goes.seq ?_
    show Goes K Tryz.prog 12 none (q26 [0]) _ _ _ _
    rw [q26_0]
    refine Goes.ops2 fits Hh E0_sound (by
      simp (config := { maxSteps := 1000000 }) (decide := true) (discharger := first | omega | (simp only [H.next_new, H.next_put] <;> omega) | decide) only [go_sem, q26, Tryz.f26, readRow, loadIn, reduceIte, Nat.reduceAdd, Nat.reduceMul, Nat.reduceSub, Nat.reduceDiv, Nat.reduceMod, Nat.reduceLT, Nat.reduceBEq, Int.reduceToNat, hg, notB, read1, Nat.zero_div, Nat.zero_mod]
      rfl) ?_
    show Goes K Tryz.prog 12 none (q26 [1]) _ _ _ _
    rw [q26_1]
    refine Goes.seq ?_
    show Goes K Tryz.prog 12 none (q26 [1, 0]) _ _ _ _
    rw [q26_10]
    refine Goes.ops2 fits Hh E0_sound (by
      simp (config := { maxSteps := 1000000 }) (decide := true) (discharger := first | omega | (simp only [H.next_new, H.next_put] <;> omega) | decide) only [go_sem, q26, Tryz.f26, readRow, loadIn, reduceIte, Nat.reduceAdd, Nat.reduceMul, Nat.reduceSub, Nat.reduceDiv, Nat.reduceMod, Nat.reduceLT, Nat.reduceBEq, Int.reduceToNat, hg, notB, read1, Nat.zero_div, Nat.zero_mod]
      rfl) ?_
    show Goes K Tryz.prog 12 none (q26 [1, 1]) _ _ _ _
    rw [q26_11]
    refine Goes.ret ?_
    simp (config := { maxSteps := 1000000 }) (decide := true) (discharger := first | omega | (simp only [H.next_new, H.next_put] <;> omega) | decide) only [go_sem, readRow, loadIn, reduceIte, Nat.reduceAdd, Nat.reduceMul, Nat.reduceSub, Nat.reduceDiv, Nat.reduceMod, Nat.reduceLT, Nat.reduceBEq, Int.reduceToNat, hg, notB, read1, Nat.zero_div, Nat.zero_mod] <;> rfl
theorem smodeNo (h : Go.Ev.H) (c : C) (s : NoStore h c) : CallOk K Tryz.prog 21 [.c c] h (.w (.c (.int .u8 0))) h := by
  have c1 := smadeNo Hh h c s
  refine CallOk.goes fits Hh (by kernel_rfl) (by kernel_rfl) (by kernel_rfl) (show Tryz.f21.body = some (q21 []) by kernel_rfl) rfl ?_
  show Goes K Tryz.prog 13 none _ _ _ _ _
  show Goes K Tryz.prog 13 none (q21 []) _ _ _ _
  rw [q21_]
  refine Goes.seq ?_
  show Goes K Tryz.prog 13 none (q21 [0]) _ _ _ _
  rw [q21_0]
  refine Goes.ops2 fits Hh E0_sound (by
    simp (config := { maxSteps := 1000000 }) (decide := true) (discharger := first | omega | (simp only [H.next_new, H.next_put] <;> omega) | decide) only [go_sem, q21, Tryz.f21, readRow, loadIn, reduceIte, Nat.reduceAdd, Nat.reduceMul, Nat.reduceSub, Nat.reduceDiv, Nat.reduceMod, Nat.reduceLT, Nat.reduceBEq, Int.reduceToNat]
    rfl) ?_
  show Goes K Tryz.prog 13 none (q21 [1]) _ _ _ _
  rw [q21_1]
  refine Goes.seq ?_
  show Goes K Tryz.prog 13 none (q21 [1, 0]) _ _ _ _
  rw [q21_10]
  refine Goes.seq ?_
  show Goes K Tryz.prog 13 none (q21 [1, 0, 0]) _ _ _ _
  rw [q21_100]
  refine Goes.ops2 fits Hh (E1_sound E0_sound c1) (by
    simp (config := { maxSteps := 1000000 }) (decide := true) (discharger := first | omega | (simp only [H.next_new, H.next_put] <;> omega) | decide) only [go_sem, q21, Tryz.f21, readRow, loadIn, reduceIte, Nat.reduceAdd, Nat.reduceMul, Nat.reduceSub, Nat.reduceDiv, Nat.reduceMod, Nat.reduceLT, Nat.reduceBEq, Int.reduceToNat, E1_call]
    rfl) ?_
  show Goes K Tryz.prog 13 none (q21 [1, 0, 1]) _ _ _ _
  rw [q21_101]
  refine Goes.condA (by simp (config := { maxSteps := 1000000 }) (decide := true) (discharger := first | omega | (simp only [H.next_new, H.next_put] <;> omega) | decide) only [go_sem, readRow, loadIn, reduceIte, Nat.reduceAdd, Nat.reduceMul, Nat.reduceSub, Nat.reduceDiv, Nat.reduceMod, Nat.reduceLT, Nat.reduceBEq, Int.reduceToNat] <;> rfl) (by first | rfl | assumption | exact decide_eq_true (by omega) | (simp; omega)) ?_
  show Goes K Tryz.prog 13 none (q21 [1, 0, 1, 3]) _ _ _ _
  rw [q21_1013]
  refine Goes.seq ?_
  show Goes K Tryz.prog 13 none (q21 [1, 0, 1, 3, 0]) _ _ _ _
  rw [q21_10130]
  refine Goes.ops2 fits Hh E0_sound (by
    simp (config := { maxSteps := 1000000 }) (decide := true) (discharger := first | omega | (simp only [H.next_new, H.next_put] <;> omega) | decide) only [go_sem, q21, Tryz.f21, readRow, loadIn, reduceIte, Nat.reduceAdd, Nat.reduceMul, Nat.reduceSub, Nat.reduceDiv, Nat.reduceMod, Nat.reduceLT, Nat.reduceBEq, Int.reduceToNat]
    rfl) ?_
  show Goes K Tryz.prog 13 none (q21 [1, 0, 1, 3, 1]) _ _ _ _
  rw [q21_10131]
  refine Goes.ret ?_
  simp (config := { maxSteps := 1000000 }) (decide := true) (discharger := first | omega | (simp only [H.next_new, H.next_put] <;> omega) | decide) only [go_sem, readRow, loadIn, reduceIte, Nat.reduceAdd, Nat.reduceMul, Nat.reduceSub, Nat.reduceDiv, Nat.reduceMod, Nat.reduceLT, Nat.reduceBEq, Int.reduceToNat] <;> rfl
theorem dmadeNo (h : Go.Ev.H) (c : C) (s : NoStore h c) : CallOk K Tryz.prog 9 [.c c] h (.w (.c (.bool false))) h := by
  have c1 := smodeNo Hh h c s
  refine CallOk.goes fits Hh (by kernel_rfl) (by kernel_rfl) (by kernel_rfl) (show Tryz.f9.body = some (q9 []) by kernel_rfl) rfl ?_
  show Goes K Tryz.prog 6 none _ _ _ _ _
  show Goes K Tryz.prog 6 none (q9 []) _ _ _ _
  rw [q9_]
  refine Goes.seq ?_
  show Goes K Tryz.prog 6 none (q9 [0]) _ _ _ _
  rw [q9_0]
  refine Goes.ops2 fits Hh E0_sound (by
    simp (config := { maxSteps := 1000000 }) (decide := true) (discharger := first | omega | (simp only [H.next_new, H.next_put] <;> omega) | decide) only [go_sem, q9, Tryz.f9, readRow, loadIn, reduceIte, Nat.reduceAdd, Nat.reduceMul, Nat.reduceSub, Nat.reduceDiv, Nat.reduceMod, Nat.reduceLT, Nat.reduceBEq, Int.reduceToNat]
    rfl) ?_
  show Goes K Tryz.prog 6 none (q9 [1]) _ _ _ _
  rw [q9_1]
  refine Goes.seq ?_
  show Goes K Tryz.prog 6 none (q9 [1, 0]) _ _ _ _
  rw [q9_10]
  refine Goes.ops2 fits Hh (E1_sound E0_sound c1) (by
    simp (config := { maxSteps := 1000000 }) (decide := true) (discharger := first | omega | (simp only [H.next_new, H.next_put] <;> omega) | decide) only [go_sem, q9, Tryz.f9, readRow, loadIn, reduceIte, Nat.reduceAdd, Nat.reduceMul, Nat.reduceSub, Nat.reduceDiv, Nat.reduceMod, Nat.reduceLT, Nat.reduceBEq, Int.reduceToNat, E1_call]
    rfl) ?_
  show Goes K Tryz.prog 6 none (q9 [1, 1]) _ _ _ _
  rw [q9_11]
  refine Goes.ret ?_
  simp (config := { maxSteps := 1000000 }) (decide := true) (discharger := first | omega | (simp only [H.next_new, H.next_put] <;> omega) | decide) only [go_sem, readRow, loadIn, reduceIte, Nat.reduceAdd, Nat.reduceMul, Nat.reduceSub, Nat.reduceDiv, Nat.reduceMod, Nat.reduceLT, Nat.reduceBEq, Int.reduceToNat] <;> rfl
theorem dmayNo (h : Go.Ev.H) (c : C) (s : NoStore h c) (x : List C) (a n : Int) : CallOk K Tryz.prog 14 [.c c, .g x, .c (.int .i64 a), .c (.int .i64 n)] h (.w (.c (.int .i64 1))) h := by
  have c1 := dmadeNo Hh _ c (s.new (.row x.length [x] false))
  obtain ⟨v, h', c, rfl, hk⟩ : ∃ v h', CallOk K Tryz.prog 14 [.c c, .g x, .c (.int .i64 a), .c (.int .i64 n)] h v h' ∧ v = .w (.c (.int .i64 1)) ∧ ∀ m, m < h.next → h'.get m = h.get m := by
    refine CallOk.goesE fits Hh (by kernel_rfl) (by kernel_rfl) (by kernel_rfl) (show Tryz.f14.body = some (q14 []) by kernel_rfl) rfl ?_
    show Goes K Tryz.prog 31 none _ _ _ _ _
    show Goes K Tryz.prog 31 none (q14 []) _ _ _ _
    rw [q14_]
    refine Goes.seq ?_
    show Goes K Tryz.prog 31 none (q14 [0]) _ _ _ _
    rw [q14_0]
    refine Goes.ops2 fits Hh E0_sound (by
      simp (config := { maxSteps := 1000000 }) (decide := true) (discharger := first | omega | (simp only [H.next_new, H.next_put] <;> omega) | decide) only [go_sem, q14, Tryz.f14, readRow, loadIn, reduceIte, Nat.reduceAdd, Nat.reduceMul, Nat.reduceSub, Nat.reduceDiv, Nat.reduceMod, Nat.reduceLT, Nat.reduceBEq, Int.reduceToNat, opBox]
      rfl) ?_
    show Goes K Tryz.prog 31 none (q14 [1]) _ _ _ _
    rw [q14_1]
    refine Goes.seq ?_
    show Goes K Tryz.prog 31 none (q14 [1, 0]) _ _ _ _
    rw [q14_10]
    refine Goes.block ?_
    show Goes K Tryz.prog 31 none (q14 [1, 0, 2]) _ _ _ _
    rw [q14_102]
    refine Goes.seq ?_
    show Goes K Tryz.prog 31 none (q14 [1, 0, 2, 0]) _ _ _ _
    rw [q14_1020]
    refine Goes.ops2 fits Hh (E1_sound E0_sound c1) (by
      simp (config := { maxSteps := 1000000 }) (decide := true) (discharger := first | omega | (simp only [H.next_new, H.next_put] <;> omega) | decide) only [go_sem, q14, Tryz.f14, readRow, loadIn, reduceIte, Nat.reduceAdd, Nat.reduceMul, Nat.reduceSub, Nat.reduceDiv, Nat.reduceMod, Nat.reduceLT, Nat.reduceBEq, Int.reduceToNat, E1_call, opBox]
      rfl) ?_
    show Goes K Tryz.prog 31 none (q14 [1, 0, 2, 1]) _ _ _ _
    rw [q14_1021]
    refine Goes.condA (by simp (config := { maxSteps := 1000000 }) (decide := true) (discharger := first | omega | (simp only [H.next_new, H.next_put] <;> omega) | decide) only [go_sem, readRow, loadIn, reduceIte, Nat.reduceAdd, Nat.reduceMul, Nat.reduceSub, Nat.reduceDiv, Nat.reduceMod, Nat.reduceLT, Nat.reduceBEq, Int.reduceToNat, opBox] <;> rfl) (by first | rfl | assumption | exact decide_eq_true (by omega) | (simp; omega)) ?_
    show Goes K Tryz.prog 31 none (q14 [1, 0, 2, 1, 3]) _ _ _ _
    rw [q14_10213]
    refine Goes.seq ?_
    show Goes K Tryz.prog 31 none (q14 [1, 0, 2, 1, 3, 0]) _ _ _ _
    rw [q14_102130]
    refine Goes.ops2 fits Hh E0_sound (by
      simp (config := { maxSteps := 1000000 }) (decide := true) (discharger := first | omega | (simp only [H.next_new, H.next_put] <;> omega) | decide) only [go_sem, q14, Tryz.f14, readRow, loadIn, reduceIte, Nat.reduceAdd, Nat.reduceMul, Nat.reduceSub, Nat.reduceDiv, Nat.reduceMod, Nat.reduceLT, Nat.reduceBEq, Int.reduceToNat, opBox]
      rfl) ?_
    show Goes K Tryz.prog 31 none (q14 [1, 0, 2, 1, 3, 1]) _ _ _ _
    rw [q14_102131]
    refine Goes.ret ?_
    refine ⟨_, _, (by simp (config := { maxSteps := 1000000 }) (decide := true) (discharger := first | omega | (simp only [H.next_new, H.next_put] <;> omega) | decide) only [go_sem, readRow, loadIn, reduceIte, Nat.reduceAdd, Nat.reduceMul, Nat.reduceSub, Nat.reduceDiv, Nat.reduceMod, Nat.reduceLT, Nat.reduceBEq, Int.reduceToNat] <;> rfl), rfl, fun m hm => ?_⟩
    simp (config := { maxSteps := 1000000 }) (decide := true) (discharger := first | omega | (simp only [H.next_new, H.next_put] <;> omega) | decide) only [go_sem, readRow, loadIn, reduceIte, Nat.reduceAdd, Nat.reduceMul, Nat.reduceSub, Nat.reduceDiv, Nat.reduceMod, Nat.reduceLT, Nat.reduceBEq, Int.reduceToNat]
  exact CallOk.quiet c rfl hk
theorem dreadNo (h : Go.Ev.H) (c : C) (s : NoStore h c) (x : List C) (a n : Int) : CallOk K Tryz.prog 4 [.c c, .g x, .c (.int .i64 a), .c (.int .i64 n)] h (.tup [.c .snil, .c (.int .i64 1)]) h := by
  have c1 := dmadeNo Hh _ c ((((s.new (.row 1 [[c]] false)).new (.row x.length [x] false)).new (.row 1 [[.snil]] false)).new (.row 1 [[.int .i64 0]] false))
  obtain ⟨v, h', c, rfl, hk⟩ : ∃ v h', CallOk K Tryz.prog 4 [.c c, .g x, .c (.int .i64 a), .c (.int .i64 n)] h v h' ∧ v = .tup [.c .snil, .c (.int .i64 1)] ∧ ∀ m, m < h.next → h'.get m = h.get m := by
    refine CallOk.goesE fits Hh (by kernel_rfl) (by kernel_rfl) (by kernel_rfl) (show Tryz.f4.body = some (q4 []) by kernel_rfl) rfl ?_
    show Goes K Tryz.prog 84 none _ _ _ _ _
    show Goes K Tryz.prog 84 none (q4 []) _ _ _ _
    rw [q4_]
    refine Goes.seq ?_
    show Goes K Tryz.prog 84 none (q4 [0]) _ _ _ _
    rw [q4_0]
    refine Goes.ops2 fits Hh E0_sound (by
      simp (config := { maxSteps := 1000000 }) (decide := true) (discharger := first | omega | (simp only [H.next_new, H.next_put] <;> omega) | decide) only [go_sem, q4, Tryz.f4, readRow, loadIn, reduceIte, Nat.reduceAdd, Nat.reduceMul, Nat.reduceSub, Nat.reduceDiv, Nat.reduceMod, Nat.reduceLT, Nat.reduceBEq, Int.reduceToNat, opBox, read1, writeRow]
      rfl) ?_
    show Goes K Tryz.prog 84 none (q4 [1]) _ _ _ _
    rw [q4_1]
    refine Goes.seq ?_
    show Goes K Tryz.prog 84 none (q4 [1, 0]) _ _ _ _
    rw [q4_10]
    refine Goes.seq ?_
    show Goes K Tryz.prog 84 none (q4 [1, 0, 0]) _ _ _ _
    rw [q4_100]
    refine Goes.ops2 fits Hh (E1_sound E0_sound c1) (by
      simp (config := { maxSteps := 1000000 }) (decide := true) (discharger := first | omega | (simp only [H.next_new, H.next_put] <;> omega) | decide) only [go_sem, q4, Tryz.f4, readRow, loadIn, reduceIte, Nat.reduceAdd, Nat.reduceMul, Nat.reduceSub, Nat.reduceDiv, Nat.reduceMod, Nat.reduceLT, Nat.reduceBEq, Int.reduceToNat, E1_call, opBox, read1, writeRow]
      rfl) ?_
    show Goes K Tryz.prog 84 none (q4 [1, 0, 1]) _ _ _ _
    rw [q4_101]
    refine Goes.condA (by simp (config := { maxSteps := 1000000 }) (decide := true) (discharger := first | omega | (simp only [H.next_new, H.next_put] <;> omega) | decide) only [go_sem, readRow, loadIn, reduceIte, Nat.reduceAdd, Nat.reduceMul, Nat.reduceSub, Nat.reduceDiv, Nat.reduceMod, Nat.reduceLT, Nat.reduceBEq, Int.reduceToNat, opBox, read1, writeRow] <;> rfl) (by first | rfl | assumption | exact decide_eq_true (by omega) | (simp; omega)) ?_
    show Goes K Tryz.prog 84 none (q4 [1, 0, 1, 3]) _ _ _ _
    rw [q4_1013]
    refine Goes.seq ?_
    show Goes K Tryz.prog 84 none (q4 [1, 0, 1, 3, 0]) _ _ _ _
    rw [q4_10130]
    refine Goes.ops2 fits Hh E0_sound (by
      simp (config := { maxSteps := 1000000 }) (decide := true) (discharger := first | omega | (simp only [H.next_new, H.next_put] <;> omega) | decide) only [go_sem, q4, Tryz.f4, readRow, loadIn, reduceIte, Nat.reduceAdd, Nat.reduceMul, Nat.reduceSub, Nat.reduceDiv, Nat.reduceMod, Nat.reduceLT, Nat.reduceBEq, Int.reduceToNat, opBox, read1, writeRow]
      rfl) ?_
    show Goes K Tryz.prog 84 none (q4 [1, 0, 1, 3, 1]) _ _ _ _
    rw [q4_10131]
    refine Goes.ret ?_
    refine ⟨_, _, (by simp (config := { maxSteps := 1000000 }) (decide := true) (discharger := first | omega | (simp only [H.next_new, H.next_put] <;> omega) | decide) only [go_sem, readRow, loadIn, reduceIte, Nat.reduceAdd, Nat.reduceMul, Nat.reduceSub, Nat.reduceDiv, Nat.reduceMod, Nat.reduceLT, Nat.reduceBEq, Int.reduceToNat, read1] <;> rfl), rfl, fun m hm => ?_⟩
    simp (config := { maxSteps := 1000000 }) (decide := true) (discharger := first | omega | (simp only [H.next_new, H.next_put] <;> omega) | decide) only [go_sem, readRow, loadIn, reduceIte, Nat.reduceAdd, Nat.reduceMul, Nat.reduceSub, Nat.reduceDiv, Nat.reduceMod, Nat.reduceLT, Nat.reduceBEq, Int.reduceToNat]
  exact CallOk.quiet c rfl hk
theorem dresizeNo (h : Go.Ev.H) (c : C) (s : NoStore h c) (x : List C) (n : Int) : CallOk K Tryz.prog 7 [.c c, .g x, .c (.int .i64 n)] h (.tup [.g (inoL16 0 0 0 0 0 0 0 0 0 0 0 0 0 0 0 0), .c (.int .i64 1)]) h := by
  have c1 := dmadeNo Hh _ c ((s.new (.row x.length [x] false)).new (.row 16 [inoL16 0 0 0 0 0 0 0 0 0 0 0 0 0 0 0 0] false))
  obtain ⟨v, h', c, rfl, hk⟩ : ∃ v h', CallOk K Tryz.prog 7 [.c c, .g x, .c (.int .i64 n)] h v h' ∧ v = .tup [.g (inoL16 0 0 0 0 0 0 0 0 0 0 0 0 0 0 0 0), .c (.int .i64 1)] ∧ ∀ m, m < h.next → h'.get m = h.get m := by
    refine CallOk.goesE fits Hh (by kernel_rfl) (by kernel_rfl) (by kernel_rfl) (show Tryz.f7.body = some (q7 []) by kernel_rfl) rfl ?_
    show Goes K Tryz.prog 45 none _ _ _ _ _
    show Goes K Tryz.prog 45 none (q7 []) _ _ _ _
    rw [q7_]
    refine Goes.seq ?_
    show Goes K Tryz.prog 45 none (q7 [0]) _ _ _ _
    rw [q7_0]
    refine Goes.ops2 fits Hh E0_sound (by
      simp (config := { maxSteps := 1000000 }) (decide := true) (discharger := first | omega | (simp only [H.next_new, H.next_put] <;> omega) | decide) only [go_sem, q7, Tryz.f7, readRow, loadIn, reduceIte, Nat.reduceAdd, Nat.reduceMul, Nat.reduceSub, Nat.reduceDiv, Nat.reduceMod, Nat.reduceLT, Nat.reduceBEq, Int.reduceToNat, inoL16, opBox, writeRow]
      rfl) ?_
    show Goes K Tryz.prog 45 none (q7 [1]) _ _ _ _
    rw [q7_1]
    refine Goes.seq ?_
    show Goes K Tryz.prog 45 none (q7 [1, 0]) _ _ _ _
    rw [q7_10]
    refine Goes.seq ?_
    show Goes K Tryz.prog 45 none (q7 [1, 0, 0]) _ _ _ _
    rw [q7_100]
    refine Goes.ops2 fits Hh (E1_sound E0_sound c1) (by
      simp (config := { maxSteps := 1000000 }) (decide := true) (discharger := first | omega | (simp only [H.next_new, H.next_put] <;> omega) | decide) only [go_sem, q7, Tryz.f7, readRow, loadIn, reduceIte, Nat.reduceAdd, Nat.reduceMul, Nat.reduceSub, Nat.reduceDiv, Nat.reduceMod, Nat.reduceLT, Nat.reduceBEq, Int.reduceToNat, E1_call, inoL16, opBox, writeRow]
      rfl) ?_
    show Goes K Tryz.prog 45 none (q7 [1, 0, 1]) _ _ _ _
    rw [q7_101]
    refine Goes.condA (by simp (config := { maxSteps := 1000000 }) (decide := true) (discharger := first | omega | (simp only [H.next_new, H.next_put] <;> omega) | decide) only [go_sem, readRow, loadIn, reduceIte, Nat.reduceAdd, Nat.reduceMul, Nat.reduceSub, Nat.reduceDiv, Nat.reduceMod, Nat.reduceLT, Nat.reduceBEq, Int.reduceToNat, inoL16, opBox, writeRow] <;> rfl) (by first | rfl | assumption | exact decide_eq_true (by omega) | (simp; omega)) ?_
    show Goes K Tryz.prog 45 none (q7 [1, 0, 1, 3]) _ _ _ _
    rw [q7_1013]
    refine Goes.seq ?_
    show Goes K Tryz.prog 45 none (q7 [1, 0, 1, 3, 0]) _ _ _ _
    rw [q7_10130]
    refine Goes.ops2 fits Hh E0_sound (by
      simp (config := { maxSteps := 1000000 }) (decide := true) (discharger := first | omega | (simp only [H.next_new, H.next_put] <;> omega) | decide) only [go_sem, q7, Tryz.f7, readRow, loadIn, reduceIte, Nat.reduceAdd, Nat.reduceMul, Nat.reduceSub, Nat.reduceDiv, Nat.reduceMod, Nat.reduceLT, Nat.reduceBEq, Int.reduceToNat, inoL16, opBox, writeRow]
      rfl) ?_
    show Goes K Tryz.prog 45 none (q7 [1, 0, 1, 3, 1]) _ _ _ _
    rw [q7_10131]
    refine Goes.ret ?_
    refine ⟨_, _, (by simp (config := { maxSteps := 1000000 }) (decide := true) (discharger := first | omega | (simp only [H.next_new, H.next_put] <;> omega) | decide) only [go_sem, readRow, loadIn, reduceIte, Nat.reduceAdd, Nat.reduceMul, Nat.reduceSub, Nat.reduceDiv, Nat.reduceMod, Nat.reduceLT, Nat.reduceBEq, Int.reduceToNat] <;> rfl), rfl, fun m hm => ?_⟩
    simp (config := { maxSteps := 1000000 }) (decide := true) (discharger := first | omega | (simp only [H.next_new, H.next_put] <;> omega) | decide) only [go_sem, readRow, loadIn, reduceIte, Nat.reduceAdd, Nat.reduceMul, Nat.reduceSub, Nat.reduceDiv, Nat.reduceMod, Nat.reduceLT, Nat.reduceBEq, Int.reduceToNat]
  exact CallOk.quiet c rfl hk
theorem dwriteNo (h : Go.Ev.H) (c : C) (s : NoStore h c) (x0 x1 x2 x3 x4 x5 x6 x7 x8 x9 x10 x11 x12 x13 x14 x15 a : Int) (b : C) (n : Nat) (hb : b = .snil ∧ n = 0 ∨ ∃ q, b = .slice q 0 n 1) : CallOk K Tryz.prog 5 [.c c, .g (inoL16 x0 x1 x2 x3 x4 x5 x6 x7 x8 x9 x10 x11 x12 x13 x14 x15), .c (.int .i64 a), .c b] h (.tup [.g (inoL16 0 0 0 0 0 0 0 0 0 0 0 0 0 0 0 0), .c (.int .i64 1)]) h := by
  have c1 := dmayNo Hh _ c (((((s.new (.row 1 [[c]] false)).new (.row 16 [inoL16 x0 x1 x2 x3 x4 x5 x6 x7 x8 x9 x10 x11 x12 x13 x14 x15] false)).new (.row 1 [[b]] false)).new (.row 16 [inoL16 0 0 0 0 0 0 0 0 0 0 0 0 0 0 0 0] false)).new (.row 1 [[.int .i64 0]] false)) (inoL16 x0 x1 x2 x3 x4 x5 x6 x7 x8 x9 x10 x11 x12 x13 x14 x15) a n
  have fl : lenFits K 36 (.c b) = true ∧ ∀ h2 : Go.Ev.H, opLen K h2 36 (.c b) = some (.int .i64 n) := by
    rcases hb with ⟨rfl, rfl⟩ | ⟨q, rfl⟩
    · exact ⟨by kernel_rfl, fun _ => rfl⟩
    · exact ⟨by kernel_rfl, fun _ => rfl⟩
  obtain ⟨fl1, fl2⟩ := fl
  obtain ⟨v, h', c, rfl, hk⟩ : ∃ v h', CallOk K Tryz.prog 5 [.c c, .g (inoL16 x0 x1 x2 x3 x4 x5 x6 x7 x8 x9 x10 x11 x12 x13 x14 x15), .c (.int .i64 a), .c b] h v h' ∧ v = .tup [.g (inoL16 0 0 0 0 0 0 0 0 0 0 0 0 0 0 0 0), .c (.int .i64 1)] ∧ ∀ m, m < h.next → h'.get m = h.get m := by
    refine CallOk.goesE fits Hh (by kernel_rfl) (by kernel_rfl) (by kernel_rfl) (show Tryz.f5.body = some (q5 []) by kernel_rfl) rfl ?_
    show Goes K Tryz.prog 100 none _ _ _ _ _
    show Goes K Tryz.prog 100 none (q5 []) _ _ _ _
    rw [q5_]
    refine Goes.seq ?_
    show Goes K Tryz.prog 100 none (q5 [0]) _ _ _ _
    rw [q5_0]
    refine Goes.ops2 fits Hh E0_sound (by
      simp (config := { maxSteps := 1000000 }) (decide := true) (discharger := first | omega | (simp only [H.next_new, H.next_put] <;> omega) | decide) only [go_sem, q5, Tryz.f5, readRow, loadIn, reduceIte, Nat.reduceAdd, Nat.reduceMul, Nat.reduceSub, Nat.reduceDiv, Nat.reduceMod, Nat.reduceLT, Nat.reduceBEq, Int.reduceToNat, inoL16, fl1, fl2, opBox, opBuiltin, writeRow, read1]
      rfl) ?_
    show Goes K Tryz.prog 100 none (q5 [1]) _ _ _ _
    rw [q5_1]
    refine Goes.seq ?_
    show Goes K Tryz.prog 100 none (q5 [1, 0]) _ _ _ _
    rw [q5_10]
    refine Goes.seq ?_
    show Goes K Tryz.prog 100 none (q5 [1, 0, 0]) _ _ _ _
    rw [q5_100]
    refine Goes.ops2 fits Hh (E1_sound E0_sound c1) (by
      simp (config := { maxSteps := 1000000 }) (decide := true) (discharger := first | omega | (simp only [H.next_new, H.next_put] <;> omega) | decide) only [go_sem, q5, Tryz.f5, readRow, loadIn, reduceIte, Nat.reduceAdd, Nat.reduceMul, Nat.reduceSub, Nat.reduceDiv, Nat.reduceMod, Nat.reduceLT, Nat.reduceBEq, Int.reduceToNat, E1_call, inoL16, fl1, fl2, opBox, opBuiltin, writeRow, read1]
      rfl) ?_
    show Goes K Tryz.prog 100 none (q5 [1, 0, 1]) _ _ _ _
    rw [q5_101]
    refine Goes.seq ?_
    show Goes K Tryz.prog 100 none (q5 [1, 0, 1, 0]) _ _ _ _
    rw [q5_1010]
    refine Goes.ops2 fits Hh E0_sound (by
      simp (config := { maxSteps := 1000000 }) (decide := true) (discharger := first | omega | (simp only [H.next_new, H.next_put] <;> omega) | decide) only [go_sem, q5, Tryz.f5, readRow, loadIn, reduceIte, Nat.reduceAdd, Nat.reduceMul, Nat.reduceSub, Nat.reduceDiv, Nat.reduceMod, Nat.reduceLT, Nat.reduceBEq, Int.reduceToNat, inoL16, fl1, fl2, opBox, opBuiltin, writeRow, read1]
      rfl) ?_
    show Goes K Tryz.prog 100 none (q5 [1, 0, 1, 1]) _ _ _ _
    rw [q5_1011]
    refine Goes.condA (by simp (config := { maxSteps := 1000000 }) (decide := true) (discharger := first | omega | (simp only [H.next_new, H.next_put] <;> omega) | decide) only [go_sem, readRow, loadIn, reduceIte, Nat.reduceAdd, Nat.reduceMul, Nat.reduceSub, Nat.reduceDiv, Nat.reduceMod, Nat.reduceLT, Nat.reduceBEq, Int.reduceToNat, inoL16, fl1, fl2, opBox, opBuiltin, writeRow, read1] <;> rfl) (by first | rfl | assumption | exact decide_eq_true (by omega) | (simp; omega)) ?_
    show Goes K Tryz.prog 100 none (q5 [1, 0, 1, 1, 3]) _ _ _ _
    rw [q5_10113]
    refine Goes.seq ?_
    show Goes K Tryz.prog 100 none (q5 [1, 0, 1, 1, 3, 0]) _ _ _ _
    rw [q5_101130]
    refine Goes.ops2 fits Hh E0_sound (by
      simp (config := { maxSteps := 1000000 }) (decide := true) (discharger := first | omega | (simp only [H.next_new, H.next_put] <;> omega) | decide) only [go_sem, q5, Tryz.f5, readRow, loadIn, reduceIte, Nat.reduceAdd, Nat.reduceMul, Nat.reduceSub, Nat.reduceDiv, Nat.reduceMod, Nat.reduceLT, Nat.reduceBEq, Int.reduceToNat, inoL16, fl1, fl2, opBox, opBuiltin, writeRow, read1]
      rfl) ?_
    show Goes K Tryz.prog 100 none (q5 [1, 0, 1, 1, 3, 1]) _ _ _ _
    rw [q5_101131]
    refine Goes.ret ?_
    refine ⟨_, _, (by simp (config := { maxSteps := 1000000 }) (decide := true) (discharger := first | omega | (simp only [H.next_new, H.next_put] <;> omega) | decide) only [go_sem, readRow, loadIn, reduceIte, Nat.reduceAdd, Nat.reduceMul, Nat.reduceSub, Nat.reduceDiv, Nat.reduceMod, Nat.reduceLT, Nat.reduceBEq, Int.reduceToNat, read1] <;> rfl), rfl, fun m hm => ?_⟩
    simp (config := { maxSteps := 1000000 }) (decide := true) (discharger := first | omega | (simp only [H.next_new, H.next_put] <;> omega) | decide) only [go_sem, readRow, loadIn, reduceIte, Nat.reduceAdd, Nat.reduceMul, Nat.reduceSub, Nat.reduceDiv, Nat.reduceMod, Nat.reduceLT, Nat.reduceBEq, Int.reduceToNat]
  exact CallOk.quiet c rfl hk
end
end Go.Proofs.YtncdhjlpmlmfhaaGreatDoor
