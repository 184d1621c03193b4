/- DirsNil, whatever it is given. -/
import Derived.Test.YtjdbhajhjnfhiaaGreatDoorAw28
set_option linter.unusedSimpArgs false
set_option linter.unusedVariables false
set_option linter.unusedSectionVars false
set_option maxRecDepth 100000
namespace Go.Proofs.YtjdbhajhjnfhiaaGreatDoor
open Go.Ev
theorem ty27 : K.types.get 27 = some ti27 := by kernel_rfl
theorem sz27 : ti27.size = 20 := by rfl
theorem ag27 : ti27.agg = true := by rfl
theorem fo27_0 : fieldOf K 27 0 = some (0, ti5) := by kernel_rfl
theorem fo27_1 : fieldOf K 27 1 = some (1, ti3) := by kernel_rfl
theorem fo27_2 : fieldOf K 27 2 = some (2, ti3) := by kernel_rfl
theorem fo27_3 : fieldOf K 27 3 = some (3, ti9) := by kernel_rfl
theorem fo27_4 : fieldOf K 27 4 = some (4, ti25) := by kernel_rfl
theorem bu27 (ps : List (Nat × W)) : opBuild K 27 (some ps) = gW (fillStruct K 27 ps ti27.zero.cells) := by kernel_rfl
theorem ze27 : ti27.zero = (.g ([.int .u8 0, .int .i64 0, .int .i64 0, .str [], .int .u8 0, .int .i64 0, .int .u32 0, .int .i64 0, .int .u32 0, .int .u32 0, .int .u32 0, .int .u32 0, .int .u32 0, .int .u32 0, .int .u32 0, .int .u32 0, .int .u32 0, .int .u32 0, .int .u32 0, .int .u32 0])) := by rfl
theorem by27 : ti27.bytes = 120 := by rfl
theorem ty29 : K.types.get 29 = some ti29 := by kernel_rfl
theorem sz29 : ti29.size = 1 := by rfl
theorem ag29 : ti29.agg = false := by rfl
theorem de29 : ti29.desc = (.slice 27) := by rfl
theorem ze29 : ti29.zero = (.c (.snil)) := by rfl
theorem by29 : ti29.bytes = 24 := by rfl
theorem el29 : elemTI K 29 = some ti27 := by kernel_rfl
theorem ty30 : K.types.get 30 = some ti30 := by kernel_rfl
theorem sz30 : ti30.size = 1 := by rfl
theorem ag30 : ti30.agg = false := by rfl
theorem de30 : ti30.desc = (.pointer 38) := by rfl
theorem ze30 : ti30.zero = (.c (.pnil)) := by rfl
theorem by30 : ti30.bytes = 8 := by rfl
theorem ty31 : K.types.get 31 = some ti31 := by kernel_rfl
theorem sz31 : ti31.size = 1 := by rfl
theorem ag31 : ti31.agg = false := by rfl
theorem de31 : ti31.desc = (.pointer 100) := by rfl
theorem ze31 : ti31.zero = (.c (.pnil)) := by rfl
theorem by31 : ti31.bytes = 8 := by rfl
theorem ty32 : K.types.get 32 = some ti32 := by kernel_rfl
theorem sz32 : ti32.size = 1 := by rfl
theorem ag32 : ti32.agg = false := by rfl
theorem de32 : ti32.desc = (.pointer 155) := by rfl
theorem ze32 : ti32.zero = (.c (.pnil)) := by rfl
theorem by32 : ti32.bytes = 8 := by rfl
theorem ty33 : K.types.get 33 = some ti33 := by kernel_rfl
theorem sz33 : ti33.size = 1 := by rfl
theorem ag33 : ti33.agg = false := by rfl
theorem de33 : ti33.desc = (.pointer 209) := by rfl
theorem ze33 : ti33.zero = (.c (.pnil)) := by rfl
theorem by33 : ti33.bytes = 8 := by rfl
theorem ty34 : K.types.get 34 = some ti34 := by kernel_rfl
theorem sz34 : ti34.size = 1 := by rfl
theorem ag34 : ti34.agg = false := by rfl
theorem de34 : ti34.desc = (.map 3 139) := by rfl
theorem ze34 : ti34.zero = (.c (.mnil)) := by rfl
theorem by34 : ti34.bytes = 8 := by rfl
theorem mp34 : mapTI K 34 = some (3, 139) := by kernel_rfl
theorem ty35 : K.types.get 35 = some ti35 := by kernel_rfl
theorem sz35 : ti35.size = 1 := by rfl
theorem ag35 : ti35.agg = false := by rfl
theorem de35 : ti35.desc = (.map 3 3) := by rfl
theorem ze35 : ti35.zero = (.c (.mnil)) := by rfl
theorem by35 : ti35.bytes = 8 := by rfl
theorem mp35 : mapTI K 35 = some (3, 3) := by kernel_rfl
theorem ty36 : K.types.get 36 = some ti36 := by kernel_rfl
theorem sz36 : ti36.size = 1 := by rfl
theorem ag36 : ti36.agg = false := by rfl
theorem de36 : ti36.desc = (.slice 3) := by rfl
theorem ze36 : ti36.zero = (.c (.snil)) := by rfl
theorem by36 : ti36.bytes = 24 := by rfl
theorem el36 : elemTI K 36 = some ti3 := by kernel_rfl
theorem ty38 : K.types.get 38 = some ti38 := by kernel_rfl
theorem sz38 : ti38.size = 8 := by rfl
theorem ag38 : ti38.agg = true := by rfl
theorem fo38_0 : fieldOf K 38 0 = some (0, ti31) := by kernel_rfl
theorem fo38_1 : fieldOf K 38 1 = some (1, ti32) := by kernel_rfl
theorem fo38_2 : fieldOf K 38 2 = some (2, ti33) := by kernel_rfl
theorem fo38_3 : fieldOf K 38 3 = some (3, ti34) := by kernel_rfl
theorem fo38_4 : fieldOf K 38 4 = some (4, ti35) := by kernel_rfl
theorem fo38_5 : fieldOf K 38 5 = some (5, ti36) := by kernel_rfl
theorem fo38_6 : fieldOf K 38 6 = some (6, ti4) := by kernel_rfl
theorem fo38_7 : fieldOf K 38 7 = some (7, ti4) := by kernel_rfl
theorem bu38 (ps : List (Nat × W)) : opBuild K 38 (some ps) = gW (fillStruct K 38 ps ti38.zero.cells) := by kernel_rfl
theorem ze38 : ti38.zero = (.g ([.pnil, .pnil, .pnil, .mnil, .mnil, .snil, .bool false, .bool false])) := by rfl
theorem by38 : ti38.bytes = 72 := by rfl
theorem ty39 : K.types.get 39 = some ti39 := by kernel_rfl
theorem sz39 : ti39.size = 1 := by rfl
theorem ag39 : ti39.agg = false := by rfl
theorem de39 : ti39.desc = (.slice 30) := by rfl
theorem ze39 : ti39.zero = (.c (.snil)) := by rfl
theorem by39 : ti39.bytes = 24 := by rfl
theorem el39 : elemTI K 39 = some ti30 := by kernel_rfl
theorem ty139 : K.types.get 139 = some ti139 := by kernel_rfl
theorem sz139 : ti139.size = 257 := by rfl
theorem ag139 : ti139.agg = true := by rfl
theorem fo139_0 : fieldOf K 139 0 = some (0, ti3) := by kernel_rfl
theorem fo139_1 : fieldOf K 139 1 = some (1, ti75) := by kernel_rfl
theorem bu139 (ps : List (Nat × W)) : opBuild K 139 (some ps) = gW (fillStruct K 139 ps ti139.zero.cells) := by kernel_rfl
theorem ze139 : ti139.zero = (.g (List.replicate 1 (.int .i64 0) ++ List.replicate 256 (.int .u8 0))) := by rfl
theorem by139 : ti139.bytes = 264 := by rfl
attribute [go_sem] ty27 sz27 ag27 fo27_0 fo27_1 fo27_2 fo27_3 fo27_4 bu27 ze27 by27 ty29 sz29 ag29 de29 ze29 by29 el29 ty30 sz30 ag30 de30 ze30 by30 ty31 sz31 ag31 de31 ze31 by31 ty32 sz32 ag32 de32 ze32 by32 ty33 sz33 ag33 de33 ze33 by33 ty34 sz34 ag34 de34 ze34 by34 mp34 ty35 sz35 ag35 de35 ze35 by35 mp35 ty36 sz36 ag36 de36 ze36 by36 el36 ty38 sz38 ag38 fo38_0 fo38_1 fo38_2 fo38_3 fo38_4 fo38_5 fo38_6 fo38_7 bu38 ze38 by38 ty39 sz39 ag39 de39 ze39 by39 el39 ty139 sz139 ag139 fo139_0 fo139_1 bu139 ze139 by139
noncomputable def q3 (p : List Nat) : Code := piece p (bodyOf Tryz.f3)
theorem q3_ : q3 [] = .seq (q3 [0]) (q3 [1]) := by kernel_rfl
theorem q3_0 : q3 [0] = .region 0 (opsA (q3 [0])) false := by kernel_rfl
theorem q3_1 : q3 [1] = .seq (q3 [1, 0]) (q3 [1, 1]) := by kernel_rfl
theorem q3_10 : q3 [1, 0] = .seq (q3 [1, 0, 0]) (q3 [1, 0, 1]) := by kernel_rfl
theorem q3_100 : q3 [1, 0, 0] = .region 1 (opsA (q3 [1, 0, 0])) false := by kernel_rfl
theorem q3_101 : q3 [1, 0, 1] = .cond (.tmp 14) (q3 [1, 0, 1, 3]) (q3 [1, 0, 1, 4]) := by kernel_rfl
theorem q3_1013 : q3 [1, 0, 1, 3] = .seq (q3 [1, 0, 1, 3, 0]) (q3 [1, 0, 1, 3, 1]) := by kernel_rfl
theorem q3_10130 : q3 [1, 0, 1, 3, 0] = .region 2 (opsA (q3 [1, 0, 1, 3, 0])) false := by kernel_rfl
theorem q3_10131 : q3 [1, 0, 1, 3, 1] = .ret := by kernel_rfl
theorem q3_1014 : q3 [1, 0, 1, 4] = .skip := by kernel_rfl
theorem q3_11 : q3 [1, 1] = .seq (q3 [1, 1, 0]) (q3 [1, 1, 1]) := by kernel_rfl
theorem q3_110 : q3 [1, 1, 0] = .region 3 (opsA (q3 [1, 1, 0])) false := by kernel_rfl
theorem q3_111 : q3 [1, 1, 1] = .seq (q3 [1, 1, 1, 0]) (q3 [1, 1, 1, 1]) := by kernel_rfl
theorem q3_1110 : q3 [1, 1, 1, 0] = .region 4 (opsA (q3 [1, 1, 1, 0])) false := by kernel_rfl
theorem q3_1111 : q3 [1, 1, 1, 1] = .seq (q3 [1, 1, 1, 1, 0]) (q3 [1, 1, 1, 1, 1]) := by kernel_rfl
theorem q3_11110 : q3 [1, 1, 1, 1, 0] = .seq (q3 [1, 1, 1, 1, 0, 0]) (q3 [1, 1, 1, 1, 0, 1]) := by kernel_rfl
theorem q3_111100 : q3 [1, 1, 1, 1, 0, 0] = .region 5 (opsA (q3 [1, 1, 1, 1, 0, 0])) false := by kernel_rfl
theorem q3_111101 : q3 [1, 1, 1, 1, 0, 1] = .block 0 (q3 [1, 1, 1, 1, 0, 1, 2]) := by kernel_rfl
theorem q3_1111012 : q3 [1, 1, 1, 1, 0, 1, 2] = .loop (q3 [1, 1, 1, 1, 0, 1, 2, 2]) := by kernel_rfl
theorem q3_11110122 : q3 [1, 1, 1, 1, 0, 1, 2, 2] = .seq (q3 [1, 1, 1, 1, 0, 1, 2, 2, 0]) (q3 [1, 1, 1, 1, 0, 1, 2, 2, 1]) := by kernel_rfl
theorem q3_111101220 : q3 [1, 1, 1, 1, 0, 1, 2, 2, 0] = .seq (q3 [1, 1, 1, 1, 0, 1, 2, 2, 0, 0]) (q3 [1, 1, 1, 1, 0, 1, 2, 2, 0, 1]) := by kernel_rfl
theorem q3_1111012200 : q3 [1, 1, 1, 1, 0, 1, 2, 2, 0, 0] = .region 6 (opsA (q3 [1, 1, 1, 1, 0, 1, 2, 2, 0, 0])) false := by kernel_rfl
theorem q3_1111012201 : q3 [1, 1, 1, 1, 0, 1, 2, 2, 0, 1] = .cond (.tmp 22) (q3 [1, 1, 1, 1, 0, 1, 2, 2, 0, 1, 3]) (q3 [1, 1, 1, 1, 0, 1, 2, 2, 0, 1, 4]) := by kernel_rfl
theorem q3_11110122013 : q3 [1, 1, 1, 1, 0, 1, 2, 2, 0, 1, 3] = .skip := by kernel_rfl
theorem q3_11110122014 : q3 [1, 1, 1, 1, 0, 1, 2, 2, 0, 1, 4] = .exit 0 := by kernel_rfl
theorem q3_111101221 : q3 [1, 1, 1, 1, 0, 1, 2, 2, 1] = .seq (q3 [1, 1, 1, 1, 0, 1, 2, 2, 1, 0]) (q3 [1, 1, 1, 1, 0, 1, 2, 2, 1, 1]) := by kernel_rfl
theorem q3_1111012210 : q3 [1, 1, 1, 1, 0, 1, 2, 2, 1, 0] = .block 1 (q3 [1, 1, 1, 1, 0, 1, 2, 2, 1, 0, 2]) := by kernel_rfl
theorem q3_11110122102 : q3 [1, 1, 1, 1, 0, 1, 2, 2, 1, 0, 2] = .seq (q3 [1, 1, 1, 1, 0, 1, 2, 2, 1, 0, 2, 0]) (q3 [1, 1, 1, 1, 0, 1, 2, 2, 1, 0, 2, 1]) := by kernel_rfl
theorem q3_111101221020 : q3 [1, 1, 1, 1, 0, 1, 2, 2, 1, 0, 2, 0] = .region 8 (opsA (q3 [1, 1, 1, 1, 0, 1, 2, 2, 1, 0, 2, 0])) true := by kernel_rfl
theorem q3_111101221021 : q3 [1, 1, 1, 1, 0, 1, 2, 2, 1, 0, 2, 1] = .seq (q3 [1, 1, 1, 1, 0, 1, 2, 2, 1, 0, 2, 1, 0]) (q3 [1, 1, 1, 1, 0, 1, 2, 2, 1, 0, 2, 1, 1]) := by kernel_rfl
theorem q3_1111012210210 : q3 [1, 1, 1, 1, 0, 1, 2, 2, 1, 0, 2, 1, 0] = .region 9 (opsA (q3 [1, 1, 1, 1, 0, 1, 2, 2, 1, 0, 2, 1, 0])) true := by kernel_rfl
theorem q3_1111012210211 : q3 [1, 1, 1, 1, 0, 1, 2, 2, 1, 0, 2, 1, 1] = .seq (q3 [1, 1, 1, 1, 0, 1, 2, 2, 1, 0, 2, 1, 1, 0]) (q3 [1, 1, 1, 1, 0, 1, 2, 2, 1, 0, 2, 1, 1, 1]) := by kernel_rfl
theorem q3_11110122102110 : q3 [1, 1, 1, 1, 0, 1, 2, 2, 1, 0, 2, 1, 1, 0] = .region 10 (opsA (q3 [1, 1, 1, 1, 0, 1, 2, 2, 1, 0, 2, 1, 1, 0])) true := by kernel_rfl
theorem q3_11110122102111 : q3 [1, 1, 1, 1, 0, 1, 2, 2, 1, 0, 2, 1, 1, 1] = .seq (q3 [1, 1, 1, 1, 0, 1, 2, 2, 1, 0, 2, 1, 1, 1, 0]) (q3 [1, 1, 1, 1, 0, 1, 2, 2, 1, 0, 2, 1, 1, 1, 1]) := by kernel_rfl
theorem q3_111101221021110 : q3 [1, 1, 1, 1, 0, 1, 2, 2, 1, 0, 2, 1, 1, 1, 0] = .region 11 (opsA (q3 [1, 1, 1, 1, 0, 1, 2, 2, 1, 0, 2, 1, 1, 1, 0])) true := by kernel_rfl
theorem q3_111101221021111 : q3 [1, 1, 1, 1, 0, 1, 2, 2, 1, 0, 2, 1, 1, 1, 1] = .cond (.tmp 104) (q3 [1, 1, 1, 1, 0, 1, 2, 2, 1, 0, 2, 1, 1, 1, 1, 3]) (q3 [1, 1, 1, 1, 0, 1, 2, 2, 1, 0, 2, 1, 1, 1, 1, 4]) := by kernel_rfl
theorem q3_1111012210211113 : q3 [1, 1, 1, 1, 0, 1, 2, 2, 1, 0, 2, 1, 1, 1, 1, 3] = .seq (q3 [1, 1, 1, 1, 0, 1, 2, 2, 1, 0, 2, 1, 1, 1, 1, 3, 0]) (q3 [1, 1, 1, 1, 0, 1, 2, 2, 1, 0, 2, 1, 1, 1, 1, 3, 1]) := by kernel_rfl
theorem q3_11110122102111130 : q3 [1, 1, 1, 1, 0, 1, 2, 2, 1, 0, 2, 1, 1, 1, 1, 3, 0] = .region 12 (opsA (q3 [1, 1, 1, 1, 0, 1, 2, 2, 1, 0, 2, 1, 1, 1, 1, 3, 0])) false := by kernel_rfl
theorem q3_11110122102111131 : q3 [1, 1, 1, 1, 0, 1, 2, 2, 1, 0, 2, 1, 1, 1, 1, 3, 1] = .ret := by kernel_rfl
theorem q3_1111012210211114 : q3 [1, 1, 1, 1, 0, 1, 2, 2, 1, 0, 2, 1, 1, 1, 1, 4] = .skip := by kernel_rfl
theorem q3_1111012211 : q3 [1, 1, 1, 1, 0, 1, 2, 2, 1, 1] = .region 7 (opsA (q3 [1, 1, 1, 1, 0, 1, 2, 2, 1, 1])) false := by kernel_rfl
theorem q3_11111 : q3 [1, 1, 1, 1, 1] = .seq (q3 [1, 1, 1, 1, 1, 0]) (q3 [1, 1, 1, 1, 1, 1]) := by kernel_rfl
theorem q3_111110 : q3 [1, 1, 1, 1, 1, 0] = .region 13 (opsA (q3 [1, 1, 1, 1, 1, 0])) false := by kernel_rfl
theorem q3_111111 : q3 [1, 1, 1, 1, 1, 1] = .ret := by kernel_rfl
noncomputable def q4 (p : List Nat) : Code := piece p (bodyOf Tryz.f4)
theorem q4_ : q4 [] = .seq (q4 [0]) (q4 [1]) := by kernel_rfl
theorem q4_0 : q4 [0] = .region 0 (opsA (q4 [0])) false := by kernel_rfl
theorem q4_1 : q4 [1] = .seq (q4 [1, 0]) (q4 [1, 1]) := by kernel_rfl
theorem q4_10 : q4 [1, 0] = .seq (q4 [1, 0, 0]) (q4 [1, 0, 1]) := by kernel_rfl
theorem q4_100 : q4 [1, 0, 0] = .region 1 (opsA (q4 [1, 0, 0])) false := by kernel_rfl
theorem q4_101 : q4 [1, 0, 1] = .block 0 (q4 [1, 0, 1, 2]) := by kernel_rfl
theorem q4_1012 : q4 [1, 0, 1, 2] = .loop (q4 [1, 0, 1, 2, 2]) := by kernel_rfl
theorem q4_10122 : q4 [1, 0, 1, 2, 2] = .seq (q4 [1, 0, 1, 2, 2, 0]) (q4 [1, 0, 1, 2, 2, 1]) := by kernel_rfl
theorem q4_101220 : q4 [1, 0, 1, 2, 2, 0] = .seq (q4 [1, 0, 1, 2, 2, 0, 0]) (q4 [1, 0, 1, 2, 2, 0, 1]) := by kernel_rfl
theorem q4_1012200 : q4 [1, 0, 1, 2, 2, 0, 0] = .region 2 (opsA (q4 [1, 0, 1, 2, 2, 0, 0])) false := by kernel_rfl
theorem q4_1012201 : q4 [1, 0, 1, 2, 2, 0, 1] = .cond (.tmp 11) (q4 [1, 0, 1, 2, 2, 0, 1, 3]) (q4 [1, 0, 1, 2, 2, 0, 1, 4]) := by kernel_rfl
theorem q4_10122013 : q4 [1, 0, 1, 2, 2, 0, 1, 3] = .skip := by kernel_rfl
theorem q4_10122014 : q4 [1, 0, 1, 2, 2, 0, 1, 4] = .exit 0 := by kernel_rfl
theorem q4_101221 : q4 [1, 0, 1, 2, 2, 1] = .seq (q4 [1, 0, 1, 2, 2, 1, 0]) (q4 [1, 0, 1, 2, 2, 1, 1]) := by kernel_rfl
theorem q4_1012210 : q4 [1, 0, 1, 2, 2, 1, 0] = .block 1 (q4 [1, 0, 1, 2, 2, 1, 0, 2]) := by kernel_rfl
theorem q4_10122102 : q4 [1, 0, 1, 2, 2, 1, 0, 2] = .seq (q4 [1, 0, 1, 2, 2, 1, 0, 2, 0]) (q4 [1, 0, 1, 2, 2, 1, 0, 2, 1]) := by kernel_rfl
theorem q4_101221020 : q4 [1, 0, 1, 2, 2, 1, 0, 2, 0] = .region 4 (opsA (q4 [1, 0, 1, 2, 2, 1, 0, 2, 0])) false := by kernel_rfl
theorem q4_101221021 : q4 [1, 0, 1, 2, 2, 1, 0, 2, 1] = .cond (.tmp 20) (q4 [1, 0, 1, 2, 2, 1, 0, 2, 1, 3]) (q4 [1, 0, 1, 2, 2, 1, 0, 2, 1, 4]) := by kernel_rfl
theorem q4_1012210213 : q4 [1, 0, 1, 2, 2, 1, 0, 2, 1, 3] = .seq (q4 [1, 0, 1, 2, 2, 1, 0, 2, 1, 3, 0]) (q4 [1, 0, 1, 2, 2, 1, 0, 2, 1, 3, 1]) := by kernel_rfl
theorem q4_10122102130 : q4 [1, 0, 1, 2, 2, 1, 0, 2, 1, 3, 0] = .region 5 (opsA (q4 [1, 0, 1, 2, 2, 1, 0, 2, 1, 3, 0])) false := by kernel_rfl
theorem q4_10122102131 : q4 [1, 0, 1, 2, 2, 1, 0, 2, 1, 3, 1] = .ret := by kernel_rfl
theorem q4_1012210214 : q4 [1, 0, 1, 2, 2, 1, 0, 2, 1, 4] = .skip := by kernel_rfl
theorem q4_1012211 : q4 [1, 0, 1, 2, 2, 1, 1] = .region 3 (opsA (q4 [1, 0, 1, 2, 2, 1, 1])) false := by kernel_rfl
theorem q4_11 : q4 [1, 1] = .seq (q4 [1, 1, 0]) (q4 [1, 1, 1]) := by kernel_rfl
theorem q4_110 : q4 [1, 1, 0] = .region 6 (opsA (q4 [1, 1, 0])) false := by kernel_rfl
theorem q4_111 : q4 [1, 1, 1] = .ret := by kernel_rfl
theorem rs3 : Tryz.f3.results.toList = [.tmp 2] := rfl
theorem rs4 : Tryz.f4.results.toList = [.tmp 2] := rfl
attribute [go_sem] rs3 rs4
def actL (k a m : Int) (s : List UInt8) (x0 x1 x2 x3 x4 x5 x6 x7 x8 x9 x10 x11 x12 x13 x14 x15 : Int) : List C := [.int .u8 k, .int .i64 a, .int .i64 m, .str s, .int .u8 x0, .int .i64 x1, .int .u32 x2, .int .i64 x3, .int .u32 x4, .int .u32 x5, .int .u32 x6, .int .u32 x7, .int .u32 x8, .int .u32 x9, .int .u32 x10, .int .u32 x11, .int .u32 x12, .int .u32 x13, .int .u32 x14, .int .u32 x15]
section
variable (Hh : Hearts K Tryz.prog)
include Hh
theorem greatShort (h : Go.Ev.H) (n : Nat) (k a m : Int) (s : List UInt8) (x0 x1 x2 x3 x4 x5 x6 x7 x8 x9 x10 x11 x12 x13 x14 x15 : Int) (hs : s.length ≤ 500) (hg : h.get n = some (.row 20 [actL k a m s x0 x1 x2 x3 x4 x5 x6 x7 x8 x9 x10 x11 x12 x13 x14 x15] false)) : CallOk K Tryz.prog 4 [.c (.slice n 0 1 20)] h (.w (.c (.bool false))) h := by
  have fl1 : lenFits K 29 (.c (.slice n 0 1 20)) = true := by kernel_rfl
  have fl2 : lenFits K 9 (.c (.str s)) = true := by kernel_rfl
  refine CallOk.goes fits Hh (by kernel_rfl) (by kernel_rfl) (by kernel_rfl) (show Tryz.f4.body = some (q4 []) by kernel_rfl) rfl ?_
  show Goes K Tryz.prog 24 none _ _ _ _ _
  show Goes K Tryz.prog 24 none (q4 []) _ _ _ _
  rw [q4_]
  refine Goes.seq ?_
  show Goes K Tryz.prog 24 none (q4 [0]) _ _ _ _
  rw [q4_0]
  refine Goes.ops2 fits Hh E0_sound (by
    simp (config := { maxSteps := 1000000 }) (decide := true) (discharger := first | omega | (simp only [H.next_new, H.next_put] <;> omega) | decide) only [go_sem, q4, Tryz.f4, readRow, fillStruct, fillPart, partOf, opField, binG, List.set_cons_zero, List.set_cons_succ, List.take_succ_cons, List.drop_succ_cons, List.take_zero, List.drop_zero, List.take_nil, List.drop_nil, List.cons_append, List.singleton_append, loadIn, storeIn, reduceIte, Nat.reduceAdd, Nat.reduceMul, Nat.reduceSub, Nat.reduceDiv, Nat.reduceMod, Nat.reduceLT, Nat.reduceBEq, Int.reduceToNat, fl1, fl2, hg, actL, opBuiltin, opLen, read1]
    rfl) ?_
  show Goes K Tryz.prog 24 none (q4 [1]) _ _ _ _
  rw [q4_1]
  refine Goes.seq ?_
  show Goes K Tryz.prog 24 none (q4 [1, 0]) _ _ _ _
  rw [q4_10]
  refine Goes.seq ?_
  show Goes K Tryz.prog 24 none (q4 [1, 0, 0]) _ _ _ _
  rw [q4_100]
  refine Goes.ops2 fits Hh E0_sound (by
    simp (config := { maxSteps := 1000000 }) (decide := true) (discharger := first | omega | (simp only [H.next_new, H.next_put] <;> omega) | decide) only [go_sem, q4, Tryz.f4, readRow, fillStruct, fillPart, partOf, opField, binG, List.set_cons_zero, List.set_cons_succ, List.take_succ_cons, List.drop_succ_cons, List.take_zero, List.drop_zero, List.take_nil, List.drop_nil, List.cons_append, List.singleton_append, loadIn, storeIn, reduceIte, Nat.reduceAdd, Nat.reduceMul, Nat.reduceSub, Nat.reduceDiv, Nat.reduceMod, Nat.reduceLT, Nat.reduceBEq, Int.reduceToNat, fl1, fl2, hg, actL, opBuiltin, opLen, read1]
    rfl) ?_
  show Goes K Tryz.prog 24 none (q4 [1, 0, 1]) _ _ _ _
  rw [q4_101]
  refine Goes.block ?_
  show Goes K Tryz.prog 24 none (q4 [1, 0, 1, 2]) _ _ _ _
  rw [q4_1012]
  refine Goes.loop ?_
  show Goes K Tryz.prog 24 none (q4 [1, 0, 1, 2, 2]) _ _ _ _
  rw [q4_10122]
  refine Goes.seq ?_
  show Goes K Tryz.prog 24 none (q4 [1, 0, 1, 2, 2, 0]) _ _ _ _
  rw [q4_101220]
  refine Goes.seq ?_
  show Goes K Tryz.prog 24 none (q4 [1, 0, 1, 2, 2, 0, 0]) _ _ _ _
  rw [q4_1012200]
  refine Goes.ops2 fits Hh E0_sound (by
    simp (config := { maxSteps := 1000000 }) (decide := true) (discharger := first | omega | (simp only [H.next_new, H.next_put] <;> omega) | decide) only [go_sem, q4, Tryz.f4, readRow, fillStruct, fillPart, partOf, opField, binG, List.set_cons_zero, List.set_cons_succ, List.take_succ_cons, List.drop_succ_cons, List.take_zero, List.drop_zero, List.take_nil, List.drop_nil, List.cons_append, List.singleton_append, loadIn, storeIn, reduceIte, Nat.reduceAdd, Nat.reduceMul, Nat.reduceSub, Nat.reduceDiv, Nat.reduceMod, Nat.reduceLT, Nat.reduceBEq, Int.reduceToNat, fl1, fl2, hg, actL, opBuiltin, opLen, read1]
    rfl) ?_
  show Goes K Tryz.prog 24 none (q4 [1, 0, 1, 2, 2, 0, 1]) _ _ _ _
  rw [q4_1012201]
  refine Goes.condA (by simp (config := { maxSteps := 1000000 }) (decide := true) (discharger := first | omega | (simp only [H.next_new, H.next_put] <;> omega) | decide) only [go_sem, readRow, fillStruct, fillPart, partOf, opField, binG, List.set_cons_zero, List.set_cons_succ, List.take_succ_cons, List.drop_succ_cons, List.take_zero, List.drop_zero, List.take_nil, List.drop_nil, List.cons_append, List.singleton_append, loadIn, storeIn, reduceIte, Nat.reduceAdd, Nat.reduceMul, Nat.reduceSub, Nat.reduceDiv, Nat.reduceMod, Nat.reduceLT, Nat.reduceBEq, Int.reduceToNat, fl1, fl2, hg, actL, opBuiltin, opLen, read1] <;> rfl) (by first | rfl | assumption | exact decide_eq_true (by omega) | (simp; omega)) ?_
  show Goes K Tryz.prog 24 none (q4 [1, 0, 1, 2, 2, 0, 1, 3]) _ _ _ _
  rw [q4_10122013]
  refine Goes.skip ?_
  show Goes K Tryz.prog 24 none (q4 [1, 0, 1, 2, 2, 1]) _ _ _ _
  rw [q4_101221]
  refine Goes.seq ?_
  show Goes K Tryz.prog 24 none (q4 [1, 0, 1, 2, 2, 1, 0]) _ _ _ _
  rw [q4_1012210]
  refine Goes.block ?_
  show Goes K Tryz.prog 24 none (q4 [1, 0, 1, 2, 2, 1, 0, 2]) _ _ _ _
  rw [q4_10122102]
  refine Goes.seq ?_
  show Goes K Tryz.prog 24 none (q4 [1, 0, 1, 2, 2, 1, 0, 2, 0]) _ _ _ _
  rw [q4_101221020]
  refine Goes.ops2 fits Hh E0_sound (by
    simp (config := { maxSteps := 1000000 }) (decide := true) (discharger := first | omega | (simp only [H.next_new, H.next_put] <;> omega) | decide) only [go_sem, q4, Tryz.f4, readRow, fillStruct, fillPart, partOf, opField, binG, List.set_cons_zero, List.set_cons_succ, List.take_succ_cons, List.drop_succ_cons, List.take_zero, List.drop_zero, List.take_nil, List.drop_nil, List.cons_append, List.singleton_append, loadIn, storeIn, reduceIte, Nat.reduceAdd, Nat.reduceMul, Nat.reduceSub, Nat.reduceDiv, Nat.reduceMod, Nat.reduceLT, Nat.reduceBEq, Int.reduceToNat, fl1, fl2, hg, actL, opBuiltin, opLen, read1]
    rfl) ?_
  show Goes K Tryz.prog 24 none (q4 [1, 0, 1, 2, 2, 1, 0, 2, 1]) _ _ _ _
  rw [q4_101221021]
  refine Goes.condE (by simp (config := { maxSteps := 1000000 }) (decide := true) (discharger := first | omega | (simp only [H.next_new, H.next_put] <;> omega) | decide) only [go_sem, readRow, fillStruct, fillPart, partOf, opField, binG, List.set_cons_zero, List.set_cons_succ, List.take_succ_cons, List.drop_succ_cons, List.take_zero, List.drop_zero, List.take_nil, List.drop_nil, List.cons_append, List.singleton_append, loadIn, storeIn, reduceIte, Nat.reduceAdd, Nat.reduceMul, Nat.reduceSub, Nat.reduceDiv, Nat.reduceMod, Nat.reduceLT, Nat.reduceBEq, Int.reduceToNat, fl1, fl2, hg, actL, opBuiltin, opLen, read1] <;> rfl) (by first | rfl | assumption | exact decide_eq_false (by omega) | (simp; omega)) ?_
  show Goes K Tryz.prog 24 none (q4 [1, 0, 1, 2, 2, 1, 0, 2, 1, 4]) _ _ _ _
  rw [q4_1012210214]
  refine Goes.skip ?_
  show Goes K Tryz.prog 24 none (q4 [1, 0, 1, 2, 2, 1, 1]) _ _ _ _
  rw [q4_1012211]
  refine Goes.ops2 fits Hh E0_sound (by
    simp (config := { maxSteps := 1000000 }) (decide := true) (discharger := first | omega | (simp only [H.next_new, H.next_put] <;> omega) | decide) only [go_sem, q4, Tryz.f4, readRow, fillStruct, fillPart, partOf, opField, binG, List.set_cons_zero, List.set_cons_succ, List.take_succ_cons, List.drop_succ_cons, List.take_zero, List.drop_zero, List.take_nil, List.drop_nil, List.cons_append, List.singleton_append, loadIn, storeIn, reduceIte, Nat.reduceAdd, Nat.reduceMul, Nat.reduceSub, Nat.reduceDiv, Nat.reduceMod, Nat.reduceLT, Nat.reduceBEq, Int.reduceToNat, fl1, fl2, hg, actL, opBuiltin, opLen, read1]
    rfl) ?_
  show Goes K Tryz.prog 24 none (.loop (q4 [1, 0, 1, 2, 2])) _ _ _ _
  rw [← q4_1012]
  show Goes K Tryz.prog 24 none (q4 [1, 0, 1, 2]) _ _ _ _
  rw [q4_1012]
  refine Goes.loop ?_
  show Goes K Tryz.prog 24 none (q4 [1, 0, 1, 2, 2]) _ _ _ _
  rw [q4_10122]
  refine Goes.seq ?_
  show Goes K Tryz.prog 24 none (q4 [1, 0, 1, 2, 2, 0]) _ _ _ _
  rw [q4_101220]
  refine Goes.seq ?_
  show Goes K Tryz.prog 24 none (q4 [1, 0, 1, 2, 2, 0, 0]) _ _ _ _
  rw [q4_1012200]
  refine Goes.ops2 fits Hh E0_sound (by
    simp (config := { maxSteps := 1000000 }) (decide := true) (discharger := first | omega | (simp only [H.next_new, H.next_put] <;> omega) | decide) only [go_sem, q4, Tryz.f4, readRow, fillStruct, fillPart, partOf, opField, binG, List.set_cons_zero, List.set_cons_succ, List.take_succ_cons, List.drop_succ_cons, List.take_zero, List.drop_zero, List.take_nil, List.drop_nil, List.cons_append, List.singleton_append, loadIn, storeIn, reduceIte, Nat.reduceAdd, Nat.reduceMul, Nat.reduceSub, Nat.reduceDiv, Nat.reduceMod, Nat.reduceLT, Nat.reduceBEq, Int.reduceToNat, fl1, opBuiltin, opLen]
    rfl) ?_
  show Goes K Tryz.prog 24 none (q4 [1, 0, 1, 2, 2, 0, 1]) _ _ _ _
  rw [q4_1012201]
  refine Goes.condE (by simp (config := { maxSteps := 1000000 }) (decide := true) (discharger := first | omega | (simp only [H.next_new, H.next_put] <;> omega) | decide) only [go_sem, readRow, fillStruct, fillPart, partOf, opField, binG, List.set_cons_zero, List.set_cons_succ, List.take_succ_cons, List.drop_succ_cons, List.take_zero, List.drop_zero, List.take_nil, List.drop_nil, List.cons_append, List.singleton_append, loadIn, storeIn, reduceIte, Nat.reduceAdd, Nat.reduceMul, Nat.reduceSub, Nat.reduceDiv, Nat.reduceMod, Nat.reduceLT, Nat.reduceBEq, Int.reduceToNat, fl1, opBuiltin, opLen] <;> rfl) (by first | rfl | assumption | exact decide_eq_false (by omega) | (simp; omega)) ?_
  show Goes K Tryz.prog 24 none (q4 [1, 0, 1, 2, 2, 0, 1, 4]) _ _ _ _
  rw [q4_10122014]
  refine Goes.exit ?_
  show Goes K Tryz.prog 24 none (q4 [1, 1]) _ _ _ _
  rw [q4_11]
  refine Goes.seq ?_
  show Goes K Tryz.prog 24 none (q4 [1, 1, 0]) _ _ _ _
  rw [q4_110]
  refine Goes.ops2 fits Hh E0_sound (by
    simp (config := { maxSteps := 1000000 }) (decide := true) (discharger := first | omega | (simp only [H.next_new, H.next_put] <;> omega) | decide) only [go_sem, q4, Tryz.f4, readRow, fillStruct, fillPart, partOf, opField, binG, List.set_cons_zero, List.set_cons_succ, List.take_succ_cons, List.drop_succ_cons, List.take_zero, List.drop_zero, List.take_nil, List.drop_nil, List.cons_append, List.singleton_append, loadIn, storeIn, reduceIte, Nat.reduceAdd, Nat.reduceMul, Nat.reduceSub, Nat.reduceDiv, Nat.reduceMod, Nat.reduceLT, Nat.reduceBEq, Int.reduceToNat, fl1, opBuiltin, opLen]
    rfl) ?_
  show Goes K Tryz.prog 24 none (q4 [1, 1, 1]) _ _ _ _
  rw [q4_111]
  refine Goes.ret ?_
  simp (config := { maxSteps := 1000000 }) (decide := true) (discharger := first | omega | (simp only [H.next_new, H.next_put] <;> omega) | decide) only [go_sem, readRow, fillStruct, fillPart, partOf, opField, binG, List.set_cons_zero, List.set_cons_succ, List.take_succ_cons, List.drop_succ_cons, List.take_zero, List.drop_zero, List.take_nil, List.drop_nil, List.cons_append, List.singleton_append, loadIn, storeIn, reduceIte, Nat.reduceAdd, Nat.reduceMul, Nat.reduceSub, Nat.reduceDiv, Nat.reduceMod, Nat.reduceLT, Nat.reduceBEq, Int.reduceToNat, fl1, opBuiltin, opLen] <;> rfl
theorem greatLong (h : Go.Ev.H) (n : Nat) (k a m : Int) (s : List UInt8) (x0 x1 x2 x3 x4 x5 x6 x7 x8 x9 x10 x11 x12 x13 x14 x15 : Int) (hs : 500 < s.length) (hg : h.get n = some (.row 20 [actL k a m s x0 x1 x2 x3 x4 x5 x6 x7 x8 x9 x10 x11 x12 x13 x14 x15] false)) : CallOk K Tryz.prog 4 [.c (.slice n 0 1 20)] h (.w (.c (.bool true))) h := by
  have fl1 : lenFits K 29 (.c (.slice n 0 1 20)) = true := by kernel_rfl
  have fl2 : lenFits K 9 (.c (.str s)) = true := by kernel_rfl
  refine CallOk.goes fits Hh (by kernel_rfl) (by kernel_rfl) (by kernel_rfl) (show Tryz.f4.body = some (q4 []) by kernel_rfl) rfl ?_
  show Goes K Tryz.prog 24 none _ _ _ _ _
  show Goes K Tryz.prog 24 none (q4 []) _ _ _ _
  rw [q4_]
  refine Goes.seq ?_
  show Goes K Tryz.prog 24 none (q4 [0]) _ _ _ _
  rw [q4_0]
  refine Goes.ops2 fits Hh E0_sound (by
    simp (config := { maxSteps := 1000000 }) (decide := true) (discharger := first | omega | (simp only [H.next_new, H.next_put] <;> omega) | decide) only [go_sem, q4, Tryz.f4, readRow, fillStruct, fillPart, partOf, opField, binG, List.set_cons_zero, List.set_cons_succ, List.take_succ_cons, List.drop_succ_cons, List.take_zero, List.drop_zero, List.take_nil, List.drop_nil, List.cons_append, List.singleton_append, loadIn, storeIn, reduceIte, Nat.reduceAdd, Nat.reduceMul, Nat.reduceSub, Nat.reduceDiv, Nat.reduceMod, Nat.reduceLT, Nat.reduceBEq, Int.reduceToNat, fl1, fl2, hg, actL, opBuiltin, opLen, read1]
    rfl) ?_
  show Goes K Tryz.prog 24 none (q4 [1]) _ _ _ _
  rw [q4_1]
  refine Goes.seq ?_
  show Goes K Tryz.prog 24 none (q4 [1, 0]) _ _ _ _
  rw [q4_10]
  refine Goes.seq ?_
  show Goes K Tryz.prog 24 none (q4 [1, 0, 0]) _ _ _ _
  rw [q4_100]
  refine Goes.ops2 fits Hh E0_sound (by
    simp (config := { maxSteps := 1000000 }) (decide := true) (discharger := first | omega | (simp only [H.next_new, H.next_put] <;> omega) | decide) only [go_sem, q4, Tryz.f4, readRow, fillStruct, fillPart, partOf, opField, binG, List.set_cons_zero, List.set_cons_succ, List.take_succ_cons, List.drop_succ_cons, List.take_zero, List.drop_zero, List.take_nil, List.drop_nil, List.cons_append, List.singleton_append, loadIn, storeIn, reduceIte, Nat.reduceAdd, Nat.reduceMul, Nat.reduceSub, Nat.reduceDiv, Nat.reduceMod, Nat.reduceLT, Nat.reduceBEq, Int.reduceToNat, fl1, fl2, hg, actL, opBuiltin, opLen, read1]
    rfl) ?_
  show Goes K Tryz.prog 24 none (q4 [1, 0, 1]) _ _ _ _
  rw [q4_101]
  refine Goes.block ?_
  show Goes K Tryz.prog 24 none (q4 [1, 0, 1, 2]) _ _ _ _
  rw [q4_1012]
  refine Goes.loop ?_
  show Goes K Tryz.prog 24 none (q4 [1, 0, 1, 2, 2]) _ _ _ _
  rw [q4_10122]
  refine Goes.seq ?_
  show Goes K Tryz.prog 24 none (q4 [1, 0, 1, 2, 2, 0]) _ _ _ _
  rw [q4_101220]
  refine Goes.seq ?_
  show Goes K Tryz.prog 24 none (q4 [1, 0, 1, 2, 2, 0, 0]) _ _ _ _
  rw [q4_1012200]
  refine Goes.ops2 fits Hh E0_sound (by
    simp (config := { maxSteps := 1000000 }) (decide := true) (discharger := first | omega | (simp only [H.next_new, H.next_put] <;> omega) | decide) only [go_sem, q4, Tryz.f4, readRow, fillStruct, fillPart, partOf, opField, binG, List.set_cons_zero, List.set_cons_succ, List.take_succ_cons, List.drop_succ_cons, List.take_zero, List.drop_zero, List.take_nil, List.drop_nil, List.cons_append, List.singleton_append, loadIn, storeIn, reduceIte, Nat.reduceAdd, Nat.reduceMul, Nat.reduceSub, Nat.reduceDiv, Nat.reduceMod, Nat.reduceLT, Nat.reduceBEq, Int.reduceToNat, fl1, fl2, hg, actL, opBuiltin, opLen, read1]
    rfl) ?_
  show Goes K Tryz.prog 24 none (q4 [1, 0, 1, 2, 2, 0, 1]) _ _ _ _
  rw [q4_1012201]
  refine Goes.condA (by simp (config := { maxSteps := 1000000 }) (decide := true) (discharger := first | omega | (simp only [H.next_new, H.next_put] <;> omega) | decide) only [go_sem, readRow, fillStruct, fillPart, partOf, opField, binG, List.set_cons_zero, List.set_cons_succ, List.take_succ_cons, List.drop_succ_cons, List.take_zero, List.drop_zero, List.take_nil, List.drop_nil, List.cons_append, List.singleton_append, loadIn, storeIn, reduceIte, Nat.reduceAdd, Nat.reduceMul, Nat.reduceSub, Nat.reduceDiv, Nat.reduceMod, Nat.reduceLT, Nat.reduceBEq, Int.reduceToNat, fl1, fl2, hg, actL, opBuiltin, opLen, read1] <;> rfl) (by first | rfl | assumption | exact decide_eq_true (by omega) | (simp; omega)) ?_
  show Goes K Tryz.prog 24 none (q4 [1, 0, 1, 2, 2, 0, 1, 3]) _ _ _ _
  rw [q4_10122013]
  refine Goes.skip ?_
  show Goes K Tryz.prog 24 none (q4 [1, 0, 1, 2, 2, 1]) _ _ _ _
  rw [q4_101221]
  refine Goes.seq ?_
  show Goes K Tryz.prog 24 none (q4 [1, 0, 1, 2, 2, 1, 0]) _ _ _ _
  rw [q4_1012210]
  refine Goes.block ?_
  show Goes K Tryz.prog 24 none (q4 [1, 0, 1, 2, 2, 1, 0, 2]) _ _ _ _
  rw [q4_10122102]
  refine Goes.seq ?_
  show Goes K Tryz.prog 24 none (q4 [1, 0, 1, 2, 2, 1, 0, 2, 0]) _ _ _ _
  rw [q4_101221020]
  refine Goes.ops2 fits Hh E0_sound (by
    simp (config := { maxSteps := 1000000 }) (decide := true) (discharger := first | omega | (simp only [H.next_new, H.next_put] <;> omega) | decide) only [go_sem, q4, Tryz.f4, readRow, fillStruct, fillPart, partOf, opField, binG, List.set_cons_zero, List.set_cons_succ, List.take_succ_cons, List.drop_succ_cons, List.take_zero, List.drop_zero, List.take_nil, List.drop_nil, List.cons_append, List.singleton_append, loadIn, storeIn, reduceIte, Nat.reduceAdd, Nat.reduceMul, Nat.reduceSub, Nat.reduceDiv, Nat.reduceMod, Nat.reduceLT, Nat.reduceBEq, Int.reduceToNat, fl1, fl2, hg, actL, opBuiltin, opLen, read1]
    rfl) ?_
  show Goes K Tryz.prog 24 none (q4 [1, 0, 1, 2, 2, 1, 0, 2, 1]) _ _ _ _
  rw [q4_101221021]
  refine Goes.condA (by simp (config := { maxSteps := 1000000 }) (decide := true) (discharger := first | omega | (simp only [H.next_new, H.next_put] <;> omega) | decide) only [go_sem, readRow, fillStruct, fillPart, partOf, opField, binG, List.set_cons_zero, List.set_cons_succ, List.take_succ_cons, List.drop_succ_cons, List.take_zero, List.drop_zero, List.take_nil, List.drop_nil, List.cons_append, List.singleton_append, loadIn, storeIn, reduceIte, Nat.reduceAdd, Nat.reduceMul, Nat.reduceSub, Nat.reduceDiv, Nat.reduceMod, Nat.reduceLT, Nat.reduceBEq, Int.reduceToNat, fl1, fl2, hg, actL, opBuiltin, opLen, read1] <;> rfl) (by first | rfl | assumption | exact decide_eq_true (by omega) | (simp; omega)) ?_
  show Goes K Tryz.prog 24 none (q4 [1, 0, 1, 2, 2, 1, 0, 2, 1, 3]) _ _ _ _
  rw [q4_1012210213]
  refine Goes.seq ?_
  show Goes K Tryz.prog 24 none (q4 [1, 0, 1, 2, 2, 1, 0, 2, 1, 3, 0]) _ _ _ _
  rw [q4_10122102130]
  refine Goes.ops2 fits Hh E0_sound (by
    simp (config := { maxSteps := 1000000 }) (decide := true) (discharger := first | omega | (simp only [H.next_new, H.next_put] <;> omega) | decide) only [go_sem, q4, Tryz.f4, readRow, fillStruct, fillPart, partOf, opField, binG, List.set_cons_zero, List.set_cons_succ, List.take_succ_cons, List.drop_succ_cons, List.take_zero, List.drop_zero, List.take_nil, List.drop_nil, List.cons_append, List.singleton_append, loadIn, storeIn, reduceIte, Nat.reduceAdd, Nat.reduceMul, Nat.reduceSub, Nat.reduceDiv, Nat.reduceMod, Nat.reduceLT, Nat.reduceBEq, Int.reduceToNat, fl1, fl2, hg, actL, opBuiltin, opLen, read1]
    rfl) ?_
  show Goes K Tryz.prog 24 none (q4 [1, 0, 1, 2, 2, 1, 0, 2, 1, 3, 1]) _ _ _ _
  rw [q4_10122102131]
  refine Goes.ret ?_
  simp (config := { maxSteps := 1000000 }) (decide := true) (discharger := first | omega | (simp only [H.next_new, H.next_put] <;> omega) | decide) only [go_sem, readRow, fillStruct, fillPart, partOf, opField, binG, List.set_cons_zero, List.set_cons_succ, List.take_succ_cons, List.drop_succ_cons, List.take_zero, List.drop_zero, List.take_nil, List.drop_nil, List.cons_append, List.singleton_append, loadIn, storeIn, reduceIte, Nat.reduceAdd, Nat.reduceMul, Nat.reduceSub, Nat.reduceDiv, Nat.reduceMod, Nat.reduceLT, Nat.reduceBEq, Int.reduceToNat, fl1, fl2, hg, actL, opBuiltin, opLen, read1] <;> rfl
theorem lawOk (k a m : Int) (s : List UInt8) (x0 x1 x2 x3 x4 x5 x6 x7 x8 x9 x10 x11 x12 x13 x14 x15 : Int) : ∃ h', CallOk K Tryz.prog 3 [.g (actL k a m s x0 x1 x2 x3 x4 x5 x6 x7 x8 x9 x10 x11 x12 x13 x14 x15)] hBegin (.w (.c (.bool true))) h' := by
  have hbn : hBegin.next = 1 := rfl
  have gt : ((hBegin.new (.row 20 [actL k a m s x0 x1 x2 x3 x4 x5 x6 x7 x8 x9 x10 x11 x12 x13 x14 x15] false)).new (.row 20 [actL k a m s x0 x1 x2 x3 x4 x5 x6 x7 x8 x9 x10 x11 x12 x13 x14 x15] false)).get 2 = some (.row 20 [actL k a m s x0 x1 x2 x3 x4 x5 x6 x7 x8 x9 x10 x11 x12 x13 x14 x15] false) := get_new_self _ _
  obtain ⟨v, h', c, rfl⟩ : ∃ v h', CallOk K Tryz.prog 3 [.g (actL k a m s x0 x1 x2 x3 x4 x5 x6 x7 x8 x9 x10 x11 x12 x13 x14 x15)] hBegin v h' ∧ v = .w (.c (.bool true)) := by
    by_cases hs : s.length ≤ 500
    ·
      have c1 := greatShort Hh _ 2 k a m s x0 x1 x2 x3 x4 x5 x6 x7 x8 x9 x10 x11 x12 x13 x14 x15 hs gt
      refine CallOk.goesE fits Hh (by kernel_rfl) (by kernel_rfl) (by kernel_rfl) (show Tryz.f3.body = some (q3 []) by kernel_rfl) rfl ?_
      show Goes K Tryz.prog 106 none _ _ _ _ _
      show Goes K Tryz.prog 106 none (q3 []) _ _ _ _
      rw [q3_]
      refine Goes.seq ?_
      show Goes K Tryz.prog 106 none (q3 [0]) _ _ _ _
      rw [q3_0]
      refine Goes.ops2 fits Hh E0_sound (by
        simp (config := { maxSteps := 1000000 }) (decide := true) (discharger := first | omega | (simp only [H.next_new, H.next_put] <;> omega) | decide) only [go_sem, q3, Tryz.f3, readRow, fillStruct, fillPart, partOf, opField, binG, List.set_cons_zero, List.set_cons_succ, List.take_succ_cons, List.drop_succ_cons, List.take_zero, List.drop_zero, List.take_nil, List.drop_nil, List.cons_append, List.singleton_append, loadIn, storeIn, reduceIte, Nat.reduceAdd, Nat.reduceMul, Nat.reduceSub, Nat.reduceDiv, Nat.reduceMod, Nat.reduceLT, Nat.reduceBEq, Int.reduceToNat, hbn, actL, opBox, opBuildSlice, fillEls, newSlice, List.replicate_succ, List.replicate_zero, read1]
        rfl) ?_
      show Goes K Tryz.prog 106 none (q3 [1]) _ _ _ _
      rw [q3_1]
      refine Goes.seq ?_
      show Goes K Tryz.prog 106 none (q3 [1, 0]) _ _ _ _
      rw [q3_10]
      refine Goes.seq ?_
      show Goes K Tryz.prog 106 none (q3 [1, 0, 0]) _ _ _ _
      rw [q3_100]
      refine Goes.ops2 fits Hh (E1_sound E0_sound c1) (by
        simp (config := { maxSteps := 1000000 }) (decide := true) (discharger := first | omega | (simp only [H.next_new, H.next_put] <;> omega) | decide) only [go_sem, q3, Tryz.f3, readRow, fillStruct, fillPart, partOf, opField, binG, List.set_cons_zero, List.set_cons_succ, List.take_succ_cons, List.drop_succ_cons, List.take_zero, List.drop_zero, List.take_nil, List.drop_nil, List.cons_append, List.singleton_append, loadIn, storeIn, reduceIte, Nat.reduceAdd, Nat.reduceMul, Nat.reduceSub, Nat.reduceDiv, Nat.reduceMod, Nat.reduceLT, Nat.reduceBEq, Int.reduceToNat, E1_call, hbn, actL, opBox, opBuildSlice, fillEls, newSlice, List.replicate_succ, List.replicate_zero, read1]
        rfl) ?_
      show Goes K Tryz.prog 106 none (q3 [1, 0, 1]) _ _ _ _
      rw [q3_101]
      refine Goes.condE (by simp (config := { maxSteps := 1000000 }) (decide := true) (discharger := first | omega | (simp only [H.next_new, H.next_put] <;> omega) | decide) only [go_sem, readRow, fillStruct, fillPart, partOf, opField, binG, List.set_cons_zero, List.set_cons_succ, List.take_succ_cons, List.drop_succ_cons, List.take_zero, List.drop_zero, List.take_nil, List.drop_nil, List.cons_append, List.singleton_append, loadIn, storeIn, reduceIte, Nat.reduceAdd, Nat.reduceMul, Nat.reduceSub, Nat.reduceDiv, Nat.reduceMod, Nat.reduceLT, Nat.reduceBEq, Int.reduceToNat, hbn, actL, opBox, opBuildSlice, fillEls, newSlice, List.replicate_succ, List.replicate_zero, read1] <;> rfl) (by first | rfl | assumption | exact decide_eq_false (by omega) | (simp; omega)) ?_
      show Goes K Tryz.prog 106 none (q3 [1, 0, 1, 4]) _ _ _ _
      rw [q3_1014]
      refine Goes.skip ?_
      exact Goes.restTrue fits Hh (xawK_ok Hh) (k := 100000) (fn := Tryz.f3) (by kernel_rfl)
    ·
      have c1 := greatLong Hh _ 2 k a m s x0 x1 x2 x3 x4 x5 x6 x7 x8 x9 x10 x11 x12 x13 x14 x15 (by omega) gt
      refine CallOk.goesE fits Hh (by kernel_rfl) (by kernel_rfl) (by kernel_rfl) (show Tryz.f3.body = some (q3 []) by kernel_rfl) rfl ?_
      show Goes K Tryz.prog 106 none _ _ _ _ _
      show Goes K Tryz.prog 106 none (q3 []) _ _ _ _
      rw [q3_]
      refine Goes.seq ?_
      show Goes K Tryz.prog 106 none (q3 [0]) _ _ _ _
      rw [q3_0]
      refine Goes.ops2 fits Hh E0_sound (by
        simp (config := { maxSteps := 1000000 }) (decide := true) (discharger := first | omega | (simp only [H.next_new, H.next_put] <;> omega) | decide) only [go_sem, q3, Tryz.f3, readRow, fillStruct, fillPart, partOf, opField, binG, List.set_cons_zero, List.set_cons_succ, List.take_succ_cons, List.drop_succ_cons, List.take_zero, List.drop_zero, List.take_nil, List.drop_nil, List.cons_append, List.singleton_append, loadIn, storeIn, reduceIte, Nat.reduceAdd, Nat.reduceMul, Nat.reduceSub, Nat.reduceDiv, Nat.reduceMod, Nat.reduceLT, Nat.reduceBEq, Int.reduceToNat, hbn, actL, opBox, opBuildSlice, fillEls, newSlice, List.replicate_succ, List.replicate_zero, read1]
        rfl) ?_
      show Goes K Tryz.prog 106 none (q3 [1]) _ _ _ _
      rw [q3_1]
      refine Goes.seq ?_
      show Goes K Tryz.prog 106 none (q3 [1, 0]) _ _ _ _
      rw [q3_10]
      refine Goes.seq ?_
      show Goes K Tryz.prog 106 none (q3 [1, 0, 0]) _ _ _ _
      rw [q3_100]
      refine Goes.ops2 fits Hh (E1_sound E0_sound c1) (by
        simp (config := { maxSteps := 1000000 }) (decide := true) (discharger := first | omega | (simp only [H.next_new, H.next_put] <;> omega) | decide) only [go_sem, q3, Tryz.f3, readRow, fillStruct, fillPart, partOf, opField, binG, List.set_cons_zero, List.set_cons_succ, List.take_succ_cons, List.drop_succ_cons, List.take_zero, List.drop_zero, List.take_nil, List.drop_nil, List.cons_append, List.singleton_append, loadIn, storeIn, reduceIte, Nat.reduceAdd, Nat.reduceMul, Nat.reduceSub, Nat.reduceDiv, Nat.reduceMod, Nat.reduceLT, Nat.reduceBEq, Int.reduceToNat, E1_call, hbn, actL, opBox, opBuildSlice, fillEls, newSlice, List.replicate_succ, List.replicate_zero, read1]
        rfl) ?_
      show Goes K Tryz.prog 106 none (q3 [1, 0, 1]) _ _ _ _
      rw [q3_101]
      refine Goes.condA (by simp (config := { maxSteps := 1000000 }) (decide := true) (discharger := first | omega | (simp only [H.next_new, H.next_put] <;> omega) | decide) only [go_sem, readRow, fillStruct, fillPart, partOf, opField, binG, List.set_cons_zero, List.set_cons_succ, List.take_succ_cons, List.drop_succ_cons, List.take_zero, List.drop_zero, List.take_nil, List.drop_nil, List.cons_append, List.singleton_append, loadIn, storeIn, reduceIte, Nat.reduceAdd, Nat.reduceMul, Nat.reduceSub, Nat.reduceDiv, Nat.reduceMod, Nat.reduceLT, Nat.reduceBEq, Int.reduceToNat, hbn, actL, opBox, opBuildSlice, fillEls, newSlice, List.replicate_succ, List.replicate_zero, read1] <;> rfl) (by first | rfl | assumption | exact decide_eq_true (by omega) | (simp; omega)) ?_
      show Goes K Tryz.prog 106 none (q3 [1, 0, 1, 3]) _ _ _ _
      rw [q3_1013]
      refine Goes.seq ?_
      show Goes K Tryz.prog 106 none (q3 [1, 0, 1, 3, 0]) _ _ _ _
      rw [q3_10130]
      refine Goes.ops2 fits Hh E0_sound (by
        simp (config := { maxSteps := 1000000 }) (decide := true) (discharger := first | omega | (simp only [H.next_new, H.next_put] <;> omega) | decide) only [go_sem, q3, Tryz.f3, readRow, fillStruct, fillPart, partOf, opField, binG, List.set_cons_zero, List.set_cons_succ, List.take_succ_cons, List.drop_succ_cons, List.take_zero, List.drop_zero, List.take_nil, List.drop_nil, List.cons_append, List.singleton_append, loadIn, storeIn, reduceIte, Nat.reduceAdd, Nat.reduceMul, Nat.reduceSub, Nat.reduceDiv, Nat.reduceMod, Nat.reduceLT, Nat.reduceBEq, Int.reduceToNat, hbn, actL, opBox, opBuildSlice, fillEls, newSlice, List.replicate_succ, List.replicate_zero, read1]
        rfl) ?_
      show Goes K Tryz.prog 106 none (q3 [1, 0, 1, 3, 1]) _ _ _ _
      rw [q3_10131]
      refine Goes.ret ?_
      exact ⟨_, _, (by simp (config := { maxSteps := 1000000 }) (decide := true) (discharger := first | omega | (simp only [H.next_new, H.next_put] <;> omega) | decide) only [go_sem, readRow, fillStruct, fillPart, partOf, opField, binG, List.set_cons_zero, List.set_cons_succ, List.take_succ_cons, List.drop_succ_cons, List.take_zero, List.drop_zero, List.take_nil, List.drop_nil, List.cons_append, List.singleton_append, loadIn, storeIn, reduceIte, Nat.reduceAdd, Nat.reduceMul, Nat.reduceSub, Nat.reduceDiv, Nat.reduceMod, Nat.reduceLT, Nat.reduceBEq, Int.reduceToNat] <;> rfl), rfl⟩
  exact ⟨h', c⟩
end
end Go.Proofs.YtjdbhajhjnfhiaaGreatDoor

