/- geo.What, of a geometry that may be. -/
import Derived.Test.YtpiljmilaelfnaaGreatDoorGeo0
import Derived.Test.YtpiljmilaelfnaaGreatDoorEvC
set_option linter.unusedSimpArgs false
set_option linter.unusedVariables false
set_option linter.unusedSectionVars false
set_option maxRecDepth 100000
namespace Go.Proofs.YtpiljmilaelfnaaGreatDoor
open Go.Ev
theorem ty5 : K.types.get 5 = some ti5 := by kernel_rfl
theorem sz5 : ti5.size = 1 := by rfl
theorem ag5 : ti5.agg = false := by rfl
theorem de5 : ti5.desc = (.int .u8) := by rfl
theorem ze5 : ti5.zero = (.c (.int .u8 0)) := by rfl
theorem by5 : ti5.bytes = 1 := by rfl
theorem ke5 (k : IntKind) (n : Int) : keyT K 20 5 (.c (.int k n)) = true := by kernel_rfl
theorem ty143 : K.types.get 143 = some ti143 := by kernel_rfl
theorem sz143 : ti143.size = 5 := by rfl
theorem ag143 : ti143.agg = true := by rfl
theorem fo143_0 : fieldOf K 143 0 = some (0, ti5) := by kernel_rfl
theorem fo143_1 : fieldOf K 143 1 = some (1, ti3) := by kernel_rfl
theorem fo143_2 : fieldOf K 143 2 = some (2, ti3) := by kernel_rfl
theorem fo143_3 : fieldOf K 143 3 = some (3, ti3) := by kernel_rfl
theorem fo143_4 : fieldOf K 143 4 = some (4, ti3) := by kernel_rfl
theorem bu143 (ps : List (Nat × W)) : opBuild K 143 (some ps) = gW (fillStruct K 143 ps ti143.zero.cells) := by kernel_rfl
theorem ze143 : ti143.zero = (.g ([.int .u8 0, .int .i64 0, .int .i64 0, .int .i64 0, .int .i64 0])) := by rfl
theorem by143 : ti143.bytes = 40 := by rfl
theorem ty173 : K.types.get 173 = some ti173 := by kernel_rfl
theorem sz173 : ti173.size = 15 := by rfl
theorem ag173 : ti173.agg = true := by rfl
theorem de173 : ti173.desc = (.array 3 143) := by rfl
theorem ze173 : ti173.zero = (.g ([.int .u8 0, .int .i64 0, .int .i64 0, .int .i64 0, .int .i64 0, .int .u8 0, .int .i64 0, .int .i64 0, .int .i64 0, .int .i64 0, .int .u8 0, .int .i64 0, .int .i64 0, .int .i64 0, .int .i64 0])) := by rfl
theorem by173 : ti173.bytes = 120 := by rfl
theorem ty174 : K.types.get 174 = some ti174 := by kernel_rfl
theorem sz174 : ti174.size = 20 := by rfl
theorem ag174 : ti174.agg = true := by rfl
theorem de174 : ti174.desc = (.array 4 143) := by rfl
theorem ze174 : ti174.zero = (.g ([.int .u8 0, .int .i64 0, .int .i64 0, .int .i64 0, .int .i64 0, .int .u8 0, .int .i64 0, .int .i64 0, .int .i64 0, .int .i64 0, .int .u8 0, .int .i64 0, .int .i64 0, .int .i64 0, .int .i64 0, .int .u8 0, .int .i64 0, .int .i64 0, .int .i64 0, .int .i64 0])) := by rfl
theorem by174 : ti174.bytes = 160 := by rfl
attribute [go_sem] ty5 sz5 ag5 de5 ze5 by5 ke5 ty143 sz143 ag143 fo143_0 fo143_1 fo143_2 fo143_3 fo143_4 bu143 ze143 by143 ty173 sz173 ag173 de173 ze173 by173 ty174 sz174 ag174 de174 ze174 by174
noncomputable def q50 (p : List Nat) : Code := piece p (bodyOf Tryz.f50)
theorem q50_ : q50 [] = .seq (q50 [0]) (q50 [1]) := by kernel_rfl
theorem q50_0 : q50 [0] = .region 0 (opsA (q50 [0])) false := by kernel_rfl
theorem q50_1 : q50 [1] = .seq (q50 [1,0]) (q50 [1,1]) := by kernel_rfl
theorem q50_10 : q50 [1,0] = .seq (q50 [1,0,0]) (q50 [1,0,1]) := by kernel_rfl
theorem q50_100 : q50 [1,0,0] = .region 1 (opsA (q50 [1,0,0])) false := by kernel_rfl
theorem q50_101 : q50 [1,0,1] = .cond (.tmp 14) (q50 [1,0,1,3]) (q50 [1,0,1,4]) := by kernel_rfl
theorem q50_1013 : q50 [1,0,1,3] = .seq (q50 [1,0,1,3,0]) (q50 [1,0,1,3,1]) := by kernel_rfl
theorem q50_10130 : q50 [1,0,1,3,0] = .region 2 (opsA (q50 [1,0,1,3,0])) false := by kernel_rfl
theorem q50_10131 : q50 [1,0,1,3,1] = .ret := by kernel_rfl
theorem q50_1014 : q50 [1,0,1,4] = .skip := by kernel_rfl
theorem q50_11 : q50 [1,1] = .seq (q50 [1,1,0]) (q50 [1,1,1]) := by kernel_rfl
theorem q50_110 : q50 [1,1,0] = .seq (q50 [1,1,0,0]) (q50 [1,1,0,1]) := by kernel_rfl
theorem q50_1100 : q50 [1,1,0,0] = .region 3 (opsA (q50 [1,1,0,0])) false := by kernel_rfl
theorem q50_1101 : q50 [1,1,0,1] = .block 0 (q50 [1,1,0,1,2]) := by kernel_rfl
theorem q50_11012 : q50 [1,1,0,1,2] = .rangeFunc (.tmp 16) #[17] (q50 [1,1,0,1,2,5]) (q50 [1,1,0,1,2,6]) := by kernel_rfl
theorem q50_110125 : q50 [1,1,0,1,2,5] = .region 4 (opsA (q50 [1,1,0,1,2,5])) false := by kernel_rfl
theorem q50_110126 : q50 [1,1,0,1,2,6] = .block 1 (q50 [1,1,0,1,2,6,2]) := by kernel_rfl
theorem q50_1101262 : q50 [1,1,0,1,2,6,2] = .seq (q50 [1,1,0,1,2,6,2,0]) (q50 [1,1,0,1,2,6,2,1]) := by kernel_rfl
theorem q50_11012620 : q50 [1,1,0,1,2,6,2,0] = .region 5 (opsA (q50 [1,1,0,1,2,6,2,0])) false := by kernel_rfl
theorem q50_11012621 : q50 [1,1,0,1,2,6,2,1] = .cond (.tmp 24) (q50 [1,1,0,1,2,6,2,1,3]) (q50 [1,1,0,1,2,6,2,1,4]) := by kernel_rfl
theorem q50_110126213 : q50 [1,1,0,1,2,6,2,1,3] = .seq (q50 [1,1,0,1,2,6,2,1,3,0]) (q50 [1,1,0,1,2,6,2,1,3,1]) := by kernel_rfl
theorem q50_1101262130 : q50 [1,1,0,1,2,6,2,1,3,0] = .region 6 (opsA (q50 [1,1,0,1,2,6,2,1,3,0])) true := by kernel_rfl
theorem q50_1101262131 : q50 [1,1,0,1,2,6,2,1,3,1] = .ret := by kernel_rfl
theorem q50_110126214 : q50 [1,1,0,1,2,6,2,1,4] = .skip := by kernel_rfl
theorem q50_111 : q50 [1,1,1] = .seq (q50 [1,1,1,0]) (q50 [1,1,1,1]) := by kernel_rfl
theorem q50_1110 : q50 [1,1,1,0] = .region 7 (opsA (q50 [1,1,1,0])) false := by kernel_rfl
theorem q50_1111 : q50 [1,1,1,1] = .ret := by kernel_rfl
noncomputable def q83 (p : List Nat) : Code := piece p (bodyOf Tryz.f83)
theorem q83_ : q83 [] = .seq (q83 [0]) (q83 [1]) := by kernel_rfl
theorem q83_0 : q83 [0] = .region 0 (opsA (q83 [0])) false := by kernel_rfl
theorem q83_1 : q83 [1] = .seq (q83 [1,0]) (q83 [1,1]) := by kernel_rfl
theorem q83_10 : q83 [1,0] = .region 1 (opsA (q83 [1,0])) false := by kernel_rfl
theorem q83_11 : q83 [1,1] = .ret := by kernel_rfl
noncomputable def q108 (p : List Nat) : Code := piece p (bodyOf Tryz.f108)
theorem q108_ : q108 [] = .seq (q108 [0]) (q108 [1]) := by kernel_rfl
theorem q108_0 : q108 [0] = .region 0 (opsA (q108 [0])) false := by kernel_rfl
theorem q108_1 : q108 [1] = .seq (q108 [1,0]) (q108 [1,1]) := by kernel_rfl
theorem q108_10 : q108 [1,0] = .region 1 (opsA (q108 [1,0])) false := by kernel_rfl
theorem q108_11 : q108 [1,1] = .seq (q108 [1,1,0]) (q108 [1,1,1]) := by kernel_rfl
theorem q108_110 : q108 [1,1,0] = .seq (q108 [1,1,0,0]) (q108 [1,1,0,1]) := by kernel_rfl
theorem q108_1100 : q108 [1,1,0,0] = .region 2 (opsA (q108 [1,1,0,0])) false := by kernel_rfl
theorem q108_1101 : q108 [1,1,0,1] = .block 0 (q108 [1,1,0,1,2]) := by kernel_rfl
theorem q108_11012 : q108 [1,1,0,1,2] = .loop (q108 [1,1,0,1,2,2]) := by kernel_rfl
theorem q108_110122 : q108 [1,1,0,1,2,2] = .seq (q108 [1,1,0,1,2,2,0]) (q108 [1,1,0,1,2,2,1]) := by kernel_rfl
theorem q108_1101220 : q108 [1,1,0,1,2,2,0] = .region 3 (opsA (q108 [1,1,0,1,2,2,0])) false := by kernel_rfl
theorem q108_1101221 : q108 [1,1,0,1,2,2,1] = .seq (q108 [1,1,0,1,2,2,1,0]) (q108 [1,1,0,1,2,2,1,1]) := by kernel_rfl
theorem q108_11012210 : q108 [1,1,0,1,2,2,1,0] = .cond (.tmp 23) (q108 [1,1,0,1,2,2,1,0,3]) (q108 [1,1,0,1,2,2,1,0,4]) := by kernel_rfl
theorem q108_110122103 : q108 [1,1,0,1,2,2,1,0,3] = .skip := by kernel_rfl
theorem q108_110122104 : q108 [1,1,0,1,2,2,1,0,4] = .exit 0 := by kernel_rfl
theorem q108_11012211 : q108 [1,1,0,1,2,2,1,1] = .seq (q108 [1,1,0,1,2,2,1,1,0]) (q108 [1,1,0,1,2,2,1,1,1]) := by kernel_rfl
theorem q108_110122110 : q108 [1,1,0,1,2,2,1,1,0] = .block 1 (q108 [1,1,0,1,2,2,1,1,0,2]) := by kernel_rfl
theorem q108_1101221102 : q108 [1,1,0,1,2,2,1,1,0,2] = .seq (q108 [1,1,0,1,2,2,1,1,0,2,0]) (q108 [1,1,0,1,2,2,1,1,0,2,1]) := by kernel_rfl
theorem q108_11012211020 : q108 [1,1,0,1,2,2,1,1,0,2,0] = .region 4 (opsA (q108 [1,1,0,1,2,2,1,1,0,2,0])) false := by kernel_rfl
theorem q108_11012211021 : q108 [1,1,0,1,2,2,1,1,0,2,1] = .seq (q108 [1,1,0,1,2,2,1,1,0,2,1,0]) (q108 [1,1,0,1,2,2,1,1,0,2,1,1]) := by kernel_rfl
theorem q108_110122110210 : q108 [1,1,0,1,2,2,1,1,0,2,1,0] = .region 5 (opsA (q108 [1,1,0,1,2,2,1,1,0,2,1,0])) false := by kernel_rfl
theorem q108_110122110211 : q108 [1,1,0,1,2,2,1,1,0,2,1,1] = .cond (.tmp 28) (q108 [1,1,0,1,2,2,1,1,0,2,1,1,3]) (q108 [1,1,0,1,2,2,1,1,0,2,1,1,4]) := by kernel_rfl
theorem q108_1101221102113 : q108 [1,1,0,1,2,2,1,1,0,2,1,1,3] = .ret := by kernel_rfl
theorem q108_1101221102114 : q108 [1,1,0,1,2,2,1,1,0,2,1,1,4] = .skip := by kernel_rfl
theorem q108_110122111 : q108 [1,1,0,1,2,2,1,1,1] = .region 6 (opsA (q108 [1,1,0,1,2,2,1,1,1])) false := by kernel_rfl
theorem q108_111 : q108 [1,1,1] = .seq (q108 [1,1,1,0]) (q108 [1,1,1,1]) := by kernel_rfl
theorem q108_1110 : q108 [1,1,1,0] = .region 7 (opsA (q108 [1,1,1,0])) false := by kernel_rfl
theorem q108_1111 : q108 [1,1,1,1] = .block 2 (q108 [1,1,1,1,2]) := by kernel_rfl
theorem q108_11112 : q108 [1,1,1,1,2] = .loop (q108 [1,1,1,1,2,2]) := by kernel_rfl
theorem q108_111122 : q108 [1,1,1,1,2,2] = .seq (q108 [1,1,1,1,2,2,0]) (q108 [1,1,1,1,2,2,1]) := by kernel_rfl
theorem q108_1111220 : q108 [1,1,1,1,2,2,0] = .region 8 (opsA (q108 [1,1,1,1,2,2,0])) false := by kernel_rfl
theorem q108_1111221 : q108 [1,1,1,1,2,2,1] = .seq (q108 [1,1,1,1,2,2,1,0]) (q108 [1,1,1,1,2,2,1,1]) := by kernel_rfl
theorem q108_11112210 : q108 [1,1,1,1,2,2,1,0] = .cond (.tmp 33) (q108 [1,1,1,1,2,2,1,0,3]) (q108 [1,1,1,1,2,2,1,0,4]) := by kernel_rfl
theorem q108_111122103 : q108 [1,1,1,1,2,2,1,0,3] = .skip := by kernel_rfl
theorem q108_111122104 : q108 [1,1,1,1,2,2,1,0,4] = .exit 2 := by kernel_rfl
theorem q108_11112211 : q108 [1,1,1,1,2,2,1,1] = .seq (q108 [1,1,1,1,2,2,1,1,0]) (q108 [1,1,1,1,2,2,1,1,1]) := by kernel_rfl
theorem q108_111122110 : q108 [1,1,1,1,2,2,1,1,0] = .block 3 (q108 [1,1,1,1,2,2,1,1,0,2]) := by kernel_rfl
theorem q108_1111221102 : q108 [1,1,1,1,2,2,1,1,0,2] = .seq (q108 [1,1,1,1,2,2,1,1,0,2,0]) (q108 [1,1,1,1,2,2,1,1,0,2,1]) := by kernel_rfl
theorem q108_11112211020 : q108 [1,1,1,1,2,2,1,1,0,2,0] = .region 9 (opsA (q108 [1,1,1,1,2,2,1,1,0,2,0])) false := by kernel_rfl
theorem q108_11112211021 : q108 [1,1,1,1,2,2,1,1,0,2,1] = .seq (q108 [1,1,1,1,2,2,1,1,0,2,1,0]) (q108 [1,1,1,1,2,2,1,1,0,2,1,1]) := by kernel_rfl
theorem q108_111122110210 : q108 [1,1,1,1,2,2,1,1,0,2,1,0] = .region 10 (opsA (q108 [1,1,1,1,2,2,1,1,0,2,1,0])) false := by kernel_rfl
theorem q108_111122110211 : q108 [1,1,1,1,2,2,1,1,0,2,1,1] = .seq (q108 [1,1,1,1,2,2,1,1,0,2,1,1,0]) (q108 [1,1,1,1,2,2,1,1,0,2,1,1,1]) := by kernel_rfl
theorem q108_1111221102110 : q108 [1,1,1,1,2,2,1,1,0,2,1,1,0] = .region 11 (opsA (q108 [1,1,1,1,2,2,1,1,0,2,1,1,0])) false := by kernel_rfl
theorem q108_1111221102111 : q108 [1,1,1,1,2,2,1,1,0,2,1,1,1] = .seq (q108 [1,1,1,1,2,2,1,1,0,2,1,1,1,0]) (q108 [1,1,1,1,2,2,1,1,0,2,1,1,1,1]) := by kernel_rfl
theorem q108_11112211021110 : q108 [1,1,1,1,2,2,1,1,0,2,1,1,1,0] = .region 12 (opsA (q108 [1,1,1,1,2,2,1,1,0,2,1,1,1,0])) false := by kernel_rfl
theorem q108_11112211021111 : q108 [1,1,1,1,2,2,1,1,0,2,1,1,1,1] = .block 4 (q108 [1,1,1,1,2,2,1,1,0,2,1,1,1,1,2]) := by kernel_rfl
theorem q108_111122110211112 : q108 [1,1,1,1,2,2,1,1,0,2,1,1,1,1,2] = .loop (q108 [1,1,1,1,2,2,1,1,0,2,1,1,1,1,2,2]) := by kernel_rfl
theorem q108_1111221102111122 : q108 [1,1,1,1,2,2,1,1,0,2,1,1,1,1,2,2] = .seq (q108 [1,1,1,1,2,2,1,1,0,2,1,1,1,1,2,2,0]) (q108 [1,1,1,1,2,2,1,1,0,2,1,1,1,1,2,2,1]) := by kernel_rfl
theorem q108_11112211021111220 : q108 [1,1,1,1,2,2,1,1,0,2,1,1,1,1,2,2,0] = .region 13 (opsA (q108 [1,1,1,1,2,2,1,1,0,2,1,1,1,1,2,2,0])) false := by kernel_rfl
theorem q108_11112211021111221 : q108 [1,1,1,1,2,2,1,1,0,2,1,1,1,1,2,2,1] = .seq (q108 [1,1,1,1,2,2,1,1,0,2,1,1,1,1,2,2,1,0]) (q108 [1,1,1,1,2,2,1,1,0,2,1,1,1,1,2,2,1,1]) := by kernel_rfl
theorem q108_111122110211112210 : q108 [1,1,1,1,2,2,1,1,0,2,1,1,1,1,2,2,1,0] = .cond (.tmp 71) (q108 [1,1,1,1,2,2,1,1,0,2,1,1,1,1,2,2,1,0,3]) (q108 [1,1,1,1,2,2,1,1,0,2,1,1,1,1,2,2,1,0,4]) := by kernel_rfl
theorem q108_1111221102111122103 : q108 [1,1,1,1,2,2,1,1,0,2,1,1,1,1,2,2,1,0,3] = .skip := by kernel_rfl
theorem q108_1111221102111122104 : q108 [1,1,1,1,2,2,1,1,0,2,1,1,1,1,2,2,1,0,4] = .exit 4 := by kernel_rfl
theorem q108_111122110211112211 : q108 [1,1,1,1,2,2,1,1,0,2,1,1,1,1,2,2,1,1] = .seq (q108 [1,1,1,1,2,2,1,1,0,2,1,1,1,1,2,2,1,1,0]) (q108 [1,1,1,1,2,2,1,1,0,2,1,1,1,1,2,2,1,1,1]) := by kernel_rfl
theorem q108_1111221102111122110 : q108 [1,1,1,1,2,2,1,1,0,2,1,1,1,1,2,2,1,1,0] = .block 5 (q108 [1,1,1,1,2,2,1,1,0,2,1,1,1,1,2,2,1,1,0,2]) := by kernel_rfl
theorem q108_11112211021111221102 : q108 [1,1,1,1,2,2,1,1,0,2,1,1,1,1,2,2,1,1,0,2] = .seq (q108 [1,1,1,1,2,2,1,1,0,2,1,1,1,1,2,2,1,1,0,2,0]) (q108 [1,1,1,1,2,2,1,1,0,2,1,1,1,1,2,2,1,1,0,2,1]) := by kernel_rfl
theorem q108_111122110211112211020 : q108 [1,1,1,1,2,2,1,1,0,2,1,1,1,1,2,2,1,1,0,2,0] = .region 14 (opsA (q108 [1,1,1,1,2,2,1,1,0,2,1,1,1,1,2,2,1,1,0,2,0])) false := by kernel_rfl
theorem q108_111122110211112211021 : q108 [1,1,1,1,2,2,1,1,0,2,1,1,1,1,2,2,1,1,0,2,1] = .seq (q108 [1,1,1,1,2,2,1,1,0,2,1,1,1,1,2,2,1,1,0,2,1,0]) (q108 [1,1,1,1,2,2,1,1,0,2,1,1,1,1,2,2,1,1,0,2,1,1]) := by kernel_rfl
theorem q108_1111221102111122110210 : q108 [1,1,1,1,2,2,1,1,0,2,1,1,1,1,2,2,1,1,0,2,1,0] = .region 15 (opsA (q108 [1,1,1,1,2,2,1,1,0,2,1,1,1,1,2,2,1,1,0,2,1,0])) false := by kernel_rfl
theorem q108_1111221102111122110211 : q108 [1,1,1,1,2,2,1,1,0,2,1,1,1,1,2,2,1,1,0,2,1,1] = .cond (.tmp 76) (q108 [1,1,1,1,2,2,1,1,0,2,1,1,1,1,2,2,1,1,0,2,1,1,3]) (q108 [1,1,1,1,2,2,1,1,0,2,1,1,1,1,2,2,1,1,0,2,1,1,4]) := by kernel_rfl
theorem q108_11112211021111221102113 : q108 [1,1,1,1,2,2,1,1,0,2,1,1,1,1,2,2,1,1,0,2,1,1,3] = .ret := by kernel_rfl
theorem q108_11112211021111221102114 : q108 [1,1,1,1,2,2,1,1,0,2,1,1,1,1,2,2,1,1,0,2,1,1,4] = .skip := by kernel_rfl
theorem q108_1111221102111122111 : q108 [1,1,1,1,2,2,1,1,0,2,1,1,1,1,2,2,1,1,1] = .region 16 (opsA (q108 [1,1,1,1,2,2,1,1,0,2,1,1,1,1,2,2,1,1,1])) false := by kernel_rfl
theorem q108_111122111 : q108 [1,1,1,1,2,2,1,1,1] = .region 17 (opsA (q108 [1,1,1,1,2,2,1,1,1])) false := by kernel_rfl
theorem rs50 : Tryz.f50.results.toList = [.cell 4 5, .cell 5 3, .cell 6 3] := rfl
theorem rs83 : Tryz.f83.results.toList = [.tmp 2] := rfl
theorem rs108 : Tryz.f108.results.toList = [] := rfl
attribute [go_sem] rs50 rs83 rs108
def partL (kk gp fr sz pl : Nat) : List C := [.int .u8 kk, .int .i64 gp, .int .i64 fr, .int .i64 sz, .int .i64 pl]
section
variable (Hh : Hearts K Tryz.prog)
include Hh
theorem whatA (l : Nat) (ts : Tmps) (kk gp fr sz pl : Nat) (h : Go.Ev.H) : Goes K Tryz.prog 36 (some l) (q50 [1,1,0,1,2,5]) [] (ts.set 17 (.w (.g (partL kk gp fr sz pl)))) h fun x ds' ts' h' => x = .normal ∧ ds' = [] ∧ (∀ s, s ≤ 6 → evalT ts' s = evalT ts s) ∧ evalT ts' 7 = .w (.c (.ptr h.next 0)) ∧ h'.next = h.next + 1 ∧ h'.get h.next = some (.row 5 [partL kk gp fr sz pl] false) ∧ ∀ m, m ≠ h.next → h'.get m = h.get m := by
 refine Goes.opsQ q50_110125 fits Hh E0_sound (by
  simp (maxSteps := 999999) +decide (discharger := first | omega | (simp <;> omega) | decide) only [go_sem, q50, Tryz.f50, readRow, loadIn, simprocAttr, partL]
  rfl) ?_
 refine ⟨rfl, rfl, fun s hs => ?_, ?_, rfl, ?_, fun m hm => ?_⟩
 ·simp (decide := true) only [evalT_low hs]
 ·simp (maxSteps := 999999) +decide (discharger := first | omega | (simp <;> omega) | decide) only [go_sem, readRow, loadIn, simprocAttr]
 ·simp (maxSteps := 999999) +decide (discharger := first | omega | (simp <;> omega) | decide) only [go_sem, readRow, loadIn, simprocAttr, partL]
 ·simp (maxSteps := 999999) +decide (discharger := first | omega | (simp <;> omega) | decide) only [go_sem, readRow, loadIn, simprocAttr]
set_option maxHeartbeats 4000000 in
theorem whatB (l : Nat) (ts : Tmps) (pb p4 p5 p6 q kk gp fr sz pl b : Nat) (h : Go.Ev.H) (x4 x5 x6 : C) (s1 : kk < 256) (s2 : gp < 1000000) (s3 : fr < 1000000) (s4 : sz < 1000000) (s5 : pl < 1000000) (s6 : b < 9223372036854775808) (s7 : fr ≤ b)
  (d1 : p4 ≠ p5) (d2 : p4 ≠ p6) (d3 : p5 ≠ p6) (d4 : pb ≠ p4) (d5 : pb ≠ p5) (d6 : pb ≠ p6) (d7 : q ≠ p4) (d8 : q ≠ p5) (d9 : q ≠ p6)
  (e3 : evalT ts 3 = .w (.c (.ptr pb 0))) (e4 : evalT ts 4 = .w (.c (.ptr p4 0))) (e5 : evalT ts 5 = .w (.c (.ptr p5 0))) (e6 : evalT ts 6 = .w (.c (.ptr p6 0))) (e7 : evalT ts 7 = .w (.c (.ptr q 0)))
  (hb : h.get pb = some (.row 1 [[.int .i64 b]] false)) (hq : h.get q = some (.row 5 [partL kk gp fr sz pl] false)) (r4 : h.get p4 = some (.row 1 [[x4]] false)) (r5 : h.get p5 = some (.row 1 [[x5]] false)) (r6 : h.get p6 = some (.row 1 [[x6]] false)) :
  Goes K Tryz.prog 36 (some l) (q50 [1,1,0,1,2,6]) [] ts h fun x _ _ h' => h'.next = h.next ∧ (b < fr + sz → x = .ret ∧ h'.get p4 = some (.row 1 [[.int .u8 kk]] false) ∧ h'.get p5 = some (.row 1 [[.int .i64 gp]] false) ∧ h'.get p6 = some (.row 1 [[.int .i64 ((pl + b - fr : Nat) : Int)]] false)) ∧ (fr + sz ≤ b → x = .normal ∧ h' = h) ∧ ∀ m, m ≠ p4 → m ≠ p5 → m ≠ p6 → h'.get m = h.get m := by
 have w9 : ((pl : Int) + (b : Int)) - (fr : Int) = ((pl + b - fr : Nat) : Int) := by omega
 by_cases hlt : b < fr + sz
 ·
  refine Goes.blockQ q50_110126 (Goes.block ?_)
  refine Goes.seqQ q50_1101262 ?_
  refine Goes.opsQ q50_11012620 fits Hh E0_sound (by
   simp (maxSteps := 999999) +decide (discharger := first | omega | (simp <;> omega) | decide) only [go_sem, q50, Tryz.f50, readRow, loadIn, simprocAttr, e3, e4, e5, e6, e7, hb, hq, r4, r5, r6, partL, read1, w9, writeRow]
   rfl) ?_
  refine Goes.condTQ q50_11012621 (by simp (maxSteps := 999999) +decide (discharger := first | omega | (simp <;> omega) | decide) only [go_sem, readRow, loadIn, simprocAttr, e3, e4, e5, e6, e7, hb, hq, r4, r5, r6, partL, read1, w9, writeRow] <;> rfl) (by first | rfl | assumption | exact decide_eq_true (by omega) | (simp; omega)) ?_
  refine Goes.seqQ q50_110126213 ?_
  refine Goes.drawnQ q50_1101262130 fits Hh E0_sound (by kernel_rfl) (by
   simp (maxSteps := 999999) +decide (discharger := first | omega | (simp <;> omega) | decide) only [go_sem, q50, Tryz.f50, readRow, loadIn, simprocAttr, op_move, op_assign, op_binOp, op_unOp, op_convert, op_load, op_store, op_indexAddr, op_alloc, op_pick, op_box, op_build, op_buildSlice, op_nilCheck, op_makeSlice, op_fieldAddr, op_field, op_extract, op_lookup, op_mapUpdate, op_builtin, op_index, drEnd, drAll, drOne, drTs, drKd, drPure, drRead, drAlloc, drEff, drSkip, drPut, putT_ok, putT_none, cutT, looks, tmpOf, Op.operands, Call.operands, kd, kdCall, List.filterMap_cons, List.filterMap_nil, List.append_nil, List.nil_append, List.cons_append, stables, stable, reachAt, reachP, waitsAt, waits, gives_self, List.all_cons, List.all_nil, List.any_cons, List.any_nil, Region.binds, Bool.or_true, Bool.true_or, Bool.and_true, Bool.true_and, Bool.or_false, Bool.false_or, Bool.and_self, Bool.or_self, ble_true, Nat.le_refl, Nat.le_add_right, List.map_cons, Array.toList_append, e3, e4, e5, e6, e7, hb, hq, r4, r5, r6, partL, read1, w9, writeRow]
   rfl) ?_
  refine Goes.retQ q50_1101262131 ?_
  refine ⟨rfl, fun _ => ⟨rfl, ?_, ?_, ?_⟩, fun h9 => by omega, fun m h1 h2 h3 => ?_⟩
  ·simp (maxSteps := 999999) +decide (discharger := first | omega | (simp <;> omega) | decide) only [go_sem, readRow, loadIn, simprocAttr]
  ·simp (maxSteps := 999999) +decide (discharger := first | omega | (simp <;> omega) | decide) only [go_sem, readRow, loadIn, simprocAttr]
  ·simp (maxSteps := 999999) +decide (discharger := first | omega | (simp <;> omega) | decide) only [go_sem, readRow, loadIn, simprocAttr]
  ·simp (maxSteps := 999999) +decide (discharger := first | omega | (simp <;> omega) | decide) only [go_sem, readRow, loadIn, simprocAttr]
 ·
  refine Goes.blockQ q50_110126 (Goes.block ?_)
  refine Goes.seqQ q50_1101262 ?_
  refine Goes.opsQ q50_11012620 fits Hh E0_sound (by
   simp (maxSteps := 999999) +decide (discharger := first | omega | (simp <;> omega) | decide) only [go_sem, q50, Tryz.f50, readRow, loadIn, simprocAttr, e3, e4, e5, e6, e7, hb, hq, r4, r5, r6, partL, read1]
   rfl) ?_
  refine Goes.condFQ q50_11012621 (by simp (maxSteps := 999999) +decide (discharger := first | omega | (simp <;> omega) | decide) only [go_sem, readRow, loadIn, simprocAttr, e3, e4, e5, e6, e7, hb, hq, r4, r5, r6, partL, read1] <;> rfl) (by first | rfl | assumption | exact decide_eq_false (by omega) | (simp; omega)) ?_
  refine Goes.skipQ q50_110126214 ?_
  exact ⟨rfl, fun h9 => by omega, fun _ => ⟨rfl, rfl⟩, fun _ _ _ _ => rfl⟩
theorem whatRound (l : Nat) (ts : Tmps) (pb p4 p5 p6 kk gp fr sz pl b d : Nat) (h : Go.Ev.H) (x4 x5 x6 : C) (s1 : kk < 256) (s2 : gp < 1000000) (s3 : fr < 1000000) (s4 : sz < 1000000) (s5 : pl < 1000000) (s6 : b < 9223372036854775808) (s7 : fr ≤ b)
  (d1 : p4 ≠ p5) (d2 : p4 ≠ p6) (d3 : p5 ≠ p6) (d4 : pb ≠ p4) (d5 : pb ≠ p5) (d6 : pb ≠ p6) (l4 : l ≠ p4) (l5 : l ≠ p5) (l6 : l ≠ p6) (lb : l ≠ pb) (b4 : p4 < h.next) (b5 : p5 < h.next) (b6 : p6 < h.next) (bb : pb < h.next) (bl : l < h.next)
  (e3 : evalT ts 3 = .w (.c (.ptr pb 0))) (e4 : evalT ts 4 = .w (.c (.ptr p4 0))) (e5 : evalT ts 5 = .w (.c (.ptr p5 0))) (e6 : evalT ts 6 = .w (.c (.ptr p6 0)))
  (hl : h.get l = some (.loop ts 36 [17] (q50 [1,1,0,1,2,5]) (q50 [1,1,0,1,2,6]) .ready none d))
  (hb : h.get pb = some (.row 1 [[.int .i64 b]] false)) (r4 : h.get p4 = some (.row 1 [[x4]] false)) (r5 : h.get p5 = some (.row 1 [[x5]] false)) (r6 : h.get p6 = some (.row 1 [[x6]] false)) :
  ∃ E h' r, Sound K Tryz.prog E ∧ evRound E l (some [.g (partL kk gp fr sz pl)]) h (h.get l) = some (.val (.w (.c (.bool r))) h') ∧ h.next ≤ h'.next ∧
   (fr + sz ≤ b → r = true ∧ ∀ m, m < h.next → h'.get m = h.get m) ∧
   (b < fr + sz → r = false ∧ h'.get l = some (.loop ts 36 [17] (q50 [1,1,0,1,2,5]) (q50 [1,1,0,1,2,6]) .done (some .ret) d) ∧ h'.get p4 = some (.row 1 [[.int .u8 kk]] false) ∧ h'.get p5 = some (.row 1 [[.int .i64 gp]] false) ∧ h'.get p6 = some (.row 1 [[.int .i64 ((pl + b - fr : Nat) : Int)]] false) ∧ ∀ m, m < h.next → m ≠ l → m ≠ p4 → m ≠ p5 → m ≠ p6 → h'.get m = h.get m) := by
 obtain ⟨xa, ds1, ts1, h1, kA, rfl, rfl, t1, t7, n1, g1, f1⟩ := whatA Hh l ts kk gp fr sz pl h
 have q1 : ∀ m, m < h.next → m ≠ l → (h1.put l (.loop ts 36 [17] (q50 [1,1,0,1,2,5]) (q50 [1,1,0,1,2,6]) .busy none d)).get m = h.get m := fun m hm hml => by rw [get_put_ne hml, f1 m (by omega)]
 have gl : h1.get l = some (.loop ts 36 [17] (q50 [1,1,0,1,2,5]) (q50 [1,1,0,1,2,6]) .ready none d) := by rw [f1 l (by omega)]; exact hl
 obtain ⟨xb, ds2, ts2, h2, kB, n2, st, go, f2⟩ := whatB Hh l ts1 pb p4 p5 p6 h.next kk gp fr sz pl b (h1.put l (.loop ts 36 [17] (q50 [1,1,0,1,2,5]) (q50 [1,1,0,1,2,6]) .busy none d)) x4 x5 x6 s1 s2 s3 s4 s5 s6 s7 d1 d2 d3 d4 d5 d6 (by omega) (by omega) (by omega)
  ((t1 3 (by decide)).trans e3) ((t1 4 (by decide)).trans e4) ((t1 5 (by decide)).trans e5) ((t1 6 (by decide)).trans e6) t7 ((q1 pb bb (Ne.symm lb)).trans hb) (by rw [get_put_ne (by omega)]; exact g1) ((q1 p4 b4 (Ne.symm l4)).trans r4) ((q1 p5 b5 (Ne.symm l5)).trans r5) ((q1 p6 b6 (Ne.symm l6)).trans r6)
 have hl2 : h2.get l = some (.loop ts 36 [17] (q50 [1,1,0,1,2,5]) (q50 [1,1,0,1,2,6]) .busy none d) := by rw [f2 l l4 l5 l6]; exact get_put_self ..
 have S := E1c_sound (E1c_sound E0_sound kB) kA
 refine ⟨_, _, _, S, round_some hl (by simp only [zipParams]; rfl) (E1c_code ..) gl (E1c_next (fun e => ?_) |>.trans (E1c_code ..)) hl2, ?_, fun h9 => ?_, fun h9 => ?_⟩
 ·have e1 := (Task.code.inj e).1
  rw [q50_110126, q50_110125] at e1
  cases e1
 ·rw [H.next_put, n2, H.next_put, n1]; omega
 ·obtain ⟨rfl, rfl⟩ := go h9
  refine ⟨rfl, fun m hm => ?_⟩
  by_cases e : m = l
  ·subst e; rw [get_put_self, hl]; rfl
  ·rw [get_put_ne e, q1 m hm e]
 ·obtain ⟨rfl, k4, k5, k6⟩ := st h9
  refine ⟨rfl, get_put_self .., ?_, ?_, ?_, fun m hm a1 a2 a3 a4 => ?_⟩
  ·rw [get_put_ne (Ne.symm l4)]; exact k4
  ·rw [get_put_ne (Ne.symm l5)]; exact k5
  ·rw [get_put_ne (Ne.symm l6)]; exact k6
  ·rw [get_put_ne a1, f2 m a2 a3 a4, q1 m hm a1]
structure WCtx (l pb p4 p5 p6 pg gr sz ino jr b d : Nat) (ts : Tmps) (h : Go.Ev.H) : Prop where
 d1 : p4 ≠ p5
 d2 : p4 ≠ p6
 d3 : p5 ≠ p6
 d4 : pb ≠ p4
 d5 : pb ≠ p5
 d6 : pb ≠ p6
 l4 : l ≠ p4
 l5 : l ≠ p5
 l6 : l ≠ p6
 lb : l ≠ pb
 b4 : p4 < h.next
 b5 : p5 < h.next
 b6 : p6 < h.next
 bb : pb < h.next
 bl : l < h.next
 bg : pg < h.next
 e3 : evalT ts 3 = .w (.c (.ptr pb 0))
 e4 : evalT ts 4 = .w (.c (.ptr p4 0))
 e5 : evalT ts 5 = .w (.c (.ptr p5 0))
 e6 : evalT ts 6 = .w (.c (.ptr p6 0))
 hl : h.get l = some (.loop ts 36 [17] (q50 [1,1,0,1,2,5]) (q50 [1,1,0,1,2,6]) .ready none d)
 hb : h.get pb = some (.row 1 [[.int .i64 b]] false)
 r4 : ∃ x, h.get p4 = some (.row 1 [[x]] false)
 r5 : ∃ x, h.get p5 = some (.row 1 [[x]] false)
 r6 : ∃ x, h.get p6 = some (.row 1 [[x]] false)
 hg : h.get pg = some (.row 4 [geoL gr sz ino jr] false)
omit Hh in
theorem WCtx.move {l pb p4 p5 p6 pg gr sz ino jr b d : Nat} {ts : Tmps} {h h' : Go.Ev.H} (W : WCtx l pb p4 p5 p6 pg gr sz ino jr b d ts h) (hn : h.next ≤ h'.next) (k : ∀ m, m < h.next → h'.get m = h.get m) : WCtx l pb p4 p5 p6 pg gr sz ino jr b d ts h' := by
 obtain ⟨d1, d2, d3, d4, d5, d6, l4, l5, l6, lb, b4, b5, b6, bb, bl, bg, e3, e4, e5, e6, hl, hb, r4, r5, r6, hg⟩ := W
 exact ⟨d1, d2, d3, d4, d5, d6, l4, l5, l6, lb, by omega, by omega, by omega, by omega, by omega, by omega, e3, e4, e5, e6, (k l bl).trans hl, (k pb bb).trans hb, by rw [k p4 b4]; exact r4, by rw [k p5 b5]; exact r5, by rw [k p6 b6]; exact r6, (k pg bg).trans hg⟩
structure WAns (l p4 p5 p6 d : Nat) (ts : Tmps) (kk gp pl : Nat) (h0 h : Go.Ev.H) : Prop where
 next : h0.next ≤ h.next
 hl : h.get l = some (.loop ts 36 [17] (q50 [1,1,0,1,2,5]) (q50 [1,1,0,1,2,6]) .done (some .ret) d)
 r4 : h.get p4 = some (.row 1 [[.int .u8 kk]] false)
 r5 : h.get p5 = some (.row 1 [[.int .i64 gp]] false)
 r6 : h.get p6 = some (.row 1 [[.int .i64 pl]] false)
 keep : ∀ m, m < h0.next → m ≠ l → m ≠ p4 → m ≠ p5 → m ≠ p6 → h.get m = h0.get m
omit Hh in
theorem WAns.back {l p4 p5 p6 d : Nat} {ts : Tmps} {kk gp pl : Nat} {h0 h1 h : Go.Ev.H} (A : WAns l p4 p5 p6 d ts kk gp pl h1 h) (hn : h0.next ≤ h1.next) (k : ∀ m, m < h0.next → h1.get m = h0.get m) : WAns l p4 p5 p6 d ts kk gp pl h0 h :=
 ⟨Nat.le_trans hn A.next, A.hl, A.r4, A.r5, A.r6, fun m hm a b c e => (A.keep m (Nat.lt_of_lt_of_le hm hn) a b c e).trans (k m hm)⟩
theorem WCtx.round {l pb p4 p5 p6 pg gr sz ino jr b d : Nat} {ts : Tmps} {h : Go.Ev.H} (W : WCtx l pb p4 p5 p6 pg gr sz ino jr b d ts h) (kk gp fr sz' pl : Nat) (s1 : kk < 256) (s2 : gp < 1000000) (s3 : fr < 1000000) (s4 : sz' < 1000000) (s5 : pl < 1000000) (s6 : b < 9223372036854775808) (s7 : fr ≤ b) :
  ∃ E h' r, Sound K Tryz.prog E ∧ evRound E l (some [.g (partL kk gp fr sz' pl)]) h (some (.loop ts 36 [17] (q50 [1,1,0,1,2,5]) (q50 [1,1,0,1,2,6]) .ready none d)) = some (.val (.w (.c (.bool r))) h') ∧
   (fr + sz' ≤ b → r = true ∧ h.next ≤ h'.next ∧ ∀ m, m < h.next → h'.get m = h.get m) ∧ (b < fr + sz' → r = false ∧ WAns l p4 p5 p6 d ts kk gp (pl + b - fr) h h') := by
 obtain ⟨d1, d2, d3, d4, d5, d6, l4, l5, l6, lb, b4, b5, b6, bb, bl, bg, e3, e4, e5, e6, hl, hb, ⟨x4, r4⟩, ⟨x5, r5⟩, ⟨x6, r6⟩, hg⟩ := W
 obtain ⟨E, h', r, S, rnd, n, go, st⟩ := whatRound Hh l ts pb p4 p5 p6 kk gp fr sz' pl b d h x4 x5 x6 s1 s2 s3 s4 s5 s6 s7 d1 d2 d3 d4 d5 d6 l4 l5 l6 lb b4 b5 b6 bb bl e3 e4 e5 e6 hl hb r4 r5 r6
 rw [hl] at rnd
 refine ⟨E, h', r, S, rnd, fun h9 => ⟨(go h9).1, n, (go h9).2⟩, fun h9 => ?_⟩
 obtain ⟨rr, k1, k2, k3, k4, k5⟩ := st h9
 exact ⟨rr, n, k1, k2, k3, k4, k5⟩
def headP (jr : Nat) : Nat → Nat × Nat × Nat × Nat × Nat
 | 0 => (1, 0, 0, 1, 0)
 | 1 => (2, 0, 1, 1, 0)
 | _ => (3, 0, 2, jr, 0)
def headC (jr : Nat) : List C := [.int .u8 1, .int .i64 0, .int .i64 0, .int .i64 1, .int .i64 0, .int .u8 2, .int .i64 0, .int .i64 1, .int .i64 1, .int .i64 0, .int .u8 3, .int .i64 0, .int .i64 2, .int .i64 jr, .int .i64 0]
def partP (p : Nat × Nat × Nat × Nat × Nat) : List C := partL p.1 p.2.1 p.2.2.1 p.2.2.2.1 p.2.2.2.2
def headE (jr : Nat) : Nat → Nat
 | 0 => 0
 | 1 => 1
 | 2 => 2
 | _ => 2 + jr
theorem partsHead {l pb p4 p5 p6 pg gr sz ino jr b d : Nat} {tl : Tmps} (F : Fine gr sz ino jr) (s6 : b < 9223372036854775808) : ∀ (k i : Nat) (ts : Tmps) (h : Go.Ev.H), i + k = 3 → headE jr i ≤ b → WCtx l pb p4 p5 p6 pg gr sz ino jr b d tl h → evalT ts 0 = .w (.c (.yield l)) → evalT ts 21 = .w (.g (headC jr)) → evalT ts 22 = .w (.c (.int .i64 i)) →
  Goes K Tryz.prog 79 none (q108 [1,1,0,1,2]) [] ts h fun x ds' ts' h' => ds' = [] ∧ (∀ s, s ≤ 3 → evalT ts' s = evalT ts s) ∧ ((x = .exit 0 ∧ 2 + jr ≤ b ∧ h.next ≤ h'.next ∧ ∀ m, m < h.next → h'.get m = h.get m) ∨
   (x = .ret ∧ ∃ q, q < 3 ∧ headE jr q ≤ b ∧ b < headE jr (q + 1) ∧ WAns l p4 p5 p6 d tl (headP jr q).1 0 (b - headE jr q) h h')) := by
 obtain ⟨g1, g2, g3, g4, g5, g6, g7, g8, g9, g10, g11⟩ := F
 intro k
 induction k with
 | zero =>
  intro i ts h hi hbe W e0 e21 e22
  obtain rfl : i = 3 := by omega
  refine Goes.loopQ q108_11012 (Goes.loop ?_)
  refine Goes.seqQ q108_110122 ?_
  refine Goes.opsQ q108_1101220 fits Hh E0_sound (by
   simp (maxSteps := 999999) +decide (discharger := first | omega | (simp <;> omega) | decide) only [go_sem, q108, Tryz.f108, readRow, loadIn, simprocAttr, e22]
   rfl) ?_
  refine Goes.seqQ q108_1101221 ?_
  refine Goes.condFQ q108_11012210 (by simp (maxSteps := 999999) +decide (discharger := first | omega | (simp <;> omega) | decide) only [go_sem, readRow, loadIn, simprocAttr, e22] <;> rfl) (by first | rfl | assumption | exact decide_eq_false (by omega) | (simp; omega)) ?_
  refine Goes.exitQ q108_110122104 ?_
  refine ⟨rfl, fun s hs => ?_, .inl ⟨rfl, hbe, Nat.le_refl _, fun _ _ => rfl⟩⟩
  simp (decide := true) only [evalT_low hs]
 | succ k ih =>
  intro i ts h hi hbe W e0 e21 e22
  obtain ⟨kk, gp, fr, sz', pl, hP⟩ : ∃ kk gp fr sz' pl, headP jr i = (kk, gp, fr, sz', pl) := ⟨_, _, _, _, _, rfl⟩
  have hi3 : i = 0 ∨ i = 1 ∨ i = 2 := by omega
  have hx : arrAt K (some ti173) (headC jr) (some i) = some (.g (partL kk gp fr sz' pl)) ∧ kk < 256 ∧ gp = 0 ∧ fr = headE jr i ∧ fr + sz' = headE jr (i + 1) ∧ pl = 0 ∧ fr < 1000000 ∧ sz' < 1000000 := by
   rcases hi3 with rfl | rfl | rfl <;> (simp only [headP, Prod.mk.injEq] at hP; obtain ⟨rfl, rfl, rfl, rfl, rfl⟩ := hP; exact ⟨by kernel_rfl, by omega, rfl, rfl, rfl, rfl, by omega, by omega⟩)
  obtain ⟨idx, k1, rfl, k3, k4, rfl, k6, k7⟩ := hx
  have W2 := W.move (h' := (h.new (.row 5 [[.int .u8 0, .int .i64 0, .int .i64 0, .int .i64 0, .int .i64 0]] false)).put h.next (.row 5 [partL kk 0 fr sz' 0] false)) (by rw [H.next_put, H.next_new]; omega) (fun m hm => by rw [get_put_ne (by omega), get_new_ne (by omega)])
  obtain ⟨E, h2, r, S, rnd, go, st⟩ := WCtx.round Hh W2 kk 0 fr sz' 0 k1 (by omega) k6 k7 (by omega) s6 (by omega)
  have hl := W.hl
  have bl := W.bl
  have rp : readRow 5 [partL kk 0 fr sz' 0] 0 5 = some (partL kk 0 fr sz' 0) := rfl
  have lp : (partL kk 0 fr sz' 0).length = 5 := rfl
  have wp : writeRow 5 [[.int .u8 0, .int .i64 0, .int .i64 0, .int .i64 0, .int .i64 0]] 0 (partL kk 0 fr sz' 0) = some [partL kk 0 fr sz' 0] := rfl
  by_cases hc : fr + sz' ≤ b
  ·obtain ⟨rfl, n2, q2⟩ := go hc
   have q3 : ∀ m, m < h.next → h2.get m = h.get m := fun m hm => by
    rw [q2 m (by rw [H.next_put, H.next_new]; omega), get_put_ne (by omega), get_new_ne (by omega)]
   rw [H.next_put, H.next_new] at n2
   refine Goes.loopQ q108_11012 (Goes.loop ?_)
   refine Goes.seqQ q108_110122 ?_
   refine Goes.opsQ q108_1101220 fits Hh E0_sound (by
    simp (maxSteps := 999999) +decide (discharger := first | omega | (simp <;> omega) | decide) only [go_sem, q108, Tryz.f108, loadIn, simprocAttr, e0, e21, e22, hl, idx, rp, lp, wp, rnd, opIndex]
    rfl) ?_
   refine Goes.seqQ q108_1101221 ?_
   refine Goes.condTQ q108_11012210 (by simp (maxSteps := 999999) +decide (discharger := first | omega | (simp <;> omega) | decide) only [go_sem, loadIn, simprocAttr, e0, e21, e22, hl, idx, rp, lp, wp, rnd, opIndex] <;> rfl) (by first | rfl | assumption | exact decide_eq_true (by omega) | (simp; omega)) ?_
   refine Goes.skipQ q108_110122103 ?_
   refine Goes.seqQ q108_11012211 ?_
   refine Goes.blockQ q108_110122110 (Goes.block ?_)
   refine Goes.seqQ q108_1101221102 ?_
   refine Goes.opsQ q108_11012211020 fits Hh E0_sound (by
    simp (maxSteps := 999999) +decide (discharger := first | omega | (simp <;> omega) | decide) only [go_sem, q108, Tryz.f108, loadIn, simprocAttr, e0, e21, e22, hl, idx, rp, lp, wp, rnd, opIndex]
    rfl) ?_
   refine Goes.seqQ q108_11012211021 ?_
   refine Goes.opsQ q108_110122110210 fits Hh S (by
    simp (maxSteps := 999999) +decide (discharger := first | omega | (simp <;> omega) | decide) only [go_sem, q108, Tryz.f108, loadIn, simprocAttr, e0, e21, e22, hl, idx, rp, lp, wp, rnd, opIndex]
    rfl) ?_
   refine Goes.condFQ q108_110122110211 (by simp (maxSteps := 999999) +decide (discharger := first | omega | (simp <;> omega) | decide) only [go_sem, loadIn, simprocAttr, e0, e21, e22, hl, idx, rp, lp, wp, rnd, opIndex] <;> rfl) (by first | rfl | assumption | exact decide_eq_false (by omega) | (simp; omega)) ?_
   refine Goes.skipQ q108_1101221102114 ?_
   refine Goes.opsQ q108_110122111 fits Hh E0_sound (by
    simp (maxSteps := 999999) +decide (discharger := first | omega | (simp <;> omega) | decide) only [go_sem, q108, Tryz.f108, loadIn, simprocAttr, e0, e21, e22, hl, idx, rp, lp, wp, rnd, opIndex]
    rfl) ?_
   show Goes K Tryz.prog 79 none (.loop (q108 [1,1,0,1,2,2])) _ _ _ _
   rw [← q108_11012]
   refine (ih (i + 1) _ h2 (by omega) (by omega) (W.move (by omega) q3) ?_ ?_ ?_).mono ?_
   ·simp (decide := true) only [evalT_set, reduceIte, e0]
   ·simp (decide := true) only [evalT_set, reduceIte, e21]
   ·simp (decide := true) only [evalT_set, reduceIte] <;> rfl
   ·rintro x ds' ts' h' ⟨z1, z2, z3⟩
    refine ⟨z1, fun s hs => (z2 s hs).trans (by simp (decide := true) only [evalT_low hs]), ?_⟩
    rcases z3 with ⟨rfl, y1, y2, y3⟩ | ⟨rfl, q, y1, y2, y3, y4⟩
    ·exact .inl ⟨rfl, y1, by omega, fun m hm => (y3 m (by omega)).trans (q3 m hm)⟩
    ·exact .inr ⟨rfl, q, y1, y2, y3, y4.back (by omega) q3⟩
  ·obtain ⟨rfl, A⟩ := st (by omega)
   have A2 := A.back (h0 := h) (by rw [H.next_put, H.next_new]; omega) (fun m hm => by rw [get_put_ne (by omega), get_new_ne (by omega)])
   refine Goes.loopQ q108_11012 (Goes.loop ?_)
   refine Goes.seqQ q108_110122 ?_
   refine Goes.opsQ q108_1101220 fits Hh E0_sound (by
    simp (maxSteps := 999999) +decide (discharger := first | omega | (simp <;> omega) | decide) only [go_sem, q108, Tryz.f108, loadIn, simprocAttr, e0, e21, e22, hl, idx, rp, lp, wp, rnd, opIndex]
    rfl) ?_
   refine Goes.seqQ q108_1101221 ?_
   refine Goes.condTQ q108_11012210 (by simp (maxSteps := 999999) +decide (discharger := first | omega | (simp <;> omega) | decide) only [go_sem, loadIn, simprocAttr, e0, e21, e22, hl, idx, rp, lp, wp, rnd, opIndex] <;> rfl) (by first | rfl | assumption | exact decide_eq_true (by omega) | (simp; omega)) ?_
   refine Goes.skipQ q108_110122103 ?_
   refine Goes.seqQ q108_11012211 ?_
   refine Goes.blockQ q108_110122110 (Goes.block ?_)
   refine Goes.seqQ q108_1101221102 ?_
   refine Goes.opsQ q108_11012211020 fits Hh E0_sound (by
    simp (maxSteps := 999999) +decide (discharger := first | omega | (simp <;> omega) | decide) only [go_sem, q108, Tryz.f108, loadIn, simprocAttr, e0, e21, e22, hl, idx, rp, lp, wp, rnd, opIndex]
    rfl) ?_
   refine Goes.seqQ q108_11012211021 ?_
   refine Goes.opsQ q108_110122110210 fits Hh S (by
    simp (maxSteps := 999999) +decide (discharger := first | omega | (simp <;> omega) | decide) only [go_sem, q108, Tryz.f108, loadIn, simprocAttr, e0, e21, e22, hl, idx, rp, lp, wp, rnd, opIndex]
    rfl) ?_
   refine Goes.condTQ q108_110122110211 (by simp (maxSteps := 999999) +decide (discharger := first | omega | (simp <;> omega) | decide) only [go_sem, loadIn, simprocAttr, e0, e21, e22, hl, idx, rp, lp, wp, rnd, opIndex] <;> rfl) (by first | rfl | assumption | exact decide_eq_true (by omega) | (simp; omega)) ?_
   refine Goes.retQ q108_1101221102113 ?_
   refine ⟨rfl, fun s hs => ?_, .inr ⟨rfl, i, by omega, by omega, by omega, ?_⟩⟩
   ·simp (decide := true) only [evalT_low hs]
   ·rw [hP, ← k3]
    rwa [Nat.zero_add] at A2
def grpE (sz ino jr k : Nat) : Nat → Nat
 | 0 => 2 + jr + k * sz
 | 1 => 2 + jr + k * sz + 1
 | 2 => 2 + jr + k * sz + 2
 | 3 => 2 + jr + k * sz + 2 + ino / 4
 | _ => 2 + jr + k * sz + sz
def grpP (sz ino jr k : Nat) : Nat → Nat × Nat × Nat × Nat × Nat
 | 0 => (4, k, 2 + jr + k * sz, 1, 0)
 | 1 => (5, k, 2 + jr + k * sz + 1, 1, 1)
 | 2 => (6, k, 2 + jr + k * sz + 2, ino / 4, 2)
 | _ => (7, k, 2 + jr + k * sz + 2 + ino / 4, sz - 2 - ino / 4, 2 + ino / 4)
def grpC (sz ino jr k : Nat) : List C := partP (grpP sz ino jr k 0) ++ partP (grpP sz ino jr k 1) ++ partP (grpP sz ino jr k 2) ++ partP (grpP sz ino jr k 3)
theorem partsIn {l pb p4 p5 p6 pg gr sz ino jr b d : Nat} {tl : Tmps} (F : Fine gr sz ino jr) (s6 : b < 9223372036854775808) {k0 : Nat} (hk0 : k0 < gr) : ∀ (k i : Nat) (ts : Tmps) (h : Go.Ev.H), i + k = 4 → grpE sz ino jr k0 i ≤ b → WCtx l pb p4 p5 p6 pg gr sz ino jr b d tl h → evalT ts 0 = .w (.c (.yield l)) → evalT ts 69 = .w (.g (grpC sz ino jr k0)) → evalT ts 70 = .w (.c (.int .i64 i)) →
  Goes K Tryz.prog 79 none (q108 [1,1,1,1,2,2,1,1,0,2,1,1,1,1,2]) [] ts h fun x ds' ts' h' => ds' = [] ∧ (∀ s, s ≤ 8 ∨ s = 31 ∨ s = 32 → evalT ts' s = evalT ts s) ∧ ((x = .exit 4 ∧ 2 + jr + k0 * sz + sz ≤ b ∧ h.next ≤ h'.next ∧ ∀ m, m < h.next → h'.get m = h.get m) ∨
   (x = .ret ∧ ∃ q, q < 4 ∧ grpE sz ino jr k0 q ≤ b ∧ b < grpE sz ino jr k0 (q + 1) ∧ WAns l p4 p5 p6 d tl (grpP sz ino jr k0 q).1 k0 (b - grpE sz ino jr k0 0) h h')) := by
 obtain ⟨g1, g2, g3, g4, g5, g6, g7, g8, g9, g10, g11⟩ := F
 intro k
 induction k with
 | zero =>
  intro i ts h hi hbe W e0 e69 e70
  obtain rfl : i = 4 := by omega
  refine Goes.loopQ q108_111122110211112 (Goes.loop ?_)
  refine Goes.seqQ q108_1111221102111122 ?_
  refine Goes.opsQ q108_11112211021111220 fits Hh E0_sound (by
   simp (maxSteps := 999999) +decide (discharger := first | omega | (simp <;> omega) | decide) only [go_sem, q108, Tryz.f108, readRow, loadIn, simprocAttr, e70]
   rfl) ?_
  refine Goes.seqQ q108_11112211021111221 ?_
  refine Goes.condFQ q108_111122110211112210 (by simp (maxSteps := 999999) +decide (discharger := first | omega | (simp <;> omega) | decide) only [go_sem, readRow, loadIn, simprocAttr, e70] <;> rfl) (by first | rfl | assumption | exact decide_eq_false (by omega) | (simp; omega)) ?_
  refine Goes.exitQ q108_1111221102111122104 ?_
  refine ⟨rfl, fun s hs => ?_, .inl ⟨rfl, hbe, Nat.le_refl _, fun _ _ => rfl⟩⟩
  rcases hs with hs | rfl | rfl <;> first | (simp (decide := true) only [evalT_low hs]) | (simp (decide := true) only [evalT_set, reduceIte])
 | succ k ih =>
  intro i ts h hi hbe W e0 e69 e70
  obtain ⟨kk, gp, fr, sz', pl, hP⟩ : ∃ kk gp fr sz' pl, grpP sz ino jr k0 i = (kk, gp, fr, sz', pl) := ⟨_, _, _, _, _, rfl⟩
  have m1 : k0 * sz + sz ≤ gr * sz := by
   have := Nat.mul_le_mul_right sz (show k0 + 1 ≤ gr by omega)
   rw [Nat.add_mul] at this
   omega
  have hi3 : i = 0 ∨ i = 1 ∨ i = 2 ∨ i = 3 := by omega
  have hx : arrAt K (some ti174) (grpC sz ino jr k0) (some i) = some (.g (partL kk gp fr sz' pl)) ∧ kk < 256 ∧ k0 = gp ∧ fr = grpE sz ino jr k0 i ∧ fr + sz' = grpE sz ino jr k0 (i + 1) ∧ pl + grpE sz ino jr k0 0 = fr ∧ fr < 1000000 ∧ sz' < 1000000 := by
   rcases hi3 with rfl | rfl | rfl | rfl <;> (simp only [grpP, Prod.mk.injEq] at hP; obtain ⟨rfl, rfl, rfl, rfl, rfl⟩ := hP; refine ⟨by kernel_rfl, by omega, rfl, rfl, ?_, ?_, ?_, ?_⟩ <;> first | rfl | (simp only [grpE, Nat.reduceAdd, Nat.zero_add] <;> omega) | omega)
  obtain ⟨idx, k1, rfl, k3, k4, k5, k6, k7⟩ := hx
  have W2 := W.move (h' := (h.new (.row 5 [[.int .u8 0, .int .i64 0, .int .i64 0, .int .i64 0, .int .i64 0]] false)).put h.next (.row 5 [partL kk k0 fr sz' pl] false)) (by rw [H.next_put, H.next_new]; omega) (fun m hm => by rw [get_put_ne (by omega), get_new_ne (by omega)])
  obtain ⟨E, h2, r, S, rnd, go, st⟩ := WCtx.round Hh W2 kk k0 fr sz' pl k1 (by omega) k6 k7 (by omega) s6 (by omega)
  have hl := W.hl
  have bl := W.bl
  have rp : readRow 5 [partL kk k0 fr sz' pl] 0 5 = some (partL kk k0 fr sz' pl) := rfl
  have lp : (partL kk k0 fr sz' pl).length = 5 := rfl
  have wp : writeRow 5 [[.int .u8 0, .int .i64 0, .int .i64 0, .int .i64 0, .int .i64 0]] 0 (partL kk k0 fr sz' pl) = some [partL kk k0 fr sz' pl] := rfl
  by_cases hc : fr + sz' ≤ b
  ·obtain ⟨rfl, n2, q2⟩ := go hc
   have q3 : ∀ m, m < h.next → h2.get m = h.get m := fun m hm => by
    rw [q2 m (by rw [H.next_put, H.next_new]; omega), get_put_ne (by omega), get_new_ne (by omega)]
   rw [H.next_put, H.next_new] at n2
   refine Goes.loopQ q108_111122110211112 (Goes.loop ?_)
   refine Goes.seqQ q108_1111221102111122 ?_
   refine Goes.opsQ q108_11112211021111220 fits Hh E0_sound (by
    simp (maxSteps := 999999) +decide (discharger := first | omega | (simp <;> omega) | decide) only [go_sem, q108, Tryz.f108, loadIn, simprocAttr, e0, e69, e70, hl, idx, rp, lp, wp, rnd, opIndex]
    rfl) ?_
   refine Goes.seqQ q108_11112211021111221 ?_
   refine Goes.condTQ q108_111122110211112210 (by simp (maxSteps := 999999) +decide (discharger := first | omega | (simp <;> omega) | decide) only [go_sem, loadIn, simprocAttr, e0, e69, e70, hl, idx, rp, lp, wp, rnd, opIndex] <;> rfl) (by first | rfl | assumption | exact decide_eq_true (by omega) | (simp; omega)) ?_
   refine Goes.skipQ q108_1111221102111122103 ?_
   refine Goes.seqQ q108_111122110211112211 ?_
   refine Goes.blockQ q108_1111221102111122110 (Goes.block ?_)
   refine Goes.seqQ q108_11112211021111221102 ?_
   refine Goes.opsQ q108_111122110211112211020 fits Hh E0_sound (by
    simp (maxSteps := 999999) +decide (discharger := first | omega | (simp <;> omega) | decide) only [go_sem, q108, Tryz.f108, loadIn, simprocAttr, e0, e69, e70, hl, idx, rp, lp, wp, rnd, opIndex]
    rfl) ?_
   refine Goes.seqQ q108_111122110211112211021 ?_
   refine Goes.opsQ q108_1111221102111122110210 fits Hh S (by
    simp (maxSteps := 999999) +decide (discharger := first | omega | (simp <;> omega) | decide) only [go_sem, q108, Tryz.f108, loadIn, simprocAttr, e0, e69, e70, hl, idx, rp, lp, wp, rnd, opIndex]
    rfl) ?_
   refine Goes.condFQ q108_1111221102111122110211 (by simp (maxSteps := 999999) +decide (discharger := first | omega | (simp <;> omega) | decide) only [go_sem, loadIn, simprocAttr, e0, e69, e70, hl, idx, rp, lp, wp, rnd, opIndex] <;> rfl) (by first | rfl | assumption | exact decide_eq_false (by omega) | (simp; omega)) ?_
   refine Goes.skipQ q108_11112211021111221102114 ?_
   refine Goes.opsQ q108_1111221102111122111 fits Hh E0_sound (by
    simp (maxSteps := 999999) +decide (discharger := first | omega | (simp <;> omega) | decide) only [go_sem, q108, Tryz.f108, loadIn, simprocAttr, e0, e69, e70, hl, idx, rp, lp, wp, rnd, opIndex]
    rfl) ?_
   show Goes K Tryz.prog 79 none (.loop (q108 [1,1,1,1,2,2,1,1,0,2,1,1,1,1,2,2])) _ _ _ _
   rw [← q108_111122110211112]
   refine (ih (i + 1) _ h2 (by omega) (by omega) (W.move (by omega) q3) ?_ ?_ ?_).mono ?_
   ·simp (decide := true) only [evalT_set, reduceIte, e0]
   ·simp (decide := true) only [evalT_set, reduceIte, e69]
   ·simp (decide := true) only [evalT_set, reduceIte] <;> rfl
   ·rintro x ds' ts' h' ⟨z1, z2, z3⟩
    refine ⟨z1, fun s hs => (z2 s hs).trans (by rcases hs with hs | rfl | rfl <;> first | (simp (decide := true) only [evalT_low hs]) | (simp (decide := true) only [evalT_set, reduceIte])), ?_⟩
    rcases z3 with ⟨rfl, y1, y2, y3⟩ | ⟨rfl, q, y1, y2, y3, y4⟩
    ·exact .inl ⟨rfl, y1, by omega, fun m hm => (y3 m (by omega)).trans (q3 m hm)⟩
    ·exact .inr ⟨rfl, q, y1, y2, y3, y4.back (by omega) q3⟩
  ·obtain ⟨rfl, A⟩ := st (by omega)
   have A2 := A.back (h0 := h) (by rw [H.next_put, H.next_new]; omega) (fun m hm => by rw [get_put_ne (by omega), get_new_ne (by omega)])
   refine Goes.loopQ q108_111122110211112 (Goes.loop ?_)
   refine Goes.seqQ q108_1111221102111122 ?_
   refine Goes.opsQ q108_11112211021111220 fits Hh E0_sound (by
    simp (maxSteps := 999999) +decide (discharger := first | omega | (simp <;> omega) | decide) only [go_sem, q108, Tryz.f108, loadIn, simprocAttr, e0, e69, e70, hl, idx, rp, lp, wp, rnd, opIndex]
    rfl) ?_
   refine Goes.seqQ q108_11112211021111221 ?_
   refine Goes.condTQ q108_111122110211112210 (by simp (maxSteps := 999999) +decide (discharger := first | omega | (simp <;> omega) | decide) only [go_sem, loadIn, simprocAttr, e0, e69, e70, hl, idx, rp, lp, wp, rnd, opIndex] <;> rfl) (by first | rfl | assumption | exact decide_eq_true (by omega) | (simp; omega)) ?_
   refine Goes.skipQ q108_1111221102111122103 ?_
   refine Goes.seqQ q108_111122110211112211 ?_
   refine Goes.blockQ q108_1111221102111122110 (Goes.block ?_)
   refine Goes.seqQ q108_11112211021111221102 ?_
   refine Goes.opsQ q108_111122110211112211020 fits Hh E0_sound (by
    simp (maxSteps := 999999) +decide (discharger := first | omega | (simp <;> omega) | decide) only [go_sem, q108, Tryz.f108, loadIn, simprocAttr, e0, e69, e70, hl, idx, rp, lp, wp, rnd, opIndex]
    rfl) ?_
   refine Goes.seqQ q108_111122110211112211021 ?_
   refine Goes.opsQ q108_1111221102111122110210 fits Hh S (by
    simp (maxSteps := 999999) +decide (discharger := first | omega | (simp <;> omega) | decide) only [go_sem, q108, Tryz.f108, loadIn, simprocAttr, e0, e69, e70, hl, idx, rp, lp, wp, rnd, opIndex]
    rfl) ?_
   refine Goes.condTQ q108_1111221102111122110211 (by simp (maxSteps := 999999) +decide (discharger := first | omega | (simp <;> omega) | decide) only [go_sem, loadIn, simprocAttr, e0, e69, e70, hl, idx, rp, lp, wp, rnd, opIndex] <;> rfl) (by first | rfl | assumption | exact decide_eq_true (by omega) | (simp; omega)) ?_
   refine Goes.retQ q108_11112211021111221102113 ?_
   refine ⟨rfl, fun s hs => ?_, .inr ⟨rfl, i, by omega, by omega, by omega, ?_⟩⟩
   ·rcases hs with hs | rfl | rfl <;> first | (simp (decide := true) only [evalT_low hs]) | (simp (decide := true) only [evalT_set, reduceIte])
   ·rw [hP]
    rwa [show pl + b - fr = b - grpE sz ino jr k0 0 by omega] at A2
end
end Go.Proofs.YtpiljmilaelfnaaGreatDoor
