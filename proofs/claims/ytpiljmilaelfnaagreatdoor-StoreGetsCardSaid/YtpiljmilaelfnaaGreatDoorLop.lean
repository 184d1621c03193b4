/- StoreGets: the loop that puts and gets. -/
import Derived.Test.YtpiljmilaelfnaaGreatDoorMem2
set_option linter.unusedSimpArgs false
set_option linter.unusedVariables false
set_option linter.unusedSectionVars false
set_option maxRecDepth 100000
namespace Go.Proofs.YtpiljmilaelfnaaGreatDoor
open Go.Ev
theorem ty24 : K.types.get 24 = some ti24 := by kernel_rfl
theorem sz24 : ti24.size = 1 := by rfl
theorem ag24 : ti24.agg = false := by rfl
theorem de24 : ti24.desc = (.slice 35) := by rfl
theorem ze24 : ti24.zero = (.c (.snil)) := by rfl
theorem by24 : ti24.bytes = 24 := by rfl
theorem el24 : elemTI K 24 = some ti35 := by kernel_rfl
theorem ty32 : K.types.get 32 = some ti32 := by kernel_rfl
theorem sz32 : ti32.size = 1 := by rfl
theorem ag32 : ti32.agg = false := by rfl
theorem de32 : ti32.desc = (.int .u64) := by rfl
theorem ze32 : ti32.zero = (.c (.int .u64 0)) := by rfl
theorem by32 : ti32.bytes = 8 := by rfl
theorem ke32 (k : IntKind) (n : Int) : keyT K 20 32 (.c (.int k n)) = true := by kernel_rfl
theorem ty35 : K.types.get 35 = some ti35 := by kernel_rfl
theorem sz35 : ti35.size = 2 := by rfl
theorem ag35 : ti35.agg = true := by rfl
theorem fo35_0 : fieldOf K 35 0 = some (0, ti3) := by kernel_rfl
theorem fo35_1 : fieldOf K 35 1 = some (1, ti33) := by kernel_rfl
theorem bu35 (ps : List (Nat × W)) : opBuild K 35 (some ps) = gW (fillStruct K 35 ps ti35.zero.cells) := by kernel_rfl
theorem ze35 : ti35.zero = (.g ([.int .i64 0, .int .u32 0])) := by rfl
theorem by35 : ti35.bytes = 16 := by rfl
attribute [go_sem] ty24 sz24 ag24 de24 ze24 by24 el24 ty32 sz32 ag32 de32 ze32 by32 ke32 ty35 sz35 ag35 fo35_0 fo35_1 bu35 ze35 by35
noncomputable def q3 (p : List Nat) : Code := piece p (bodyOf Tryz.f3)
theorem q3_ : q3 [] = .seq (q3 [0]) (q3 [1]) := by kernel_rfl
theorem q3_0 : q3 [0] = .region 0 (opsA (q3 [0])) false := by kernel_rfl
theorem q3_1 : q3 [1] = .seq (q3 [1,0]) (q3 [1,1]) := by kernel_rfl
theorem q3_10 : q3 [1,0] = .seq (q3 [1,0,0]) (q3 [1,0,1]) := by kernel_rfl
theorem q3_100 : q3 [1,0,0] = .region 1 (opsA (q3 [1,0,0])) false := by kernel_rfl
theorem q3_101 : q3 [1,0,1] = .cond (.tmp 40) (q3 [1,0,1,3]) (q3 [1,0,1,4]) := by kernel_rfl
theorem q3_1013 : q3 [1,0,1,3] = .seq (q3 [1,0,1,3,0]) (q3 [1,0,1,3,1]) := by kernel_rfl
theorem q3_10130 : q3 [1,0,1,3,0] = .region 2 (opsA (q3 [1,0,1,3,0])) false := by kernel_rfl
theorem q3_10131 : q3 [1,0,1,3,1] = .ret := by kernel_rfl
theorem q3_1014 : q3 [1,0,1,4] = .skip := by kernel_rfl
theorem q3_11 : q3 [1,1] = .seq (q3 [1,1,0]) (q3 [1,1,1]) := by kernel_rfl
theorem q3_110 : q3 [1,1,0] = .region 3 (opsA (q3 [1,1,0])) false := by kernel_rfl
theorem q3_111 : q3 [1,1,1] = .seq (q3 [1,1,1,0]) (q3 [1,1,1,1]) := by kernel_rfl
theorem q3_1110 : q3 [1,1,1,0] = .seq (q3 [1,1,1,0,0]) (q3 [1,1,1,0,1]) := by kernel_rfl
theorem q3_11100 : q3 [1,1,1,0,0] = .region 4 (opsA (q3 [1,1,1,0,0])) false := by kernel_rfl
theorem q3_11101 : q3 [1,1,1,0,1] = .cond (.tmp 53) (q3 [1,1,1,0,1,3]) (q3 [1,1,1,0,1,4]) := by kernel_rfl
theorem q3_111014 : q3 [1,1,1,0,1,4] = .skip := by kernel_rfl
theorem q3_1111 : q3 [1,1,1,1] = .seq (q3 [1,1,1,1,0]) (q3 [1,1,1,1,1]) := by kernel_rfl
theorem q3_11110 : q3 [1,1,1,1,0] = .region 6 (opsA (q3 [1,1,1,1,0])) false := by kernel_rfl
theorem q3_11111 : q3 [1,1,1,1,1] = .seq (q3 [1,1,1,1,1,0]) (q3 [1,1,1,1,1,1]) := by kernel_rfl
theorem q3_111110 : q3 [1,1,1,1,1,0] = .region 7 (opsA (q3 [1,1,1,1,1,0])) false := by kernel_rfl
theorem q3_111111 : q3 [1,1,1,1,1,1] = .seq (q3 [1,1,1,1,1,1,0]) (q3 [1,1,1,1,1,1,1]) := by kernel_rfl
theorem q3_1111110 : q3 [1,1,1,1,1,1,0] = .region 8 (opsA (q3 [1,1,1,1,1,1,0])) false := by kernel_rfl
theorem q3_1111111 : q3 [1,1,1,1,1,1,1] = .seq (q3 [1,1,1,1,1,1,1,0]) (q3 [1,1,1,1,1,1,1,1]) := by kernel_rfl
theorem q3_11111110 : q3 [1,1,1,1,1,1,1,0] = .seq (q3 [1,1,1,1,1,1,1,0,0]) (q3 [1,1,1,1,1,1,1,0,1]) := by kernel_rfl
theorem q3_111111100 : q3 [1,1,1,1,1,1,1,0,0] = .region 9 (opsA (q3 [1,1,1,1,1,1,1,0,0])) false := by kernel_rfl
theorem q3_111111101 : q3 [1,1,1,1,1,1,1,0,1] = .block 0 (q3 [1,1,1,1,1,1,1,0,1,2]) := by kernel_rfl
theorem q3_1111111012 : q3 [1,1,1,1,1,1,1,0,1,2] = .loop (q3 [1,1,1,1,1,1,1,0,1,2,2]) := by kernel_rfl
theorem q3_11111110122 : q3 [1,1,1,1,1,1,1,0,1,2,2] = .seq (q3 [1,1,1,1,1,1,1,0,1,2,2,0]) (q3 [1,1,1,1,1,1,1,0,1,2,2,1]) := by kernel_rfl
theorem q3_111111101220 : q3 [1,1,1,1,1,1,1,0,1,2,2,0] = .seq (q3 [1,1,1,1,1,1,1,0,1,2,2,0,0]) (q3 [1,1,1,1,1,1,1,0,1,2,2,0,1]) := by kernel_rfl
theorem q3_1111111012200 : q3 [1,1,1,1,1,1,1,0,1,2,2,0,0] = .region 10 (opsA (q3 [1,1,1,1,1,1,1,0,1,2,2,0,0])) false := by kernel_rfl
theorem q3_1111111012201 : q3 [1,1,1,1,1,1,1,0,1,2,2,0,1] = .cond (.tmp 67) (q3 [1,1,1,1,1,1,1,0,1,2,2,0,1,3]) (q3 [1,1,1,1,1,1,1,0,1,2,2,0,1,4]) := by kernel_rfl
theorem q3_11111110122013 : q3 [1,1,1,1,1,1,1,0,1,2,2,0,1,3] = .skip := by kernel_rfl
theorem q3_11111110122014 : q3 [1,1,1,1,1,1,1,0,1,2,2,0,1,4] = .exit 0 := by kernel_rfl
theorem q3_111111101221 : q3 [1,1,1,1,1,1,1,0,1,2,2,1] = .seq (q3 [1,1,1,1,1,1,1,0,1,2,2,1,0]) (q3 [1,1,1,1,1,1,1,0,1,2,2,1,1]) := by kernel_rfl
theorem q3_1111111012210 : q3 [1,1,1,1,1,1,1,0,1,2,2,1,0] = .block 1 (q3 [1,1,1,1,1,1,1,0,1,2,2,1,0,2]) := by kernel_rfl
theorem q3_11111110122102 : q3 [1,1,1,1,1,1,1,0,1,2,2,1,0,2] = .seq (q3 [1,1,1,1,1,1,1,0,1,2,2,1,0,2,0]) (q3 [1,1,1,1,1,1,1,0,1,2,2,1,0,2,1]) := by kernel_rfl
theorem q3_111111101221020 : q3 [1,1,1,1,1,1,1,0,1,2,2,1,0,2,0] = .region 12 (opsA (q3 [1,1,1,1,1,1,1,0,1,2,2,1,0,2,0])) false := by kernel_rfl
theorem q3_111111101221021 : q3 [1,1,1,1,1,1,1,0,1,2,2,1,0,2,1] = .seq (q3 [1,1,1,1,1,1,1,0,1,2,2,1,0,2,1,0]) (q3 [1,1,1,1,1,1,1,0,1,2,2,1,0,2,1,1]) := by kernel_rfl
theorem q3_1111111012210210 : q3 [1,1,1,1,1,1,1,0,1,2,2,1,0,2,1,0] = .region 13 (opsA (q3 [1,1,1,1,1,1,1,0,1,2,2,1,0,2,1,0])) false := by kernel_rfl
theorem q3_1111111012210211 : q3 [1,1,1,1,1,1,1,0,1,2,2,1,0,2,1,1] = .seq (q3 [1,1,1,1,1,1,1,0,1,2,2,1,0,2,1,1,0]) (q3 [1,1,1,1,1,1,1,0,1,2,2,1,0,2,1,1,1]) := by kernel_rfl
theorem q3_11111110122102110 : q3 [1,1,1,1,1,1,1,0,1,2,2,1,0,2,1,1,0] = .seq (q3 [1,1,1,1,1,1,1,0,1,2,2,1,0,2,1,1,0,0]) (q3 [1,1,1,1,1,1,1,0,1,2,2,1,0,2,1,1,0,1]) := by kernel_rfl
theorem q3_111111101221021100 : q3 [1,1,1,1,1,1,1,0,1,2,2,1,0,2,1,1,0,0] = .region 14 (opsA (q3 [1,1,1,1,1,1,1,0,1,2,2,1,0,2,1,1,0,0])) false := by kernel_rfl
theorem q3_111111101221021101 : q3 [1,1,1,1,1,1,1,0,1,2,2,1,0,2,1,1,0,1] = .cond (.tmp 82) (q3 [1,1,1,1,1,1,1,0,1,2,2,1,0,2,1,1,0,1,3]) (q3 [1,1,1,1,1,1,1,0,1,2,2,1,0,2,1,1,0,1,4]) := by kernel_rfl
theorem q3_1111111012210211013 : q3 [1,1,1,1,1,1,1,0,1,2,2,1,0,2,1,1,0,1,3] = .region 15 (opsA (q3 [1,1,1,1,1,1,1,0,1,2,2,1,0,2,1,1,0,1,3])) false := by kernel_rfl
theorem q3_1111111012210211014 : q3 [1,1,1,1,1,1,1,0,1,2,2,1,0,2,1,1,0,1,4] = .region 16 (opsA (q3 [1,1,1,1,1,1,1,0,1,2,2,1,0,2,1,1,0,1,4])) false := by kernel_rfl
theorem q3_11111110122102111 : q3 [1,1,1,1,1,1,1,0,1,2,2,1,0,2,1,1,1] = .seq (q3 [1,1,1,1,1,1,1,0,1,2,2,1,0,2,1,1,1,0]) (q3 [1,1,1,1,1,1,1,0,1,2,2,1,0,2,1,1,1,1]) := by kernel_rfl
theorem q3_111111101221021110 : q3 [1,1,1,1,1,1,1,0,1,2,2,1,0,2,1,1,1,0] = .seq (q3 [1,1,1,1,1,1,1,0,1,2,2,1,0,2,1,1,1,0,0]) (q3 [1,1,1,1,1,1,1,0,1,2,2,1,0,2,1,1,1,0,1]) := by kernel_rfl
theorem q3_1111111012210211100 : q3 [1,1,1,1,1,1,1,0,1,2,2,1,0,2,1,1,1,0,0] = .region 17 (opsA (q3 [1,1,1,1,1,1,1,0,1,2,2,1,0,2,1,1,1,0,0])) false := by kernel_rfl
theorem q3_1111111012210211101 : q3 [1,1,1,1,1,1,1,0,1,2,2,1,0,2,1,1,1,0,1] = .cond (.tmp 106) (q3 [1,1,1,1,1,1,1,0,1,2,2,1,0,2,1,1,1,0,1,3]) (q3 [1,1,1,1,1,1,1,0,1,2,2,1,0,2,1,1,1,0,1,4]) := by kernel_rfl
theorem q3_11111110122102111014 : q3 [1,1,1,1,1,1,1,0,1,2,2,1,0,2,1,1,1,0,1,4] = .skip := by kernel_rfl
theorem q3_111111101221021111 : q3 [1,1,1,1,1,1,1,0,1,2,2,1,0,2,1,1,1,1] = .seq (q3 [1,1,1,1,1,1,1,0,1,2,2,1,0,2,1,1,1,1,0]) (q3 [1,1,1,1,1,1,1,0,1,2,2,1,0,2,1,1,1,1,1]) := by kernel_rfl
theorem q3_1111111012210211110 : q3 [1,1,1,1,1,1,1,0,1,2,2,1,0,2,1,1,1,1,0] = .region 19 (opsA (q3 [1,1,1,1,1,1,1,0,1,2,2,1,0,2,1,1,1,1,0])) false := by kernel_rfl
theorem q3_1111111012210211111 : q3 [1,1,1,1,1,1,1,0,1,2,2,1,0,2,1,1,1,1,1] = .seq (q3 [1,1,1,1,1,1,1,0,1,2,2,1,0,2,1,1,1,1,1,0]) (q3 [1,1,1,1,1,1,1,0,1,2,2,1,0,2,1,1,1,1,1,1]) := by kernel_rfl
theorem q3_11111110122102111110 : q3 [1,1,1,1,1,1,1,0,1,2,2,1,0,2,1,1,1,1,1,0] = .region 20 (opsA (q3 [1,1,1,1,1,1,1,0,1,2,2,1,0,2,1,1,1,1,1,0])) false := by kernel_rfl
theorem q3_11111110122102111111 : q3 [1,1,1,1,1,1,1,0,1,2,2,1,0,2,1,1,1,1,1,1] = .seq (q3 [1,1,1,1,1,1,1,0,1,2,2,1,0,2,1,1,1,1,1,1,0]) (q3 [1,1,1,1,1,1,1,0,1,2,2,1,0,2,1,1,1,1,1,1,1]) := by kernel_rfl
theorem q3_111111101221021111110 : q3 [1,1,1,1,1,1,1,0,1,2,2,1,0,2,1,1,1,1,1,1,0] = .region 21 (opsA (q3 [1,1,1,1,1,1,1,0,1,2,2,1,0,2,1,1,1,1,1,1,0])) true := by kernel_rfl
theorem q3_111111101221021111111 : q3 [1,1,1,1,1,1,1,0,1,2,2,1,0,2,1,1,1,1,1,1,1] = .cond (.tmp 133) (q3 [1,1,1,1,1,1,1,0,1,2,2,1,0,2,1,1,1,1,1,1,1,3]) (q3 [1,1,1,1,1,1,1,0,1,2,2,1,0,2,1,1,1,1,1,1,1,4]) := by kernel_rfl
theorem q3_1111111012210211111114 : q3 [1,1,1,1,1,1,1,0,1,2,2,1,0,2,1,1,1,1,1,1,1,4] = .skip := by kernel_rfl
theorem q3_1111111012211 : q3 [1,1,1,1,1,1,1,0,1,2,2,1,1] = .region 11 (opsA (q3 [1,1,1,1,1,1,1,0,1,2,2,1,1])) false := by kernel_rfl
theorem q3_11111111 : q3 [1,1,1,1,1,1,1,1] = .seq (q3 [1,1,1,1,1,1,1,1,0]) (q3 [1,1,1,1,1,1,1,1,1]) := by kernel_rfl
theorem q3_111111110 : q3 [1,1,1,1,1,1,1,1,0] = .seq (q3 [1,1,1,1,1,1,1,1,0,0]) (q3 [1,1,1,1,1,1,1,1,0,1]) := by kernel_rfl
theorem q3_1111111100 : q3 [1,1,1,1,1,1,1,1,0,0] = .region 23 (opsA (q3 [1,1,1,1,1,1,1,1,0,0])) false := by kernel_rfl
theorem q3_1111111101 : q3 [1,1,1,1,1,1,1,1,0,1] = .cond (.tmp 136) (q3 [1,1,1,1,1,1,1,1,0,1,3]) (q3 [1,1,1,1,1,1,1,1,0,1,4]) := by kernel_rfl
theorem q3_11111111014 : q3 [1,1,1,1,1,1,1,1,0,1,4] = .skip := by kernel_rfl
theorem q3_111111111 : q3 [1,1,1,1,1,1,1,1,1] = .seq (q3 [1,1,1,1,1,1,1,1,1,0]) (q3 [1,1,1,1,1,1,1,1,1,1]) := by kernel_rfl
theorem q3_1111111110 : q3 [1,1,1,1,1,1,1,1,1,0] = .seq (q3 [1,1,1,1,1,1,1,1,1,0,0]) (q3 [1,1,1,1,1,1,1,1,1,0,1]) := by kernel_rfl
theorem q3_11111111100 : q3 [1,1,1,1,1,1,1,1,1,0,0] = .region 25 (opsA (q3 [1,1,1,1,1,1,1,1,1,0,0])) false := by kernel_rfl
theorem q3_11111111101 : q3 [1,1,1,1,1,1,1,1,1,0,1] = .block 2 (q3 [1,1,1,1,1,1,1,1,1,0,1,2]) := by kernel_rfl
theorem q3_111111111012 : q3 [1,1,1,1,1,1,1,1,1,0,1,2] = .loop (q3 [1,1,1,1,1,1,1,1,1,0,1,2,2]) := by kernel_rfl
theorem q3_1111111110122 : q3 [1,1,1,1,1,1,1,1,1,0,1,2,2] = .seq (q3 [1,1,1,1,1,1,1,1,1,0,1,2,2,0]) (q3 [1,1,1,1,1,1,1,1,1,0,1,2,2,1]) := by kernel_rfl
theorem q3_11111111101220 : q3 [1,1,1,1,1,1,1,1,1,0,1,2,2,0] = .seq (q3 [1,1,1,1,1,1,1,1,1,0,1,2,2,0,0]) (q3 [1,1,1,1,1,1,1,1,1,0,1,2,2,0,1]) := by kernel_rfl
theorem q3_111111111012200 : q3 [1,1,1,1,1,1,1,1,1,0,1,2,2,0,0] = .region 26 (opsA (q3 [1,1,1,1,1,1,1,1,1,0,1,2,2,0,0])) false := by kernel_rfl
theorem q3_111111111012201 : q3 [1,1,1,1,1,1,1,1,1,0,1,2,2,0,1] = .cond (.tmp 139) (q3 [1,1,1,1,1,1,1,1,1,0,1,2,2,0,1,3]) (q3 [1,1,1,1,1,1,1,1,1,0,1,2,2,0,1,4]) := by kernel_rfl
theorem q3_1111111110122013 : q3 [1,1,1,1,1,1,1,1,1,0,1,2,2,0,1,3] = .skip := by kernel_rfl
theorem q3_1111111110122014 : q3 [1,1,1,1,1,1,1,1,1,0,1,2,2,0,1,4] = .exit 2 := by kernel_rfl
theorem q3_11111111101221 : q3 [1,1,1,1,1,1,1,1,1,0,1,2,2,1] = .seq (q3 [1,1,1,1,1,1,1,1,1,0,1,2,2,1,0]) (q3 [1,1,1,1,1,1,1,1,1,0,1,2,2,1,1]) := by kernel_rfl
theorem q3_111111111012210 : q3 [1,1,1,1,1,1,1,1,1,0,1,2,2,1,0] = .block 3 (q3 [1,1,1,1,1,1,1,1,1,0,1,2,2,1,0,2]) := by kernel_rfl
theorem q3_1111111110122102 : q3 [1,1,1,1,1,1,1,1,1,0,1,2,2,1,0,2] = .seq (q3 [1,1,1,1,1,1,1,1,1,0,1,2,2,1,0,2,0]) (q3 [1,1,1,1,1,1,1,1,1,0,1,2,2,1,0,2,1]) := by kernel_rfl
theorem q3_11111111101221020 : q3 [1,1,1,1,1,1,1,1,1,0,1,2,2,1,0,2,0] = .region 28 (opsA (q3 [1,1,1,1,1,1,1,1,1,0,1,2,2,1,0,2,0])) false := by kernel_rfl
theorem q3_11111111101221021 : q3 [1,1,1,1,1,1,1,1,1,0,1,2,2,1,0,2,1] = .seq (q3 [1,1,1,1,1,1,1,1,1,0,1,2,2,1,0,2,1,0]) (q3 [1,1,1,1,1,1,1,1,1,0,1,2,2,1,0,2,1,1]) := by kernel_rfl
theorem q3_111111111012210210 : q3 [1,1,1,1,1,1,1,1,1,0,1,2,2,1,0,2,1,0] = .region 29 (opsA (q3 [1,1,1,1,1,1,1,1,1,0,1,2,2,1,0,2,1,0])) true := by kernel_rfl
theorem q3_111111111012210211 : q3 [1,1,1,1,1,1,1,1,1,0,1,2,2,1,0,2,1,1] = .cond (.tmp 159) (q3 [1,1,1,1,1,1,1,1,1,0,1,2,2,1,0,2,1,1,3]) (q3 [1,1,1,1,1,1,1,1,1,0,1,2,2,1,0,2,1,1,4]) := by kernel_rfl
theorem q3_1111111110122102114 : q3 [1,1,1,1,1,1,1,1,1,0,1,2,2,1,0,2,1,1,4] = .skip := by kernel_rfl
theorem q3_111111111012211 : q3 [1,1,1,1,1,1,1,1,1,0,1,2,2,1,1] = .region 27 (opsA (q3 [1,1,1,1,1,1,1,1,1,0,1,2,2,1,1])) false := by kernel_rfl
theorem q3_1111111111 : q3 [1,1,1,1,1,1,1,1,1,1] = .seq (q3 [1,1,1,1,1,1,1,1,1,1,0]) (q3 [1,1,1,1,1,1,1,1,1,1,1]) := by kernel_rfl
theorem q3_11111111110 : q3 [1,1,1,1,1,1,1,1,1,1,0] = .region 31 (opsA (q3 [1,1,1,1,1,1,1,1,1,1,0])) false := by kernel_rfl
theorem q3_11111111111 : q3 [1,1,1,1,1,1,1,1,1,1,1] = .seq (q3 [1,1,1,1,1,1,1,1,1,1,1,0]) (q3 [1,1,1,1,1,1,1,1,1,1,1,1]) := by kernel_rfl
theorem q3_111111111110 : q3 [1,1,1,1,1,1,1,1,1,1,1,0] = .region 32 (opsA (q3 [1,1,1,1,1,1,1,1,1,1,1,0])) false := by kernel_rfl
theorem q3_111111111111 : q3 [1,1,1,1,1,1,1,1,1,1,1,1] = .seq (q3 [1,1,1,1,1,1,1,1,1,1,1,1,0]) (q3 [1,1,1,1,1,1,1,1,1,1,1,1,1]) := by kernel_rfl
theorem q3_1111111111110 : q3 [1,1,1,1,1,1,1,1,1,1,1,1,0] = .region 33 (opsA (q3 [1,1,1,1,1,1,1,1,1,1,1,1,0])) false := by kernel_rfl
theorem q3_1111111111111 : q3 [1,1,1,1,1,1,1,1,1,1,1,1,1] = .ret := by kernel_rfl
theorem rs3 : Tryz.f3.results.toList = [.tmp 8] := rfl
attribute [go_sem] rs3
theorem lfPuts (p o l : Nat) : lenFits K 24 (.c (.slice p o l 2)) = true := by kernel_rfl
theorem lfPuts0 : lenFits K 24 (.c .snil) = true := by kernel_rfl
theorem wrapU64M (z : Int) : wrapC .u64 z = .int .u64 ((z % 18446744073709551616).toNat : Int) := by
 unfold wrapC IntKind.wrap
 congr 1
 show (z % 18446744073709551616) = _
 have := Int.emod_nonneg z (show (18446744073709551616 : Int) ≠ 0 by decide)
 omega
section
variable {n a b c e : Nat} {md : Int} {kn : Bool} {ld lt lc : Ents} {L : List (List C)} {h : Go.Ev.H}
theorem Mem.high (M : Mem n a b c e md kn ld lt lc L h) (o o' : O) : Mem n a b c e md kn ld lt lc L ((h.new o).put h.next o') := by
 obtain ⟨⟨t0, t1, t2, t3, t4, t5, t6, t7, t8, t9, t10, t11, t12, t13⟩, q1, q2, q3, q4, q5⟩ := M
 have mk : ∀ m x, m < n + 33 → h.get m = some x → ((h.new o).put h.next o').get m = some x := fun m x hm hx => by
  rw [get_put_ne (by omega), get_new_ne (by omega)]
  exact hx
 refine ⟨⟨fun m x hx => ?_, by rw [H.next_put, H.next_new]; omega, mk _ _ (by omega) t2, mk _ _ (by omega) t3, mk _ _ (by omega) t4, mk _ _ (by omega) t5, mk _ _ (by omega) t6, mk _ _ (by omega) t7, mk _ _ (by omega) t8, mk _ _ (by omega) t9, mk _ _ (by omega) t10, mk _ _ (by omega) t11, mk _ _ (by omega) t12, mk _ _ (by omega) t13⟩, mk _ _ (by omega) q1, mk _ _ (by omega) q2, mk _ _ (by omega) q3, mk _ _ (by omega) q4, mk _ _ (by omega) q5⟩
 rw [H.next_put, H.next_new]
 rw [H.get_put] at hx
 split at hx
 ·omega
 ·rw [H.get_new] at hx
  split at hx
  ·omega
  ·have := t0 m x hx; omega
theorem putM_get (lt' lc' : Ents) {m : Nat} (hm : m < n) : (putM n lt' lc' h).get m = h.get m := by
 unfold putM
 rw [get_put_ne (by omega), get_put_ne (by omega), get_put_ne (by omega), get_put_ne (by omega)]
end
section
variable (Hh : Hearts K Tryz.prog)
include Hh
theorem getGood {n a b c e : Nat} {md : Int} {kn : Bool} {ld lt lc : Ents} {L : List (List C)} {h : Go.Ev.H} (F : Fine a b c e) (M : Mem n a b c e md kn ld lt lc L h) {j : Nat} (hj : j < a * b) {x : List C} (bx : BlkOk x)
  (q : (lookE (zN e j) ld = none ∧ lookE (zN e j) lc = some x) ∨ lookE (zN e j) ld = some (.int .i64 (zN e j) :: x)) : CallOk K Tryz.prog 10 [.c (.ptr (n + 13) 0), .c (.int .i64 (zN e j))] h (.tup [.g x, .c (.int .i64 0)]) h := by
 have F' := F
 obtain ⟨g1, g2, g3, g4, g5, g6, g7, g8, g9, g10, g11⟩ := F'
 have z1 : zN e j < 9223372036854775808 := by unfold zN; omega
 rcases q with ⟨q1, q2⟩ | q
 ·exact xSGet_ok Hh (M.xGetT (fine_fineB F) (ours_in F hj) z1 q1 q2 bx.1 bx.2.1)
 ·exact xSGet_ok Hh (M.xGetD (fine_fineB F) (ours_in F hj) z1 q bx.1 bx.2.1)
theorem putOdd {n a b c e : Nat} {md : Int} {kn : Bool} {i pl : Nat} {ld lt lc : Ents} {L : List (List C)} {h : Go.Ev.H} (F : Fine a b c e) (M : Mem n a b c e md kn ld lt lc L h) (G : Good (a * b) e md i ld lt lc L) (hi : i < 30) (hp : pl < n) {j : Nat} (hj : j < a * b) (ho : j % 2 = 1) {x : List C} (bx : BlkOk x) :
  ∃ h2 kn2 ld2 lt2 lc2, CallOk K Tryz.prog 7 [.c (.ptr (n + 13) 0), .c (.int .i64 (zN e j)), .g x] h (.w (.c (.int .i64 0))) h2 ∧ Mem n a b c e md kn2 ld2 lt2 lc2 L h2 ∧ Good (a * b) e md (i + 1) ld2 lt2 lc2 (L.set j x) ∧ h2.get pl = h.get pl ∧ ((lookE (zN e j) ld2 = none ∧ lookE (zN e j) lc2 = some x) ∨ lookE (zN e j) ld2 = some (.int .i64 (zN e j) :: x)) := by
 have F' := F
 obtain ⟨g1, g2, g3, g4, g5, g6, g7, g8, g9, g10, g11⟩ := F'
 have z1 : zN e j < 9223372036854775808 := by unfold zN; omega
 have z0 : 0 ≤ zN e j := by unfold zN; omega
 by_cases m3 : md = 3
 ·have k := xSPutData_ok Hh (M.xData3 (fine_fineB F) m3 (ours_in F hj) z0 z1 bx.1 bx.2.1 G.ft G.fc (G.tk _) (by have := G.tl; omega))
  refine ⟨_, _, _, _, _, k, M.txn _ _, G.txn hj (.inl m3) bx, putM_get _ _ hp, .inl ⟨?_, by rw [look_upd, if_pos rfl]⟩⟩
  obtain ⟨y, _, _, q, _⟩ := G.el j hj
  exact (q (.inl m3)).1
 ·have no : ¬(md = 3 ∨ j % 2 = 0) := by rintro (h | h) <;> omega
  have k := xSPutData_ok Hh (M.xData (fine_fineB F) m3 (ours_in F hj) z1 bx.1 bx.2.1 G.fd)
  refine ⟨_, _, _, _, _, k, M.data _, G.data hj no bx (by omega), get_put_ne (by omega), .inr (by rw [look_upd, if_pos rfl])⟩
theorem putEven {n a b c e : Nat} {md : Int} {kn : Bool} {i pl : Nat} {ld lt lc : Ents} {L : List (List C)} {h : Go.Ev.H} (F : Fine a b c e) (M : Mem n a b c e md kn ld lt lc L h) (G : Good (a * b) e md i ld lt lc L) (hi : i < 30) (hp : pl < n) {j : Nat} (hj : j < a * b) (ho : j % 2 = 0) {x : List C} (bx : BlkOk x) :
  ∃ h2 kn2 ld2 lt2 lc2, CallOk K Tryz.prog 9 [.c (.ptr (n + 13) 0), .c (.int .i64 (zN e j)), .g x] h (.w (.c (.int .i64 0))) h2 ∧ Mem n a b c e md kn2 ld2 lt2 lc2 L h2 ∧ Good (a * b) e md (i + 1) ld2 lt2 lc2 (L.set j x) ∧ h2.get pl = h.get pl ∧ ((lookE (zN e j) ld2 = none ∧ lookE (zN e j) lc2 = some x) ∨ lookE (zN e j) ld2 = some (.int .i64 (zN e j) :: x)) := by
 have F' := F
 obtain ⟨g1, g2, g3, g4, g5, g6, g7, g8, g9, g10, g11⟩ := F'
 have z1 : zN e j < 9223372036854775808 := by unfold zN; omega
 have z0 : 0 ≤ zN e j := by unfold zN; omega
 have k := xSPut_ok Hh (M.xPut (fine_fineB F) (ours_in F hj) z0 z1 bx.1 bx.2.1 G.ft G.fc (G.tk _) (by have := G.tl; omega))
 refine ⟨_, _, _, _, _, k, M.txn _ _, G.txn hj (.inr ho) bx, putM_get _ _ hp, .inl ⟨?_, by rw [look_upd, if_pos rfl]⟩⟩
 obtain ⟨y, _, _, q, _⟩ := G.el j hj
 exact (q (.inr ho)).1
def Slots (n m e : Nat) (other : Int) (ts : Tmps) : Prop := evalT ts 3 = .w (.c (.int .i64 other)) ∧ evalT ts 9 = .w (.c (.ptr (n + 13) 0)) ∧ evalT ts 11 = .w (.c (.int .i64 ((2 + e : Nat) : Int))) ∧ evalT ts 12 = .w (.c (.int .i64 ((m : Nat) : Int))) ∧ evalT ts 13 = .w (.c (.slice (n + 32) 0 m 256))
set_option maxHeartbeats 4000000 in
theorem lop1 {n a b c e : Nat} {md other : Int} (F : Fine a b c e) {pl : Nat} {PL : List (List C)} {ro : Bool} (hp : pl < n) (hPL : ∀ p ∈ PL, ∃ (B : Int) (f : Nat), p = [.int .i64 B, .int .u32 (f : Int)]) (hlen : PL.length ≤ 30) : ∀ (rest : List (List C)) (i : Nat) (kn : Bool) (ld lt lc : Ents) (L : List (List C)) (ts : Tmps) (h : Go.Ev.H), PL.drop i = rest → i ≤ 30 → Mem n a b c e md kn ld lt lc L h → Good (a * b) e md i ld lt lc L → h.get pl = some (.row 2 PL ro) →
  Slots n (a * b) e other ts → evalT ts 2 = .w (.c (.slice pl 0 PL.length 2)) → evalT ts 14 = .w (.c (.int .i64 (i : Nat))) →
  Goes K Tryz.prog 188 none (q3 [1,1,1,1,1,1,1,0,1,2]) [] ts h fun x ds' ts' h' => x = .exit 0 ∧ ds' = [] ∧ Slots n (a * b) e other ts' ∧ ∃ kn ld lt lc L i, i ≤ 30 ∧ Mem n a b c e md kn ld lt lc L h' ∧ Good (a * b) e md i ld lt lc L := by
 have F' := F
 obtain ⟨g1, g2, g3, g4, g5, g6, g7, g8, g9, g10, g11⟩ := F'
 intro rest
 induction rest with
 | nil =>
  intro i kn ld lt lc L ts h hr iL M G hpl S s2 s14
  have il : PL.length ≤ i := by
   have := congrArg List.length hr
   rw [List.length_drop] at this
   simp only [List.length_nil] at this
   omega
  obtain ⟨s3, s9, s11, s12, s13⟩ := S
  have lf := lfPuts
  refine Goes.loopQ q3_1111111012 (Goes.loop ?_)
  refine Goes.seqQ q3_11111110122 ?_
  refine Goes.seqQ q3_111111101220 ?_
  refine Goes.opsQ q3_1111111012200 fits Hh E0_sound (by
   simp (maxSteps := 999999) +decide (discharger := first | omega | (simp only [lens] <;> omega) | decide) only [go_sem, q3, Tryz.f3, readRow, loadIn, simprocAttr, s2, s14, lf, opBuiltin, opLen]
   rfl) ?_
  refine Goes.condFQ q3_1111111012201 (by simp (maxSteps := 999999) +decide (discharger := first | omega | (simp only [lens] <;> omega) | decide) only [go_sem, readRow, loadIn, simprocAttr, s2, s14, lf, opBuiltin, opLen] <;> rfl) (by first | rfl | assumption | exact decide_eq_false (by omega) | (simp; omega)) ?_
  refine Goes.exitQ q3_11111110122014 ?_
  refine ⟨rfl, rfl, ⟨?_, ?_, ?_, ?_, ?_⟩, _, _, _, _, _, _, iL, M, G⟩
  ·simp (decide := true) only [evalT_set, reduceIte, s3]
  ·simp (decide := true) only [evalT_set, reduceIte, s9]
  ·simp (decide := true) only [evalT_set, reduceIte, s11]
  ·simp (decide := true) only [evalT_set, reduceIte, s12]
  ·simp (decide := true) only [evalT_set, reduceIte, s13]
 | cons p rest ih =>
  intro i kn ld lt lc L ts h hr iL M G hpl S s2 s14
  obtain ⟨s3, s9, s11, s12, s13⟩ := S
  have hi : PL[i]? = some p := by
   have := congrArg (fun l => l[0]?) hr
   simpa [List.getElem?_drop] using this
  have il : i < PL.length := by
   rcases Nat.lt_or_ge i PL.length with h1 | h1
   ·exact h1
   ·rw [List.getElem?_eq_none h1] at hi; cases hi
  have hr' : PL.drop (i + 1) = rest := by
   rw [List.drop_eq_getElem_cons il] at hr
   exact (List.cons.inj hr).2
  obtain ⟨B, f, rfl⟩ := hPL p (List.mem_of_getElem? hi)
  have r0 : read1 2 PL (i * 2) = some (.int .i64 B) := read1_el (sz := 2) (j := 0) (by omega) hi
  have r1 : read1 2 PL (i * 2 + 1) = some (.int .u32 (f : Int)) := read1_el (sz := 2) (j := 1) (by omega) hi
  have lf := lfPuts
  have m0 : 0 < a * b := Nat.mul_pos (by omega) (by omega)
  have m1 : a * b ≤ 2048 := by omega
  obtain ⟨u, hu⟩ : ∃ u, (B % 18446744073709551616).toNat = u := ⟨_, rfl⟩
  have w1 : wrapC .u64 B = .int .u64 (u : Int) := by rw [wrapU64M, hu]
  obtain ⟨j, hj⟩ : ∃ j, u % (a * b) = j := ⟨_, rfl⟩
  have jl : j < a * b := by rw [← hj]; exact Nat.mod_lt _ m0
  have w2 : opRem .u64 (u : Int) ((a * b : Nat) : Int) = some (.int .u64 (j : Int)) := by rw [rem_nat m0, hj]
  have e1 : ((i : Int) + 1) = ((i + 1 : Nat) : Int) := rfl
  have ez : ((2 + e : Nat) : Int) + (j : Int) = zN e j := by unfold zN; omega
  have wz : wrapC .i64 (zN e j) = .int .i64 (zN e j) := wrapI64 (by unfold zN; omega)
  have bx := blk_fill f
  have cF : ∀ h, CallOk K Tryz.prog 8 [.c (.int .u32 (f : Int))] h (.w (.g (fillB f))) h := fun h => xFill_ok Hh (by show askB (decide (0 ≤ (f : Int))) (some (V.w (W.g (fillB (f : Int).toNat)), h)) = _; rw [decide_eq_true (by omega : (0 : Int) ≤ (f : Int)), askB_true, Int.toNat_natCast])
  have Ll := G.len
  have jL : j < L.length := by omega
  obtain ⟨y, hy⟩ : ∃ y, L[j]? = some y := ⟨_, List.getElem?_eq_getElem jL⟩
  have yl : y.length = 256 := by
   obtain ⟨y', hy', by', _⟩ := G.el j jl
   rw [hy] at hy'
   cases hy'
   exact by'.1
  have wr : writeRow 256 L (j * 256) (fillB f) = some (L.set j (fillB f)) := writeRow_el bx.1 (by omega) hy yl
  have rd : readRow 256 (L.set j (fillB f)) (j * 256) 256 = some (fillB f) := readRow_el (by omega) (by rw [List.getElem?_set, if_pos rfl, if_pos jL]) bx.1
  have fl := bx.1
  have fq := bx.2.2
  have sl : (L.set j (fillB f)).length = a * b := by rw [List.length_set, Ll]
  by_cases ho : j % 2 = 1
  ·obtain ⟨h2, kn2, ld2, lt2, lc2, cP, M2, G2, gp2, q⟩ := putOdd Hh F M G (by omega) hp jl ho bx
   have M3 := M2.row (L.set j (fillB f))
   have cG := getGood Hh F M3 jl bx q
   have hmr := M2.hmr
   have nx2 := M2.nx
   rw [hpl] at gp2
   have c1 := cF h
   have c2 := cF h2
   refine Goes.loopQ q3_1111111012 (Goes.loop ?_)
   refine Goes.seqQ q3_11111110122 ?_
   refine Goes.seqQ q3_111111101220 ?_
   refine Goes.opsQ q3_1111111012200 fits Hh E0_sound (by
    simp (maxSteps := 999999) +decide (discharger := first | omega | (simp only [lens] <;> omega) | decide) only [go_sem, q3, Tryz.f3, loadIn, simprocAttr, s2, s3, s9, s11, s12, s13, s14, lf, hpl, Nat.add_zero, r0, r1, w1, w2, ez, wz, ho, gp2, hmr, Ll, wr, rd, fl, fq, e1, sl, opBuiltin, opLen]
    rfl) ?_
   refine Goes.condTQ q3_1111111012201 (by simp (maxSteps := 999999) +decide (discharger := first | omega | (simp only [lens] <;> omega) | decide) only [go_sem, loadIn, simprocAttr, s2, s3, s9, s11, s12, s13, s14, lf, hpl, Nat.add_zero, r0, r1, w1, w2, ez, wz, ho, gp2, hmr, Ll, wr, rd, fl, fq, e1, sl, opBuiltin, opLen] <;> rfl) (by first | rfl | assumption | exact decide_eq_true (by omega) | (simp; omega)) ?_
   refine Goes.skipQ q3_11111110122013 ?_
   refine Goes.seqQ q3_111111101221 ?_
   refine Goes.blockQ q3_1111111012210 (Goes.block ?_)
   refine Goes.seqQ q3_11111110122102 ?_
   refine Goes.opsQ q3_111111101221020 fits Hh E0_sound (by
    simp (maxSteps := 999999) +decide (discharger := first | omega | (simp only [lens] <;> omega) | decide) only [go_sem, q3, Tryz.f3, loadIn, simprocAttr, s2, s3, s9, s11, s12, s13, s14, lf, hpl, Nat.add_zero, r0, r1, w1, w2, ez, wz, ho, gp2, hmr, Ll, wr, rd, fl, fq, e1, sl, opBuiltin, opLen]
    rfl) ?_
   refine Goes.seqQ q3_111111101221021 ?_
   refine Goes.opsQ q3_1111111012210210 fits Hh E0_sound (by
    simp (maxSteps := 999999) +decide (discharger := first | omega | (simp only [lens] <;> omega) | decide) only [go_sem, q3, Tryz.f3, loadIn, simprocAttr, s2, s3, s9, s11, s12, s13, s14, lf, hpl, Nat.add_zero, r0, r1, w1, w2, ez, wz, ho, gp2, hmr, Ll, wr, rd, fl, fq, e1, sl, opBuiltin, opLen]
    rfl) ?_
   refine Goes.seqQ q3_1111111012210211 ?_
   refine Goes.seqQ q3_11111110122102110 ?_
   refine Goes.opsQ q3_111111101221021100 fits Hh E0_sound (by
    simp (maxSteps := 999999) +decide (discharger := first | omega | (simp only [lens] <;> omega) | decide) only [go_sem, q3, Tryz.f3, loadIn, simprocAttr, s2, s3, s9, s11, s12, s13, s14, lf, hpl, Nat.add_zero, r0, r1, w1, w2, ez, wz, ho, gp2, hmr, Ll, wr, rd, fl, fq, e1, sl, opBuiltin, opLen]
    rfl) ?_
   refine Goes.condTQ q3_111111101221021101 (by simp (maxSteps := 999999) +decide (discharger := first | omega | (simp only [lens] <;> omega) | decide) only [go_sem, loadIn, simprocAttr, s2, s3, s9, s11, s12, s13, s14, lf, hpl, Nat.add_zero, r0, r1, w1, w2, ez, wz, ho, gp2, hmr, Ll, wr, rd, fl, fq, e1, sl, opBuiltin, opLen] <;> rfl) (by first | rfl | assumption | exact decide_eq_true (by omega) | (simp; omega)) ?_
   refine Goes.opsQ q3_1111111012210211013 fits Hh (E1_sound (E1_sound E0_sound c1) cP) (by
    simp (maxSteps := 999999) +decide (discharger := first | omega | (simp only [lens] <;> omega) | decide) only [go_sem, q3, Tryz.f3, loadIn, simprocAttr, E1_call, s2, s3, s9, s11, s12, s13, s14, lf, hpl, Nat.add_zero, r0, r1, w1, w2, ez, wz, ho, gp2, hmr, Ll, wr, rd, fl, fq, e1, sl, opBuiltin, opLen]
    rfl) ?_
   refine Goes.seqQ q3_11111110122102111 ?_
   refine Goes.seqQ q3_111111101221021110 ?_
   refine Goes.opsQ q3_1111111012210211100 fits Hh E0_sound (by
    simp (maxSteps := 999999) +decide (discharger := first | omega | (simp only [lens] <;> omega) | decide) only [go_sem, q3, Tryz.f3, loadIn, simprocAttr, s2, s3, s9, s11, s12, s13, s14, lf, hpl, Nat.add_zero, r0, r1, w1, w2, ez, wz, ho, gp2, hmr, Ll, wr, rd, fl, fq, e1, sl, opBuiltin, opLen]
    rfl) ?_
   refine Goes.condFQ q3_1111111012210211101 (by simp (maxSteps := 999999) +decide (discharger := first | omega | (simp only [lens] <;> omega) | decide) only [go_sem, loadIn, simprocAttr, s2, s3, s9, s11, s12, s13, s14, lf, hpl, Nat.add_zero, r0, r1, w1, w2, ez, wz, ho, gp2, hmr, Ll, wr, rd, fl, fq, e1, sl, opBuiltin, opLen] <;> rfl) (by first | rfl | assumption | exact decide_eq_false (by omega) | (simp; omega)) ?_
   refine Goes.skipQ q3_11111110122102111014 ?_
   refine Goes.seqQ q3_111111101221021111 ?_
   refine Goes.opsQ q3_1111111012210211110 fits Hh (E1_sound E0_sound c2) (by
    simp (maxSteps := 999999) +decide (discharger := first | omega | (simp only [lens] <;> omega) | decide) only [go_sem, q3, Tryz.f3, loadIn, simprocAttr, E1_call, s2, s3, s9, s11, s12, s13, s14, lf, hpl, Nat.add_zero, r0, r1, w1, w2, ez, wz, ho, gp2, hmr, Ll, wr, rd, fl, fq, e1, sl, opBuiltin, opLen]
    rfl) ?_
   refine Goes.seqQ q3_1111111012210211111 ?_
   refine Goes.opsQ q3_11111110122102111110 fits Hh (E1_sound E0_sound cG) (by
    simp (maxSteps := 999999) +decide (discharger := first | omega | (simp only [lens] <;> omega) | decide) only [go_sem, q3, Tryz.f3, loadIn, simprocAttr, E1_call, s2, s3, s9, s11, s12, s13, s14, lf, hpl, Nat.add_zero, r0, r1, w1, w2, ez, wz, ho, gp2, hmr, Ll, wr, rd, fl, fq, e1, sl, opBuiltin, opLen]
    rfl) ?_
   refine Goes.seqQ q3_11111110122102111111 ?_
   refine Goes.drawnQ q3_111111101221021111110 fits Hh E0_sound (by kernel_rfl) (by
    simp (maxSteps := 999999) +decide (discharger := first | omega | (simp only [lens] <;> omega) | decide) only [go_sem, q3, Tryz.f3, loadIn, simprocAttr, op_move, op_assign, op_binOp, op_unOp, op_convert, op_load, op_store, op_indexAddr, op_alloc, op_pick, op_box, op_build, op_buildSlice, op_nilCheck, op_makeSlice, op_fieldAddr, op_field, op_extract, op_lookup, op_mapUpdate, op_builtin, op_index, drEnd, drAll, drOne, drTs, drKd, drPure, drRead, drAlloc, drEff, drSkip, drPut, putT_ok, putT_none, cutT, looks, tmpOf, Op.operands, Call.operands, kd, kdCall, List.filterMap_cons, List.filterMap_nil, List.append_nil, List.nil_append, List.cons_append, stables, stable, reachAt, reachP, waitsAt, waits, gives_self, List.all_cons, List.all_nil, List.any_cons, List.any_nil, Region.binds, Bool.or_true, Bool.true_or, Bool.and_true, Bool.true_and, Bool.or_false, Bool.false_or, Bool.and_self, Bool.or_self, ble_true, Nat.le_refl, Nat.le_add_right, List.map_cons, Array.toList_append, s2, s3, s9, s11, s12, s13, s14, lf, hpl, Nat.add_zero, r0, r1, w1, w2, ez, wz, ho, gp2, hmr, Ll, wr, rd, fl, fq, e1, sl, opBuiltin, opLen]
    rfl) ?_
   refine Goes.condFQ q3_111111101221021111111 (by simp (maxSteps := 999999) +decide (discharger := first | omega | (simp only [lens] <;> omega) | decide) only [go_sem, loadIn, simprocAttr, s2, s3, s9, s11, s12, s13, s14, lf, hpl, Nat.add_zero, r0, r1, w1, w2, ez, wz, ho, gp2, hmr, Ll, wr, rd, fl, fq, e1, sl, opBuiltin, opLen] <;> rfl) (by first | rfl | assumption | exact decide_eq_false (by omega) | (simp; omega)) ?_
   refine Goes.skipQ q3_1111111012210211111114 ?_
   refine Goes.opsQ q3_1111111012211 fits Hh E0_sound (by
    simp (maxSteps := 999999) +decide (discharger := first | omega | (simp only [lens] <;> omega) | decide) only [go_sem, q3, Tryz.f3, loadIn, simprocAttr, s2, s3, s9, s11, s12, s13, s14, lf, hpl, Nat.add_zero, r0, r1, w1, w2, ez, wz, ho, gp2, hmr, Ll, wr, rd, fl, fq, e1, sl, opBuiltin, opLen]
    rfl) ?_
   show Goes K Tryz.prog 188 none (.loop (q3 [1,1,1,1,1,1,1,0,1,2,2])) _ _ _ _
   rw [← q3_1111111012]
   refine ih (i + 1) _ _ _ _ _ _ _ hr' (by omega) (M3.high _ _) G2 ?_ ⟨?_, ?_, ?_, ?_, ?_⟩ ?_ ?_
   ·rw [get_put_ne (by first | omega | (rw [H.next_put]; omega)), get_new_ne (by first | omega | (rw [H.next_put]; omega)), get_put_ne (by omega)]; exact gp2
   ·simp (decide := true) only [evalT_set, reduceIte, s3]
   ·simp (decide := true) only [evalT_set, reduceIte, s9]
   ·simp (decide := true) only [evalT_set, reduceIte, s11]
   ·simp (decide := true) only [evalT_set, reduceIte, s12]
   ·simp (decide := true) only [evalT_set, reduceIte, s13]
   ·simp (decide := true) only [evalT_set, reduceIte, s2]
   ·simp (decide := true) only [evalT_set, reduceIte]
  ·have he : j % 2 = 0 := by omega
   obtain ⟨h2, kn2, ld2, lt2, lc2, cP, M2, G2, gp2, q⟩ := putEven Hh F M G (by omega) hp jl he bx
   have M3 := M2.row (L.set j (fillB f))
   have cG := getGood Hh F M3 jl bx q
   have hmr := M2.hmr
   have nx2 := M2.nx
   rw [hpl] at gp2
   have c1 := cF h
   have c2 := cF h2
   refine Goes.loopQ q3_1111111012 (Goes.loop ?_)
   refine Goes.seqQ q3_11111110122 ?_
   refine Goes.seqQ q3_111111101220 ?_
   refine Goes.opsQ q3_1111111012200 fits Hh E0_sound (by
    simp (maxSteps := 999999) +decide (discharger := first | omega | (simp only [lens] <;> omega) | decide) only [go_sem, q3, Tryz.f3, loadIn, simprocAttr, s2, s3, s9, s11, s12, s13, s14, lf, hpl, Nat.add_zero, r0, r1, w1, w2, ez, wz, he, gp2, hmr, Ll, wr, rd, fl, fq, e1, sl, opBuiltin, opLen]
    rfl) ?_
   refine Goes.condTQ q3_1111111012201 (by simp (maxSteps := 999999) +decide (discharger := first | omega | (simp only [lens] <;> omega) | decide) only [go_sem, loadIn, simprocAttr, s2, s3, s9, s11, s12, s13, s14, lf, hpl, Nat.add_zero, r0, r1, w1, w2, ez, wz, he, gp2, hmr, Ll, wr, rd, fl, fq, e1, sl, opBuiltin, opLen] <;> rfl) (by first | rfl | assumption | exact decide_eq_true (by omega) | (simp; omega)) ?_
   refine Goes.skipQ q3_11111110122013 ?_
   refine Goes.seqQ q3_111111101221 ?_
   refine Goes.blockQ q3_1111111012210 (Goes.block ?_)
   refine Goes.seqQ q3_11111110122102 ?_
   refine Goes.opsQ q3_111111101221020 fits Hh E0_sound (by
    simp (maxSteps := 999999) +decide (discharger := first | omega | (simp only [lens] <;> omega) | decide) only [go_sem, q3, Tryz.f3, loadIn, simprocAttr, s2, s3, s9, s11, s12, s13, s14, lf, hpl, Nat.add_zero, r0, r1, w1, w2, ez, wz, he, gp2, hmr, Ll, wr, rd, fl, fq, e1, sl, opBuiltin, opLen]
    rfl) ?_
   refine Goes.seqQ q3_111111101221021 ?_
   refine Goes.opsQ q3_1111111012210210 fits Hh E0_sound (by
    simp (maxSteps := 999999) +decide (discharger := first | omega | (simp only [lens] <;> omega) | decide) only [go_sem, q3, Tryz.f3, loadIn, simprocAttr, s2, s3, s9, s11, s12, s13, s14, lf, hpl, Nat.add_zero, r0, r1, w1, w2, ez, wz, he, gp2, hmr, Ll, wr, rd, fl, fq, e1, sl, opBuiltin, opLen]
    rfl) ?_
   refine Goes.seqQ q3_1111111012210211 ?_
   refine Goes.seqQ q3_11111110122102110 ?_
   refine Goes.opsQ q3_111111101221021100 fits Hh E0_sound (by
    simp (maxSteps := 999999) +decide (discharger := first | omega | (simp only [lens] <;> omega) | decide) only [go_sem, q3, Tryz.f3, loadIn, simprocAttr, s2, s3, s9, s11, s12, s13, s14, lf, hpl, Nat.add_zero, r0, r1, w1, w2, ez, wz, he, gp2, hmr, Ll, wr, rd, fl, fq, e1, sl, opBuiltin, opLen]
    rfl) ?_
   refine Goes.condFQ q3_111111101221021101 (by simp (maxSteps := 999999) +decide (discharger := first | omega | (simp only [lens] <;> omega) | decide) only [go_sem, loadIn, simprocAttr, s2, s3, s9, s11, s12, s13, s14, lf, hpl, Nat.add_zero, r0, r1, w1, w2, ez, wz, he, gp2, hmr, Ll, wr, rd, fl, fq, e1, sl, opBuiltin, opLen] <;> rfl) (by first | rfl | assumption | exact decide_eq_false (by omega) | (simp; omega)) ?_
   refine Goes.opsQ q3_1111111012210211014 fits Hh (E1_sound (E1_sound E0_sound c1) cP) (by
    simp (maxSteps := 999999) +decide (discharger := first | omega | (simp only [lens] <;> omega) | decide) only [go_sem, q3, Tryz.f3, loadIn, simprocAttr, E1_call, s2, s3, s9, s11, s12, s13, s14, lf, hpl, Nat.add_zero, r0, r1, w1, w2, ez, wz, he, gp2, hmr, Ll, wr, rd, fl, fq, e1, sl, opBuiltin, opLen]
    rfl) ?_
   refine Goes.seqQ q3_11111110122102111 ?_
   refine Goes.seqQ q3_111111101221021110 ?_
   refine Goes.opsQ q3_1111111012210211100 fits Hh E0_sound (by
    simp (maxSteps := 999999) +decide (discharger := first | omega | (simp only [lens] <;> omega) | decide) only [go_sem, q3, Tryz.f3, loadIn, simprocAttr, s2, s3, s9, s11, s12, s13, s14, lf, hpl, Nat.add_zero, r0, r1, w1, w2, ez, wz, he, gp2, hmr, Ll, wr, rd, fl, fq, e1, sl, opBuiltin, opLen]
    rfl) ?_
   refine Goes.condFQ q3_1111111012210211101 (by simp (maxSteps := 999999) +decide (discharger := first | omega | (simp only [lens] <;> omega) | decide) only [go_sem, loadIn, simprocAttr, s2, s3, s9, s11, s12, s13, s14, lf, hpl, Nat.add_zero, r0, r1, w1, w2, ez, wz, he, gp2, hmr, Ll, wr, rd, fl, fq, e1, sl, opBuiltin, opLen] <;> rfl) (by first | rfl | assumption | exact decide_eq_false (by omega) | (simp; omega)) ?_
   refine Goes.skipQ q3_11111110122102111014 ?_
   refine Goes.seqQ q3_111111101221021111 ?_
   refine Goes.opsQ q3_1111111012210211110 fits Hh (E1_sound E0_sound c2) (by
    simp (maxSteps := 999999) +decide (discharger := first | omega | (simp only [lens] <;> omega) | decide) only [go_sem, q3, Tryz.f3, loadIn, simprocAttr, E1_call, s2, s3, s9, s11, s12, s13, s14, lf, hpl, Nat.add_zero, r0, r1, w1, w2, ez, wz, he, gp2, hmr, Ll, wr, rd, fl, fq, e1, sl, opBuiltin, opLen]
    rfl) ?_
   refine Goes.seqQ q3_1111111012210211111 ?_
   refine Goes.opsQ q3_11111110122102111110 fits Hh (E1_sound E0_sound cG) (by
    simp (maxSteps := 999999) +decide (discharger := first | omega | (simp only [lens] <;> omega) | decide) only [go_sem, q3, Tryz.f3, loadIn, simprocAttr, E1_call, s2, s3, s9, s11, s12, s13, s14, lf, hpl, Nat.add_zero, r0, r1, w1, w2, ez, wz, he, gp2, hmr, Ll, wr, rd, fl, fq, e1, sl, opBuiltin, opLen]
    rfl) ?_
   refine Goes.seqQ q3_11111110122102111111 ?_
   refine Goes.drawnQ q3_111111101221021111110 fits Hh E0_sound (by kernel_rfl) (by
    simp (maxSteps := 999999) +decide (discharger := first | omega | (simp only [lens] <;> omega) | decide) only [go_sem, q3, Tryz.f3, loadIn, simprocAttr, op_move, op_assign, op_binOp, op_unOp, op_convert, op_load, op_store, op_indexAddr, op_alloc, op_pick, op_box, op_build, op_buildSlice, op_nilCheck, op_makeSlice, op_fieldAddr, op_field, op_extract, op_lookup, op_mapUpdate, op_builtin, op_index, drEnd, drAll, drOne, drTs, drKd, drPure, drRead, drAlloc, drEff, drSkip, drPut, putT_ok, putT_none, cutT, looks, tmpOf, Op.operands, Call.operands, kd, kdCall, List.filterMap_cons, List.filterMap_nil, List.append_nil, List.nil_append, List.cons_append, stables, stable, reachAt, reachP, waitsAt, waits, gives_self, List.all_cons, List.all_nil, List.any_cons, List.any_nil, Region.binds, Bool.or_true, Bool.true_or, Bool.and_true, Bool.true_and, Bool.or_false, Bool.false_or, Bool.and_self, Bool.or_self, ble_true, Nat.le_refl, Nat.le_add_right, List.map_cons, Array.toList_append, s2, s3, s9, s11, s12, s13, s14, lf, hpl, Nat.add_zero, r0, r1, w1, w2, ez, wz, he, gp2, hmr, Ll, wr, rd, fl, fq, e1, sl, opBuiltin, opLen]
    rfl) ?_
   refine Goes.condFQ q3_111111101221021111111 (by simp (maxSteps := 999999) +decide (discharger := first | omega | (simp only [lens] <;> omega) | decide) only [go_sem, loadIn, simprocAttr, s2, s3, s9, s11, s12, s13, s14, lf, hpl, Nat.add_zero, r0, r1, w1, w2, ez, wz, he, gp2, hmr, Ll, wr, rd, fl, fq, e1, sl, opBuiltin, opLen] <;> rfl) (by first | rfl | assumption | exact decide_eq_false (by omega) | (simp; omega)) ?_
   refine Goes.skipQ q3_1111111012210211111114 ?_
   refine Goes.opsQ q3_1111111012211 fits Hh E0_sound (by
    simp (maxSteps := 999999) +decide (discharger := first | omega | (simp only [lens] <;> omega) | decide) only [go_sem, q3, Tryz.f3, loadIn, simprocAttr, s2, s3, s9, s11, s12, s13, s14, lf, hpl, Nat.add_zero, r0, r1, w1, w2, ez, wz, he, gp2, hmr, Ll, wr, rd, fl, fq, e1, sl, opBuiltin, opLen]
    rfl) ?_
   show Goes K Tryz.prog 188 none (.loop (q3 [1,1,1,1,1,1,1,0,1,2,2])) _ _ _ _
   rw [← q3_1111111012]
   refine ih (i + 1) _ _ _ _ _ _ _ hr' (by omega) (M3.high _ _) G2 ?_ ⟨?_, ?_, ?_, ?_, ?_⟩ ?_ ?_
   ·rw [get_put_ne (by first | omega | (rw [H.next_put]; omega)), get_new_ne (by first | omega | (rw [H.next_put]; omega)), get_put_ne (by omega)]; exact gp2
   ·simp (decide := true) only [evalT_set, reduceIte, s3]
   ·simp (decide := true) only [evalT_set, reduceIte, s9]
   ·simp (decide := true) only [evalT_set, reduceIte, s11]
   ·simp (decide := true) only [evalT_set, reduceIte, s12]
   ·simp (decide := true) only [evalT_set, reduceIte, s13]
   ·simp (decide := true) only [evalT_set, reduceIte, s2]
   ·simp (decide := true) only [evalT_set, reduceIte]
end
end Go.Proofs.YtpiljmilaelfnaaGreatDoor
