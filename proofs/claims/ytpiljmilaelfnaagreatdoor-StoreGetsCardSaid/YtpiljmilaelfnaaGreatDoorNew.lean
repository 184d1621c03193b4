/- What New makes: disks, caches, rings, lists, transactions, stores. -/
import Derived.Test.YtpiljmilaelfnaaGreatDoorSto
import Derived.Test.YtpiljmilaelfnaaGreatDoorGeo0
set_option linter.unusedSimpArgs false
set_option linter.unusedVariables false
set_option linter.unusedSectionVars false
set_option maxRecDepth 100000
namespace Go.Proofs.YtpiljmilaelfnaaGreatDoor
open Go.Ev
theorem ty159 : K.types.get 159 = some ti159 := by kernel_rfl
theorem sz159 : ti159.size = 3 := by rfl
theorem ag159 : ti159.agg = true := by rfl
theorem fo159_0 : fieldOf K 159 0 = some (0, ti3) := by kernel_rfl
theorem fo159_1 : fieldOf K 159 1 = some (1, ti3) := by kernel_rfl
theorem fo159_2 : fieldOf K 159 2 = some (2, ti3) := by kernel_rfl
theorem bu159 (ps : List (Nat × W)) : opBuild K 159 (some ps) = gW (fillStruct K 159 ps ti159.zero.cells) := by kernel_rfl
theorem ze159 : ti159.zero = (.g ([.int .i64 0, .int .i64 0, .int .i64 0])) := by rfl
theorem by159 : ti159.bytes = 24 := by rfl
attribute [go_sem] ty159 sz159 ag159 fo159_0 fo159_1 fo159_2 bu159 ze159 by159
noncomputable def q20 (p : List Nat) : Code := piece p (bodyOf Tryz.f20)
theorem q20_ : q20 [] = .seq (q20 [0]) (q20 [1]) := by kernel_rfl
theorem q20_0 : q20 [0] = .region 0 (opsA (q20 [0])) false := by kernel_rfl
theorem q20_1 : q20 [1] = .seq (q20 [1,0]) (q20 [1,1]) := by kernel_rfl
theorem q20_10 : q20 [1,0] = .region 1 (opsA (q20 [1,0])) false := by kernel_rfl
theorem q20_11 : q20 [1,1] = .region 2 (opsA (q20 [1,1])) false := by kernel_rfl
noncomputable def q36 (p : List Nat) : Code := piece p (bodyOf Tryz.f36)
theorem q36_ : q36 [] = .seq (q36 [0]) (q36 [1]) := by kernel_rfl
theorem q36_0 : q36 [0] = .region 0 (opsA (q36 [0])) false := by kernel_rfl
theorem q36_1 : q36 [1] = .seq (q36 [1,0]) (q36 [1,1]) := by kernel_rfl
theorem q36_10 : q36 [1,0] = .seq (q36 [1,0,0]) (q36 [1,0,1]) := by kernel_rfl
theorem q36_100 : q36 [1,0,0] = .region 1 (opsA (q36 [1,0,0])) false := by kernel_rfl
theorem q36_101 : q36 [1,0,1] = .cond (.tmp 6) (q36 [1,0,1,3]) (q36 [1,0,1,4]) := by kernel_rfl
theorem q36_1014 : q36 [1,0,1,4] = .skip := by kernel_rfl
theorem q36_11 : q36 [1,1] = .seq (q36 [1,1,0]) (q36 [1,1,1]) := by kernel_rfl
theorem q36_110 : q36 [1,1,0] = .region 3 (opsA (q36 [1,1,0])) true := by kernel_rfl
theorem q36_111 : q36 [1,1,1] = .ret := by kernel_rfl
noncomputable def q38 (p : List Nat) : Code := piece p (bodyOf Tryz.f38)
theorem q38_ : q38 [] = .seq (q38 [0]) (q38 [1]) := by kernel_rfl
theorem q38_0 : q38 [0] = .region 0 (opsA (q38 [0])) false := by kernel_rfl
theorem q38_1 : q38 [1] = .seq (q38 [1,0]) (q38 [1,1]) := by kernel_rfl
theorem q38_10 : q38 [1,0] = .seq (q38 [1,0,0]) (q38 [1,0,1]) := by kernel_rfl
theorem q38_100 : q38 [1,0,0] = .region 1 (opsA (q38 [1,0,0])) false := by kernel_rfl
theorem q38_101 : q38 [1,0,1] = .cond (.tmp 17) (q38 [1,0,1,3]) (q38 [1,0,1,4]) := by kernel_rfl
theorem q38_1014 : q38 [1,0,1,4] = .skip := by kernel_rfl
theorem q38_11 : q38 [1,1] = .seq (q38 [1,1,0]) (q38 [1,1,1]) := by kernel_rfl
theorem q38_110 : q38 [1,1,0] = .seq (q38 [1,1,0,0]) (q38 [1,1,0,1]) := by kernel_rfl
theorem q38_1100 : q38 [1,1,0,0] = .region 3 (opsA (q38 [1,1,0,0])) false := by kernel_rfl
theorem q38_1101 : q38 [1,1,0,1] = .cond (.tmp 20) (q38 [1,1,0,1,3]) (q38 [1,1,0,1,4]) := by kernel_rfl
theorem q38_11014 : q38 [1,1,0,1,4] = .skip := by kernel_rfl
theorem q38_111 : q38 [1,1,1] = .seq (q38 [1,1,1,0]) (q38 [1,1,1,1]) := by kernel_rfl
theorem q38_1110 : q38 [1,1,1,0] = .seq (q38 [1,1,1,0,0]) (q38 [1,1,1,0,1]) := by kernel_rfl
theorem q38_11100 : q38 [1,1,1,0,0] = .region 5 (opsA (q38 [1,1,1,0,0])) false := by kernel_rfl
theorem q38_11101 : q38 [1,1,1,0,1] = .block 0 (q38 [1,1,1,0,1,2]) := by kernel_rfl
theorem q38_111012 : q38 [1,1,1,0,1,2] = .seq (q38 [1,1,1,0,1,2,0]) (q38 [1,1,1,0,1,2,1]) := by kernel_rfl
theorem q38_1110120 : q38 [1,1,1,0,1,2,0] = .seq (q38 [1,1,1,0,1,2,0,0]) (q38 [1,1,1,0,1,2,0,1]) := by kernel_rfl
theorem q38_11101200 : q38 [1,1,1,0,1,2,0,0] = .region 7 (opsA (q38 [1,1,1,0,1,2,0,0])) false := by kernel_rfl
theorem q38_11101201 : q38 [1,1,1,0,1,2,0,1] = .cond (.tmp 22) (q38 [1,1,1,0,1,2,0,1,3]) (q38 [1,1,1,0,1,2,0,1,4]) := by kernel_rfl
theorem q38_111012013 : q38 [1,1,1,0,1,2,0,1,3] = .skip := by kernel_rfl
theorem q38_111012014 : q38 [1,1,1,0,1,2,0,1,4] = .seq (q38 [1,1,1,0,1,2,0,1,4,0]) (q38 [1,1,1,0,1,2,0,1,4,1]) := by kernel_rfl
theorem q38_1110120140 : q38 [1,1,1,0,1,2,0,1,4,0] = .region 8 (opsA (q38 [1,1,1,0,1,2,0,1,4,0])) false := by kernel_rfl
theorem q38_1110120141 : q38 [1,1,1,0,1,2,0,1,4,1] = .cond (.tmp 22) (q38 [1,1,1,0,1,2,0,1,4,1,3]) (q38 [1,1,1,0,1,2,0,1,4,1,4]) := by kernel_rfl
theorem q38_11101201413 : q38 [1,1,1,0,1,2,0,1,4,1,3] = .skip := by kernel_rfl
theorem q38_11101201414 : q38 [1,1,1,0,1,2,0,1,4,1,4] = .region 9 (opsA (q38 [1,1,1,0,1,2,0,1,4,1,4])) false := by kernel_rfl
theorem q38_1110121 : q38 [1,1,1,0,1,2,1] = .cond (.tmp 22) (q38 [1,1,1,0,1,2,1,3]) (q38 [1,1,1,0,1,2,1,4]) := by kernel_rfl
theorem q38_11101213 : q38 [1,1,1,0,1,2,1,3] = .skip := by kernel_rfl
theorem q38_1111 : q38 [1,1,1,1] = .seq (q38 [1,1,1,1,0]) (q38 [1,1,1,1,1]) := by kernel_rfl
theorem q38_11110 : q38 [1,1,1,1,0] = .seq (q38 [1,1,1,1,0,0]) (q38 [1,1,1,1,0,1]) := by kernel_rfl
theorem q38_111100 : q38 [1,1,1,1,0,0] = .region 10 (opsA (q38 [1,1,1,1,0,0])) true := by kernel_rfl
theorem q38_111101 : q38 [1,1,1,1,0,1] = .cond (.tmp 38) (q38 [1,1,1,1,0,1,3]) (q38 [1,1,1,1,0,1,4]) := by kernel_rfl
theorem q38_1111014 : q38 [1,1,1,1,0,1,4] = .skip := by kernel_rfl
theorem q38_11111 : q38 [1,1,1,1,1] = .seq (q38 [1,1,1,1,1,0]) (q38 [1,1,1,1,1,1]) := by kernel_rfl
theorem q38_111110 : q38 [1,1,1,1,1,0] = .region 12 (opsA (q38 [1,1,1,1,1,0])) false := by kernel_rfl
theorem q38_111111 : q38 [1,1,1,1,1,1] = .seq (q38 [1,1,1,1,1,1,0]) (q38 [1,1,1,1,1,1,1]) := by kernel_rfl
theorem q38_1111110 : q38 [1,1,1,1,1,1,0] = .seq (q38 [1,1,1,1,1,1,0,0]) (q38 [1,1,1,1,1,1,0,1]) := by kernel_rfl
theorem q38_11111100 : q38 [1,1,1,1,1,1,0,0] = .region 13 (opsA (q38 [1,1,1,1,1,1,0,0])) false := by kernel_rfl
theorem q38_11111101 : q38 [1,1,1,1,1,1,0,1] = .cond (.tmp 45) (q38 [1,1,1,1,1,1,0,1,3]) (q38 [1,1,1,1,1,1,0,1,4]) := by kernel_rfl
theorem q38_111111014 : q38 [1,1,1,1,1,1,0,1,4] = .skip := by kernel_rfl
theorem q38_1111111 : q38 [1,1,1,1,1,1,1] = .seq (q38 [1,1,1,1,1,1,1,0]) (q38 [1,1,1,1,1,1,1,1]) := by kernel_rfl
theorem q38_11111110 : q38 [1,1,1,1,1,1,1,0] = .region 15 (opsA (q38 [1,1,1,1,1,1,1,0])) false := by kernel_rfl
theorem q38_11111111 : q38 [1,1,1,1,1,1,1,1] = .seq (q38 [1,1,1,1,1,1,1,1,0]) (q38 [1,1,1,1,1,1,1,1,1]) := by kernel_rfl
theorem q38_111111110 : q38 [1,1,1,1,1,1,1,1,0] = .seq (q38 [1,1,1,1,1,1,1,1,0,0]) (q38 [1,1,1,1,1,1,1,1,0,1]) := by kernel_rfl
theorem q38_1111111100 : q38 [1,1,1,1,1,1,1,1,0,0] = .region 16 (opsA (q38 [1,1,1,1,1,1,1,1,0,0])) false := by kernel_rfl
theorem q38_1111111101 : q38 [1,1,1,1,1,1,1,1,0,1] = .cond (.tmp 54) (q38 [1,1,1,1,1,1,1,1,0,1,3]) (q38 [1,1,1,1,1,1,1,1,0,1,4]) := by kernel_rfl
theorem q38_11111111014 : q38 [1,1,1,1,1,1,1,1,0,1,4] = .skip := by kernel_rfl
theorem q38_111111111 : q38 [1,1,1,1,1,1,1,1,1] = .seq (q38 [1,1,1,1,1,1,1,1,1,0]) (q38 [1,1,1,1,1,1,1,1,1,1]) := by kernel_rfl
theorem q38_1111111110 : q38 [1,1,1,1,1,1,1,1,1,0] = .region 18 (opsA (q38 [1,1,1,1,1,1,1,1,1,0])) false := by kernel_rfl
theorem q38_1111111111 : q38 [1,1,1,1,1,1,1,1,1,1] = .seq (q38 [1,1,1,1,1,1,1,1,1,1,0]) (q38 [1,1,1,1,1,1,1,1,1,1,1]) := by kernel_rfl
theorem q38_11111111110 : q38 [1,1,1,1,1,1,1,1,1,1,0] = .seq (q38 [1,1,1,1,1,1,1,1,1,1,0,0]) (q38 [1,1,1,1,1,1,1,1,1,1,0,1]) := by kernel_rfl
theorem q38_111111111100 : q38 [1,1,1,1,1,1,1,1,1,1,0,0] = .region 19 (opsA (q38 [1,1,1,1,1,1,1,1,1,1,0,0])) false := by kernel_rfl
theorem q38_111111111101 : q38 [1,1,1,1,1,1,1,1,1,1,0,1] = .cond (.tmp 62) (q38 [1,1,1,1,1,1,1,1,1,1,0,1,3]) (q38 [1,1,1,1,1,1,1,1,1,1,0,1,4]) := by kernel_rfl
theorem q38_1111111111014 : q38 [1,1,1,1,1,1,1,1,1,1,0,1,4] = .skip := by kernel_rfl
theorem q38_11111111111 : q38 [1,1,1,1,1,1,1,1,1,1,1] = .seq (q38 [1,1,1,1,1,1,1,1,1,1,1,0]) (q38 [1,1,1,1,1,1,1,1,1,1,1,1]) := by kernel_rfl
theorem q38_111111111110 : q38 [1,1,1,1,1,1,1,1,1,1,1,0] = .region 21 (opsA (q38 [1,1,1,1,1,1,1,1,1,1,1,0])) false := by kernel_rfl
theorem q38_111111111111 : q38 [1,1,1,1,1,1,1,1,1,1,1,1] = .seq (q38 [1,1,1,1,1,1,1,1,1,1,1,1,0]) (q38 [1,1,1,1,1,1,1,1,1,1,1,1,1]) := by kernel_rfl
theorem q38_1111111111110 : q38 [1,1,1,1,1,1,1,1,1,1,1,1,0] = .region 22 (opsA (q38 [1,1,1,1,1,1,1,1,1,1,1,1,0])) false := by kernel_rfl
theorem q38_1111111111111 : q38 [1,1,1,1,1,1,1,1,1,1,1,1,1] = .seq (q38 [1,1,1,1,1,1,1,1,1,1,1,1,1,0]) (q38 [1,1,1,1,1,1,1,1,1,1,1,1,1,1]) := by kernel_rfl
theorem q38_11111111111110 : q38 [1,1,1,1,1,1,1,1,1,1,1,1,1,0] = .region 23 (opsA (q38 [1,1,1,1,1,1,1,1,1,1,1,1,1,0])) false := by kernel_rfl
theorem q38_11111111111111 : q38 [1,1,1,1,1,1,1,1,1,1,1,1,1,1] = .seq (q38 [1,1,1,1,1,1,1,1,1,1,1,1,1,1,0]) (q38 [1,1,1,1,1,1,1,1,1,1,1,1,1,1,1]) := by kernel_rfl
theorem q38_111111111111110 : q38 [1,1,1,1,1,1,1,1,1,1,1,1,1,1,0] = .region 24 (opsA (q38 [1,1,1,1,1,1,1,1,1,1,1,1,1,1,0])) false := by kernel_rfl
theorem q38_111111111111111 : q38 [1,1,1,1,1,1,1,1,1,1,1,1,1,1,1] = .ret := by kernel_rfl
noncomputable def q64 (p : List Nat) : Code := piece p (bodyOf Tryz.f64)
theorem q64_ : q64 [] = .seq (q64 [0]) (q64 [1]) := by kernel_rfl
theorem q64_0 : q64 [0] = .region 0 (opsA (q64 [0])) false := by kernel_rfl
theorem q64_1 : q64 [1] = .seq (q64 [1,0]) (q64 [1,1]) := by kernel_rfl
theorem q64_10 : q64 [1,0] = .region 1 (opsA (q64 [1,0])) false := by kernel_rfl
theorem q64_11 : q64 [1,1] = .ret := by kernel_rfl
noncomputable def q69 (p : List Nat) : Code := piece p (bodyOf Tryz.f69)
theorem q69_ : q69 [] = .seq (q69 [0]) (q69 [1]) := by kernel_rfl
theorem q69_0 : q69 [0] = .region 0 (opsA (q69 [0])) false := by kernel_rfl
theorem q69_1 : q69 [1] = .seq (q69 [1,0]) (q69 [1,1]) := by kernel_rfl
theorem q69_10 : q69 [1,0] = .seq (q69 [1,0,0]) (q69 [1,0,1]) := by kernel_rfl
theorem q69_100 : q69 [1,0,0] = .region 1 (opsA (q69 [1,0,0])) false := by kernel_rfl
theorem q69_101 : q69 [1,0,1] = .cond (.tmp 6) (q69 [1,0,1,3]) (q69 [1,0,1,4]) := by kernel_rfl
theorem q69_1014 : q69 [1,0,1,4] = .skip := by kernel_rfl
theorem q69_11 : q69 [1,1] = .seq (q69 [1,1,0]) (q69 [1,1,1]) := by kernel_rfl
theorem q69_110 : q69 [1,1,0] = .region 3 (opsA (q69 [1,1,0])) false := by kernel_rfl
theorem q69_111 : q69 [1,1,1] = .ret := by kernel_rfl
noncomputable def q70 (p : List Nat) : Code := piece p (bodyOf Tryz.f70)
theorem q70_ : q70 [] = .seq (q70 [0]) (q70 [1]) := by kernel_rfl
theorem q70_0 : q70 [0] = .region 0 (opsA (q70 [0])) false := by kernel_rfl
theorem q70_1 : q70 [1] = .seq (q70 [1,0]) (q70 [1,1]) := by kernel_rfl
theorem q70_10 : q70 [1,0] = .seq (q70 [1,0,0]) (q70 [1,0,1]) := by kernel_rfl
theorem q70_100 : q70 [1,0,0] = .region 1 (opsA (q70 [1,0,0])) false := by kernel_rfl
theorem q70_101 : q70 [1,0,1] = .cond (.tmp 9) (q70 [1,0,1,3]) (q70 [1,0,1,4]) := by kernel_rfl
theorem q70_1014 : q70 [1,0,1,4] = .skip := by kernel_rfl
theorem q70_11 : q70 [1,1] = .seq (q70 [1,1,0]) (q70 [1,1,1]) := by kernel_rfl
theorem q70_110 : q70 [1,1,0] = .region 3 (opsA (q70 [1,1,0])) false := by kernel_rfl
theorem q70_111 : q70 [1,1,1] = .ret := by kernel_rfl
noncomputable def q71 (p : List Nat) : Code := piece p (bodyOf Tryz.f71)
theorem q71_ : q71 [] = .seq (q71 [0]) (q71 [1]) := by kernel_rfl
theorem q71_0 : q71 [0] = .region 0 (opsA (q71 [0])) false := by kernel_rfl
theorem q71_1 : q71 [1] = .seq (q71 [1,0]) (q71 [1,1]) := by kernel_rfl
theorem q71_10 : q71 [1,0] = .seq (q71 [1,0,0]) (q71 [1,0,1]) := by kernel_rfl
theorem q71_100 : q71 [1,0,0] = .region 1 (opsA (q71 [1,0,0])) false := by kernel_rfl
theorem q71_101 : q71 [1,0,1] = .cond (.tmp 6) (q71 [1,0,1,3]) (q71 [1,0,1,4]) := by kernel_rfl
theorem q71_1014 : q71 [1,0,1,4] = .skip := by kernel_rfl
theorem q71_11 : q71 [1,1] = .seq (q71 [1,1,0]) (q71 [1,1,1]) := by kernel_rfl
theorem q71_110 : q71 [1,1,0] = .region 3 (opsA (q71 [1,1,0])) false := by kernel_rfl
theorem q71_111 : q71 [1,1,1] = .ret := by kernel_rfl
noncomputable def q72 (p : List Nat) : Code := piece p (bodyOf Tryz.f72)
theorem q72_ : q72 [] = .seq (q72 [0]) (q72 [1]) := by kernel_rfl
theorem q72_0 : q72 [0] = .region 0 (opsA (q72 [0])) false := by kernel_rfl
theorem q72_1 : q72 [1] = .seq (q72 [1,0]) (q72 [1,1]) := by kernel_rfl
theorem q72_10 : q72 [1,0] = .region 1 (opsA (q72 [1,0])) false := by kernel_rfl
theorem q72_11 : q72 [1,1] = .ret := by kernel_rfl
noncomputable def q78 (p : List Nat) : Code := piece p (bodyOf Tryz.f78)
theorem q78_ : q78 [] = .seq (q78 [0]) (q78 [1]) := by kernel_rfl
theorem q78_0 : q78 [0] = .region 0 (opsA (q78 [0])) false := by kernel_rfl
theorem q78_1 : q78 [1] = .seq (q78 [1,0]) (q78 [1,1]) := by kernel_rfl
theorem q78_10 : q78 [1,0] = .region 1 (opsA (q78 [1,0])) false := by kernel_rfl
theorem q78_11 : q78 [1,1] = .ret := by kernel_rfl
noncomputable def q93 (p : List Nat) : Code := piece p (bodyOf Tryz.f93)
theorem q93_ : q93 [] = .seq (q93 [0]) (q93 [1]) := by kernel_rfl
theorem q93_0 : q93 [0] = .region 0 (opsA (q93 [0])) false := by kernel_rfl
theorem q93_1 : q93 [1] = .seq (q93 [1,0]) (q93 [1,1]) := by kernel_rfl
theorem q93_10 : q93 [1,0] = .region 1 (opsA (q93 [1,0])) false := by kernel_rfl
theorem q93_11 : q93 [1,1] = .ret := by kernel_rfl
theorem rs64 : Tryz.f64.results.toList = [.tmp 2] := rfl
theorem rs36 : Tryz.f36.results.toList = [.tmp 2, .tmp 3] := rfl
theorem rs69 : Tryz.f69.results.toList = [.tmp 2, .tmp 3] := rfl
theorem rs70 : Tryz.f70.results.toList = [.tmp 2, .tmp 3] := rfl
theorem rs71 : Tryz.f71.results.toList = [.tmp 2, .tmp 3] := rfl
theorem rs78 : Tryz.f78.results.toList = [.tmp 0] := rfl
theorem rs93 : Tryz.f93.results.toList = [.cell 0 92] := rfl
theorem rs72 : Tryz.f72.results.toList = [.tmp 2] := rfl
theorem rs20 : Tryz.f20.results.toList = [] := rfl
theorem rs38 : Tryz.f38.results.toList = [.tmp 8, .tmp 9] := rfl
attribute [go_sem] rs64 rs36 rs69 rs70 rs71 rs78 rs93 rs72 rs20 rs38
noncomputable def xgMay : Kn1 := fun args h => match args with
 | [.g [.int .i64 a, .int .i64 b, .int .i64 c, .int .i64 d]] => (natI a).bind fun a => (natI b).bind fun b => (natI c).bind fun c => (natI d).bind fun d => askB (fineB a b c d) (some (.w (.c (.bool true)), h))
 | _ => none
noncomputable def xgBlocks : Kn1 := fun args h => match args with
 | [.g [.int .i64 a, .int .i64 b, .int .i64 c, .int .i64 d]] => (natI a).bind fun a => (natI b).bind fun b => (natI c).bind fun c => (natI d).bind fun d => askB (fineB a b c d) (some (.w (.c (.int .i64 ((2 + d + a * b : Nat) : Int))), h))
 | _ => none
noncomputable def xDMay : Kn1 := fun args h => match args with
 | [.c (.int .i64 z)] => askB (decide (1 ≤ z) && decide (z ≤ 2048)) (some (.w (.c (.bool true)), h))
 | _ => none
noncomputable def xDNew : Kn1 := fun args h => match args with
 | [.c (.int .i64 z)] => (natI z).bind fun n => askB (Nat.ble 1 n && Nat.ble n 2048) (some (.tup [.c (.ptr (h.next + 1 + 1) 0), .c (.int .i64 0)], ((h.new (.row 256 (List.replicate n zB) false)).new (.row 256 (List.replicate n zB) false)).new (.row 6 [dkL ⟨h.next, h.next + 1, n, .snil, 0, 0⟩] false)))
 | _ => none
noncomputable def xCNew : Kn1 := fun args h => match args with
 | [.c (.ptr d 0)] => (getDk h d).bind fun _ => some (.tup [.c (.ptr (h.next + 1 + 1) 0), .c (.int .i64 0)], ((h.new (.map [])).new (.map [])).new (.row 3 [[.ptr d 0, .map h.next, .map (h.next + 1)]] false))
 | _ => none
noncomputable def xRNew : Kn1 := fun args h => match args with
 | [.c (.int .i64 z)] => askB (decide (40 ≤ z) && decide (z ≤ 256)) (some (.tup [.c (.ptr h.next 0), .c (.int .i64 0)], h.new (.row 3 [[.int .i64 (z - 1), .int .i64 1, .int .i64 0]] false)))
 | _ => none
noncomputable def xLNew : Kn1 := fun args h => match args with
 | [.g [.int .i64 a, .int .i64 b, .int .i64 c, .int .i64 d]] => (natI a).bind fun a' => (natI b).bind fun b' => (natI c).bind fun c' => (natI d).bind fun d' => askB (fineB a' b' c' d') (some (.tup [.c (.ptr (h.next + 1) 0), .c (.int .i64 0)], (h.new (.row 4 [[.int .i64 a, .int .i64 b, .int .i64 c, .int .i64 d]] false)).new (.row 8 [[.bool true, .int .i64 a, .int .i64 b, .int .i64 c, .int .i64 d, .bool false, .int .u32 0, .snil]] false)))
 | _ => none
noncomputable def xRvNew : Kn1 := fun args h => match args with
 | [] => some (.w (.c (.ptr (h.next + 1) 0)), (h.new (.map [])).new (.row 1 [[.map h.next]] false))
 | _ => none
noncomputable def xTVoid : Kn1 := fun args h => match args with
 | [] => some (.w (.g [.map (h.next + 1), .map (h.next + 1 + 1), .map (h.next + 1 + 1 + 1), .ptr (h.next + 1 + 1 + 1 + 1 + 1) 0]), ((((((h.new (.row 4 [[.mnil, .mnil, .mnil, .pnil]] false)).new (.map [])).new (.map [])).new (.map [])).new (.map [])).new (.row 1 [[.map (h.next + 1 + 1 + 1 + 1)]] false)).put h.next (.row 4 [[.map (h.next + 1), .map (h.next + 1 + 1), .map (h.next + 1 + 1 + 1), .ptr (h.next + 1 + 1 + 1 + 1 + 1) 0]] false))
 | _ => none
noncomputable def xTNew : Kn1 := fun args h => match args with
 | [.c (.int .u32 q)] => some (.w (.c (.ptr (h.next + 1 + 1 + 1 + 1 + 1 + 1) 0)), (((((((h.new (.row 4 [[.mnil, .mnil, .mnil, .pnil]] false)).new (.map [])).new (.map [])).new (.map [])).new (.map [])).new (.row 1 [[.map (h.next + 1 + 1 + 1 + 1)]] false)).put h.next (.row 4 [[.map (h.next + 1), .map (h.next + 1 + 1), .map (h.next + 1 + 1 + 1), .ptr (h.next + 1 + 1 + 1 + 1 + 1) 0]] false)).new (.row 13 [txL ⟨h.next + 1, h.next + 1 + 1, h.next + 1 + 1 + 1, h.next + 1 + 1 + 1 + 1 + 1, q, false, 0, 0, .mnil, .mnil, .mnil, .mnil, .pnil⟩] false))
 | _ => none
noncomputable def xSClean : Kn1 := fun args h => match args with
 | [.c (.ptr s 0)] => match h.get s with
  | some (.row sz [[gd, tx, nw, dt, gv, bs, kn, dd]] ro) => askB (Nat.beq sz 8 && !ro) (some (.tup [], ((((h.new (.map [])).put s (.row 8 [[gd, tx, nw, .map h.next, gv, bs, kn, dd]] false)).new (.map [])).put s (.row 8 [[gd, tx, nw, .map h.next, .map (h.next + 1), bs, kn, dd]] false)).put s (.row 8 [[gd, tx, nw, .map h.next, .map (h.next + 1), bs, .bool false, dd]] false)))
  | _ => none
 | _ => none
noncomputable def newSt (h : Go.Ev.H) (d : Nat) (a b c e : Nat) (md q : Int) : Go.Ev.H :=
 let h1 := h.new (.row 4 [geoL a b c e] false)
 let h2 := ((h1.new (.map [])).new (.map [])).new (.row 3 [[.ptr d 0, .map h1.next, .map (h1.next + 1)]] false)
 let h3 := h2.new (.row 3 [[.int .i64 ((e : Int) - 1), .int .i64 1, .int .i64 0]] false)
 let h4 := (h3.new (.row 4 [geoL a b c e] false)).new (.row 8 [[.bool true, .int .i64 (a : Int), .int .i64 (b : Int), .int .i64 (c : Int), .int .i64 (e : Int), .bool false, .int .u32 0, .snil]] false)
 let h5 := h4.new (.row 9 [gdL ⟨a, b, c, e, md, d, h1.next + 1 + 1, h2.next, h3.next + 1⟩] false)
 let h6 := h5.new (.row 8 [[.ptr h4.next 0, .pnil, .pnil, .mnil, .mnil, .snil, .bool false, .bool false]] false)
 let h7 := ((((((((h6.new (.row 4 [[.mnil, .mnil, .mnil, .pnil]] false)).new (.map [])).new (.map [])).new (.map [])).new (.map [])).new (.row 1 [[.map (h6.next + 1 + 1 + 1 + 1)]] false)).put h6.next (.row 4 [[.map (h6.next + 1), .map (h6.next + 1 + 1), .map (h6.next + 1 + 1 + 1), .ptr (h6.next + 1 + 1 + 1 + 1 + 1) 0]] false)).new (.row 13 [txL ⟨h6.next + 1, h6.next + 1 + 1, h6.next + 1 + 1 + 1, h6.next + 1 + 1 + 1 + 1 + 1, q, false, 0, 0, .mnil, .mnil, .mnil, .mnil, .pnil⟩] false)).put h5.next (.row 8 [[.ptr h4.next 0, .ptr (h6.next + 1 + 1 + 1 + 1 + 1 + 1) 0, .pnil, .mnil, .mnil, .snil, .bool false, .bool false]] false)
 ((((h7.new (.map [])).put h5.next (.row 8 [[.ptr h4.next 0, .ptr (h6.next + 1 + 1 + 1 + 1 + 1 + 1) 0, .pnil, .map h7.next, .mnil, .snil, .bool false, .bool false]] false)).new (.map [])).put h5.next (.row 8 [[.ptr h4.next 0, .ptr (h6.next + 1 + 1 + 1 + 1 + 1 + 1) 0, .pnil, .map h7.next, .map (h7.next + 1), .snil, .bool false, .bool false]] false)).put h5.next (.row 8 [[.ptr h4.next 0, .ptr (h6.next + 1 + 1 + 1 + 1 + 1 + 1) 0, .pnil, .map h7.next, .map (h7.next + 1), .snil, .bool false, .bool false]] false)
noncomputable def xSNew : Kn1 := fun args h => match args with
 | [.c (.ptr d 0), .g [.int .i64 a, .int .i64 b, .int .i64 c, .int .i64 e], .c (.int .u8 md), .c (.int .u32 q)] => (natI a).bind fun a => (natI b).bind fun b => (natI c).bind fun c => (natI e).bind fun e => (getDk h d).bind fun D => askB (fineB a b c e && Nat.ble (2 + e + a * b) D.n && decide (1 ≤ md) && decide (md ≤ 3) && decide (1 ≤ q) && decide (q ≤ 2147483648)) (some (.tup [.c (.ptr (h.next + 8) 0), .c (.int .i64 0)], newSt h d a b c e md q))
 | _ => none
attribute [go_sem] xgMay xgBlocks xDMay xDNew xCNew xRNew xLNew xRvNew xTVoid xTNew xSClean
section
variable (Hh : Hearts K Tryz.prog)
include Hh
theorem xgMay_ok {args : List W} {h h' : Go.Ev.H} {v : V} (e : xgMay args h = some (v, h')) : CallOk K Tryz.prog 67 args h v h' := by
 unfold xgMay at e
 split at e
 ·obtain ⟨a, ha, e⟩ := bind_of e
  obtain ⟨b, hb, e⟩ := bind_of e
  obtain ⟨c, hc, e⟩ := bind_of e
  obtain ⟨d, hd, e⟩ := bind_of e
  obtain ⟨f, e⟩ := askB_some.1 e
  cases e
  rw [natI_some ha, natI_some hb, natI_some hc, natI_some hd]
  exact gMayOk Hh (fineB_fine f) h
 ·cases e
theorem xgBlocks_ok {args : List W} {h h' : Go.Ev.H} {v : V} (e : xgBlocks args h = some (v, h')) : CallOk K Tryz.prog 68 args h v h' := by
 unfold xgBlocks at e
 split at e
 ·obtain ⟨a, ha, e⟩ := bind_of e
  obtain ⟨b, hb, e⟩ := bind_of e
  obtain ⟨c, hc, e⟩ := bind_of e
  obtain ⟨d, hd, e⟩ := bind_of e
  obtain ⟨f, e⟩ := askB_some.1 e
  cases e
  rw [natI_some ha, natI_some hb, natI_some hc, natI_some hd]
  exact gBlocksOk Hh (fineB_fine f) h
 ·cases e
theorem xDMay_ok {args : List W} {h h' : Go.Ev.H} {v : V} (e : xDMay args h = some (v, h')) : CallOk K Tryz.prog 64 args h v h' := by
 unfold xDMay at e
 split at e
 ·rename_i z
  obtain ⟨b, e⟩ := askB_some.1 e
  simp only [Bool.and_eq_true, decide_eq_true_eq] at b
  obtain ⟨z0, z1⟩ := b
  cases e
  refine CallOk.goes fits Hh (by kernel_rfl) (by kernel_rfl) (by kernel_rfl) (show Tryz.f64.body = some (q64 []) by kernel_rfl) rfl ?_
  show Goes K Tryz.prog 9 none _ _ _ _ _
  refine Goes.seqQ q64_ ?_
  refine Goes.opsQ q64_0 fits Hh E0_sound (by
   simp (maxSteps := 999999) +decide (discharger := first | omega | (simp only [lens] <;> omega) | decide) only [go_sem, q64, Tryz.f64, readRow, loadIn, simprocAttr]
   rfl) ?_
  refine Goes.seqQ q64_1 ?_
  refine Goes.opsQ q64_10 fits Hh E0_sound (by
   simp (maxSteps := 999999) +decide (discharger := first | omega | (simp only [lens] <;> omega) | decide) only [go_sem, q64, Tryz.f64, readRow, loadIn, simprocAttr]
   rfl) ?_
  refine Goes.retQ q64_11 ?_
  simp (maxSteps := 999999) +decide (discharger := first | omega | (simp only [lens] <;> omega) | decide) only [go_sem, readRow, loadIn, simprocAttr] <;> rfl
 ·cases e
theorem xDNew_ok {args : List W} {h h' : Go.Ev.H} {v : V} (e : xDNew args h = some (v, h')) : CallOk K Tryz.prog 36 args h v h' := by
 unfold xDNew at e
 split at e
 ·rename_i z
  obtain ⟨n, hn, e⟩ := bind_of e
  obtain ⟨b, e⟩ := askB_some.1 e
  simp only [Bool.and_eq_true] at b
  have n0 := Nat.le_of_ble_eq_true b.1
  have n1 := Nat.le_of_ble_eq_true b.2
  cases e
  rw [natI_some hn]
  refine CallOk.goes fits Hh (by kernel_rfl) (by kernel_rfl) (by kernel_rfl) (show Tryz.f36.body = some (q36 []) by kernel_rfl) rfl ?_
  show Goes K Tryz.prog 13 none _ _ _ _ _
  refine Goes.seqQ q36_ ?_
  refine Goes.opsQ q36_0 fits Hh E0_sound (by
   simp (maxSteps := 999999) +decide (discharger := first | omega | (simp only [lens] <;> omega) | decide) only [go_sem, q36, Tryz.f36, readRow, loadIn, simprocAttr, zB, opMakeSlice, newSlice, opBox]
   rfl) ?_
  refine Goes.seqQ q36_1 ?_
  refine Goes.seqQ q36_10 ?_
  refine Goes.opsQ q36_100 fits Hh (EX_sound E0_sound (fun _ _ _ _ => xDMay_ok Hh)) (by
   simp (maxSteps := 999999) +decide (discharger := first | omega | (simp only [lens] <;> omega) | decide) only [go_sem, q36, Tryz.f36, readRow, loadIn, simprocAttr, zB, opMakeSlice, newSlice, opBox]
   rfl) ?_
  refine Goes.condFQ q36_101 (by simp (maxSteps := 999999) +decide (discharger := first | omega | (simp only [lens] <;> omega) | decide) only [go_sem, readRow, loadIn, simprocAttr, zB, opMakeSlice, newSlice, opBox] <;> rfl) (by first | rfl | assumption | exact decide_eq_false (by omega) | (simp; omega)) ?_
  refine Goes.skipQ q36_1014 ?_
  refine Goes.seqQ q36_11 ?_
  refine Goes.drawnQ q36_110 fits Hh E0_sound (by kernel_rfl) (by
   simp (maxSteps := 999999) +decide (discharger := first | omega | (simp only [lens] <;> omega) | decide) only [go_sem, q36, Tryz.f36, readRow, loadIn, simprocAttr, op_move, op_assign, op_binOp, op_unOp, op_convert, op_load, op_store, op_indexAddr, op_alloc, op_pick, op_box, op_build, op_buildSlice, op_nilCheck, op_makeSlice, op_fieldAddr, op_field, op_extract, op_lookup, op_mapUpdate, op_builtin, op_index, drEnd, drAll, drOne, drTs, drKd, drPure, drRead, drAlloc, drEff, drSkip, drPut, putT_ok, putT_none, cutT, looks, tmpOf, Op.operands, Call.operands, kd, kdCall, List.filterMap_cons, List.filterMap_nil, List.append_nil, List.nil_append, List.cons_append, stables, stable, reachAt, reachP, waitsAt, waits, gives_self, List.all_cons, List.all_nil, List.any_cons, List.any_nil, Region.binds, Bool.or_true, Bool.true_or, Bool.and_true, Bool.true_and, Bool.or_false, Bool.false_or, Bool.and_self, Bool.or_self, ble_true, Nat.le_refl, Nat.le_add_right, List.map_cons, Array.toList_append, zB, opMakeSlice, newSlice, opBox]
   rfl) ?_
  refine Goes.retQ q36_111 ?_
  simp (maxSteps := 999999) +decide (discharger := first | omega | (simp only [lens] <;> omega) | decide) only [go_sem, readRow, loadIn, simprocAttr, zB, opMakeSlice, newSlice, opBox] <;> rfl
 ·cases e
theorem xCNew_ok {args : List W} {h h' : Go.Ev.H} {v : V} (e : xCNew args h = some (v, h')) : CallOk K Tryz.prog 69 args h v h' := by
 unfold xCNew at e
 split at e
 ·rename_i d
  obtain ⟨D, hd, e⟩ := bind_of e
  obtain ⟨hd, n0, n1⟩ := getDk_some hd
  cases e
  refine CallOk.goes fits Hh (by kernel_rfl) (by kernel_rfl) (by kernel_rfl) (show Tryz.f69.body = some (q69 []) by kernel_rfl) rfl ?_
  show Goes K Tryz.prog 12 none _ _ _ _ _
  refine Goes.seqQ q69_ ?_
  refine Goes.opsQ q69_0 fits Hh E0_sound (by
   simp (maxSteps := 999999) +decide (discharger := first | omega | (simp only [lens] <;> omega) | decide) only [go_sem, q69, Tryz.f69, readRow, loadIn, simprocAttr, hd, opBox]
   rfl) ?_
  refine Goes.seqQ q69_1 ?_
  refine Goes.seqQ q69_10 ?_
  refine Goes.opsQ q69_100 fits Hh (EX_sound E0_sound (fun _ _ _ _ => xDBlocks_ok Hh)) (by
   simp (maxSteps := 999999) +decide (discharger := first | omega | (simp only [lens] <;> omega) | decide) only [go_sem, q69, Tryz.f69, readRow, loadIn, simprocAttr, hd, opBox]
   rfl) ?_
  refine Goes.condFQ q69_101 (by simp (maxSteps := 999999) +decide (discharger := first | omega | (simp only [lens] <;> omega) | decide) only [go_sem, readRow, loadIn, simprocAttr, hd, opBox] <;> rfl) (by first | rfl | assumption | exact decide_eq_false (by omega) | (simp; omega)) ?_
  refine Goes.skipQ q69_1014 ?_
  refine Goes.seqQ q69_11 ?_
  refine Goes.opsQ q69_110 fits Hh E0_sound (by
   simp (maxSteps := 999999) +decide (discharger := first | omega | (simp only [lens] <;> omega) | decide) only [go_sem, q69, Tryz.f69, readRow, loadIn, simprocAttr, hd, opBox]
   rfl) ?_
  refine Goes.retQ q69_111 ?_
  simp (maxSteps := 999999) +decide (discharger := first | omega | (simp only [lens] <;> omega) | decide) only [go_sem, readRow, loadIn, simprocAttr, hd, opBox] <;> rfl
 ·cases e
theorem xRNew_ok {args : List W} {h h' : Go.Ev.H} {v : V} (e : xRNew args h = some (v, h')) : CallOk K Tryz.prog 70 args h v h' := by
 unfold xRNew at e
 split at e
 ·rename_i z
  obtain ⟨b, e⟩ := askB_some.1 e
  simp only [Bool.and_eq_true, decide_eq_true_eq] at b
  obtain ⟨z0, z1⟩ := b
  cases e
  refine CallOk.goes fits Hh (by kernel_rfl) (by kernel_rfl) (by kernel_rfl) (show Tryz.f70.body = some (q70 []) by kernel_rfl) rfl ?_
  show Goes K Tryz.prog 14 none _ _ _ _ _
  refine Goes.seqQ q70_ ?_
  refine Goes.opsQ q70_0 fits Hh E0_sound (by
   simp (maxSteps := 999999) +decide (discharger := first | omega | (simp only [lens] <;> omega) | decide) only [go_sem, q70, Tryz.f70, readRow, loadIn, simprocAttr, opBox]
   rfl) ?_
  refine Goes.seqQ q70_1 ?_
  refine Goes.seqQ q70_10 ?_
  refine Goes.opsQ q70_100 fits Hh E0_sound (by
   simp (maxSteps := 999999) +decide (discharger := first | omega | (simp only [lens] <;> omega) | decide) only [go_sem, q70, Tryz.f70, readRow, loadIn, simprocAttr, opBox]
   rfl) ?_
  refine Goes.condFQ q70_101 (by simp (maxSteps := 999999) +decide (discharger := first | omega | (simp only [lens] <;> omega) | decide) only [go_sem, readRow, loadIn, simprocAttr, opBox] <;> rfl) (by first | rfl | assumption | exact decide_eq_false (by omega) | (simp; omega)) ?_
  refine Goes.skipQ q70_1014 ?_
  refine Goes.seqQ q70_11 ?_
  refine Goes.opsQ q70_110 fits Hh E0_sound (by
   simp (maxSteps := 999999) +decide (discharger := first | omega | (simp only [lens] <;> omega) | decide) only [go_sem, q70, Tryz.f70, readRow, loadIn, simprocAttr, opBox]
   rfl) ?_
  refine Goes.retQ q70_111 ?_
  simp (maxSteps := 999999) +decide (discharger := first | omega | (simp only [lens] <;> omega) | decide) only [go_sem, readRow, loadIn, simprocAttr, opBox] <;> rfl
 ·cases e
theorem xLNew_ok {args : List W} {h h' : Go.Ev.H} {v : V} (e : xLNew args h = some (v, h')) : CallOk K Tryz.prog 71 args h v h' := by
 unfold xLNew at e
 split at e
 ·obtain ⟨a, ha, e⟩ := bind_of e
  obtain ⟨b, hb, e⟩ := bind_of e
  obtain ⟨c, hc, e⟩ := bind_of e
  obtain ⟨d, hd, e⟩ := bind_of e
  obtain ⟨f, e⟩ := askB_some.1 e
  cases e
  rw [natI_some ha, natI_some hb, natI_some hc, natI_some hd]
  refine CallOk.goes fits Hh (by kernel_rfl) (by kernel_rfl) (by kernel_rfl) (show Tryz.f71.body = some (q71 []) by kernel_rfl) rfl ?_
  show Goes K Tryz.prog 10 none _ _ _ _ _
  refine Goes.seqQ q71_ ?_
  refine Goes.opsQ q71_0 fits Hh E0_sound (by
   simp (maxSteps := 999999) +decide (discharger := first | omega | (simp only [lens] <;> omega) | decide) only [go_sem, q71, Tryz.f71, readRow, loadIn, simprocAttr, f, opBox, read1]
   rfl) ?_
  refine Goes.seqQ q71_1 ?_
  refine Goes.seqQ q71_10 ?_
  refine Goes.opsQ q71_100 fits Hh (EX_sound E0_sound (fun _ _ _ _ => xgMay_ok Hh)) (by
   simp (maxSteps := 999999) +decide (discharger := first | omega | (simp only [lens] <;> omega) | decide) only [go_sem, q71, Tryz.f71, readRow, loadIn, simprocAttr, f, opBox, read1]
   rfl) ?_
  refine Goes.condFQ q71_101 (by simp (maxSteps := 999999) +decide (discharger := first | omega | (simp only [lens] <;> omega) | decide) only [go_sem, readRow, loadIn, simprocAttr, f, opBox, read1] <;> rfl) (by first | rfl | assumption | exact decide_eq_false (by omega) | (simp; omega)) ?_
  refine Goes.skipQ q71_1014 ?_
  refine Goes.seqQ q71_11 ?_
  refine Goes.opsQ q71_110 fits Hh E0_sound (by
   simp (maxSteps := 999999) +decide (discharger := first | omega | (simp only [lens] <;> omega) | decide) only [go_sem, q71, Tryz.f71, readRow, loadIn, simprocAttr, f, opBox, read1]
   rfl) ?_
  refine Goes.retQ q71_111 ?_
  simp (maxSteps := 999999) +decide (discharger := first | omega | (simp only [lens] <;> omega) | decide) only [go_sem, readRow, loadIn, simprocAttr, f, opBox, read1] <;> rfl
 ·cases e
theorem xRvNew_ok {args : List W} {h h' : Go.Ev.H} {v : V} (e : xRvNew args h = some (v, h')) : CallOk K Tryz.prog 78 args h v h' := by
 unfold xRvNew at e
 split at e
 ·cases e
  refine CallOk.goes fits Hh (by kernel_rfl) (by kernel_rfl) (by kernel_rfl) (show Tryz.f78.body = some (q78 []) by kernel_rfl) rfl ?_
  show Goes K Tryz.prog 4 none _ _ _ _ _
  refine Goes.seqQ q78_ ?_
  refine Goes.opsQ q78_0 fits Hh E0_sound (by
   simp (maxSteps := 999999) +decide (discharger := first | omega | (simp only [lens] <;> omega) | decide) only [go_sem, q78, Tryz.f78, readRow, loadIn, simprocAttr, opBox]
   rfl) ?_
  refine Goes.seqQ q78_1 ?_
  refine Goes.opsQ q78_10 fits Hh E0_sound (by
   simp (maxSteps := 999999) +decide (discharger := first | omega | (simp only [lens] <;> omega) | decide) only [go_sem, q78, Tryz.f78, readRow, loadIn, simprocAttr, opBox]
   rfl) ?_
  refine Goes.retQ q78_11 ?_
  simp (maxSteps := 999999) +decide (discharger := first | omega | (simp only [lens] <;> omega) | decide) only [go_sem, readRow, loadIn, simprocAttr, opBox] <;> rfl
 ·cases e
theorem xTVoid_ok {args : List W} {h h' : Go.Ev.H} {v : V} (e : xTVoid args h = some (v, h')) : CallOk K Tryz.prog 93 args h v h' := by
 unfold xTVoid at e
 split at e
 ·cases e
  refine CallOk.goes fits Hh (by kernel_rfl) (by kernel_rfl) (by kernel_rfl) (show Tryz.f93.body = some (q93 []) by kernel_rfl) rfl ?_
  show Goes K Tryz.prog 6 none _ _ _ _ _
  refine Goes.seqQ q93_ ?_
  refine Goes.opsQ q93_0 fits Hh E0_sound (by
   simp (maxSteps := 999999) +decide (discharger := first | omega | (simp only [lens] <;> omega) | decide) only [go_sem, q93, Tryz.f93, readRow, loadIn, simprocAttr, opBox, writeRow, read1]
   rfl) ?_
  refine Goes.seqQ q93_1 ?_
  refine Goes.opsQ q93_10 fits Hh (EX_sound E0_sound (fun _ _ _ _ => xRvNew_ok Hh)) (by
   simp (maxSteps := 999999) +decide (discharger := first | omega | (simp only [lens] <;> omega) | decide) only [go_sem, q93, Tryz.f93, readRow, loadIn, simprocAttr, opBox, writeRow, read1]
   rfl) ?_
  refine Goes.retQ q93_11 ?_
  simp (maxSteps := 999999) +decide (discharger := first | omega | (simp only [lens] <;> omega) | decide) only [go_sem, readRow, loadIn, simprocAttr, opBox, writeRow, read1] <;> rfl
 ·cases e
theorem xTNew_ok {args : List W} {h h' : Go.Ev.H} {v : V} (e : xTNew args h = some (v, h')) : CallOk K Tryz.prog 72 args h v h' := by
 unfold xTNew at e
 split at e
 ·rename_i q
  cases e
  refine CallOk.goes fits Hh (by kernel_rfl) (by kernel_rfl) (by kernel_rfl) (show Tryz.f72.body = some (q72 []) by kernel_rfl) rfl ?_
  show Goes K Tryz.prog 7 none _ _ _ _ _
  refine Goes.seqQ q72_ ?_
  refine Goes.opsQ q72_0 fits Hh E0_sound (by
   simp (maxSteps := 999999) +decide (discharger := first | omega | (simp only [lens] <;> omega) | decide) only [go_sem, q72, Tryz.f72, readRow, loadIn, simprocAttr, opBox]
   rfl) ?_
  refine Goes.seqQ q72_1 ?_
  refine Goes.opsQ q72_10 fits Hh (EX_sound E0_sound (fun _ _ _ _ => xTVoid_ok Hh)) (by
   simp (maxSteps := 999999) +decide (discharger := first | omega | (simp only [lens] <;> omega) | decide) only [go_sem, q72, Tryz.f72, readRow, loadIn, simprocAttr, opBox]
   rfl) ?_
  refine Goes.retQ q72_11 ?_
  simp (maxSteps := 999999) +decide (discharger := first | omega | (simp only [lens] <;> omega) | decide) only [go_sem, readRow, loadIn, simprocAttr, opBox] <;> rfl
 ·cases e
theorem xSClean_ok {args : List W} {h h' : Go.Ev.H} {v : V} (e : xSClean args h = some (v, h')) : CallOk K Tryz.prog 20 args h v h' := by
 unfold xSClean at e
 split at e
 ·rename_i s
  split at e
  ·rename_i heq
   obtain ⟨b, e⟩ := askB_some.1 e
   simp only [Bool.and_eq_true, Bool.not_eq_true'] at b
   obtain ⟨b1, rfl⟩ := b
   obtain rfl := Nat.eq_of_beq_eq_true b1
   cases e
   refine CallOk.tidy ⟨Tryz.f20, Tryz.func20, by kernel_rfl, by decide⟩ fun tidy => ?_
   have l1 := tidy _ _ heq
   refine CallOk.goes fits Hh (by kernel_rfl) (by kernel_rfl) (by kernel_rfl) (show Tryz.f20.body = some (q20 []) by kernel_rfl) rfl ?_
   show Goes K Tryz.prog 13 none _ _ _ _ _
   refine Goes.seqQ q20_ ?_
   refine Goes.opsQ q20_0 fits Hh E0_sound (by
    simp (maxSteps := 999999) +decide (discharger := first | omega | (simp only [lens] <;> omega) | decide) only [go_sem, q20, Tryz.f20, readRow, loadIn, simprocAttr, heq, read1, writeRow]
    rfl) ?_
   refine Goes.seqQ q20_1 ?_
   refine Goes.opsQ q20_10 fits Hh E0_sound (by
    simp (maxSteps := 999999) +decide (discharger := first | omega | (simp only [lens] <;> omega) | decide) only [go_sem, q20, Tryz.f20, readRow, loadIn, simprocAttr, heq, read1, writeRow]
    rfl) ?_
   refine Goes.opsQ q20_11 fits Hh E0_sound (by
    simp (maxSteps := 999999) +decide (discharger := first | omega | (simp only [lens] <;> omega) | decide) only [go_sem, q20, Tryz.f20, readRow, loadIn, simprocAttr, heq, read1, writeRow]
    rfl) ?_
   simp (maxSteps := 999999) +decide (discharger := first | omega | (simp only [lens] <;> omega) | decide) only [go_sem, readRow, loadIn, simprocAttr, heq, read1, writeRow] <;> rfl
  ·cases e
 ·cases e
end
end Go.Proofs.YtpiljmilaelfnaaGreatDoor
