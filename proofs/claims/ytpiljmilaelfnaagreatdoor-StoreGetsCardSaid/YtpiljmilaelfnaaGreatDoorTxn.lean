/- Transactions: made, handle, askB, Seq, Open, Get, Put, Order, close, End; the revoked blocks, if there are none. -/
import Derived.Test.YtpiljmilaelfnaaGreatDoorTy
import Derived.Test.YtpiljmilaelfnaaGreatDoorEvC
set_option linter.unusedSimpArgs false
set_option linter.unusedVariables false
set_option linter.unusedSectionVars false
set_option maxRecDepth 100000
namespace Go.Proofs.YtpiljmilaelfnaaGreatDoor
open Go.Ev
theorem ty3 : K.types.get 3 = some ti3 := by kernel_rfl
theorem sz3 : ti3.size = 1 := by rfl
theorem ag3 : ti3.agg = false := by rfl
theorem de3 : ti3.desc = (.int .i64) := by rfl
theorem ze3 : ti3.zero = (.c (.int .i64 0)) := by rfl
theorem by3 : ti3.bytes = 8 := by rfl
theorem ke3 (k : IntKind) (n : Int) : keyT K 20 3 (.c (.int k n)) = true := by kernel_rfl
theorem ty4 : K.types.get 4 = some ti4 := by kernel_rfl
theorem sz4 : ti4.size = 1 := by rfl
theorem ag4 : ti4.agg = false := by rfl
theorem de4 : ti4.desc = .bool := by rfl
theorem ze4 : ti4.zero = (.c (.bool false)) := by rfl
theorem by4 : ti4.bytes = 1 := by rfl
theorem ty5 : K.types.get 5 = some ti5 := by kernel_rfl
theorem sz5 : ti5.size = 1 := by rfl
theorem ag5 : ti5.agg = false := by rfl
theorem de5 : ti5.desc = (.int .u8) := by rfl
theorem ze5 : ti5.zero = (.c (.int .u8 0)) := by rfl
theorem by5 : ti5.bytes = 1 := by rfl
theorem ke5 (k : IntKind) (n : Int) : keyT K 20 5 (.c (.int k n)) = true := by kernel_rfl
theorem ty29 : K.types.get 29 = some ti29 := by kernel_rfl
theorem sz29 : ti29.size = 1 := by rfl
theorem ag29 : ti29.agg = false := by rfl
theorem de29 : ti29.desc = (.int .i64) := by rfl
theorem ze29 : ti29.zero = (.c (.int .i64 0)) := by rfl
theorem by29 : ti29.bytes = 8 := by rfl
theorem ke29 (k : IntKind) (n : Int) : keyT K 20 29 (.c (.int k n)) = true := by kernel_rfl
theorem ty33 : K.types.get 33 = some ti33 := by kernel_rfl
theorem sz33 : ti33.size = 1 := by rfl
theorem ag33 : ti33.agg = false := by rfl
theorem de33 : ti33.desc = (.int .u32) := by rfl
theorem ze33 : ti33.zero = (.c (.int .u32 0)) := by rfl
theorem by33 : ti33.bytes = 4 := by rfl
theorem ke33 (k : IntKind) (n : Int) : keyT K 20 33 (.c (.int k n)) = true := by kernel_rfl
theorem ty38 : K.types.get 38 = some ti38 := by kernel_rfl
theorem sz38 : ti38.size = 256 := by rfl
theorem ag38 : ti38.agg = true := by rfl
theorem de38 : ti38.desc = (.array 256 5) := by rfl
theorem ze38 : ti38.zero = (.g ((List.replicate 256 (.int .u8 0)))) := by rfl
theorem by38 : ti38.bytes = 256 := by rfl
theorem eq38 (a b : List C) : eqT K 20 38 (.g a) (.g b) = (bif true && Nat.beq a.length 256 && Nat.beq b.length 256 then eqInts a b else none) := by kernel_rfl
theorem ty49 : K.types.get 49 = some ti49 := by kernel_rfl
theorem sz49 : ti49.size = 1 := by rfl
theorem ag49 : ti49.agg = false := by rfl
theorem de49 : ti49.desc = (.pointer 94) := by rfl
theorem ze49 : ti49.zero = (.c (.pnil)) := by rfl
theorem by49 : ti49.bytes = 8 := by rfl
theorem ty88 : K.types.get 88 = some ti88 := by kernel_rfl
theorem sz88 : ti88.size = 1 := by rfl
theorem ag88 : ti88.agg = false := by rfl
theorem de88 : ti88.desc = (.map 3 38) := by rfl
theorem ze88 : ti88.zero = (.c (.mnil)) := by rfl
theorem by88 : ti88.bytes = 8 := by rfl
theorem mp88 : mapTI K 88 = some (3, 38) := by kernel_rfl
theorem ty89 : K.types.get 89 = some ti89 := by kernel_rfl
theorem sz89 : ti89.size = 1 := by rfl
theorem ag89 : ti89.agg = false := by rfl
theorem de89 : ti89.desc = (.map 3 99) := by rfl
theorem ze89 : ti89.zero = (.c (.mnil)) := by rfl
theorem by89 : ti89.bytes = 8 := by rfl
theorem mp89 : mapTI K 89 = some (3, 99) := by kernel_rfl
theorem ty90 : K.types.get 90 = some ti90 := by kernel_rfl
theorem sz90 : ti90.size = 1 := by rfl
theorem ag90 : ti90.agg = false := by rfl
theorem de90 : ti90.desc = (.pointer 136) := by rfl
theorem ze90 : ti90.zero = (.c (.pnil)) := by rfl
theorem by90 : ti90.bytes = 8 := by rfl
theorem ty92 : K.types.get 92 = some ti92 := by kernel_rfl
theorem sz92 : ti92.size = 4 := by rfl
theorem ag92 : ti92.agg = true := by rfl
theorem fo92_0 : fieldOf K 92 0 = some (0, ti88) := by kernel_rfl
theorem fo92_1 : fieldOf K 92 1 = some (1, ti89) := by kernel_rfl
theorem fo92_2 : fieldOf K 92 2 = some (2, ti89) := by kernel_rfl
theorem fo92_3 : fieldOf K 92 3 = some (3, ti90) := by kernel_rfl
theorem bu92 (ps : List (Nat × W)) : opBuild K 92 (some ps) = gW (fillStruct K 92 ps ti92.zero.cells) := by kernel_rfl
theorem ze92 : ti92.zero = (.g ([.mnil, .mnil, .mnil, .pnil])) := by rfl
theorem by92 : ti92.bytes = 32 := by rfl
theorem ty94 : K.types.get 94 = some ti94 := by kernel_rfl
theorem sz94 : ti94.size = 13 := by rfl
theorem ag94 : ti94.agg = true := by rfl
theorem fo94_0 : fieldOf K 94 0 = some (0, ti92) := by kernel_rfl
theorem fo94_1 : fieldOf K 94 1 = some (4, ti33) := by kernel_rfl
theorem fo94_2 : fieldOf K 94 2 = some (5, ti4) := by kernel_rfl
theorem fo94_3 : fieldOf K 94 3 = some (6, ti3) := by kernel_rfl
theorem fo94_4 : fieldOf K 94 4 = some (7, ti3) := by kernel_rfl
theorem fo94_5 : fieldOf K 94 5 = some (8, ti89) := by kernel_rfl
theorem fo94_6 : fieldOf K 94 6 = some (9, ti92) := by kernel_rfl
theorem bu94 (ps : List (Nat × W)) : opBuild K 94 (some ps) = gW (fillStruct K 94 ps ti94.zero.cells) := by kernel_rfl
theorem ze94 : ti94.zero = (.g ([.mnil, .mnil, .mnil, .pnil, .int .u32 0, .bool false, .int .i64 0, .int .i64 0, .mnil, .mnil, .mnil, .mnil, .pnil])) := by rfl
theorem by94 : ti94.bytes = 96 := by rfl
theorem ty99 : K.types.get 99 = some ti99 := by kernel_rfl
theorem sz99 : ti99.size = 0 := by rfl
theorem ag99 : ti99.agg = true := by rfl
theorem bu99 (ps : List (Nat × W)) : opBuild K 99 (some ps) = gW (fillStruct K 99 ps ti99.zero.cells) := by kernel_rfl
theorem ze99 : ti99.zero = (.g ([])) := by rfl
theorem by99 : ti99.bytes = 0 := by rfl
theorem ty134 : K.types.get 134 = some ti134 := by kernel_rfl
theorem sz134 : ti134.size = 1 := by rfl
theorem ag134 : ti134.agg = false := by rfl
theorem de134 : ti134.desc = (.map 138 99) := by rfl
theorem ze134 : ti134.zero = (.c (.mnil)) := by rfl
theorem by134 : ti134.bytes = 8 := by rfl
theorem mp134 : mapTI K 134 = some (138, 99) := by kernel_rfl
theorem ty136 : K.types.get 136 = some ti136 := by kernel_rfl
theorem sz136 : ti136.size = 1 := by rfl
theorem ag136 : ti136.agg = true := by rfl
theorem fo136_0 : fieldOf K 136 0 = some (0, ti134) := by kernel_rfl
theorem bu136 (ps : List (Nat × W)) : opBuild K 136 (some ps) = gW (fillStruct K 136 ps ti136.zero.cells) := by kernel_rfl
theorem ze136 : ti136.zero = (.g ([.mnil])) := by rfl
theorem by136 : ti136.bytes = 8 := by rfl
theorem ty138 : K.types.get 138 = some ti138 := by kernel_rfl
theorem sz138 : ti138.size = 2 := by rfl
theorem ag138 : ti138.agg = true := by rfl
theorem fo138_0 : fieldOf K 138 0 = some (0, ti3) := by kernel_rfl
theorem fo138_1 : fieldOf K 138 1 = some (1, ti33) := by kernel_rfl
theorem bu138 (ps : List (Nat × W)) : opBuild K 138 (some ps) = gW (fillStruct K 138 ps ti138.zero.cells) := by kernel_rfl
theorem ze138 : ti138.zero = (.g ([.int .i64 0, .int .u32 0])) := by rfl
theorem by138 : ti138.bytes = 16 := by rfl
attribute [go_sem] ty3 sz3 ag3 de3 ze3 by3 ke3 ty4 sz4 ag4 de4 ze4 by4 ty5 sz5 ag5 de5 ze5 by5 ke5 ty29 sz29 ag29 de29 ze29 by29 ke29 ty33 sz33 ag33 de33 ze33 by33 ke33 ty38 sz38 ag38 de38 ze38 by38 eq38 ty49 sz49 ag49 de49 ze49 by49 ty88 sz88 ag88 de88 ze88 by88 mp88 ty89 sz89 ag89 de89 ze89 by89 mp89 ty90 sz90 ag90 de90 ze90 by90 ty92 sz92 ag92 fo92_0 fo92_1 fo92_2 fo92_3 bu92 ze92 by92 ty94 sz94 ag94 fo94_0 fo94_1 fo94_2 fo94_3 fo94_4 fo94_5 fo94_6 bu94 ze94 by94 ty99 sz99 ag99 bu99 ze99 by99 ty134 sz134 ag134 de134 ze134 by134 mp134 ty136 sz136 ag136 fo136_0 bu136 ze136 by136 ty138 sz138 ag138 fo138_0 fo138_1 bu138 ze138 by138
noncomputable def q15 (p : List Nat) : Code := piece p (bodyOf Tryz.f15)
theorem q15_ : q15 [] = .seq (q15 [0]) (q15 [1]) := by kernel_rfl
theorem q15_0 : q15 [0] = .region 0 (opsA (q15 [0])) false := by kernel_rfl
theorem q15_1 : q15 [1] = .seq (q15 [1,0]) (q15 [1,1]) := by kernel_rfl
theorem q15_10 : q15 [1,0] = .seq (q15 [1,0,0]) (q15 [1,0,1]) := by kernel_rfl
theorem q15_100 : q15 [1,0,0] = .region 1 (opsA (q15 [1,0,0])) false := by kernel_rfl
theorem q15_101 : q15 [1,0,1] = .cond (.tmp 5) (q15 [1,0,1,3]) (q15 [1,0,1,4]) := by kernel_rfl
theorem q15_1014 : q15 [1,0,1,4] = .skip := by kernel_rfl
theorem q15_11 : q15 [1,1] = .seq (q15 [1,1,0]) (q15 [1,1,1]) := by kernel_rfl
theorem q15_110 : q15 [1,1,0] = .region 3 (opsA (q15 [1,1,0])) false := by kernel_rfl
theorem q15_111 : q15 [1,1,1] = .ret := by kernel_rfl
noncomputable def q16 (p : List Nat) : Code := piece p (bodyOf Tryz.f16)
theorem q16_ : q16 [] = .seq (q16 [0]) (q16 [1]) := by kernel_rfl
theorem q16_0 : q16 [0] = .region 0 (opsA (q16 [0])) false := by kernel_rfl
theorem q16_1 : q16 [1] = .seq (q16 [1,0]) (q16 [1,1]) := by kernel_rfl
theorem q16_10 : q16 [1,0] = .region 1 (opsA (q16 [1,0])) false := by kernel_rfl
theorem q16_11 : q16 [1,1] = .ret := by kernel_rfl
noncomputable def q23 (p : List Nat) : Code := piece p (bodyOf Tryz.f23)
theorem q23_ : q23 [] = .seq (q23 [0]) (q23 [1]) := by kernel_rfl
theorem q23_0 : q23 [0] = .region 0 (opsA (q23 [0])) false := by kernel_rfl
theorem q23_1 : q23 [1] = .seq (q23 [1,0]) (q23 [1,1]) := by kernel_rfl
theorem q23_10 : q23 [1,0] = .seq (q23 [1,0,0]) (q23 [1,0,1]) := by kernel_rfl
theorem q23_100 : q23 [1,0,0] = .region 1 (opsA (q23 [1,0,0])) false := by kernel_rfl
theorem q23_101 : q23 [1,0,1] = .seq (q23 [1,0,1,0]) (q23 [1,0,1,1]) := by kernel_rfl
theorem q23_1010 : q23 [1,0,1,0] = .region 2 (opsA (q23 [1,0,1,0])) false := by kernel_rfl
theorem q23_1011 : q23 [1,0,1,1] = .cond (.tmp 14) (q23 [1,0,1,1,3]) (q23 [1,0,1,1,4]) := by kernel_rfl
theorem q23_10114 : q23 [1,0,1,1,4] = .skip := by kernel_rfl
theorem q23_11 : q23 [1,1] = .seq (q23 [1,1,0]) (q23 [1,1,1]) := by kernel_rfl
theorem q23_110 : q23 [1,1,0] = .seq (q23 [1,1,0,0]) (q23 [1,1,0,1]) := by kernel_rfl
theorem q23_1100 : q23 [1,1,0,0] = .region 4 (opsA (q23 [1,1,0,0])) false := by kernel_rfl
theorem q23_1101 : q23 [1,1,0,1] = .seq (q23 [1,1,0,1,0]) (q23 [1,1,0,1,1]) := by kernel_rfl
theorem q23_11010 : q23 [1,1,0,1,0] = .region 5 (opsA (q23 [1,1,0,1,0])) true := by kernel_rfl
theorem q23_11011 : q23 [1,1,0,1,1] = .cond (.tmp 38) (q23 [1,1,0,1,1,3]) (q23 [1,1,0,1,1,4]) := by kernel_rfl
theorem q23_110114 : q23 [1,1,0,1,1,4] = .skip := by kernel_rfl
theorem q23_111 : q23 [1,1,1] = .seq (q23 [1,1,1,0]) (q23 [1,1,1,1]) := by kernel_rfl
theorem q23_1110 : q23 [1,1,1,0] = .region 7 (opsA (q23 [1,1,1,0])) false := by kernel_rfl
theorem q23_1111 : q23 [1,1,1,1] = .seq (q23 [1,1,1,1,0]) (q23 [1,1,1,1,1]) := by kernel_rfl
theorem q23_11110 : q23 [1,1,1,1,0] = .region 8 (opsA (q23 [1,1,1,1,0])) true := by kernel_rfl
theorem q23_11111 : q23 [1,1,1,1,1] = .seq (q23 [1,1,1,1,1,0]) (q23 [1,1,1,1,1,1]) := by kernel_rfl
theorem q23_111110 : q23 [1,1,1,1,1,0] = .region 9 (opsA (q23 [1,1,1,1,1,0])) false := by kernel_rfl
theorem q23_111111 : q23 [1,1,1,1,1,1] = .seq (q23 [1,1,1,1,1,1,0]) (q23 [1,1,1,1,1,1,1]) := by kernel_rfl
theorem q23_1111110 : q23 [1,1,1,1,1,1,0] = .region 10 (opsA (q23 [1,1,1,1,1,1,0])) true := by kernel_rfl
theorem q23_1111111 : q23 [1,1,1,1,1,1,1] = .seq (q23 [1,1,1,1,1,1,1,0]) (q23 [1,1,1,1,1,1,1,1]) := by kernel_rfl
theorem q23_11111110 : q23 [1,1,1,1,1,1,1,0] = .region 11 (opsA (q23 [1,1,1,1,1,1,1,0])) false := by kernel_rfl
theorem q23_11111111 : q23 [1,1,1,1,1,1,1,1] = .ret := by kernel_rfl
noncomputable def q34 (p : List Nat) : Code := piece p (bodyOf Tryz.f34)
theorem q34_ : q34 [] = .seq (q34 [0]) (q34 [1]) := by kernel_rfl
theorem q34_0 : q34 [0] = .region 0 (opsA (q34 [0])) false := by kernel_rfl
theorem q34_1 : q34 [1] = .seq (q34 [1,0]) (q34 [1,1]) := by kernel_rfl
theorem q34_10 : q34 [1,0] = .seq (q34 [1,0,0]) (q34 [1,0,1]) := by kernel_rfl
theorem q34_100 : q34 [1,0,0] = .region 1 (opsA (q34 [1,0,0])) false := by kernel_rfl
theorem q34_101 : q34 [1,0,1] = .seq (q34 [1,0,1,0]) (q34 [1,0,1,1]) := by kernel_rfl
theorem q34_1010 : q34 [1,0,1,0] = .region 2 (opsA (q34 [1,0,1,0])) false := by kernel_rfl
theorem q34_1011 : q34 [1,0,1,1] = .cond (.tmp 10) (q34 [1,0,1,1,3]) (q34 [1,0,1,1,4]) := by kernel_rfl
theorem q34_10114 : q34 [1,0,1,1,4] = .skip := by kernel_rfl
theorem q34_11 : q34 [1,1] = .seq (q34 [1,1,0]) (q34 [1,1,1]) := by kernel_rfl
theorem q34_110 : q34 [1,1,0] = .region 4 (opsA (q34 [1,1,0])) false := by kernel_rfl
theorem q34_111 : q34 [1,1,1] = .seq (q34 [1,1,1,0]) (q34 [1,1,1,1]) := by kernel_rfl
theorem q34_1110 : q34 [1,1,1,0] = .region 5 (opsA (q34 [1,1,1,0])) false := by kernel_rfl
theorem q34_1111 : q34 [1,1,1,1] = .ret := by kernel_rfl
noncomputable def q35 (p : List Nat) : Code := piece p (bodyOf Tryz.f35)
theorem q35_ : q35 [] = .seq (q35 [0]) (q35 [1]) := by kernel_rfl
theorem q35_0 : q35 [0] = .region 0 (opsA (q35 [0])) false := by kernel_rfl
theorem q35_1 : q35 [1] = .seq (q35 [1,0]) (q35 [1,1]) := by kernel_rfl
theorem q35_10 : q35 [1,0] = .seq (q35 [1,0,0]) (q35 [1,0,1]) := by kernel_rfl
theorem q35_100 : q35 [1,0,0] = .region 1 (opsA (q35 [1,0,0])) false := by kernel_rfl
theorem q35_101 : q35 [1,0,1] = .seq (q35 [1,0,1,0]) (q35 [1,0,1,1]) := by kernel_rfl
theorem q35_1010 : q35 [1,0,1,0] = .region 2 (opsA (q35 [1,0,1,0])) false := by kernel_rfl
theorem q35_1011 : q35 [1,0,1,1] = .cond (.tmp 7) (q35 [1,0,1,1,3]) (q35 [1,0,1,1,4]) := by kernel_rfl
theorem q35_10114 : q35 [1,0,1,1,4] = .skip := by kernel_rfl
theorem q35_11 : q35 [1,1] = .seq (q35 [1,1,0]) (q35 [1,1,1]) := by kernel_rfl
theorem q35_110 : q35 [1,1,0] = .region 4 (opsA (q35 [1,1,0])) false := by kernel_rfl
theorem q35_111 : q35 [1,1,1] = .seq (q35 [1,1,1,0]) (q35 [1,1,1,1]) := by kernel_rfl
theorem q35_1110 : q35 [1,1,1,0] = .region 5 (opsA (q35 [1,1,1,0])) false := by kernel_rfl
theorem q35_1111 : q35 [1,1,1,1] = .ret := by kernel_rfl
noncomputable def q39 (p : List Nat) : Code := piece p (bodyOf Tryz.f39)
theorem q39_ : q39 [] = .seq (q39 [0]) (q39 [1]) := by kernel_rfl
theorem q39_0 : q39 [0] = .region 0 (opsA (q39 [0])) false := by kernel_rfl
theorem q39_1 : q39 [1] = .seq (q39 [1,0]) (q39 [1,1]) := by kernel_rfl
theorem q39_10 : q39 [1,0] = .region 1 (opsA (q39 [1,0])) false := by kernel_rfl
theorem q39_11 : q39 [1,1] = .ret := by kernel_rfl
noncomputable def q48 (p : List Nat) : Code := piece p (bodyOf Tryz.f48)
theorem q48_ : q48 [] = .seq (q48 [0]) (q48 [1]) := by kernel_rfl
theorem q48_0 : q48 [0] = .region 0 (opsA (q48 [0])) false := by kernel_rfl
theorem q48_1 : q48 [1] = .seq (q48 [1,0]) (q48 [1,1]) := by kernel_rfl
theorem q48_10 : q48 [1,0] = .seq (q48 [1,0,0]) (q48 [1,0,1]) := by kernel_rfl
theorem q48_100 : q48 [1,0,0] = .region 1 (opsA (q48 [1,0,0])) false := by kernel_rfl
theorem q48_101 : q48 [1,0,1] = .seq (q48 [1,0,1,0]) (q48 [1,0,1,1]) := by kernel_rfl
theorem q48_1010 : q48 [1,0,1,0] = .region 2 (opsA (q48 [1,0,1,0])) false := by kernel_rfl
theorem q48_1011 : q48 [1,0,1,1] = .cond (.tmp 9) (q48 [1,0,1,1,3]) (q48 [1,0,1,1,4]) := by kernel_rfl
theorem q48_10114 : q48 [1,0,1,1,4] = .skip := by kernel_rfl
theorem q48_11 : q48 [1,1] = .seq (q48 [1,1,0]) (q48 [1,1,1]) := by kernel_rfl
theorem q48_110 : q48 [1,1,0] = .seq (q48 [1,1,0,0]) (q48 [1,1,0,1]) := by kernel_rfl
theorem q48_1100 : q48 [1,1,0,0] = .region 4 (opsA (q48 [1,1,0,0])) false := by kernel_rfl
theorem q48_1101 : q48 [1,1,0,1] = .cond (.tmp 12) (q48 [1,1,0,1,3]) (q48 [1,1,0,1,4]) := by kernel_rfl
theorem q48_11014 : q48 [1,1,0,1,4] = .skip := by kernel_rfl
theorem q48_111 : q48 [1,1,1] = .seq (q48 [1,1,1,0]) (q48 [1,1,1,1]) := by kernel_rfl
theorem q48_1110 : q48 [1,1,1,0] = .region 6 (opsA (q48 [1,1,1,0])) false := by kernel_rfl
theorem q48_1111 : q48 [1,1,1,1] = .ret := by kernel_rfl
noncomputable def q49 (p : List Nat) : Code := piece p (bodyOf Tryz.f49)
theorem q49_ : q49 [] = .seq (q49 [0]) (q49 [1]) := by kernel_rfl
theorem q49_0 : q49 [0] = .region 0 (opsA (q49 [0])) false := by kernel_rfl
theorem q49_1 : q49 [1] = .seq (q49 [1,0]) (q49 [1,1]) := by kernel_rfl
theorem q49_10 : q49 [1,0] = .seq (q49 [1,0,0]) (q49 [1,0,1]) := by kernel_rfl
theorem q49_100 : q49 [1,0,0] = .region 1 (opsA (q49 [1,0,0])) false := by kernel_rfl
theorem q49_101 : q49 [1,0,1] = .seq (q49 [1,0,1,0]) (q49 [1,0,1,1]) := by kernel_rfl
theorem q49_1010 : q49 [1,0,1,0] = .region 2 (opsA (q49 [1,0,1,0])) false := by kernel_rfl
theorem q49_1011 : q49 [1,0,1,1] = .cond (.tmp 12) (q49 [1,0,1,1,3]) (q49 [1,0,1,1,4]) := by kernel_rfl
theorem q49_10114 : q49 [1,0,1,1,4] = .skip := by kernel_rfl
theorem q49_11 : q49 [1,1] = .seq (q49 [1,1,0]) (q49 [1,1,1]) := by kernel_rfl
theorem q49_110 : q49 [1,1,0] = .region 4 (opsA (q49 [1,1,0])) false := by kernel_rfl
theorem q49_111 : q49 [1,1,1] = .seq (q49 [1,1,1,0]) (q49 [1,1,1,1]) := by kernel_rfl
theorem q49_1110 : q49 [1,1,1,0] = .region 5 (opsA (q49 [1,1,1,0])) false := by kernel_rfl
theorem q49_1111 : q49 [1,1,1,1] = .ret := by kernel_rfl
noncomputable def q51 (p : List Nat) : Code := piece p (bodyOf Tryz.f51)
theorem q51_ : q51 [] = .seq (q51 [0]) (q51 [1]) := by kernel_rfl
theorem q51_0 : q51 [0] = .region 0 (opsA (q51 [0])) false := by kernel_rfl
theorem q51_1 : q51 [1] = .seq (q51 [1,0]) (q51 [1,1]) := by kernel_rfl
theorem q51_10 : q51 [1,0] = .seq (q51 [1,0,0]) (q51 [1,0,1]) := by kernel_rfl
theorem q51_100 : q51 [1,0,0] = .region 1 (opsA (q51 [1,0,0])) false := by kernel_rfl
theorem q51_101 : q51 [1,0,1] = .cond (.tmp 10) (q51 [1,0,1,3]) (q51 [1,0,1,4]) := by kernel_rfl
theorem q51_1014 : q51 [1,0,1,4] = .skip := by kernel_rfl
theorem q51_11 : q51 [1,1] = .seq (q51 [1,1,0]) (q51 [1,1,1]) := by kernel_rfl
theorem q51_110 : q51 [1,1,0] = .region 3 (opsA (q51 [1,1,0])) false := by kernel_rfl
theorem q51_111 : q51 [1,1,1] = .seq (q51 [1,1,1,0]) (q51 [1,1,1,1]) := by kernel_rfl
theorem q51_1110 : q51 [1,1,1,0] = .region 4 (opsA (q51 [1,1,1,0])) false := by kernel_rfl
theorem q51_1111 : q51 [1,1,1,1] = .ret := by kernel_rfl
noncomputable def q62 (p : List Nat) : Code := piece p (bodyOf Tryz.f62)
theorem q62_ : q62 [] = .seq (q62 [0]) (q62 [1]) := by kernel_rfl
theorem q62_0 : q62 [0] = .region 0 (opsA (q62 [0])) false := by kernel_rfl
theorem q62_1 : q62 [1] = .seq (q62 [1,0]) (q62 [1,1]) := by kernel_rfl
theorem q62_10 : q62 [1,0] = .block 0 (q62 [1,0,2]) := by kernel_rfl
theorem q62_102 : q62 [1,0,2] = .seq (q62 [1,0,2,0]) (q62 [1,0,2,1]) := by kernel_rfl
theorem q62_1020 : q62 [1,0,2,0] = .region 1 (opsA (q62 [1,0,2,0])) false := by kernel_rfl
theorem q62_1021 : q62 [1,0,2,1] = .cond (.tmp 3) (q62 [1,0,2,1,3]) (q62 [1,0,2,1,4]) := by kernel_rfl
theorem q62_10214 : q62 [1,0,2,1,4] = .seq (q62 [1,0,2,1,4,0]) (q62 [1,0,2,1,4,1]) := by kernel_rfl
theorem q62_102140 : q62 [1,0,2,1,4,0] = .region 3 (opsA (q62 [1,0,2,1,4,0])) false := by kernel_rfl
theorem q62_102141 : q62 [1,0,2,1,4,1] = .cond (.tmp 7) (q62 [1,0,2,1,4,1,3]) (q62 [1,0,2,1,4,1,4]) := by kernel_rfl
theorem q62_1021414 : q62 [1,0,2,1,4,1,4] = .skip := by kernel_rfl
theorem q62_11 : q62 [1,1] = .seq (q62 [1,1,0]) (q62 [1,1,1]) := by kernel_rfl
theorem q62_110 : q62 [1,1,0] = .region 5 (opsA (q62 [1,1,0])) false := by kernel_rfl
theorem q62_111 : q62 [1,1,1] = .ret := by kernel_rfl
noncomputable def q63 (p : List Nat) : Code := piece p (bodyOf Tryz.f63)
theorem q63_ : q63 [] = .seq (q63 [0]) (q63 [1]) := by kernel_rfl
theorem q63_0 : q63 [0] = .region 0 (opsA (q63 [0])) false := by kernel_rfl
theorem q63_1 : q63 [1] = .region 1 (opsA (q63 [1])) false := by kernel_rfl
noncomputable def q82 (p : List Nat) : Code := piece p (bodyOf Tryz.f82)
theorem q82_ : q82 [] = .seq (q82 [0]) (q82 [1]) := by kernel_rfl
theorem q82_0 : q82 [0] = .region 0 (opsA (q82 [0])) false := by kernel_rfl
theorem q82_1 : q82 [1] = .seq (q82 [1,0]) (q82 [1,1]) := by kernel_rfl
theorem q82_10 : q82 [1,0] = .block 0 (q82 [1,0,2]) := by kernel_rfl
theorem q82_102 : q82 [1,0,2] = .seq (q82 [1,0,2,0]) (q82 [1,0,2,1]) := by kernel_rfl
theorem q82_1020 : q82 [1,0,2,0] = .region 1 (opsA (q82 [1,0,2,0])) false := by kernel_rfl
theorem q82_1021 : q82 [1,0,2,1] = .cond (.tmp 5) (q82 [1,0,2,1,3]) (q82 [1,0,2,1,4]) := by kernel_rfl
theorem q82_10214 : q82 [1,0,2,1,4] = .seq (q82 [1,0,2,1,4,0]) (q82 [1,0,2,1,4,1]) := by kernel_rfl
theorem q82_102140 : q82 [1,0,2,1,4,0] = .region 3 (opsA (q82 [1,0,2,1,4,0])) false := by kernel_rfl
theorem q82_102141 : q82 [1,0,2,1,4,1] = .cond (.tmp 9) (q82 [1,0,2,1,4,1,3]) (q82 [1,0,2,1,4,1,4]) := by kernel_rfl
theorem q82_1021414 : q82 [1,0,2,1,4,1,4] = .skip := by kernel_rfl
theorem q82_11 : q82 [1,1] = .seq (q82 [1,1,0]) (q82 [1,1,1]) := by kernel_rfl
theorem q82_110 : q82 [1,1,0] = .region 5 (opsA (q82 [1,1,0])) false := by kernel_rfl
theorem q82_111 : q82 [1,1,1] = .ret := by kernel_rfl
noncomputable def q94 (p : List Nat) : Code := piece p (bodyOf Tryz.f94)
theorem q94_ : q94 [] = .seq (q94 [0]) (q94 [1]) := by kernel_rfl
theorem q94_0 : q94 [0] = .region 0 (opsA (q94 [0])) false := by kernel_rfl
theorem q94_1 : q94 [1] = .seq (q94 [1,0]) (q94 [1,1]) := by kernel_rfl
theorem q94_10 : q94 [1,0] = .region 1 (opsA (q94 [1,0])) false := by kernel_rfl
theorem q94_11 : q94 [1,1] = .ret := by kernel_rfl
theorem rs94 : Tryz.f94.results.toList = [.tmp 2] := rfl
theorem rs82 : Tryz.f82.results.toList = [.tmp 4] := rfl
theorem rs49 : Tryz.f49.results.toList = [.tmp 6] := rfl
theorem rs39 : Tryz.f39.results.toList = [.tmp 2] := rfl
theorem rs62 : Tryz.f62.results.toList = [.tmp 2] := rfl
theorem rs48 : Tryz.f48.results.toList = [.tmp 4] := rfl
theorem rs15 : Tryz.f15.results.toList = [.tmp 2] := rfl
theorem rs16 : Tryz.f16.results.toList = [.tmp 2] := rfl
theorem rs51 : Tryz.f51.results.toList = [.cell 4 38, .tmp 5] := rfl
theorem rs23 : Tryz.f23.results.toList = [.tmp 6] := rfl
theorem rs34 : Tryz.f34.results.toList = [.tmp 4] := rfl
theorem rs63 : Tryz.f63.results.toList = [] := rfl
theorem rs35 : Tryz.f35.results.toList = [.tmp 2] := rfl
attribute [go_sem] rs94 rs82 rs49 rs39 rs62 rs48 rs15 rs16 rs51 rs23 rs34 rs63 rs35
structure Tx where
 ch : Nat
 od : Nat
 fr : Nat
 rv : Nat
 sq : Int
 op : Bool
 cr : Int
 rk : Int
 to : C
 b1 : C
 b2 : C
 b3 : C
 b4 : C
def txL (X : Tx) : List C := [.map X.ch, .map X.od, .map X.fr, .ptr X.rv 0, .int .u32 X.sq, .bool X.op, .int .i64 X.cr, .int .i64 X.rk, X.to, X.b1, X.b2, X.b3, X.b4]
attribute [go_sem] txL
noncomputable def getTx (h : Go.Ev.H) (t : Nat) : Option Tx := match h.get t with
 | some (.row sz [[.map ch, .map od, .map fr, .ptr rv o, .int .u32 sq, .bool op, .int .i64 cr, .int .i64 rk, to, b1, b2, b3, b4]] ro) => askB (Nat.beq sz 13 && Nat.beq o 0 && !ro) (some ⟨ch, od, fr, rv, sq, op, cr, rk, to, b1, b2, b3, b4⟩)
 | _ => none
theorem getTx_some {h : Go.Ev.H} {t : Nat} {X : Tx} (e : getTx h t = some X) : h.get t = some (.row 13 [txL X] false) := by
 unfold getTx at e
 split at e
 ·rename_i heq
  obtain ⟨b, e⟩ := askB_some.1 e
  cases e
  simp only [Bool.and_eq_true, Bool.not_eq_true'] at b
  obtain ⟨⟨b1, b2⟩, rfl⟩ := b
  obtain rfl := Nat.eq_of_beq_eq_true b1
  obtain rfl := Nat.eq_of_beq_eq_true b2
  exact heq
 ·cases e
noncomputable def getRv (h : Go.Ev.H) (r : Nat) : Option Nat := match h.get r with
 | some (.row sz [[.map m]] ro) => askB (Nat.beq sz 1 && !ro) (some m)
 | _ => none
theorem getRv_some {h : Go.Ev.H} {r m : Nat} (e : getRv h r = some m) : h.get r = some (.row 1 [[.map m]] false) := by
 unfold getRv at e
 split at e
 ·rename_i heq
  obtain ⟨b, e⟩ := askB_some.1 e
  cases e
  simp only [Bool.and_eq_true, Bool.not_eq_true'] at b
  obtain ⟨b1, rfl⟩ := b
  obtain rfl := Nat.eq_of_beq_eq_true b1
  exact heq
 ·cases e
noncomputable def voidM (h : Go.Ev.H) (m : Nat) : Bool := match h.get m with
 | some (.map []) => true
 | _ => false
theorem voidM_true {h : Go.Ev.H} {m : Nat} (e : voidM h m = true) : h.get m = some (.map []) := by
 unfold voidM at e
 split at e
 ·assumption
 ·cases e
def toN : C → Option Nat
 | .map m => some m
 | _ => none
theorem toN_some {c : C} {m : Nat} (e : toN c = some m) : c = .map m := by
 cases c <;> first | (cases e; rfl) | cases e
theorem toN_map (m : Nat) : toN (.map m) = some m := rfl
theorem delNil (kt : TypeId) (k : W) : delK K kt k [] = some [] := rfl
noncomputable def xRMade : Kn1 := fun args h => match args with
 | [.c (.ptr r 0)] => (getRv h r).bind fun _ => some (.w (.c (.bool true)), h)
 | _ => none
noncomputable def xRAsk : Kn1 := fun args h => match args with
 | [.c (.ptr r 0), .c (.int .i64 z)] => (getRv h r).bind fun _ => askB (decide (0 ≤ z)) (some (.w (.c (.int .i64 0)), h))
 | _ => none
noncomputable def xRCancel : Kn1 := fun args h => match args with
 | [.c (.ptr r 0), .c (.int .i64 z), .c (.int .u32 _)] => (getRv h r).bind fun m => askB (decide (0 ≤ z) && voidM h m) (some (.w (.c (.int .i64 0)), h))
 | _ => none
noncomputable def xTMade : Kn1 := fun args h => match args with
 | [.c (.ptr t 0)] => (getTx h t).bind fun _ => some (.w (.c (.bool true)), h)
 | _ => none
noncomputable def xTHand : Kn1 := fun args h => match args with
 | [.c (.ptr t 0)] => (getTx h t).bind fun X => askB X.op (some (.w (.c (.int .i64 0)), h))
 | _ => none
noncomputable def xTAsk : Kn1 := fun args h => match args with
 | [.c (.ptr t 0), .c (.int .i64 z)] => (getTx h t).bind fun X => askB (X.op && decide (0 ≤ z)) (some (.w (.c (.int .i64 0)), h))
 | _ => none
noncomputable def xTSeq : Kn1 := fun args h => match args with
 | [.c (.ptr t 0)] => (getTx h t).bind fun X => some (.w (.c (.int .u32 X.sq)), h)
 | _ => none
noncomputable def xTOpen : Kn1 := fun args h => match args with
 | [.c (.ptr t 0)] => (getTx h t).bind fun X => some (.w (.c (.bool X.op)), h)
 | _ => none
noncomputable def xTGet : Kn1 := fun args h => match args with
 | [.c (.ptr t 0), .c (.int .i64 z)] => (getTx h t).bind fun X => (getM h X.ch).bind fun l => match lookE z l with
  | some y => askB (Nat.beq y.length 256 && y.all C.flat) (some (.tup [.g y, .c (.bool true)], h))
  | none => some (.tup [.g (List.replicate 256 (.int .u8 0)), .c (.bool false)], h)
 | _ => none
noncomputable def xTPut : Kn1 := fun args h => match args with
 | [.c (.ptr t 0), .c (.int .i64 z), .g x] => (getTx h t).bind fun X => (toN X.to).bind fun to => (getM h to).bind fun lt => (getM h X.ch).bind fun lc => (getM h X.fr).bind fun lf => (getRv h X.rv).bind fun m =>
  askB (X.op && decide (0 ≤ z) && voidM h m && (match lookE z lt with | none => decide ((lt.length : Int) < X.cr) | some [] => true | some (_ :: _) => false) && Nat.beq x.length 256 && x.all C.flat && flatE lt && flatE lc && flatE lf && !(Nat.beq to X.ch) && !(Nat.beq to X.fr) && !(Nat.beq X.ch X.fr) && !(Nat.beq to m) && !(Nat.beq X.ch m) && !(Nat.beq X.fr m) && !(Nat.beq to t) && !(Nat.beq X.ch t) && !(Nat.beq X.fr t) && !(Nat.beq to X.rv) && !(Nat.beq X.ch X.rv) && !(Nat.beq X.fr X.rv))
   (some (.w (.c (.int .i64 0)), ((h.put to (.map (ents (updE z [] lt)))).put X.ch (.map (ents (updE z x lc)))).put X.fr (.map (ents (delE z lf)))))
 | _ => none
noncomputable def xTOrder : Kn1 := fun args h => match args with
 | [.c (.ptr t 0), .c (.int .i64 z)] => (getTx h t).bind fun X => (getM h X.od).bind fun l => askB (X.op && decide (0 ≤ z)) (some (.w (.c (.int .i64 0)), h.put X.od (.map (ents (updE z [] l)))))
 | _ => none
def txEnd (X : Tx) : Tx := { X with op := false, cr := 0, rk := 0, to := .mnil, b1 := .mnil, b2 := .mnil, b3 := .mnil, b4 := .pnil }
noncomputable def endM (h : Go.Ev.H) (t : Nat) (X : Tx) : Go.Ev.H := ((((h.put t (.row 13 [txL { X with op := false }] false)).put t (.row 13 [txL { X with op := false, cr := 0 }] false)).put t (.row 13 [txL { X with op := false, cr := 0, rk := 0 }] false)).put t (.row 13 [txL { X with op := false, cr := 0, rk := 0, to := .mnil }] false)).put t (.row 13 [txL (txEnd X)] false)
noncomputable def xTClose : Kn1 := fun args h => match args with
 | [.c (.ptr t 0)] => (getTx h t).bind fun X => some (.tup [], endM h t X)
 | _ => none
noncomputable def xTEnd : Kn1 := fun args h => match args with
 | [.c (.ptr t 0)] => (getTx h t).bind fun X => askB X.op (some (.w (.c (.int .i64 0)), endM h t X))
 | _ => none
attribute [go_sem] getTx getRv voidM toN_map delNil xRMade xRAsk xRCancel xTMade xTHand xTAsk xTSeq xTOpen xTGet xTPut xTOrder xTClose xTEnd
theorem keRec (a s : Int) : keyT K 20 138 (.g [.int .i64 a, .int .u32 s]) = true := by kernel_rfl
attribute [go_sem] keRec
section
variable (Hh : Hearts K Tryz.prog)
include Hh
theorem xRMade_ok {args : List W} {h h' : Go.Ev.H} {v : V} (e : xRMade args h = some (v, h')) : CallOk K Tryz.prog 94 args h v h' := by
 unfold xRMade at e
 split at e
 ·rename_i r
  obtain ⟨m, hr, e⟩ := bind_of e
  have hr := getRv_some hr
  cases e
  refine CallOk.goes fits Hh (by kernel_rfl) (by kernel_rfl) (by kernel_rfl) (show Tryz.f94.body = some (q94 []) by kernel_rfl) rfl ?_
  show Goes K Tryz.prog 12 none _ _ _ _ _
  refine Goes.seqQ q94_ ?_
  refine Goes.opsQ q94_0 fits Hh E0_sound (by
   simp (maxSteps := 999999) +decide (discharger := first | omega | (simp only [lens] <;> omega) | decide) only [go_sem, q94, Tryz.f94, readRow, loadIn, simprocAttr, hr, read1]
   rfl) ?_
  refine Goes.seqQ q94_1 ?_
  refine Goes.opsQ q94_10 fits Hh E0_sound (by
   simp (maxSteps := 999999) +decide (discharger := first | omega | (simp only [lens] <;> omega) | decide) only [go_sem, q94, Tryz.f94, readRow, loadIn, simprocAttr, hr, read1]
   rfl) ?_
  refine Goes.retQ q94_11 ?_
  simp (maxSteps := 999999) +decide (discharger := first | omega | (simp only [lens] <;> omega) | decide) only [go_sem, readRow, loadIn, simprocAttr, hr, read1] <;> rfl
 ·cases e
theorem xRAsk_ok {args : List W} {h h' : Go.Ev.H} {v : V} (e : xRAsk args h = some (v, h')) : CallOk K Tryz.prog 82 args h v h' := by
 unfold xRAsk at e
 split at e
 ·rename_i r z
  obtain ⟨m, hr, e⟩ := bind_of e
  have hr := getRv_some hr
  obtain ⟨b, e⟩ := askB_some.1 e
  have z0 := of_decide_eq_true b
  cases e
  refine CallOk.goes fits Hh (by kernel_rfl) (by kernel_rfl) (by kernel_rfl) (show Tryz.f82.body = some (q82 []) by kernel_rfl) rfl ?_
  show Goes K Tryz.prog 12 none _ _ _ _ _
  refine Goes.seqQ q82_ ?_
  refine Goes.opsQ q82_0 fits Hh E0_sound (by
   simp (maxSteps := 999999) +decide (discharger := first | omega | (simp only [lens] <;> omega) | decide) only [go_sem, q82, Tryz.f82, readRow, loadIn, simprocAttr, hr, read1]
   rfl) ?_
  refine Goes.seqQ q82_1 ?_
  refine Goes.blockQ q82_10 (Goes.block ?_)
  refine Goes.seqQ q82_102 ?_
  refine Goes.opsQ q82_1020 fits Hh (EX_sound E0_sound (fun _ _ _ _ => xRMade_ok Hh)) (by
   simp (maxSteps := 999999) +decide (discharger := first | omega | (simp only [lens] <;> omega) | decide) only [go_sem, q82, Tryz.f82, readRow, loadIn, simprocAttr, hr, read1]
   rfl) ?_
  refine Goes.condFQ q82_1021 (by simp (maxSteps := 999999) +decide (discharger := first | omega | (simp only [lens] <;> omega) | decide) only [go_sem, readRow, loadIn, simprocAttr, hr, read1] <;> rfl) (by first | rfl | assumption | exact decide_eq_false (by omega) | (simp; omega)) ?_
  refine Goes.seqQ q82_10214 ?_
  refine Goes.opsQ q82_102140 fits Hh E0_sound (by
   simp (maxSteps := 999999) +decide (discharger := first | omega | (simp only [lens] <;> omega) | decide) only [go_sem, q82, Tryz.f82, readRow, loadIn, simprocAttr, hr, read1]
   rfl) ?_
  refine Goes.condFQ q82_102141 (by simp (maxSteps := 999999) +decide (discharger := first | omega | (simp only [lens] <;> omega) | decide) only [go_sem, readRow, loadIn, simprocAttr, hr, read1] <;> rfl) (by first | rfl | assumption | exact decide_eq_false (by omega) | (simp; omega)) ?_
  refine Goes.skipQ q82_1021414 ?_
  refine Goes.seqQ q82_11 ?_
  refine Goes.opsQ q82_110 fits Hh E0_sound (by
   simp (maxSteps := 999999) +decide (discharger := first | omega | (simp only [lens] <;> omega) | decide) only [go_sem, q82, Tryz.f82, readRow, loadIn, simprocAttr, hr, read1]
   rfl) ?_
  refine Goes.retQ q82_111 ?_
  simp (maxSteps := 999999) +decide (discharger := first | omega | (simp only [lens] <;> omega) | decide) only [go_sem, readRow, loadIn, simprocAttr, hr, read1] <;> rfl
 ·cases e
theorem xRCancel_ok {args : List W} {h h' : Go.Ev.H} {v : V} (e : xRCancel args h = some (v, h')) : CallOk K Tryz.prog 49 args h v h' := by
 unfold xRCancel at e
 split at e
 ·rename_i r z s
  obtain ⟨m, hr, e⟩ := bind_of e
  have hr := getRv_some hr
  obtain ⟨b, e⟩ := askB_some.1 e
  simp only [Bool.and_eq_true, decide_eq_true_eq] at b
  obtain ⟨z0, b⟩ := b
  have hm := voidM_true b
  cases e
  obtain ⟨v, h', c, rfl, hk⟩ : ∃ v h', CallOk K Tryz.prog 49 [.c (.ptr r 0), .c (.int .i64 z), .c (.int .u32 s)] h v h' ∧ v = .w (.c (.int .i64 0)) ∧ ∀ j, j < h.next → h'.get j = h.get j := by
   refine CallOk.goesE fits Hh (by kernel_rfl) (by kernel_rfl) (by kernel_rfl) (show Tryz.f49.body = some (q49 []) by kernel_rfl) rfl ?_
   show Goes K Tryz.prog 21 none _ _ _ _ _
   refine Goes.seqQ q49_ ?_
   refine Goes.opsQ q49_0 fits Hh E0_sound (by
    simp (maxSteps := 999999) +decide (discharger := first | omega | (simp only [lens] <;> omega) | decide) only [go_sem, q49, Tryz.f49, readRow, loadIn, simprocAttr, hr, hm, read1, opBuiltin, opDelete, putMap]
    rfl) ?_
   refine Goes.seqQ q49_1 ?_
   refine Goes.seqQ q49_10 ?_
   refine Goes.opsQ q49_100 fits Hh (EX_sound E0_sound (fun _ _ _ _ => xRAsk_ok Hh)) (by
    simp (maxSteps := 999999) +decide (discharger := first | omega | (simp only [lens] <;> omega) | decide) only [go_sem, q49, Tryz.f49, readRow, loadIn, simprocAttr, hr, hm, read1, opBuiltin, opDelete, putMap]
    rfl) ?_
   refine Goes.seqQ q49_101 ?_
   refine Goes.opsQ q49_1010 fits Hh E0_sound (by
    simp (maxSteps := 999999) +decide (discharger := first | omega | (simp only [lens] <;> omega) | decide) only [go_sem, q49, Tryz.f49, readRow, loadIn, simprocAttr, hr, hm, read1, opBuiltin, opDelete, putMap]
    rfl) ?_
   refine Goes.condFQ q49_1011 (by simp (maxSteps := 999999) +decide (discharger := first | omega | (simp only [lens] <;> omega) | decide) only [go_sem, readRow, loadIn, simprocAttr, hr, hm, read1, opBuiltin, opDelete, putMap] <;> rfl) (by first | rfl | assumption | exact decide_eq_false (by omega) | (simp; omega)) ?_
   refine Goes.skipQ q49_10114 ?_
   refine Goes.seqQ q49_11 ?_
   refine Goes.opsQ q49_110 fits Hh E0_sound (by
    simp (maxSteps := 999999) +decide (discharger := first | omega | (simp only [lens] <;> omega) | decide) only [go_sem, q49, Tryz.f49, readRow, loadIn, simprocAttr, hr, hm, read1, opBuiltin, opDelete, putMap]
    rfl) ?_
   refine Goes.seqQ q49_111 ?_
   refine Goes.opsQ q49_1110 fits Hh E0_sound (by
    simp (maxSteps := 999999) +decide (discharger := first | omega | (simp only [lens] <;> omega) | decide) only [go_sem, q49, Tryz.f49, readRow, loadIn, simprocAttr, hr, hm, read1, opBuiltin, opDelete, putMap]
    rfl) ?_
   refine Goes.retQ q49_1111 ?_
   exact ⟨_, _, (by simp (maxSteps := 999999) +decide (discharger := first | omega | (simp only [lens] <;> omega) | decide) only [go_sem, readRow, loadIn, simprocAttr, hr, hm] <;> rfl), rfl, fun j _ => by rw [H.get_put]; split <;> first | (rename_i ej; rw [ej, hm]) | rfl⟩
  exact c.quiet rfl hk
 ·cases e
theorem xTMade_ok {args : List W} {h h' : Go.Ev.H} {v : V} (e : xTMade args h = some (v, h')) : CallOk K Tryz.prog 39 args h v h' := by
 unfold xTMade at e
 split at e
 ·rename_i t
  obtain ⟨X, ht, e⟩ := bind_of e
  have ht := getTx_some ht
  cases e
  refine CallOk.goes fits Hh (by kernel_rfl) (by kernel_rfl) (by kernel_rfl) (show Tryz.f39.body = some (q39 []) by kernel_rfl) rfl ?_
  show Goes K Tryz.prog 13 none _ _ _ _ _
  refine Goes.seqQ q39_ ?_
  refine Goes.opsQ q39_0 fits Hh E0_sound (by
   simp (maxSteps := 999999) +decide (discharger := first | omega | (simp only [lens] <;> omega) | decide) only [go_sem, q39, Tryz.f39, readRow, loadIn, simprocAttr, ht, read1]
   rfl) ?_
  refine Goes.seqQ q39_1 ?_
  refine Goes.opsQ q39_10 fits Hh E0_sound (by
   simp (maxSteps := 999999) +decide (discharger := first | omega | (simp only [lens] <;> omega) | decide) only [go_sem, q39, Tryz.f39, readRow, loadIn, simprocAttr, ht, read1]
   rfl) ?_
  refine Goes.retQ q39_11 ?_
  simp (maxSteps := 999999) +decide (discharger := first | omega | (simp only [lens] <;> omega) | decide) only [go_sem, readRow, loadIn, simprocAttr, ht, read1] <;> rfl
 ·cases e
theorem xTHand_ok {args : List W} {h h' : Go.Ev.H} {v : V} (e : xTHand args h = some (v, h')) : CallOk K Tryz.prog 62 args h v h' := by
 unfold xTHand at e
 split at e
 ·rename_i t
  obtain ⟨X, ht, e⟩ := bind_of e
  have ht := getTx_some ht
  obtain ⟨bo, e⟩ := askB_some.1 e
  cases e
  refine CallOk.goes fits Hh (by kernel_rfl) (by kernel_rfl) (by kernel_rfl) (show Tryz.f62.body = some (q62 []) by kernel_rfl) rfl ?_
  show Goes K Tryz.prog 13 none _ _ _ _ _
  refine Goes.seqQ q62_ ?_
  refine Goes.opsQ q62_0 fits Hh E0_sound (by
   simp (maxSteps := 999999) +decide (discharger := first | omega | (simp only [lens] <;> omega) | decide) only [go_sem, q62, Tryz.f62, readRow, loadIn, simprocAttr, ht, bo, read1]
   rfl) ?_
  refine Goes.seqQ q62_1 ?_
  refine Goes.blockQ q62_10 (Goes.block ?_)
  refine Goes.seqQ q62_102 ?_
  refine Goes.opsQ q62_1020 fits Hh (EX_sound E0_sound (fun _ _ _ _ => xTMade_ok Hh)) (by
   simp (maxSteps := 999999) +decide (discharger := first | omega | (simp only [lens] <;> omega) | decide) only [go_sem, q62, Tryz.f62, readRow, loadIn, simprocAttr, ht, bo, read1]
   rfl) ?_
  refine Goes.condFQ q62_1021 (by simp (maxSteps := 999999) +decide (discharger := first | omega | (simp only [lens] <;> omega) | decide) only [go_sem, readRow, loadIn, simprocAttr, ht, bo, read1] <;> rfl) (by first | rfl | assumption | exact decide_eq_false (by omega) | (simp; omega)) ?_
  refine Goes.seqQ q62_10214 ?_
  refine Goes.opsQ q62_102140 fits Hh E0_sound (by
   simp (maxSteps := 999999) +decide (discharger := first | omega | (simp only [lens] <;> omega) | decide) only [go_sem, q62, Tryz.f62, readRow, loadIn, simprocAttr, ht, bo, read1]
   rfl) ?_
  refine Goes.condFQ q62_102141 (by simp (maxSteps := 999999) +decide (discharger := first | omega | (simp only [lens] <;> omega) | decide) only [go_sem, readRow, loadIn, simprocAttr, ht, bo, read1] <;> rfl) (by first | rfl | assumption | exact decide_eq_false (by omega) | (simp; omega)) ?_
  refine Goes.skipQ q62_1021414 ?_
  refine Goes.seqQ q62_11 ?_
  refine Goes.opsQ q62_110 fits Hh E0_sound (by
   simp (maxSteps := 999999) +decide (discharger := first | omega | (simp only [lens] <;> omega) | decide) only [go_sem, q62, Tryz.f62, readRow, loadIn, simprocAttr, ht, bo, read1]
   rfl) ?_
  refine Goes.retQ q62_111 ?_
  simp (maxSteps := 999999) +decide (discharger := first | omega | (simp only [lens] <;> omega) | decide) only [go_sem, readRow, loadIn, simprocAttr, ht, bo, read1] <;> rfl
 ·cases e
theorem xTAsk_ok {args : List W} {h h' : Go.Ev.H} {v : V} (e : xTAsk args h = some (v, h')) : CallOk K Tryz.prog 48 args h v h' := by
 unfold xTAsk at e
 split at e
 ·rename_i t z
  obtain ⟨X, ht, e⟩ := bind_of e
  have ht := getTx_some ht
  obtain ⟨b, e⟩ := askB_some.1 e
  simp only [Bool.and_eq_true, decide_eq_true_eq] at b
  obtain ⟨bo, z0⟩ := b
  cases e
  refine CallOk.goes fits Hh (by kernel_rfl) (by kernel_rfl) (by kernel_rfl) (show Tryz.f48.body = some (q48 []) by kernel_rfl) rfl ?_
  show Goes K Tryz.prog 13 none _ _ _ _ _
  refine Goes.seqQ q48_ ?_
  refine Goes.opsQ q48_0 fits Hh E0_sound (by
   simp (maxSteps := 999999) +decide (discharger := first | omega | (simp only [lens] <;> omega) | decide) only [go_sem, q48, Tryz.f48, readRow, loadIn, simprocAttr, ht, bo, read1]
   rfl) ?_
  refine Goes.seqQ q48_1 ?_
  refine Goes.seqQ q48_10 ?_
  refine Goes.opsQ q48_100 fits Hh (EX_sound E0_sound (fun _ _ _ _ => xTHand_ok Hh)) (by
   simp (maxSteps := 999999) +decide (discharger := first | omega | (simp only [lens] <;> omega) | decide) only [go_sem, q48, Tryz.f48, readRow, loadIn, simprocAttr, ht, bo, read1]
   rfl) ?_
  refine Goes.seqQ q48_101 ?_
  refine Goes.opsQ q48_1010 fits Hh E0_sound (by
   simp (maxSteps := 999999) +decide (discharger := first | omega | (simp only [lens] <;> omega) | decide) only [go_sem, q48, Tryz.f48, readRow, loadIn, simprocAttr, ht, bo, read1]
   rfl) ?_
  refine Goes.condFQ q48_1011 (by simp (maxSteps := 999999) +decide (discharger := first | omega | (simp only [lens] <;> omega) | decide) only [go_sem, readRow, loadIn, simprocAttr, ht, bo, read1] <;> rfl) (by first | rfl | assumption | exact decide_eq_false (by omega) | (simp; omega)) ?_
  refine Goes.skipQ q48_10114 ?_
  refine Goes.seqQ q48_11 ?_
  refine Goes.seqQ q48_110 ?_
  refine Goes.opsQ q48_1100 fits Hh E0_sound (by
   simp (maxSteps := 999999) +decide (discharger := first | omega | (simp only [lens] <;> omega) | decide) only [go_sem, q48, Tryz.f48, readRow, loadIn, simprocAttr, ht, bo, read1]
   rfl) ?_
  refine Goes.condFQ q48_1101 (by simp (maxSteps := 999999) +decide (discharger := first | omega | (simp only [lens] <;> omega) | decide) only [go_sem, readRow, loadIn, simprocAttr, ht, bo, read1] <;> rfl) (by first | rfl | assumption | exact decide_eq_false (by omega) | (simp; omega)) ?_
  refine Goes.skipQ q48_11014 ?_
  refine Goes.seqQ q48_111 ?_
  refine Goes.opsQ q48_1110 fits Hh E0_sound (by
   simp (maxSteps := 999999) +decide (discharger := first | omega | (simp only [lens] <;> omega) | decide) only [go_sem, q48, Tryz.f48, readRow, loadIn, simprocAttr, ht, bo, read1]
   rfl) ?_
  refine Goes.retQ q48_1111 ?_
  simp (maxSteps := 999999) +decide (discharger := first | omega | (simp only [lens] <;> omega) | decide) only [go_sem, readRow, loadIn, simprocAttr, ht, bo, read1] <;> rfl
 ·cases e
theorem xTSeq_ok {args : List W} {h h' : Go.Ev.H} {v : V} (e : xTSeq args h = some (v, h')) : CallOk K Tryz.prog 15 args h v h' := by
 unfold xTSeq at e
 split at e
 ·rename_i t
  obtain ⟨X, ht, e⟩ := bind_of e
  have ht := getTx_some ht
  cases e
  refine CallOk.goes fits Hh (by kernel_rfl) (by kernel_rfl) (by kernel_rfl) (show Tryz.f15.body = some (q15 []) by kernel_rfl) rfl ?_
  show Goes K Tryz.prog 10 none _ _ _ _ _
  refine Goes.seqQ q15_ ?_
  refine Goes.opsQ q15_0 fits Hh E0_sound (by
   simp (maxSteps := 999999) +decide (discharger := first | omega | (simp only [lens] <;> omega) | decide) only [go_sem, q15, Tryz.f15, readRow, loadIn, simprocAttr, ht, read1]
   rfl) ?_
  refine Goes.seqQ q15_1 ?_
  refine Goes.seqQ q15_10 ?_
  refine Goes.opsQ q15_100 fits Hh (EX_sound E0_sound (fun _ _ _ _ => xTMade_ok Hh)) (by
   simp (maxSteps := 999999) +decide (discharger := first | omega | (simp only [lens] <;> omega) | decide) only [go_sem, q15, Tryz.f15, readRow, loadIn, simprocAttr, ht, read1]
   rfl) ?_
  refine Goes.condFQ q15_101 (by simp (maxSteps := 999999) +decide (discharger := first | omega | (simp only [lens] <;> omega) | decide) only [go_sem, readRow, loadIn, simprocAttr, ht, read1] <;> rfl) (by first | rfl | assumption | exact decide_eq_false (by omega) | (simp; omega)) ?_
  refine Goes.skipQ q15_1014 ?_
  refine Goes.seqQ q15_11 ?_
  refine Goes.opsQ q15_110 fits Hh E0_sound (by
   simp (maxSteps := 999999) +decide (discharger := first | omega | (simp only [lens] <;> omega) | decide) only [go_sem, q15, Tryz.f15, readRow, loadIn, simprocAttr, ht, read1]
   rfl) ?_
  refine Goes.retQ q15_111 ?_
  simp (maxSteps := 999999) +decide (discharger := first | omega | (simp only [lens] <;> omega) | decide) only [go_sem, readRow, loadIn, simprocAttr, ht, read1] <;> rfl
 ·cases e
theorem xTOpen_ok {args : List W} {h h' : Go.Ev.H} {v : V} (e : xTOpen args h = some (v, h')) : CallOk K Tryz.prog 16 args h v h' := by
 unfold xTOpen at e
 split at e
 ·rename_i t
  obtain ⟨X, ht, e⟩ := bind_of e
  have ht := getTx_some ht
  cases e
  refine CallOk.goes fits Hh (by kernel_rfl) (by kernel_rfl) (by kernel_rfl) (show Tryz.f16.body = some (q16 []) by kernel_rfl) rfl ?_
  show Goes K Tryz.prog 11 none _ _ _ _ _
  refine Goes.seqQ q16_ ?_
  refine Goes.opsQ q16_0 fits Hh E0_sound (by
   simp (maxSteps := 999999) +decide (discharger := first | omega | (simp only [lens] <;> omega) | decide) only [go_sem, q16, Tryz.f16, readRow, loadIn, simprocAttr, ht, read1]
   rfl) ?_
  refine Goes.seqQ q16_1 ?_
  refine Goes.opsQ q16_10 fits Hh (EX_sound E0_sound (fun _ _ _ _ => xTMade_ok Hh)) (by
   simp (maxSteps := 999999) +decide (discharger := first | omega | (simp only [lens] <;> omega) | decide) only [go_sem, q16, Tryz.f16, readRow, loadIn, simprocAttr, ht, read1]
   rfl) ?_
  refine Goes.retQ q16_11 ?_
  simp (maxSteps := 999999) +decide (discharger := first | omega | (simp only [lens] <;> omega) | decide) only [go_sem, readRow, loadIn, simprocAttr, ht, read1] <;> rfl
 ·cases e
theorem xTGet_ok {args : List W} {h h' : Go.Ev.H} {v : V} (e : xTGet args h = some (v, h')) : CallOk K Tryz.prog 51 args h v h' := by
 unfold xTGet at e
 split at e
 ·rename_i t z
  obtain ⟨X, ht, e⟩ := bind_of e
  have ht := getTx_some ht
  obtain ⟨l, hm, e⟩ := bind_of e
  have hm := getM_some hm
  refine CallOk.tidy ⟨Tryz.f51, Tryz.func51, by kernel_rfl, by decide⟩ fun tidy => ?_
  have lt := tidy _ _ ht
  have lm := tidy _ _ hm
  split at e
  ·rename_i y hl
   obtain ⟨b, e⟩ := askB_some.1 e
   rw [Bool.and_eq_true] at b
   have yl := Nat.eq_of_beq_eq_true b.1
   have yf := b.2
   cases e
   obtain ⟨v, h', c, rfl, hk⟩ : ∃ v h', CallOk K Tryz.prog 51 [.c (.ptr t 0), .c (.int .i64 z)] h v h' ∧ v = .tup [.g y, .c (.bool true)] ∧ ∀ m, m < h.next → h'.get m = h.get m := by
    refine CallOk.goesE fits Hh (by kernel_rfl) (by kernel_rfl) (by kernel_rfl) (show Tryz.f51.body = some (q51 []) by kernel_rfl) rfl ?_
    show Goes K Tryz.prog 24 none _ _ _ _ _
    refine Goes.seqQ q51_ ?_
    refine Goes.opsQ q51_0 fits Hh E0_sound (by
     simp (maxSteps := 999999) +decide (discharger := first | omega | (simp only [lens] <;> omega) | decide) only [go_sem, q51, Tryz.f51, loadIn, simprocAttr, ht, hm, hl, read1]
     rfl) ?_
    refine Goes.seqQ q51_1 ?_
    refine Goes.seqQ q51_10 ?_
    refine Goes.opsQ q51_100 fits Hh (EX_sound E0_sound (fun _ _ _ _ => xTMade_ok Hh)) (by
     simp (maxSteps := 999999) +decide (discharger := first | omega | (simp only [lens] <;> omega) | decide) only [go_sem, q51, Tryz.f51, loadIn, simprocAttr, ht, hm, hl, read1]
     rfl) ?_
    refine Goes.condFQ q51_101 (by simp (maxSteps := 999999) +decide (discharger := first | omega | (simp only [lens] <;> omega) | decide) only [go_sem, loadIn, simprocAttr, ht, hm, hl, read1] <;> rfl) (by first | rfl | assumption | exact decide_eq_false (by omega) | (simp; omega)) ?_
    refine Goes.skipQ q51_1014 ?_
    refine Goes.seqQ q51_11 ?_
    refine Goes.opsQ q51_110 fits Hh E0_sound (by
     simp only [q51, Tryz.f51, piece, part0, part1, part2, part2l, part3, part4, part5, part6, bodyOf, opsA]
     iterate 13 (refine evOps_step (by simp (maxSteps := 999999) +decide (discharger := first | omega | (simp only [lens] <;> omega) | decide) only [go_sem, loadIn, simprocAttr, ht, hm, hl, read1] <;> rfl) ?_)
     exact evOps_done) ?_
    refine Goes.seqQ q51_111 ?_
    refine Goes.opsQ q51_1110 fits Hh E0_sound (by
     simp (maxSteps := 999999) +decide (discharger := first | omega | (simp only [lens] <;> omega) | decide) only [go_sem, q51, Tryz.f51, loadIn, simprocAttr, ht, hm, hl, read1]
     rfl) ?_
    refine Goes.retQ q51_1111 ?_
    exact ⟨_, _, (by simp (maxSteps := 999999) +decide (discharger := first | omega | (simp only [lens] <;> omega) | decide) only [go_sem, loadIn, simprocAttr, ht, hm, hl] <;> rfl), rfl, fun m hm => by (first | (simp (discharger := omega) only [H.get_put, H.get_new, H.get_del, H.next_new, H.next_put, H.next_del, if_neg]; done) | (simp only [H.get_put, H.get_new, H.get_del, H.next_new, H.next_put, H.next_del]; (repeat' split) <;> first | rfl | (exfalso; omega) | omega))⟩
   refine c.quiet ?_ hk
   show (y.all C.flat && true) = true
   rw [yf]; rfl
  ·rename_i hl
   cases e
   obtain ⟨v, h', c, rfl, hk⟩ : ∃ v h', CallOk K Tryz.prog 51 [.c (.ptr t 0), .c (.int .i64 z)] h v h' ∧ v = .tup [.g (List.replicate 256 (.int .u8 0)), .c (.bool false)] ∧ ∀ m, m < h.next → h'.get m = h.get m := by
    refine CallOk.goesE fits Hh (by kernel_rfl) (by kernel_rfl) (by kernel_rfl) (show Tryz.f51.body = some (q51 []) by kernel_rfl) rfl ?_
    show Goes K Tryz.prog 24 none _ _ _ _ _
    refine Goes.seqQ q51_ ?_
    refine Goes.opsQ q51_0 fits Hh E0_sound (by
     simp (maxSteps := 999999) +decide (discharger := first | omega | (simp only [lens] <;> omega) | decide) only [go_sem, q51, Tryz.f51, loadIn, simprocAttr, ht, hm, hl, read1]
     rfl) ?_
    refine Goes.seqQ q51_1 ?_
    refine Goes.seqQ q51_10 ?_
    refine Goes.opsQ q51_100 fits Hh (EX_sound E0_sound (fun _ _ _ _ => xTMade_ok Hh)) (by
     simp (maxSteps := 999999) +decide (discharger := first | omega | (simp only [lens] <;> omega) | decide) only [go_sem, q51, Tryz.f51, loadIn, simprocAttr, ht, hm, hl, read1]
     rfl) ?_
    refine Goes.condFQ q51_101 (by simp (maxSteps := 999999) +decide (discharger := first | omega | (simp only [lens] <;> omega) | decide) only [go_sem, loadIn, simprocAttr, ht, hm, hl, read1] <;> rfl) (by first | rfl | assumption | exact decide_eq_false (by omega) | (simp; omega)) ?_
    refine Goes.skipQ q51_1014 ?_
    refine Goes.seqQ q51_11 ?_
    refine Goes.opsQ q51_110 fits Hh E0_sound (by
     simp only [q51, Tryz.f51, piece, part0, part1, part2, part2l, part3, part4, part5, part6, bodyOf, opsA]
     iterate 13 (refine evOps_step (by simp (maxSteps := 999999) +decide (discharger := first | omega | (simp only [lens] <;> omega) | decide) only [go_sem, loadIn, simprocAttr, ht, hm, hl, read1] <;> rfl) ?_)
     exact evOps_done) ?_
    refine Goes.seqQ q51_111 ?_
    refine Goes.opsQ q51_1110 fits Hh E0_sound (by
     simp (maxSteps := 999999) +decide (discharger := first | omega | (simp only [lens] <;> omega) | decide) only [go_sem, q51, Tryz.f51, loadIn, simprocAttr, ht, hm, hl, read1]
     rfl) ?_
    refine Goes.retQ q51_1111 ?_
    exact ⟨_, _, (by simp (maxSteps := 999999) +decide (discharger := first | omega | (simp only [lens] <;> omega) | decide) only [go_sem, loadIn, simprocAttr, ht, hm, hl] <;> rfl), rfl, fun m hm => by (first | (simp (discharger := omega) only [H.get_put, H.get_new, H.get_del, H.next_new, H.next_put, H.next_del, if_neg]; done) | (simp only [H.get_put, H.get_new, H.get_del, H.next_new, H.next_put, H.next_del]; (repeat' split) <;> first | rfl | (exfalso; omega) | omega))⟩
   exact c.quiet (by kernel_rfl) hk
 ·cases e
end
end Go.Proofs.YtpiljmilaelfnaaGreatDoor
