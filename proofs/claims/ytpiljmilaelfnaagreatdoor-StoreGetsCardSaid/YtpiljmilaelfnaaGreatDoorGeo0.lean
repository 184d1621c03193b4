/- geo.May and geo.Blocks, of a geometry that may be. -/
import Derived.Test.YtpiljmilaelfnaaGreatDoorFine
set_option linter.unusedSimpArgs false
set_option linter.unusedVariables false
set_option linter.unusedSectionVars false
set_option maxRecDepth 100000
namespace Go.Proofs.YtpiljmilaelfnaaGreatDoor
open Go.Ev
theorem ty3 : K.types.get 3 = some ti3 := by kernel_rfl
theorem sz3 : ti3.size = 1 := by rfl
theorem ag3 : ti3.agg = false := by rfl
theorem de3 : ti3.desc = (.int .i64) := by rfl
theorem ze3 : ti3.zero = (.c (.int .i64 0)) := by rfl
theorem by3 : ti3.bytes = 8 := by rfl
theorem ke3 (k : IntKind) (n : Int) : keyT K 20 3 (.c (.int k n)) = true := by kernel_rfl
theorem ty4 : K.types.get 4 = some ti4 := by kernel_rfl
theorem sz4 : ti4.size = 1 := by rfl
theorem ag4 : ti4.agg = false := by rfl
theorem de4 : ti4.desc = .bool := by rfl
theorem ze4 : ti4.zero = (.c (.bool false)) := by rfl
theorem by4 : ti4.bytes = 1 := by rfl
theorem ty23 : K.types.get 23 = some ti23 := by kernel_rfl
theorem sz23 : ti23.size = 4 := by rfl
theorem ag23 : ti23.agg = true := by rfl
theorem fo23_0 : fieldOf K 23 0 = some (0, ti3) := by kernel_rfl
theorem fo23_1 : fieldOf K 23 1 = some (1, ti3) := by kernel_rfl
theorem fo23_2 : fieldOf K 23 2 = some (2, ti3) := by kernel_rfl
theorem fo23_3 : fieldOf K 23 3 = some (3, ti3) := by kernel_rfl
theorem bu23 (ps : List (Nat × W)) : opBuild K 23 (some ps) = gW (fillStruct K 23 ps ti23.zero.cells) := by kernel_rfl
theorem ze23 : ti23.zero = (.g ([.int .i64 0, .int .i64 0, .int .i64 0, .int .i64 0])) := by rfl
theorem by23 : ti23.bytes = 32 := by rfl
attribute [go_sem] ty3 sz3 ag3 de3 ze3 by3 ke3 ty4 sz4 ag4 de4 ze4 by4 ty23 sz23 ag23 fo23_0 fo23_1 fo23_2 fo23_3 bu23 ze23 by23
noncomputable def q67 (p : List Nat) : Code := piece p (bodyOf Tryz.f67)
theorem q67_ : q67 [] = .seq (q67 [0]) (q67 [1]) := by kernel_rfl
theorem q67_0 : q67 [0] = .region 0 (opsA (q67 [0])) false := by kernel_rfl
theorem q67_1 : q67 [1] = .seq (q67 [1,0]) (q67 [1,1]) := by kernel_rfl
theorem q67_10 : q67 [1,0] = .block 0 (q67 [1,0,2]) := by kernel_rfl
theorem q67_102 : q67 [1,0,2] = .seq (q67 [1,0,2,0]) (q67 [1,0,2,1]) := by kernel_rfl
theorem q67_1020 : q67 [1,0,2,0] = .region 1 (opsA (q67 [1,0,2,0])) false := by kernel_rfl
theorem q67_1021 : q67 [1,0,2,1] = .cond (.tmp 3) (q67 [1,0,2,1,3]) (q67 [1,0,2,1,4]) := by kernel_rfl
theorem q67_10214 : q67 [1,0,2,1,4] = .seq (q67 [1,0,2,1,4,0]) (q67 [1,0,2,1,4,1]) := by kernel_rfl
theorem q67_102140 : q67 [1,0,2,1,4,0] = .region 3 (opsA (q67 [1,0,2,1,4,0])) false := by kernel_rfl
theorem q67_102141 : q67 [1,0,2,1,4,1] = .cond (.tmp 12) (q67 [1,0,2,1,4,1,3]) (q67 [1,0,2,1,4,1,4]) := by kernel_rfl
theorem q67_1021414 : q67 [1,0,2,1,4,1,4] = .seq (q67 [1,0,2,1,4,1,4,0]) (q67 [1,0,2,1,4,1,4,1]) := by kernel_rfl
theorem q67_10214140 : q67 [1,0,2,1,4,1,4,0] = .region 5 (opsA (q67 [1,0,2,1,4,1,4,0])) false := by kernel_rfl
theorem q67_10214141 : q67 [1,0,2,1,4,1,4,1] = .cond (.tmp 21) (q67 [1,0,2,1,4,1,4,1,3]) (q67 [1,0,2,1,4,1,4,1,4]) := by kernel_rfl
theorem q67_102141414 : q67 [1,0,2,1,4,1,4,1,4] = .seq (q67 [1,0,2,1,4,1,4,1,4,0]) (q67 [1,0,2,1,4,1,4,1,4,1]) := by kernel_rfl
theorem q67_1021414140 : q67 [1,0,2,1,4,1,4,1,4,0] = .region 7 (opsA (q67 [1,0,2,1,4,1,4,1,4,0])) false := by kernel_rfl
theorem q67_1021414141 : q67 [1,0,2,1,4,1,4,1,4,1] = .cond (.tmp 36) (q67 [1,0,2,1,4,1,4,1,4,1,3]) (q67 [1,0,2,1,4,1,4,1,4,1,4]) := by kernel_rfl
theorem q67_10214141414 : q67 [1,0,2,1,4,1,4,1,4,1,4] = .seq (q67 [1,0,2,1,4,1,4,1,4,1,4,0]) (q67 [1,0,2,1,4,1,4,1,4,1,4,1]) := by kernel_rfl
theorem q67_102141414140 : q67 [1,0,2,1,4,1,4,1,4,1,4,0] = .region 9 (opsA (q67 [1,0,2,1,4,1,4,1,4,1,4,0])) false := by kernel_rfl
theorem q67_102141414141 : q67 [1,0,2,1,4,1,4,1,4,1,4,1] = .cond (.tmp 45) (q67 [1,0,2,1,4,1,4,1,4,1,4,1,3]) (q67 [1,0,2,1,4,1,4,1,4,1,4,1,4]) := by kernel_rfl
theorem q67_1021414141414 : q67 [1,0,2,1,4,1,4,1,4,1,4,1,4] = .skip := by kernel_rfl
theorem q67_11 : q67 [1,1] = .seq (q67 [1,1,0]) (q67 [1,1,1]) := by kernel_rfl
theorem q67_110 : q67 [1,1,0] = .region 11 (opsA (q67 [1,1,0])) false := by kernel_rfl
theorem q67_111 : q67 [1,1,1] = .ret := by kernel_rfl
noncomputable def q68 (p : List Nat) : Code := piece p (bodyOf Tryz.f68)
theorem q68_ : q68 [] = .seq (q68 [0]) (q68 [1]) := by kernel_rfl
theorem q68_0 : q68 [0] = .region 0 (opsA (q68 [0])) false := by kernel_rfl
theorem q68_1 : q68 [1] = .seq (q68 [1,0]) (q68 [1,1]) := by kernel_rfl
theorem q68_10 : q68 [1,0] = .seq (q68 [1,0,0]) (q68 [1,0,1]) := by kernel_rfl
theorem q68_100 : q68 [1,0,0] = .region 1 (opsA (q68 [1,0,0])) false := by kernel_rfl
theorem q68_101 : q68 [1,0,1] = .cond (.tmp 5) (q68 [1,0,1,3]) (q68 [1,0,1,4]) := by kernel_rfl
theorem q68_1014 : q68 [1,0,1,4] = .skip := by kernel_rfl
theorem q68_11 : q68 [1,1] = .seq (q68 [1,1,0]) (q68 [1,1,1]) := by kernel_rfl
theorem q68_110 : q68 [1,1,0] = .region 3 (opsA (q68 [1,1,0])) false := by kernel_rfl
theorem q68_111 : q68 [1,1,1] = .ret := by kernel_rfl
theorem rs67 : Tryz.f67.results.toList = [.tmp 2] := rfl
theorem rs68 : Tryz.f68.results.toList = [.tmp 2] := rfl
attribute [go_sem] rs67 rs68
section
variable (Hh : Hearts K Tryz.prog)
include Hh
theorem gMayOk {gr sz ino jr : Nat} (F : Fine gr sz ino jr) (h : Go.Ev.H) : CallOk K Tryz.prog 67 [.g (geoL gr sz ino jr)] h (.w (.c (.bool true))) h := by
 obtain ⟨g1, g2, g3, g4, g5, g6, g7, g8, g9, g10, g11⟩ := F
 have gm : (gr : Int) * (sz : Int) = ((gr * sz : Nat) : Int) := rfl
 obtain ⟨v, h', c, rfl, hk⟩ : ∃ v h', CallOk K Tryz.prog 67 [.g (geoL gr sz ino jr)] h v h' ∧ v = .w (.c (.bool true)) ∧ ∀ m, m < h.next → h'.get m = h.get m := by
  refine CallOk.goesE fits Hh (by kernel_rfl) (by kernel_rfl) (by kernel_rfl) (show Tryz.f67.body = some (q67 []) by kernel_rfl) rfl ?_
  show Goes K Tryz.prog 64 none _ _ _ _ _
  refine Goes.seqQ q67_ ?_
  refine Goes.opsQ q67_0 fits Hh E0_sound (by
   simp (maxSteps := 999999) +decide (discharger := first | omega | (simp <;> omega) | decide) only [go_sem, q67, Tryz.f67, readRow, loadIn, simprocAttr, geoL, gm, read1]
   rfl) ?_
  refine Goes.seqQ q67_1 ?_
  refine Goes.blockQ q67_10 (Goes.block ?_)
  refine Goes.seqQ q67_102 ?_
  refine Goes.opsQ q67_1020 fits Hh E0_sound (by
   simp (maxSteps := 999999) +decide (discharger := first | omega | (simp <;> omega) | decide) only [go_sem, q67, Tryz.f67, readRow, loadIn, simprocAttr, geoL, gm, read1]
   rfl) ?_
  refine Goes.condFQ q67_1021 (by simp (maxSteps := 999999) +decide (discharger := first | omega | (simp <;> omega) | decide) only [go_sem, readRow, loadIn, simprocAttr, geoL, gm, read1] <;> rfl) (by first | rfl | assumption | exact decide_eq_false (by omega) | (simp; omega)) ?_
  refine Goes.seqQ q67_10214 ?_
  refine Goes.opsQ q67_102140 fits Hh E0_sound (by
   simp (maxSteps := 999999) +decide (discharger := first | omega | (simp <;> omega) | decide) only [go_sem, q67, Tryz.f67, readRow, loadIn, simprocAttr, geoL, gm, read1]
   rfl) ?_
  refine Goes.condFQ q67_102141 (by simp (maxSteps := 999999) +decide (discharger := first | omega | (simp <;> omega) | decide) only [go_sem, readRow, loadIn, simprocAttr, geoL, gm, read1] <;> rfl) (by first | rfl | assumption | exact decide_eq_false (by omega) | (simp; omega)) ?_
  refine Goes.seqQ q67_1021414 ?_
  refine Goes.opsQ q67_10214140 fits Hh E0_sound (by
   simp only [q67, Tryz.f67, piece, part0, part1, part2, part2l, part3, part4, part5, part6, bodyOf, opsA]
   iterate 15 (refine evOps_step (by simp (maxSteps := 999999) +decide (discharger := first | omega | (simp <;> omega) | decide) only [go_sem, readRow, loadIn, simprocAttr, geoL, gm, read1] <;> rfl) ?_)
   exact evOps_done) ?_
  refine Goes.condFQ q67_10214141 (by simp (maxSteps := 999999) +decide (discharger := first | omega | (simp <;> omega) | decide) only [go_sem, readRow, loadIn, simprocAttr, geoL, gm, read1] <;> rfl) (by first | rfl | assumption | exact decide_eq_false (by omega) | (simp; omega)) ?_
  refine Goes.seqQ q67_102141414 ?_
  refine Goes.opsQ q67_1021414140 fits Hh E0_sound (by
   simp (maxSteps := 999999) +decide (discharger := first | omega | (simp <;> omega) | decide) only [go_sem, q67, Tryz.f67, readRow, loadIn, simprocAttr, geoL, gm, read1]
   rfl) ?_
  refine Goes.condFQ q67_1021414141 (by simp (maxSteps := 999999) +decide (discharger := first | omega | (simp <;> omega) | decide) only [go_sem, readRow, loadIn, simprocAttr, geoL, gm, read1] <;> rfl) (by first | rfl | assumption | exact decide_eq_false (by omega) | (simp; omega)) ?_
  refine Goes.seqQ q67_10214141414 ?_
  refine Goes.opsQ q67_102141414140 fits Hh E0_sound (by
   simp (maxSteps := 999999) +decide (discharger := first | omega | (simp <;> omega) | decide) only [go_sem, q67, Tryz.f67, readRow, loadIn, simprocAttr, geoL, gm, read1]
   rfl) ?_
  refine Goes.condFQ q67_102141414141 (by simp (maxSteps := 999999) +decide (discharger := first | omega | (simp <;> omega) | decide) only [go_sem, readRow, loadIn, simprocAttr, geoL, gm, read1] <;> rfl) (by first | rfl | assumption | exact decide_eq_false (by omega) | (simp; omega)) ?_
  refine Goes.skipQ q67_1021414141414 ?_
  refine Goes.seqQ q67_11 ?_
  refine Goes.opsQ q67_110 fits Hh E0_sound (by
   simp (maxSteps := 999999) +decide (discharger := first | omega | (simp <;> omega) | decide) only [go_sem, q67, Tryz.f67, readRow, loadIn, simprocAttr, geoL, gm, read1]
   rfl) ?_
  refine Goes.retQ q67_111 ?_
  refine ⟨_, _, (by simp (maxSteps := 999999) +decide (discharger := first | omega | (simp <;> omega) | decide) only [go_sem, readRow, loadIn, simprocAttr] <;> rfl), rfl, fun m hm => ?_⟩
  simp (maxSteps := 999999) +decide (discharger := first | omega | (simp <;> omega) | decide) only [go_sem, readRow, loadIn, simprocAttr]
 exact CallOk.quiet c rfl hk
theorem gBlocksOk {gr sz ino jr : Nat} (F : Fine gr sz ino jr) (h : Go.Ev.H) : CallOk K Tryz.prog 68 [.g (geoL gr sz ino jr)] h (.w (.c (.int .i64 ((2 + jr + gr * sz : Nat) : Int)))) h := by
 have F' := F
 obtain ⟨g1, g2, g3, g4, g5, g6, g7, g8, g9, g10, g11⟩ := F'
 have gm : (gr : Int) * (sz : Int) = ((gr * sz : Nat) : Int) := rfl
 have c1 := gMayOk Hh F (h.new (.row 4 [geoL gr sz ino jr] false))
 obtain ⟨v, h', c, rfl, hk⟩ : ∃ v h', CallOk K Tryz.prog 68 [.g (geoL gr sz ino jr)] h v h' ∧ v = .w (.c (.int .i64 ((2 + jr + gr * sz : Nat) : Int))) ∧ ∀ m, m < h.next → h'.get m = h.get m := by
  refine CallOk.goesE fits Hh (by kernel_rfl) (by kernel_rfl) (by kernel_rfl) (show Tryz.f68.body = some (q68 []) by kernel_rfl) rfl ?_
  show Goes K Tryz.prog 15 none _ _ _ _ _
  refine Goes.seqQ q68_ ?_
  refine Goes.opsQ q68_0 fits Hh E0_sound (by
   simp (maxSteps := 999999) +decide (discharger := first | omega | (simp <;> omega) | decide) only [go_sem, q68, Tryz.f68, readRow, loadIn, simprocAttr, geoL, gm, read1]
   rfl) ?_
  refine Goes.seqQ q68_1 ?_
  refine Goes.seqQ q68_10 ?_
  refine Goes.opsQ q68_100 fits Hh (E1_sound E0_sound c1) (by
   simp (maxSteps := 999999) +decide (discharger := first | omega | (simp <;> omega) | decide) only [go_sem, q68, Tryz.f68, readRow, loadIn, simprocAttr, E1_call, geoL, gm, read1]
   rfl) ?_
  refine Goes.condFQ q68_101 (by simp (maxSteps := 999999) +decide (discharger := first | omega | (simp <;> omega) | decide) only [go_sem, readRow, loadIn, simprocAttr, geoL, gm, read1] <;> rfl) (by first | rfl | assumption | exact decide_eq_false (by omega) | (simp; omega)) ?_
  refine Goes.skipQ q68_1014 ?_
  refine Goes.seqQ q68_11 ?_
  refine Goes.opsQ q68_110 fits Hh E0_sound (by
   simp (maxSteps := 999999) +decide (discharger := first | omega | (simp <;> omega) | decide) only [go_sem, q68, Tryz.f68, readRow, loadIn, simprocAttr, geoL, gm, read1]
   rfl) ?_
  refine Goes.retQ q68_111 ?_
  refine ⟨_, _, (by simp (maxSteps := 999999) +decide (discharger := first | omega | (simp <;> omega) | decide) only [go_sem, readRow, loadIn, simprocAttr] <;> rfl), rfl, fun m hm => ?_⟩
  simp (maxSteps := 999999) +decide (discharger := first | omega | (simp <;> omega) | decide) only [go_sem, readRow, loadIn, simprocAttr]
 exact CallOk.quiet c rfl hk
end
end Go.Proofs.YtpiljmilaelfnaaGreatDoor
