/- store.New. -/
import Derived.Test.YtpiljmilaelfnaaGreatDoorNew
set_option linter.unusedSimpArgs false
set_option linter.unusedVariables false
set_option linter.unusedSectionVars false
set_option maxRecDepth 100000
namespace Go.Proofs.YtpiljmilaelfnaaGreatDoor
open Go.Ev
section
variable (Hh : Hearts K Tryz.prog)
include Hh
set_option maxHeartbeats 4000000 in
theorem xSNew_ok {args : List W} {h h' : Go.Ev.H} {v : V} (e : xSNew args h = some (v, h')) : CallOk K Tryz.prog 38 args h v h' := by
 unfold xSNew at e
 split at e
 ·rename_i d a0 b0 c0 e0 md q
  obtain ⟨a, ha, e⟩ := bind_of e
  obtain ⟨b, hb, e⟩ := bind_of e
  obtain ⟨c, hc, e⟩ := bind_of e
  obtain ⟨j, hj, e⟩ := bind_of e
  obtain ⟨D, hd, e⟩ := bind_of e
  obtain ⟨hd, n0, n1⟩ := getDk_some hd
  obtain ⟨f, e⟩ := askB_some.1 e
  simp only [Bool.and_eq_true, decide_eq_true_eq] at f
  obtain ⟨⟨⟨⟨⟨fb, nn⟩, m1⟩, m3⟩, q1⟩, q2⟩ := f
  have nn := Nat.le_of_ble_eq_true nn
  have F := fineB_fine fb
  obtain ⟨g1, g2, g3, g4, g5, g6, g7, g8, g9, g10, g11⟩ := F
  cases e
  rw [natI_some ha, natI_some hb, natI_some hc, natI_some hj]
  refine CallOk.tidy ⟨Tryz.f38, Tryz.func38, by kernel_rfl, by decide⟩ fun tidy => ?_
  have l1 := tidy _ _ hd
  have h3 : md = 1 ∨ md = 2 ∨ md = 3 := by omega
  rcases h3 with rfl | rfl | rfl
  ·
   refine CallOk.goes fits Hh (by kernel_rfl) (by kernel_rfl) (by kernel_rfl) (show Tryz.f38.body = some (q38 []) by kernel_rfl) rfl ?_
   show Goes K Tryz.prog 82 none _ _ _ _ _
   refine Goes.seqQ q38_ ?_
   refine Goes.opsQ q38_0 fits Hh E0_sound (by
    simp (maxSteps := 999999) +decide (discharger := first | omega | (simp only [lens] <;> omega) | decide) only [go_sem, q38, Tryz.f38, readRow, loadIn, simprocAttr, hd, fb, opBox, read1, writeRow]
    rfl) ?_
   refine Goes.seqQ q38_1 ?_
   refine Goes.seqQ q38_10 ?_
   refine Goes.opsQ q38_100 fits Hh (EX_sound E0_sound (fun _ _ _ _ => xDBlocks_ok Hh)) (by
    simp (maxSteps := 999999) +decide (discharger := first | omega | (simp only [lens] <;> omega) | decide) only [go_sem, q38, Tryz.f38, readRow, loadIn, simprocAttr, hd, fb, opBox, read1, writeRow]
    rfl) ?_
   refine Goes.condFQ q38_101 (by simp (maxSteps := 999999) +decide (discharger := first | omega | (simp only [lens] <;> omega) | decide) only [go_sem, readRow, loadIn, simprocAttr, hd, fb, opBox, read1, writeRow] <;> rfl) (by first | rfl | assumption | exact decide_eq_false (by omega) | (simp; omega)) ?_
   refine Goes.skipQ q38_1014 ?_
   refine Goes.seqQ q38_11 ?_
   refine Goes.seqQ q38_110 ?_
   refine Goes.opsQ q38_1100 fits Hh (EX_sound E0_sound (fun _ _ _ _ => xgMay_ok Hh)) (by
    simp (maxSteps := 999999) +decide (discharger := first | omega | (simp only [lens] <;> omega) | decide) only [go_sem, q38, Tryz.f38, readRow, loadIn, simprocAttr, hd, fb, opBox, read1, writeRow]
    rfl) ?_
   refine Goes.condFQ q38_1101 (by simp (maxSteps := 999999) +decide (discharger := first | omega | (simp only [lens] <;> omega) | decide) only [go_sem, readRow, loadIn, simprocAttr, hd, fb, opBox, read1, writeRow] <;> rfl) (by first | rfl | assumption | exact decide_eq_false (by omega) | (simp; omega)) ?_
   refine Goes.skipQ q38_11014 ?_
   refine Goes.seqQ q38_111 ?_
   refine Goes.seqQ q38_1110 ?_
   refine Goes.opsQ q38_11100 fits Hh E0_sound (by
    simp (maxSteps := 999999) +decide (discharger := first | omega | (simp only [lens] <;> omega) | decide) only [go_sem, q38, Tryz.f38, readRow, loadIn, simprocAttr, hd, fb, opBox, read1, writeRow]
    rfl) ?_
   refine Goes.blockQ q38_11101 (Goes.block ?_)
   refine Goes.seqQ q38_111012 ?_
   refine Goes.seqQ q38_1110120 ?_
   refine Goes.opsQ q38_11101200 fits Hh E0_sound (by
    simp (maxSteps := 999999) +decide (discharger := first | omega | (simp only [lens] <;> omega) | decide) only [go_sem, q38, Tryz.f38, readRow, loadIn, simprocAttr, hd, fb, opBox, read1, writeRow]
    rfl) ?_
   refine Goes.condTQ q38_11101201 (by simp (maxSteps := 999999) +decide (discharger := first | omega | (simp only [lens] <;> omega) | decide) only [go_sem, readRow, loadIn, simprocAttr, hd, fb, opBox, read1, writeRow] <;> rfl) (by first | rfl | assumption | exact decide_eq_true (by omega) | (simp; omega)) ?_
   refine Goes.skipQ q38_111012013 ?_
   refine Goes.condTQ q38_1110121 (by simp (maxSteps := 999999) +decide (discharger := first | omega | (simp only [lens] <;> omega) | decide) only [go_sem, readRow, loadIn, simprocAttr, hd, fb, opBox, read1, writeRow] <;> rfl) (by first | rfl | assumption | exact decide_eq_true (by omega) | (simp; omega)) ?_
   refine Goes.skipQ q38_11101213 ?_
   refine Goes.seqQ q38_1111 ?_
   refine Goes.seqQ q38_11110 ?_
   refine Goes.drawnQ q38_111100 fits Hh (EX_sound (EX_sound E0_sound (fun _ _ _ _ => xDBlocks_ok Hh)) (fun _ _ _ _ => xgBlocks_ok Hh)) (by kernel_rfl) (by
    simp (maxSteps := 999999) +decide (discharger := first | omega | (simp only [lens] <;> omega) | decide) only [go_sem, q38, Tryz.f38, readRow, loadIn, simprocAttr, op_move, op_assign, op_binOp, op_unOp, op_convert, op_load, op_store, op_indexAddr, op_alloc, op_pick, op_box, op_build, op_buildSlice, op_nilCheck, op_makeSlice, op_fieldAddr, op_field, op_extract, op_lookup, op_mapUpdate, op_builtin, op_index, drEnd, drAll, drOne, drTs, drKd, drPure, drRead, drAlloc, drEff, drSkip, drPut, putT_ok, putT_none, cutT, looks, tmpOf, Op.operands, Call.operands, kd, kdCall, List.filterMap_cons, List.filterMap_nil, List.append_nil, List.nil_append, List.cons_append, stables, stable, reachAt, reachP, waitsAt, waits, gives_self, List.all_cons, List.all_nil, List.any_cons, List.any_nil, Region.binds, Bool.or_true, Bool.true_or, Bool.and_true, Bool.true_and, Bool.or_false, Bool.false_or, Bool.and_self, Bool.or_self, ble_true, Nat.le_refl, Nat.le_add_right, List.map_cons, Array.toList_append, hd, fb, opBox, read1, writeRow]
    rfl) ?_
   refine Goes.condFQ q38_111101 (by simp (maxSteps := 999999) +decide (discharger := first | omega | (simp only [lens] <;> omega) | decide) only [go_sem, readRow, loadIn, simprocAttr, hd, fb, opBox, read1, writeRow] <;> rfl) (by first | rfl | assumption | exact decide_eq_false (by omega) | (simp; omega)) ?_
   refine Goes.skipQ q38_1111014 ?_
   refine Goes.seqQ q38_11111 ?_
   refine Goes.opsQ q38_111110 fits Hh (EX_sound E0_sound (fun _ _ _ _ => xCNew_ok Hh)) (by
    simp (maxSteps := 999999) +decide (discharger := first | omega | (simp only [lens] <;> omega) | decide) only [go_sem, q38, Tryz.f38, readRow, loadIn, simprocAttr, hd, fb, opBox, read1, writeRow]
    rfl) ?_
   refine Goes.seqQ q38_111111 ?_
   refine Goes.seqQ q38_1111110 ?_
   refine Goes.opsQ q38_11111100 fits Hh E0_sound (by
    simp (maxSteps := 999999) +decide (discharger := first | omega | (simp only [lens] <;> omega) | decide) only [go_sem, q38, Tryz.f38, readRow, loadIn, simprocAttr, hd, fb, opBox, read1, writeRow]
    rfl) ?_
   refine Goes.condFQ q38_11111101 (by simp (maxSteps := 999999) +decide (discharger := first | omega | (simp only [lens] <;> omega) | decide) only [go_sem, readRow, loadIn, simprocAttr, hd, fb, opBox, read1, writeRow] <;> rfl) (by first | rfl | assumption | exact decide_eq_false (by omega) | (simp; omega)) ?_
   refine Goes.skipQ q38_111111014 ?_
   refine Goes.seqQ q38_1111111 ?_
   refine Goes.opsQ q38_11111110 fits Hh (EX_sound E0_sound (fun _ _ _ _ => xRNew_ok Hh)) (by
    simp (maxSteps := 999999) +decide (discharger := first | omega | (simp only [lens] <;> omega) | decide) only [go_sem, q38, Tryz.f38, readRow, loadIn, simprocAttr, hd, fb, opBox, read1, writeRow]
    rfl) ?_
   refine Goes.seqQ q38_11111111 ?_
   refine Goes.seqQ q38_111111110 ?_
   refine Goes.opsQ q38_1111111100 fits Hh E0_sound (by
    simp (maxSteps := 999999) +decide (discharger := first | omega | (simp only [lens] <;> omega) | decide) only [go_sem, q38, Tryz.f38, readRow, loadIn, simprocAttr, hd, fb, opBox, read1, writeRow]
    rfl) ?_
   refine Goes.condFQ q38_1111111101 (by simp (maxSteps := 999999) +decide (discharger := first | omega | (simp only [lens] <;> omega) | decide) only [go_sem, readRow, loadIn, simprocAttr, hd, fb, opBox, read1, writeRow] <;> rfl) (by first | rfl | assumption | exact decide_eq_false (by omega) | (simp; omega)) ?_
   refine Goes.skipQ q38_11111111014 ?_
   refine Goes.seqQ q38_111111111 ?_
   refine Goes.opsQ q38_1111111110 fits Hh (EX_sound E0_sound (fun _ _ _ _ => xLNew_ok Hh)) (by
    simp (maxSteps := 999999) +decide (discharger := first | omega | (simp only [lens] <;> omega) | decide) only [go_sem, q38, Tryz.f38, readRow, loadIn, simprocAttr, hd, fb, opBox, read1, writeRow]
    rfl) ?_
   refine Goes.seqQ q38_1111111111 ?_
   refine Goes.seqQ q38_11111111110 ?_
   refine Goes.opsQ q38_111111111100 fits Hh E0_sound (by
    simp (maxSteps := 999999) +decide (discharger := first | omega | (simp only [lens] <;> omega) | decide) only [go_sem, q38, Tryz.f38, readRow, loadIn, simprocAttr, hd, fb, opBox, read1, writeRow]
    rfl) ?_
   refine Goes.condFQ q38_111111111101 (by simp (maxSteps := 999999) +decide (discharger := first | omega | (simp only [lens] <;> omega) | decide) only [go_sem, readRow, loadIn, simprocAttr, hd, fb, opBox, read1, writeRow] <;> rfl) (by first | rfl | assumption | exact decide_eq_false (by omega) | (simp; omega)) ?_
   refine Goes.skipQ q38_1111111111014 ?_
   refine Goes.seqQ q38_11111111111 ?_
   refine Goes.opsQ q38_111111111110 fits Hh E0_sound (by
    simp (maxSteps := 999999) +decide (discharger := first | omega | (simp only [lens] <;> omega) | decide) only [go_sem, q38, Tryz.f38, readRow, loadIn, simprocAttr, hd, fb, opBox, read1, writeRow]
    rfl) ?_
   refine Goes.seqQ q38_111111111111 ?_
   refine Goes.opsQ q38_1111111111110 fits Hh (EX_sound E0_sound (fun _ _ _ _ => xTNew_ok Hh)) (by
    simp (maxSteps := 999999) +decide (discharger := first | omega | (simp only [lens] <;> omega) | decide) only [go_sem, q38, Tryz.f38, readRow, loadIn, simprocAttr, hd, fb, opBox, read1, writeRow]
    rfl) ?_
   refine Goes.seqQ q38_1111111111111 ?_
   refine Goes.opsQ q38_11111111111110 fits Hh (EX_sound E0_sound (fun _ _ _ _ => xSClean_ok Hh)) (by
    simp (maxSteps := 999999) +decide (discharger := first | omega | (simp only [lens] <;> omega) | decide) only [go_sem, q38, Tryz.f38, readRow, loadIn, simprocAttr, hd, fb, opBox, read1, writeRow]
    rfl) ?_
   refine Goes.seqQ q38_11111111111111 ?_
   refine Goes.opsQ q38_111111111111110 fits Hh E0_sound (by
    simp (maxSteps := 999999) +decide (discharger := first | omega | (simp only [lens] <;> omega) | decide) only [go_sem, q38, Tryz.f38, readRow, loadIn, simprocAttr, hd, fb, opBox, read1, writeRow]
    rfl) ?_
   refine Goes.retQ q38_111111111111111 ?_
   simp (maxSteps := 999999) +decide (discharger := first | omega | (simp only [lens] <;> omega) | decide) only [go_sem, readRow, loadIn, simprocAttr, newSt, geoL, gdL] <;> rfl
  ·
   refine CallOk.goes fits Hh (by kernel_rfl) (by kernel_rfl) (by kernel_rfl) (show Tryz.f38.body = some (q38 []) by kernel_rfl) rfl ?_
   show Goes K Tryz.prog 82 none _ _ _ _ _
   refine Goes.seqQ q38_ ?_
   refine Goes.opsQ q38_0 fits Hh E0_sound (by
    simp (maxSteps := 999999) +decide (discharger := first | omega | (simp only [lens] <;> omega) | decide) only [go_sem, q38, Tryz.f38, readRow, loadIn, simprocAttr, hd, fb, opBox, read1, writeRow]
    rfl) ?_
   refine Goes.seqQ q38_1 ?_
   refine Goes.seqQ q38_10 ?_
   refine Goes.opsQ q38_100 fits Hh (EX_sound E0_sound (fun _ _ _ _ => xDBlocks_ok Hh)) (by
    simp (maxSteps := 999999) +decide (discharger := first | omega | (simp only [lens] <;> omega) | decide) only [go_sem, q38, Tryz.f38, readRow, loadIn, simprocAttr, hd, fb, opBox, read1, writeRow]
    rfl) ?_
   refine Goes.condFQ q38_101 (by simp (maxSteps := 999999) +decide (discharger := first | omega | (simp only [lens] <;> omega) | decide) only [go_sem, readRow, loadIn, simprocAttr, hd, fb, opBox, read1, writeRow] <;> rfl) (by first | rfl | assumption | exact decide_eq_false (by omega) | (simp; omega)) ?_
   refine Goes.skipQ q38_1014 ?_
   refine Goes.seqQ q38_11 ?_
   refine Goes.seqQ q38_110 ?_
   refine Goes.opsQ q38_1100 fits Hh (EX_sound E0_sound (fun _ _ _ _ => xgMay_ok Hh)) (by
    simp (maxSteps := 999999) +decide (discharger := first | omega | (simp only [lens] <;> omega) | decide) only [go_sem, q38, Tryz.f38, readRow, loadIn, simprocAttr, hd, fb, opBox, read1, writeRow]
    rfl) ?_
   refine Goes.condFQ q38_1101 (by simp (maxSteps := 999999) +decide (discharger := first | omega | (simp only [lens] <;> omega) | decide) only [go_sem, readRow, loadIn, simprocAttr, hd, fb, opBox, read1, writeRow] <;> rfl) (by first | rfl | assumption | exact decide_eq_false (by omega) | (simp; omega)) ?_
   refine Goes.skipQ q38_11014 ?_
   refine Goes.seqQ q38_111 ?_
   refine Goes.seqQ q38_1110 ?_
   refine Goes.opsQ q38_11100 fits Hh E0_sound (by
    simp (maxSteps := 999999) +decide (discharger := first | omega | (simp only [lens] <;> omega) | decide) only [go_sem, q38, Tryz.f38, readRow, loadIn, simprocAttr, hd, fb, opBox, read1, writeRow]
    rfl) ?_
   refine Goes.blockQ q38_11101 (Goes.block ?_)
   refine Goes.seqQ q38_111012 ?_
   refine Goes.seqQ q38_1110120 ?_
   refine Goes.opsQ q38_11101200 fits Hh E0_sound (by
    simp (maxSteps := 999999) +decide (discharger := first | omega | (simp only [lens] <;> omega) | decide) only [go_sem, q38, Tryz.f38, readRow, loadIn, simprocAttr, hd, fb, opBox, read1, writeRow]
    rfl) ?_
   refine Goes.condFQ q38_11101201 (by simp (maxSteps := 999999) +decide (discharger := first | omega | (simp only [lens] <;> omega) | decide) only [go_sem, readRow, loadIn, simprocAttr, hd, fb, opBox, read1, writeRow] <;> rfl) (by first | rfl | assumption | exact decide_eq_false (by omega) | (simp; omega)) ?_
   refine Goes.seqQ q38_111012014 ?_
   refine Goes.opsQ q38_1110120140 fits Hh E0_sound (by
    simp (maxSteps := 999999) +decide (discharger := first | omega | (simp only [lens] <;> omega) | decide) only [go_sem, q38, Tryz.f38, readRow, loadIn, simprocAttr, hd, fb, opBox, read1, writeRow]
    rfl) ?_
   refine Goes.condTQ q38_1110120141 (by simp (maxSteps := 999999) +decide (discharger := first | omega | (simp only [lens] <;> omega) | decide) only [go_sem, readRow, loadIn, simprocAttr, hd, fb, opBox, read1, writeRow] <;> rfl) (by first | rfl | assumption | exact decide_eq_true (by omega) | (simp; omega)) ?_
   refine Goes.skipQ q38_11101201413 ?_
   refine Goes.condTQ q38_1110121 (by simp (maxSteps := 999999) +decide (discharger := first | omega | (simp only [lens] <;> omega) | decide) only [go_sem, readRow, loadIn, simprocAttr, hd, fb, opBox, read1, writeRow] <;> rfl) (by first | rfl | assumption | exact decide_eq_true (by omega) | (simp; omega)) ?_
   refine Goes.skipQ q38_11101213 ?_
   refine Goes.seqQ q38_1111 ?_
   refine Goes.seqQ q38_11110 ?_
   refine Goes.drawnQ q38_111100 fits Hh (EX_sound (EX_sound E0_sound (fun _ _ _ _ => xDBlocks_ok Hh)) (fun _ _ _ _ => xgBlocks_ok Hh)) (by kernel_rfl) (by
    simp (maxSteps := 999999) +decide (discharger := first | omega | (simp only [lens] <;> omega) | decide) only [go_sem, q38, Tryz.f38, readRow, loadIn, simprocAttr, op_move, op_assign, op_binOp, op_unOp, op_convert, op_load, op_store, op_indexAddr, op_alloc, op_pick, op_box, op_build, op_buildSlice, op_nilCheck, op_makeSlice, op_fieldAddr, op_field, op_extract, op_lookup, op_mapUpdate, op_builtin, op_index, drEnd, drAll, drOne, drTs, drKd, drPure, drRead, drAlloc, drEff, drSkip, drPut, putT_ok, putT_none, cutT, looks, tmpOf, Op.operands, Call.operands, kd, kdCall, List.filterMap_cons, List.filterMap_nil, List.append_nil, List.nil_append, List.cons_append, stables, stable, reachAt, reachP, waitsAt, waits, gives_self, List.all_cons, List.all_nil, List.any_cons, List.any_nil, Region.binds, Bool.or_true, Bool.true_or, Bool.and_true, Bool.true_and, Bool.or_false, Bool.false_or, Bool.and_self, Bool.or_self, ble_true, Nat.le_refl, Nat.le_add_right, List.map_cons, Array.toList_append, hd, fb, opBox, read1, writeRow]
    rfl) ?_
   refine Goes.condFQ q38_111101 (by simp (maxSteps := 999999) +decide (discharger := first | omega | (simp only [lens] <;> omega) | decide) only [go_sem, readRow, loadIn, simprocAttr, hd, fb, opBox, read1, writeRow] <;> rfl) (by first | rfl | assumption | exact decide_eq_false (by omega) | (simp; omega)) ?_
   refine Goes.skipQ q38_1111014 ?_
   refine Goes.seqQ q38_11111 ?_
   refine Goes.opsQ q38_111110 fits Hh (EX_sound E0_sound (fun _ _ _ _ => xCNew_ok Hh)) (by
    simp (maxSteps := 999999) +decide (discharger := first | omega | (simp only [lens] <;> omega) | decide) only [go_sem, q38, Tryz.f38, readRow, loadIn, simprocAttr, hd, fb, opBox, read1, writeRow]
    rfl) ?_
   refine Goes.seqQ q38_111111 ?_
   refine Goes.seqQ q38_1111110 ?_
   refine Goes.opsQ q38_11111100 fits Hh E0_sound (by
    simp (maxSteps := 999999) +decide (discharger := first | omega | (simp only [lens] <;> omega) | decide) only [go_sem, q38, Tryz.f38, readRow, loadIn, simprocAttr, hd, fb, opBox, read1, writeRow]
    rfl) ?_
   refine Goes.condFQ q38_11111101 (by simp (maxSteps := 999999) +decide (discharger := first | omega | (simp only [lens] <;> omega) | decide) only [go_sem, readRow, loadIn, simprocAttr, hd, fb, opBox, read1, writeRow] <;> rfl) (by first | rfl | assumption | exact decide_eq_false (by omega) | (simp; omega)) ?_
   refine Goes.skipQ q38_111111014 ?_
   refine Goes.seqQ q38_1111111 ?_
   refine Goes.opsQ q38_11111110 fits Hh (EX_sound E0_sound (fun _ _ _ _ => xRNew_ok Hh)) (by
    simp (maxSteps := 999999) +decide (discharger := first | omega | (simp only [lens] <;> omega) | decide) only [go_sem, q38, Tryz.f38, readRow, loadIn, simprocAttr, hd, fb, opBox, read1, writeRow]
    rfl) ?_
   refine Goes.seqQ q38_11111111 ?_
   refine Goes.seqQ q38_111111110 ?_
   refine Goes.opsQ q38_1111111100 fits Hh E0_sound (by
    simp (maxSteps := 999999) +decide (discharger := first | omega | (simp only [lens] <;> omega) | decide) only [go_sem, q38, Tryz.f38, readRow, loadIn, simprocAttr, hd, fb, opBox, read1, writeRow]
    rfl) ?_
   refine Goes.condFQ q38_1111111101 (by simp (maxSteps := 999999) +decide (discharger := first | omega | (simp only [lens] <;> omega) | decide) only [go_sem, readRow, loadIn, simprocAttr, hd, fb, opBox, read1, writeRow] <;> rfl) (by first | rfl | assumption | exact decide_eq_false (by omega) | (simp; omega)) ?_
   refine Goes.skipQ q38_11111111014 ?_
   refine Goes.seqQ q38_111111111 ?_
   refine Goes.opsQ q38_1111111110 fits Hh (EX_sound E0_sound (fun _ _ _ _ => xLNew_ok Hh)) (by
    simp (maxSteps := 999999) +decide (discharger := first | omega | (simp only [lens] <;> omega) | decide) only [go_sem, q38, Tryz.f38, readRow, loadIn, simprocAttr, hd, fb, opBox, read1, writeRow]
    rfl) ?_
   refine Goes.seqQ q38_1111111111 ?_
   refine Goes.seqQ q38_11111111110 ?_
   refine Goes.opsQ q38_111111111100 fits Hh E0_sound (by
    simp (maxSteps := 999999) +decide (discharger := first | omega | (simp only [lens] <;> omega) | decide) only [go_sem, q38, Tryz.f38, readRow, loadIn, simprocAttr, hd, fb, opBox, read1, writeRow]
    rfl) ?_
   refine Goes.condFQ q38_111111111101 (by simp (maxSteps := 999999) +decide (discharger := first | omega | (simp only [lens] <;> omega) | decide) only [go_sem, readRow, loadIn, simprocAttr, hd, fb, opBox, read1, writeRow] <;> rfl) (by first | rfl | assumption | exact decide_eq_false (by omega) | (simp; omega)) ?_
   refine Goes.skipQ q38_1111111111014 ?_
   refine Goes.seqQ q38_11111111111 ?_
   refine Goes.opsQ q38_111111111110 fits Hh E0_sound (by
    simp (maxSteps := 999999) +decide (discharger := first | omega | (simp only [lens] <;> omega) | decide) only [go_sem, q38, Tryz.f38, readRow, loadIn, simprocAttr, hd, fb, opBox, read1, writeRow]
    rfl) ?_
   refine Goes.seqQ q38_111111111111 ?_
   refine Goes.opsQ q38_1111111111110 fits Hh (EX_sound E0_sound (fun _ _ _ _ => xTNew_ok Hh)) (by
    simp (maxSteps := 999999) +decide (discharger := first | omega | (simp only [lens] <;> omega) | decide) only [go_sem, q38, Tryz.f38, readRow, loadIn, simprocAttr, hd, fb, opBox, read1, writeRow]
    rfl) ?_
   refine Goes.seqQ q38_1111111111111 ?_
   refine Goes.opsQ q38_11111111111110 fits Hh (EX_sound E0_sound (fun _ _ _ _ => xSClean_ok Hh)) (by
    simp (maxSteps := 999999) +decide (discharger := first | omega | (simp only [lens] <;> omega) | decide) only [go_sem, q38, Tryz.f38, readRow, loadIn, simprocAttr, hd, fb, opBox, read1, writeRow]
    rfl) ?_
   refine Goes.seqQ q38_11111111111111 ?_
   refine Goes.opsQ q38_111111111111110 fits Hh E0_sound (by
    simp (maxSteps := 999999) +decide (discharger := first | omega | (simp only [lens] <;> omega) | decide) only [go_sem, q38, Tryz.f38, readRow, loadIn, simprocAttr, hd, fb, opBox, read1, writeRow]
    rfl) ?_
   refine Goes.retQ q38_111111111111111 ?_
   simp (maxSteps := 999999) +decide (discharger := first | omega | (simp only [lens] <;> omega) | decide) only [go_sem, readRow, loadIn, simprocAttr, newSt, geoL, gdL] <;> rfl
  ·
   refine CallOk.goes fits Hh (by kernel_rfl) (by kernel_rfl) (by kernel_rfl) (show Tryz.f38.body = some (q38 []) by kernel_rfl) rfl ?_
   show Goes K Tryz.prog 82 none _ _ _ _ _
   refine Goes.seqQ q38_ ?_
   refine Goes.opsQ q38_0 fits Hh E0_sound (by
    simp (maxSteps := 999999) +decide (discharger := first | omega | (simp only [lens] <;> omega) | decide) only [go_sem, q38, Tryz.f38, readRow, loadIn, simprocAttr, hd, fb, opBox, read1, writeRow]
    rfl) ?_
   refine Goes.seqQ q38_1 ?_
   refine Goes.seqQ q38_10 ?_
   refine Goes.opsQ q38_100 fits Hh (EX_sound E0_sound (fun _ _ _ _ => xDBlocks_ok Hh)) (by
    simp (maxSteps := 999999) +decide (discharger := first | omega | (simp only [lens] <;> omega) | decide) only [go_sem, q38, Tryz.f38, readRow, loadIn, simprocAttr, hd, fb, opBox, read1, writeRow]
    rfl) ?_
   refine Goes.condFQ q38_101 (by simp (maxSteps := 999999) +decide (discharger := first | omega | (simp only [lens] <;> omega) | decide) only [go_sem, readRow, loadIn, simprocAttr, hd, fb, opBox, read1, writeRow] <;> rfl) (by first | rfl | assumption | exact decide_eq_false (by omega) | (simp; omega)) ?_
   refine Goes.skipQ q38_1014 ?_
   refine Goes.seqQ q38_11 ?_
   refine Goes.seqQ q38_110 ?_
   refine Goes.opsQ q38_1100 fits Hh (EX_sound E0_sound (fun _ _ _ _ => xgMay_ok Hh)) (by
    simp (maxSteps := 999999) +decide (discharger := first | omega | (simp only [lens] <;> omega) | decide) only [go_sem, q38, Tryz.f38, readRow, loadIn, simprocAttr, hd, fb, opBox, read1, writeRow]
    rfl) ?_
   refine Goes.condFQ q38_1101 (by simp (maxSteps := 999999) +decide (discharger := first | omega | (simp only [lens] <;> omega) | decide) only [go_sem, readRow, loadIn, simprocAttr, hd, fb, opBox, read1, writeRow] <;> rfl) (by first | rfl | assumption | exact decide_eq_false (by omega) | (simp; omega)) ?_
   refine Goes.skipQ q38_11014 ?_
   refine Goes.seqQ q38_111 ?_
   refine Goes.seqQ q38_1110 ?_
   refine Goes.opsQ q38_11100 fits Hh E0_sound (by
    simp (maxSteps := 999999) +decide (discharger := first | omega | (simp only [lens] <;> omega) | decide) only [go_sem, q38, Tryz.f38, readRow, loadIn, simprocAttr, hd, fb, opBox, read1, writeRow]
    rfl) ?_
   refine Goes.blockQ q38_11101 (Goes.block ?_)
   refine Goes.seqQ q38_111012 ?_
   refine Goes.seqQ q38_1110120 ?_
   refine Goes.opsQ q38_11101200 fits Hh E0_sound (by
    simp (maxSteps := 999999) +decide (discharger := first | omega | (simp only [lens] <;> omega) | decide) only [go_sem, q38, Tryz.f38, readRow, loadIn, simprocAttr, hd, fb, opBox, read1, writeRow]
    rfl) ?_
   refine Goes.condFQ q38_11101201 (by simp (maxSteps := 999999) +decide (discharger := first | omega | (simp only [lens] <;> omega) | decide) only [go_sem, readRow, loadIn, simprocAttr, hd, fb, opBox, read1, writeRow] <;> rfl) (by first | rfl | assumption | exact decide_eq_false (by omega) | (simp; omega)) ?_
   refine Goes.seqQ q38_111012014 ?_
   refine Goes.opsQ q38_1110120140 fits Hh E0_sound (by
    simp (maxSteps := 999999) +decide (discharger := first | omega | (simp only [lens] <;> omega) | decide) only [go_sem, q38, Tryz.f38, readRow, loadIn, simprocAttr, hd, fb, opBox, read1, writeRow]
    rfl) ?_
   refine Goes.condFQ q38_1110120141 (by simp (maxSteps := 999999) +decide (discharger := first | omega | (simp only [lens] <;> omega) | decide) only [go_sem, readRow, loadIn, simprocAttr, hd, fb, opBox, read1, writeRow] <;> rfl) (by first | rfl | assumption | exact decide_eq_false (by omega) | (simp; omega)) ?_
   refine Goes.opsQ q38_11101201414 fits Hh E0_sound (by
    simp (maxSteps := 999999) +decide (discharger := first | omega | (simp only [lens] <;> omega) | decide) only [go_sem, q38, Tryz.f38, readRow, loadIn, simprocAttr, hd, fb, opBox, read1, writeRow]
    rfl) ?_
   refine Goes.condTQ q38_1110121 (by simp (maxSteps := 999999) +decide (discharger := first | omega | (simp only [lens] <;> omega) | decide) only [go_sem, readRow, loadIn, simprocAttr, hd, fb, opBox, read1, writeRow] <;> rfl) (by first | rfl | assumption | exact decide_eq_true (by omega) | (simp; omega)) ?_
   refine Goes.skipQ q38_11101213 ?_
   refine Goes.seqQ q38_1111 ?_
   refine Goes.seqQ q38_11110 ?_
   refine Goes.drawnQ q38_111100 fits Hh (EX_sound (EX_sound E0_sound (fun _ _ _ _ => xDBlocks_ok Hh)) (fun _ _ _ _ => xgBlocks_ok Hh)) (by kernel_rfl) (by
    simp (maxSteps := 999999) +decide (discharger := first | omega | (simp only [lens] <;> omega) | decide) only [go_sem, q38, Tryz.f38, readRow, loadIn, simprocAttr, op_move, op_assign, op_binOp, op_unOp, op_convert, op_load, op_store, op_indexAddr, op_alloc, op_pick, op_box, op_build, op_buildSlice, op_nilCheck, op_makeSlice, op_fieldAddr, op_field, op_extract, op_lookup, op_mapUpdate, op_builtin, op_index, drEnd, drAll, drOne, drTs, drKd, drPure, drRead, drAlloc, drEff, drSkip, drPut, putT_ok, putT_none, cutT, looks, tmpOf, Op.operands, Call.operands, kd, kdCall, List.filterMap_cons, List.filterMap_nil, List.append_nil, List.nil_append, List.cons_append, stables, stable, reachAt, reachP, waitsAt, waits, gives_self, List.all_cons, List.all_nil, List.any_cons, List.any_nil, Region.binds, Bool.or_true, Bool.true_or, Bool.and_true, Bool.true_and, Bool.or_false, Bool.false_or, Bool.and_self, Bool.or_self, ble_true, Nat.le_refl, Nat.le_add_right, List.map_cons, Array.toList_append, hd, fb, opBox, read1, writeRow]
    rfl) ?_
   refine Goes.condFQ q38_111101 (by simp (maxSteps := 999999) +decide (discharger := first | omega | (simp only [lens] <;> omega) | decide) only [go_sem, readRow, loadIn, simprocAttr, hd, fb, opBox, read1, writeRow] <;> rfl) (by first | rfl | assumption | exact decide_eq_false (by omega) | (simp; omega)) ?_
   refine Goes.skipQ q38_1111014 ?_
   refine Goes.seqQ q38_11111 ?_
   refine Goes.opsQ q38_111110 fits Hh (EX_sound E0_sound (fun _ _ _ _ => xCNew_ok Hh)) (by
    simp (maxSteps := 999999) +decide (discharger := first | omega | (simp only [lens] <;> omega) | decide) only [go_sem, q38, Tryz.f38, readRow, loadIn, simprocAttr, hd, fb, opBox, read1, writeRow]
    rfl) ?_
   refine Goes.seqQ q38_111111 ?_
   refine Goes.seqQ q38_1111110 ?_
   refine Goes.opsQ q38_11111100 fits Hh E0_sound (by
    simp (maxSteps := 999999) +decide (discharger := first | omega | (simp only [lens] <;> omega) | decide) only [go_sem, q38, Tryz.f38, readRow, loadIn, simprocAttr, hd, fb, opBox, read1, writeRow]
    rfl) ?_
   refine Goes.condFQ q38_11111101 (by simp (maxSteps := 999999) +decide (discharger := first | omega | (simp only [lens] <;> omega) | decide) only [go_sem, readRow, loadIn, simprocAttr, hd, fb, opBox, read1, writeRow] <;> rfl) (by first | rfl | assumption | exact decide_eq_false (by omega) | (simp; omega)) ?_
   refine Goes.skipQ q38_111111014 ?_
   refine Goes.seqQ q38_1111111 ?_
   refine Goes.opsQ q38_11111110 fits Hh (EX_sound E0_sound (fun _ _ _ _ => xRNew_ok Hh)) (by
    simp (maxSteps := 999999) +decide (discharger := first | omega | (simp only [lens] <;> omega) | decide) only [go_sem, q38, Tryz.f38, readRow, loadIn, simprocAttr, hd, fb, opBox, read1, writeRow]
    rfl) ?_
   refine Goes.seqQ q38_11111111 ?_
   refine Goes.seqQ q38_111111110 ?_
   refine Goes.opsQ q38_1111111100 fits Hh E0_sound (by
    simp (maxSteps := 999999) +decide (discharger := first | omega | (simp only [lens] <;> omega) | decide) only [go_sem, q38, Tryz.f38, readRow, loadIn, simprocAttr, hd, fb, opBox, read1, writeRow]
    rfl) ?_
   refine Goes.condFQ q38_1111111101 (by simp (maxSteps := 999999) +decide (discharger := first | omega | (simp only [lens] <;> omega) | decide) only [go_sem, readRow, loadIn, simprocAttr, hd, fb, opBox, read1, writeRow] <;> rfl) (by first | rfl | assumption | exact decide_eq_false (by omega) | (simp; omega)) ?_
   refine Goes.skipQ q38_11111111014 ?_
   refine Goes.seqQ q38_111111111 ?_
   refine Goes.opsQ q38_1111111110 fits Hh (EX_sound E0_sound (fun _ _ _ _ => xLNew_ok Hh)) (by
    simp (maxSteps := 999999) +decide (discharger := first | omega | (simp only [lens] <;> omega) | decide) only [go_sem, q38, Tryz.f38, readRow, loadIn, simprocAttr, hd, fb, opBox, read1, writeRow]
    rfl) ?_
   refine Goes.seqQ q38_1111111111 ?_
   refine Goes.seqQ q38_11111111110 ?_
   refine Goes.opsQ q38_111111111100 fits Hh E0_sound (by
    simp (maxSteps := 999999) +decide (discharger := first | omega | (simp only [lens] <;> omega) | decide) only [go_sem, q38, Tryz.f38, readRow, loadIn, simprocAttr, hd, fb, opBox, read1, writeRow]
    rfl) ?_
   refine Goes.condFQ q38_111111111101 (by simp (maxSteps := 999999) +decide (discharger := first | omega | (simp only [lens] <;> omega) | decide) only [go_sem, readRow, loadIn, simprocAttr, hd, fb, opBox, read1, writeRow] <;> rfl) (by first | rfl | assumption | exact decide_eq_false (by omega) | (simp; omega)) ?_
   refine Goes.skipQ q38_1111111111014 ?_
   refine Goes.seqQ q38_11111111111 ?_
   refine Goes.opsQ q38_111111111110 fits Hh E0_sound (by
    simp (maxSteps := 999999) +decide (discharger := first | omega | (simp only [lens] <;> omega) | decide) only [go_sem, q38, Tryz.f38, readRow, loadIn, simprocAttr, hd, fb, opBox, read1, writeRow]
    rfl) ?_
   refine Goes.seqQ q38_111111111111 ?_
   refine Goes.opsQ q38_1111111111110 fits Hh (EX_sound E0_sound (fun _ _ _ _ => xTNew_ok Hh)) (by
    simp (maxSteps := 999999) +decide (discharger := first | omega | (simp only [lens] <;> omega) | decide) only [go_sem, q38, Tryz.f38, readRow, loadIn, simprocAttr, hd, fb, opBox, read1, writeRow]
    rfl) ?_
   refine Goes.seqQ q38_1111111111111 ?_
   refine Goes.opsQ q38_11111111111110 fits Hh (EX_sound E0_sound (fun _ _ _ _ => xSClean_ok Hh)) (by
    simp (maxSteps := 999999) +decide (discharger := first | omega | (simp only [lens] <;> omega) | decide) only [go_sem, q38, Tryz.f38, readRow, loadIn, simprocAttr, hd, fb, opBox, read1, writeRow]
    rfl) ?_
   refine Goes.seqQ q38_11111111111111 ?_
   refine Goes.opsQ q38_111111111111110 fits Hh E0_sound (by
    simp (maxSteps := 999999) +decide (discharger := first | omega | (simp only [lens] <;> omega) | decide) only [go_sem, q38, Tryz.f38, readRow, loadIn, simprocAttr, hd, fb, opBox, read1, writeRow]
    rfl) ?_
   refine Goes.retQ q38_111111111111111 ?_
   simp (maxSteps := 999999) +decide (discharger := first | omega | (simp only [lens] <;> omega) | decide) only [go_sem, readRow, loadIn, simprocAttr, newSt, geoL, gdL] <;> rfl
 ·cases e
end
attribute [go_sem] xSNew
end Go.Proofs.YtpiljmilaelfnaaGreatDoor
