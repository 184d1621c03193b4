/- Transactions: Put, Order, close, End. -/
import Derived.Test.YtpiljmilaelfnaaGreatDoorTxn
set_option linter.unusedSimpArgs false
set_option linter.unusedVariables false
set_option linter.unusedSectionVars false
set_option maxRecDepth 100000
namespace Go.Proofs.YtpiljmilaelfnaaGreatDoor
open Go.Ev
theorem nbeq_ne {a b : Nat} (h : Nat.beq a b = false) : a ≠ b := fun e => by rw [e, Nat.beq_refl] at h; cases h
theorem lfVoids (m : Nat) : lenFits K 89 (.c (.map m)) = true := by kernel_rfl
attribute [go_sem] lfVoids
section
variable (Hh : Hearts K Tryz.prog)
include Hh
set_option maxHeartbeats 1000000 in
theorem xTPut_ok {args : List W} {h h' : Go.Ev.H} {v : V} (e : xTPut args h = some (v, h')) : CallOk K Tryz.prog 23 args h v h' := by
 unfold xTPut at e
 split at e
 ·rename_i t z x
  obtain ⟨X, ht, e⟩ := bind_of e
  have ht := getTx_some ht
  obtain ⟨to, hto, e⟩ := bind_of e
  have hto := toN_some hto
  obtain ⟨lt, hlt, e⟩ := bind_of e
  have hlt := getM_some hlt
  obtain ⟨lc, hlc, e⟩ := bind_of e
  have hlc := getM_some hlc
  obtain ⟨lf, hlf, e⟩ := bind_of e
  have hlf := getM_some hlf
  obtain ⟨m, hr, e⟩ := bind_of e
  have hrv := hr
  have hr := getRv_some hr
  obtain ⟨b, e⟩ := askB_some.1 e
  cases e
  refine CallOk.tidy ⟨Tryz.f23, Tryz.func23, by kernel_rfl, by decide⟩ fun tidy => ?_
  have l1 := tidy _ _ ht
  have l2 := tidy _ _ hlt
  have l3 := tidy _ _ hlc
  have l4 := tidy _ _ hlf
  have l5 := tidy _ _ hr
  simp only [Bool.and_eq_true, decide_eq_true_eq, Bool.not_eq_true'] at b
  obtain ⟨⟨⟨⟨⟨⟨⟨⟨⟨⟨⟨⟨⟨⟨⟨⟨⟨⟨⟨⟨bo, z0⟩, bm⟩, bc⟩, bx⟩, xf⟩, f1⟩, f2⟩, f3⟩, c1⟩, c2⟩, c3⟩, c4⟩, c5⟩, c6⟩, c7⟩, c8⟩, c9⟩, c10⟩, c11⟩, c12⟩ := b
  have hm := voidM_true bm
  have l6 := tidy _ _ hm
  have xl := Nat.eq_of_beq_eq_true bx
  have n1 := nbeq_ne c1
  have n2 := nbeq_ne c2
  have n3 := nbeq_ne c3
  have n4 := nbeq_ne c4
  have n5 := nbeq_ne c5
  have n6 := nbeq_ne c6
  have n7 := nbeq_ne c7
  have n8 := nbeq_ne c8
  have n9 := nbeq_ne c9
  have n10 := nbeq_ne c10
  have n11 := nbeq_ne c11
  have n12 := nbeq_ne c12
  obtain ⟨v, h', c, rfl, hk⟩ : ∃ v h', CallOk K Tryz.prog 23 [.c (.ptr t 0), .c (.int .i64 z), .g x] h v h' ∧ v = .w (.c (.int .i64 0)) ∧ ∀ j, j < h.next → h'.get j = (((h.put to (.map (ents (updE z [] lt)))).put X.ch (.map (ents (updE z x lc)))).put X.fr (.map (ents (delE z lf)))).get j := by
   rcases hl : lookE z lt with _ | y
   ·rw [hl] at bc
    have bc := of_decide_eq_true bc
    refine CallOk.goesE fits Hh (by kernel_rfl) (by kernel_rfl) (by kernel_rfl) (show Tryz.f23.body = some (q23 []) by kernel_rfl) rfl ?_
    show Goes K Tryz.prog 69 none _ _ _ _ _
    refine Goes.seqQ q23_ ?_
    refine Goes.opsQ q23_0 fits Hh E0_sound (by
     simp (maxSteps := 999999) +decide (discharger := first | omega | (simp only [lens] <;> omega) | decide) only [go_sem, q23, Tryz.f23, loadIn, simprocAttr, ht, hto, hlt, hlc, hlf, hr, hm, bo, hl, xl, ents_len, read1, opBuiltin, opLen]
     rfl) ?_
    refine Goes.seqQ q23_1 ?_
    refine Goes.seqQ q23_10 ?_
    refine Goes.opsQ q23_100 fits Hh (EX_sound E0_sound (fun _ _ _ _ => xTAsk_ok Hh)) (by
     simp (maxSteps := 999999) +decide (discharger := first | omega | (simp only [lens] <;> omega) | decide) only [go_sem, q23, Tryz.f23, loadIn, simprocAttr, ht, hto, hlt, hlc, hlf, hr, hm, bo, hl, xl, ents_len, read1, opBuiltin, opLen]
     rfl) ?_
    refine Goes.seqQ q23_101 ?_
    refine Goes.opsQ q23_1010 fits Hh E0_sound (by
     simp (maxSteps := 999999) +decide (discharger := first | omega | (simp only [lens] <;> omega) | decide) only [go_sem, q23, Tryz.f23, loadIn, simprocAttr, ht, hto, hlt, hlc, hlf, hr, hm, bo, hl, xl, ents_len, read1, opBuiltin, opLen]
     rfl) ?_
    refine Goes.condFQ q23_1011 (by simp (maxSteps := 999999) +decide (discharger := first | omega | (simp only [lens] <;> omega) | decide) only [go_sem, loadIn, simprocAttr, ht, hto, hlt, hlc, hlf, hr, hm, bo, hl, xl, ents_len, read1, opBuiltin, opLen] <;> rfl) (by first | rfl | assumption | exact decide_eq_false (by omega) | (simp; omega)) ?_
    refine Goes.skipQ q23_10114 ?_
    refine Goes.seqQ q23_11 ?_
    refine Goes.seqQ q23_110 ?_
    refine Goes.opsQ q23_1100 fits Hh E0_sound (by
     simp (maxSteps := 999999) +decide (discharger := first | omega | (simp only [lens] <;> omega) | decide) only [go_sem, q23, Tryz.f23, loadIn, simprocAttr, ht, hto, hlt, hlc, hlf, hr, hm, bo, hl, xl, ents_len, read1, opBuiltin, opLen]
     rfl) ?_
    refine Goes.seqQ q23_1101 ?_
    refine Goes.drawnQ q23_11010 fits Hh E0_sound (by kernel_rfl) (by
     simp (maxSteps := 999999) +decide (discharger := first | omega | (simp only [lens] <;> omega) | decide) only [go_sem, q23, Tryz.f23, loadIn, simprocAttr, op_move, op_assign, op_binOp, op_unOp, op_convert, op_load, op_store, op_indexAddr, op_alloc, op_pick, op_box, op_build, op_buildSlice, op_nilCheck, op_makeSlice, op_fieldAddr, op_field, op_extract, op_lookup, op_mapUpdate, op_builtin, op_index, drEnd, drAll, drOne, drTs, drKd, drPure, drRead, drAlloc, drEff, drSkip, drPut, putT_ok, putT_none, cutT, looks, tmpOf, Op.operands, Call.operands, kd, kdCall, List.filterMap_cons, List.filterMap_nil, List.append_nil, List.nil_append, List.cons_append, stables, stable, reachAt, reachP, waitsAt, waits, gives_self, List.all_cons, List.all_nil, List.any_cons, List.any_nil, Region.binds, Bool.or_true, Bool.true_or, Bool.and_true, Bool.true_and, Bool.or_false, Bool.false_or, Bool.and_self, Bool.or_self, ble_true, Nat.le_refl, Nat.le_add_right, List.map_cons, Array.toList_append, ht, hto, hlt, hlc, hlf, hr, hm, bo, hl, xl, ents_len, read1, opBuiltin, opLen]
     rfl) ?_
    refine Goes.condFQ q23_11011 (by simp (maxSteps := 999999) +decide (discharger := first | omega | (simp only [lens] <;> omega) | decide) only [go_sem, loadIn, simprocAttr, ht, hto, hlt, hlc, hlf, hr, hm, bo, hl, xl, ents_len, read1, opBuiltin, opLen] <;> rfl) (by first | rfl | assumption | exact decide_eq_false (by omega) | (simp; omega)) ?_
    refine Goes.skipQ q23_110114 ?_
    refine Goes.seqQ q23_111 ?_
    refine Goes.opsQ q23_1110 fits Hh E0_sound (by
     simp (maxSteps := 999999) +decide (discharger := first | omega | (simp only [lens] <;> omega) | decide) only [go_sem, q23, Tryz.f23, loadIn, simprocAttr, ht, hto, hlt, hlc, hlf, hr, hm, bo, hl, xl, ents_len, read1, opBuiltin, opLen]
     rfl) ?_
    refine Goes.seqQ q23_1111 ?_
    refine Goes.drawnQ q23_11110 fits Hh E0_sound (by kernel_rfl) (by
     simp (maxSteps := 999999) +decide (discharger := first | omega | (simp only [lens] <;> omega) | decide) only [go_sem, q23, Tryz.f23, loadIn, simprocAttr, op_move, op_assign, op_binOp, op_unOp, op_convert, op_load, op_store, op_indexAddr, op_alloc, op_pick, op_box, op_build, op_buildSlice, op_nilCheck, op_makeSlice, op_fieldAddr, op_field, op_extract, op_lookup, op_mapUpdate, op_builtin, op_index, drEnd, drAll, drOne, drTs, drKd, drPure, drRead, drAlloc, drEff, drSkip, drPut, putT_ok, putT_none, cutT, looks, tmpOf, Op.operands, Call.operands, kd, kdCall, List.filterMap_cons, List.filterMap_nil, List.append_nil, List.nil_append, List.cons_append, stables, stable, reachAt, reachP, waitsAt, waits, gives_self, List.all_cons, List.all_nil, List.any_cons, List.any_nil, Region.binds, Bool.or_true, Bool.true_or, Bool.and_true, Bool.true_and, Bool.or_false, Bool.false_or, Bool.and_self, Bool.or_self, ble_true, Nat.le_refl, Nat.le_add_right, List.map_cons, Array.toList_append, ht, hto, hlt, hlc, hlf, hr, hm, bo, hl, xl, ents_len, read1, opBuiltin, opLen]
     rfl) ?_
    refine Goes.seqQ q23_11111 ?_
    refine Goes.opsQ q23_111110 fits Hh E0_sound (by
     simp (maxSteps := 999999) +decide (discharger := first | omega | (simp only [lens] <;> omega) | decide) only [go_sem, q23, Tryz.f23, loadIn, simprocAttr, ht, hto, hlt, hlc, hlf, hr, hm, bo, hl, xl, ents_len, read1, opBuiltin, opLen]
     rfl) ?_
    refine Goes.seqQ q23_111111 ?_
    refine Goes.drawnQ q23_1111110 fits Hh (EX_sound E0_sound (fun _ _ _ _ => xRCancel_ok Hh)) (by kernel_rfl) (by
     simp (maxSteps := 999999) +decide (discharger := first | omega | (simp only [lens] <;> omega) | decide) only [go_sem, q23, Tryz.f23, loadIn, simprocAttr, op_move, op_assign, op_binOp, op_unOp, op_convert, op_load, op_store, op_indexAddr, op_alloc, op_pick, op_box, op_build, op_buildSlice, op_nilCheck, op_makeSlice, op_fieldAddr, op_field, op_extract, op_lookup, op_mapUpdate, op_builtin, op_index, drEnd, drAll, drOne, drTs, drKd, drPure, drRead, drAlloc, drEff, drSkip, drPut, putT_ok, putT_none, cutT, looks, tmpOf, Op.operands, Call.operands, kd, kdCall, List.filterMap_cons, List.filterMap_nil, List.append_nil, List.nil_append, List.cons_append, stables, stable, reachAt, reachP, waitsAt, waits, gives_self, List.all_cons, List.all_nil, List.any_cons, List.any_nil, Region.binds, Bool.or_true, Bool.true_or, Bool.and_true, Bool.true_and, Bool.or_false, Bool.false_or, Bool.and_self, Bool.or_self, ble_true, Nat.le_refl, Nat.le_add_right, List.map_cons, Array.toList_append, ht, hto, hlt, hlc, hlf, hr, hm, bo, hl, xl, ents_len, read1, opBuiltin, opLen]
     rfl) ?_
    refine Goes.seqQ q23_1111111 ?_
    refine Goes.opsQ q23_11111110 fits Hh E0_sound (by
     simp (maxSteps := 999999) +decide (discharger := first | omega | (simp only [lens] <;> omega) | decide) only [go_sem, q23, Tryz.f23, loadIn, simprocAttr, ht, hto, hlt, hlc, hlf, hr, hm, bo, hl, xl, ents_len, read1, opBuiltin, opLen]
     rfl) ?_
    refine Goes.retQ q23_11111111 ?_
    exact ⟨_, _, (by simp (maxSteps := 999999) +decide (discharger := first | omega | (simp only [lens] <;> omega) | decide) only [go_sem, readRow, loadIn, simprocAttr] <;> rfl), rfl, fun j hj => by (first | (simp (discharger := omega) only [H.get_put, H.get_new, H.get_del, H.next_new, H.next_put, H.next_del, if_neg]; done) | (simp only [H.get_put, H.get_new, H.get_del, H.next_new, H.next_put, H.next_del]; (repeat' split) <;> first | rfl | (exfalso; omega) | omega))⟩
   ·rw [hl] at bc
    rcases y with _ | ⟨y0, y⟩
    ·
     refine CallOk.goesE fits Hh (by kernel_rfl) (by kernel_rfl) (by kernel_rfl) (show Tryz.f23.body = some (q23 []) by kernel_rfl) rfl ?_
     show Goes K Tryz.prog 69 none _ _ _ _ _
     refine Goes.seqQ q23_ ?_
     refine Goes.opsQ q23_0 fits Hh E0_sound (by
      simp (maxSteps := 999999) +decide (discharger := first | omega | (simp only [lens] <;> omega) | decide) only [go_sem, q23, Tryz.f23, loadIn, simprocAttr, ht, hto, hlt, hlc, hlf, hr, hm, bo, hl, xl, ents_len, read1, opBuiltin, opLen]
      rfl) ?_
     refine Goes.seqQ q23_1 ?_
     refine Goes.seqQ q23_10 ?_
     refine Goes.opsQ q23_100 fits Hh (EX_sound E0_sound (fun _ _ _ _ => xTAsk_ok Hh)) (by
      simp (maxSteps := 999999) +decide (discharger := first | omega | (simp only [lens] <;> omega) | decide) only [go_sem, q23, Tryz.f23, loadIn, simprocAttr, ht, hto, hlt, hlc, hlf, hr, hm, bo, hl, xl, ents_len, read1, opBuiltin, opLen]
      rfl) ?_
     refine Goes.seqQ q23_101 ?_
     refine Goes.opsQ q23_1010 fits Hh E0_sound (by
      simp (maxSteps := 999999) +decide (discharger := first | omega | (simp only [lens] <;> omega) | decide) only [go_sem, q23, Tryz.f23, loadIn, simprocAttr, ht, hto, hlt, hlc, hlf, hr, hm, bo, hl, xl, ents_len, read1, opBuiltin, opLen]
      rfl) ?_
     refine Goes.condFQ q23_1011 (by simp (maxSteps := 999999) +decide (discharger := first | omega | (simp only [lens] <;> omega) | decide) only [go_sem, loadIn, simprocAttr, ht, hto, hlt, hlc, hlf, hr, hm, bo, hl, xl, ents_len, read1, opBuiltin, opLen] <;> rfl) (by first | rfl | assumption | exact decide_eq_false (by omega) | (simp; omega)) ?_
     refine Goes.skipQ q23_10114 ?_
     refine Goes.seqQ q23_11 ?_
     refine Goes.seqQ q23_110 ?_
     refine Goes.opsQ q23_1100 fits Hh E0_sound (by
      simp (maxSteps := 999999) +decide (discharger := first | omega | (simp only [lens] <;> omega) | decide) only [go_sem, q23, Tryz.f23, loadIn, simprocAttr, ht, hto, hlt, hlc, hlf, hr, hm, bo, hl, xl, ents_len, read1, opBuiltin, opLen]
      rfl) ?_
     refine Goes.seqQ q23_1101 ?_
     refine Goes.drawnQ q23_11010 fits Hh E0_sound (by kernel_rfl) (by
      simp (maxSteps := 999999) +decide (discharger := first | omega | (simp only [lens] <;> omega) | decide) only [go_sem, q23, Tryz.f23, loadIn, simprocAttr, op_move, op_assign, op_binOp, op_unOp, op_convert, op_load, op_store, op_indexAddr, op_alloc, op_pick, op_box, op_build, op_buildSlice, op_nilCheck, op_makeSlice, op_fieldAddr, op_field, op_extract, op_lookup, op_mapUpdate, op_builtin, op_index, drEnd, drAll, drOne, drTs, drKd, drPure, drRead, drAlloc, drEff, drSkip, drPut, putT_ok, putT_none, cutT, looks, tmpOf, Op.operands, Call.operands, kd, kdCall, List.filterMap_cons, List.filterMap_nil, List.append_nil, List.nil_append, List.cons_append, stables, stable, reachAt, reachP, waitsAt, waits, gives_self, List.all_cons, List.all_nil, List.any_cons, List.any_nil, Region.binds, Bool.or_true, Bool.true_or, Bool.and_true, Bool.true_and, Bool.or_false, Bool.false_or, Bool.and_self, Bool.or_self, ble_true, Nat.le_refl, Nat.le_add_right, List.map_cons, Array.toList_append, ht, hto, hlt, hlc, hlf, hr, hm, bo, hl, xl, ents_len, read1, opBuiltin, opLen]
      rfl) ?_
     refine Goes.condFQ q23_11011 (by simp (maxSteps := 999999) +decide (discharger := first | omega | (simp only [lens] <;> omega) | decide) only [go_sem, loadIn, simprocAttr, ht, hto, hlt, hlc, hlf, hr, hm, bo, hl, xl, ents_len, read1, opBuiltin, opLen] <;> rfl) (by first | rfl | assumption | exact decide_eq_false (by omega) | (simp; omega)) ?_
     refine Goes.skipQ q23_110114 ?_
     refine Goes.seqQ q23_111 ?_
     refine Goes.opsQ q23_1110 fits Hh E0_sound (by
      simp (maxSteps := 999999) +decide (discharger := first | omega | (simp only [lens] <;> omega) | decide) only [go_sem, q23, Tryz.f23, loadIn, simprocAttr, ht, hto, hlt, hlc, hlf, hr, hm, bo, hl, xl, ents_len, read1, opBuiltin, opLen]
      rfl) ?_
     refine Goes.seqQ q23_1111 ?_
     refine Goes.drawnQ q23_11110 fits Hh E0_sound (by kernel_rfl) (by
      simp (maxSteps := 999999) +decide (discharger := first | omega | (simp only [lens] <;> omega) | decide) only [go_sem, q23, Tryz.f23, loadIn, simprocAttr, op_move, op_assign, op_binOp, op_unOp, op_convert, op_load, op_store, op_indexAddr, op_alloc, op_pick, op_box, op_build, op_buildSlice, op_nilCheck, op_makeSlice, op_fieldAddr, op_field, op_extract, op_lookup, op_mapUpdate, op_builtin, op_index, drEnd, drAll, drOne, drTs, drKd, drPure, drRead, drAlloc, drEff, drSkip, drPut, putT_ok, putT_none, cutT, looks, tmpOf, Op.operands, Call.operands, kd, kdCall, List.filterMap_cons, List.filterMap_nil, List.append_nil, List.nil_append, List.cons_append, stables, stable, reachAt, reachP, waitsAt, waits, gives_self, List.all_cons, List.all_nil, List.any_cons, List.any_nil, Region.binds, Bool.or_true, Bool.true_or, Bool.and_true, Bool.true_and, Bool.or_false, Bool.false_or, Bool.and_self, Bool.or_self, ble_true, Nat.le_refl, Nat.le_add_right, List.map_cons, Array.toList_append, ht, hto, hlt, hlc, hlf, hr, hm, bo, hl, xl, ents_len, read1, opBuiltin, opLen]
      rfl) ?_
     refine Goes.seqQ q23_11111 ?_
     refine Goes.opsQ q23_111110 fits Hh E0_sound (by
      simp (maxSteps := 999999) +decide (discharger := first | omega | (simp only [lens] <;> omega) | decide) only [go_sem, q23, Tryz.f23, loadIn, simprocAttr, ht, hto, hlt, hlc, hlf, hr, hm, bo, hl, xl, ents_len, read1, opBuiltin, opLen]
      rfl) ?_
     refine Goes.seqQ q23_111111 ?_
     refine Goes.drawnQ q23_1111110 fits Hh (EX_sound E0_sound (fun _ _ _ _ => xRCancel_ok Hh)) (by kernel_rfl) (by
      simp (maxSteps := 999999) +decide (discharger := first | omega | (simp only [lens] <;> omega) | decide) only [go_sem, q23, Tryz.f23, loadIn, simprocAttr, op_move, op_assign, op_binOp, op_unOp, op_convert, op_load, op_store, op_indexAddr, op_alloc, op_pick, op_box, op_build, op_buildSlice, op_nilCheck, op_makeSlice, op_fieldAddr, op_field, op_extract, op_lookup, op_mapUpdate, op_builtin, op_index, drEnd, drAll, drOne, drTs, drKd, drPure, drRead, drAlloc, drEff, drSkip, drPut, putT_ok, putT_none, cutT, looks, tmpOf, Op.operands, Call.operands, kd, kdCall, List.filterMap_cons, List.filterMap_nil, List.append_nil, List.nil_append, List.cons_append, stables, stable, reachAt, reachP, waitsAt, waits, gives_self, List.all_cons, List.all_nil, List.any_cons, List.any_nil, Region.binds, Bool.or_true, Bool.true_or, Bool.and_true, Bool.true_and, Bool.or_false, Bool.false_or, Bool.and_self, Bool.or_self, ble_true, Nat.le_refl, Nat.le_add_right, List.map_cons, Array.toList_append, ht, hto, hlt, hlc, hlf, hr, hm, bo, hl, xl, ents_len, read1, opBuiltin, opLen]
      rfl) ?_
     refine Goes.seqQ q23_1111111 ?_
     refine Goes.opsQ q23_11111110 fits Hh E0_sound (by
      simp (maxSteps := 999999) +decide (discharger := first | omega | (simp only [lens] <;> omega) | decide) only [go_sem, q23, Tryz.f23, loadIn, simprocAttr, ht, hto, hlt, hlc, hlf, hr, hm, bo, hl, xl, ents_len, read1, opBuiltin, opLen]
      rfl) ?_
     refine Goes.retQ q23_11111111 ?_
     exact ⟨_, _, (by simp (maxSteps := 999999) +decide (discharger := first | omega | (simp only [lens] <;> omega) | decide) only [go_sem, readRow, loadIn, simprocAttr] <;> rfl), rfl, fun j hj => by (first | (simp (discharger := omega) only [H.get_put, H.get_new, H.get_del, H.next_new, H.next_put, H.next_del, if_neg]; done) | (simp only [H.get_put, H.get_new, H.get_del, H.next_new, H.next_put, H.next_del]; (repeat' split) <;> first | rfl | (exfalso; omega) | omega))⟩
    ·cases bc
  exact c.settle ((((NearH.refl tidy).put l2 (low_map (flat_upd rfl f1))).put l3 (low_map (flat_upd xf f2))).put l4 (low_map (flat_del f3))) (LowV.flat rfl) hk
 ·cases e
theorem xTOrder_ok {args : List W} {h h' : Go.Ev.H} {v : V} (e : xTOrder args h = some (v, h')) : CallOk K Tryz.prog 34 args h v h' := by
 unfold xTOrder at e
 split at e
 ·rename_i t z
  obtain ⟨X, ht, e⟩ := bind_of e
  have ht := getTx_some ht
  obtain ⟨l, hl, e⟩ := bind_of e
  have hl := getM_some hl
  obtain ⟨b, e⟩ := askB_some.1 e
  simp only [Bool.and_eq_true, decide_eq_true_eq] at b
  obtain ⟨bo, z0⟩ := b
  cases e
  refine CallOk.goes fits Hh (by kernel_rfl) (by kernel_rfl) (by kernel_rfl) (show Tryz.f34.body = some (q34 []) by kernel_rfl) rfl ?_
  show Goes K Tryz.prog 19 none _ _ _ _ _
  refine Goes.seqQ q34_ ?_
  refine Goes.opsQ q34_0 fits Hh E0_sound (by
   simp (maxSteps := 999999) +decide (discharger := first | omega | (simp only [lens] <;> omega) | decide) only [go_sem, q34, Tryz.f34, readRow, loadIn, simprocAttr, ht, bo, hl, read1]
   rfl) ?_
  refine Goes.seqQ q34_1 ?_
  refine Goes.seqQ q34_10 ?_
  refine Goes.opsQ q34_100 fits Hh (EX_sound E0_sound (fun _ _ _ _ => xTAsk_ok Hh)) (by
   simp (maxSteps := 999999) +decide (discharger := first | omega | (simp only [lens] <;> omega) | decide) only [go_sem, q34, Tryz.f34, readRow, loadIn, simprocAttr, ht, bo, hl, read1]
   rfl) ?_
  refine Goes.seqQ q34_101 ?_
  refine Goes.opsQ q34_1010 fits Hh E0_sound (by
   simp (maxSteps := 999999) +decide (discharger := first | omega | (simp only [lens] <;> omega) | decide) only [go_sem, q34, Tryz.f34, readRow, loadIn, simprocAttr, ht, bo, hl, read1]
   rfl) ?_
  refine Goes.condFQ q34_1011 (by simp (maxSteps := 999999) +decide (discharger := first | omega | (simp only [lens] <;> omega) | decide) only [go_sem, readRow, loadIn, simprocAttr, ht, bo, hl, read1] <;> rfl) (by first | rfl | assumption | exact decide_eq_false (by omega) | (simp; omega)) ?_
  refine Goes.skipQ q34_10114 ?_
  refine Goes.seqQ q34_11 ?_
  refine Goes.opsQ q34_110 fits Hh E0_sound (by
   simp (maxSteps := 999999) +decide (discharger := first | omega | (simp only [lens] <;> omega) | decide) only [go_sem, q34, Tryz.f34, readRow, loadIn, simprocAttr, ht, bo, hl, read1]
   rfl) ?_
  refine Goes.seqQ q34_111 ?_
  refine Goes.opsQ q34_1110 fits Hh E0_sound (by
   simp (maxSteps := 999999) +decide (discharger := first | omega | (simp only [lens] <;> omega) | decide) only [go_sem, q34, Tryz.f34, readRow, loadIn, simprocAttr, ht, bo, hl, read1]
   rfl) ?_
  refine Goes.retQ q34_1111 ?_
  simp (maxSteps := 999999) +decide (discharger := first | omega | (simp only [lens] <;> omega) | decide) only [go_sem, readRow, loadIn, simprocAttr, ht, bo, hl, read1] <;> rfl
 ·cases e
theorem xTClose_ok {args : List W} {h h' : Go.Ev.H} {v : V} (e : xTClose args h = some (v, h')) : CallOk K Tryz.prog 63 args h v h' := by
 unfold xTClose at e
 split at e
 ·rename_i t
  obtain ⟨X, ht, e⟩ := bind_of e
  have ht := getTx_some ht
  cases e
  refine CallOk.goes fits Hh (by kernel_rfl) (by kernel_rfl) (by kernel_rfl) (show Tryz.f63.body = some (q63 []) by kernel_rfl) rfl ?_
  show Goes K Tryz.prog 18 none _ _ _ _ _
  refine Goes.seqQ q63_ ?_
  refine Goes.opsQ q63_0 fits Hh E0_sound (by
   simp (maxSteps := 999999) +decide (discharger := first | omega | (simp only [lens] <;> omega) | decide) only [go_sem, q63, Tryz.f63, readRow, loadIn, simprocAttr, ht, txEnd, endM, read1, writeRow]
   rfl) ?_
  refine Goes.opsQ q63_1 fits Hh E0_sound (by
   simp (maxSteps := 999999) +decide (discharger := first | omega | (simp only [lens] <;> omega) | decide) only [go_sem, q63, Tryz.f63, readRow, loadIn, simprocAttr, ht, txEnd, endM, read1, writeRow]
   rfl) ?_
  simp (maxSteps := 999999) +decide (discharger := first | omega | (simp only [lens] <;> omega) | decide) only [go_sem, readRow, loadIn, simprocAttr, ht, txEnd, endM, read1, writeRow] <;> rfl
 ·cases e
theorem xTEnd_ok {args : List W} {h h' : Go.Ev.H} {v : V} (e : xTEnd args h = some (v, h')) : CallOk K Tryz.prog 35 args h v h' := by
 unfold xTEnd at e
 split at e
 ·rename_i t
  obtain ⟨X, ht, e⟩ := bind_of e
  have ht := getTx_some ht
  obtain ⟨bo, e⟩ := askB_some.1 e
  cases e
  refine CallOk.goes fits Hh (by kernel_rfl) (by kernel_rfl) (by kernel_rfl) (show Tryz.f35.body = some (q35 []) by kernel_rfl) rfl ?_
  show Goes K Tryz.prog 11 none _ _ _ _ _
  refine Goes.seqQ q35_ ?_
  refine Goes.opsQ q35_0 fits Hh E0_sound (by
   simp (maxSteps := 999999) +decide (discharger := first | omega | (simp only [lens] <;> omega) | decide) only [go_sem, q35, Tryz.f35, readRow, loadIn, simprocAttr, ht, bo, read1]
   rfl) ?_
  refine Goes.seqQ q35_1 ?_
  refine Goes.seqQ q35_10 ?_
  refine Goes.opsQ q35_100 fits Hh (EX_sound E0_sound (fun _ _ _ _ => xTHand_ok Hh)) (by
   simp (maxSteps := 999999) +decide (discharger := first | omega | (simp only [lens] <;> omega) | decide) only [go_sem, q35, Tryz.f35, readRow, loadIn, simprocAttr, ht, bo, read1]
   rfl) ?_
  refine Goes.seqQ q35_101 ?_
  refine Goes.opsQ q35_1010 fits Hh E0_sound (by
   simp (maxSteps := 999999) +decide (discharger := first | omega | (simp only [lens] <;> omega) | decide) only [go_sem, q35, Tryz.f35, readRow, loadIn, simprocAttr, ht, bo, read1]
   rfl) ?_
  refine Goes.condFQ q35_1011 (by simp (maxSteps := 999999) +decide (discharger := first | omega | (simp only [lens] <;> omega) | decide) only [go_sem, readRow, loadIn, simprocAttr, ht, bo, read1] <;> rfl) (by first | rfl | assumption | exact decide_eq_false (by omega) | (simp; omega)) ?_
  refine Goes.skipQ q35_10114 ?_
  refine Goes.seqQ q35_11 ?_
  refine Goes.opsQ q35_110 fits Hh (EX_sound E0_sound (fun _ _ _ _ => xTClose_ok Hh)) (by
   simp (maxSteps := 999999) +decide (discharger := first | omega | (simp only [lens] <;> omega) | decide) only [go_sem, q35, Tryz.f35, readRow, loadIn, simprocAttr, ht, bo, read1]
   rfl) ?_
  refine Goes.seqQ q35_111 ?_
  refine Goes.opsQ q35_1110 fits Hh E0_sound (by
   simp (maxSteps := 999999) +decide (discharger := first | omega | (simp only [lens] <;> omega) | decide) only [go_sem, q35, Tryz.f35, readRow, loadIn, simprocAttr, ht, bo, read1]
   rfl) ?_
  refine Goes.retQ q35_1111 ?_
  simp (maxSteps := 999999) +decide (discharger := first | omega | (simp only [lens] <;> omega) | decide) only [go_sem, readRow, loadIn, simprocAttr, ht, bo, read1] <;> rfl
 ·cases e
end
end Go.Proofs.YtpiljmilaelfnaaGreatDoor
