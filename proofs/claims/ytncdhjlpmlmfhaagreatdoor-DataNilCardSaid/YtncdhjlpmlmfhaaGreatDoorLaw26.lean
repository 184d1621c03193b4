/- DataNil, whatever it is given. -/
import Derived.Test.YtncdhjlpmlmfhaaGreatDoorAw26
import Derived.Test.YtncdhjlpmlmfhaaGreatDoorNos
import Derived.KernelRfl
set_option linter.unusedSimpArgs false
set_option linter.unusedVariables false
set_option linter.unusedSectionVars false
set_option maxRecDepth 100000
namespace Go.Proofs.YtncdhjlpmlmfhaaGreatDoor
open Go.Ev
theorem ty35 : K.types.get 35 = some ti35 := by kernel_rfl
theorem sz35 : ti35.size = 1 := by rfl
theorem ag35 : ti35.agg = false := by rfl
theorem de35 : ti35.desc = (.slice 26) := by rfl
theorem ze35 : ti35.zero = (.c (.snil)) := by rfl
theorem by35 : ti35.bytes = 24 := by rfl
theorem el35 : elemTI K 35 = some ti26 := by kernel_rfl
attribute [go_sem] ty35 sz35 ag35 de35 ze35 by35 el35
noncomputable def q3 (p : List Nat) : Code := piece p (bodyOf Tryz.f3)
theorem q3_ : q3 [] = .seq (q3 [0]) (q3 [1]) := by kernel_rfl
theorem q3_0 : q3 [0] = .region 0 (opsA (q3 [0])) false := by kernel_rfl
theorem q3_1 : q3 [1] = .seq (q3 [1, 0]) (q3 [1, 1]) := by kernel_rfl
theorem q3_10 : q3 [1, 0] = .region 1 (opsA (q3 [1, 0])) false := by kernel_rfl
theorem q3_11 : q3 [1, 1] = .seq (q3 [1, 1, 0]) (q3 [1, 1, 1]) := by kernel_rfl
theorem q3_110 : q3 [1, 1, 0] = .region 2 (opsA (q3 [1, 1, 0])) false := by kernel_rfl
theorem q3_111 : q3 [1, 1, 1] = .seq (q3 [1, 1, 1, 0]) (q3 [1, 1, 1, 1]) := by kernel_rfl
theorem q3_1110 : q3 [1, 1, 1, 0] = .seq (q3 [1, 1, 1, 0, 0]) (q3 [1, 1, 1, 0, 1]) := by kernel_rfl
theorem q3_11100 : q3 [1, 1, 1, 0, 0] = .region 3 (opsA (q3 [1, 1, 1, 0, 0])) false := by kernel_rfl
theorem q3_11101 : q3 [1, 1, 1, 0, 1] = .block 0 (q3 [1, 1, 1, 0, 1, 2]) := by kernel_rfl
theorem q3_111012 : q3 [1, 1, 1, 0, 1, 2] = .loop (q3 [1, 1, 1, 0, 1, 2, 2]) := by kernel_rfl
theorem q3_1110122 : q3 [1, 1, 1, 0, 1, 2, 2] = .seq (q3 [1, 1, 1, 0, 1, 2, 2, 0]) (q3 [1, 1, 1, 0, 1, 2, 2, 1]) := by kernel_rfl
theorem q3_11101220 : q3 [1, 1, 1, 0, 1, 2, 2, 0] = .seq (q3 [1, 1, 1, 0, 1, 2, 2, 0, 0]) (q3 [1, 1, 1, 0, 1, 2, 2, 0, 1]) := by kernel_rfl
theorem q3_111012200 : q3 [1, 1, 1, 0, 1, 2, 2, 0, 0] = .region 4 (opsA (q3 [1, 1, 1, 0, 1, 2, 2, 0, 0])) false := by kernel_rfl
theorem q3_111012201 : q3 [1, 1, 1, 0, 1, 2, 2, 0, 1] = .cond (.tmp 23) (q3 [1, 1, 1, 0, 1, 2, 2, 0, 1, 3]) (q3 [1, 1, 1, 0, 1, 2, 2, 0, 1, 4]) := by kernel_rfl
theorem q3_1110122013 : q3 [1, 1, 1, 0, 1, 2, 2, 0, 1, 3] = .skip := by kernel_rfl
theorem q3_1110122014 : q3 [1, 1, 1, 0, 1, 2, 2, 0, 1, 4] = .exit 0 := by kernel_rfl
theorem q3_11101221 : q3 [1, 1, 1, 0, 1, 2, 2, 1] = .seq (q3 [1, 1, 1, 0, 1, 2, 2, 1, 0]) (q3 [1, 1, 1, 0, 1, 2, 2, 1, 1]) := by kernel_rfl
theorem q3_111012210 : q3 [1, 1, 1, 0, 1, 2, 2, 1, 0] = .block 1 (q3 [1, 1, 1, 0, 1, 2, 2, 1, 0, 2]) := by kernel_rfl
theorem q3_1110122102 : q3 [1, 1, 1, 0, 1, 2, 2, 1, 0, 2] = .seq (q3 [1, 1, 1, 0, 1, 2, 2, 1, 0, 2, 0]) (q3 [1, 1, 1, 0, 1, 2, 2, 1, 0, 2, 1]) := by kernel_rfl
theorem q3_11101221020 : q3 [1, 1, 1, 0, 1, 2, 2, 1, 0, 2, 0] = .region 6 (opsA (q3 [1, 1, 1, 0, 1, 2, 2, 1, 0, 2, 0])) true := by kernel_rfl
theorem q3_11101221021 : q3 [1, 1, 1, 0, 1, 2, 2, 1, 0, 2, 1] = .seq (q3 [1, 1, 1, 0, 1, 2, 2, 1, 0, 2, 1, 0]) (q3 [1, 1, 1, 0, 1, 2, 2, 1, 0, 2, 1, 1]) := by kernel_rfl
theorem q3_111012210210 : q3 [1, 1, 1, 0, 1, 2, 2, 1, 0, 2, 1, 0] = .region 7 (opsA (q3 [1, 1, 1, 0, 1, 2, 2, 1, 0, 2, 1, 0])) true := by kernel_rfl
theorem q3_111012210211 : q3 [1, 1, 1, 0, 1, 2, 2, 1, 0, 2, 1, 1] = .seq (q3 [1, 1, 1, 0, 1, 2, 2, 1, 0, 2, 1, 1, 0]) (q3 [1, 1, 1, 0, 1, 2, 2, 1, 0, 2, 1, 1, 1]) := by kernel_rfl
theorem q3_1110122102110 : q3 [1, 1, 1, 0, 1, 2, 2, 1, 0, 2, 1, 1, 0] = .region 8 (opsA (q3 [1, 1, 1, 0, 1, 2, 2, 1, 0, 2, 1, 1, 0])) true := by kernel_rfl
theorem q3_1110122102111 : q3 [1, 1, 1, 0, 1, 2, 2, 1, 0, 2, 1, 1, 1] = .seq (q3 [1, 1, 1, 0, 1, 2, 2, 1, 0, 2, 1, 1, 1, 0]) (q3 [1, 1, 1, 0, 1, 2, 2, 1, 0, 2, 1, 1, 1, 1]) := by kernel_rfl
theorem q3_11101221021110 : q3 [1, 1, 1, 0, 1, 2, 2, 1, 0, 2, 1, 1, 1, 0] = .region 9 (opsA (q3 [1, 1, 1, 0, 1, 2, 2, 1, 0, 2, 1, 1, 1, 0])) false := by kernel_rfl
theorem q3_11101221021111 : q3 [1, 1, 1, 0, 1, 2, 2, 1, 0, 2, 1, 1, 1, 1] = .cond (.tmp 83) (q3 [1, 1, 1, 0, 1, 2, 2, 1, 0, 2, 1, 1, 1, 1, 3]) (q3 [1, 1, 1, 0, 1, 2, 2, 1, 0, 2, 1, 1, 1, 1, 4]) := by kernel_rfl
theorem q3_111012210211114 : q3 [1, 1, 1, 0, 1, 2, 2, 1, 0, 2, 1, 1, 1, 1, 4] = .skip := by kernel_rfl
theorem q3_111012211 : q3 [1, 1, 1, 0, 1, 2, 2, 1, 1] = .region 5 (opsA (q3 [1, 1, 1, 0, 1, 2, 2, 1, 1])) false := by kernel_rfl
theorem q3_1111 : q3 [1, 1, 1, 1] = .seq (q3 [1, 1, 1, 1, 0]) (q3 [1, 1, 1, 1, 1]) := by kernel_rfl
theorem q3_11110 : q3 [1, 1, 1, 1, 0] = .region 11 (opsA (q3 [1, 1, 1, 1, 0])) false := by kernel_rfl
theorem q3_11111 : q3 [1, 1, 1, 1, 1] = .ret := by kernel_rfl
theorem rs3 : Tryz.f3.results.toList = [.tmp 6] := rfl
attribute [go_sem] rs3
theorem eqIno : eqT K 20 25 (.g (inoL16 0 0 0 0 0 0 0 0 0 0 0 0 0 0 0 0)) (.g (inoL16 0 0 0 0 0 0 0 0 0 0 0 0 0 0 0 0)) = some true := by kernel_rfl
theorem rd16 {x : List C} {n : Nat} (hx : x.length = n) (h : 0 < n) : readRow n [x] 0 n = some x := by
  subst hx
  exact readRow_all h
theorem wr16 {x y : List C} {n : Nat} (hx : x.length = n) (hy : y.length = n) (h : 0 < n) : writeRow n [x] 0 y = some [y] := by
  subst hy
  exact writeRow_all h hx
section
variable (Hh : Hearts K Tryz.prog)
include Hh
theorem bytAny (h : Go.Ev.H) (z : Int) : ∃ b h1 nn, CallOk K Tryz.prog 6 [.c (.int .i64 z), .c (.int .u8 1)] h (.w (.c b)) h1 ∧ (b = .snil ∧ nn = 0 ∨ ∃ q, b = .slice q 0 nn 1) ∧ h.next ≤ h1.next ∧ ∀ m, m < h.next → h1.get m = h.get m := by
  by_cases hz : z ≤ 0
  · exact ⟨.snil, h, 0, bytN Hh h z 1 (by omega) hz, .inl ⟨rfl, rfl⟩, Nat.le_refl _, fun _ _ => rfl⟩
  · obtain ⟨m, rfl⟩ : ∃ m : Nat, z = (m : Int) := ⟨z.toNat, by omega⟩
    exact ⟨_, _, min m 1100, bytP Hh h m 1 (by omega) (by omega), .inr ⟨_, rfl⟩, by rw [H.next_new]; omega, fun j hj => by rw [get_new_ne (by omega)]⟩
set_option maxHeartbeats 4000000 in
theorem law0 (x0 x1 x2 x3 x4 x5 x6 x7 x8 x9 x10 x11 x12 x13 x14 x15 a n : Int) (p3 ps pv : Nat) (l : List C) : ∀ (k i : Nat) (ts : Tmps) (h : Go.Ev.H), i + k = 2 → evalT ts 1 = .w (.c (.int .i64 a)) → evalT ts 2 = .w (.c (.int .i64 n)) → evalT ts 3 = .w (.c (.ptr p3 0)) → evalT ts 8 = .w (.c (.slice ps 0 2 1)) → evalT ts 9 = .w (.c (.int .i64 i)) →
    p3 < h.next → ps < h.next → pv < h.next → h.get p3 = some (.row 16 [inoL16 x0 x1 x2 x3 x4 x5 x6 x7 x8 x9 x10 x11 x12 x13 x14 x15] false) → h.get ps = some (.row 1 [[.pnil], [.ptr pv 0]] false) → h.get pv = some (.row ti34.size [.pnil :: l] false) →
    Goes K Tryz.prog 85 none (q3 [1, 1, 1, 0, 1, 2]) [] ts h fun x ds' ts' h' => x = .exit 0 ∧ ds' = [] ∧ h.next ≤ h'.next ∧ ∀ m, m < h.next → h'.get m = h.get m := by
  intro k
  induction k with
  | zero =>
    intro i ts h hi e1 e2 e3 e8 e9 b3 bs bv g3 gs gv
    obtain rfl : i = 2 := by omega
    have fl : lenFits K 35 (.c (.slice ps 0 2 1)) = true := by kernel_rfl
    show Goes K Tryz.prog 85 none (q3 [1, 1, 1, 0, 1, 2]) _ _ _ _
    rw [q3_111012]
    refine Goes.loop ?_
    show Goes K Tryz.prog 85 none (q3 [1, 1, 1, 0, 1, 2, 2]) _ _ _ _
    rw [q3_1110122]
    refine Goes.seq ?_
    show Goes K Tryz.prog 85 none (q3 [1, 1, 1, 0, 1, 2, 2, 0]) _ _ _ _
    rw [q3_11101220]
    refine Goes.seq ?_
    show Goes K Tryz.prog 85 none (q3 [1, 1, 1, 0, 1, 2, 2, 0, 0]) _ _ _ _
    rw [q3_111012200]
    refine Goes.ops2 fits Hh E0_sound (by
      simp (config := { maxSteps := 1000000 }) (decide := true) (discharger := first | omega | (simp only [H.next_new, H.next_put] <;> omega) | decide) only [go_sem, q3, Tryz.f3, readRow, loadIn, reduceIte, Nat.reduceAdd, Nat.reduceMul, Nat.reduceSub, Nat.reduceDiv, Nat.reduceMod, Nat.reduceLT, Nat.reduceBEq, Int.reduceToNat, e8, e9, fl, opBuiltin, opLen]
      rfl) ?_
    show Goes K Tryz.prog 85 none (q3 [1, 1, 1, 0, 1, 2, 2, 0, 1]) _ _ _ _
    rw [q3_111012201]
    refine Goes.condE (by simp (config := { maxSteps := 1000000 }) (decide := true) (discharger := first | omega | (simp only [H.next_new, H.next_put] <;> omega) | decide) only [go_sem, readRow, loadIn, reduceIte, Nat.reduceAdd, Nat.reduceMul, Nat.reduceSub, Nat.reduceDiv, Nat.reduceMod, Nat.reduceLT, Nat.reduceBEq, Int.reduceToNat, e8, e9, fl, opBuiltin, opLen] <;> rfl) (by first | rfl | assumption | exact decide_eq_false (by omega) | (simp; omega)) ?_
    show Goes K Tryz.prog 85 none (q3 [1, 1, 1, 0, 1, 2, 2, 0, 1, 4]) _ _ _ _
    rw [q3_1110122014]
    refine Goes.exit ?_
    exact ⟨rfl, rfl, Nat.le_refl _, fun _ _ => rfl⟩
  | succ k ih =>
    intro i ts h hi e1 e2 e3 e8 e9 b3 bs bv g3 gs gv
    have fl : lenFits K 35 (.c (.slice ps 0 2 1)) = true := by kernel_rfl
    have fl0 : lenFits K 36 (.c .snil) = true := by kernel_rfl
    obtain ⟨c, rc, hc⟩ : ∃ c, read1 1 [[C.pnil], [.ptr pv 0]] i = some c ∧ NoStore h c := by
      have : i = 0 ∨ i = 1 := by omega
      rcases this with rfl | rfl
      · exact ⟨_, rfl, .inl rfl⟩
      · exact ⟨_, rfl, .inr ⟨pv, l, rfl, bv, gv⟩⟩
    have c1 := dreadNo Hh h c hc (inoL16 x0 x1 x2 x3 x4 x5 x6 x7 x8 x9 x10 x11 x12 x13 x14 x15) a n
    obtain ⟨b, h1, nn, c2, hb, n1, k1⟩ := bytAny Hh h n
    have hc1 : NoStore h1 c := by
      rcases hc with e | ⟨p, l, e, hp, hg⟩
      · exact .inl e
      · exact .inr ⟨p, l, e, by omega, by rw [k1 p hp]; exact hg⟩
    have c3 := dwriteNo Hh h1 c hc1 x0 x1 x2 x3 x4 x5 x6 x7 x8 x9 x10 x11 x12 x13 x14 x15 a b nn hb
    have g3' := (k1 p3 b3).trans g3
    have gs' := (k1 ps bs).trans gs
    have hc2 : NoStore ((h1.new (.row 16 [inoL16 0 0 0 0 0 0 0 0 0 0 0 0 0 0 0 0] false)).put h1.next (.row 16 [inoL16 0 0 0 0 0 0 0 0 0 0 0 0 0 0 0 0] false)) c := by
      rcases hc1 with e | ⟨p, l, e, hp, hg⟩
      · exact .inl e
      · exact .inr ⟨p, l, e, by rw [H.next_put, H.next_new]; omega, by rw [get_put_ne (by omega), get_new_ne (by omega)]; exact hg⟩
    have c4 := dresizeNo Hh _ c hc2 (inoL16 x0 x1 x2 x3 x4 x5 x6 x7 x8 x9 x10 x11 x12 x13 x14 x15) n
    have eqi := eqIno
    have rI := rd16 (x := inoL16 x0 x1 x2 x3 x4 x5 x6 x7 x8 x9 x10 x11 x12 x13 x14 x15) (n := 16) rfl (by omega)
    have rZ := rd16 (x := inoL16 0 0 0 0 0 0 0 0 0 0 0 0 0 0 0 0) (n := 16) rfl (by omega)
    have wZ := wr16 (x := inoL16 0 0 0 0 0 0 0 0 0 0 0 0 0 0 0 0) (y := inoL16 0 0 0 0 0 0 0 0 0 0 0 0 0 0 0 0) (n := 16) rfl rfl (by omega)
    simp only [inoL16] at eqi rI rZ wZ
    show Goes K Tryz.prog 85 none (q3 [1, 1, 1, 0, 1, 2]) _ _ _ _
    rw [q3_111012]
    refine Goes.loop ?_
    show Goes K Tryz.prog 85 none (q3 [1, 1, 1, 0, 1, 2, 2]) _ _ _ _
    rw [q3_1110122]
    refine Goes.seq ?_
    show Goes K Tryz.prog 85 none (q3 [1, 1, 1, 0, 1, 2, 2, 0]) _ _ _ _
    rw [q3_11101220]
    refine Goes.seq ?_
    show Goes K Tryz.prog 85 none (q3 [1, 1, 1, 0, 1, 2, 2, 0, 0]) _ _ _ _
    rw [q3_111012200]
    refine Goes.ops2 fits Hh E0_sound (by
      simp (config := { maxSteps := 1000000 }) (decide := true) (discharger := first | omega | (simp only [H.next_new, H.next_put] <;> omega) | decide) only [go_sem, q3, Tryz.f3, loadIn, reduceIte, Nat.reduceAdd, Nat.reduceMul, Nat.reduceSub, Nat.reduceDiv, Nat.reduceMod, Nat.reduceLT, Nat.reduceBEq, Int.reduceToNat, e1, e2, e3, e8, e9, fl, fl0, g3, gs, g3', gs', rc, inoL16, eqi, rI, rZ, wZ, opBuiltin, opLen, notB]
      rfl) ?_
    show Goes K Tryz.prog 85 none (q3 [1, 1, 1, 0, 1, 2, 2, 0, 1]) _ _ _ _
    rw [q3_111012201]
    refine Goes.condA (by simp (config := { maxSteps := 1000000 }) (decide := true) (discharger := first | omega | (simp only [H.next_new, H.next_put] <;> omega) | decide) only [go_sem, loadIn, reduceIte, Nat.reduceAdd, Nat.reduceMul, Nat.reduceSub, Nat.reduceDiv, Nat.reduceMod, Nat.reduceLT, Nat.reduceBEq, Int.reduceToNat, e1, e2, e3, e8, e9, fl, fl0, g3, gs, g3', gs', rc, inoL16, eqi, rI, rZ, wZ, opBuiltin, opLen, notB] <;> rfl) (by first | rfl | assumption | exact decide_eq_true (by omega) | (simp; omega)) ?_
    show Goes K Tryz.prog 85 none (q3 [1, 1, 1, 0, 1, 2, 2, 0, 1, 3]) _ _ _ _
    rw [q3_1110122013]
    refine Goes.skip ?_
    show Goes K Tryz.prog 85 none (q3 [1, 1, 1, 0, 1, 2, 2, 1]) _ _ _ _
    rw [q3_11101221]
    refine Goes.seq ?_
    show Goes K Tryz.prog 85 none (q3 [1, 1, 1, 0, 1, 2, 2, 1, 0]) _ _ _ _
    rw [q3_111012210]
    refine Goes.block ?_
    show Goes K Tryz.prog 85 none (q3 [1, 1, 1, 0, 1, 2, 2, 1, 0, 2]) _ _ _ _
    rw [q3_1110122102]
    refine Goes.seq ?_
    show Goes K Tryz.prog 85 none (q3 [1, 1, 1, 0, 1, 2, 2, 1, 0, 2, 0]) _ _ _ _
    rw [q3_11101221020]
    refine Goes.drawn2 fits Hh (E1_sound E0_sound c1) (by kernel_rfl) (by
      simp (config := { maxSteps := 1000000 }) (decide := true) (discharger := first | omega | (simp only [H.next_new, H.next_put] <;> omega) | decide) only [go_sem, q3, Tryz.f3, loadIn, reduceIte, Nat.reduceAdd, Nat.reduceMul, Nat.reduceSub, Nat.reduceDiv, Nat.reduceMod, Nat.reduceLT, Nat.reduceBEq, Int.reduceToNat, op_move, op_assign, op_binOp, op_unOp, op_convert, op_load, op_store, op_indexAddr, op_alloc, op_pick, op_box, op_build, op_buildSlice, op_nilCheck, op_makeSlice, op_fieldAddr, op_field, op_extract, op_lookup, op_mapUpdate, op_builtin, op_index, drEnd, drAll, drOne, drTs, drKd, drPure, drRead, drAlloc, drEff, drSkip, drPut, putT_ok, putT_none, cutT, looks, tmpOf, Op.operands, Call.operands, kd, kdCall, List.filterMap_cons, List.filterMap_nil, List.append_nil, List.nil_append, List.cons_append, stables, stable, reachAt, reachP, waitsAt, waits, gives_self, List.all_cons, List.all_nil, List.any_cons, List.any_nil, Region.binds, Bool.or_true, Bool.true_or, Bool.and_true, Bool.true_and, Bool.or_false, Bool.false_or, Bool.and_self, Bool.or_self, ble_true, Nat.le_refl, Nat.le_add_right, List.map_cons, Array.toList_append, E1_call, e1, e2, e3, e8, e9, fl, fl0, g3, gs, g3', gs', rc, inoL16, eqi, rI, rZ, wZ, opBuiltin, opLen, notB]
      rfl) ?_
    show Goes K Tryz.prog 85 none (q3 [1, 1, 1, 0, 1, 2, 2, 1, 0, 2, 1]) _ _ _ _
    rw [q3_11101221021]
    refine Goes.seq ?_
    show Goes K Tryz.prog 85 none (q3 [1, 1, 1, 0, 1, 2, 2, 1, 0, 2, 1, 0]) _ _ _ _
    rw [q3_111012210210]
    refine Goes.drawn2 fits Hh (E1_sound (E1_sound E0_sound c2) c3) (by kernel_rfl) (by
      simp (config := { maxSteps := 1000000 }) (decide := true) (discharger := first | omega | (simp only [H.next_new, H.next_put] <;> omega) | decide) only [go_sem, q3, Tryz.f3, loadIn, reduceIte, Nat.reduceAdd, Nat.reduceMul, Nat.reduceSub, Nat.reduceDiv, Nat.reduceMod, Nat.reduceLT, Nat.reduceBEq, Int.reduceToNat, op_move, op_assign, op_binOp, op_unOp, op_convert, op_load, op_store, op_indexAddr, op_alloc, op_pick, op_box, op_build, op_buildSlice, op_nilCheck, op_makeSlice, op_fieldAddr, op_field, op_extract, op_lookup, op_mapUpdate, op_builtin, op_index, drEnd, drAll, drOne, drTs, drKd, drPure, drRead, drAlloc, drEff, drSkip, drPut, putT_ok, putT_none, cutT, looks, tmpOf, Op.operands, Call.operands, kd, kdCall, List.filterMap_cons, List.filterMap_nil, List.append_nil, List.nil_append, List.cons_append, stables, stable, reachAt, reachP, waitsAt, waits, gives_self, List.all_cons, List.all_nil, List.any_cons, List.any_nil, Region.binds, Bool.or_true, Bool.true_or, Bool.and_true, Bool.true_and, Bool.or_false, Bool.false_or, Bool.and_self, Bool.or_self, ble_true, Nat.le_refl, Nat.le_add_right, List.map_cons, Array.toList_append, E1_call, e1, e2, e3, e8, e9, fl, fl0, g3, gs, g3', gs', rc, inoL16, eqi, rI, rZ, wZ, opBuiltin, opLen, notB]
      rfl) ?_
    show Goes K Tryz.prog 85 none (q3 [1, 1, 1, 0, 1, 2, 2, 1, 0, 2, 1, 1]) _ _ _ _
    rw [q3_111012210211]
    refine Goes.seq ?_
    show Goes K Tryz.prog 85 none (q3 [1, 1, 1, 0, 1, 2, 2, 1, 0, 2, 1, 1, 0]) _ _ _ _
    rw [q3_1110122102110]
    refine Goes.drawn2 fits Hh (E1_sound E0_sound c4) (by kernel_rfl) (by
      simp (config := { maxSteps := 1000000 }) (decide := true) (discharger := first | omega | (simp only [H.next_new, H.next_put] <;> omega) | decide) only [go_sem, q3, Tryz.f3, loadIn, reduceIte, Nat.reduceAdd, Nat.reduceMul, Nat.reduceSub, Nat.reduceDiv, Nat.reduceMod, Nat.reduceLT, Nat.reduceBEq, Int.reduceToNat, op_move, op_assign, op_binOp, op_unOp, op_convert, op_load, op_store, op_indexAddr, op_alloc, op_pick, op_box, op_build, op_buildSlice, op_nilCheck, op_makeSlice, op_fieldAddr, op_field, op_extract, op_lookup, op_mapUpdate, op_builtin, op_index, drEnd, drAll, drOne, drTs, drKd, drPure, drRead, drAlloc, drEff, drSkip, drPut, putT_ok, putT_none, cutT, looks, tmpOf, Op.operands, Call.operands, kd, kdCall, List.filterMap_cons, List.filterMap_nil, List.append_nil, List.nil_append, List.cons_append, stables, stable, reachAt, reachP, waitsAt, waits, gives_self, List.all_cons, List.all_nil, List.any_cons, List.any_nil, Region.binds, Bool.or_true, Bool.true_or, Bool.and_true, Bool.true_and, Bool.or_false, Bool.false_or, Bool.and_self, Bool.or_self, ble_true, Nat.le_refl, Nat.le_add_right, List.map_cons, Array.toList_append, E1_call, e1, e2, e3, e8, e9, fl, fl0, g3, gs, g3', gs', rc, inoL16, eqi, rI, rZ, wZ, opBuiltin, opLen, notB]
      rfl) ?_
    show Goes K Tryz.prog 85 none (q3 [1, 1, 1, 0, 1, 2, 2, 1, 0, 2, 1, 1, 1]) _ _ _ _
    rw [q3_1110122102111]
    refine Goes.seq ?_
    show Goes K Tryz.prog 85 none (q3 [1, 1, 1, 0, 1, 2, 2, 1, 0, 2, 1, 1, 1, 0]) _ _ _ _
    rw [q3_11101221021110]
    refine Goes.ops2 fits Hh E0_sound (by
      simp only [q3, Tryz.f3, piece, part0, part1, part2, part2l, part3, part4, part5, part6, bodyOf, opsA]
      iterate 25 (refine evOps_step (by simp (config := { maxSteps := 1000000 }) (decide := true) (discharger := first | omega | (simp only [H.next_new, H.next_put] <;> omega) | decide) only [go_sem, loadIn, reduceIte, Nat.reduceAdd, Nat.reduceMul, Nat.reduceSub, Nat.reduceDiv, Nat.reduceMod, Nat.reduceLT, Nat.reduceBEq, Int.reduceToNat, e1, e2, e3, e8, e9, fl, fl0, g3, gs, g3', gs', rc, inoL16, eqi, rI, rZ, wZ, opBuiltin, opLen, notB] <;> rfl) ?_)
      exact evOps_done) ?_
    show Goes K Tryz.prog 85 none (q3 [1, 1, 1, 0, 1, 2, 2, 1, 0, 2, 1, 1, 1, 1]) _ _ _ _
    rw [q3_11101221021111]
    refine Goes.condE (by simp (config := { maxSteps := 1000000 }) (decide := true) (discharger := first | omega | (simp only [H.next_new, H.next_put] <;> omega) | decide) only [go_sem, loadIn, reduceIte, Nat.reduceAdd, Nat.reduceMul, Nat.reduceSub, Nat.reduceDiv, Nat.reduceMod, Nat.reduceLT, Nat.reduceBEq, Int.reduceToNat, e1, e2, e3, e8, e9, fl, fl0, g3, gs, g3', gs', rc, inoL16, eqi, rI, rZ, wZ, opBuiltin, opLen, notB] <;> rfl) (by first | rfl | assumption | exact decide_eq_false (by omega) | (simp; omega)) ?_
    show Goes K Tryz.prog 85 none (q3 [1, 1, 1, 0, 1, 2, 2, 1, 0, 2, 1, 1, 1, 1, 4]) _ _ _ _
    rw [q3_111012210211114]
    refine Goes.skip ?_
    show Goes K Tryz.prog 85 none (q3 [1, 1, 1, 0, 1, 2, 2, 1, 1]) _ _ _ _
    rw [q3_111012211]
    refine Goes.ops2 fits Hh E0_sound (by
      simp (config := { maxSteps := 1000000 }) (decide := true) (discharger := first | omega | (simp only [H.next_new, H.next_put] <;> omega) | decide) only [go_sem, q3, Tryz.f3, loadIn, reduceIte, Nat.reduceAdd, Nat.reduceMul, Nat.reduceSub, Nat.reduceDiv, Nat.reduceMod, Nat.reduceLT, Nat.reduceBEq, Int.reduceToNat, e1, e2, e3, e8, e9, fl, fl0, g3, gs, g3', gs', rc, inoL16, eqi, rI, rZ, wZ, opBuiltin, opLen, notB]
      rfl) ?_
    show Goes K Tryz.prog 85 none (.loop (q3 [1, 1, 1, 0, 1, 2, 2])) _ _ _ _
    rw [← q3_111012]
    have gv' := (k1 pv bv).trans gv
    refine (ih (i + 1) _ _ (by omega) ?_ ?_ ?_ ?_ ?_ ?_ ?_ ?_ ?_ ?_ ?_).mono ?_
    · simp (decide := true) only [evalT_set, reduceIte, e1]
    · simp (decide := true) only [evalT_set, reduceIte, e2]
    · simp (decide := true) only [evalT_set, reduceIte, e3]
    · simp (decide := true) only [evalT_set, reduceIte, e8]
    · simp (decide := true) only [evalT_set, reduceIte] <;> rfl
    · simp only [H.next_put, H.next_new]; omega
    · simp only [H.next_put, H.next_new]; omega
    · simp only [H.next_put, H.next_new]; omega
    · simp (config := { maxSteps := 1000000 }) (decide := true) (discharger := first | omega | (simp only [H.next_new, H.next_put] <;> omega) | decide) only [go_sem, readRow, loadIn, reduceIte, Nat.reduceAdd, Nat.reduceMul, Nat.reduceSub, Nat.reduceDiv, Nat.reduceMod, Nat.reduceLT, Nat.reduceBEq, Int.reduceToNat, g3']
    · simp (config := { maxSteps := 1000000 }) (decide := true) (discharger := first | omega | (simp only [H.next_new, H.next_put] <;> omega) | decide) only [go_sem, readRow, loadIn, reduceIte, Nat.reduceAdd, Nat.reduceMul, Nat.reduceSub, Nat.reduceDiv, Nat.reduceMod, Nat.reduceLT, Nat.reduceBEq, Int.reduceToNat, gs']
    · simp (config := { maxSteps := 1000000 }) (decide := true) (discharger := first | omega | (simp only [H.next_new, H.next_put] <;> omega) | decide) only [go_sem, readRow, loadIn, reduceIte, Nat.reduceAdd, Nat.reduceMul, Nat.reduceSub, Nat.reduceDiv, Nat.reduceMod, Nat.reduceLT, Nat.reduceBEq, Int.reduceToNat, gv']
    · rintro x ds' ts' h' ⟨y1, y2, y3, y4⟩
      simp only [H.next_put, H.next_new] at y3 y4
      refine ⟨y1, y2, by omega, fun m hm => (y4 m (by omega)).trans (Eq.trans ?_ (k1 m hm))⟩
      simp (config := { maxSteps := 1000000 }) (decide := true) (discharger := first | omega | (simp only [H.next_new, H.next_put] <;> omega) | decide) only [go_sem, readRow, loadIn, reduceIte, Nat.reduceAdd, Nat.reduceMul, Nat.reduceSub, Nat.reduceDiv, Nat.reduceMod, Nat.reduceLT, Nat.reduceBEq, Int.reduceToNat]
theorem lawOk (x0 x1 x2 x3 x4 x5 x6 x7 x8 x9 x10 x11 x12 x13 x14 x15 a n : Int) : ∃ h', CallOk K Tryz.prog 3 [.g (inoL16 x0 x1 x2 x3 x4 x5 x6 x7 x8 x9 x10 x11 x12 x13 x14 x15), .c (.int .i64 a), .c (.int .i64 n)] hBegin (.w (.c (.bool true))) h' := by
  have hbn : hBegin.next = 1 := rfl
  obtain ⟨v, h', c, rfl⟩ : ∃ v h', CallOk K Tryz.prog 3 [.g (inoL16 x0 x1 x2 x3 x4 x5 x6 x7 x8 x9 x10 x11 x12 x13 x14 x15), .c (.int .i64 a), .c (.int .i64 n)] hBegin v h' ∧ v = .w (.c (.bool true)) := by
    refine CallOk.goesE fits Hh (by kernel_rfl) (by kernel_rfl) (by kernel_rfl) (show Tryz.f3.body = some (q3 []) by kernel_rfl) rfl ?_
    show Goes K Tryz.prog 85 none _ _ _ _ _
    show Goes K Tryz.prog 85 none (q3 []) _ _ _ _
    rw [q3_]
    refine Goes.seq ?_
    show Goes K Tryz.prog 85 none (q3 [0]) _ _ _ _
    rw [q3_0]
    refine Goes.ops2 fits Hh E0_sound (by
      simp (config := { maxSteps := 1000000 }) (decide := true) (discharger := first | omega | (simp only [H.next_new, H.next_put] <;> omega) | decide) only [go_sem, q3, Tryz.f3, readRow, loadIn, reduceIte, Nat.reduceAdd, Nat.reduceMul, Nat.reduceSub, Nat.reduceDiv, Nat.reduceMod, Nat.reduceLT, Nat.reduceBEq, Int.reduceToNat, hbn, inoL16, opBox, opBuildSlice, fillEls, newSlice, List.replicate_succ, List.replicate_zero]
      rfl) ?_
    show Goes K Tryz.prog 85 none (q3 [1]) _ _ _ _
    rw [q3_1]
    refine Goes.seq ?_
    show Goes K Tryz.prog 85 none (q3 [1, 0]) _ _ _ _
    rw [q3_10]
    refine Goes.ops2 fits Hh E0_sound (by
      simp (config := { maxSteps := 1000000 }) (decide := true) (discharger := first | omega | (simp only [H.next_new, H.next_put] <;> omega) | decide) only [go_sem, q3, Tryz.f3, readRow, loadIn, reduceIte, Nat.reduceAdd, Nat.reduceMul, Nat.reduceSub, Nat.reduceDiv, Nat.reduceMod, Nat.reduceLT, Nat.reduceBEq, Int.reduceToNat, hbn, inoL16, opBox, opBuildSlice, fillEls, newSlice, List.replicate_succ, List.replicate_zero]
      rfl) ?_
    show Goes K Tryz.prog 85 none (q3 [1, 1]) _ _ _ _
    rw [q3_11]
    refine Goes.seq ?_
    show Goes K Tryz.prog 85 none (q3 [1, 1, 0]) _ _ _ _
    rw [q3_110]
    refine Goes.ops2 fits Hh E0_sound (by
      simp (config := { maxSteps := 1000000 }) (decide := true) (discharger := first | omega | (simp only [H.next_new, H.next_put] <;> omega) | decide) only [go_sem, q3, Tryz.f3, readRow, loadIn, reduceIte, Nat.reduceAdd, Nat.reduceMul, Nat.reduceSub, Nat.reduceDiv, Nat.reduceMod, Nat.reduceLT, Nat.reduceBEq, Int.reduceToNat, hbn, inoL16, opBox, opBuildSlice, fillEls, newSlice, List.replicate_succ, List.replicate_zero]
      rfl) ?_
    show Goes K Tryz.prog 85 none (q3 [1, 1, 1]) _ _ _ _
    rw [q3_111]
    refine Goes.seq ?_
    show Goes K Tryz.prog 85 none (q3 [1, 1, 1, 0]) _ _ _ _
    rw [q3_1110]
    refine Goes.seq ?_
    show Goes K Tryz.prog 85 none (q3 [1, 1, 1, 0, 0]) _ _ _ _
    rw [q3_11100]
    refine Goes.ops2 fits Hh E0_sound (by
      simp (config := { maxSteps := 1000000 }) (decide := true) (discharger := first | omega | (simp only [H.next_new, H.next_put] <;> omega) | decide) only [go_sem, q3, Tryz.f3, readRow, loadIn, reduceIte, Nat.reduceAdd, Nat.reduceMul, Nat.reduceSub, Nat.reduceDiv, Nat.reduceMod, Nat.reduceLT, Nat.reduceBEq, Int.reduceToNat, hbn, inoL16, opBox, opBuildSlice, fillEls, newSlice, List.replicate_succ, List.replicate_zero]
      rfl) ?_
    show Goes K Tryz.prog 85 none (q3 [1, 1, 1, 0, 1]) _ _ _ _
    rw [q3_11101]
    refine Goes.block ?_
    refine (law0 Hh x0 x1 x2 x3 x4 x5 x6 x7 x8 x9 x10 x11 x12 x13 x14 x15 a n 1 3 2 [.pnil, .pnil, .mnil, .mnil, .snil, .bool false, .bool false] 2 0 _ _ (by omega) ?_ ?_ ?_ ?_ ?_ ?_ ?_ ?_ ?_ ?_ ?_).mono ?_
    · simp (decide := true) only [evalT_set, reduceIte, evalT_args, List.getElem?_cons_succ, List.getElem?_cons_zero]
    · simp (decide := true) only [evalT_set, reduceIte, evalT_args, List.getElem?_cons_succ, List.getElem?_cons_zero]
    · simp (decide := true) only [evalT_set, reduceIte]
    · simp (decide := true) only [evalT_set, reduceIte]
    · simp (decide := true) only [evalT_set, reduceIte] <;> rfl
    · simp (config := { maxSteps := 1000000 }) (decide := true) (discharger := first | omega | (simp only [H.next_new, H.next_put] <;> omega) | decide) only [go_sem, readRow, loadIn, reduceIte, Nat.reduceAdd, Nat.reduceMul, Nat.reduceSub, Nat.reduceDiv, Nat.reduceMod, Nat.reduceLT, Nat.reduceBEq, Int.reduceToNat, hbn]
    · simp (config := { maxSteps := 1000000 }) (decide := true) (discharger := first | omega | (simp only [H.next_new, H.next_put] <;> omega) | decide) only [go_sem, readRow, loadIn, reduceIte, Nat.reduceAdd, Nat.reduceMul, Nat.reduceSub, Nat.reduceDiv, Nat.reduceMod, Nat.reduceLT, Nat.reduceBEq, Int.reduceToNat, hbn]
    · simp (config := { maxSteps := 1000000 }) (decide := true) (discharger := first | omega | (simp only [H.next_new, H.next_put] <;> omega) | decide) only [go_sem, readRow, loadIn, reduceIte, Nat.reduceAdd, Nat.reduceMul, Nat.reduceSub, Nat.reduceDiv, Nat.reduceMod, Nat.reduceLT, Nat.reduceBEq, Int.reduceToNat, hbn]
    · simp (config := { maxSteps := 1000000 }) (decide := true) (discharger := first | omega | (simp only [H.next_new, H.next_put] <;> omega) | decide) only [go_sem, readRow, loadIn, reduceIte, Nat.reduceAdd, Nat.reduceMul, Nat.reduceSub, Nat.reduceDiv, Nat.reduceMod, Nat.reduceLT, Nat.reduceBEq, Int.reduceToNat, hbn] <;> rfl
    · simp (config := { maxSteps := 1000000 }) (decide := true) (discharger := first | omega | (simp only [H.next_new, H.next_put] <;> omega) | decide) only [go_sem, readRow, loadIn, reduceIte, Nat.reduceAdd, Nat.reduceMul, Nat.reduceSub, Nat.reduceDiv, Nat.reduceMod, Nat.reduceLT, Nat.reduceBEq, Int.reduceToNat, hbn] <;> rfl
    · simp (config := { maxSteps := 1000000 }) (decide := true) (discharger := first | omega | (simp only [H.next_new, H.next_put] <;> omega) | decide) only [go_sem, readRow, loadIn, reduceIte, Nat.reduceAdd, Nat.reduceMul, Nat.reduceSub, Nat.reduceDiv, Nat.reduceMod, Nat.reduceLT, Nat.reduceBEq, Int.reduceToNat, hbn] <;> rfl
    rintro x ds' ts' h' ⟨rfl, rfl, y3, y4⟩
    have s0 : isSteps (h'.get 0) = true := by
      rw [y4 0 (by simp (config := { maxSteps := 1000000 }) (decide := true) (discharger := first | omega | (simp only [H.next_new, H.next_put] <;> omega) | decide) only [go_sem, readRow, loadIn, reduceIte, Nat.reduceAdd, Nat.reduceMul, Nat.reduceSub, Nat.reduceDiv, Nat.reduceMod, Nat.reduceLT, Nat.reduceBEq, Int.reduceToNat, hbn])]
      simp (config := { maxSteps := 1000000 }) (decide := true) (discharger := first | omega | (simp only [H.next_new, H.next_put] <;> omega) | decide) only [go_sem, readRow, loadIn, reduceIte, Nat.reduceAdd, Nat.reduceMul, Nat.reduceSub, Nat.reduceDiv, Nat.reduceMod, Nat.reduceLT, Nat.reduceBEq, Int.reduceToNat, hbn] <;> rfl
    have c5 : CallOk K Tryz.prog 8 [] h' (.w (.c (.bool true))) h' := xaw_ok Hh (by unfold xaw; rw [s0]; rfl)
    show Goes K Tryz.prog 85 none (q3 [1, 1, 1, 1]) _ _ _ _
    rw [q3_1111]
    refine Goes.seq ?_
    show Goes K Tryz.prog 85 none (q3 [1, 1, 1, 1, 0]) _ _ _ _
    rw [q3_11110]
    refine Goes.ops2 fits Hh (E1_sound E0_sound c5) (by
      simp (config := { maxSteps := 1000000 }) (decide := true) (discharger := first | omega | (simp only [H.next_new, H.next_put] <;> omega) | decide) only [go_sem, q3, Tryz.f3, readRow, loadIn, reduceIte, Nat.reduceAdd, Nat.reduceMul, Nat.reduceSub, Nat.reduceDiv, Nat.reduceMod, Nat.reduceLT, Nat.reduceBEq, Int.reduceToNat, E1_call, hbn, inoL16, opBox, opBuildSlice, fillEls, newSlice, List.replicate_succ, List.replicate_zero]
      rfl) ?_
    show Goes K Tryz.prog 85 none (q3 [1, 1, 1, 1, 1]) _ _ _ _
    rw [q3_11111]
    refine Goes.ret ?_
    exact ⟨_, _, (by simp (config := { maxSteps := 1000000 }) (decide := true) (discharger := first | omega | (simp only [H.next_new, H.next_put] <;> omega) | decide) only [go_sem, readRow, loadIn, reduceIte, Nat.reduceAdd, Nat.reduceMul, Nat.reduceSub, Nat.reduceDiv, Nat.reduceMod, Nat.reduceLT, Nat.reduceBEq, Int.reduceToNat] <;> rfl), rfl⟩
  exact ⟨h', c⟩
end
end Go.Proofs.YtncdhjlpmlmfhaaGreatDoor
