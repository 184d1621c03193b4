/- geo.What, of a geometry that may be: the whole. -/
import Derived.Test.YtdnkofpkkebefaaGreatDoorWhat2
set_option linter.unusedSimpArgs false
set_option linter.unusedVariables false
set_option linter.unusedSectionVars false
set_option maxRecDepth 100000
namespace Go.Proofs.YtdnkofpkkebefaaGreatDoor
open Go.Ev
section
variable (Hh : Hearts K Tryz.prog)
include Hh
theorem gPartsOk (gr sz ino jr : Nat) (h : Go.Ev.H) : CallOk K Tryz.prog 265 [.g (geoL gr sz ino jr)] h (.w (.c (.fn 377 [] [some (h.next, 0)]))) (h.new (.row 4 [geoL gr sz ino jr] false)) := by
 refine fnG Hh Tryz.f265 ?_
 iterate 5 (first | apply Goes.seq | apply Goes.ret | (apply Goes.ops2 fits Hh E0_sound; · simp (maxSteps := 999999) +decide (discharger := first | omega | (simp only [lens] <;> omega) | decide) only [go_sem, readRow, loadIn, simprocAttr, opBox, geoL] <;> rfl))
 simp (maxSteps := 999999) +decide (discharger := first | omega | (simp only [lens] <;> omega) | decide) only [go_sem, readRow, loadIn, simprocAttr, opBox, geoL] <;> rfl
set_option maxHeartbeats 4000000 in
theorem partsOk {l pb p4 p5 p6 pg gr sz ino jr b d : Nat} {tl : Tmps} (F : Fine gr sz ino jr) (s6 : b < 9223372036854775808) {h : Go.Ev.H} (W : WCtx l pb p4 p5 p6 pg gr sz ino jr b d tl h) :
  ∃ v h', CallOk K Tryz.prog 377 [.c (.yield l), .c (.ptr pg 0)] h v h' ∧ ((2 + jr + gr * sz ≤ b ∧ h.next ≤ h'.next ∧ ∀ m, m < h.next → h'.get m = h.get m) ∨ WAns l p4 p5 p6 d tl (whatN gr sz ino jr b).1 (whatN gr sz ino jr b).2.1 (whatN gr sz ino jr b).2.2 h h') := by
 have F' := F
 obtain ⟨g1, g2, g3, g4, g5, g6, g7, g8, g9, g10, g11⟩ := F'
 have hg := W.hg
 have bg := W.bg
 have bl := W.bl
 have q1 : opQuo .i64 (ino : Int) 4 = some (.int .i64 ((ino / 4 : Nat) : Int)) := quo_nat (b := 4) (by omega) (by omega)
 refine fnGE Hh Tryz.f377 ?_
 iterate 8 (first | apply Goes.seq | apply Goes.block | (apply Goes.ops2 fits Hh E0_sound; · simp (maxSteps := 999999) +decide (discharger := first | omega | (simp only [lens] <;> omega) | decide) only [go_sem, loadIn, simprocAttr, hg, geoL, q1, buP3, wrP, rdP, read1] <;> rfl))
 refine (partsHead Hh F s6 3 0 _ _ (by omega) (Nat.zero_le _) (W.move ?_ ?_) ?_ ?_ ?_).mono ?_
 ·simp only [H.next_put, H.next_new] <;> omega
 ·intro m' hm
  rw [get_put_ne (by omega), get_new_ne (by omega)]
 ·simp (decide := true) only [evalT_set, reduceIte, evalT_args, List.getElem?_cons_zero]
 ·simp (decide := true) only [evalT_set, reduceIte] <;> rfl
 ·simp (decide := true) only [evalT_set, reduceIte] <;> rfl
 rintro x ds' ts' h' ⟨rfl, tsk, ⟨rfl, y1, y2, y3⟩ | ⟨rfl, q, y1, y2, y3, y4⟩⟩
 ·have f0 : evalT ts' 0 = .w (.c (.yield l)) := (tsk 0 (by decide)).trans (by simp (decide := true) only [evalT_set, reduceIte, evalT_args, List.getElem?_cons_zero])
  have f1 : evalT ts' 1 = .w (.c (.ptr pg 0)) := (tsk 1 (by decide)).trans (by simp (decide := true) only [evalT_set, reduceIte, evalT_args, List.getElem?_cons_succ, List.getElem?_cons_zero])
  have f3 : evalT ts' 3 = .w (.c (.int .i64 ((ino / 4 : Nat) : Int))) := (tsk 3 (by decide)).trans (by simp (decide := true) only [evalT_set, reduceIte])
  simp only [H.next_put, H.next_new] at y2 y3
  have y4 : ∀ m, m < h.next → h'.get m = h.get m := fun m' hm => by
   rw [y3 m' (by omega), get_put_ne (by omega), get_new_ne (by omega)]
  have W2 := W.move (by omega) y4
  have hg2 := W2.hg
  iterate 3 (first | apply Goes.seq | apply Goes.block | (apply Goes.ops2 fits Hh E0_sound; · simp (maxSteps := 999999) +decide (discharger := first | omega | (simp only [lens] <;> omega) | decide) only [go_sem, readRow, loadIn, simprocAttr, f0, f1, f3, hg2, geoL, read1] <;> rfl))
  refine (partsAll Hh F s6 gr 0 _ _ (by omega) (by omega) W2 ?_ ?_ ?_ ?_ ?_).mono ?_
  ·simp (decide := true) only [evalT_set, reduceIte, f0]
  ·simp (decide := true) only [evalT_set, reduceIte, f1]
  ·simp (decide := true) only [evalT_set, reduceIte, f3]
  ·simp (decide := true) only [evalT_set, reduceIte]
  ·simp (decide := true) only [evalT_set, reduceIte] <;> rfl
  rintro x ds' ts2 h2 ⟨rfl, ⟨rfl, z4, z5, z6⟩ | ⟨rfl, k0, q, z4, z5, z6, z7, z8⟩⟩
  ·
   exact ⟨_, _, autBar, .inl ⟨z4, by omega, fun m hm => (z6 m (by omega)).trans (y4 m hm)⟩⟩
  ·refine ⟨_, _, autBar, .inr ?_⟩
   rw [whatN_group F z4 z5 z6 z7]
   exact z8.back (by omega) y4
 ·refine ⟨_, _, autBar, .inr ?_⟩
  rw [whatN_head F y1 y2 y3]
  exact y4.back (by simp only [H.next_put, H.next_new] <;> omega) (fun m hm => by rw [get_put_ne (by omega), get_new_ne (by omega)])
theorem whatLoop {gr sz ino jr b pb p4 p5 p6 pg : Nat} (F : Fine gr sz ino jr) (s6 : b < 9223372036854775808) (ts : Tmps) (h : Go.Ev.H) (d1 : p4 ≠ p5) (d2 : p4 ≠ p6) (d3 : p5 ≠ p6) (d4 : pb ≠ p4) (d5 : pb ≠ p5) (d6 : pb ≠ p6) (b4 : p4 < h.next) (b5 : p5 < h.next) (b6 : p6 < h.next) (bb : pb < h.next) (bg : pg < h.next)
  (e3 : evalT ts 3 = .w (.c (.ptr pb 0))) (e4 : evalT ts 4 = .w (.c (.ptr p4 0))) (e5 : evalT ts 5 = .w (.c (.ptr p5 0))) (e6 : evalT ts 6 = .w (.c (.ptr p6 0))) (e16 : evalT ts 16 = .w (.c (.fn 377 [] [some (pg, 0)])))
  (hb : h.get pb = some (.row 1 [[.int .i64 b]] false)) (r4 : ∃ x, h.get p4 = some (.row 1 [[x]] false)) (r5 : ∃ x, h.get p5 = some (.row 1 [[x]] false)) (r6 : ∃ x, h.get p6 = some (.row 1 [[x]] false)) (hg : h.get pg = some (.row 4 [geoL gr sz ino jr] false)) :
  Goes K Tryz.prog 36 none (q155 [1,1,0,1,2]) [] ts h fun x ds' ts' h' => ts' = ts ∧ ds' = [h.next] ∧ h'.get h.next = some .defers ∧ ((x = .normal ∧ whatN gr sz ino jr b = (0, 0, 0) ∧ ∀ m, m < h.next → h'.get m = h.get m) ∨
   (x = .ret ∧ h'.get p4 = some (.row 1 [[.int .u8 (whatN gr sz ino jr b).1]] false) ∧ h'.get p5 = some (.row 1 [[.int .i64 (whatN gr sz ino jr b).2.1]] false) ∧ h'.get p6 = some (.row 1 [[.int .i64 (whatN gr sz ino jr b).2.2]] false) ∧ ∀ m, m < h.next → m ≠ p4 → m ≠ p5 → m ≠ p6 → h'.get m = h.get m)) := by
 have g0 : ∀ (o : O) m, m < h.next → ((h.new .defers).new o).get m = h.get m := fun o m hm => by rw [get_new_ne (by rw [H.next_new]; omega), get_new_ne (by omega)]
 have W : WCtx (h.next + 1) pb p4 p5 p6 pg gr sz ino jr b h.next ts ((h.new .defers).new (.loop ts 36 [17] (q155 [1,1,0,1,2,5]) (q155 [1,1,0,1,2,6]) .ready none h.next)) :=
  ⟨d1, d2, d3, d4, d5, d6, by omega, by omega, by omega, by omega, by simp only [H.next_new]; omega, by simp only [H.next_new]; omega, by simp only [H.next_new]; omega, by simp only [H.next_new]; omega, by simp only [H.next_new]; omega, by simp only [H.next_new]; omega, e3, e4, e5, e6,
   by rw [get_new_eq (by simp only [H.next_new] <;> omega)], by rw [g0 _ _ bb]; exact hb, by rw [g0 _ _ b4]; exact r4, by rw [g0 _ _ b5]; exact r5, by rw [g0 _ _ b6]; exact r6, by rw [g0 _ _ bg]; exact hg⟩
 have gd : ∀ o : O, ((h.new .defers).new o).get h.next = some .defers := fun o => by rw [get_new_ne (by rw [H.next_new]; omega), get_new_self]
 rw [q155_11012]
 refine Goes.rangeE fits Hh (f := 377) (first := []) (caps := [some (pg, 0)]) (by simp only [evalC, evalO_tmp, e16, asC]) (exE (partsOk Hh F s6 W) ?_)
 rintro v h3 (⟨w1, w2, w3⟩ | A)
 ·simp only [H.next_new] at w2 w3
  have hN : whatN gr sz ino jr b = (0, 0, 0) := by
   obtain ⟨g1, g2, g3, g4, g5, g6, g7, g8, g9, g10, g11⟩ := F
   unfold whatN
   rw [if_neg (by omega), if_neg (by omega), if_neg (by omega), if_pos w1]
  refine ⟨_, _, _, _, _, _, _, _, (w3 _ (by omega)).trans W.hl, by simp, ?_⟩
  show _ ∧ _ ∧ _
  refine ⟨rfl, rfl, ?_, .inl ⟨rfl, hN, fun m hm => ?_⟩⟩
  ·rw [get_put_ne (by omega), w3 _ (by omega), gd]
  ·rw [get_put_ne (by omega), w3 _ (by omega), g0 _ _ hm]
 ·have kp := A.keep
  simp only [H.next_new] at kp
  refine ⟨_, _, _, _, _, _, _, _, A.hl, by simp, ?_⟩
  show _ ∧ _ ∧ _
  refine ⟨rfl, rfl, ?_, .inr ⟨rfl, ?_, ?_, ?_, fun m hm n4 n5 n6 => ?_⟩⟩
  ·rw [get_put_ne (by omega), kp _ (by omega) (by omega) (by omega) (by omega) (by omega), gd]
  ·rw [get_put_ne (by omega), A.r4]
  ·rw [get_put_ne (by omega), A.r5]
  ·rw [get_put_ne (by omega), A.r6]
  ·rw [get_put_ne (by omega), kp _ (by omega) (by omega) n4 n5 n6, g0 _ _ hm]
set_option maxHeartbeats 4000000 in
theorem whatOk {gr sz ino jr : Nat} (F : Fine gr sz ino jr) (h : Go.Ev.H) (b : Nat) (s6 : b < 9223372036854775808) : CallOk K Tryz.prog 155 [.g (geoL gr sz ino jr), .c (.int .i64 b)] h (.tup [.c (.int .u8 ((whatN gr sz ino jr b).1 : Nat)), .c (.int .i64 ((whatN gr sz ino jr b).2.1 : Nat)), .c (.int .i64 ((whatN gr sz ino jr b).2.2 : Nat))]) h := by
 obtain ⟨v, h', c, rfl, hk⟩ : ∃ v h', CallOk K Tryz.prog 155 [.g (geoL gr sz ino jr), .c (.int .i64 b)] h v h' ∧ v = .tup [.c (.int .u8 ((whatN gr sz ino jr b).1 : Nat)), .c (.int .i64 ((whatN gr sz ino jr b).2.1 : Nat)), .c (.int .i64 ((whatN gr sz ino jr b).2.2 : Nat))] ∧ ∀ m, m < h.next → h'.get m = h.get m := by
  refine fnGE Hh Tryz.f155 ?_
  iterate 4 (first | apply Goes.seq | (apply Goes.ops2 fits Hh E0_sound; · simp (maxSteps := 999999) +decide (discharger := first | omega | (simp only [lens] <;> omega) | decide) only [go_sem, readRow, loadIn, simprocAttr, geoL, read1, opBox] <;> rfl))
  iterate 5 (first | apply Goes.seq | apply Goes.skip | ((first | apply Goes.condV | apply Goes.ops2 fits Hh (EA_sound E0_sound (gMayOk Hh F))); · simp (maxSteps := 999999) +decide (discharger := first | omega | (simp only [lens] <;> omega) | decide) only [go_sem, readRow, loadIn, simprocAttr, geoL, read1, opBox] <;> rfl))
  iterate 2 (first | apply Goes.block | (apply Goes.ops2 fits Hh (EA_sound E0_sound (gPartsOk Hh gr sz ino jr)); · simp (maxSteps := 999999) +decide (discharger := first | omega | (simp only [lens] <;> omega) | decide) only [go_sem, readRow, loadIn, simprocAttr, geoL, read1, opBox] <;> rfl))
  refine (whatLoop Hh F s6 _ _ (pb := h.next + 1) (p4 := h.next + 1 + 1) (p5 := h.next + 1 + 1 + 1) (p6 := h.next + 1 + 1 + 1 + 1) (pg := h.next + 1 + 1 + 1 + 1 + 1) (by omega) (by omega) (by omega) (by omega) (by omega) (by omega) (by simp only [H.next_new] <;> omega) (by simp only [H.next_new] <;> omega) (by simp only [H.next_new] <;> omega) (by simp only [H.next_new] <;> omega) (by simp only [H.next_new] <;> omega) (by simp (maxSteps := 999999) +decide (discharger := first | omega | (simp only [lens] <;> omega) | decide) only [go_sem, readRow, loadIn, simprocAttr]) (by simp (maxSteps := 999999) +decide (discharger := first | omega | (simp only [lens] <;> omega) | decide) only [go_sem, readRow, loadIn, simprocAttr]) (by simp (maxSteps := 999999) +decide (discharger := first | omega | (simp only [lens] <;> omega) | decide) only [go_sem, readRow, loadIn, simprocAttr]) (by simp (maxSteps := 999999) +decide (discharger := first | omega | (simp only [lens] <;> omega) | decide) only [go_sem, readRow, loadIn, simprocAttr]) (by simp (maxSteps := 999999) +decide (discharger := first | omega | (simp only [lens] <;> omega) | decide) only [go_sem, readRow, loadIn, simprocAttr]) (by simp (maxSteps := 999999) +decide (discharger := first | omega | (simp only [lens] <;> omega) | decide) only [go_sem, readRow, loadIn, simprocAttr]) ⟨_, by exact autBar⟩ ⟨_, by exact autBar⟩ ⟨_, by exact autBar⟩ autBar).mono ?_
  rintro x ds' ts' h' ⟨rfl, rfl, gd, ⟨rfl, hN, kp⟩ | ⟨rfl, r4, r5, r6, kp⟩⟩
  ·simp only [H.next_new] at gd kp
   have k4 := (kp (h.next + 1 + 1) (by omega)).trans (show _ = some (.row 1 [[.int .u8 0]] false) by simp (maxSteps := 999999) +decide (discharger := first | omega | (simp only [lens] <;> omega) | decide) only [go_sem, readRow, loadIn, simprocAttr])
   have k5 := (kp (h.next + 1 + 1 + 1) (by omega)).trans (show _ = some (.row 1 [[.int .i64 0]] false) by simp (maxSteps := 999999) +decide (discharger := first | omega | (simp only [lens] <;> omega) | decide) only [go_sem, readRow, loadIn, simprocAttr])
   have k6 := (kp (h.next + 1 + 1 + 1 + 1) (by omega)).trans (show _ = some (.row 1 [[.int .i64 0]] false) by simp (maxSteps := 999999) +decide (discharger := first | omega | (simp only [lens] <;> omega) | decide) only [go_sem, readRow, loadIn, simprocAttr])
   have Jf := andI4 @k4 @k5 @k6 @gd
   iterate 3 (first | apply Goes.seq | apply Goes.ret | refine runO Hh E0_sound autBdrJ ?_)
   refine ⟨_, _, autBbrJ, by rw [hN] <;> rfl, fun m hm => ?_⟩
   simp (maxSteps := 999999) +decide (discharger := first | omega | (simp only [lens] <;> omega) | decide) only [go_sem, readRow, loadIn, simprocAttr]
   rw [kp m (by omega)]
   simp (maxSteps := 999999) +decide (discharger := first | omega | (simp only [lens] <;> omega) | decide) only [go_sem, readRow, loadIn, simprocAttr]
  ·simp only [H.next_new] at gd kp
   refine ⟨_, _, (by simp (maxSteps := 999999) +decide (discharger := first | omega | (simp only [lens] <;> omega) | decide) only [go_sem, readRow, loadIn, simprocAttr, gd, r4, r5, r6, read1] <;> rfl), rfl, fun m hm => ?_⟩
   simp (maxSteps := 999999) +decide (discharger := first | omega | (simp only [lens] <;> omega) | decide) only [go_sem, readRow, loadIn, simprocAttr]
   rw [kp m (by omega) (by omega) (by omega) (by omega)]
   simp (maxSteps := 999999) +decide (discharger := first | omega | (simp only [lens] <;> omega) | decide) only [go_sem, readRow, loadIn, simprocAttr]
 exact CallOk.quiet c rfl hk
end
end Go.Proofs.YtdnkofpkkebefaaGreatDoor
