/- quernlaw22: small, over, fresh. -/
import Derived.Test.YtpiljmilaelfnaaGreatDoorRMay
import Derived.Test.YtpiljmilaelfnaaGreatDoorNew2
set_option linter.unusedSimpArgs false
set_option linter.unusedVariables false
set_option linter.unusedSectionVars false
set_option maxRecDepth 100000
namespace Go.Proofs.YtpiljmilaelfnaaGreatDoor
open Go.Ev
noncomputable def q4 (p : List Nat) : Code := piece p (bodyOf Tryz.f4)
theorem q4_ : q4 [] = .seq (q4 [0]) (q4 [1]) := by kernel_rfl
theorem q4_0 : q4 [0] = .region 0 (opsA (q4 [0])) false := by kernel_rfl
theorem q4_1 : q4 [1] = .seq (q4 [1,0]) (q4 [1,1]) := by kernel_rfl
theorem q4_10 : q4 [1,0] = .region 1 (opsA (q4 [1,0])) false := by kernel_rfl
theorem q4_11 : q4 [1,1] = .ret := by kernel_rfl
noncomputable def q5 (p : List Nat) : Code := piece p (bodyOf Tryz.f5)
theorem q5_ : q5 [] = .seq (q5 [0]) (q5 [1]) := by kernel_rfl
theorem q5_0 : q5 [0] = .region 0 (opsA (q5 [0])) false := by kernel_rfl
theorem q5_1 : q5 [1] = .seq (q5 [1,0]) (q5 [1,1]) := by kernel_rfl
theorem q5_10 : q5 [1,0] = .region 1 (opsA (q5 [1,0])) false := by kernel_rfl
theorem q5_11 : q5 [1,1] = .seq (q5 [1,1,0]) (q5 [1,1,1]) := by kernel_rfl
theorem q5_110 : q5 [1,1,0] = .region 2 (opsA (q5 [1,1,0])) false := by kernel_rfl
theorem q5_111 : q5 [1,1,1] = .ret := by kernel_rfl
noncomputable def q13 (p : List Nat) : Code := piece p (bodyOf Tryz.f13)
theorem q13_ : q13 [] = .seq (q13 [0]) (q13 [1]) := by kernel_rfl
theorem q13_0 : q13 [0] = .region 0 (opsA (q13 [0])) false := by kernel_rfl
theorem q13_1 : q13 [1] = .seq (q13 [1,0]) (q13 [1,1]) := by kernel_rfl
theorem q13_10 : q13 [1,0] = .region 1 (opsA (q13 [1,0])) false := by kernel_rfl
theorem q13_11 : q13 [1,1] = .seq (q13 [1,1,0]) (q13 [1,1,1]) := by kernel_rfl
theorem q13_110 : q13 [1,1,0] = .seq (q13 [1,1,0,0]) (q13 [1,1,0,1]) := by kernel_rfl
theorem q13_1100 : q13 [1,1,0,0] = .region 2 (opsA (q13 [1,1,0,0])) false := by kernel_rfl
theorem q13_1101 : q13 [1,1,0,1] = .cond (.tmp 18) (q13 [1,1,0,1,3]) (q13 [1,1,0,1,4]) := by kernel_rfl
theorem q13_11014 : q13 [1,1,0,1,4] = .skip := by kernel_rfl
theorem q13_111 : q13 [1,1,1] = .seq (q13 [1,1,1,0]) (q13 [1,1,1,1]) := by kernel_rfl
theorem q13_1110 : q13 [1,1,1,0] = .region 4 (opsA (q13 [1,1,1,0])) false := by kernel_rfl
theorem q13_1111 : q13 [1,1,1,1] = .seq (q13 [1,1,1,1,0]) (q13 [1,1,1,1,1]) := by kernel_rfl
theorem q13_11110 : q13 [1,1,1,1,0] = .region 5 (opsA (q13 [1,1,1,1,0])) false := by kernel_rfl
theorem q13_11111 : q13 [1,1,1,1,1] = .ret := by kernel_rfl
theorem rs4 : Tryz.f4.results.toList = [.tmp 2] := rfl
theorem rs13 : Tryz.f13.results.toList = [.tmp 4, .tmp 5, .tmp 6] := rfl
theorem rs5 : Tryz.f5.results.toList = [.tmp 4, .tmp 5] := rfl
attribute [go_sem] rs4 rs13 rs5
def smallI (a b c d : Int) : Bool := fineI a b c d && decide (a ≤ 4) && decide (b ≤ 60) && decide (d ≤ 70)
noncomputable def xSmall : Kn1 := fun args h => match args with
 | [.g [.int .i64 a, .int .i64 b, .int .i64 c, .int .i64 d]] => some (.w (.c (.bool (smallI a b c d))), h)
 | _ => none
noncomputable def overM (h : Go.Ev.H) (a b c e : Nat) (md : Int) : Go.Ev.H := newSt ((((h.new (.row 4 [geoL a b c e] false)).new (.row 256 (List.replicate (2 + e + a * b) zB) false)).new (.row 256 (List.replicate (2 + e + a * b) zB) false)).new (.row 6 [dkL ⟨h.next + 1, h.next + 1 + 1, 2 + e + a * b, .snil, 0, 0⟩] false)) (h.next + 1 + 1 + 1) a b c e md 1
noncomputable def xOver : Kn1 := fun args h => match args with
 | [.g [.int .i64 a, .int .i64 b, .int .i64 c, .int .i64 e], .c (.int .u8 md)] => (natI a).bind fun a => (natI b).bind fun b => (natI c).bind fun c => (natI e).bind fun e => askB (fineB a b c e && decide (1 ≤ md) && decide (md ≤ 3)) (some (.tup [.c (.ptr (h.next + 12) 0), .c (.ptr (h.next + 3) 0), .c (.bool true)], overM h a b c e md))
 | _ => none
noncomputable def xFresh : Kn1 := fun args h => match args with
 | [.g [.int .i64 a, .int .i64 b, .int .i64 c, .int .i64 e], .c (.int .u8 md)] => (natI a).bind fun a => (natI b).bind fun b => (natI c).bind fun c => (natI e).bind fun e => askB (fineB a b c e && decide (1 ≤ md) && decide (md ≤ 3)) (some (.tup [.c (.ptr (h.next + 13) 0), .c (.bool true)], overM (h.new (.row 4 [geoL a b c e] false)) a b c e md))
 | _ => none
attribute [go_sem] xSmall xOver xFresh
section
variable (Hh : Hearts K Tryz.prog)
include Hh
theorem xSmall_ok {args : List W} {h h' : Go.Ev.H} {v : V} (e : xSmall args h = some (v, h')) : CallOk K Tryz.prog 4 args h v h' := by
 unfold xSmall at e
 split at e
 ·rename_i a b c d
  cases e
  obtain ⟨v, h', cc, rfl, hk⟩ : ∃ v h', CallOk K Tryz.prog 4 [.g [.int .i64 a, .int .i64 b, .int .i64 c, .int .i64 d]] h v h' ∧ v = .w (.c (.bool (smallI a b c d))) ∧ ∀ m, m < h.next → h'.get m = h.get m := by
   unfold smallI
   rcases hf : fineI a b c d with _ | _
   ·
    refine CallOk.goesE fits Hh (by kernel_rfl) (by kernel_rfl) (by kernel_rfl) (show Tryz.f4.body = some (q4 []) by kernel_rfl) rfl ?_
    show Goes K Tryz.prog 20 none _ _ _ _ _
    refine Goes.seqQ q4_ ?_
    refine Goes.opsQ q4_0 fits Hh E0_sound (by
     simp (maxSteps := 999999) +decide (discharger := first | omega | (simp only [lens] <;> omega) | decide) only [go_sem, q4, Tryz.f4, readRow, loadIn, simprocAttr, hf, read1, opBox]
     rfl) ?_
    refine Goes.seqQ q4_1 ?_
    refine Goes.opsQ q4_10 fits Hh (EX_sound E0_sound (fun _ _ _ _ => xRMay_ok Hh)) (by
     simp only [q4, Tryz.f4, piece, part0, part1, part2, part2l, part3, part4, part5, part6, bodyOf, opsA]
     iterate 18 (refine evOps_step (by simp (maxSteps := 999999) +decide (discharger := first | omega | (simp only [lens] <;> omega) | decide) only [go_sem, readRow, loadIn, simprocAttr, hf, read1, opBox] <;> rfl) ?_)
     exact evOps_done) ?_
    refine Goes.retQ q4_11 ?_
    exact ⟨_, _, (by simp (maxSteps := 999999) +decide (discharger := first | omega | (simp only [lens] <;> omega) | decide) only [go_sem, readRow, loadIn, simprocAttr] <;> rfl), rfl, fun m hm => by (first | (simp (discharger := omega) only [H.get_put, H.get_new, H.get_del, H.next_new, H.next_put, H.next_del, if_neg]; done) | (simp only [H.get_put, H.get_new, H.get_del, H.next_new, H.next_put, H.next_del]; (repeat' split) <;> first | rfl | (exfalso; omega) | omega))⟩
   ·by_cases c1 : a ≤ 4
    ·by_cases c2 : b ≤ 60
     ·by_cases c3 : d ≤ 70
      ·
       refine CallOk.goesE fits Hh (by kernel_rfl) (by kernel_rfl) (by kernel_rfl) (show Tryz.f4.body = some (q4 []) by kernel_rfl) rfl ?_
       show Goes K Tryz.prog 20 none _ _ _ _ _
       refine Goes.seqQ q4_ ?_
       refine Goes.opsQ q4_0 fits Hh E0_sound (by
        simp (maxSteps := 999999) +decide (discharger := first | omega | (simp only [lens] <;> omega) | decide) only [go_sem, q4, Tryz.f4, readRow, loadIn, simprocAttr, hf, read1, opBox]
        rfl) ?_
       refine Goes.seqQ q4_1 ?_
       refine Goes.opsQ q4_10 fits Hh (EX_sound E0_sound (fun _ _ _ _ => xRMay_ok Hh)) (by
        simp only [q4, Tryz.f4, piece, part0, part1, part2, part2l, part3, part4, part5, part6, bodyOf, opsA]
        iterate 18 (refine evOps_step (by simp (maxSteps := 999999) +decide (discharger := first | omega | (simp only [lens] <;> omega) | decide) only [go_sem, readRow, loadIn, simprocAttr, hf, read1, opBox] <;> rfl) ?_)
        exact evOps_done) ?_
       refine Goes.retQ q4_11 ?_
       exact ⟨_, _, (by simp (maxSteps := 999999) +decide (discharger := first | omega | (simp only [lens] <;> omega) | decide) only [go_sem, readRow, loadIn, simprocAttr] <;> rfl), by rw [decide_eq_true c1, decide_eq_true c2, decide_eq_true c3] <;> rfl, fun m hm => by (first | (simp (discharger := omega) only [H.get_put, H.get_new, H.get_del, H.next_new, H.next_put, H.next_del, if_neg]; done) | (simp only [H.get_put, H.get_new, H.get_del, H.next_new, H.next_put, H.next_del]; (repeat' split) <;> first | rfl | (exfalso; omega) | omega))⟩
      ·
       refine CallOk.goesE fits Hh (by kernel_rfl) (by kernel_rfl) (by kernel_rfl) (show Tryz.f4.body = some (q4 []) by kernel_rfl) rfl ?_
       show Goes K Tryz.prog 20 none _ _ _ _ _
       refine Goes.seqQ q4_ ?_
       refine Goes.opsQ q4_0 fits Hh E0_sound (by
        simp (maxSteps := 999999) +decide (discharger := first | omega | (simp only [lens] <;> omega) | decide) only [go_sem, q4, Tryz.f4, readRow, loadIn, simprocAttr, hf, read1, opBox]
        rfl) ?_
       refine Goes.seqQ q4_1 ?_
       refine Goes.opsQ q4_10 fits Hh (EX_sound E0_sound (fun _ _ _ _ => xRMay_ok Hh)) (by
        simp only [q4, Tryz.f4, piece, part0, part1, part2, part2l, part3, part4, part5, part6, bodyOf, opsA]
        iterate 18 (refine evOps_step (by simp (maxSteps := 999999) +decide (discharger := first | omega | (simp only [lens] <;> omega) | decide) only [go_sem, readRow, loadIn, simprocAttr, hf, read1, opBox] <;> rfl) ?_)
        exact evOps_done) ?_
       refine Goes.retQ q4_11 ?_
       exact ⟨_, _, (by simp (maxSteps := 999999) +decide (discharger := first | omega | (simp only [lens] <;> omega) | decide) only [go_sem, readRow, loadIn, simprocAttr] <;> rfl), by rw [decide_eq_true c1, decide_eq_true c2, decide_eq_false c3] <;> rfl, fun m hm => by (first | (simp (discharger := omega) only [H.get_put, H.get_new, H.get_del, H.next_new, H.next_put, H.next_del, if_neg]; done) | (simp only [H.get_put, H.get_new, H.get_del, H.next_new, H.next_put, H.next_del]; (repeat' split) <;> first | rfl | (exfalso; omega) | omega))⟩
     ·
      refine CallOk.goesE fits Hh (by kernel_rfl) (by kernel_rfl) (by kernel_rfl) (show Tryz.f4.body = some (q4 []) by kernel_rfl) rfl ?_
      show Goes K Tryz.prog 20 none _ _ _ _ _
      refine Goes.seqQ q4_ ?_
      refine Goes.opsQ q4_0 fits Hh E0_sound (by
       simp (maxSteps := 999999) +decide (discharger := first | omega | (simp only [lens] <;> omega) | decide) only [go_sem, q4, Tryz.f4, readRow, loadIn, simprocAttr, hf, read1, opBox]
       rfl) ?_
      refine Goes.seqQ q4_1 ?_
      refine Goes.opsQ q4_10 fits Hh (EX_sound E0_sound (fun _ _ _ _ => xRMay_ok Hh)) (by
       simp only [q4, Tryz.f4, piece, part0, part1, part2, part2l, part3, part4, part5, part6, bodyOf, opsA]
       iterate 18 (refine evOps_step (by simp (maxSteps := 999999) +decide (discharger := first | omega | (simp only [lens] <;> omega) | decide) only [go_sem, readRow, loadIn, simprocAttr, hf, read1, opBox] <;> rfl) ?_)
       exact evOps_done) ?_
      refine Goes.retQ q4_11 ?_
      exact ⟨_, _, (by simp (maxSteps := 999999) +decide (discharger := first | omega | (simp only [lens] <;> omega) | decide) only [go_sem, readRow, loadIn, simprocAttr] <;> rfl), by rw [decide_eq_true c1, decide_eq_false c2] <;> rfl, fun m hm => by (first | (simp (discharger := omega) only [H.get_put, H.get_new, H.get_del, H.next_new, H.next_put, H.next_del, if_neg]; done) | (simp only [H.get_put, H.get_new, H.get_del, H.next_new, H.next_put, H.next_del]; (repeat' split) <;> first | rfl | (exfalso; omega) | omega))⟩
    ·
     refine CallOk.goesE fits Hh (by kernel_rfl) (by kernel_rfl) (by kernel_rfl) (show Tryz.f4.body = some (q4 []) by kernel_rfl) rfl ?_
     show Goes K Tryz.prog 20 none _ _ _ _ _
     refine Goes.seqQ q4_ ?_
     refine Goes.opsQ q4_0 fits Hh E0_sound (by
      simp (maxSteps := 999999) +decide (discharger := first | omega | (simp only [lens] <;> omega) | decide) only [go_sem, q4, Tryz.f4, readRow, loadIn, simprocAttr, hf, read1, opBox]
      rfl) ?_
     refine Goes.seqQ q4_1 ?_
     refine Goes.opsQ q4_10 fits Hh (EX_sound E0_sound (fun _ _ _ _ => xRMay_ok Hh)) (by
      simp only [q4, Tryz.f4, piece, part0, part1, part2, part2l, part3, part4, part5, part6, bodyOf, opsA]
      iterate 18 (refine evOps_step (by simp (maxSteps := 999999) +decide (discharger := first | omega | (simp only [lens] <;> omega) | decide) only [go_sem, readRow, loadIn, simprocAttr, hf, read1, opBox] <;> rfl) ?_)
      exact evOps_done) ?_
     refine Goes.retQ q4_11 ?_
     exact ⟨_, _, (by simp (maxSteps := 999999) +decide (discharger := first | omega | (simp only [lens] <;> omega) | decide) only [go_sem, readRow, loadIn, simprocAttr] <;> rfl), by rw [decide_eq_false c1] <;> rfl, fun m hm => by (first | (simp (discharger := omega) only [H.get_put, H.get_new, H.get_del, H.next_new, H.next_put, H.next_del, if_neg]; done) | (simp only [H.get_put, H.get_new, H.get_del, H.next_new, H.next_put, H.next_del]; (repeat' split) <;> first | rfl | (exfalso; omega) | omega))⟩
  exact cc.quiet rfl hk
 ·cases e
set_option maxHeartbeats 1000000 in
theorem xOver_ok {args : List W} {h h' : Go.Ev.H} {v : V} (e : xOver args h = some (v, h')) : CallOk K Tryz.prog 13 args h v h' := by
 unfold xOver at e
 split at e
 ·rename_i a0 b0 c0 e0 md
  obtain ⟨a, ha, e⟩ := bind_of e
  obtain ⟨b, hb, e⟩ := bind_of e
  obtain ⟨c, hc, e⟩ := bind_of e
  obtain ⟨j, hj, e⟩ := bind_of e
  obtain ⟨f, e⟩ := askB_some.1 e
  simp only [Bool.and_eq_true, decide_eq_true_eq] at f
  obtain ⟨⟨fb, m1⟩, m3⟩ := f
  have F := fineB_fine fb
  obtain ⟨g1, g2, g3, g4, g5, g6, g7, g8, g9, g10, g11⟩ := F
  cases e
  rw [natI_some ha, natI_some hb, natI_some hc, natI_some hj]
  obtain ⟨N, hN⟩ : ∃ N, 2 + j + a * b = N := ⟨_, rfl⟩
  have N1 : 1 ≤ N := by omega
  have N2 : N ≤ 2048 := by omega
  rw [show overM h a b c j md = newSt ((((h.new (.row 4 [geoL a b c j] false)).new (.row 256 (List.replicate N zB) false)).new (.row 256 (List.replicate N zB) false)).new (.row 6 [dkL ⟨h.next + 1, h.next + 1 + 1, N, .snil, 0, 0⟩] false)) (h.next + 1 + 1 + 1) a b c j md 1 by rw [← hN]; rfl]
  refine CallOk.goes fits Hh (by kernel_rfl) (by kernel_rfl) (by kernel_rfl) (show Tryz.f13.body = some (q13 []) by kernel_rfl) rfl ?_
  show Goes K Tryz.prog 34 none _ _ _ _ _
  refine Goes.seqQ q13_ ?_
  refine Goes.opsQ q13_0 fits Hh E0_sound (by
   simp (maxSteps := 999999) +decide (discharger := first | omega | (simp only [lens] <;> omega) | decide) only [go_sem, q13, Tryz.f13, readRow, loadIn, simprocAttr, fb, hN, opBox, read1]
   rfl) ?_
  refine Goes.seqQ q13_1 ?_
  refine Goes.opsQ q13_10 fits Hh (EX_sound (EX_sound E0_sound (fun _ _ _ _ => xRBlocks_ok Hh)) (fun _ _ _ _ => xDNew_ok Hh)) (by
   simp (maxSteps := 999999) +decide (discharger := first | omega | (simp only [lens] <;> omega) | decide) only [go_sem, q13, Tryz.f13, readRow, loadIn, simprocAttr, fb, hN, opBox, read1]
   rfl) ?_
  refine Goes.seqQ q13_11 ?_
  refine Goes.seqQ q13_110 ?_
  refine Goes.opsQ q13_1100 fits Hh E0_sound (by
   simp (maxSteps := 999999) +decide (discharger := first | omega | (simp only [lens] <;> omega) | decide) only [go_sem, q13, Tryz.f13, readRow, loadIn, simprocAttr, fb, hN, opBox, read1]
   rfl) ?_
  refine Goes.condFQ q13_1101 (by simp (maxSteps := 999999) +decide (discharger := first | omega | (simp only [lens] <;> omega) | decide) only [go_sem, readRow, loadIn, simprocAttr, fb, hN, opBox, read1] <;> rfl) (by first | rfl | assumption | exact decide_eq_false (by omega) | (simp; omega)) ?_
  refine Goes.skipQ q13_11014 ?_
  refine Goes.seqQ q13_111 ?_
  refine Goes.opsQ q13_1110 fits Hh (EX_sound E0_sound (fun _ _ _ _ => xSNew_ok Hh)) (by
   simp (maxSteps := 999999) +decide (discharger := first | omega | (simp only [lens] <;> omega) | decide) only [go_sem, q13, Tryz.f13, readRow, loadIn, simprocAttr, fb, hN, opBox, read1]
   rfl) ?_
  refine Goes.seqQ q13_1111 ?_
  refine Goes.opsQ q13_11110 fits Hh E0_sound (by
   simp (maxSteps := 999999) +decide (discharger := first | omega | (simp only [lens] <;> omega) | decide) only [go_sem, q13, Tryz.f13, readRow, loadIn, simprocAttr, fb, hN, opBox, read1]
   rfl) ?_
  refine Goes.retQ q13_11111 ?_
  simp (maxSteps := 999999) +decide (discharger := first | omega | (simp only [lens] <;> omega) | decide) only [go_sem, readRow, loadIn, simprocAttr, geoL] <;> rfl
 ·cases e
theorem xFresh_ok {args : List W} {h h' : Go.Ev.H} {v : V} (e : xFresh args h = some (v, h')) : CallOk K Tryz.prog 5 args h v h' := by
 unfold xFresh at e
 split at e
 ·rename_i a0 b0 c0 e0 md
  obtain ⟨a, ha, e⟩ := bind_of e
  obtain ⟨b, hb, e⟩ := bind_of e
  obtain ⟨c, hc, e⟩ := bind_of e
  obtain ⟨j, hj, e⟩ := bind_of e
  obtain ⟨f, e⟩ := askB_some.1 e
  simp only [Bool.and_eq_true, decide_eq_true_eq] at f
  obtain ⟨⟨fb, m1⟩, m3⟩ := f
  cases e
  rw [natI_some ha, natI_some hb, natI_some hc, natI_some hj]
  refine CallOk.goes fits Hh (by kernel_rfl) (by kernel_rfl) (by kernel_rfl) (show Tryz.f5.body = some (q5 []) by kernel_rfl) rfl ?_
  show Goes K Tryz.prog 18 none _ _ _ _ _
  refine Goes.seqQ q5_ ?_
  refine Goes.opsQ q5_0 fits Hh E0_sound (by
   simp (maxSteps := 999999) +decide (discharger := first | omega | (simp only [lens] <;> omega) | decide) only [go_sem, q5, Tryz.f5, readRow, loadIn, simprocAttr, fb, opBox, read1]
   rfl) ?_
  refine Goes.seqQ q5_1 ?_
  refine Goes.opsQ q5_10 fits Hh (EX_sound E0_sound (fun _ _ _ _ => xOver_ok Hh)) (by
   simp (maxSteps := 999999) +decide (discharger := first | omega | (simp only [lens] <;> omega) | decide) only [go_sem, q5, Tryz.f5, readRow, loadIn, simprocAttr, fb, opBox, read1]
   rfl) ?_
  refine Goes.seqQ q5_11 ?_
  refine Goes.opsQ q5_110 fits Hh E0_sound (by
   simp (maxSteps := 999999) +decide (discharger := first | omega | (simp only [lens] <;> omega) | decide) only [go_sem, q5, Tryz.f5, readRow, loadIn, simprocAttr, fb, opBox, read1]
   rfl) ?_
  refine Goes.retQ q5_111 ?_
  simp (maxSteps := 999999) +decide (discharger := first | omega | (simp only [lens] <;> omega) | decide) only [go_sem, readRow, loadIn, simprocAttr, geoL] <;> rfl
 ·cases e
end
end Go.Proofs.YtpiljmilaelfnaaGreatDoor
