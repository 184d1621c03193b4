/- Begin of a store whose transaction has nothing. -/
import Derived.Test.YtpiljmilaelfnaaGreatDoorBeg2
set_option linter.unusedSimpArgs false
set_option linter.unusedVariables false
set_option linter.unusedSectionVars false
set_option maxRecDepth 100000
namespace Go.Proofs.YtpiljmilaelfnaaGreatDoor
open Go.Ev
section
variable (Hh : Hearts K Tryz.prog)
include Hh
set_option maxHeartbeats 4000000 in
theorem xSBegin_ok {args : List W} {h h' : Go.Ev.H} {v : V} (e : xSBegin args h = some (v, h')) : CallOk K Tryz.prog 6 args h v h' := by
 unfold xSBegin at e
 split at e
 ·rename_i s c r
  obtain ⟨S, hs, e⟩ := bind_of e
  have hs := getSt_some hs
  obtain ⟨X, ht, e⟩ := bind_of e
  have ht := getTx_some ht
  obtain ⟨G, hg, e⟩ := bind_of e
  obtain ⟨hg, fb⟩ := getGd_some hg
  obtain ⟨m, hr, e⟩ := bind_of e
  have hr := getRv_some hr
  obtain ⟨b, e⟩ := askB_some.1 e
  cases e
  simp only [Bool.and_eq_true, decide_eq_true_eq, Bool.not_eq_true'] at b
  obtain ⟨⟨⟨⟨⟨⟨⟨rfl, rfl⟩, bo⟩, sq⟩, b1⟩, b2⟩, b3⟩, b4⟩ := b
  have hm := voidM_true b1
  have hc := voidM_true b2
  have ho := voidM_true b3
  have hf := voidM_true b4
  have F := fineB_fine fb
  obtain ⟨g1, g2, g3, g4, g5, g6, g7, g8, g9, g10, g11⟩ := F
  refine CallOk.tidy ⟨Tryz.f6, Tryz.func6, by kernel_rfl, by decide⟩ fun tidy => ?_
  have l1 := tidy _ _ ht
  have l2 := tidy _ _ hr
  have l3 := tidy _ _ hm
  have l4 := tidy _ _ hc
  have l5 := tidy _ _ ho
  have l6 := tidy _ _ hf
  have l7 := tidy _ _ hs
  have l8 := tidy _ _ hg
  have n1 : S.tx ≠ s := fun e1 => by rw [e1, hs] at ht; cases ht
  have n2 : X.rv ≠ s := fun e1 => by rw [e1, hs] at hr; cases hr
  have n3 : m ≠ s := fun e1 => by rw [e1, hs] at hm; cases hm
  have n4 : X.ch ≠ s := fun e1 => by rw [e1, hs] at hc; cases hc
  have n5 : X.od ≠ s := fun e1 => by rw [e1, hs] at ho; cases ho
  have n6 : X.fr ≠ s := fun e1 => by rw [e1, hs] at hf; cases hf
  refine CallOk.goes fits Hh (by kernel_rfl) (by kernel_rfl) (by kernel_rfl) (show Tryz.f6.body = some (q6 []) by kernel_rfl) rfl ?_
  show Goes K Tryz.prog 98 none _ _ _ _ _
  refine Goes.seqQ q6_ ?_
  refine Goes.opsQ q6_0 fits Hh E0_sound (by
   simp (maxSteps := 999999) +decide (discharger := first | omega | (simp only [lens] <;> omega) | decide) only [go_sem, q6, Tryz.f6, readRow, loadIn, simprocAttr, hs, ht, bo, hg, gdL, fb, hr, hm, hc, ho, hf, read1]
   rfl) ?_
  refine Goes.seqQ q6_1 ?_
  refine Goes.seqQ q6_10 ?_
  refine Goes.opsQ q6_100 fits Hh (EX_sound E0_sound (fun _ _ _ _ => xSMade_ok Hh)) (by
   simp (maxSteps := 999999) +decide (discharger := first | omega | (simp only [lens] <;> omega) | decide) only [go_sem, q6, Tryz.f6, readRow, loadIn, simprocAttr, hs, ht, bo, hg, gdL, fb, hr, hm, hc, ho, hf, read1]
   rfl) ?_
  refine Goes.condFQ q6_101 (by simp (maxSteps := 999999) +decide (discharger := first | omega | (simp only [lens] <;> omega) | decide) only [go_sem, readRow, loadIn, simprocAttr, hs, ht, bo, hg, gdL, fb, hr, hm, hc, ho, hf, read1] <;> rfl) (by first | rfl | assumption | exact decide_eq_false (by omega) | (simp; omega)) ?_
  refine Goes.skipQ q6_1014 ?_
  refine Goes.seqQ q6_11 ?_
  refine Goes.seqQ q6_110 ?_
  refine Goes.opsQ q6_1100 fits Hh (EX_sound E0_sound (fun _ _ _ _ => xTSeq_ok Hh)) (by
   simp (maxSteps := 999999) +decide (discharger := first | omega | (simp only [lens] <;> omega) | decide) only [go_sem, q6, Tryz.f6, readRow, loadIn, simprocAttr, hs, ht, bo, hg, gdL, fb, hr, hm, hc, ho, hf, read1]
   rfl) ?_
  refine Goes.condFQ q6_1101 (by simp (maxSteps := 999999) +decide (discharger := first | omega | (simp only [lens] <;> omega) | decide) only [go_sem, readRow, loadIn, simprocAttr, hs, ht, bo, hg, gdL, fb, hr, hm, hc, ho, hf, read1] <;> rfl) (by first | rfl | assumption | exact decide_eq_false (by omega) | (simp; omega)) ?_
  refine Goes.skipQ q6_11014 ?_
  refine Goes.seqQ q6_111 ?_
  refine Goes.seqQ q6_1110 ?_
  refine Goes.opsQ q6_11100 fits Hh (EX_sound E0_sound (fun _ _ _ _ => xTOpen_ok Hh)) (by
   simp (maxSteps := 999999) +decide (discharger := first | omega | (simp only [lens] <;> omega) | decide) only [go_sem, q6, Tryz.f6, readRow, loadIn, simprocAttr, hs, ht, bo, hg, gdL, fb, hr, hm, hc, ho, hf, read1]
   rfl) ?_
  refine Goes.condFQ q6_11101 (by simp (maxSteps := 999999) +decide (discharger := first | omega | (simp only [lens] <;> omega) | decide) only [go_sem, readRow, loadIn, simprocAttr, hs, ht, bo, hg, gdL, fb, hr, hm, hc, ho, hf, read1] <;> rfl) (by first | rfl | assumption | exact decide_eq_false (by omega) | (simp; omega)) ?_
  refine Goes.skipQ q6_111014 ?_
  refine Goes.seqQ q6_1111 ?_
  refine Goes.seqQ q6_11110 ?_
  refine Goes.opsQ q6_111100 fits Hh E0_sound (by
   simp (maxSteps := 999999) +decide (discharger := first | omega | (simp only [lens] <;> omega) | decide) only [go_sem, q6, Tryz.f6, readRow, loadIn, simprocAttr, hs, ht, bo, hg, gdL, fb, hr, hm, hc, ho, hf, read1]
   rfl) ?_
  refine Goes.condFQ q6_111101 (by simp (maxSteps := 999999) +decide (discharger := first | omega | (simp only [lens] <;> omega) | decide) only [go_sem, readRow, loadIn, simprocAttr, hs, ht, bo, hg, gdL, fb, hr, hm, hc, ho, hf, read1] <;> rfl) (by first | rfl | assumption | exact decide_eq_false (by omega) | (simp; omega)) ?_
  refine Goes.skipQ q6_1111014 ?_
  refine Goes.seqQ q6_11111 ?_
  refine Goes.opsQ q6_111110 fits Hh E0_sound (by
   simp (maxSteps := 999999) +decide (discharger := first | omega | (simp only [lens] <;> omega) | decide) only [go_sem, q6, Tryz.f6, readRow, loadIn, simprocAttr, hs, ht, bo, hg, gdL, fb, hr, hm, hc, ho, hf, read1]
   rfl) ?_
  refine Goes.seqQ q6_111111 ?_
  refine Goes.seqQ q6_1111110 ?_
  refine Goes.opsQ q6_11111100 fits Hh E0_sound (by
   simp only [q6, Tryz.f6, piece, part0, part1, part2, part2l, part3, part4, part5, part6, bodyOf, opsA]
   iterate 13 (refine evOps_step (by simp (maxSteps := 999999) +decide (discharger := first | omega | (simp only [lens] <;> omega) | decide) only [go_sem, readRow, loadIn, simprocAttr, hs, ht, bo, hg, gdL, fb, hr, hm, hc, ho, hf, read1] <;> rfl) ?_)
   exact evOps_done) ?_
  refine Goes.condFQ q6_11111101 (by simp (maxSteps := 999999) +decide (discharger := first | omega | (simp only [lens] <;> omega) | decide) only [go_sem, readRow, loadIn, simprocAttr, hs, ht, bo, hg, gdL, fb, hr, hm, hc, ho, hf, read1] <;> rfl) (by first | rfl | assumption | exact decide_eq_false (by omega) | (simp; omega)) ?_
  refine Goes.skipQ q6_111111014 ?_
  refine Goes.seqQ q6_1111111 ?_
  refine Goes.seqQ q6_11111110 ?_
  refine Goes.opsQ q6_111111100 fits Hh (EX_sound E0_sound (fun _ _ _ _ => xSize_ok Hh)) (by
   simp (maxSteps := 999999) +decide (discharger := first | omega | (simp only [lens] <;> omega) | decide) only [go_sem, q6, Tryz.f6, readRow, loadIn, simprocAttr, hs, ht, bo, hg, gdL, fb, hr, hm, hc, ho, hf, read1]
   rfl) ?_
  refine Goes.condFQ q6_111111101 (by simp (maxSteps := 999999) +decide (discharger := first | omega | (simp only [lens] <;> omega) | decide) only [go_sem, readRow, loadIn, simprocAttr, hs, ht, bo, hg, gdL, fb, hr, hm, hc, ho, hf, read1] <;> rfl) (by first | rfl | assumption | exact decide_eq_false (by omega) | (simp; omega)) ?_
  refine Goes.skipQ q6_1111111014 ?_
  refine Goes.seqQ q6_11111111 ?_
  refine Goes.seqQ q6_111111110 ?_
  refine Goes.opsQ q6_1111111100 fits Hh (EX_sound E0_sound (fun _ _ _ _ => xNeed_ok Hh)) (by
   simp (maxSteps := 999999) +decide (discharger := first | omega | (simp only [lens] <;> omega) | decide) only [go_sem, q6, Tryz.f6, readRow, loadIn, simprocAttr, hs, ht, bo, hg, gdL, fb, hr, hm, hc, ho, hf, read1]
   rfl) ?_
  refine Goes.seqQ q6_1111111101 ?_
  refine Goes.opsQ q6_11111111010 fits Hh E0_sound (by
   simp (maxSteps := 999999) +decide (discharger := first | omega | (simp only [lens] <;> omega) | decide) only [go_sem, q6, Tryz.f6, readRow, loadIn, simprocAttr, hs, ht, bo, hg, gdL, fb, hr, hm, hc, ho, hf, read1]
   rfl) ?_
  refine Goes.condFQ q6_11111111011 (by simp (maxSteps := 999999) +decide (discharger := first | omega | (simp only [lens] <;> omega) | decide) only [go_sem, readRow, loadIn, simprocAttr, hs, ht, bo, hg, gdL, fb, hr, hm, hc, ho, hf, read1] <;> rfl) (by first | rfl | assumption | exact decide_eq_false (by omega) | (simp; omega)) ?_
  refine Goes.skipQ q6_111111110114 ?_
  refine Goes.seqQ q6_111111111 ?_
  refine Goes.opsQ q6_1111111110 fits Hh (EX_sound E0_sound (fun _ _ _ _ => xSClean_ok Hh)) (by
   simp (maxSteps := 999999) +decide (discharger := first | omega | (simp only [lens] <;> omega) | decide) only [go_sem, q6, Tryz.f6, readRow, loadIn, simprocAttr, hs, ht, bo, hg, gdL, fb, hr, hm, hc, ho, hf, read1]
   rfl) ?_
  refine Goes.seqQ q6_1111111111 ?_
  refine Goes.opsQ q6_11111111110 fits Hh (EX_sound E0_sound (fun _ _ _ _ => xTBegin_ok Hh)) (by
   simp (maxSteps := 999999) +decide (discharger := first | omega | (simp only [lens] <;> omega) | decide) only [go_sem, q6, Tryz.f6, readRow, loadIn, simprocAttr, hs, ht, bo, hg, gdL, fb, hr, hm, hc, ho, hf, read1]
   rfl) ?_
  refine Goes.retQ q6_11111111111 ?_
  simp (maxSteps := 999999) +decide (discharger := first | omega | (simp only [lens] <;> omega) | decide) only [go_sem, readRow, loadIn, simprocAttr, cleanM] <;> rfl
 ·cases e
end
end Go.Proofs.YtpiljmilaelfnaaGreatDoor
