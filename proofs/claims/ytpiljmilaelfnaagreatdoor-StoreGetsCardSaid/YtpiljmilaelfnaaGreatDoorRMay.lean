/- quernref05.May of a geometry that may not be; Blocks of one that may. -/
import Derived.Test.YtpiljmilaelfnaaGreatDoorRGeoA
import Derived.Test.YtpiljmilaelfnaaGreatDoorSto
set_option linter.unusedSimpArgs false
set_option linter.unusedVariables false
set_option linter.unusedSectionVars false
set_option maxRecDepth 100000
namespace Go.Proofs.YtpiljmilaelfnaaGreatDoor
open Go.Ev
theorem ty117 : K.types.get 117 = some ti117 := by kernel_rfl
theorem sz117 : ti117.size = 1 := by rfl
theorem ag117 : ti117.agg = false := by rfl
theorem de117 : ti117.desc = (.slice 157) := by rfl
theorem ze117 : ti117.zero = (.c (.snil)) := by rfl
theorem by117 : ti117.bytes = 24 := by rfl
theorem el117 : elemTI K 117 = some ti157 := by kernel_rfl
theorem ty157 : K.types.get 157 = some ti157 := by kernel_rfl
theorem sz157 : ti157.size = 4 := by rfl
theorem ag157 : ti157.agg = true := by rfl
theorem fo157_0 : fieldOf K 157 0 = some (0, ti5) := by kernel_rfl
theorem fo157_1 : fieldOf K 157 1 = some (1, ti3) := by kernel_rfl
theorem fo157_2 : fieldOf K 157 2 = some (2, ti3) := by kernel_rfl
theorem fo157_3 : fieldOf K 157 3 = some (3, ti3) := by kernel_rfl
theorem bu157 (ps : List (Nat × W)) : opBuild K 157 (some ps) = gW (fillStruct K 157 ps ti157.zero.cells) := by kernel_rfl
theorem ze157 : ti157.zero = (.g ([.int .u8 0, .int .i64 0, .int .i64 0, .int .i64 0])) := by rfl
theorem by157 : ti157.bytes = 32 := by rfl
attribute [go_sem] ty117 sz117 ag117 de117 ze117 by117 el117 ty157 sz157 ag157 fo157_0 fo157_1 fo157_2 fo157_3 bu157 ze157 by157
noncomputable def q37 (p : List Nat) : Code := piece p (bodyOf Tryz.f37)
theorem q37_ : q37 [] = .seq (q37 [0]) (q37 [1]) := by kernel_rfl
theorem q37_0 : q37 [0] = .region 0 (opsA (q37 [0])) false := by kernel_rfl
theorem q37_1 : q37 [1] = .seq (q37 [1,0]) (q37 [1,1]) := by kernel_rfl
theorem q37_10 : q37 [1,0] = .region 1 (opsA (q37 [1,0])) false := by kernel_rfl
theorem q37_11 : q37 [1,1] = .ret := by kernel_rfl
theorem rs37 : Tryz.f37.results.toList = [.tmp 2] := rfl
attribute [go_sem] rs37
def fineI (a b c d : Int) : Bool := decide (0 ≤ a) && decide (0 ≤ b) && decide (0 ≤ c) && decide (0 ≤ d) && fineB a.toNat b.toNat c.toNat d.toNat
theorem fineI_nat (a b c d : Nat) : fineI a b c d = fineB a b c d := by
 unfold fineI
 rw [decide_eq_true (by omega : (0 : Int) ≤ (a : Int)), decide_eq_true (by omega : (0 : Int) ≤ (b : Int)), decide_eq_true (by omega : (0 : Int) ≤ (c : Int)), decide_eq_true (by omega : (0 : Int) ≤ (d : Int))]
 simp only [Bool.true_and, Int.toNat_natCast]
section
variable (Hh : Hearts K Tryz.prog)
include Hh
set_option maxHeartbeats 4000000 in
theorem mayNot (a b c d : Int) (h : Go.Ev.H) (nf : ¬(0 ≤ a ∧ 0 ≤ b ∧ 0 ≤ c ∧ 0 ≤ d ∧ Fine a.toNat b.toNat c.toNat d.toNat)) : CallOk K Tryz.prog 12 [.g [.int .i64 a, .int .i64 b, .int .i64 c, .int .i64 d]] h (.w (.c (.bool false))) h := by
 obtain ⟨v, h', cc, rfl, hk⟩ : ∃ v h', CallOk K Tryz.prog 12 [.g [.int .i64 a, .int .i64 b, .int .i64 c, .int .i64 d]] h v h' ∧ v = .w (.c (.bool false)) ∧ ∀ m, m < h.next → h'.get m = h.get m := by
  by_cases c0 : a < 1
  ·
   refine CallOk.goesE fits Hh (by kernel_rfl) (by kernel_rfl) (by kernel_rfl) (show Tryz.f12.body = some (q12 []) by kernel_rfl) rfl ?_
   show Goes K Tryz.prog 66 none _ _ _ _ _
   refine Goes.seqQ q12_ ?_
   refine Goes.opsQ q12_0 fits Hh E0_sound (by
    simp (maxSteps := 999999) +decide (discharger := first | omega | (simp only [lens] <;> omega) | decide) only [go_sem, q12, Tryz.f12, readRow, loadIn, simprocAttr, read1, opBox]
    rfl) ?_
   refine Goes.seqQ q12_1 ?_
   refine Goes.seqQ q12_10 ?_
   refine Goes.opsQ q12_100 fits Hh E0_sound (by
    simp only [q12, Tryz.f12, piece, part0, part1, part2, part2l, part3, part4, part5, part6, bodyOf, opsA]
    iterate 44 (refine evOps_step (by simp (maxSteps := 999999) +decide (discharger := first | omega | (simp only [lens] <;> omega) | decide) only [go_sem, readRow, loadIn, simprocAttr, read1, opBox] <;> rfl) ?_)
    exact evOps_done) ?_
   refine Goes.condTQ q12_101 (by simp (maxSteps := 999999) +decide (discharger := first | omega | (simp only [lens] <;> omega) | decide) only [go_sem, readRow, loadIn, simprocAttr, read1, opBox] <;> rfl) (by first | rfl | assumption | exact decide_eq_true (by omega) | (simp; omega)) ?_
   refine Goes.seqQ q12_1013 ?_
   refine Goes.opsQ q12_10130 fits Hh E0_sound (by
    simp (maxSteps := 999999) +decide (discharger := first | omega | (simp only [lens] <;> omega) | decide) only [go_sem, q12, Tryz.f12, readRow, loadIn, simprocAttr, read1, opBox]
    rfl) ?_
   refine Goes.retQ q12_10131 ?_
   exact ⟨_, _, (by simp (maxSteps := 999999) +decide (discharger := first | omega | (simp only [lens] <;> omega) | decide) only [go_sem, readRow, loadIn, simprocAttr] <;> rfl), rfl, fun m hm => by (first | (simp (discharger := omega) only [H.get_put, H.get_new, H.get_del, H.next_new, H.next_put, H.next_del, if_neg]; done) | (simp only [H.get_put, H.get_new, H.get_del, H.next_new, H.next_put, H.next_del]; (repeat' split) <;> first | rfl | (exfalso; omega) | omega))⟩
  by_cases c1 : 4 < a
  ·
   refine CallOk.goesE fits Hh (by kernel_rfl) (by kernel_rfl) (by kernel_rfl) (show Tryz.f12.body = some (q12 []) by kernel_rfl) rfl ?_
   show Goes K Tryz.prog 66 none _ _ _ _ _
   refine Goes.seqQ q12_ ?_
   refine Goes.opsQ q12_0 fits Hh E0_sound (by
    simp (maxSteps := 999999) +decide (discharger := first | omega | (simp only [lens] <;> omega) | decide) only [go_sem, q12, Tryz.f12, readRow, loadIn, simprocAttr, read1, opBox]
    rfl) ?_
   refine Goes.seqQ q12_1 ?_
   refine Goes.seqQ q12_10 ?_
   refine Goes.opsQ q12_100 fits Hh E0_sound (by
    simp only [q12, Tryz.f12, piece, part0, part1, part2, part2l, part3, part4, part5, part6, bodyOf, opsA]
    iterate 44 (refine evOps_step (by simp (maxSteps := 999999) +decide (discharger := first | omega | (simp only [lens] <;> omega) | decide) only [go_sem, readRow, loadIn, simprocAttr, read1, opBox] <;> rfl) ?_)
    exact evOps_done) ?_
   refine Goes.condTQ q12_101 (by simp (maxSteps := 999999) +decide (discharger := first | omega | (simp only [lens] <;> omega) | decide) only [go_sem, readRow, loadIn, simprocAttr, read1, opBox] <;> rfl) (by first | rfl | assumption | exact decide_eq_true (by omega) | (simp; omega)) ?_
   refine Goes.seqQ q12_1013 ?_
   refine Goes.opsQ q12_10130 fits Hh E0_sound (by
    simp (maxSteps := 999999) +decide (discharger := first | omega | (simp only [lens] <;> omega) | decide) only [go_sem, q12, Tryz.f12, readRow, loadIn, simprocAttr, read1, opBox]
    rfl) ?_
   refine Goes.retQ q12_10131 ?_
   exact ⟨_, _, (by simp (maxSteps := 999999) +decide (discharger := first | omega | (simp only [lens] <;> omega) | decide) only [go_sem, readRow, loadIn, simprocAttr] <;> rfl), rfl, fun m hm => by (first | (simp (discharger := omega) only [H.get_put, H.get_new, H.get_del, H.next_new, H.next_put, H.next_del, if_neg]; done) | (simp only [H.get_put, H.get_new, H.get_del, H.next_new, H.next_put, H.next_del]; (repeat' split) <;> first | rfl | (exfalso; omega) | omega))⟩
  by_cases c2 : b < 16
  ·
   refine CallOk.goesE fits Hh (by kernel_rfl) (by kernel_rfl) (by kernel_rfl) (show Tryz.f12.body = some (q12 []) by kernel_rfl) rfl ?_
   show Goes K Tryz.prog 66 none _ _ _ _ _
   refine Goes.seqQ q12_ ?_
   refine Goes.opsQ q12_0 fits Hh E0_sound (by
    simp (maxSteps := 999999) +decide (discharger := first | omega | (simp only [lens] <;> omega) | decide) only [go_sem, q12, Tryz.f12, readRow, loadIn, simprocAttr, read1, opBox]
    rfl) ?_
   refine Goes.seqQ q12_1 ?_
   refine Goes.seqQ q12_10 ?_
   refine Goes.opsQ q12_100 fits Hh E0_sound (by
    simp only [q12, Tryz.f12, piece, part0, part1, part2, part2l, part3, part4, part5, part6, bodyOf, opsA]
    iterate 44 (refine evOps_step (by simp (maxSteps := 999999) +decide (discharger := first | omega | (simp only [lens] <;> omega) | decide) only [go_sem, readRow, loadIn, simprocAttr, read1, opBox] <;> rfl) ?_)
    exact evOps_done) ?_
   refine Goes.condTQ q12_101 (by simp (maxSteps := 999999) +decide (discharger := first | omega | (simp only [lens] <;> omega) | decide) only [go_sem, readRow, loadIn, simprocAttr, read1, opBox] <;> rfl) (by first | rfl | assumption | exact decide_eq_true (by omega) | (simp; omega)) ?_
   refine Goes.seqQ q12_1013 ?_
   refine Goes.opsQ q12_10130 fits Hh E0_sound (by
    simp (maxSteps := 999999) +decide (discharger := first | omega | (simp only [lens] <;> omega) | decide) only [go_sem, q12, Tryz.f12, readRow, loadIn, simprocAttr, read1, opBox]
    rfl) ?_
   refine Goes.retQ q12_10131 ?_
   exact ⟨_, _, (by simp (maxSteps := 999999) +decide (discharger := first | omega | (simp only [lens] <;> omega) | decide) only [go_sem, readRow, loadIn, simprocAttr] <;> rfl), rfl, fun m hm => by (first | (simp (discharger := omega) only [H.get_put, H.get_new, H.get_del, H.next_new, H.next_put, H.next_del, if_neg]; done) | (simp only [H.get_put, H.get_new, H.get_del, H.next_new, H.next_put, H.next_del]; (repeat' split) <;> first | rfl | (exfalso; omega) | omega))⟩
  by_cases c3 : 512 < b
  ·
   refine CallOk.goesE fits Hh (by kernel_rfl) (by kernel_rfl) (by kernel_rfl) (show Tryz.f12.body = some (q12 []) by kernel_rfl) rfl ?_
   show Goes K Tryz.prog 66 none _ _ _ _ _
   refine Goes.seqQ q12_ ?_
   refine Goes.opsQ q12_0 fits Hh E0_sound (by
    simp (maxSteps := 999999) +decide (discharger := first | omega | (simp only [lens] <;> omega) | decide) only [go_sem, q12, Tryz.f12, readRow, loadIn, simprocAttr, read1, opBox]
    rfl) ?_
   refine Goes.seqQ q12_1 ?_
   refine Goes.seqQ q12_10 ?_
   refine Goes.opsQ q12_100 fits Hh E0_sound (by
    simp only [q12, Tryz.f12, piece, part0, part1, part2, part2l, part3, part4, part5, part6, bodyOf, opsA]
    iterate 44 (refine evOps_step (by simp (maxSteps := 999999) +decide (discharger := first | omega | (simp only [lens] <;> omega) | decide) only [go_sem, readRow, loadIn, simprocAttr, read1, opBox] <;> rfl) ?_)
    exact evOps_done) ?_
   refine Goes.condTQ q12_101 (by simp (maxSteps := 999999) +decide (discharger := first | omega | (simp only [lens] <;> omega) | decide) only [go_sem, readRow, loadIn, simprocAttr, read1, opBox] <;> rfl) (by first | rfl | assumption | exact decide_eq_true (by omega) | (simp; omega)) ?_
   refine Goes.seqQ q12_1013 ?_
   refine Goes.opsQ q12_10130 fits Hh E0_sound (by
    simp (maxSteps := 999999) +decide (discharger := first | omega | (simp only [lens] <;> omega) | decide) only [go_sem, q12, Tryz.f12, readRow, loadIn, simprocAttr, read1, opBox]
    rfl) ?_
   refine Goes.retQ q12_10131 ?_
   exact ⟨_, _, (by simp (maxSteps := 999999) +decide (discharger := first | omega | (simp only [lens] <;> omega) | decide) only [go_sem, readRow, loadIn, simprocAttr] <;> rfl), rfl, fun m hm => by (first | (simp (discharger := omega) only [H.get_put, H.get_new, H.get_del, H.next_new, H.next_put, H.next_del, if_neg]; done) | (simp only [H.get_put, H.get_new, H.get_del, H.next_new, H.next_put, H.next_del]; (repeat' split) <;> first | rfl | (exfalso; omega) | omega))⟩
  by_cases c4 : c < 4
  ·
   refine CallOk.goesE fits Hh (by kernel_rfl) (by kernel_rfl) (by kernel_rfl) (show Tryz.f12.body = some (q12 []) by kernel_rfl) rfl ?_
   show Goes K Tryz.prog 66 none _ _ _ _ _
   refine Goes.seqQ q12_ ?_
   refine Goes.opsQ q12_0 fits Hh E0_sound (by
    simp (maxSteps := 999999) +decide (discharger := first | omega | (simp only [lens] <;> omega) | decide) only [go_sem, q12, Tryz.f12, readRow, loadIn, simprocAttr, read1, opBox]
    rfl) ?_
   refine Goes.seqQ q12_1 ?_
   refine Goes.seqQ q12_10 ?_
   refine Goes.opsQ q12_100 fits Hh E0_sound (by
    simp only [q12, Tryz.f12, piece, part0, part1, part2, part2l, part3, part4, part5, part6, bodyOf, opsA]
    iterate 44 (refine evOps_step (by simp (maxSteps := 999999) +decide (discharger := first | omega | (simp only [lens] <;> omega) | decide) only [go_sem, readRow, loadIn, simprocAttr, read1, opBox] <;> rfl) ?_)
    exact evOps_done) ?_
   refine Goes.condTQ q12_101 (by simp (maxSteps := 999999) +decide (discharger := first | omega | (simp only [lens] <;> omega) | decide) only [go_sem, readRow, loadIn, simprocAttr, read1, opBox] <;> rfl) (by first | rfl | assumption | exact decide_eq_true (by omega) | (simp; omega)) ?_
   refine Goes.seqQ q12_1013 ?_
   refine Goes.opsQ q12_10130 fits Hh E0_sound (by
    simp (maxSteps := 999999) +decide (discharger := first | omega | (simp only [lens] <;> omega) | decide) only [go_sem, q12, Tryz.f12, readRow, loadIn, simprocAttr, read1, opBox]
    rfl) ?_
   refine Goes.retQ q12_10131 ?_
   exact ⟨_, _, (by simp (maxSteps := 999999) +decide (discharger := first | omega | (simp only [lens] <;> omega) | decide) only [go_sem, readRow, loadIn, simprocAttr] <;> rfl), rfl, fun m hm => by (first | (simp (discharger := omega) only [H.get_put, H.get_new, H.get_del, H.next_new, H.next_put, H.next_del, if_neg]; done) | (simp only [H.get_put, H.get_new, H.get_del, H.next_new, H.next_put, H.next_del]; (repeat' split) <;> first | rfl | (exfalso; omega) | omega))⟩
  by_cases c5 : 64 < c
  ·
   refine CallOk.goesE fits Hh (by kernel_rfl) (by kernel_rfl) (by kernel_rfl) (show Tryz.f12.body = some (q12 []) by kernel_rfl) rfl ?_
   show Goes K Tryz.prog 66 none _ _ _ _ _
   refine Goes.seqQ q12_ ?_
   refine Goes.opsQ q12_0 fits Hh E0_sound (by
    simp (maxSteps := 999999) +decide (discharger := first | omega | (simp only [lens] <;> omega) | decide) only [go_sem, q12, Tryz.f12, readRow, loadIn, simprocAttr, read1, opBox]
    rfl) ?_
   refine Goes.seqQ q12_1 ?_
   refine Goes.seqQ q12_10 ?_
   refine Goes.opsQ q12_100 fits Hh E0_sound (by
    simp only [q12, Tryz.f12, piece, part0, part1, part2, part2l, part3, part4, part5, part6, bodyOf, opsA]
    iterate 44 (refine evOps_step (by simp (maxSteps := 999999) +decide (discharger := first | omega | (simp only [lens] <;> omega) | decide) only [go_sem, readRow, loadIn, simprocAttr, read1, opBox] <;> rfl) ?_)
    exact evOps_done) ?_
   refine Goes.condTQ q12_101 (by simp (maxSteps := 999999) +decide (discharger := first | omega | (simp only [lens] <;> omega) | decide) only [go_sem, readRow, loadIn, simprocAttr, read1, opBox] <;> rfl) (by first | rfl | assumption | exact decide_eq_true (by omega) | (simp; omega)) ?_
   refine Goes.seqQ q12_1013 ?_
   refine Goes.opsQ q12_10130 fits Hh E0_sound (by
    simp (maxSteps := 999999) +decide (discharger := first | omega | (simp only [lens] <;> omega) | decide) only [go_sem, q12, Tryz.f12, readRow, loadIn, simprocAttr, read1, opBox]
    rfl) ?_
   refine Goes.retQ q12_10131 ?_
   exact ⟨_, _, (by simp (maxSteps := 999999) +decide (discharger := first | omega | (simp only [lens] <;> omega) | decide) only [go_sem, readRow, loadIn, simprocAttr] <;> rfl), rfl, fun m hm => by (first | (simp (discharger := omega) only [H.get_put, H.get_new, H.get_del, H.next_new, H.next_put, H.next_del, if_neg]; done) | (simp only [H.get_put, H.get_new, H.get_del, H.next_new, H.next_put, H.next_del]; (repeat' split) <;> first | rfl | (exfalso; omega) | omega))⟩
  obtain ⟨c, rfl⟩ := Int.eq_ofNat_of_zero_le (show 0 ≤ c by omega)
  by_cases c6 : c % 4 ≠ 0
  ·
   refine CallOk.goesE fits Hh (by kernel_rfl) (by kernel_rfl) (by kernel_rfl) (show Tryz.f12.body = some (q12 []) by kernel_rfl) rfl ?_
   show Goes K Tryz.prog 66 none _ _ _ _ _
   refine Goes.seqQ q12_ ?_
   refine Goes.opsQ q12_0 fits Hh E0_sound (by
    simp (maxSteps := 999999) +decide (discharger := first | omega | (simp only [lens] <;> omega) | decide) only [go_sem, q12, Tryz.f12, readRow, loadIn, simprocAttr, read1, opBox]
    rfl) ?_
   refine Goes.seqQ q12_1 ?_
   refine Goes.seqQ q12_10 ?_
   refine Goes.opsQ q12_100 fits Hh E0_sound (by
    simp only [q12, Tryz.f12, piece, part0, part1, part2, part2l, part3, part4, part5, part6, bodyOf, opsA]
    iterate 44 (refine evOps_step (by simp (maxSteps := 999999) +decide (discharger := first | omega | (simp only [lens] <;> omega) | decide) only [go_sem, readRow, loadIn, simprocAttr, read1, opBox] <;> rfl) ?_)
    exact evOps_done) ?_
   refine Goes.condTQ q12_101 (by simp (maxSteps := 999999) +decide (discharger := first | omega | (simp only [lens] <;> omega) | decide) only [go_sem, readRow, loadIn, simprocAttr, read1, opBox] <;> rfl) (by first | rfl | assumption | exact decide_eq_true (by omega) | (simp; omega)) ?_
   refine Goes.seqQ q12_1013 ?_
   refine Goes.opsQ q12_10130 fits Hh E0_sound (by
    simp (maxSteps := 999999) +decide (discharger := first | omega | (simp only [lens] <;> omega) | decide) only [go_sem, q12, Tryz.f12, readRow, loadIn, simprocAttr, read1, opBox]
    rfl) ?_
   refine Goes.retQ q12_10131 ?_
   exact ⟨_, _, (by simp (maxSteps := 999999) +decide (discharger := first | omega | (simp only [lens] <;> omega) | decide) only [go_sem, readRow, loadIn, simprocAttr] <;> rfl), rfl, fun m hm => by (first | (simp (discharger := omega) only [H.get_put, H.get_new, H.get_del, H.next_new, H.next_put, H.next_del, if_neg]; done) | (simp only [H.get_put, H.get_new, H.get_del, H.next_new, H.next_put, H.next_del]; (repeat' split) <;> first | rfl | (exfalso; omega) | omega))⟩
  have c6 : c % 4 = 0 := by omega
  by_cases c7 : d < 40
  ·
   refine CallOk.goesE fits Hh (by kernel_rfl) (by kernel_rfl) (by kernel_rfl) (show Tryz.f12.body = some (q12 []) by kernel_rfl) rfl ?_
   show Goes K Tryz.prog 66 none _ _ _ _ _
   refine Goes.seqQ q12_ ?_
   refine Goes.opsQ q12_0 fits Hh E0_sound (by
    simp (maxSteps := 999999) +decide (discharger := first | omega | (simp only [lens] <;> omega) | decide) only [go_sem, q12, Tryz.f12, readRow, loadIn, simprocAttr, read1, opBox]
    rfl) ?_
   refine Goes.seqQ q12_1 ?_
   refine Goes.seqQ q12_10 ?_
   refine Goes.opsQ q12_100 fits Hh E0_sound (by
    simp only [q12, Tryz.f12, piece, part0, part1, part2, part2l, part3, part4, part5, part6, bodyOf, opsA]
    iterate 44 (refine evOps_step (by simp (maxSteps := 999999) +decide (discharger := first | omega | (simp only [lens] <;> omega) | decide) only [go_sem, readRow, loadIn, simprocAttr, read1, opBox] <;> rfl) ?_)
    exact evOps_done) ?_
   refine Goes.condTQ q12_101 (by simp (maxSteps := 999999) +decide (discharger := first | omega | (simp only [lens] <;> omega) | decide) only [go_sem, readRow, loadIn, simprocAttr, read1, opBox] <;> rfl) (by first | rfl | assumption | exact decide_eq_true (by omega) | (simp; omega)) ?_
   refine Goes.seqQ q12_1013 ?_
   refine Goes.opsQ q12_10130 fits Hh E0_sound (by
    simp (maxSteps := 999999) +decide (discharger := first | omega | (simp only [lens] <;> omega) | decide) only [go_sem, q12, Tryz.f12, readRow, loadIn, simprocAttr, read1, opBox]
    rfl) ?_
   refine Goes.retQ q12_10131 ?_
   exact ⟨_, _, (by simp (maxSteps := 999999) +decide (discharger := first | omega | (simp only [lens] <;> omega) | decide) only [go_sem, readRow, loadIn, simprocAttr] <;> rfl), rfl, fun m hm => by (first | (simp (discharger := omega) only [H.get_put, H.get_new, H.get_del, H.next_new, H.next_put, H.next_del, if_neg]; done) | (simp only [H.get_put, H.get_new, H.get_del, H.next_new, H.next_put, H.next_del]; (repeat' split) <;> first | rfl | (exfalso; omega) | omega))⟩
  by_cases c8 : 256 < d
  ·
   refine CallOk.goesE fits Hh (by kernel_rfl) (by kernel_rfl) (by kernel_rfl) (show Tryz.f12.body = some (q12 []) by kernel_rfl) rfl ?_
   show Goes K Tryz.prog 66 none _ _ _ _ _
   refine Goes.seqQ q12_ ?_
   refine Goes.opsQ q12_0 fits Hh E0_sound (by
    simp (maxSteps := 999999) +decide (discharger := first | omega | (simp only [lens] <;> omega) | decide) only [go_sem, q12, Tryz.f12, readRow, loadIn, simprocAttr, read1, opBox]
    rfl) ?_
   refine Goes.seqQ q12_1 ?_
   refine Goes.seqQ q12_10 ?_
   refine Goes.opsQ q12_100 fits Hh E0_sound (by
    simp only [q12, Tryz.f12, piece, part0, part1, part2, part2l, part3, part4, part5, part6, bodyOf, opsA]
    iterate 44 (refine evOps_step (by simp (maxSteps := 999999) +decide (discharger := first | omega | (simp only [lens] <;> omega) | decide) only [go_sem, readRow, loadIn, simprocAttr, read1, opBox] <;> rfl) ?_)
    exact evOps_done) ?_
   refine Goes.condTQ q12_101 (by simp (maxSteps := 999999) +decide (discharger := first | omega | (simp only [lens] <;> omega) | decide) only [go_sem, readRow, loadIn, simprocAttr, read1, opBox] <;> rfl) (by first | rfl | assumption | exact decide_eq_true (by omega) | (simp; omega)) ?_
   refine Goes.seqQ q12_1013 ?_
   refine Goes.opsQ q12_10130 fits Hh E0_sound (by
    simp (maxSteps := 999999) +decide (discharger := first | omega | (simp only [lens] <;> omega) | decide) only [go_sem, q12, Tryz.f12, readRow, loadIn, simprocAttr, read1, opBox]
    rfl) ?_
   refine Goes.retQ q12_10131 ?_
   exact ⟨_, _, (by simp (maxSteps := 999999) +decide (discharger := first | omega | (simp only [lens] <;> omega) | decide) only [go_sem, readRow, loadIn, simprocAttr] <;> rfl), rfl, fun m hm => by (first | (simp (discharger := omega) only [H.get_put, H.get_new, H.get_del, H.next_new, H.next_put, H.next_del, if_neg]; done) | (simp only [H.get_put, H.get_new, H.get_del, H.next_new, H.next_put, H.next_del]; (repeat' split) <;> first | rfl | (exfalso; omega) | omega))⟩
  obtain ⟨a, rfl⟩ := Int.eq_ofNat_of_zero_le (show 0 ≤ a by omega)
  obtain ⟨b, rfl⟩ := Int.eq_ofNat_of_zero_le (show 0 ≤ b by omega)
  obtain ⟨d, rfl⟩ := Int.eq_ofNat_of_zero_le (show 0 ≤ d by omega)
  have gm : (a : Int) * (b : Int) = ((a * b : Nat) : Int) := rfl
  have hm : a * b ≤ 4 * 512 := Nat.mul_le_mul (by omega) (by omega)
  by_cases e1 : b < 3 + c / 4
  ·
   refine CallOk.goesE fits Hh (by kernel_rfl) (by kernel_rfl) (by kernel_rfl) (show Tryz.f12.body = some (q12 []) by kernel_rfl) rfl ?_
   show Goes K Tryz.prog 66 none _ _ _ _ _
   refine Goes.seqQ q12_ ?_
   refine Goes.opsQ q12_0 fits Hh E0_sound (by
    simp (maxSteps := 999999) +decide (discharger := first | omega | (simp only [lens] <;> omega) | decide) only [go_sem, q12, Tryz.f12, readRow, loadIn, simprocAttr, gm, read1, opBox]
    rfl) ?_
   refine Goes.seqQ q12_1 ?_
   refine Goes.seqQ q12_10 ?_
   refine Goes.opsQ q12_100 fits Hh E0_sound (by
    simp only [q12, Tryz.f12, piece, part0, part1, part2, part2l, part3, part4, part5, part6, bodyOf, opsA]
    iterate 44 (refine evOps_step (by simp (maxSteps := 999999) +decide (discharger := first | omega | (simp only [lens] <;> omega) | decide) only [go_sem, readRow, loadIn, simprocAttr, gm, read1, opBox] <;> rfl) ?_)
    exact evOps_done) ?_
   refine Goes.condFQ q12_101 (by simp (maxSteps := 999999) +decide (discharger := first | omega | (simp only [lens] <;> omega) | decide) only [go_sem, readRow, loadIn, simprocAttr, gm, read1, opBox] <;> rfl) (by first | rfl | assumption | exact decide_eq_false (by omega) | (simp; omega)) ?_
   refine Goes.skipQ q12_1014 ?_
   refine Goes.seqQ q12_11 ?_
   refine Goes.opsQ q12_110 fits Hh E0_sound (by
    simp only [q12, Tryz.f12, piece, part0, part1, part2, part2l, part3, part4, part5, part6, bodyOf, opsA]
    iterate 20 (refine evOps_step (by simp (maxSteps := 999999) +decide (discharger := first | omega | (simp only [lens] <;> omega) | decide) only [go_sem, readRow, loadIn, simprocAttr, gm, read1, opBox] <;> rfl) ?_)
    exact evOps_done) ?_
   refine Goes.retQ q12_111 ?_
   exact ⟨_, _, (by simp (maxSteps := 999999) +decide (discharger := first | omega | (simp only [lens] <;> omega) | decide) only [go_sem, readRow, loadIn, simprocAttr] <;> rfl), rfl, fun m hm => by (first | (simp (discharger := omega) only [H.get_put, H.get_new, H.get_del, H.next_new, H.next_put, H.next_del, if_neg]; done) | (simp only [H.get_put, H.get_new, H.get_del, H.next_new, H.next_put, H.next_del]; (repeat' split) <;> first | rfl | (exfalso; omega) | omega))⟩
  by_cases e2 : 2048 < 2 + d + a * b
  ·
   refine CallOk.goesE fits Hh (by kernel_rfl) (by kernel_rfl) (by kernel_rfl) (show Tryz.f12.body = some (q12 []) by kernel_rfl) rfl ?_
   show Goes K Tryz.prog 66 none _ _ _ _ _
   refine Goes.seqQ q12_ ?_
   refine Goes.opsQ q12_0 fits Hh E0_sound (by
    simp (maxSteps := 999999) +decide (discharger := first | omega | (simp only [lens] <;> omega) | decide) only [go_sem, q12, Tryz.f12, readRow, loadIn, simprocAttr, gm, read1, opBox]
    rfl) ?_
   refine Goes.seqQ q12_1 ?_
   refine Goes.seqQ q12_10 ?_
   refine Goes.opsQ q12_100 fits Hh E0_sound (by
    simp only [q12, Tryz.f12, piece, part0, part1, part2, part2l, part3, part4, part5, part6, bodyOf, opsA]
    iterate 44 (refine evOps_step (by simp (maxSteps := 999999) +decide (discharger := first | omega | (simp only [lens] <;> omega) | decide) only [go_sem, readRow, loadIn, simprocAttr, gm, read1, opBox] <;> rfl) ?_)
    exact evOps_done) ?_
   refine Goes.condFQ q12_101 (by simp (maxSteps := 999999) +decide (discharger := first | omega | (simp only [lens] <;> omega) | decide) only [go_sem, readRow, loadIn, simprocAttr, gm, read1, opBox] <;> rfl) (by first | rfl | assumption | exact decide_eq_false (by omega) | (simp; omega)) ?_
   refine Goes.skipQ q12_1014 ?_
   refine Goes.seqQ q12_11 ?_
   refine Goes.opsQ q12_110 fits Hh E0_sound (by
    simp only [q12, Tryz.f12, piece, part0, part1, part2, part2l, part3, part4, part5, part6, bodyOf, opsA]
    iterate 20 (refine evOps_step (by simp (maxSteps := 999999) +decide (discharger := first | omega | (simp only [lens] <;> omega) | decide) only [go_sem, readRow, loadIn, simprocAttr, gm, read1, opBox] <;> rfl) ?_)
    exact evOps_done) ?_
   refine Goes.retQ q12_111 ?_
   exact ⟨_, _, (by simp (maxSteps := 999999) +decide (discharger := first | omega | (simp only [lens] <;> omega) | decide) only [go_sem, readRow, loadIn, simprocAttr] <;> rfl), rfl, fun m hm => by (first | (simp (discharger := omega) only [H.get_put, H.get_new, H.get_del, H.next_new, H.next_put, H.next_del, if_neg]; done) | (simp only [H.get_put, H.get_new, H.get_del, H.next_new, H.next_put, H.next_del]; (repeat' split) <;> first | rfl | (exfalso; omega) | omega))⟩
  refine absurd ⟨by omega, by omega, by omega, by omega, ?_⟩ nf
  simp only [Int.toNat_natCast]
  exact ⟨by omega, by omega, by omega, by omega, by omega, by omega, by omega, by omega, by omega, by omega, by omega⟩
 exact cc.quiet rfl hk
noncomputable def xRMay : Kn1 := fun args h => match args with
 | [.g [.int .i64 a, .int .i64 b, .int .i64 c, .int .i64 d]] => some (.w (.c (.bool (fineI a b c d))), h)
 | _ => none
theorem xRMay_ok {args : List W} {h h' : Go.Ev.H} {v : V} (e : xRMay args h = some (v, h')) : CallOk K Tryz.prog 12 args h v h' := by
 unfold xRMay at e
 split at e
 ·rename_i a b c d
  cases e
  by_cases hp : 0 ≤ a ∧ 0 ≤ b ∧ 0 ≤ c ∧ 0 ≤ d
  ·obtain ⟨p1, p2, p3, p4⟩ := hp
   obtain ⟨a, rfl⟩ := Int.eq_ofNat_of_zero_le p1
   obtain ⟨b, rfl⟩ := Int.eq_ofNat_of_zero_le p2
   obtain ⟨c, rfl⟩ := Int.eq_ofNat_of_zero_le p3
   obtain ⟨d, rfl⟩ := Int.eq_ofNat_of_zero_le p4
   rw [fineI_nat]
   cases hf : fineB a b c d with
   | true => exact mayOk Hh (fineB_fine hf) h
   | false => exact mayNot Hh a b c d h (fun q => by
     have := fine_fineB q.2.2.2.2
     simp only [Int.toNat_natCast] at this
     rw [this] at hf
     cases hf)
  ·have e0 : fineI a b c d = false := by
    unfold fineI
    by_cases p1 : 0 ≤ a
    ·by_cases p2 : 0 ≤ b
     ·by_cases p3 : 0 ≤ c
      ·by_cases p4 : 0 ≤ d
       ·exact absurd ⟨p1, p2, p3, p4⟩ hp
       ·rw [decide_eq_false p4]; simp
      ·rw [decide_eq_false p3]; simp
     ·rw [decide_eq_false p2]; simp
    ·rw [decide_eq_false p1]; simp
   rw [e0]
   exact mayNot Hh a b c d h (fun q => hp ⟨q.1, q.2.1, q.2.2.1, q.2.2.2.1⟩)
 ·cases e
noncomputable def xRBlocks : Kn1 := fun args h => match args with
 | [.g [.int .i64 a, .int .i64 b, .int .i64 c, .int .i64 d]] => (natI a).bind fun a => (natI b).bind fun b => (natI c).bind fun c => (natI d).bind fun d => askB (fineB a b c d) (some (.w (.c (.int .i64 ((2 + d + a * b : Nat) : Int))), h))
 | _ => none
theorem lfThg (n off len : Nat) : lenFits K 117 (.c (.slice n off len 4)) = true := by kernel_rfl
omit Hh in
theorem allL_len {gr sz ino jr : Nat} (F : Fine gr sz ino jr) : (allL gr sz ino jr).length = 2 + jr + gr * sz := by
 have h1 : ∀ a, (grL sz ino a).length = sz := fun a => by
  have := F.fit
  simp only [grL, List.length_append, List.length_cons, List.length_nil, inL, daL, List.length_map, List.length_range]
  omega
 have h2 : ∀ k, (groupsL sz ino k).length = k * sz := by
  intro k
  induction k with
  | zero => simp [groupsL]
  | succ k ih =>
   have : groupsL sz ino (k + 1) = groupsL sz ino k ++ grL sz ino k := by simp [groupsL, List.range_succ]
   rw [this, List.length_append, ih, h1, Nat.succ_mul]
 rw [allL, List.length_append, jrL_len, h2]
theorem xRBlocks_ok {args : List W} {h h' : Go.Ev.H} {v : V} (e : xRBlocks args h = some (v, h')) : CallOk K Tryz.prog 37 args h v h' := by
 unfold xRBlocks at e
 split at e
 ·obtain ⟨a, ha, e⟩ := bind_of e
  obtain ⟨b, hb, e⟩ := bind_of e
  obtain ⟨c, hc, e⟩ := bind_of e
  obtain ⟨d, hd, e⟩ := bind_of e
  obtain ⟨f, e⟩ := askB_some.1 e
  cases e
  rw [natI_some ha, natI_some hb, natI_some hc, natI_some hd]
  have F := fineB_fine f
  have c1 := allOk Hh F (h.new (.row 4 [geoL a b c d] false))
  rw [allL_len F] at c1
  have fl := lfThg
  obtain ⟨v, h', cc, rfl, hk⟩ : ∃ v h', CallOk K Tryz.prog 37 [.g [.int .i64 (a : Int), .int .i64 (b : Int), .int .i64 (c : Int), .int .i64 (d : Int)]] h v h' ∧ v = .w (.c (.int .i64 ((2 + d + a * b : Nat) : Int))) ∧ ∀ m, m < h.next → h'.get m = h.get m := by
   refine CallOk.goesE fits Hh (by kernel_rfl) (by kernel_rfl) (by kernel_rfl) (show Tryz.f37.body = some (q37 []) by kernel_rfl) rfl ?_
   show Goes K Tryz.prog 6 none _ _ _ _ _
   refine Goes.seqQ q37_ ?_
   refine Goes.opsQ q37_0 fits Hh E0_sound (by
    simp (maxSteps := 999999) +decide (discharger := first | omega | (simp only [lens] <;> omega) | decide) only [go_sem, q37, Tryz.f37, readRow, loadIn, simprocAttr, geoL, fl, read1, opBox, opBuiltin, opLen]
    rfl) ?_
   refine Goes.seqQ q37_1 ?_
   refine Goes.opsQ q37_10 fits Hh (E1_sound E0_sound c1) (by
    simp (maxSteps := 999999) +decide (discharger := first | omega | (simp only [lens] <;> omega) | decide) only [go_sem, q37, Tryz.f37, readRow, loadIn, simprocAttr, E1_call, geoL, fl, read1, opBox, opBuiltin, opLen]
    rfl) ?_
   refine Goes.retQ q37_11 ?_
   exact ⟨_, _, (by simp (maxSteps := 999999) +decide (discharger := first | omega | (simp only [lens] <;> omega) | decide) only [go_sem, readRow, loadIn, simprocAttr] <;> rfl), rfl, fun m hm => by (first | (simp (discharger := omega) only [H.get_put, H.get_new, H.get_del, H.next_new, H.next_put, H.next_del, if_neg]; done) | (simp only [H.get_put, H.get_new, H.get_del, H.next_new, H.next_put, H.next_del]; (repeat' split) <;> first | rfl | (exfalso; omega) | omega))⟩
  exact cc.quiet rfl hk
 ·cases e
end
attribute [go_sem] xRMay xRBlocks
end Go.Proofs.YtpiljmilaelfnaaGreatDoor
