/- StoreGets, from its parts. -/
import Derived.Test.YtpiljmilaelfnaaGreatDoorTal
set_option linter.unusedSimpArgs false
set_option linter.unusedVariables false
set_option linter.unusedSectionVars false
set_option maxRecDepth 100000
namespace Go.Proofs.YtpiljmilaelfnaaGreatDoor
open Go.Ev
theorem smallI_cases {a b c d : Int} (h : smallI a b c d = true) : ∃ x y z w : Nat, a = x ∧ b = y ∧ c = z ∧ d = w ∧ fineB x y z w = true := by
 unfold smallI fineI at h
 simp only [Bool.and_eq_true, decide_eq_true_eq] at h
 obtain ⟨⟨⟨⟨⟨⟨⟨p1, p2⟩, p3⟩, p4⟩, f⟩, _⟩, _⟩, _⟩ := h
 obtain ⟨x, rfl⟩ := Int.eq_ofNat_of_zero_le p1
 obtain ⟨y, rfl⟩ := Int.eq_ofNat_of_zero_le p2
 obtain ⟨z, rfl⟩ := Int.eq_ofNat_of_zero_le p3
 obtain ⟨w, rfl⟩ := Int.eq_ofNat_of_zero_le p4
 simp only [Int.toNat_natCast] at f
 exact ⟨x, y, z, w, rfl, rfl, rfl, rfl, f⟩
theorem xBeg (h : Go.Ev.H) (a b c e : Nat) (md : Int) (fb : fineB a b c e = true) : xSBegin [.c (.ptr (h.next + 13) 0), .c (.int .i64 33), .c (.int .i64 0)] (freM h a b c e md) = some (.w (.c (.int .i64 0)), begM (cleanM (freM h a b c e md) (h.next + 13) (stB h.next)) (h.next + 20) (txB h.next) 33 0) := by
 have f1 : (freM h a b c e md).get (h.next + 13) = some (.row 8 [stL (stB h.next)] false) := by unfold freM overM newSt; simp (discharger := omega) only [H.get_put, H.get_new, H.next_new, H.next_put, if_neg, if_pos]; rfl
 have f2 : (freM h a b c e md).get (h.next + 20) = some (.row 13 [txL (txB h.next)] false) := by unfold freM overM newSt; simp (discharger := omega) only [H.get_put, H.get_new, H.next_new, H.next_put, if_neg, if_pos]; rfl
 have f3 : (freM h a b c e md).get (h.next + 12) = some (.row 9 [gdL (gdN h.next a b c e md)] false) := by unfold freM overM newSt; simp (discharger := omega) only [H.get_put, H.get_new, H.next_new, H.next_put, if_neg, if_pos]; rfl
 have f4 : (freM h a b c e md).get (h.next + 19) = some (.row 1 [[.map (h.next + 18)]] false) := by unfold freM overM newSt; simp (discharger := omega) only [H.get_put, H.get_new, H.next_new, H.next_put, if_neg, if_pos]; rfl
 have f5 : (freM h a b c e md).get (h.next + 18) = some (.map []) := by unfold freM overM newSt; simp (discharger := omega) only [H.get_put, H.get_new, H.next_new, H.next_put, if_neg, if_pos] <;> rfl
 have f6 : (freM h a b c e md).get (h.next + 15) = some (.map []) := by unfold freM overM newSt; simp (discharger := omega) only [H.get_put, H.get_new, H.next_new, H.next_put, if_neg, if_pos] <;> rfl
 have f7 : (freM h a b c e md).get (h.next + 16) = some (.map []) := by unfold freM overM newSt; simp (discharger := omega) only [H.get_put, H.get_new, H.next_new, H.next_put, if_neg, if_pos] <;> rfl
 have f8 : (freM h a b c e md).get (h.next + 17) = some (.map []) := by unfold freM overM newSt; simp (discharger := omega) only [H.get_put, H.get_new, H.next_new, H.next_put, if_neg, if_pos] <;> rfl
 unfold xSBegin
 simp (maxSteps := 999999) +decide (discharger := first | omega | (simp only [lens] <;> omega) | decide) only [go_sem, readRow, loadIn, simprocAttr, f1, stB, f2, txB, f3, gdL, gdN, f4, f5, f6, f7, f8, fb] <;> rfl
theorem begun_get {h : Go.Ev.H} {m : Nat} (hm : m < h.next) (a b c e : Nat) (md : Int) : (begun h a b c e md).get m = h.get m := by
 unfold begun begM cloneM cleanM freM overM newSt
 simp (discharger := omega) only [H.get_put, H.get_new, H.next_new, H.next_put, if_neg]
section
variable (Hh : Hearts K Tryz.prog)
include Hh
theorem lop0 {w2 : C} (lf : lenFits K 24 (.c w2) = true) (hln : ∀ h, opLen K h 24 (.c w2) = some (.int .i64 ((0 : Nat) : Int))) {n a b c e : Nat} {md other : Int} {ts : Tmps} {h : Go.Ev.H} {kn : Bool} {ld lt lc : Ents} {L : List (List C)} (M : Mem n a b c e md kn ld lt lc L h) (G : Good (a * b) e md 0 ld lt lc L) (S : Slots n (a * b) e other ts) (s2 : evalT ts 2 = .w (.c w2)) (s14 : evalT ts 14 = .w (.c (.int .i64 (0 : Nat)))) :
  Goes K Tryz.prog 188 none (q3 [1,1,1,1,1,1,1,0,1,2]) [] ts h fun x ds' ts' h' => x = .exit 0 ∧ ds' = [] ∧ Slots n (a * b) e other ts' ∧ ∃ kn ld lt lc L i, i ≤ 30 ∧ Mem n a b c e md kn ld lt lc L h' ∧ Good (a * b) e md i ld lt lc L := by
 obtain ⟨s3, s9, s11, s12, s13⟩ := S
 refine Goes.loopQ q3_1111111012 (Goes.loop ?_)
 refine Goes.seqQ q3_11111110122 ?_
 refine Goes.seqQ q3_111111101220 ?_
 refine Goes.opsQ q3_1111111012200 fits Hh E0_sound (by
  simp (maxSteps := 999999) +decide (discharger := first | omega | (simp only [lens] <;> omega) | decide) only [go_sem, q3, Tryz.f3, readRow, loadIn, simprocAttr, s2, s14, lf, hln, opBuiltin]
  rfl) ?_
 refine Goes.condFQ q3_1111111012201 (by simp (maxSteps := 999999) +decide (discharger := first | omega | (simp only [lens] <;> omega) | decide) only [go_sem, readRow, loadIn, simprocAttr, s2, s14, lf, hln, opBuiltin] <;> rfl) (by first | rfl | assumption | exact decide_eq_false (by omega) | (simp; omega)) ?_
 refine Goes.exitQ q3_11111110122014 ?_
 refine ⟨rfl, rfl, ⟨?_, ?_, ?_, ?_, ?_⟩, _, _, _, _, _, 0, by omega, M, G⟩
 ·simp (decide := true) only [evalT_set, reduceIte, s3]
 ·simp (decide := true) only [evalT_set, reduceIte, s9]
 ·simp (decide := true) only [evalT_set, reduceIte, s11]
 ·simp (decide := true) only [evalT_set, reduceIte, s12]
 ·simp (decide := true) only [evalT_set, reduceIte, s13]
theorem endLaw {n a b c e : Nat} {md : Int} {kn : Bool} {i : Nat} {ld lt lc : Ents} {L : List (List C)} {h : Go.Ev.H} (F : Fine a b c e) (M : Mem n a b c e md kn ld lt lc L h) (G : Good (a * b) e md i ld lt lc L) (hi : i ≤ 30) : ∃ h' n1 n2, CallOk K Tryz.prog 11 [.c (.ptr (n + 13) 0)] h (.w (.c (.int .i64 0))) h' ∧ Fin n n1 n2 a b c e md lc (wrE ld (keysE ld) []) L h' := by
 have F' := F
 obtain ⟨g1, g2, g3, g4, g5, g6, g7, g8, g9, g10, g11⟩ := F'
 obtain ⟨⟨f0, f1, f2, f3, f4, f5, f6, f7, f8, f9, f10, f11, f12, f13⟩, q1, q2, q3, q4, q5⟩ := M
 obtain ⟨h', k, n1, n2, r1, r2, r3, r4, r5, r6, r7, r8⟩ := endOk Hh (S := stN n kn) (X := txN n) (G := gdN n a b c e md) (Y := ckN n) (D := dkN n (2 + e + a * b)) (ld := ld) (lm := []) (lo := []) f0 q1 f2 f3 f4 f5 q2 f8 f13 f10 (show 0 < 2 + e + a * b by omega) (show 2 + e + a * b ≤ 2048 by omega) (fine_fineB F) rfl (show n + 23 ≠ n + 6 by omega) (show n + 23 ≠ n + 16 by omega) (show n + 6 ≠ n + 16 by omega) rfl
  (fun k y hk => by
   obtain ⟨yl, yf, j, hj, e1⟩ := G.dk k y hk
   refine ⟨yl, yf, ?_, ?_⟩
   ·rw [e1]; unfold zN; omega
   ·rw [e1]
    show zN e j < ((2 + e + a * b : Nat) : Int)
    unfold zN; omega) G.kf (by have := G.dl; omega)
 have r7' : h'.get (n + 6) = _ := r7
 have r6' : h'.get (n + 20) = _ := r6
 have r1' : h'.get (n + 13) = _ := r1
 have kp : ∀ m x, m < h.next → m ≠ n + 13 → m ≠ n + 20 → m ≠ n + 6 → m ≠ n + 16 → h.get m = some x → h'.get m = some x := fun m x h1 h2 h3 h4 h5 hx => by rw [r8 m h1 h2 h3 h4 h5]; exact hx
 exact ⟨h', n1, n2, k, ⟨by omega, by omega, by omega, r1', r6', kp _ _ (by omega) (by omega) (by omega) (by omega) (by omega) f3, kp _ _ (by omega) (by omega) (by omega) (by omega) (by omega) f4, kp _ _ (by omega) (by omega) (by omega) (by omega) (by omega) f5, kp _ _ (by omega) (by omega) (by omega) (by omega) (by omega) f6, kp _ _ (by omega) (by omega) (by omega) (by omega) (by omega) f7, r2, kp _ _ (by omega) (by omega) (by omega) (by omega) (by omega) q4, r7', kp _ _ (by omega) (by omega) (by omega) (by omega) (by omega) q5⟩⟩
def LoopOk (w2 : C) (PL0 : Go.Ev.H → Prop) : Prop := ∀ (n a b c e : Nat) (md other : Int) (h0 : Go.Ev.H) (ts : Tmps) (h : Go.Ev.H), Fine a b c e → PL0 h0 → h0.next < n → (∀ m, m < h0.next → h.get m = h0.get m) → Mem n a b c e md false [] [] [] (List.replicate (a * b) zB) h → Slots n (a * b) e other ts → evalT ts 2 = .w (.c w2) → evalT ts 14 = .w (.c (.int .i64 (0 : Nat))) →
  Goes K Tryz.prog 188 none (q3 [1,1,1,1,1,1,1,0,1,2]) [] ts h fun x ds' ts' h' => x = .exit 0 ∧ ds' = [] ∧ Slots n (a * b) e other ts' ∧ ∃ kn ld lt lc L i, i ≤ 30 ∧ Mem n a b c e md kn ld lt lc L h' ∧ Good (a * b) e md i ld lt lc L
set_option maxHeartbeats 8000000 in
theorem lawW {h : Go.Ev.H} (tidy : ∀ m o, h.get m = some o → m < h.next) (a0 b0 c0 d0 md other : Int) (o1 : other < 9223372036854775808) {w2 : C} {len : Nat} {PL0 : Go.Ev.H → Prop} (hp : PL0 h) (lf : lenFits K 24 (.c w2) = true) (hln : ∀ h, opLen K h 24 (.c w2) = some (.int .i64 (len : Int))) (loop : len ≤ 30 → LoopOk w2 PL0) : ∃ h', CallOk K Tryz.prog 3 [.g [.int .i64 a0, .int .i64 b0, .int .i64 c0, .int .i64 d0], .c (.int .u8 md), .c w2, .c (.int .i64 other)] h (.w (.c (.bool true))) h' := by
 obtain ⟨v, h', cc, rfl⟩ : ∃ v h', CallOk K Tryz.prog 3 [.g [.int .i64 a0, .int .i64 b0, .int .i64 c0, .int .i64 d0], .c (.int .u8 md), .c w2, .c (.int .i64 other)] h v h' ∧ v = .w (.c (.bool true)) := by
  rcases hsm : smallI a0 b0 c0 d0 with _ | _
  ·
   refine CallOk.goesE fits Hh (by kernel_rfl) (by kernel_rfl) (by kernel_rfl) (show Tryz.f3.body = some (q3 []) by kernel_rfl) rfl ?_
   show Goes K Tryz.prog 188 none _ _ _ _ _
   refine Goes.seqQ q3_ ?_
   refine Goes.opsQ q3_0 fits Hh E0_sound (by
    simp (maxSteps := 999999) +decide (discharger := first | omega | (simp only [lens] <;> omega) | decide) only [go_sem, q3, Tryz.f3, readRow, loadIn, simprocAttr, hsm, read1, opBuiltin]
    rfl) ?_
   refine Goes.seqQ q3_1 ?_
   refine Goes.seqQ q3_10 ?_
   refine Goes.opsQ q3_100 fits Hh (EX_sound E0_sound (fun _ _ _ _ => xSmall_ok Hh)) (by
    simp only [q3, Tryz.f3, piece, part0, part1, part2, part2l, part3, part4, part5, part6, bodyOf, opsA]
    iterate 16 (refine evOps_step (by simp (maxSteps := 999999) +decide (discharger := first | omega | (simp only [lens] <;> omega) | decide) only [go_sem, readRow, loadIn, simprocAttr, hsm, read1, opBuiltin] <;> rfl) ?_)
    exact evOps_done) ?_
   refine Goes.condTQ q3_101 (by simp (maxSteps := 999999) +decide (discharger := first | omega | (simp only [lens] <;> omega) | decide) only [go_sem, readRow, loadIn, simprocAttr, hsm, read1, opBuiltin] <;> rfl) (by first | rfl | assumption | exact decide_eq_true (by omega) | (simp; omega)) ?_
   refine Goes.seqQ q3_1013 ?_
   refine Goes.opsQ q3_10130 fits Hh E0_sound (by
    simp (maxSteps := 999999) +decide (discharger := first | omega | (simp only [lens] <;> omega) | decide) only [go_sem, q3, Tryz.f3, readRow, loadIn, simprocAttr, hsm, read1, opBuiltin]
    rfl) ?_
   refine Goes.retQ q3_10131 ?_
   exact ⟨_, _, (by simp (maxSteps := 999999) +decide (discharger := first | omega | (simp only [lens] <;> omega) | decide) only [go_sem, readRow, loadIn, simprocAttr] <;> rfl), rfl⟩
  by_cases m1 : md < 1
  ·
   refine CallOk.goesE fits Hh (by kernel_rfl) (by kernel_rfl) (by kernel_rfl) (show Tryz.f3.body = some (q3 []) by kernel_rfl) rfl ?_
   show Goes K Tryz.prog 188 none _ _ _ _ _
   refine Goes.seqQ q3_ ?_
   refine Goes.opsQ q3_0 fits Hh E0_sound (by
    simp (maxSteps := 999999) +decide (discharger := first | omega | (simp only [lens] <;> omega) | decide) only [go_sem, q3, Tryz.f3, readRow, loadIn, simprocAttr, hsm, read1, opBuiltin]
    rfl) ?_
   refine Goes.seqQ q3_1 ?_
   refine Goes.seqQ q3_10 ?_
   refine Goes.opsQ q3_100 fits Hh (EX_sound E0_sound (fun _ _ _ _ => xSmall_ok Hh)) (by
    simp only [q3, Tryz.f3, piece, part0, part1, part2, part2l, part3, part4, part5, part6, bodyOf, opsA]
    iterate 16 (refine evOps_step (by simp (maxSteps := 999999) +decide (discharger := first | omega | (simp only [lens] <;> omega) | decide) only [go_sem, readRow, loadIn, simprocAttr, hsm, read1, opBuiltin] <;> rfl) ?_)
    exact evOps_done) ?_
   refine Goes.condTQ q3_101 (by simp (maxSteps := 999999) +decide (discharger := first | omega | (simp only [lens] <;> omega) | decide) only [go_sem, readRow, loadIn, simprocAttr, hsm, read1, opBuiltin] <;> rfl) (by first | rfl | assumption | exact decide_eq_true (by omega) | (simp; omega)) ?_
   refine Goes.seqQ q3_1013 ?_
   refine Goes.opsQ q3_10130 fits Hh E0_sound (by
    simp (maxSteps := 999999) +decide (discharger := first | omega | (simp only [lens] <;> omega) | decide) only [go_sem, q3, Tryz.f3, readRow, loadIn, simprocAttr, hsm, read1, opBuiltin]
    rfl) ?_
   refine Goes.retQ q3_10131 ?_
   exact ⟨_, _, (by simp (maxSteps := 999999) +decide (discharger := first | omega | (simp only [lens] <;> omega) | decide) only [go_sem, readRow, loadIn, simprocAttr] <;> rfl), rfl⟩
  by_cases m3 : 3 < md
  ·
   refine CallOk.goesE fits Hh (by kernel_rfl) (by kernel_rfl) (by kernel_rfl) (show Tryz.f3.body = some (q3 []) by kernel_rfl) rfl ?_
   show Goes K Tryz.prog 188 none _ _ _ _ _
   refine Goes.seqQ q3_ ?_
   refine Goes.opsQ q3_0 fits Hh E0_sound (by
    simp (maxSteps := 999999) +decide (discharger := first | omega | (simp only [lens] <;> omega) | decide) only [go_sem, q3, Tryz.f3, readRow, loadIn, simprocAttr, hsm, read1, opBuiltin]
    rfl) ?_
   refine Goes.seqQ q3_1 ?_
   refine Goes.seqQ q3_10 ?_
   refine Goes.opsQ q3_100 fits Hh (EX_sound E0_sound (fun _ _ _ _ => xSmall_ok Hh)) (by
    simp only [q3, Tryz.f3, piece, part0, part1, part2, part2l, part3, part4, part5, part6, bodyOf, opsA]
    iterate 16 (refine evOps_step (by simp (maxSteps := 999999) +decide (discharger := first | omega | (simp only [lens] <;> omega) | decide) only [go_sem, readRow, loadIn, simprocAttr, hsm, read1, opBuiltin] <;> rfl) ?_)
    exact evOps_done) ?_
   refine Goes.condTQ q3_101 (by simp (maxSteps := 999999) +decide (discharger := first | omega | (simp only [lens] <;> omega) | decide) only [go_sem, readRow, loadIn, simprocAttr, hsm, read1, opBuiltin] <;> rfl) (by first | rfl | assumption | exact decide_eq_true (by omega) | (simp; omega)) ?_
   refine Goes.seqQ q3_1013 ?_
   refine Goes.opsQ q3_10130 fits Hh E0_sound (by
    simp (maxSteps := 999999) +decide (discharger := first | omega | (simp only [lens] <;> omega) | decide) only [go_sem, q3, Tryz.f3, readRow, loadIn, simprocAttr, hsm, read1, opBuiltin]
    rfl) ?_
   refine Goes.retQ q3_10131 ?_
   exact ⟨_, _, (by simp (maxSteps := 999999) +decide (discharger := first | omega | (simp only [lens] <;> omega) | decide) only [go_sem, readRow, loadIn, simprocAttr] <;> rfl), rfl⟩
  by_cases m4 : 30 < len
  ·
   refine CallOk.goesE fits Hh (by kernel_rfl) (by kernel_rfl) (by kernel_rfl) (show Tryz.f3.body = some (q3 []) by kernel_rfl) rfl ?_
   show Goes K Tryz.prog 188 none _ _ _ _ _
   refine Goes.seqQ q3_ ?_
   refine Goes.opsQ q3_0 fits Hh E0_sound (by
    simp (maxSteps := 999999) +decide (discharger := first | omega | (simp only [lens] <;> omega) | decide) only [go_sem, q3, Tryz.f3, readRow, loadIn, simprocAttr, hsm, lf, hln, read1, opBuiltin]
    rfl) ?_
   refine Goes.seqQ q3_1 ?_
   refine Goes.seqQ q3_10 ?_
   refine Goes.opsQ q3_100 fits Hh (EX_sound E0_sound (fun _ _ _ _ => xSmall_ok Hh)) (by
    simp only [q3, Tryz.f3, piece, part0, part1, part2, part2l, part3, part4, part5, part6, bodyOf, opsA]
    iterate 16 (refine evOps_step (by simp (maxSteps := 999999) +decide (discharger := first | omega | (simp only [lens] <;> omega) | decide) only [go_sem, readRow, loadIn, simprocAttr, hsm, lf, hln, read1, opBuiltin] <;> rfl) ?_)
    exact evOps_done) ?_
   refine Goes.condTQ q3_101 (by simp (maxSteps := 999999) +decide (discharger := first | omega | (simp only [lens] <;> omega) | decide) only [go_sem, readRow, loadIn, simprocAttr, hsm, lf, hln, read1, opBuiltin] <;> rfl) (by first | rfl | assumption | exact decide_eq_true (by omega) | (simp; omega)) ?_
   refine Goes.seqQ q3_1013 ?_
   refine Goes.opsQ q3_10130 fits Hh E0_sound (by
    simp (maxSteps := 999999) +decide (discharger := first | omega | (simp only [lens] <;> omega) | decide) only [go_sem, q3, Tryz.f3, readRow, loadIn, simprocAttr, hsm, lf, hln, read1, opBuiltin]
    rfl) ?_
   refine Goes.retQ q3_10131 ?_
   exact ⟨_, _, (by simp (maxSteps := 999999) +decide (discharger := first | omega | (simp only [lens] <;> omega) | decide) only [go_sem, readRow, loadIn, simprocAttr] <;> rfl), rfl⟩
  obtain ⟨a, b, c, e, rfl, rfl, rfl, rfl, fb⟩ := smallI_cases hsm
  have F := fineB_fine fb
  have F' := F
  obtain ⟨g1, g2, g3, g4, g5, g6, g7, g8, g9, g10, g11⟩ := F'
  have st0 := start (h.new (.row 4 [geoL a b c e] false)) (fun m o hm => by
   rw [H.next_new]
   rw [H.get_new] at hm
   split at hm
   ·omega
   ·have := tidy m o hm; omega) a b c e md
  rw [show (h.new (.row 4 [geoL a b c e] false)).next = h.next + 1 from rfl] at st0
  have cB := xSBegin_ok Hh (xBeg (h.new (.row 4 [geoL a b c e] false)) a b c e md fb)
  unfold freM at cB
  rw [show (h.new (.row 4 [geoL a b c e] false)).next = h.next + 1 from rfl] at cB
  obtain ⟨MB, hMB⟩ : ∃ MB, begM (cleanM (overM ((h.new (.row 4 [geoL a b c e] false)).new (.row 4 [geoL a b c e] false)) a b c e md) (h.next + 1 + 13) (stB (h.next + 1))) (h.next + 1 + 20) (txB (h.next + 1)) 33 0 = MB := ⟨_, rfl⟩
  rw [hMB] at cB
  have bg : begun (h.new (.row 4 [geoL a b c e] false)) a b c e md = MB.new (.row 256 (List.replicate (a * b) zB) false) := by rw [← hMB]; rfl
  have nB : MB.next = h.next + 1 + 32 := by rw [← hMB]; rfl
  have gB : MB.get h.next = some (.row 4 [[.int .i64 (a : Int), .int .i64 (b : Int), .int .i64 (c : Int), .int .i64 (e : Int)]] false) := by
   have := begun_get (h := h.new (.row 4 [geoL a b c e] false)) (m := h.next) (by rw [H.next_new]; omega) a b c e md
   rw [bg, get_new_ne (by omega), get_new_self] at this
   exact this
  have kp : ∀ m, m < h.next → (MB.new (.row 256 (List.replicate (a * b) zB) false)).get m = h.get m := fun m hm => by
   rw [← bg, begun_get (by rw [H.next_new]; omega), get_new_ne (by omega)]
  have st := st0
  rw [bg] at st
  have e2 : (2 : Int) + (e : Int) = ((2 + e : Nat) : Int) := rfl
  have gm : (a : Int) * (b : Int) = ((a * b : Nat) : Int) := rfl
  have zd : List.replicate 256 (C.int .u8 0) = zB := rfl
  have gl4 : geoL a b c e = [.int .i64 (a : Int), .int .i64 (b : Int), .int .i64 (c : Int), .int .i64 (e : Int)] := rfl
  rw [gl4] at cB
  refine CallOk.goesE fits Hh (by kernel_rfl) (by kernel_rfl) (by kernel_rfl) (show Tryz.f3.body = some (q3 []) by kernel_rfl) rfl ?_
  show Goes K Tryz.prog 188 none _ _ _ _ _
  refine Goes.seqQ q3_ ?_
  refine Goes.opsQ q3_0 fits Hh E0_sound (by
   simp (maxSteps := 999999) +decide (discharger := first | omega | (simp only [lens] <;> omega) | decide) only [go_sem, q3, Tryz.f3, readRow, loadIn, simprocAttr, hsm, lf, hln, fb, gl4, gB, nB, e2, gm, zd, read1, opBuiltin, opMakeSlice, newSlice]
   rfl) ?_
  refine Goes.seqQ q3_1 ?_
  refine Goes.seqQ q3_10 ?_
  refine Goes.opsQ q3_100 fits Hh (EX_sound E0_sound (fun _ _ _ _ => xSmall_ok Hh)) (by
   simp only [q3, Tryz.f3, piece, part0, part1, part2, part2l, part3, part4, part5, part6, bodyOf, opsA]
   iterate 16 (refine evOps_step (by simp (maxSteps := 999999) +decide (discharger := first | omega | (simp only [lens] <;> omega) | decide) only [go_sem, readRow, loadIn, simprocAttr, hsm, lf, hln, fb, gl4, gB, nB, e2, gm, zd, read1, opBuiltin, opMakeSlice, newSlice] <;> rfl) ?_)
   exact evOps_done) ?_
  refine Goes.condFQ q3_101 (by simp (maxSteps := 999999) +decide (discharger := first | omega | (simp only [lens] <;> omega) | decide) only [go_sem, readRow, loadIn, simprocAttr, hsm, lf, hln, fb, gl4, gB, nB, e2, gm, zd, read1, opBuiltin, opMakeSlice, newSlice] <;> rfl) (by first | rfl | assumption | exact decide_eq_false (by omega) | (simp; omega)) ?_
  refine Goes.skipQ q3_1014 ?_
  refine Goes.seqQ q3_11 ?_
  refine Goes.opsQ q3_110 fits Hh (EX_sound E0_sound (fun _ _ _ _ => xFresh_ok Hh)) (by
   simp (maxSteps := 999999) +decide (discharger := first | omega | (simp only [lens] <;> omega) | decide) only [go_sem, q3, Tryz.f3, readRow, loadIn, simprocAttr, hsm, lf, hln, fb, gl4, gB, nB, e2, gm, zd, read1, opBuiltin, opMakeSlice, newSlice]
   rfl) ?_
  refine Goes.seqQ q3_111 ?_
  refine Goes.seqQ q3_1110 ?_
  refine Goes.opsQ q3_11100 fits Hh (E1_sound E0_sound cB) (by
   simp (maxSteps := 999999) +decide (discharger := first | omega | (simp only [lens] <;> omega) | decide) only [go_sem, q3, Tryz.f3, readRow, loadIn, simprocAttr, E1_call, hsm, lf, hln, fb, gl4, gB, nB, e2, gm, zd, read1, opBuiltin, opMakeSlice, newSlice]
   rfl) ?_
  refine Goes.condFQ q3_11101 (by simp (maxSteps := 999999) +decide (discharger := first | omega | (simp only [lens] <;> omega) | decide) only [go_sem, readRow, loadIn, simprocAttr, hsm, lf, hln, fb, gl4, gB, nB, e2, gm, zd, read1, opBuiltin, opMakeSlice, newSlice] <;> rfl) (by first | rfl | assumption | exact decide_eq_false (by omega) | (simp; omega)) ?_
  refine Goes.skipQ q3_111014 ?_
  refine Goes.seqQ q3_1111 ?_
  refine Goes.opsQ q3_11110 fits Hh E0_sound (by
   simp (maxSteps := 999999) +decide (discharger := first | omega | (simp only [lens] <;> omega) | decide) only [go_sem, q3, Tryz.f3, readRow, loadIn, simprocAttr, hsm, lf, hln, fb, gl4, gB, nB, e2, gm, zd, read1, opBuiltin, opMakeSlice, newSlice]
   rfl) ?_
  refine Goes.seqQ q3_11111 ?_
  refine Goes.opsQ q3_111110 fits Hh E0_sound (by
   simp (maxSteps := 999999) +decide (discharger := first | omega | (simp only [lens] <;> omega) | decide) only [go_sem, q3, Tryz.f3, readRow, loadIn, simprocAttr, hsm, lf, hln, fb, gl4, gB, nB, e2, gm, zd, read1, opBuiltin, opMakeSlice, newSlice]
   rfl) ?_
  refine Goes.seqQ q3_111111 ?_
  refine Goes.opsQ q3_1111110 fits Hh E0_sound (by
   simp (maxSteps := 999999) +decide (discharger := first | omega | (simp only [lens] <;> omega) | decide) only [go_sem, q3, Tryz.f3, readRow, loadIn, simprocAttr, hsm, lf, hln, fb, gl4, gB, nB, e2, gm, zd, read1, opBuiltin, opMakeSlice, newSlice]
   rfl) ?_
  refine Goes.seqQ q3_1111111 ?_
  refine Goes.seqQ q3_11111110 ?_
  refine Goes.opsQ q3_111111100 fits Hh E0_sound (by
   simp (maxSteps := 999999) +decide (discharger := first | omega | (simp only [lens] <;> omega) | decide) only [go_sem, q3, Tryz.f3, readRow, loadIn, simprocAttr, hsm, lf, hln, fb, gl4, gB, nB, e2, gm, zd, read1, opBuiltin, opMakeSlice, newSlice]
   rfl) ?_
  refine Goes.blockQ q3_111111101 (Goes.block ?_)
  refine (loop (by omega) (h.next + 1) a b c e md other h _ _ F hp (by omega) kp st ⟨?_, ?_, ?_, ?_, ?_⟩ ?_ ?_).mono ?_
  ·simp (decide := true) only [evalT_set, reduceIte, evalT_args, List.getElem?_cons_succ, List.getElem?_cons_zero]
  ·simp (decide := true) only [evalT_set, reduceIte]
  ·simp (decide := true) only [evalT_set, reduceIte]
  ·simp (decide := true) only [evalT_set, reduceIte]
  ·simp (decide := true) only [evalT_set, reduceIte]
  ·simp (decide := true) only [evalT_set, reduceIte, evalT_args, List.getElem?_cons_succ, List.getElem?_cons_zero]
  ·simp (decide := true) only [evalT_set, reduceIte] <;> rfl
  rintro x ds' ts' h2 ⟨rfl, rfl, S, kn, ld, lt, lc, L, i, iL, M, G⟩
  obtain ⟨h3, n1, n2, cE, M3⟩ := endLaw Hh F M G iL
  obtain ⟨s3, s9, s11, s12, s13⟩ := S
  refine Goes.seqQ q3_11111111 ?_
  refine Goes.seqQ q3_111111110 ?_
  refine Goes.opsQ q3_1111111100 fits Hh (E1_sound E0_sound cE) (by
   simp (maxSteps := 999999) +decide (discharger := first | omega | (simp only [lens] <;> omega) | decide) only [go_sem, q3, Tryz.f3, readRow, loadIn, simprocAttr, E1_call, hsm, lf, hln, fb, gl4, gB, nB, e2, gm, zd, s3, s9, s11, s12, s13, read1, opBuiltin, opMakeSlice, newSlice]
   rfl) ?_
  refine Goes.condFQ q3_1111111101 (by simp (maxSteps := 999999) +decide (discharger := first | omega | (simp only [lens] <;> omega) | decide) only [go_sem, readRow, loadIn, simprocAttr, hsm, lf, hln, fb, gl4, gB, nB, e2, gm, zd, s3, s9, s11, s12, s13, read1, opBuiltin, opMakeSlice, newSlice] <;> rfl) (by first | rfl | assumption | exact decide_eq_false (by omega) | (simp; omega)) ?_
  refine Goes.skipQ q3_11111111014 ?_
  refine Goes.seqQ q3_111111111 ?_
  refine Goes.seqQ q3_1111111110 ?_
  refine Goes.opsQ q3_11111111100 fits Hh E0_sound (by
   simp (maxSteps := 999999) +decide (discharger := first | omega | (simp only [lens] <;> omega) | decide) only [go_sem, q3, Tryz.f3, readRow, loadIn, simprocAttr, hsm, lf, hln, fb, gl4, gB, nB, e2, gm, zd, s3, s9, s11, s12, s13, read1, opBuiltin, opMakeSlice, newSlice]
   rfl) ?_
  refine Goes.blockQ q3_11111111101 (Goes.block ?_)
  refine (lop2 (other := other) Hh F G.len (a * b) 0 _ _ _ (by omega) M3 G.done ⟨?_, ?_, ?_, ?_, ?_⟩ ?_).mono ?_
  ·simp (decide := true) only [evalT_set, reduceIte, s3]
  ·simp (decide := true) only [evalT_set, reduceIte, s9]
  ·simp (decide := true) only [evalT_set, reduceIte, s11]
  ·simp (decide := true) only [evalT_set, reduceIte, s12]
  ·simp (decide := true) only [evalT_set, reduceIte, s13]
  ·simp (decide := true) only [evalT_set, reduceIte] <;> rfl
  rintro x ds' ts' h4 ⟨rfl, rfl, S, lm, M4, D⟩
  exact tail Hh F M4 D S o1
 exact ⟨h', cc⟩
theorem lawS {h : Go.Ev.H} (tidy : ∀ m o, h.get m = some o → m < h.next) (a0 b0 c0 d0 md other : Int) (o1 : other < 9223372036854775808) {pl : Nat} {PL : List (List C)} {ro : Bool} (hpl : h.get pl = some (.row 2 PL ro)) (hp : pl < h.next) (hPL : ∀ p ∈ PL, ∃ (B : Int) (f : Nat), p = [.int .i64 B, .int .u32 (f : Int)]) : ∃ h', CallOk K Tryz.prog 3 [.g [.int .i64 a0, .int .i64 b0, .int .i64 c0, .int .i64 d0], .c (.int .u8 md), .c (.slice pl 0 PL.length 2), .c (.int .i64 other)] h (.w (.c (.bool true))) h' :=
 lawW Hh tidy a0 b0 c0 d0 md other o1 (PL0 := fun h => h.get pl = some (.row 2 PL ro) ∧ pl < h.next) ⟨hpl, hp⟩ (lfPuts ..) (fun h => rfl) fun hl n a b c e md other h0 ts h F q hn kp M S s2 s14 =>
  lop1 (other := other) Hh F (pl := pl) (PL := PL) (ro := ro) (by omega) hPL hl PL 0 false [] [] [] _ _ _ rfl (by omega) M (Good.init _ _ _) (by rw [kp _ q.2]; exact q.1) S s2 s14
theorem lawN {h : Go.Ev.H} (tidy : ∀ m o, h.get m = some o → m < h.next) (a0 b0 c0 d0 md other : Int) (o1 : other < 9223372036854775808) : ∃ h', CallOk K Tryz.prog 3 [.g [.int .i64 a0, .int .i64 b0, .int .i64 c0, .int .i64 d0], .c (.int .u8 md), .c .snil, .c (.int .i64 other)] h (.w (.c (.bool true))) h' :=
 lawW Hh tidy a0 b0 c0 d0 md other o1 (PL0 := fun _ => True) (len := 0) trivial lfPuts0 (fun h => rfl) fun _ n a b c e md other h0 ts h F q hn kp M S s2 s14 => lop0 (other := other) Hh lfPuts0 (fun h => rfl) M (Good.init _ _ _) S s2 s14
theorem lawZ {h : Go.Ev.H} {pl : Nat} (tidy : ∀ m o, h.get m = some o → m < h.next) (a0 b0 c0 d0 md other : Int) (o1 : other < 9223372036854775808) : ∃ h', CallOk K Tryz.prog 3 [.g [.int .i64 a0, .int .i64 b0, .int .i64 c0, .int .i64 d0], .c (.int .u8 md), .c (.slice pl 0 0 2), .c (.int .i64 other)] h (.w (.c (.bool true))) h' :=
 lawW Hh tidy a0 b0 c0 d0 md other o1 (PL0 := fun _ => True) (len := 0) trivial (lfPuts ..) (fun h => rfl) fun _ n a b c e md other h0 ts h F q hn kp M S s2 s14 => lop0 (other := other) Hh (lfPuts ..) (fun h => rfl) M (Good.init _ _ _) S s2 s14
end
end Go.Proofs.YtpiljmilaelfnaaGreatDoor
