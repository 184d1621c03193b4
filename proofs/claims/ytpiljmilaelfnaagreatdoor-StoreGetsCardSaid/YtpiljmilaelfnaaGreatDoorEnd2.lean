/- End of a store's handle. -/
import Derived.Test.YtpiljmilaelfnaaGreatDoorEnd
set_option linter.unusedSimpArgs false
set_option linter.unusedVariables false
set_option linter.unusedSectionVars false
set_option maxRecDepth 100000
namespace Go.Proofs.YtpiljmilaelfnaaGreatDoor
open Go.Ev
def EndR (h : Go.Ev.H) (s : Nat) (S : Stt) (X : Tx) (Y : Ck) (lm' : Ents) (h' : Go.Ev.H) : Prop := ∃ n1 n2, h'.get s = some (.row 8 [stL { S with dt := n1, gv := n2, kn := false }] false) ∧ h'.get n1 = some (.map []) ∧ h'.get n2 = some (.map []) ∧ h.next ≤ n1 ∧ h'.next = n1 + 2 ∧ h'.get S.tx = some (.row 13 [txL (txEnd X)] false) ∧ h'.get Y.m = some (.map (ents lm')) ∧ ∀ m, m < h.next → m ≠ s → m ≠ S.tx → m ≠ Y.m → m ≠ X.od → h'.get m = h.get m
section
variable (Hh : Hearts K Tryz.prog)
include Hh
theorem end1 {s : Nat} {Y : Ck} {X : Tx} {lm lo : Ents} {ts : Tmps} {h : Go.Ev.H} (hm : h.get Y.m = some (.map (ents lm))) (ho : h.get X.od = some (.map (ents lo))) (h0 : evalT ts 0 = .w (.c (.ptr s 0))) (h64 : evalT ts 64 = .w (.c (.int .i64 0))) (h65 : evalT ts 65 = .w (.c (.int .i64 0))) :
  Goes K Tryz.prog 115 none (q11 [1,1,1,0,1,2]) [] ts h fun x ds' ts' h' => x = .exit 2 ∧ ds' = [] ∧ evalT ts' 0 = .w (.c (.ptr s 0)) ∧ h'.next = h.next ∧ h'.get Y.m = some (.map (ents lm)) ∧ ∀ m, m ≠ Y.m → m ≠ X.od → h'.get m = h.get m := by
 refine Goes.loopQ q11_111012 (Goes.loop ?_)
 refine Goes.seqQ q11_1110122 ?_
 refine Goes.opsQ q11_11101220 fits Hh E0_sound (by
  simp (maxSteps := 999999) +decide (discharger := first | omega | (simp only [lens] <;> omega) | decide) only [go_sem, q11, Tryz.f11, readRow, loadIn, simprocAttr, h0, h64, h65]
  rfl) ?_
 refine Goes.seqQ q11_11101221 ?_
 refine Goes.condFQ q11_111012210 (by simp (maxSteps := 999999) +decide (discharger := first | omega | (simp only [lens] <;> omega) | decide) only [go_sem, readRow, loadIn, simprocAttr, h0, h64, h65] <;> rfl) (by first | rfl | assumption | exact decide_eq_false (by omega) | (simp; omega)) ?_
 refine Goes.exitQ q11_1110122104 ?_
 refine ⟨rfl, rfl, ?_, rfl, hm, fun m _ _ => rfl⟩
 simp (decide := true) only [evalT_set, reduceIte, h0]
set_option maxHeartbeats 4000000 in
theorem endOk {h : Go.Ev.H} (tidy : ∀ n o, h.get n = some o → n < h.next) {s : Nat} {S : Stt} {X : Tx} {G : Gd} {Y : Ck} {D : Dk} {ld lm lo : Ents} (hs : h.get s = some (.row 8 [stL S] false)) (ht : h.get S.tx = some (.row 13 [txL X] false)) (hg : h.get S.gd = some (.row 9 [gdL G] false)) (hc : h.get G.ca = some (.row 3 [ckL Y] false)) (hd : h.get Y.d = some (.row 6 [dkL D] false)) (hl : h.get S.dt = some (.map (ents ld))) (hgv : h.get S.gv = some (.map []))
  (hm : h.get Y.m = some (.map (ents lm))) (ho : h.get X.od = some (.map (ents lo))) (n0 : 0 < D.n) (n1 : D.n ≤ 2048) (fb : fineB G.gr G.sz G.ino G.jr = true) (bo : X.op = true) (d1 : S.dt ≠ Y.m) (d2 : S.dt ≠ X.od) (d3 : Y.m ≠ X.od) (fm : flatE lm = true)
  (hld : ∀ k y, lookE k ld = some y → y.length = 257 ∧ y.all C.flat = true ∧ 0 ≤ k ∧ k < (D.n : Int)) (hkf : ∀ p ∈ ld, keyFits p.1 = true) (hll : ld.length ≤ 1000000) : ∃ h', CallOk K Tryz.prog 11 [.c (.ptr s 0)] h (.w (.c (.int .i64 0))) h' ∧ EndR h s S X Y (wrE ld (keysE ld) lm) h' := by
 have hsk := sortedKeys_ents hkf
 have kl : (keysE ld).length ≤ 1000000 := by rw [keysE_len]; exact hll
 have hks : ∀ k ∈ keysE ld, ∃ y, lookE k ld = some y ∧ y.length = 257 ∧ y.all C.flat = true ∧ 0 ≤ k ∧ k < (D.n : Int) := fun k hk => by
  have := keysE_mem.1 hk
  cases e : lookE k ld with
  | none => rw [e] at this; cases this
  | some y => exact ⟨y, rfl, hld k y e⟩
 have l1 := tidy _ _ hs
 have l2 := tidy _ _ ht
 have l3 := tidy _ _ hg
 have l4 := tidy _ _ hc
 have l5 := tidy _ _ hd
 have l6 := tidy _ _ hl
 have l7 := tidy _ _ hgv
 have l8 := tidy _ _ hm
 have l9 := tidy _ _ ho
 have a1 := row_ne hs hm
 have a2 := row_ne ht hm
 have b1 := row_ne hs ho
 have b2 := row_ne ht ho
 have st : s ≠ S.tx := fun e1 => by rw [← e1, hs] at ht; cases ht
 obtain ⟨v, h', c, rfl, r⟩ : ∃ v h', CallOk K Tryz.prog 11 [.c (.ptr s 0)] h v h' ∧ v = .w (.c (.int .i64 0)) ∧ EndR h s S X Y (wrE ld (keysE ld) lm) h' := by
  rcases hkk : keysE ld with _ | ⟨k0, kt⟩
  ·
   rw [hkk] at hsk
   refine CallOk.goesE fits Hh (by kernel_rfl) (by kernel_rfl) (by kernel_rfl) (show Tryz.f11.body = some (q11 []) by kernel_rfl) rfl ?_
   show Goes K Tryz.prog 115 none _ _ _ _ _
   refine Goes.seqQ q11_ ?_
   refine Goes.opsQ q11_0 fits Hh E0_sound (by
    simp (maxSteps := 999999) +decide (discharger := first | omega | (simp only [lens] <;> omega) | decide) only [go_sem, q11, Tryz.f11, readRow, loadIn, simprocAttr, hs, ht, bo, hgv, hl, hsk, read1, opBuiltin, opLen, lfIntsN']
    rfl) ?_
   refine Goes.seqQ q11_1 ?_
   refine Goes.seqQ q11_10 ?_
   refine Goes.opsQ q11_100 fits Hh (EX_sound E0_sound (fun _ _ _ _ => xSOpen_ok Hh)) (by
    simp (maxSteps := 999999) +decide (discharger := first | omega | (simp only [lens] <;> omega) | decide) only [go_sem, q11, Tryz.f11, readRow, loadIn, simprocAttr, hs, ht, bo, hgv, hl, hsk, read1, opBuiltin, opLen, lfIntsN']
    rfl) ?_
   refine Goes.seqQ q11_101 ?_
   refine Goes.opsQ q11_1010 fits Hh E0_sound (by
    simp (maxSteps := 999999) +decide (discharger := first | omega | (simp only [lens] <;> omega) | decide) only [go_sem, q11, Tryz.f11, readRow, loadIn, simprocAttr, hs, ht, bo, hgv, hl, hsk, read1, opBuiltin, opLen, lfIntsN']
    rfl) ?_
   refine Goes.condFQ q11_1011 (by simp (maxSteps := 999999) +decide (discharger := first | omega | (simp only [lens] <;> omega) | decide) only [go_sem, readRow, loadIn, simprocAttr, hs, ht, bo, hgv, hl, hsk, read1, opBuiltin, opLen, lfIntsN'] <;> rfl) (by first | rfl | assumption | exact decide_eq_false (by omega) | (simp; omega)) ?_
   refine Goes.skipQ q11_10114 ?_
   refine Goes.seqQ q11_11 ?_
   refine Goes.seqQ q11_110 ?_
   refine Goes.opsQ q11_1100 fits Hh (EX_sound (EX_sound E0_sound (fun _ _ _ _ => xKeysI_ok Hh)) (fun _ _ _ _ => xSorted_ok Hh)) (by
    simp (maxSteps := 999999) +decide (discharger := first | omega | (simp only [lens] <;> omega) | decide) only [go_sem, q11, Tryz.f11, readRow, loadIn, simprocAttr, hs, ht, bo, hgv, hl, hsk, read1, opBuiltin, opLen, lfIntsN']
    rfl) ?_
   refine Goes.blockQ q11_1101 (Goes.block ?_)
   refine Goes.loopQ q11_11012 (Goes.loop ?_)
   refine Goes.seqQ q11_110122 ?_
   refine Goes.opsQ q11_1101220 fits Hh E0_sound (by
    simp (maxSteps := 999999) +decide (discharger := first | omega | (simp only [lens] <;> omega) | decide) only [go_sem, q11, Tryz.f11, readRow, loadIn, simprocAttr, hs, ht, bo, hgv, hl, hsk, read1, opBuiltin, opLen, lfIntsN']
    rfl) ?_
   refine Goes.seqQ q11_1101221 ?_
   refine Goes.condFQ q11_11012210 (by simp (maxSteps := 999999) +decide (discharger := first | omega | (simp only [lens] <;> omega) | decide) only [go_sem, readRow, loadIn, simprocAttr, hs, ht, bo, hgv, hl, hsk, read1, opBuiltin, opLen, lfIntsN'] <;> rfl) (by first | rfl | assumption | exact decide_eq_false (by omega) | (simp; omega)) ?_
   refine Goes.exitQ q11_110122104 ?_
   refine Goes.seqQ q11_111 ?_
   refine Goes.seqQ q11_1110 ?_
   refine Goes.opsQ q11_11100 fits Hh (EX_sound (EX_sound E0_sound (fun _ _ _ _ => xKeysC_ok Hh)) (fun _ _ _ _ => xSorted_ok Hh)) (by
    simp (maxSteps := 999999) +decide (discharger := first | omega | (simp only [lens] <;> omega) | decide) only [go_sem, q11, Tryz.f11, readRow, loadIn, simprocAttr, hs, ht, bo, hgv, hl, hsk, read1, opBuiltin, opLen, lfIntsN']
    rfl) ?_
   refine Goes.blockQ q11_11101 (Goes.block ?_)
   refine (end1 (s := s) (Y := Y) (X := X) (lm := lm) (lo := lo) Hh ?_ ?_ ?_ ?_ ?_).mono ?_
   ·simp only [H.get_new, H.next_new]; rw [if_neg (by omega), if_neg (by omega)]; exact hm
   ·simp only [H.get_new, H.next_new]; rw [if_neg (by omega), if_neg (by omega)]; exact ho
   ·simp (decide := true) only [evalT_set, reduceIte, evalT_args, List.getElem?_cons_zero]
   ·simp (decide := true) only [evalT_set, reduceIte] <;> rfl
   ·simp (decide := true) only [evalT_set, reduceIte] <;> rfl
   rintro x ds' ts' h2 ⟨rfl, rfl, f0, nx, m2, kp⟩
   simp only [H.next_new] at nx
   have s2 := kp s a1 b1
   have t2 := kp S.tx a2 b2
   simp only [H.get_new, H.next_new] at s2 t2
   rw [if_neg (by omega), if_neg (by omega), hs] at s2
   rw [if_neg (by omega), if_neg (by omega), ht] at t2
   refine Goes.seqQ q11_1111 ?_
   refine Goes.opsQ q11_11110 fits Hh (EX_sound E0_sound (fun _ _ _ _ => xSClean_ok Hh)) (by
    simp (maxSteps := 999999) +decide (discharger := first | omega | (simp only [lens] <;> omega) | decide) only [go_sem, q11, Tryz.f11, readRow, loadIn, simprocAttr, hs, ht, bo, hgv, hl, hsk, f0, s2, t2, read1, opBuiltin, opLen, lfIntsN']
    rfl) ?_
   refine Goes.seqQ q11_11111 ?_
   refine Goes.opsQ q11_111110 fits Hh (EX_sound E0_sound (fun _ _ _ _ => xTEnd_ok Hh)) (by
    simp (maxSteps := 999999) +decide (discharger := first | omega | (simp only [lens] <;> omega) | decide) only [go_sem, q11, Tryz.f11, readRow, loadIn, simprocAttr, hs, ht, bo, hgv, hl, hsk, f0, s2, t2, read1, opBuiltin, opLen, lfIntsN']
    rfl) ?_
   refine Goes.retQ q11_111111 ?_
   refine ⟨_, _, (by simp (maxSteps := 999999) +decide (discharger := first | omega | (simp only [lens] <;> omega) | decide) only [go_sem, readRow, loadIn, simprocAttr, endM] <;> rfl), rfl, h2.next, h2.next + 1, ?_, ?_, ?_, by omega, rfl, ?_, ?_, ?_⟩
   ·simp (maxSteps := 999999) +decide (discharger := first | omega | (simp only [lens] <;> omega) | decide) only [go_sem, readRow, loadIn, simprocAttr] <;> rfl
   ·simp (maxSteps := 999999) +decide (discharger := first | omega | (simp only [lens] <;> omega) | decide) only [go_sem, readRow, loadIn, simprocAttr] <;> rfl
   ·simp (maxSteps := 999999) +decide (discharger := first | omega | (simp only [lens] <;> omega) | decide) only [go_sem, readRow, loadIn, simprocAttr] <;> rfl
   ·simp (maxSteps := 999999) +decide (discharger := first | omega | (simp only [lens] <;> omega) | decide) only [go_sem, readRow, loadIn, simprocAttr, txEnd] <;> rfl
   ·rw [show wrE ld [] lm = lm from rfl, ← m2]; (first | (simp (discharger := omega) only [H.get_put, H.get_new, H.get_del, H.next_new, H.next_put, H.next_del, if_neg]; done) | (simp only [H.get_put, H.get_new, H.get_del, H.next_new, H.next_put, H.next_del]; (repeat' split) <;> first | rfl | (exfalso; omega) | omega))
   ·intro m hm1 hm2 hm3 hm4 hm5
    have k2 := kp m hm4 hm5
    simp only [H.get_new, H.next_new] at k2
    rw [if_neg (by omega), if_neg (by omega)] at k2
    rw [← k2]; (first | (simp (discharger := omega) only [H.get_put, H.get_new, H.get_del, H.next_new, H.next_put, H.next_del, if_neg]; done) | (simp only [H.get_put, H.get_new, H.get_del, H.next_new, H.next_put, H.next_del]; (repeat' split) <;> first | rfl | (exfalso; omega) | omega))
  ·
   have hkl : (k0 :: kt).length = (keysE ld).length := by rw [hkk]
   rw [hkk] at hsk
   have kl2 : kt.length + 1 ≤ 1000000 := by rw [← List.length_cons (a := k0), hkl]; exact kl
   have lfi := lfInts
   refine CallOk.goesE fits Hh (by kernel_rfl) (by kernel_rfl) (by kernel_rfl) (show Tryz.f11.body = some (q11 []) by kernel_rfl) rfl ?_
   show Goes K Tryz.prog 115 none _ _ _ _ _
   refine Goes.seqQ q11_ ?_
   refine Goes.opsQ q11_0 fits Hh E0_sound (by
    simp (maxSteps := 999999) +decide (discharger := first | omega | (simp only [lens] <;> omega) | decide) only [go_sem, q11, Tryz.f11, readRow, loadIn, simprocAttr, hs, ht, bo, hgv, hl, hsk, lfi, read1, opBuiltin, opLen, lfIntsN']
    rfl) ?_
   refine Goes.seqQ q11_1 ?_
   refine Goes.seqQ q11_10 ?_
   refine Goes.opsQ q11_100 fits Hh (EX_sound E0_sound (fun _ _ _ _ => xSOpen_ok Hh)) (by
    simp (maxSteps := 999999) +decide (discharger := first | omega | (simp only [lens] <;> omega) | decide) only [go_sem, q11, Tryz.f11, readRow, loadIn, simprocAttr, hs, ht, bo, hgv, hl, hsk, lfi, read1, opBuiltin, opLen, lfIntsN']
    rfl) ?_
   refine Goes.seqQ q11_101 ?_
   refine Goes.opsQ q11_1010 fits Hh E0_sound (by
    simp (maxSteps := 999999) +decide (discharger := first | omega | (simp only [lens] <;> omega) | decide) only [go_sem, q11, Tryz.f11, readRow, loadIn, simprocAttr, hs, ht, bo, hgv, hl, hsk, lfi, read1, opBuiltin, opLen, lfIntsN']
    rfl) ?_
   refine Goes.condFQ q11_1011 (by simp (maxSteps := 999999) +decide (discharger := first | omega | (simp only [lens] <;> omega) | decide) only [go_sem, readRow, loadIn, simprocAttr, hs, ht, bo, hgv, hl, hsk, lfi, read1, opBuiltin, opLen, lfIntsN'] <;> rfl) (by first | rfl | assumption | exact decide_eq_false (by omega) | (simp; omega)) ?_
   refine Goes.skipQ q11_10114 ?_
   refine Goes.seqQ q11_11 ?_
   refine Goes.seqQ q11_110 ?_
   refine Goes.opsQ q11_1100 fits Hh (EX_sound (EX_sound E0_sound (fun _ _ _ _ => xKeysI_ok Hh)) (fun _ _ _ _ => xSorted_ok Hh)) (by
    simp (maxSteps := 999999) +decide (discharger := first | omega | (simp only [lens] <;> omega) | decide) only [go_sem, q11, Tryz.f11, readRow, loadIn, simprocAttr, hs, ht, bo, hgv, hl, hsk, lfi, read1, opBuiltin, opLen, lfIntsN']
    rfl) ?_
   refine Goes.blockQ q11_1101 (Goes.block ?_)
   refine Goes.loopQ q11_11012 (Goes.loop ?_)
   refine Goes.seqQ q11_110122 ?_
   refine Goes.opsQ q11_1101220 fits Hh E0_sound (by
    simp (maxSteps := 999999) +decide (discharger := first | omega | (simp only [lens] <;> omega) | decide) only [go_sem, q11, Tryz.f11, readRow, loadIn, simprocAttr, hs, ht, bo, hgv, hl, hsk, lfi, read1, opBuiltin, opLen, lfIntsN']
    rfl) ?_
   refine Goes.seqQ q11_1101221 ?_
   refine Goes.condFQ q11_11012210 (by simp (maxSteps := 999999) +decide (discharger := first | omega | (simp only [lens] <;> omega) | decide) only [go_sem, readRow, loadIn, simprocAttr, hs, ht, bo, hgv, hl, hsk, lfi, read1, opBuiltin, opLen, lfIntsN'] <;> rfl) (by first | rfl | assumption | exact decide_eq_false (by omega) | (simp; omega)) ?_
   refine Goes.exitQ q11_110122104 ?_
   refine Goes.seqQ q11_111 ?_
   refine Goes.seqQ q11_1110 ?_
   refine Goes.opsQ q11_11100 fits Hh (EX_sound (EX_sound E0_sound (fun _ _ _ _ => xKeysC_ok Hh)) (fun _ _ _ _ => xSorted_ok Hh)) (by
    simp (maxSteps := 999999) +decide (discharger := first | omega | (simp only [lens] <;> omega) | decide) only [go_sem, q11, Tryz.f11, readRow, loadIn, simprocAttr, hs, ht, bo, hgv, hl, hsk, lfi, read1, opBuiltin, opLen, lfIntsN']
    rfl) ?_
   refine Goes.blockQ q11_11101 (Goes.block ?_)
   refine (end0 (s := s) (S := S) (X := X) (G := G) (Y := Y) (D := D) (ld := ld) (n := h.next + 1 + 1) (ks := keysE ld) Hh n0 n1 fb bo d1 d2 d3 hks kl (keysE ld) 0 lm lo _ _ rfl ⟨?_, ?_, ?_, ?_, ?_, ?_, ?_⟩ ?_ fm ?_ ?_ ?_ ?_ ?_).mono ?_
   ·simp only [H.get_new, H.next_new]; rw [if_neg (by omega), if_neg (by omega), if_neg (by omega)]; exact hs
   ·simp only [H.get_new, H.next_new]; rw [if_neg (by omega), if_neg (by omega), if_neg (by omega)]; exact ht
   ·simp only [H.get_new, H.next_new]; rw [if_neg (by omega), if_neg (by omega), if_neg (by omega)]; exact hg
   ·simp only [H.get_new, H.next_new]; rw [if_neg (by omega), if_neg (by omega), if_neg (by omega)]; exact hc
   ·simp only [H.get_new, H.next_new]; rw [if_neg (by omega), if_neg (by omega), if_neg (by omega)]; exact hd
   ·simp only [H.get_new, H.next_new]; rw [if_neg (by omega), if_neg (by omega), if_neg (by omega)]; exact hl
   ·simp only [H.get_new, H.next_new, if_true]; rw [hkk] <;> rfl
   ·simp only [H.get_new, H.next_new]; rw [if_neg (by omega), if_neg (by omega), if_neg (by omega)]; exact hm
   ·simp only [H.get_new, H.next_new]; rw [if_neg (by omega), if_neg (by omega), if_neg (by omega)]; exact ho
   ·simp (decide := true) only [evalT_set, reduceIte, evalT_args, List.getElem?_cons_zero]
   ·simp (decide := true) only [evalT_set, reduceIte, H.next_new]; rw [hkk] <;> rfl
   ·simp (decide := true) only [evalT_set, reduceIte]; rw [hkk] <;> rfl
   ·simp (decide := true) only [evalT_set, reduceIte] <;> rfl
   rintro x ds' ts' h2 ⟨rfl, rfl, f0, nx, E2, m2, _, kp⟩
   simp only [H.next_new] at nx
   have s2 := E2.hs
   have t2 := E2.ht
   have kq := kp
   refine Goes.seqQ q11_1111 ?_
   refine Goes.opsQ q11_11110 fits Hh (EX_sound E0_sound (fun _ _ _ _ => xSClean_ok Hh)) (by
    simp (maxSteps := 999999) +decide (discharger := first | omega | (simp only [lens] <;> omega) | decide) only [go_sem, q11, Tryz.f11, readRow, loadIn, simprocAttr, hs, ht, bo, hgv, hl, hsk, lfi, f0, s2, t2, read1, opBuiltin, opLen, lfIntsN']
    rfl) ?_
   refine Goes.seqQ q11_11111 ?_
   refine Goes.opsQ q11_111110 fits Hh (EX_sound E0_sound (fun _ _ _ _ => xTEnd_ok Hh)) (by
    simp (maxSteps := 999999) +decide (discharger := first | omega | (simp only [lens] <;> omega) | decide) only [go_sem, q11, Tryz.f11, readRow, loadIn, simprocAttr, hs, ht, bo, hgv, hl, hsk, lfi, f0, s2, t2, read1, opBuiltin, opLen, lfIntsN']
    rfl) ?_
   refine Goes.retQ q11_111111 ?_
   refine ⟨_, _, (by simp (maxSteps := 999999) +decide (discharger := first | omega | (simp only [lens] <;> omega) | decide) only [go_sem, readRow, loadIn, simprocAttr, endM] <;> rfl), rfl, h2.next, h2.next + 1, ?_, ?_, ?_, by omega, rfl, ?_, ?_, ?_⟩
   ·simp (maxSteps := 999999) +decide (discharger := first | omega | (simp only [lens] <;> omega) | decide) only [go_sem, readRow, loadIn, simprocAttr] <;> rfl
   ·simp (maxSteps := 999999) +decide (discharger := first | omega | (simp only [lens] <;> omega) | decide) only [go_sem, readRow, loadIn, simprocAttr] <;> rfl
   ·simp (maxSteps := 999999) +decide (discharger := first | omega | (simp only [lens] <;> omega) | decide) only [go_sem, readRow, loadIn, simprocAttr] <;> rfl
   ·simp (maxSteps := 999999) +decide (discharger := first | omega | (simp only [lens] <;> omega) | decide) only [go_sem, readRow, loadIn, simprocAttr, txEnd] <;> rfl
   ·rw [← hkk, ← m2]; (first | (simp (discharger := omega) only [H.get_put, H.get_new, H.get_del, H.next_new, H.next_put, H.next_del, if_neg]; done) | (simp only [H.get_put, H.get_new, H.get_del, H.next_new, H.next_put, H.next_del]; (repeat' split) <;> first | rfl | (exfalso; omega) | omega))
   ·intro m hm1 hm2 hm3 hm4 hm5
    have k2 := kp m hm4 hm5
    simp only [H.get_new, H.next_new] at k2
    rw [if_neg (by omega), if_neg (by omega), if_neg (by omega)] at k2
    rw [← k2]; (first | (simp (discharger := omega) only [H.get_put, H.get_new, H.get_del, H.next_new, H.next_put, H.next_del, if_neg]; done) | (simp only [H.get_put, H.get_new, H.get_del, H.next_new, H.next_put, H.next_del]; (repeat' split) <;> first | rfl | (exfalso; omega) | omega))
 exact ⟨h', c, r⟩
end
end Go.Proofs.YtpiljmilaelfnaaGreatDoor
